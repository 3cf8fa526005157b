/-
  Parts of the proof: rules of an abstract program logic, contracts of functions, plain laws. Conditions: each theorem's own.
-/
import Derived.Test.YtmkgeogoojcciaaGreatDoorKS5M5
import Derived.Lib.AtoiAllCases
set_option linter.unusedVariables false
set_option linter.unusedSimpArgs false
set_option maxRecDepth 100000
set_option maxHeartbeats 8000000
namespace Go.Proofs
theorem aAG:type_of% Tryz.call105:=Tryz.call105
theorem vN:type_of% Tryz.call41:=Tryz.call41
theorem pN:type_of% Tryz.call43:=Tryz.call43
theorem FD:type_of% Tryz.call48:=Tryz.call48
theorem aAS:type_of% Tryz.call55:=Tryz.call55
theorem TU:type_of% Tryz.call82:=Tryz.call82
theorem TT:type_of% Tryz.call83:=Tryz.call83
theorem aAR:type_of% Tryz.call85:=Tryz.call85
theorem pM:type_of% Tryz.call90:=Tryz.call90
theorem pK:type_of% Tryz.call99:=Tryz.call99
theorem nL:type_of% Tryz.isAgg29:=Tryz.isAgg29
theorem bS:type_of% Tryz.isAgg33:=Tryz.isAgg33
theorem cX:type_of% Tryz.isAgg70:=Tryz.isAgg70
theorem aV:type_of% Tryz.underlying33:=Tryz.underlying33
end Go.Proofs
namespace Go.Proofs.YtmkgeogoojcciaaGreatDoor
open Go.Proofs.Tryz
open Go.Abs Go.Lib
theorem SW {s:ByteArray} (h:gV s=false) : -9223372036854775808≤dF s∧dF s≤9223372036854775807:=by
 rw [gV] at h;rw [dF,qP];cases e:Lib.atoiAll s.data.toList with
 | ok v=>exact Lib.atoiAll_bounds e
 | range=>rw [e] at h;cases h
 | _=>rw [e] at h;cases h
theorem R2 (s:ByteArray) (i j:Nat):(s.extract i j).size≤s.size:=by rw [ByteArray.size_extract];omega
theorem mT {s:DSt} (hs:DOk s) {n:Nat} (hn:n < s.cells.length):(bM s n).size=64:=by
 rw [bM];cases e:s.q.reverse.find? (oZ n)with
 | some p =>
  have:=List.mem_of_find?_eq_some e;exact(hs.q p (List.mem_reverse.1 this)).2
 | none =>
  rw [aAn hn];exact hs.c _ (List.getElem_mem hn)
theorem xT {s:DSt} (hs:DOk s) (hoff:s.off=false) {n:Nat} (hn:n < s.cells.length):∀ H,DJ H (aU s)→aH Tryz.prog 41 [.ref 1000 0 0 0,iv (n:Int)] H (fun r H'=>r=.tup [sv (bM s n),iv 0]∧H'=H):=fun H hH=>by
 have h:=aH.frameS (QN s (n:Int) hs) hH.sub (lL s) (by simp;rfl);have e:eX s (n:Int)=true:=by rw [gM];exact decide_eq_true hn
 rw [show AH s (n:Int)=bM s n by rw [AH,hoff,aAg (by decide),aAh e,aAt],show oR s (n:Int)=0 by rw [oR,hoff,aAg (by decide),aAh e]] at h;exact h
def mB (t:ByteArray):Bool:=gV (t.extract 16 24)||decide (dF (t.extract 16 24) < 0)
def ND (t:ByteArray):Nat:=(dF (t.extract 16 24)).toNat
def pV (t:ByteArray):Nat:=if mB t then 0 else ND t / 10000000
def pU (t:ByteArray):Nat:=if mB t then 0 else ND t % 10000000
def jS (k place:Nat) (t:ByteArray):Bool:=!mB t&&((decide (pV t < 2)&&decide (pU t≤k))&&decide (ofL (CQ place (pV t) (pU t))=t))
theorem uC (s:DSt) (hs:DOk s) (hoff:s.off=false) (k a n place:Nat) (b:Bool) (l:List (ByteArray×ByteArray×Nat)) (c:Nat) (hp:place < s.cells.length) (hk:k < 10000000) :
  aH Tryz.prog 42 [.ref 1100 0 0 0,iv (place:Int)] (sH s (bV k a n b) (bB l c)) (fun r H'=>r=.tup [.agg [iv (pV (bM s place):Int),iv (pU (bM s place):Int)],bv (jS k place (bM s place))]∧H'=sH s (bV k a n b) (bB l c)):=by
 have ht:=mT hs hp;have hrd:=xT hs hoff hp;have hpl:place < 1000000000000:=by have:=hs.n2;omega
 obtain ⟨t,hT⟩:∃ t,t=bM s place:=⟨_,rfl⟩;rw [← hT] at ht hrd ⊢;clear hT;obtain ⟨x,hx⟩:∃ x,x=t.extract 16 24:=⟨_,rfl⟩;have hxs:x.size < 1099511627776:=by rw [hx];have:=R2 t 16 24;omega
 have hat:=fun H=>yF x hxs H;have hbd:=SW (s:=x);have hpb:mB t=(gV x||decide (dF x < 0)):=by rw [mB,hx]
 have hpu:ND t=(dF x).toNat:=by rw [ND,hx]
 obtain ⟨v,hv⟩:∃ v,v=dF x:=⟨_,rfl⟩;obtain ⟨e,he⟩:∃ e,e=gV x:=⟨_,rfl⟩;simp only [← hv,← he] at hat hbd hpb hpu;clear hv he;refine Bd func42 rfl ntmps42<|Sr<|Dd (by exact cC (id:=4) rfl PN rfl rfl)<|Dd aS<|Zz<|Sr<|Dd aF<|Dd fF<|Dd (dO sU)<|Dd (eA nL)<|Dd aF<|Dd (by exact aB rfl rfl vN rfl (hrd _ ⟨rfl,rfl,rfl,rfl,trivial⟩))<|Dd aF<|Dd dY<|Dd dY<|Dd aS<|Dd aS<|Zz<|Sr<|Dd aF<|Dd (by exact cR (l:=16) (h:=24) rfl aL rfl rfl rfl (by omega) (by omega) hx.symm)<|Dd (by exact aB rfl rfl TU rfl (hat _))<|Dd aF<|Dd dY<|Dd dY<|Dd aS<|Dd aS<|Zz<|Sq<|Sq ?_;refine cV (t:=31) (n:=7) (X:=e||decide (v < 0)) ?_ ?_
 ·all_goals refine Dd aF ?_
  all_goals refine Dd (by exact uF rfl iP rfl)<|Dm ?_
  all_goals refine Sp 28 (fun h28=>?_) fun h28=>?_
  all_goals try contradiction
  all_goals first|refine Fo<|Fo ?_|refine On aF<|On dX ?_
  all_goals refine Dd fV<|Zz ?_
  all_goals(exact⟨⟨_,rfl,by(rw [h28];rfl)⟩,rfl,rfl,rfl⟩)
 refine Cn ?_ ?_<;>intro hc1
 ·have hq:=hc1;have hb:mB t=true:=hpb.trans hq;refine Sr<|Dd (PI OU)<|Uu (pS sizeOf70)<|Dd aS<|Zz<|aM ?_;refine fZ (H':=(sH s (bV k a n b) (bB l c))) (.inr rfl) rfl (ZN cX sizeOf70) (aJ rfl) (Fin.wk (r:=.tup [.agg [iv 0,iv 0],bv false]) (by simp) ⟨⟨_,rfl,rfl⟩,(by exact aE _ _ rfl rfl rfl),⟨_,rfl,rfl⟩,(by exact aC _ _),⟨_,rfl,rfl⟩,(by exact aI _ _ _),⟨_,rfl,rfl⟩,(by exact aG _ _),⟨_,rfl,rfl⟩,(by exact bG rfl rfl),⟨_,rfl,rfl⟩,(by exact aR _ _ _),trivial⟩ ⟨rfl,rfl,rfl,rfl,rfl,rfl,trivial⟩) ?_;exact⟨by rw [pV,pU,jS,hb];rfl,rfl⟩
 have hq:=hc1;have hb:mB t=false:=hpb.trans hq;rw [aBE,aAq] at hq;obtain ⟨u,rfl⟩:∃ u:Nat,v=(u:Int):=⟨v.toNat,by omega⟩;have hbu:=hbd hq.1;rw [aAt] at hpu;have h34:IntKind.i64.wrap ((u:Int).tdiv 10000000)=((u / 10000000:Nat):Int):=by
  rw [Int.tdiv_eq_ediv_of_nonneg (by omega),iU (by omega) (by omega)];omega
 have h36:(u:Int).tmod 10000000=((u % 10000000:Nat):Int):=by
  rw [Int.tmod_eq_emod_of_nonneg (by omega)];omega
 have hA:pV t=u / 10000000:=by rw [pV,hb,aAg (by decide),hpu]
 have hN:pU t=u % 10000000:=by rw [pU,hb,aAg (by decide),hpu]
 rw [jS,hb,hA,hN];have hnn:u % 10000000 < 10000000:=Nat.mod_lt _ (by decide);obtain ⟨p,hpe⟩:∃ p,p=u / 10000000:=⟨_,rfl⟩;obtain ⟨q,hqe⟩:∃ q,q=u % 10000000:=⟨_,rfl⟩;rw [← hpe] at h34;rw [← hqe] at h36 hnn;rw [← hpe,← hqe];clear hpe hqe;by_cases h2:p < 2
 ·have g42:decide ((p:Int) < 2)=true:=decide_eq_true (by omega);have hhd:=fun H=>EL place p q hpl (by omega) (by omega) H;by_cases h3:q≤k
  ·have g51:decide ((q:Int)≤(k:Int))=true:=decide_eq_true (by omega);refine aK<|Sr<|Dd aF<|Dd (by exact oH rfl rfl rfl (by decide) h34)<|Dd aF<|Dd (by exact xV rfl rfl rfl (by decide) h36)<|Dd (PI OU)<|Dd (by exact cC (id:=10) rfl PN rfl rfl)<|Uu (pS sizeOf70)<|Zz<|Sq<|bO follows<|Cr [10] (fun H1 hH=>by exact dA rfl cX sizeOf70 rfl ((hH _ rfl).trans rfl) rfl rfl rfl rfl)<|Cr [10] (fun _ h=>fh sV h)<|Cr [10] (fun _ h=>lh aQ h)<|Cr [] (fun _ _=>dX)<|Cr [] (fun _ _=>aF) ?_;refine cD (r:=⟨_,some [10],[]⟩) (fO rfl rfl rfl (by assumption) (fun H1 hH=>by exact(by exact fW rfl nA rfl ((hH _ rfl).trans rfl) rfl rfl))) rfl ?_;refine cD (r:=⟨_,some [10],[]⟩) (fO rfl rfl rfl (by assumption) (fun H1 hH=>by exact(by exact aY rfl aQ rfl ((hH _ rfl).trans rfl) rfl rfl rfl))) rfl ?_;refine cD (r:=⟨_,some [1100],[]⟩) (fO rfl rfl rfl (by assumption) (fun H1 hH=>by exact nT rfl rfl)) rfl ?_;refine cD (r:=⟨_,some [1100],[]⟩) (fO rfl rfl rfl (by assumption) (fun H1 hH=>by exact(by exact bN rfl rfl ((hH _ rfl).trans rfl) rfl))) rfl ?_;refine cD (r:=⟨_,some [1100],[]⟩) (fO rfl rfl rfl (by assumption) (fun H1 hH=>by exact(by exact fW rfl sT rfl ((hH _ rfl).trans rfl) rfl rfl))) rfl ?_;refine cD (r:=⟨_,some [1100],[]⟩) (fO rfl rfl rfl (by assumption) (fun H1 hH=>by exact(by exact aY rfl aQ rfl ((hH _ rfl).trans rfl) rfl rfl rfl))) rfl ?_;refine cD (r:=⟨_,some [],[]⟩) (fO rfl rfl rfl (by assumption) (fun H1 hH=>by exact D3 rfl rfl rfl)) rfl ?_;refine Cr [] (fun _ _=>WC)<|Cr [] (fun _ _=>aF) ?_;refine cD (r:=⟨_,some [],[]⟩) (fO rfl rfl rfl (by assumption) (fun H1 hH=>by exact nT rfl rfl)) rfl ?_;refine cD (r:=⟨_,some [10],[]⟩) (fO rfl rfl rfl (by assumption) (fun H1 hH=>by exact(by exact dA rfl cX sizeOf70 rfl ((hH _ rfl).trans rfl) rfl rfl rfl rfl))) rfl ?_;refine cD (r:=⟨_,some [],[]⟩) (fO rfl rfl rfl (by assumption) (fun H1 hH=>by exact aB rfl rfl TT rfl (hhd _))) rfl ?_;refine cD (r:=⟨_,some [],[]⟩) (fO rfl rfl rfl (by assumption) (fun H1 hH=>by exact nT rfl rfl)) rfl ?_;refine cD (r:=⟨_,some [],[]⟩) (fO rfl rfl rfl (by assumption) (fun H1 hH=>by exact pW rfl rfl rfl)) rfl ?_;refine Cr [] (fun _ _=>WC)<|Cp [4] (fun H1 hH=>by exact iS rfl sizeOf70 rfl rfl rfl rfl ((hH _ rfl).trans rfl) rfl rfl rfl)<|Cr [] (fun _ _=>aS)<|dC<|Kr<|aM ?_;refine fZ (H':=(sH s (bV k a n b) (bB l c))) (.inr rfl) rfl (ZN cX sizeOf70) (aJ rfl) (Fin.wk (r:=.tup [.agg [iv (p:Int),iv (q:Int)],bv (decide (ofL (CQ place p q)=t))]) (by simp) ⟨⟨_,rfl,rfl⟩,(by exact aE _ _ rfl rfl rfl),⟨_,rfl,rfl⟩,(by exact aC _ _),⟨_,rfl,rfl⟩,(by exact aI _ _ _),⟨_,rfl,rfl⟩,(by exact aG _ _),⟨_,rfl,rfl⟩,(by exact bG rfl rfl),⟨_,rfl,rfl⟩,(by exact aR _ _ _),trivial⟩ ⟨rfl,rfl,rfl,rfl,rfl,rfl,trivial⟩) ?_;exact⟨by rw [decide_eq_true h2,decide_eq_true h3];rfl,rfl⟩
  have g51:decide ((q:Int)≤(k:Int))=false:=decide_eq_false (by omega);refine aK<|Sr<|Dd aF<|Dd (by exact oH rfl rfl rfl (by decide) h34)<|Dd aF<|Dd (by exact xV rfl rfl rfl (by decide) h36)<|Dd (PI OU)<|Dd (by exact cC (id:=10) rfl PN rfl rfl)<|Uu (pS sizeOf70)<|Zz<|Sq<|bO follows<|Cr [10] (fun H1 hH=>by exact dA rfl cX sizeOf70 rfl ((hH _ rfl).trans rfl) rfl rfl rfl rfl)<|Cr [10] (fun _ h=>fh sV h)<|Cr [10] (fun _ h=>lh aQ h)<|Cr [] (fun _ _=>dX)<|Cr [] (fun _ _=>aF) ?_;refine cD (r:=⟨_,some [10],[]⟩) (fO rfl rfl rfl (by assumption) (fun H1 hH=>by exact(by exact fW rfl nA rfl ((hH _ rfl).trans rfl) rfl rfl))) rfl ?_;refine cD (r:=⟨_,some [10],[]⟩) (fO rfl rfl rfl (by assumption) (fun H1 hH=>by exact(by exact aY rfl aQ rfl ((hH _ rfl).trans rfl) rfl rfl rfl))) rfl ?_;refine cD (r:=⟨_,some [1100],[]⟩) (fO rfl rfl rfl (by assumption) (fun H1 hH=>by exact nT rfl rfl)) rfl ?_;refine cD (r:=⟨_,some [1100],[]⟩) (fO rfl rfl rfl (by assumption) (fun H1 hH=>by exact(by exact bN rfl rfl ((hH _ rfl).trans rfl) rfl))) rfl ?_;refine cD (r:=⟨_,some [1100],[]⟩) (fO rfl rfl rfl (by assumption) (fun H1 hH=>by exact(by exact fW rfl sT rfl ((hH _ rfl).trans rfl) rfl rfl))) rfl ?_;refine cD (r:=⟨_,some [1100],[]⟩) (fO rfl rfl rfl (by assumption) (fun H1 hH=>by exact(by exact aY rfl aQ rfl ((hH _ rfl).trans rfl) rfl rfl rfl))) rfl ?_;refine cD (r:=⟨_,some [],[]⟩) (fO rfl rfl rfl (by assumption) (fun H1 hH=>by exact D3 rfl rfl rfl)) rfl ?_;refine Cr [] (fun _ _=>WC)<|Cr [] (fun _ _=>aF)<|Ot<|Ot<|Ot<|Ot<|Ot<|Cr [] (fun _ _=>NI)<|Cp [4] (fun H1 hH=>by exact iS rfl sizeOf70 rfl rfl rfl rfl ((hH _ rfl).trans rfl) rfl rfl rfl)<|Cr [] (fun _ _=>aS)<|dC<|Kr<|aM ?_;refine fZ (H':=(sH s (bV k a n b) (bB l c))) (.inr rfl) rfl (ZN cX sizeOf70) (aJ rfl) (Fin.wk (r:=.tup [.agg [iv (p:Int),iv (q:Int)],bv false]) (by simp) ⟨⟨_,rfl,rfl⟩,(by exact aE _ _ rfl rfl rfl),⟨_,rfl,rfl⟩,(by exact aC _ _),⟨_,rfl,rfl⟩,(by exact aI _ _ _),⟨_,rfl,rfl⟩,(by exact aG _ _),⟨_,rfl,rfl⟩,(by exact bG rfl rfl),⟨_,rfl,rfl⟩,(by exact aR _ _ _),trivial⟩ ⟨rfl,rfl,rfl,rfl,rfl,rfl,trivial⟩) ?_;exact⟨by rw [decide_eq_true h2,decide_eq_false h3];rfl,rfl⟩
 have g42:decide ((p:Int) < 2)=false:=decide_eq_false (by omega);refine aK<|Sr<|Dd aF<|Dd (by exact oH rfl rfl rfl (by decide) h34)<|Dd aF<|Dd (by exact xV rfl rfl rfl (by decide) h36)<|Dd (PI OU)<|Dd (by exact cC (id:=10) rfl PN rfl rfl)<|Uu (pS sizeOf70)<|Zz<|Sq<|bO follows<|Cr [10] (fun H1 hH=>by exact dA rfl cX sizeOf70 rfl ((hH _ rfl).trans rfl) rfl rfl rfl rfl)<|Cr [10] (fun _ h=>fh sV h)<|Cr [10] (fun _ h=>lh aQ h)<|Cr [] (fun _ _=>dX)<|Cr [] (fun _ _=>aF)<|Ot<|Ot<|Ot<|Ot<|Ot<|Ot<|Ot<|Cr [] (fun _ _=>NI)<|Cr [] (fun _ _=>aF)<|Ot<|Ot<|Ot<|Ot<|Ot<|Cr [] (fun _ _=>fV)<|Cp [4] (fun H1 hH=>by exact iS rfl sizeOf70 rfl rfl rfl rfl ((hH _ rfl).trans rfl) rfl rfl rfl)<|Cr [] (fun _ _=>aS)<|dC<|Kr<|aM ?_;refine fZ (H':=(sH s (bV k a n b) (bB l c))) (.inr rfl) rfl (ZN cX sizeOf70) (aJ rfl) (Fin.wk (r:=.tup [.agg [iv (p:Int),iv (q:Int)],bv false]) (by simp) ⟨⟨_,rfl,rfl⟩,(by exact aE _ _ rfl rfl rfl),⟨_,rfl,rfl⟩,(by exact aC _ _),⟨_,rfl,rfl⟩,(by exact aI _ _ _),⟨_,rfl,rfl⟩,(by exact aG _ _),⟨_,rfl,rfl⟩,(by exact bG rfl rfl),⟨_,rfl,rfl⟩,(by exact aR _ _ _),trivial⟩ ⟨rfl,rfl,rfl,rfl,rfl,rfl,trivial⟩) ?_;exact⟨by rw [decide_eq_false h2];rfl,rfl⟩
def eR (place:Nat) (p:List UInt8):List UInt8:=oW place (dg p.length 2++p)
def CI (t:ByteArray):Bool:=(gV (t.extract 16 18)||decide (dF (t.extract 16 18) < 1))||decide (46 < dF (t.extract 16 18))
def QV (t:ByteArray):ByteArray:=t.extract 18 (18+(dF (t.extract 16 18)).toNat)
def GC (place:Nat) (t:ByteArray):ByteArray:=if CI t then sNil else if ofL (eR place (QV t).data.toList)=t then QV t else sNil
theorem UJ (s:DSt) (hs:DOk s) (hoff:s.off=false) (k a n place:Nat) (b:Bool) (l:List (ByteArray×ByteArray×Nat)) (c:Nat) (hp:place < s.cells.length) :
  aH Tryz.prog 84 [.ref 1100 0 0 0,iv (place:Int)] (sH s (bV k a n b) (bB l c)) (fun r H'=>r=sv (GC place (bM s place))∧H'=sH s (bV k a n b) (bB l c)):=by
 have ht:=mT hs hp;have hrd:=xT hs hoff hp;have hpl:place < 1000000000000:=by have:=hs.n2;omega
 obtain ⟨t,hT⟩:∃ t,t=bM s place:=⟨_,rfl⟩;rw [← hT] at ht hrd ⊢;clear hT;obtain ⟨x,hx⟩:∃ x,x=t.extract 16 18:=⟨_,rfl⟩;have hxs:x.size < 1099511627776:=by rw [hx];have:=R2 t 16 18;omega
 have hat:=fun H=>yF x hxs H;have hpb:CI t=((gV x||decide (dF x < 1))||decide (46 < dF x)):=by rw [CI,hx]
 have hpu:QV t=t.extract 18 (18+(dF x).toNat):=by rw [QV,hx]
 obtain ⟨v,hv⟩:∃ v,v=dF x:=⟨_,rfl⟩;obtain ⟨e,he⟩:∃ e,e=gV x:=⟨_,rfl⟩;simp only [← hv,← he] at hat hpb hpu;clear hv he;rw [GC];refine Bd func84 rfl ntmps84<|Sr<|Dd aS<|Zz<|Sr<|Dd aF<|Dd fF<|Dd (dO sU)<|Dd (eA nL)<|Dd aF<|Dd (by exact aB rfl rfl vN rfl (hrd _ ⟨rfl,rfl,rfl,rfl,trivial⟩))<|Dd aF<|Dd dY<|Dd dY<|Dd aS<|Dd aS<|Zz<|Sr<|Dd aF<|Dd (by exact cR (l:=16) (h:=18) rfl aL rfl rfl rfl (by omega) (by omega) hx.symm)<|Dd (by exact aB rfl rfl TU rfl (hat _))<|Dd aF<|Dd dY<|Dd dY<|Dd aS<|Dd aS<|Zz<|Sq<|Sq ?_;refine cV (t:=34) (n:=12) (X:=(e||decide (v < 1))||decide (46 < v)) ?_ ?_
 ·all_goals refine Dd aF ?_
  all_goals refine Dd (by exact uF rfl iP rfl)<|Dm ?_
  all_goals refine Sp 27 (fun h27=>?_) fun h27=>?_
  all_goals try contradiction
  all_goals first|refine Fo<|Fo ?_|refine On aF<|On dX ?_
  all_goals refine Dd fV<|Dm ?_
  all_goals refine Sp 31 (fun h31=>?_) fun h31=>?_
  all_goals try contradiction
  all_goals first|refine Fo<|Fo ?_|refine On aF<|On BR ?_
  all_goals refine Dd fV<|Zz ?_
  all_goals(exact⟨⟨_,rfl,by first|(rw [h27];rfl)|(rw [h27,h31];rfl)⟩,rfl,rfl,rfl⟩)
 refine Cn ?_ ?_<;>intro hc1
 ·have hq:=hc1;rw [aAh (hpb.trans hq)];refine Sr<|Dd aS<|Zz<|aM ?_;refine bD (H':=(sH s (bV k a n b) (bB l c))) (.inr rfl) rfl (aJ rfl) (Fin.wk (by(simp;done)) (Hc (aE _ _ rfl rfl rfl)<|Hc (aC _ _)<|Hc (aI _ _ _)<|Hc (aG _ _)<|Hc (bG rfl rfl)<|Hc (aR _ _ _)<|trivial) ⟨rfl,rfl,rfl,rfl,rfl,rfl,trivial⟩) ?_;exact Qq
 have hq:=hc1;rw [aAg (by rw [hpb,hq];decide)];rw [aBE,aBE,aAq,aAq] at hq;obtain ⟨u,rfl⟩:∃ u:Nat,v=(u:Int):=⟨v.toNat,by omega⟩;rw [aAt] at hpu;have hps:(QV t).size=u:=by rw [hpu,ByteArray.size_extract];omega
 have hpl2:(QV t).data.toList.length=u:=by rw [dL,hps]
 have hof:=JG (QV t);obtain ⟨y,hy⟩:∃ y,y=QV t:=⟨_,rfl⟩;rw [← hy] at hps hpl2 hof hpu ⊢;clear hy;obtain ⟨p,hpe⟩:∃ p,p=y.data.toList:=⟨_,rfl⟩;rw [← hpe] at hpl2 hof ⊢;have h38:((18:Int)+(u:Int))=((18+u:Nat):Int):=by omega
 have e43:ofL (dg u 2)++y=ofL (dg u 2++p):=by rw [← hof];exact uK _ _
 have s43:(ofL (dg u 2)).size≤23:=by rw [bU];exact qL u 2 (by omega)
 have l43:(dg u 2++p).length≤48:=by rw [aAj,lF (pA u (by omega) (by omega)),hpl2];omega
 have hpc:eR place p=oW place (dg u 2++p):=by rw [eR,hpl2]
 refine aK<|Sr<|Dd aF<|Dd aF<|Dd (by exact cH rfl rfl rfl (show IntKind.i64.wrap ((18:Int)+(u:Int))=((18+u:Nat):Int)by rw [iU (by omega) (by omega)];omega))<|Dd (by exact cR (l:=18) (h:=18+u) rfl aL rfl rfl rfl (by omega) (by omega) hpu.symm)<|Dd aS<|Zz<|Sq<|Sr<|Dd aF<|Dd aF<|Dd (by exact aB rfl rfl AW rfl (nZ u 2 (by omega) (by omega) _))<|Dd aF<|Dd (by exact jG rfl rfl rfl (by omega) e43)<|Dd (by exact aB rfl rfl aAH rfl (yR place (dg u 2++p) hpl l43 _))<|Dd aF<|Dd QA<|Zz ?_;refine Cn ?_ ?_<;>intro hc2
 ·have hq2:¬ ofL (oW place (dg u 2++p))=t:=by have h:=hc2;simpa using h
  rw [hpc,aAg hq2];refine Sr<|Dd aS<|Zz<|aM ?_;refine bD (H':=(sH s (bV k a n b) (bB l c))) (.inr rfl) rfl (aJ rfl) (Fin.wk (by(simp;done)) (Hc (aE _ _ rfl rfl rfl)<|Hc (aC _ _)<|Hc (aI _ _ _)<|Hc (aG _ _)<|Hc (bG rfl rfl)<|Hc (aR _ _ _)<|trivial) ⟨rfl,rfl,rfl,rfl,rfl,rfl,trivial⟩) ?_;exact Qq
 have hq2:ofL (oW place (dg u 2++p))=t:=by have h:=hc2;simpa using h
 rw [hpc,aAh hq2];refine aK<|Sr<|Dd aF<|Dd aS<|Zz<|aM ?_;refine bD (H':=(sH s (bV k a n b) (bB l c))) (.inr rfl) rfl (aJ rfl) (Fin.wk (by(simp;done)) (Hc (aE _ _ rfl rfl rfl)<|Hc (aC _ _)<|Hc (aI _ _ _)<|Hc (aG _ _)<|Hc (bG rfl rfl)<|Hc (aR _ _ _)<|trivial) ⟨rfl,rfl,rfl,rfl,rfl,rfl,trivial⟩) ?_;exact Qq
theorem yY (s:DSt) (k a n ar i:Nat) (b:Bool) (l:List (ByteArray×ByteArray×Nat)) (c:Nat) (hk:k < 100000) (har:ar < 10) (hi:i < 100000000) :
  aH Tryz.prog 85 [.ref 1100 0 0 0,iv (ar:Int),iv (i:Int)] (sH s (bV k a n b) (bB l c)) (fun r H'=>r=iv ((2+ar*k+i:Nat):Int)∧H'=sH s (bV k a n b) (bB l c)):=by
 have hm:ar*k≤10*100000:=Nat.mul_le_mul (by omega) (by omega);have hmi:((ar:Int)*(k:Int))=((ar*k:Nat):Int):=by rw [Int.natCast_mul]
 refine Bd func85 rfl ntmps85<|Sr<|Dd aS<|Zz<|Sr<|Dd aF<|Dd aF<|Dd fF<|Dd (dO sT)<|Dd (eA aQ)<|Dd (by exact iF rfl rfl rfl (by exact iU (by omega) (by omega)))<|Dd pE<|Dd aF<|Dd pE<|Dd aS<|Zz<|aM ?_;refine bD (H':=(sH s (bV k a n b) (bB l c))) (.inr rfl) rfl (aJ rfl) (Fin.wk (by(simp;done)) (Hc (aE _ _ rfl rfl rfl)<|Hc (aC _ _)<|Hc (aI _ _ _)<|Hc (aG _ _)<|Hc (bG rfl rfl)<|Hc (aR _ _ _)<|trivial) ⟨rfl,rfl,rfl,rfl,rfl,rfl,trivial⟩) ?_;exact Qq
end Go.Proofs.YtmkgeogoojcciaaGreatDoor
namespace Go.Proofs.YtmkgeogoojcciaaGreatDoor
open Go.Proofs.Tryz
open Go.Abs
structure DInv (s:DSt) (n m:Nat):Prop where
 ok:DOk s
 arm:MF s
 n:s.cells.length=n
 q:s.q.length≤m
theorem DInv.mono {s:DSt} {n m m':Nat} (h:DInv s n m) (hm:m≤m'):DInv s n m':=⟨h.ok,h.arm,h.n,Nat.le_trans h.q hm⟩
theorem U8 {n:Nat} (h1:1≤n) (h2:n≤8000):DInv (nC n) n 0:=⟨VL h1 h2,fun a w b h=>(by cases h),by simp [nC],aAo _⟩
theorem nY {a:Arm} {x w b:Int} (h:sZ a=.on x w b):False:=by cases a<;>cases h
theorem nV {s:DSt} {n m:Nat} (h:DInv s n m) (w b:Int):DInv (iY s w b) n m:=by
 refine⟨L3 h.ok w b,?_,?_,?_⟩<;>unfold iY<;>split
 ·exact h.arm
 ·exact fun a w b h=>(nY h).elim
 ·exact h.n
 ·show (nX s w b).length=n;rw [wI];exact h.n
 ·exact h.q
 exact aAz _
theorem wF {s:DSt} {n m:Nat} (h:DInv s n m):DInv (dR s) n m:=by
 refine⟨HF h.ok,?_,?_,?_⟩<;>unfold dR<;>split
 ·next a w b e =>
  split
  ·intro a' w' b' he;cases he;have:=h.arm a w b e;omega
  exact(nV h w b).arm
 ·exact h.arm
 ·next a w b e =>
  split
  ·exact h.n
  exact(nV h w b).n
 ·exact h.n
 ·next a w b e =>
  split
  ·exact h.q
  exact(nV h w b).q
 exact h.q
theorem CP {s:DSt} {n m:Nat} (h:DInv s n m) (hm:m < 1048576) (k:Int) (t:ByteArray):DInv (jL s k t) n (m+1):=by
 unfold jL
 split
 ·exact h.mono (Nat.le_succ _)
 split
 ·next hc =>
  rw [aAr,aAp] at hc;obtain ⟨h1,h2⟩:=hc;rcases kQ s k with e|⟨j,rfl,hj⟩
  ·rw [e] at h1;cases h1
  have hq:=h.q;refine wF ⟨vS h.ok (by simpa using hj) h2 (by omega),h.arm,h.n,?_⟩;show (s.q++[_]).length≤_;simp;exact hq
 exact h.mono (Nat.le_succ _)
theorem N0 {s:DSt} {n m:Nat} (h:DInv s n m):DInv (wJ s) n m:=by have hp:=IX h.ok s.q.length;rw [List.take_length] at hp;exact⟨⟨hp.n1,hp.n2,hp.c,fun p hp=>(by cases hp),aAz _⟩,h.arm,by show (cS _ _).length=n;rw [gH];exact h.n,aAz _⟩
theorem RJ {s:DSt} {n m:Nat} (h:DInv s n m):DInv (jM s) n m:=by
 unfold jM
 split
 ·exact h
 split
 ·exact N0 (wF h)
 exact wF h
theorem NZ {s:DSt} {n m:Nat} (h:DInv s n m):DInv (mH s) n m :=⟨⟨h.ok.n1,h.ok.n2,h.ok.c,h.ok.q,h.ok.ql⟩,fun a w b h=>(nY h).elim,h.n,h.q⟩
theorem U9 {s:DSt} {n m:Nat} (h:DInv s n m) (a w b:Int) (ha:a≤9223372036854775807):DInv (HB s a w b) n m:=by
 unfold HB
 split
 ·exact h
 split
 ·exact⟨⟨h.ok.n1,h.ok.n2,h.ok.c,h.ok.q,h.ok.ql⟩,fun a' w' b' e=>by cases e;exact ha,h.n,h.q⟩
 exact⟨⟨h.ok.n1,h.ok.n2,h.ok.c,h.ok.q,h.ok.ql⟩,fun a w b h=>(nY h).elim,h.n,h.q⟩
theorem U7 {s:DSt} {n m:Nat} (h:DInv s n m) (k p x:Int):DInv (EX s k p x) n m:=by
 unfold EX
 split
 ·next hc =>
  rw [yV,aAr] at hc;rcases kQ s k with e|⟨j,rfl,hj⟩
  ·rw [e] at hc;cases hc.1
  obtain ⟨c,hcj⟩:=aZ hj;refine⟨⟨by simpa using h.ok.n1,by simpa using h.ok.n2,fun y hy=>?_,fun p hp=>by simpa using h.ok.q p hp,h.ok.ql⟩,h.arm,by simpa using h.n,h.q⟩;rcases List.mem_or_eq_of_mem_set hy with e|e
  ·exact h.ok.c y e
  rw [e,N6,aAt,hcj];exact h.ok.c c (aAs hcj)
 exact h
end Go.Proofs.YtmkgeogoojcciaaGreatDoor
namespace Go.Proofs.YtmkgeogoojcciaaGreatDoor
open Go.Proofs.Tryz
open Go.Abs Go.Lib
def oC (d:DSt) (place:Nat) (L:List ByteArray):Nat→Int×DSt
 | 0=>(0,d)
 | i+1=>if(oC d place L i).1=0 then(iI (oC d place L i).2 ((place+i:Nat):Int) (L.getD i sNil),jL (oC d place L i).2 ((place+i:Nat):Int) (L.getD i sNil))else oC d place L i
def iK (d:DSt) (place:Nat) (L:List ByteArray):Int×DSt :=if(oC d place L L.length).1=0 then(nB (oC d place L L.length).2,jM (oC d place L L.length).2)else oC d place L L.length
theorem FL {d:DSt} {place:Nat} {L:List ByteArray} {i:Nat} (h:¬ (oC d place L i).1=0):∀ j,oC d place L (i+j)=oC d place L i
 | 0=>rfl
 | j+1=>by rw [← Nat.add_assoc,oC,FL h j,aAg h]
theorem qT {d:DSt} {n m:Nat} (h:DInv d n m) (place:Nat) (L:List ByteArray):∀ i,m+i≤1048576→DInv (oC d place L i).2 n (m+i)
 | 0,_=>h
 | i+1,hi=>by
  have ih:=qT h place L i (by omega);rw [oC]
  split
  ·exact CP ih (by omega) _ _
  exact ih.mono (by omega)
theorem lI {d:DSt} {n m:Nat} (h:DInv d n m) (place:Nat) (L:List ByteArray) (hm:m+L.length≤1048576):DInv (iK d place L).2 n (m+L.length):=by
 rw [iK]
 split
 ·exact RJ (qT h place L _ hm)
 exact qT h place L _ hm
theorem nN {d:DSt} {n m:Nat} (h:DInv d n m) (k a cn place:Nat) (b:Bool) (l:List (ByteArray×ByteArray×Nat)) (c:Nat) (L:List ByteArray) (hm:m+L.length < 1048576) (hpl:place < 100000) :
  aH Tryz.prog 90 [.ref 1100 0 0 0,iv (place:Int),.pv (aW L)] (sH d (bV k a cn b) (bB l c)) (fun r H'=>r=iv (iK d place L).1∧H'=sH (iK d place L).2 (bV k a cn (b||!decide ((iK d place L).1=0))) (bB l c)):=by
 have hml:(L.map encStr).length=L.length:=aAi _;refine Bd func90 rfl ntmps90<|Sr<|Dd aS<|Zz<|Sr<|Dd aS<|Zz<|Sq<|Sr<|Dd aS<|Zz<|aO ?_;refine bL (σ:=Nat) (fun i=>([(0,.ref 1100 0 0 0),(1,iv (place:Int)),(2,.pv (aW L)),(7,iv (oC d place L i).1),(8,iv (i:Int))],sH (oC d place L i).2 (bV k a cn b) (bB l c))) (fun i=>i≤L.length∧∀ j,j < i→(oC d place L j).1=0) (fun i=>L.length - i) 0 ⟨aAz _,fun j hj=>absurd hj (Nat.not_lt_zero _)⟩ ?_ ?_
 ·exact(cA.wk (Ea<|Eb<|Eb<|Eb<|Eb<|trivial) (Hc (aE _ _ rfl rfl rfl)<|Hc (aC _ _)<|Hc (aI _ _ _)<|Hc (aG _ _)<|Hc (bG rfl rfl)<|Hc (aR _ _ _)<|trivial) ⟨rfl,rfl,rfl,rfl,rfl,rfl,trivial⟩)
 rintro i ⟨hi,hz⟩;have hx:=qT h place L i (by omega);have hst:=FL (d:=d) (place:=place) (L:=L) (i:=i);have hnx:oC d place L (i+1)=if(oC d place L i).1=0 then(iI (oC d place L i).2 ((place+i:Nat):Int) (L.getD i sNil),jL (oC d place L i).2 ((place+i:Nat):Int) (L.getD i sNil))else oC d place L i:=rfl;have hzi:(oC d place L i).1=0→∀ j,j < i+1→(oC d place L j).1=0:=fun h j hj=>by
  rcases Nat.lt_succ_iff_lt_or_eq.1 hj with h1|rfl
  ·exact hz j h1
  exact h
 rcases hp:oC d place L i with⟨e,d1⟩;simp only [hp] at hx hst hnx hzi ⊢;refine Sq<|Sq ?_;refine cV (t:=16) (n:=9) (X:=decide ((i:Int) < ((L.map encStr).length:Int))&&decide (e=0)) ?_ ?_
 ·all_goals refine Dd aF ?_
  all_goals refine Dd aF<|Dd (mZ aP)<|Dd dX<|Dm ?_
  all_goals refine Sp 13 (fun h13=>?_) fun h13=>?_
  all_goals try contradiction
  all_goals first|refine Fo<|Fo ?_|refine On aF<|On hU ?_
  all_goals refine Dd fV<|Zz ?_
  all_goals(exact⟨⟨_,rfl,by(rw [h13];rfl)⟩,rfl,rfl,rfl⟩)
 refine Cn ?_ ?_<;>intro hc1
 ·have hq:i < L.length∧e=0:=by have h:=hc1;rw [aAr,aAp,aAp] at h;exact⟨by omega,h.2⟩
  obtain ⟨t,ht⟩:=aZ hq.1;have hit:=dW (f:=encStr) ht;have hgt:L.getD i sNil=t:=by rw [List.getD_eq_getElem?_getD,ht];rfl
  rw [hgt,aAh hq.2] at hnx;have hw:=T4 d1 ((place+i:Nat):Int) t hx.ok hx.arm (by have:=hx.q;omega);refine aK<|Sq<|aO<|bO follows<|Cr [1100] (fun _ _=>aF)<|Cr [1100] (fun H1 hH=>by exact bN rfl rfl ((hH _ rfl).trans rfl) rfl)<|Cr [1100] (fun _ h=>fh sU h)<|Cr [1100] (fun _ h=>lh nL h)<|Cr [] (fun _ _=>aF)<|Cr [] (fun _ _=>aF)<|Cr [] (fun H1 hH=>by exact cH rfl rfl rfl (show IntKind.i64.wrap ((place:Int)+(i:Int))=((place+i:Nat):Int)by rw [iU (by omega) (by omega)];omega))<|Cr [] (fun _ _=>aF)<|Cr [] (fun _ _=>aF)<|Cr [] (fun _ _=>(FF cJ))<|Cr [] (fun _ _=>(qC aX)) ?_;refine cD (r:=⟨_,some [1000,1001,1002,1003],_⟩) (DStep.plain rfl (fun H1 hH=>by exact aB rfl rfl call121 rfl (cB hw _ ⟨(hH 1000 rfl).trans rfl,(hH 1001 rfl).trans rfl,(hH 1002 rfl).trans rfl,(hH 1003 rfl).trans rfl,trivial⟩ (by simp;rfl)))) rfl ?_;refine Cr [] (fun _ _=>aS)<|dC<|Kr<|Rg<|Dd aF<|Dd pE<|Da ?_;refine⟨i+1,⟨by omega,hzi hq.2⟩,by omega,?_⟩;dsimp only;rw [hnx];exact(cA.wk (Ea<|Eb<|Eb<|Eb<|Eb<|trivial) (Hc (aE _ _ rfl rfl rfl)<|Hc (aC _ _)<|Hc (aI _ _ _)<|Hc (aG _ _)<|Hc (bG rfl rfl)<|Hc (aR _ _ _)<|trivial) ⟨rfl,rfl,rfl,rfl,rfl,rfl,trivial⟩)
 have hq:i=L.length∨¬ e=0:=by have h:=hc1;rw [Bool.and_eq_false_iff,aAq,aAq] at h;omega
 have hend:oC d place L L.length=(e,d1):=by
  by_cases he:e=0
  ·rcases hq with hq|hq
   ·rw [← hq];exact hp
   exact absurd he hq
  have:=hst he (L.length - i)
  rwa [show i+(L.length - i)=L.length by omega] at this
 rw [iK,hend];refine bI<|Sq<|Sr<|Dd aF<|Dd hU<|Zz ?_;refine Cn ?_ ?_<;>intro hc2
 ·have he:e=0:=aAe hc2;have hs:=WT d1 hx.ok hx.arm;rw [aAh he];cases b
  ·refine Rg<|Dd aF<|Dd fF<|Dd (dO sU)<|Dd (eA nL)<|Dd (by exact aB rfl rfl call122 rfl (cB hs _ ⟨rfl,rfl,rfl,rfl,trivial⟩ (by simp;rfl)))<|Dd aS<|Zz<|Sr<|Dd aF<|Dd aF<|Dd fF<|Dd (dO kE)<|Dd (eA dD)<|Dd aF<|On aF<|On wB<|Dd fV<|Dd fF<|Dd (dO kE)<|Uu (by exact cN rfl sizeOf4 rfl rfl rfl rfl rfl rfl (by simp only [aAk,List.length_nil];omega) (by simp only [Zl,encStr];rfl) (by simp only [Zl,encStr];rfl))<|Zz<|Sr<|Dd aF<|Dd aS<|Zz<|aM ?_;refine bD (H':=(sH (jM d1) (bV k a cn (false||!decide (nB d1=0))) (bB l c))) (.inr rfl) rfl (aJ rfl) (Fin.wk (by(simp;done)) (Hc (aE _ _ rfl rfl rfl)<|Hc (aC _ _)<|Hc (aI _ _ _)<|Hc (aG _ _)<|Hc (bG rfl rfl)<|Hc (aR _ _ _)<|trivial) ⟨rfl,rfl,rfl,rfl,rfl,rfl,trivial⟩) ?_;exact Qq
  refine Rg<|Dd aF<|Dd fF<|Dd (dO sU)<|Dd (eA nL)<|Dd (by exact aB rfl rfl call122 rfl (cB hs _ ⟨rfl,rfl,rfl,rfl,trivial⟩ (by simp;rfl)))<|Dd aS<|Zz<|Sr<|Dd aF<|Dd aF<|Dd fF<|Dd (dO kE)<|Dd (eA dD)<|Dd aF<|Fo<|Fo<|Dd fV<|Dd fF<|Dd (dO kE)<|Uu (by exact cN rfl sizeOf4 rfl rfl rfl rfl rfl rfl (by simp only [aAk,List.length_nil];omega) (by simp only [Zl,encStr];rfl) (by simp only [Zl,encStr];rfl))<|Zz<|Sr<|Dd aF<|Dd aS<|Zz<|aM ?_;refine bD (H':=(sH (jM d1) (bV k a cn true) (bB l c))) (.inr rfl) rfl (aJ rfl) (Fin.wk (by(simp;done)) (Hc (aE _ _ rfl rfl rfl)<|Hc (aC _ _)<|Hc (aI _ _ _)<|Hc (aG _ _)<|Hc (bG rfl rfl)<|Hc (aR _ _ _)<|trivial) ⟨rfl,rfl,rfl,rfl,rfl,rfl,trivial⟩) ?_;exact Qq
 have he:¬ e=0:=aAf hc2;rw [aAg he];cases b
 ·refine aK<|Sr<|Dd aF<|Dd aF<|Dd fF<|Dd (dO kE)<|Dd (eA dD)<|Dd aF<|On aF<|On wB<|Dd fV<|Dd fF<|Dd (dO kE)<|Uu (by exact cN rfl sizeOf4 rfl rfl rfl rfl rfl rfl (by simp only [aAk,List.length_nil];omega) (by simp only [Zl,encStr];rfl) (by simp only [Zl,encStr];rfl))<|Zz<|Sr<|Dd aF<|Dd aS<|Zz<|aM ?_;refine bD (H':=(sH d1 (bV k a cn (false||!decide (e=0))) (bB l c))) (.inr rfl) rfl (aJ rfl) (Fin.wk (by(simp;done)) (Hc (aE _ _ rfl rfl rfl)<|Hc (aC _ _)<|Hc (aI _ _ _)<|Hc (aG _ _)<|Hc (bG rfl rfl)<|Hc (aR _ _ _)<|trivial) ⟨rfl,rfl,rfl,rfl,rfl,rfl,trivial⟩) ?_;exact Qq
 refine aK<|Sr<|Dd aF<|Dd aF<|Dd fF<|Dd (dO kE)<|Dd (eA dD)<|Dd aF<|Fo<|Fo<|Dd fV<|Dd fF<|Dd (dO kE)<|Uu (by exact cN rfl sizeOf4 rfl rfl rfl rfl rfl rfl (by simp only [aAk,List.length_nil];omega) (by simp only [Zl,encStr];rfl) (by simp only [Zl,encStr];rfl))<|Zz<|Sr<|Dd aF<|Dd aS<|Zz<|aM ?_;refine bD (H':=(sH d1 (bV k a cn true) (bB l c))) (.inr rfl) rfl (aJ rfl) (Fin.wk (by(simp;done)) (Hc (aE _ _ rfl rfl rfl)<|Hc (aC _ _)<|Hc (aI _ _ _)<|Hc (aG _ _)<|Hc (bG rfl rfl)<|Hc (aR _ _ _)<|trivial) ⟨rfl,rfl,rfl,rfl,rfl,rfl,trivial⟩) ?_;exact Qq
abbrev zS:ByteArray:=ofL (zB 64)
abbrev hS (place a cn:Nat):ByteArray:=ofL (CQ place a cn)
def iT (place a cn:Nat):Bool→ByteArray
 | true=>hS place a cn
 | false=>zS
def mL (d:DSt) (place a cn:Nat) (hd:Bool):Int×DSt:=if bM d place=iT place a cn hd then(0,d)else if(iK d place [zS]).1=0∧hd=true then iK (iK d place [zS]).2 place [iT place a cn hd] else iK d place [zS]
theorem B9 {d:DSt} {n m:Nat} (h:DInv d n m) (hoff:d.off=false) (k a cn place:Nat) (b hd:Bool) (l:List (ByteArray×ByteArray×Nat)) (c:Nat) (hm:m+2 < 1048576) (hp:place < d.cells.length) (ha:a < 10) (hcn:cn < 1000000000000) :
  aH Tryz.prog 45 [.ref 1100 0 0 0,iv (place:Int),bv hd] (sH d (bV k a cn b) (bB l c)) (fun r H'=>r=iv (mL d place a cn hd).1∧H'=sH (mL d place a cn hd).2 (bV k a cn (b||!decide ((mL d place a cn hd).1=0))) (bB l c)):=by
 have hn2:=h.ok.n2;have hrd:=xT h.ok hoff hp;have hw:=nN h k a cn place b l c [zS] (by rw [List.length_singleton];omega) (by omega);have hi1:=lI h place [zS] (by rw [List.length_singleton];omega);have hhd:=fun H=>EL place a cn (by omega) ha hcn H;rw [mL];cases hd
 ·refine Bd func45 rfl ntmps45<|Sr<|Dd aS<|Zz<|Sr<|Dd aF<|Dd fF<|Dd (dO sU)<|Dd (eA nL)<|Dd aF<|Dd (by exact aB rfl rfl vN rfl (hrd _ ⟨rfl,rfl,rfl,rfl,trivial⟩))<|Dd aF<|Dd dY<|Dd dY<|Dd aS<|Dd aS<|Zz<|Sr<|Dd (by exact aB rfl rfl pN rfl (oS _))<|Dd aS<|Zz<|Sq<|Sr<|Dd aF<|Zz ?_;refine Cn ?_ ?_<;>intro hc1
  ·cases hc1
  refine aK<|Sq<|Sr<|Dd aF<|Dd aF<|Dd W0<|Zz ?_;refine Cn ?_ ?_<;>intro hc2
  ·have he:bM d place=iT place a cn false:=aAe hc2;rw [aAh he];refine Sr<|Dd aS<|Zz<|aM ?_;refine bD (H':=(sH d (bV k a cn b) (bB l c))) (.inr rfl) rfl (aJ rfl) (Fin.wk (by(simp;done)) (Hc (aE _ _ rfl rfl rfl)<|Hc (aC _ _)<|Hc (aI _ _ _)<|Hc (aG _ _)<|Hc (bG rfl rfl)<|Hc (aR _ _ _)<|trivial) ⟨rfl,rfl,rfl,rfl,rfl,rfl,trivial⟩) ?_;exact⟨rfl,by cases b<;>rfl⟩
  have he:¬ bM d place=iT place a cn false:=aAf hc2;rw [aAg he,aAg (fun h=>by cases h.2)];refine aK<|Sr<|Dd aF<|Dd aF<|Dd (by exact aB rfl rfl pN rfl (oS _))<|Dd (by exact bJ [[.str zS]] rfl cJ rfl rfl rfl rfl rfl (by simp))<|Dd (by exact aB rfl rfl pM rfl (hw))<|Dd aS<|Zz<|Sq<|Sq ?_;refine cV (t:=40) (n:=6) (X:=false) ?_ ?_
  ·all_goals refine Dd aF ?_
   all_goals refine Dd hU<|Dm ?_
   all_goals refine Sp 38 (fun h38=>?_) fun h38=>?_
   all_goals try contradiction
   all_goals first|refine Fo ?_|refine On aF ?_
   all_goals refine Dd fV<|Zz ?_
   all_goals(exact⟨⟨_,rfl,by rfl⟩,rfl,rfl,rfl⟩)
  refine Cn ?_ ?_<;>intro hc3
  ·cases hc3
  refine aK<|Sr<|Dd aF<|Dd aS<|Zz<|aM ?_;refine bD (H':=(sH (iK d place [zS]).2 (bV k a cn (b||!decide ((iK d place [zS]).1=0))) (bB l c))) (.inr rfl) rfl (aJ rfl) (Fin.wk (by(simp;done)) (Hc (aE _ _ rfl rfl rfl)<|Hc (aC _ _)<|Hc (aI _ _ _)<|Hc (aG _ _)<|Hc (bG rfl rfl)<|Hc (aR _ _ _)<|trivial) ⟨rfl,rfl,rfl,rfl,rfl,rfl,trivial⟩) ?_;exact Qq
 refine Bd func45 rfl ntmps45<|Sr<|Dd aS<|Zz<|Sr<|Dd aF<|Dd fF<|Dd (dO sU)<|Dd (eA nL)<|Dd aF<|Dd (by exact aB rfl rfl vN rfl (hrd _ ⟨rfl,rfl,rfl,rfl,trivial⟩))<|Dd aF<|Dd dY<|Dd dY<|Dd aS<|Dd aS<|Zz<|Sr<|Dd (by exact aB rfl rfl pN rfl (oS _))<|Dd aS<|Zz<|Sq<|Sr<|Dd aF<|Zz ?_;refine Cn ?_ ?_<;>intro hc1
 ·refine Rg<|Dd aF<|Dd aF<|Dd fF<|Dd (dO mF)<|Dd (UZ cX sizeOf70)<|Dd (by exact aB rfl rfl TT rfl (hhd _))<|Dd aS<|Zz<|Sq<|Sr<|Dd aF<|Dd aF<|Dd W0<|Zz ?_;refine Cn ?_ ?_<;>intro hc2
  ·have he:bM d place=iT place a cn true:=aAe hc2;rw [aAh he];refine Sr<|Dd aS<|Zz<|aM ?_;refine bD (H':=(sH d (bV k a cn b) (bB l c))) (.inr rfl) rfl (aJ rfl) (Fin.wk (by(simp;done)) (Hc (aE _ _ rfl rfl rfl)<|Hc (aC _ _)<|Hc (aI _ _ _)<|Hc (aG _ _)<|Hc (bG rfl rfl)<|Hc (aR _ _ _)<|trivial) ⟨rfl,rfl,rfl,rfl,rfl,rfl,trivial⟩) ?_;exact⟨rfl,by cases b<;>rfl⟩
  have he:¬ bM d place=iT place a cn true:=aAf hc2;rw [aAg he];refine aK<|Sr<|Dd aF<|Dd aF<|Dd (by exact aB rfl rfl pN rfl (oS _))<|Dd (by exact bJ [[.str zS]] rfl cJ rfl rfl rfl rfl rfl (by simp))<|Dd (by exact aB rfl rfl pM rfl (hw))<|Dd aS<|Zz<|Sq<|Sq ?_;refine cV (t:=40) (n:=6) (X:=decide ((iK d place [zS]).1=0)) ?_ ?_
  ·all_goals refine Dd aF ?_
   all_goals refine Dd hU<|Dm ?_
   all_goals refine Sp 38 (fun h38=>?_) fun h38=>?_
   all_goals try contradiction
   all_goals first|refine Fo ?_|refine On aF ?_
   all_goals refine Dd fV<|Zz ?_
   all_goals(exact⟨⟨_,rfl,by(simp_all;done)⟩,rfl,rfl,rfl⟩)
  refine Cn ?_ ?_<;>intro hc3
  ·have hz:(iK d place [zS]).1=0:=aAe hc3;rw [aAh ⟨hz,rfl⟩];have hw2:=nN hi1 k a cn place b l c [hS place a cn] (by rw [List.length_singleton,List.length_singleton];omega) (by omega);have hbz:(b||!decide ((iK d place [zS]).1=0))=b:=by rw [hz];cases b<;>rfl
   rw [hbz];refine Rg<|Dd aF<|Dd aF<|Dd aF<|Dd (by exact bJ [[.str (hS place a cn)]] rfl cJ rfl rfl rfl rfl rfl (by simp))<|Dd (by exact aB rfl rfl pM rfl (hw2))<|Dd aS<|Zz<|Sr<|Dd aF<|Dd aS<|Zz<|aM ?_;refine bD (H':=(sH (iK (iK d place [zS]).2 place [hS place a cn]).2 (bV k a cn (b||!decide ((iK (iK d place [zS]).2 place [hS place a cn]).1=0))) (bB l c))) (.inr rfl) rfl (aJ rfl) (Fin.wk (by(simp;done)) (Hc (aE _ _ rfl rfl rfl)<|Hc (aC _ _)<|Hc (aI _ _ _)<|Hc (aG _ _)<|Hc (bG rfl rfl)<|Hc (aR _ _ _)<|trivial) ⟨rfl,rfl,rfl,rfl,rfl,rfl,trivial⟩) ?_;exact Qq
  have hz:¬ (iK d place [zS]).1=0:=aAf hc3;rw [aAg (fun h=>hz h.1)];refine aK<|Sr<|Dd aF<|Dd aS<|Zz<|aM ?_;refine bD (H':=(sH (iK d place [zS]).2 (bV k a cn (b||!decide ((iK d place [zS]).1=0))) (bB l c))) (.inr rfl) rfl (aJ rfl) (Fin.wk (by(simp;done)) (Hc (aE _ _ rfl rfl rfl)<|Hc (aC _ _)<|Hc (aI _ _ _)<|Hc (aG _ _)<|Hc (bG rfl rfl)<|Hc (aR _ _ _)<|trivial) ⟨rfl,rfl,rfl,rfl,rfl,rfl,trivial⟩) ?_;exact Qq
 cases hc1
theorem UD {d d':DSt} {o o' m m':Ob} {id:Nat} (h:((sH d' o' m').get id).isSome=true):((sH d o m).get id).isSome=true:=by simp only [sH,aA.get] at h ⊢;cases e0:Nat.beq 1000 id<;>cases e1:Nat.beq 1001 id<;>cases e2:Nat.beq 1002 id<;>cases e3:Nat.beq 1003 id<;>cases e4:Nat.beq 1100 id<;>cases e5:Nat.beq 1101 id<;>simp [e0,e1,e2,e3,e4,e5] at h ⊢
theorem gF {f:FuncId} {args:List AV} {d d':DSt} {k a n:Nat} {b:Bool} {l:List (ByteArray×ByteArray×Nat)} {c:Nat} {o' m':Ob} {r0:AV} (h:aH Tryz.prog f args (sH d (bV k a n b) (bB l c)) (fun r H'=>r=r0∧H'=sH d' o' m')) (H:aA) (hs:DJ H (sH d (bV k a n b) (bB l c))) (ha:∀ x∈args,Clo (sH d (bV k a n b) (bB l c)) x) :
  aH Tryz.prog f args H (fun r H'=>r=r0∧H'=sH d' o' m'++H):=h.frame hs.sub (qW _ _ _ _ _ _ _) ha (fun id hid=>.inl (UD hid))
def xM (d:DSt) (a cn:Nat):Int×DSt:=if(iK d 1 [hS 1 a cn]).1=0 then iK (iK d 1 [hS 1 a cn]).2 0 [hS 0 a cn] else iK d 1 [hS 1 a cn]
theorem QI {d:DSt} {n m:Nat} (h:DInv d n m) (a cn:Nat) (hm:m+2≤1048576):DInv (xM d a cn).2 n (m+2):=by
 have h1:=lI h 1 [hS 1 a cn] (by rw [List.length_singleton];omega);have h2:=lI h1 0 [hS 0 a cn] (by rw [List.length_singleton,List.length_singleton];omega);rw [List.length_singleton] at h1 h2;rw [xM]
 split
 ·exact h2
 exact h1.mono (by omega)
def stD (a b c:DSt):Nat→DSt
 | 0=>a
 | 1=>b
 | _=>c
theorem WY {d:DSt} {n m:Nat} (h:DInv d n m) (k a cn a2 cn2:Nat) (b:Bool) (l:List (ByteArray×ByteArray×Nat)) (c:Nat) (hm:m+2 < 1048576) (ha:a2 < 10) (hcn:cn2 < 1000000000000) :
  aH Tryz.prog 103 [.ref 1100 0 0 0,.agg [iv (a2:Int),iv (cn2:Int)]] (sH d (bV k a cn b) (bB l c)) (fun r H'=>r=iv (xM d a2 cn2).1∧H'=sH (xM d a2 cn2).2 (if(xM d a2 cn2).1=0 then bV k a2 cn2 b else bV k a cn true) (bB l c)):=by
 have hw:=nN h k a cn 1 b l c [hS 1 a2 cn2] (by rw [List.length_singleton];omega) (by omega);have h1:=lI h 1 [hS 1 a2 cn2] (by rw [List.length_singleton];omega);have hw2:=nN h1 k a cn 0 b l c [hS 0 a2 cn2] (by rw [List.length_singleton,List.length_singleton];omega) (by omega);have hh1:=fun H=>EL 1 a2 cn2 (by omega) ha hcn H;have hh0:=fun H=>EL 0 a2 cn2 (by omega) ha hcn H;rw [xM];obtain ⟨x,hx⟩:∃ x,x=iK d 1 [hS 1 a2 cn2]:=⟨_,rfl⟩;rw [← hx] at hw hw2 ⊢;obtain ⟨y,hy⟩:∃ y,y=iK x.2 0 [hS 0 a2 cn2]:=⟨_,rfl⟩;rw [← hy] at hw2 ⊢;clear hx hy h1;have hr0:([[PV.int .i64 1],[PV.int .i64 0]]:List (List PV))[0]?=some [PV.int .i64 1]:=rfl;have hr1:([[PV.int .i64 1],[PV.int .i64 0]]:List (List PV))[1]?=some [PV.int .i64 0]:=rfl;refine Bd func103 rfl ntmps103<|Sr<|Dd (by exact gR (id:=3) rfl rfl rfl rfl rfl)<|Dd aS<|Zz<|Sq<|Sq ?_;refine gA.ent (E':=[(0,.ref 1100 0 0 0),(3,.ref 3 0 0 0)]) (H':=(3,bx 2 70 [iv (a2:Int),iv (cn2:Int)])::sH d (bV k a cn b) (bB l c)) (cA.wk (Ea<|Ea<|trivial) (Hb<|Hc (aE _ _ rfl rfl rfl)<|Hc (aC _ _)<|Hc (aI _ _ _)<|Hc (aG _ _)<|Hc (bG rfl rfl)<|Hc (aR _ _ _)<|trivial) ⟨rfl,rfl,rfl,rfl,rfl,rfl,trivial⟩) ?_;refine Rg<|Dd (by exact bJ [[.int .i64 1],[.int .i64 0]] rfl MY rfl rfl rfl rfl rfl (by simp))<|Dd (mZ O9)<|Dd aF<|Zz<|aO ?_;refine bL (σ:=Nat) (fun i=>([(0,.ref 1100 0 0 0),(3,.ref 3 0 0 0),(8,.pv (.sl [[.int .i64 1],[.int .i64 0]])),(9,iv 2),(10,iv (i:Int))],(3,bx 2 70 [iv (a2:Int),iv (cn2:Int)])::sH (stD d x.2 y.2 i) (bV k a cn b) (bB l c))) (fun i=>i≤2∧(0 < i→x.1=0)∧(1 < i→y.1=0)) (fun i=>2 - i) 0 ⟨by omega,fun h=>absurd h (Nat.lt_irrefl _),fun h=>absurd h (by omega)⟩ ?_ ?_
 ·exact(cA.wk (Ea<|Ea<|Eb<|Eb<|Eb<|trivial) (Hb<|Hc (aE _ _ rfl rfl rfl)<|Hc (aC _ _)<|Hc (aI _ _ _)<|Hc (aG _ _)<|Hc (bG rfl rfl)<|Hc (aR _ _ _)<|trivial) ⟨rfl,rfl,rfl,rfl,rfl,rfl,trivial⟩)
 rintro i ⟨hi,hx0,hy0⟩;have h3:i=0∨i=1∨i=2:=by omega
 rcases h3 with rfl|rfl|rfl
 ·refine Sr<|Dd dX<|Zz<|Sq ?_;refine Cn ?_ ?_<;>intro hc1
  ·refine aK<|Sq<|aO<|Sr<|Dd (by exact bX (m:=0) rfl MY rfl rfl (by decide) rfl rfl rfl)<|Dd (qC aQ)<|Dd aS<|Zz<|Sr<|Dd aF<|Dd aF<|Dd aF<|Dd (UZ cX sizeOf70)<|Dd (by exact aB rfl rfl TT rfl (hh1 _))<|Dd (by exact bJ [[.str (hS 1 a2 cn2)]] rfl cJ rfl rfl rfl rfl rfl (by simp))<|Dd (by exact aB rfl rfl pM rfl (gF hw _ ⟨rfl,rfl,rfl,rfl,rfl,rfl,trivial⟩ (by simp;rfl)))<|Dd aS<|Zz<|Sr<|Dd aF<|Dd wB<|Zz ?_;refine Cn ?_ ?_<;>intro hc2
   ·have he:¬ x.1=0:=by have h:=hc2;simpa using h
    have hb:(b||!decide (x.1=0))=true:=by rw [decide_eq_false he];cases b<;>rfl
    rw [aAg he,aAg he,hb];refine Sr<|Dd aF<|Dd aS<|Zz<|aM ?_;refine bD (H':=(sH x.2 (bV k a cn true) (bB l c))) (.inr rfl) rfl (aJ rfl) (Fin.wk (by(simp;done)) (Hc (aE _ _ rfl rfl rfl)<|Hc (aC _ _)<|Hc (aI _ _ _)<|Hc (aG _ _)<|Hc (bG rfl rfl)<|Hc (aR _ _ _)<|trivial) ⟨rfl,rfl,rfl,rfl,rfl,rfl,trivial⟩) ?_;exact Qq
   have he:x.1=0:=by have h:=hc2;simpa using h
   have hb:(b||!decide (x.1=0))=b:=by rw [he];cases b<;>rfl
   rw [hb];refine aK<|Rg<|Dd pE<|Dd aF<|Zz ?_;refine⟨1,⟨by omega,fun _=>he,fun h=>absurd h (by omega)⟩,by omega,?_⟩;exact(cA.wk (Ea<|Ea<|Eb<|Eb<|Eb<|trivial) (Hb<|Hc (aE _ _ rfl rfl rfl)<|Hc (aC _ _)<|Hc (aI _ _ _)<|Hc (aG _ _)<|Hc (bG rfl rfl)<|Hc (aR _ _ _)<|trivial) ⟨rfl,rfl,rfl,rfl,rfl,rfl,trivial⟩)
  cases hc1
 ·have he0:=hx0 (by omega);refine Sr<|Dd dX<|Zz<|Sq ?_;refine Cn ?_ ?_<;>intro hc3
  ·refine aK<|Sq<|aO<|Sr<|Dd (by exact bX (m:=1) rfl MY rfl rfl (by decide) rfl rfl rfl)<|Dd (qC aQ)<|Dd aS<|Zz<|Sr<|Dd aF<|Dd aF<|Dd aF<|Dd (UZ cX sizeOf70)<|Dd (by exact aB rfl rfl TT rfl (hh0 _))<|Dd (by exact bJ [[.str (hS 0 a2 cn2)]] rfl cJ rfl rfl rfl rfl rfl (by simp))<|Dd (by exact aB rfl rfl pM rfl (gF hw2 _ ⟨rfl,rfl,rfl,rfl,rfl,rfl,trivial⟩ (by simp;rfl)))<|Dd aS<|Zz<|Sr<|Dd aF<|Dd wB<|Zz ?_;refine Cn ?_ ?_<;>intro hc4
   ·have he:¬ y.1=0:=by have h:=hc4;simpa using h
    have hb:(b||!decide (y.1=0))=true:=by rw [decide_eq_false he];cases b<;>rfl
    rw [aAh he0,aAg he,hb];refine Sr<|Dd aF<|Dd aS<|Zz<|aM ?_;refine bD (H':=(sH y.2 (bV k a cn true) (bB l c))) (.inr rfl) rfl (aJ rfl) (Fin.wk (by(simp;done)) (Hc (aE _ _ rfl rfl rfl)<|Hc (aC _ _)<|Hc (aI _ _ _)<|Hc (aG _ _)<|Hc (bG rfl rfl)<|Hc (aR _ _ _)<|trivial) ⟨rfl,rfl,rfl,rfl,rfl,rfl,trivial⟩) ?_;exact Qq
   have he:y.1=0:=by have h:=hc4;simpa using h
   have hb:(b||!decide (y.1=0))=b:=by rw [he];cases b<;>rfl
   rw [hb];refine aK<|Rg<|Dd pE<|Dd aF<|Zz ?_;refine⟨2,⟨by omega,fun _=>he0,fun _=>he⟩,by omega,?_⟩;exact(cA.wk (Ea<|Ea<|Eb<|Eb<|Eb<|trivial) (Hb<|Hc (aE _ _ rfl rfl rfl)<|Hc (aC _ _)<|Hc (aI _ _ _)<|Hc (aG _ _)<|Hc (bG rfl rfl)<|Hc (aR _ _ _)<|trivial) ⟨rfl,rfl,rfl,rfl,rfl,rfl,trivial⟩)
  cases hc3
 have he0:=hx0 (by omega);have he1:=hy0 (by omega);refine Sr<|Dd dX<|Zz<|Sq ?_;refine Cn ?_ ?_<;>intro hc5
 ·cases hc5
 rw [aAh he0,aAh he1];refine bI<|Sr<|Dd aF<|Dd (UZ cX sizeOf70)<|Dd fF<|Dd (dO mF)<|Uu (by exact KQ rfl sizeOf70 rfl rfl rfl rfl rfl rfl rfl (by simp only [aAk,List.length_nil];omega) (by simp only [Zl,encStr];rfl) (by simp only [Zl,encStr];rfl))<|Zz<|Sr<|Dd aS<|Zz<|aM ?_;refine bD (H':=(sH y.2 (bV k a2 cn2 b) (bB l c))) (.inr rfl) rfl (aJ rfl) (Fin.wk (by(simp;done)) (Hc (aE _ _ rfl rfl rfl)<|Hc (aC _ _)<|Hc (aI _ _ _)<|Hc (aG _ _)<|Hc (bG rfl rfl)<|Hc (aR _ _ _)<|trivial) ⟨rfl,rfl,rfl,rfl,rfl,rfl,trivial⟩) ?_;exact⟨by rw [he1],rfl⟩
def fM (t:List UInt8) (i:Nat):List UInt8:=(t.drop (46*i)).take 46
def cZ (t:List UInt8):Nat:=(t.length+45) / 46
abbrev MS (t:List UInt8) (i:Nat):Ob:=bx 1 9 [sv (ofL (t.drop (46*i)))]
theorem nS (t:List UInt8) (i:Nat):(fM t i).length=min 46 (t.length - 46*i):=by rw [fM,aAw,aAx]
theorem NE (t:List UInt8) (H:aA) (h:H.get 910=none):aH Tryz.prog 100 [sv (ofL t)] H (fun r H'=>r=.clo 129 [.ref 910 0 0 0]∧H'=(910,MS t 0)::H):=by refine Bd func100 rfl ntmps100<|Sr<|Dd (by exact gR (id:=910) rfl rfl rfl rfl h)<|Dd aS<|Zz<|Sr<|Dd (by exact fA rfl rfl)<|Dd aS<|Zz<|aM ?_;refine bD (H':=((910,MS t 0)::H)) (.inr rfl) rfl (aJ rfl) Fin.refl ?_;exact Qq
theorem NF (t:List UInt8) (fv:AV) (Hs Hr:Nat→aA) (hl:t.length < 1000000000) (h9:∀ i,(Hs i).get 910=some (MS t i)) (h8:∀ i,(Hr i).get 910=some (MS t i)) (hn:∀ i j,aA.get ((910,MS t (i+1))::Hr i) j=(Hs (i+1)).get j)
  (hy:∀ i,i < cZ t→eU Tryz.prog fv [sv (ofL (fM t i))] (Hs i) (fun r H'=>r=bv true∧H'=Hr i)) :
  aH Tryz.prog 129 [fv,.ref 910 0 0 0] (Hs 0) (fun r H'=>r=.tup []∧H'=Hs (cZ t)):=by
 refine Bd func129 rfl ntmps129<|aO ?_;refine bL (σ:=Nat) (fun i=>([(0,fv),(1,.ref 910 0 0 0)],Hs i)) (fun i=>i≤cZ t) (fun i=>cZ t - i) 0 (aAz _) ?_ ?_
 ·exact E0
 rintro i hi;have hsz:(ofL (t.drop (46*i))).size=t.length - 46*i:=by rw [bU,aAx]
 refine Sq<|Sr<|Dd (by exact aY rfl aX rfl (h9 i) rfl rfl rfl)<|Dd (BP aL)<|Dd BR<|Zz ?_;refine Cn ?_ ?_<;>intro hc1
 ·have hlt:46*i < t.length:=by have:=aAe hc1;omega
  have hip:i < cZ t:=by rw [cZ];omega
  have hmin:min (46:Int) ((ofL (t.drop (46*i))).size:Int)=((fM t i).length:Int):=by rw [hsz,nS];omega
  have hple:(fM t i).length≤(ofL (t.drop (46*i))).size:=by rw [hsz,nS];omega
  have hx1:(ofL (t.drop (46*i))).extract 0 (fM t i).length=ofL (fM t i):=kJ (by
   rw [fB,bC,bC,List.drop_zero,Nat.sub_zero,fM,aAw,List.take_eq_take_min];simp)
  have hx2:(ofL (t.drop (46*i))).extract (fM t i).length (ofL (t.drop (46*i))).size=ofL (t.drop (46*(i+1))):=kJ (by
   rw [qI,bC,bC,List.drop_drop];rw [nS];by_cases hh:46≤t.length - 46*i
   ·rw [Nat.min_eq_left hh];congr 1
   rw [Nat.min_eq_right (by omega),List.drop_eq_nil_of_le (by omega),List.drop_eq_nil_of_le (by omega)])
  refine aK<|aO<|Sr<|Dd (by exact aY rfl aX rfl (h9 i) rfl rfl rfl)<|Dd (BP aL)<|Dd (by exact xW rfl rfl rfl hmin)<|Dd aS<|Zz<|Sq<|Sr<|Dd aF<|Dd (by exact aY rfl aX rfl (h9 i) rfl rfl rfl)<|Dd aF<|Dd (by exact cR (l:=0) (h:=(fM t i).length) rfl aL rfl rfl rfl (aAz _) hple hx1)<|Dd (by exact gQ rfl rfl rfl (hy i hip))<|Dd A2<|Zz ?_;refine Cn ?_ ?_<;>intro hc2
  ·cases hc2
  refine aK<|Rg<|Dd (by exact aY rfl aX rfl (h8 i) rfl rfl rfl)<|Dd aF<|Dd (by exact cR (l:=(fM t i).length) (h:=(ofL (t.drop (46*i))).size) rfl aL rfl rfl rfl hple (aAo _) hx2)<|Uu (by exact iS rfl sizeOf9 rfl rfl rfl rfl (h8 i) rfl rfl rfl)<|Zz ?_;refine⟨i+1,by omega,by omega,?_⟩;exact cA.get' ⟨⟨_,rfl,rfl⟩,⟨_,rfl,rfl⟩,trivial⟩ (fun j=>(hn i j).symm)
 have hge:¬ 46*i < t.length:=by have:=aAf hc1;omega
 have hip:i=cZ t:=by rw [cZ] at hi ⊢;omega
 subst hip;refine bI ?_;exact fS (H':=Hs (cZ t)) (.inl rfl) rfl Fin.refl ⟨rfl,rfl⟩
def jY (fr:Nat) (t:List UInt8) (i:Nat):List ByteArray:=(List.range i).map fun j=>ofL (eR (fr+j) (fM t j))
theorem dG (fr:Nat) (t:List UInt8) (i:Nat):(jY fr t i).length=i:=by rw [jY,aAi,List.length_range]
theorem M4 (fr:Nat) (t:List UInt8) (i:Nat):jY fr t (i+1)=jY fr t i++[ofL (eR (fr+i) (fM t i))]:=by rw [jY,List.range_succ,List.map_append];rfl
def jR (d:DSt) (k a cn:Nat) (t:List UInt8):Int×DSt :=if(iK d (2+a*k+cn) (jY (2+a*k+cn) t (cZ t))).1=0 then xM (iK d (2+a*k+cn) (jY (2+a*k+cn) t (cZ t))).2 a (cn+cZ t)else iK d (2+a*k+cn) (jY (2+a*k+cn) t (cZ t))
theorem TB {d:DSt} {n m:Nat} (h:DInv d n m) (k a cn:Nat) (t:List UInt8) (hm:m+cZ t+2≤1048576):DInv (jR d k a cn t).2 n (m+cZ t+2):=by
 have h1:=lI h (2+a*k+cn) (jY (2+a*k+cn) t (cZ t)) (by rw [dG];omega);rw [dG] at h1;rw [jR]
 split
 ·exact QI h1 _ _ (by omega)
 exact h1.mono (by omega)
theorem iL {f:FuncId} {args:List AV} {d:DSt} {k a n:Nat} {b:Bool} {l:List (ByteArray×ByteArray×Nat)} {c:Nat} {r0:AV} (h:aH Tryz.prog f args (sH d (bV k a n b) (bB l c)) (fun r H'=>r=r0∧H'=sH d (bV k a n b) (bB l c))) (H:aA) (hs:DJ H (sH d (bV k a n b) (bB l c))) (ha:∀ x∈args,Clo (sH d (bV k a n b) (bB l c)) x) :
  aH Tryz.prog f args H (fun r H'=>r=r0∧H'=H):=h.frameS hs.sub (qW _ _ _ _ _ _ _) ha
theorem lZ {α:Type} (f:α→List PV) (l:List α):((l.map f).take (0+l.length)).drop 0=l.map f:=by rw [aBA,List.drop_zero];exact List.take_of_length_le (by rw [aAi];exact aAo _)
theorem UC {H:aA} {p:Prop} [Decidable p] {k a n a' n':Nat} {b b':Bool} (h1:(H.get 1000).isSome=true) (h2:(H.get 1101).isSome=true):∀ r∈(if p then bV k a n b else bV k a' n' b').rows,∀ x∈r,Clo H x:=by
 split
 ·exact bG h1 h2
 exact bG h1 h2
abbrev XW:bH:=[(0,.ref 1100 0 0 0),(4,.ref 4 0 0 0),(7,.ref 7 0 0 0),(8,.ref 8 0 0 0)]
def ZA (S:List ByteArray) (K:aA):aA:=(905,⟨S.length,1,9,cY S⟩)::(8,bx 1 31 [.osl 905 S.length 0 S.length])::K
theorem V4 (S:List ByteArray) (s:ByteArray) (K:aA):ZA (S++[s]) K=(905,⟨S.length+1,1,9,cY (S++[s])⟩)::(8,bx 1 31 [.osl 905 (S.length+1) 0 (S.length+1)])::K:=by simp [ZA]
theorem TA {d:DSt} {n m:Nat} (h:DInv d n m) (k a cn a2 cn2:Nat) (b:Bool) (l:List (ByteArray×ByteArray×Nat)) (c:Nat) (t:List UInt8) (ht:t.length < 100000000) (hm:m+cZ t+2 < 1048576) (ha:a2 < 2) (hk:k < 4000) (hcn:cn2≤4000) :
  aH Tryz.prog 52 [.ref 1100 0 0 0,.agg [iv (a2:Int),iv (cn2:Int)],sv (ofL t)] (sH d (bV k a cn b) (bB l c)) (fun r H'=>r=iv (jR d k a2 cn2 t).1∧H'=sH (jR d k a2 cn2 t).2 (if(jR d k a2 cn2 t).1=0 then bV k a2 (cn2+cZ t) b else bV k a cn true) (bB l c)):=by
 have hmk:a2*k≤2*4000:=Nat.mul_le_mul (by omega) (by omega);have hpl:=yY d k a cn a2 cn2 b l c (by omega) (by omega) (by omega);obtain ⟨fr,hfr⟩:∃ fr,fr=2+a2*k+cn2:=⟨_,rfl⟩;have hpn:cZ t≤10000000:=by rw [cZ];omega
 have hw:=nN h k a cn fr b l c (jY fr t (cZ t)) (by rw [dG];omega) (by omega);have h1:=lI h fr (jY fr t (cZ t)) (by rw [dG];omega);rw [dG] at h1;rw [jR,← hfr];rw [← hfr] at hpl;obtain ⟨x0,hx0⟩:∃ x,x=iK d fr (jY fr t (cZ t)):=⟨_,rfl⟩;rw [← hx0] at hw h1 ⊢;clear hx0;have hset:=WY h1 k a cn a2 (cn2+cZ t) b l c (by omega) (by omega) (by omega);refine Bd func52 rfl ntmps52<|Sr<|Dd (by exact gR (id:=4) rfl rfl rfl rfl rfl)<|Dd aS<|Zz<|Sr<|Dd aF<|Dd (dO sV)<|Dd (eA aQ)<|Dd (dO nA)<|Dd (eA aQ)<|Dd (by exact aB rfl rfl aAR rfl (iL hpl _ ⟨rfl,rfl,rfl,rfl,rfl,rfl,trivial⟩ (by simp;rfl)))<|Dd (by exact cC (id:=7) rfl zo3 rfl rfl)<|Uu (pS sizeOf3)<|Zz<|Sr<|Dd (by exact cC (id:=8) rfl YD rfl rfl)<|Zz<|Sq<|Sr<|Dd aF<|Dd (by exact aB rfl rfl call100 rfl (NE t _ rfl))<|Zz<|aO ?_;refine gA.ent (E':=[(0,.ref 1100 0 0 0),(4,.ref 4 0 0 0),(7,.ref 7 0 0 0),(8,.ref 8 0 0 0),(18,.clo 129 [.ref 910 0 0 0])]) (H':=(905,⟨0,1,9,[]⟩)::(910,MS t 0)::(8,bx 1 31 [.osl 905 0 0 0])::(7,bx 1 3 [iv (fr:Int)])::(4,bx 2 70 [iv (a2:Int),iv (cn2:Int)])::sH d (bV k a cn b) (bB l c)) (cA.nz 905 1 9 rfl rfl ⟨⟨_,rfl,(by exact Nz.same (by(simp;rfl)))⟩,⟨_,rfl,(by exact Nz.same (by(simp;rfl)))⟩,⟨_,rfl,(by exact Nz.same (by(simp;rfl)))⟩,⟨_,rfl,(by exact Nz.same (by(simp;rfl)))⟩,⟨_,rfl,(by exact Nz.same (by(simp;rfl)))⟩,trivial⟩ ⟨⟨_,rfl,rfl,rfl,rfl,(by exact .inl ⟨rfl,(by(simp;done))⟩)⟩,⟨_,rfl,rfl,rfl,rfl,(by exact .inr ⟨_,_,rfl,rfl,(by repeat(first|exact trivial|refine⟨(by exact Nz.own),?_⟩))⟩)⟩,⟨_,rfl,rfl,rfl,rfl,(by exact .inl ⟨rfl,(by(simp;done))⟩)⟩,⟨_,rfl,rfl,rfl,rfl,(by exact .inl ⟨rfl,(by(simp;done))⟩)⟩,⟨_,rfl,rfl,rfl,rfl,(by exact .inl ⟨rfl,(by exact aE _ _ rfl rfl rfl)⟩)⟩,⟨_,rfl,rfl,rfl,rfl,(by exact .inl ⟨rfl,(by exact aC _ _)⟩)⟩,⟨_,rfl,rfl,rfl,rfl,(by exact .inl ⟨rfl,(by exact aI _ _ _)⟩)⟩,⟨_,rfl,rfl,rfl,rfl,(by exact .inl ⟨rfl,(by exact aG _ _)⟩)⟩,⟨_,rfl,rfl,rfl,rfl,(by exact .inl ⟨rfl,(by exact bG rfl rfl)⟩)⟩,⟨_,rfl,rfl,rfl,rfl,(by exact .inl ⟨rfl,(by exact aR _ _ _)⟩)⟩,trivial⟩ ⟨rfl,rfl,rfl,rfl,rfl,rfl,trivial⟩) ?_;obtain ⟨K,hK⟩:∃ K:aA,K=(7,bx 1 3 [iv (fr:Int)])::(4,bx 2 70 [iv (a2:Int),iv (cn2:Int)])::sH d (bV k a cn b) (bB l c):=⟨_,rfl⟩;have k7:K.get 7=some (bx 1 3 [iv (fr:Int)]):=by rw [hK];rfl
 have k4:K.get 944=none:=by rw [hK];rfl
 rw [← hK];refine wN (id:=944) (p:=19) XW rfl call129 rfl k4 (by simp [XW];exact⟨rfl,rfl,rfl,rfl⟩) ?_;intro x hx1 hx2 hx3 hx4 hx5 hx6;refine((NF t (.yld 944 0) (fun i=>(944,LR x XW)::(910,MS t i)::ZA (jY fr t i) K) (fun i=>(944,LR x XW)::(910,MS t i)::ZA (jY fr t (i+1)) K) (by omega) (fun i=>rfl) (fun i=>rfl) (fun i j=>?_) ?_).congrG (fun j=>?_) (fun j=>rfl)).mono ?_
 ·exact nW [(910,MS t (i+1)),(944,LR x XW),(910,MS t i)] [(944,LR x XW),(910,MS t (i+1))] (by repeat(first|exact trivial|refine⟨rfl,?_⟩)) j
 ·intro i hi;have hsl:(jY fr t i).length=i:=dG fr t i;have hpal:(fM t i).length≤46:=by rw [nS];omega
  have hpos:(ofL (fM t i)).size=(fM t i).length:=bU _;have hdg:=fun H=>nZ (fM t i).length 2 (by omega) (by omega) H;have e29:ofL (dg (fM t i).length 2)++ofL (fM t i)=ofL (dg (fM t i).length 2++fM t i):=uK _ _;have s29:(ofL (dg (fM t i).length 2)).size≤23:=by rw [bU];exact qL _ 2 (by omega)
  have l29:(dg (fM t i).length 2++fM t i).length≤48:=by rw [aAj,lF (pA _ (by omega) (by omega))];omega
  have hse:=fun H=>yR (fr+i) (dg (fM t i).length 2++fM t i) (by omega) l29 H;have hpe:ofL (oW (fr+i) (dg (fM t i).length 2++fM t i))=ofL (eR (fr+i) (fM t i)):=rfl;rw [hpe] at hse;rw [M4,V4];obtain ⟨S,hS⟩:∃ S,S=jY fr t i:=⟨_,rfl⟩;rw [← hS] at hsl ⊢;obtain ⟨u,hu⟩:∃ u,u=fM t i:=⟨_,rfl⟩;rw [← hu] at hpal hpos hdg e29 s29 l29 hse ⊢;refine .inl ⟨944,0,rfl,?_⟩;refine DF [(0,.ref 1100 0 0 0),(4,.ref 4 0 0 0),(7,.ref 7 0 0 0),(8,.ref 8 0 0 0),(9,sv (ofL u))] ((910,MS t i)::ZA S K) hx1 hx2 hx3 hx4 hx5 hx6 rfl rfl rfl ?_ ?_
  ·refine Rg<|Da ?_;exact E0
  refine aO<|bO follows<|Cs (fun _ h=>lh cQ h)<|Cs (fun H1 hH=>by exact aY rfl aQ rfl ((hH _ rfl).trans k7) rfl rfl rfl)<|Cs (fun _ h=>lh cQ h)<|Cs (fun H1 hH=>by exact dE rfl aP rfl ((hH _ rfl).trans rfl) rfl)<|Cs (fun H1 hH=>by exact cH rfl rfl rfl (show IntKind.i64.wrap ((fr:Int)+(S.length:Int))=((fr+i:Nat):Int)by rw [hsl,iU (by omega) (by omega)];omega))<|Cs (fun _ _=>aF)<|Cs (fun _ _=>(BP aL))<|Cs (fun H1 hH=>by exact aB rfl rfl AW rfl (hdg _))<|Cs (fun _ _=>aF)<|Cs (fun H1 hH=>by exact jG rfl rfl rfl (by omega) e29)<|Cs (fun H1 hH=>by exact aB rfl rfl aAH rfl (hse _))<|Cs (fun H1 hH=>by exact bJ [[.str (ofL (eR (fr+i) u))]] rfl cJ rfl rfl rfl rfl rfl (by intro r hr;rw [aAl] at hr;subst hr;rfl)) ?_;refine cD (r:=⟨_,none,[_]⟩) (DStep.plain rfl (fun H1 hH=>by exact fQ (ps:=[[.str (ofL (eR (fr+i) u))]]) rfl cJ PH rfl ((hH _ rfl).trans rfl) rfl rfl rfl (fU _) rfl (by intro r hr;rw [aAl] at hr;subst hr;rfl) (m:=1) rfl (by omega) rfl (lR _ (ofL (eR (fr+i) u))))) rfl ?_;refine cD (r:=⟨_,none,[_]⟩) (DStep.plain rfl (fun H1 hH=>by exact(by exact iS rfl pF rfl rfl rfl rfl ((hH _ rfl).trans rfl) rfl rfl rfl))) rfl ?_;refine dC<|Kr ?_;exact⟨(910,MS t i)::(905,⟨S.length+1,1,9,cY (S++[ofL (eR (fr+i) u)])⟩)::(8,bx 1 31 [.osl 905 (S.length+1) 0 (S.length+1)])::K,cA.get' trivial (fun j=>nW [_,_,_,_] [_,_,_,_,_,_] (by repeat(first|exact trivial|refine⟨rfl,?_⟩)) j),rfl,rfl⟩
 ·exact nW [_,_,_,_] [_,_,_,_] (by repeat(first|exact trivial|refine⟨rfl,?_⟩)) j
 rintro r H' ⟨rfl,rfl⟩;refine⟨x,_,rfl,by rw [hx1];decide,rfl,fun z=>?_⟩;rw [hx2];have hSl:(jY fr t (cZ t)).length=cZ t:=dG _ _ _;obtain ⟨S,hS⟩:∃ S,S=jY fr t (cZ t):=⟨_,rfl⟩;rw [← hS] at hSl hw;rw [← hS];have hSm:((S.map encStr).length:Int)=(cZ t:Int):=by rw [aAi,hSl]
 subst hK;refine Sq<|Sq ?_;refine gA.ent (cA.fzG (id:=905) (E':=XW) (H':=(8,bx 1 31 [.pv (aW S)])::(7,bx 1 3 [iv (fr:Int)])::(4,bx 2 70 [iv (a2:Int),iv (cn2:Int)])::sH d (bV k a cn b) (bB l c)) (S.map encStr) rfl (nO _) ?_ rfl ?_ ?_) ?_
 ·intro p hp;simp only [aAu,aAy,or_false] at hp;rcases hp with rfl|rfl|rfl|rfl<;>exact⟨_,rfl,.same (by simp;rfl)⟩
 ·exact⟨⟨_,rfl,rfl,rfl,rfl,VF rfl (yB (.osl (lZ encStr _)) JX)⟩,⟨_,rfl,rfl,rfl,rfl,dB (by simp)⟩,⟨_,rfl,rfl,rfl,rfl,dB (by simp)⟩,⟨_,rfl,rfl,rfl,rfl,dB (aE _ _ rfl rfl rfl)⟩,⟨_,rfl,rfl,rfl,rfl,dB (aC _ _)⟩,⟨_,rfl,rfl,rfl,rfl,dB (aI _ _ _)⟩,⟨_,rfl,rfl,rfl,rfl,dB (aG _ _)⟩,⟨_,rfl,rfl,rfl,rfl,dB (bG rfl rfl)⟩,⟨_,rfl,rfl,rfl,rfl,dB (aR _ _ _)⟩,trivial⟩
 ·exact⟨rfl,rfl,rfl,rfl,rfl,rfl,trivial⟩
 refine Rg<|Dd aF<|Dd (eA aQ)<|Dd (eA cQ)<|Dd (by exact aB rfl rfl pM rfl (gF hw _ ⟨rfl,rfl,rfl,rfl,rfl,rfl,trivial⟩ (by simp;rfl)))<|Dd aS<|Zz<|Sr<|Dd aF<|Dd wB<|Zz ?_;refine Cn ?_ ?_<;>intro hc1
 ·have he:¬ x0.1=0:=by have h:=hc1;simpa using h
  have hb:(b||!decide (x0.1=0))=true:=by rw [decide_eq_false he];cases b<;>rfl
  rw [aAg he,aAg he,hb];refine Sr<|Dd aF<|Dd aS<|Zz<|aM ?_;refine bD (H':=(sH x0.2 (bV k a cn true) (bB l c))) (.inr rfl) rfl (aJ rfl) (Fin.wk (by(simp;done)) (Hc (aE _ _ rfl rfl rfl)<|Hc (aC _ _)<|Hc (aI _ _ _)<|Hc (aG _ _)<|Hc (bG rfl rfl)<|Hc (aR _ _ _)<|trivial) ⟨rfl,rfl,rfl,rfl,rfl,rfl,trivial⟩) ?_;exact Qq
 have he:x0.1=0:=by have h:=hc1;simpa using h
 have hb:(b||!decide (x0.1=0))=b:=by rw [he];cases b<;>rfl
 rw [aAh he,hb];obtain ⟨y,hy⟩:∃ y,y=xM x0.2 a2 (cn2+cZ t):=⟨_,rfl⟩;rw [← hy] at hset ⊢;refine aK<|Sr<|Dd (dO nA)<|Dd (eA aQ)<|Dd (eA cQ)<|Dd (mZ aP)<|Dd (by exact cH rfl rfl rfl (show IntKind.i64.wrap ((cn2:Int)+((S.map encStr).length:Int))=((cn2+cZ t:Nat):Int)by rw [hSm,iU (by omega) (by omega)];omega))<|Dd (dO nA)<|Uu (by exact cN rfl sizeOf3 rfl rfl rfl rfl rfl rfl (by simp only [aAk,List.length_nil];omega) (by simp only [Zl,encStr];rfl) (by simp only [Zl,encStr];rfl))<|Zz<|Sr<|Dd aF<|Dd (UZ cX sizeOf70)<|Dd (by exact aB rfl rfl call103 rfl (gF hset _ ⟨rfl,rfl,rfl,rfl,rfl,rfl,trivial⟩ (by simp;rfl)))<|Dd aS<|Zz<|aM ?_;refine bD (H':=(sH y.2 (if y.1=0 then bV k a2 (cn2+cZ t) b else bV k a cn true) (bB l c))) (.inr rfl) rfl (aJ rfl) (Fin.wk (by(simp;done)) (Hc (aE _ _ rfl rfl rfl)<|Hc (aC _ _)<|Hc (aI _ _ _)<|Hc (aG _ _)<|Hc (UC rfl rfl)<|Hc (aR _ _ _)<|trivial) ⟨rfl,rfl,rfl,rfl,rfl,rfl,trivial⟩) ?_;exact Qq
end Go.Proofs.YtmkgeogoojcciaaGreatDoor
namespace Go.Proofs.YtmkgeogoojcciaaGreatDoor
open Go.Proofs.Tryz
open Go.Abs
abbrev ZM:ByteArray:=⟨#[58]⟩
theorem IK (s:ByteArray) (H:aA):aH Tryz.prog 171 [sv s,sv ZM] H (fun r H'=>r=iv (Lib.indexByte s.data.toList 58)∧H'=H):=by
 refine Pu ?_;refine Bd func171 rfl ntmps171<|Sr<|Dd aS<|Zz<|Sr<|Dd aF<|Dd (BP aL)<|Dd aS<|Zz<|Sq<|aO<|Sq ?_;refine cV (t:=16) (n:=9) (X:=decide (ZM=s)) ?_ ?_
 ·all_goals refine Dd aF ?_
  all_goals refine Dd hU<|Dm ?_
  all_goals refine Sp 19 (fun h19=>?_) fun h19=>?_
  all_goals try contradiction
  all_goals refine On aF<|On aF<|On W0<|Dd fV<|Da ?_
  all_goals(exact⟨⟨_,rfl,by rfl⟩,rfl,rfl,rfl⟩)
 refine Cn ?_ ?_<;>intro hc1
 ·have hs:=aAe hc1;subst hs;exact Sr<|Dd aS<|Zz<|aM<|Rt<|Qq
 refine Sr<|Dd aF<|Dd hU<|Da ?_;refine Cn ?_ ?_<;>intro hc2
 ·exact Sr<|Dd aF<|Dd aF<|Dd (by exact BH rfl aL rfl rfl (by omega) (by exact aAt _) (show 0 < (⟨#[58]⟩:ByteArray).size from Nat.zero_lt_one) rfl)<|Dd (by exact aB rfl rfl call186 rfl (A7 s 58 _))<|Dd aS<|Zz<|aM<|Rt<|Qq
 cases hc2
def HC (s:ByteArray):AV:=if Lib.indexByte s.data.toList 58 = -1 then .tup [sv s,sv ⟨#[]⟩,bv false] else .tup [sv (s.extract 0 (Lib.indexByte s.data.toList 58).toNat),sv (s.extract ((Lib.indexByte s.data.toList 58).toNat+1) s.size),bv true]
theorem QD (s:ByteArray) (H:aA) (hs:s.size < 1099511627776):aH Tryz.prog 144 [sv s,sv ZM] H (fun r H'=>r=HC s∧H'=H):=by
 refine Pu ?_;have hI:=fun H=>IK s H;rw [HC];rcases Classical.em (Lib.indexByte s.data.toList 58 = -1)with h1|h1
 ·rw [aAh h1];simp only [h1] at hI;refine Bd func144 rfl ntmps144<|Sr<|Dd aS<|Dd aS<|Dd aS<|Zz<|Sq<|Sr<|Dd aF<|Dd aF<|Dd (by exact aB rfl rfl call171 rfl (hI _))<|Dd aS<|Zz<|Sr<|Dd aF<|Dd RS<|Zz ?_;refine Cn ?_ ?_<;>intro hc1
  ·cases hc1
  refine aK<|Sr<|Dd aF<|Dd aS<|Dd aS<|Dd aS<|Zz<|aM ?_;refine MH (H':=[]) (.inr rfl) rfl (aJ rfl) (aJ rfl) (aJ rfl) (Fin.wk (by simp) trivial trivial) ?_;exact Qq
 rw [aAg h1];obtain ⟨w,r,e1,e2,e3⟩:=zU h1;simp only [e3] at hI;rw [e3,aAt];have hl:w.length+1+r.length=s.size:=by rw [← show s.data.toList.length=s.size by simp,e1,aAj,aAk];omega
 refine Bd func144 rfl ntmps144<|Sr<|Dd aS<|Dd aS<|Dd aS<|Zz<|Sq<|Sr<|Dd aF<|Dd aF<|Dd (by exact aB rfl rfl call171 rfl (hI _))<|Dd aS<|Zz<|Sr<|Dd aF<|Dd RS<|Zz ?_;refine Cn ?_ ?_<;>intro hc1
 ·refine Sq<|bO follows<|Cq aF<|Cq aF<|Cq (by exact cR (l:=0) (h:=(w.length)) rfl aL rfl rfl rfl (by omega) (by omega) rfl)<|Cq aF<|Cq aF<|Cq aF<|Cq (BP aL)<|Cq (by exact cH rfl rfl rfl (show IntKind.i64.wrap ((w.length:Int)+1)=((w.length+1:Nat):Int)by rw [IntKind.wrap_i64];omega))<|Cq (by exact cR (l:=(w.length+1)) (h:=s.size) rfl aL rfl rfl rfl (by omega) (by omega) rfl)<|Cq aS<|Cq aS<|Cq aS<|dC<|Kr<|aM ?_;refine MH (H':=[]) (.inr rfl) rfl (aJ rfl) (aJ rfl) (aJ rfl) (Fin.wk (by simp) trivial trivial) ?_;exact Qq
 have hx:=aAf hc1;omega
theorem XM (s:ByteArray) (H:aA) (hs:s.size < 1099511627776):aH Tryz.prog 117 [sv s,sv ZM] H (fun r H'=>r=HC s∧H'=H):=by
 refine Pu ?_;have hC:=fun H=>QD s H hs;rw [HC] at *;rcases Classical.em (Lib.indexByte s.data.toList 58 = -1)with h1|h1
 ·simp only [HC,aAh h1] at hC ⊢;refine Bd func117 rfl ntmps117<|Sr<|Dd aS<|Dd aS<|Dd aS<|Zz<|Sr<|Dd aF<|Dd aF<|Dd (by exact aB rfl rfl call144 rfl (hC _))<|Dd dY<|Dd dY<|Dd dY<|Dd aS<|Dd aS<|Dd aS<|Zz<|aM ?_;refine MH (H':=[]) (.inr rfl) rfl (aJ rfl) (aJ rfl) (aJ rfl) (Fin.wk (by simp) trivial trivial) ?_;exact Qq
 simp only [HC,aAg h1] at hC ⊢;refine Bd func117 rfl ntmps117<|Sr<|Dd aS<|Dd aS<|Dd aS<|Zz<|Sr<|Dd aF<|Dd aF<|Dd (by exact aB rfl rfl call144 rfl (hC _))<|Dd dY<|Dd dY<|Dd dY<|Dd aS<|Dd aS<|Dd aS<|Zz<|aM ?_;refine MH (H':=[]) (.inr rfl) rfl (aJ rfl) (aJ rfl) (aJ rfl) (Fin.wk (by simp) trivial trivial) ?_;exact Qq
theorem lU (l:List ByteArray) (H:aA) (hl:(aT l).length < 35184372088832):aH Tryz.prog 99 [.pv (aW l)] H (fun r H'=>r=sv (ofL (aT l))∧H'=H):=by
 refine Pu ?_;have hml:(l.map encStr).length=l.length:=aAi _;have hll:=qE l;refine Bd func99 rfl ntmps99<|Sr<|Dd aS<|Zz<|Sr<|Dd (by exact cC (id:=2001) rfl PM rfl rfl)<|Zz<|Sq<|Sq ?_;refine gA.ent (E':=[(0,.pv (aW l)),(3,.ref 2001 0 0 0)]) (H':=H4 0 [] false) (cA.bld0 ⟨⟨_,rfl,.same (by simp)⟩,⟨_,rfl,.same (by simp;rfl)⟩,trivial⟩) ?_;refine Rg<|Dd aF<|Dd (mZ aP)<|Dd aF<|Zz<|aO ?_;refine wO (fun(k g:Nat) (u:Bool)=>([(3,.ref 2001 0 0 0),(6,.pv (aW l)),(7,iv ((l.map encStr).length:Int)),(8,iv (k:Int))],H4 g (aT (l.take k)) u)) (fun k g u=>k≤l.length) (fun k g u=>l.length - k) 0 0 false (aAz _) ?_ ?_
 ·exact(cA.wk (Ea<|Eb<|Eb<|Eb<|trivial) (Hc (oB rfl rfl)<|Hc (rJ _ _)<|trivial) trivial)
 intro k g u hk;have hle:=zQ l k;refine Sr<|Dd dX<|Zz<|Sq ?_;refine Cn ?_ ?_<;>intro hc1
 ·have hlt:k < l.length:=by have:=aAe hc1;omega
  obtain ⟨s,hs⟩:=aZ hlt;have hi:=dW (f:=encStr) hs;have hle2:=zQ l (k+1);rw [dK hs,uO,aAj,pR,mP] at hle2;have hsz:s.size < 35184372088832:=by omega
  refine aK<|Sq<|aO<|Sr<|Dd (FF cJ)<|Dd (qC aX)<|Dd aS<|Zz<|Rg<|Dd aF<|Dd (BP aL)<|Dd (by exact aB rfl rfl pL rfl (oN (s.size:Int) (by omega) (by omega) _))<|Dd (by exact jG rfl rfl rfl (by have:(⟨#[58]⟩:ByteArray).size=1:=rfl;omega) rfl)<|Dd aF<|Dd (by exact jG rfl rfl rfl (by rw [ByteArray.size_append];have:(⟨#[58]⟩:ByteArray).size=1:=rfl;omega) rfl)<|Dd (by exact aB rfl rfl call86 rfl (rP g (aT (l.take k)) u (oG s) (by rw [mP];omega)))<|Zz<|Rg<|Dd pE<|Dd aF<|Zz ?_;refine⟨k+1,g+1,true,by omega,by omega,?_⟩;rw [dK hs,uO];exact(cA.wk (Ea<|Eb<|Eb<|Eb<|trivial) (Hc (oB rfl rfl)<|Hc (rJ _ _)<|trivial) trivial)
 have hge:k=l.length:=by have:=aAf hc1;omega
 subst hge;rw [List.take_length];exact bI<|Sr<|Dd (by exact aB rfl rfl call88 rfl (V8 g (aT l) u (by omega)))<|Dd aS<|Zz<|aM<|Rt<|Qq
def yD (l:List UInt8):List UInt8:=l.takeWhile fun b=>!decide (b=58)
def xH (l:List UInt8):List UInt8:=(l.dropWhile fun b=>!decide (b=58)).drop 1
def rW (l:List UInt8):Bool:=(((!decide ((58:UInt8)∈l)||gV (ofL (yD l)))||decide (dF (ofL (yD l)) < 0))||decide (((xH l).length:Int) < dF (ofL (yD l))))||!decide (dN (dF (ofL (yD l)))=ofL (yD l))
def L5 (l:List UInt8):Nat:=(dF (ofL (yD l))).toNat
def fD:Nat→List UInt8→List ByteArray→List ByteArray×Bool
 | 0,l,acc=>(acc,true)
 | n+1,l,acc=>if l=[] then(acc,true)else if rW l then([],false)else fD n ((xH l).drop (L5 l)) (acc++[ofL ((xH l).take (L5 l))])
def eF (l:List UInt8):List ByteArray×Bool:=fD l.length l []
theorem E5 {l:List UInt8} (h:l≠[]):(xH l).length < l.length:=by rw [xH,aAx];have:=(List.dropWhile_sublist (l:=l) fun b=>!decide (b=58)).length_le;have:=List.length_pos_iff.2 h;omega
theorem yM:∀ (n m:Nat) (l:List UInt8) (acc:List ByteArray),l.length≤n→l.length≤m→fD n l acc=fD m l acc
 | 0,m,l,acc,h,_=>by
  rw [List.length_eq_zero_iff.1 (Nat.le_zero.1 h)];cases m<;>rfl
 | n+1,0,l,acc,_,h=>by
  rw [List.length_eq_zero_iff.1 (Nat.le_zero.1 h)];rfl
 | n+1,m+1,l,acc,hn,hm=>by
  rw [fD,fD];by_cases h0:l=[]
  ·rw [aAh h0,aAh h0]
  rw [aAg h0,aAg h0];have hlt:=E5 h0;by_cases hb:rW l=true
  ·rw [aAh hb,aAh hb]
  rw [aAg hb,aAg hb];exact yM n m _ _ (by rw [aAx];omega) (by rw [aAx];omega)
theorem wV {l:List UInt8} {acc:List ByteArray} (h0:l≠[]) (hb:rW l=false):fD l.length l acc=fD ((xH l).drop (L5 l)).length ((xH l).drop (L5 l)) (acc++[ofL ((xH l).take (L5 l))]):=by have hlt:=E5 h0;obtain ⟨k,hk⟩:∃ k,l.length=k+1:=⟨l.length - 1,by omega⟩;rw [hk,fD,aAg h0,aAg (by rw [hb];decide)];exact yM _ _ _ _ (by rw [aAx];omega) (aAo _)
theorem IG {l:List UInt8} {acc:List ByteArray} (h0:l≠[]) (hb:rW l=true):fD l.length l acc=([],false):=by have hlt:=E5 h0;obtain ⟨k,hk⟩:∃ k,l.length=k+1:=⟨l.length - 1,by omega⟩;rw [hk,fD,aAg h0,aAh hb]
theorem SF {w r:List UInt8} (h:(58:UInt8)∉w):yD (w++58::r)=w∧xH (w++58::r)=r:=by
 induction w with
 | nil=>exact⟨rfl,rfl⟩
 | cons b w ih =>
  have hb:b≠58:=fun e=>h (by rw [e];exact List.mem_cons_self);obtain ⟨h1,h2⟩:=ih (fun e=>h (List.mem_cons_of_mem _ e));rw [yD] at h1 ⊢;rw [xH] at h2 ⊢;rw [List.cons_append,List.takeWhile_cons,List.dropWhile_cons,aAh (by simp [hb]),aAh (by simp [hb]),h1];exact⟨rfl,h2⟩
theorem SE:∀ {l:List UInt8},(58:UInt8)∉l→yD l=l∧xH l=[]
 | [],_=>⟨rfl,rfl⟩
 | b::l,h=>by
  have hb:b≠58:=fun e=>h (by rw [e];exact List.mem_cons_self);obtain ⟨h1,h2⟩:=SE (l:=l) (fun e=>h (List.mem_cons_of_mem _ e));rw [yD] at h1 ⊢;rw [xH] at h2 ⊢;rw [List.takeWhile_cons,List.dropWhile_cons,aAh (by simp [hb]),aAh (by simp [hb]),h1];exact⟨rfl,h2⟩
theorem VM (l:List UInt8):HC (ofL l)=.tup [sv (ofL (yD l)),sv (ofL (xH l)),bv (decide ((58:UInt8)∈l))]:=by
 rw [HC,bC];by_cases h:Lib.indexByte l 58 = -1
 ·rw [aAh h];have hm:=zT.1 h;rw [(SE hm).1,(SE hm).2,decide_eq_false hm];rfl
 rw [aAg h];obtain ⟨w,r,e1,e2,e3⟩:=zU h;rw [e3,aAt];subst e1;rw [(SF e2).1,(SF e2).2,decide_eq_true (by simp)];have x1:(ofL (w++58::r)).extract 0 w.length=ofL w:=kJ (by rw [fB,bC,bC,List.drop_zero,Nat.sub_zero,List.take_left]);have x2:(ofL (w++58::r)).extract (w.length+1) (ofL (w++58::r)).size=ofL r:=kJ (by
  rw [qI,bC,bC,← List.drop_drop,List.drop_left];rfl)
 rw [x1,x2]
theorem O4 (s:ByteArray) : -9223372036854775808≤dF s∧dF s≤9223372036854775807:=by
 rw [dF,qP];cases e:Lib.atoiAll s.data.toList with
 | ok v=>exact Lib.atoiAll_bounds e
 | range =>
  show _≤Lib.atoiSat _∧Lib.atoiSat _≤_;rw [Lib.atoiSat]
  split
  ·exact⟨by decide,by decide⟩
  exact⟨by decide,by decide⟩
 | _ =>
  show (-9223372036854775808:Int)≤0∧(0:Int)≤9223372036854775807;exact⟨by decide,by decide⟩
theorem Fin.st2 {H1:aA} {id g n:Nat} {ob:Ob} (l:List ByteArray) (v:AV) (hH:H1.get id=some ob) (hg:ob.g=g) (hps:ob.rows=cY l) (hn:n=l.length) (hv:Clo [] v) :
  Fin [] H1 (.tup [.osl id g 0 n,v]) [] (.tup [.pv (aW l),v]):=by
 subst hg hn;exact Fin.fz (id:=id) (ob:=ob) (l.map encStr) hH (hps.trans (nO l)) (.tup rfl (yB (.osl (lZ encStr l)) (yB (.same hv) JX))) rfl trivial trivial
theorem J8 (l:List UInt8):(yD l).length≤l.length∧(xH l).length≤l.length:=by
 constructor
 ·exact(List.takeWhile_sublist _).length_le
 rw [xH,aAx];have:=(List.dropWhile_sublist (l:=l) fun b=>!decide (b=58)).length_le;omega
theorem FW (t:List UInt8) (H:aA) (ht:t.length < 1000000000):aH Tryz.prog 87 [sv (ofL t)] H (fun r H'=>r=.tup [.pv (aW (eF t).1),bv (eF t).2]∧H'=H):=by
 refine Pu ?_;refine Bd func87 rfl ntmps87<|Sr<|Dd aS<|Dd aS<|Zz<|Sr<|Dd (by exact mD (id:=905) (sz:=1) (ty:=9) rfl rfl rfl)<|Zz<|Sq<|aO ?_;refine wP (fun(l:List UInt8) (A:List ByteArray)=>([(0,sv (ofL l)),(4,.osl 905 A.length 0 A.length)],[(905,⟨A.length,1,9,cY A⟩)])) (fun l A=>l.length+A.length≤t.length∧eF t=fD l.length l A) (fun l A=>l.length) t [] ⟨aAo _,rfl⟩ ?_ ?_
 ·exact(cA.wk (Eb<|Ea<|trivial) (Hc (gL _ _)<|trivial) trivial)
 rintro l A ⟨hl,hR⟩;have hls:(ofL l).size=l.length:=bU l;have hcl:=J8 l;have hcut:=fun H=>XM (ofL l) H (by omega);rw [VM] at hcut;have hat:=fun H=>yF (ofL (yD l)) (by rw [bU];omega) H;have hbd:=O4 (ofL (yD l));have hit:=fun H=>oN (dF (ofL (yD l))) hbd.1 hbd.2 H;have hrs:(ofL (xH l)).size=(xH l).length:=bU _;have hbad:rW l=((((!decide ((58:UInt8)∈l)||gV (ofL (yD l)))||decide (dF (ofL (yD l)) < 0))||decide (((xH l).length:Int) < dF (ofL (yD l))))||!decide (dN (dF (ofL (yD l)))=ofL (yD l))):=rfl;have hN:L5 l=(dF (ofL (yD l))).toNat:=rfl;obtain ⟨x,hx⟩:∃ x,x=ofL (yD l):=⟨_,rfl⟩;obtain ⟨v,hv⟩:∃ v,v=dF (ofL (yD l)):=⟨_,rfl⟩;obtain ⟨e,he⟩:∃ e,e=gV (ofL (yD l)):=⟨_,rfl⟩;obtain ⟨o,ho⟩:∃ o,o=decide ((58:UInt8)∈l):=⟨_,rfl⟩;obtain ⟨r,hr⟩:∃ r,r=xH l:=⟨_,rfl⟩;obtain ⟨iv',hiv⟩:∃ y,y=dN v:=⟨_,rfl⟩;simp only [← hv,← he,← ho,← hr] at hcut hat hit hbad hN hbd hrs hcl;simp only [← hx,← hiv] at hcut hat hit hbad;have hlt:=fun h0=>E5 (l:=l) h0;have hst:=fun(h0:l≠[]) hb=>wV (acc:=A) h0 hb;have hbb:=fun(h0:l≠[]) hb=>IG (acc:=A) h0 hb;rw [← hr] at hlt;simp only [← hr] at hst;clear hx hv he ho hr hiv;refine Sq<|Sr<|Dd aF<|Dd (BP aL)<|Dd BR<|Zz ?_;refine Cn ?_ ?_<;>intro hc1
 ·have h0:l≠[]:=fun e=>by have h:=aAe hc1;rw [hls,e] at h;exact absurd h (by decide)
  refine aK<|aO<|Sr<|Dd aF<|Dd (by exact aB rfl rfl call117 rfl (hcut _))<|Dd aF<|Dd dY<|Dd dY<|Dd dY<|Dd aS<|Dd aS<|Dd aS<|Zz<|Sr<|Dd aF<|Dd (by exact aB rfl rfl TU rfl (hat _))<|Dd aF<|Dd dY<|Dd dY<|Dd aS<|Dd aS<|Zz<|Sq<|Sq ?_;refine cV (t:=45) (n:=26) (X:=rW l) ?_ ?_
  ·all_goals refine Dd aF ?_
   all_goals refine Dd A2<|Dm ?_
   all_goals refine Sp 26 (fun h26=>?_) fun h26=>?_
   all_goals(try(with_reducible contradiction))
   all_goals first|refine Fo<|Fo ?_|refine On aF<|On (by exact uF rfl iP rfl) ?_
   all_goals refine Dd fV<|Dm ?_
   all_goals refine Sp 30 (fun h30=>?_) fun h30=>?_
   all_goals(try(with_reducible contradiction))
   all_goals first|refine Fo<|Fo ?_|refine On aF<|On dX ?_
   all_goals refine Dd fV<|Dm ?_
   all_goals refine Sp 34 (fun h34=>?_) fun h34=>?_
   all_goals(try(with_reducible contradiction))
   all_goals first|refine Fo<|Fo<|Fo<|Fo ?_|refine On aF<|On aF<|On (BP aL)<|On BR ?_
   all_goals refine Dd fV<|Dm ?_
   all_goals refine Sp 40 (fun h40=>?_) fun h40=>?_
   all_goals(try(with_reducible contradiction))
   all_goals first|refine Fo<|Fo<|Fo<|Fo ?_|refine On aF<|On (by exact aB rfl rfl pL rfl (hit _))<|On aF<|On QA ?_
   all_goals refine Dd fV<|Zz ?_
   all_goals(exact⟨⟨_,rfl,by rw [hbad];first|(rw [h26];rfl)|(rw [h26,h30];rfl)|(rw [h26,h30,h34,← hrs];rfl)|(rw [h26,h30,h34,← hrs,h40];rfl)⟩,rfl,rfl,rfl⟩)
  refine Cn ?_ ?_<;>intro hc2
  ·have hb:rW l=true:=hc2;rw [hR,hbb h0 hb];refine Sr<|Dd aS<|Dd aS<|Zz<|aM ?_;refine fZ (H':=[]) (.inr rfl) rfl (aJ rfl) (aJ rfl) (Fin.wk (r:=.tup [.pv (aW []),bv false]) (by simp) trivial trivial) ?_;exact Qq
  have hb:rW l=false:=hc2;have hs:=hst h0 hb;have hlt2:=hlt h0;have hb2:=hbad.symm.trans hb;simp only [aBE,aAq] at hb2;obtain ⟨u,rfl⟩:∃ u:Nat,v=(u:Int):=⟨v.toNat,by omega⟩;rw [aAt] at hN;rw [hN] at hs;have hur:u≤r.length:=by omega
  have x1:(ofL r).extract 0 u=ofL (r.take u):=kJ (by rw [fB,bC,bC,List.drop_zero,Nat.sub_zero]);have x2:(ofL r).extract u (ofL r).size=ofL (r.drop u):=kJ (by rw [qI,bC,bC]);have hnl:(A++[ofL (r.take u)]).length=A.length+1:=by rw [aAj];rfl
  refine aK<|bO follows<|Cr [905] (fun _ _=>aF)<|Cr [] (fun _ _=>aF)<|Cr [] (fun _ _=>aF)<|Cr [] (fun H1 hH=>by exact cR (l:=0) (h:=u) rfl aL rfl rfl rfl (aAz _) (by omega) x1)<|Cr [] (fun H1 hH=>by exact bJ [[.str (ofL (r.take u))]] rfl cJ rfl rfl rfl rfl rfl (by intro r hr;rw [aAl] at hr;subst hr;rfl))<|Cp [905] (fun H1 hH=>by exact fQ (ps:=[[.str (ofL (r.take u))]]) rfl cJ PH rfl ((hH _ rfl).trans rfl) rfl rfl rfl (fU _) rfl (by intro r hr;rw [aAl] at hr;subst hr;rfl) (m:=1) rfl (by omega) rfl (lR _ (ofL (r.take u))))<|Cr [] (fun _ _=>aF)<|Cr [] (fun _ _=>aF)<|Cr [] (fun H1 hH=>by exact cR (l:=u) (h:=(ofL r).size) rfl aL rfl rfl rfl (by omega) (aAo _) x2)<|Cr [905] (fun _ _=>aS)<|Cr [] (fun _ _=>aS)<|dC<|Kr ?_;refine⟨r.drop u,A++[ofL (r.take u)],⟨by rw [aAx,hnl];omega,hR.trans hs⟩,by rw [aAx];omega,?_⟩;dsimp only;rw [hnl];exact(cA.wk (Eb<|Ea<|trivial) (Hc (gL _ _)<|trivial) trivial)
 have h0:l=[]:=List.length_eq_zero_iff.1 (by have:=aAf hc1;omega);rw [hR,h0];refine bI<|Sr<|Dd aF<|Dd aS<|Dd aS<|Zz<|aM ?_;refine fZ (H':=[]) (.inr rfl) rfl (aJ rfl) (aJ rfl) (Fin.st2 A (bv true) rfl rfl rfl rfl (by simp)) ?_;exact Qq
def AX (F:FuncId) (caps:List AV) (PR:List ByteArray→Prop) (K:aA):Prop :=∀ (yv:AV) (Hs:List ByteArray→aA),(∀ M,Sub K (Hs M))→(∀ M,(Hs M).get 946=none)→(∀ M,bF (Hs M))→(∀ M,Clo (Hs M) yv) →
  (∀ M x,M.length < 1099511627776→eU Tryz.prog yv [sv x] (Hs M) (fun r H'=>r=bv true∧H'=Hs (M++[x]))) →
  (∀ o M x,M.length < 1099511627776→eU Tryz.prog yv [sv x] ((946,o)::Hs M) (fun r H'=>r=bv true∧H'=(946,o)::Hs (M++[x]))) →
  aH Tryz.prog F (yv::caps) (Hs []) (fun r H'=>r=.tup []∧∃ M,PR M∧H'=Hs M)
def TN:bH:=[(2,.ref 942 0 0 0)]
def TY (M:List ByteArray) (K:aA):aA:=(945,⟨M.length,1,9,cY M⟩)::(942,bx 1 31 [.osl 945 M.length 0 M.length])::K
theorem KM (M:List ByteArray) (s:ByteArray) (K:aA):TY (M++[s]) K=(945,⟨M.length+1,1,9,cY (M++[s])⟩)::(942,bx 1 31 [.osl 945 (M.length+1) 0 (M.length+1)])::K:=by simp [TY]
theorem H7 {M:List ByteArray} {K:aA} {x:Go.Loop} (h:bF K):bF ((944,LR x TN)::TY M K):=by refine bF.app (D:=[(944,LR x TN),(945,⟨M.length,1,9,cY M⟩),(942,bx 1 31 [.osl 945 M.length 0 M.length])]) ?_ h;refine lQ.spec ⟨TJ (by simp [TN];rfl),gL _ _,?_,trivial⟩;intro r hr a ha;simp only [bx,aAl] at hr;subst hr;rw [aAl] at ha;subst ha;exact .osl rfl
theorem KG {F:FuncId} {caps:List AV} {PR:List ByteArray→Prop} (hE:∀ (args:Array Value) (w:World),(callFunc F args).run Tryz.prog w=.ok (.enter F args) w) (K:aA) (hS:AX F caps PR K) (k2:K.get 942=none) (k4:K.get 944=none) (k5:K.get 945=none) (k6:K.get 946=none) (hc:bF K) (hcap:Clo K (.clo F caps)) :
  aH Tryz.prog 125 [.pv .nils,.clo F caps] K (fun r H'=>∃ M,PR M∧r=.osl 945 M.length 0 M.length∧H'=(945,⟨M.length,1,9,cY M⟩)::K):=by
 have k2':aA.get ((945,⟨0,1,9,[]⟩)::K) 942=none:=k2;refine Bd func125 rfl ntmps125 ?_;refine SS (t:=0) (id:=945) (sz:=1) (ty:=9) rfl k5 rfl ?_;refine OY (t:=0) rfl rfl rfl (aAo _) ?_;refine Sr<|Dd (by exact gR (id:=942) rfl rfl rfl rfl k2')<|Dd aS<|Zz<|Sq<|Sr<|Dd aF<|Zz<|aO ?_;refine gA.ent (E':=[(2,.ref 942 0 0 0),(6,.clo F caps)]) (H':=TY [] K) (cA.get' ⟨⟨_,rfl,rfl⟩,⟨_,rfl,rfl⟩,trivial⟩ (fun j=>uU (by decide) j)) ?_;refine wN (id:=944) (p:=7) TN rfl hE rfl k4 (by simp [TN];rfl) ?_;intro x hx1 hx2 hx3 hx4 hx5 hx6;refine(hS (.yld 944 0) (fun M=>(944,LR x TN)::TY M K) (fun M=>?_) (fun M=>k6) (fun M=>H7 hc) (fun M=>by simp;rfl) ?_ ?_).mono ?_
 ·refine Sub.app (D:=[(944,LR x TN),(945,⟨M.length,1,9,cY M⟩),(942,bx 1 31 [.osl 945 M.length 0 M.length])]) ?_;intro p hp;simp only [aAu,aAy,or_false] at hp;rcases hp with rfl|rfl|rfl
  ·exact k4
  ·exact k5
  exact k2
 ·intro M s hM;refine .inl ⟨944,0,rfl,?_⟩;rw [KM];refine DF [(2,.ref 942 0 0 0),(5,sv s)] (TY M K) hx1 hx2 hx3 hx4 hx5 hx6 rfl rfl rfl ?_ ?_
  ·refine Rg<|Da ?_;exact E0
  refine aO<|Rg<|Dd (eA cQ)<|Dd aF<|Dd (by exact bJ [[.str s]] rfl cJ rfl rfl rfl rfl rfl (by intro r hr;rw [aAl] at hr;subst hr;rfl))<|Dd (by exact fQ (ps:=[[.str s]]) rfl cJ PH rfl rfl rfl rfl rfl (fU _) rfl (by intro r hr;rw [aAl] at hr;subst hr;rfl) (m:=1) rfl (by omega) rfl (lR _ s))<|Uu (pS pF)<|Zz ?_;exact⟨(945,⟨M.length+1,1,9,cY (M++[s])⟩)::(942,bx 1 31 [.osl 945 (M.length+1) 0 (M.length+1)])::K,cA.get' trivial (fun j=>nW [_,_,_] [_,_,_,_,_] (by repeat(first|exact trivial|refine⟨rfl,?_⟩)) j),rfl,rfl⟩
 ·intro o M s hM;refine eU.congrG (H1:=(944,LR x TN)::(946,o)::TY M K) (K1:=(944,LR x TN)::(946,o)::TY (M++[s]) K) (.inl ⟨944,0,rfl,?_⟩) (fun j=>uU (by decide) j) (fun j=>uU (by decide) j);rw [KM];refine DF [(2,.ref 942 0 0 0),(5,sv s)] ((946,o)::TY M K) hx1 hx2 hx3 hx4 hx5 hx6 rfl rfl rfl ?_ ?_
  ·refine Rg<|Da ?_;exact E0
  refine aO<|Rg<|Dd (eA cQ)<|Dd aF<|Dd (by exact bJ [[.str s]] rfl cJ rfl rfl rfl rfl rfl (by intro r hr;rw [aAl] at hr;subst hr;rfl))<|Dd (by exact fQ (ps:=[[.str s]]) rfl cJ PH rfl rfl rfl rfl rfl (fU _) rfl (by intro r hr;rw [aAl] at hr;subst hr;rfl) (m:=1) rfl (by omega) rfl (lR _ s))<|Uu (pS pF)<|Zz ?_;exact⟨(946,o)::(945,⟨M.length+1,1,9,cY (M++[s])⟩)::(942,bx 1 31 [.osl 945 (M.length+1) 0 (M.length+1)])::K,cA.get' trivial (fun j=>nW [_,_,_,_] [_,_,_,_,_,_] (by repeat(first|exact trivial|refine⟨rfl,?_⟩)) j),rfl,rfl⟩
 rintro r H' ⟨rfl,M,hM,rfl⟩;refine⟨x,_,rfl,by rw [hx1];decide,rfl,fun z=>?_⟩;rw [hx2];refine Sr<|Dd (eA cQ)<|Dd aS<|Zz<|aM ?_;refine bD (H':=((945,⟨M.length,1,9,cY M⟩)::K)) (.inr rfl) rfl (aJ rfl) (Fin.front' [(944,LR z TN),(945,⟨M.length,1,9,cY M⟩),(942,bx 1 31 [.osl 945 M.length 0 M.length])] [(945,⟨M.length,1,9,cY M⟩)] (.osl rfl) (by simp [k2,k4,aA.get]) (by intro p hp;rw [aAl] at hp;subst hp;rfl) (lQ.spec ⟨gL _ _,trivial⟩) hc (by simp [k2,k4,aA.get])) ?_;exact⟨M,hM,rfl,rfl⟩
theorem HI {F:FuncId} {caps:List AV} {PR:List ByteArray→Prop} (hE:∀ (args:Array Value) (w:World),(callFunc F args).run Tryz.prog w=.ok (.enter F args) w) (K:aA) (hS:AX F caps PR K) (k2:K.get 942=none) (k4:K.get 944=none) (k5:K.get 945=none) (k6:K.get 946=none) (hc:bF K) (hcap:Clo K (.clo F caps)) :
  aH Tryz.prog 95 [.clo F caps] K (fun r H'=>∃ M,PR M∧r=.osl 945 M.length 0 M.length∧H'=(945,⟨M.length,1,9,cY M⟩)::K):=by
 refine Bd func95 rfl ntmps95<|Sr<|Dd aS<|Zz<|Sr<|Dm ?_;refine gJ rfl rfl (DX rfl rfl call125 rfl (KG hE K hS k2 k4 k5 k6 hc hcap)) ?_;rintro r H' ⟨M,hM,rfl,rfl⟩;refine Dd aS<|Zz<|aM ?_;refine bD (H':=((945,⟨M.length,1,9,cY M⟩)::K)) (.inr rfl) rfl (aJ rfl) Fin.refl ?_;exact⟨M,hM,rfl,rfl⟩
theorem DK (l:List ByteArray):dP l=(l.map encStr).map (·.map .pv):=by rw [List.map_map];rfl
theorem DL {F:FuncId} {caps:List AV} {L:List ByteArray} (hL:L.length < 1099511627776) (hE:∀ (args:Array Value) (w:World),(callFunc F args).run Tryz.prog w=.ok (.enter F args) w) (K:aA) (hS:AX F caps (fun M=>M.Perm L) K) (k2:K.get 942=none) (k4:K.get 944=none) (k5:K.get 945=none) (k6:K.get 946=none) (hc:bF K) (hcap:Clo K (.clo F caps)) :
  aH Tryz.prog 48 [.clo F caps] K (fun r H'=>r=.pv (aW (cU L))∧H'=K):=by
 refine Bd func48 rfl ntmps48<|Sr<|Dd aS<|Zz<|Sr<|Dm ?_;refine gJ rfl rfl (aB rfl rfl call95 rfl (HI hE K hS k2 k4 k5 k6 hc hcap)) ?_;rintro r H' ⟨M,hperm,rfl,rfl⟩;have hMl:M.length < 4611686018427387904:=by rw [hperm.length_eq];omega
 have hSo:=yO hperm;have hSl:(cU M).length=M.length:=by rw [cU,aAi,List.length_mergeSort,aAi]
 refine Dd aS<|Zz<|Sr<|Dd aF<|Dd (by exact aB rfl rfl call96 rfl (B5 M rfl rfl hMl))<|Zz<|Sr<|Dd aF<|Dd aS<|Zz<|aM ?_;refine bD (H':=K) (.inr rfl) rfl (aJ rfl) (Fin.slice [(945,⟨M.length,1,9,dP (cU M)⟩),(945,⟨M.length,1,9,cY M⟩)] ((cU M).map encStr) rfl rfl (DK _) (by rw [aAi,hSl]) hc (by simp [k5]) (by simp [k5]) k5) ?_;exact⟨by rw [← hSo];rfl,rfl⟩
abbrev bP:=List (ByteArray×ByteArray×Nat)
def dT (l:bP) (c:Nat):Prop:=(l.map fun p=>p.2.2).Pairwise (· < ·)∧∀ p∈l,p.2.2 < c
def kP (l:bP) (i:Nat):Nat:=((l[i]?).map fun p=>p.2.2).getD 0
theorem IE {l:bP} {c:Nat} (h:dT l c) {i j:Nat} (hi:i < l.length) (hj:j < l.length) (e:kP l i=kP l j):i=j:=by
 have hp:=List.pairwise_iff_getElem.1 h.1;rw [kP,kP,aAn hi,aAn hj] at e;have e:(l[i]).2.2=(l[j]).2.2:=e;rcases Nat.lt_trichotomy i j with h1|h1|h1
 ·have:=hp i j (by simpa using hi) (by simpa using hj) h1;simp at this;omega
 ·exact h1
 have:=hp j i (by simpa using hj) (by simpa using hi) h1;simp at this;omega
def GR (mid:Nat) (l:bP) (c:Nat) (s:List Nat):Ob:=⟨0,0,0,eJ (.mp mid 0) c c (s.map (kP l))⟩
abbrev TQ (mid:Nat):Ob:=bx 1 33 [.mp mid 0]
theorem LZ {H:aA} {mid:Nat} (h:(H.get mid).isSome=true) (l:bP) (c:Nat) (s:List Nat):∀ r∈(GR mid l c s).rows,∀ x∈r,Clo H x:=by
 intro r hr x hx;rw [GR,eJ] at hr;rcases aAu.1 hr with rfl|hr
 ·simp only [aAu,aAy,or_false] at hx;rcases hx with rfl|rfl|rfl
  ·exact .mp h
  ·exact .pv _
  exact .pv _
 obtain ⟨n,_,rfl⟩:=List.mem_map.1 hr;rw [aAl] at hx;subst hx;exact .pv _
theorem wD {l:bP} {i:Nat} {q:ByteArray×AV×Nat} (h:(bR l)[i]?=some q):∃ p,l[i]?=some p∧q=(p.1,sv p.2.1,p.2.2):=by
 rw [bR,aBC] at h;cases e:l[i]? with
 | none=>rw [e] at h;cases h
 | some p=>rw [e] at h;cases h;exact⟨p,rfl,rfl⟩
def rS (l:bP) (s:List Nat):List ByteArray:=pick (l.map Prod.fst) s
theorem I6 {l:bP} {s:List Nat} {i:Nat} {p:ByteArray×ByteArray×Nat} (h:l[i]?=some p):rS l (s++[i])=rS l s++[p.1]:=by simp only [rS,pick,List.map_append,List.map_cons,List.map_nil,aBC,h,Option.map_some,Option.getD_some]
theorem NH (l:bP) (s:List Nat):(rS l s).length=s.length:=aAi _
theorem LU (mid:Nat) (l:bP) (c:Nat) (K:aA) (hl:l.length < 1099511627776) (hst:dT l c) (h1:K.get 951=some (TQ mid)) (h2:K.get mid=some (bB l c)) (hm6:mid≠946):AX 105 [.ref 951 0 0 0] (fun M=>M.Perm (l.map Prod.fst)) K:=by
 intro yv Hs hK h6 hcl hf hy0 hy1;have g1:∀ M,(Hs M).get 951=some (TQ mid):=fun M=>hK M _ _ h1;have g2:∀ M,(Hs M).get mid=some (bB l c):=fun M=>hK M _ _ h2;have g2':∀ o M,aA.get ((946,o)::Hs M) mid=some (bB l c):=fun o M=>by rw [get_cons_other _ _ hm6];exact g2 M
 refine Bd func105 rfl ntmps105<|Sr<|Dd (by exact aY rfl bS rfl (g1 []) rfl rfl rfl)<|Dd (by exact EP (q:=946) (κ:=fR) rfl aV rfl (g2 []) rfl rfl rfl (h6 []))<|Zz<|aO ?_;refine bL (σ:=List Nat) (fun s=>([(0,yv),(5,.it 946 0)],(946,GR mid l c s)::Hs (rS l s))) (fun s=>s.Nodup∧∀ i,i∈s→i < l.length) (fun s=>l.length - s.length) [] ⟨List.nodup_nil,by simp⟩ ?_ ?_
 ·exact E0
 rintro s ⟨hd,hb⟩;have hsl:s.length≤l.length:=kU _ _ hd hb;refine Sq<|Rg ?_;refine gJ rfl rfl (JW (κ:=fR) (l:=bR l) rfl rfl (get_cons_same _ _ _) rfl rfl (g2' _ _) rfl rfl rfl (aAo _) (aAo _)) ?_;rintro _ _ (⟨rfl,rfl,hn0⟩|⟨hni,hnp,hn1,hn2,rfl,rfl⟩)
 ·refine Dd dY<|Zz<|Sq ?_;refine Cn ?_ ?_<;>intro hc1
  ·cases hc1
  refine bI ?_;have hall:∀ i,i < l.length→i∈s:=fun i hi=>by
   have hq:(bR l)[i]?=some ((l[i]).1,sv (l[i]).2.1,(l[i]).2.2):=by rw [bR,aBC,aAn hi];rfl
   have:=hn0 _ (aAs hq);obtain ⟨j,hj,e⟩:=List.mem_map.1 this;have e2:kP l j=kP l i:=by
    rw [e,kP,aAn hi];rfl
   have:=IE hst (hb j hj) hi e2
   rwa [this] at hj
  exact fS (H':=Hs (rS l s)) (.inl rfl) rfl (Fin.pops' [(946,GR mid l c s)] (by simp) (hcl _) (by simp [h6]) (by simp [h6])) ⟨rfl,rS l s,QU hd (by rw [aAi];exact hb) (by rw [aAi];exact hall),rfl⟩
 obtain ⟨p,hp,rfl⟩:=wD hn1;have hlt:hni < l.length:=(aAm.1 hp).1;have hst2:kP l hni=p.2.2:=by rw [kP,hp];rfl
 have hn3:hni∉s:=fun hm=>hn2 (List.mem_map.2 ⟨hni,hm,hst2⟩);have hb2:∀ i,i∈s++[hni]→i < l.length:=fun i hi=>by
  rcases List.mem_append.1 hi with h|h
  ·exact hb i h
  rw [aAl] at h;omega
 have hd2:(s++[hni]).Nodup:=List.nodup_append.2 ⟨hd,by simp,fun a ha b hb e=>by rw [aAl] at hb;subst hb;subst e;exact hn3 ha⟩;have hlen:=kU _ _ hd2 hb2;rw [aAj,List.length_singleton] at hlen;have hit:GR mid l c (s++[hni])=⟨0,0,0,eJ (.mp mid 0) c c (s.map (kP l)++[p.2.2])⟩:=by rw [GR,List.map_append,List.map_cons,List.map_nil,hst2]
 have hyy:=hy1 (GR mid l c (s++[hni])) (rS l s) p.1 (by rw [NH];omega);rw [← I6 hp] at hyy;refine Dd dY<|Zz<|Sq ?_;refine Cn ?_ ?_<;>intro hc2
 ·refine aK<|aO<|Sr<|Dd (by exact EQ (κ:=fR) (seen:=s.map (kP l)) (p:=(p.1,sv p.2.1,p.2.2)) (since:=c) rfl rfl (get_cons_same _ _ _) rfl rfl ((get_cons_other _ _ hm6).trans (g2' _ _)) rfl rfl rfl hn1)<|Dd dY<|Dd aS<|Zz<|Sq ?_;refine gA.ent (E':=[(0,yv),(5,.it 946 0),(3,sv p.1)]) (H':=(946,GR mid l c (s++[hni]))::Hs (rS l s)) (cA.get' ⟨⟨_,rfl,rfl⟩,⟨_,rfl,rfl⟩,⟨_,rfl,rfl⟩,trivial⟩ (fun j=>by rw [hit];exact iG 946 _ (GR mid l c s) (Hs (rS l s)) j)) ?_;refine Rg<|Dd aF<|Dd aF<|Dd (by exact gQ rfl rfl rfl (hyy))<|Dd A2<|Zz ?_;refine Cn ?_ ?_<;>intro hc3
  ·cases hc3
  refine aK ?_;refine⟨s++[hni],⟨hd2,hb2⟩,by rw [aAj,List.length_singleton];omega,?_⟩;exact E0
 cases hc2
theorem B1 (l:List ByteArray) (K:aA) (hl:l.length < 1099511627776) (h1:K.get 951=some (bx 1 31 [.pv (aW l)])):AX 97 [.ref 951 0 0 0] (fun M=>M.Perm l) K:=by
 intro yv Hs hK h6 hcl hf hy0 hy1;have g1:∀ M,(Hs M).get 951=some (bx 1 31 [.pv (aW l)]):=fun M=>hK M _ _ h1;have hml:(l.map encStr).length=l.length:=aAi _;refine Bd func97 rfl ntmps97<|Sr<|Dd (by exact aY rfl cQ rfl (g1 []) rfl rfl rfl)<|Dd (mZ aP)<|Dd aF<|Zz<|aO ?_;refine bL (σ:=Nat) (fun i=>([(0,yv),(5,.pv (aW l)),(6,iv ((l.map encStr).length:Int)),(7,iv (i:Int))],Hs (l.take i))) (fun i=>i≤l.length) (fun i=>l.length - i) 0 (aAz _) ?_ ?_
 ·exact E0
 rintro i hi;refine Sr<|Dd dX<|Zz<|Sq ?_;refine Cn ?_ ?_<;>intro hc1
 ·have hlt:i < l.length:=by have:=aAe hc1;omega
  obtain ⟨s,hs⟩:=aZ hlt;have his:=dW (f:=encStr) hs;have hyy:=hy0 (l.take i) s (by rw [aAw];omega);rw [← dK hs] at hyy;refine aK<|Sq<|aO<|Sr<|Dd (FF cJ)<|Dd (qC aX)<|Dd aS<|Zz<|Sr<|Dd aF<|Dd aF<|Dd (by exact gQ rfl rfl rfl (hyy))<|Dd A2<|Zz ?_;refine Cn ?_ ?_<;>intro hc2
  ·cases hc2
  refine aK<|Rg<|Dd pE<|Dd aF<|Zz ?_;exact⟨i+1,by omega,by omega,E0⟩
 have hge:i=l.length:=by have:=aAf hc1;omega
 subst hge;refine bI ?_;exact fS (H':=Hs (l.take l.length)) (.inl rfl) rfl Fin.refl ⟨rfl,_,by rw [List.take_length],rfl⟩
theorem LS (mid:Nat) (H:aA) (h1:H.get 951=none) (hm:(H.get mid).isSome=true) :
  aH Tryz.prog 55 [.mp mid 0] H (fun r H'=>r=.clo 105 [.ref 951 0 0 0]∧H'=(951,TQ mid)::H):=by
 refine Bd func55 rfl ntmps55<|Sr<|Dd (by exact gR (id:=951) rfl rfl rfl rfl h1)<|Dd aS<|Zz<|Sr<|Dd (by exact fA rfl rfl)<|Dd aS<|Zz<|aM ?_;refine bD (H':=((951,TQ mid)::H)) (.inr rfl) rfl (aJ rfl) Fin.refl ?_;exact Qq
def dJ:bP→ByteArray→ByteArray
 | [],_=>⟨#[]⟩
 | (k',v,_)::r,k=>if k'=k then v else dJ r k
theorem EB (k:ByteArray):∀ l:bP,(mE (GZ (bR l)) k).getD (sv ⟨#[]⟩)=sv (dJ l k)
 | []=>rfl
 | (k',v,n)::r=>by
  show (if k'=k then some (sv v)else mE (GZ (bR r)) k).getD (sv ⟨#[]⟩)=sv (if k'=k then v else dJ r k)
  split
  ·rfl
  exact EB k r
theorem W7 {P:Program} {N:Nat} {o:Oper} {E:bH} {H:aA} {T kt et:TypeId} {x y:Operand} {zv:Value} {id g:Nat} {ob:Ob} {l:bP} {k:ByteArray} (ho:o.op=.lookup T x y false) (hT:P.underlying T=some (.map kt et)) (hd:P.underlying kt=some .string) (hx:aN E x=some (.mp id g)) (hH:H.get id=some ob) (hg:ob.g=g)
  (hrows:ob.rows=fL fR (bR l)) (hy:aN E y=some (sv k)) (hz:∀ w,(zeroValue et).run P w=.ok zv w) (hv:ZV zv (sv ⟨#[]⟩)):bW P N o E H (sv (dJ l k)) H:=by
 have h:=RT (N:=N) (κ:=fR) ho hT hd hx hH hg hrows hy hz hv
 rwa [EB] at h
theorem tQ (s u:ByteArray):∀ r∈([[.str s],[.str u]]:List (List PV)),r.length=1:=by intro r hr;simp only [aAu,aAy,or_false] at hr;rcases hr with rfl|rfl<;>rfl
def wZ (l:bP) (S:List ByteArray) (k:Nat):List ByteArray:=dN ((bR l).length:Int)::(S.take k).flatMap fun x=>[x,dJ l x]
theorem T5 {l:bP} {S:List ByteArray} {k:Nat} {s:ByteArray} (h:S[k]?=some s):wZ l S (k+1)=wZ l S k++[s,dJ l s]:=by rw [wZ,wZ,dK h,List.flatMap_append];rfl
theorem gT {α β:Type} (f g:α→β):∀ S:List α,(S.flatMap fun x=>[f x,g x]).length=2*S.length
 | []=>rfl
 | x::r=>by
  have h:=gT f g r;rw [List.flatMap_cons,aAj,h];simp only [aAk,List.length_nil];omega
theorem PY {l:bP} {S:List ByteArray} {k:Nat} (h:k≤S.length):(wZ l S k).length=1+2*k:=by rw [wZ,aAk,gT,aAw];omega
def cT (l:bP):List ByteArray:=cU (l.map Prod.fst)
def cK (l:bP) (P:List ByteArray):List ByteArray:=(wZ l (cT l) (cT l).length++[dN ((P.map encStr).length:Int)])++P
def bE (l:bP) (P:List ByteArray):List UInt8:=aT [ofL (aT (cK l P))]
theorem iV (l:bP):(cT l).length=l.length:=by rw [cT,cU,aAi,List.length_mergeSort,aAi,aAi]
theorem yH (A B:List ByteArray):cY A++(B.map encStr).map (·.map AV.pv)=cY (A++B):=by rw [cY,cY,List.map_append,List.map_map];rfl
theorem yI (A B:List ByteArray):cY A++B.map (fun s=>[.pv (.str s)])=cY (A++B):=by rw [cY,cY,List.map_append]
abbrev tK (g:Nat) (W:List ByteArray) (l:bP) (c:Nat):aA:=[(951,TQ 950),(920,⟨g,1,9,cY W⟩),(950,bB l c)]
theorem WR (g:Nat) (W:List ByteArray) (l:bP) (c:Nat):bF (tK g W l c):=bF.of (fun p hp=>by
 simp only [aAu,aAy,or_false] at hp;rcases hp with rfl|rfl|rfl
 ·intro r hr x hx;simp only [bx,aAl] at hr;subst hr;rw [aAl] at hx;subst hx;exact .mp rfl
 ·exact gL _ _
 exact aR _ _ _)
theorem tR {l:bP} {P:List ByteArray} {N:Nat} (h:(bE l P).length < N):(aT (cK l P)).length < N:=by
 have e:bE l P=(oG (ofL (aT (cK l P)))).data.toList:=by rw [bE,aT,List.flatMap_cons,List.flatMap_nil,List.append_nil]
 rw [e,pR,mP,bU] at h;omega
theorem LX {W:List ByteArray} {g n:Nat} {H:aA} (hW:(aT W).length < 35184372088832) (hH:H.get 920=some ⟨g,1,9,cY W⟩) (hn:n=W.length):aH Tryz.prog 99 [.osl 920 g 0 n] H (fun x H'=>x=sv (ofL (aT W))∧H'=H):=by subst hn;exact RO.calls (RO.lend (id:=920) (H1:=[]) (W.map encStr) (RO.of (lU W [] hW) rfl) hH (nO W) rfl (yB (.osl (lZ encStr W)) JX) (fun _ _ h=>by cases h) (fun _ _ h=>by cases h) rfl)
theorem KS (l:bP) (c:Nat) (P:List ByteArray) (hst:dT l c) (hl:l.length < 1099511627776) (hP:P.length < 1099511627776) (hsz:(bE l P).length < 35184372088832) :
  aH Tryz.prog 50 [.mp 950 0,.pv (aW P)] [(950,bB l c)] (fun r H'=>r=sv (ofL (bE l P))∧H'=[(950,bB l c)]):=by
 have hsl:=iV l;have hso:=DL (L:=l.map Prod.fst) (by rw [aAi];exact hl) aAG (tK 0 [dN ((bR l).length:Int)] l c) (LU 950 l c _ hl hst rfl rfl (by decide)) rfl rfl rfl rfl (WR _ _ _ _) (by simp;rfl);have hin:=tR hsz;have hgl:(bR l).length=l.length:=aAi _;have hml:((cT l).map encStr).length=(cT l).length:=aAi _;have hpl:(P.map encStr).length=P.length:=aAi _;change aH _ _ _ _ fun r H'=>r=.pv (aW (cT l))∧H'=_ at hso;refine Bd func50 rfl ntmps50<|Sr<|Dd aS<|Zz<|Sr<|Dd aF<|Dd (by exact xD (κ:=fR) (l:=bR l) rfl aV rfl rfl rfl rfl)<|Dd (by exact aB rfl rfl pL rfl (oN ((bR l).length:Int) (by omega) (by omega) _))<|Dd (by exact jU (id:=920) rfl cJ rfl rfl rfl rfl (show ∀ r∈cY [dN ((bR l).length:Int)],r.length=1 from by intro r hr;rw [aAl.1 hr];rfl) rfl)<|Dd aS<|Zz<|Sq<|Sr<|Dd aF<|Dd (by exact aB rfl rfl aAS rfl (LS 950 _ rfl rfl))<|Dd (by exact aB rfl rfl FD rfl (hso))<|Dd (mZ aP)<|Dd aF<|Zz<|aO ?_;refine bL (σ:=Nat) (fun k=>([(0,.mp 950 0),(1,.pv (aW P)),(5,.osl 920 k 0 (1+2*k)),(14,.pv (aW (cT l))),(15,iv (((cT l).map encStr).length:Int)),(16,iv (k:Int))],tK k (wZ l (cT l) k) l c)) (fun k=>k≤(cT l).length) (fun k=>(cT l).length - k) 0 (aAz _) ?_ ?_
 ·exact E0
 intro k hk;refine Sr<|Dd dX<|Zz<|Sq ?_;refine Cn ?_ ?_<;>intro hc1
 ·have hlt:k < (cT l).length:=by have:=aAe hc1;omega
  obtain ⟨s,hs⟩:=aZ hlt;have hi:=dW (f:=encStr) hs;have hwl:=PY (l:=l) hk;refine aK<|Sq<|aO<|Sr<|Dd (FF cJ)<|Dd (qC aX)<|Dd aS<|Zz<|Rg<|Dd aF<|Dd aF<|Dd aF<|Dd aF<|Dd (by exact W7 (l:=l) (k:=s) rfl aV aL rfl rfl rfl rfl rfl fE (.inl rfl))<|Dd (by exact bJ [[.str s],[.str (dJ l s)]] rfl cJ rfl rfl rfl rfl rfl (tQ s (dJ l s)))<|Dd (by exact fQ (k:=1+2*(k+1)) (ps:=[[.str s],[.str (dJ l s)]]) rfl cJ PH rfl rfl rfl rfl rfl ((fU _).trans hwl) rfl (tQ _ _) (m:=2) rfl (by omega) (by omega) (yI _ [s,dJ l s]))<|Dd aS<|Zz<|Rg<|Dd pE<|Dd aF<|Zz ?_;refine⟨k+1,by omega,by omega,?_⟩;rw [T5 hs];exact(cA.wk (Ea<|Eb<|Ea<|Eb<|Eb<|Eb<|trivial) (Ha<|Hc (gL _ _)<|Hc (aR _ _ _)<|trivial) ⟨rfl,trivial⟩)
 have hge:k=(cT l).length:=by have:=aAf hc1;omega
 subst hge;have hwl:=PY (l:=l) (aAo (cT l).length);refine bI<|Sr<|Dd aF<|Dd aF<|Dd (mZ aP)<|Dd (by exact aB rfl rfl pL rfl (oN ((P.map encStr).length:Int) (by omega) (by omega) _))<|Dd (by exact bJ [[.str (dN ((P.map encStr).length:Int))]] rfl cJ rfl rfl rfl rfl rfl (by intro r hr;rw [aAl] at hr;subst hr;rfl))<|Dd (by exact fQ (ps:=[[.str (dN ((P.map encStr).length:Int))]]) rfl cJ PH rfl rfl rfl rfl rfl ((fU _).trans hwl) rfl (by intro r hr;rw [aAl] at hr;subst hr;rfl) (m:=1) rfl (by omega) rfl (lR _ _))<|Dd aS<|Zz<|Sr<|Dd aF<|Dd aF<|Dd (by exact fQ (ps:=P.map encStr) rfl cJ PH rfl rfl rfl rfl rfl ((fU _).trans (by rw [aAj,hwl];rfl)) rfl (by intro r hr;obtain ⟨q,_,rfl⟩:=List.mem_map.1 hr;rfl) (m:=P.length) hpl (by omega) rfl (yH _ P))<|Dd (by exact aB rfl rfl pK rfl (LX (W:=cK l P) hin rfl (by rw [cK,aAj,aAj,hwl];rfl))) ?_;refine Dd (by exact bJ [[.str (ofL (aT (cK l P)))]] rfl cJ rfl rfl rfl rfl rfl (by intro r hr;rw [aAl] at hr;subst hr;rfl))<|Dd (by exact aB rfl rfl pK rfl (lU [ofL (aT (cK l P))] _ hsz))<|Dd aS<|Zz<|aM ?_;refine bD (H':=[(950,bB l c)]) (.inr rfl) rfl (aJ rfl) (Fin.wk (by(simp;done)) (Hc (aR _ _ _)<|trivial) ⟨rfl,trivial⟩) ?_;exact Qq
end Go.Proofs.YtmkgeogoojcciaaGreatDoor
namespace Go.Proofs.YtmkgeogoojcciaaGreatDoor
open Go.Proofs.Tryz
open Go.Abs Go.Lib
theorem W9 (x y:Nat) (hx:x < 18446744073709551616) (hy:y < 18446744073709551616) (H:aA):aH Tryz.prog 132 [uv x,uv y] H (fun r H'=>r=.tup [uv (x*y / 18446744073709551616),uv (x*y % 18446744073709551616)]∧H'=H):=by
 refine Pu ?_;refine Bd func132 rfl ntmps132<|Sr<|Dd aS<|Dd aS<|Zz<|Sq ?_;refine Cn ?_ ?_<;>intro hc1
 ·cases hc1
 exact aK<|Sr<|Dd aF<|Dd aF<|Dd (by exact aB rfl rfl aAF rfl (zJ x y hx hy _))<|Dd aF<|Dd dY<|Dd dY<|Dd aS<|Dd aS<|Zz<|Sr<|Dd aF<|Dd aF<|Dd aS<|Dd aS<|Zz<|aM<|Ru<|Qq
theorem AK (t:List UInt8) (ht:t.length < 1000000000000) (H:aA):aH Tryz.prog 51 [sv (ofL t)] H (fun r H'=>r=iv (cZ t:Int)∧H'=H):=by
 refine Pu ?_;have hs:(ofL t).size=t.length:=bU t;have hq:IntKind.i64.wrap ((((ofL t).size:Int)+46 - 1).tdiv 46)=(cZ t:Int):=by
  rw [hs,Int.tdiv_eq_ediv_of_nonneg (by omega),iU (by omega) (by omega),cZ];omega
 exact Bd func51 rfl ntmps51<|Sr<|Dd aS<|Zz<|Sr<|Dd aF<|Dd (BP aL)<|Dd pE<|Dd (by exact eC rfl rfl rfl (by exact iU (by omega) (by omega)))<|Dd (by exact oH rfl rfl rfl (by decide) hq)<|Dd aS<|Zz<|aM<|Rt<|Qq
theorem Fin.st1 {H1:aA} {id g n:Nat} {ob:Ob} (l:List ByteArray) (hH:H1.get id=some ob) (hg:ob.g=g) (hps:ob.rows=cY l) (hn:n=l.length) :
  Fin [] H1 (.osl id g 0 n) [] (.pv (aW l)):=by
 subst hg hn;exact Fin.fz (id:=id) (ob:=ob) (l.map encStr) hH (hps.trans (nO l)) (.osl (lZ encStr l)) rfl trivial trivial
def iC (z:ByteArray) (m n:Nat):List (List AV):=List.replicate m [sv z]++List.replicate (n - m) [sv sNil]
theorem N8 {z:ByteArray} {m n:Nat} (h:m≤n):(iC z m n).length=n:=by rw [iC,aAj,List.length_replicate,List.length_replicate];omega
theorem J1 {z:ByteArray} {m n j:Nat} (h:m≤n) (hj:j=min (n - m) m):(iC z m n).take m++(((iC z m n).take j)++(iC z m n).drop (m+j))=iC z (m+j) n:=by
 have hjm:j≤m:=by omega
 have h1:(iC z m n).take m=List.replicate m [sv z]:=by rw [iC,List.take_left' List.length_replicate]
 have h2:(iC z m n).take j=List.replicate j [sv z]:=by
  rw [iC,List.take_append_of_le_length (by rw [List.length_replicate];exact hjm),List.take_replicate,Nat.min_eq_left hjm]
 have h3:(iC z m n).drop (m+j)=List.replicate (n - (m+j)) [sv sNil]:=by
  rw [iC,← List.drop_drop,List.drop_left' List.length_replicate,List.drop_replicate,Nat.sub_sub]
 rw [h1,h2,h3,iC,← List.append_assoc,List.replicate_append_replicate]
theorem CZ {H:aA} {z:ByteArray} {m n:Nat}:∀ r∈iC z m n,∀ a∈r,Clo H a:=by intro r hr a ha;rcases List.mem_append.1 hr with h|h<;>rw [List.eq_of_mem_replicate h,aAl] at ha<;>subst ha<;>exact .pv _
theorem NA (z:ByteArray) (n:Nat) (hn:n < 100000) (H:aA):aH Tryz.prog 106 [.pv (aW [z]),iv (n:Int)] H (fun r H'=>r=.pv (aW (List.replicate n z))∧H'=H):=by
 refine Pu ?_;have hmul:=fun H=>W9 1 n (by omega) (by omega) H;have e1:1*n / 18446744073709551616=0:=by omega
 have e2:1*n % 18446744073709551616=n:=by omega
 rw [e1,e2] at hmul;have hz0:((List.replicate n [sv sNil]:List (List AV))).take 0++((([[.str z]]:List (List PV)).take (min 1 n)).map (·.map .pv)++(List.replicate n [sv sNil]).drop (0+min 1 n))=iC z (min 1 n) n:=by
  rw [List.take_zero,List.nil_append,List.drop_replicate,iC,aBA];rcases(show min 1 n=0∨min 1 n=1 by omega)with e|e<;>rw [e]<;>rfl
 refine Bd func106 rfl ntmps106<|Sr<|Dd aS<|Zz<|Sq<|Sr<|Dd aF<|Dd dX<|Zz ?_;refine Cn ?_ ?_<;>intro hc1
 ·(have:=aAe hc1;omega)
 refine aK<|Sr<|Dd aF<|Dd (mZ aP)<|Dd (by exact eD rfl bT eO rfl (show IntKind.u64.wrap (1:Int)=1 by rfl))<|Dd aF<|Dd (by exact eD rfl bT eO rfl (show IntKind.u64.wrap (n:Int)=(n:Int)by rw [IntKind.wrap_u64];omega))<|Dd (by exact aB rfl rfl call132 rfl (hmul _))<|Dd aF<|Dd dY<|Dd dY<|Dd aS<|Dd aS<|Zz<|Sq<|Sq ?_;refine cV (t:=26) (n:=7) (X:=false) ?_ ?_
 ·all_goals refine Dd aF ?_
  all_goals refine Dd BR<|Dm ?_
  all_goals refine Sp 23 (fun h23=>?_) fun h23=>?_
  all_goals try contradiction
  all_goals refine On aF<|On BR<|Dd fV<|Zz ?_
  all_goals(exact⟨⟨_,rfl,by simp;omega⟩,rfl,rfl,rfl⟩)
 refine Cn ?_ ?_<;>intro hc2
 ·cases hc2
 refine aK<|Sr<|Dd aF<|Dd (by exact eD rfl eO bT rfl (iU (by omega) (by omega)))<|Dd (by exact kN (id:=960) rfl cJ PH zo9 rfl rfl rfl (by omega) (by omega) (by exact aAt _) (by exact aAt _) (by omega) rfl)<|Dd aS<|Zz<|Sr<|Dd aF<|Dd aF<|Dd (by exact PS (n:=min 1 n) rfl cJ (AG rfl rfl rfl) rfl rfl rfl (aAz _) (MU (len:=1) (ps:=[[.str z]]) (k:=min 1 n) rfl (by decide) (by intro r hr;rw [aAl] at hr;subst hr;rfl) rfl (by omega) rfl) (by intro r hr;obtain ⟨q,hq,rfl⟩:=List.mem_map.1 hr;have:=List.mem_of_mem_take hq;rw [aAl] at this;subst this;rfl) (by rw [aAi,aAw];show min (min 1 n) 1=min 1 n;omega) rfl hz0)<|Dd aS<|Zz<|Sq<|aO ?_;refine bL (σ:=Nat) (fun m=>([(7,.osl 960 0 0 n),(8,iv (m:Int))],[(960,⟨0,1,9,iC z m n⟩)])) (fun m=>m≤n∧(n=0∨0 < m)) (fun m=>n - m) (min 1 n) ⟨by omega,by omega⟩ ?_ ?_
 ·exact(cA.wk (Ea<|Eb<|trivial) (Hc CZ<|trivial) trivial)
 rintro m ⟨hm,hm0⟩;refine Sq<|Sr<|Dd aF<|Dd aF<|Dd (by exact dE rfl aP rfl rfl rfl)<|Dd dX<|Zz ?_;refine Cn ?_ ?_<;>intro hc3
 ·have hlt:m < n:=by have:=aAe hc3;omega
  obtain ⟨j,hj⟩:∃ j,j=min m (n - m):=⟨_,rfl⟩;have hrows:=J1 (z:=z) (j:=j) hm (by omega);have hrl:∀ r∈(iC z m n).take j,r.length=1:=fun r hr=>by
   have:=List.mem_of_mem_take hr;rcases List.mem_append.1 this with h|h<;>rw [List.eq_of_mem_replicate h]<;>rfl
  have hfl:=N8 (z:=z) hm;refine aK<|aO<|bO follows<|Cr [] (fun _ _=>aF)<|Cr [960] (fun _ _=>aF)<|Cr [] (fun _ _=>aF)<|Cr [960] (fun H1 hH=>by exact fJ (l:=m) (h:=n) rfl cJ rfl ((hH 960 rfl).trans rfl) rfl rfl rfl rfl (by omega) (aAo _) (aBA _) rfl)<|Cr [960] (fun _ _=>aF)<|Cr [] (fun _ _=>aF)<|Cr [960] (fun H1 hH=>by exact fJ (l:=0) (h:=m) rfl cJ rfl ((hH 960 rfl).trans rfl) rfl rfl rfl rfl (aAz _) (by omega) rfl rfl)<|Cp [960] (fun H1 hH=>by exact PS (n:=j) rfl cJ (AG rfl ((hH 960 rfl).trans rfl) rfl) ((hH 960 rfl).trans rfl) rfl rfl (by rw [hfl];omega) (IF (k:=j) rfl ((hH 960 rfl).trans rfl) rfl rfl (by omega) rfl) hrl (by rw [aAw];show min j (iC z m n).length=j;rw [hfl];omega) hj.symm hrows)<|Cr [960] (fun _ _=>pE)<|Cr [] (fun _ _=>aS)<|dC<|Kr ?_;refine⟨m+j,⟨by omega,by omega⟩,by omega,?_⟩;exact(cA.wk (Ea<|Eb<|trivial) (Hc CZ<|trivial) trivial)
 have hge:m=n:=by have:=aAf hc3;omega
 subst hge;have hfin:iC z m m=cY (List.replicate m z):=by rw [iC,Nat.sub_self,List.replicate_zero,List.append_nil,cY,List.map_replicate]
 refine bI<|Sr<|Dd aF<|Dd aS<|Zz<|aM ?_;refine bD (H':=[]) (.inr rfl) rfl (aJ rfl) (Fin.st1 (List.replicate m z) rfl rfl hfin (List.length_replicate).symm) ?_;exact Qq
theorem HJ {d:DSt} {N m:Nat} (h:DInv d N m) (k a n ar fr:Nat) (b:Bool) (l:List (ByteArray×ByteArray×Nat)) (c:Nat) (hk:k < 5000) (har:ar < 2) (hfr:fr≤k) (hm:m+k < 1048576) :
  aH Tryz.prog 56 [.ref 1100 0 0 0,iv (ar:Int),iv (fr:Int)] (sH d (bV k a n b) (bB l c)) (fun r H'=>r=iv (iK d (2+ar*k+fr) (List.replicate (k - fr) zS)).1∧H'=sH (iK d (2+ar*k+fr) (List.replicate (k - fr) zS)).2 (bV k a n (b||!decide ((iK d (2+ar*k+fr) (List.replicate (k - fr) zS)).1=0))) (bB l c)):=by
 have hark:ar*k≤k:=by
  rcases(show ar=0∨ar=1 by omega)with e|e<;>subst e<;>omega
 have hpl:=yY d k a n ar fr b l c (by omega) (by omega) (by omega);have hw:=nN h k a n (2+ar*k+fr) b l c (List.replicate (k - fr) zS) (by rw [List.length_replicate];omega) (by omega);have hrp:=fun H=>NA zS (k - fr) (by omega) H;obtain ⟨x,hx⟩:∃ x,x=iK d (2+ar*k+fr) (List.replicate (k - fr) zS):=⟨_,rfl⟩;rw [← hx] at hw ⊢;refine Bd func56 rfl ntmps56<|Sr<|Dd aS<|Zz<|Sq<|bO follows<|Cr [1100] (fun _ _=>aF)<|Cr [1100] (fun _ _=>aF)<|Cr [] (fun _ _=>aF)<|Cr [] (fun _ _=>aF)<|Cr [1000,1001,1002,1003,1100,1101] (fun H1 hH=>by exact aB rfl rfl aAR rfl (iL hpl _ ⟨(hH 1000 rfl).trans rfl,(hH 1001 rfl).trans rfl,(hH 1002 rfl).trans rfl,(hH 1003 rfl).trans rfl,(hH 1100 rfl).trans rfl,(hH 1101 rfl).trans rfl,trivial⟩ (by simp;rfl)))<|Cr [] (fun H1 hH=>by exact aB rfl rfl pN rfl (oS _))<|Cr [] (fun H1 hH=>by exact bJ [[.str zS]] rfl cJ rfl rfl rfl rfl rfl (by simp))<|Cr [1100] (fun _ _=>aF)<|Cr [1100] (fun H1 hH=>by exact bN rfl rfl ((hH _ rfl).trans rfl) rfl)<|Cr [1100] (fun _ h=>fh sT h)<|Cr [1100] (fun _ h=>lh aQ h)<|Cr [] (fun _ _=>aF)<|Cr [] (fun H1 hH=>by exact eC rfl rfl rfl (show IntKind.i64.wrap ((k:Int) - (fr:Int))=((k - fr:Nat):Int)by rw [iU (by omega) (by omega)];omega)) ?_;refine Cr [] (fun H1 hH=>by exact aB rfl rfl call106 rfl (hrp _)) ?_;refine cD (r:=⟨_,some [1000,1001,1002,1003,1100,1101],_⟩) (DStep.plain rfl (fun H1 hH=>by exact aB rfl rfl pM rfl (gF hw _ ⟨(hH 1000 rfl).trans rfl,(hH 1001 rfl).trans rfl,(hH 1002 rfl).trans rfl,(hH 1003 rfl).trans rfl,(hH 1100 rfl).trans rfl,(hH 1101 rfl).trans rfl,trivial⟩ (by simp;rfl)))) rfl ?_;refine Cr [1100] (fun _ _=>aS)<|dC<|Kr<|aM ?_;refine bD (H':=(sH x.2 (bV k a n (b||!decide (x.1=0))) (bB l c))) (.inr rfl) rfl (aJ rfl) (Fin.wk (by(simp;done)) (Hc (aE _ _ rfl rfl rfl)<|Hc (aC _ _)<|Hc (aI _ _ _)<|Hc (aG _ _)<|Hc (bG rfl rfl)<|Hc (aR _ _ _)<|trivial) ⟨rfl,rfl,rfl,rfl,rfl,rfl,trivial⟩) ?_;exact Qq
end Go.Proofs.YtmkgeogoojcciaaGreatDoor
namespace Go.Abs
section
section
variable {P:Program} {N:Nat} {o:Oper} {E:bH} {H:aA} {T kt et:TypeId} {x:Operand} {q gq:Nat} {oq:Ob}
theorem zH {w:World} {I:Nat→Prop} {ι:cF} {v:Value} (h:VRel w I ι H v (.pv .nilm)):v=.map none:=by cases h.pv_inv;rfl
theorem WF (ho:o.op=.call {callee:=.builtin .len,args:=#[x],argTypes:=#[T]}) (hT:P.underlying T=some (.map kt et)) (hx:aN E x=some (.pv .nilm)):bW P N o E H (.pv (.int .i64 0)) H :=.of_run fun a w I ι hr he=>by
  have hv:=zH (aD he hx);refine⟨.int .i64 0,?_,.pv (.int _ _)⟩;simp [execOp,ho,resolve,invoke,builtin,hv,Builtin.len_,run_underlying hT,goInt]
theorem D7 (ho:o.op=.range T x) (hT:P.underlying T=some (.map kt et)) (hx:aN E x=some (.pv .nilm)) (hq:H.get q=none) :
  bW P N o E H (.it q 0) ((q,⟨0,0,0,eJ (.pv .nilm) 0 0 []⟩)::H):=by
 intro a w I ι _ _ hr he K Q hk;have hvx0:=aD he hx;have hvx:=zH hvx0;obtain ⟨k2,k3⟩:=Rel.placeX (H':=(q,⟨0,0,0,eJ (.pv .nilm) 0 0 []⟩)::H) (id:=q) (cap:=1) (ob':=⟨0,0,0,eJ (.pv .nilm) 0 0 []⟩) (x:=.mapIter none 0 #[] 0) (w':=w.alloc (.mapIter none 0 #[] 0)) hr rfl rfl rfl rfl
  (fun o ho=>by rw [hq] at ho;cases ho) (fun hnew hI hmono=>.inr (.inr (.inl ⟨rfl,w.heap.size,none,0,#[],0,by simp,hnew,hI,rfl,⟨_,_,_,rfl,.pv .nilm,.pv (.int _ _),.pv (.int _ _)⟩,fun i r hr'=>by simp [eJ] at hr'⟩)))
  (get_cons_same _ _ _) (fun j hj=>get_cons_other _ _ hj)
 have hrun:(execOp a.eval o).run P w=.ok (.value (.pointer (some ⟨w.heap.size,0,none⟩))) (w.alloc (.mapIter none 0 #[] 0)):=by
  simp only [execOp,ho,hvx];simp [Instr.range,run_underlying hT]
 unfold Oper.wpW;rw [hrun];exact hk _ _ I _ _ _ ⟨rfl,rfl⟩ (.it ⟨0,0,0,eJ (.pv .nilm) 0 0 []⟩ (get_cons_same _ _ _) (aAo _) rfl fun _=>⟨rfl,w.heap.size,by simp,rfl⟩) k2 k3
theorem JL (ho:o.op=.next x false) (hx:aN E x=some (.it q gq)) (hQ:H.get q=some oq) (hgq:oq.g=gq) (hrq:oq.rows=eJ (.pv .nilm) 0 0 []) :
  PJ P N o E H (fun r H'=>(r=.tup [.pv (.bool false)]∧H'=H∧True)∨∃ (i:Nat) (p:Nat),False∧True∧r=.tup [.pv (.bool true)]∧H'=H):=by
 intro a w I ι _ _ hr he K Q hk;obtain ⟨hsz,b,hι,hvx⟩:=JR (aD he hx) hQ hgq;obtain ⟨_,b',bm,since',seen',last',e1,e2,e3,e4,⟨m,n,k,z1,z2,z3,z4⟩,e6⟩:=(hr.obj q oq hQ).iter hsz hι;rw [hι] at e1;cases e1;rw [hrq] at z1;simp only [eJ,List.getElem?_cons_zero,Option.some.injEq,List.cons.injEq,and_true] at z1;obtain ⟨rfl,rfl,rfl⟩:=z1;have hbm:=zH z2;cases hbm;have hrun:(Instr.next (.pointer (some ⟨b,0,none⟩)) false o.type).run P w=.ok (.tuple #[.bool false]) w:=by
  simp only [Instr.next,getObj,Sem.run_bind,Sem.run,e2,Result.andThen];rfl
 unfold Oper.wpW execOp;simp only [ho,hvx,Sem.run_bind,hrun,Result.andThen_ok,Sem.run_pure];refine hk _ _ I ι _ _ (.inl ⟨rfl,rfl,trivial⟩) (.tup rfl (fun i v c hv hc=>?_)) hr (Step.refl _ _ _ _)
 match i with
 | 0=>simp at hv hc;subst hv hc;exact .pv (.bool _)
 | i+1=>simp at hv
end
section
variable {ρ:Nat→Nat} (hρ:∀ i,ρ (ρ i)=i)
include hρ
theorem aH.renQ {P:Program} {f:FuncId} {args args':List AV} {H H':aA} {R:AV→aA→Prop} (h:aH P f args H R) (ha:gO ρ args=args') (hH:gB ρ H=H') :
  aH P f args' H' (fun x K=>∃ x0 K0,R x0 K0∧x=gC ρ x0∧K=gB ρ K0):=by
 subst ha hH;intro I ι w vs hrel hl hv;have hrel':=hrel.ren hρ;rw [qX hρ] at hrel';have hl':vs.size=args.length:=by rw [hl,eZ,aAi]
 refine(h I _ w vs hrel' hl' (fun i v a h1 h2=>?_)).mono ?_
 ·have:=(hv i v (gC ρ a) h1 (by rw [eZ,aBC,h2];rfl)).ren hρ
  rwa [qX hρ,(vV hρ [a]).2 a (by simp)] at this
 rintro e w' ⟨x,K,I',ι',v,rfl,hR,k1,k2,k3⟩;have k3':=k3.ren hρ;have e1:(fun j=>(fun j=>ι (ρ j)) (ρ j))=ι:=by funext j;simp only [hρ]
 rw [e1] at k3';exact⟨_,_,I',_,v,rfl,⟨_,_,hR,rfl,rfl⟩,k1.ren hρ,k2.ren hρ,k3'⟩
end
end
end Go.Abs
namespace Go.Proofs.YtmkgeogoojcciaaGreatDoor
open Go.Proofs.Tryz
open Go.Abs
def cW:bP→ByteArray→Option ByteArray
 | [],_=>none
 | (k',v,_)::r,k=>if k'=k then some v else cW r k
theorem mQ (k:ByteArray):∀ l:bP,dJ l k=(cW l k).getD ⟨#[]⟩
 | []=>rfl
 | (k',v,n)::r=>by
  rw [dJ,cW]
  split
  ·rfl
  exact mQ k r
def gY:bP→ByteArray→ByteArray→Nat→bP
 | [],k,v,c=>[(k,v,c)]
 | (k',a,n)::r,k,v,c=>if k'=k then(k,v,n)::r else(k',a,n)::gY r k v c
def sQ:bP→ByteArray→bP
 | [],_=>[]
 | (k',a,n)::r,k=>if k'=k then r else(k',a,n)::sQ r k
def oL (l:bP) (k:ByteArray) (c:Nat):Nat:=if(cW l k).isSome then c else c+1
theorem rD (k v:ByteArray) (c:Nat):∀ l:bP,uS (bR l) k (sv v) c=bR (gY l k v c)
 | []=>rfl
 | (k',a,n)::r=>by
  show (if k'=k then(k,sv v,n)::bR r else(k',sv a,n)::uS (bR r) k (sv v) c)=bR (gY ((k',a,n)::r) k v c);rw [gY]
  split
  ·rfl
  rw [rD k v c r];rfl
theorem EO (k:ByteArray):∀ l:bP,uW (bR l) k=bR (sQ l k)
 | []=>rfl
 | (k',a,n)::r=>by
  show (if k'=k then bR r else(k',sv a,n)::uW (bR r) k)=bR (sQ ((k',a,n)::r) k);rw [sQ]
  split
  ·rfl
  rw [EO k r];rfl
theorem wC (k:ByteArray):∀ l:bP,(mE (GZ (bR l)) k).isSome=(cW l k).isSome
 | []=>rfl
 | (k',a,n)::r=>by
  show (if k'=k then some (sv a)else mE (GZ (bR r)) k).isSome=(if k'=k then some a else cW r k).isSome
  split
  ·rfl
  exact wC k r
theorem uX (k:ByteArray) (c:Nat) (l:bP):zY (bR l) k c=oL l k c:=by rw [zY,oL,wC]
theorem yA (k v:ByteArray) (c:Nat) (k2:ByteArray):∀ l:bP,cW (gY l k v c) k2=if k=k2 then some v else cW l k2
 | []=>rfl
 | (k',a,n)::r=>by
  rw [gY];by_cases h:k'=k
  ·rw [aAh h,cW,cW];subst h;by_cases h2:k'=k2
   ·rw [aAh h2,aAh h2]
   rw [aAg h2,aAg h2,aAg h2]
  rw [aAg h,cW,cW,yA k v c k2 r];by_cases h2:k'=k2
  ·rw [aAh h2,aAh h2,aAg (fun e=>h (h2.trans e.symm))]
  rw [aAg h2,aAg h2]
def fI (l:bP):Prop:=(l.map Prod.fst).Nodup
theorem gI {k:ByteArray}:∀ {l:bP},cW l k=none↔k∉l.map Prod.fst
 | []=>by simp [cW]
 | (k',a,n)::r=>by
  rw [cW,List.map_cons,aAu,not_or];by_cases h:k'=k
  ·rw [aAh h];exact⟨(fun h=>by cases h),fun h2=>absurd h.symm h2.1⟩
  rw [aAg h,gI];exact⟨fun h2=>⟨fun e=>h e.symm,h2⟩,fun h2=>h2.2⟩
theorem rB (k v:ByteArray) (c:Nat):∀ l:bP,(gY l k v c).map Prod.fst=if(cW l k).isSome then l.map Prod.fst else l.map Prod.fst++[k]
 | []=>rfl
 | (k',a,n)::r=>by
  rw [gY,cW];by_cases h:k'=k
  ·rw [aAh h,aAh h];subst h;rfl
  rw [aAg h,aAg h,List.map_cons,rB k v c r];cases (cW r k).isSome<;>rfl
theorem EH {l:bP} (h:fI l) (k v:ByteArray) (c:Nat):fI (gY l k v c):=by
 rw [fI,rB];cases e:cW l k with
 | some x=>exact h
 | none =>
  have hn:=gI.1 e;exact List.nodup_append.2 ⟨h,by simp,fun a ha b hb e2=>by rw [aAl] at hb;subst hb;subst e2;exact hn ha⟩
theorem GN (k v:ByteArray) (c:Nat):∀ l:bP,(gY l k v c).map (fun p=>p.2.2)=if(cW l k).isSome then l.map (fun p=>p.2.2)else l.map (fun p=>p.2.2)++[c]
 | []=>rfl
 | (k',a,n)::r=>by
  rw [gY,cW];by_cases h:k'=k
  ·rw [aAh h,aAh h];rfl
  rw [aAg h,aAg h,List.map_cons,GN k v c r];cases (cW r k).isSome<;>rfl
theorem P6 {l:bP} {c:Nat}:dT l c↔(l.map fun p=>p.2.2).Pairwise (· < ·)∧∀ n∈l.map (fun p=>p.2.2),n < c:=by rw [dT];refine and_congr_right fun _=>⟨fun h n hn=>?_,fun h p hp=>h _ (List.mem_map.2 ⟨p,hp,rfl⟩)⟩;obtain ⟨p,hp,rfl⟩:=List.mem_map.1 hn;exact h p hp
theorem EG {l:bP} {c:Nat} (h:dT l c) (k v:ByteArray):dT (gY l k v c) (oL l k c):=by
 rw [P6,GN,oL];have h:=P6.1 h;cases cW l k with
 | some x=>exact h
 | none =>
  refine⟨List.pairwise_append.2 ⟨h.1,by simp,fun a ha b hb=>by rw [aAl] at hb;subst hb;exact h.2 a ha⟩,fun n hn=>?_⟩;show n < c+1;rcases List.mem_append.1 hn with h1|h1
  ·have:=h.2 n h1;omega
  rw [aAl] at h1;omega
theorem qD (k:ByteArray):∀ l:bP,(sQ l k).Sublist l
 | []=>.slnil
 | (k',a,n)::r=>by
  rw [sQ]
  split
  ·exact List.sublist_cons_self _ _
  exact(qD k r).cons_cons _
theorem LW {l:bP} (h:fI l) (k:ByteArray):fI (sQ l k):=h.sublist ((qD k l).map _)
theorem U3 {l:bP} {c:Nat} (h:dT l c) (k:ByteArray):dT (sQ l k) c:=⟨h.1.sublist ((qD k l).map _),fun p hp=>h.2 p ((qD k l).subset hp)⟩
theorem LQ (k k2:ByteArray):∀ {l:bP},fI l→cW (sQ l k) k2=if k=k2 then none else cW l k2
 | [],_=>by rw [sQ,cW];split<;>rfl
 | (k',a,n)::r,hnd=>by
  have hn:k'∉r.map Prod.fst∧fI r:=List.nodup_cons.1 hnd;rw [sQ];by_cases h:k'=k
  ·subst h;rw [aAh rfl,cW];by_cases h2:k'=k2
   ·subst h2;rw [aAh rfl];exact gI.2 hn.1
   rw [aAg h2,aAg h2]
  rw [aAg h,cW,cW,LQ k k2 hn.2];by_cases h2:k'=k2
  ·rw [aAh h2,aAh h2,aAg (fun e=>h (h2.trans e.symm))]
  rw [aAg h2,aAg h2]
def fX:bP→Nat→bP→bP×Nat
 | l,c,[]=>(l,c)
 | l,c,(k,v,_)::r=>fX (gY l k v c) (oL l k c) r
theorem CF (k v:ByteArray) (n:Nat):∀ (ps l:bP) (c:Nat),fX l c (ps++[(k,v,n)])=(gY (fX l c ps).1 k v (fX l c ps).2,oL (fX l c ps).1 k (fX l c ps).2)
 | [],l,c=>rfl
 | (k',a,m)::r,l,c=>CF k v n r _ _
theorem LC:∀ (ps l:bP) (c:Nat),dT l c→fI l→dT (fX l c ps).1 (fX l c ps).2∧fI (fX l c ps).1
 | [],l,c,h1,h2=>⟨h1,h2⟩
 | (k,v,n)::r,l,c,h1,h2=>LC r _ _ (EG h1 k v) (EH h2 k v c)
theorem QR (k2:ByteArray):∀ (ps l:bP) (c:Nat),fI ps→cW (fX l c ps).1 k2=(cW ps k2).orElse fun _=>cW l k2
 | [],l,c,_=>rfl
 | (k,v,n)::r,l,c,h=>by
  have hn:k∉r.map Prod.fst∧fI r:=List.nodup_cons.1 h;show cW (fX (gY l k v c) (oL l k c) r).1 k2=_;rw [QR k2 r _ _ hn.2,yA,cW];by_cases h2:k=k2
  ·subst h2;rw [aAh rfl,aAh rfl,gI.2 hn.1];rfl
  rw [aAg h2,aAg h2]
theorem RD {a b:bP} (h:a.Perm b) (k:ByteArray):fI a→cW a k=cW b k:=by
 induction h with
 | nil=>exact fun _=>rfl
 | cons x h ih =>
  obtain ⟨k',v,n⟩:=x;intro hn;rw [cW,cW,ih (List.nodup_cons.1 hn).2]
 | swap x y l =>
  obtain ⟨k1,v1,n1⟩:=x;obtain ⟨k2,v2,n2⟩:=y;intro hn;rw [cW,cW,cW,cW];by_cases e1:k2=k
  ·by_cases e2:k1=k
   ·exact absurd (e1.trans e2.symm) (by have:=(List.nodup_cons.1 hn).1;intro e;subst e;exact this (aAu.2 (.inl rfl)))
   rw [aAh e1,aAg e2,aAh e1]
  rw [aAg e1,aAg e1]
 | trans h1 h2 ih1 ih2=>exact fun hn=>(ih1 hn).trans (ih2 ((h1.map _).nodup_iff.1 hn))
def gW (l:bP) (s:List Nat):bP:=s.filterMap fun i=>l[i]?
theorem wY {l:bP} {s:List Nat} {i:Nat} {p:ByteArray×ByteArray×Nat} (h:l[i]?=some p):gW l (s++[i])=gW l s++[p]:=by rw [gW,gW,List.filterMap_append,List.filterMap_cons,h];rfl
theorem DU:∀ l:bP,gW l (List.range l.length)=l:=fun l=>by
 refine List.ext_getElem? fun i=>?_;have h:∀ n,n≤l.length→gW l (List.range n)=l.take n:=by
  intro n
  induction n with
  | zero=>intro _;rfl
  | succ n ih =>
   intro hn;rw [List.range_succ,wY (aAn (show n < l.length by omega)),ih (by omega),List.take_add_one,aAn (show n < l.length by omega)];rfl
 rw [h _ (aAo _),List.take_length]
theorem I7 {l:bP} {s:List Nat} (hd:s.Nodup) (hb:∀ i,i∈s→i < l.length) (ha:∀ i,i < l.length→i∈s):(gW l s).Perm l:=by have hp:s.Perm (List.range l.length):=(List.perm_ext_iff_of_nodup hd List.nodup_range).2 fun i=>⟨fun h=>List.mem_range.2 (hb i h),fun h=>ha i (List.mem_range.1 h)⟩;have:=hp.filterMap (fun i=>l[i]?);rw [show (List.range l.length).filterMap (fun i=>l[i]?)=l from DU l] at this;exact this
theorem zX {id:Nat} {o:Ob} {H:aA} (h:H.get id=some o) (j:Nat):aA.get ((id,o)::H) j=H.get j:=by
 by_cases e:j=id
 ·subst e;rw [h];exact get_cons_same _ _ _
 exact get_cons_other _ _ e
abbrev pO (l:bP) (c:Nat) (ps:bP):Ob:=bB (fX l c ps).1 (fX l c ps).2
theorem Y3 (l l2:bP) (c c2:Nat) (H:aA) (hl2:l2.length < 1099511627776) (hst:dT l2 c2) (h0:H.get 1101=some (bB l c)) (h1:H.get 950=some (bB l2 c2)) (h6:H.get 946=none) (hcl:bF H) :
  aH Tryz.prog 104 [.mp 1101 0,.mp 950 0] H (fun r H'=>r=.tup []∧∃ ps,ps.Perm l2∧H'=(1101,pO l c ps)::H):=by
 have g1:∀ o o2,aA.get ((946,o)::(1101,o2)::H) 950=some (bB l2 c2):=fun o o2=>by rw [get_cons_other _ _ (by decide),get_cons_other _ _ (by decide)];exact h1
 have g2:∀ o o2,aA.get ((946,o)::(1101,o2)::H) 1101=some o2:=fun o o2=>by rw [get_cons_other _ _ (by decide)];exact get_cons_same _ _ _
 refine Bd func104 rfl ntmps104<|Sr<|Dd aF<|Dd (by exact EP (q:=946) (κ:=fR) (l:=bR l2) rfl aV rfl h1 rfl rfl rfl h6)<|Zz<|aO ?_;refine bL (σ:=List Nat) (fun s=>([(0,.mp 1101 0),(7,.it 946 0)],(946,GR 950 l2 c2 s)::(1101,pO l c (gW l2 s))::H)) (fun s=>s.Nodup∧∀ i,i∈s→i < l2.length) (fun s=>l2.length - s.length) [] ⟨List.nodup_nil,by simp⟩ ?_ ?_
 ·exact cA.get' ⟨⟨_,rfl,rfl⟩,⟨_,rfl,rfl⟩,trivial⟩ (fun j=>by
   by_cases e:j=946
   ·subst e;rw [get_cons_same];exact(get_cons_same _ _ _).symm
   rw [get_cons_other _ _ e,get_cons_other _ _ e];exact zX h0 j)
 rintro s ⟨hd,hb⟩;have hsl:s.length≤l2.length:=kU _ _ hd hb;refine Sq<|Rg ?_;refine gJ rfl rfl (JW (κ:=fR) (l:=bR l2) rfl rfl (get_cons_same _ _ _) rfl rfl (g1 _ _) rfl rfl rfl (aAo _) (aAo _)) ?_;rintro _ _ (⟨rfl,rfl,hn0⟩|⟨hni,hnp,hn1,hn2,rfl,rfl⟩)
 ·refine Dd dY<|Zz<|Sq ?_;refine Cn ?_ ?_<;>intro hc1
  ·cases hc1
  refine bI ?_;have hall:∀ i,i < l2.length→i∈s:=fun i hi=>by
   have hq:(bR l2)[i]?=some ((l2[i]).1,sv (l2[i]).2.1,(l2[i]).2.2):=by rw [bR,aBC,aAn hi];rfl
   have:=hn0 _ (aAs hq);obtain ⟨j,hj,e⟩:=List.mem_map.1 this;have e2:kP l2 j=kP l2 i:=by
    rw [e,kP,aAn hi];rfl
   have:=IE hst (hb j hj) hi e2
   rwa [this] at hj
  exact fS (H':=(1101,pO l c (gW l2 s))::H) (.inl rfl) rfl (Fin.pops' [(946,GR 950 l2 c2 s)] (by simp) (bF.app (D:=[(1101,pO l c (gW l2 s))]) (lQ.spec ⟨aR _ _ _,trivial⟩) hcl) (by simp [get_cons_other,h6]) (by simp [get_cons_other,h6])) ⟨rfl,_,I7 hd hb hall,rfl⟩
 obtain ⟨p,hp,rfl⟩:=wD hn1;have hlt:hni < l2.length:=(aAm.1 hp).1;have hst2:kP l2 hni=p.2.2:=by rw [kP,hp];rfl
 have hn3:hni∉s:=fun hm=>hn2 (List.mem_map.2 ⟨hni,hm,hst2⟩);have hb2:∀ i,i∈s++[hni]→i < l2.length:=fun i hi=>by
  rcases List.mem_append.1 hi with h|h
  ·exact hb i h
  rw [aAl] at h;omega
 have hd2:(s++[hni]).Nodup:=List.nodup_append.2 ⟨hd,by simp,fun a ha b hb e=>by rw [aAl] at hb;subst hb;subst e;exact hn3 ha⟩;have hlen:=kU _ _ hd2 hb2;rw [aAj,List.length_singleton] at hlen;have hit:GR 950 l2 c2 (s++[hni])=⟨0,0,0,eJ (.mp 950 0) c2 c2 (s.map (kP l2)++[p.2.2])⟩:=by rw [GR,List.map_append,List.map_cons,List.map_nil,hst2]
 have hpk:pO l c (gW l2 (s++[hni]))=⟨0,0,oL (fX l c (gW l2 s)).1 p.1 (fX l c (gW l2 s)).2,fL fR (bR (gY (fX l c (gW l2 s)).1 p.1 p.2.1 (fX l c (gW l2 s)).2))⟩:=by rw [pO,wY hp,CF]
 refine Dd dY<|Zz<|Sq ?_;refine Cn ?_ ?_<;>intro hc2
 ·refine aK<|aO<|Sr<|Dd (by exact EQ (κ:=fR) (seen:=s.map (kP l2)) (p:=(p.1,sv p.2.1,p.2.2)) (since:=c2) rfl rfl (get_cons_same _ _ _) rfl rfl ((get_cons_other _ _ (by decide)).trans (g1 _ _)) rfl rfl rfl hn1)<|Dd dY<|Dd dY<|Dd aS<|Dd aS<|Zz<|Rg<|Dd aF<|Dd aF<|Dd aF<|Uu (by exact kV (κ:=fR) (l:=bR (fX l c (gW l2 s)).1) (.inl rfl) aV aL rfl ((get_cons_other _ _ (by decide)).trans (g2 _ _)) rfl rfl rfl rfl rfl (rD _ _ _ _) (uX _ _ _))<|Zz ?_;refine⟨s++[hni],⟨hd2,hb2⟩,by rw [aAj,List.length_singleton];omega,?_⟩;rw [hit,hpk];exact cA.get' ⟨⟨_,rfl,rfl⟩,⟨_,rfl,rfl⟩,trivial⟩ (fun j=>nW [_,_] [_,_,_,_] (by repeat(first|exact trivial|refine⟨rfl,?_⟩)) j)
 cases hc2
def lM (l:bP) (P:List ByteArray):bP:=P.foldl sQ l
theorem C2 {l:bP} {P:List ByteArray} {k:Nat} {s:ByteArray} (h:P[k]?=some s):lM l (P.take (k+1))=sQ (lM l (P.take k)) s:=by rw [lM,lM,dK h,List.foldl_append];rfl
theorem MA:∀ (P:List ByteArray) (l:bP) (c:Nat),dT l c→fI l→dT (lM l P) c∧fI (lM l P)
 | [],l,c,h1,h2=>⟨h1,h2⟩
 | k::r,l,c,h1,h2=>MA r _ c (U3 h1 k) (LW h2 k)
theorem R9 (k2:ByteArray):∀ (P:List ByteArray) (l:bP),fI l→cW (lM l P) k2=if VC P k2=true then none else cW l k2
 | [],l,_=>by rw [aAg (fun h=>by have:=jJ.1 h;cases this)];rfl
 | k::r,l,h=>by
  show cW (lM (sQ l k) r) k2=_;rw [R9 k2 r _ (LW h k),LQ k k2 h];by_cases h1:VC r k2=true
  ·rw [aAh h1,aAh (jJ.2 (aAu.2 (.inr (jJ.1 h1))))]
  rw [aAg h1];by_cases h2:k=k2
  ·rw [aAh h2,aAh (jJ.2 (aAu.2 (.inl h2.symm)))]
  rw [aAg h2,aAg (fun hm=>by rcases aAu.1 (jJ.1 hm)with e|e;exact h2 e.symm;exact h1 (jJ.2 e))]
theorem S3 (l l2:bP) (c c2:Nat) (P:List ByteArray) (H:aA) (hl2:l2.length < 1099511627776) (hP:P.length < 1099511627776) (hst:dT l2 c2) (h0:H.get 1101=some (bB l c)) (h1:H.get 950=some (bB l2 c2)) (h6:H.get 946=none) (hcl:bF H) :
  aH Tryz.prog 53 [.mp 1101 0,.mp 950 0,.pv (aW P)] H (fun r H'=>r=.tup []∧∃ ps,ps.Perm l2∧H'=(1101,bB (lM (fX l c ps).1 P) (fX l c ps).2)::H):=by
 have hml:(P.map encStr).length=P.length:=aAi _;refine Bd func53 rfl ntmps53<|Sr<|Dd aF<|Dm ?_;refine gJ rfl rfl (aB rfl rfl call104 rfl (Y3 l l2 c c2 H hl2 hst h0 h1 h6 hcl)) ?_;rintro r H' ⟨rfl,ps,hps,rfl⟩;refine Zz<|Sr<|Dd aF<|Dd (mZ aP)<|Dd aF<|Zz<|aO ?_;refine bL (σ:=Nat) (fun k=>([(0,.mp 1101 0),(11,.pv (aW P)),(12,iv ((P.map encStr).length:Int)),(13,iv (k:Int))],(1101,bB (lM (fX l c ps).1 (P.take k)) (fX l c ps).2)::H)) (fun k=>k≤P.length) (fun k=>P.length - k) 0 (aAz _) ?_ ?_
 ·exact E0
 intro k hk;refine Sr<|Dd dX<|Zz<|Sq ?_;refine Cn ?_ ?_<;>intro hc1
 ·have hlt:k < P.length:=by have:=aAe hc1;omega
  obtain ⟨s,hs⟩:=aZ hlt;have hi:=dW (f:=encStr) hs;refine aK<|Sq<|aO<|Sr<|Dd (FF cJ)<|Dd (qC aX)<|Dd aS<|Zz<|Rg<|Dd aF<|Dd aF<|Uu (by exact G6 (κ:=fR) (l:=bR (lM (fX l c ps).1 (P.take k))) rfl aV aL rfl (get_cons_same _ _ _) rfl rfl rfl rfl (EO s _))<|Zz<|Rg<|Dd pE<|Dd aF<|Zz ?_;refine⟨k+1,by omega,by omega,?_⟩;rw [C2 hs];exact cA.get' ⟨⟨_,rfl,rfl⟩,⟨_,rfl,rfl⟩,⟨_,rfl,rfl⟩,⟨_,rfl,by rfl⟩,trivial⟩ (fun j=>iG _ _ _ _ j)
 have hge:k=P.length:=by have:=aAf hc1;omega
 subst hge;rw [List.take_length];refine bI ?_;exact fS (H':=(1101,bB (lM (fX l c ps).1 P) (fX l c ps).2)::H) (.inl rfl) rfl Fin.refl ⟨rfl,ps,hps,rfl⟩
end Go.Proofs.YtmkgeogoojcciaaGreatDoor
