/-
  Parts of the proof: rules of an abstract program logic, contracts of functions, plain laws. Conditions: each theorem's own.
-/
import Derived.Test.YtmkgeogoojcciaaGreatDoorKS3M5
import Derived.Lib.AtoiAllCases
set_option linter.unusedVariables false
set_option linter.unusedSimpArgs false
set_option maxRecDepth 100000
set_option maxHeartbeats 8000000
namespace Go.Proofs
theorem WB:type_of% Tryz.call105:=Tryz.call105
theorem sG:type_of% Tryz.call41:=Tryz.call41
theorem nI:type_of% Tryz.call43:=Tryz.call43
theorem BN:type_of% Tryz.call48:=Tryz.call48
theorem WO:type_of% Tryz.call55:=Tryz.call55
theorem PU:type_of% Tryz.call82:=Tryz.call82
theorem PT:type_of% Tryz.call83:=Tryz.call83
theorem WN:type_of% Tryz.call85:=Tryz.call85
theorem nH:type_of% Tryz.call90:=Tryz.call90
theorem nF:type_of% Tryz.call99:=Tryz.call99
theorem lJ:type_of% Tryz.isAgg29:=Tryz.isAgg29
theorem bO:type_of% Tryz.isAgg33:=Tryz.isAgg33
theorem cK:type_of% Tryz.isAgg70:=Tryz.isAgg70
theorem aU:type_of% Tryz.underlying33:=Tryz.underlying33
end Go.Proofs
namespace Go.Proofs.YtmkgeogoojcciaaGreatDoor
open Go.Proofs.Tryz
open Go.Abs Go.Lib
theorem OU {s:ByteArray} (h:gC s=false) : -9223372036854775808≤cT s∧cT s≤9223372036854775807:=by
 rw [gC] at h;rw [cT,oI];cases e:Lib.atoiAll s.data.toList with
 | ok v=>exact Lib.atoiAll_bounds e
 | range=>rw [e] at h;cases h
 | _=>rw [e] at h;cases h
theorem N0 (s:ByteArray) (i j:Nat):(s.extract i j).size≤s.size:=by rw [ByteArray.size_extract];omega
theorem kW {s:DSt} (hs:DOk s) {n:Nat} (hn:n < s.cells.length):(bS s n).size=64:=by
 rw [bS];cases e:s.q.reverse.find? (m5 n)with
 | some p =>
  have:=List.mem_of_find?_eq_some e;exact(hs.q p (List.mem_reverse.1 this)).2
 | none =>
  rw [XG hn];exact hs.c _ (List.getElem_mem hn)
theorem uH {s:DSt} (hs:DOk s) (hoff:s.off=false) {n:Nat} (hn:n < s.cells.length):∀ H,EE H (aZ s)→aI Tryz.prog 41 [.ref 1000 0 0 0,iv (n:Int)] H (fun r H'=>r=.tup [sv (bS s n),iv 0]∧H'=H):=fun H hH=>by
 have h:=aI.frameS (MO s (n:Int) hs) hH.sub (rU s) (by simp;rfl);have e:eR s (n:Int)=true:=by rw [iX];exact decide_eq_true hn
 rw [show wF s (n:Int)=bS s n by rw [wF,hoff,W9 (by decide),XA e,XM],show mU s (n:Int)=0 by rw [mU,hoff,W9 (by decide),XA e]] at h;exact h
def kH (t:ByteArray):Bool:=gC (t.extract 16 24)||decide (cT (t.extract 16 24) < 0)
def JB (t:ByteArray):Nat:=(cT (t.extract 16 24)).toNat
def nR (t:ByteArray):Nat:=if kH t then 0 else JB t / 10000000
def nQ (t:ByteArray):Nat:=if kH t then 0 else JB t % 10000000
def jU (k place:Nat) (t:ByteArray):Bool:=!kH t&&((decide (nR t < 2)&&decide (nQ t≤k))&&decide (ofL (yR place (nR t) (nQ t))=t))
theorem q0 (s:DSt) (hs:DOk s) (hoff:s.off=false) (k a n place:Nat) (b:Bool) (l:List (ByteArray×ByteArray×Nat)) (c:Nat) (hp:place < s.cells.length) (hk:k < 10000000) :
  aI Tryz.prog 42 [.ref 1100 0 0 0,iv (place:Int)] (sH s (bZ k a n b) (bH l c)) (fun r H'=>r=.tup [.agg [iv (nR (bS s place):Int),iv (nQ (bS s place):Int)],bv (jU k place (bS s place))]∧H'=sH s (bZ k a n b) (bH l c)):=by
 have ht:=kW hs hp;have hrd:=uH hs hoff hp;have hpl:place < 1000000000000:=by have:=hs.n2;omega
 obtain ⟨t,hT⟩:∃ t,t=bS s place:=⟨_,rfl⟩;rw [← hT] at ht hrd ⊢;clear hT;obtain ⟨x,hx⟩:∃ x,x=t.extract 16 24:=⟨_,rfl⟩;have hxs:x.size < 1099511627776:=by rw [hx];have:=N0 t 16 24;omega
 have hat:=fun H=>uU x hxs H;have hbd:=OU (s:=x);have hpb:kH t=(gC x||decide (cT x < 0)):=by rw [kH,hx]
 have hpu:JB t=(cT x).toNat:=by rw [JB,hx]
 obtain ⟨v,hv⟩:∃ v,v=cT x:=⟨_,rfl⟩;obtain ⟨e,he⟩:∃ e,e=gC x:=⟨_,rfl⟩;simp only [← hv,← he] at hat hbd hpb hpu;clear hv he;refine Bd func42 rfl ntmps42<|Sr<|Dd (by exact b8 (id:=4) rfl LO rfl rfl)<|Dd aQ<|Zz<|Sr<|Dd aE<|Dd eU<|Dd (dK qC)<|Dd (eC lJ)<|Dd aE<|Dd (by exact aB rfl rfl sG rfl (hrd _ ⟨rfl,rfl,rfl,rfl,trivial⟩))<|Dd aE<|Dd dO<|Dd dO<|Dd aQ<|Dd aQ<|Zz<|Sr<|Dd aE<|Dd (by exact cE (l:=16) (h:=24) rfl aJ rfl rfl rfl (by omega) (by omega) hx.symm)<|Dd (by exact aB rfl rfl PU rfl (hat _))<|Dd aE<|Dd dO<|Dd dO<|Dd aQ<|Dd aQ<|Zz<|Sq<|Sq ?_;refine cX (t:=31) (n:=7) (X:=e||decide (v < 0)) ?_ ?_
 ·all_goals refine Dd aE ?_
  all_goals refine Dd (by exact q9 rfl gT rfl)<|Dm ?_
  all_goals refine Sp 28 (fun h28=>?_) fun h28=>?_
  all_goals try contradiction
  all_goals first|refine Fo<|Fo ?_|refine On aE<|On dN ?_
  all_goals refine Dd dW<|Zz ?_
  all_goals(exact⟨⟨_,rfl,by(rw [h28];rfl)⟩,rfl,rfl,rfl⟩)
 refine Cn ?_ ?_<;>intro hc1
 ·have hq:=hc1;have hb:kH t=true:=hpb.trans hq;refine Sr<|Dd (LK KR)<|Uu (pF sizeOf70)<|Dd aQ<|Zz<|aM ?_;refine fI (H':=(sH s (bZ k a n b) (bH l c))) (.inr rfl) rfl (VJ cK sizeOf70) (aG rfl) (Fin.wk (r:=.tup [.agg [iv 0,iv 0],bv false]) (by simp) ⟨⟨_,rfl,rfl⟩,(by exact aF _ _ rfl rfl rfl),⟨_,rfl,rfl⟩,(by exact aC _ _),⟨_,rfl,rfl⟩,(by exact aL _ _ _),⟨_,rfl,rfl⟩,(by exact aK _ _),⟨_,rfl,rfl⟩,(by exact bA rfl rfl),⟨_,rfl,rfl⟩,(by exact aS _ _ _),trivial⟩ ⟨rfl,rfl,rfl,rfl,rfl,rfl,trivial⟩) ?_;exact⟨by rw [nR,nQ,jU,hb];rfl,rfl⟩
 have hq:=hc1;have hb:kH t=false:=hpb.trans hq;rw [XX,XJ] at hq;obtain ⟨u,rfl⟩:∃ u:Nat,v=(u:Int):=⟨v.toNat,by omega⟩;have hbu:=hbd hq.1;rw [XM] at hpu;have h34:IntKind.i64.wrap ((u:Int).tdiv 10000000)=((u / 10000000:Nat):Int):=by
  rw [Int.tdiv_eq_ediv_of_nonneg (by omega),g9 (by omega) (by omega)];omega
 have h36:(u:Int).tmod 10000000=((u % 10000000:Nat):Int):=by
  rw [Int.tmod_eq_emod_of_nonneg (by omega)];omega
 have hA:nR t=u / 10000000:=by rw [nR,hb,W9 (by decide),hpu]
 have hN:nQ t=u % 10000000:=by rw [nQ,hb,W9 (by decide),hpu]
 rw [jU,hb,hA,hN];have hnn:u % 10000000 < 10000000:=Nat.mod_lt _ (by decide);obtain ⟨p,hpe⟩:∃ p,p=u / 10000000:=⟨_,rfl⟩;obtain ⟨q,hqe⟩:∃ q,q=u % 10000000:=⟨_,rfl⟩;rw [← hpe] at h34;rw [← hqe] at h36 hnn;rw [← hpe,← hqe];clear hpe hqe;by_cases h2:p < 2
 ·have g42:decide ((p:Int) < 2)=true:=decide_eq_true (by omega);have hhd:=fun H=>AW place p q hpl (by omega) (by omega) H;by_cases h3:q≤k
  ·have g51:decide ((q:Int)≤(k:Int))=true:=decide_eq_true (by omega);refine aH<|Sr<|Dd aE<|Dd (by exact mJ rfl rfl rfl (by decide) h34)<|Dd aE<|Dd (by exact uJ rfl rfl rfl (by decide) h36)<|Dd (LK KR)<|Dd (by exact b8 (id:=10) rfl LO rfl rfl)<|Uu (pF sizeOf70)<|Zz<|Sq<|bK follows<|Cr [10] (fun H1 hH=>by exact cN rfl cK sizeOf70 rfl ((hH _ rfl).trans rfl) rfl rfl rfl rfl)<|Cr [10] (fun _ h=>fh qD h)<|Cr [10] (fun _ h=>lh aT h)<|Cr [] (fun _ _=>dN)<|Cr [] (fun _ _=>aE) ?_;refine bY (r:=⟨_,some [10],[]⟩) (fA rfl rfl rfl (by assumption) (fun H1 hH=>by exact(by exact fE rfl k9 rfl ((hH _ rfl).trans rfl) rfl rfl))) rfl ?_;refine bY (r:=⟨_,some [10],[]⟩) (fA rfl rfl rfl (by assumption) (fun H1 hH=>by exact(by exact aX rfl aT rfl ((hH _ rfl).trans rfl) rfl rfl rfl))) rfl ?_;refine bY (r:=⟨_,some [1100],[]⟩) (fA rfl rfl rfl (by assumption) (fun H1 hH=>by exact lS rfl rfl)) rfl ?_;refine bY (r:=⟨_,some [1100],[]⟩) (fA rfl rfl rfl (by assumption) (fun H1 hH=>by exact(by exact bL rfl rfl ((hH _ rfl).trans rfl) rfl))) rfl ?_;refine bY (r:=⟨_,some [1100],[]⟩) (fA rfl rfl rfl (by assumption) (fun H1 hH=>by exact(by exact fE rfl qB rfl ((hH _ rfl).trans rfl) rfl rfl))) rfl ?_;refine bY (r:=⟨_,some [1100],[]⟩) (fA rfl rfl rfl (by assumption) (fun H1 hH=>by exact(by exact aX rfl aT rfl ((hH _ rfl).trans rfl) rfl rfl rfl))) rfl ?_;refine bY (r:=⟨_,some [],[]⟩) (fA rfl rfl rfl (by assumption) (fun H1 hH=>by exact AG rfl rfl rfl)) rfl ?_;refine Cr [] (fun _ _=>SC)<|Cr [] (fun _ _=>aE) ?_;refine bY (r:=⟨_,some [],[]⟩) (fA rfl rfl rfl (by assumption) (fun H1 hH=>by exact lS rfl rfl)) rfl ?_;refine bY (r:=⟨_,some [10],[]⟩) (fA rfl rfl rfl (by assumption) (fun H1 hH=>by exact(by exact cN rfl cK sizeOf70 rfl ((hH _ rfl).trans rfl) rfl rfl rfl rfl))) rfl ?_;refine bY (r:=⟨_,some [],[]⟩) (fA rfl rfl rfl (by assumption) (fun H1 hH=>by exact aB rfl rfl PT rfl (hhd _))) rfl ?_;refine bY (r:=⟨_,some [],[]⟩) (fA rfl rfl rfl (by assumption) (fun H1 hH=>by exact lS rfl rfl)) rfl ?_;refine bY (r:=⟨_,some [],[]⟩) (fA rfl rfl rfl (by assumption) (fun H1 hH=>by exact fP rfl rfl rfl)) rfl ?_;refine Cr [] (fun _ _=>SC)<|Cp [4] (fun H1 hH=>by exact gW rfl sizeOf70 rfl rfl rfl rfl ((hH _ rfl).trans rfl) rfl rfl rfl)<|Cr [] (fun _ _=>aQ)<|cQ<|Kr<|aM ?_;refine fI (H':=(sH s (bZ k a n b) (bH l c))) (.inr rfl) rfl (VJ cK sizeOf70) (aG rfl) (Fin.wk (r:=.tup [.agg [iv (p:Int),iv (q:Int)],bv (decide (ofL (yR place p q)=t))]) (by simp) ⟨⟨_,rfl,rfl⟩,(by exact aF _ _ rfl rfl rfl),⟨_,rfl,rfl⟩,(by exact aC _ _),⟨_,rfl,rfl⟩,(by exact aL _ _ _),⟨_,rfl,rfl⟩,(by exact aK _ _),⟨_,rfl,rfl⟩,(by exact bA rfl rfl),⟨_,rfl,rfl⟩,(by exact aS _ _ _),trivial⟩ ⟨rfl,rfl,rfl,rfl,rfl,rfl,trivial⟩) ?_;exact⟨by rw [decide_eq_true h2,decide_eq_true h3];rfl,rfl⟩
  have g51:decide ((q:Int)≤(k:Int))=false:=decide_eq_false (by omega);refine aH<|Sr<|Dd aE<|Dd (by exact mJ rfl rfl rfl (by decide) h34)<|Dd aE<|Dd (by exact uJ rfl rfl rfl (by decide) h36)<|Dd (LK KR)<|Dd (by exact b8 (id:=10) rfl LO rfl rfl)<|Uu (pF sizeOf70)<|Zz<|Sq<|bK follows<|Cr [10] (fun H1 hH=>by exact cN rfl cK sizeOf70 rfl ((hH _ rfl).trans rfl) rfl rfl rfl rfl)<|Cr [10] (fun _ h=>fh qD h)<|Cr [10] (fun _ h=>lh aT h)<|Cr [] (fun _ _=>dN)<|Cr [] (fun _ _=>aE) ?_;refine bY (r:=⟨_,some [10],[]⟩) (fA rfl rfl rfl (by assumption) (fun H1 hH=>by exact(by exact fE rfl k9 rfl ((hH _ rfl).trans rfl) rfl rfl))) rfl ?_;refine bY (r:=⟨_,some [10],[]⟩) (fA rfl rfl rfl (by assumption) (fun H1 hH=>by exact(by exact aX rfl aT rfl ((hH _ rfl).trans rfl) rfl rfl rfl))) rfl ?_;refine bY (r:=⟨_,some [1100],[]⟩) (fA rfl rfl rfl (by assumption) (fun H1 hH=>by exact lS rfl rfl)) rfl ?_;refine bY (r:=⟨_,some [1100],[]⟩) (fA rfl rfl rfl (by assumption) (fun H1 hH=>by exact(by exact bL rfl rfl ((hH _ rfl).trans rfl) rfl))) rfl ?_;refine bY (r:=⟨_,some [1100],[]⟩) (fA rfl rfl rfl (by assumption) (fun H1 hH=>by exact(by exact fE rfl qB rfl ((hH _ rfl).trans rfl) rfl rfl))) rfl ?_;refine bY (r:=⟨_,some [1100],[]⟩) (fA rfl rfl rfl (by assumption) (fun H1 hH=>by exact(by exact aX rfl aT rfl ((hH _ rfl).trans rfl) rfl rfl rfl))) rfl ?_;refine bY (r:=⟨_,some [],[]⟩) (fA rfl rfl rfl (by assumption) (fun H1 hH=>by exact AG rfl rfl rfl)) rfl ?_;refine Cr [] (fun _ _=>SC)<|Cr [] (fun _ _=>aE)<|Ot<|Ot<|Ot<|Ot<|Ot<|Cr [] (fun _ _=>JH)<|Cp [4] (fun H1 hH=>by exact gW rfl sizeOf70 rfl rfl rfl rfl ((hH _ rfl).trans rfl) rfl rfl rfl)<|Cr [] (fun _ _=>aQ)<|cQ<|Kr<|aM ?_;refine fI (H':=(sH s (bZ k a n b) (bH l c))) (.inr rfl) rfl (VJ cK sizeOf70) (aG rfl) (Fin.wk (r:=.tup [.agg [iv (p:Int),iv (q:Int)],bv false]) (by simp) ⟨⟨_,rfl,rfl⟩,(by exact aF _ _ rfl rfl rfl),⟨_,rfl,rfl⟩,(by exact aC _ _),⟨_,rfl,rfl⟩,(by exact aL _ _ _),⟨_,rfl,rfl⟩,(by exact aK _ _),⟨_,rfl,rfl⟩,(by exact bA rfl rfl),⟨_,rfl,rfl⟩,(by exact aS _ _ _),trivial⟩ ⟨rfl,rfl,rfl,rfl,rfl,rfl,trivial⟩) ?_;exact⟨by rw [decide_eq_true h2,decide_eq_false h3];rfl,rfl⟩
 have g42:decide ((p:Int) < 2)=false:=decide_eq_false (by omega);refine aH<|Sr<|Dd aE<|Dd (by exact mJ rfl rfl rfl (by decide) h34)<|Dd aE<|Dd (by exact uJ rfl rfl rfl (by decide) h36)<|Dd (LK KR)<|Dd (by exact b8 (id:=10) rfl LO rfl rfl)<|Uu (pF sizeOf70)<|Zz<|Sq<|bK follows<|Cr [10] (fun H1 hH=>by exact cN rfl cK sizeOf70 rfl ((hH _ rfl).trans rfl) rfl rfl rfl rfl)<|Cr [10] (fun _ h=>fh qD h)<|Cr [10] (fun _ h=>lh aT h)<|Cr [] (fun _ _=>dN)<|Cr [] (fun _ _=>aE)<|Ot<|Ot<|Ot<|Ot<|Ot<|Ot<|Ot<|Cr [] (fun _ _=>JH)<|Cr [] (fun _ _=>aE)<|Ot<|Ot<|Ot<|Ot<|Ot<|Cr [] (fun _ _=>dW)<|Cp [4] (fun H1 hH=>by exact gW rfl sizeOf70 rfl rfl rfl rfl ((hH _ rfl).trans rfl) rfl rfl rfl)<|Cr [] (fun _ _=>aQ)<|cQ<|Kr<|aM ?_;refine fI (H':=(sH s (bZ k a n b) (bH l c))) (.inr rfl) rfl (VJ cK sizeOf70) (aG rfl) (Fin.wk (r:=.tup [.agg [iv (p:Int),iv (q:Int)],bv false]) (by simp) ⟨⟨_,rfl,rfl⟩,(by exact aF _ _ rfl rfl rfl),⟨_,rfl,rfl⟩,(by exact aC _ _),⟨_,rfl,rfl⟩,(by exact aL _ _ _),⟨_,rfl,rfl⟩,(by exact aK _ _),⟨_,rfl,rfl⟩,(by exact bA rfl rfl),⟨_,rfl,rfl⟩,(by exact aS _ _ _),trivial⟩ ⟨rfl,rfl,rfl,rfl,rfl,rfl,trivial⟩) ?_;exact⟨by rw [decide_eq_false h2];rfl,rfl⟩
def d7 (place:Nat) (p:List UInt8):List UInt8:=m0 place (dg p.length 2++p)
def yI (t:ByteArray):Bool:=(gC (t.extract 16 18)||decide (cT (t.extract 16 18) < 1))||decide (46 < cT (t.extract 16 18))
def MX (t:ByteArray):ByteArray:=t.extract 18 (18+(cT (t.extract 16 18)).toNat)
def CK (place:Nat) (t:ByteArray):ByteArray:=if yI t then sNil else if ofL (d7 place (MX t).data.toList)=t then MX t else sNil
theorem QI (s:DSt) (hs:DOk s) (hoff:s.off=false) (k a n place:Nat) (b:Bool) (l:List (ByteArray×ByteArray×Nat)) (c:Nat) (hp:place < s.cells.length) :
  aI Tryz.prog 84 [.ref 1100 0 0 0,iv (place:Int)] (sH s (bZ k a n b) (bH l c)) (fun r H'=>r=sv (CK place (bS s place))∧H'=sH s (bZ k a n b) (bH l c)):=by
 have ht:=kW hs hp;have hrd:=uH hs hoff hp;have hpl:place < 1000000000000:=by have:=hs.n2;omega
 obtain ⟨t,hT⟩:∃ t,t=bS s place:=⟨_,rfl⟩;rw [← hT] at ht hrd ⊢;clear hT;obtain ⟨x,hx⟩:∃ x,x=t.extract 16 18:=⟨_,rfl⟩;have hxs:x.size < 1099511627776:=by rw [hx];have:=N0 t 16 18;omega
 have hat:=fun H=>uU x hxs H;have hpb:yI t=((gC x||decide (cT x < 1))||decide (46 < cT x)):=by rw [yI,hx]
 have hpu:MX t=t.extract 18 (18+(cT x).toNat):=by rw [MX,hx]
 obtain ⟨v,hv⟩:∃ v,v=cT x:=⟨_,rfl⟩;obtain ⟨e,he⟩:∃ e,e=gC x:=⟨_,rfl⟩;simp only [← hv,← he] at hat hpb hpu;clear hv he;rw [CK];refine Bd func84 rfl ntmps84<|Sr<|Dd aQ<|Zz<|Sr<|Dd aE<|Dd eU<|Dd (dK qC)<|Dd (eC lJ)<|Dd aE<|Dd (by exact aB rfl rfl sG rfl (hrd _ ⟨rfl,rfl,rfl,rfl,trivial⟩))<|Dd aE<|Dd dO<|Dd dO<|Dd aQ<|Dd aQ<|Zz<|Sr<|Dd aE<|Dd (by exact cE (l:=16) (h:=18) rfl aJ rfl rfl rfl (by omega) (by omega) hx.symm)<|Dd (by exact aB rfl rfl PU rfl (hat _))<|Dd aE<|Dd dO<|Dd dO<|Dd aQ<|Dd aQ<|Zz<|Sq<|Sq ?_;refine cX (t:=34) (n:=12) (X:=(e||decide (v < 1))||decide (46 < v)) ?_ ?_
 ·all_goals refine Dd aE ?_
  all_goals refine Dd (by exact q9 rfl gT rfl)<|Dm ?_
  all_goals refine Sp 27 (fun h27=>?_) fun h27=>?_
  all_goals try contradiction
  all_goals first|refine Fo<|Fo ?_|refine On aE<|On dN ?_
  all_goals refine Dd dW<|Dm ?_
  all_goals refine Sp 31 (fun h31=>?_) fun h31=>?_
  all_goals try contradiction
  all_goals first|refine Fo<|Fo ?_|refine On aE<|On yS ?_
  all_goals refine Dd dW<|Zz ?_
  all_goals(exact⟨⟨_,rfl,by first|(rw [h27];rfl)|(rw [h27,h31];rfl)⟩,rfl,rfl,rfl⟩)
 refine Cn ?_ ?_<;>intro hc1
 ·have hq:=hc1;rw [XA (hpb.trans hq)];refine Sr<|Dd aQ<|Zz<|aM ?_;refine a7 (H':=(sH s (bZ k a n b) (bH l c))) (.inr rfl) rfl (aG rfl) (Fin.wk (by(simp;done)) (Hc (aF _ _ rfl rfl rfl)<|Hc (aC _ _)<|Hc (aL _ _ _)<|Hc (aK _ _)<|Hc (bA rfl rfl)<|Hc (aS _ _ _)<|trivial) ⟨rfl,rfl,rfl,rfl,rfl,rfl,trivial⟩) ?_;exact Qq
 have hq:=hc1;rw [W9 (by rw [hpb,hq];decide)];rw [XX,XX,XJ,XJ] at hq;obtain ⟨u,rfl⟩:∃ u:Nat,v=(u:Int):=⟨v.toNat,by omega⟩;rw [XM] at hpu;have hps:(MX t).size=u:=by rw [hpu,ByteArray.size_extract];omega
 have hpl2:(MX t).data.toList.length=u:=by rw [cR,hps]
 have hof:=FE (MX t);obtain ⟨y,hy⟩:∃ y,y=MX t:=⟨_,rfl⟩;rw [← hy] at hps hpl2 hof hpu ⊢;clear hy;obtain ⟨p,hpe⟩:∃ p,p=y.data.toList:=⟨_,rfl⟩;rw [← hpe] at hpl2 hof ⊢;have h38:((18:Int)+(u:Int))=((18+u:Nat):Int):=by omega
 have e43:ofL (dg u 2)++y=ofL (dg u 2++p):=by rw [← hof];exact rF _ _
 have s43:(ofL (dg u 2)).size≤23:=by rw [bR];exact oC u 2 (by omega)
 have l43:(dg u 2++p).length≤48:=by rw [XC,jR (m6 u (by omega) (by omega)),hpl2];omega
 have hpc:d7 place p=m0 place (dg u 2++p):=by rw [d7,hpl2]
 refine aH<|Sr<|Dd aE<|Dd aE<|Dd (by exact cA rfl rfl rfl (show IntKind.i64.wrap ((18:Int)+(u:Int))=((18+u:Nat):Int)by rw [g9 (by omega) (by omega)];omega))<|Dd (by exact cE (l:=18) (h:=18+u) rfl aJ rfl rfl rfl (by omega) (by omega) hpu.symm)<|Dd aQ<|Zz<|Sq<|Sr<|Dd aE<|Dd aE<|Dd (by exact aB rfl rfl wS rfl (lY u 2 (by omega) (by omega) _))<|Dd aE<|Dd (by exact iC rfl rfl rfl (by omega) e43)<|Dd (by exact aB rfl rfl WC rfl (u5 place (dg u 2++p) hpl l43 _))<|Dd aE<|Dd MB<|Zz ?_;refine Cn ?_ ?_<;>intro hc2
 ·have hq2:¬ ofL (m0 place (dg u 2++p))=t:=by have h:=hc2;simpa using h
  rw [hpc,W9 hq2];refine Sr<|Dd aQ<|Zz<|aM ?_;refine a7 (H':=(sH s (bZ k a n b) (bH l c))) (.inr rfl) rfl (aG rfl) (Fin.wk (by(simp;done)) (Hc (aF _ _ rfl rfl rfl)<|Hc (aC _ _)<|Hc (aL _ _ _)<|Hc (aK _ _)<|Hc (bA rfl rfl)<|Hc (aS _ _ _)<|trivial) ⟨rfl,rfl,rfl,rfl,rfl,rfl,trivial⟩) ?_;exact Qq
 have hq2:ofL (m0 place (dg u 2++p))=t:=by have h:=hc2;simpa using h
 rw [hpc,XA hq2];refine aH<|Sr<|Dd aE<|Dd aQ<|Zz<|aM ?_;refine a7 (H':=(sH s (bZ k a n b) (bH l c))) (.inr rfl) rfl (aG rfl) (Fin.wk (by(simp;done)) (Hc (aF _ _ rfl rfl rfl)<|Hc (aC _ _)<|Hc (aL _ _ _)<|Hc (aK _ _)<|Hc (bA rfl rfl)<|Hc (aS _ _ _)<|trivial) ⟨rfl,rfl,rfl,rfl,rfl,rfl,trivial⟩) ?_;exact Qq
theorem vC (s:DSt) (k a n ar i:Nat) (b:Bool) (l:List (ByteArray×ByteArray×Nat)) (c:Nat) (hk:k < 100000) (har:ar < 10) (hi:i < 100000000) :
  aI Tryz.prog 85 [.ref 1100 0 0 0,iv (ar:Int),iv (i:Int)] (sH s (bZ k a n b) (bH l c)) (fun r H'=>r=iv ((2+ar*k+i:Nat):Int)∧H'=sH s (bZ k a n b) (bH l c)):=by
 have hm:ar*k≤10*100000:=Nat.mul_le_mul (by omega) (by omega);have hmi:((ar:Int)*(k:Int))=((ar*k:Nat):Int):=by rw [Int.natCast_mul]
 refine Bd func85 rfl ntmps85<|Sr<|Dd aQ<|Zz<|Sr<|Dd aE<|Dd aE<|Dd eU<|Dd (dK qB)<|Dd (eC aT)<|Dd (by exact gK rfl rfl rfl (by exact g9 (by omega) (by omega)))<|Dd mC<|Dd aE<|Dd mC<|Dd aQ<|Zz<|aM ?_;refine a7 (H':=(sH s (bZ k a n b) (bH l c))) (.inr rfl) rfl (aG rfl) (Fin.wk (by(simp;done)) (Hc (aF _ _ rfl rfl rfl)<|Hc (aC _ _)<|Hc (aL _ _ _)<|Hc (aK _ _)<|Hc (bA rfl rfl)<|Hc (aS _ _ _)<|trivial) ⟨rfl,rfl,rfl,rfl,rfl,rfl,trivial⟩) ?_;exact Qq
end Go.Proofs.YtmkgeogoojcciaaGreatDoor
namespace Go.Proofs.YtmkgeogoojcciaaGreatDoor
open Go.Proofs.Tryz
open Go.Abs
structure DInv (s:DSt) (n m:Nat):Prop where
 ok:DOk s
 arm:IB s
 n:s.cells.length=n
 q:s.q.length≤m
theorem DInv.mono {s:DSt} {n m m':Nat} (h:DInv s n m) (hm:m≤m'):DInv s n m':=⟨h.ok,h.arm,h.n,Nat.le_trans h.q hm⟩
theorem Q8 {n:Nat} (h1:1≤n) (h2:n≤8000):DInv (jK n) n 0:=⟨RM h1 h2,fun a w b h=>(by cases h),by simp [jK],XH _⟩
theorem y8 {a:Arm} {x w b:Int} (h:BB a=.on x w b):False:=by cases a<;>cases h
theorem rL {s:DSt} {n m:Nat} (h:DInv s n m) (w b:Int):DInv (jV s w b) n m:=by
 refine⟨HV h.ok w b,?_,?_,?_⟩<;>unfold jV<;>split
 ·exact h.arm
 ·exact fun a w b h=>(y8 h).elim
 ·exact h.n
 ·show (lX s w b).length=n;rw [sW];exact h.n
 ·exact h.q
 exact XS _
theorem sS {s:DSt} {n m:Nat} (h:DInv s n m):DInv (dF s) n m:=by
 refine⟨DL h.ok,?_,?_,?_⟩<;>unfold dF<;>split
 ·next a w b e =>
  split
  ·intro a' w' b' he;cases he;have:=h.arm a w b e;omega
  exact(rL h w b).arm
 ·exact h.arm
 ·next a w b e =>
  split
  ·exact h.n
  exact(rL h w b).n
 ·exact h.n
 ·next a w b e =>
  split
  ·exact h.q
  exact(rL h w b).q
 exact h.q
theorem yQ {s:DSt} {n m:Nat} (h:DInv s n m) (hm:m < 1048576) (k:Int) (t:ByteArray):DInv (iG s k t) n (m+1):=by
 unfold iG
 split
 ·exact h.mono (Nat.le_succ _)
 split
 ·next hc =>
  rw [XK,XI] at hc;obtain ⟨h1,h2⟩:=hc;rcases nO s k with e|⟨j,rfl,hj⟩
  ·rw [e] at h1;cases h1
  have hq:=h.q;refine sS ⟨sJ h.ok (by simpa using hj) h2 (by omega),h.arm,h.n,?_⟩;show (s.q++[_]).length≤_;simp;exact hq
 exact h.mono (Nat.le_succ _)
theorem JX {s:DSt} {n m:Nat} (h:DInv s n m):DInv (sX s) n m:=by have hp:=EY h.ok s.q.length;rw [List.take_length] at hp;exact⟨⟨hp.n1,hp.n2,hp.c,fun p hp=>(by cases hp),XS _⟩,h.arm,by show (cF _ _).length=n;rw [fO];exact h.n,XS _⟩
theorem NJ {s:DSt} {n m:Nat} (h:DInv s n m):DInv (iH s) n m:=by
 unfold iH
 split
 ·exact h
 split
 ·exact JX (sS h)
 exact sS h
end Go.Proofs.YtmkgeogoojcciaaGreatDoor
namespace Go.Proofs.YtmkgeogoojcciaaGreatDoor
open Go.Proofs.Tryz
open Go.Abs Go.Lib
def l9 (d:DSt) (place:Nat) (L:List ByteArray):Nat→Int×DSt
 | 0=>(0,d)
 | i+1=>if(l9 d place L i).1=0 then(gM (l9 d place L i).2 ((place+i:Nat):Int) (L.getD i sNil),iG (l9 d place L i).2 ((place+i:Nat):Int) (L.getD i sNil))else l9 d place L i
def iP (d:DSt) (place:Nat) (L:List ByteArray):Int×DSt :=if(l9 d place L L.length).1=0 then(lA (l9 d place L L.length).2,iH (l9 d place L L.length).2)else l9 d place L L.length
theorem BW {d:DSt} {place:Nat} {L:List ByteArray} {i:Nat} (h:¬ (l9 d place L i).1=0):∀ j,l9 d place L (i+j)=l9 d place L i
 | 0=>rfl
 | j+1=>by rw [← Nat.add_assoc,l9,BW h j,W9 h]
theorem oM {d:DSt} {n m:Nat} (h:DInv d n m) (place:Nat) (L:List ByteArray):∀ i,m+i≤1048576→DInv (l9 d place L i).2 n (m+i)
 | 0,_=>h
 | i+1,hi=>by
  have ih:=oM h place L i (by omega);rw [l9]
  split
  ·exact yQ ih (by omega) _ _
  exact ih.mono (by omega)
theorem jW {d:DSt} {n m:Nat} (h:DInv d n m) (place:Nat) (L:List ByteArray) (hm:m+L.length≤1048576):DInv (iP d place L).2 n (m+L.length):=by
 rw [iP]
 split
 ·exact NJ (oM h place L _ hm)
 exact oM h place L _ hm
theorem lK {d:DSt} {n m:Nat} (h:DInv d n m) (k a cn place:Nat) (b:Bool) (l:List (ByteArray×ByteArray×Nat)) (c:Nat) (L:List ByteArray) (hm:m+L.length < 1048576) (hpl:place < 100000) :
  aI Tryz.prog 90 [.ref 1100 0 0 0,iv (place:Int),.pv (aW L)] (sH d (bZ k a cn b) (bH l c)) (fun r H'=>r=iv (iP d place L).1∧H'=sH (iP d place L).2 (bZ k a cn (b||!decide ((iP d place L).1=0))) (bH l c)):=by
 have hml:(L.map encStr).length=L.length:=XB _;refine Bd func90 rfl ntmps90<|Sr<|Dd aQ<|Zz<|Sr<|Dd aQ<|Zz<|Sq<|Sr<|Dd aQ<|Zz<|aN ?_;refine bI (σ:=Nat) (fun i=>([(0,.ref 1100 0 0 0),(1,iv (place:Int)),(2,.pv (aW L)),(7,iv (l9 d place L i).1),(8,iv (i:Int))],sH (l9 d place L i).2 (bZ k a cn b) (bH l c))) (fun i=>i≤L.length∧∀ j,j < i→(l9 d place L j).1=0) (fun i=>L.length - i) 0 ⟨XS _,fun j hj=>absurd hj (Nat.not_lt_zero _)⟩ ?_ ?_
 ·exact(bX.wk (Ea<|Eb<|Eb<|Eb<|Eb<|trivial) (Hc (aF _ _ rfl rfl rfl)<|Hc (aC _ _)<|Hc (aL _ _ _)<|Hc (aK _ _)<|Hc (bA rfl rfl)<|Hc (aS _ _ _)<|trivial) ⟨rfl,rfl,rfl,rfl,rfl,rfl,trivial⟩)
 rintro i ⟨hi,hz⟩;have hx:=oM h place L i (by omega);have hst:=BW (d:=d) (place:=place) (L:=L) (i:=i);have hnx:l9 d place L (i+1)=if(l9 d place L i).1=0 then(gM (l9 d place L i).2 ((place+i:Nat):Int) (L.getD i sNil),iG (l9 d place L i).2 ((place+i:Nat):Int) (L.getD i sNil))else l9 d place L i:=rfl;have hzi:(l9 d place L i).1=0→∀ j,j < i+1→(l9 d place L j).1=0:=fun h j hj=>by
  rcases Nat.lt_succ_iff_lt_or_eq.1 hj with h1|rfl
  ·exact hz j h1
  exact h
 rcases hp:l9 d place L i with⟨e,d1⟩;simp only [hp] at hx hst hnx hzi ⊢;refine Sq<|Sq ?_;refine cX (t:=16) (n:=9) (X:=decide ((i:Int) < ((L.map encStr).length:Int))&&decide (e=0)) ?_ ?_
 ·all_goals refine Dd aE ?_
  all_goals refine Dd aE<|Dd (kZ aP)<|Dd dN<|Dm ?_
  all_goals refine Sp 13 (fun h13=>?_) fun h13=>?_
  all_goals try contradiction
  all_goals first|refine Fo<|Fo ?_|refine On aE<|On gA ?_
  all_goals refine Dd dW<|Zz ?_
  all_goals(exact⟨⟨_,rfl,by(rw [h13];rfl)⟩,rfl,rfl,rfl⟩)
 refine Cn ?_ ?_<;>intro hc1
 ·have hq:i < L.length∧e=0:=by have h:=hc1;rw [XK,XI,XI] at h;exact⟨by omega,h.2⟩
  obtain ⟨t,ht⟩:=aY hq.1;have hit:=dC (f:=encStr) ht;have hgt:L.getD i sNil=t:=by rw [List.getD_eq_getElem?_getD,ht];rfl
  rw [hgt,XA hq.2] at hnx;have hw:=P4 d1 ((place+i:Nat):Int) t hx.ok hx.arm (by have:=hx.q;omega);refine aH<|Sq<|aN<|bK follows<|Cr [1100] (fun _ _=>aE)<|Cr [1100] (fun H1 hH=>by exact bL rfl rfl ((hH _ rfl).trans rfl) rfl)<|Cr [1100] (fun _ h=>fh qC h)<|Cr [1100] (fun _ h=>lh lJ h)<|Cr [] (fun _ _=>aE)<|Cr [] (fun _ _=>aE)<|Cr [] (fun H1 hH=>by exact cA rfl rfl rfl (show IntKind.i64.wrap ((place:Int)+(i:Int))=((place+i:Nat):Int)by rw [g9 (by omega) (by omega)];omega))<|Cr [] (fun _ _=>aE)<|Cr [] (fun _ _=>aE)<|Cr [] (fun _ _=>(BT b5))<|Cr [] (fun _ _=>(mB aV)) ?_;refine bY (r:=⟨_,some [1000,1001,1002,1003],_⟩) (DStep.plain rfl (fun H1 hH=>by exact aB rfl rfl call121 rfl (b6 hw _ ⟨(hH 1000 rfl).trans rfl,(hH 1001 rfl).trans rfl,(hH 1002 rfl).trans rfl,(hH 1003 rfl).trans rfl,trivial⟩ (by simp;rfl)))) rfl ?_;refine Cr [] (fun _ _=>aQ)<|cQ<|Kr<|Rg<|Dd aE<|Dd mC<|Da ?_;refine⟨i+1,⟨by omega,hzi hq.2⟩,by omega,?_⟩;dsimp only;rw [hnx];exact(bX.wk (Ea<|Eb<|Eb<|Eb<|Eb<|trivial) (Hc (aF _ _ rfl rfl rfl)<|Hc (aC _ _)<|Hc (aL _ _ _)<|Hc (aK _ _)<|Hc (bA rfl rfl)<|Hc (aS _ _ _)<|trivial) ⟨rfl,rfl,rfl,rfl,rfl,rfl,trivial⟩)
 have hq:i=L.length∨¬ e=0:=by have h:=hc1;rw [Bool.and_eq_false_iff,XJ,XJ] at h;omega
 have hend:l9 d place L L.length=(e,d1):=by
  by_cases he:e=0
  ·rcases hq with hq|hq
   ·rw [← hq];exact hp
   exact absurd he hq
  have:=hst he (L.length - i)
  rwa [show i+(L.length - i)=L.length by omega] at this
 rw [iP,hend];refine bE<|Sq<|Sr<|Dd aE<|Dd gA<|Zz ?_;refine Cn ?_ ?_<;>intro hc2
 ·have he:e=0:=W7 hc2;have hs:=SW d1 hx.ok hx.arm;rw [XA he];cases b
  ·refine Rg<|Dd aE<|Dd eU<|Dd (dK qC)<|Dd (eC lJ)<|Dd (by exact aB rfl rfl call122 rfl (b6 hs _ ⟨rfl,rfl,rfl,rfl,trivial⟩ (by simp;rfl)))<|Dd aQ<|Zz<|Sr<|Dd aE<|Dd aE<|Dd eU<|Dd (dK i6)<|Dd (eC cZ)<|Dd aE<|On aE<|On rG<|Dd dW<|Dd eU<|Dd (dK i6)<|Uu (by exact cU rfl sizeOf4 rfl rfl rfl rfl rfl rfl (by simp only [XD,List.length_nil];omega) (by simp only [Zl,encStr];rfl) (by simp only [Zl,encStr];rfl))<|Zz<|Sr<|Dd aE<|Dd aQ<|Zz<|aM ?_;refine a7 (H':=(sH (iH d1) (bZ k a cn (false||!decide (lA d1=0))) (bH l c))) (.inr rfl) rfl (aG rfl) (Fin.wk (by(simp;done)) (Hc (aF _ _ rfl rfl rfl)<|Hc (aC _ _)<|Hc (aL _ _ _)<|Hc (aK _ _)<|Hc (bA rfl rfl)<|Hc (aS _ _ _)<|trivial) ⟨rfl,rfl,rfl,rfl,rfl,rfl,trivial⟩) ?_;exact Qq
  refine Rg<|Dd aE<|Dd eU<|Dd (dK qC)<|Dd (eC lJ)<|Dd (by exact aB rfl rfl call122 rfl (b6 hs _ ⟨rfl,rfl,rfl,rfl,trivial⟩ (by simp;rfl)))<|Dd aQ<|Zz<|Sr<|Dd aE<|Dd aE<|Dd eU<|Dd (dK i6)<|Dd (eC cZ)<|Dd aE<|Fo<|Fo<|Dd dW<|Dd eU<|Dd (dK i6)<|Uu (by exact cU rfl sizeOf4 rfl rfl rfl rfl rfl rfl (by simp only [XD,List.length_nil];omega) (by simp only [Zl,encStr];rfl) (by simp only [Zl,encStr];rfl))<|Zz<|Sr<|Dd aE<|Dd aQ<|Zz<|aM ?_;refine a7 (H':=(sH (iH d1) (bZ k a cn true) (bH l c))) (.inr rfl) rfl (aG rfl) (Fin.wk (by(simp;done)) (Hc (aF _ _ rfl rfl rfl)<|Hc (aC _ _)<|Hc (aL _ _ _)<|Hc (aK _ _)<|Hc (bA rfl rfl)<|Hc (aS _ _ _)<|trivial) ⟨rfl,rfl,rfl,rfl,rfl,rfl,trivial⟩) ?_;exact Qq
 have he:¬ e=0:=W8 hc2;rw [W9 he];cases b
 ·refine aH<|Sr<|Dd aE<|Dd aE<|Dd eU<|Dd (dK i6)<|Dd (eC cZ)<|Dd aE<|On aE<|On rG<|Dd dW<|Dd eU<|Dd (dK i6)<|Uu (by exact cU rfl sizeOf4 rfl rfl rfl rfl rfl rfl (by simp only [XD,List.length_nil];omega) (by simp only [Zl,encStr];rfl) (by simp only [Zl,encStr];rfl))<|Zz<|Sr<|Dd aE<|Dd aQ<|Zz<|aM ?_;refine a7 (H':=(sH d1 (bZ k a cn (false||!decide (e=0))) (bH l c))) (.inr rfl) rfl (aG rfl) (Fin.wk (by(simp;done)) (Hc (aF _ _ rfl rfl rfl)<|Hc (aC _ _)<|Hc (aL _ _ _)<|Hc (aK _ _)<|Hc (bA rfl rfl)<|Hc (aS _ _ _)<|trivial) ⟨rfl,rfl,rfl,rfl,rfl,rfl,trivial⟩) ?_;exact Qq
 refine aH<|Sr<|Dd aE<|Dd aE<|Dd eU<|Dd (dK i6)<|Dd (eC cZ)<|Dd aE<|Fo<|Fo<|Dd dW<|Dd eU<|Dd (dK i6)<|Uu (by exact cU rfl sizeOf4 rfl rfl rfl rfl rfl rfl (by simp only [XD,List.length_nil];omega) (by simp only [Zl,encStr];rfl) (by simp only [Zl,encStr];rfl))<|Zz<|Sr<|Dd aE<|Dd aQ<|Zz<|aM ?_;refine a7 (H':=(sH d1 (bZ k a cn true) (bH l c))) (.inr rfl) rfl (aG rfl) (Fin.wk (by(simp;done)) (Hc (aF _ _ rfl rfl rfl)<|Hc (aC _ _)<|Hc (aL _ _ _)<|Hc (aK _ _)<|Hc (bA rfl rfl)<|Hc (aS _ _ _)<|trivial) ⟨rfl,rfl,rfl,rfl,rfl,rfl,trivial⟩) ?_;exact Qq
abbrev zS:ByteArray:=ofL (zB 64)
abbrev hS (place a cn:Nat):ByteArray:=ofL (yR place a cn)
def nK (place a cn:Nat):Bool→ByteArray
 | true=>hS place a cn
 | false=>zS
def r9 (d:DSt) (place a cn:Nat) (hd:Bool):Int×DSt:=if bS d place=nK place a cn hd then(0,d)else if(iP d place [zS]).1=0∧hd=true then iP (iP d place [zS]).2 place [nK place a cn hd] else iP d place [zS]
theorem yA {d:DSt} {n m:Nat} (h:DInv d n m) (hoff:d.off=false) (k a cn place:Nat) (b hd:Bool) (l:List (ByteArray×ByteArray×Nat)) (c:Nat) (hm:m+2 < 1048576) (hp:place < d.cells.length) (ha:a < 10) (hcn:cn < 1000000000000) :
  aI Tryz.prog 45 [.ref 1100 0 0 0,iv (place:Int),bv hd] (sH d (bZ k a cn b) (bH l c)) (fun r H'=>r=iv (r9 d place a cn hd).1∧H'=sH (r9 d place a cn hd).2 (bZ k a cn (b||!decide ((r9 d place a cn hd).1=0))) (bH l c)):=by
 have hn2:=h.ok.n2;have hrd:=uH h.ok hoff hp;have hw:=lK h k a cn place b l c [zS] (by rw [List.length_singleton];omega) (by omega);have hi1:=jW h place [zS] (by rw [List.length_singleton];omega);have hhd:=fun H=>AW place a cn (by omega) ha hcn H;rw [r9];cases hd
 ·refine Bd func45 rfl ntmps45<|Sr<|Dd aQ<|Zz<|Sr<|Dd aE<|Dd eU<|Dd (dK qC)<|Dd (eC lJ)<|Dd aE<|Dd (by exact aB rfl rfl sG rfl (hrd _ ⟨rfl,rfl,rfl,rfl,trivial⟩))<|Dd aE<|Dd dO<|Dd dO<|Dd aQ<|Dd aQ<|Zz<|Sr<|Dd (by exact aB rfl rfl nI rfl (mV _))<|Dd aQ<|Zz<|Sq<|Sr<|Dd aE<|Zz ?_;refine Cn ?_ ?_<;>intro hc1
  ·cases hc1
  refine aH<|Sq<|Sr<|Dd aE<|Dd aE<|Dd S3<|Zz ?_;refine Cn ?_ ?_<;>intro hc2
  ·have he:bS d place=nK place a cn false:=W7 hc2;rw [XA he];refine Sr<|Dd aQ<|Zz<|aM ?_;refine a7 (H':=(sH d (bZ k a cn b) (bH l c))) (.inr rfl) rfl (aG rfl) (Fin.wk (by(simp;done)) (Hc (aF _ _ rfl rfl rfl)<|Hc (aC _ _)<|Hc (aL _ _ _)<|Hc (aK _ _)<|Hc (bA rfl rfl)<|Hc (aS _ _ _)<|trivial) ⟨rfl,rfl,rfl,rfl,rfl,rfl,trivial⟩) ?_;exact⟨rfl,by cases b<;>rfl⟩
  have he:¬ bS d place=nK place a cn false:=W8 hc2;rw [W9 he,W9 (fun h=>by cases h.2)];refine aH<|Sr<|Dd aE<|Dd aE<|Dd (by exact aB rfl rfl nI rfl (mV _))<|Dd (by exact bF [[.str zS]] rfl b5 rfl rfl rfl rfl rfl (by simp))<|Dd (by exact aB rfl rfl nH rfl (hw))<|Dd aQ<|Zz<|Sq<|Sq ?_;refine cX (t:=40) (n:=6) (X:=false) ?_ ?_
  ·all_goals refine Dd aE ?_
   all_goals refine Dd gA<|Dm ?_
   all_goals refine Sp 38 (fun h38=>?_) fun h38=>?_
   all_goals try contradiction
   all_goals first|refine Fo ?_|refine On aE ?_
   all_goals refine Dd dW<|Zz ?_
   all_goals(exact⟨⟨_,rfl,by rfl⟩,rfl,rfl,rfl⟩)
  refine Cn ?_ ?_<;>intro hc3
  ·cases hc3
  refine aH<|Sr<|Dd aE<|Dd aQ<|Zz<|aM ?_;refine a7 (H':=(sH (iP d place [zS]).2 (bZ k a cn (b||!decide ((iP d place [zS]).1=0))) (bH l c))) (.inr rfl) rfl (aG rfl) (Fin.wk (by(simp;done)) (Hc (aF _ _ rfl rfl rfl)<|Hc (aC _ _)<|Hc (aL _ _ _)<|Hc (aK _ _)<|Hc (bA rfl rfl)<|Hc (aS _ _ _)<|trivial) ⟨rfl,rfl,rfl,rfl,rfl,rfl,trivial⟩) ?_;exact Qq
 refine Bd func45 rfl ntmps45<|Sr<|Dd aQ<|Zz<|Sr<|Dd aE<|Dd eU<|Dd (dK qC)<|Dd (eC lJ)<|Dd aE<|Dd (by exact aB rfl rfl sG rfl (hrd _ ⟨rfl,rfl,rfl,rfl,trivial⟩))<|Dd aE<|Dd dO<|Dd dO<|Dd aQ<|Dd aQ<|Zz<|Sr<|Dd (by exact aB rfl rfl nI rfl (mV _))<|Dd aQ<|Zz<|Sq<|Sr<|Dd aE<|Zz ?_;refine Cn ?_ ?_<;>intro hc1
 ·refine Rg<|Dd aE<|Dd aE<|Dd eU<|Dd (dK kL)<|Dd (Q0 cK sizeOf70)<|Dd (by exact aB rfl rfl PT rfl (hhd _))<|Dd aQ<|Zz<|Sq<|Sr<|Dd aE<|Dd aE<|Dd S3<|Zz ?_;refine Cn ?_ ?_<;>intro hc2
  ·have he:bS d place=nK place a cn true:=W7 hc2;rw [XA he];refine Sr<|Dd aQ<|Zz<|aM ?_;refine a7 (H':=(sH d (bZ k a cn b) (bH l c))) (.inr rfl) rfl (aG rfl) (Fin.wk (by(simp;done)) (Hc (aF _ _ rfl rfl rfl)<|Hc (aC _ _)<|Hc (aL _ _ _)<|Hc (aK _ _)<|Hc (bA rfl rfl)<|Hc (aS _ _ _)<|trivial) ⟨rfl,rfl,rfl,rfl,rfl,rfl,trivial⟩) ?_;exact⟨rfl,by cases b<;>rfl⟩
  have he:¬ bS d place=nK place a cn true:=W8 hc2;rw [W9 he];refine aH<|Sr<|Dd aE<|Dd aE<|Dd (by exact aB rfl rfl nI rfl (mV _))<|Dd (by exact bF [[.str zS]] rfl b5 rfl rfl rfl rfl rfl (by simp))<|Dd (by exact aB rfl rfl nH rfl (hw))<|Dd aQ<|Zz<|Sq<|Sq ?_;refine cX (t:=40) (n:=6) (X:=decide ((iP d place [zS]).1=0)) ?_ ?_
  ·all_goals refine Dd aE ?_
   all_goals refine Dd gA<|Dm ?_
   all_goals refine Sp 38 (fun h38=>?_) fun h38=>?_
   all_goals try contradiction
   all_goals first|refine Fo ?_|refine On aE ?_
   all_goals refine Dd dW<|Zz ?_
   all_goals(exact⟨⟨_,rfl,by(simp_all;done)⟩,rfl,rfl,rfl⟩)
  refine Cn ?_ ?_<;>intro hc3
  ·have hz:(iP d place [zS]).1=0:=W7 hc3;rw [XA ⟨hz,rfl⟩];have hw2:=lK hi1 k a cn place b l c [hS place a cn] (by rw [List.length_singleton,List.length_singleton];omega) (by omega);have hbz:(b||!decide ((iP d place [zS]).1=0))=b:=by rw [hz];cases b<;>rfl
   rw [hbz];refine Rg<|Dd aE<|Dd aE<|Dd aE<|Dd (by exact bF [[.str (hS place a cn)]] rfl b5 rfl rfl rfl rfl rfl (by simp))<|Dd (by exact aB rfl rfl nH rfl (hw2))<|Dd aQ<|Zz<|Sr<|Dd aE<|Dd aQ<|Zz<|aM ?_;refine a7 (H':=(sH (iP (iP d place [zS]).2 place [hS place a cn]).2 (bZ k a cn (b||!decide ((iP (iP d place [zS]).2 place [hS place a cn]).1=0))) (bH l c))) (.inr rfl) rfl (aG rfl) (Fin.wk (by(simp;done)) (Hc (aF _ _ rfl rfl rfl)<|Hc (aC _ _)<|Hc (aL _ _ _)<|Hc (aK _ _)<|Hc (bA rfl rfl)<|Hc (aS _ _ _)<|trivial) ⟨rfl,rfl,rfl,rfl,rfl,rfl,trivial⟩) ?_;exact Qq
  have hz:¬ (iP d place [zS]).1=0:=W8 hc3;rw [W9 (fun h=>hz h.1)];refine aH<|Sr<|Dd aE<|Dd aQ<|Zz<|aM ?_;refine a7 (H':=(sH (iP d place [zS]).2 (bZ k a cn (b||!decide ((iP d place [zS]).1=0))) (bH l c))) (.inr rfl) rfl (aG rfl) (Fin.wk (by(simp;done)) (Hc (aF _ _ rfl rfl rfl)<|Hc (aC _ _)<|Hc (aL _ _ _)<|Hc (aK _ _)<|Hc (bA rfl rfl)<|Hc (aS _ _ _)<|trivial) ⟨rfl,rfl,rfl,rfl,rfl,rfl,trivial⟩) ?_;exact Qq
 cases hc1
theorem QD {d d':DSt} {o o' m m':Ob} {id:Nat} (h:((sH d' o' m').get id).isSome=true):((sH d o m).get id).isSome=true:=by simp only [sH,aA.get] at h ⊢;cases e0:Nat.beq 1000 id<;>cases e1:Nat.beq 1001 id<;>cases e2:Nat.beq 1002 id<;>cases e3:Nat.beq 1003 id<;>cases e4:Nat.beq 1100 id<;>cases e5:Nat.beq 1101 id<;>simp [e0,e1,e2,e3,e4,e5] at h ⊢
theorem fM {f:FuncId} {args:List AV} {d d':DSt} {k a n:Nat} {b:Bool} {l:List (ByteArray×ByteArray×Nat)} {c:Nat} {o' m':Ob} {r0:AV} (h:aI Tryz.prog f args (sH d (bZ k a n b) (bH l c)) (fun r H'=>r=r0∧H'=sH d' o' m')) (H:aA) (hs:EE H (sH d (bZ k a n b) (bH l c))) (ha:∀ x∈args,Clo (sH d (bZ k a n b) (bH l c)) x) :
  aI Tryz.prog f args H (fun r H'=>r=r0∧H'=sH d' o' m'++H):=h.frame hs.sub (oO _ _ _ _ _ _ _) ha (fun id hid=>.inl (QD hid))
def uA (d:DSt) (a cn:Nat):Int×DSt:=if(iP d 1 [hS 1 a cn]).1=0 then iP (iP d 1 [hS 1 a cn]).2 0 [hS 0 a cn] else iP d 1 [hS 1 a cn]
theorem MI {d:DSt} {n m:Nat} (h:DInv d n m) (a cn:Nat) (hm:m+2≤1048576):DInv (uA d a cn).2 n (m+2):=by
 have h1:=jW h 1 [hS 1 a cn] (by rw [List.length_singleton];omega);have h2:=jW h1 0 [hS 0 a cn] (by rw [List.length_singleton,List.length_singleton];omega);rw [List.length_singleton] at h1 h2;rw [uA]
 split
 ·exact h2
 exact h1.mono (by omega)
def WF (a b c:DSt):Nat→DSt
 | 0=>a
 | 1=>b
 | _=>c
theorem S1 {d:DSt} {n m:Nat} (h:DInv d n m) (k a cn a2 cn2:Nat) (b:Bool) (l:List (ByteArray×ByteArray×Nat)) (c:Nat) (hm:m+2 < 1048576) (ha:a2 < 10) (hcn:cn2 < 1000000000000) :
  aI Tryz.prog 103 [.ref 1100 0 0 0,.agg [iv (a2:Int),iv (cn2:Int)]] (sH d (bZ k a cn b) (bH l c)) (fun r H'=>r=iv (uA d a2 cn2).1∧H'=sH (uA d a2 cn2).2 (if(uA d a2 cn2).1=0 then bZ k a2 cn2 b else bZ k a cn true) (bH l c)):=by
 have hw:=lK h k a cn 1 b l c [hS 1 a2 cn2] (by rw [List.length_singleton];omega) (by omega);have h1:=jW h 1 [hS 1 a2 cn2] (by rw [List.length_singleton];omega);have hw2:=lK h1 k a cn 0 b l c [hS 0 a2 cn2] (by rw [List.length_singleton,List.length_singleton];omega) (by omega);have hh1:=fun H=>AW 1 a2 cn2 (by omega) ha hcn H;have hh0:=fun H=>AW 0 a2 cn2 (by omega) ha hcn H;rw [uA];obtain ⟨x,hx⟩:∃ x,x=iP d 1 [hS 1 a2 cn2]:=⟨_,rfl⟩;rw [← hx] at hw hw2 ⊢;obtain ⟨y,hy⟩:∃ y,y=iP x.2 0 [hS 0 a2 cn2]:=⟨_,rfl⟩;rw [← hy] at hw2 ⊢;clear hx hy h1;have hr0:([[PV.int .i64 1],[PV.int .i64 0]]:List (List PV))[0]?=some [PV.int .i64 1]:=rfl;have hr1:([[PV.int .i64 1],[PV.int .i64 0]]:List (List PV))[1]?=some [PV.int .i64 0]:=rfl;refine Bd func103 rfl ntmps103<|Sr<|Dd (by exact fY (id:=3) rfl rfl rfl rfl rfl)<|Dd aQ<|Zz<|Sq<|Sq ?_;refine fJ.ent (E':=[(0,.ref 1100 0 0 0),(3,.ref 3 0 0 0)]) (H':=(3,bx 2 70 [iv (a2:Int),iv (cn2:Int)])::sH d (bZ k a cn b) (bH l c)) (bX.wk (Ea<|Ea<|trivial) (Hb<|Hc (aF _ _ rfl rfl rfl)<|Hc (aC _ _)<|Hc (aL _ _ _)<|Hc (aK _ _)<|Hc (bA rfl rfl)<|Hc (aS _ _ _)<|trivial) ⟨rfl,rfl,rfl,rfl,rfl,rfl,trivial⟩) ?_;refine Rg<|Dd (by exact bF [[.int .i64 1],[.int .i64 0]] rfl IS rfl rfl rfl rfl rfl (by simp))<|Dd (kZ LA)<|Dd aE<|Zz<|aN ?_;refine bI (σ:=Nat) (fun i=>([(0,.ref 1100 0 0 0),(3,.ref 3 0 0 0),(8,.pv (.sl [[.int .i64 1],[.int .i64 0]])),(9,iv 2),(10,iv (i:Int))],(3,bx 2 70 [iv (a2:Int),iv (cn2:Int)])::sH (WF d x.2 y.2 i) (bZ k a cn b) (bH l c))) (fun i=>i≤2∧(0 < i→x.1=0)∧(1 < i→y.1=0)) (fun i=>2 - i) 0 ⟨by omega,fun h=>absurd h (Nat.lt_irrefl _),fun h=>absurd h (by omega)⟩ ?_ ?_
 ·exact(bX.wk (Ea<|Ea<|Eb<|Eb<|Eb<|trivial) (Hb<|Hc (aF _ _ rfl rfl rfl)<|Hc (aC _ _)<|Hc (aL _ _ _)<|Hc (aK _ _)<|Hc (bA rfl rfl)<|Hc (aS _ _ _)<|trivial) ⟨rfl,rfl,rfl,rfl,rfl,rfl,trivial⟩)
 rintro i ⟨hi,hx0,hy0⟩;have h3:i=0∨i=1∨i=2:=by omega
 rcases h3 with rfl|rfl|rfl
 ·refine Sr<|Dd dN<|Zz<|Sq ?_;refine Cn ?_ ?_<;>intro hc1
  ·refine aH<|Sq<|aN<|Sr<|Dd (by exact bJ (m:=0) rfl IS rfl rfl (by decide) rfl rfl rfl)<|Dd (mB aT)<|Dd aQ<|Zz<|Sr<|Dd aE<|Dd aE<|Dd aE<|Dd (Q0 cK sizeOf70)<|Dd (by exact aB rfl rfl PT rfl (hh1 _))<|Dd (by exact bF [[.str (hS 1 a2 cn2)]] rfl b5 rfl rfl rfl rfl rfl (by simp))<|Dd (by exact aB rfl rfl nH rfl (fM hw _ ⟨rfl,rfl,rfl,rfl,rfl,rfl,trivial⟩ (by simp;rfl)))<|Dd aQ<|Zz<|Sr<|Dd aE<|Dd rG<|Zz ?_;refine Cn ?_ ?_<;>intro hc2
   ·have he:¬ x.1=0:=by have h:=hc2;simpa using h
    have hb:(b||!decide (x.1=0))=true:=by rw [decide_eq_false he];cases b<;>rfl
    rw [W9 he,W9 he,hb];refine Sr<|Dd aE<|Dd aQ<|Zz<|aM ?_;refine a7 (H':=(sH x.2 (bZ k a cn true) (bH l c))) (.inr rfl) rfl (aG rfl) (Fin.wk (by(simp;done)) (Hc (aF _ _ rfl rfl rfl)<|Hc (aC _ _)<|Hc (aL _ _ _)<|Hc (aK _ _)<|Hc (bA rfl rfl)<|Hc (aS _ _ _)<|trivial) ⟨rfl,rfl,rfl,rfl,rfl,rfl,trivial⟩) ?_;exact Qq
   have he:x.1=0:=by have h:=hc2;simpa using h
   have hb:(b||!decide (x.1=0))=b:=by rw [he];cases b<;>rfl
   rw [hb];refine aH<|Rg<|Dd mC<|Dd aE<|Zz ?_;refine⟨1,⟨by omega,fun _=>he,fun h=>absurd h (by omega)⟩,by omega,?_⟩;exact(bX.wk (Ea<|Ea<|Eb<|Eb<|Eb<|trivial) (Hb<|Hc (aF _ _ rfl rfl rfl)<|Hc (aC _ _)<|Hc (aL _ _ _)<|Hc (aK _ _)<|Hc (bA rfl rfl)<|Hc (aS _ _ _)<|trivial) ⟨rfl,rfl,rfl,rfl,rfl,rfl,trivial⟩)
  cases hc1
 ·have he0:=hx0 (by omega);refine Sr<|Dd dN<|Zz<|Sq ?_;refine Cn ?_ ?_<;>intro hc3
  ·refine aH<|Sq<|aN<|Sr<|Dd (by exact bJ (m:=1) rfl IS rfl rfl (by decide) rfl rfl rfl)<|Dd (mB aT)<|Dd aQ<|Zz<|Sr<|Dd aE<|Dd aE<|Dd aE<|Dd (Q0 cK sizeOf70)<|Dd (by exact aB rfl rfl PT rfl (hh0 _))<|Dd (by exact bF [[.str (hS 0 a2 cn2)]] rfl b5 rfl rfl rfl rfl rfl (by simp))<|Dd (by exact aB rfl rfl nH rfl (fM hw2 _ ⟨rfl,rfl,rfl,rfl,rfl,rfl,trivial⟩ (by simp;rfl)))<|Dd aQ<|Zz<|Sr<|Dd aE<|Dd rG<|Zz ?_;refine Cn ?_ ?_<;>intro hc4
   ·have he:¬ y.1=0:=by have h:=hc4;simpa using h
    have hb:(b||!decide (y.1=0))=true:=by rw [decide_eq_false he];cases b<;>rfl
    rw [XA he0,W9 he,hb];refine Sr<|Dd aE<|Dd aQ<|Zz<|aM ?_;refine a7 (H':=(sH y.2 (bZ k a cn true) (bH l c))) (.inr rfl) rfl (aG rfl) (Fin.wk (by(simp;done)) (Hc (aF _ _ rfl rfl rfl)<|Hc (aC _ _)<|Hc (aL _ _ _)<|Hc (aK _ _)<|Hc (bA rfl rfl)<|Hc (aS _ _ _)<|trivial) ⟨rfl,rfl,rfl,rfl,rfl,rfl,trivial⟩) ?_;exact Qq
   have he:y.1=0:=by have h:=hc4;simpa using h
   have hb:(b||!decide (y.1=0))=b:=by rw [he];cases b<;>rfl
   rw [hb];refine aH<|Rg<|Dd mC<|Dd aE<|Zz ?_;refine⟨2,⟨by omega,fun _=>he0,fun _=>he⟩,by omega,?_⟩;exact(bX.wk (Ea<|Ea<|Eb<|Eb<|Eb<|trivial) (Hb<|Hc (aF _ _ rfl rfl rfl)<|Hc (aC _ _)<|Hc (aL _ _ _)<|Hc (aK _ _)<|Hc (bA rfl rfl)<|Hc (aS _ _ _)<|trivial) ⟨rfl,rfl,rfl,rfl,rfl,rfl,trivial⟩)
  cases hc3
 have he0:=hx0 (by omega);have he1:=hy0 (by omega);refine Sr<|Dd dN<|Zz<|Sq ?_;refine Cn ?_ ?_<;>intro hc5
 ·cases hc5
 rw [XA he0,XA he1];refine bE<|Sr<|Dd aE<|Dd (Q0 cK sizeOf70)<|Dd eU<|Dd (dK kL)<|Uu (by exact GK rfl sizeOf70 rfl rfl rfl rfl rfl rfl rfl (by simp only [XD,List.length_nil];omega) (by simp only [Zl,encStr];rfl) (by simp only [Zl,encStr];rfl))<|Zz<|Sr<|Dd aQ<|Zz<|aM ?_;refine a7 (H':=(sH y.2 (bZ k a2 cn2 b) (bH l c))) (.inr rfl) rfl (aG rfl) (Fin.wk (by(simp;done)) (Hc (aF _ _ rfl rfl rfl)<|Hc (aC _ _)<|Hc (aL _ _ _)<|Hc (aK _ _)<|Hc (bA rfl rfl)<|Hc (aS _ _ _)<|trivial) ⟨rfl,rfl,rfl,rfl,rfl,rfl,trivial⟩) ?_;exact⟨by rw [he1],rfl⟩
def e8 (t:List UInt8) (i:Nat):List UInt8:=(t.drop (46*i)).take 46
def cM (t:List UInt8):Nat:=(t.length+45) / 46
abbrev IN (t:List UInt8) (i:Nat):Ob:=bx 1 9 [sv (ofL (t.drop (46*i)))]
theorem lP (t:List UInt8) (i:Nat):(e8 t i).length=min 46 (t.length - 46*i):=by rw [e8,XP,XQ]
theorem JD (t:List UInt8) (H:aA) (h:H.get 910=none):aI Tryz.prog 100 [sv (ofL t)] H (fun r H'=>r=.clo 129 [.ref 910 0 0 0]∧H'=(910,IN t 0)::H):=by refine Bd func100 rfl ntmps100<|Sr<|Dd (by exact fY (id:=910) rfl rfl rfl rfl h)<|Dd aQ<|Zz<|Sr<|Dd (by exact eK rfl rfl)<|Dd aQ<|Zz<|aM ?_;refine a7 (H':=((910,IN t 0)::H)) (.inr rfl) rfl (aG rfl) Fin.refl ?_;exact Qq
theorem JE (t:List UInt8) (fv:AV) (Hs Hr:Nat→aA) (hl:t.length < 1000000000) (h9:∀ i,(Hs i).get 910=some (IN t i)) (h8:∀ i,(Hr i).get 910=some (IN t i)) (hn:∀ i j,aA.get ((910,IN t (i+1))::Hr i) j=(Hs (i+1)).get j)
  (hy:∀ i,i < cM t→eD Tryz.prog fv [sv (ofL (e8 t i))] (Hs i) (fun r H'=>r=bv true∧H'=Hr i)) :
  aI Tryz.prog 129 [fv,.ref 910 0 0 0] (Hs 0) (fun r H'=>r=.tup []∧H'=Hs (cM t)):=by
 refine Bd func129 rfl ntmps129<|aN ?_;refine bI (σ:=Nat) (fun i=>([(0,fv),(1,.ref 910 0 0 0)],Hs i)) (fun i=>i≤cM t) (fun i=>cM t - i) 0 (XS _) ?_ ?_
 ·exact E0
 rintro i hi;have hsz:(ofL (t.drop (46*i))).size=t.length - 46*i:=by rw [bR,XQ]
 refine Sq<|Sr<|Dd (by exact aX rfl aV rfl (h9 i) rfl rfl rfl)<|Dd (xO aJ)<|Dd yS<|Zz ?_;refine Cn ?_ ?_<;>intro hc1
 ·have hlt:46*i < t.length:=by have:=W7 hc1;omega
  have hip:i < cM t:=by rw [cM];omega
  have hmin:min (46:Int) ((ofL (t.drop (46*i))).size:Int)=((e8 t i).length:Int):=by rw [hsz,lP];omega
  have hple:(e8 t i).length≤(ofL (t.drop (46*i))).size:=by rw [hsz,lP];omega
  have hx1:(ofL (t.drop (46*i))).extract 0 (e8 t i).length=ofL (e8 t i):=i8 (by
   rw [eN,a6,a6,List.drop_zero,Nat.sub_zero,e8,XP,List.take_eq_take_min];simp)
  have hx2:(ofL (t.drop (46*i))).extract (e8 t i).length (ofL (t.drop (46*i))).size=ofL (t.drop (46*(i+1))):=i8 (by
   rw [n7,a6,a6,List.drop_drop];rw [lP];by_cases hh:46≤t.length - 46*i
   ·rw [Nat.min_eq_left hh];congr 1
   rw [Nat.min_eq_right (by omega),List.drop_eq_nil_of_le (by omega),List.drop_eq_nil_of_le (by omega)])
  refine aH<|aN<|Sr<|Dd (by exact aX rfl aV rfl (h9 i) rfl rfl rfl)<|Dd (xO aJ)<|Dd (by exact uK rfl rfl rfl hmin)<|Dd aQ<|Zz<|Sq<|Sr<|Dd aE<|Dd (by exact aX rfl aV rfl (h9 i) rfl rfl rfl)<|Dd aE<|Dd (by exact cE (l:=0) (h:=(e8 t i).length) rfl aJ rfl rfl rfl (XS _) hple hx1)<|Dd (by exact fX rfl rfl rfl (hy i hip))<|Dd sA<|Zz ?_;refine Cn ?_ ?_<;>intro hc2
  ·cases hc2
  refine aH<|Rg<|Dd (by exact aX rfl aV rfl (h8 i) rfl rfl rfl)<|Dd aE<|Dd (by exact cE (l:=(e8 t i).length) (h:=(ofL (t.drop (46*i))).size) rfl aJ rfl rfl rfl hple (XH _) hx2)<|Uu (by exact gW rfl sizeOf9 rfl rfl rfl rfl (h8 i) rfl rfl rfl)<|Zz ?_;refine⟨i+1,by omega,by omega,?_⟩;exact bX.get' ⟨⟨_,rfl,rfl⟩,⟨_,rfl,rfl⟩,trivial⟩ (fun j=>(hn i j).symm)
 have hge:¬ 46*i < t.length:=by have:=W8 hc1;omega
 have hip:i=cM t:=by rw [cM] at hi ⊢;omega
 subst hip;refine bE ?_;exact iQ (H':=Hs (cM t)) (.inl rfl) rfl Fin.refl ⟨rfl,rfl⟩
def iW (fr:Nat) (t:List UInt8) (i:Nat):List ByteArray:=(List.range i).map fun j=>ofL (d7 (fr+j) (e8 t j))
theorem cV (fr:Nat) (t:List UInt8) (i:Nat):(iW fr t i).length=i:=by rw [iW,XB,List.length_range]
theorem IX (fr:Nat) (t:List UInt8) (i:Nat):iW fr t (i+1)=iW fr t i++[ofL (d7 (fr+i) (e8 t i))]:=by rw [iW,List.range_succ,List.map_append];rfl
def iO (d:DSt) (k a cn:Nat) (t:List UInt8):Int×DSt :=if(iP d (2+a*k+cn) (iW (2+a*k+cn) t (cM t))).1=0 then uA (iP d (2+a*k+cn) (iW (2+a*k+cn) t (cM t))).2 a (cn+cM t)else iP d (2+a*k+cn) (iW (2+a*k+cn) t (cM t))
theorem O9 {d:DSt} {n m:Nat} (h:DInv d n m) (k a cn:Nat) (t:List UInt8) (hm:m+cM t+2≤1048576):DInv (iO d k a cn t).2 n (m+cM t+2):=by
 have h1:=jW h (2+a*k+cn) (iW (2+a*k+cn) t (cM t)) (by rw [cV];omega);rw [cV] at h1;rw [iO]
 split
 ·exact MI h1 _ _ (by omega)
 exact h1.mono (by omega)
theorem iT {f:FuncId} {args:List AV} {d:DSt} {k a n:Nat} {b:Bool} {l:List (ByteArray×ByteArray×Nat)} {c:Nat} {r0:AV} (h:aI Tryz.prog f args (sH d (bZ k a n b) (bH l c)) (fun r H'=>r=r0∧H'=sH d (bZ k a n b) (bH l c))) (H:aA) (hs:EE H (sH d (bZ k a n b) (bH l c))) (ha:∀ x∈args,Clo (sH d (bZ k a n b) (bH l c)) x) :
  aI Tryz.prog f args H (fun r H'=>r=r0∧H'=H):=h.frameS hs.sub (oO _ _ _ _ _ _ _) ha
theorem kE {α:Type} (f:α→List PV) (l:List α):((l.map f).take (0+l.length)).drop 0=l.map f:=by rw [XT,List.drop_zero];exact List.take_of_length_le (by rw [XB];exact XH _)
theorem QC {H:aA} {p:Prop} [Decidable p] {k a n a' n':Nat} {b b':Bool} (h1:(H.get 1000).isSome=true) (h2:(H.get 1101).isSome=true):∀ r∈(if p then bZ k a n b else bZ k a' n' b').rows,∀ x∈r,Clo H x:=by
 split
 ·exact bA h1 h2
 exact bA h1 h2
abbrev TZ:bC:=[(0,.ref 1100 0 0 0),(4,.ref 4 0 0 0),(7,.ref 7 0 0 0),(8,.ref 8 0 0 0)]
def U7 (S:List ByteArray) (K:aA):aA:=(905,⟨S.length,1,9,cL S⟩)::(8,bx 1 31 [.osl 905 S.length 0 S.length])::K
theorem R5 (S:List ByteArray) (s:ByteArray) (K:aA):U7 (S++[s]) K=(905,⟨S.length+1,1,9,cL (S++[s])⟩)::(8,bx 1 31 [.osl 905 (S.length+1) 0 (S.length+1)])::K:=by simp [U7]
theorem O8 {d:DSt} {n m:Nat} (h:DInv d n m) (k a cn a2 cn2:Nat) (b:Bool) (l:List (ByteArray×ByteArray×Nat)) (c:Nat) (t:List UInt8) (ht:t.length < 100000000) (hm:m+cM t+2 < 1048576) (ha:a2 < 2) (hk:k < 4000) (hcn:cn2≤4000) :
  aI Tryz.prog 52 [.ref 1100 0 0 0,.agg [iv (a2:Int),iv (cn2:Int)],sv (ofL t)] (sH d (bZ k a cn b) (bH l c)) (fun r H'=>r=iv (iO d k a2 cn2 t).1∧H'=sH (iO d k a2 cn2 t).2 (if(iO d k a2 cn2 t).1=0 then bZ k a2 (cn2+cM t) b else bZ k a cn true) (bH l c)):=by
 have hmk:a2*k≤2*4000:=Nat.mul_le_mul (by omega) (by omega);have hpl:=vC d k a cn a2 cn2 b l c (by omega) (by omega) (by omega);obtain ⟨fr,hfr⟩:∃ fr,fr=2+a2*k+cn2:=⟨_,rfl⟩;have hpn:cM t≤10000000:=by rw [cM];omega
 have hw:=lK h k a cn fr b l c (iW fr t (cM t)) (by rw [cV];omega) (by omega);have h1:=jW h fr (iW fr t (cM t)) (by rw [cV];omega);rw [cV] at h1;rw [iO,← hfr];rw [← hfr] at hpl;obtain ⟨x0,hx0⟩:∃ x,x=iP d fr (iW fr t (cM t)):=⟨_,rfl⟩;rw [← hx0] at hw h1 ⊢;clear hx0;have hset:=S1 h1 k a cn a2 (cn2+cM t) b l c (by omega) (by omega) (by omega);refine Bd func52 rfl ntmps52<|Sr<|Dd (by exact fY (id:=4) rfl rfl rfl rfl rfl)<|Dd aQ<|Zz<|Sr<|Dd aE<|Dd (dK qD)<|Dd (eC aT)<|Dd (dK k9)<|Dd (eC aT)<|Dd (by exact aB rfl rfl WN rfl (iT hpl _ ⟨rfl,rfl,rfl,rfl,rfl,rfl,trivial⟩ (by simp;rfl)))<|Dd (by exact b8 (id:=7) rfl WK rfl rfl)<|Uu (pF sizeOf3)<|Zz<|Sr<|Dd (by exact b8 (id:=8) rfl UH rfl rfl)<|Zz<|Sq<|Sr<|Dd aE<|Dd (by exact aB rfl rfl call100 rfl (JD t _ rfl))<|Zz<|aN ?_;refine fJ.ent (E':=[(0,.ref 1100 0 0 0),(4,.ref 4 0 0 0),(7,.ref 7 0 0 0),(8,.ref 8 0 0 0),(18,.clo 129 [.ref 910 0 0 0])]) (H':=(905,⟨0,1,9,[]⟩)::(910,IN t 0)::(8,bx 1 31 [.osl 905 0 0 0])::(7,bx 1 3 [iv (fr:Int)])::(4,bx 2 70 [iv (a2:Int),iv (cn2:Int)])::sH d (bZ k a cn b) (bH l c)) (bX.nz 905 1 9 rfl rfl ⟨⟨_,rfl,(by exact Nz.same (by(simp;rfl)))⟩,⟨_,rfl,(by exact Nz.same (by(simp;rfl)))⟩,⟨_,rfl,(by exact Nz.same (by(simp;rfl)))⟩,⟨_,rfl,(by exact Nz.same (by(simp;rfl)))⟩,⟨_,rfl,(by exact Nz.same (by(simp;rfl)))⟩,trivial⟩ ⟨⟨_,rfl,rfl,rfl,rfl,(by exact .inl ⟨rfl,(by(simp;done))⟩)⟩,⟨_,rfl,rfl,rfl,rfl,(by exact .inr ⟨_,_,rfl,rfl,(by repeat(first|exact trivial|refine⟨(by exact Nz.own),?_⟩))⟩)⟩,⟨_,rfl,rfl,rfl,rfl,(by exact .inl ⟨rfl,(by(simp;done))⟩)⟩,⟨_,rfl,rfl,rfl,rfl,(by exact .inl ⟨rfl,(by(simp;done))⟩)⟩,⟨_,rfl,rfl,rfl,rfl,(by exact .inl ⟨rfl,(by exact aF _ _ rfl rfl rfl)⟩)⟩,⟨_,rfl,rfl,rfl,rfl,(by exact .inl ⟨rfl,(by exact aC _ _)⟩)⟩,⟨_,rfl,rfl,rfl,rfl,(by exact .inl ⟨rfl,(by exact aL _ _ _)⟩)⟩,⟨_,rfl,rfl,rfl,rfl,(by exact .inl ⟨rfl,(by exact aK _ _)⟩)⟩,⟨_,rfl,rfl,rfl,rfl,(by exact .inl ⟨rfl,(by exact bA rfl rfl)⟩)⟩,⟨_,rfl,rfl,rfl,rfl,(by exact .inl ⟨rfl,(by exact aS _ _ _)⟩)⟩,trivial⟩ ⟨rfl,rfl,rfl,rfl,rfl,rfl,trivial⟩) ?_;obtain ⟨K,hK⟩:∃ K:aA,K=(7,bx 1 3 [iv (fr:Int)])::(4,bx 2 70 [iv (a2:Int),iv (cn2:Int)])::sH d (bZ k a cn b) (bH l c):=⟨_,rfl⟩;have k7:K.get 7=some (bx 1 3 [iv (fr:Int)]):=by rw [hK];rfl
 have k4:K.get 944=none:=by rw [hK];rfl
 rw [← hK];refine s9 (id:=944) (p:=19) TZ rfl call129 rfl k4 (by simp [TZ];exact⟨rfl,rfl,rfl,rfl⟩) ?_;intro x hx1 hx2 hx3 hx4 hx5 hx6;refine((JE t (.yld 944 0) (fun i=>(944,LR x TZ)::(910,IN t i)::U7 (iW fr t i) K) (fun i=>(944,LR x TZ)::(910,IN t i)::U7 (iW fr t (i+1)) K) (by omega) (fun i=>rfl) (fun i=>rfl) (fun i j=>?_) ?_).congrG (fun j=>?_) (fun j=>rfl)).mono ?_
 ·exact lW [(910,IN t (i+1)),(944,LR x TZ),(910,IN t i)] [(944,LR x TZ),(910,IN t (i+1))] (by repeat(first|exact trivial|refine⟨rfl,?_⟩)) j
 ·intro i hi;have hsl:(iW fr t i).length=i:=cV fr t i;have hpal:(e8 t i).length≤46:=by rw [lP];omega
  have hpos:(ofL (e8 t i)).size=(e8 t i).length:=bR _;have hdg:=fun H=>lY (e8 t i).length 2 (by omega) (by omega) H;have e29:ofL (dg (e8 t i).length 2)++ofL (e8 t i)=ofL (dg (e8 t i).length 2++e8 t i):=rF _ _;have s29:(ofL (dg (e8 t i).length 2)).size≤23:=by rw [bR];exact oC _ 2 (by omega)
  have l29:(dg (e8 t i).length 2++e8 t i).length≤48:=by rw [XC,jR (m6 _ (by omega) (by omega))];omega
  have hse:=fun H=>u5 (fr+i) (dg (e8 t i).length 2++e8 t i) (by omega) l29 H;have hpe:ofL (m0 (fr+i) (dg (e8 t i).length 2++e8 t i))=ofL (d7 (fr+i) (e8 t i)):=rfl;rw [hpe] at hse;rw [IX,R5];obtain ⟨S,hS⟩:∃ S,S=iW fr t i:=⟨_,rfl⟩;rw [← hS] at hsl ⊢;obtain ⟨u,hu⟩:∃ u,u=e8 t i:=⟨_,rfl⟩;rw [← hu] at hpal hpos hdg e29 s29 l29 hse ⊢;refine .inl ⟨944,0,rfl,?_⟩;refine zM [(0,.ref 1100 0 0 0),(4,.ref 4 0 0 0),(7,.ref 7 0 0 0),(8,.ref 8 0 0 0),(9,sv (ofL u))] ((910,IN t i)::U7 S K) hx1 hx2 hx3 hx4 hx5 hx6 rfl rfl rfl ?_ ?_
  ·refine Rg<|Da ?_;exact E0
  refine aN<|bK follows<|Cs (fun _ h=>lh cD h)<|Cs (fun H1 hH=>by exact aX rfl aT rfl ((hH _ rfl).trans k7) rfl rfl rfl)<|Cs (fun _ h=>lh cD h)<|Cs (fun H1 hH=>by exact cS rfl aP rfl ((hH _ rfl).trans rfl) rfl)<|Cs (fun H1 hH=>by exact cA rfl rfl rfl (show IntKind.i64.wrap ((fr:Int)+(S.length:Int))=((fr+i:Nat):Int)by rw [hsl,g9 (by omega) (by omega)];omega))<|Cs (fun _ _=>aE)<|Cs (fun _ _=>(xO aJ))<|Cs (fun H1 hH=>by exact aB rfl rfl wS rfl (hdg _))<|Cs (fun _ _=>aE)<|Cs (fun H1 hH=>by exact iC rfl rfl rfl (by omega) e29)<|Cs (fun H1 hH=>by exact aB rfl rfl WC rfl (hse _))<|Cs (fun H1 hH=>by exact bF [[.str (ofL (d7 (fr+i) u))]] rfl b5 rfl rfl rfl rfl rfl (by intro r hr;rw [XE] at hr;subst hr;rfl)) ?_;refine bY (r:=⟨_,none,[_]⟩) (DStep.plain rfl (fun H1 hH=>by exact fB (ps:=[[.str (ofL (d7 (fr+i) u))]]) rfl b5 LJ rfl ((hH _ rfl).trans rfl) rfl rfl rfl (fD _) rfl (by intro r hr;rw [XE] at hr;subst hr;rfl) (m:=1) rfl (by omega) rfl (j4 _ (ofL (d7 (fr+i) u))))) rfl ?_;refine bY (r:=⟨_,none,[_]⟩) (DStep.plain rfl (fun H1 hH=>by exact(by exact gW rfl nA rfl rfl rfl rfl ((hH _ rfl).trans rfl) rfl rfl rfl))) rfl ?_;refine cQ<|Kr ?_;exact⟨(910,IN t i)::(905,⟨S.length+1,1,9,cL (S++[ofL (d7 (fr+i) u)])⟩)::(8,bx 1 31 [.osl 905 (S.length+1) 0 (S.length+1)])::K,bX.get' trivial (fun j=>lW [_,_,_,_] [_,_,_,_,_,_] (by repeat(first|exact trivial|refine⟨rfl,?_⟩)) j),rfl,rfl⟩
 ·exact lW [_,_,_,_] [_,_,_,_] (by repeat(first|exact trivial|refine⟨rfl,?_⟩)) j
 rintro r H' ⟨rfl,rfl⟩;refine⟨x,_,rfl,by rw [hx1];decide,rfl,fun z=>?_⟩;rw [hx2];have hSl:(iW fr t (cM t)).length=cM t:=cV _ _ _;obtain ⟨S,hS⟩:∃ S,S=iW fr t (cM t):=⟨_,rfl⟩;rw [← hS] at hSl hw;rw [← hS];have hSm:((S.map encStr).length:Int)=(cM t:Int):=by rw [XB,hSl]
 subst hK;refine Sq<|Sq ?_;refine fJ.ent (bX.fzG (id:=905) (E':=TZ) (H':=(8,bx 1 31 [.pv (aW S)])::(7,bx 1 3 [iv (fr:Int)])::(4,bx 2 70 [iv (a2:Int),iv (cn2:Int)])::sH d (bZ k a cn b) (bH l c)) (S.map encStr) rfl (lL _) ?_ rfl ?_ ?_) ?_
 ·intro p hp;simp only [XN,XR,or_false] at hp;rcases hp with rfl|rfl|rfl|rfl<;>exact⟨_,rfl,.same (by simp;rfl)⟩
 ·exact⟨⟨_,rfl,rfl,rfl,rfl,RG rfl (uQ (.osl (kE encStr _)) FT)⟩,⟨_,rfl,rfl,rfl,rfl,cP (by simp)⟩,⟨_,rfl,rfl,rfl,rfl,cP (by simp)⟩,⟨_,rfl,rfl,rfl,rfl,cP (aF _ _ rfl rfl rfl)⟩,⟨_,rfl,rfl,rfl,rfl,cP (aC _ _)⟩,⟨_,rfl,rfl,rfl,rfl,cP (aL _ _ _)⟩,⟨_,rfl,rfl,rfl,rfl,cP (aK _ _)⟩,⟨_,rfl,rfl,rfl,rfl,cP (bA rfl rfl)⟩,⟨_,rfl,rfl,rfl,rfl,cP (aS _ _ _)⟩,trivial⟩
 ·exact⟨rfl,rfl,rfl,rfl,rfl,rfl,trivial⟩
 refine Rg<|Dd aE<|Dd (eC aT)<|Dd (eC cD)<|Dd (by exact aB rfl rfl nH rfl (fM hw _ ⟨rfl,rfl,rfl,rfl,rfl,rfl,trivial⟩ (by simp;rfl)))<|Dd aQ<|Zz<|Sr<|Dd aE<|Dd rG<|Zz ?_;refine Cn ?_ ?_<;>intro hc1
 ·have he:¬ x0.1=0:=by have h:=hc1;simpa using h
  have hb:(b||!decide (x0.1=0))=true:=by rw [decide_eq_false he];cases b<;>rfl
  rw [W9 he,W9 he,hb];refine Sr<|Dd aE<|Dd aQ<|Zz<|aM ?_;refine a7 (H':=(sH x0.2 (bZ k a cn true) (bH l c))) (.inr rfl) rfl (aG rfl) (Fin.wk (by(simp;done)) (Hc (aF _ _ rfl rfl rfl)<|Hc (aC _ _)<|Hc (aL _ _ _)<|Hc (aK _ _)<|Hc (bA rfl rfl)<|Hc (aS _ _ _)<|trivial) ⟨rfl,rfl,rfl,rfl,rfl,rfl,trivial⟩) ?_;exact Qq
 have he:x0.1=0:=by have h:=hc1;simpa using h
 have hb:(b||!decide (x0.1=0))=b:=by rw [he];cases b<;>rfl
 rw [XA he,hb];obtain ⟨y,hy⟩:∃ y,y=uA x0.2 a2 (cn2+cM t):=⟨_,rfl⟩;rw [← hy] at hset ⊢;refine aH<|Sr<|Dd (dK k9)<|Dd (eC aT)<|Dd (eC cD)<|Dd (kZ aP)<|Dd (by exact cA rfl rfl rfl (show IntKind.i64.wrap ((cn2:Int)+((S.map encStr).length:Int))=((cn2+cM t:Nat):Int)by rw [hSm,g9 (by omega) (by omega)];omega))<|Dd (dK k9)<|Uu (by exact cU rfl sizeOf3 rfl rfl rfl rfl rfl rfl (by simp only [XD,List.length_nil];omega) (by simp only [Zl,encStr];rfl) (by simp only [Zl,encStr];rfl))<|Zz<|Sr<|Dd aE<|Dd (Q0 cK sizeOf70)<|Dd (by exact aB rfl rfl call103 rfl (fM hset _ ⟨rfl,rfl,rfl,rfl,rfl,rfl,trivial⟩ (by simp;rfl)))<|Dd aQ<|Zz<|aM ?_;refine a7 (H':=(sH y.2 (if y.1=0 then bZ k a2 (cn2+cM t) b else bZ k a cn true) (bH l c))) (.inr rfl) rfl (aG rfl) (Fin.wk (by(simp;done)) (Hc (aF _ _ rfl rfl rfl)<|Hc (aC _ _)<|Hc (aL _ _ _)<|Hc (aK _ _)<|Hc (QC rfl rfl)<|Hc (aS _ _ _)<|trivial) ⟨rfl,rfl,rfl,rfl,rfl,rfl,trivial⟩) ?_;exact Qq
end Go.Proofs.YtmkgeogoojcciaaGreatDoor
namespace Go.Proofs.YtmkgeogoojcciaaGreatDoor
open Go.Proofs.Tryz
open Go.Abs
abbrev VI:ByteArray:=⟨#[58]⟩
theorem EN (s:ByteArray) (H:aA):aI Tryz.prog 171 [sv s,sv VI] H (fun r H'=>r=iv (Lib.indexByte s.data.toList 58)∧H'=H):=by
 refine Pu ?_;refine Bd func171 rfl ntmps171<|Sr<|Dd aQ<|Zz<|Sr<|Dd aE<|Dd (xO aJ)<|Dd aQ<|Zz<|Sq<|aN<|Sq ?_;refine cX (t:=16) (n:=9) (X:=decide (VI=s)) ?_ ?_
 ·all_goals refine Dd aE ?_
  all_goals refine Dd gA<|Dm ?_
  all_goals refine Sp 19 (fun h19=>?_) fun h19=>?_
  all_goals try contradiction
  all_goals refine On aE<|On aE<|On S3<|Dd dW<|Da ?_
  all_goals(exact⟨⟨_,rfl,by rfl⟩,rfl,rfl,rfl⟩)
 refine Cn ?_ ?_<;>intro hc1
 ·have hs:=W7 hc1;subst hs;exact Sr<|Dd aQ<|Zz<|aM<|Rt<|Qq
 refine Sr<|Dd aE<|Dd gA<|Da ?_;refine Cn ?_ ?_<;>intro hc2
 ·exact Sr<|Dd aE<|Dd aE<|Dd (by exact xH rfl aJ rfl rfl (by omega) (by exact XM _) (show 0 < (⟨#[58]⟩:ByteArray).size from Nat.zero_lt_one) rfl)<|Dd (by exact aB rfl rfl call186 rfl (w9 s 58 _))<|Dd aQ<|Zz<|aM<|Rt<|Qq
 cases hc2
def DI (s:ByteArray):AV:=if Lib.indexByte s.data.toList 58 = -1 then .tup [sv s,sv ⟨#[]⟩,bv false] else .tup [sv (s.extract 0 (Lib.indexByte s.data.toList 58).toNat),sv (s.extract ((Lib.indexByte s.data.toList 58).toNat+1) s.size),bv true]
theorem ME (s:ByteArray) (H:aA) (hs:s.size < 1099511627776):aI Tryz.prog 144 [sv s,sv VI] H (fun r H'=>r=DI s∧H'=H):=by
 refine Pu ?_;have hI:=fun H=>EN s H;rw [DI];rcases Classical.em (Lib.indexByte s.data.toList 58 = -1)with h1|h1
 ·rw [XA h1];simp only [h1] at hI;refine Bd func144 rfl ntmps144<|Sr<|Dd aQ<|Dd aQ<|Dd aQ<|Zz<|Sq<|Sr<|Dd aE<|Dd aE<|Dd (by exact aB rfl rfl call171 rfl (hI _))<|Dd aQ<|Zz<|Sr<|Dd aE<|Dd RE<|Zz ?_;refine Cn ?_ ?_<;>intro hc1
  ·cases hc1
  refine aH<|Sr<|Dd aE<|Dd aQ<|Dd aQ<|Dd aQ<|Zz<|aM ?_;refine zK (H':=[]) (.inr rfl) rfl (aG rfl) (aG rfl) (aG rfl) (Fin.wk (by simp) trivial trivial) ?_;exact Qq
 rw [W9 h1];obtain ⟨w,r,e1,e2,e3⟩:=vX h1;simp only [e3] at hI;rw [e3,XM];have hl:w.length+1+r.length=s.size:=by rw [← show s.data.toList.length=s.size by simp,e1,XC,XD];omega
 refine Bd func144 rfl ntmps144<|Sr<|Dd aQ<|Dd aQ<|Dd aQ<|Zz<|Sq<|Sr<|Dd aE<|Dd aE<|Dd (by exact aB rfl rfl call171 rfl (hI _))<|Dd aQ<|Zz<|Sr<|Dd aE<|Dd RE<|Zz ?_;refine Cn ?_ ?_<;>intro hc1
 ·refine Sq<|bK follows<|Cq aE<|Cq aE<|Cq (by exact cE (l:=0) (h:=(w.length)) rfl aJ rfl rfl rfl (by omega) (by omega) rfl)<|Cq aE<|Cq aE<|Cq aE<|Cq (xO aJ)<|Cq (by exact cA rfl rfl rfl (show IntKind.i64.wrap ((w.length:Int)+1)=((w.length+1:Nat):Int)by rw [IntKind.wrap_i64];omega))<|Cq (by exact cE (l:=(w.length+1)) (h:=s.size) rfl aJ rfl rfl rfl (by omega) (by omega) rfl)<|Cq aQ<|Cq aQ<|Cq aQ<|cQ<|Kr<|aM ?_;refine zK (H':=[]) (.inr rfl) rfl (aG rfl) (aG rfl) (aG rfl) (Fin.wk (by simp) trivial trivial) ?_;exact Qq
 have hx:=W8 hc1;omega
theorem TP (s:ByteArray) (H:aA) (hs:s.size < 1099511627776):aI Tryz.prog 117 [sv s,sv VI] H (fun r H'=>r=DI s∧H'=H):=by
 refine Pu ?_;have hC:=fun H=>ME s H hs;rw [DI] at *;rcases Classical.em (Lib.indexByte s.data.toList 58 = -1)with h1|h1
 ·simp only [DI,XA h1] at hC ⊢;refine Bd func117 rfl ntmps117<|Sr<|Dd aQ<|Dd aQ<|Dd aQ<|Zz<|Sr<|Dd aE<|Dd aE<|Dd (by exact aB rfl rfl call144 rfl (hC _))<|Dd dO<|Dd dO<|Dd dO<|Dd aQ<|Dd aQ<|Dd aQ<|Zz<|aM ?_;refine zK (H':=[]) (.inr rfl) rfl (aG rfl) (aG rfl) (aG rfl) (Fin.wk (by simp) trivial trivial) ?_;exact Qq
 simp only [DI,W9 h1] at hC ⊢;refine Bd func117 rfl ntmps117<|Sr<|Dd aQ<|Dd aQ<|Dd aQ<|Zz<|Sr<|Dd aE<|Dd aE<|Dd (by exact aB rfl rfl call144 rfl (hC _))<|Dd dO<|Dd dO<|Dd dO<|Dd aQ<|Dd aQ<|Dd aQ<|Zz<|aM ?_;refine zK (H':=[]) (.inr rfl) rfl (aG rfl) (aG rfl) (aG rfl) (Fin.wk (by simp) trivial trivial) ?_;exact Qq
theorem j7 (l:List ByteArray) (H:aA) (hl:(aR l).length < 35184372088832):aI Tryz.prog 99 [.pv (aW l)] H (fun r H'=>r=sv (ofL (aR l))∧H'=H):=by
 refine Pu ?_;have hml:(l.map encStr).length=l.length:=XB _;have hll:=nX l;refine Bd func99 rfl ntmps99<|Sr<|Dd aQ<|Zz<|Sr<|Dd (by exact b8 (id:=2001) rfl LN rfl rfl)<|Zz<|Sq<|Sq ?_;refine fJ.ent (E':=[(0,.pv (aW l)),(3,.ref 2001 0 0 0)]) (H':=D3 0 [] false) (bX.bld0 ⟨⟨_,rfl,.same (by simp)⟩,⟨_,rfl,.same (by simp;rfl)⟩,trivial⟩) ?_;refine Rg<|Dd aE<|Dd (kZ aP)<|Dd aE<|Zz<|aN ?_;refine tD (fun(k g:Nat) (u:Bool)=>([(3,.ref 2001 0 0 0),(6,.pv (aW l)),(7,iv ((l.map encStr).length:Int)),(8,iv (k:Int))],D3 g (aR (l.take k)) u)) (fun k g u=>k≤l.length) (fun k g u=>l.length - k) 0 0 false (XS _) ?_ ?_
 ·exact(bX.wk (Ea<|Eb<|Eb<|Eb<|trivial) (Hc (l5 rfl rfl)<|Hc (o8 _ _)<|trivial) trivial)
 intro k g u hk;have hle:=vV l k;refine Sr<|Dd dN<|Zz<|Sq ?_;refine Cn ?_ ?_<;>intro hc1
 ·have hlt:k < l.length:=by have:=W7 hc1;omega
  obtain ⟨s,hs⟩:=aY hlt;have hi:=dC (f:=encStr) hs;have hle2:=vV l (k+1);rw [cY hs,rJ,XC,nM,kT] at hle2;have hsz:s.size < 35184372088832:=by omega
  refine aH<|Sq<|aN<|Sr<|Dd (BT b5)<|Dd (mB aV)<|Dd aQ<|Zz<|Rg<|Dd aE<|Dd (xO aJ)<|Dd (by exact aB rfl rfl nG rfl (mP (s.size:Int) (by omega) (by omega) _))<|Dd (by exact iC rfl rfl rfl (by have:(⟨#[58]⟩:ByteArray).size=1:=rfl;omega) rfl)<|Dd aE<|Dd (by exact iC rfl rfl rfl (by rw [ByteArray.size_append];have:(⟨#[58]⟩:ByteArray).size=1:=rfl;omega) rfl)<|Dd (by exact aB rfl rfl call86 rfl (pC g (aR (l.take k)) u (mI s) (by rw [kT];omega)))<|Zz<|Rg<|Dd mC<|Dd aE<|Zz ?_;refine⟨k+1,g+1,true,by omega,by omega,?_⟩;rw [cY hs,rJ];exact(bX.wk (Ea<|Eb<|Eb<|Eb<|trivial) (Hc (l5 rfl rfl)<|Hc (o8 _ _)<|trivial) trivial)
 have hge:k=l.length:=by have:=W8 hc1;omega
 subst hge;rw [List.take_length];exact bE<|Sr<|Dd (by exact aB rfl rfl call88 rfl (R9 g (aR l) u (by omega)))<|Dd aQ<|Zz<|aM<|Rt<|Qq
def uS (l:List UInt8):List UInt8:=l.takeWhile fun b=>!decide (b=58)
def tZ (l:List UInt8):List UInt8:=(l.dropWhile fun b=>!decide (b=58)).drop 1
def pL (l:List UInt8):Bool:=(((!decide ((58:UInt8)∈l)||gC (ofL (uS l)))||decide (cT (ofL (uS l)) < 0))||decide (((tZ l).length:Int) < cT (ofL (uS l))))||!decide (dA (cT (ofL (uS l)))=ofL (uS l))
def HX (l:List UInt8):Nat:=(cT (ofL (uS l))).toNat
def eO:Nat→List UInt8→List ByteArray→List ByteArray×Bool
 | 0,l,acc=>(acc,true)
 | n+1,l,acc=>if l=[] then(acc,true)else if pL l then([],false)else eO n ((tZ l).drop (HX l)) (acc++[ofL ((tZ l).take (HX l))])
def dR (l:List UInt8):List ByteArray×Bool:=eO l.length l []
theorem BF {l:List UInt8} (h:l≠[]):(tZ l).length < l.length:=by rw [tZ,XQ];have:=(List.dropWhile_sublist (l:=l) fun b=>!decide (b=58)).length_le;have:=List.length_pos_iff.2 h;omega
theorem uZ:∀ (n m:Nat) (l:List UInt8) (acc:List ByteArray),l.length≤n→l.length≤m→eO n l acc=eO m l acc
 | 0,m,l,acc,h,_=>by
  rw [List.length_eq_zero_iff.1 (Nat.le_zero.1 h)];cases m<;>rfl
 | n+1,0,l,acc,_,h=>by
  rw [List.length_eq_zero_iff.1 (Nat.le_zero.1 h)];rfl
 | n+1,m+1,l,acc,hn,hm=>by
  rw [eO,eO];by_cases h0:l=[]
  ·rw [XA h0,XA h0]
  rw [W9 h0,W9 h0];have hlt:=BF h0;by_cases hb:pL l=true
  ·rw [XA hb,XA hb]
  rw [W9 hb,W9 hb];exact uZ n m _ _ (by rw [XQ];omega) (by rw [XQ];omega)
theorem tM {l:List UInt8} {acc:List ByteArray} (h0:l≠[]) (hb:pL l=false):eO l.length l acc=eO ((tZ l).drop (HX l)).length ((tZ l).drop (HX l)) (acc++[ofL ((tZ l).take (HX l))]):=by have hlt:=BF h0;obtain ⟨k,hk⟩:∃ k,l.length=k+1:=⟨l.length - 1,by omega⟩;rw [hk,eO,W9 h0,W9 (by rw [hb];decide)];exact uZ _ _ _ _ (by rw [XQ];omega) (XH _)
theorem EJ {l:List UInt8} {acc:List ByteArray} (h0:l≠[]) (hb:pL l=true):eO l.length l acc=([],false):=by have hlt:=BF h0;obtain ⟨k,hk⟩:∃ k,l.length=k+1:=⟨l.length - 1,by omega⟩;rw [hk,eO,W9 h0,XA hb]
theorem OD {w r:List UInt8} (h:(58:UInt8)∉w):uS (w++58::r)=w∧tZ (w++58::r)=r:=by
 induction w with
 | nil=>exact⟨rfl,rfl⟩
 | cons b w ih =>
  have hb:b≠58:=fun e=>h (by rw [e];exact List.mem_cons_self);obtain ⟨h1,h2⟩:=ih (fun e=>h (List.mem_cons_of_mem _ e));rw [uS] at h1 ⊢;rw [tZ] at h2 ⊢;rw [List.cons_append,List.takeWhile_cons,List.dropWhile_cons,XA (by simp [hb]),XA (by simp [hb]),h1];exact⟨rfl,h2⟩
theorem OC:∀ {l:List UInt8},(58:UInt8)∉l→uS l=l∧tZ l=[]
 | [],_=>⟨rfl,rfl⟩
 | b::l,h=>by
  have hb:b≠58:=fun e=>h (by rw [e];exact List.mem_cons_self);obtain ⟨h1,h2⟩:=OC (l:=l) (fun e=>h (List.mem_cons_of_mem _ e));rw [uS] at h1 ⊢;rw [tZ] at h2 ⊢;rw [List.takeWhile_cons,List.dropWhile_cons,XA (by simp [hb]),XA (by simp [hb]),h1];exact⟨rfl,h2⟩
theorem RN (l:List UInt8):DI (ofL l)=.tup [sv (ofL (uS l)),sv (ofL (tZ l)),bv (decide ((58:UInt8)∈l))]:=by
 rw [DI,a6];by_cases h:Lib.indexByte l 58 = -1
 ·rw [XA h];have hm:=vW.1 h;rw [(OC hm).1,(OC hm).2,decide_eq_false hm];rfl
 rw [W9 h];obtain ⟨w,r,e1,e2,e3⟩:=vX h;rw [e3,XM];subst e1;rw [(OD e2).1,(OD e2).2,decide_eq_true (by simp)];have x1:(ofL (w++58::r)).extract 0 w.length=ofL w:=i8 (by rw [eN,a6,a6,List.drop_zero,Nat.sub_zero,List.take_left]);have x2:(ofL (w++58::r)).extract (w.length+1) (ofL (w++58::r)).size=ofL r:=i8 (by
  rw [n7,a6,a6,← List.drop_drop,List.drop_left];rfl)
 rw [x1,x2]
theorem K5 (s:ByteArray) : -9223372036854775808≤cT s∧cT s≤9223372036854775807:=by
 rw [cT,oI];cases e:Lib.atoiAll s.data.toList with
 | ok v=>exact Lib.atoiAll_bounds e
 | range =>
  show _≤Lib.atoiSat _∧Lib.atoiSat _≤_;rw [Lib.atoiSat]
  split
  ·exact⟨by decide,by decide⟩
  exact⟨by decide,by decide⟩
 | _ =>
  show (-9223372036854775808:Int)≤0∧(0:Int)≤9223372036854775807;exact⟨by decide,by decide⟩
theorem Fin.st2 {H1:aA} {id g n:Nat} {ob:Ob} (l:List ByteArray) (v:AV) (hH:H1.get id=some ob) (hg:ob.g=g) (hps:ob.rows=cL l) (hn:n=l.length) (hv:Clo [] v) :
  Fin [] H1 (.tup [.osl id g 0 n,v]) [] (.tup [.pv (aW l),v]):=by
 subst hg hn;exact Fin.fz (id:=id) (ob:=ob) (l.map encStr) hH (hps.trans (lL l)) (.tup rfl (uQ (.osl (kE encStr l)) (uQ (.same hv) FT))) rfl trivial trivial
theorem F3 (l:List UInt8):(uS l).length≤l.length∧(tZ l).length≤l.length:=by
 constructor
 ·exact(List.takeWhile_sublist _).length_le
 rw [tZ,XQ];have:=(List.dropWhile_sublist (l:=l) fun b=>!decide (b=58)).length_le;omega
theorem B8 (t:List UInt8) (H:aA) (ht:t.length < 1000000000):aI Tryz.prog 87 [sv (ofL t)] H (fun r H'=>r=.tup [.pv (aW (dR t).1),bv (dR t).2]∧H'=H):=by
 refine Pu ?_;refine Bd func87 rfl ntmps87<|Sr<|Dd aQ<|Dd aQ<|Zz<|Sr<|Dd (by exact kJ (id:=905) (sz:=1) (ty:=9) rfl rfl rfl)<|Zz<|Sq<|aN ?_;refine tE (fun(l:List UInt8) (A:List ByteArray)=>([(0,sv (ofL l)),(4,.osl 905 A.length 0 A.length)],[(905,⟨A.length,1,9,cL A⟩)])) (fun l A=>l.length+A.length≤t.length∧dR t=eO l.length l A) (fun l A=>l.length) t [] ⟨XH _,rfl⟩ ?_ ?_
 ·exact(bX.wk (Eb<|Ea<|trivial) (Hc (fT _ _)<|trivial) trivial)
 rintro l A ⟨hl,hR⟩;have hls:(ofL l).size=l.length:=bR l;have hcl:=F3 l;have hcut:=fun H=>TP (ofL l) H (by omega);rw [RN] at hcut;have hat:=fun H=>uU (ofL (uS l)) (by rw [bR];omega) H;have hbd:=K5 (ofL (uS l));have hit:=fun H=>mP (cT (ofL (uS l))) hbd.1 hbd.2 H;have hrs:(ofL (tZ l)).size=(tZ l).length:=bR _;have hbad:pL l=((((!decide ((58:UInt8)∈l)||gC (ofL (uS l)))||decide (cT (ofL (uS l)) < 0))||decide (((tZ l).length:Int) < cT (ofL (uS l))))||!decide (dA (cT (ofL (uS l)))=ofL (uS l))):=rfl;have hN:HX l=(cT (ofL (uS l))).toNat:=rfl;obtain ⟨x,hx⟩:∃ x,x=ofL (uS l):=⟨_,rfl⟩;obtain ⟨v,hv⟩:∃ v,v=cT (ofL (uS l)):=⟨_,rfl⟩;obtain ⟨e,he⟩:∃ e,e=gC (ofL (uS l)):=⟨_,rfl⟩;obtain ⟨o,ho⟩:∃ o,o=decide ((58:UInt8)∈l):=⟨_,rfl⟩;obtain ⟨r,hr⟩:∃ r,r=tZ l:=⟨_,rfl⟩;obtain ⟨iv',hiv⟩:∃ y,y=dA v:=⟨_,rfl⟩;simp only [← hv,← he,← ho,← hr] at hcut hat hit hbad hN hbd hrs hcl;simp only [← hx,← hiv] at hcut hat hit hbad;have hlt:=fun h0=>BF (l:=l) h0;have hst:=fun(h0:l≠[]) hb=>tM (acc:=A) h0 hb;have hbb:=fun(h0:l≠[]) hb=>EJ (acc:=A) h0 hb;rw [← hr] at hlt;simp only [← hr] at hst;clear hx hv he ho hr hiv;refine Sq<|Sr<|Dd aE<|Dd (xO aJ)<|Dd yS<|Zz ?_;refine Cn ?_ ?_<;>intro hc1
 ·have h0:l≠[]:=fun e=>by have h:=W7 hc1;rw [hls,e] at h;exact absurd h (by decide)
  refine aH<|aN<|Sr<|Dd aE<|Dd (by exact aB rfl rfl call117 rfl (hcut _))<|Dd aE<|Dd dO<|Dd dO<|Dd dO<|Dd aQ<|Dd aQ<|Dd aQ<|Zz<|Sr<|Dd aE<|Dd (by exact aB rfl rfl PU rfl (hat _))<|Dd aE<|Dd dO<|Dd dO<|Dd aQ<|Dd aQ<|Zz<|Sq<|Sq ?_;refine cX (t:=45) (n:=26) (X:=pL l) ?_ ?_
  ·all_goals refine Dd aE ?_
   all_goals refine Dd sA<|Dm ?_
   all_goals refine Sp 26 (fun h26=>?_) fun h26=>?_
   all_goals(try(with_reducible contradiction))
   all_goals first|refine Fo<|Fo ?_|refine On aE<|On (by exact q9 rfl gT rfl) ?_
   all_goals refine Dd dW<|Dm ?_
   all_goals refine Sp 30 (fun h30=>?_) fun h30=>?_
   all_goals(try(with_reducible contradiction))
   all_goals first|refine Fo<|Fo ?_|refine On aE<|On dN ?_
   all_goals refine Dd dW<|Dm ?_
   all_goals refine Sp 34 (fun h34=>?_) fun h34=>?_
   all_goals(try(with_reducible contradiction))
   all_goals first|refine Fo<|Fo<|Fo<|Fo ?_|refine On aE<|On aE<|On (xO aJ)<|On yS ?_
   all_goals refine Dd dW<|Dm ?_
   all_goals refine Sp 40 (fun h40=>?_) fun h40=>?_
   all_goals(try(with_reducible contradiction))
   all_goals first|refine Fo<|Fo<|Fo<|Fo ?_|refine On aE<|On (by exact aB rfl rfl nG rfl (hit _))<|On aE<|On MB ?_
   all_goals refine Dd dW<|Zz ?_
   all_goals(exact⟨⟨_,rfl,by rw [hbad];first|(rw [h26];rfl)|(rw [h26,h30];rfl)|(rw [h26,h30,h34,← hrs];rfl)|(rw [h26,h30,h34,← hrs,h40];rfl)⟩,rfl,rfl,rfl⟩)
  refine Cn ?_ ?_<;>intro hc2
  ·have hb:pL l=true:=hc2;rw [hR,hbb h0 hb];refine Sr<|Dd aQ<|Dd aQ<|Zz<|aM ?_;refine fI (H':=[]) (.inr rfl) rfl (aG rfl) (aG rfl) (Fin.wk (r:=.tup [.pv (aW []),bv false]) (by simp) trivial trivial) ?_;exact Qq
  have hb:pL l=false:=hc2;have hs:=hst h0 hb;have hlt2:=hlt h0;have hb2:=hbad.symm.trans hb;simp only [XX,XJ] at hb2;obtain ⟨u,rfl⟩:∃ u:Nat,v=(u:Int):=⟨v.toNat,by omega⟩;rw [XM] at hN;rw [hN] at hs;have hur:u≤r.length:=by omega
  have x1:(ofL r).extract 0 u=ofL (r.take u):=i8 (by rw [eN,a6,a6,List.drop_zero,Nat.sub_zero]);have x2:(ofL r).extract u (ofL r).size=ofL (r.drop u):=i8 (by rw [n7,a6,a6]);have hnl:(A++[ofL (r.take u)]).length=A.length+1:=by rw [XC];rfl
  refine aH<|bK follows<|Cr [905] (fun _ _=>aE)<|Cr [] (fun _ _=>aE)<|Cr [] (fun _ _=>aE)<|Cr [] (fun H1 hH=>by exact cE (l:=0) (h:=u) rfl aJ rfl rfl rfl (XS _) (by omega) x1)<|Cr [] (fun H1 hH=>by exact bF [[.str (ofL (r.take u))]] rfl b5 rfl rfl rfl rfl rfl (by intro r hr;rw [XE] at hr;subst hr;rfl))<|Cp [905] (fun H1 hH=>by exact fB (ps:=[[.str (ofL (r.take u))]]) rfl b5 LJ rfl ((hH _ rfl).trans rfl) rfl rfl rfl (fD _) rfl (by intro r hr;rw [XE] at hr;subst hr;rfl) (m:=1) rfl (by omega) rfl (j4 _ (ofL (r.take u))))<|Cr [] (fun _ _=>aE)<|Cr [] (fun _ _=>aE)<|Cr [] (fun H1 hH=>by exact cE (l:=u) (h:=(ofL r).size) rfl aJ rfl rfl rfl (by omega) (XH _) x2)<|Cr [905] (fun _ _=>aQ)<|Cr [] (fun _ _=>aQ)<|cQ<|Kr ?_;refine⟨r.drop u,A++[ofL (r.take u)],⟨by rw [XQ,hnl];omega,hR.trans hs⟩,by rw [XQ];omega,?_⟩;dsimp only;rw [hnl];exact(bX.wk (Eb<|Ea<|trivial) (Hc (fT _ _)<|trivial) trivial)
 have h0:l=[]:=List.length_eq_zero_iff.1 (by have:=W8 hc1;omega);rw [hR,h0];refine bE<|Sr<|Dd aE<|Dd aQ<|Dd aQ<|Zz<|aM ?_;refine fI (H':=[]) (.inr rfl) rfl (aG rfl) (aG rfl) (Fin.st2 A (bv true) rfl rfl rfl rfl (by simp)) ?_;exact Qq
def wT (F:FuncId) (caps:List AV) (PR:List ByteArray→Prop) (K:aA):Prop :=∀ (yv:AV) (Hs:List ByteArray→aA),(∀ M,Sub K (Hs M))→(∀ M,(Hs M).get 946=none)→(∀ M,bB (Hs M))→(∀ M,Clo (Hs M) yv) →
  (∀ M x,M.length < 1099511627776→eD Tryz.prog yv [sv x] (Hs M) (fun r H'=>r=bv true∧H'=Hs (M++[x]))) →
  (∀ o M x,M.length < 1099511627776→eD Tryz.prog yv [sv x] ((946,o)::Hs M) (fun r H'=>r=bv true∧H'=(946,o)::Hs (M++[x]))) →
  aI Tryz.prog F (yv::caps) (Hs []) (fun r H'=>r=.tup []∧∃ M,PR M∧H'=Hs M)
def PM:bC:=[(2,.ref 942 0 0 0)]
def PZ (M:List ByteArray) (K:aA):aA:=(945,⟨M.length,1,9,cL M⟩)::(942,bx 1 31 [.osl 945 M.length 0 M.length])::K
theorem GG (M:List ByteArray) (s:ByteArray) (K:aA):PZ (M++[s]) K=(945,⟨M.length+1,1,9,cL (M++[s])⟩)::(942,bx 1 31 [.osl 945 (M.length+1) 0 (M.length+1)])::K:=by simp [PZ]
theorem D6 {M:List ByteArray} {K:aA} {x:Go.Loop} (h:bB K):bB ((944,LR x PM)::PZ M K):=by refine bB.app (D:=[(944,LR x PM),(945,⟨M.length,1,9,cL M⟩),(942,bx 1 31 [.osl 945 M.length 0 M.length])]) ?_ h;refine j3.spec ⟨PH (by simp [PM];rfl),fT _ _,?_,trivial⟩;intro r hr a ha;simp only [bx,XE] at hr;subst hr;rw [XE] at ha;subst ha;exact .osl rfl
theorem F9 {F:FuncId} {caps:List AV} {PR:List ByteArray→Prop} (hE:∀ (args:Array Value) (w:World),(callFunc F args).run Tryz.prog w=.ok (.enter F args) w) (K:aA) (hS:wT F caps PR K) (k2:K.get 942=none) (k4:K.get 944=none) (k5:K.get 945=none) (k6:K.get 946=none) (hc:bB K) (hcap:Clo K (.clo F caps)) :
  aI Tryz.prog 125 [.pv .nils,.clo F caps] K (fun r H'=>∃ M,PR M∧r=.osl 945 M.length 0 M.length∧H'=(945,⟨M.length,1,9,cL M⟩)::K):=by
 have k2':aA.get ((945,⟨0,1,9,[]⟩)::K) 942=none:=k2;refine Bd func125 rfl ntmps125 ?_;refine OR (t:=0) (id:=945) (sz:=1) (ty:=9) rfl k5 rfl ?_;refine KV (t:=0) rfl rfl rfl (XH _) ?_;refine Sr<|Dd (by exact fY (id:=942) rfl rfl rfl rfl k2')<|Dd aQ<|Zz<|Sq<|Sr<|Dd aE<|Zz<|aN ?_;refine fJ.ent (E':=[(2,.ref 942 0 0 0),(6,.clo F caps)]) (H':=PZ [] K) (bX.get' ⟨⟨_,rfl,rfl⟩,⟨_,rfl,rfl⟩,trivial⟩ (fun j=>rR (by decide) j)) ?_;refine s9 (id:=944) (p:=7) PM rfl hE rfl k4 (by simp [PM];rfl) ?_;intro x hx1 hx2 hx3 hx4 hx5 hx6;refine(hS (.yld 944 0) (fun M=>(944,LR x PM)::PZ M K) (fun M=>?_) (fun M=>k6) (fun M=>D6 hc) (fun M=>by simp;rfl) ?_ ?_).mono ?_
 ·refine Sub.app (D:=[(944,LR x PM),(945,⟨M.length,1,9,cL M⟩),(942,bx 1 31 [.osl 945 M.length 0 M.length])]) ?_;intro p hp;simp only [XN,XR,or_false] at hp;rcases hp with rfl|rfl|rfl
  ·exact k4
  ·exact k5
  exact k2
 ·intro M s hM;refine .inl ⟨944,0,rfl,?_⟩;rw [GG];refine zM [(2,.ref 942 0 0 0),(5,sv s)] (PZ M K) hx1 hx2 hx3 hx4 hx5 hx6 rfl rfl rfl ?_ ?_
  ·refine Rg<|Da ?_;exact E0
  refine aN<|Rg<|Dd (eC cD)<|Dd aE<|Dd (by exact bF [[.str s]] rfl b5 rfl rfl rfl rfl rfl (by intro r hr;rw [XE] at hr;subst hr;rfl))<|Dd (by exact fB (ps:=[[.str s]]) rfl b5 LJ rfl rfl rfl rfl rfl (fD _) rfl (by intro r hr;rw [XE] at hr;subst hr;rfl) (m:=1) rfl (by omega) rfl (j4 _ s))<|Uu (pF nA)<|Zz ?_;exact⟨(945,⟨M.length+1,1,9,cL (M++[s])⟩)::(942,bx 1 31 [.osl 945 (M.length+1) 0 (M.length+1)])::K,bX.get' trivial (fun j=>lW [_,_,_] [_,_,_,_,_] (by repeat(first|exact trivial|refine⟨rfl,?_⟩)) j),rfl,rfl⟩
 ·intro o M s hM;refine eD.congrG (H1:=(944,LR x PM)::(946,o)::PZ M K) (K1:=(944,LR x PM)::(946,o)::PZ (M++[s]) K) (.inl ⟨944,0,rfl,?_⟩) (fun j=>rR (by decide) j) (fun j=>rR (by decide) j);rw [GG];refine zM [(2,.ref 942 0 0 0),(5,sv s)] ((946,o)::PZ M K) hx1 hx2 hx3 hx4 hx5 hx6 rfl rfl rfl ?_ ?_
  ·refine Rg<|Da ?_;exact E0
  refine aN<|Rg<|Dd (eC cD)<|Dd aE<|Dd (by exact bF [[.str s]] rfl b5 rfl rfl rfl rfl rfl (by intro r hr;rw [XE] at hr;subst hr;rfl))<|Dd (by exact fB (ps:=[[.str s]]) rfl b5 LJ rfl rfl rfl rfl rfl (fD _) rfl (by intro r hr;rw [XE] at hr;subst hr;rfl) (m:=1) rfl (by omega) rfl (j4 _ s))<|Uu (pF nA)<|Zz ?_;exact⟨(946,o)::(945,⟨M.length+1,1,9,cL (M++[s])⟩)::(942,bx 1 31 [.osl 945 (M.length+1) 0 (M.length+1)])::K,bX.get' trivial (fun j=>lW [_,_,_,_] [_,_,_,_,_,_] (by repeat(first|exact trivial|refine⟨rfl,?_⟩)) j),rfl,rfl⟩
 rintro r H' ⟨rfl,M,hM,rfl⟩;refine⟨x,_,rfl,by rw [hx1];decide,rfl,fun z=>?_⟩;rw [hx2];refine Sr<|Dd (eC cD)<|Dd aQ<|Zz<|aM ?_;refine a7 (H':=((945,⟨M.length,1,9,cL M⟩)::K)) (.inr rfl) rfl (aG rfl) (Fin.front' [(944,LR z PM),(945,⟨M.length,1,9,cL M⟩),(942,bx 1 31 [.osl 945 M.length 0 M.length])] [(945,⟨M.length,1,9,cL M⟩)] (.osl rfl) (by simp [k2,k4,aA.get]) (by intro p hp;rw [XE] at hp;subst hp;rfl) (j3.spec ⟨fT _ _,trivial⟩) hc (by simp [k2,k4,aA.get])) ?_;exact⟨M,hM,rfl,rfl⟩
theorem DN {F:FuncId} {caps:List AV} {PR:List ByteArray→Prop} (hE:∀ (args:Array Value) (w:World),(callFunc F args).run Tryz.prog w=.ok (.enter F args) w) (K:aA) (hS:wT F caps PR K) (k2:K.get 942=none) (k4:K.get 944=none) (k5:K.get 945=none) (k6:K.get 946=none) (hc:bB K) (hcap:Clo K (.clo F caps)) :
  aI Tryz.prog 95 [.clo F caps] K (fun r H'=>∃ M,PR M∧r=.osl 945 M.length 0 M.length∧H'=(945,⟨M.length,1,9,cL M⟩)::K):=by
 refine Bd func95 rfl ntmps95<|Sr<|Dd aQ<|Zz<|Sr<|Dm ?_;refine fR rfl rfl (AA rfl rfl call125 rfl (F9 hE K hS k2 k4 k5 k6 hc hcap)) ?_;rintro r H' ⟨M,hM,rfl,rfl⟩;refine Dd aQ<|Zz<|aM ?_;refine a7 (H':=((945,⟨M.length,1,9,cL M⟩)::K)) (.inr rfl) rfl (aG rfl) Fin.refl ?_;exact⟨M,hM,rfl,rfl⟩
theorem zP (l:List ByteArray):dB l=(l.map encStr).map (·.map .pv):=by rw [List.map_map];rfl
theorem zQ {F:FuncId} {caps:List AV} {L:List ByteArray} (hL:L.length < 1099511627776) (hE:∀ (args:Array Value) (w:World),(callFunc F args).run Tryz.prog w=.ok (.enter F args) w) (K:aA) (hS:wT F caps (fun M=>M.Perm L) K) (k2:K.get 942=none) (k4:K.get 944=none) (k5:K.get 945=none) (k6:K.get 946=none) (hc:bB K) (hcap:Clo K (.clo F caps)) :
  aI Tryz.prog 48 [.clo F caps] K (fun r H'=>r=.pv (aW (cH L))∧H'=K):=by
 refine Bd func48 rfl ntmps48<|Sr<|Dd aQ<|Zz<|Sr<|Dm ?_;refine fR rfl rfl (aB rfl rfl call95 rfl (DN hE K hS k2 k4 k5 k6 hc hcap)) ?_;rintro r H' ⟨M,hperm,rfl,rfl⟩;have hMl:M.length < 4611686018427387904:=by rw [hperm.length_eq];omega
 have hSo:=u3 hperm;have hSl:(cH M).length=M.length:=by rw [cH,XB,List.length_mergeSort,XB]
 refine Dd aQ<|Zz<|Sr<|Dd aE<|Dd (by exact aB rfl rfl call96 rfl (x6 M rfl rfl hMl))<|Zz<|Sr<|Dd aE<|Dd aQ<|Zz<|aM ?_;refine a7 (H':=K) (.inr rfl) rfl (aG rfl) (Fin.slice [(945,⟨M.length,1,9,dB (cH M)⟩),(945,⟨M.length,1,9,cL M⟩)] ((cH M).map encStr) rfl rfl (zP _) (by rw [XB,hSl]) hc (by simp [k5]) (by simp [k5]) k5) ?_;exact⟨by rw [← hSo];rfl,rfl⟩
abbrev bN:=List (ByteArray×ByteArray×Nat)
def dL (l:bN) (c:Nat):Prop:=(l.map fun p=>p.2.2).Pairwise (· < ·)∧∀ p∈l,p.2.2 < c
def jE (l:bN) (i:Nat):Nat:=((l[i]?).map fun p=>p.2.2).getD 0
theorem EG {l:bN} {c:Nat} (h:dL l c) {i j:Nat} (hi:i < l.length) (hj:j < l.length) (e:jE l i=jE l j):i=j:=by
 have hp:=List.pairwise_iff_getElem.1 h.1;rw [jE,jE,XG hi,XG hj] at e;have e:(l[i]).2.2=(l[j]).2.2:=e;rcases Nat.lt_trichotomy i j with h1|h1|h1
 ·have:=hp i j (by simpa using hi) (by simpa using hj) h1;simp at this;omega
 ·exact h1
 have:=hp j i (by simpa using hj) (by simpa using hi) h1;simp at this;omega
def C1 (mid:Nat) (l:bN) (c:Nat) (s:List Nat):Ob:=⟨0,0,0,dS (.mp mid 0) c c (s.map (jE l))⟩
abbrev PO (mid:Nat):Ob:=bx 1 33 [.mp mid 0]
theorem HR {H:aA} {mid:Nat} (h:(H.get mid).isSome=true) (l:bN) (c:Nat) (s:List Nat):∀ r∈(C1 mid l c s).rows,∀ x∈r,Clo H x:=by
 intro r hr x hx;rw [C1,dS] at hr;rcases XN.1 hr with rfl|hr
 ·simp only [XN,XR,or_false] at hx;rcases hx with rfl|rfl|rfl
  ·exact .mp h
  ·exact .pv _
  exact .pv _
 obtain ⟨n,_,rfl⟩:=List.mem_map.1 hr;rw [XE] at hx;subst hx;exact .pv _
theorem sQ {l:bN} {i:Nat} {q:ByteArray×AV×Nat} (h:(bM l)[i]?=some q):∃ p,l[i]?=some p∧q=(p.1,sv p.2.1,p.2.2):=by
 rw [bM,XV] at h;cases e:l[i]? with
 | none=>rw [e] at h;cases h
 | some p=>rw [e] at h;cases h;exact⟨p,rfl,rfl⟩
def pG (l:bN) (s:List Nat):List ByteArray:=pick (l.map Prod.fst) s
theorem E5 {l:bN} {s:List Nat} {i:Nat} {p:ByteArray×ByteArray×Nat} (h:l[i]?=some p):pG l (s++[i])=pG l s++[p.1]:=by simp only [pG,pick,List.map_append,List.map_cons,List.map_nil,XV,h,Option.map_some,Option.getD_some]
theorem JG (l:bN) (s:List Nat):(pG l s).length=s.length:=XB _
theorem HM (mid:Nat) (l:bN) (c:Nat) (K:aA) (hl:l.length < 1099511627776) (hst:dL l c) (h1:K.get 951=some (PO mid)) (h2:K.get mid=some (bH l c)) (hm6:mid≠946):wT 105 [.ref 951 0 0 0] (fun M=>M.Perm (l.map Prod.fst)) K:=by
 intro yv Hs hK h6 hcl hf hy0 hy1;have g1:∀ M,(Hs M).get 951=some (PO mid):=fun M=>hK M _ _ h1;have g2:∀ M,(Hs M).get mid=some (bH l c):=fun M=>hK M _ _ h2;have g2':∀ o M,aA.get ((946,o)::Hs M) mid=some (bH l c):=fun o M=>by rw [get_cons_other _ _ hm6];exact g2 M
 refine Bd func105 rfl ntmps105<|Sr<|Dd (by exact aX rfl bO rfl (g1 []) rfl rfl rfl)<|Dd (by exact A0 (q:=946) (κ:=eT) rfl aU rfl (g2 []) rfl rfl rfl (h6 []))<|Zz<|aN ?_;refine bI (σ:=List Nat) (fun s=>([(0,yv),(5,.it 946 0)],(946,C1 mid l c s)::Hs (pG l s))) (fun s=>s.Nodup∧∀ i,i∈s→i < l.length) (fun s=>l.length - s.length) [] ⟨List.nodup_nil,by simp⟩ ?_ ?_
 ·exact E0
 rintro s ⟨hd,hb⟩;have hsl:s.length≤l.length:=jH _ _ hd hb;refine Sq<|Rg ?_;refine fR rfl rfl (FS (κ:=eT) (l:=bM l) rfl rfl (get_cons_same _ _ _) rfl rfl (g2' _ _) rfl rfl rfl (XH _) (XH _)) ?_;rintro _ _ (⟨rfl,rfl,hn0⟩|⟨hni,hnp,hn1,hn2,rfl,rfl⟩)
 ·refine Dd dO<|Zz<|Sq ?_;refine Cn ?_ ?_<;>intro hc1
  ·cases hc1
  refine bE ?_;have hall:∀ i,i < l.length→i∈s:=fun i hi=>by
   have hq:(bM l)[i]?=some ((l[i]).1,sv (l[i]).2.1,(l[i]).2.2):=by rw [bM,XV,XG hi];rfl
   have:=hn0 _ (XL hq);obtain ⟨j,hj,e⟩:=List.mem_map.1 this;have e2:jE l j=jE l i:=by
    rw [e,jE,XG hi];rfl
   have:=EG hst (hb j hj) hi e2
   rwa [this] at hj
  exact iQ (H':=Hs (pG l s)) (.inl rfl) rfl (Fin.pops' [(946,C1 mid l c s)] (by simp) (hcl _) (by simp [h6]) (by simp [h6])) ⟨rfl,pG l s,MW hd (by rw [XB];exact hb) (by rw [XB];exact hall),rfl⟩
 obtain ⟨p,hp,rfl⟩:=sQ hn1;have hlt:hni < l.length:=(XF.1 hp).1;have hst2:jE l hni=p.2.2:=by rw [jE,hp];rfl
 have hn3:hni∉s:=fun hm=>hn2 (List.mem_map.2 ⟨hni,hm,hst2⟩);have hb2:∀ i,i∈s++[hni]→i < l.length:=fun i hi=>by
  rcases List.mem_append.1 hi with h|h
  ·exact hb i h
  rw [XE] at h;omega
 have hd2:(s++[hni]).Nodup:=List.nodup_append.2 ⟨hd,by simp,fun a ha b hb e=>by rw [XE] at hb;subst hb;subst e;exact hn3 ha⟩;have hlen:=jH _ _ hd2 hb2;rw [XC,List.length_singleton] at hlen;have hit:C1 mid l c (s++[hni])=⟨0,0,0,dS (.mp mid 0) c c (s.map (jE l)++[p.2.2])⟩:=by rw [C1,List.map_append,List.map_cons,List.map_nil,hst2]
 have hyy:=hy1 (C1 mid l c (s++[hni])) (pG l s) p.1 (by rw [JG];omega);rw [← E5 hp] at hyy;refine Dd dO<|Zz<|Sq ?_;refine Cn ?_ ?_<;>intro hc2
 ·refine aH<|aN<|Sr<|Dd (by exact A1 (κ:=eT) (seen:=s.map (jE l)) (p:=(p.1,sv p.2.1,p.2.2)) (since:=c) rfl rfl (get_cons_same _ _ _) rfl rfl ((get_cons_other _ _ hm6).trans (g2' _ _)) rfl rfl rfl hn1)<|Dd dO<|Dd aQ<|Zz<|Sq ?_;refine fJ.ent (E':=[(0,yv),(5,.it 946 0),(3,sv p.1)]) (H':=(946,C1 mid l c (s++[hni]))::Hs (pG l s)) (bX.get' ⟨⟨_,rfl,rfl⟩,⟨_,rfl,rfl⟩,⟨_,rfl,rfl⟩,trivial⟩ (fun j=>by rw [hit];exact gL 946 _ (C1 mid l c s) (Hs (pG l s)) j)) ?_;refine Rg<|Dd aE<|Dd aE<|Dd (by exact fX rfl rfl rfl (hyy))<|Dd sA<|Zz ?_;refine Cn ?_ ?_<;>intro hc3
  ·cases hc3
  refine aH ?_;refine⟨s++[hni],⟨hd2,hb2⟩,by rw [XC,List.length_singleton];omega,?_⟩;exact E0
 cases hc2
theorem xY (l:List ByteArray) (K:aA) (hl:l.length < 1099511627776) (h1:K.get 951=some (bx 1 31 [.pv (aW l)])):wT 97 [.ref 951 0 0 0] (fun M=>M.Perm l) K:=by
 intro yv Hs hK h6 hcl hf hy0 hy1;have g1:∀ M,(Hs M).get 951=some (bx 1 31 [.pv (aW l)]):=fun M=>hK M _ _ h1;have hml:(l.map encStr).length=l.length:=XB _;refine Bd func97 rfl ntmps97<|Sr<|Dd (by exact aX rfl cD rfl (g1 []) rfl rfl rfl)<|Dd (kZ aP)<|Dd aE<|Zz<|aN ?_;refine bI (σ:=Nat) (fun i=>([(0,yv),(5,.pv (aW l)),(6,iv ((l.map encStr).length:Int)),(7,iv (i:Int))],Hs (l.take i))) (fun i=>i≤l.length) (fun i=>l.length - i) 0 (XS _) ?_ ?_
 ·exact E0
 rintro i hi;refine Sr<|Dd dN<|Zz<|Sq ?_;refine Cn ?_ ?_<;>intro hc1
 ·have hlt:i < l.length:=by have:=W7 hc1;omega
  obtain ⟨s,hs⟩:=aY hlt;have his:=dC (f:=encStr) hs;have hyy:=hy0 (l.take i) s (by rw [XP];omega);rw [← cY hs] at hyy;refine aH<|Sq<|aN<|Sr<|Dd (BT b5)<|Dd (mB aV)<|Dd aQ<|Zz<|Sr<|Dd aE<|Dd aE<|Dd (by exact fX rfl rfl rfl (hyy))<|Dd sA<|Zz ?_;refine Cn ?_ ?_<;>intro hc2
  ·cases hc2
  refine aH<|Rg<|Dd mC<|Dd aE<|Zz ?_;exact⟨i+1,by omega,by omega,E0⟩
 have hge:i=l.length:=by have:=W8 hc1;omega
 subst hge;refine bE ?_;exact iQ (H':=Hs (l.take l.length)) (.inl rfl) rfl Fin.refl ⟨rfl,_,by rw [List.take_length],rfl⟩
theorem HL (mid:Nat) (H:aA) (h1:H.get 951=none) (hm:(H.get mid).isSome=true) :
  aI Tryz.prog 55 [.mp mid 0] H (fun r H'=>r=.clo 105 [.ref 951 0 0 0]∧H'=(951,PO mid)::H):=by
 refine Bd func55 rfl ntmps55<|Sr<|Dd (by exact fY (id:=951) rfl rfl rfl rfl h1)<|Dd aQ<|Zz<|Sr<|Dd (by exact eK rfl rfl)<|Dd aQ<|Zz<|aM ?_;refine a7 (H':=((951,PO mid)::H)) (.inr rfl) rfl (aG rfl) Fin.refl ?_;exact Qq
def dE:bN→ByteArray→ByteArray
 | [],_=>⟨#[]⟩
 | (k',v,_)::r,k=>if k'=k then v else dE r k
theorem AN (k:ByteArray):∀ l:bN,(kK (C7 (bM l)) k).getD (sv ⟨#[]⟩)=sv (dE l k)
 | []=>rfl
 | (k',v,n)::r=>by
  show (if k'=k then some (sv v)else kK (C7 (bM r)) k).getD (sv ⟨#[]⟩)=sv (if k'=k then v else dE r k)
  split
  ·rfl
  exact AN k r
theorem S9 {P:Program} {N:Nat} {o:Oper} {E:bC} {H:aA} {T kt et:TypeId} {x y:Operand} {zv:Value} {id g:Nat} {ob:Ob} {l:bN} {k:ByteArray} (ho:o.op=.lookup T x y false) (hT:P.underlying T=some (.map kt et)) (hd:P.underlying kt=some .string) (hx:aO E x=some (.mp id g)) (hH:H.get id=some ob) (hg:ob.g=g)
  (hrows:ob.rows=eY eT (bM l)) (hy:aO E y=some (sv k)) (hz:∀ w,(zeroValue et).run P w=.ok zv w) (hv:ZV zv (sv ⟨#[]⟩)):bP P N o E H (sv (dE l k)) H:=by
 have h:=NS (N:=N) (κ:=eT) ho hT hd hx hH hg hrows hy hz hv
 rwa [AN] at h
theorem qQ (s u:ByteArray):∀ r∈([[.str s],[.str u]]:List (List PV)),r.length=1:=by intro r hr;simp only [XN,XR,or_false] at hr;rcases hr with rfl|rfl<;>rfl
def wZ (l:bN) (S:List ByteArray) (k:Nat):List ByteArray:=dA ((bM l).length:Int)::(S.take k).flatMap fun x=>[x,dE l x]
theorem P5 {l:bN} {S:List ByteArray} {k:Nat} {s:ByteArray} (h:S[k]?=some s):wZ l S (k+1)=wZ l S k++[s,dE l s]:=by rw [wZ,wZ,cY h,List.flatMap_append];rfl
theorem f7 {α β:Type} (f g:α→β):∀ S:List α,(S.flatMap fun x=>[f x,g x]).length=2*S.length
 | []=>rfl
 | x::r=>by
  have h:=f7 f g r;rw [List.flatMap_cons,XC,h];simp only [XD,List.length_nil];omega
theorem LY {l:bN} {S:List ByteArray} {k:Nat} (h:k≤S.length):(wZ l S k).length=1+2*k:=by rw [wZ,XD,f7,XP];omega
def cG (l:bN):List ByteArray:=cH (l.map Prod.fst)
def b7 (l:bN) (P:List ByteArray):List ByteArray:=(wZ l (cG l) (cG l).length++[dA ((P.map encStr).length:Int)])++P
def a8 (l:bN) (P:List ByteArray):List UInt8:=aR [ofL (aR (b7 l P))]
theorem gX (l:bN):(cG l).length=l.length:=by rw [cG,cH,XB,List.length_mergeSort,XB,XB]
theorem uV (A B:List ByteArray):cL A++(B.map encStr).map (·.map AV.pv)=cL (A++B):=by rw [cL,cL,List.map_append,List.map_map];rfl
theorem uW (A B:List ByteArray):cL A++B.map (fun s=>[.pv (.str s)])=cL (A++B):=by rw [cL,cL,List.map_append]
abbrev tK (g:Nat) (W:List ByteArray) (l:bN) (c:Nat):aA:=[(951,PO 950),(920,⟨g,1,9,cL W⟩),(950,bH l c)]
theorem SU (g:Nat) (W:List ByteArray) (l:bN) (c:Nat):bB (tK g W l c):=bB.of (fun p hp=>by
 simp only [XN,XR,or_false] at hp;rcases hp with rfl|rfl|rfl
 ·intro r hr x hx;simp only [bx,XE] at hr;subst hr;rw [XE] at hx;subst hx;exact .mp rfl
 ·exact fT _ _
 exact aS _ _ _)
theorem qR {l:bN} {P:List ByteArray} {N:Nat} (h:(a8 l P).length < N):(aR (b7 l P)).length < N:=by
 have e:a8 l P=(mI (ofL (aR (b7 l P)))).data.toList:=by rw [a8,aR,List.flatMap_cons,List.flatMap_nil,List.append_nil]
 rw [e,nM,kT,bR] at h;omega
theorem HP {W:List ByteArray} {g n:Nat} {H:aA} (hW:(aR W).length < 35184372088832) (hH:H.get 920=some ⟨g,1,9,cL W⟩) (hn:n=W.length):aI Tryz.prog 99 [.osl 920 g 0 n] H (fun x H'=>x=sv (ofL (aR W))∧H'=H):=by subst hn;exact RO.calls (RO.lend (id:=920) (H1:=[]) (W.map encStr) (RO.of (j7 W [] hW) rfl) hH (lL W) rfl (uQ (.osl (kE encStr W)) FT) (fun _ _ h=>by cases h) (fun _ _ h=>by cases h) rfl)
theorem GN (l:bN) (c:Nat) (P:List ByteArray) (hst:dL l c) (hl:l.length < 1099511627776) (hP:P.length < 1099511627776) (hsz:(a8 l P).length < 35184372088832) :
  aI Tryz.prog 50 [.mp 950 0,.pv (aW P)] [(950,bH l c)] (fun r H'=>r=sv (ofL (a8 l P))∧H'=[(950,bH l c)]):=by
 have hsl:=gX l;have hso:=zQ (L:=l.map Prod.fst) (by rw [XB];exact hl) WB (tK 0 [dA ((bM l).length:Int)] l c) (HM 950 l c _ hl hst rfl rfl (by decide)) rfl rfl rfl rfl (SU _ _ _ _) (by simp;rfl);have hin:=qR hsz;have hgl:(bM l).length=l.length:=XB _;have hml:((cG l).map encStr).length=(cG l).length:=XB _;have hpl:(P.map encStr).length=P.length:=XB _;change aI _ _ _ _ fun r H'=>r=.pv (aW (cG l))∧H'=_ at hso;refine Bd func50 rfl ntmps50<|Sr<|Dd aQ<|Zz<|Sr<|Dd aE<|Dd (by exact tU (κ:=eT) (l:=bM l) rfl aU rfl rfl rfl rfl)<|Dd (by exact aB rfl rfl nG rfl (mP ((bM l).length:Int) (by omega) (by omega) _))<|Dd (by exact iR (id:=920) rfl b5 rfl rfl rfl rfl (show ∀ r∈cL [dA ((bM l).length:Int)],r.length=1 from by intro r hr;rw [XE.1 hr];rfl) rfl)<|Dd aQ<|Zz<|Sq<|Sr<|Dd aE<|Dd (by exact aB rfl rfl WO rfl (HL 950 _ rfl rfl))<|Dd (by exact aB rfl rfl BN rfl (hso))<|Dd (kZ aP)<|Dd aE<|Zz<|aN ?_;refine bI (σ:=Nat) (fun k=>([(0,.mp 950 0),(1,.pv (aW P)),(5,.osl 920 k 0 (1+2*k)),(14,.pv (aW (cG l))),(15,iv (((cG l).map encStr).length:Int)),(16,iv (k:Int))],tK k (wZ l (cG l) k) l c)) (fun k=>k≤(cG l).length) (fun k=>(cG l).length - k) 0 (XS _) ?_ ?_
 ·exact E0
 intro k hk;refine Sr<|Dd dN<|Zz<|Sq ?_;refine Cn ?_ ?_<;>intro hc1
 ·have hlt:k < (cG l).length:=by have:=W7 hc1;omega
  obtain ⟨s,hs⟩:=aY hlt;have hi:=dC (f:=encStr) hs;have hwl:=LY (l:=l) hk;refine aH<|Sq<|aN<|Sr<|Dd (BT b5)<|Dd (mB aV)<|Dd aQ<|Zz<|Rg<|Dd aE<|Dd aE<|Dd aE<|Dd aE<|Dd (by exact S9 (l:=l) (k:=s) rfl aU aJ rfl rfl rfl rfl rfl eP (.inl rfl))<|Dd (by exact bF [[.str s],[.str (dE l s)]] rfl b5 rfl rfl rfl rfl rfl (qQ s (dE l s)))<|Dd (by exact fB (k:=1+2*(k+1)) (ps:=[[.str s],[.str (dE l s)]]) rfl b5 LJ rfl rfl rfl rfl rfl ((fD _).trans hwl) rfl (qQ _ _) (m:=2) rfl (by omega) (by omega) (uW _ [s,dE l s]))<|Dd aQ<|Zz<|Rg<|Dd mC<|Dd aE<|Zz ?_;refine⟨k+1,by omega,by omega,?_⟩;rw [P5 hs];exact(bX.wk (Ea<|Eb<|Ea<|Eb<|Eb<|Eb<|trivial) (Ha<|Hc (fT _ _)<|Hc (aS _ _ _)<|trivial) ⟨rfl,trivial⟩)
 have hge:k=(cG l).length:=by have:=W8 hc1;omega
 subst hge;have hwl:=LY (l:=l) (XH (cG l).length);refine bE<|Sr<|Dd aE<|Dd aE<|Dd (kZ aP)<|Dd (by exact aB rfl rfl nG rfl (mP ((P.map encStr).length:Int) (by omega) (by omega) _))<|Dd (by exact bF [[.str (dA ((P.map encStr).length:Int))]] rfl b5 rfl rfl rfl rfl rfl (by intro r hr;rw [XE] at hr;subst hr;rfl))<|Dd (by exact fB (ps:=[[.str (dA ((P.map encStr).length:Int))]]) rfl b5 LJ rfl rfl rfl rfl rfl ((fD _).trans hwl) rfl (by intro r hr;rw [XE] at hr;subst hr;rfl) (m:=1) rfl (by omega) rfl (j4 _ _))<|Dd aQ<|Zz<|Sr<|Dd aE<|Dd aE<|Dd (by exact fB (ps:=P.map encStr) rfl b5 LJ rfl rfl rfl rfl rfl ((fD _).trans (by rw [XC,hwl];rfl)) rfl (by intro r hr;obtain ⟨q,_,rfl⟩:=List.mem_map.1 hr;rfl) (m:=P.length) hpl (by omega) rfl (uV _ P))<|Dd (by exact aB rfl rfl nF rfl (HP (W:=b7 l P) hin rfl (by rw [b7,XC,XC,hwl];rfl))) ?_;refine Dd (by exact bF [[.str (ofL (aR (b7 l P)))]] rfl b5 rfl rfl rfl rfl rfl (by intro r hr;rw [XE] at hr;subst hr;rfl))<|Dd (by exact aB rfl rfl nF rfl (j7 [ofL (aR (b7 l P))] _ hsz))<|Dd aQ<|Zz<|aM ?_;refine a7 (H':=[(950,bH l c)]) (.inr rfl) rfl (aG rfl) (Fin.wk (by(simp;done)) (Hc (aS _ _ _)<|trivial) ⟨rfl,trivial⟩) ?_;exact Qq
end Go.Proofs.YtmkgeogoojcciaaGreatDoor
namespace Go.Proofs.YtmkgeogoojcciaaGreatDoor
open Go.Proofs.Tryz
open Go.Abs Go.Lib
theorem TC (x y:Nat) (hx:x < 18446744073709551616) (hy:y < 18446744073709551616) (H:aA):aI Tryz.prog 132 [uv x,uv y] H (fun r H'=>r=.tup [uv (x*y / 18446744073709551616),uv (x*y % 18446744073709551616)]∧H'=H):=by
 refine Pu ?_;refine Bd func132 rfl ntmps132<|Sr<|Dd aQ<|Dd aQ<|Zz<|Sq ?_;refine Cn ?_ ?_<;>intro hc1
 ·cases hc1
 exact aH<|Sr<|Dd aE<|Dd aE<|Dd (by exact aB rfl rfl WA rfl (vL x y hx hy _))<|Dd aE<|Dd dO<|Dd dO<|Dd aQ<|Dd aQ<|Zz<|Sr<|Dd aE<|Dd aE<|Dd aQ<|Dd aQ<|Zz<|aM<|Ru<|Qq
theorem wI (t:List UInt8) (ht:t.length < 1000000000000) (H:aA):aI Tryz.prog 51 [sv (ofL t)] H (fun r H'=>r=iv (cM t:Int)∧H'=H):=by
 refine Pu ?_;have hs:(ofL t).size=t.length:=bR t;have hq:IntKind.i64.wrap ((((ofL t).size:Int)+46 - 1).tdiv 46)=(cM t:Int):=by
  rw [hs,Int.tdiv_eq_ediv_of_nonneg (by omega),g9 (by omega) (by omega),cM];omega
 exact Bd func51 rfl ntmps51<|Sr<|Dd aQ<|Zz<|Sr<|Dd aE<|Dd (xO aJ)<|Dd mC<|Dd (by exact dM rfl rfl rfl (by exact g9 (by omega) (by omega)))<|Dd (by exact mJ rfl rfl rfl (by decide) hq)<|Dd aQ<|Zz<|aM<|Rt<|Qq
theorem Fin.st1 {H1:aA} {id g n:Nat} {ob:Ob} (l:List ByteArray) (hH:H1.get id=some ob) (hg:ob.g=g) (hps:ob.rows=cL l) (hn:n=l.length) :
  Fin [] H1 (.osl id g 0 n) [] (.pv (aW l)):=by
 subst hg hn;exact Fin.fz (id:=id) (ob:=ob) (l.map encStr) hH (hps.trans (lL l)) (.osl (kE encStr l)) rfl trivial trivial
def gJ (z:ByteArray) (m n:Nat):List (List AV):=List.replicate m [sv z]++List.replicate (n - m) [sv sNil]
theorem J3 {z:ByteArray} {m n:Nat} (h:m≤n):(gJ z m n).length=n:=by rw [gJ,XC,List.length_replicate,List.length_replicate];omega
theorem FV {z:ByteArray} {m n j:Nat} (h:m≤n) (hj:j=min (n - m) m):(gJ z m n).take m++(((gJ z m n).take j)++(gJ z m n).drop (m+j))=gJ z (m+j) n:=by
 have hjm:j≤m:=by omega
 have h1:(gJ z m n).take m=List.replicate m [sv z]:=by rw [gJ,List.take_left' List.length_replicate]
 have h2:(gJ z m n).take j=List.replicate j [sv z]:=by
  rw [gJ,List.take_append_of_le_length (by rw [List.length_replicate];exact hjm),List.take_replicate,Nat.min_eq_left hjm]
 have h3:(gJ z m n).drop (m+j)=List.replicate (n - (m+j)) [sv sNil]:=by
  rw [gJ,← List.drop_drop,List.drop_left' List.length_replicate,List.drop_replicate,Nat.sub_sub]
 rw [h1,h2,h3,gJ,← List.append_assoc,List.replicate_append_replicate]
theorem y5 {H:aA} {z:ByteArray} {m n:Nat}:∀ r∈gJ z m n,∀ a∈r,Clo H a:=by intro r hr a ha;rcases List.mem_append.1 hr with h|h<;>rw [List.eq_of_mem_replicate h,XE] at ha<;>subst ha<;>exact .pv _
theorem I8 (z:ByteArray) (n:Nat) (hn:n < 100000) (H:aA):aI Tryz.prog 106 [.pv (aW [z]),iv (n:Int)] H (fun r H'=>r=.pv (aW (List.replicate n z))∧H'=H):=by
 refine Pu ?_;have hmul:=fun H=>TC 1 n (by omega) (by omega) H;have e1:1*n / 18446744073709551616=0:=by omega
 have e2:1*n % 18446744073709551616=n:=by omega
 rw [e1,e2] at hmul;have hz0:((List.replicate n [sv sNil]:List (List AV))).take 0++((([[.str z]]:List (List PV)).take (min 1 n)).map (·.map .pv)++(List.replicate n [sv sNil]).drop (0+min 1 n))=gJ z (min 1 n) n:=by
  rw [List.take_zero,List.nil_append,List.drop_replicate,gJ,XT];rcases(show min 1 n=0∨min 1 n=1 by omega)with e|e<;>rw [e]<;>rfl
 refine Bd func106 rfl ntmps106<|Sr<|Dd aQ<|Zz<|Sq<|Sr<|Dd aE<|Dd dN<|Zz ?_;refine Cn ?_ ?_<;>intro hc1
 ·(have:=W7 hc1;omega)
 refine aH<|Sr<|Dd aE<|Dd (kZ aP)<|Dd (by exact eL rfl bT dV rfl (show IntKind.u64.wrap (1:Int)=1 by rfl))<|Dd aE<|Dd (by exact eL rfl bT dV rfl (show IntKind.u64.wrap (n:Int)=(n:Int)by rw [IntKind.wrap_u64];omega))<|Dd (by exact aB rfl rfl call132 rfl (hmul _))<|Dd aE<|Dd dO<|Dd dO<|Dd aQ<|Dd aQ<|Zz<|Sq<|Sq ?_;refine cX (t:=26) (n:=7) (X:=false) ?_ ?_
 ·all_goals refine Dd aE ?_
  all_goals refine Dd yS<|Dm ?_
  all_goals refine Sp 23 (fun h23=>?_) fun h23=>?_
  all_goals try contradiction
  all_goals refine On aE<|On yS<|Dd dW<|Zz ?_
  all_goals(exact⟨⟨_,rfl,by simp;omega⟩,rfl,rfl,rfl⟩)
 refine Cn ?_ ?_<;>intro hc2
 ·cases hc2
 refine aH<|Sr<|Dd aE<|Dd (by exact eL rfl dV bT rfl (g9 (by omega) (by omega)))<|Dd (by exact jC (id:=960) rfl b5 LJ WD rfl rfl rfl (by omega) (by omega) (by exact XM _) (by exact XM _) (by omega) rfl)<|Dd aQ<|Zz<|Sr<|Dd aE<|Dd aE<|Dd (by exact LT (n:=min 1 n) rfl b5 (wE rfl rfl rfl) rfl rfl rfl (XS _) (IO (len:=1) (ps:=[[.str z]]) (k:=min 1 n) rfl (by decide) (by intro r hr;rw [XE] at hr;subst hr;rfl) rfl (by omega) rfl) (by intro r hr;obtain ⟨q,hq,rfl⟩:=List.mem_map.1 hr;have:=List.mem_of_mem_take hq;rw [XE] at this;subst this;rfl) (by rw [XB,XP];show min (min 1 n) 1=min 1 n;omega) rfl hz0)<|Dd aQ<|Zz<|Sq<|aN ?_;refine bI (σ:=Nat) (fun m=>([(7,.osl 960 0 0 n),(8,iv (m:Int))],[(960,⟨0,1,9,gJ z m n⟩)])) (fun m=>m≤n∧(n=0∨0 < m)) (fun m=>n - m) (min 1 n) ⟨by omega,by omega⟩ ?_ ?_
 ·exact(bX.wk (Ea<|Eb<|trivial) (Hc y5<|trivial) trivial)
 rintro m ⟨hm,hm0⟩;refine Sq<|Sr<|Dd aE<|Dd aE<|Dd (by exact cS rfl aP rfl rfl rfl)<|Dd dN<|Zz ?_;refine Cn ?_ ?_<;>intro hc3
 ·have hlt:m < n:=by have:=W7 hc3;omega
  obtain ⟨j,hj⟩:∃ j,j=min m (n - m):=⟨_,rfl⟩;have hrows:=FV (z:=z) (j:=j) hm (by omega);have hrl:∀ r∈(gJ z m n).take j,r.length=1:=fun r hr=>by
   have:=List.mem_of_mem_take hr;rcases List.mem_append.1 this with h|h<;>rw [List.eq_of_mem_replicate h]<;>rfl
  have hfl:=J3 (z:=z) hm;refine aH<|aN<|bK follows<|Cr [] (fun _ _=>aE)<|Cr [960] (fun _ _=>aE)<|Cr [] (fun _ _=>aE)<|Cr [960] (fun H1 hH=>by exact eW (l:=m) (h:=n) rfl b5 rfl ((hH 960 rfl).trans rfl) rfl rfl rfl rfl (by omega) (XH _) (XT _) rfl)<|Cr [960] (fun _ _=>aE)<|Cr [] (fun _ _=>aE)<|Cr [960] (fun H1 hH=>by exact eW (l:=0) (h:=m) rfl b5 rfl ((hH 960 rfl).trans rfl) rfl rfl rfl rfl (XS _) (by omega) rfl rfl)<|Cp [960] (fun H1 hH=>by exact LT (n:=j) rfl b5 (wE rfl ((hH 960 rfl).trans rfl) rfl) ((hH 960 rfl).trans rfl) rfl rfl (by rw [hfl];omega) (EH (k:=j) rfl ((hH 960 rfl).trans rfl) rfl rfl (by omega) rfl) hrl (by rw [XP];show min j (gJ z m n).length=j;rw [hfl];omega) hj.symm hrows)<|Cr [960] (fun _ _=>mC)<|Cr [] (fun _ _=>aQ)<|cQ<|Kr ?_;refine⟨m+j,⟨by omega,by omega⟩,by omega,?_⟩;exact(bX.wk (Ea<|Eb<|trivial) (Hc y5<|trivial) trivial)
 have hge:m=n:=by have:=W8 hc3;omega
 subst hge;have hfin:gJ z m m=cL (List.replicate m z):=by rw [gJ,Nat.sub_self,List.replicate_zero,List.append_nil,cL,List.map_replicate]
 refine bE<|Sr<|Dd aE<|Dd aQ<|Zz<|aM ?_;refine a7 (H':=[]) (.inr rfl) rfl (aG rfl) (Fin.st1 (List.replicate m z) rfl rfl hfin (List.length_replicate).symm) ?_;exact Qq
theorem DO {d:DSt} {N m:Nat} (h:DInv d N m) (k a n ar fr:Nat) (b:Bool) (l:List (ByteArray×ByteArray×Nat)) (c:Nat) (hk:k < 5000) (har:ar < 2) (hfr:fr≤k) (hm:m+k < 1048576) :
  aI Tryz.prog 56 [.ref 1100 0 0 0,iv (ar:Int),iv (fr:Int)] (sH d (bZ k a n b) (bH l c)) (fun r H'=>r=iv (iP d (2+ar*k+fr) (List.replicate (k - fr) zS)).1∧H'=sH (iP d (2+ar*k+fr) (List.replicate (k - fr) zS)).2 (bZ k a n (b||!decide ((iP d (2+ar*k+fr) (List.replicate (k - fr) zS)).1=0))) (bH l c)):=by
 have hark:ar*k≤k:=by
  rcases(show ar=0∨ar=1 by omega)with e|e<;>subst e<;>omega
 have hpl:=vC d k a n ar fr b l c (by omega) (by omega) (by omega);have hw:=lK h k a n (2+ar*k+fr) b l c (List.replicate (k - fr) zS) (by rw [List.length_replicate];omega) (by omega);have hrp:=fun H=>I8 zS (k - fr) (by omega) H;obtain ⟨x,hx⟩:∃ x,x=iP d (2+ar*k+fr) (List.replicate (k - fr) zS):=⟨_,rfl⟩;rw [← hx] at hw ⊢;refine Bd func56 rfl ntmps56<|Sr<|Dd aQ<|Zz<|Sq<|bK follows<|Cr [1100] (fun _ _=>aE)<|Cr [1100] (fun _ _=>aE)<|Cr [] (fun _ _=>aE)<|Cr [] (fun _ _=>aE)<|Cr [1000,1001,1002,1003,1100,1101] (fun H1 hH=>by exact aB rfl rfl WN rfl (iT hpl _ ⟨(hH 1000 rfl).trans rfl,(hH 1001 rfl).trans rfl,(hH 1002 rfl).trans rfl,(hH 1003 rfl).trans rfl,(hH 1100 rfl).trans rfl,(hH 1101 rfl).trans rfl,trivial⟩ (by simp;rfl)))<|Cr [] (fun H1 hH=>by exact aB rfl rfl nI rfl (mV _))<|Cr [] (fun H1 hH=>by exact bF [[.str zS]] rfl b5 rfl rfl rfl rfl rfl (by simp))<|Cr [1100] (fun _ _=>aE)<|Cr [1100] (fun H1 hH=>by exact bL rfl rfl ((hH _ rfl).trans rfl) rfl)<|Cr [1100] (fun _ h=>fh qB h)<|Cr [1100] (fun _ h=>lh aT h)<|Cr [] (fun _ _=>aE)<|Cr [] (fun H1 hH=>by exact dM rfl rfl rfl (show IntKind.i64.wrap ((k:Int) - (fr:Int))=((k - fr:Nat):Int)by rw [g9 (by omega) (by omega)];omega)) ?_;refine Cr [] (fun H1 hH=>by exact aB rfl rfl call106 rfl (hrp _)) ?_;refine bY (r:=⟨_,some [1000,1001,1002,1003,1100,1101],_⟩) (DStep.plain rfl (fun H1 hH=>by exact aB rfl rfl nH rfl (fM hw _ ⟨(hH 1000 rfl).trans rfl,(hH 1001 rfl).trans rfl,(hH 1002 rfl).trans rfl,(hH 1003 rfl).trans rfl,(hH 1100 rfl).trans rfl,(hH 1101 rfl).trans rfl,trivial⟩ (by simp;rfl)))) rfl ?_;refine Cr [1100] (fun _ _=>aQ)<|cQ<|Kr<|aM ?_;refine a7 (H':=(sH x.2 (bZ k a n (b||!decide (x.1=0))) (bH l c))) (.inr rfl) rfl (aG rfl) (Fin.wk (by(simp;done)) (Hc (aF _ _ rfl rfl rfl)<|Hc (aC _ _)<|Hc (aL _ _ _)<|Hc (aK _ _)<|Hc (bA rfl rfl)<|Hc (aS _ _ _)<|trivial) ⟨rfl,rfl,rfl,rfl,rfl,rfl,trivial⟩) ?_;exact Qq
end Go.Proofs.YtmkgeogoojcciaaGreatDoor
namespace Go.Abs
section
section
variable {P:Program} {N:Nat} {o:Oper} {E:bC} {H:aA} {T kt et:TypeId} {x:Operand} {q gq:Nat} {oq:Ob}
theorem vJ {w:World} {I:Nat→Prop} {ι:b4} {v:Value} (h:VRel w I ι H v (.pv .nilm)):v=.map none:=by cases h.pv_inv;rfl
theorem SH (ho:o.op=.call {callee:=.builtin .len,args:=#[x],argTypes:=#[T]}) (hT:P.underlying T=some (.map kt et)) (hx:aO E x=some (.pv .nilm)):bP P N o E H (.pv (.int .i64 0)) H :=.of_run fun a w I ι hr he=>by
  have hv:=vJ (aD he hx);refine⟨.int .i64 0,?_,.pv (.int _ _)⟩;simp [execOp,ho,resolve,invoke,builtin,hv,Builtin.len_,run_underlying hT,goInt]
theorem AK (ho:o.op=.range T x) (hT:P.underlying T=some (.map kt et)) (hx:aO E x=some (.pv .nilm)) (hq:H.get q=none) :
  bP P N o E H (.it q 0) ((q,⟨0,0,0,dS (.pv .nilm) 0 0 []⟩)::H):=by
 intro a w I ι _ _ hr he K Q hk;have hvx0:=aD he hx;have hvx:=vJ hvx0;obtain ⟨k2,k3⟩:=Rel.placeX (H':=(q,⟨0,0,0,dS (.pv .nilm) 0 0 []⟩)::H) (id:=q) (cap:=1) (ob':=⟨0,0,0,dS (.pv .nilm) 0 0 []⟩) (x:=.mapIter none 0 #[] 0) (w':=w.alloc (.mapIter none 0 #[] 0)) hr rfl rfl rfl rfl
  (fun o ho=>by rw [hq] at ho;cases ho) (fun hnew hI hmono=>.inr (.inr (.inl ⟨rfl,w.heap.size,none,0,#[],0,by simp,hnew,hI,rfl,⟨_,_,_,rfl,.pv .nilm,.pv (.int _ _),.pv (.int _ _)⟩,fun i r hr'=>by simp [dS] at hr'⟩)))
  (get_cons_same _ _ _) (fun j hj=>get_cons_other _ _ hj)
 have hrun:(execOp a.eval o).run P w=.ok (.value (.pointer (some ⟨w.heap.size,0,none⟩))) (w.alloc (.mapIter none 0 #[] 0)):=by
  simp only [execOp,ho,hvx];simp [Instr.range,run_underlying hT]
 unfold Oper.wpW;rw [hrun];exact hk _ _ I _ _ _ ⟨rfl,rfl⟩ (.it ⟨0,0,0,dS (.pv .nilm) 0 0 []⟩ (get_cons_same _ _ _) (XH _) rfl fun _=>⟨rfl,w.heap.size,by simp,rfl⟩) k2 k3
theorem FJ (ho:o.op=.next x false) (hx:aO E x=some (.it q gq)) (hQ:H.get q=some oq) (hgq:oq.g=gq) (hrq:oq.rows=dS (.pv .nilm) 0 0 []) :
  LL P N o E H (fun r H'=>(r=.tup [.pv (.bool false)]∧H'=H∧True)∨∃ (i:Nat) (p:Nat),False∧True∧r=.tup [.pv (.bool true)]∧H'=H):=by
 intro a w I ι _ _ hr he K Q hk;obtain ⟨hsz,b,hι,hvx⟩:=FN (aD he hx) hQ hgq;obtain ⟨_,b',bm,since',seen',last',e1,e2,e3,e4,⟨m,n,k,z1,z2,z3,z4⟩,e6⟩:=(hr.obj q oq hQ).iter hsz hι;rw [hι] at e1;cases e1;rw [hrq] at z1;simp only [dS,List.getElem?_cons_zero,Option.some.injEq,List.cons.injEq,and_true] at z1;obtain ⟨rfl,rfl,rfl⟩:=z1;have hbm:=vJ z2;cases hbm;have hrun:(Instr.next (.pointer (some ⟨b,0,none⟩)) false o.type).run P w=.ok (.tuple #[.bool false]) w:=by
  simp only [Instr.next,getObj,Sem.run_bind,Sem.run,e2,Result.andThen];rfl
 unfold Oper.wpW execOp;simp only [ho,hvx,Sem.run_bind,hrun,Result.andThen_ok,Sem.run_pure];refine hk _ _ I ι _ _ (.inl ⟨rfl,rfl,trivial⟩) (.tup rfl (fun i v c hv hc=>?_)) hr (Step.refl _ _ _ _)
 match i with
 | 0=>simp at hv hc;subst hv hc;exact .pv (.bool _)
 | i+1=>simp at hv
end
section
variable {ρ:Nat→Nat} (hρ:∀ i,ρ (ρ i)=i)
include hρ
theorem aI.renQ {P:Program} {f:FuncId} {args args':List AV} {H H':aA} {R:AV→aA→Prop} (h:aI P f args H R) (ha:gP ρ args=args') (hH:iN ρ H=H') :
  aI P f args' H' (fun x K=>∃ x0 K0,R x0 K0∧x=fV ρ x0∧K=iN ρ K0):=by
 subst ha hH;intro I ι w vs hrel hl hv;have hrel':=hrel.ren hρ;rw [oP hρ] at hrel';have hl':vs.size=args.length:=by rw [hl,eJ,XB]
 refine(h I _ w vs hrel' hl' (fun i v a h1 h2=>?_)).mono ?_
 ·have:=(hv i v (fV ρ a) h1 (by rw [eJ,XV,h2];rfl)).ren hρ
  rwa [oP hρ,(sL hρ [a]).2 a (by simp)] at this
 rintro e w' ⟨x,K,I',ι',v,rfl,hR,k1,k2,k3⟩;have k3':=k3.ren hρ;have e1:(fun j=>(fun j=>ι (ρ j)) (ρ j))=ι:=by funext j;simp only [hρ]
 rw [e1] at k3';exact⟨_,_,I',_,v,rfl,⟨_,_,hR,rfl,rfl⟩,k1.ren hρ,k2.ren hρ,k3'⟩
end
end
end Go.Abs
namespace Go.Proofs.YtmkgeogoojcciaaGreatDoor
open Go.Proofs.Tryz
open Go.Abs
def cI:bN→ByteArray→Option ByteArray
 | [],_=>none
 | (k',v,_)::r,k=>if k'=k then some v else cI r k
theorem oS (k:ByteArray):∀ l:bN,dE l k=(cI l k).getD ⟨#[]⟩
 | []=>rfl
 | (k',v,n)::r=>by
  rw [dE,cI]
  split
  ·rfl
  exact oS k r
def f0:bN→ByteArray→ByteArray→Nat→bN
 | [],k,v,c=>[(k,v,c)]
 | (k',a,n)::r,k,v,c=>if k'=k then(k,v,n)::r else(k',a,n)::f0 r k v c
def p8:bN→ByteArray→bN
 | [],_=>[]
 | (k',a,n)::r,k=>if k'=k then r else(k',a,n)::p8 r k
def lV (l:bN) (k:ByteArray) (c:Nat):Nat:=if(cI l k).isSome then c else c+1
theorem mQ (k v:ByteArray) (c:Nat):∀ l:bN,rP (bM l) k (sv v) c=bM (f0 l k v c)
 | []=>rfl
 | (k',a,n)::r=>by
  show (if k'=k then(k,sv v,n)::bM r else(k',sv a,n)::rP (bM r) k (sv v) c)=bM (f0 ((k',a,n)::r) k v c);rw [f0]
  split
  ·rfl
  rw [mQ k v c r];rfl
theorem AZ (k:ByteArray):∀ l:bN,rT (bM l) k=bM (p8 l k)
 | []=>rfl
 | (k',a,n)::r=>by
  show (if k'=k then bM r else(k',sv a,n)::rT (bM r) k)=bM (p8 ((k',a,n)::r) k);rw [p8]
  split
  ·rfl
  rw [AZ k r];rfl
theorem sP (k:ByteArray):∀ l:bN,(kK (C7 (bM l)) k).isSome=(cI l k).isSome
 | []=>rfl
 | (k',a,n)::r=>by
  show (if k'=k then some (sv a)else kK (C7 (bM r)) k).isSome=(if k'=k then some a else cI r k).isSome
  split
  ·rfl
  exact sP k r
theorem oV (k:ByteArray) (c:Nat) (l:bN):v7 (bM l) k c=lV l k c:=by rw [v7,lV,sP]
theorem uP (k v:ByteArray) (c:Nat) (k2:ByteArray):∀ l:bN,cI (f0 l k v c) k2=if k=k2 then some v else cI l k2
 | []=>rfl
 | (k',a,n)::r=>by
  rw [f0];by_cases h:k'=k
  ·rw [XA h,cI,cI];subst h;by_cases h2:k'=k2
   ·rw [XA h2,XA h2]
   rw [W9 h2,W9 h2,W9 h2]
  rw [W9 h,cI,cI,uP k v c k2 r];by_cases h2:k'=k2
  ·rw [XA h2,XA h2,W9 (fun e=>h (h2.trans e.symm))]
  rw [W9 h2,W9 h2]
def eV (l:bN):Prop:=(l.map Prod.fst).Nodup
theorem fQ {k:ByteArray}:∀ {l:bN},cI l k=none↔k∉l.map Prod.fst
 | []=>by simp [cI]
 | (k',a,n)::r=>by
  rw [cI,List.map_cons,XN,not_or];by_cases h:k'=k
  ·rw [XA h];exact⟨(fun h=>by cases h),fun h2=>absurd h.symm h2.1⟩
  rw [W9 h,fQ];exact⟨fun h2=>⟨fun e=>h e.symm,h2⟩,fun h2=>h2.2⟩
theorem oT (k v:ByteArray) (c:Nat):∀ l:bN,(f0 l k v c).map Prod.fst=if(cI l k).isSome then l.map Prod.fst else l.map Prod.fst++[k]
 | []=>rfl
 | (k',a,n)::r=>by
  rw [f0,cI];by_cases h:k'=k
  ·rw [XA h,XA h];subst h;rfl
  rw [W9 h,W9 h,List.map_cons,oT k v c r];cases (cI r k).isSome<;>rfl
theorem AS {l:bN} (h:eV l) (k v:ByteArray) (c:Nat):eV (f0 l k v c):=by
 rw [eV,oT];cases e:cI l k with
 | some x=>exact h
 | none =>
  have hn:=fQ.1 e;exact List.nodup_append.2 ⟨h,by simp,fun a ha b hb e2=>by rw [XE] at hb;subst hb;subst e2;exact hn ha⟩
theorem CX (k v:ByteArray) (c:Nat):∀ l:bN,(f0 l k v c).map (fun p=>p.2.2)=if(cI l k).isSome then l.map (fun p=>p.2.2)else l.map (fun p=>p.2.2)++[c]
 | []=>rfl
 | (k',a,n)::r=>by
  rw [f0,cI];by_cases h:k'=k
  ·rw [XA h,XA h];rfl
  rw [W9 h,W9 h,List.map_cons,CX k v c r];cases (cI r k).isSome<;>rfl
theorem L6 {l:bN} {c:Nat}:dL l c↔(l.map fun p=>p.2.2).Pairwise (· < ·)∧∀ n∈l.map (fun p=>p.2.2),n < c:=by rw [dL];refine and_congr_right fun _=>⟨fun h n hn=>?_,fun h p hp=>h _ (List.mem_map.2 ⟨p,hp,rfl⟩)⟩;obtain ⟨p,hp,rfl⟩:=List.mem_map.1 hn;exact h p hp
theorem AR {l:bN} {c:Nat} (h:dL l c) (k v:ByteArray):dL (f0 l k v c) (lV l k c):=by
 rw [L6,CX,lV];have h:=L6.1 h;cases cI l k with
 | some x=>exact h
 | none =>
  refine⟨List.pairwise_append.2 ⟨h.1,by simp,fun a ha b hb=>by rw [XE] at hb;subst hb;exact h.2 a ha⟩,fun n hn=>?_⟩;show n < c+1;rcases List.mem_append.1 hn with h1|h1
  ·have:=h.2 n h1;omega
  rw [XE] at h1;omega
theorem nW (k:ByteArray):∀ l:bN,(p8 l k).Sublist l
 | []=>.slnil
 | (k',a,n)::r=>by
  rw [p8]
  split
  ·exact List.sublist_cons_self _ _
  exact(nW k r).cons_cons _
theorem HO {l:bN} (h:eV l) (k:ByteArray):eV (p8 l k):=h.sublist ((nW k l).map _)
theorem Q4 {l:bN} {c:Nat} (h:dL l c) (k:ByteArray):dL (p8 l k) c:=⟨h.1.sublist ((nW k l).map _),fun p hp=>h.2 p ((nW k l).subset hp)⟩
theorem HK (k k2:ByteArray):∀ {l:bN},eV l→cI (p8 l k) k2=if k=k2 then none else cI l k2
 | [],_=>by rw [p8,cI];split<;>rfl
 | (k',a,n)::r,hnd=>by
  have hn:k'∉r.map Prod.fst∧eV r:=List.nodup_cons.1 hnd;rw [p8];by_cases h:k'=k
  ·subst h;rw [XA rfl,cI];by_cases h2:k'=k2
   ·subst h2;rw [XA rfl];exact fQ.2 hn.1
   rw [W9 h2,W9 h2]
  rw [W9 h,cI,cI,HK k k2 hn.2];by_cases h2:k'=k2
  ·rw [XA h2,XA h2,W9 (fun e=>h (h2.trans e.symm))]
  rw [W9 h2,W9 h2]
def fF:bN→Nat→bN→bN×Nat
 | l,c,[]=>(l,c)
 | l,c,(k,v,_)::r=>fF (f0 l k v c) (lV l k c) r
theorem yG (k v:ByteArray) (n:Nat):∀ (ps l:bN) (c:Nat),fF l c (ps++[(k,v,n)])=(f0 (fF l c ps).1 k v (fF l c ps).2,lV (fF l c ps).1 k (fF l c ps).2)
 | [],l,c=>rfl
 | (k',a,m)::r,l,c=>yG k v n r _ _
theorem G7:∀ (ps l:bN) (c:Nat),dL l c→eV l→dL (fF l c ps).1 (fF l c ps).2∧eV (fF l c ps).1
 | [],l,c,h1,h2=>⟨h1,h2⟩
 | (k,v,n)::r,l,c,h1,h2=>G7 r _ _ (AR h1 k v) (AS h2 k v c)
theorem MS (k2:ByteArray):∀ (ps l:bN) (c:Nat),eV ps→cI (fF l c ps).1 k2=(cI ps k2).orElse fun _=>cI l k2
 | [],l,c,_=>rfl
 | (k,v,n)::r,l,c,h=>by
  have hn:k∉r.map Prod.fst∧eV r:=List.nodup_cons.1 h;show cI (fF (f0 l k v c) (lV l k c) r).1 k2=_;rw [MS k2 r _ _ hn.2,uP,cI];by_cases h2:k=k2
  ·subst h2;rw [XA rfl,XA rfl,fQ.2 hn.1];rfl
  rw [W9 h2,W9 h2]
theorem NE {a b:bN} (h:a.Perm b) (k:ByteArray):eV a→cI a k=cI b k:=by
 induction h with
 | nil=>exact fun _=>rfl
 | cons x h ih =>
  obtain ⟨k',v,n⟩:=x;intro hn;rw [cI,cI,ih (List.nodup_cons.1 hn).2]
 | swap x y l =>
  obtain ⟨k1,v1,n1⟩:=x;obtain ⟨k2,v2,n2⟩:=y;intro hn;rw [cI,cI,cI,cI];by_cases e1:k2=k
  ·by_cases e2:k1=k
   ·exact absurd (e1.trans e2.symm) (by have:=(List.nodup_cons.1 hn).1;intro e;subst e;exact this (XN.2 (.inl rfl)))
   rw [XA e1,W9 e2,XA e1]
  rw [W9 e1,W9 e1]
 | trans h1 h2 ih1 ih2=>exact fun hn=>(ih1 hn).trans (ih2 ((h1.map _).nodup_iff.1 hn))
def gD (l:bN) (s:List Nat):bN:=s.filterMap fun i=>l[i]?
theorem tR {l:bN} {s:List Nat} {i:Nat} {p:ByteArray×ByteArray×Nat} (h:l[i]?=some p):gD l (s++[i])=gD l s++[p]:=by rw [gD,gD,List.filterMap_append,List.filterMap_cons,h];rfl
theorem z6:∀ l:bN,gD l (List.range l.length)=l:=fun l=>by
 refine List.ext_getElem? fun i=>?_;have h:∀ n,n≤l.length→gD l (List.range n)=l.take n:=by
  intro n
  induction n with
  | zero=>intro _;rfl
  | succ n ih =>
   intro hn;rw [List.range_succ,tR (XG (show n < l.length by omega)),ih (by omega),List.take_add_one,XG (show n < l.length by omega)];rfl
 rw [h _ (XH _),List.take_length]
theorem E6 {l:bN} {s:List Nat} (hd:s.Nodup) (hb:∀ i,i∈s→i < l.length) (ha:∀ i,i < l.length→i∈s):(gD l s).Perm l:=by have hp:s.Perm (List.range l.length):=(List.perm_ext_iff_of_nodup hd List.nodup_range).2 fun i=>⟨fun h=>List.mem_range.2 (hb i h),fun h=>ha i (List.mem_range.1 h)⟩;have:=hp.filterMap (fun i=>l[i]?);rw [show (List.range l.length).filterMap (fun i=>l[i]?)=l from z6 l] at this;exact this
theorem v6 {id:Nat} {o:Ob} {H:aA} (h:H.get id=some o) (j:Nat):aA.get ((id,o)::H) j=H.get j:=by
 by_cases e:j=id
 ·subst e;rw [h];exact get_cons_same _ _ _
 exact get_cons_other _ _ e
abbrev pO (l:bN) (c:Nat) (ps:bN):Ob:=bH (fF l c ps).1 (fF l c ps).2
theorem U3 (l l2:bN) (c c2:Nat) (H:aA) (hl2:l2.length < 1099511627776) (hst:dL l2 c2) (h0:H.get 1101=some (bH l c)) (h1:H.get 950=some (bH l2 c2)) (h6:H.get 946=none) (hcl:bB H) :
  aI Tryz.prog 104 [.mp 1101 0,.mp 950 0] H (fun r H'=>r=.tup []∧∃ ps,ps.Perm l2∧H'=(1101,pO l c ps)::H):=by
 have g1:∀ o o2,aA.get ((946,o)::(1101,o2)::H) 950=some (bH l2 c2):=fun o o2=>by rw [get_cons_other _ _ (by decide),get_cons_other _ _ (by decide)];exact h1
 have g2:∀ o o2,aA.get ((946,o)::(1101,o2)::H) 1101=some o2:=fun o o2=>by rw [get_cons_other _ _ (by decide)];exact get_cons_same _ _ _
 refine Bd func104 rfl ntmps104<|Sr<|Dd aE<|Dd (by exact A0 (q:=946) (κ:=eT) (l:=bM l2) rfl aU rfl h1 rfl rfl rfl h6)<|Zz<|aN ?_;refine bI (σ:=List Nat) (fun s=>([(0,.mp 1101 0),(7,.it 946 0)],(946,C1 950 l2 c2 s)::(1101,pO l c (gD l2 s))::H)) (fun s=>s.Nodup∧∀ i,i∈s→i < l2.length) (fun s=>l2.length - s.length) [] ⟨List.nodup_nil,by simp⟩ ?_ ?_
 ·exact bX.get' ⟨⟨_,rfl,rfl⟩,⟨_,rfl,rfl⟩,trivial⟩ (fun j=>by
   by_cases e:j=946
   ·subst e;rw [get_cons_same];exact(get_cons_same _ _ _).symm
   rw [get_cons_other _ _ e,get_cons_other _ _ e];exact v6 h0 j)
 rintro s ⟨hd,hb⟩;have hsl:s.length≤l2.length:=jH _ _ hd hb;refine Sq<|Rg ?_;refine fR rfl rfl (FS (κ:=eT) (l:=bM l2) rfl rfl (get_cons_same _ _ _) rfl rfl (g1 _ _) rfl rfl rfl (XH _) (XH _)) ?_;rintro _ _ (⟨rfl,rfl,hn0⟩|⟨hni,hnp,hn1,hn2,rfl,rfl⟩)
 ·refine Dd dO<|Zz<|Sq ?_;refine Cn ?_ ?_<;>intro hc1
  ·cases hc1
  refine bE ?_;have hall:∀ i,i < l2.length→i∈s:=fun i hi=>by
   have hq:(bM l2)[i]?=some ((l2[i]).1,sv (l2[i]).2.1,(l2[i]).2.2):=by rw [bM,XV,XG hi];rfl
   have:=hn0 _ (XL hq);obtain ⟨j,hj,e⟩:=List.mem_map.1 this;have e2:jE l2 j=jE l2 i:=by
    rw [e,jE,XG hi];rfl
   have:=EG hst (hb j hj) hi e2
   rwa [this] at hj
  exact iQ (H':=(1101,pO l c (gD l2 s))::H) (.inl rfl) rfl (Fin.pops' [(946,C1 950 l2 c2 s)] (by simp) (bB.app (D:=[(1101,pO l c (gD l2 s))]) (j3.spec ⟨aS _ _ _,trivial⟩) hcl) (by simp [get_cons_other,h6]) (by simp [get_cons_other,h6])) ⟨rfl,_,E6 hd hb hall,rfl⟩
 obtain ⟨p,hp,rfl⟩:=sQ hn1;have hlt:hni < l2.length:=(XF.1 hp).1;have hst2:jE l2 hni=p.2.2:=by rw [jE,hp];rfl
 have hn3:hni∉s:=fun hm=>hn2 (List.mem_map.2 ⟨hni,hm,hst2⟩);have hb2:∀ i,i∈s++[hni]→i < l2.length:=fun i hi=>by
  rcases List.mem_append.1 hi with h|h
  ·exact hb i h
  rw [XE] at h;omega
 have hd2:(s++[hni]).Nodup:=List.nodup_append.2 ⟨hd,by simp,fun a ha b hb e=>by rw [XE] at hb;subst hb;subst e;exact hn3 ha⟩;have hlen:=jH _ _ hd2 hb2;rw [XC,List.length_singleton] at hlen;have hit:C1 950 l2 c2 (s++[hni])=⟨0,0,0,dS (.mp 950 0) c2 c2 (s.map (jE l2)++[p.2.2])⟩:=by rw [C1,List.map_append,List.map_cons,List.map_nil,hst2]
 have hpk:pO l c (gD l2 (s++[hni]))=⟨0,0,lV (fF l c (gD l2 s)).1 p.1 (fF l c (gD l2 s)).2,eY eT (bM (f0 (fF l c (gD l2 s)).1 p.1 p.2.1 (fF l c (gD l2 s)).2))⟩:=by rw [pO,tR hp,yG]
 refine Dd dO<|Zz<|Sq ?_;refine Cn ?_ ?_<;>intro hc2
 ·refine aH<|aN<|Sr<|Dd (by exact A1 (κ:=eT) (seen:=s.map (jE l2)) (p:=(p.1,sv p.2.1,p.2.2)) (since:=c2) rfl rfl (get_cons_same _ _ _) rfl rfl ((get_cons_other _ _ (by decide)).trans (g1 _ _)) rfl rfl rfl hn1)<|Dd dO<|Dd dO<|Dd aQ<|Dd aQ<|Zz<|Rg<|Dd aE<|Dd aE<|Dd aE<|Uu (by exact gZ (κ:=eT) (l:=bM (fF l c (gD l2 s)).1) (.inl rfl) aU aJ rfl ((get_cons_other _ _ (by decide)).trans (g2 _ _)) rfl rfl rfl rfl rfl (mQ _ _ _ _) (oV _ _ _))<|Zz ?_;refine⟨s++[hni],⟨hd2,hb2⟩,by rw [XC,List.length_singleton];omega,?_⟩;rw [hit,hpk];exact bX.get' ⟨⟨_,rfl,rfl⟩,⟨_,rfl,rfl⟩,trivial⟩ (fun j=>lW [_,_] [_,_,_,_] (by repeat(first|exact trivial|refine⟨rfl,?_⟩)) j)
 cases hc2
def j0 (l:bN) (P:List ByteArray):bN:=P.foldl p8 l
theorem y9 {l:bN} {P:List ByteArray} {k:Nat} {s:ByteArray} (h:P[k]?=some s):j0 l (P.take (k+1))=p8 (j0 l (P.take k)) s:=by rw [j0,j0,cY h,List.foldl_append];rfl
theorem H6:∀ (P:List ByteArray) (l:bN) (c:Nat),dL l c→eV l→dL (j0 l P) c∧eV (j0 l P)
 | [],l,c,h1,h2=>⟨h1,h2⟩
 | k::r,l,c,h1,h2=>H6 r _ c (Q4 h1 k) (HO h2 k)
theorem N7 (k2:ByteArray):∀ (P:List ByteArray) (l:bN),eV l→cI (j0 l P) k2=if RB P k2=true then none else cI l k2
 | [],l,_=>by rw [W9 (fun h=>by have:=iE.1 h;cases this)];rfl
 | k::r,l,h=>by
  show cI (j0 (p8 l k) r) k2=_;rw [N7 k2 r _ (HO h k),HK k k2 h];by_cases h1:RB r k2=true
  ·rw [XA h1,XA (iE.2 (XN.2 (.inr (iE.1 h1))))]
  rw [W9 h1];by_cases h2:k=k2
  ·rw [XA h2,XA (iE.2 (XN.2 (.inl h2.symm)))]
  rw [W9 h2,W9 (fun hm=>by rcases XN.1 (iE.1 hm)with e|e;exact h2 e.symm;exact h1 (iE.2 e))]
theorem O2 (l l2:bN) (c c2:Nat) (P:List ByteArray) (H:aA) (hl2:l2.length < 1099511627776) (hP:P.length < 1099511627776) (hst:dL l2 c2) (h0:H.get 1101=some (bH l c)) (h1:H.get 950=some (bH l2 c2)) (h6:H.get 946=none) (hcl:bB H) :
  aI Tryz.prog 53 [.mp 1101 0,.mp 950 0,.pv (aW P)] H (fun r H'=>r=.tup []∧∃ ps,ps.Perm l2∧H'=(1101,bH (j0 (fF l c ps).1 P) (fF l c ps).2)::H):=by
 have hml:(P.map encStr).length=P.length:=XB _;refine Bd func53 rfl ntmps53<|Sr<|Dd aE<|Dm ?_;refine fR rfl rfl (aB rfl rfl call104 rfl (U3 l l2 c c2 H hl2 hst h0 h1 h6 hcl)) ?_;rintro r H' ⟨rfl,ps,hps,rfl⟩;refine Zz<|Sr<|Dd aE<|Dd (kZ aP)<|Dd aE<|Zz<|aN ?_;refine bI (σ:=Nat) (fun k=>([(0,.mp 1101 0),(11,.pv (aW P)),(12,iv ((P.map encStr).length:Int)),(13,iv (k:Int))],(1101,bH (j0 (fF l c ps).1 (P.take k)) (fF l c ps).2)::H)) (fun k=>k≤P.length) (fun k=>P.length - k) 0 (XS _) ?_ ?_
 ·exact E0
 intro k hk;refine Sr<|Dd dN<|Zz<|Sq ?_;refine Cn ?_ ?_<;>intro hc1
 ·have hlt:k < P.length:=by have:=W7 hc1;omega
  obtain ⟨s,hs⟩:=aY hlt;have hi:=dC (f:=encStr) hs;refine aH<|Sq<|aN<|Sr<|Dd (BT b5)<|Dd (mB aV)<|Dd aQ<|Zz<|Rg<|Dd aE<|Dd aE<|Uu (by exact DB (κ:=eT) (l:=bM (j0 (fF l c ps).1 (P.take k))) rfl aU aJ rfl (get_cons_same _ _ _) rfl rfl rfl rfl (AZ s _))<|Zz<|Rg<|Dd mC<|Dd aE<|Zz ?_;refine⟨k+1,by omega,by omega,?_⟩;rw [y9 hs];exact bX.get' ⟨⟨_,rfl,rfl⟩,⟨_,rfl,rfl⟩,⟨_,rfl,rfl⟩,⟨_,rfl,by rfl⟩,trivial⟩ (fun j=>gL _ _ _ _ j)
 have hge:k=P.length:=by have:=W8 hc1;omega
 subst hge;rw [List.take_length];refine bE ?_;exact iQ (H':=(1101,bH (j0 (fF l c ps).1 P) (fF l c ps).2)::H) (.inl rfl) rfl Fin.refl ⟨rfl,ps,hps,rfl⟩
end Go.Proofs.YtmkgeogoojcciaaGreatDoor
