/-
  Parts of the proof: rules of an abstract program logic, contracts of functions, plain laws. Conditions: each theorem's own.
-/
import Derived.Test.YtmkgeogoojcciaaGreatDoorKS1M5
import Derived.Lib.AtoiAllCases
set_option linter.unusedVariables false
set_option linter.unusedSimpArgs false
set_option maxRecDepth 100000
set_option maxHeartbeats 8000000
namespace Go.Proofs
theorem WG:type_of% Tryz.call105:=Tryz.call105
theorem sG:type_of% Tryz.call41:=Tryz.call41
theorem nK:type_of% Tryz.call43:=Tryz.call43
theorem BW:type_of% Tryz.call48:=Tryz.call48
theorem WU:type_of% Tryz.call55:=Tryz.call55
theorem PY:type_of% Tryz.call82:=Tryz.call82
theorem PX:type_of% Tryz.call83:=Tryz.call83
theorem WT:type_of% Tryz.call85:=Tryz.call85
theorem nJ:type_of% Tryz.call90:=Tryz.call90
theorem nH:type_of% Tryz.call99:=Tryz.call99
theorem lR:type_of% Tryz.isAgg29:=Tryz.isAgg29
theorem bO:type_of% Tryz.isAgg33:=Tryz.isAgg33
theorem cQ:type_of% Tryz.isAgg70:=Tryz.isAgg70
theorem aT:type_of% Tryz.underlying33:=Tryz.underlying33
end Go.Proofs
namespace Go.Proofs.YtmkgeogoojcciaaGreatDoor
open Go.Proofs.Tryz
open Go.Abs Go.Lib
theorem OY {s:ByteArray} (h:gI s=false) : -9223372036854775808≤cW s∧cW s≤9223372036854775807:=by
 rw [gI] at h;rw [cW,oM];cases e:Lib.atoiAll s.data.toList with
 | ok v=>exact Lib.atoiAll_bounds e
 | range=>rw [e] at h;cases h
 | _=>rw [e] at h;cases h
theorem N6 (s:ByteArray) (i j:Nat):(s.extract i j).size≤s.size:=by rw [ByteArray.size_extract];omega
theorem lB {s:DSt} (hs:DOk s) {n:Nat} (hn:n < s.cells.length):(bT s n).size=64:=by
 rw [bT];cases e:s.q.reverse.find? (m7 n)with
 | some p =>
  have:=List.mem_of_find?_eq_some e;exact(hs.q p (List.mem_reverse.1 this)).2
 | none =>
  rw [XN hn];exact hs.c _ (List.getElem_mem hn)
theorem uR {s:DSt} (hs:DOk s) (hoff:s.off=false) {n:Nat} (hn:n < s.cells.length):∀ H,EM H (a7 s)→aJ Tryz.prog 41 [.ref 1000 0 0 0,iv (n:Int)] H (fun r H'=>r=.tup [sv (bT s n),iv 0]∧H'=H):=fun H hH=>by
 have h:=aJ.frameS (MQ s (n:Int) hs) hH.sub (rV s) (by simp;rfl);have e:eZ s (n:Int)=true:=by rw [i7];exact decide_eq_true hn
 rw [show wU s (n:Int)=bT s n by rw [wU,hoff,XG (by decide),XH e,XT],show mV s (n:Int)=0 by rw [mV,hoff,XG (by decide),XH e]] at h;exact h
def kJ (t:ByteArray):Bool:=gI (t.extract 16 24)||decide (cW (t.extract 16 24) < 0)
def JA (t:ByteArray):Nat:=(cW (t.extract 16 24)).toNat
def nU (t:ByteArray):Nat:=if kJ t then 0 else JA t / 10000000
def nT (t:ByteArray):Nat:=if kJ t then 0 else JA t % 10000000
def jX (k place:Nat) (t:ByteArray):Bool:=!kJ t&&((decide (nU t < 2)&&decide (nT t≤k))&&decide (ofL (y5 place (nU t) (nT t))=t))
theorem q7 (s:DSt) (hs:DOk s) (hoff:s.off=false) (k a n place:Nat) (b:Bool) (l:List (ByteArray×ByteArray×Nat)) (c:Nat) (hp:place < s.cells.length) (hk:k < 10000000) :
  aJ Tryz.prog 42 [.ref 1100 0 0 0,iv (place:Int)] (sH s (b7 k a n b) (bJ l c)) (fun r H'=>r=.tup [.agg [iv (nU (bT s place):Int),iv (nT (bT s place):Int)],bv (jX k place (bT s place))]∧H'=sH s (b7 k a n b) (bJ l c)):=by
 have ht:=lB hs hp;have hrd:=uR hs hoff hp;have hpl:place < 1000000000000:=by have:=hs.n2;omega
 obtain ⟨t,hT⟩:∃ t,t=bT s place:=⟨_,rfl⟩;rw [← hT] at ht hrd ⊢;clear hT;obtain ⟨x,hx⟩:∃ x,x=t.extract 16 24:=⟨_,rfl⟩;have hxs:x.size < 1099511627776:=by rw [hx];have:=N6 t 16 24;omega
 have hat:=fun H=>vB x hxs H;have hbd:=OY (s:=x);have hpb:kJ t=(gI x||decide (cW x < 0)):=by rw [kJ,hx]
 have hpu:JA t=(cW x).toNat:=by rw [JA,hx]
 obtain ⟨v,hv⟩:∃ v,v=cW x:=⟨_,rfl⟩;obtain ⟨e,he⟩:∃ e,e=gI x:=⟨_,rfl⟩;simp only [← hv,← he] at hat hbd hpb hpu;clear hv he;refine Bd func42 rfl ntmps42<|Sr<|Dd (by exact cC (id:=4) rfl LM rfl rfl)<|Dd aS<|Zz<|Sr<|Dd aE<|Dd fA<|Dd (dP qD)<|Dd (eA lR)<|Dd aE<|Dd (by exact aB rfl rfl sG rfl (hrd _ ⟨rfl,rfl,rfl,rfl,trivial⟩))<|Dd aE<|Dd eB<|Dd eB<|Dd aS<|Dd aS<|Zz<|Sr<|Dd aE<|Dd (by exact cI (l:=16) (h:=24) rfl aI rfl rfl rfl (by omega) (by omega) hx.symm)<|Dd (by exact aB rfl rfl PY rfl (hat _))<|Dd aE<|Dd eB<|Dd eB<|Dd aS<|Dd aS<|Zz<|Sq<|Sq ?_;refine dA (t:=31) (n:=7) (X:=e||decide (v < 0)) ?_ ?_
 ·all_goals refine Dd aE ?_
  all_goals refine Dd (by exact rA rfl g4 rfl)<|Dm ?_
  all_goals refine Sp 28 (fun h28=>?_) fun h28=>?_
  all_goals try contradiction
  all_goals first|refine Fo<|Fo ?_|refine On aE<|On dG ?_
  all_goals refine Dd gO<|Zz ?_
  all_goals(exact⟨⟨_,rfl,by(rw [h28];rfl)⟩,rfl,rfl,rfl⟩)
 refine Cn ?_ ?_<;>intro hc1
 ·have hq:=hc1;have hb:kJ t=true:=hpb.trans hq;refine Sr<|Dd (LI KR)<|Uu (pK sizeOf70)<|Dd aS<|Zz<|aN ?_;refine fR (H':=(sH s (b7 k a n b) (bJ l c))) (.inr rfl) rfl (VN cQ sizeOf70) (aH rfl) (Fin.wk (r:=.tup [.agg [iv 0,iv 0],bv false]) (by simp) ⟨⟨_,rfl,rfl⟩,(by exact aF _ _ rfl rfl rfl),⟨_,rfl,rfl⟩,(by exact aC _ _),⟨_,rfl,rfl⟩,(by exact aL _ _ _),⟨_,rfl,rfl⟩,(by exact aK _ _),⟨_,rfl,rfl⟩,(by exact bD rfl rfl),⟨_,rfl,rfl⟩,(by exact aQ _ _ _),trivial⟩ ⟨rfl,rfl,rfl,rfl,rfl,rfl,trivial⟩) ?_;exact⟨by rw [nU,nT,jX,hb];rfl,rfl⟩
 have hq:=hc1;have hb:kJ t=false:=hpb.trans hq;rw [X4,XQ] at hq;obtain ⟨u,rfl⟩:∃ u:Nat,v=(u:Int):=⟨v.toNat,by omega⟩;have hbu:=hbd hq.1;rw [XT] at hpu;have h34:IntKind.i64.wrap ((u:Int).tdiv 10000000)=((u / 10000000:Nat):Int):=by
  rw [Int.tdiv_eq_ediv_of_nonneg (by omega),iA (by omega) (by omega)];omega
 have h36:(u:Int).tmod 10000000=((u % 10000000:Nat):Int):=by
  rw [Int.tmod_eq_emod_of_nonneg (by omega)];omega
 have hA:nU t=u / 10000000:=by rw [nU,hb,XG (by decide),hpu]
 have hN:nT t=u % 10000000:=by rw [nT,hb,XG (by decide),hpu]
 rw [jX,hb,hA,hN];have hnn:u % 10000000 < 10000000:=Nat.mod_lt _ (by decide);obtain ⟨p,hpe⟩:∃ p,p=u / 10000000:=⟨_,rfl⟩;obtain ⟨q,hqe⟩:∃ q,q=u % 10000000:=⟨_,rfl⟩;rw [← hpe] at h34;rw [← hqe] at h36 hnn;rw [← hpe,← hqe];clear hpe hqe;by_cases h2:p < 2
 ·have g42:decide ((p:Int) < 2)=true:=decide_eq_true (by omega);have hhd:=fun H=>A8 place p q hpl (by omega) (by omega) H;by_cases h3:q≤k
  ·have g51:decide ((q:Int)≤(k:Int))=true:=decide_eq_true (by omega);refine aG<|Sr<|Dd aE<|Dd (by exact mL rfl rfl rfl (by decide) h34)<|Dd aE<|Dd (by exact uT rfl rfl rfl (by decide) h36)<|Dd (LI KR)<|Dd (by exact cC (id:=10) rfl LM rfl rfl)<|Uu (pK sizeOf70)<|Zz<|Sq<|bK follows<|Cr [10] (fun H1 hH=>by exact cU rfl cQ sizeOf70 rfl ((hH _ rfl).trans rfl) rfl rfl rfl rfl)<|Cr [10] (fun _ h=>fh qE h)<|Cr [10] (fun _ h=>lh aV h)<|Cr [] (fun _ _=>dG)<|Cr [] (fun _ _=>aE) ?_;refine bU (r:=⟨_,some [10],[]⟩) (fJ rfl rfl rfl (by assumption) (fun H1 hH=>by exact(by exact fM rfl lI rfl ((hH _ rfl).trans rfl) rfl rfl))) rfl ?_;refine bU (r:=⟨_,some [10],[]⟩) (fJ rfl rfl rfl (by assumption) (fun H1 hH=>by exact(by exact aX rfl aV rfl ((hH _ rfl).trans rfl) rfl rfl rfl))) rfl ?_;refine bU (r:=⟨_,some [1100],[]⟩) (fJ rfl rfl rfl (by assumption) (fun H1 hH=>by exact lY rfl rfl)) rfl ?_;refine bU (r:=⟨_,some [1100],[]⟩) (fJ rfl rfl rfl (by assumption) (fun H1 hH=>by exact(by exact bM rfl rfl ((hH _ rfl).trans rfl) rfl))) rfl ?_;refine bU (r:=⟨_,some [1100],[]⟩) (fJ rfl rfl rfl (by assumption) (fun H1 hH=>by exact(by exact fM rfl qC rfl ((hH _ rfl).trans rfl) rfl rfl))) rfl ?_;refine bU (r:=⟨_,some [1100],[]⟩) (fJ rfl rfl rfl (by assumption) (fun H1 hH=>by exact(by exact aX rfl aV rfl ((hH _ rfl).trans rfl) rfl rfl rfl))) rfl ?_;refine bU (r:=⟨_,some [],[]⟩) (fJ rfl rfl rfl (by assumption) (fun H1 hH=>by exact AP rfl rfl rfl)) rfl ?_;refine Cr [] (fun _ _=>QJ)<|Cr [] (fun _ _=>aE) ?_;refine bU (r:=⟨_,some [],[]⟩) (fJ rfl rfl rfl (by assumption) (fun H1 hH=>by exact lY rfl rfl)) rfl ?_;refine bU (r:=⟨_,some [10],[]⟩) (fJ rfl rfl rfl (by assumption) (fun H1 hH=>by exact(by exact cU rfl cQ sizeOf70 rfl ((hH _ rfl).trans rfl) rfl rfl rfl rfl))) rfl ?_;refine bU (r:=⟨_,some [],[]⟩) (fJ rfl rfl rfl (by assumption) (fun H1 hH=>by exact aB rfl rfl PX rfl (hhd _))) rfl ?_;refine bU (r:=⟨_,some [],[]⟩) (fJ rfl rfl rfl (by assumption) (fun H1 hH=>by exact lY rfl rfl)) rfl ?_;refine bU (r:=⟨_,some [],[]⟩) (fJ rfl rfl rfl (by assumption) (fun H1 hH=>by exact vW rfl rfl rfl)) rfl ?_;refine Cr [] (fun _ _=>QJ)<|Cp [4] (fun H1 hH=>by exact g7 rfl sizeOf70 rfl rfl rfl rfl ((hH _ rfl).trans rfl) rfl rfl rfl)<|Cr [] (fun _ _=>aS)<|cM<|Kr<|aN ?_;refine fR (H':=(sH s (b7 k a n b) (bJ l c))) (.inr rfl) rfl (VN cQ sizeOf70) (aH rfl) (Fin.wk (r:=.tup [.agg [iv (p:Int),iv (q:Int)],bv (decide (ofL (y5 place p q)=t))]) (by simp) ⟨⟨_,rfl,rfl⟩,(by exact aF _ _ rfl rfl rfl),⟨_,rfl,rfl⟩,(by exact aC _ _),⟨_,rfl,rfl⟩,(by exact aL _ _ _),⟨_,rfl,rfl⟩,(by exact aK _ _),⟨_,rfl,rfl⟩,(by exact bD rfl rfl),⟨_,rfl,rfl⟩,(by exact aQ _ _ _),trivial⟩ ⟨rfl,rfl,rfl,rfl,rfl,rfl,trivial⟩) ?_;exact⟨by rw [decide_eq_true h2,decide_eq_true h3];rfl,rfl⟩
  have g51:decide ((q:Int)≤(k:Int))=false:=decide_eq_false (by omega);refine aG<|Sr<|Dd aE<|Dd (by exact mL rfl rfl rfl (by decide) h34)<|Dd aE<|Dd (by exact uT rfl rfl rfl (by decide) h36)<|Dd (LI KR)<|Dd (by exact cC (id:=10) rfl LM rfl rfl)<|Uu (pK sizeOf70)<|Zz<|Sq<|bK follows<|Cr [10] (fun H1 hH=>by exact cU rfl cQ sizeOf70 rfl ((hH _ rfl).trans rfl) rfl rfl rfl rfl)<|Cr [10] (fun _ h=>fh qE h)<|Cr [10] (fun _ h=>lh aV h)<|Cr [] (fun _ _=>dG)<|Cr [] (fun _ _=>aE) ?_;refine bU (r:=⟨_,some [10],[]⟩) (fJ rfl rfl rfl (by assumption) (fun H1 hH=>by exact(by exact fM rfl lI rfl ((hH _ rfl).trans rfl) rfl rfl))) rfl ?_;refine bU (r:=⟨_,some [10],[]⟩) (fJ rfl rfl rfl (by assumption) (fun H1 hH=>by exact(by exact aX rfl aV rfl ((hH _ rfl).trans rfl) rfl rfl rfl))) rfl ?_;refine bU (r:=⟨_,some [1100],[]⟩) (fJ rfl rfl rfl (by assumption) (fun H1 hH=>by exact lY rfl rfl)) rfl ?_;refine bU (r:=⟨_,some [1100],[]⟩) (fJ rfl rfl rfl (by assumption) (fun H1 hH=>by exact(by exact bM rfl rfl ((hH _ rfl).trans rfl) rfl))) rfl ?_;refine bU (r:=⟨_,some [1100],[]⟩) (fJ rfl rfl rfl (by assumption) (fun H1 hH=>by exact(by exact fM rfl qC rfl ((hH _ rfl).trans rfl) rfl rfl))) rfl ?_;refine bU (r:=⟨_,some [1100],[]⟩) (fJ rfl rfl rfl (by assumption) (fun H1 hH=>by exact(by exact aX rfl aV rfl ((hH _ rfl).trans rfl) rfl rfl rfl))) rfl ?_;refine bU (r:=⟨_,some [],[]⟩) (fJ rfl rfl rfl (by assumption) (fun H1 hH=>by exact AP rfl rfl rfl)) rfl ?_;refine Cr [] (fun _ _=>QJ)<|Cr [] (fun _ _=>aE)<|Ot<|Ot<|Ot<|Ot<|Ot<|Cr [] (fun _ _=>CP)<|Cp [4] (fun H1 hH=>by exact g7 rfl sizeOf70 rfl rfl rfl rfl ((hH _ rfl).trans rfl) rfl rfl rfl)<|Cr [] (fun _ _=>aS)<|cM<|Kr<|aN ?_;refine fR (H':=(sH s (b7 k a n b) (bJ l c))) (.inr rfl) rfl (VN cQ sizeOf70) (aH rfl) (Fin.wk (r:=.tup [.agg [iv (p:Int),iv (q:Int)],bv false]) (by simp) ⟨⟨_,rfl,rfl⟩,(by exact aF _ _ rfl rfl rfl),⟨_,rfl,rfl⟩,(by exact aC _ _),⟨_,rfl,rfl⟩,(by exact aL _ _ _),⟨_,rfl,rfl⟩,(by exact aK _ _),⟨_,rfl,rfl⟩,(by exact bD rfl rfl),⟨_,rfl,rfl⟩,(by exact aQ _ _ _),trivial⟩ ⟨rfl,rfl,rfl,rfl,rfl,rfl,trivial⟩) ?_;exact⟨by rw [decide_eq_true h2,decide_eq_false h3];rfl,rfl⟩
 have g42:decide ((p:Int) < 2)=false:=decide_eq_false (by omega);refine aG<|Sr<|Dd aE<|Dd (by exact mL rfl rfl rfl (by decide) h34)<|Dd aE<|Dd (by exact uT rfl rfl rfl (by decide) h36)<|Dd (LI KR)<|Dd (by exact cC (id:=10) rfl LM rfl rfl)<|Uu (pK sizeOf70)<|Zz<|Sq<|bK follows<|Cr [10] (fun H1 hH=>by exact cU rfl cQ sizeOf70 rfl ((hH _ rfl).trans rfl) rfl rfl rfl rfl)<|Cr [10] (fun _ h=>fh qE h)<|Cr [10] (fun _ h=>lh aV h)<|Cr [] (fun _ _=>dG)<|Cr [] (fun _ _=>aE)<|Ot<|Ot<|Ot<|Ot<|Ot<|Ot<|Ot<|Cr [] (fun _ _=>CP)<|Cr [] (fun _ _=>aE)<|Ot<|Ot<|Ot<|Ot<|Ot<|Cr [] (fun _ _=>gO)<|Cp [4] (fun H1 hH=>by exact g7 rfl sizeOf70 rfl rfl rfl rfl ((hH _ rfl).trans rfl) rfl rfl rfl)<|Cr [] (fun _ _=>aS)<|cM<|Kr<|aN ?_;refine fR (H':=(sH s (b7 k a n b) (bJ l c))) (.inr rfl) rfl (VN cQ sizeOf70) (aH rfl) (Fin.wk (r:=.tup [.agg [iv (p:Int),iv (q:Int)],bv false]) (by simp) ⟨⟨_,rfl,rfl⟩,(by exact aF _ _ rfl rfl rfl),⟨_,rfl,rfl⟩,(by exact aC _ _),⟨_,rfl,rfl⟩,(by exact aL _ _ _),⟨_,rfl,rfl⟩,(by exact aK _ _),⟨_,rfl,rfl⟩,(by exact bD rfl rfl),⟨_,rfl,rfl⟩,(by exact aQ _ _ _),trivial⟩ ⟨rfl,rfl,rfl,rfl,rfl,rfl,trivial⟩) ?_;exact⟨by rw [decide_eq_false h2];rfl,rfl⟩
def eF (place:Nat) (p:List UInt8):List UInt8:=m5 place (dg p.length 2++p)
def yS (t:ByteArray):Bool:=(gI (t.extract 16 18)||decide (cW (t.extract 16 18) < 1))||decide (46 < cW (t.extract 16 18))
def MX (t:ByteArray):ByteArray:=t.extract 18 (18+(cW (t.extract 16 18)).toNat)
def CR (place:Nat) (t:ByteArray):ByteArray:=if yS t then sNil else if ofL (eF place (MX t).data.toList)=t then MX t else sNil
theorem QK (s:DSt) (hs:DOk s) (hoff:s.off=false) (k a n place:Nat) (b:Bool) (l:List (ByteArray×ByteArray×Nat)) (c:Nat) (hp:place < s.cells.length) :
  aJ Tryz.prog 84 [.ref 1100 0 0 0,iv (place:Int)] (sH s (b7 k a n b) (bJ l c)) (fun r H'=>r=sv (CR place (bT s place))∧H'=sH s (b7 k a n b) (bJ l c)):=by
 have ht:=lB hs hp;have hrd:=uR hs hoff hp;have hpl:place < 1000000000000:=by have:=hs.n2;omega
 obtain ⟨t,hT⟩:∃ t,t=bT s place:=⟨_,rfl⟩;rw [← hT] at ht hrd ⊢;clear hT;obtain ⟨x,hx⟩:∃ x,x=t.extract 16 18:=⟨_,rfl⟩;have hxs:x.size < 1099511627776:=by rw [hx];have:=N6 t 16 18;omega
 have hat:=fun H=>vB x hxs H;have hpb:yS t=((gI x||decide (cW x < 1))||decide (46 < cW x)):=by rw [yS,hx]
 have hpu:MX t=t.extract 18 (18+(cW x).toNat):=by rw [MX,hx]
 obtain ⟨v,hv⟩:∃ v,v=cW x:=⟨_,rfl⟩;obtain ⟨e,he⟩:∃ e,e=gI x:=⟨_,rfl⟩;simp only [← hv,← he] at hat hpb hpu;clear hv he;rw [CR];refine Bd func84 rfl ntmps84<|Sr<|Dd aS<|Zz<|Sr<|Dd aE<|Dd fA<|Dd (dP qD)<|Dd (eA lR)<|Dd aE<|Dd (by exact aB rfl rfl sG rfl (hrd _ ⟨rfl,rfl,rfl,rfl,trivial⟩))<|Dd aE<|Dd eB<|Dd eB<|Dd aS<|Dd aS<|Zz<|Sr<|Dd aE<|Dd (by exact cI (l:=16) (h:=18) rfl aI rfl rfl rfl (by omega) (by omega) hx.symm)<|Dd (by exact aB rfl rfl PY rfl (hat _))<|Dd aE<|Dd eB<|Dd eB<|Dd aS<|Dd aS<|Zz<|Sq<|Sq ?_;refine dA (t:=34) (n:=12) (X:=(e||decide (v < 1))||decide (46 < v)) ?_ ?_
 ·all_goals refine Dd aE ?_
  all_goals refine Dd (by exact rA rfl g4 rfl)<|Dm ?_
  all_goals refine Sp 27 (fun h27=>?_) fun h27=>?_
  all_goals try contradiction
  all_goals first|refine Fo<|Fo ?_|refine On aE<|On dG ?_
  all_goals refine Dd gO<|Dm ?_
  all_goals refine Sp 31 (fun h31=>?_) fun h31=>?_
  all_goals try contradiction
  all_goals first|refine Fo<|Fo ?_|refine On aE<|On y6 ?_
  all_goals refine Dd gO<|Zz ?_
  all_goals(exact⟨⟨_,rfl,by first|(rw [h27];rfl)|(rw [h27,h31];rfl)⟩,rfl,rfl,rfl⟩)
 refine Cn ?_ ?_<;>intro hc1
 ·have hq:=hc1;rw [XH (hpb.trans hq)];refine Sr<|Dd aS<|Zz<|aN ?_;refine a8 (H':=(sH s (b7 k a n b) (bJ l c))) (.inr rfl) rfl (aH rfl) (Fin.wk (by(simp;done)) (Hc (aF _ _ rfl rfl rfl)<|Hc (aC _ _)<|Hc (aL _ _ _)<|Hc (aK _ _)<|Hc (bD rfl rfl)<|Hc (aQ _ _ _)<|trivial) ⟨rfl,rfl,rfl,rfl,rfl,rfl,trivial⟩) ?_;exact Qq
 have hq:=hc1;rw [XG (by rw [hpb,hq];decide)];rw [X4,X4,XQ,XQ] at hq;obtain ⟨u,rfl⟩:∃ u:Nat,v=(u:Int):=⟨v.toNat,by omega⟩;rw [XT] at hpu;have hps:(MX t).size=u:=by rw [hpu,ByteArray.size_extract];omega
 have hpl2:(MX t).data.toList.length=u:=by rw [dB,hps]
 have hof:=FI (MX t);obtain ⟨y,hy⟩:∃ y,y=MX t:=⟨_,rfl⟩;rw [← hy] at hps hpl2 hof hpu ⊢;clear hy;obtain ⟨p,hpe⟩:∃ p,p=y.data.toList:=⟨_,rfl⟩;rw [← hpe] at hpl2 hof ⊢;have h38:((18:Int)+(u:Int))=((18+u:Nat):Int):=by omega
 have e43:ofL (dg u 2)++y=ofL (dg u 2++p):=by rw [← hof];exact rG _ _
 have s43:(ofL (dg u 2)).size≤23:=by rw [bS];exact oI u 2 (by omega)
 have l43:(dg u 2++p).length≤48:=by rw [XJ,jV (m8 u (by omega) (by omega)),hpl2];omega
 have hpc:eF place p=m5 place (dg u 2++p):=by rw [eF,hpl2]
 refine aG<|Sr<|Dd aE<|Dd aE<|Dd (by exact cF rfl rfl rfl (show IntKind.i64.wrap ((18:Int)+(u:Int))=((18+u:Nat):Int)by rw [iA (by omega) (by omega)];omega))<|Dd (by exact cI (l:=18) (h:=18+u) rfl aI rfl rfl rfl (by omega) (by omega) hpu.symm)<|Dd aS<|Zz<|Sq<|Sr<|Dd aE<|Dd aE<|Dd (by exact aB rfl rfl xB rfl (mC u 2 (by omega) (by omega) _))<|Dd aE<|Dd (by exact iF rfl rfl rfl (by omega) e43)<|Dd (by exact aB rfl rfl WH rfl (vL place (dg u 2++p) hpl l43 _))<|Dd aE<|Dd MD<|Zz ?_;refine Cn ?_ ?_<;>intro hc2
 ·have hq2:¬ ofL (m5 place (dg u 2++p))=t:=by have h:=hc2;simpa using h
  rw [hpc,XG hq2];refine Sr<|Dd aS<|Zz<|aN ?_;refine a8 (H':=(sH s (b7 k a n b) (bJ l c))) (.inr rfl) rfl (aH rfl) (Fin.wk (by(simp;done)) (Hc (aF _ _ rfl rfl rfl)<|Hc (aC _ _)<|Hc (aL _ _ _)<|Hc (aK _ _)<|Hc (bD rfl rfl)<|Hc (aQ _ _ _)<|trivial) ⟨rfl,rfl,rfl,rfl,rfl,rfl,trivial⟩) ?_;exact Qq
 have hq2:ofL (m5 place (dg u 2++p))=t:=by have h:=hc2;simpa using h
 rw [hpc,XH hq2];refine aG<|Sr<|Dd aE<|Dd aS<|Zz<|aN ?_;refine a8 (H':=(sH s (b7 k a n b) (bJ l c))) (.inr rfl) rfl (aH rfl) (Fin.wk (by(simp;done)) (Hc (aF _ _ rfl rfl rfl)<|Hc (aC _ _)<|Hc (aL _ _ _)<|Hc (aK _ _)<|Hc (bD rfl rfl)<|Hc (aQ _ _ _)<|trivial) ⟨rfl,rfl,rfl,rfl,rfl,rfl,trivial⟩) ?_;exact Qq
theorem vS (s:DSt) (k a n ar i:Nat) (b:Bool) (l:List (ByteArray×ByteArray×Nat)) (c:Nat) (hk:k < 100000) (har:ar < 10) (hi:i < 100000000) :
  aJ Tryz.prog 85 [.ref 1100 0 0 0,iv (ar:Int),iv (i:Int)] (sH s (b7 k a n b) (bJ l c)) (fun r H'=>r=iv ((2+ar*k+i:Nat):Int)∧H'=sH s (b7 k a n b) (bJ l c)):=by
 have hm:ar*k≤10*100000:=Nat.mul_le_mul (by omega) (by omega);have hmi:((ar:Int)*(k:Int))=((ar*k:Nat):Int):=by rw [Int.natCast_mul]
 refine Bd func85 rfl ntmps85<|Sr<|Dd aS<|Zz<|Sr<|Dd aE<|Dd aE<|Dd fA<|Dd (dP qC)<|Dd (eA aV)<|Dd (by exact gU rfl rfl rfl (by exact iA (by omega) (by omega)))<|Dd kU<|Dd aE<|Dd kU<|Dd aS<|Zz<|aN ?_;refine a8 (H':=(sH s (b7 k a n b) (bJ l c))) (.inr rfl) rfl (aH rfl) (Fin.wk (by(simp;done)) (Hc (aF _ _ rfl rfl rfl)<|Hc (aC _ _)<|Hc (aL _ _ _)<|Hc (aK _ _)<|Hc (bD rfl rfl)<|Hc (aQ _ _ _)<|trivial) ⟨rfl,rfl,rfl,rfl,rfl,rfl,trivial⟩) ?_;exact Qq
end Go.Proofs.YtmkgeogoojcciaaGreatDoor
namespace Go.Proofs.YtmkgeogoojcciaaGreatDoor
open Go.Proofs.Tryz
open Go.Abs
structure DInv (s:DSt) (n m:Nat):Prop where
 ok:DOk s
 arm:H8 s
 n:s.cells.length=n
 q:s.q.length≤m
theorem DInv.mono {s:DSt} {n m m':Nat} (h:DInv s n m) (hm:m≤m'):DInv s n m':=⟨h.ok,h.arm,h.n,Nat.le_trans h.q hm⟩
theorem RD {n:Nat} (h1:1≤n) (h2:n≤8000):DInv (kV n) n 0:=⟨RU h1 h2,fun a w b h=>(by cases h),by simp [kV],XO _⟩
theorem zI {a:Arm} {x w b:Int} (h:BK a=.on x w b):False:=by cases a<;>cases h
theorem rL {s:DSt} {n m:Nat} (h:DInv s n m) (w b:Int):DInv (jY s w b) n m:=by
 refine⟨HT h.ok w b,?_,?_,?_⟩<;>unfold jY<;>split
 ·exact h.arm
 ·exact fun a w b h=>(zI h).elim
 ·exact h.n
 ·show (mB s w b).length=n;rw [s8];exact h.n
 ·exact h.q
 exact XZ _
theorem sW {s:DSt} {n m:Nat} (h:DInv s n m):DInv (dI s) n m:=by
 refine⟨DS h.ok,?_,?_,?_⟩<;>unfold dI<;>split
 ·next a w b e =>
  split
  ·intro a' w' b' he;cases he;have:=h.arm a w b e;omega
  exact(rL h w b).arm
 ·exact h.arm
 ·next a w b e =>
  split
  ·exact h.n
  exact(rL h w b).n
 ·exact h.n
 ·next a w b e =>
  split
  ·exact h.q
  exact(rL h w b).q
 exact h.q
theorem y0 {s:DSt} {n m:Nat} (h:DInv s n m) (hm:m < 1048576) (k:Int) (t:ByteArray):DInv (iJ s k t) n (m+1):=by
 unfold iJ
 split
 ·exact h.mono (Nat.le_succ _)
 split
 ·next hc =>
  rw [XR,XP] at hc;obtain ⟨h1,h2⟩:=hc;rcases nP s k with e|⟨j,rfl,hj⟩
  ·rw [e] at h1;cases h1
  have hq:=h.q;refine sW ⟨sK h.ok (by simpa using hj) h2 (by omega),h.arm,h.n,?_⟩;show (s.q++[_]).length≤_;simp;exact hq
 exact h.mono (Nat.le_succ _)
theorem JU {s:DSt} {n m:Nat} (h:DInv s n m):DInv (tD s) n m:=by have hp:=E7 h.ok s.q.length;rw [List.take_length] at hp;exact⟨⟨hp.n1,hp.n2,hp.c,fun p hp=>(by cases hp),XZ _⟩,h.arm,by show (cK _ _).length=n;rw [fY];exact h.n,XZ _⟩
theorem NP {s:DSt} {n m:Nat} (h:DInv s n m):DInv (iK s) n m:=by
 unfold iK
 split
 ·exact h
 split
 ·exact JU (sW h)
 exact sW h
end Go.Proofs.YtmkgeogoojcciaaGreatDoor
namespace Go.Proofs.YtmkgeogoojcciaaGreatDoor
open Go.Proofs.Tryz
open Go.Abs Go.Lib
def mF (d:DSt) (place:Nat) (L:List ByteArray):Nat→Int×DSt
 | 0=>(0,d)
 | i+1=>if(mF d place L i).1=0 then(gV (mF d place L i).2 ((place+i:Nat):Int) (L.getD i sNil),iJ (mF d place L i).2 ((place+i:Nat):Int) (L.getD i sNil))else mF d place L i
def iU (d:DSt) (place:Nat) (L:List ByteArray):Int×DSt :=if(mF d place L L.length).1=0 then(lJ (mF d place L L.length).2,iK (mF d place L L.length).2)else mF d place L L.length
theorem B4 {d:DSt} {place:Nat} {L:List ByteArray} {i:Nat} (h:¬ (mF d place L i).1=0):∀ j,mF d place L (i+j)=mF d place L i
 | 0=>rfl
 | j+1=>by rw [← Nat.add_assoc,mF,B4 h j,XG h]
theorem oP {d:DSt} {n m:Nat} (h:DInv d n m) (place:Nat) (L:List ByteArray):∀ i,m+i≤1048576→DInv (mF d place L i).2 n (m+i)
 | 0,_=>h
 | i+1,hi=>by
  have ih:=oP h place L i (by omega);rw [mF]
  split
  ·exact y0 ih (by omega) _ _
  exact ih.mono (by omega)
theorem jZ {d:DSt} {n m:Nat} (h:DInv d n m) (place:Nat) (L:List ByteArray) (hm:m+L.length≤1048576):DInv (iU d place L).2 n (m+L.length):=by
 rw [iU]
 split
 ·exact NP (oP h place L _ hm)
 exact oP h place L _ hm
theorem lS {d:DSt} {n m:Nat} (h:DInv d n m) (k a cn place:Nat) (b:Bool) (l:List (ByteArray×ByteArray×Nat)) (c:Nat) (L:List ByteArray) (hm:m+L.length < 1048576) (hpl:place < 100000) :
  aJ Tryz.prog 90 [.ref 1100 0 0 0,iv (place:Int),.pv (aW L)] (sH d (b7 k a cn b) (bJ l c)) (fun r H'=>r=iv (iU d place L).1∧H'=sH (iU d place L).2 (b7 k a cn (b||!decide ((iU d place L).1=0))) (bJ l c)):=by
 have hml:(L.map encStr).length=L.length:=XI _;refine Bd func90 rfl ntmps90<|Sr<|Dd aS<|Zz<|Sr<|Dd aS<|Zz<|Sq<|Sr<|Dd aS<|Zz<|aM ?_;refine bB (σ:=Nat) (fun i=>([(0,.ref 1100 0 0 0),(1,iv (place:Int)),(2,.pv (aW L)),(7,iv (mF d place L i).1),(8,iv (i:Int))],sH (mF d place L i).2 (b7 k a cn b) (bJ l c))) (fun i=>i≤L.length∧∀ j,j < i→(mF d place L j).1=0) (fun i=>L.length - i) 0 ⟨XZ _,fun j hj=>absurd hj (Nat.not_lt_zero _)⟩ ?_ ?_
 ·exact(bY.wk (Ea<|Eb<|Eb<|Eb<|Eb<|trivial) (Hc (aF _ _ rfl rfl rfl)<|Hc (aC _ _)<|Hc (aL _ _ _)<|Hc (aK _ _)<|Hc (bD rfl rfl)<|Hc (aQ _ _ _)<|trivial) ⟨rfl,rfl,rfl,rfl,rfl,rfl,trivial⟩)
 rintro i ⟨hi,hz⟩;have hx:=oP h place L i (by omega);have hst:=B4 (d:=d) (place:=place) (L:=L) (i:=i);have hnx:mF d place L (i+1)=if(mF d place L i).1=0 then(gV (mF d place L i).2 ((place+i:Nat):Int) (L.getD i sNil),iJ (mF d place L i).2 ((place+i:Nat):Int) (L.getD i sNil))else mF d place L i:=rfl;have hzi:(mF d place L i).1=0→∀ j,j < i+1→(mF d place L j).1=0:=fun h j hj=>by
  rcases Nat.lt_succ_iff_lt_or_eq.1 hj with h1|rfl
  ·exact hz j h1
  exact h
 rcases hp:mF d place L i with⟨e,d1⟩;simp only [hp] at hx hst hnx hzi ⊢;refine Sq<|Sq ?_;refine dA (t:=16) (n:=9) (X:=decide ((i:Int) < ((L.map encStr).length:Int))&&decide (e=0)) ?_ ?_
 ·all_goals refine Dd aE ?_
  all_goals refine Dd aE<|Dd (j2 aO)<|Dd dG<|Dm ?_
  all_goals refine Sp 13 (fun h13=>?_) fun h13=>?_
  all_goals try contradiction
  all_goals first|refine Fo<|Fo ?_|refine On aE<|On hU ?_
  all_goals refine Dd gO<|Zz ?_
  all_goals(exact⟨⟨_,rfl,by(rw [h13];rfl)⟩,rfl,rfl,rfl⟩)
 refine Cn ?_ ?_<;>intro hc1
 ·have hq:i < L.length∧e=0:=by have h:=hc1;rw [XR,XP,XP] at h;exact⟨by omega,h.2⟩
  obtain ⟨t,ht⟩:=aY hq.1;have hit:=cG (f:=encStr) ht;have hgt:L.getD i sNil=t:=by rw [List.getD_eq_getElem?_getD,ht];rfl
  rw [hgt,XH hq.2] at hnx;have hw:=P7 d1 ((place+i:Nat):Int) t hx.ok hx.arm (by have:=hx.q;omega);refine aG<|Sq<|aM<|bK follows<|Cr [1100] (fun _ _=>aE)<|Cr [1100] (fun H1 hH=>by exact bM rfl rfl ((hH _ rfl).trans rfl) rfl)<|Cr [1100] (fun _ h=>fh qD h)<|Cr [1100] (fun _ h=>lh lR h)<|Cr [] (fun _ _=>aE)<|Cr [] (fun _ _=>aE)<|Cr [] (fun H1 hH=>by exact cF rfl rfl rfl (show IntKind.i64.wrap ((place:Int)+(i:Int))=((place+i:Nat):Int)by rw [iA (by omega) (by omega)];omega))<|Cr [] (fun _ _=>aE)<|Cr [] (fun _ _=>aE)<|Cr [] (fun _ _=>(B1 bR))<|Cr [] (fun _ _=>(kL aU)) ?_;refine bU (r:=⟨_,some [1000,1001,1002,1003],_⟩) (DStep.plain rfl (fun H1 hH=>by exact aB rfl rfl call121 rfl (b9 hw _ ⟨(hH 1000 rfl).trans rfl,(hH 1001 rfl).trans rfl,(hH 1002 rfl).trans rfl,(hH 1003 rfl).trans rfl,trivial⟩ (by simp;rfl)))) rfl ?_;refine Cr [] (fun _ _=>aS)<|cM<|Kr<|Rg<|Dd aE<|Dd kU<|Da ?_;refine⟨i+1,⟨by omega,hzi hq.2⟩,by omega,?_⟩;dsimp only;rw [hnx];exact(bY.wk (Ea<|Eb<|Eb<|Eb<|Eb<|trivial) (Hc (aF _ _ rfl rfl rfl)<|Hc (aC _ _)<|Hc (aL _ _ _)<|Hc (aK _ _)<|Hc (bD rfl rfl)<|Hc (aQ _ _ _)<|trivial) ⟨rfl,rfl,rfl,rfl,rfl,rfl,trivial⟩)
 have hq:i=L.length∨¬ e=0:=by have h:=hc1;rw [Bool.and_eq_false_iff,XQ,XQ] at h;omega
 have hend:mF d place L L.length=(e,d1):=by
  by_cases he:e=0
  ·rcases hq with hq|hq
   ·rw [← hq];exact hp
   exact absurd he hq
  have:=hst he (L.length - i)
  rwa [show i+(L.length - i)=L.length by omega] at this
 rw [iU,hend];refine a6<|Sq<|Sr<|Dd aE<|Dd hU<|Zz ?_;refine Cn ?_ ?_<;>intro hc2
 ·have he:e=0:=XE hc2;have hs:=S2 d1 hx.ok hx.arm;rw [XH he];cases b
  ·refine Rg<|Dd aE<|Dd fA<|Dd (dP qD)<|Dd (eA lR)<|Dd (by exact aB rfl rfl call122 rfl (b9 hs _ ⟨rfl,rfl,rfl,rfl,trivial⟩ (by simp;rfl)))<|Dd aS<|Zz<|Sr<|Dd aE<|Dd aE<|Dd fA<|Dd (dP jB)<|Dd (eA dC)<|Dd aE<|On aE<|On pD<|Dd gO<|Dd fA<|Dd (dP jB)<|Uu (by exact cX rfl sizeOf4 rfl rfl rfl rfl rfl rfl (by simp only [XK,List.length_nil];omega) (by simp only [Zl,encStr];rfl) (by simp only [Zl,encStr];rfl))<|Zz<|Sr<|Dd aE<|Dd aS<|Zz<|aN ?_;refine a8 (H':=(sH (iK d1) (b7 k a cn (false||!decide (lJ d1=0))) (bJ l c))) (.inr rfl) rfl (aH rfl) (Fin.wk (by(simp;done)) (Hc (aF _ _ rfl rfl rfl)<|Hc (aC _ _)<|Hc (aL _ _ _)<|Hc (aK _ _)<|Hc (bD rfl rfl)<|Hc (aQ _ _ _)<|trivial) ⟨rfl,rfl,rfl,rfl,rfl,rfl,trivial⟩) ?_;exact Qq
  refine Rg<|Dd aE<|Dd fA<|Dd (dP qD)<|Dd (eA lR)<|Dd (by exact aB rfl rfl call122 rfl (b9 hs _ ⟨rfl,rfl,rfl,rfl,trivial⟩ (by simp;rfl)))<|Dd aS<|Zz<|Sr<|Dd aE<|Dd aE<|Dd fA<|Dd (dP jB)<|Dd (eA dC)<|Dd aE<|Fo<|Fo<|Dd gO<|Dd fA<|Dd (dP jB)<|Uu (by exact cX rfl sizeOf4 rfl rfl rfl rfl rfl rfl (by simp only [XK,List.length_nil];omega) (by simp only [Zl,encStr];rfl) (by simp only [Zl,encStr];rfl))<|Zz<|Sr<|Dd aE<|Dd aS<|Zz<|aN ?_;refine a8 (H':=(sH (iK d1) (b7 k a cn true) (bJ l c))) (.inr rfl) rfl (aH rfl) (Fin.wk (by(simp;done)) (Hc (aF _ _ rfl rfl rfl)<|Hc (aC _ _)<|Hc (aL _ _ _)<|Hc (aK _ _)<|Hc (bD rfl rfl)<|Hc (aQ _ _ _)<|trivial) ⟨rfl,rfl,rfl,rfl,rfl,rfl,trivial⟩) ?_;exact Qq
 have he:¬ e=0:=XF hc2;rw [XG he];cases b
 ·refine aG<|Sr<|Dd aE<|Dd aE<|Dd fA<|Dd (dP jB)<|Dd (eA dC)<|Dd aE<|On aE<|On pD<|Dd gO<|Dd fA<|Dd (dP jB)<|Uu (by exact cX rfl sizeOf4 rfl rfl rfl rfl rfl rfl (by simp only [XK,List.length_nil];omega) (by simp only [Zl,encStr];rfl) (by simp only [Zl,encStr];rfl))<|Zz<|Sr<|Dd aE<|Dd aS<|Zz<|aN ?_;refine a8 (H':=(sH d1 (b7 k a cn (false||!decide (e=0))) (bJ l c))) (.inr rfl) rfl (aH rfl) (Fin.wk (by(simp;done)) (Hc (aF _ _ rfl rfl rfl)<|Hc (aC _ _)<|Hc (aL _ _ _)<|Hc (aK _ _)<|Hc (bD rfl rfl)<|Hc (aQ _ _ _)<|trivial) ⟨rfl,rfl,rfl,rfl,rfl,rfl,trivial⟩) ?_;exact Qq
 refine aG<|Sr<|Dd aE<|Dd aE<|Dd fA<|Dd (dP jB)<|Dd (eA dC)<|Dd aE<|Fo<|Fo<|Dd gO<|Dd fA<|Dd (dP jB)<|Uu (by exact cX rfl sizeOf4 rfl rfl rfl rfl rfl rfl (by simp only [XK,List.length_nil];omega) (by simp only [Zl,encStr];rfl) (by simp only [Zl,encStr];rfl))<|Zz<|Sr<|Dd aE<|Dd aS<|Zz<|aN ?_;refine a8 (H':=(sH d1 (b7 k a cn true) (bJ l c))) (.inr rfl) rfl (aH rfl) (Fin.wk (by(simp;done)) (Hc (aF _ _ rfl rfl rfl)<|Hc (aC _ _)<|Hc (aL _ _ _)<|Hc (aK _ _)<|Hc (bD rfl rfl)<|Hc (aQ _ _ _)<|trivial) ⟨rfl,rfl,rfl,rfl,rfl,rfl,trivial⟩) ?_;exact Qq
abbrev zS:ByteArray:=ofL (zB 64)
abbrev hS (place a cn:Nat):ByteArray:=ofL (y5 place a cn)
def nL (place a cn:Nat):Bool→ByteArray
 | true=>hS place a cn
 | false=>zS
def sB (d:DSt) (place a cn:Nat) (hd:Bool):Int×DSt:=if bT d place=nL place a cn hd then(0,d)else if(iU d place [zS]).1=0∧hd=true then iU (iU d place [zS]).2 place [nL place a cn hd] else iU d place [zS]
theorem yK {d:DSt} {n m:Nat} (h:DInv d n m) (hoff:d.off=false) (k a cn place:Nat) (b hd:Bool) (l:List (ByteArray×ByteArray×Nat)) (c:Nat) (hm:m+2 < 1048576) (hp:place < d.cells.length) (ha:a < 10) (hcn:cn < 1000000000000) :
  aJ Tryz.prog 45 [.ref 1100 0 0 0,iv (place:Int),bv hd] (sH d (b7 k a cn b) (bJ l c)) (fun r H'=>r=iv (sB d place a cn hd).1∧H'=sH (sB d place a cn hd).2 (b7 k a cn (b||!decide ((sB d place a cn hd).1=0))) (bJ l c)):=by
 have hn2:=h.ok.n2;have hrd:=uR h.ok hoff hp;have hw:=lS h k a cn place b l c [zS] (by rw [List.length_singleton];omega) (by omega);have hi1:=jZ h place [zS] (by rw [List.length_singleton];omega);have hhd:=fun H=>A8 place a cn (by omega) ha hcn H;rw [sB];cases hd
 ·refine Bd func45 rfl ntmps45<|Sr<|Dd aS<|Zz<|Sr<|Dd aE<|Dd fA<|Dd (dP qD)<|Dd (eA lR)<|Dd aE<|Dd (by exact aB rfl rfl sG rfl (hrd _ ⟨rfl,rfl,rfl,rfl,trivial⟩))<|Dd aE<|Dd eB<|Dd eB<|Dd aS<|Dd aS<|Zz<|Sr<|Dd (by exact aB rfl rfl nK rfl (mX _))<|Dd aS<|Zz<|Sq<|Sr<|Dd aE<|Zz ?_;refine Cn ?_ ?_<;>intro hc1
  ·cases hc1
  refine aG<|Sq<|Sr<|Dd aE<|Dd aE<|Dd S8<|Zz ?_;refine Cn ?_ ?_<;>intro hc2
  ·have he:bT d place=nL place a cn false:=XE hc2;rw [XH he];refine Sr<|Dd aS<|Zz<|aN ?_;refine a8 (H':=(sH d (b7 k a cn b) (bJ l c))) (.inr rfl) rfl (aH rfl) (Fin.wk (by(simp;done)) (Hc (aF _ _ rfl rfl rfl)<|Hc (aC _ _)<|Hc (aL _ _ _)<|Hc (aK _ _)<|Hc (bD rfl rfl)<|Hc (aQ _ _ _)<|trivial) ⟨rfl,rfl,rfl,rfl,rfl,rfl,trivial⟩) ?_;exact⟨rfl,by cases b<;>rfl⟩
  have he:¬ bT d place=nL place a cn false:=XF hc2;rw [XG he,XG (fun h=>by cases h.2)];refine aG<|Sr<|Dd aE<|Dd aE<|Dd (by exact aB rfl rfl nK rfl (mX _))<|Dd (by exact bE [[.str zS]] rfl bR rfl rfl rfl rfl rfl (by simp))<|Dd (by exact aB rfl rfl nJ rfl (hw))<|Dd aS<|Zz<|Sq<|Sq ?_;refine dA (t:=40) (n:=6) (X:=false) ?_ ?_
  ·all_goals refine Dd aE ?_
   all_goals refine Dd hU<|Dm ?_
   all_goals refine Sp 38 (fun h38=>?_) fun h38=>?_
   all_goals try contradiction
   all_goals first|refine Fo ?_|refine On aE ?_
   all_goals refine Dd gO<|Zz ?_
   all_goals(exact⟨⟨_,rfl,by rfl⟩,rfl,rfl,rfl⟩)
  refine Cn ?_ ?_<;>intro hc3
  ·cases hc3
  refine aG<|Sr<|Dd aE<|Dd aS<|Zz<|aN ?_;refine a8 (H':=(sH (iU d place [zS]).2 (b7 k a cn (b||!decide ((iU d place [zS]).1=0))) (bJ l c))) (.inr rfl) rfl (aH rfl) (Fin.wk (by(simp;done)) (Hc (aF _ _ rfl rfl rfl)<|Hc (aC _ _)<|Hc (aL _ _ _)<|Hc (aK _ _)<|Hc (bD rfl rfl)<|Hc (aQ _ _ _)<|trivial) ⟨rfl,rfl,rfl,rfl,rfl,rfl,trivial⟩) ?_;exact Qq
 refine Bd func45 rfl ntmps45<|Sr<|Dd aS<|Zz<|Sr<|Dd aE<|Dd fA<|Dd (dP qD)<|Dd (eA lR)<|Dd aE<|Dd (by exact aB rfl rfl sG rfl (hrd _ ⟨rfl,rfl,rfl,rfl,trivial⟩))<|Dd aE<|Dd eB<|Dd eB<|Dd aS<|Dd aS<|Zz<|Sr<|Dd (by exact aB rfl rfl nK rfl (mX _))<|Dd aS<|Zz<|Sq<|Sr<|Dd aE<|Zz ?_;refine Cn ?_ ?_<;>intro hc1
 ·refine Rg<|Dd aE<|Dd aE<|Dd fA<|Dd (dP kN)<|Dd (Q5 cQ sizeOf70)<|Dd (by exact aB rfl rfl PX rfl (hhd _))<|Dd aS<|Zz<|Sq<|Sr<|Dd aE<|Dd aE<|Dd S8<|Zz ?_;refine Cn ?_ ?_<;>intro hc2
  ·have he:bT d place=nL place a cn true:=XE hc2;rw [XH he];refine Sr<|Dd aS<|Zz<|aN ?_;refine a8 (H':=(sH d (b7 k a cn b) (bJ l c))) (.inr rfl) rfl (aH rfl) (Fin.wk (by(simp;done)) (Hc (aF _ _ rfl rfl rfl)<|Hc (aC _ _)<|Hc (aL _ _ _)<|Hc (aK _ _)<|Hc (bD rfl rfl)<|Hc (aQ _ _ _)<|trivial) ⟨rfl,rfl,rfl,rfl,rfl,rfl,trivial⟩) ?_;exact⟨rfl,by cases b<;>rfl⟩
  have he:¬ bT d place=nL place a cn true:=XF hc2;rw [XG he];refine aG<|Sr<|Dd aE<|Dd aE<|Dd (by exact aB rfl rfl nK rfl (mX _))<|Dd (by exact bE [[.str zS]] rfl bR rfl rfl rfl rfl rfl (by simp))<|Dd (by exact aB rfl rfl nJ rfl (hw))<|Dd aS<|Zz<|Sq<|Sq ?_;refine dA (t:=40) (n:=6) (X:=decide ((iU d place [zS]).1=0)) ?_ ?_
  ·all_goals refine Dd aE ?_
   all_goals refine Dd hU<|Dm ?_
   all_goals refine Sp 38 (fun h38=>?_) fun h38=>?_
   all_goals try contradiction
   all_goals first|refine Fo ?_|refine On aE ?_
   all_goals refine Dd gO<|Zz ?_
   all_goals(exact⟨⟨_,rfl,by(simp_all;done)⟩,rfl,rfl,rfl⟩)
  refine Cn ?_ ?_<;>intro hc3
  ·have hz:(iU d place [zS]).1=0:=XE hc3;rw [XH ⟨hz,rfl⟩];have hw2:=lS hi1 k a cn place b l c [hS place a cn] (by rw [List.length_singleton,List.length_singleton];omega) (by omega);have hbz:(b||!decide ((iU d place [zS]).1=0))=b:=by rw [hz];cases b<;>rfl
   rw [hbz];refine Rg<|Dd aE<|Dd aE<|Dd aE<|Dd (by exact bE [[.str (hS place a cn)]] rfl bR rfl rfl rfl rfl rfl (by simp))<|Dd (by exact aB rfl rfl nJ rfl (hw2))<|Dd aS<|Zz<|Sr<|Dd aE<|Dd aS<|Zz<|aN ?_;refine a8 (H':=(sH (iU (iU d place [zS]).2 place [hS place a cn]).2 (b7 k a cn (b||!decide ((iU (iU d place [zS]).2 place [hS place a cn]).1=0))) (bJ l c))) (.inr rfl) rfl (aH rfl) (Fin.wk (by(simp;done)) (Hc (aF _ _ rfl rfl rfl)<|Hc (aC _ _)<|Hc (aL _ _ _)<|Hc (aK _ _)<|Hc (bD rfl rfl)<|Hc (aQ _ _ _)<|trivial) ⟨rfl,rfl,rfl,rfl,rfl,rfl,trivial⟩) ?_;exact Qq
  have hz:¬ (iU d place [zS]).1=0:=XF hc3;rw [XG (fun h=>hz h.1)];refine aG<|Sr<|Dd aE<|Dd aS<|Zz<|aN ?_;refine a8 (H':=(sH (iU d place [zS]).2 (b7 k a cn (b||!decide ((iU d place [zS]).1=0))) (bJ l c))) (.inr rfl) rfl (aH rfl) (Fin.wk (by(simp;done)) (Hc (aF _ _ rfl rfl rfl)<|Hc (aC _ _)<|Hc (aL _ _ _)<|Hc (aK _ _)<|Hc (bD rfl rfl)<|Hc (aQ _ _ _)<|trivial) ⟨rfl,rfl,rfl,rfl,rfl,rfl,trivial⟩) ?_;exact Qq
 cases hc1
theorem QE {d d':DSt} {o o' m m':Ob} {id:Nat} (h:((sH d' o' m').get id).isSome=true):((sH d o m).get id).isSome=true:=by simp only [sH,aA.get] at h ⊢;cases e0:Nat.beq 1000 id<;>cases e1:Nat.beq 1001 id<;>cases e2:Nat.beq 1002 id<;>cases e3:Nat.beq 1003 id<;>cases e4:Nat.beq 1100 id<;>cases e5:Nat.beq 1101 id<;>simp [e0,e1,e2,e3,e4,e5] at h ⊢
theorem fW {f:FuncId} {args:List AV} {d d':DSt} {k a n:Nat} {b:Bool} {l:List (ByteArray×ByteArray×Nat)} {c:Nat} {o' m':Ob} {r0:AV} (h:aJ Tryz.prog f args (sH d (b7 k a n b) (bJ l c)) (fun r H'=>r=r0∧H'=sH d' o' m')) (H:aA) (hs:EM H (sH d (b7 k a n b) (bJ l c))) (ha:∀ x∈args,Clo (sH d (b7 k a n b) (bJ l c)) x) :
  aJ Tryz.prog f args H (fun r H'=>r=r0∧H'=sH d' o' m'++H):=h.frame hs.sub (oR _ _ _ _ _ _ _) ha (fun id hid=>.inl (QE hid))
def uH (d:DSt) (a cn:Nat):Int×DSt:=if(iU d 1 [hS 1 a cn]).1=0 then iU (iU d 1 [hS 1 a cn]).2 0 [hS 0 a cn] else iU d 1 [hS 1 a cn]
theorem MK {d:DSt} {n m:Nat} (h:DInv d n m) (a cn:Nat) (hm:m+2≤1048576):DInv (uH d a cn).2 n (m+2):=by
 have h1:=jZ h 1 [hS 1 a cn] (by rw [List.length_singleton];omega);have h2:=jZ h1 0 [hS 0 a cn] (by rw [List.length_singleton,List.length_singleton];omega);rw [List.length_singleton] at h1 h2;rw [uH]
 split
 ·exact h2
 exact h1.mono (by omega)
def WK (a b c:DSt):Nat→DSt
 | 0=>a
 | 1=>b
 | _=>c
theorem S6 {d:DSt} {n m:Nat} (h:DInv d n m) (k a cn a2 cn2:Nat) (b:Bool) (l:List (ByteArray×ByteArray×Nat)) (c:Nat) (hm:m+2 < 1048576) (ha:a2 < 10) (hcn:cn2 < 1000000000000) :
  aJ Tryz.prog 103 [.ref 1100 0 0 0,.agg [iv (a2:Int),iv (cn2:Int)]] (sH d (b7 k a cn b) (bJ l c)) (fun r H'=>r=iv (uH d a2 cn2).1∧H'=sH (uH d a2 cn2).2 (if(uH d a2 cn2).1=0 then b7 k a2 cn2 b else b7 k a cn true) (bJ l c)):=by
 have hw:=lS h k a cn 1 b l c [hS 1 a2 cn2] (by rw [List.length_singleton];omega) (by omega);have h1:=jZ h 1 [hS 1 a2 cn2] (by rw [List.length_singleton];omega);have hw2:=lS h1 k a cn 0 b l c [hS 0 a2 cn2] (by rw [List.length_singleton,List.length_singleton];omega) (by omega);have hh1:=fun H=>A8 1 a2 cn2 (by omega) ha hcn H;have hh0:=fun H=>A8 0 a2 cn2 (by omega) ha hcn H;rw [uH];obtain ⟨x,hx⟩:∃ x,x=iU d 1 [hS 1 a2 cn2]:=⟨_,rfl⟩;rw [← hx] at hw hw2 ⊢;obtain ⟨y,hy⟩:∃ y,y=iU x.2 0 [hS 0 a2 cn2]:=⟨_,rfl⟩;rw [← hy] at hw2 ⊢;clear hx hy h1;have hr0:([[PV.int .i64 1],[PV.int .i64 0]]:List (List PV))[0]?=some [PV.int .i64 1]:=rfl;have hr1:([[PV.int .i64 1],[PV.int .i64 0]]:List (List PV))[1]?=some [PV.int .i64 0]:=rfl;refine Bd func103 rfl ntmps103<|Sr<|Dd (by exact fQ (id:=3) rfl rfl rfl rfl rfl)<|Dd aS<|Zz<|Sq<|Sq ?_;refine fV.ent (E':=[(0,.ref 1100 0 0 0),(3,.ref 3 0 0 0)]) (H':=(3,bx 2 70 [iv (a2:Int),iv (cn2:Int)])::sH d (b7 k a cn b) (bJ l c)) (bY.wk (Ea<|Ea<|trivial) (Hb<|Hc (aF _ _ rfl rfl rfl)<|Hc (aC _ _)<|Hc (aL _ _ _)<|Hc (aK _ _)<|Hc (bD rfl rfl)<|Hc (aQ _ _ _)<|trivial) ⟨rfl,rfl,rfl,rfl,rfl,rfl,trivial⟩) ?_;refine Rg<|Dd (by exact bE [[.int .i64 1],[.int .i64 0]] rfl IQ rfl rfl rfl rfl rfl (by simp))<|Dd (j2 K9)<|Dd aE<|Zz<|aM ?_;refine bB (σ:=Nat) (fun i=>([(0,.ref 1100 0 0 0),(3,.ref 3 0 0 0),(8,.pv (.sl [[.int .i64 1],[.int .i64 0]])),(9,iv 2),(10,iv (i:Int))],(3,bx 2 70 [iv (a2:Int),iv (cn2:Int)])::sH (WK d x.2 y.2 i) (b7 k a cn b) (bJ l c))) (fun i=>i≤2∧(0 < i→x.1=0)∧(1 < i→y.1=0)) (fun i=>2 - i) 0 ⟨by omega,fun h=>absurd h (Nat.lt_irrefl _),fun h=>absurd h (by omega)⟩ ?_ ?_
 ·exact(bY.wk (Ea<|Ea<|Eb<|Eb<|Eb<|trivial) (Hb<|Hc (aF _ _ rfl rfl rfl)<|Hc (aC _ _)<|Hc (aL _ _ _)<|Hc (aK _ _)<|Hc (bD rfl rfl)<|Hc (aQ _ _ _)<|trivial) ⟨rfl,rfl,rfl,rfl,rfl,rfl,trivial⟩)
 rintro i ⟨hi,hx0,hy0⟩;have h3:i=0∨i=1∨i=2:=by omega
 rcases h3 with rfl|rfl|rfl
 ·refine Sr<|Dd dG<|Zz<|Sq ?_;refine Cn ?_ ?_<;>intro hc1
  ·refine aG<|Sq<|aM<|Sr<|Dd (by exact aZ (m:=0) rfl IQ rfl rfl (by decide) rfl rfl rfl)<|Dd (kL aV)<|Dd aS<|Zz<|Sr<|Dd aE<|Dd aE<|Dd aE<|Dd (Q5 cQ sizeOf70)<|Dd (by exact aB rfl rfl PX rfl (hh1 _))<|Dd (by exact bE [[.str (hS 1 a2 cn2)]] rfl bR rfl rfl rfl rfl rfl (by simp))<|Dd (by exact aB rfl rfl nJ rfl (fW hw _ ⟨rfl,rfl,rfl,rfl,rfl,rfl,trivial⟩ (by simp;rfl)))<|Dd aS<|Zz<|Sr<|Dd aE<|Dd pD<|Zz ?_;refine Cn ?_ ?_<;>intro hc2
   ·have he:¬ x.1=0:=by have h:=hc2;simpa using h
    have hb:(b||!decide (x.1=0))=true:=by rw [decide_eq_false he];cases b<;>rfl
    rw [XG he,XG he,hb];refine Sr<|Dd aE<|Dd aS<|Zz<|aN ?_;refine a8 (H':=(sH x.2 (b7 k a cn true) (bJ l c))) (.inr rfl) rfl (aH rfl) (Fin.wk (by(simp;done)) (Hc (aF _ _ rfl rfl rfl)<|Hc (aC _ _)<|Hc (aL _ _ _)<|Hc (aK _ _)<|Hc (bD rfl rfl)<|Hc (aQ _ _ _)<|trivial) ⟨rfl,rfl,rfl,rfl,rfl,rfl,trivial⟩) ?_;exact Qq
   have he:x.1=0:=by have h:=hc2;simpa using h
   have hb:(b||!decide (x.1=0))=b:=by rw [he];cases b<;>rfl
   rw [hb];refine aG<|Rg<|Dd kU<|Dd aE<|Zz ?_;refine⟨1,⟨by omega,fun _=>he,fun h=>absurd h (by omega)⟩,by omega,?_⟩;exact(bY.wk (Ea<|Ea<|Eb<|Eb<|Eb<|trivial) (Hb<|Hc (aF _ _ rfl rfl rfl)<|Hc (aC _ _)<|Hc (aL _ _ _)<|Hc (aK _ _)<|Hc (bD rfl rfl)<|Hc (aQ _ _ _)<|trivial) ⟨rfl,rfl,rfl,rfl,rfl,rfl,trivial⟩)
  cases hc1
 ·have he0:=hx0 (by omega);refine Sr<|Dd dG<|Zz<|Sq ?_;refine Cn ?_ ?_<;>intro hc3
  ·refine aG<|Sq<|aM<|Sr<|Dd (by exact aZ (m:=1) rfl IQ rfl rfl (by decide) rfl rfl rfl)<|Dd (kL aV)<|Dd aS<|Zz<|Sr<|Dd aE<|Dd aE<|Dd aE<|Dd (Q5 cQ sizeOf70)<|Dd (by exact aB rfl rfl PX rfl (hh0 _))<|Dd (by exact bE [[.str (hS 0 a2 cn2)]] rfl bR rfl rfl rfl rfl rfl (by simp))<|Dd (by exact aB rfl rfl nJ rfl (fW hw2 _ ⟨rfl,rfl,rfl,rfl,rfl,rfl,trivial⟩ (by simp;rfl)))<|Dd aS<|Zz<|Sr<|Dd aE<|Dd pD<|Zz ?_;refine Cn ?_ ?_<;>intro hc4
   ·have he:¬ y.1=0:=by have h:=hc4;simpa using h
    have hb:(b||!decide (y.1=0))=true:=by rw [decide_eq_false he];cases b<;>rfl
    rw [XH he0,XG he,hb];refine Sr<|Dd aE<|Dd aS<|Zz<|aN ?_;refine a8 (H':=(sH y.2 (b7 k a cn true) (bJ l c))) (.inr rfl) rfl (aH rfl) (Fin.wk (by(simp;done)) (Hc (aF _ _ rfl rfl rfl)<|Hc (aC _ _)<|Hc (aL _ _ _)<|Hc (aK _ _)<|Hc (bD rfl rfl)<|Hc (aQ _ _ _)<|trivial) ⟨rfl,rfl,rfl,rfl,rfl,rfl,trivial⟩) ?_;exact Qq
   have he:y.1=0:=by have h:=hc4;simpa using h
   have hb:(b||!decide (y.1=0))=b:=by rw [he];cases b<;>rfl
   rw [hb];refine aG<|Rg<|Dd kU<|Dd aE<|Zz ?_;refine⟨2,⟨by omega,fun _=>he0,fun _=>he⟩,by omega,?_⟩;exact(bY.wk (Ea<|Ea<|Eb<|Eb<|Eb<|trivial) (Hb<|Hc (aF _ _ rfl rfl rfl)<|Hc (aC _ _)<|Hc (aL _ _ _)<|Hc (aK _ _)<|Hc (bD rfl rfl)<|Hc (aQ _ _ _)<|trivial) ⟨rfl,rfl,rfl,rfl,rfl,rfl,trivial⟩)
  cases hc3
 have he0:=hx0 (by omega);have he1:=hy0 (by omega);refine Sr<|Dd dG<|Zz<|Sq ?_;refine Cn ?_ ?_<;>intro hc5
 ·cases hc5
 rw [XH he0,XH he1];refine a6<|Sr<|Dd aE<|Dd (Q5 cQ sizeOf70)<|Dd fA<|Dd (dP kN)<|Uu (by exact GO rfl sizeOf70 rfl rfl rfl rfl rfl rfl rfl (by simp only [XK,List.length_nil];omega) (by simp only [Zl,encStr];rfl) (by simp only [Zl,encStr];rfl))<|Zz<|Sr<|Dd aS<|Zz<|aN ?_;refine a8 (H':=(sH y.2 (b7 k a2 cn2 b) (bJ l c))) (.inr rfl) rfl (aH rfl) (Fin.wk (by(simp;done)) (Hc (aF _ _ rfl rfl rfl)<|Hc (aC _ _)<|Hc (aL _ _ _)<|Hc (aK _ _)<|Hc (bD rfl rfl)<|Hc (aQ _ _ _)<|trivial) ⟨rfl,rfl,rfl,rfl,rfl,rfl,trivial⟩) ?_;exact⟨by rw [he1],rfl⟩
def fH (t:List UInt8) (i:Nat):List UInt8:=(t.drop (46*i)).take 46
def cT (t:List UInt8):Nat:=(t.length+45) / 46
abbrev IL (t:List UInt8) (i:Nat):Ob:=bx 1 9 [sv (ofL (t.drop (46*i)))]
theorem lX (t:List UInt8) (i:Nat):(fH t i).length=min 46 (t.length - 46*i):=by rw [fH,XW,XX]
theorem JC (t:List UInt8) (H:aA) (h:H.get 910=none):aJ Tryz.prog 100 [sv (ofL t)] H (fun r H'=>r=.clo 129 [.ref 910 0 0 0]∧H'=(910,IL t 0)::H):=by refine Bd func100 rfl ntmps100<|Sr<|Dd (by exact fQ (id:=910) rfl rfl rfl rfl h)<|Dd aS<|Zz<|Sr<|Dd (by exact eQ rfl rfl)<|Dd aS<|Zz<|aN ?_;refine a8 (H':=((910,IL t 0)::H)) (.inr rfl) rfl (aH rfl) Fin.refl ?_;exact Qq
theorem JD (t:List UInt8) (fv:AV) (Hs Hr:Nat→aA) (hl:t.length < 1000000000) (h9:∀ i,(Hs i).get 910=some (IL t i)) (h8:∀ i,(Hr i).get 910=some (IL t i)) (hn:∀ i j,aA.get ((910,IL t (i+1))::Hr i) j=(Hs (i+1)).get j)
  (hy:∀ i,i < cT t→eK Tryz.prog fv [sv (ofL (fH t i))] (Hs i) (fun r H'=>r=bv true∧H'=Hr i)) :
  aJ Tryz.prog 129 [fv,.ref 910 0 0 0] (Hs 0) (fun r H'=>r=.tup []∧H'=Hs (cT t)):=by
 refine Bd func129 rfl ntmps129<|aM ?_;refine bB (σ:=Nat) (fun i=>([(0,fv),(1,.ref 910 0 0 0)],Hs i)) (fun i=>i≤cT t) (fun i=>cT t - i) 0 (XZ _) ?_ ?_
 ·exact E0
 rintro i hi;have hsz:(ofL (t.drop (46*i))).size=t.length - 46*i:=by rw [bS,XX]
 refine Sq<|Sr<|Dd (by exact aX rfl aU rfl (h9 i) rfl rfl rfl)<|Dd (x5 aI)<|Dd y6<|Zz ?_;refine Cn ?_ ?_<;>intro hc1
 ·have hlt:46*i < t.length:=by have:=XE hc1;omega
  have hip:i < cT t:=by rw [cT];omega
  have hmin:min (46:Int) ((ofL (t.drop (46*i))).size:Int)=((fH t i).length:Int):=by rw [hsz,lX];omega
  have hple:(fH t i).length≤(ofL (t.drop (46*i))).size:=by rw [hsz,lX];omega
  have hx1:(ofL (t.drop (46*i))).extract 0 (fH t i).length=ofL (fH t i):=jE (by
   rw [eT,bA,bA,List.drop_zero,Nat.sub_zero,fH,XW,List.take_eq_take_min];simp)
  have hx2:(ofL (t.drop (46*i))).extract (fH t i).length (ofL (t.drop (46*i))).size=ofL (t.drop (46*(i+1))):=jE (by
   rw [oE,bA,bA,List.drop_drop];rw [lX];by_cases hh:46≤t.length - 46*i
   ·rw [Nat.min_eq_left hh];congr 1
   rw [Nat.min_eq_right (by omega),List.drop_eq_nil_of_le (by omega),List.drop_eq_nil_of_le (by omega)])
  refine aG<|aM<|Sr<|Dd (by exact aX rfl aU rfl (h9 i) rfl rfl rfl)<|Dd (x5 aI)<|Dd (by exact uU rfl rfl rfl hmin)<|Dd aS<|Zz<|Sq<|Sr<|Dd aE<|Dd (by exact aX rfl aU rfl (h9 i) rfl rfl rfl)<|Dd aE<|Dd (by exact cI (l:=0) (h:=(fH t i).length) rfl aI rfl rfl rfl (XZ _) hple hx1)<|Dd (by exact gD rfl rfl rfl (hy i hip))<|Dd uL<|Zz ?_;refine Cn ?_ ?_<;>intro hc2
  ·cases hc2
  refine aG<|Rg<|Dd (by exact aX rfl aU rfl (h8 i) rfl rfl rfl)<|Dd aE<|Dd (by exact cI (l:=(fH t i).length) (h:=(ofL (t.drop (46*i))).size) rfl aI rfl rfl rfl hple (XO _) hx2)<|Uu (by exact g7 rfl sizeOf9 rfl rfl rfl rfl (h8 i) rfl rfl rfl)<|Zz ?_;refine⟨i+1,by omega,by omega,?_⟩;exact bY.get' ⟨⟨_,rfl,rfl⟩,⟨_,rfl,rfl⟩,trivial⟩ (fun j=>(hn i j).symm)
 have hge:¬ 46*i < t.length:=by have:=XF hc1;omega
 have hip:i=cT t:=by rw [cT] at hi ⊢;omega
 subst hip;refine a6 ?_;exact iV (H':=Hs (cT t)) (.inl rfl) rfl Fin.refl ⟨rfl,rfl⟩
def i6 (fr:Nat) (t:List UInt8) (i:Nat):List ByteArray:=(List.range i).map fun j=>ofL (eF (fr+j) (fH t j))
theorem cY (fr:Nat) (t:List UInt8) (i:Nat):(i6 fr t i).length=i:=by rw [i6,XI,List.length_range]
theorem IX (fr:Nat) (t:List UInt8) (i:Nat):i6 fr t (i+1)=i6 fr t i++[ofL (eF (fr+i) (fH t i))]:=by rw [i6,List.range_succ,List.map_append];rfl
def iT (d:DSt) (k a cn:Nat) (t:List UInt8):Int×DSt :=if(iU d (2+a*k+cn) (i6 (2+a*k+cn) t (cT t))).1=0 then uH (iU d (2+a*k+cn) (i6 (2+a*k+cn) t (cT t))).2 a (cn+cT t)else iU d (2+a*k+cn) (i6 (2+a*k+cn) t (cT t))
theorem PD {d:DSt} {n m:Nat} (h:DInv d n m) (k a cn:Nat) (t:List UInt8) (hm:m+cT t+2≤1048576):DInv (iT d k a cn t).2 n (m+cT t+2):=by
 have h1:=jZ h (2+a*k+cn) (i6 (2+a*k+cn) t (cT t)) (by rw [cY];omega);rw [cY] at h1;rw [iT]
 split
 ·exact MK h1 _ _ (by omega)
 exact h1.mono (by omega)
theorem fG {f:FuncId} {args:List AV} {d:DSt} {k a n:Nat} {b:Bool} {l:List (ByteArray×ByteArray×Nat)} {c:Nat} {r0:AV} (h:aJ Tryz.prog f args (sH d (b7 k a n b) (bJ l c)) (fun r H'=>r=r0∧H'=sH d (b7 k a n b) (bJ l c))) (H:aA) (hs:EM H (sH d (b7 k a n b) (bJ l c))) (ha:∀ x∈args,Clo (sH d (b7 k a n b) (bJ l c)) x) :
  aJ Tryz.prog f args H (fun r H'=>r=r0∧H'=H):=h.frameS hs.sub (oR _ _ _ _ _ _ _) ha
theorem kI {α:Type} (f:α→List PV) (l:List α):((l.map f).take (0+l.length)).drop 0=l.map f:=by rw [X0,List.drop_zero];exact List.take_of_length_le (by rw [XI];exact XO _)
theorem QD {H:aA} {p:Prop} [Decidable p] {k a n a' n':Nat} {b b':Bool} (h1:(H.get 1000).isSome=true) (h2:(H.get 1101).isSome=true):∀ r∈(if p then b7 k a n b else b7 k a' n' b').rows,∀ x∈r,Clo H x:=by
 split
 ·exact bD h1 h2
 exact bD h1 h2
abbrev T1:bI:=[(0,.ref 1100 0 0 0),(4,.ref 4 0 0 0),(7,.ref 7 0 0 0),(8,.ref 8 0 0 0)]
def VB (S:List ByteArray) (K:aA):aA:=(905,⟨S.length,1,9,cJ S⟩)::(8,bx 1 31 [.osl 905 S.length 0 S.length])::K
theorem SD (S:List ByteArray) (s:ByteArray) (K:aA):VB (S++[s]) K=(905,⟨S.length+1,1,9,cJ (S++[s])⟩)::(8,bx 1 31 [.osl 905 (S.length+1) 0 (S.length+1)])::K:=by simp [VB]
theorem PC {d:DSt} {n m:Nat} (h:DInv d n m) (k a cn a2 cn2:Nat) (b:Bool) (l:List (ByteArray×ByteArray×Nat)) (c:Nat) (t:List UInt8) (ht:t.length < 100000000) (hm:m+cT t+2 < 1048576) (ha:a2 < 2) (hk:k < 4000) (hcn:cn2≤4000) :
  aJ Tryz.prog 52 [.ref 1100 0 0 0,.agg [iv (a2:Int),iv (cn2:Int)],sv (ofL t)] (sH d (b7 k a cn b) (bJ l c)) (fun r H'=>r=iv (iT d k a2 cn2 t).1∧H'=sH (iT d k a2 cn2 t).2 (if(iT d k a2 cn2 t).1=0 then b7 k a2 (cn2+cT t) b else b7 k a cn true) (bJ l c)):=by
 have hmk:a2*k≤2*4000:=Nat.mul_le_mul (by omega) (by omega);have hpl:=vS d k a cn a2 cn2 b l c (by omega) (by omega) (by omega);obtain ⟨fr,hfr⟩:∃ fr,fr=2+a2*k+cn2:=⟨_,rfl⟩;have hpn:cT t≤10000000:=by rw [cT];omega
 have hw:=lS h k a cn fr b l c (i6 fr t (cT t)) (by rw [cY];omega) (by omega);have h1:=jZ h fr (i6 fr t (cT t)) (by rw [cY];omega);rw [cY] at h1;rw [iT,← hfr];rw [← hfr] at hpl;obtain ⟨x0,hx0⟩:∃ x,x=iU d fr (i6 fr t (cT t)):=⟨_,rfl⟩;rw [← hx0] at hw h1 ⊢;clear hx0;have hset:=S6 h1 k a cn a2 (cn2+cT t) b l c (by omega) (by omega) (by omega);refine Bd func52 rfl ntmps52<|Sr<|Dd (by exact fQ (id:=4) rfl rfl rfl rfl rfl)<|Dd aS<|Zz<|Sr<|Dd aE<|Dd (dP qE)<|Dd (eA aV)<|Dd (dP lI)<|Dd (eA aV)<|Dd (by exact aB rfl rfl WT rfl (fG hpl _ ⟨rfl,rfl,rfl,rfl,rfl,rfl,trivial⟩ (by simp;rfl)))<|Dd (by exact cC (id:=7) rfl WP rfl rfl)<|Uu (pK sizeOf3)<|Zz<|Sr<|Dd (by exact cC (id:=8) rfl UJ rfl rfl)<|Zz<|Sq<|Sr<|Dd aE<|Dd (by exact aB rfl rfl call100 rfl (JC t _ rfl))<|Zz<|aM ?_;refine fV.ent (E':=[(0,.ref 1100 0 0 0),(4,.ref 4 0 0 0),(7,.ref 7 0 0 0),(8,.ref 8 0 0 0),(18,.clo 129 [.ref 910 0 0 0])]) (H':=(905,⟨0,1,9,[]⟩)::(910,IL t 0)::(8,bx 1 31 [.osl 905 0 0 0])::(7,bx 1 3 [iv (fr:Int)])::(4,bx 2 70 [iv (a2:Int),iv (cn2:Int)])::sH d (b7 k a cn b) (bJ l c)) (bY.nz 905 1 9 rfl rfl ⟨⟨_,rfl,(by exact Nz.same (by(simp;rfl)))⟩,⟨_,rfl,(by exact Nz.same (by(simp;rfl)))⟩,⟨_,rfl,(by exact Nz.same (by(simp;rfl)))⟩,⟨_,rfl,(by exact Nz.same (by(simp;rfl)))⟩,⟨_,rfl,(by exact Nz.same (by(simp;rfl)))⟩,trivial⟩ ⟨⟨_,rfl,rfl,rfl,rfl,(by exact .inl ⟨rfl,(by(simp;done))⟩)⟩,⟨_,rfl,rfl,rfl,rfl,(by exact .inr ⟨_,_,rfl,rfl,(by repeat(first|exact trivial|refine⟨(by exact Nz.own),?_⟩))⟩)⟩,⟨_,rfl,rfl,rfl,rfl,(by exact .inl ⟨rfl,(by(simp;done))⟩)⟩,⟨_,rfl,rfl,rfl,rfl,(by exact .inl ⟨rfl,(by(simp;done))⟩)⟩,⟨_,rfl,rfl,rfl,rfl,(by exact .inl ⟨rfl,(by exact aF _ _ rfl rfl rfl)⟩)⟩,⟨_,rfl,rfl,rfl,rfl,(by exact .inl ⟨rfl,(by exact aC _ _)⟩)⟩,⟨_,rfl,rfl,rfl,rfl,(by exact .inl ⟨rfl,(by exact aL _ _ _)⟩)⟩,⟨_,rfl,rfl,rfl,rfl,(by exact .inl ⟨rfl,(by exact aK _ _)⟩)⟩,⟨_,rfl,rfl,rfl,rfl,(by exact .inl ⟨rfl,(by exact bD rfl rfl)⟩)⟩,⟨_,rfl,rfl,rfl,rfl,(by exact .inl ⟨rfl,(by exact aQ _ _ _)⟩)⟩,trivial⟩ ⟨rfl,rfl,rfl,rfl,rfl,rfl,trivial⟩) ?_;obtain ⟨K,hK⟩:∃ K:aA,K=(7,bx 1 3 [iv (fr:Int)])::(4,bx 2 70 [iv (a2:Int),iv (cn2:Int)])::sH d (b7 k a cn b) (bJ l c):=⟨_,rfl⟩;have k7:K.get 7=some (bx 1 3 [iv (fr:Int)]):=by rw [hK];rfl
 have k4:K.get 944=none:=by rw [hK];rfl
 rw [← hK];refine tI (id:=944) (p:=19) T1 rfl call129 rfl k4 (by simp [T1];exact⟨rfl,rfl,rfl,rfl⟩) ?_;intro x hx1 hx2 hx3 hx4 hx5 hx6;refine((JD t (.yld 944 0) (fun i=>(944,LR x T1)::(910,IL t i)::VB (i6 fr t i) K) (fun i=>(944,LR x T1)::(910,IL t i)::VB (i6 fr t (i+1)) K) (by omega) (fun i=>rfl) (fun i=>rfl) (fun i j=>?_) ?_).congrG (fun j=>?_) (fun j=>rfl)).mono ?_
 ·exact l9 [(910,IL t (i+1)),(944,LR x T1),(910,IL t i)] [(944,LR x T1),(910,IL t (i+1))] (by repeat(first|exact trivial|refine⟨rfl,?_⟩)) j
 ·intro i hi;have hsl:(i6 fr t i).length=i:=cY fr t i;have hpal:(fH t i).length≤46:=by rw [lX];omega
  have hpos:(ofL (fH t i)).size=(fH t i).length:=bS _;have hdg:=fun H=>mC (fH t i).length 2 (by omega) (by omega) H;have e29:ofL (dg (fH t i).length 2)++ofL (fH t i)=ofL (dg (fH t i).length 2++fH t i):=rG _ _;have s29:(ofL (dg (fH t i).length 2)).size≤23:=by rw [bS];exact oI _ 2 (by omega)
  have l29:(dg (fH t i).length 2++fH t i).length≤48:=by rw [XJ,jV (m8 _ (by omega) (by omega))];omega
  have hse:=fun H=>vL (fr+i) (dg (fH t i).length 2++fH t i) (by omega) l29 H;have hpe:ofL (m5 (fr+i) (dg (fH t i).length 2++fH t i))=ofL (eF (fr+i) (fH t i)):=rfl;rw [hpe] at hse;rw [IX,SD];obtain ⟨S,hS⟩:∃ S,S=i6 fr t i:=⟨_,rfl⟩;rw [← hS] at hsl ⊢;obtain ⟨u,hu⟩:∃ u,u=fH t i:=⟨_,rfl⟩;rw [← hu] at hpal hpos hdg e29 s29 l29 hse ⊢;refine .inl ⟨944,0,rfl,?_⟩;refine zV [(0,.ref 1100 0 0 0),(4,.ref 4 0 0 0),(7,.ref 7 0 0 0),(8,.ref 8 0 0 0),(9,sv (ofL u))] ((910,IL t i)::VB S K) hx1 hx2 hx3 hx4 hx5 hx6 rfl rfl rfl ?_ ?_
  ·refine Rg<|Da ?_;exact E0
  refine aM<|bK follows<|Cs (fun _ h=>lh b5 h)<|Cs (fun H1 hH=>by exact aX rfl aV rfl ((hH _ rfl).trans k7) rfl rfl rfl)<|Cs (fun _ h=>lh b5 h)<|Cs (fun H1 hH=>by exact cV rfl aO rfl ((hH _ rfl).trans rfl) rfl)<|Cs (fun H1 hH=>by exact cF rfl rfl rfl (show IntKind.i64.wrap ((fr:Int)+(S.length:Int))=((fr+i:Nat):Int)by rw [hsl,iA (by omega) (by omega)];omega))<|Cs (fun _ _=>aE)<|Cs (fun _ _=>(x5 aI))<|Cs (fun H1 hH=>by exact aB rfl rfl xB rfl (hdg _))<|Cs (fun _ _=>aE)<|Cs (fun H1 hH=>by exact iF rfl rfl rfl (by omega) e29)<|Cs (fun H1 hH=>by exact aB rfl rfl WH rfl (hse _))<|Cs (fun H1 hH=>by exact bE [[.str (ofL (eF (fr+i) u))]] rfl bR rfl rfl rfl rfl rfl (by intro r hr;rw [XL] at hr;subst hr;rfl)) ?_;refine bU (r:=⟨_,none,[_]⟩) (DStep.plain rfl (fun H1 hH=>by exact dQ (ps:=[[.str (ofL (eF (fr+i) u))]]) rfl bR EA rfl ((hH _ rfl).trans rfl) rfl rfl rfl (eL _) rfl (by intro r hr;rw [XL] at hr;subst hr;rfl) (m:=1) rfl (by omega) rfl (j7 _ (ofL (eF (fr+i) u))))) rfl ?_;refine bU (r:=⟨_,none,[_]⟩) (DStep.plain rfl (fun H1 hH=>by exact(by exact g7 rfl nC rfl rfl rfl rfl ((hH _ rfl).trans rfl) rfl rfl rfl))) rfl ?_;refine cM<|Kr ?_;exact⟨(910,IL t i)::(905,⟨S.length+1,1,9,cJ (S++[ofL (eF (fr+i) u)])⟩)::(8,bx 1 31 [.osl 905 (S.length+1) 0 (S.length+1)])::K,bY.get' trivial (fun j=>l9 [_,_,_,_] [_,_,_,_,_,_] (by repeat(first|exact trivial|refine⟨rfl,?_⟩)) j),rfl,rfl⟩
 ·exact l9 [_,_,_,_] [_,_,_,_] (by repeat(first|exact trivial|refine⟨rfl,?_⟩)) j
 rintro r H' ⟨rfl,rfl⟩;refine⟨x,_,rfl,by rw [hx1];decide,rfl,fun z=>?_⟩;rw [hx2];have hSl:(i6 fr t (cT t)).length=cT t:=cY _ _ _;obtain ⟨S,hS⟩:∃ S,S=i6 fr t (cT t):=⟨_,rfl⟩;rw [← hS] at hSl hw;rw [← hS];have hSm:((S.map encStr).length:Int)=(cT t:Int):=by rw [XI,hSl]
 subst hK;refine Sq<|Sq ?_;refine fV.ent (bY.fzG (id:=905) (E':=T1) (H':=(8,bx 1 31 [.pv (aW S)])::(7,bx 1 3 [iv (fr:Int)])::(4,bx 2 70 [iv (a2:Int),iv (cn2:Int)])::sH d (b7 k a cn b) (bJ l c)) (S.map encStr) rfl (iX _) ?_ rfl ?_ ?_) ?_
 ·intro p hp;simp only [XU,XY,or_false] at hp;rcases hp with rfl|rfl|rfl|rfl<;>exact⟨_,rfl,.same (by simp;rfl)⟩
 ·exact⟨⟨_,rfl,rfl,rfl,rfl,RL rfl (u5 (.osl (kI encStr _)) FV)⟩,⟨_,rfl,rfl,rfl,rfl,cB (by simp)⟩,⟨_,rfl,rfl,rfl,rfl,cB (by simp)⟩,⟨_,rfl,rfl,rfl,rfl,cB (aF _ _ rfl rfl rfl)⟩,⟨_,rfl,rfl,rfl,rfl,cB (aC _ _)⟩,⟨_,rfl,rfl,rfl,rfl,cB (aL _ _ _)⟩,⟨_,rfl,rfl,rfl,rfl,cB (aK _ _)⟩,⟨_,rfl,rfl,rfl,rfl,cB (bD rfl rfl)⟩,⟨_,rfl,rfl,rfl,rfl,cB (aQ _ _ _)⟩,trivial⟩
 ·exact⟨rfl,rfl,rfl,rfl,rfl,rfl,trivial⟩
 refine Rg<|Dd aE<|Dd (eA aV)<|Dd (eA b5)<|Dd (by exact aB rfl rfl nJ rfl (fW hw _ ⟨rfl,rfl,rfl,rfl,rfl,rfl,trivial⟩ (by simp;rfl)))<|Dd aS<|Zz<|Sr<|Dd aE<|Dd pD<|Zz ?_;refine Cn ?_ ?_<;>intro hc1
 ·have he:¬ x0.1=0:=by have h:=hc1;simpa using h
  have hb:(b||!decide (x0.1=0))=true:=by rw [decide_eq_false he];cases b<;>rfl
  rw [XG he,XG he,hb];refine Sr<|Dd aE<|Dd aS<|Zz<|aN ?_;refine a8 (H':=(sH x0.2 (b7 k a cn true) (bJ l c))) (.inr rfl) rfl (aH rfl) (Fin.wk (by(simp;done)) (Hc (aF _ _ rfl rfl rfl)<|Hc (aC _ _)<|Hc (aL _ _ _)<|Hc (aK _ _)<|Hc (bD rfl rfl)<|Hc (aQ _ _ _)<|trivial) ⟨rfl,rfl,rfl,rfl,rfl,rfl,trivial⟩) ?_;exact Qq
 have he:x0.1=0:=by have h:=hc1;simpa using h
 have hb:(b||!decide (x0.1=0))=b:=by rw [he];cases b<;>rfl
 rw [XH he,hb];obtain ⟨y,hy⟩:∃ y,y=uH x0.2 a2 (cn2+cT t):=⟨_,rfl⟩;rw [← hy] at hset ⊢;refine aG<|Sr<|Dd (dP lI)<|Dd (eA aV)<|Dd (eA b5)<|Dd (j2 aO)<|Dd (by exact cF rfl rfl rfl (show IntKind.i64.wrap ((cn2:Int)+((S.map encStr).length:Int))=((cn2+cT t:Nat):Int)by rw [hSm,iA (by omega) (by omega)];omega))<|Dd (dP lI)<|Uu (by exact cX rfl sizeOf3 rfl rfl rfl rfl rfl rfl (by simp only [XK,List.length_nil];omega) (by simp only [Zl,encStr];rfl) (by simp only [Zl,encStr];rfl))<|Zz<|Sr<|Dd aE<|Dd (Q5 cQ sizeOf70)<|Dd (by exact aB rfl rfl call103 rfl (fW hset _ ⟨rfl,rfl,rfl,rfl,rfl,rfl,trivial⟩ (by simp;rfl)))<|Dd aS<|Zz<|aN ?_;refine a8 (H':=(sH y.2 (if y.1=0 then b7 k a2 (cn2+cT t) b else b7 k a cn true) (bJ l c))) (.inr rfl) rfl (aH rfl) (Fin.wk (by(simp;done)) (Hc (aF _ _ rfl rfl rfl)<|Hc (aC _ _)<|Hc (aL _ _ _)<|Hc (aK _ _)<|Hc (QD rfl rfl)<|Hc (aQ _ _ _)<|trivial) ⟨rfl,rfl,rfl,rfl,rfl,rfl,trivial⟩) ?_;exact Qq
end Go.Proofs.YtmkgeogoojcciaaGreatDoor
namespace Go.Proofs.YtmkgeogoojcciaaGreatDoor
open Go.Proofs.Tryz
open Go.Abs
abbrev VM:ByteArray:=⟨#[58]⟩
theorem ET (s:ByteArray) (H:aA):aJ Tryz.prog 171 [sv s,sv VM] H (fun r H'=>r=iv (Lib.indexByte s.data.toList 58)∧H'=H):=by
 refine Pu ?_;refine Bd func171 rfl ntmps171<|Sr<|Dd aS<|Zz<|Sr<|Dd aE<|Dd (x5 aI)<|Dd aS<|Zz<|Sq<|aM<|Sq ?_;refine dA (t:=16) (n:=9) (X:=decide (VM=s)) ?_ ?_
 ·all_goals refine Dd aE ?_
  all_goals refine Dd hU<|Dm ?_
  all_goals refine Sp 19 (fun h19=>?_) fun h19=>?_
  all_goals try contradiction
  all_goals refine On aE<|On aE<|On S8<|Dd gO<|Da ?_
  all_goals(exact⟨⟨_,rfl,by rfl⟩,rfl,rfl,rfl⟩)
 refine Cn ?_ ?_<;>intro hc1
 ·have hs:=XE hc1;subst hs;exact Sr<|Dd aS<|Zz<|aN<|Rt<|Qq
 refine Sr<|Dd aE<|Dd hU<|Da ?_;refine Cn ?_ ?_<;>intro hc2
 ·exact Sr<|Dd aE<|Dd aE<|Dd (by exact xV rfl aI rfl rfl (by omega) (by exact XT _) (show 0 < (⟨#[58]⟩:ByteArray).size from Nat.zero_lt_one) rfl)<|Dd (by exact aB rfl rfl call186 rfl (xM s 58 _))<|Dd aS<|Zz<|aN<|Rt<|Qq
 cases hc2
def DP (s:ByteArray):AV:=if Lib.indexByte s.data.toList 58 = -1 then .tup [sv s,sv ⟨#[]⟩,bv false] else .tup [sv (s.extract 0 (Lib.indexByte s.data.toList 58).toNat),sv (s.extract ((Lib.indexByte s.data.toList 58).toNat+1) s.size),bv true]
theorem MG (s:ByteArray) (H:aA) (hs:s.size < 1099511627776):aJ Tryz.prog 144 [sv s,sv VM] H (fun r H'=>r=DP s∧H'=H):=by
 refine Pu ?_;have hI:=fun H=>ET s H;rw [DP];rcases Classical.em (Lib.indexByte s.data.toList 58 = -1)with h1|h1
 ·rw [XH h1];simp only [h1] at hI;refine Bd func144 rfl ntmps144<|Sr<|Dd aS<|Dd aS<|Dd aS<|Zz<|Sq<|Sr<|Dd aE<|Dd aE<|Dd (by exact aB rfl rfl call171 rfl (hI _))<|Dd aS<|Zz<|Sr<|Dd aE<|Dd RK<|Zz ?_;refine Cn ?_ ?_<;>intro hc1
  ·cases hc1
  refine aG<|Sr<|Dd aE<|Dd aS<|Dd aS<|Dd aS<|Zz<|aN ?_;refine IA (H':=[]) (.inr rfl) rfl (aH rfl) (aH rfl) (aH rfl) (Fin.wk (by simp) trivial trivial) ?_;exact Qq
 rw [XG h1];obtain ⟨w,r,e1,e2,e3⟩:=wJ h1;simp only [e3] at hI;rw [e3,XT];have hl:w.length+1+r.length=s.size:=by rw [← show s.data.toList.length=s.size by simp,e1,XJ,XK];omega
 refine Bd func144 rfl ntmps144<|Sr<|Dd aS<|Dd aS<|Dd aS<|Zz<|Sq<|Sr<|Dd aE<|Dd aE<|Dd (by exact aB rfl rfl call171 rfl (hI _))<|Dd aS<|Zz<|Sr<|Dd aE<|Dd RK<|Zz ?_;refine Cn ?_ ?_<;>intro hc1
 ·refine Sq<|bK follows<|Cq aE<|Cq aE<|Cq (by exact cI (l:=0) (h:=(w.length)) rfl aI rfl rfl rfl (by omega) (by omega) rfl)<|Cq aE<|Cq aE<|Cq aE<|Cq (x5 aI)<|Cq (by exact cF rfl rfl rfl (show IntKind.i64.wrap ((w.length:Int)+1)=((w.length+1:Nat):Int)by rw [IntKind.wrap_i64];omega))<|Cq (by exact cI (l:=(w.length+1)) (h:=s.size) rfl aI rfl rfl rfl (by omega) (by omega) rfl)<|Cq aS<|Cq aS<|Cq aS<|cM<|Kr<|aN ?_;refine IA (H':=[]) (.inr rfl) rfl (aH rfl) (aH rfl) (aH rfl) (Fin.wk (by simp) trivial trivial) ?_;exact Qq
 have hx:=XF hc1;omega
theorem TR (s:ByteArray) (H:aA) (hs:s.size < 1099511627776):aJ Tryz.prog 117 [sv s,sv VM] H (fun r H'=>r=DP s∧H'=H):=by
 refine Pu ?_;have hC:=fun H=>MG s H hs;rw [DP] at *;rcases Classical.em (Lib.indexByte s.data.toList 58 = -1)with h1|h1
 ·simp only [DP,XH h1] at hC ⊢;refine Bd func117 rfl ntmps117<|Sr<|Dd aS<|Dd aS<|Dd aS<|Zz<|Sr<|Dd aE<|Dd aE<|Dd (by exact aB rfl rfl call144 rfl (hC _))<|Dd eB<|Dd eB<|Dd eB<|Dd aS<|Dd aS<|Dd aS<|Zz<|aN ?_;refine IA (H':=[]) (.inr rfl) rfl (aH rfl) (aH rfl) (aH rfl) (Fin.wk (by simp) trivial trivial) ?_;exact Qq
 simp only [DP,XG h1] at hC ⊢;refine Bd func117 rfl ntmps117<|Sr<|Dd aS<|Dd aS<|Dd aS<|Zz<|Sr<|Dd aE<|Dd aE<|Dd (by exact aB rfl rfl call144 rfl (hC _))<|Dd eB<|Dd eB<|Dd eB<|Dd aS<|Dd aS<|Dd aS<|Zz<|aN ?_;refine IA (H':=[]) (.inr rfl) rfl (aH rfl) (aH rfl) (aH rfl) (Fin.wk (by simp) trivial trivial) ?_;exact Qq
theorem kC (l:List ByteArray) (H:aA) (hl:(aR l).length < 35184372088832):aJ Tryz.prog 99 [.pv (aW l)] H (fun r H'=>r=sv (ofL (aR l))∧H'=H):=by
 refine Pu ?_;have hml:(l.map encStr).length=l.length:=XI _;have hll:=oA l;refine Bd func99 rfl ntmps99<|Sr<|Dd aS<|Zz<|Sr<|Dd (by exact cC (id:=2001) rfl LL rfl rfl)<|Zz<|Sq<|Sq ?_;refine fV.ent (E':=[(0,.pv (aW l)),(3,.ref 2001 0 0 0)]) (H':=EB 0 [] false) (bY.bld0 ⟨⟨_,rfl,.same (by simp)⟩,⟨_,rfl,.same (by simp;rfl)⟩,trivial⟩) ?_;refine Rg<|Dd aE<|Dd (j2 aO)<|Dd aE<|Zz<|aM ?_;refine tJ (fun(k g:Nat) (u:Bool)=>([(3,.ref 2001 0 0 0),(6,.pv (aW l)),(7,iv ((l.map encStr).length:Int)),(8,iv (k:Int))],EB g (aR (l.take k)) u)) (fun k g u=>k≤l.length) (fun k g u=>l.length - k) 0 0 false (XZ _) ?_ ?_
 ·exact(bY.wk (Ea<|Eb<|Eb<|Eb<|trivial) (Hc (mE rfl rfl)<|Hc (pB _ _)<|trivial) trivial)
 intro k g u hk;have hle:=wH l k;refine Sr<|Dd dG<|Zz<|Sq ?_;refine Cn ?_ ?_<;>intro hc1
 ·have hlt:k < l.length:=by have:=XE hc1;omega
  obtain ⟨s,hs⟩:=aY hlt;have hi:=cG (f:=encStr) hs;have hle2:=wH l (k+1);rw [cR hs,rJ,XJ,nO,kX] at hle2;have hsz:s.size < 35184372088832:=by omega
  refine aG<|Sq<|aM<|Sr<|Dd (B1 bR)<|Dd (kL aU)<|Dd aS<|Zz<|Rg<|Dd aE<|Dd (x5 aI)<|Dd (by exact aB rfl rfl nI rfl (mQ (s.size:Int) (by omega) (by omega) _))<|Dd (by exact iF rfl rfl rfl (by have:(⟨#[58]⟩:ByteArray).size=1:=rfl;omega) rfl)<|Dd aE<|Dd (by exact iF rfl rfl rfl (by rw [ByteArray.size_append];have:(⟨#[58]⟩:ByteArray).size=1:=rfl;omega) rfl)<|Dd (by exact aB rfl rfl call86 rfl (pG g (aR (l.take k)) u (mK s) (by rw [kX];omega)))<|Zz<|Rg<|Dd kU<|Dd aE<|Zz ?_;refine⟨k+1,g+1,true,by omega,by omega,?_⟩;rw [cR hs,rJ];exact(bY.wk (Ea<|Eb<|Eb<|Eb<|trivial) (Hc (mE rfl rfl)<|Hc (pB _ _)<|trivial) trivial)
 have hge:k=l.length:=by have:=XF hc1;omega
 subst hge;rw [List.take_length];exact a6<|Sr<|Dd (by exact aB rfl rfl call88 rfl (SH g (aR l) u (by omega)))<|Dd aS<|Zz<|aN<|Rt<|Qq
def u9 (l:List UInt8):List UInt8:=l.takeWhile fun b=>!decide (b=58)
def uC (l:List UInt8):List UInt8:=(l.dropWhile fun b=>!decide (b=58)).drop 1
def pP (l:List UInt8):Bool:=(((!decide ((58:UInt8)∈l)||gI (ofL (u9 l)))||decide (cW (ofL (u9 l)) < 0))||decide (((uC l).length:Int) < cW (ofL (u9 l))))||!decide (dD (cW (ofL (u9 l)))=ofL (u9 l))
def HV (l:List UInt8):Nat:=(cW (ofL (u9 l))).toNat
def eU:Nat→List UInt8→List ByteArray→List ByteArray×Bool
 | 0,l,acc=>(acc,true)
 | n+1,l,acc=>if l=[] then(acc,true)else if pP l then([],false)else eU n ((uC l).drop (HV l)) (acc++[ofL ((uC l).take (HV l))])
def dX (l:List UInt8):List ByteArray×Bool:=eU l.length l []
theorem BO {l:List UInt8} (h:l≠[]):(uC l).length < l.length:=by rw [uC,XX];have:=(List.dropWhile_sublist (l:=l) fun b=>!decide (b=58)).length_le;have:=List.length_pos_iff.2 h;omega
theorem vG:∀ (n m:Nat) (l:List UInt8) (acc:List ByteArray),l.length≤n→l.length≤m→eU n l acc=eU m l acc
 | 0,m,l,acc,h,_=>by
  rw [List.length_eq_zero_iff.1 (Nat.le_zero.1 h)];cases m<;>rfl
 | n+1,0,l,acc,_,h=>by
  rw [List.length_eq_zero_iff.1 (Nat.le_zero.1 h)];rfl
 | n+1,m+1,l,acc,hn,hm=>by
  rw [eU,eU];by_cases h0:l=[]
  ·rw [XH h0,XH h0]
  rw [XG h0,XG h0];have hlt:=BO h0;by_cases hb:pP l=true
  ·rw [XH hb,XH hb]
  rw [XG hb,XG hb];exact vG n m _ _ (by rw [XX];omega) (by rw [XX];omega)
theorem tT {l:List UInt8} {acc:List ByteArray} (h0:l≠[]) (hb:pP l=false):eU l.length l acc=eU ((uC l).drop (HV l)).length ((uC l).drop (HV l)) (acc++[ofL ((uC l).take (HV l))]):=by have hlt:=BO h0;obtain ⟨k,hk⟩:∃ k,l.length=k+1:=⟨l.length - 1,by omega⟩;rw [hk,eU,XG h0,XG (by rw [hb];decide)];exact vG _ _ _ _ (by rw [XX];omega) (XO _)
theorem EO {l:List UInt8} {acc:List ByteArray} (h0:l≠[]) (hb:pP l=true):eU l.length l acc=([],false):=by have hlt:=BO h0;obtain ⟨k,hk⟩:∃ k,l.length=k+1:=⟨l.length - 1,by omega⟩;rw [hk,eU,XG h0,XH hb]
theorem OH {w r:List UInt8} (h:(58:UInt8)∉w):u9 (w++58::r)=w∧uC (w++58::r)=r:=by
 induction w with
 | nil=>exact⟨rfl,rfl⟩
 | cons b w ih =>
  have hb:b≠58:=fun e=>h (by rw [e];exact List.mem_cons_self);obtain ⟨h1,h2⟩:=ih (fun e=>h (List.mem_cons_of_mem _ e));rw [u9] at h1 ⊢;rw [uC] at h2 ⊢;rw [List.cons_append,List.takeWhile_cons,List.dropWhile_cons,XH (by simp [hb]),XH (by simp [hb]),h1];exact⟨rfl,h2⟩
theorem OG:∀ {l:List UInt8},(58:UInt8)∉l→u9 l=l∧uC l=[]
 | [],_=>⟨rfl,rfl⟩
 | b::l,h=>by
  have hb:b≠58:=fun e=>h (by rw [e];exact List.mem_cons_self);obtain ⟨h1,h2⟩:=OG (l:=l) (fun e=>h (List.mem_cons_of_mem _ e));rw [u9] at h1 ⊢;rw [uC] at h2 ⊢;rw [List.takeWhile_cons,List.dropWhile_cons,XH (by simp [hb]),XH (by simp [hb]),h1];exact⟨rfl,h2⟩
theorem RV (l:List UInt8):DP (ofL l)=.tup [sv (ofL (u9 l)),sv (ofL (uC l)),bv (decide ((58:UInt8)∈l))]:=by
 rw [DP,bA];by_cases h:Lib.indexByte l 58 = -1
 ·rw [XH h];have hm:=wI.1 h;rw [(OG hm).1,(OG hm).2,decide_eq_false hm];rfl
 rw [XG h];obtain ⟨w,r,e1,e2,e3⟩:=wJ h;rw [e3,XT];subst e1;rw [(OH e2).1,(OH e2).2,decide_eq_true (by simp)];have x1:(ofL (w++58::r)).extract 0 w.length=ofL w:=jE (by rw [eT,bA,bA,List.drop_zero,Nat.sub_zero,List.take_left]);have x2:(ofL (w++58::r)).extract (w.length+1) (ofL (w++58::r)).size=ofL r:=jE (by
  rw [oE,bA,bA,← List.drop_drop,List.drop_left];rfl)
 rw [x1,x2]
theorem K4 (s:ByteArray) : -9223372036854775808≤cW s∧cW s≤9223372036854775807:=by
 rw [cW,oM];cases e:Lib.atoiAll s.data.toList with
 | ok v=>exact Lib.atoiAll_bounds e
 | range =>
  show _≤Lib.atoiSat _∧Lib.atoiSat _≤_;rw [Lib.atoiSat]
  split
  ·exact⟨by decide,by decide⟩
  exact⟨by decide,by decide⟩
 | _ =>
  show (-9223372036854775808:Int)≤0∧(0:Int)≤9223372036854775807;exact⟨by decide,by decide⟩
theorem Fin.st2 {H1:aA} {id g n:Nat} {ob:Ob} (l:List ByteArray) (v:AV) (hH:H1.get id=some ob) (hg:ob.g=g) (hps:ob.rows=cJ l) (hn:n=l.length) (hv:Clo [] v) :
  Fin [] H1 (.tup [.osl id g 0 n,v]) [] (.tup [.pv (aW l),v]):=by
 subst hg hn;exact Fin.fz (id:=id) (ob:=ob) (l.map encStr) hH (hps.trans (iX l)) (.tup rfl (u5 (.osl (kI encStr l)) (u5 (.same hv) FV))) rfl trivial trivial
theorem F7 (l:List UInt8):(u9 l).length≤l.length∧(uC l).length≤l.length:=by
 constructor
 ·exact(List.takeWhile_sublist _).length_le
 rw [uC,XX];have:=(List.dropWhile_sublist (l:=l) fun b=>!decide (b=58)).length_le;omega
theorem CF (t:List UInt8) (H:aA) (ht:t.length < 1000000000):aJ Tryz.prog 87 [sv (ofL t)] H (fun r H'=>r=.tup [.pv (aW (dX t).1),bv (dX t).2]∧H'=H):=by
 refine Pu ?_;refine Bd func87 rfl ntmps87<|Sr<|Dd aS<|Dd aS<|Zz<|Sr<|Dd (by exact iH (id:=905) (sz:=1) (ty:=9) rfl rfl rfl)<|Zz<|Sq<|aM ?_;refine tL (fun(l:List UInt8) (A:List ByteArray)=>([(0,sv (ofL l)),(4,.osl 905 A.length 0 A.length)],[(905,⟨A.length,1,9,cJ A⟩)])) (fun l A=>l.length+A.length≤t.length∧dX t=eU l.length l A) (fun l A=>l.length) t [] ⟨XO _,rfl⟩ ?_ ?_
 ·exact(bY.wk (Eb<|Ea<|trivial) (Hc (eY _ _)<|trivial) trivial)
 rintro l A ⟨hl,hR⟩;have hls:(ofL l).size=l.length:=bS l;have hcl:=F7 l;have hcut:=fun H=>TR (ofL l) H (by omega);rw [RV] at hcut;have hat:=fun H=>vB (ofL (u9 l)) (by rw [bS];omega) H;have hbd:=K4 (ofL (u9 l));have hit:=fun H=>mQ (cW (ofL (u9 l))) hbd.1 hbd.2 H;have hrs:(ofL (uC l)).size=(uC l).length:=bS _;have hbad:pP l=((((!decide ((58:UInt8)∈l)||gI (ofL (u9 l)))||decide (cW (ofL (u9 l)) < 0))||decide (((uC l).length:Int) < cW (ofL (u9 l))))||!decide (dD (cW (ofL (u9 l)))=ofL (u9 l))):=rfl;have hN:HV l=(cW (ofL (u9 l))).toNat:=rfl;obtain ⟨x,hx⟩:∃ x,x=ofL (u9 l):=⟨_,rfl⟩;obtain ⟨v,hv⟩:∃ v,v=cW (ofL (u9 l)):=⟨_,rfl⟩;obtain ⟨e,he⟩:∃ e,e=gI (ofL (u9 l)):=⟨_,rfl⟩;obtain ⟨o,ho⟩:∃ o,o=decide ((58:UInt8)∈l):=⟨_,rfl⟩;obtain ⟨r,hr⟩:∃ r,r=uC l:=⟨_,rfl⟩;obtain ⟨iv',hiv⟩:∃ y,y=dD v:=⟨_,rfl⟩;simp only [← hv,← he,← ho,← hr] at hcut hat hit hbad hN hbd hrs hcl;simp only [← hx,← hiv] at hcut hat hit hbad;have hlt:=fun h0=>BO (l:=l) h0;have hst:=fun(h0:l≠[]) hb=>tT (acc:=A) h0 hb;have hbb:=fun(h0:l≠[]) hb=>EO (acc:=A) h0 hb;rw [← hr] at hlt;simp only [← hr] at hst;clear hx hv he ho hr hiv;refine Sq<|Sr<|Dd aE<|Dd (x5 aI)<|Dd y6<|Zz ?_;refine Cn ?_ ?_<;>intro hc1
 ·have h0:l≠[]:=fun e=>by have h:=XE hc1;rw [hls,e] at h;exact absurd h (by decide)
  refine aG<|aM<|Sr<|Dd aE<|Dd (by exact aB rfl rfl call117 rfl (hcut _))<|Dd aE<|Dd eB<|Dd eB<|Dd eB<|Dd aS<|Dd aS<|Dd aS<|Zz<|Sr<|Dd aE<|Dd (by exact aB rfl rfl PY rfl (hat _))<|Dd aE<|Dd eB<|Dd eB<|Dd aS<|Dd aS<|Zz<|Sq<|Sq ?_;refine dA (t:=45) (n:=26) (X:=pP l) ?_ ?_
  ·all_goals refine Dd aE ?_
   all_goals refine Dd uL<|Dm ?_
   all_goals refine Sp 26 (fun h26=>?_) fun h26=>?_
   all_goals(try(with_reducible contradiction))
   all_goals first|refine Fo<|Fo ?_|refine On aE<|On (by exact rA rfl g4 rfl) ?_
   all_goals refine Dd gO<|Dm ?_
   all_goals refine Sp 30 (fun h30=>?_) fun h30=>?_
   all_goals(try(with_reducible contradiction))
   all_goals first|refine Fo<|Fo ?_|refine On aE<|On dG ?_
   all_goals refine Dd gO<|Dm ?_
   all_goals refine Sp 34 (fun h34=>?_) fun h34=>?_
   all_goals(try(with_reducible contradiction))
   all_goals first|refine Fo<|Fo<|Fo<|Fo ?_|refine On aE<|On aE<|On (x5 aI)<|On y6 ?_
   all_goals refine Dd gO<|Dm ?_
   all_goals refine Sp 40 (fun h40=>?_) fun h40=>?_
   all_goals(try(with_reducible contradiction))
   all_goals first|refine Fo<|Fo<|Fo<|Fo ?_|refine On aE<|On (by exact aB rfl rfl nI rfl (hit _))<|On aE<|On MD ?_
   all_goals refine Dd gO<|Zz ?_
   all_goals(exact⟨⟨_,rfl,by rw [hbad];first|(rw [h26];rfl)|(rw [h26,h30];rfl)|(rw [h26,h30,h34,← hrs];rfl)|(rw [h26,h30,h34,← hrs,h40];rfl)⟩,rfl,rfl,rfl⟩)
  refine Cn ?_ ?_<;>intro hc2
  ·have hb:pP l=true:=hc2;rw [hR,hbb h0 hb];refine Sr<|Dd aS<|Dd aS<|Zz<|aN ?_;refine fR (H':=[]) (.inr rfl) rfl (aH rfl) (aH rfl) (Fin.wk (r:=.tup [.pv (aW []),bv false]) (by simp) trivial trivial) ?_;exact Qq
  have hb:pP l=false:=hc2;have hs:=hst h0 hb;have hlt2:=hlt h0;have hb2:=hbad.symm.trans hb;simp only [X4,XQ] at hb2;obtain ⟨u,rfl⟩:∃ u:Nat,v=(u:Int):=⟨v.toNat,by omega⟩;rw [XT] at hN;rw [hN] at hs;have hur:u≤r.length:=by omega
  have x1:(ofL r).extract 0 u=ofL (r.take u):=jE (by rw [eT,bA,bA,List.drop_zero,Nat.sub_zero]);have x2:(ofL r).extract u (ofL r).size=ofL (r.drop u):=jE (by rw [oE,bA,bA]);have hnl:(A++[ofL (r.take u)]).length=A.length+1:=by rw [XJ];rfl
  refine aG<|bK follows<|Cr [905] (fun _ _=>aE)<|Cr [] (fun _ _=>aE)<|Cr [] (fun _ _=>aE)<|Cr [] (fun H1 hH=>by exact cI (l:=0) (h:=u) rfl aI rfl rfl rfl (XZ _) (by omega) x1)<|Cr [] (fun H1 hH=>by exact bE [[.str (ofL (r.take u))]] rfl bR rfl rfl rfl rfl rfl (by intro r hr;rw [XL] at hr;subst hr;rfl))<|Cp [905] (fun H1 hH=>by exact dQ (ps:=[[.str (ofL (r.take u))]]) rfl bR EA rfl ((hH _ rfl).trans rfl) rfl rfl rfl (eL _) rfl (by intro r hr;rw [XL] at hr;subst hr;rfl) (m:=1) rfl (by omega) rfl (j7 _ (ofL (r.take u))))<|Cr [] (fun _ _=>aE)<|Cr [] (fun _ _=>aE)<|Cr [] (fun H1 hH=>by exact cI (l:=u) (h:=(ofL r).size) rfl aI rfl rfl rfl (by omega) (XO _) x2)<|Cr [905] (fun _ _=>aS)<|Cr [] (fun _ _=>aS)<|cM<|Kr ?_;refine⟨r.drop u,A++[ofL (r.take u)],⟨by rw [XX,hnl];omega,hR.trans hs⟩,by rw [XX];omega,?_⟩;dsimp only;rw [hnl];exact(bY.wk (Eb<|Ea<|trivial) (Hc (eY _ _)<|trivial) trivial)
 have h0:l=[]:=List.length_eq_zero_iff.1 (by have:=XF hc1;omega);rw [hR,h0];refine a6<|Sr<|Dd aE<|Dd aS<|Dd aS<|Zz<|aN ?_;refine fR (H':=[]) (.inr rfl) rfl (aH rfl) (aH rfl) (Fin.st2 A (bv true) rfl rfl rfl rfl (by simp)) ?_;exact Qq
def xC (F:FuncId) (caps:List AV) (PR:List ByteArray→Prop) (K:aA):Prop :=∀ (yv:AV) (Hs:List ByteArray→aA),(∀ M,Sub K (Hs M))→(∀ M,(Hs M).get 946=none)→(∀ M,bF (Hs M))→(∀ M,Clo (Hs M) yv) →
  (∀ M x,M.length < 1099511627776→eK Tryz.prog yv [sv x] (Hs M) (fun r H'=>r=bv true∧H'=Hs (M++[x]))) →
  (∀ o M x,M.length < 1099511627776→eK Tryz.prog yv [sv x] ((946,o)::Hs M) (fun r H'=>r=bv true∧H'=(946,o)::Hs (M++[x]))) →
  aJ Tryz.prog F (yv::caps) (Hs []) (fun r H'=>r=.tup []∧∃ M,PR M∧H'=Hs M)
def PQ:bI:=[(2,.ref 942 0 0 0)]
def P2 (M:List ByteArray) (K:aA):aA:=(945,⟨M.length,1,9,cJ M⟩)::(942,bx 1 31 [.osl 945 M.length 0 M.length])::K
theorem GK (M:List ByteArray) (s:ByteArray) (K:aA):P2 (M++[s]) K=(945,⟨M.length+1,1,9,cJ (M++[s])⟩)::(942,bx 1 31 [.osl 945 (M.length+1) 0 (M.length+1)])::K:=by simp [P2]
theorem EE {M:List ByteArray} {K:aA} {x:Go.Loop} (h:bF K):bF ((944,LR x PQ)::P2 M K):=by refine bF.app (D:=[(944,LR x PQ),(945,⟨M.length,1,9,cJ M⟩),(942,bx 1 31 [.osl 945 M.length 0 M.length])]) ?_ h;refine j6.spec ⟨PM (by simp [PQ];rfl),eY _ _,?_,trivial⟩;intro r hr a ha;simp only [bx,XL] at hr;subst hr;rw [XL] at ha;subst ha;exact .osl rfl
theorem GD {F:FuncId} {caps:List AV} {PR:List ByteArray→Prop} (hE:∀ (args:Array Value) (w:World),(callFunc F args).run Tryz.prog w=.ok (.enter F args) w) (K:aA) (hS:xC F caps PR K) (k2:K.get 942=none) (k4:K.get 944=none) (k5:K.get 945=none) (k6:K.get 946=none) (hc:bF K) (hcap:Clo K (.clo F caps)) :
  aJ Tryz.prog 125 [.pv .nils,.clo F caps] K (fun r H'=>∃ M,PR M∧r=.osl 945 M.length 0 M.length∧H'=(945,⟨M.length,1,9,cJ M⟩)::K):=by
 have k2':aA.get ((945,⟨0,1,9,[]⟩)::K) 942=none:=k2;refine Bd func125 rfl ntmps125 ?_;refine OV (t:=0) (id:=945) (sz:=1) (ty:=9) rfl k5 rfl ?_;refine KV (t:=0) rfl rfl rfl (XO _) ?_;refine Sr<|Dd (by exact fQ (id:=942) rfl rfl rfl rfl k2')<|Dd aS<|Zz<|Sq<|Sr<|Dd aE<|Zz<|aM ?_;refine fV.ent (E':=[(2,.ref 942 0 0 0),(6,.clo F caps)]) (H':=P2 [] K) (bY.get' ⟨⟨_,rfl,rfl⟩,⟨_,rfl,rfl⟩,trivial⟩ (fun j=>rR (by decide) j)) ?_;refine tI (id:=944) (p:=7) PQ rfl hE rfl k4 (by simp [PQ];rfl) ?_;intro x hx1 hx2 hx3 hx4 hx5 hx6;refine(hS (.yld 944 0) (fun M=>(944,LR x PQ)::P2 M K) (fun M=>?_) (fun M=>k6) (fun M=>EE hc) (fun M=>by simp;rfl) ?_ ?_).mono ?_
 ·refine Sub.app (D:=[(944,LR x PQ),(945,⟨M.length,1,9,cJ M⟩),(942,bx 1 31 [.osl 945 M.length 0 M.length])]) ?_;intro p hp;simp only [XU,XY,or_false] at hp;rcases hp with rfl|rfl|rfl
  ·exact k4
  ·exact k5
  exact k2
 ·intro M s hM;refine .inl ⟨944,0,rfl,?_⟩;rw [GK];refine zV [(2,.ref 942 0 0 0),(5,sv s)] (P2 M K) hx1 hx2 hx3 hx4 hx5 hx6 rfl rfl rfl ?_ ?_
  ·refine Rg<|Da ?_;exact E0
  refine aM<|Rg<|Dd (eA b5)<|Dd aE<|Dd (by exact bE [[.str s]] rfl bR rfl rfl rfl rfl rfl (by intro r hr;rw [XL] at hr;subst hr;rfl))<|Dd (by exact dQ (ps:=[[.str s]]) rfl bR EA rfl rfl rfl rfl rfl (eL _) rfl (by intro r hr;rw [XL] at hr;subst hr;rfl) (m:=1) rfl (by omega) rfl (j7 _ s))<|Uu (pK nC)<|Zz ?_;exact⟨(945,⟨M.length+1,1,9,cJ (M++[s])⟩)::(942,bx 1 31 [.osl 945 (M.length+1) 0 (M.length+1)])::K,bY.get' trivial (fun j=>l9 [_,_,_] [_,_,_,_,_] (by repeat(first|exact trivial|refine⟨rfl,?_⟩)) j),rfl,rfl⟩
 ·intro o M s hM;refine eK.congrG (H1:=(944,LR x PQ)::(946,o)::P2 M K) (K1:=(944,LR x PQ)::(946,o)::P2 (M++[s]) K) (.inl ⟨944,0,rfl,?_⟩) (fun j=>rR (by decide) j) (fun j=>rR (by decide) j);rw [GK];refine zV [(2,.ref 942 0 0 0),(5,sv s)] ((946,o)::P2 M K) hx1 hx2 hx3 hx4 hx5 hx6 rfl rfl rfl ?_ ?_
  ·refine Rg<|Da ?_;exact E0
  refine aM<|Rg<|Dd (eA b5)<|Dd aE<|Dd (by exact bE [[.str s]] rfl bR rfl rfl rfl rfl rfl (by intro r hr;rw [XL] at hr;subst hr;rfl))<|Dd (by exact dQ (ps:=[[.str s]]) rfl bR EA rfl rfl rfl rfl rfl (eL _) rfl (by intro r hr;rw [XL] at hr;subst hr;rfl) (m:=1) rfl (by omega) rfl (j7 _ s))<|Uu (pK nC)<|Zz ?_;exact⟨(946,o)::(945,⟨M.length+1,1,9,cJ (M++[s])⟩)::(942,bx 1 31 [.osl 945 (M.length+1) 0 (M.length+1)])::K,bY.get' trivial (fun j=>l9 [_,_,_,_] [_,_,_,_,_,_] (by repeat(first|exact trivial|refine⟨rfl,?_⟩)) j),rfl,rfl⟩
 rintro r H' ⟨rfl,M,hM,rfl⟩;refine⟨x,_,rfl,by rw [hx1];decide,rfl,fun z=>?_⟩;rw [hx2];refine Sr<|Dd (eA b5)<|Dd aS<|Zz<|aN ?_;refine a8 (H':=((945,⟨M.length,1,9,cJ M⟩)::K)) (.inr rfl) rfl (aH rfl) (Fin.front' [(944,LR z PQ),(945,⟨M.length,1,9,cJ M⟩),(942,bx 1 31 [.osl 945 M.length 0 M.length])] [(945,⟨M.length,1,9,cJ M⟩)] (.osl rfl) (by simp [k2,k4,aA.get]) (by intro p hp;rw [XL] at hp;subst hp;rfl) (j6.spec ⟨eY _ _,trivial⟩) hc (by simp [k2,k4,aA.get])) ?_;exact⟨M,hM,rfl,rfl⟩
theorem DU {F:FuncId} {caps:List AV} {PR:List ByteArray→Prop} (hE:∀ (args:Array Value) (w:World),(callFunc F args).run Tryz.prog w=.ok (.enter F args) w) (K:aA) (hS:xC F caps PR K) (k2:K.get 942=none) (k4:K.get 944=none) (k5:K.get 945=none) (k6:K.get 946=none) (hc:bF K) (hcap:Clo K (.clo F caps)) :
  aJ Tryz.prog 95 [.clo F caps] K (fun r H'=>∃ M,PR M∧r=.osl 945 M.length 0 M.length∧H'=(945,⟨M.length,1,9,cJ M⟩)::K):=by
 refine Bd func95 rfl ntmps95<|Sr<|Dd aS<|Zz<|Sr<|Dm ?_;refine iN rfl rfl (AI rfl rfl call125 rfl (GD hE K hS k2 k4 k5 k6 hc hcap)) ?_;rintro r H' ⟨M,hM,rfl,rfl⟩;refine Dd aS<|Zz<|aN ?_;refine a8 (H':=((945,⟨M.length,1,9,cJ M⟩)::K)) (.inr rfl) rfl (aH rfl) Fin.refl ?_;exact⟨M,hM,rfl,rfl⟩
theorem zY (l:List ByteArray):dE l=(l.map encStr).map (·.map .pv):=by rw [List.map_map];rfl
theorem z6 {F:FuncId} {caps:List AV} {L:List ByteArray} (hL:L.length < 1099511627776) (hE:∀ (args:Array Value) (w:World),(callFunc F args).run Tryz.prog w=.ok (.enter F args) w) (K:aA) (hS:xC F caps (fun M=>M.Perm L) K) (k2:K.get 942=none) (k4:K.get 944=none) (k5:K.get 945=none) (k6:K.get 946=none) (hc:bF K) (hcap:Clo K (.clo F caps)) :
  aJ Tryz.prog 48 [.clo F caps] K (fun r H'=>r=.pv (aW (b4 L))∧H'=K):=by
 refine Bd func48 rfl ntmps48<|Sr<|Dd aS<|Zz<|Sr<|Dm ?_;refine iN rfl rfl (aB rfl rfl call95 rfl (DU hE K hS k2 k4 k5 k6 hc hcap)) ?_;rintro r H' ⟨M,hperm,rfl,rfl⟩;have hMl:M.length < 4611686018427387904:=by rw [hperm.length_eq];omega
 have hSo:=nN hperm;have hSl:(b4 M).length=M.length:=by rw [b4,XI,List.length_mergeSort,XI]
 refine Dd aS<|Zz<|Sr<|Dd aE<|Dd (by exact aB rfl rfl call96 rfl (yI M rfl rfl hMl))<|Zz<|Sr<|Dd aE<|Dd aS<|Zz<|aN ?_;refine a8 (H':=K) (.inr rfl) rfl (aH rfl) (Fin.slice [(945,⟨M.length,1,9,dE (b4 M)⟩),(945,⟨M.length,1,9,cJ M⟩)] ((b4 M).map encStr) rfl rfl (zY _) (by rw [XI,hSl]) hc (by simp [k5]) (by simp [k5]) k5) ?_;exact⟨by rw [← hSo];rfl,rfl⟩
abbrev bN:=List (ByteArray×ByteArray×Nat)
def dR (l:bN) (c:Nat):Prop:=(l.map fun p=>p.2.2).Pairwise (· < ·)∧∀ p∈l,p.2.2 < c
def gJ (l:bN) (i:Nat):Nat:=((l[i]?).map fun p=>p.2.2).getD 0
theorem zZ {l:bN} {c:Nat} (h:dR l c) {i j:Nat} (hi:i < l.length) (hj:j < l.length) (e:gJ l i=gJ l j):i=j:=by
 have hp:=List.pairwise_iff_getElem.1 h.1;rw [gJ,gJ,XN hi,XN hj] at e;have e:(l[i]).2.2=(l[j]).2.2:=e;rcases Nat.lt_trichotomy i j with h1|h1|h1
 ·have:=hp i j (by simpa using hi) (by simpa using hj) h1;simp at this;omega
 ·exact h1
 have:=hp j i (by simpa using hj) (by simpa using hi) h1;simp at this;omega
def uZ (mid:Nat) (l:bN) (c:Nat) (s:List Nat):Ob:=⟨0,0,0,dV (.mp mid 0) c c (s.map (gJ l))⟩
abbrev PT (mid:Nat):Ob:=bx 1 33 [.mp mid 0]
theorem k8 {H:aA} {mid:Nat} (h:(H.get mid).isSome=true) (l:bN) (c:Nat) (s:List Nat):∀ r∈(uZ mid l c s).rows,∀ x∈r,Clo H x:=by
 intro r hr x hx;rw [uZ,dV] at hr;rcases XU.1 hr with rfl|hr
 ·simp only [XU,XY,or_false] at hx;rcases hx with rfl|rfl|rfl
  ·exact .mp h
  ·exact .pv _
  exact .pv _
 obtain ⟨n,_,rfl⟩:=List.mem_map.1 hr;rw [XL] at hx;subst hx;exact .pv _
theorem oW {l:bN} {i:Nat} {q:ByteArray×AV×Nat} (h:(bL l)[i]?=some q):∃ p,l[i]?=some p∧q=(p.1,sv p.2.1,p.2.2):=by
 rw [bL,X2] at h;cases e:l[i]? with
 | none=>rw [e] at h;cases h
 | some p=>rw [e] at h;cases h;exact⟨p,rfl,rfl⟩
def iE (l:bN) (s:List Nat):List ByteArray:=pick (l.map Prod.fst) s
theorem vT {l:bN} {s:List Nat} {i:Nat} {p:ByteArray×ByteArray×Nat} (h:l[i]?=some p):iE l (s++[i])=iE l s++[p.1]:=by simp only [iE,pick,List.map_append,List.map_cons,List.map_nil,X2,h,Option.map_some,Option.getD_some]
theorem yQ (l:bN) (s:List Nat):(iE l s).length=s.length:=XI _
theorem HM (mid:Nat) (l:bN) (c:Nat) (K:aA) (hl:l.length < 1099511627776) (hst:dR l c) (h1:K.get 951=some (PT mid)) (h2:K.get mid=some (bJ l c)) (hm6:mid≠946):xC 105 [.ref 951 0 0 0] (fun M=>M.Perm (l.map Prod.fst)) K:=by
 intro yv Hs hK h6 hcl hf hy0 hy1;have g1:∀ M,(Hs M).get 951=some (PT mid):=fun M=>hK M _ _ h1;have g2:∀ M,(Hs M).get mid=some (bJ l c):=fun M=>hK M _ _ h2;have g2':∀ o M,aA.get ((946,o)::Hs M) mid=some (bJ l c):=fun o M=>by rw [get_cons_other _ _ hm6];exact g2 M
 refine Bd func105 rfl ntmps105<|Sr<|Dd (by exact aX rfl bO rfl (g1 []) rfl rfl rfl)<|Dd (by exact u3 (q:=946) (κ:=eE) rfl aT rfl (g2 []) rfl rfl rfl (h6 []))<|Zz<|aM ?_;refine bB (σ:=List Nat) (fun s=>([(0,yv),(5,.it 946 0)],(946,uZ mid l c s)::Hs (iE l s))) (fun s=>s.Nodup∧∀ i,i∈s→i < l.length) (fun s=>l.length - s.length) [] ⟨List.nodup_nil,by simp⟩ ?_ ?_
 ·exact E0
 rintro s ⟨hd,hb⟩;have hsl:s.length≤l.length:=gR _ _ hd hb;refine Sq<|Rg ?_;refine iN rfl rfl (BB (κ:=eE) (l:=bL l) rfl rfl (get_cons_same _ _ _) rfl rfl (g2' _ _) rfl rfl rfl (XO _) (XO _)) ?_;rintro _ _ (⟨rfl,rfl,hn0⟩|⟨hni,hnp,hn1,hn2,rfl,rfl⟩)
 ·refine Dd eB<|Zz<|Sq ?_;refine Cn ?_ ?_<;>intro hc1
  ·cases hc1
  refine a6 ?_;have hall:∀ i,i < l.length→i∈s:=fun i hi=>by
   have hq:(bL l)[i]?=some ((l[i]).1,sv (l[i]).2.1,(l[i]).2.2):=by rw [bL,X2,XN hi];rfl
   have:=hn0 _ (XS hq);obtain ⟨j,hj,e⟩:=List.mem_map.1 this;have e2:gJ l j=gJ l i:=by
    rw [e,gJ,XN hi];rfl
   have:=zZ hst (hb j hj) hi e2
   rwa [this] at hj
  exact iV (H':=Hs (iE l s)) (.inl rfl) rfl (Fin.pops' [(946,uZ mid l c s)] (by simp) (hcl _) (by simp [h6]) (by simp [h6])) ⟨rfl,iE l s,CO hd (by rw [XI];exact hb) (by rw [XI];exact hall),rfl⟩
 obtain ⟨p,hp,rfl⟩:=oW hn1;have hlt:hni < l.length:=(XM.1 hp).1;have hst2:gJ l hni=p.2.2:=by rw [gJ,hp];rfl
 have hn3:hni∉s:=fun hm=>hn2 (List.mem_map.2 ⟨hni,hm,hst2⟩);have hb2:∀ i,i∈s++[hni]→i < l.length:=fun i hi=>by
  rcases List.mem_append.1 hi with h|h
  ·exact hb i h
  rw [XL] at h;omega
 have hd2:(s++[hni]).Nodup:=List.nodup_append.2 ⟨hd,by simp,fun a ha b hb e=>by rw [XL] at hb;subst hb;subst e;exact hn3 ha⟩;have hlen:=gR _ _ hd2 hb2;rw [XJ,List.length_singleton] at hlen;have hit:uZ mid l c (s++[hni])=⟨0,0,0,dV (.mp mid 0) c c (s.map (gJ l)++[p.2.2])⟩:=by rw [uZ,List.map_append,List.map_cons,List.map_nil,hst2]
 have hyy:=hy1 (uZ mid l c (s++[hni])) (iE l s) p.1 (by rw [yQ];omega);rw [← vT hp] at hyy;refine Dd eB<|Zz<|Sq ?_;refine Cn ?_ ?_<;>intro hc2
 ·refine aG<|aM<|Sr<|Dd (by exact u4 (κ:=eE) (seen:=s.map (gJ l)) (p:=(p.1,sv p.2.1,p.2.2)) (since:=c) rfl rfl (get_cons_same _ _ _) rfl rfl ((get_cons_other _ _ hm6).trans (g2' _ _)) rfl rfl rfl hn1)<|Dd eB<|Dd aS<|Zz<|Sq ?_;refine fV.ent (E':=[(0,yv),(5,.it 946 0),(3,sv p.1)]) (H':=(946,uZ mid l c (s++[hni]))::Hs (iE l s)) (bY.get' ⟨⟨_,rfl,rfl⟩,⟨_,rfl,rfl⟩,⟨_,rfl,rfl⟩,trivial⟩ (fun j=>by rw [hit];exact gG 946 _ (uZ mid l c s) (Hs (iE l s)) j)) ?_;refine Rg<|Dd aE<|Dd aE<|Dd (by exact gD rfl rfl rfl (hyy))<|Dd uL<|Zz ?_;refine Cn ?_ ?_<;>intro hc3
  ·cases hc3
  refine aG ?_;refine⟨s++[hni],⟨hd2,hb2⟩,by rw [XJ,List.length_singleton];omega,?_⟩;exact E0
 cases hc2
theorem yF (l:List ByteArray) (K:aA) (hl:l.length < 1099511627776) (h1:K.get 951=some (bx 1 31 [.pv (aW l)])):xC 97 [.ref 951 0 0 0] (fun M=>M.Perm l) K:=by
 intro yv Hs hK h6 hcl hf hy0 hy1;have g1:∀ M,(Hs M).get 951=some (bx 1 31 [.pv (aW l)]):=fun M=>hK M _ _ h1;have hml:(l.map encStr).length=l.length:=XI _;refine Bd func97 rfl ntmps97<|Sr<|Dd (by exact aX rfl b5 rfl (g1 []) rfl rfl rfl)<|Dd (j2 aO)<|Dd aE<|Zz<|aM ?_;refine bB (σ:=Nat) (fun i=>([(0,yv),(5,.pv (aW l)),(6,iv ((l.map encStr).length:Int)),(7,iv (i:Int))],Hs (l.take i))) (fun i=>i≤l.length) (fun i=>l.length - i) 0 (XZ _) ?_ ?_
 ·exact E0
 rintro i hi;refine Sr<|Dd dG<|Zz<|Sq ?_;refine Cn ?_ ?_<;>intro hc1
 ·have hlt:i < l.length:=by have:=XE hc1;omega
  obtain ⟨s,hs⟩:=aY hlt;have his:=cG (f:=encStr) hs;have hyy:=hy0 (l.take i) s (by rw [XW];omega);rw [← cR hs] at hyy;refine aG<|Sq<|aM<|Sr<|Dd (B1 bR)<|Dd (kL aU)<|Dd aS<|Zz<|Sr<|Dd aE<|Dd aE<|Dd (by exact gD rfl rfl rfl (hyy))<|Dd uL<|Zz ?_;refine Cn ?_ ?_<;>intro hc2
  ·cases hc2
  refine aG<|Rg<|Dd kU<|Dd aE<|Zz ?_;exact⟨i+1,by omega,by omega,E0⟩
 have hge:i=l.length:=by have:=XF hc1;omega
 subst hge;refine a6 ?_;exact iV (H':=Hs (l.take l.length)) (.inl rfl) rfl Fin.refl ⟨rfl,_,by rw [List.take_length],rfl⟩
theorem HL (mid:Nat) (H:aA) (h1:H.get 951=none) (hm:(H.get mid).isSome=true) :
  aJ Tryz.prog 55 [.mp mid 0] H (fun r H'=>r=.clo 105 [.ref 951 0 0 0]∧H'=(951,PT mid)::H):=by
 refine Bd func55 rfl ntmps55<|Sr<|Dd (by exact fQ (id:=951) rfl rfl rfl rfl h1)<|Dd aS<|Zz<|Sr<|Dd (by exact eQ rfl rfl)<|Dd aS<|Zz<|aN ?_;refine a8 (H':=((951,PT mid)::H)) (.inr rfl) rfl (aH rfl) Fin.refl ?_;exact Qq
def cE:bN→ByteArray→ByteArray
 | [],_=>⟨#[]⟩
 | (k',v,_)::r,k=>if k'=k then v else cE r k
theorem AW (k:ByteArray):∀ l:bN,(kK (DF (bL l)) k).getD (sv ⟨#[]⟩)=sv (cE l k)
 | []=>rfl
 | (k',v,n)::r=>by
  show (if k'=k then some (sv v)else kK (DF (bL r)) k).getD (sv ⟨#[]⟩)=sv (if k'=k then v else cE r k)
  split
  ·rfl
  exact AW k r
theorem M1 {P:Program} {N:Nat} {o:Oper} {E:bI} {H:aA} {T kt et:TypeId} {x y:Operand} {zv:Value} {id g:Nat} {ob:Ob} {l:bN} {k:ByteArray} (ho:o.op=.lookup T x y false) (hT:P.underlying T=some (.map kt et)) (hd:P.underlying kt=some .string) (hx:aP E x=some (.mp id g)) (hH:H.get id=some ob) (hg:ob.g=g)
  (hrows:ob.rows=fE eE (bL l)) (hy:aP E y=some (sv k)) (hz:∀ w,(zeroValue et).run P w=.ok zv w) (hv:ZV zv (sv ⟨#[]⟩)):bW P N o E H (sv (cE l k)) H:=by
 have h:=NY (N:=N) (κ:=eE) ho hT hd hx hH hg hrows hy hz hv
 rwa [AW] at h
theorem lT (s u:ByteArray):∀ r∈([[.str s],[.str u]]:List (List PV)),r.length=1:=by intro r hr;simp only [XU,XY,or_false] at hr;rcases hr with rfl|rfl<;>rfl
def wZ (l:bN) (S:List ByteArray) (k:Nat):List ByteArray:=dD ((bL l).length:Int)::(S.take k).flatMap fun x=>[x,cE l x]
theorem P8 {l:bN} {S:List ByteArray} {k:Nat} {s:ByteArray} (h:S[k]?=some s):wZ l S (k+1)=wZ l S k++[s,cE l s]:=by rw [wZ,wZ,cR h,List.flatMap_append];rfl
theorem fN {α β:Type} (f g:α→β):∀ S:List α,(S.flatMap fun x=>[f x,g x]).length=2*S.length
 | []=>rfl
 | x::r=>by
  have h:=fN f g r;rw [List.flatMap_cons,XJ,h];simp only [XK,List.length_nil];omega
theorem LW {l:bN} {S:List ByteArray} {k:Nat} (h:k≤S.length):(wZ l S k).length=1+2*k:=by rw [wZ,XK,fN,XW];omega
def bP (l:bN):List ByteArray:=b4 (l.map Prod.fst)
def cA (l:bN) (P:List ByteArray):List ByteArray:=(wZ l (bP l) (bP l).length++[dD ((P.map encStr).length:Int)])++P
def bC (l:bN) (P:List ByteArray):List UInt8:=aR [ofL (aR (cA l P))]
theorem fL (l:bN):(bP l).length=l.length:=by rw [bP,b4,XI,List.length_mergeSort,XI,XI]
theorem kH (A B:List ByteArray):cJ A++(B.map encStr).map (·.map AV.pv)=cJ (A++B):=by rw [cJ,cJ,List.map_append,List.map_map];rfl
theorem pS (A B:List ByteArray):cJ A++B.map (fun s=>[.pv (.str s)])=cJ (A++B):=by rw [cJ,cJ,List.map_append]
abbrev tK (g:Nat) (W:List ByteArray) (l:bN) (c:Nat):aA:=[(951,PT 950),(920,⟨g,1,9,cJ W⟩),(950,bJ l c)]
theorem S0 (g:Nat) (W:List ByteArray) (l:bN) (c:Nat):bF (tK g W l c):=bF.of (fun p hp=>by
 simp only [XU,XY,or_false] at hp;rcases hp with rfl|rfl|rfl
 ·intro r hr x hx;simp only [bx,XL] at hr;subst hr;rw [XL] at hx;subst hx;exact .mp rfl
 ·exact eY _ _
 exact aQ _ _ _)
theorem qR {l:bN} {P:List ByteArray} {N:Nat} (h:(bC l P).length < N):(aR (cA l P)).length < N:=by
 have e:bC l P=(mK (ofL (aR (cA l P)))).data.toList:=by rw [bC,aR,List.flatMap_cons,List.flatMap_nil,List.append_nil]
 rw [e,nO,kX,bS] at h;omega
theorem HO {W:List ByteArray} {g n:Nat} {H:aA} (hW:(aR W).length < 35184372088832) (hH:H.get 920=some ⟨g,1,9,cJ W⟩) (hn:n=W.length):aJ Tryz.prog 99 [.osl 920 g 0 n] H (fun x H'=>x=sv (ofL (aR W))∧H'=H):=by subst hn;exact RO.calls (RO.lend (id:=920) (H1:=[]) (W.map encStr) (RO.of (kC W [] hW) rfl) hH (iX W) rfl (u5 (.osl (kI encStr W)) FV) (fun _ _ h=>by cases h) (fun _ _ h=>by cases h) rfl)
theorem GR (l:bN) (c:Nat) (P:List ByteArray) (hst:dR l c) (hl:l.length < 1099511627776) (hP:P.length < 1099511627776) (hsz:(bC l P).length < 35184372088832) :
  aJ Tryz.prog 50 [.mp 950 0,.pv (aW P)] [(950,bJ l c)] (fun r H'=>r=sv (ofL (bC l P))∧H'=[(950,bJ l c)]):=by
 have hsl:=fL l;have hso:=z6 (L:=l.map Prod.fst) (by rw [XI];exact hl) WG (tK 0 [dD ((bL l).length:Int)] l c) (HM 950 l c _ hl hst rfl rfl (by decide)) rfl rfl rfl rfl (S0 _ _ _ _) (by simp;rfl);have hin:=qR hsz;have hgl:(bL l).length=l.length:=XI _;have hml:((bP l).map encStr).length=(bP l).length:=XI _;have hpl:(P.map encStr).length=P.length:=XI _;change aJ _ _ _ _ fun r H'=>r=.pv (aW (bP l))∧H'=_ at hso;refine Bd func50 rfl ntmps50<|Sr<|Dd aS<|Zz<|Sr<|Dd aE<|Dd (by exact t7 (κ:=eE) (l:=bL l) rfl aT rfl rfl rfl rfl)<|Dd (by exact aB rfl rfl nI rfl (mQ ((bL l).length:Int) (by omega) (by omega) _))<|Dd (by exact eX (id:=920) rfl bR rfl rfl rfl rfl (show ∀ r∈cJ [dD ((bL l).length:Int)],r.length=1 from by intro r hr;rw [XL.1 hr];rfl) rfl)<|Dd aS<|Zz<|Sq<|Sr<|Dd aE<|Dd (by exact aB rfl rfl WU rfl (HL 950 _ rfl rfl))<|Dd (by exact aB rfl rfl BW rfl (hso))<|Dd (j2 aO)<|Dd aE<|Zz<|aM ?_;refine bB (σ:=Nat) (fun k=>([(0,.mp 950 0),(1,.pv (aW P)),(5,.osl 920 k 0 (1+2*k)),(14,.pv (aW (bP l))),(15,iv (((bP l).map encStr).length:Int)),(16,iv (k:Int))],tK k (wZ l (bP l) k) l c)) (fun k=>k≤(bP l).length) (fun k=>(bP l).length - k) 0 (XZ _) ?_ ?_
 ·exact E0
 intro k hk;refine Sr<|Dd dG<|Zz<|Sq ?_;refine Cn ?_ ?_<;>intro hc1
 ·have hlt:k < (bP l).length:=by have:=XE hc1;omega
  obtain ⟨s,hs⟩:=aY hlt;have hi:=cG (f:=encStr) hs;have hwl:=LW (l:=l) hk;refine aG<|Sq<|aM<|Sr<|Dd (B1 bR)<|Dd (kL aU)<|Dd aS<|Zz<|Rg<|Dd aE<|Dd aE<|Dd aE<|Dd aE<|Dd (by exact M1 (l:=l) (k:=s) rfl aT aI rfl rfl rfl rfl rfl dS (.inl rfl))<|Dd (by exact bE [[.str s],[.str (cE l s)]] rfl bR rfl rfl rfl rfl rfl (lT s (cE l s)))<|Dd (by exact dQ (k:=1+2*(k+1)) (ps:=[[.str s],[.str (cE l s)]]) rfl bR EA rfl rfl rfl rfl rfl ((eL _).trans hwl) rfl (lT _ _) (m:=2) rfl (by omega) (by omega) (pS _ [s,cE l s]))<|Dd aS<|Zz<|Rg<|Dd kU<|Dd aE<|Zz ?_;refine⟨k+1,by omega,by omega,?_⟩;rw [P8 hs];exact(bY.wk (Ea<|Eb<|Ea<|Eb<|Eb<|Eb<|trivial) (Ha<|Hc (eY _ _)<|Hc (aQ _ _ _)<|trivial) ⟨rfl,trivial⟩)
 have hge:k=(bP l).length:=by have:=XF hc1;omega
 subst hge;have hwl:=LW (l:=l) (XO (bP l).length);refine a6<|Sr<|Dd aE<|Dd aE<|Dd (j2 aO)<|Dd (by exact aB rfl rfl nI rfl (mQ ((P.map encStr).length:Int) (by omega) (by omega) _))<|Dd (by exact bE [[.str (dD ((P.map encStr).length:Int))]] rfl bR rfl rfl rfl rfl rfl (by intro r hr;rw [XL] at hr;subst hr;rfl))<|Dd (by exact dQ (ps:=[[.str (dD ((P.map encStr).length:Int))]]) rfl bR EA rfl rfl rfl rfl rfl ((eL _).trans hwl) rfl (by intro r hr;rw [XL] at hr;subst hr;rfl) (m:=1) rfl (by omega) rfl (j7 _ _))<|Dd aS<|Zz<|Sr<|Dd aE<|Dd aE<|Dd (by exact dQ (ps:=P.map encStr) rfl bR EA rfl rfl rfl rfl rfl ((eL _).trans (by rw [XJ,hwl];rfl)) rfl (by intro r hr;obtain ⟨q,_,rfl⟩:=List.mem_map.1 hr;rfl) (m:=P.length) hpl (by omega) rfl (kH _ P))<|Dd (by exact aB rfl rfl nH rfl (HO (W:=cA l P) hin rfl (by rw [cA,XJ,XJ,hwl];rfl))) ?_;refine Dd (by exact bE [[.str (ofL (aR (cA l P)))]] rfl bR rfl rfl rfl rfl rfl (by intro r hr;rw [XL] at hr;subst hr;rfl))<|Dd (by exact aB rfl rfl nH rfl (kC [ofL (aR (cA l P))] _ hsz))<|Dd aS<|Zz<|aN ?_;refine a8 (H':=[(950,bJ l c)]) (.inr rfl) rfl (aH rfl) (Fin.wk (by(simp;done)) (Hc (aQ _ _ _)<|trivial) ⟨rfl,trivial⟩) ?_;exact Qq
end Go.Proofs.YtmkgeogoojcciaaGreatDoor
namespace Go.Proofs.YtmkgeogoojcciaaGreatDoor
open Go.Proofs.Tryz
open Go.Abs Go.Lib
theorem TF (x y:Nat) (hx:x < 18446744073709551616) (hy:y < 18446744073709551616) (H:aA):aJ Tryz.prog 132 [uv x,uv y] H (fun r H'=>r=.tup [uv (x*y / 18446744073709551616),uv (x*y % 18446744073709551616)]∧H'=H):=by
 refine Pu ?_;refine Bd func132 rfl ntmps132<|Sr<|Dd aS<|Dd aS<|Zz<|Sq ?_;refine Cn ?_ ?_<;>intro hc1
 ·cases hc1
 exact aG<|Sr<|Dd aE<|Dd aE<|Dd (by exact aB rfl rfl WF rfl (wA x y hx hy _))<|Dd aE<|Dd eB<|Dd eB<|Dd aS<|Dd aS<|Zz<|Sr<|Dd aE<|Dd aE<|Dd aS<|Dd aS<|Zz<|aN<|Ru<|Qq
theorem wX (t:List UInt8) (ht:t.length < 1000000000000) (H:aA):aJ Tryz.prog 51 [sv (ofL t)] H (fun r H'=>r=iv (cT t:Int)∧H'=H):=by
 refine Pu ?_;have hs:(ofL t).size=t.length:=bS t;have hq:IntKind.i64.wrap ((((ofL t).size:Int)+46 - 1).tdiv 46)=(cT t:Int):=by
  rw [hs,Int.tdiv_eq_ediv_of_nonneg (by omega),iA (by omega) (by omega),cT];omega
 exact Bd func51 rfl ntmps51<|Sr<|Dd aS<|Zz<|Sr<|Dd aE<|Dd (x5 aI)<|Dd kU<|Dd (by exact dO rfl rfl rfl (by exact iA (by omega) (by omega)))<|Dd (by exact mL rfl rfl rfl (by decide) hq)<|Dd aS<|Zz<|aN<|Rt<|Qq
theorem Fin.st1 {H1:aA} {id g n:Nat} {ob:Ob} (l:List ByteArray) (hH:H1.get id=some ob) (hg:ob.g=g) (hps:ob.rows=cJ l) (hn:n=l.length) :
  Fin [] H1 (.osl id g 0 n) [] (.pv (aW l)):=by
 subst hg hn;exact Fin.fz (id:=id) (ob:=ob) (l.map encStr) hH (hps.trans (iX l)) (.osl (kI encStr l)) rfl trivial trivial
def gT (z:ByteArray) (m n:Nat):List (List AV):=List.replicate m [sv z]++List.replicate (n - m) [sv sNil]
theorem J2 {z:ByteArray} {m n:Nat} (h:m≤n):(gT z m n).length=n:=by rw [gT,XJ,List.length_replicate,List.length_replicate];omega
theorem FX {z:ByteArray} {m n j:Nat} (h:m≤n) (hj:j=min (n - m) m):(gT z m n).take m++(((gT z m n).take j)++(gT z m n).drop (m+j))=gT z (m+j) n:=by
 have hjm:j≤m:=by omega
 have h1:(gT z m n).take m=List.replicate m [sv z]:=by rw [gT,List.take_left' List.length_replicate]
 have h2:(gT z m n).take j=List.replicate j [sv z]:=by
  rw [gT,List.take_append_of_le_length (by rw [List.length_replicate];exact hjm),List.take_replicate,Nat.min_eq_left hjm]
 have h3:(gT z m n).drop (m+j)=List.replicate (n - (m+j)) [sv sNil]:=by
  rw [gT,← List.drop_drop,List.drop_left' List.length_replicate,List.drop_replicate,Nat.sub_sub]
 rw [h1,h2,h3,gT,← List.append_assoc,List.replicate_append_replicate]
theorem zF {H:aA} {z:ByteArray} {m n:Nat}:∀ r∈gT z m n,∀ a∈r,Clo H a:=by intro r hr a ha;rcases List.mem_append.1 hr with h|h<;>rw [List.eq_of_mem_replicate h,XL] at ha<;>subst ha<;>exact .pv _
theorem I7 (z:ByteArray) (n:Nat) (hn:n < 100000) (H:aA):aJ Tryz.prog 106 [.pv (aW [z]),iv (n:Int)] H (fun r H'=>r=.pv (aW (List.replicate n z))∧H'=H):=by
 refine Pu ?_;have hmul:=fun H=>TF 1 n (by omega) (by omega) H;have e1:1*n / 18446744073709551616=0:=by omega
 have e2:1*n % 18446744073709551616=n:=by omega
 rw [e1,e2] at hmul;have hz0:((List.replicate n [sv sNil]:List (List AV))).take 0++((([[.str z]]:List (List PV)).take (min 1 n)).map (·.map .pv)++(List.replicate n [sv sNil]).drop (0+min 1 n))=gT z (min 1 n) n:=by
  rw [List.take_zero,List.nil_append,List.drop_replicate,gT,X0];rcases(show min 1 n=0∨min 1 n=1 by omega)with e|e<;>rw [e]<;>rfl
 refine Bd func106 rfl ntmps106<|Sr<|Dd aS<|Zz<|Sq<|Sr<|Dd aE<|Dd dG<|Zz ?_;refine Cn ?_ ?_<;>intro hc1
 ·(have:=XE hc1;omega)
 refine aG<|Sr<|Dd aE<|Dd (j2 aO)<|Dd (by exact eR rfl bV d6 rfl (show IntKind.u64.wrap (1:Int)=1 by rfl))<|Dd aE<|Dd (by exact eR rfl bV d6 rfl (show IntKind.u64.wrap (n:Int)=(n:Int)by rw [IntKind.wrap_u64];omega))<|Dd (by exact aB rfl rfl call132 rfl (hmul _))<|Dd aE<|Dd eB<|Dd eB<|Dd aS<|Dd aS<|Zz<|Sq<|Sq ?_;refine dA (t:=26) (n:=7) (X:=false) ?_ ?_
 ·all_goals refine Dd aE ?_
  all_goals refine Dd y6<|Dm ?_
  all_goals refine Sp 23 (fun h23=>?_) fun h23=>?_
  all_goals try contradiction
  all_goals refine On aE<|On y6<|Dd gO<|Zz ?_
  all_goals(exact⟨⟨_,rfl,by simp;omega⟩,rfl,rfl,rfl⟩)
 refine Cn ?_ ?_<;>intro hc2
 ·cases hc2
 refine aG<|Sr<|Dd aE<|Dd (by exact eR rfl d6 bV rfl (iA (by omega) (by omega)))<|Dd (by exact jH (id:=960) rfl bR EA WI rfl rfl rfl (by omega) (by omega) (by exact XT _) (by exact XT _) (by omega) rfl)<|Dd aS<|Zz<|Sr<|Dd aE<|Dd aE<|Dd (by exact LQ (n:=min 1 n) rfl bR (wT rfl rfl rfl) rfl rfl rfl (XZ _) (IM (len:=1) (ps:=[[.str z]]) (k:=min 1 n) rfl (by decide) (by intro r hr;rw [XL] at hr;subst hr;rfl) rfl (by omega) rfl) (by intro r hr;obtain ⟨q,hq,rfl⟩:=List.mem_map.1 hr;have:=List.mem_of_mem_take hq;rw [XL] at this;subst this;rfl) (by rw [XI,XW];show min (min 1 n) 1=min 1 n;omega) rfl hz0)<|Dd aS<|Zz<|Sq<|aM ?_;refine bB (σ:=Nat) (fun m=>([(7,.osl 960 0 0 n),(8,iv (m:Int))],[(960,⟨0,1,9,gT z m n⟩)])) (fun m=>m≤n∧(n=0∨0 < m)) (fun m=>n - m) (min 1 n) ⟨by omega,by omega⟩ ?_ ?_
 ·exact(bY.wk (Ea<|Eb<|trivial) (Hc zF<|trivial) trivial)
 rintro m ⟨hm,hm0⟩;refine Sq<|Sr<|Dd aE<|Dd aE<|Dd (by exact cV rfl aO rfl rfl rfl)<|Dd dG<|Zz ?_;refine Cn ?_ ?_<;>intro hc3
 ·have hlt:m < n:=by have:=XE hc3;omega
  obtain ⟨j,hj⟩:∃ j,j=min m (n - m):=⟨_,rfl⟩;have hrows:=FX (z:=z) (j:=j) hm (by omega);have hrl:∀ r∈(gT z m n).take j,r.length=1:=fun r hr=>by
   have:=List.mem_of_mem_take hr;rcases List.mem_append.1 this with h|h<;>rw [List.eq_of_mem_replicate h]<;>rfl
  have hfl:=J2 (z:=z) hm;refine aG<|aM<|bK follows<|Cr [] (fun _ _=>aE)<|Cr [960] (fun _ _=>aE)<|Cr [] (fun _ _=>aE)<|Cr [960] (fun H1 hH=>by exact fC (l:=m) (h:=n) rfl bR rfl ((hH 960 rfl).trans rfl) rfl rfl rfl rfl (by omega) (XO _) (X0 _) rfl)<|Cr [960] (fun _ _=>aE)<|Cr [] (fun _ _=>aE)<|Cr [960] (fun H1 hH=>by exact fC (l:=0) (h:=m) rfl bR rfl ((hH 960 rfl).trans rfl) rfl rfl rfl rfl (XZ _) (by omega) rfl rfl)<|Cp [960] (fun H1 hH=>by exact LQ (n:=j) rfl bR (wT rfl ((hH 960 rfl).trans rfl) rfl) ((hH 960 rfl).trans rfl) rfl rfl (by rw [hfl];omega) (EN (k:=j) rfl ((hH 960 rfl).trans rfl) rfl rfl (by omega) rfl) hrl (by rw [XW];show min j (gT z m n).length=j;rw [hfl];omega) hj.symm hrows)<|Cr [960] (fun _ _=>kU)<|Cr [] (fun _ _=>aS)<|cM<|Kr ?_;refine⟨m+j,⟨by omega,by omega⟩,by omega,?_⟩;exact(bY.wk (Ea<|Eb<|trivial) (Hc zF<|trivial) trivial)
 have hge:m=n:=by have:=XF hc3;omega
 subst hge;have hfin:gT z m m=cJ (List.replicate m z):=by rw [gT,Nat.sub_self,List.replicate_zero,List.append_nil,cJ,List.map_replicate]
 refine a6<|Sr<|Dd aE<|Dd aS<|Zz<|aN ?_;refine a8 (H':=[]) (.inr rfl) rfl (aH rfl) (Fin.st1 (List.replicate m z) rfl rfl hfin (List.length_replicate).symm) ?_;exact Qq
theorem DV {d:DSt} {N m:Nat} (h:DInv d N m) (k a n ar fr:Nat) (b:Bool) (l:List (ByteArray×ByteArray×Nat)) (c:Nat) (hk:k < 5000) (har:ar < 2) (hfr:fr≤k) (hm:m+k < 1048576) :
  aJ Tryz.prog 56 [.ref 1100 0 0 0,iv (ar:Int),iv (fr:Int)] (sH d (b7 k a n b) (bJ l c)) (fun r H'=>r=iv (iU d (2+ar*k+fr) (List.replicate (k - fr) zS)).1∧H'=sH (iU d (2+ar*k+fr) (List.replicate (k - fr) zS)).2 (b7 k a n (b||!decide ((iU d (2+ar*k+fr) (List.replicate (k - fr) zS)).1=0))) (bJ l c)):=by
 have hark:ar*k≤k:=by
  rcases(show ar=0∨ar=1 by omega)with e|e<;>subst e<;>omega
 have hpl:=vS d k a n ar fr b l c (by omega) (by omega) (by omega);have hw:=lS h k a n (2+ar*k+fr) b l c (List.replicate (k - fr) zS) (by rw [List.length_replicate];omega) (by omega);have hrp:=fun H=>I7 zS (k - fr) (by omega) H;obtain ⟨x,hx⟩:∃ x,x=iU d (2+ar*k+fr) (List.replicate (k - fr) zS):=⟨_,rfl⟩;rw [← hx] at hw ⊢;refine Bd func56 rfl ntmps56<|Sr<|Dd aS<|Zz<|Sq<|bK follows<|Cr [1100] (fun _ _=>aE)<|Cr [1100] (fun _ _=>aE)<|Cr [] (fun _ _=>aE)<|Cr [] (fun _ _=>aE)<|Cr [1000,1001,1002,1003,1100,1101] (fun H1 hH=>by exact aB rfl rfl WT rfl (fG hpl _ ⟨(hH 1000 rfl).trans rfl,(hH 1001 rfl).trans rfl,(hH 1002 rfl).trans rfl,(hH 1003 rfl).trans rfl,(hH 1100 rfl).trans rfl,(hH 1101 rfl).trans rfl,trivial⟩ (by simp;rfl)))<|Cr [] (fun H1 hH=>by exact aB rfl rfl nK rfl (mX _))<|Cr [] (fun H1 hH=>by exact bE [[.str zS]] rfl bR rfl rfl rfl rfl rfl (by simp))<|Cr [1100] (fun _ _=>aE)<|Cr [1100] (fun H1 hH=>by exact bM rfl rfl ((hH _ rfl).trans rfl) rfl)<|Cr [1100] (fun _ h=>fh qC h)<|Cr [1100] (fun _ h=>lh aV h)<|Cr [] (fun _ _=>aE)<|Cr [] (fun H1 hH=>by exact dO rfl rfl rfl (show IntKind.i64.wrap ((k:Int) - (fr:Int))=((k - fr:Nat):Int)by rw [iA (by omega) (by omega)];omega)) ?_;refine Cr [] (fun H1 hH=>by exact aB rfl rfl call106 rfl (hrp _)) ?_;refine bU (r:=⟨_,some [1000,1001,1002,1003,1100,1101],_⟩) (DStep.plain rfl (fun H1 hH=>by exact aB rfl rfl nJ rfl (fW hw _ ⟨(hH 1000 rfl).trans rfl,(hH 1001 rfl).trans rfl,(hH 1002 rfl).trans rfl,(hH 1003 rfl).trans rfl,(hH 1100 rfl).trans rfl,(hH 1101 rfl).trans rfl,trivial⟩ (by simp;rfl)))) rfl ?_;refine Cr [1100] (fun _ _=>aS)<|cM<|Kr<|aN ?_;refine a8 (H':=(sH x.2 (b7 k a n (b||!decide (x.1=0))) (bJ l c))) (.inr rfl) rfl (aH rfl) (Fin.wk (by(simp;done)) (Hc (aF _ _ rfl rfl rfl)<|Hc (aC _ _)<|Hc (aL _ _ _)<|Hc (aK _ _)<|Hc (bD rfl rfl)<|Hc (aQ _ _ _)<|trivial) ⟨rfl,rfl,rfl,rfl,rfl,rfl,trivial⟩) ?_;exact Qq
end Go.Proofs.YtmkgeogoojcciaaGreatDoor
namespace Go.Abs
section
section
variable {P:Program} {N:Nat} {o:Oper} {E:bI} {H:aA} {T kt et:TypeId} {x:Operand} {q gq:Nat} {oq:Ob}
theorem v7 {w:World} {I:Nat→Prop} {ι:b6} {v:Value} (h:VRel w I ι H v (.pv .nilm)):v=.map none:=by cases h.pv_inv;rfl
theorem SQ (ho:o.op=.call {callee:=.builtin .len,args:=#[x],argTypes:=#[T]}) (hT:P.underlying T=some (.map kt et)) (hx:aP E x=some (.pv .nilm)):bW P N o E H (.pv (.int .i64 0)) H :=.of_run fun a w I ι hr he=>by
  have hv:=v7 (aD he hx);refine⟨.int .i64 0,?_,.pv (.int _ _)⟩;simp [execOp,ho,resolve,invoke,builtin,hv,Builtin.len_,run_underlying hT,goInt]
theorem AT (ho:o.op=.range T x) (hT:P.underlying T=some (.map kt et)) (hx:aP E x=some (.pv .nilm)) (hq:H.get q=none) :
  bW P N o E H (.it q 0) ((q,⟨0,0,0,dV (.pv .nilm) 0 0 []⟩)::H):=by
 intro a w I ι _ _ hr he K Q hk;have hvx0:=aD he hx;have hvx:=v7 hvx0;obtain ⟨k2,k3⟩:=Rel.placeX (H':=(q,⟨0,0,0,dV (.pv .nilm) 0 0 []⟩)::H) (id:=q) (cap:=1) (ob':=⟨0,0,0,dV (.pv .nilm) 0 0 []⟩) (x:=.mapIter none 0 #[] 0) (w':=w.alloc (.mapIter none 0 #[] 0)) hr rfl rfl rfl rfl
  (fun o ho=>by rw [hq] at ho;cases ho) (fun hnew hI hmono=>.inr (.inr (.inl ⟨rfl,w.heap.size,none,0,#[],0,by simp,hnew,hI,rfl,⟨_,_,_,rfl,.pv .nilm,.pv (.int _ _),.pv (.int _ _)⟩,fun i r hr'=>by simp [dV] at hr'⟩)))
  (get_cons_same _ _ _) (fun j hj=>get_cons_other _ _ hj)
 have hrun:(execOp a.eval o).run P w=.ok (.value (.pointer (some ⟨w.heap.size,0,none⟩))) (w.alloc (.mapIter none 0 #[] 0)):=by
  simp only [execOp,ho,hvx];simp [Instr.range,run_underlying hT]
 unfold Oper.wpW;rw [hrun];exact hk _ _ I _ _ _ ⟨rfl,rfl⟩ (.it ⟨0,0,0,dV (.pv .nilm) 0 0 []⟩ (get_cons_same _ _ _) (XO _) rfl fun _=>⟨rfl,w.heap.size,by simp,rfl⟩) k2 k3
theorem FN (ho:o.op=.next x false) (hx:aP E x=some (.it q gq)) (hQ:H.get q=some oq) (hgq:oq.g=gq) (hrq:oq.rows=dV (.pv .nilm) 0 0 []) :
  LJ P N o E H (fun r H'=>(r=.tup [.pv (.bool false)]∧H'=H∧True)∨∃ (i:Nat) (p:Nat),False∧True∧r=.tup [.pv (.bool true)]∧H'=H):=by
 intro a w I ι _ _ hr he K Q hk;obtain ⟨hsz,b,hι,hvx⟩:=FP (aD he hx) hQ hgq;obtain ⟨_,b',bm,since',seen',last',e1,e2,e3,e4,⟨m,n,k,z1,z2,z3,z4⟩,e6⟩:=(hr.obj q oq hQ).iter hsz hι;rw [hι] at e1;cases e1;rw [hrq] at z1;simp only [dV,List.getElem?_cons_zero,Option.some.injEq,List.cons.injEq,and_true] at z1;obtain ⟨rfl,rfl,rfl⟩:=z1;have hbm:=v7 z2;cases hbm;have hrun:(Instr.next (.pointer (some ⟨b,0,none⟩)) false o.type).run P w=.ok (.tuple #[.bool false]) w:=by
  simp only [Instr.next,getObj,Sem.run_bind,Sem.run,e2,Result.andThen];rfl
 unfold Oper.wpW execOp;simp only [ho,hvx,Sem.run_bind,hrun,Result.andThen_ok,Sem.run_pure];refine hk _ _ I ι _ _ (.inl ⟨rfl,rfl,trivial⟩) (.tup rfl (fun i v c hv hc=>?_)) hr (Step.refl _ _ _ _)
 match i with
 | 0=>simp at hv hc;subst hv hc;exact .pv (.bool _)
 | i+1=>simp at hv
end
section
variable {ρ:Nat→Nat} (hρ:∀ i,ρ (ρ i)=i)
include hρ
theorem aJ.renQ {P:Program} {f:FuncId} {args args':List AV} {H H':aA} {R:AV→aA→Prop} (h:aJ P f args H R) (ha:gX ρ args=args') (hH:iS ρ H=H') :
  aJ P f args' H' (fun x K=>∃ x0 K0,R x0 K0∧x=gB ρ x0∧K=iS ρ K0):=by
 subst ha hH;intro I ι w vs hrel hl hv;have hrel':=hrel.ren hρ;rw [oS hρ] at hrel';have hl':vs.size=args.length:=by rw [hl,eP,XI]
 refine(h I _ w vs hrel' hl' (fun i v a h1 h2=>?_)).mono ?_
 ·have:=(hv i v (gB ρ a) h1 (by rw [eP,X2,h2];rfl)).ren hρ
  rwa [oS hρ,(sP hρ [a]).2 a (by simp)] at this
 rintro e w' ⟨x,K,I',ι',v,rfl,hR,k1,k2,k3⟩;have k3':=k3.ren hρ;have e1:(fun j=>(fun j=>ι (ρ j)) (ρ j))=ι:=by funext j;simp only [hρ]
 rw [e1] at k3';exact⟨_,_,I',_,v,rfl,⟨_,_,hR,rfl,rfl⟩,k1.ren hρ,k2.ren hρ,k3'⟩
end
end
end Go.Abs
namespace Go.Proofs.YtmkgeogoojcciaaGreatDoor
open Go.Proofs.Tryz
open Go.Abs
def cS:bN→ByteArray→Option ByteArray
 | [],_=>none
 | (k',v,_)::r,k=>if k'=k then some v else cS r k
theorem kY (k:ByteArray):∀ l:bN,cE l k=(cS l k).getD ⟨#[]⟩
 | []=>rfl
 | (k',v,n)::r=>by
  rw [cE,cS]
  split
  ·rfl
  exact kY k r
def fZ:bN→ByteArray→ByteArray→Nat→bN
 | [],k,v,c=>[(k,v,c)]
 | (k',a,n)::r,k,v,c=>if k'=k then(k,v,n)::r else(k',a,n)::fZ r k v c
def p9:bN→ByteArray→bN
 | [],_=>[]
 | (k',a,n)::r,k=>if k'=k then r else(k',a,n)::p9 r k
def lG (l:bN) (k:ByteArray) (c:Nat):Nat:=if(cS l k).isSome then c else c+1
theorem k9 (k v:ByteArray) (c:Nat):∀ l:bN,rP (bL l) k (sv v) c=bL (fZ l k v c)
 | []=>rfl
 | (k',a,n)::r=>by
  show (if k'=k then(k,sv v,n)::bL r else(k',sv a,n)::rP (bL r) k (sv v) c)=bL (fZ ((k',a,n)::r) k v c);rw [fZ]
  split
  ·rfl
  rw [k9 k v c r];rfl
theorem u0 (k:ByteArray):∀ l:bN,rT (bL l) k=bL (p9 l k)
 | []=>rfl
 | (k',a,n)::r=>by
  show (if k'=k then bL r else(k',sv a,n)::rT (bL r) k)=bL (p9 ((k',a,n)::r) k);rw [p9]
  split
  ·rfl
  rw [u0 k r];rfl
theorem sU (k:ByteArray):∀ l:bN,(kK (DF (bL l)) k).isSome=(cS l k).isSome
 | []=>rfl
 | (k',a,n)::r=>by
  show (if k'=k then some (sv a)else kK (DF (bL r)) k).isSome=(if k'=k then some a else cS r k).isSome
  split
  ·rfl
  exact sU k r
theorem mR (k:ByteArray) (c:Nat) (l:bN):wN (bL l) k c=lG l k c:=by rw [wN,lG,sU]
theorem uY (k v:ByteArray) (c:Nat) (k2:ByteArray):∀ l:bN,cS (fZ l k v c) k2=if k=k2 then some v else cS l k2
 | []=>rfl
 | (k',a,n)::r=>by
  rw [fZ];by_cases h:k'=k
  ·rw [XH h,cS,cS];subst h;by_cases h2:k'=k2
   ·rw [XH h2,XH h2]
   rw [XG h2,XG h2,XG h2]
  rw [XG h,cS,cS,uY k v c k2 r];by_cases h2:k'=k2
  ·rw [XH h2,XH h2,XG (fun e=>h (h2.trans e.symm))]
  rw [XG h2,XG h2]
def fB (l:bN):Prop:=(l.map Prod.fst).Nodup
theorem gS {k:ByteArray}:∀ {l:bN},cS l k=none↔k∉l.map Prod.fst
 | []=>by simp [cS]
 | (k',a,n)::r=>by
  rw [cS,List.map_cons,XU,not_or];by_cases h:k'=k
  ·rw [XH h];exact⟨(fun h=>by cases h),fun h2=>absurd h.symm h2.1⟩
  rw [XG h,gS];exact⟨fun h2=>⟨fun e=>h e.symm,h2⟩,fun h2=>h2.2⟩
theorem oX (k v:ByteArray) (c:Nat):∀ l:bN,(fZ l k v c).map Prod.fst=if(cS l k).isSome then l.map Prod.fst else l.map Prod.fst++[k]
 | []=>rfl
 | (k',a,n)::r=>by
  rw [fZ,cS];by_cases h:k'=k
  ·rw [XH h,XH h];subst h;rfl
  rw [XG h,XG h,List.map_cons,oX k v c r];cases (cS r k).isSome<;>rfl
theorem A4 {l:bN} (h:fB l) (k v:ByteArray) (c:Nat):fB (fZ l k v c):=by
 rw [fB,oX];cases e:cS l k with
 | some x=>exact h
 | none =>
  have hn:=gS.1 e;exact List.nodup_append.2 ⟨h,by simp,fun a ha b hb e2=>by rw [XL] at hb;subst hb;subst e2;exact hn ha⟩
theorem C4 (k v:ByteArray) (c:Nat):∀ l:bN,(fZ l k v c).map (fun p=>p.2.2)=if(cS l k).isSome then l.map (fun p=>p.2.2)else l.map (fun p=>p.2.2)++[c]
 | []=>rfl
 | (k',a,n)::r=>by
  rw [fZ,cS];by_cases h:k'=k
  ·rw [XH h,XH h];rfl
  rw [XG h,XG h,List.map_cons,C4 k v c r];cases (cS r k).isSome<;>rfl
theorem L8 {l:bN} {c:Nat}:dR l c↔(l.map fun p=>p.2.2).Pairwise (· < ·)∧∀ n∈l.map (fun p=>p.2.2),n < c:=by rw [dR];refine and_congr_right fun _=>⟨fun h n hn=>?_,fun h p hp=>h _ (List.mem_map.2 ⟨p,hp,rfl⟩)⟩;obtain ⟨p,hp,rfl⟩:=List.mem_map.1 hn;exact h p hp
theorem A3 {l:bN} {c:Nat} (h:dR l c) (k v:ByteArray):dR (fZ l k v c) (lG l k c):=by
 rw [L8,C4,lG];have h:=L8.1 h;cases cS l k with
 | some x=>exact h
 | none =>
  refine⟨List.pairwise_append.2 ⟨h.1,by simp,fun a ha b hb=>by rw [XL] at hb;subst hb;exact h.2 a ha⟩,fun n hn=>?_⟩;show n < c+1;rcases List.mem_append.1 hn with h1|h1
  ·have:=h.2 n h1;omega
  rw [XL] at h1;omega
theorem n7 (k:ByteArray):∀ l:bN,(p9 l k).Sublist l
 | []=>.slnil
 | (k',a,n)::r=>by
  rw [p9]
  split
  ·exact List.sublist_cons_self _ _
  exact(n7 k r).cons_cons _
theorem HN {l:bN} (h:fB l) (k:ByteArray):fB (p9 l k):=h.sublist ((n7 k l).map _)
theorem Q9 {l:bN} {c:Nat} (h:dR l c) (k:ByteArray):dR (p9 l k) c:=⟨h.1.sublist ((n7 k l).map _),fun p hp=>h.2 p ((n7 k l).subset hp)⟩
theorem HK (k k2:ByteArray):∀ {l:bN},fB l→cS (p9 l k) k2=if k=k2 then none else cS l k2
 | [],_=>by rw [p9,cS];split<;>rfl
 | (k',a,n)::r,hnd=>by
  have hn:k'∉r.map Prod.fst∧fB r:=List.nodup_cons.1 hnd;rw [p9];by_cases h:k'=k
  ·subst h;rw [XH rfl,cS];by_cases h2:k'=k2
   ·subst h2;rw [XH rfl];exact gS.2 hn.1
   rw [XG h2,XG h2]
  rw [XG h,cS,cS,HK k k2 hn.2];by_cases h2:k'=k2
  ·rw [XH h2,XH h2,XG (fun e=>h (h2.trans e.symm))]
  rw [XG h2,XG h2]
def fO:bN→Nat→bN→bN×Nat
 | l,c,[]=>(l,c)
 | l,c,(k,v,_)::r=>fO (fZ l k v c) (lG l k c) r
theorem yP (k v:ByteArray) (n:Nat):∀ (ps l:bN) (c:Nat),fO l c (ps++[(k,v,n)])=(fZ (fO l c ps).1 k v (fO l c ps).2,lG (fO l c ps).1 k (fO l c ps).2)
 | [],l,c=>rfl
 | (k',a,m)::r,l,c=>yP k v n r _ _
theorem G8:∀ (ps l:bN) (c:Nat),dR l c→fB l→dR (fO l c ps).1 (fO l c ps).2∧fB (fO l c ps).1
 | [],l,c,h1,h2=>⟨h1,h2⟩
 | (k,v,n)::r,l,c,h1,h2=>G8 r _ _ (A3 h1 k v) (A4 h2 k v c)
theorem MT (k2:ByteArray):∀ (ps l:bN) (c:Nat),fB ps→cS (fO l c ps).1 k2=(cS ps k2).orElse fun _=>cS l k2
 | [],l,c,_=>rfl
 | (k,v,n)::r,l,c,h=>by
  have hn:k∉r.map Prod.fst∧fB r:=List.nodup_cons.1 h;show cS (fO (fZ l k v c) (lG l k c) r).1 k2=_;rw [MT k2 r _ _ hn.2,uY,cS];by_cases h2:k=k2
  ·subst h2;rw [XH rfl,XH rfl,gS.2 hn.1];rfl
  rw [XG h2,XG h2]
theorem NK {a b:bN} (h:a.Perm b) (k:ByteArray):fB a→cS a k=cS b k:=by
 induction h with
 | nil=>exact fun _=>rfl
 | cons x h ih =>
  obtain ⟨k',v,n⟩:=x;intro hn;rw [cS,cS,ih (List.nodup_cons.1 hn).2]
 | swap x y l =>
  obtain ⟨k1,v1,n1⟩:=x;obtain ⟨k2,v2,n2⟩:=y;intro hn;rw [cS,cS,cS,cS];by_cases e1:k2=k
  ·by_cases e2:k1=k
   ·exact absurd (e1.trans e2.symm) (by have:=(List.nodup_cons.1 hn).1;intro e;subst e;exact this (XU.2 (.inl rfl)))
   rw [XH e1,XG e2,XH e1]
  rw [XG e1,XG e1]
 | trans h1 h2 ih1 ih2=>exact fun hn=>(ih1 hn).trans (ih2 ((h1.map _).nodup_iff.1 hn))
def gK (l:bN) (s:List Nat):bN:=s.filterMap fun i=>l[i]?
theorem tX {l:bN} {s:List Nat} {i:Nat} {p:ByteArray×ByteArray×Nat} (h:l[i]?=some p):gK l (s++[i])=gK l s++[p]:=by rw [gK,gK,List.filterMap_append,List.filterMap_cons,h];rfl
theorem AF:∀ l:bN,gK l (List.range l.length)=l:=fun l=>by
 refine List.ext_getElem? fun i=>?_;have h:∀ n,n≤l.length→gK l (List.range n)=l.take n:=by
  intro n
  induction n with
  | zero=>intro _;rfl
  | succ n ih =>
   intro hn;rw [List.range_succ,tX (XN (show n < l.length by omega)),ih (by omega),List.take_add_one,XN (show n < l.length by omega)];rfl
 rw [h _ (XO _),List.take_length]
theorem FA {l:bN} {s:List Nat} (hd:s.Nodup) (hb:∀ i,i∈s→i < l.length) (ha:∀ i,i < l.length→i∈s):(gK l s).Perm l:=by have hp:s.Perm (List.range l.length):=(List.perm_ext_iff_of_nodup hd List.nodup_range).2 fun i=>⟨fun h=>List.mem_range.2 (hb i h),fun h=>ha i (List.mem_range.1 h)⟩;have:=hp.filterMap (fun i=>l[i]?);rw [show (List.range l.length).filterMap (fun i=>l[i]?)=l from AF l] at this;exact this
theorem wM {id:Nat} {o:Ob} {H:aA} (h:H.get id=some o) (j:Nat):aA.get ((id,o)::H) j=H.get j:=by
 by_cases e:j=id
 ·subst e;rw [h];exact get_cons_same _ _ _
 exact get_cons_other _ _ e
abbrev pO (l:bN) (c:Nat) (ps:bN):Ob:=bJ (fO l c ps).1 (fO l c ps).2
theorem U7 (l l2:bN) (c c2:Nat) (H:aA) (hl2:l2.length < 1099511627776) (hst:dR l2 c2) (h0:H.get 1101=some (bJ l c)) (h1:H.get 950=some (bJ l2 c2)) (h6:H.get 946=none) (hcl:bF H) :
  aJ Tryz.prog 104 [.mp 1101 0,.mp 950 0] H (fun r H'=>r=.tup []∧∃ ps,ps.Perm l2∧H'=(1101,pO l c ps)::H):=by
 have g1:∀ o o2,aA.get ((946,o)::(1101,o2)::H) 950=some (bJ l2 c2):=fun o o2=>by rw [get_cons_other _ _ (by decide),get_cons_other _ _ (by decide)];exact h1
 have g2:∀ o o2,aA.get ((946,o)::(1101,o2)::H) 1101=some o2:=fun o o2=>by rw [get_cons_other _ _ (by decide)];exact get_cons_same _ _ _
 refine Bd func104 rfl ntmps104<|Sr<|Dd aE<|Dd (by exact u3 (q:=946) (κ:=eE) (l:=bL l2) rfl aT rfl h1 rfl rfl rfl h6)<|Zz<|aM ?_;refine bB (σ:=List Nat) (fun s=>([(0,.mp 1101 0),(7,.it 946 0)],(946,uZ 950 l2 c2 s)::(1101,pO l c (gK l2 s))::H)) (fun s=>s.Nodup∧∀ i,i∈s→i < l2.length) (fun s=>l2.length - s.length) [] ⟨List.nodup_nil,by simp⟩ ?_ ?_
 ·exact bY.get' ⟨⟨_,rfl,rfl⟩,⟨_,rfl,rfl⟩,trivial⟩ (fun j=>by
   by_cases e:j=946
   ·subst e;rw [get_cons_same];exact(get_cons_same _ _ _).symm
   rw [get_cons_other _ _ e,get_cons_other _ _ e];exact wM h0 j)
 rintro s ⟨hd,hb⟩;have hsl:s.length≤l2.length:=gR _ _ hd hb;refine Sq<|Rg ?_;refine iN rfl rfl (BB (κ:=eE) (l:=bL l2) rfl rfl (get_cons_same _ _ _) rfl rfl (g1 _ _) rfl rfl rfl (XO _) (XO _)) ?_;rintro _ _ (⟨rfl,rfl,hn0⟩|⟨hni,hnp,hn1,hn2,rfl,rfl⟩)
 ·refine Dd eB<|Zz<|Sq ?_;refine Cn ?_ ?_<;>intro hc1
  ·cases hc1
  refine a6 ?_;have hall:∀ i,i < l2.length→i∈s:=fun i hi=>by
   have hq:(bL l2)[i]?=some ((l2[i]).1,sv (l2[i]).2.1,(l2[i]).2.2):=by rw [bL,X2,XN hi];rfl
   have:=hn0 _ (XS hq);obtain ⟨j,hj,e⟩:=List.mem_map.1 this;have e2:gJ l2 j=gJ l2 i:=by
    rw [e,gJ,XN hi];rfl
   have:=zZ hst (hb j hj) hi e2
   rwa [this] at hj
  exact iV (H':=(1101,pO l c (gK l2 s))::H) (.inl rfl) rfl (Fin.pops' [(946,uZ 950 l2 c2 s)] (by simp) (bF.app (D:=[(1101,pO l c (gK l2 s))]) (j6.spec ⟨aQ _ _ _,trivial⟩) hcl) (by simp [get_cons_other,h6]) (by simp [get_cons_other,h6])) ⟨rfl,_,FA hd hb hall,rfl⟩
 obtain ⟨p,hp,rfl⟩:=oW hn1;have hlt:hni < l2.length:=(XM.1 hp).1;have hst2:gJ l2 hni=p.2.2:=by rw [gJ,hp];rfl
 have hn3:hni∉s:=fun hm=>hn2 (List.mem_map.2 ⟨hni,hm,hst2⟩);have hb2:∀ i,i∈s++[hni]→i < l2.length:=fun i hi=>by
  rcases List.mem_append.1 hi with h|h
  ·exact hb i h
  rw [XL] at h;omega
 have hd2:(s++[hni]).Nodup:=List.nodup_append.2 ⟨hd,by simp,fun a ha b hb e=>by rw [XL] at hb;subst hb;subst e;exact hn3 ha⟩;have hlen:=gR _ _ hd2 hb2;rw [XJ,List.length_singleton] at hlen;have hit:uZ 950 l2 c2 (s++[hni])=⟨0,0,0,dV (.mp 950 0) c2 c2 (s.map (gJ l2)++[p.2.2])⟩:=by rw [uZ,List.map_append,List.map_cons,List.map_nil,hst2]
 have hpk:pO l c (gK l2 (s++[hni]))=⟨0,0,lG (fO l c (gK l2 s)).1 p.1 (fO l c (gK l2 s)).2,fE eE (bL (fZ (fO l c (gK l2 s)).1 p.1 p.2.1 (fO l c (gK l2 s)).2))⟩:=by rw [pO,tX hp,yP]
 refine Dd eB<|Zz<|Sq ?_;refine Cn ?_ ?_<;>intro hc2
 ·refine aG<|aM<|Sr<|Dd (by exact u4 (κ:=eE) (seen:=s.map (gJ l2)) (p:=(p.1,sv p.2.1,p.2.2)) (since:=c2) rfl rfl (get_cons_same _ _ _) rfl rfl ((get_cons_other _ _ (by decide)).trans (g1 _ _)) rfl rfl rfl hn1)<|Dd eB<|Dd eB<|Dd aS<|Dd aS<|Zz<|Rg<|Dd aE<|Dd aE<|Dd aE<|Uu (by exact f0 (κ:=eE) (l:=bL (fO l c (gK l2 s)).1) (.inl rfl) aT aI rfl ((get_cons_other _ _ (by decide)).trans (g2 _ _)) rfl rfl rfl rfl rfl (k9 _ _ _ _) (mR _ _ _))<|Zz ?_;refine⟨s++[hni],⟨hd2,hb2⟩,by rw [XJ,List.length_singleton];omega,?_⟩;rw [hit,hpk];exact bY.get' ⟨⟨_,rfl,rfl⟩,⟨_,rfl,rfl⟩,trivial⟩ (fun j=>l9 [_,_] [_,_,_,_] (by repeat(first|exact trivial|refine⟨rfl,?_⟩)) j)
 cases hc2
def hX (l:bN) (P:List ByteArray):bN:=P.foldl p9 l
theorem s9 {l:bN} {P:List ByteArray} {k:Nat} {s:ByteArray} (h:P[k]?=some s):hX l (P.take (k+1))=p9 (hX l (P.take k)) s:=by rw [hX,hX,cR h,List.foldl_append];rfl
theorem u7:∀ (P:List ByteArray) (l:bN) (c:Nat),dR l c→fB l→dR (hX l P) c∧fB (hX l P)
 | [],l,c,h1,h2=>⟨h1,h2⟩
 | k::r,l,c,h1,h2=>u7 r _ c (Q9 h1 k) (HN h2 k)
theorem F2 (k2:ByteArray):∀ (P:List ByteArray) (l:bN),fB l→cS (hX l P) k2=if RH P k2=true then none else cS l k2
 | [],l,_=>by rw [XG (fun h=>by have:=gF.1 h;cases this)];rfl
 | k::r,l,h=>by
  show cS (hX (p9 l k) r) k2=_;rw [F2 k2 r _ (HN h k),HK k k2 h];by_cases h1:RH r k2=true
  ·rw [XH h1,XH (gF.2 (XU.2 (.inr (gF.1 h1))))]
  rw [XG h1];by_cases h2:k=k2
  ·rw [XH h2,XH (gF.2 (XU.2 (.inl h2.symm)))]
  rw [XG h2,XG (fun hm=>by rcases XU.1 (gF.1 hm)with e|e;exact h2 e.symm;exact h1 (gF.2 e))]
theorem O6 (l l2:bN) (c c2:Nat) (P:List ByteArray) (H:aA) (hl2:l2.length < 1099511627776) (hP:P.length < 1099511627776) (hst:dR l2 c2) (h0:H.get 1101=some (bJ l c)) (h1:H.get 950=some (bJ l2 c2)) (h6:H.get 946=none) (hcl:bF H) :
  aJ Tryz.prog 53 [.mp 1101 0,.mp 950 0,.pv (aW P)] H (fun r H'=>r=.tup []∧∃ ps,ps.Perm l2∧H'=(1101,bJ (hX (fO l c ps).1 P) (fO l c ps).2)::H):=by
 have hml:(P.map encStr).length=P.length:=XI _;refine Bd func53 rfl ntmps53<|Sr<|Dd aE<|Dm ?_;refine iN rfl rfl (aB rfl rfl call104 rfl (U7 l l2 c c2 H hl2 hst h0 h1 h6 hcl)) ?_;rintro r H' ⟨rfl,ps,hps,rfl⟩;refine Zz<|Sr<|Dd aE<|Dd (j2 aO)<|Dd aE<|Zz<|aM ?_;refine bB (σ:=Nat) (fun k=>([(0,.mp 1101 0),(11,.pv (aW P)),(12,iv ((P.map encStr).length:Int)),(13,iv (k:Int))],(1101,bJ (hX (fO l c ps).1 (P.take k)) (fO l c ps).2)::H)) (fun k=>k≤P.length) (fun k=>P.length - k) 0 (XZ _) ?_ ?_
 ·exact E0
 intro k hk;refine Sr<|Dd dG<|Zz<|Sq ?_;refine Cn ?_ ?_<;>intro hc1
 ·have hlt:k < P.length:=by have:=XE hc1;omega
  obtain ⟨s,hs⟩:=aY hlt;have hi:=cG (f:=encStr) hs;refine aG<|Sq<|aM<|Sr<|Dd (B1 bR)<|Dd (kL aU)<|Dd aS<|Zz<|Rg<|Dd aE<|Dd aE<|Uu (by exact wO (κ:=eE) (l:=bL (hX (fO l c ps).1 (P.take k))) rfl aT aI rfl (get_cons_same _ _ _) rfl rfl rfl rfl (u0 s _))<|Zz<|Rg<|Dd kU<|Dd aE<|Zz ?_;refine⟨k+1,by omega,by omega,?_⟩;rw [s9 hs];exact bY.get' ⟨⟨_,rfl,rfl⟩,⟨_,rfl,rfl⟩,⟨_,rfl,rfl⟩,⟨_,rfl,by rfl⟩,trivial⟩ (fun j=>gG _ _ _ _ j)
 have hge:k=P.length:=by have:=XF hc1;omega
 subst hge;rw [List.take_length];refine a6 ?_;exact iV (H':=(1101,bJ (hX (fO l c ps).1 P) (fO l c ps).2)::H) (.inl rfl) rfl Fin.refl ⟨rfl,ps,hps,rfl⟩
end Go.Proofs.YtmkgeogoojcciaaGreatDoor
