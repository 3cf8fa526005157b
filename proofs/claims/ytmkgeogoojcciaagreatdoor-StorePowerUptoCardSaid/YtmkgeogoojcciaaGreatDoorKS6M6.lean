/-
  Parts of the proof: rules of an abstract program logic, contracts of functions, plain laws. Conditions: each theorem's own.
-/
import Derived.Test.YtmkgeogoojcciaaGreatDoorKS6M5
import Derived.Lib.AtoiAllCases
set_option linter.unusedVariables false
set_option linter.unusedSimpArgs false
set_option maxRecDepth 100000
set_option maxHeartbeats 8000000
namespace Go.Proofs
theorem aA3:type_of% Tryz.call105:=Tryz.call105
theorem wM:type_of% Tryz.call41:=Tryz.call41
theorem qJ:type_of% Tryz.call43:=Tryz.call43
theorem GG:type_of% Tryz.call48:=Tryz.call48
theorem aAi:type_of% Tryz.call55:=Tryz.call55
theorem UI:type_of% Tryz.call82:=Tryz.call82
theorem UH:type_of% Tryz.call83:=Tryz.call83
theorem aAh:type_of% Tryz.call85:=Tryz.call85
theorem qI:type_of% Tryz.call90:=Tryz.call90
theorem qG:type_of% Tryz.call99:=Tryz.call99
theorem oD:type_of% Tryz.isAgg29:=Tryz.isAgg29
theorem bW:type_of% Tryz.isAgg33:=Tryz.isAgg33
theorem dJ:type_of% Tryz.isAgg70:=Tryz.isAgg70
theorem aT:type_of% Tryz.underlying33:=Tryz.underlying33
end Go.Proofs
namespace Go.Proofs.YtmkgeogoojcciaaGreatDoor
open Go.Proofs.Tryz
open Go.Abs Go.Lib
theorem TJ {s:ByteArray} (h:iJ s=false) : -9223372036854775808≤dP s∧dP s≤9223372036854775807:=by
 rw [iJ] at h;rw [dP,rT];cases e:Lib.atoiAll s.data.toList with
 | ok v=>exact Lib.atoiAll_bounds e
 | range=>rw [e] at h;cases h
 | _=>rw [e] at h;cases h
theorem SR (s:ByteArray) (i j:Nat):(s.extract i j).size≤s.size:=by rw [ByteArray.size_extract];omega
theorem nO {s:DSt} (hs:DOk s) {n:Nat} (hn:n < s.cells.length):(bP s n).size=64:=by
 rw [bP];cases e:s.q.reverse.find? (pW n)with
 | some p =>
  have:=List.mem_of_find?_eq_some e;exact(hs.q p (List.mem_reverse.1 this)).2
 | none =>
  rw [aBL hn];exact hs.c _ (List.getElem_mem hn)
theorem zA {s:DSt} (hs:DOk s) (hoff:s.off=false) {n:Nat} (hn:n < s.cells.length):∀ H,JI H (aY s)→aL Tryz.prog 41 [.ref 1000 0 0 0,iv (n:Int)] H (fun r H'=>r=.tup [sv (bP s n),iv 0]∧H'=H):=fun H hH=>by
 have h:=aL.frameS (RB s (n:Int) hs) hH.sub (vY s) (by simp;rfl);have e:fU s (n:Int)=true:=by rw [kW];exact decide_eq_true hn
 rw [show BM s (n:Int)=bP s n by rw [BM,hoff,aBE (by decide),aBF e,aBR],show pP s (n:Int)=0 by rw [pP,hoff,aBE (by decide),aBF e]] at h;exact h
def mS (t:ByteArray):Bool:=iJ (t.extract 16 24)||decide (dP (t.extract 16 24) < 0)
def N3 (t:ByteArray):Nat:=(dP (t.extract 16 24)).toNat
def qC (t:ByteArray):Nat:=if mS t then 0 else N3 t / 10000000
def qB (t:ByteArray):Nat:=if mS t then 0 else N3 t % 10000000
def jX (k place:Nat) (t:ByteArray):Bool:=!mS t&&((decide (qC t < 2)&&decide (qB t≤k))&&decide (ofL (iW place (qC t) (qB t))=t))
theorem vC (s:DSt) (hs:DOk s) (hoff:s.off=false) (k a n place:Nat) (b:Bool) (l:List (ByteArray×ByteArray×Nat)) (c:Nat) (hp:place < s.cells.length) (hk:k < 10000000) :
  aL Tryz.prog 42 [.ref 1100 0 0 0,iv (place:Int)] (sH s (cI k a n b) (bK l c)) (fun r H'=>r=.tup [.agg [iv (qC (bP s place):Int),iv (qB (bP s place):Int)],bv (jX k place (bP s place))]∧H'=sH s (cI k a n b) (bK l c)):=by
 have ht:=nO hs hp;have hrd:=zA hs hoff hp;have hpl:place < 1000000000000:=by have:=hs.n2;omega
 obtain ⟨t,hT⟩:∃ t,t=bP s place:=⟨_,rfl⟩;rw [← hT] at ht hrd ⊢;clear hT;obtain ⟨x,hx⟩:∃ x,x=t.extract 16 24:=⟨_,rfl⟩;have hxs:x.size < 1099511627776:=by rw [hx];have:=SR t 16 24;omega
 have hat:=fun H=>zP x hxs H;have hbd:=TJ (s:=x);have hpb:mS t=(iJ x||decide (dP x < 0)):=by rw [mS,hx]
 have hpu:N3 t=(dP x).toNat:=by rw [N3,hx]
 obtain ⟨v,hv⟩:∃ v,v=dP x:=⟨_,rfl⟩;obtain ⟨e,he⟩:∃ e,e=iJ x:=⟨_,rfl⟩;simp only [← hv,← he] at hat hbd hpb hpu;clear hv he;refine Bd func42 rfl ntmps42<|Sr<|Dd (by exact cR (id:=4) rfl P7 rfl rfl)<|Dd aS<|Zz<|Sr<|Dd aF<|Dd fP<|Dd (dV uB)<|Dd (eG oD)<|Dd aF<|Dd (by exact aB rfl rfl wM rfl (hrd _ ⟨rfl,rfl,rfl,rfl,trivial⟩))<|Dd aF<|Dd eP<|Dd eP<|Dd aS<|Dd aS<|Zz<|Sr<|Dd aF<|Dd (by exact dB (l:=16) (h:=24) rfl aI rfl rfl rfl (by omega) (by omega) hx.symm)<|Dd (by exact aB rfl rfl UI rfl (hat _))<|Dd aF<|Dd eP<|Dd eP<|Dd aS<|Dd aS<|Zz<|Sq<|Sq ?_;refine dL (t:=31) (n:=7) (X:=e||decide (v < 0)) ?_ ?_
 ·all_goals refine Dd aF ?_
  all_goals refine Dd (by exact vF rfl jJ rfl)<|Dm ?_
  all_goals refine Sp 28 (fun h28=>?_) fun h28=>?_
  all_goals try contradiction
  all_goals first|refine Fo<|Fo ?_|refine On aF<|On dZ ?_
  all_goals refine Dd iM<|Zz ?_
  all_goals(exact⟨⟨_,rfl,by(rw [h28];rfl)⟩,rfl,rfl,rfl⟩)
 refine Cn ?_ ?_<;>intro hc1
 ·have hq:=hc1;have hb:mS t=true:=hpb.trans hq;refine Sr<|Dd (P3 PE)<|Uu (sS sizeOf70)<|Dd aS<|Zz<|aM ?_;refine gQ (H':=(sH s (cI k a n b) (bK l c))) (.inr rfl) rfl (rl' dJ sizeOf70) (aH rfl) (Fin.wk (r:=.tup [.agg [iv 0,iv 0],bv false]) (by simp) ⟨⟨_,rfl,rfl⟩,(by exact aE _ _ rfl rfl rfl),⟨_,rfl,rfl⟩,(by exact aC _ _),⟨_,rfl,rfl⟩,(by exact aK _ _ _),⟨_,rfl,rfl⟩,(by exact aJ _ _),⟨_,rfl,rfl⟩,(by exact bI rfl rfl),⟨_,rfl,rfl⟩,(by exact aQ _ _ _),trivial⟩ ⟨rfl,rfl,rfl,rfl,rfl,rfl,trivial⟩) ?_;exact⟨by rw [qC,qB,jX,hb];rfl,rfl⟩
 have hq:=hc1;have hb:mS t=false:=hpb.trans hq;rw [aB2,aBO] at hq;obtain ⟨u,rfl⟩:∃ u:Nat,v=(u:Int):=⟨v.toNat,by omega⟩;have hbu:=hbd hq.1;rw [aBR] at hpu;have h34:IntKind.i64.wrap ((u:Int).tdiv 10000000)=((u / 10000000:Nat):Int):=by
  rw [Int.tdiv_eq_ediv_of_nonneg (by omega),jS (by omega) (by omega)];omega
 have h36:(u:Int).tmod 10000000=((u % 10000000:Nat):Int):=by
  rw [Int.tmod_eq_emod_of_nonneg (by omega)];omega
 have hA:qC t=u / 10000000:=by rw [qC,hb,aBE (by decide),hpu]
 have hN:qB t=u % 10000000:=by rw [qB,hb,aBE (by decide),hpu]
 rw [jX,hb,hA,hN];have hnn:u % 10000000 < 10000000:=Nat.mod_lt _ (by decide);obtain ⟨p,hpe⟩:∃ p,p=u / 10000000:=⟨_,rfl⟩;obtain ⟨q,hqe⟩:∃ q,q=u % 10000000:=⟨_,rfl⟩;rw [← hpe] at h34;rw [← hqe] at h36 hnn;rw [← hpe,← hqe];clear hpe hqe;by_cases h2:p < 2
 ·have g42:decide ((p:Int) < 2)=true:=decide_eq_true (by omega);have hhd:=fun H=>FT place p q hpl (by omega) (by omega) H;by_cases h3:q≤k
  ·have g51:decide ((q:Int)≤(k:Int))=true:=decide_eq_true (by omega);refine aG<|Sr<|Dd aF<|Dd (by exact pD rfl rfl rfl (by decide) h34)<|Dd aF<|Dd (by exact zD rfl rfl rfl (by decide) h36)<|Dd (P3 PE)<|Dd (by exact cR (id:=10) rfl P7 rfl rfl)<|Uu (sS sizeOf70)<|Zz<|Sq<|bR follows<|Cr [10] (fun H1 hH=>by exact dC rfl dJ sizeOf70 rfl ((hH _ rfl).trans rfl) rfl rfl rfl rfl)<|Cr [10] (fun _ h=>fh uC h)<|Cr [10] (fun _ h=>lh aU h)<|Cr [] (fun _ _=>dZ)<|Cr [] (fun _ _=>aF) ?_;refine cB (r:=⟨_,some [10],[]⟩) (gC rfl rfl rfl (by assumption) (fun H1 hH=>by exact(by exact gG rfl nV rfl ((hH _ rfl).trans rfl) rfl rfl))) rfl ?_;refine cB (r:=⟨_,some [10],[]⟩) (gC rfl rfl rfl (by assumption) (fun H1 hH=>by exact(by exact aX rfl aU rfl ((hH _ rfl).trans rfl) rfl rfl rfl))) rfl ?_;refine cB (r:=⟨_,some [1100],[]⟩) (gC rfl rfl rfl (by assumption) (fun H1 hH=>by exact oL rfl rfl)) rfl ?_;refine cB (r:=⟨_,some [1100],[]⟩) (gC rfl rfl rfl (by assumption) (fun H1 hH=>by exact(by exact bV rfl rfl ((hH _ rfl).trans rfl) rfl))) rfl ?_;refine cB (r:=⟨_,some [1100],[]⟩) (gC rfl rfl rfl (by assumption) (fun H1 hH=>by exact(by exact gG rfl uA rfl ((hH _ rfl).trans rfl) rfl rfl))) rfl ?_;refine cB (r:=⟨_,some [1100],[]⟩) (gC rfl rfl rfl (by assumption) (fun H1 hH=>by exact(by exact aX rfl aU rfl ((hH _ rfl).trans rfl) rfl rfl rfl))) rfl ?_;refine cB (r:=⟨_,some [],[]⟩) (gC rfl rfl rfl (by assumption) (fun H1 hH=>by exact FB rfl rfl rfl)) rfl ?_;refine Cr [] (fun _ _=>U2)<|Cr [] (fun _ _=>aF) ?_;refine cB (r:=⟨_,some [],[]⟩) (gC rfl rfl rfl (by assumption) (fun H1 hH=>by exact oL rfl rfl)) rfl ?_;refine cB (r:=⟨_,some [10],[]⟩) (gC rfl rfl rfl (by assumption) (fun H1 hH=>by exact(by exact dC rfl dJ sizeOf70 rfl ((hH _ rfl).trans rfl) rfl rfl rfl rfl))) rfl ?_;refine cB (r:=⟨_,some [],[]⟩) (gC rfl rfl rfl (by assumption) (fun H1 hH=>by exact aB rfl rfl UH rfl (hhd _))) rfl ?_;refine cB (r:=⟨_,some [],[]⟩) (gC rfl rfl rfl (by assumption) (fun H1 hH=>by exact oL rfl rfl)) rfl ?_;refine cB (r:=⟨_,some [],[]⟩) (gC rfl rfl rfl (by assumption) (fun H1 hH=>by exact AP rfl rfl rfl)) rfl ?_;refine Cr [] (fun _ _=>U2)<|Cp [4] (fun H1 hH=>by exact jM rfl sizeOf70 rfl rfl rfl rfl ((hH _ rfl).trans rfl) rfl rfl rfl)<|Cr [] (fun _ _=>aS)<|dG<|Kr<|aM ?_;refine gQ (H':=(sH s (cI k a n b) (bK l c))) (.inr rfl) rfl (rl' dJ sizeOf70) (aH rfl) (Fin.wk (r:=.tup [.agg [iv (p:Int),iv (q:Int)],bv (decide (ofL (iW place p q)=t))]) (by simp) ⟨⟨_,rfl,rfl⟩,(by exact aE _ _ rfl rfl rfl),⟨_,rfl,rfl⟩,(by exact aC _ _),⟨_,rfl,rfl⟩,(by exact aK _ _ _),⟨_,rfl,rfl⟩,(by exact aJ _ _),⟨_,rfl,rfl⟩,(by exact bI rfl rfl),⟨_,rfl,rfl⟩,(by exact aQ _ _ _),trivial⟩ ⟨rfl,rfl,rfl,rfl,rfl,rfl,trivial⟩) ?_;exact⟨by rw [decide_eq_true h2,decide_eq_true h3];rfl,rfl⟩
  have g51:decide ((q:Int)≤(k:Int))=false:=decide_eq_false (by omega);refine aG<|Sr<|Dd aF<|Dd (by exact pD rfl rfl rfl (by decide) h34)<|Dd aF<|Dd (by exact zD rfl rfl rfl (by decide) h36)<|Dd (P3 PE)<|Dd (by exact cR (id:=10) rfl P7 rfl rfl)<|Uu (sS sizeOf70)<|Zz<|Sq<|bR follows<|Cr [10] (fun H1 hH=>by exact dC rfl dJ sizeOf70 rfl ((hH _ rfl).trans rfl) rfl rfl rfl rfl)<|Cr [10] (fun _ h=>fh uC h)<|Cr [10] (fun _ h=>lh aU h)<|Cr [] (fun _ _=>dZ)<|Cr [] (fun _ _=>aF) ?_;refine cB (r:=⟨_,some [10],[]⟩) (gC rfl rfl rfl (by assumption) (fun H1 hH=>by exact(by exact gG rfl nV rfl ((hH _ rfl).trans rfl) rfl rfl))) rfl ?_;refine cB (r:=⟨_,some [10],[]⟩) (gC rfl rfl rfl (by assumption) (fun H1 hH=>by exact(by exact aX rfl aU rfl ((hH _ rfl).trans rfl) rfl rfl rfl))) rfl ?_;refine cB (r:=⟨_,some [1100],[]⟩) (gC rfl rfl rfl (by assumption) (fun H1 hH=>by exact oL rfl rfl)) rfl ?_;refine cB (r:=⟨_,some [1100],[]⟩) (gC rfl rfl rfl (by assumption) (fun H1 hH=>by exact(by exact bV rfl rfl ((hH _ rfl).trans rfl) rfl))) rfl ?_;refine cB (r:=⟨_,some [1100],[]⟩) (gC rfl rfl rfl (by assumption) (fun H1 hH=>by exact(by exact gG rfl uA rfl ((hH _ rfl).trans rfl) rfl rfl))) rfl ?_;refine cB (r:=⟨_,some [1100],[]⟩) (gC rfl rfl rfl (by assumption) (fun H1 hH=>by exact(by exact aX rfl aU rfl ((hH _ rfl).trans rfl) rfl rfl rfl))) rfl ?_;refine cB (r:=⟨_,some [],[]⟩) (gC rfl rfl rfl (by assumption) (fun H1 hH=>by exact FB rfl rfl rfl)) rfl ?_;refine Cr [] (fun _ _=>U2)<|Cr [] (fun _ _=>aF)<|Ot<|Ot<|Ot<|Ot<|Ot<|Cr [] (fun _ _=>L4)<|Cp [4] (fun H1 hH=>by exact jM rfl sizeOf70 rfl rfl rfl rfl ((hH _ rfl).trans rfl) rfl rfl rfl)<|Cr [] (fun _ _=>aS)<|dG<|Kr<|aM ?_;refine gQ (H':=(sH s (cI k a n b) (bK l c))) (.inr rfl) rfl (rl' dJ sizeOf70) (aH rfl) (Fin.wk (r:=.tup [.agg [iv (p:Int),iv (q:Int)],bv false]) (by simp) ⟨⟨_,rfl,rfl⟩,(by exact aE _ _ rfl rfl rfl),⟨_,rfl,rfl⟩,(by exact aC _ _),⟨_,rfl,rfl⟩,(by exact aK _ _ _),⟨_,rfl,rfl⟩,(by exact aJ _ _),⟨_,rfl,rfl⟩,(by exact bI rfl rfl),⟨_,rfl,rfl⟩,(by exact aQ _ _ _),trivial⟩ ⟨rfl,rfl,rfl,rfl,rfl,rfl,trivial⟩) ?_;exact⟨by rw [decide_eq_true h2,decide_eq_false h3];rfl,rfl⟩
 have g42:decide ((p:Int) < 2)=false:=decide_eq_false (by omega);refine aG<|Sr<|Dd aF<|Dd (by exact pD rfl rfl rfl (by decide) h34)<|Dd aF<|Dd (by exact zD rfl rfl rfl (by decide) h36)<|Dd (P3 PE)<|Dd (by exact cR (id:=10) rfl P7 rfl rfl)<|Uu (sS sizeOf70)<|Zz<|Sq<|bR follows<|Cr [10] (fun H1 hH=>by exact dC rfl dJ sizeOf70 rfl ((hH _ rfl).trans rfl) rfl rfl rfl rfl)<|Cr [10] (fun _ h=>fh uC h)<|Cr [10] (fun _ h=>lh aU h)<|Cr [] (fun _ _=>dZ)<|Cr [] (fun _ _=>aF)<|Ot<|Ot<|Ot<|Ot<|Ot<|Ot<|Ot<|Cr [] (fun _ _=>L4)<|Cr [] (fun _ _=>aF)<|Ot<|Ot<|Ot<|Ot<|Ot<|Cr [] (fun _ _=>iM)<|Cp [4] (fun H1 hH=>by exact jM rfl sizeOf70 rfl rfl rfl rfl ((hH _ rfl).trans rfl) rfl rfl rfl)<|Cr [] (fun _ _=>aS)<|dG<|Kr<|aM ?_;refine gQ (H':=(sH s (cI k a n b) (bK l c))) (.inr rfl) rfl (rl' dJ sizeOf70) (aH rfl) (Fin.wk (r:=.tup [.agg [iv (p:Int),iv (q:Int)],bv false]) (by simp) ⟨⟨_,rfl,rfl⟩,(by exact aE _ _ rfl rfl rfl),⟨_,rfl,rfl⟩,(by exact aC _ _),⟨_,rfl,rfl⟩,(by exact aK _ _ _),⟨_,rfl,rfl⟩,(by exact aJ _ _),⟨_,rfl,rfl⟩,(by exact bI rfl rfl),⟨_,rfl,rfl⟩,(by exact aQ _ _ _),trivial⟩ ⟨rfl,rfl,rfl,rfl,rfl,rfl,trivial⟩) ?_;exact⟨by rw [decide_eq_false h2];rfl,rfl⟩
def eR (place:Nat) (p:List UInt8):List UInt8:=gN place (dg p.length 2++p)
def DH (t:ByteArray):Bool:=(iJ (t.extract 16 18)||decide (dP (t.extract 16 18) < 1))||decide (46 < dP (t.extract 16 18))
def RK (t:ByteArray):ByteArray:=t.extract 18 (18+(dP (t.extract 16 18)).toNat)
def HI (place:Nat) (t:ByteArray):ByteArray:=if DH t then sNil else if ofL (eR place (RK t).data.toList)=t then RK t else sNil
theorem U3 (s:DSt) (hs:DOk s) (hoff:s.off=false) (k a n place:Nat) (b:Bool) (l:List (ByteArray×ByteArray×Nat)) (c:Nat) (hp:place < s.cells.length) :
  aL Tryz.prog 84 [.ref 1100 0 0 0,iv (place:Int)] (sH s (cI k a n b) (bK l c)) (fun r H'=>r=sv (HI place (bP s place))∧H'=sH s (cI k a n b) (bK l c)):=by
 have ht:=nO hs hp;have hrd:=zA hs hoff hp;have hpl:place < 1000000000000:=by have:=hs.n2;omega
 obtain ⟨t,hT⟩:∃ t,t=bP s place:=⟨_,rfl⟩;rw [← hT] at ht hrd ⊢;clear hT;obtain ⟨x,hx⟩:∃ x,x=t.extract 16 18:=⟨_,rfl⟩;have hxs:x.size < 1099511627776:=by rw [hx];have:=SR t 16 18;omega
 have hat:=fun H=>zP x hxs H;have hpb:DH t=((iJ x||decide (dP x < 1))||decide (46 < dP x)):=by rw [DH,hx]
 have hpu:RK t=t.extract 18 (18+(dP x).toNat):=by rw [RK,hx]
 obtain ⟨v,hv⟩:∃ v,v=dP x:=⟨_,rfl⟩;obtain ⟨e,he⟩:∃ e,e=iJ x:=⟨_,rfl⟩;simp only [← hv,← he] at hat hpb hpu;clear hv he;rw [HI];refine Bd func84 rfl ntmps84<|Sr<|Dd aS<|Zz<|Sr<|Dd aF<|Dd fP<|Dd (dV uB)<|Dd (eG oD)<|Dd aF<|Dd (by exact aB rfl rfl wM rfl (hrd _ ⟨rfl,rfl,rfl,rfl,trivial⟩))<|Dd aF<|Dd eP<|Dd eP<|Dd aS<|Dd aS<|Zz<|Sr<|Dd aF<|Dd (by exact dB (l:=16) (h:=18) rfl aI rfl rfl rfl (by omega) (by omega) hx.symm)<|Dd (by exact aB rfl rfl UI rfl (hat _))<|Dd aF<|Dd eP<|Dd eP<|Dd aS<|Dd aS<|Zz<|Sq<|Sq ?_;refine dL (t:=34) (n:=12) (X:=(e||decide (v < 1))||decide (46 < v)) ?_ ?_
 ·all_goals refine Dd aF ?_
  all_goals refine Dd (by exact vF rfl jJ rfl)<|Dm ?_
  all_goals refine Sp 27 (fun h27=>?_) fun h27=>?_
  all_goals try contradiction
  all_goals first|refine Fo<|Fo ?_|refine On aF<|On dZ ?_
  all_goals refine Dd iM<|Dm ?_
  all_goals refine Sp 31 (fun h31=>?_) fun h31=>?_
  all_goals try contradiction
  all_goals first|refine Fo<|Fo ?_|refine On aF<|On DU ?_
  all_goals refine Dd iM<|Zz ?_
  all_goals(exact⟨⟨_,rfl,by first|(rw [h27];rfl)|(rw [h27,h31];rfl)⟩,rfl,rfl,rfl⟩)
 refine Cn ?_ ?_<;>intro hc1
 ·have hq:=hc1;rw [aBF (hpb.trans hq)];refine Sr<|Dd aS<|Zz<|aM ?_;refine bF (H':=(sH s (cI k a n b) (bK l c))) (.inr rfl) rfl (aH rfl) (Fin.wk (by(simp;done)) (Hc (aE _ _ rfl rfl rfl)<|Hc (aC _ _)<|Hc (aK _ _ _)<|Hc (aJ _ _)<|Hc (bI rfl rfl)<|Hc (aQ _ _ _)<|trivial) ⟨rfl,rfl,rfl,rfl,rfl,rfl,trivial⟩) ?_;exact Qq
 have hq:=hc1;rw [aBE (by rw [hpb,hq];decide)];rw [aB2,aB2,aBO,aBO] at hq;obtain ⟨u,rfl⟩:∃ u:Nat,v=(u:Int):=⟨v.toNat,by omega⟩;rw [aBR] at hpu;have hps:(RK t).size=u:=by rw [hpu,ByteArray.size_extract];omega
 have hpl2:(RK t).data.toList.length=u:=by rw [dR,hps]
 have hof:=KB (RK t);obtain ⟨y,hy⟩:∃ y,y=RK t:=⟨_,rfl⟩;rw [← hy] at hps hpl2 hof hpu ⊢;clear hy;obtain ⟨p,hpe⟩:∃ p,p=y.data.toList:=⟨_,rfl⟩;rw [← hpe] at hpl2 hof ⊢;have h38:((18:Int)+(u:Int))=((18+u:Nat):Int):=by omega
 have e43:ofL (dg u 2)++y=ofL (dg u 2++p):=by rw [← hof];exact vK _ _
 have s43:(ofL (dg u 2)).size≤23:=by rw [bY];exact rO u 2 (by omega)
 have l43:(dg u 2++p).length≤48:=by rw [aBH,jG (mX u (by omega) (by omega)),hpl2];omega
 have hpc:eR place p=gN place (dg u 2++p):=by rw [eR,hpl2]
 refine aG<|Sr<|Dd aF<|Dd aF<|Dd (by exact cV rfl rfl rfl (show IntKind.i64.wrap ((18:Int)+(u:Int))=((18+u:Nat):Int)by rw [jS (by omega) (by omega)];omega))<|Dd (by exact dB (l:=18) (h:=18+u) rfl aI rfl rfl rfl (by omega) (by omega) hpu.symm)<|Dd aS<|Zz<|Sq<|Sr<|Dd aF<|Dd aF<|Dd (by exact aB rfl rfl BZ rfl (oS u 2 (by omega) (by omega) _))<|Dd aF<|Dd (by exact jZ rfl rfl rfl (by omega) e43)<|Dd (by exact aB rfl rfl aA4 rfl (AC place (dg u 2++p) hpl l43 _))<|Dd aF<|Dd QX<|Zz ?_;refine Cn ?_ ?_<;>intro hc2
 ·have hq2:¬ ofL (gN place (dg u 2++p))=t:=by have h:=hc2;simpa using h
  rw [hpc,aBE hq2];refine Sr<|Dd aS<|Zz<|aM ?_;refine bF (H':=(sH s (cI k a n b) (bK l c))) (.inr rfl) rfl (aH rfl) (Fin.wk (by(simp;done)) (Hc (aE _ _ rfl rfl rfl)<|Hc (aC _ _)<|Hc (aK _ _ _)<|Hc (aJ _ _)<|Hc (bI rfl rfl)<|Hc (aQ _ _ _)<|trivial) ⟨rfl,rfl,rfl,rfl,rfl,rfl,trivial⟩) ?_;exact Qq
 have hq2:ofL (gN place (dg u 2++p))=t:=by have h:=hc2;simpa using h
 rw [hpc,aBF hq2];refine aG<|Sr<|Dd aF<|Dd aS<|Zz<|aM ?_;refine bF (H':=(sH s (cI k a n b) (bK l c))) (.inr rfl) rfl (aH rfl) (Fin.wk (by(simp;done)) (Hc (aE _ _ rfl rfl rfl)<|Hc (aC _ _)<|Hc (aK _ _ _)<|Hc (aJ _ _)<|Hc (bI rfl rfl)<|Hc (aQ _ _ _)<|trivial) ⟨rfl,rfl,rfl,rfl,rfl,rfl,trivial⟩) ?_;exact Qq
theorem AK (s:DSt) (k a n ar i:Nat) (b:Bool) (l:List (ByteArray×ByteArray×Nat)) (c:Nat) (hk:k < 100000) (har:ar < 10) (hi:i < 100000000) :
  aL Tryz.prog 85 [.ref 1100 0 0 0,iv (ar:Int),iv (i:Int)] (sH s (cI k a n b) (bK l c)) (fun r H'=>r=iv ((2+ar*k+i:Nat):Int)∧H'=sH s (cI k a n b) (bK l c)):=by
 have hm:ar*k≤10*100000:=Nat.mul_le_mul (by omega) (by omega);have hmi:((ar:Int)*(k:Int))=((ar*k:Nat):Int):=by rw [Int.natCast_mul]
 refine Bd func85 rfl ntmps85<|Sr<|Dd aS<|Zz<|Sr<|Dd aF<|Dd aF<|Dd fP<|Dd (dV uA)<|Dd (eG aU)<|Dd (by exact jB rfl rfl rfl (by exact jS (by omega) (by omega)))<|Dd oE<|Dd aF<|Dd oE<|Dd aS<|Zz<|aM ?_;refine bF (H':=(sH s (cI k a n b) (bK l c))) (.inr rfl) rfl (aH rfl) (Fin.wk (by(simp;done)) (Hc (aE _ _ rfl rfl rfl)<|Hc (aC _ _)<|Hc (aK _ _ _)<|Hc (aJ _ _)<|Hc (bI rfl rfl)<|Hc (aQ _ _ _)<|trivial) ⟨rfl,rfl,rfl,rfl,rfl,rfl,trivial⟩) ?_;exact Qq
end Go.Proofs.YtmkgeogoojcciaaGreatDoor
namespace Go.Proofs.YtmkgeogoojcciaaGreatDoor
open Go.Proofs.Tryz
open Go.Abs
structure DInv (s:DSt) (n m:Nat):Prop where
 ok:DOk s
 arm:M1 s
 n:s.cells.length=n
 q:s.q.length≤m
theorem DInv.mono {s:DSt} {n m m':Nat} (h:DInv s n m) (hm:m≤m'):DInv s n m':=⟨h.ok,h.arm,h.n,Nat.le_trans h.q hm⟩
theorem VT {n:Nat} (h1:1≤n) (h2:n≤8000):DInv (nE n) n 0:=⟨V5 h1 h2,fun a w b h=>(by cases h),by simp [nE],aBM _⟩
theorem mL {a:Arm} {x w b:Int} (h:uG a=.on x w b):False:=by cases a<;>cases h
theorem oO {s:DSt} {n m:Nat} (h:DInv s n m) (w b:Int):DInv (iI s w b) n m:=by
 refine⟨MP h.ok w b,?_,?_,?_⟩<;>unfold iI<;>split
 ·exact h.arm
 ·exact fun a w b h=>(mL h).elim
 ·exact h.n
 ·show (mW s w b).length=n;rw [xJ];exact h.n
 ·exact h.q
 exact aBX _
theorem xF {s:DSt} {n m:Nat} (h:DInv s n m):DInv (dX s) n m:=by
 refine⟨IH h.ok,?_,?_,?_⟩<;>unfold dX<;>split
 ·next a w b e =>
  split
  ·intro a' w' b' he;cases he;have:=h.arm a w b e;omega
  exact(oO h w b).arm
 ·exact h.arm
 ·next a w b e =>
  split
  ·exact h.n
  exact(oO h w b).n
 ·exact h.n
 ·next a w b e =>
  split
  ·exact h.q
  exact(oO h w b).q
 exact h.q
theorem DS {s:DSt} {n m:Nat} (h:DInv s n m) (hm:m < 1048576) (k:Int) (t:ByteArray):DInv (kG s k t) n (m+1):=by
 unfold kG
 split
 ·exact h.mono (Nat.le_succ _)
 split
 ·next hc =>
  rw [aBP,aBN] at hc;obtain ⟨h1,h2⟩:=hc;rcases qT s k with e|⟨j,rfl,hj⟩
  ·rw [e] at h1;cases h1
  have hq:=h.q;refine xF ⟨wP h.ok (by simpa using hj) h2 (by omega),h.arm,h.n,?_⟩;show (s.q++[_]).length≤_;simp;exact hq
 exact h.mono (Nat.le_succ _)
theorem ON {s:DSt} {n m:Nat} (h:DInv s n m):DInv (xM s) n m:=by have hp:=JZ h.ok s.q.length;rw [List.take_length] at hp;exact⟨⟨hp.n1,hp.n2,hp.c,fun p hp=>(by cases hp),aBX _⟩,h.arm,by show (dF _ _).length=n;rw [gY];exact h.n,aBX _⟩
theorem R9 {s:DSt} {n m:Nat} (h:DInv s n m):DInv (kH s) n m:=by
 unfold kH
 split
 ·exact h
 split
 ·exact ON (xF h)
 exact xF h
theorem DT {s:DSt} {n m:Nat} (h:DInv s n m):DInv (uH s) n m :=⟨⟨h.ok.n1,h.ok.n2,h.ok.c,h.ok.q,h.ok.ql⟩,fun a w b h=>(mL h).elim,h.n,h.q⟩
theorem VU {s:DSt} {n m:Nat} (h:DInv s n m) (a w b:Int) (ha:a≤9223372036854775807):DInv (BO s a w b) n m:=by
 unfold BO
 split
 ·exact h
 split
 ·exact⟨⟨h.ok.n1,h.ok.n2,h.ok.c,h.ok.q,h.ok.ql⟩,fun a' w' b' e=>by cases e;exact ha,h.n,h.q⟩
 exact⟨⟨h.ok.n1,h.ok.n2,h.ok.c,h.ok.q,h.ok.ql⟩,fun a w b h=>(mL h).elim,h.n,h.q⟩
end Go.Proofs.YtmkgeogoojcciaaGreatDoor
namespace Go.Proofs.YtmkgeogoojcciaaGreatDoor
open Go.Proofs.Tryz
open Go.Abs Go.Lib
def oX (d:DSt) (place:Nat) (L:List ByteArray):Nat→Int×DSt
 | 0=>(0,d)
 | i+1=>if(oX d place L i).1=0 then(jC (oX d place L i).2 ((place+i:Nat):Int) (L.getD i sNil),kG (oX d place L i).2 ((place+i:Nat):Int) (L.getD i sNil))else oX d place L i
def gI (d:DSt) (place:Nat) (L:List ByteArray):Int×DSt :=if(oX d place L L.length).1=0 then(nW (oX d place L L.length).2,kH (oX d place L L.length).2)else oX d place L L.length
theorem GQ {d:DSt} {place:Nat} {L:List ByteArray} {i:Nat} (h:¬ (oX d place L i).1=0):∀ j,oX d place L (i+j)=oX d place L i
 | 0=>rfl
 | j+1=>by rw [← Nat.add_assoc,oX,GQ h j,aBE h]
theorem rW {d:DSt} {n m:Nat} (h:DInv d n m) (place:Nat) (L:List ByteArray):∀ i,m+i≤1048576→DInv (oX d place L i).2 n (m+i)
 | 0,_=>h
 | i+1,hi=>by
  have ih:=rW h place L i (by omega);rw [oX]
  split
  ·exact DS ih (by omega) _ _
  exact ih.mono (by omega)
theorem lX {d:DSt} {n m:Nat} (h:DInv d n m) (place:Nat) (L:List ByteArray) (hm:m+L.length≤1048576):DInv (gI d place L).2 n (m+L.length):=by
 rw [gI]
 split
 ·exact R9 (rW h place L _ hm)
 exact rW h place L _ hm
theorem oF {d:DSt} {n m:Nat} (h:DInv d n m) (k a cn place:Nat) (b:Bool) (l:List (ByteArray×ByteArray×Nat)) (c:Nat) (L:List ByteArray) (hm:m+L.length < 1048576) (hpl:place < 100000) :
  aL Tryz.prog 90 [.ref 1100 0 0 0,iv (place:Int),.pv (aW L)] (sH d (cI k a cn b) (bK l c)) (fun r H'=>r=iv (gI d place L).1∧H'=sH (gI d place L).2 (cI k a cn (b||!decide ((gI d place L).1=0))) (bK l c)):=by
 have hml:(L.map encStr).length=L.length:=aBG _;refine Bd func90 rfl ntmps90<|Sr<|Dd aS<|Zz<|Sr<|Dd aS<|Zz<|Sq<|Sr<|Dd aS<|Zz<|aN ?_;refine bJ (σ:=Nat) (fun i=>([(0,.ref 1100 0 0 0),(1,iv (place:Int)),(2,.pv (aW L)),(7,iv (oX d place L i).1),(8,iv (i:Int))],sH (oX d place L i).2 (cI k a cn b) (bK l c))) (fun i=>i≤L.length∧∀ j,j < i→(oX d place L j).1=0) (fun i=>L.length - i) 0 ⟨aBX _,fun j hj=>absurd hj (Nat.not_lt_zero _)⟩ ?_ ?_
 ·exact(cA.wk (Ea<|Eb<|Eb<|Eb<|Eb<|trivial) (Hc (aE _ _ rfl rfl rfl)<|Hc (aC _ _)<|Hc (aK _ _ _)<|Hc (aJ _ _)<|Hc (bI rfl rfl)<|Hc (aQ _ _ _)<|trivial) ⟨rfl,rfl,rfl,rfl,rfl,rfl,trivial⟩)
 rintro i ⟨hi,hz⟩;have hx:=rW h place L i (by omega);have hst:=GQ (d:=d) (place:=place) (L:=L) (i:=i);have hnx:oX d place L (i+1)=if(oX d place L i).1=0 then(jC (oX d place L i).2 ((place+i:Nat):Int) (L.getD i sNil),kG (oX d place L i).2 ((place+i:Nat):Int) (L.getD i sNil))else oX d place L i:=rfl;have hzi:(oX d place L i).1=0→∀ j,j < i+1→(oX d place L j).1=0:=fun h j hj=>by
  rcases Nat.lt_succ_iff_lt_or_eq.1 hj with h1|rfl
  ·exact hz j h1
  exact h
 rcases hp:oX d place L i with⟨e,d1⟩;simp only [hp] at hx hst hnx hzi ⊢;refine Sq<|Sq ?_;refine dL (t:=16) (n:=9) (X:=decide ((i:Int) < ((L.map encStr).length:Int))&&decide (e=0)) ?_ ?_
 ·all_goals refine Dd aF ?_
  all_goals refine Dd aF<|Dd (mH aO)<|Dd dZ<|Dm ?_
  all_goals refine Sp 13 (fun h13=>?_) fun h13=>?_
  all_goals try contradiction
  all_goals first|refine Fo<|Fo ?_|refine On aF<|On iY ?_
  all_goals refine Dd iM<|Zz ?_
  all_goals(exact⟨⟨_,rfl,by(rw [h13];rfl)⟩,rfl,rfl,rfl⟩)
 refine Cn ?_ ?_<;>intro hc1
 ·have hq:i < L.length∧e=0:=by have h:=hc1;rw [aBP,aBN,aBN] at h;exact⟨by omega,h.2⟩
  obtain ⟨t,ht⟩:=aZ hq.1;have hit:=dI (f:=encStr) ht;have hgt:L.getD i sNil=t:=by rw [List.getD_eq_getElem?_getD,ht];rfl
  rw [hgt,aBF hq.2] at hnx;have hw:=UP d1 ((place+i:Nat):Int) t hx.ok hx.arm (by have:=hx.q;omega);refine aG<|Sq<|aN<|bR follows<|Cr [1100] (fun _ _=>aF)<|Cr [1100] (fun H1 hH=>by exact bV rfl rfl ((hH _ rfl).trans rfl) rfl)<|Cr [1100] (fun _ h=>fh uB h)<|Cr [1100] (fun _ h=>lh oD h)<|Cr [] (fun _ _=>aF)<|Cr [] (fun _ _=>aF)<|Cr [] (fun H1 hH=>by exact cV rfl rfl rfl (show IntKind.i64.wrap ((place:Int)+(i:Int))=((place+i:Nat):Int)by rw [jS (by omega) (by omega)];omega))<|Cr [] (fun _ _=>aF)<|Cr [] (fun _ _=>aF)<|Cr [] (fun _ _=>(GJ bZ))<|Cr [] (fun _ _=>(nT aV)) ?_;refine cB (r:=⟨_,some [1000,1001,1002,1003],_⟩) (DStep.plain rfl (fun H1 hH=>by exact aB rfl rfl call121 rfl (cK hw _ ⟨(hH 1000 rfl).trans rfl,(hH 1001 rfl).trans rfl,(hH 1002 rfl).trans rfl,(hH 1003 rfl).trans rfl,trivial⟩ (by simp;rfl)))) rfl ?_;refine Cr [] (fun _ _=>aS)<|dG<|Kr<|Rg<|Dd aF<|Dd oE<|Da ?_;refine⟨i+1,⟨by omega,hzi hq.2⟩,by omega,?_⟩;dsimp only;rw [hnx];exact(cA.wk (Ea<|Eb<|Eb<|Eb<|Eb<|trivial) (Hc (aE _ _ rfl rfl rfl)<|Hc (aC _ _)<|Hc (aK _ _ _)<|Hc (aJ _ _)<|Hc (bI rfl rfl)<|Hc (aQ _ _ _)<|trivial) ⟨rfl,rfl,rfl,rfl,rfl,rfl,trivial⟩)
 have hq:i=L.length∨¬ e=0:=by have h:=hc1;rw [Bool.and_eq_false_iff,aBO,aBO] at h;omega
 have hend:oX d place L L.length=(e,d1):=by
  by_cases he:e=0
  ·rcases hq with hq|hq
   ·rw [← hq];exact hp
   exact absurd he hq
  have:=hst he (L.length - i)
  rwa [show i+(L.length - i)=L.length by omega] at this
 rw [gI,hend];refine bE<|Sq<|Sr<|Dd aF<|Dd iY<|Zz ?_;refine Cn ?_ ?_<;>intro hc2
 ·have he:e=0:=aBC hc2;have hs:=XF d1 hx.ok hx.arm;rw [aBF he];cases b
  ·refine Rg<|Dd aF<|Dd fP<|Dd (dV uB)<|Dd (eG oD)<|Dd (by exact aB rfl rfl call122 rfl (cK hs _ ⟨rfl,rfl,rfl,rfl,trivial⟩ (by simp;rfl)))<|Dd aS<|Zz<|Sr<|Dd aF<|Dd aF<|Dd fP<|Dd (dV lA)<|Dd (eG dM)<|Dd aF<|On aF<|On uT<|Dd iM<|Dd fP<|Dd (dV lA)<|Uu (by exact cX rfl sizeOf4 rfl rfl rfl rfl rfl rfl (by simp only [aBI,List.length_nil];omega) (by simp only [Zl,encStr];rfl) (by simp only [Zl,encStr];rfl))<|Zz<|Sr<|Dd aF<|Dd aS<|Zz<|aM ?_;refine bF (H':=(sH (kH d1) (cI k a cn (false||!decide (nW d1=0))) (bK l c))) (.inr rfl) rfl (aH rfl) (Fin.wk (by(simp;done)) (Hc (aE _ _ rfl rfl rfl)<|Hc (aC _ _)<|Hc (aK _ _ _)<|Hc (aJ _ _)<|Hc (bI rfl rfl)<|Hc (aQ _ _ _)<|trivial) ⟨rfl,rfl,rfl,rfl,rfl,rfl,trivial⟩) ?_;exact Qq
  refine Rg<|Dd aF<|Dd fP<|Dd (dV uB)<|Dd (eG oD)<|Dd (by exact aB rfl rfl call122 rfl (cK hs _ ⟨rfl,rfl,rfl,rfl,trivial⟩ (by simp;rfl)))<|Dd aS<|Zz<|Sr<|Dd aF<|Dd aF<|Dd fP<|Dd (dV lA)<|Dd (eG dM)<|Dd aF<|Fo<|Fo<|Dd iM<|Dd fP<|Dd (dV lA)<|Uu (by exact cX rfl sizeOf4 rfl rfl rfl rfl rfl rfl (by simp only [aBI,List.length_nil];omega) (by simp only [Zl,encStr];rfl) (by simp only [Zl,encStr];rfl))<|Zz<|Sr<|Dd aF<|Dd aS<|Zz<|aM ?_;refine bF (H':=(sH (kH d1) (cI k a cn true) (bK l c))) (.inr rfl) rfl (aH rfl) (Fin.wk (by(simp;done)) (Hc (aE _ _ rfl rfl rfl)<|Hc (aC _ _)<|Hc (aK _ _ _)<|Hc (aJ _ _)<|Hc (bI rfl rfl)<|Hc (aQ _ _ _)<|trivial) ⟨rfl,rfl,rfl,rfl,rfl,rfl,trivial⟩) ?_;exact Qq
 have he:¬ e=0:=aBD hc2;rw [aBE he];cases b
 ·refine aG<|Sr<|Dd aF<|Dd aF<|Dd fP<|Dd (dV lA)<|Dd (eG dM)<|Dd aF<|On aF<|On uT<|Dd iM<|Dd fP<|Dd (dV lA)<|Uu (by exact cX rfl sizeOf4 rfl rfl rfl rfl rfl rfl (by simp only [aBI,List.length_nil];omega) (by simp only [Zl,encStr];rfl) (by simp only [Zl,encStr];rfl))<|Zz<|Sr<|Dd aF<|Dd aS<|Zz<|aM ?_;refine bF (H':=(sH d1 (cI k a cn (false||!decide (e=0))) (bK l c))) (.inr rfl) rfl (aH rfl) (Fin.wk (by(simp;done)) (Hc (aE _ _ rfl rfl rfl)<|Hc (aC _ _)<|Hc (aK _ _ _)<|Hc (aJ _ _)<|Hc (bI rfl rfl)<|Hc (aQ _ _ _)<|trivial) ⟨rfl,rfl,rfl,rfl,rfl,rfl,trivial⟩) ?_;exact Qq
 refine aG<|Sr<|Dd aF<|Dd aF<|Dd fP<|Dd (dV lA)<|Dd (eG dM)<|Dd aF<|Fo<|Fo<|Dd iM<|Dd fP<|Dd (dV lA)<|Uu (by exact cX rfl sizeOf4 rfl rfl rfl rfl rfl rfl (by simp only [aBI,List.length_nil];omega) (by simp only [Zl,encStr];rfl) (by simp only [Zl,encStr];rfl))<|Zz<|Sr<|Dd aF<|Dd aS<|Zz<|aM ?_;refine bF (H':=(sH d1 (cI k a cn true) (bK l c))) (.inr rfl) rfl (aH rfl) (Fin.wk (by(simp;done)) (Hc (aE _ _ rfl rfl rfl)<|Hc (aC _ _)<|Hc (aK _ _ _)<|Hc (aJ _ _)<|Hc (bI rfl rfl)<|Hc (aQ _ _ _)<|trivial) ⟨rfl,rfl,rfl,rfl,rfl,rfl,trivial⟩) ?_;exact Qq
abbrev zS:ByteArray:=ofL (zB 64)
abbrev hS (place a cn:Nat):ByteArray:=ofL (iW place a cn)
def jT (place a cn:Nat):Bool→ByteArray
 | true=>hS place a cn
 | false=>zS
def oY (d:DSt) (place a cn:Nat) (hd:Bool):Int×DSt:=if bP d place=jT place a cn hd then(0,d)else if(gI d place [zS]).1=0∧hd=true then gI (gI d place [zS]).2 place [jT place a cn hd] else gI d place [zS]
theorem C8 {d:DSt} {n m:Nat} (h:DInv d n m) (hoff:d.off=false) (k a cn place:Nat) (b hd:Bool) (l:List (ByteArray×ByteArray×Nat)) (c:Nat) (hm:m+2 < 1048576) (hp:place < d.cells.length) (ha:a < 10) (hcn:cn < 1000000000000) :
  aL Tryz.prog 45 [.ref 1100 0 0 0,iv (place:Int),bv hd] (sH d (cI k a cn b) (bK l c)) (fun r H'=>r=iv (oY d place a cn hd).1∧H'=sH (oY d place a cn hd).2 (cI k a cn (b||!decide ((oY d place a cn hd).1=0))) (bK l c)):=by
 have hn2:=h.ok.n2;have hrd:=zA h.ok hoff hp;have hw:=oF h k a cn place b l c [zS] (by rw [List.length_singleton];omega) (by omega);have hi1:=lX h place [zS] (by rw [List.length_singleton];omega);have hhd:=fun H=>FT place a cn (by omega) ha hcn H;rw [oY];cases hd
 ·refine Bd func45 rfl ntmps45<|Sr<|Dd aS<|Zz<|Sr<|Dd aF<|Dd fP<|Dd (dV uB)<|Dd (eG oD)<|Dd aF<|Dd (by exact aB rfl rfl wM rfl (hrd _ ⟨rfl,rfl,rfl,rfl,trivial⟩))<|Dd aF<|Dd eP<|Dd eP<|Dd aS<|Dd aS<|Zz<|Sr<|Dd (by exact aB rfl rfl qJ rfl (pQ _))<|Dd aS<|Zz<|Sq<|Sr<|Dd aF<|Zz ?_;refine Cn ?_ ?_<;>intro hc1
  ·cases hc1
  refine aG<|Sq<|Sr<|Dd aF<|Dd aF<|Dd XM<|Zz ?_;refine Cn ?_ ?_<;>intro hc2
  ·have he:bP d place=jT place a cn false:=aBC hc2;rw [aBF he];refine Sr<|Dd aS<|Zz<|aM ?_;refine bF (H':=(sH d (cI k a cn b) (bK l c))) (.inr rfl) rfl (aH rfl) (Fin.wk (by(simp;done)) (Hc (aE _ _ rfl rfl rfl)<|Hc (aC _ _)<|Hc (aK _ _ _)<|Hc (aJ _ _)<|Hc (bI rfl rfl)<|Hc (aQ _ _ _)<|trivial) ⟨rfl,rfl,rfl,rfl,rfl,rfl,trivial⟩) ?_;exact⟨rfl,by cases b<;>rfl⟩
  have he:¬ bP d place=jT place a cn false:=aBD hc2;rw [aBE he,aBE (fun h=>by cases h.2)];refine aG<|Sr<|Dd aF<|Dd aF<|Dd (by exact aB rfl rfl qJ rfl (pQ _))<|Dd (by exact bL [[.str zS]] rfl bZ rfl rfl rfl rfl rfl (by simp))<|Dd (by exact aB rfl rfl qI rfl (hw))<|Dd aS<|Zz<|Sq<|Sq ?_;refine dL (t:=40) (n:=6) (X:=false) ?_ ?_
  ·all_goals refine Dd aF ?_
   all_goals refine Dd iY<|Dm ?_
   all_goals refine Sp 38 (fun h38=>?_) fun h38=>?_
   all_goals try contradiction
   all_goals first|refine Fo ?_|refine On aF ?_
   all_goals refine Dd iM<|Zz ?_
   all_goals(exact⟨⟨_,rfl,by rfl⟩,rfl,rfl,rfl⟩)
  refine Cn ?_ ?_<;>intro hc3
  ·cases hc3
  refine aG<|Sr<|Dd aF<|Dd aS<|Zz<|aM ?_;refine bF (H':=(sH (gI d place [zS]).2 (cI k a cn (b||!decide ((gI d place [zS]).1=0))) (bK l c))) (.inr rfl) rfl (aH rfl) (Fin.wk (by(simp;done)) (Hc (aE _ _ rfl rfl rfl)<|Hc (aC _ _)<|Hc (aK _ _ _)<|Hc (aJ _ _)<|Hc (bI rfl rfl)<|Hc (aQ _ _ _)<|trivial) ⟨rfl,rfl,rfl,rfl,rfl,rfl,trivial⟩) ?_;exact Qq
 refine Bd func45 rfl ntmps45<|Sr<|Dd aS<|Zz<|Sr<|Dd aF<|Dd fP<|Dd (dV uB)<|Dd (eG oD)<|Dd aF<|Dd (by exact aB rfl rfl wM rfl (hrd _ ⟨rfl,rfl,rfl,rfl,trivial⟩))<|Dd aF<|Dd eP<|Dd eP<|Dd aS<|Dd aS<|Zz<|Sr<|Dd (by exact aB rfl rfl qJ rfl (pQ _))<|Dd aS<|Zz<|Sq<|Sr<|Dd aF<|Zz ?_;refine Cn ?_ ?_<;>intro hc1
 ·refine Rg<|Dd aF<|Dd aF<|Dd fP<|Dd (dV mV)<|Dd (VL dJ sizeOf70)<|Dd (by exact aB rfl rfl UH rfl (hhd _))<|Dd aS<|Zz<|Sq<|Sr<|Dd aF<|Dd aF<|Dd XM<|Zz ?_;refine Cn ?_ ?_<;>intro hc2
  ·have he:bP d place=jT place a cn true:=aBC hc2;rw [aBF he];refine Sr<|Dd aS<|Zz<|aM ?_;refine bF (H':=(sH d (cI k a cn b) (bK l c))) (.inr rfl) rfl (aH rfl) (Fin.wk (by(simp;done)) (Hc (aE _ _ rfl rfl rfl)<|Hc (aC _ _)<|Hc (aK _ _ _)<|Hc (aJ _ _)<|Hc (bI rfl rfl)<|Hc (aQ _ _ _)<|trivial) ⟨rfl,rfl,rfl,rfl,rfl,rfl,trivial⟩) ?_;exact⟨rfl,by cases b<;>rfl⟩
  have he:¬ bP d place=jT place a cn true:=aBD hc2;rw [aBE he];refine aG<|Sr<|Dd aF<|Dd aF<|Dd (by exact aB rfl rfl qJ rfl (pQ _))<|Dd (by exact bL [[.str zS]] rfl bZ rfl rfl rfl rfl rfl (by simp))<|Dd (by exact aB rfl rfl qI rfl (hw))<|Dd aS<|Zz<|Sq<|Sq ?_;refine dL (t:=40) (n:=6) (X:=decide ((gI d place [zS]).1=0)) ?_ ?_
  ·all_goals refine Dd aF ?_
   all_goals refine Dd iY<|Dm ?_
   all_goals refine Sp 38 (fun h38=>?_) fun h38=>?_
   all_goals try contradiction
   all_goals first|refine Fo ?_|refine On aF ?_
   all_goals refine Dd iM<|Zz ?_
   all_goals(exact⟨⟨_,rfl,by(simp_all;done)⟩,rfl,rfl,rfl⟩)
  refine Cn ?_ ?_<;>intro hc3
  ·have hz:(gI d place [zS]).1=0:=aBC hc3;rw [aBF ⟨hz,rfl⟩];have hw2:=oF hi1 k a cn place b l c [hS place a cn] (by rw [List.length_singleton,List.length_singleton];omega) (by omega);have hbz:(b||!decide ((gI d place [zS]).1=0))=b:=by rw [hz];cases b<;>rfl
   rw [hbz];refine Rg<|Dd aF<|Dd aF<|Dd aF<|Dd (by exact bL [[.str (hS place a cn)]] rfl bZ rfl rfl rfl rfl rfl (by simp))<|Dd (by exact aB rfl rfl qI rfl (hw2))<|Dd aS<|Zz<|Sr<|Dd aF<|Dd aS<|Zz<|aM ?_;refine bF (H':=(sH (gI (gI d place [zS]).2 place [hS place a cn]).2 (cI k a cn (b||!decide ((gI (gI d place [zS]).2 place [hS place a cn]).1=0))) (bK l c))) (.inr rfl) rfl (aH rfl) (Fin.wk (by(simp;done)) (Hc (aE _ _ rfl rfl rfl)<|Hc (aC _ _)<|Hc (aK _ _ _)<|Hc (aJ _ _)<|Hc (bI rfl rfl)<|Hc (aQ _ _ _)<|trivial) ⟨rfl,rfl,rfl,rfl,rfl,rfl,trivial⟩) ?_;exact Qq
  have hz:¬ (gI d place [zS]).1=0:=aBD hc3;rw [aBE (fun h=>hz h.1)];refine aG<|Sr<|Dd aF<|Dd aS<|Zz<|aM ?_;refine bF (H':=(sH (gI d place [zS]).2 (cI k a cn (b||!decide ((gI d place [zS]).1=0))) (bK l c))) (.inr rfl) rfl (aH rfl) (Fin.wk (by(simp;done)) (Hc (aE _ _ rfl rfl rfl)<|Hc (aC _ _)<|Hc (aK _ _ _)<|Hc (aJ _ _)<|Hc (bI rfl rfl)<|Hc (aQ _ _ _)<|trivial) ⟨rfl,rfl,rfl,rfl,rfl,rfl,trivial⟩) ?_;exact Qq
 cases hc1
theorem UX {d d':DSt} {o o' m m':Ob} {id:Nat} (h:((sH d' o' m').get id).isSome=true):((sH d o m).get id).isSome=true:=by simp only [sH,aA.get] at h ⊢;cases e0:Nat.beq 1000 id<;>cases e1:Nat.beq 1001 id<;>cases e2:Nat.beq 1002 id<;>cases e3:Nat.beq 1003 id<;>cases e4:Nat.beq 1100 id<;>cases e5:Nat.beq 1101 id<;>simp [e0,e1,e2,e3,e4,e5] at h ⊢
theorem gW {f:FuncId} {args:List AV} {d d':DSt} {k a n:Nat} {b:Bool} {l:List (ByteArray×ByteArray×Nat)} {c:Nat} {o' m':Ob} {r0:AV} (h:aL Tryz.prog f args (sH d (cI k a n b) (bK l c)) (fun r H'=>r=r0∧H'=sH d' o' m')) (H:aA) (hs:JI H (sH d (cI k a n b) (bK l c))) (ha:∀ x∈args,Clo (sH d (cI k a n b) (bK l c)) x) :
  aL Tryz.prog f args H (fun r H'=>r=r0∧H'=sH d' o' m'++H):=h.frame hs.sub (rY _ _ _ _ _ _ _) ha (fun id hid=>.inl (UX hid))
def lS (d:DSt) (a cn:Nat):Int×DSt:=if(gI d 1 [hS 1 a cn]).1=0 then gI (gI d 1 [hS 1 a cn]).2 0 [hS 0 a cn] else gI d 1 [hS 1 a cn]
theorem Q4 {d:DSt} {n m:Nat} (h:DInv d n m) (a cn:Nat) (hm:m+2≤1048576):DInv (lS d a cn).2 n (m+2):=by
 have h1:=lX h 1 [hS 1 a cn] (by rw [List.length_singleton];omega);have h2:=lX h1 0 [hS 0 a cn] (by rw [List.length_singleton,List.length_singleton];omega);rw [List.length_singleton] at h1 h2;rw [lS]
 split
 ·exact h2
 exact h1.mono (by omega)
def stD (a b c:DSt):Nat→DSt
 | 0=>a
 | 1=>b
 | _=>c
theorem XK {d:DSt} {n m:Nat} (h:DInv d n m) (k a cn a2 cn2:Nat) (b:Bool) (l:List (ByteArray×ByteArray×Nat)) (c:Nat) (hm:m+2 < 1048576) (ha:a2 < 10) (hcn:cn2 < 1000000000000) :
  aL Tryz.prog 103 [.ref 1100 0 0 0,.agg [iv (a2:Int),iv (cn2:Int)]] (sH d (cI k a cn b) (bK l c)) (fun r H'=>r=iv (lS d a2 cn2).1∧H'=sH (lS d a2 cn2).2 (if(lS d a2 cn2).1=0 then cI k a2 cn2 b else cI k a cn true) (bK l c)):=by
 have hw:=oF h k a cn 1 b l c [hS 1 a2 cn2] (by rw [List.length_singleton];omega) (by omega);have h1:=lX h 1 [hS 1 a2 cn2] (by rw [List.length_singleton];omega);have hw2:=oF h1 k a cn 0 b l c [hS 0 a2 cn2] (by rw [List.length_singleton,List.length_singleton];omega) (by omega);have hh1:=fun H=>FT 1 a2 cn2 (by omega) ha hcn H;have hh0:=fun H=>FT 0 a2 cn2 (by omega) ha hcn H;rw [lS];obtain ⟨x,hx⟩:∃ x,x=gI d 1 [hS 1 a2 cn2]:=⟨_,rfl⟩;rw [← hx] at hw hw2 ⊢;obtain ⟨y,hy⟩:∃ y,y=gI x.2 0 [hS 0 a2 cn2]:=⟨_,rfl⟩;rw [← hy] at hw2 ⊢;clear hx hy h1;have hr0:([[PV.int .i64 1],[PV.int .i64 0]]:List (List PV))[0]?=some [PV.int .i64 1]:=rfl;have hr1:([[PV.int .i64 1],[PV.int .i64 0]]:List (List PV))[1]?=some [PV.int .i64 0]:=rfl;refine Bd func103 rfl ntmps103<|Sr<|Dd (by exact gO (id:=3) rfl rfl rfl rfl rfl)<|Dd aS<|Zz<|Sq<|Sq ?_;refine gM.ent (E':=[(0,.ref 1100 0 0 0),(3,.ref 3 0 0 0)]) (H':=(3,bx 2 70 [iv (a2:Int),iv (cn2:Int)])::sH d (cI k a cn b) (bK l c)) (cA.wk (Ea<|Ea<|trivial) (Hb<|Hc (aE _ _ rfl rfl rfl)<|Hc (aC _ _)<|Hc (aK _ _ _)<|Hc (aJ _ _)<|Hc (bI rfl rfl)<|Hc (aQ _ _ _)<|trivial) ⟨rfl,rfl,rfl,rfl,rfl,rfl,trivial⟩) ?_;refine Rg<|Dd (by exact bL [[.int .i64 1],[.int .i64 0]] rfl NO rfl rfl rfl rfl rfl (by simp))<|Dd (mH PU)<|Dd aF<|Zz<|aN ?_;refine bJ (σ:=Nat) (fun i=>([(0,.ref 1100 0 0 0),(3,.ref 3 0 0 0),(8,.pv (.sl [[.int .i64 1],[.int .i64 0]])),(9,iv 2),(10,iv (i:Int))],(3,bx 2 70 [iv (a2:Int),iv (cn2:Int)])::sH (stD d x.2 y.2 i) (cI k a cn b) (bK l c))) (fun i=>i≤2∧(0 < i→x.1=0)∧(1 < i→y.1=0)) (fun i=>2 - i) 0 ⟨by omega,fun h=>absurd h (Nat.lt_irrefl _),fun h=>absurd h (by omega)⟩ ?_ ?_
 ·exact(cA.wk (Ea<|Ea<|Eb<|Eb<|Eb<|trivial) (Hb<|Hc (aE _ _ rfl rfl rfl)<|Hc (aC _ _)<|Hc (aK _ _ _)<|Hc (aJ _ _)<|Hc (bI rfl rfl)<|Hc (aQ _ _ _)<|trivial) ⟨rfl,rfl,rfl,rfl,rfl,rfl,trivial⟩)
 rintro i ⟨hi,hx0,hy0⟩;have h3:i=0∨i=1∨i=2:=by omega
 rcases h3 with rfl|rfl|rfl
 ·refine Sr<|Dd dZ<|Zz<|Sq ?_;refine Cn ?_ ?_<;>intro hc1
  ·refine aG<|Sq<|aN<|Sr<|Dd (by exact bN (m:=0) rfl NO rfl rfl (by decide) rfl rfl rfl)<|Dd (nT aU)<|Dd aS<|Zz<|Sr<|Dd aF<|Dd aF<|Dd aF<|Dd (VL dJ sizeOf70)<|Dd (by exact aB rfl rfl UH rfl (hh1 _))<|Dd (by exact bL [[.str (hS 1 a2 cn2)]] rfl bZ rfl rfl rfl rfl rfl (by simp))<|Dd (by exact aB rfl rfl qI rfl (gW hw _ ⟨rfl,rfl,rfl,rfl,rfl,rfl,trivial⟩ (by simp;rfl)))<|Dd aS<|Zz<|Sr<|Dd aF<|Dd uT<|Zz ?_;refine Cn ?_ ?_<;>intro hc2
   ·have he:¬ x.1=0:=by have h:=hc2;simpa using h
    have hb:(b||!decide (x.1=0))=true:=by rw [decide_eq_false he];cases b<;>rfl
    rw [aBE he,aBE he,hb];refine Sr<|Dd aF<|Dd aS<|Zz<|aM ?_;refine bF (H':=(sH x.2 (cI k a cn true) (bK l c))) (.inr rfl) rfl (aH rfl) (Fin.wk (by(simp;done)) (Hc (aE _ _ rfl rfl rfl)<|Hc (aC _ _)<|Hc (aK _ _ _)<|Hc (aJ _ _)<|Hc (bI rfl rfl)<|Hc (aQ _ _ _)<|trivial) ⟨rfl,rfl,rfl,rfl,rfl,rfl,trivial⟩) ?_;exact Qq
   have he:x.1=0:=by have h:=hc2;simpa using h
   have hb:(b||!decide (x.1=0))=b:=by rw [he];cases b<;>rfl
   rw [hb];refine aG<|Rg<|Dd oE<|Dd aF<|Zz ?_;refine⟨1,⟨by omega,fun _=>he,fun h=>absurd h (by omega)⟩,by omega,?_⟩;exact(cA.wk (Ea<|Ea<|Eb<|Eb<|Eb<|trivial) (Hb<|Hc (aE _ _ rfl rfl rfl)<|Hc (aC _ _)<|Hc (aK _ _ _)<|Hc (aJ _ _)<|Hc (bI rfl rfl)<|Hc (aQ _ _ _)<|trivial) ⟨rfl,rfl,rfl,rfl,rfl,rfl,trivial⟩)
  cases hc1
 ·have he0:=hx0 (by omega);refine Sr<|Dd dZ<|Zz<|Sq ?_;refine Cn ?_ ?_<;>intro hc3
  ·refine aG<|Sq<|aN<|Sr<|Dd (by exact bN (m:=1) rfl NO rfl rfl (by decide) rfl rfl rfl)<|Dd (nT aU)<|Dd aS<|Zz<|Sr<|Dd aF<|Dd aF<|Dd aF<|Dd (VL dJ sizeOf70)<|Dd (by exact aB rfl rfl UH rfl (hh0 _))<|Dd (by exact bL [[.str (hS 0 a2 cn2)]] rfl bZ rfl rfl rfl rfl rfl (by simp))<|Dd (by exact aB rfl rfl qI rfl (gW hw2 _ ⟨rfl,rfl,rfl,rfl,rfl,rfl,trivial⟩ (by simp;rfl)))<|Dd aS<|Zz<|Sr<|Dd aF<|Dd uT<|Zz ?_;refine Cn ?_ ?_<;>intro hc4
   ·have he:¬ y.1=0:=by have h:=hc4;simpa using h
    have hb:(b||!decide (y.1=0))=true:=by rw [decide_eq_false he];cases b<;>rfl
    rw [aBF he0,aBE he,hb];refine Sr<|Dd aF<|Dd aS<|Zz<|aM ?_;refine bF (H':=(sH y.2 (cI k a cn true) (bK l c))) (.inr rfl) rfl (aH rfl) (Fin.wk (by(simp;done)) (Hc (aE _ _ rfl rfl rfl)<|Hc (aC _ _)<|Hc (aK _ _ _)<|Hc (aJ _ _)<|Hc (bI rfl rfl)<|Hc (aQ _ _ _)<|trivial) ⟨rfl,rfl,rfl,rfl,rfl,rfl,trivial⟩) ?_;exact Qq
   have he:y.1=0:=by have h:=hc4;simpa using h
   have hb:(b||!decide (y.1=0))=b:=by rw [he];cases b<;>rfl
   rw [hb];refine aG<|Rg<|Dd oE<|Dd aF<|Zz ?_;refine⟨2,⟨by omega,fun _=>he0,fun _=>he⟩,by omega,?_⟩;exact(cA.wk (Ea<|Ea<|Eb<|Eb<|Eb<|trivial) (Hb<|Hc (aE _ _ rfl rfl rfl)<|Hc (aC _ _)<|Hc (aK _ _ _)<|Hc (aJ _ _)<|Hc (bI rfl rfl)<|Hc (aQ _ _ _)<|trivial) ⟨rfl,rfl,rfl,rfl,rfl,rfl,trivial⟩)
  cases hc3
 have he0:=hx0 (by omega);have he1:=hy0 (by omega);refine Sr<|Dd dZ<|Zz<|Sq ?_;refine Cn ?_ ?_<;>intro hc5
 ·cases hc5
 rw [aBF he0,aBF he1];refine bE<|Sr<|Dd aF<|Dd (VL dJ sizeOf70)<|Dd fP<|Dd (dV mV)<|Uu (by exact LN rfl sizeOf70 rfl rfl rfl rfl rfl rfl rfl (by simp only [aBI,List.length_nil];omega) (by simp only [Zl,encStr];rfl) (by simp only [Zl,encStr];rfl))<|Zz<|Sr<|Dd aS<|Zz<|aM ?_;refine bF (H':=(sH y.2 (cI k a2 cn2 b) (bK l c))) (.inr rfl) rfl (aH rfl) (Fin.wk (by(simp;done)) (Hc (aE _ _ rfl rfl rfl)<|Hc (aC _ _)<|Hc (aK _ _ _)<|Hc (aJ _ _)<|Hc (bI rfl rfl)<|Hc (aQ _ _ _)<|trivial) ⟨rfl,rfl,rfl,rfl,rfl,rfl,trivial⟩) ?_;exact⟨by rw [he1],rfl⟩
def fR (t:List UInt8) (i:Nat):List UInt8:=(t.drop (46*i)).take 46
def cJ (t:List UInt8):Nat:=(t.length+45) / 46
abbrev NI (t:List UInt8) (i:Nat):Ob:=bx 1 9 [sv (ofL (t.drop (46*i)))]
theorem oK (t:List UInt8) (i:Nat):(fR t i).length=min 46 (t.length - 46*i):=by rw [fR,aBU,aBV]
theorem N5 (t:List UInt8) (H:aA) (h:H.get 910=none):aL Tryz.prog 100 [sv (ofL t)] H (fun r H'=>r=.clo 129 [.ref 910 0 0 0]∧H'=(910,NI t 0)::H):=by refine Bd func100 rfl ntmps100<|Sr<|Dd (by exact gO (id:=910) rfl rfl rfl rfl h)<|Dd aS<|Zz<|Sr<|Dd (by exact fK rfl rfl)<|Dd aS<|Zz<|aM ?_;refine bF (H':=((910,NI t 0)::H)) (.inr rfl) rfl (aH rfl) Fin.refl ?_;exact Qq
theorem N6 (t:List UInt8) (fv:AV) (Hs Hr:Nat→aA) (hl:t.length < 1000000000) (h9:∀ i,(Hs i).get 910=some (NI t i)) (h8:∀ i,(Hr i).get 910=some (NI t i)) (hn:∀ i j,aA.get ((910,NI t (i+1))::Hr i) j=(Hs (i+1)).get j)
  (hy:∀ i,i < cJ t→fD Tryz.prog fv [sv (ofL (fR t i))] (Hs i) (fun r H'=>r=bv true∧H'=Hr i)) :
  aL Tryz.prog 129 [fv,.ref 910 0 0 0] (Hs 0) (fun r H'=>r=.tup []∧H'=Hs (cJ t)):=by
 refine Bd func129 rfl ntmps129<|aN ?_;refine bJ (σ:=Nat) (fun i=>([(0,fv),(1,.ref 910 0 0 0)],Hs i)) (fun i=>i≤cJ t) (fun i=>cJ t - i) 0 (aBX _) ?_ ?_
 ·exact E0
 rintro i hi;have hsz:(ofL (t.drop (46*i))).size=t.length - 46*i:=by rw [bY,aBV]
 refine Sq<|Sr<|Dd (by exact aX rfl aV rfl (h9 i) rfl rfl rfl)<|Dd (CO aI)<|Dd DU<|Zz ?_;refine Cn ?_ ?_<;>intro hc1
 ·have hlt:46*i < t.length:=by have:=aBC hc1;omega
  have hip:i < cJ t:=by rw [cJ];omega
  have hmin:min (46:Int) ((ofL (t.drop (46*i))).size:Int)=((fR t i).length:Int):=by rw [hsz,oK];omega
  have hple:(fR t i).length≤(ofL (t.drop (46*i))).size:=by rw [hsz,oK];omega
  have hx1:(ofL (t.drop (46*i))).extract 0 (fR t i).length=ofL (fR t i):=lE (by
   rw [eJ,bC,bC,List.drop_zero,Nat.sub_zero,fR,aBU,List.take_eq_take_min];simp)
  have hx2:(ofL (t.drop (46*i))).extract (fR t i).length (ofL (t.drop (46*i))).size=ofL (t.drop (46*(i+1))):=lE (by
   rw [rL,bC,bC,List.drop_drop];rw [oK];by_cases hh:46≤t.length - 46*i
   ·rw [Nat.min_eq_left hh];congr 1
   rw [Nat.min_eq_right (by omega),List.drop_eq_nil_of_le (by omega),List.drop_eq_nil_of_le (by omega)])
  refine aG<|aN<|Sr<|Dd (by exact aX rfl aV rfl (h9 i) rfl rfl rfl)<|Dd (CO aI)<|Dd (by exact zE rfl rfl rfl hmin)<|Dd aS<|Zz<|Sq<|Sr<|Dd aF<|Dd (by exact aX rfl aV rfl (h9 i) rfl rfl rfl)<|Dd aF<|Dd (by exact dB (l:=0) (h:=(fR t i).length) rfl aI rfl rfl rfl (aBX _) hple hx1)<|Dd (by exact iE rfl rfl rfl (hy i hip))<|Dd yE<|Zz ?_;refine Cn ?_ ?_<;>intro hc2
  ·cases hc2
  refine aG<|Rg<|Dd (by exact aX rfl aV rfl (h8 i) rfl rfl rfl)<|Dd aF<|Dd (by exact dB (l:=(fR t i).length) (h:=(ofL (t.drop (46*i))).size) rfl aI rfl rfl rfl hple (aBM _) hx2)<|Uu (by exact jM rfl sizeOf9 rfl rfl rfl rfl (h8 i) rfl rfl rfl)<|Zz ?_;refine⟨i+1,by omega,by omega,?_⟩;exact cA.get' ⟨⟨_,rfl,rfl⟩,⟨_,rfl,rfl⟩,trivial⟩ (fun j=>(hn i j).symm)
 have hge:¬ 46*i < t.length:=by have:=aBD hc1;omega
 have hip:i=cJ t:=by rw [cJ] at hi ⊢;omega
 subst hip;refine bE ?_;exact iK (H':=Hs (cJ t)) (.inl rfl) rfl Fin.refl ⟨rfl,rfl⟩
def gR (fr:Nat) (t:List UInt8) (i:Nat):List ByteArray:=(List.range i).map fun j=>ofL (eR (fr+j) (fR t j))
theorem cQ (fr:Nat) (t:List UInt8) (i:Nat):(gR fr t i).length=i:=by rw [gR,aBG,List.length_range]
theorem NU (fr:Nat) (t:List UInt8) (i:Nat):gR fr t (i+1)=gR fr t i++[ofL (eR (fr+i) (fR t i))]:=by rw [gR,List.range_succ,List.map_append];rfl
def gK (d:DSt) (k a cn:Nat) (t:List UInt8):Int×DSt :=if(gI d (2+a*k+cn) (gR (2+a*k+cn) t (cJ t))).1=0 then lS (gI d (2+a*k+cn) (gR (2+a*k+cn) t (cJ t))).2 a (cn+cJ t)else gI d (2+a*k+cn) (gR (2+a*k+cn) t (cJ t))
theorem TZ {d:DSt} {n m:Nat} (h:DInv d n m) (k a cn:Nat) (t:List UInt8) (hm:m+cJ t+2≤1048576):DInv (gK d k a cn t).2 n (m+cJ t+2):=by
 have h1:=lX h (2+a*k+cn) (gR (2+a*k+cn) t (cJ t)) (by rw [cQ];omega);rw [cQ] at h1;rw [gK]
 split
 ·exact Q4 h1 _ _ (by omega)
 exact h1.mono (by omega)
theorem kT {f:FuncId} {args:List AV} {d:DSt} {k a n:Nat} {b:Bool} {l:List (ByteArray×ByteArray×Nat)} {c:Nat} {r0:AV} (h:aL Tryz.prog f args (sH d (cI k a n b) (bK l c)) (fun r H'=>r=r0∧H'=sH d (cI k a n b) (bK l c))) (H:aA) (hs:JI H (sH d (cI k a n b) (bK l c))) (ha:∀ x∈args,Clo (sH d (cI k a n b) (bK l c)) x) :
  aL Tryz.prog f args H (fun r H'=>r=r0∧H'=H):=h.frameS hs.sub (rY _ _ _ _ _ _ _) ha
theorem mP {α:Type} (f:α→List PV) (l:List α):((l.map f).take (0+l.length)).drop 0=l.map f:=by rw [aBY,List.drop_zero];exact List.take_of_length_le (by rw [aBG];exact aBM _)
theorem UW {H:aA} {p:Prop} [Decidable p] {k a n a' n':Nat} {b b':Bool} (h1:(H.get 1000).isSome=true) (h2:(H.get 1101).isSome=true):∀ r∈(if p then cI k a n b else cI k a' n' b').rows,∀ x∈r,Clo H x:=by
 split
 ·exact bI h1 h2
 exact bI h1 h2
abbrev YM:bH:=[(0,.ref 1100 0 0 0),(4,.ref 4 0 0 0),(7,.ref 7 0 0 0),(8,.ref 8 0 0 0)]
def ZZ (S:List ByteArray) (K:aA):aA:=(905,⟨S.length,1,9,dE S⟩)::(8,bx 1 31 [.osl 905 S.length 0 S.length])::K
theorem WP (S:List ByteArray) (s:ByteArray) (K:aA):ZZ (S++[s]) K=(905,⟨S.length+1,1,9,dE (S++[s])⟩)::(8,bx 1 31 [.osl 905 (S.length+1) 0 (S.length+1)])::K:=by simp [ZZ]
theorem TY {d:DSt} {n m:Nat} (h:DInv d n m) (k a cn a2 cn2:Nat) (b:Bool) (l:List (ByteArray×ByteArray×Nat)) (c:Nat) (t:List UInt8) (ht:t.length < 100000000) (hm:m+cJ t+2 < 1048576) (ha:a2 < 2) (hk:k < 4000) (hcn:cn2≤4000) :
  aL Tryz.prog 52 [.ref 1100 0 0 0,.agg [iv (a2:Int),iv (cn2:Int)],sv (ofL t)] (sH d (cI k a cn b) (bK l c)) (fun r H'=>r=iv (gK d k a2 cn2 t).1∧H'=sH (gK d k a2 cn2 t).2 (if(gK d k a2 cn2 t).1=0 then cI k a2 (cn2+cJ t) b else cI k a cn true) (bK l c)):=by
 have hmk:a2*k≤2*4000:=Nat.mul_le_mul (by omega) (by omega);have hpl:=AK d k a cn a2 cn2 b l c (by omega) (by omega) (by omega);obtain ⟨fr,hfr⟩:∃ fr,fr=2+a2*k+cn2:=⟨_,rfl⟩;have hpn:cJ t≤10000000:=by rw [cJ];omega
 have hw:=oF h k a cn fr b l c (gR fr t (cJ t)) (by rw [cQ];omega) (by omega);have h1:=lX h fr (gR fr t (cJ t)) (by rw [cQ];omega);rw [cQ] at h1;rw [gK,← hfr];rw [← hfr] at hpl;obtain ⟨x0,hx0⟩:∃ x,x=gI d fr (gR fr t (cJ t)):=⟨_,rfl⟩;rw [← hx0] at hw h1 ⊢;clear hx0;have hset:=XK h1 k a cn a2 (cn2+cJ t) b l c (by omega) (by omega) (by omega);refine Bd func52 rfl ntmps52<|Sr<|Dd (by exact gO (id:=4) rfl rfl rfl rfl rfl)<|Dd aS<|Zz<|Sr<|Dd aF<|Dd (dV uC)<|Dd (eG aU)<|Dd (dV nV)<|Dd (eG aU)<|Dd (by exact aB rfl rfl aAh rfl (kT hpl _ ⟨rfl,rfl,rfl,rfl,rfl,rfl,trivial⟩ (by simp;rfl)))<|Dd (by exact cR (id:=7) rfl zo3 rfl rfl)<|Uu (sS sizeOf3)<|Zz<|Sr<|Dd (by exact cR (id:=8) rfl Y4 rfl rfl)<|Zz<|Sq<|Sr<|Dd aF<|Dd (by exact aB rfl rfl call100 rfl (N5 t _ rfl))<|Zz<|aN ?_;refine gM.ent (E':=[(0,.ref 1100 0 0 0),(4,.ref 4 0 0 0),(7,.ref 7 0 0 0),(8,.ref 8 0 0 0),(18,.clo 129 [.ref 910 0 0 0])]) (H':=(905,⟨0,1,9,[]⟩)::(910,NI t 0)::(8,bx 1 31 [.osl 905 0 0 0])::(7,bx 1 3 [iv (fr:Int)])::(4,bx 2 70 [iv (a2:Int),iv (cn2:Int)])::sH d (cI k a cn b) (bK l c)) (cA.nz 905 1 9 rfl rfl ⟨⟨_,rfl,(by exact Nz.same (by(simp;rfl)))⟩,⟨_,rfl,(by exact Nz.same (by(simp;rfl)))⟩,⟨_,rfl,(by exact Nz.same (by(simp;rfl)))⟩,⟨_,rfl,(by exact Nz.same (by(simp;rfl)))⟩,⟨_,rfl,(by exact Nz.same (by(simp;rfl)))⟩,trivial⟩ ⟨⟨_,rfl,rfl,rfl,rfl,(by exact .inl ⟨rfl,(by(simp;done))⟩)⟩,⟨_,rfl,rfl,rfl,rfl,(by exact .inr ⟨_,_,rfl,rfl,(by repeat(first|exact trivial|refine⟨(by exact Nz.own),?_⟩))⟩)⟩,⟨_,rfl,rfl,rfl,rfl,(by exact .inl ⟨rfl,(by(simp;done))⟩)⟩,⟨_,rfl,rfl,rfl,rfl,(by exact .inl ⟨rfl,(by(simp;done))⟩)⟩,⟨_,rfl,rfl,rfl,rfl,(by exact .inl ⟨rfl,(by exact aE _ _ rfl rfl rfl)⟩)⟩,⟨_,rfl,rfl,rfl,rfl,(by exact .inl ⟨rfl,(by exact aC _ _)⟩)⟩,⟨_,rfl,rfl,rfl,rfl,(by exact .inl ⟨rfl,(by exact aK _ _ _)⟩)⟩,⟨_,rfl,rfl,rfl,rfl,(by exact .inl ⟨rfl,(by exact aJ _ _)⟩)⟩,⟨_,rfl,rfl,rfl,rfl,(by exact .inl ⟨rfl,(by exact bI rfl rfl)⟩)⟩,⟨_,rfl,rfl,rfl,rfl,(by exact .inl ⟨rfl,(by exact aQ _ _ _)⟩)⟩,trivial⟩ ⟨rfl,rfl,rfl,rfl,rfl,rfl,trivial⟩) ?_;obtain ⟨K,hK⟩:∃ K:aA,K=(7,bx 1 3 [iv (fr:Int)])::(4,bx 2 70 [iv (a2:Int),iv (cn2:Int)])::sH d (cI k a cn b) (bK l c):=⟨_,rfl⟩;have k7:K.get 7=some (bx 1 3 [iv (fr:Int)]):=by rw [hK];rfl
 have k4:K.get 944=none:=by rw [hK];rfl
 rw [← hK];refine xQ (id:=944) (p:=19) YM rfl call129 rfl k4 (by simp [YM];exact⟨rfl,rfl,rfl,rfl⟩) ?_;intro x hx1 hx2 hx3 hx4 hx5 hx6;refine((N6 t (.yld 944 0) (fun i=>(944,LR x YM)::(910,NI t i)::ZZ (gR fr t i) K) (fun i=>(944,LR x YM)::(910,NI t i)::ZZ (gR fr t (i+1)) K) (by omega) (fun i=>rfl) (fun i=>rfl) (fun i j=>?_) ?_).congrG (fun j=>?_) (fun j=>rfl)).mono ?_
 ·exact oQ [(910,NI t (i+1)),(944,LR x YM),(910,NI t i)] [(944,LR x YM),(910,NI t (i+1))] (by repeat(first|exact trivial|refine⟨rfl,?_⟩)) j
 ·intro i hi;have hsl:(gR fr t i).length=i:=cQ fr t i;have hpal:(fR t i).length≤46:=by rw [oK];omega
  have hpos:(ofL (fR t i)).size=(fR t i).length:=bY _;have hdg:=fun H=>oS (fR t i).length 2 (by omega) (by omega) H;have e29:ofL (dg (fR t i).length 2)++ofL (fR t i)=ofL (dg (fR t i).length 2++fR t i):=vK _ _;have s29:(ofL (dg (fR t i).length 2)).size≤23:=by rw [bY];exact rO _ 2 (by omega)
  have l29:(dg (fR t i).length 2++fR t i).length≤48:=by rw [aBH,jG (mX _ (by omega) (by omega))];omega
  have hse:=fun H=>AC (fr+i) (dg (fR t i).length 2++fR t i) (by omega) l29 H;have hpe:ofL (gN (fr+i) (dg (fR t i).length 2++fR t i))=ofL (eR (fr+i) (fR t i)):=rfl;rw [hpe] at hse;rw [NU,WP];obtain ⟨S,hS⟩:∃ S,S=gR fr t i:=⟨_,rfl⟩;rw [← hS] at hsl ⊢;obtain ⟨u,hu⟩:∃ u,u=fR t i:=⟨_,rfl⟩;rw [← hu] at hpal hpos hdg e29 s29 l29 hse ⊢;refine .inl ⟨944,0,rfl,?_⟩;refine EH [(0,.ref 1100 0 0 0),(4,.ref 4 0 0 0),(7,.ref 7 0 0 0),(8,.ref 8 0 0 0),(9,sv (ofL u))] ((910,NI t i)::ZZ S K) hx1 hx2 hx3 hx4 hx5 hx6 rfl rfl rfl ?_ ?_
  ·refine Rg<|Da ?_;exact E0
  refine aN<|bR follows<|Cs (fun _ h=>lh cM h)<|Cs (fun H1 hH=>by exact aX rfl aU rfl ((hH _ rfl).trans k7) rfl rfl rfl)<|Cs (fun _ h=>lh cM h)<|Cs (fun H1 hH=>by exact dO rfl aO rfl ((hH _ rfl).trans rfl) rfl)<|Cs (fun H1 hH=>by exact cV rfl rfl rfl (show IntKind.i64.wrap ((fr:Int)+(S.length:Int))=((fr+i:Nat):Int)by rw [hsl,jS (by omega) (by omega)];omega))<|Cs (fun _ _=>aF)<|Cs (fun _ _=>(CO aI))<|Cs (fun H1 hH=>by exact aB rfl rfl BZ rfl (hdg _))<|Cs (fun _ _=>aF)<|Cs (fun H1 hH=>by exact jZ rfl rfl rfl (by omega) e29)<|Cs (fun H1 hH=>by exact aB rfl rfl aA4 rfl (hse _))<|Cs (fun H1 hH=>by exact bL [[.str (ofL (eR (fr+i) u))]] rfl bZ rfl rfl rfl rfl rfl (by intro r hr;rw [aBJ] at hr;subst hr;rfl)) ?_;refine cB (r:=⟨_,none,[_]⟩) (DStep.plain rfl (fun H1 hH=>by exact eD (ps:=[[.str (ofL (eR (fr+i) u))]]) rfl bZ I6 rfl ((hH _ rfl).trans rfl) rfl rfl rfl (fE _) rfl (by intro r hr;rw [aBJ] at hr;subst hr;rfl) (m:=1) rfl (by omega) rfl (mE _ (ofL (eR (fr+i) u))))) rfl ?_;refine cB (r:=⟨_,none,[_]⟩) (DStep.plain rfl (fun H1 hH=>by exact(by exact jM rfl qA rfl rfl rfl rfl ((hH _ rfl).trans rfl) rfl rfl rfl))) rfl ?_;refine dG<|Kr ?_;exact⟨(910,NI t i)::(905,⟨S.length+1,1,9,dE (S++[ofL (eR (fr+i) u)])⟩)::(8,bx 1 31 [.osl 905 (S.length+1) 0 (S.length+1)])::K,cA.get' trivial (fun j=>oQ [_,_,_,_] [_,_,_,_,_,_] (by repeat(first|exact trivial|refine⟨rfl,?_⟩)) j),rfl,rfl⟩
 ·exact oQ [_,_,_,_] [_,_,_,_] (by repeat(first|exact trivial|refine⟨rfl,?_⟩)) j
 rintro r H' ⟨rfl,rfl⟩;refine⟨x,_,rfl,by rw [hx1];decide,rfl,fun z=>?_⟩;rw [hx2];have hSl:(gR fr t (cJ t)).length=cJ t:=cQ _ _ _;obtain ⟨S,hS⟩:∃ S,S=gR fr t (cJ t):=⟨_,rfl⟩;rw [← hS] at hSl hw;rw [← hS];have hSm:((S.map encStr).length:Int)=(cJ t:Int):=by rw [aBG,hSl]
 subst hK;refine Sq<|Sq ?_;refine gM.ent (cA.fzG (id:=905) (E':=YM) (H':=(8,bx 1 31 [.pv (aW S)])::(7,bx 1 3 [iv (fr:Int)])::(4,bx 2 70 [iv (a2:Int),iv (cn2:Int)])::sH d (cI k a cn b) (bK l c)) (S.map encStr) rfl (kS _) ?_ rfl ?_ ?_) ?_
 ·intro p hp;simp only [aBS,aBW,or_false] at hp;rcases hp with rfl|rfl|rfl|rfl<;>exact⟨_,rfl,.same (by simp;rfl)⟩
 ·exact⟨⟨_,rfl,rfl,rfl,rfl,VZ rfl (zK (.osl (mP encStr _)) KS)⟩,⟨_,rfl,rfl,rfl,rfl,cT (by simp)⟩,⟨_,rfl,rfl,rfl,rfl,cT (by simp)⟩,⟨_,rfl,rfl,rfl,rfl,cT (aE _ _ rfl rfl rfl)⟩,⟨_,rfl,rfl,rfl,rfl,cT (aC _ _)⟩,⟨_,rfl,rfl,rfl,rfl,cT (aK _ _ _)⟩,⟨_,rfl,rfl,rfl,rfl,cT (aJ _ _)⟩,⟨_,rfl,rfl,rfl,rfl,cT (bI rfl rfl)⟩,⟨_,rfl,rfl,rfl,rfl,cT (aQ _ _ _)⟩,trivial⟩
 ·exact⟨rfl,rfl,rfl,rfl,rfl,rfl,trivial⟩
 refine Rg<|Dd aF<|Dd (eG aU)<|Dd (eG cM)<|Dd (by exact aB rfl rfl qI rfl (gW hw _ ⟨rfl,rfl,rfl,rfl,rfl,rfl,trivial⟩ (by simp;rfl)))<|Dd aS<|Zz<|Sr<|Dd aF<|Dd uT<|Zz ?_;refine Cn ?_ ?_<;>intro hc1
 ·have he:¬ x0.1=0:=by have h:=hc1;simpa using h
  have hb:(b||!decide (x0.1=0))=true:=by rw [decide_eq_false he];cases b<;>rfl
  rw [aBE he,aBE he,hb];refine Sr<|Dd aF<|Dd aS<|Zz<|aM ?_;refine bF (H':=(sH x0.2 (cI k a cn true) (bK l c))) (.inr rfl) rfl (aH rfl) (Fin.wk (by(simp;done)) (Hc (aE _ _ rfl rfl rfl)<|Hc (aC _ _)<|Hc (aK _ _ _)<|Hc (aJ _ _)<|Hc (bI rfl rfl)<|Hc (aQ _ _ _)<|trivial) ⟨rfl,rfl,rfl,rfl,rfl,rfl,trivial⟩) ?_;exact Qq
 have he:x0.1=0:=by have h:=hc1;simpa using h
 have hb:(b||!decide (x0.1=0))=b:=by rw [he];cases b<;>rfl
 rw [aBF he,hb];obtain ⟨y,hy⟩:∃ y,y=lS x0.2 a2 (cn2+cJ t):=⟨_,rfl⟩;rw [← hy] at hset ⊢;refine aG<|Sr<|Dd (dV nV)<|Dd (eG aU)<|Dd (eG cM)<|Dd (mH aO)<|Dd (by exact cV rfl rfl rfl (show IntKind.i64.wrap ((cn2:Int)+((S.map encStr).length:Int))=((cn2+cJ t:Nat):Int)by rw [hSm,jS (by omega) (by omega)];omega))<|Dd (dV nV)<|Uu (by exact cX rfl sizeOf3 rfl rfl rfl rfl rfl rfl (by simp only [aBI,List.length_nil];omega) (by simp only [Zl,encStr];rfl) (by simp only [Zl,encStr];rfl))<|Zz<|Sr<|Dd aF<|Dd (VL dJ sizeOf70)<|Dd (by exact aB rfl rfl call103 rfl (gW hset _ ⟨rfl,rfl,rfl,rfl,rfl,rfl,trivial⟩ (by simp;rfl)))<|Dd aS<|Zz<|aM ?_;refine bF (H':=(sH y.2 (if y.1=0 then cI k a2 (cn2+cJ t) b else cI k a cn true) (bK l c))) (.inr rfl) rfl (aH rfl) (Fin.wk (by(simp;done)) (Hc (aE _ _ rfl rfl rfl)<|Hc (aC _ _)<|Hc (aK _ _ _)<|Hc (aJ _ _)<|Hc (UW rfl rfl)<|Hc (aQ _ _ _)<|trivial) ⟨rfl,rfl,rfl,rfl,rfl,rfl,trivial⟩) ?_;exact Qq
end Go.Proofs.YtmkgeogoojcciaaGreatDoor
namespace Go.Proofs.YtmkgeogoojcciaaGreatDoor
open Go.Proofs.Tryz
open Go.Abs
abbrev Z9:ByteArray:=⟨#[58]⟩
theorem JP (s:ByteArray) (H:aA):aL Tryz.prog 171 [sv s,sv Z9] H (fun r H'=>r=iv (Lib.indexByte s.data.toList 58)∧H'=H):=by
 refine Pu ?_;refine Bd func171 rfl ntmps171<|Sr<|Dd aS<|Zz<|Sr<|Dd aF<|Dd (CO aI)<|Dd aS<|Zz<|Sq<|aN<|Sq ?_;refine dL (t:=16) (n:=9) (X:=decide (Z9=s)) ?_ ?_
 ·all_goals refine Dd aF ?_
  all_goals refine Dd iY<|Dm ?_
  all_goals refine Sp 19 (fun h19=>?_) fun h19=>?_
  all_goals try contradiction
  all_goals refine On aF<|On aF<|On XM<|Dd iM<|Da ?_
  all_goals(exact⟨⟨_,rfl,by rfl⟩,rfl,rfl,rfl⟩)
 refine Cn ?_ ?_<;>intro hc1
 ·have hs:=aBC hc1;subst hs;exact Sr<|Dd aS<|Zz<|aM<|Rt<|Qq
 refine Sr<|Dd aF<|Dd iY<|Da ?_;refine Cn ?_ ?_<;>intro hc2
 ·exact Sr<|Dd aF<|Dd aF<|Dd (by exact CH rfl aI rfl rfl (by omega) (by exact aBR _) (show 0 < (⟨#[58]⟩:ByteArray).size from Nat.zero_lt_one) rfl)<|Dd (by exact aB rfl rfl call186 rfl (B8 s 58 _))<|Dd aS<|Zz<|aM<|Rt<|Qq
 cases hc2
def IF (s:ByteArray):AV:=if Lib.indexByte s.data.toList 58 = -1 then .tup [sv s,sv ⟨#[]⟩,bv false] else .tup [sv (s.extract 0 (Lib.indexByte s.data.toList 58).toNat),sv (s.extract ((Lib.indexByte s.data.toList 58).toNat+1) s.size),bv true]
theorem Q0 (s:ByteArray) (H:aA) (hs:s.size < 1099511627776):aL Tryz.prog 144 [sv s,sv Z9] H (fun r H'=>r=IF s∧H'=H):=by
 refine Pu ?_;have hI:=fun H=>JP s H;rw [IF];rcases Classical.em (Lib.indexByte s.data.toList 58 = -1)with h1|h1
 ·rw [aBF h1];simp only [h1] at hI;refine Bd func144 rfl ntmps144<|Sr<|Dd aS<|Dd aS<|Dd aS<|Zz<|Sq<|Sr<|Dd aF<|Dd aF<|Dd (by exact aB rfl rfl call171 rfl (hI _))<|Dd aS<|Zz<|Sr<|Dd aF<|Dd UE<|Zz ?_;refine Cn ?_ ?_<;>intro hc1
  ·cases hc1
  refine aG<|Sr<|Dd aF<|Dd aS<|Dd aS<|Dd aS<|Zz<|aM ?_;refine M4 (H':=[]) (.inr rfl) rfl (aH rfl) (aH rfl) (aH rfl) (Fin.wk (by simp) trivial trivial) ?_;exact Qq
 rw [aBE h1];obtain ⟨w,r,e1,e2,e3⟩:=A6 h1;simp only [e3] at hI;rw [e3,aBR];have hl:w.length+1+r.length=s.size:=by rw [← show s.data.toList.length=s.size by simp,e1,aBH,aBI];omega
 refine Bd func144 rfl ntmps144<|Sr<|Dd aS<|Dd aS<|Dd aS<|Zz<|Sq<|Sr<|Dd aF<|Dd aF<|Dd (by exact aB rfl rfl call171 rfl (hI _))<|Dd aS<|Zz<|Sr<|Dd aF<|Dd UE<|Zz ?_;refine Cn ?_ ?_<;>intro hc1
 ·refine Sq<|bR follows<|Cq aF<|Cq aF<|Cq (by exact dB (l:=0) (h:=(w.length)) rfl aI rfl rfl rfl (by omega) (by omega) rfl)<|Cq aF<|Cq aF<|Cq aF<|Cq (CO aI)<|Cq (by exact cV rfl rfl rfl (show IntKind.i64.wrap ((w.length:Int)+1)=((w.length+1:Nat):Int)by rw [IntKind.wrap_i64];omega))<|Cq (by exact dB (l:=(w.length+1)) (h:=s.size) rfl aI rfl rfl rfl (by omega) (by omega) rfl)<|Cq aS<|Cq aS<|Cq aS<|dG<|Kr<|aM ?_;refine M4 (H':=[]) (.inr rfl) rfl (aH rfl) (aH rfl) (aH rfl) (Fin.wk (by simp) trivial trivial) ?_;exact Qq
 have hx:=aBD hc1;omega
theorem YB (s:ByteArray) (H:aA) (hs:s.size < 1099511627776):aL Tryz.prog 117 [sv s,sv Z9] H (fun r H'=>r=IF s∧H'=H):=by
 refine Pu ?_;have hC:=fun H=>Q0 s H hs;rw [IF] at *;rcases Classical.em (Lib.indexByte s.data.toList 58 = -1)with h1|h1
 ·simp only [IF,aBF h1] at hC ⊢;refine Bd func117 rfl ntmps117<|Sr<|Dd aS<|Dd aS<|Dd aS<|Zz<|Sr<|Dd aF<|Dd aF<|Dd (by exact aB rfl rfl call144 rfl (hC _))<|Dd eP<|Dd eP<|Dd eP<|Dd aS<|Dd aS<|Dd aS<|Zz<|aM ?_;refine M4 (H':=[]) (.inr rfl) rfl (aH rfl) (aH rfl) (aH rfl) (Fin.wk (by simp) trivial trivial) ?_;exact Qq
 simp only [IF,aBE h1] at hC ⊢;refine Bd func117 rfl ntmps117<|Sr<|Dd aS<|Dd aS<|Dd aS<|Zz<|Sr<|Dd aF<|Dd aF<|Dd (by exact aB rfl rfl call144 rfl (hC _))<|Dd eP<|Dd eP<|Dd eP<|Dd aS<|Dd aS<|Dd aS<|Zz<|aM ?_;refine M4 (H':=[]) (.inr rfl) rfl (aH rfl) (aH rfl) (aH rfl) (Fin.wk (by simp) trivial trivial) ?_;exact Qq
theorem mI (l:List ByteArray) (H:aA) (hl:(aR l).length < 35184372088832):aL Tryz.prog 99 [.pv (aW l)] H (fun r H'=>r=sv (ofL (aR l))∧H'=H):=by
 refine Pu ?_;have hml:(l.map encStr).length=l.length:=aBG _;have hll:=rG l;refine Bd func99 rfl ntmps99<|Sr<|Dd aS<|Zz<|Sr<|Dd (by exact cR (id:=2001) rfl P6 rfl rfl)<|Zz<|Sq<|Sq ?_;refine gM.ent (E':=[(0,.pv (aW l)),(3,.ref 2001 0 0 0)]) (H':=I7 0 [] false) (cA.bld0 ⟨⟨_,rfl,.same (by simp)⟩,⟨_,rfl,.same (by simp;rfl)⟩,trivial⟩) ?_;refine Rg<|Dd aF<|Dd (mH aO)<|Dd aF<|Zz<|aN ?_;refine xR (fun(k g:Nat) (u:Bool)=>([(3,.ref 2001 0 0 0),(6,.pv (aW l)),(7,iv ((l.map encStr).length:Int)),(8,iv (k:Int))],I7 g (aR (l.take k)) u)) (fun k g u=>k≤l.length) (fun k g u=>l.length - k) 0 0 false (aBX _) ?_ ?_
 ·exact(cA.wk (Ea<|Eb<|Eb<|Eb<|trivial) (Hc (oW rfl rfl)<|Hc (sR _ _)<|trivial) trivial)
 intro k g u hk;have hle:=A4 l k;refine Sr<|Dd dZ<|Zz<|Sq ?_;refine Cn ?_ ?_<;>intro hc1
 ·have hlt:k < l.length:=by have:=aBC hc1;omega
  obtain ⟨s,hs⟩:=aZ hlt;have hi:=dI (f:=encStr) hs;have hle2:=A4 l (k+1);rw [dK hs,vP,aBH,qQ,nH] at hle2;have hsz:s.size < 35184372088832:=by omega
  refine aG<|Sq<|aN<|Sr<|Dd (GJ bZ)<|Dd (nT aV)<|Dd aS<|Zz<|Rg<|Dd aF<|Dd (CO aI)<|Dd (by exact aB rfl rfl qH rfl (pJ (s.size:Int) (by omega) (by omega) _))<|Dd (by exact jZ rfl rfl rfl (by have:(⟨#[58]⟩:ByteArray).size=1:=rfl;omega) rfl)<|Dd aF<|Dd (by exact jZ rfl rfl rfl (by rw [ByteArray.size_append];have:(⟨#[58]⟩:ByteArray).size=1:=rfl;omega) rfl)<|Dd (by exact aB rfl rfl call86 rfl (sV g (aR (l.take k)) u (pC s) (by rw [nH];omega)))<|Zz<|Rg<|Dd oE<|Dd aF<|Zz ?_;refine⟨k+1,g+1,true,by omega,by omega,?_⟩;rw [dK hs,vP];exact(cA.wk (Ea<|Eb<|Eb<|Eb<|trivial) (Hc (oW rfl rfl)<|Hc (sR _ _)<|trivial) trivial)
 have hge:k=l.length:=by have:=aBD hc1;omega
 subst hge;rw [List.take_length];exact bE<|Sr<|Dd (by exact aB rfl rfl call88 rfl (WS g (aR l) u (by omega)))<|Dd aS<|Zz<|aM<|Rt<|Qq
def zN (l:List UInt8):List UInt8:=l.takeWhile fun b=>!decide (b=58)
def yL (l:List UInt8):List UInt8:=(l.dropWhile fun b=>!decide (b=58)).drop 1
def tE (l:List UInt8):Bool:=(((!decide ((58:UInt8)∈l)||iJ (ofL (zN l)))||decide (dP (ofL (zN l)) < 0))||decide (((yL l).length:Int) < dP (ofL (zN l))))||!decide (dS (dP (ofL (zN l)))=ofL (zN l))
def MR (l:List UInt8):Nat:=(dP (ofL (zN l))).toNat
def fO:Nat→List UInt8→List ByteArray→List ByteArray×Bool
 | 0,l,acc=>(acc,true)
 | n+1,l,acc=>if l=[] then(acc,true)else if tE l then([],false)else fO n ((yL l).drop (MR l)) (acc++[ofL ((yL l).take (MR l))])
def eQ (l:List UInt8):List ByteArray×Bool:=fO l.length l []
theorem F7 {l:List UInt8} (h:l≠[]):(yL l).length < l.length:=by rw [yL,aBV];have:=(List.dropWhile_sublist (l:=l) fun b=>!decide (b=58)).length_le;have:=List.length_pos_iff.2 h;omega
theorem zW:∀ (n m:Nat) (l:List UInt8) (acc:List ByteArray),l.length≤n→l.length≤m→fO n l acc=fO m l acc
 | 0,m,l,acc,h,_=>by
  rw [List.length_eq_zero_iff.1 (Nat.le_zero.1 h)];cases m<;>rfl
 | n+1,0,l,acc,_,h=>by
  rw [List.length_eq_zero_iff.1 (Nat.le_zero.1 h)];rfl
 | n+1,m+1,l,acc,hn,hm=>by
  rw [fO,fO];by_cases h0:l=[]
  ·rw [aBF h0,aBF h0]
  rw [aBE h0,aBE h0];have hlt:=F7 h0;by_cases hb:tE l=true
  ·rw [aBF hb,aBF hb]
  rw [aBE hb,aBE hb];exact zW n m _ _ (by rw [aBV];omega) (by rw [aBV];omega)
theorem xZ {l:List UInt8} {acc:List ByteArray} (h0:l≠[]) (hb:tE l=false):fO l.length l acc=fO ((yL l).drop (MR l)).length ((yL l).drop (MR l)) (acc++[ofL ((yL l).take (MR l))]):=by have hlt:=F7 h0;obtain ⟨k,hk⟩:∃ k,l.length=k+1:=⟨l.length - 1,by omega⟩;rw [hk,fO,aBE h0,aBE (by rw [hb];decide)];exact zW _ _ _ _ (by rw [aBV];omega) (aBM _)
theorem JK {l:List UInt8} {acc:List ByteArray} (h0:l≠[]) (hb:tE l=true):fO l.length l acc=([],false):=by have hlt:=F7 h0;obtain ⟨k,hk⟩:∃ k,l.length=k+1:=⟨l.length - 1,by omega⟩;rw [hk,fO,aBE h0,aBF hb]
theorem S3 {w r:List UInt8} (h:(58:UInt8)∉w):zN (w++58::r)=w∧yL (w++58::r)=r:=by
 induction w with
 | nil=>exact⟨rfl,rfl⟩
 | cons b w ih =>
  have hb:b≠58:=fun e=>h (by rw [e];exact List.mem_cons_self);obtain ⟨h1,h2⟩:=ih (fun e=>h (List.mem_cons_of_mem _ e));rw [zN] at h1 ⊢;rw [yL] at h2 ⊢;rw [List.cons_append,List.takeWhile_cons,List.dropWhile_cons,aBF (by simp [hb]),aBF (by simp [hb]),h1];exact⟨rfl,h2⟩
theorem S2:∀ {l:List UInt8},(58:UInt8)∉l→zN l=l∧yL l=[]
 | [],_=>⟨rfl,rfl⟩
 | b::l,h=>by
  have hb:b≠58:=fun e=>h (by rw [e];exact List.mem_cons_self);obtain ⟨h1,h2⟩:=S2 (l:=l) (fun e=>h (List.mem_cons_of_mem _ e));rw [zN] at h1 ⊢;rw [yL] at h2 ⊢;rw [List.takeWhile_cons,List.dropWhile_cons,aBF (by simp [hb]),aBF (by simp [hb]),h1];exact⟨rfl,h2⟩
theorem V6 (l:List UInt8):IF (ofL l)=.tup [sv (ofL (zN l)),sv (ofL (yL l)),bv (decide ((58:UInt8)∈l))]:=by
 rw [IF,bC];by_cases h:Lib.indexByte l 58 = -1
 ·rw [aBF h];have hm:=A5.1 h;rw [(S2 hm).1,(S2 hm).2,decide_eq_false hm];rfl
 rw [aBE h];obtain ⟨w,r,e1,e2,e3⟩:=A6 h;rw [e3,aBR];subst e1;rw [(S3 e2).1,(S3 e2).2,decide_eq_true (by simp)];have x1:(ofL (w++58::r)).extract 0 w.length=ofL w:=lE (by rw [eJ,bC,bC,List.drop_zero,Nat.sub_zero,List.take_left]);have x2:(ofL (w++58::r)).extract (w.length+1) (ofL (w++58::r)).size=ofL r:=lE (by
  rw [rL,bC,bC,← List.drop_drop,List.drop_left];rfl)
 rw [x1,x2]
theorem PP (s:ByteArray) : -9223372036854775808≤dP s∧dP s≤9223372036854775807:=by
 rw [dP,rT];cases e:Lib.atoiAll s.data.toList with
 | ok v=>exact Lib.atoiAll_bounds e
 | range =>
  show _≤Lib.atoiSat _∧Lib.atoiSat _≤_;rw [Lib.atoiSat]
  split
  ·exact⟨by decide,by decide⟩
  exact⟨by decide,by decide⟩
 | _ =>
  show (-9223372036854775808:Int)≤0∧(0:Int)≤9223372036854775807;exact⟨by decide,by decide⟩
theorem Fin.st2 {H1:aA} {id g n:Nat} {ob:Ob} (l:List ByteArray) (v:AV) (hH:H1.get id=some ob) (hg:ob.g=g) (hps:ob.rows=dE l) (hn:n=l.length) (hv:Clo [] v) :
  Fin [] H1 (.tup [.osl id g 0 n,v]) [] (.tup [.pv (aW l),v]):=by
 subst hg hn;exact Fin.fz (id:=id) (ob:=ob) (l.map encStr) hH (hps.trans (kS l)) (.tup rfl (zK (.osl (mP encStr l)) (zK (.same hv) KS))) rfl trivial trivial
theorem K6 (l:List UInt8):(zN l).length≤l.length∧(yL l).length≤l.length:=by
 constructor
 ·exact(List.takeWhile_sublist _).length_le
 rw [yL,aBV];have:=(List.dropWhile_sublist (l:=l) fun b=>!decide (b=58)).length_le;omega
theorem G4 (t:List UInt8) (H:aA) (ht:t.length < 1000000000):aL Tryz.prog 87 [sv (ofL t)] H (fun r H'=>r=.tup [.pv (aW (eQ t).1),bv (eQ t).2]∧H'=H):=by
 refine Pu ?_;refine Bd func87 rfl ntmps87<|Sr<|Dd aS<|Dd aS<|Zz<|Sr<|Dd (by exact kD (id:=905) (sz:=1) (ty:=9) rfl rfl rfl)<|Zz<|Sq<|aN ?_;refine xS (fun(l:List UInt8) (A:List ByteArray)=>([(0,sv (ofL l)),(4,.osl 905 A.length 0 A.length)],[(905,⟨A.length,1,9,dE A⟩)])) (fun l A=>l.length+A.length≤t.length∧eQ t=fO l.length l A) (fun l A=>l.length) t [] ⟨aBM _,rfl⟩ ?_ ?_
 ·exact(cA.wk (Eb<|Ea<|trivial) (Hc (fT _ _)<|trivial) trivial)
 rintro l A ⟨hl,hR⟩;have hls:(ofL l).size=l.length:=bY l;have hcl:=K6 l;have hcut:=fun H=>YB (ofL l) H (by omega);rw [V6] at hcut;have hat:=fun H=>zP (ofL (zN l)) (by rw [bY];omega) H;have hbd:=PP (ofL (zN l));have hit:=fun H=>pJ (dP (ofL (zN l))) hbd.1 hbd.2 H;have hrs:(ofL (yL l)).size=(yL l).length:=bY _;have hbad:tE l=((((!decide ((58:UInt8)∈l)||iJ (ofL (zN l)))||decide (dP (ofL (zN l)) < 0))||decide (((yL l).length:Int) < dP (ofL (zN l))))||!decide (dS (dP (ofL (zN l)))=ofL (zN l))):=rfl;have hN:MR l=(dP (ofL (zN l))).toNat:=rfl;obtain ⟨x,hx⟩:∃ x,x=ofL (zN l):=⟨_,rfl⟩;obtain ⟨v,hv⟩:∃ v,v=dP (ofL (zN l)):=⟨_,rfl⟩;obtain ⟨e,he⟩:∃ e,e=iJ (ofL (zN l)):=⟨_,rfl⟩;obtain ⟨o,ho⟩:∃ o,o=decide ((58:UInt8)∈l):=⟨_,rfl⟩;obtain ⟨r,hr⟩:∃ r,r=yL l:=⟨_,rfl⟩;obtain ⟨iv',hiv⟩:∃ y,y=dS v:=⟨_,rfl⟩;simp only [← hv,← he,← ho,← hr] at hcut hat hit hbad hN hbd hrs hcl;simp only [← hx,← hiv] at hcut hat hit hbad;have hlt:=fun h0=>F7 (l:=l) h0;have hst:=fun(h0:l≠[]) hb=>xZ (acc:=A) h0 hb;have hbb:=fun(h0:l≠[]) hb=>JK (acc:=A) h0 hb;rw [← hr] at hlt;simp only [← hr] at hst;clear hx hv he ho hr hiv;refine Sq<|Sr<|Dd aF<|Dd (CO aI)<|Dd DU<|Zz ?_;refine Cn ?_ ?_<;>intro hc1
 ·have h0:l≠[]:=fun e=>by have h:=aBC hc1;rw [hls,e] at h;exact absurd h (by decide)
  refine aG<|aN<|Sr<|Dd aF<|Dd (by exact aB rfl rfl call117 rfl (hcut _))<|Dd aF<|Dd eP<|Dd eP<|Dd eP<|Dd aS<|Dd aS<|Dd aS<|Zz<|Sr<|Dd aF<|Dd (by exact aB rfl rfl UI rfl (hat _))<|Dd aF<|Dd eP<|Dd eP<|Dd aS<|Dd aS<|Zz<|Sq<|Sq ?_;refine dL (t:=45) (n:=26) (X:=tE l) ?_ ?_
  ·all_goals refine Dd aF ?_
   all_goals refine Dd yE<|Dm ?_
   all_goals refine Sp 26 (fun h26=>?_) fun h26=>?_
   all_goals(try(with_reducible contradiction))
   all_goals first|refine Fo<|Fo ?_|refine On aF<|On (by exact vF rfl jJ rfl) ?_
   all_goals refine Dd iM<|Dm ?_
   all_goals refine Sp 30 (fun h30=>?_) fun h30=>?_
   all_goals(try(with_reducible contradiction))
   all_goals first|refine Fo<|Fo ?_|refine On aF<|On dZ ?_
   all_goals refine Dd iM<|Dm ?_
   all_goals refine Sp 34 (fun h34=>?_) fun h34=>?_
   all_goals(try(with_reducible contradiction))
   all_goals first|refine Fo<|Fo<|Fo<|Fo ?_|refine On aF<|On aF<|On (CO aI)<|On DU ?_
   all_goals refine Dd iM<|Dm ?_
   all_goals refine Sp 40 (fun h40=>?_) fun h40=>?_
   all_goals(try(with_reducible contradiction))
   all_goals first|refine Fo<|Fo<|Fo<|Fo ?_|refine On aF<|On (by exact aB rfl rfl qH rfl (hit _))<|On aF<|On QX ?_
   all_goals refine Dd iM<|Zz ?_
   all_goals(exact⟨⟨_,rfl,by rw [hbad];first|(rw [h26];rfl)|(rw [h26,h30];rfl)|(rw [h26,h30,h34,← hrs];rfl)|(rw [h26,h30,h34,← hrs,h40];rfl)⟩,rfl,rfl,rfl⟩)
  refine Cn ?_ ?_<;>intro hc2
  ·have hb:tE l=true:=hc2;rw [hR,hbb h0 hb];refine Sr<|Dd aS<|Dd aS<|Zz<|aM ?_;refine gQ (H':=[]) (.inr rfl) rfl (aH rfl) (aH rfl) (Fin.wk (r:=.tup [.pv (aW []),bv false]) (by simp) trivial trivial) ?_;exact Qq
  have hb:tE l=false:=hc2;have hs:=hst h0 hb;have hlt2:=hlt h0;have hb2:=hbad.symm.trans hb;simp only [aB2,aBO] at hb2;obtain ⟨u,rfl⟩:∃ u:Nat,v=(u:Int):=⟨v.toNat,by omega⟩;rw [aBR] at hN;rw [hN] at hs;have hur:u≤r.length:=by omega
  have x1:(ofL r).extract 0 u=ofL (r.take u):=lE (by rw [eJ,bC,bC,List.drop_zero,Nat.sub_zero]);have x2:(ofL r).extract u (ofL r).size=ofL (r.drop u):=lE (by rw [rL,bC,bC]);have hnl:(A++[ofL (r.take u)]).length=A.length+1:=by rw [aBH];rfl
  refine aG<|bR follows<|Cr [905] (fun _ _=>aF)<|Cr [] (fun _ _=>aF)<|Cr [] (fun _ _=>aF)<|Cr [] (fun H1 hH=>by exact dB (l:=0) (h:=u) rfl aI rfl rfl rfl (aBX _) (by omega) x1)<|Cr [] (fun H1 hH=>by exact bL [[.str (ofL (r.take u))]] rfl bZ rfl rfl rfl rfl rfl (by intro r hr;rw [aBJ] at hr;subst hr;rfl))<|Cp [905] (fun H1 hH=>by exact eD (ps:=[[.str (ofL (r.take u))]]) rfl bZ I6 rfl ((hH _ rfl).trans rfl) rfl rfl rfl (fE _) rfl (by intro r hr;rw [aBJ] at hr;subst hr;rfl) (m:=1) rfl (by omega) rfl (mE _ (ofL (r.take u))))<|Cr [] (fun _ _=>aF)<|Cr [] (fun _ _=>aF)<|Cr [] (fun H1 hH=>by exact dB (l:=u) (h:=(ofL r).size) rfl aI rfl rfl rfl (by omega) (aBM _) x2)<|Cr [905] (fun _ _=>aS)<|Cr [] (fun _ _=>aS)<|dG<|Kr ?_;refine⟨r.drop u,A++[ofL (r.take u)],⟨by rw [aBV,hnl];omega,hR.trans hs⟩,by rw [aBV];omega,?_⟩;dsimp only;rw [hnl];exact(cA.wk (Eb<|Ea<|trivial) (Hc (fT _ _)<|trivial) trivial)
 have h0:l=[]:=List.length_eq_zero_iff.1 (by have:=aBD hc1;omega);rw [hR,h0];refine bE<|Sr<|Dd aF<|Dd aS<|Dd aS<|Zz<|aM ?_;refine gQ (H':=[]) (.inr rfl) rfl (aH rfl) (aH rfl) (Fin.st2 A (bv true) rfl rfl rfl rfl (by simp)) ?_;exact Qq
def B0 (F:FuncId) (caps:List AV) (PR:List ByteArray→Prop) (K:aA):Prop :=∀ (yv:AV) (Hs:List ByteArray→aA),(∀ M,Sub K (Hs M))→(∀ M,(Hs M).get 946=none)→(∀ M,bM (Hs M))→(∀ M,Clo (Hs M) yv) →
  (∀ M x,M.length < 1099511627776→fD Tryz.prog yv [sv x] (Hs M) (fun r H'=>r=bv true∧H'=Hs (M++[x]))) →
  (∀ o M x,M.length < 1099511627776→fD Tryz.prog yv [sv x] ((946,o)::Hs M) (fun r H'=>r=bv true∧H'=(946,o)::Hs (M++[x]))) →
  aL Tryz.prog F (yv::caps) (Hs []) (fun r H'=>r=.tup []∧∃ M,PR M∧H'=Hs M)
def UC:bH:=[(2,.ref 942 0 0 0)]
def UK (M:List ByteArray) (K:aA):aA:=(945,⟨M.length,1,9,dE M⟩)::(942,bx 1 31 [.osl 945 M.length 0 M.length])::K
theorem LK (M:List ByteArray) (s:ByteArray) (K:aA):UK (M++[s]) K=(945,⟨M.length+1,1,9,dE (M++[s])⟩)::(942,bx 1 31 [.osl 945 (M.length+1) 0 (M.length+1)])::K:=by simp [UK]
theorem JB {M:List ByteArray} {K:aA} {x:Go.Loop} (h:bM K):bM ((944,LR x UC)::UK M K):=by refine bM.app (D:=[(944,LR x UC),(945,⟨M.length,1,9,dE M⟩),(942,bx 1 31 [.osl 945 M.length 0 M.length])]) ?_ h;refine mD.spec ⟨T8 (by simp [UC];rfl),fT _ _,?_,trivial⟩;intro r hr a ha;simp only [bx,aBJ] at hr;subst hr;rw [aBJ] at ha;subst ha;exact .osl rfl
theorem LC {F:FuncId} {caps:List AV} {PR:List ByteArray→Prop} (hE:∀ (args:Array Value) (w:World),(callFunc F args).run Tryz.prog w=.ok (.enter F args) w) (K:aA) (hS:B0 F caps PR K) (k2:K.get 942=none) (k4:K.get 944=none) (k5:K.get 945=none) (k6:K.get 946=none) (hc:bM K) (hcap:Clo K (.clo F caps)) :
  aL Tryz.prog 125 [.pv .nils,.clo F caps] K (fun r H'=>∃ M,PR M∧r=.osl 945 M.length 0 M.length∧H'=(945,⟨M.length,1,9,dE M⟩)::K):=by
 have k2':aA.get ((945,⟨0,1,9,[]⟩)::K) 942=none:=k2;refine Bd func125 rfl ntmps125 ?_;refine TG (t:=0) (id:=945) (sz:=1) (ty:=9) rfl k5 rfl ?_;refine PI (t:=0) rfl rfl rfl (aBM _) ?_;refine Sr<|Dd (by exact gO (id:=942) rfl rfl rfl rfl k2')<|Dd aS<|Zz<|Sq<|Sr<|Dd aF<|Zz<|aN ?_;refine gM.ent (E':=[(2,.ref 942 0 0 0),(6,.clo F caps)]) (H':=UK [] K) (cA.get' ⟨⟨_,rfl,rfl⟩,⟨_,rfl,rfl⟩,trivial⟩ (fun j=>vV (by decide) j)) ?_;refine xQ (id:=944) (p:=7) UC rfl hE rfl k4 (by simp [UC];rfl) ?_;intro x hx1 hx2 hx3 hx4 hx5 hx6;refine(hS (.yld 944 0) (fun M=>(944,LR x UC)::UK M K) (fun M=>?_) (fun M=>k6) (fun M=>JB hc) (fun M=>by simp;rfl) ?_ ?_).mono ?_
 ·refine Sub.app (D:=[(944,LR x UC),(945,⟨M.length,1,9,dE M⟩),(942,bx 1 31 [.osl 945 M.length 0 M.length])]) ?_;intro p hp;simp only [aBS,aBW,or_false] at hp;rcases hp with rfl|rfl|rfl
  ·exact k4
  ·exact k5
  exact k2
 ·intro M s hM;refine .inl ⟨944,0,rfl,?_⟩;rw [LK];refine EH [(2,.ref 942 0 0 0),(5,sv s)] (UK M K) hx1 hx2 hx3 hx4 hx5 hx6 rfl rfl rfl ?_ ?_
  ·refine Rg<|Da ?_;exact E0
  refine aN<|Rg<|Dd (eG cM)<|Dd aF<|Dd (by exact bL [[.str s]] rfl bZ rfl rfl rfl rfl rfl (by intro r hr;rw [aBJ] at hr;subst hr;rfl))<|Dd (by exact eD (ps:=[[.str s]]) rfl bZ I6 rfl rfl rfl rfl rfl (fE _) rfl (by intro r hr;rw [aBJ] at hr;subst hr;rfl) (m:=1) rfl (by omega) rfl (mE _ s))<|Uu (sS qA)<|Zz ?_;exact⟨(945,⟨M.length+1,1,9,dE (M++[s])⟩)::(942,bx 1 31 [.osl 945 (M.length+1) 0 (M.length+1)])::K,cA.get' trivial (fun j=>oQ [_,_,_] [_,_,_,_,_] (by repeat(first|exact trivial|refine⟨rfl,?_⟩)) j),rfl,rfl⟩
 ·intro o M s hM;refine fD.congrG (H1:=(944,LR x UC)::(946,o)::UK M K) (K1:=(944,LR x UC)::(946,o)::UK (M++[s]) K) (.inl ⟨944,0,rfl,?_⟩) (fun j=>vV (by decide) j) (fun j=>vV (by decide) j);rw [LK];refine EH [(2,.ref 942 0 0 0),(5,sv s)] ((946,o)::UK M K) hx1 hx2 hx3 hx4 hx5 hx6 rfl rfl rfl ?_ ?_
  ·refine Rg<|Da ?_;exact E0
  refine aN<|Rg<|Dd (eG cM)<|Dd aF<|Dd (by exact bL [[.str s]] rfl bZ rfl rfl rfl rfl rfl (by intro r hr;rw [aBJ] at hr;subst hr;rfl))<|Dd (by exact eD (ps:=[[.str s]]) rfl bZ I6 rfl rfl rfl rfl rfl (fE _) rfl (by intro r hr;rw [aBJ] at hr;subst hr;rfl) (m:=1) rfl (by omega) rfl (mE _ s))<|Uu (sS qA)<|Zz ?_;exact⟨(946,o)::(945,⟨M.length+1,1,9,dE (M++[s])⟩)::(942,bx 1 31 [.osl 945 (M.length+1) 0 (M.length+1)])::K,cA.get' trivial (fun j=>oQ [_,_,_,_] [_,_,_,_,_,_] (by repeat(first|exact trivial|refine⟨rfl,?_⟩)) j),rfl,rfl⟩
 rintro r H' ⟨rfl,M,hM,rfl⟩;refine⟨x,_,rfl,by rw [hx1];decide,rfl,fun z=>?_⟩;rw [hx2];refine Sr<|Dd (eG cM)<|Dd aS<|Zz<|aM ?_;refine bF (H':=((945,⟨M.length,1,9,dE M⟩)::K)) (.inr rfl) rfl (aH rfl) (Fin.front' [(944,LR z UC),(945,⟨M.length,1,9,dE M⟩),(942,bx 1 31 [.osl 945 M.length 0 M.length])] [(945,⟨M.length,1,9,dE M⟩)] (.osl rfl) (by simp [k2,k4,aA.get]) (by intro p hp;rw [aBJ] at hp;subst hp;rfl) (mD.spec ⟨fT _ _,trivial⟩) hc (by simp [k2,k4,aA.get])) ?_;exact⟨M,hM,rfl,rfl⟩
theorem IJ {F:FuncId} {caps:List AV} {PR:List ByteArray→Prop} (hE:∀ (args:Array Value) (w:World),(callFunc F args).run Tryz.prog w=.ok (.enter F args) w) (K:aA) (hS:B0 F caps PR K) (k2:K.get 942=none) (k4:K.get 944=none) (k5:K.get 945=none) (k6:K.get 946=none) (hc:bM K) (hcap:Clo K (.clo F caps)) :
  aL Tryz.prog 95 [.clo F caps] K (fun r H'=>∃ M,PR M∧r=.osl 945 M.length 0 M.length∧H'=(945,⟨M.length,1,9,dE M⟩)::K):=by
 refine Bd func95 rfl ntmps95<|Sr<|Dd aS<|Zz<|Sr<|Dm ?_;refine jA rfl rfl (E5 rfl rfl call125 rfl (LC hE K hS k2 k4 k5 k6 hc hcap)) ?_;rintro r H' ⟨M,hM,rfl,rfl⟩;refine Dd aS<|Zz<|aM ?_;refine bF (H':=((945,⟨M.length,1,9,dE M⟩)::K)) (.inr rfl) rfl (aH rfl) Fin.refl ?_;exact⟨M,hM,rfl,rfl⟩
theorem EM (l:List ByteArray):dT l=(l.map encStr).map (·.map .pv):=by rw [List.map_map];rfl
theorem EO {F:FuncId} {caps:List AV} {L:List ByteArray} (hL:L.length < 1099511627776) (hE:∀ (args:Array Value) (w:World),(callFunc F args).run Tryz.prog w=.ok (.enter F args) w) (K:aA) (hS:B0 F caps (fun M=>M.Perm L) K) (k2:K.get 942=none) (k4:K.get 944=none) (k5:K.get 945=none) (k6:K.get 946=none) (hc:bM K) (hcap:Clo K (.clo F caps)) :
  aL Tryz.prog 48 [.clo F caps] K (fun r H'=>r=.pv (aW (cH L))∧H'=K):=by
 refine Bd func48 rfl ntmps48<|Sr<|Dd aS<|Zz<|Sr<|Dm ?_;refine jA rfl rfl (aB rfl rfl call95 rfl (IJ hE K hS k2 k4 k5 k6 hc hcap)) ?_;rintro r H' ⟨M,hperm,rfl,rfl⟩;have hMl:M.length < 4611686018427387904:=by rw [hperm.length_eq];omega
 have hSo:=qP hperm;have hSl:(cH M).length=M.length:=by rw [cH,aBG,List.length_mergeSort,aBG]
 refine Dd aS<|Zz<|Sr<|Dd aF<|Dd (by exact aB rfl rfl call96 rfl (C6 M rfl rfl hMl))<|Zz<|Sr<|Dd aF<|Dd aS<|Zz<|aM ?_;refine bF (H':=K) (.inr rfl) rfl (aH rfl) (Fin.slice [(945,⟨M.length,1,9,dT (cH M)⟩),(945,⟨M.length,1,9,dE M⟩)] ((cH M).map encStr) rfl rfl (EM _) (by rw [aBG,hSl]) hc (by simp [k5]) (by simp [k5]) k5) ?_;exact⟨by rw [← hSo];rfl,rfl⟩
abbrev bU:=List (ByteArray×ByteArray×Nat)
def dW (l:bU) (c:Nat):Prop:=(l.map fun p=>p.2.2).Pairwise (· < ·)∧∀ p∈l,p.2.2 < c
def iL (l:bU) (i:Nat):Nat:=((l[i]?).map fun p=>p.2.2).getD 0
theorem EN {l:bU} {c:Nat} (h:dW l c) {i j:Nat} (hi:i < l.length) (hj:j < l.length) (e:iL l i=iL l j):i=j:=by
 have hp:=List.pairwise_iff_getElem.1 h.1;rw [iL,iL,aBL hi,aBL hj] at e;have e:(l[i]).2.2=(l[j]).2.2:=e;rcases Nat.lt_trichotomy i j with h1|h1|h1
 ·have:=hp i j (by simpa using hi) (by simpa using hj) h1;simp at this;omega
 ·exact h1
 have:=hp j i (by simpa using hj) (by simpa using hi) h1;simp at this;omega
def zG (mid:Nat) (l:bU) (c:Nat) (s:List Nat):Ob:=⟨0,0,0,eM (.mp mid 0) c c (s.map (iL l))⟩
abbrev UD (mid:Nat):Ob:=bx 1 33 [.mp mid 0]
theorem nL {H:aA} {mid:Nat} (h:(H.get mid).isSome=true) (l:bU) (c:Nat) (s:List Nat):∀ r∈(zG mid l c s).rows,∀ x∈r,Clo H x:=by
 intro r hr x hx;rw [zG,eM] at hr;rcases aBS.1 hr with rfl|hr
 ·simp only [aBS,aBW,or_false] at hx;rcases hx with rfl|rfl|rfl
  ·exact .mp h
  ·exact .pv _
  exact .pv _
 obtain ⟨n,_,rfl⟩:=List.mem_map.1 hr;rw [aBJ] at hx;subst hx;exact .pv _
theorem sI {l:bU} {i:Nat} {q:ByteArray×AV×Nat} (h:(bS l)[i]?=some q):∃ p,l[i]?=some p∧q=(p.1,sv p.2.1,p.2.2):=by
 rw [bS,aB0] at h;cases e:l[i]? with
 | none=>rw [e] at h;cases h
 | some p=>rw [e] at h;cases h;exact⟨p,rfl,rfl⟩
def jY (l:bU) (s:List Nat):List ByteArray:=pick (l.map Prod.fst) s
theorem AM {l:bU} {s:List Nat} {i:Nat} {p:ByteArray×ByteArray×Nat} (h:l[i]?=some p):jY l (s++[i])=jY l s++[p.1]:=by simp only [jY,pick,List.map_append,List.map_cons,List.map_nil,aB0,h,Option.map_some,Option.getD_some]
theorem DF (l:bU) (s:List Nat):(jY l s).length=s.length:=aBG _
theorem MG (mid:Nat) (l:bU) (c:Nat) (K:aA) (hl:l.length < 1099511627776) (hst:dW l c) (h1:K.get 951=some (UD mid)) (h2:K.get mid=some (bK l c)) (hm6:mid≠946):B0 105 [.ref 951 0 0 0] (fun M=>M.Perm (l.map Prod.fst)) K:=by
 intro yv Hs hK h6 hcl hf hy0 hy1;have g1:∀ M,(Hs M).get 951=some (UD mid):=fun M=>hK M _ _ h1;have g2:∀ M,(Hs M).get mid=some (bK l c):=fun M=>hK M _ _ h2;have g2':∀ o M,aA.get ((946,o)::Hs M) mid=some (bK l c):=fun o M=>by rw [get_cons_other _ _ hm6];exact g2 M
 refine Bd func105 rfl ntmps105<|Sr<|Dd (by exact aX rfl bW rfl (g1 []) rfl rfl rfl)<|Dd (by exact zI (q:=946) (κ:=fA) rfl aT rfl (g2 []) rfl rfl rfl (h6 []))<|Zz<|aN ?_;refine bJ (σ:=List Nat) (fun s=>([(0,yv),(5,.it 946 0)],(946,zG mid l c s)::Hs (jY l s))) (fun s=>s.Nodup∧∀ i,i∈s→i < l.length) (fun s=>l.length - s.length) [] ⟨List.nodup_nil,by simp⟩ ?_ ?_
 ·exact E0
 rintro s ⟨hd,hb⟩;have hsl:s.length≤l.length:=iU _ _ hd hb;refine Sq<|Rg ?_;refine jA rfl rfl (FV (κ:=fA) (l:=bS l) rfl rfl (get_cons_same _ _ _) rfl rfl (g2' _ _) rfl rfl rfl (aBM _) (aBM _)) ?_;rintro _ _ (⟨rfl,rfl,hn0⟩|⟨hni,hnp,hn1,hn2,rfl,rfl⟩)
 ·refine Dd eP<|Zz<|Sq ?_;refine Cn ?_ ?_<;>intro hc1
  ·cases hc1
  refine bE ?_;have hall:∀ i,i < l.length→i∈s:=fun i hi=>by
   have hq:(bS l)[i]?=some ((l[i]).1,sv (l[i]).2.1,(l[i]).2.2):=by rw [bS,aB0,aBL hi];rfl
   have:=hn0 _ (aBQ hq);obtain ⟨j,hj,e⟩:=List.mem_map.1 this;have e2:iL l j=iL l i:=by
    rw [e,iL,aBL hi];rfl
   have:=EN hst (hb j hj) hi e2
   rwa [this] at hj
  exact iK (H':=Hs (jY l s)) (.inl rfl) rfl (Fin.pops' [(946,zG mid l c s)] (by simp) (hcl _) (by simp [h6]) (by simp [h6])) ⟨rfl,jY l s,HG hd (by rw [aBG];exact hb) (by rw [aBG];exact hall),rfl⟩
 obtain ⟨p,hp,rfl⟩:=sI hn1;have hlt:hni < l.length:=(aBK.1 hp).1;have hst2:iL l hni=p.2.2:=by rw [iL,hp];rfl
 have hn3:hni∉s:=fun hm=>hn2 (List.mem_map.2 ⟨hni,hm,hst2⟩);have hb2:∀ i,i∈s++[hni]→i < l.length:=fun i hi=>by
  rcases List.mem_append.1 hi with h|h
  ·exact hb i h
  rw [aBJ] at h;omega
 have hd2:(s++[hni]).Nodup:=List.nodup_append.2 ⟨hd,by simp,fun a ha b hb e=>by rw [aBJ] at hb;subst hb;subst e;exact hn3 ha⟩;have hlen:=iU _ _ hd2 hb2;rw [aBH,List.length_singleton] at hlen;have hit:zG mid l c (s++[hni])=⟨0,0,0,eM (.mp mid 0) c c (s.map (iL l)++[p.2.2])⟩:=by rw [zG,List.map_append,List.map_cons,List.map_nil,hst2]
 have hyy:=hy1 (zG mid l c (s++[hni])) (jY l s) p.1 (by rw [DF];omega);rw [← AM hp] at hyy;refine Dd eP<|Zz<|Sq ?_;refine Cn ?_ ?_<;>intro hc2
 ·refine aG<|aN<|Sr<|Dd (by exact zJ (κ:=fA) (seen:=s.map (iL l)) (p:=(p.1,sv p.2.1,p.2.2)) (since:=c) rfl rfl (get_cons_same _ _ _) rfl rfl ((get_cons_other _ _ hm6).trans (g2' _ _)) rfl rfl rfl hn1)<|Dd eP<|Dd aS<|Zz<|Sq ?_;refine gM.ent (E':=[(0,yv),(5,.it 946 0),(3,sv p.1)]) (H':=(946,zG mid l c (s++[hni]))::Hs (jY l s)) (cA.get' ⟨⟨_,rfl,rfl⟩,⟨_,rfl,rfl⟩,⟨_,rfl,rfl⟩,trivial⟩ (fun j=>by rw [hit];exact iH 946 _ (zG mid l c s) (Hs (jY l s)) j)) ?_;refine Rg<|Dd aF<|Dd aF<|Dd (by exact iE rfl rfl rfl (hyy))<|Dd yE<|Zz ?_;refine Cn ?_ ?_<;>intro hc3
  ·cases hc3
  refine aG ?_;refine⟨s++[hni],⟨hd2,hb2⟩,by rw [aBH,List.length_singleton];omega,?_⟩;exact E0
 cases hc2
theorem C3 (l:List ByteArray) (K:aA) (hl:l.length < 1099511627776) (h1:K.get 951=some (bx 1 31 [.pv (aW l)])):B0 97 [.ref 951 0 0 0] (fun M=>M.Perm l) K:=by
 intro yv Hs hK h6 hcl hf hy0 hy1;have g1:∀ M,(Hs M).get 951=some (bx 1 31 [.pv (aW l)]):=fun M=>hK M _ _ h1;have hml:(l.map encStr).length=l.length:=aBG _;refine Bd func97 rfl ntmps97<|Sr<|Dd (by exact aX rfl cM rfl (g1 []) rfl rfl rfl)<|Dd (mH aO)<|Dd aF<|Zz<|aN ?_;refine bJ (σ:=Nat) (fun i=>([(0,yv),(5,.pv (aW l)),(6,iv ((l.map encStr).length:Int)),(7,iv (i:Int))],Hs (l.take i))) (fun i=>i≤l.length) (fun i=>l.length - i) 0 (aBX _) ?_ ?_
 ·exact E0
 rintro i hi;refine Sr<|Dd dZ<|Zz<|Sq ?_;refine Cn ?_ ?_<;>intro hc1
 ·have hlt:i < l.length:=by have:=aBC hc1;omega
  obtain ⟨s,hs⟩:=aZ hlt;have his:=dI (f:=encStr) hs;have hyy:=hy0 (l.take i) s (by rw [aBU];omega);rw [← dK hs] at hyy;refine aG<|Sq<|aN<|Sr<|Dd (GJ bZ)<|Dd (nT aV)<|Dd aS<|Zz<|Sr<|Dd aF<|Dd aF<|Dd (by exact iE rfl rfl rfl (hyy))<|Dd yE<|Zz ?_;refine Cn ?_ ?_<;>intro hc2
  ·cases hc2
  refine aG<|Rg<|Dd oE<|Dd aF<|Zz ?_;exact⟨i+1,by omega,by omega,E0⟩
 have hge:i=l.length:=by have:=aBD hc1;omega
 subst hge;refine bE ?_;exact iK (H':=Hs (l.take l.length)) (.inl rfl) rfl Fin.refl ⟨rfl,_,by rw [List.take_length],rfl⟩
theorem MF (mid:Nat) (H:aA) (h1:H.get 951=none) (hm:(H.get mid).isSome=true) :
  aL Tryz.prog 55 [.mp mid 0] H (fun r H'=>r=.clo 105 [.ref 951 0 0 0]∧H'=(951,UD mid)::H):=by
 refine Bd func55 rfl ntmps55<|Sr<|Dd (by exact gO (id:=951) rfl rfl rfl rfl h1)<|Dd aS<|Zz<|Sr<|Dd (by exact fK rfl rfl)<|Dd aS<|Zz<|aM ?_;refine bF (H':=((951,UD mid)::H)) (.inr rfl) rfl (aH rfl) Fin.refl ?_;exact Qq
def cW:bU→ByteArray→ByteArray
 | [],_=>⟨#[]⟩
 | (k',v,_)::r,k=>if k'=k then v else cW r k
theorem FH (k:ByteArray):∀ l:bU,(mU (H6 (bS l)) k).getD (sv ⟨#[]⟩)=sv (cW l k)
 | []=>rfl
 | (k',v,n)::r=>by
  show (if k'=k then some (sv v)else mU (H6 (bS r)) k).getD (sv ⟨#[]⟩)=sv (if k'=k then v else cW r k)
  split
  ·rfl
  exact FH k r
theorem RN {P:Program} {N:Nat} {o:Oper} {E:bH} {H:aA} {T kt et:TypeId} {x y:Operand} {zv:Value} {id g:Nat} {ob:Ob} {l:bU} {k:ByteArray} (ho:o.op=.lookup T x y false) (hT:P.underlying T=some (.map kt et)) (hd:P.underlying kt=some .string) (hx:aP E x=some (.mp id g)) (hH:H.get id=some ob) (hg:ob.g=g)
  (hrows:ob.rows=fZ fA (bS l)) (hy:aP E y=some (sv k)) (hz:∀ w,(zeroValue et).run P w=.ok zv w) (hv:ZV zv (sv ⟨#[]⟩)):cD P N o E H (sv (cW l k)) H:=by
 have h:=SI (N:=N) (κ:=fA) ho hT hd hx hH hg hrows hy hz hv
 rwa [FH] at h
theorem oG (s u:ByteArray):∀ r∈([[.str s],[.str u]]:List (List PV)),r.length=1:=by intro r hr;simp only [aBS,aBW,or_false] at hr;rcases hr with rfl|rfl<;>rfl
def wZ (l:bU) (S:List ByteArray) (k:Nat):List ByteArray:=dS ((bS l).length:Int)::(S.take k).flatMap fun x=>[x,cW l x]
theorem UQ {l:bU} {S:List ByteArray} {k:Nat} {s:ByteArray} (h:S[k]?=some s):wZ l S (k+1)=wZ l S k++[s,cW l s]:=by rw [wZ,wZ,dK h,List.flatMap_append];rfl
theorem gH {α β:Type} (f g:α→β):∀ S:List α,(S.flatMap fun x=>[f x,g x]).length=2*S.length
 | []=>rfl
 | x::r=>by
  have h:=gH f g r;rw [List.flatMap_cons,aBH,h];simp only [aBI,List.length_nil];omega
theorem QG {l:bU} {S:List ByteArray} {k:Nat} (h:k≤S.length):(wZ l S k).length=1+2*k:=by rw [wZ,aBI,gH,aBU];omega
def cF (l:bU):List ByteArray:=cH (l.map Prod.fst)
def cP (l:bU) (P:List ByteArray):List ByteArray:=(wZ l (cF l) (cF l).length++[dS ((P.map encStr).length:Int)])++P
def bD (l:bU) (P:List ByteArray):List UInt8:=aR [ofL (aR (cP l P))]
theorem iA (l:bU):(cF l).length=l.length:=by rw [cF,cH,aBG,List.length_mergeSort,aBG,aBG]
theorem mO (A B:List ByteArray):dE A++(B.map encStr).map (·.map AV.pv)=dE (A++B):=by rw [dE,dE,List.map_append,List.map_map];rfl
theorem tH (A B:List ByteArray):dE A++B.map (fun s=>[.pv (.str s)])=dE (A++B):=by rw [dE,dE,List.map_append]
abbrev tK (g:Nat) (W:List ByteArray) (l:bU) (c:Nat):aA:=[(951,UD 950),(920,⟨g,1,9,dE W⟩),(950,bK l c)]
theorem XD (g:Nat) (W:List ByteArray) (l:bU) (c:Nat):bM (tK g W l c):=bM.of (fun p hp=>by
 simp only [aBS,aBW,or_false] at hp;rcases hp with rfl|rfl|rfl
 ·intro r hr x hx;simp only [bx,aBJ] at hr;subst hr;rw [aBJ] at hx;subst hx;exact .mp rfl
 ·exact fT _ _
 exact aQ _ _ _)
theorem qO {l:bU} {P:List ByteArray} {N:Nat} (h:(bD l P).length < N):(aR (cP l P)).length < N:=by
 have e:bD l P=(pC (ofL (aR (cP l P)))).data.toList:=by rw [bD,aR,List.flatMap_cons,List.flatMap_nil,List.append_nil]
 rw [e,qQ,nH,bY] at h;omega
theorem MJ {W:List ByteArray} {g n:Nat} {H:aA} (hW:(aR W).length < 35184372088832) (hH:H.get 920=some ⟨g,1,9,dE W⟩) (hn:n=W.length):aL Tryz.prog 99 [.osl 920 g 0 n] H (fun x H'=>x=sv (ofL (aR W))∧H'=H):=by subst hn;exact RO.calls (RO.lend (id:=920) (H1:=[]) (W.map encStr) (RO.of (mI W [] hW) rfl) hH (kS W) rfl (zK (.osl (mP encStr W)) KS) (fun _ _ h=>by cases h) (fun _ _ h=>by cases h) rfl)
theorem LP (l:bU) (c:Nat) (P:List ByteArray) (hst:dW l c) (hl:l.length < 1099511627776) (hP:P.length < 1099511627776) (hsz:(bD l P).length < 35184372088832) :
  aL Tryz.prog 50 [.mp 950 0,.pv (aW P)] [(950,bK l c)] (fun r H'=>r=sv (ofL (bD l P))∧H'=[(950,bK l c)]):=by
 have hsl:=iA l;have hso:=EO (L:=l.map Prod.fst) (by rw [aBG];exact hl) aA3 (tK 0 [dS ((bS l).length:Int)] l c) (MG 950 l c _ hl hst rfl rfl (by decide)) rfl rfl rfl rfl (XD _ _ _ _) (by simp;rfl);have hin:=qO hsz;have hgl:(bS l).length=l.length:=aBG _;have hml:((cF l).map encStr).length=(cF l).length:=aBG _;have hpl:(P.map encStr).length=P.length:=aBG _;change aL _ _ _ _ fun r H'=>r=.pv (aW (cF l))∧H'=_ at hso;refine Bd func50 rfl ntmps50<|Sr<|Dd aS<|Zz<|Sr<|Dd aF<|Dd (by exact yH (κ:=fA) (l:=bS l) rfl aT rfl rfl rfl rfl)<|Dd (by exact aB rfl rfl qH rfl (pJ ((bS l).length:Int) (by omega) (by omega) _))<|Dd (by exact fS (id:=920) rfl bZ rfl rfl rfl rfl (show ∀ r∈dE [dS ((bS l).length:Int)],r.length=1 from by intro r hr;rw [aBJ.1 hr];rfl) rfl)<|Dd aS<|Zz<|Sq<|Sr<|Dd aF<|Dd (by exact aB rfl rfl aAi rfl (MF 950 _ rfl rfl))<|Dd (by exact aB rfl rfl GG rfl (hso))<|Dd (mH aO)<|Dd aF<|Zz<|aN ?_;refine bJ (σ:=Nat) (fun k=>([(0,.mp 950 0),(1,.pv (aW P)),(5,.osl 920 k 0 (1+2*k)),(14,.pv (aW (cF l))),(15,iv (((cF l).map encStr).length:Int)),(16,iv (k:Int))],tK k (wZ l (cF l) k) l c)) (fun k=>k≤(cF l).length) (fun k=>(cF l).length - k) 0 (aBX _) ?_ ?_
 ·exact E0
 intro k hk;refine Sr<|Dd dZ<|Zz<|Sq ?_;refine Cn ?_ ?_<;>intro hc1
 ·have hlt:k < (cF l).length:=by have:=aBC hc1;omega
  obtain ⟨s,hs⟩:=aZ hlt;have hi:=dI (f:=encStr) hs;have hwl:=QG (l:=l) hk;refine aG<|Sq<|aN<|Sr<|Dd (GJ bZ)<|Dd (nT aV)<|Dd aS<|Zz<|Rg<|Dd aF<|Dd aF<|Dd aF<|Dd aF<|Dd (by exact RN (l:=l) (k:=s) rfl aT aI rfl rfl rfl rfl rfl eE (.inl rfl))<|Dd (by exact bL [[.str s],[.str (cW l s)]] rfl bZ rfl rfl rfl rfl rfl (oG s (cW l s)))<|Dd (by exact eD (k:=1+2*(k+1)) (ps:=[[.str s],[.str (cW l s)]]) rfl bZ I6 rfl rfl rfl rfl rfl ((fE _).trans hwl) rfl (oG _ _) (m:=2) rfl (by omega) (by omega) (tH _ [s,cW l s]))<|Dd aS<|Zz<|Rg<|Dd oE<|Dd aF<|Zz ?_;refine⟨k+1,by omega,by omega,?_⟩;rw [UQ hs];exact(cA.wk (Ea<|Eb<|Ea<|Eb<|Eb<|Eb<|trivial) (Ha<|Hc (fT _ _)<|Hc (aQ _ _ _)<|trivial) ⟨rfl,trivial⟩)
 have hge:k=(cF l).length:=by have:=aBD hc1;omega
 subst hge;have hwl:=QG (l:=l) (aBM (cF l).length);refine bE<|Sr<|Dd aF<|Dd aF<|Dd (mH aO)<|Dd (by exact aB rfl rfl qH rfl (pJ ((P.map encStr).length:Int) (by omega) (by omega) _))<|Dd (by exact bL [[.str (dS ((P.map encStr).length:Int))]] rfl bZ rfl rfl rfl rfl rfl (by intro r hr;rw [aBJ] at hr;subst hr;rfl))<|Dd (by exact eD (ps:=[[.str (dS ((P.map encStr).length:Int))]]) rfl bZ I6 rfl rfl rfl rfl rfl ((fE _).trans hwl) rfl (by intro r hr;rw [aBJ] at hr;subst hr;rfl) (m:=1) rfl (by omega) rfl (mE _ _))<|Dd aS<|Zz<|Sr<|Dd aF<|Dd aF<|Dd (by exact eD (ps:=P.map encStr) rfl bZ I6 rfl rfl rfl rfl rfl ((fE _).trans (by rw [aBH,hwl];rfl)) rfl (by intro r hr;obtain ⟨q,_,rfl⟩:=List.mem_map.1 hr;rfl) (m:=P.length) hpl (by omega) rfl (mO _ P))<|Dd (by exact aB rfl rfl qG rfl (MJ (W:=cP l P) hin rfl (by rw [cP,aBH,aBH,hwl];rfl))) ?_;refine Dd (by exact bL [[.str (ofL (aR (cP l P)))]] rfl bZ rfl rfl rfl rfl rfl (by intro r hr;rw [aBJ] at hr;subst hr;rfl))<|Dd (by exact aB rfl rfl qG rfl (mI [ofL (aR (cP l P))] _ hsz))<|Dd aS<|Zz<|aM ?_;refine bF (H':=[(950,bK l c)]) (.inr rfl) rfl (aH rfl) (Fin.wk (by(simp;done)) (Hc (aQ _ _ _)<|trivial) ⟨rfl,trivial⟩) ?_;exact Qq
end Go.Proofs.YtmkgeogoojcciaaGreatDoor
namespace Go.Proofs.YtmkgeogoojcciaaGreatDoor
open Go.Proofs.Tryz
open Go.Abs Go.Lib
theorem XV (x y:Nat) (hx:x < 18446744073709551616) (hy:y < 18446744073709551616) (H:aA):aL Tryz.prog 132 [uv x,uv y] H (fun r H'=>r=.tup [uv (x*y / 18446744073709551616),uv (x*y % 18446744073709551616)]∧H'=H):=by
 refine Pu ?_;refine Bd func132 rfl ntmps132<|Sr<|Dd aS<|Dd aS<|Zz<|Sq ?_;refine Cn ?_ ?_<;>intro hc1
 ·cases hc1
 exact aG<|Sr<|Dd aF<|Dd aF<|Dd (by exact aB rfl rfl aA2 rfl (AX x y hx hy _))<|Dd aF<|Dd eP<|Dd eP<|Dd aS<|Dd aS<|Zz<|Sr<|Dd aF<|Dd aF<|Dd aS<|Dd aS<|Zz<|aM<|Ru<|Qq
theorem BR (t:List UInt8) (ht:t.length < 1000000000000) (H:aA):aL Tryz.prog 51 [sv (ofL t)] H (fun r H'=>r=iv (cJ t:Int)∧H'=H):=by
 refine Pu ?_;have hs:(ofL t).size=t.length:=bY t;have hq:IntKind.i64.wrap ((((ofL t).size:Int)+46 - 1).tdiv 46)=(cJ t:Int):=by
  rw [hs,Int.tdiv_eq_ediv_of_nonneg (by omega),jS (by omega) (by omega),cJ];omega
 exact Bd func51 rfl ntmps51<|Sr<|Dd aS<|Zz<|Sr<|Dd aF<|Dd (CO aI)<|Dd oE<|Dd (by exact eF rfl rfl rfl (by exact jS (by omega) (by omega)))<|Dd (by exact pD rfl rfl rfl (by decide) hq)<|Dd aS<|Zz<|aM<|Rt<|Qq
theorem Fin.st1 {H1:aA} {id g n:Nat} {ob:Ob} (l:List ByteArray) (hH:H1.get id=some ob) (hg:ob.g=g) (hps:ob.rows=dE l) (hn:n=l.length) :
  Fin [] H1 (.osl id g 0 n) [] (.pv (aW l)):=by
 subst hg hn;exact Fin.fz (id:=id) (ob:=ob) (l.map encStr) hH (hps.trans (kS l)) (.osl (mP encStr l)) rfl trivial trivial
def iX (z:ByteArray) (m n:Nat):List (List AV):=List.replicate m [sv z]++List.replicate (n - m) [sv sNil]
theorem OV {z:ByteArray} {m n:Nat} (h:m≤n):(iX z m n).length=n:=by rw [iX,aBH,List.length_replicate,List.length_replicate];omega
theorem KU {z:ByteArray} {m n j:Nat} (h:m≤n) (hj:j=min (n - m) m):(iX z m n).take m++(((iX z m n).take j)++(iX z m n).drop (m+j))=iX z (m+j) n:=by
 have hjm:j≤m:=by omega
 have h1:(iX z m n).take m=List.replicate m [sv z]:=by rw [iX,List.take_left' List.length_replicate]
 have h2:(iX z m n).take j=List.replicate j [sv z]:=by
  rw [iX,List.take_append_of_le_length (by rw [List.length_replicate];exact hjm),List.take_replicate,Nat.min_eq_left hjm]
 have h3:(iX z m n).drop (m+j)=List.replicate (n - (m+j)) [sv sNil]:=by
  rw [iX,← List.drop_drop,List.drop_left' List.length_replicate,List.drop_replicate,Nat.sub_sub]
 rw [h1,h2,h3,iX,← List.append_assoc,List.replicate_append_replicate]
theorem D2 {H:aA} {z:ByteArray} {m n:Nat}:∀ r∈iX z m n,∀ a∈r,Clo H a:=by intro r hr a ha;rcases List.mem_append.1 hr with h|h<;>rw [List.eq_of_mem_replicate h,aBJ] at ha<;>subst ha<;>exact .pv _
theorem N0 (z:ByteArray) (n:Nat) (hn:n < 100000) (H:aA):aL Tryz.prog 106 [.pv (aW [z]),iv (n:Int)] H (fun r H'=>r=.pv (aW (List.replicate n z))∧H'=H):=by
 refine Pu ?_;have hmul:=fun H=>XV 1 n (by omega) (by omega) H;have e1:1*n / 18446744073709551616=0:=by omega
 have e2:1*n % 18446744073709551616=n:=by omega
 rw [e1,e2] at hmul;have hz0:((List.replicate n [sv sNil]:List (List AV))).take 0++((([[.str z]]:List (List PV)).take (min 1 n)).map (·.map .pv)++(List.replicate n [sv sNil]).drop (0+min 1 n))=iX z (min 1 n) n:=by
  rw [List.take_zero,List.nil_append,List.drop_replicate,iX,aBY];rcases(show min 1 n=0∨min 1 n=1 by omega)with e|e<;>rw [e]<;>rfl
 refine Bd func106 rfl ntmps106<|Sr<|Dd aS<|Zz<|Sq<|Sr<|Dd aF<|Dd dZ<|Zz ?_;refine Cn ?_ ?_<;>intro hc1
 ·(have:=aBC hc1;omega)
 refine aG<|Sr<|Dd aF<|Dd (mH aO)<|Dd (by exact fL rfl cC eU rfl (show IntKind.u64.wrap (1:Int)=1 by rfl))<|Dd aF<|Dd (by exact fL rfl cC eU rfl (show IntKind.u64.wrap (n:Int)=(n:Int)by rw [IntKind.wrap_u64];omega))<|Dd (by exact aB rfl rfl call132 rfl (hmul _))<|Dd aF<|Dd eP<|Dd eP<|Dd aS<|Dd aS<|Zz<|Sq<|Sq ?_;refine dL (t:=26) (n:=7) (X:=false) ?_ ?_
 ·all_goals refine Dd aF ?_
  all_goals refine Dd DU<|Dm ?_
  all_goals refine Sp 23 (fun h23=>?_) fun h23=>?_
  all_goals try contradiction
  all_goals refine On aF<|On DU<|Dd iM<|Zz ?_
  all_goals(exact⟨⟨_,rfl,by simp;omega⟩,rfl,rfl,rfl⟩)
 refine Cn ?_ ?_<;>intro hc2
 ·cases hc2
 refine aG<|Sr<|Dd aF<|Dd (by exact fL rfl eU cC rfl (jS (by omega) (by omega)))<|Dd (by exact lJ (id:=960) rfl bZ I6 zo9 rfl rfl rfl (by omega) (by omega) (by exact aBR _) (by exact aBR _) (by omega) rfl)<|Dd aS<|Zz<|Sr<|Dd aF<|Dd aF<|Dd (by exact QC (n:=min 1 n) rfl bZ (BI rfl rfl rfl) rfl rfl rfl (aBX _) (NK (len:=1) (ps:=[[.str z]]) (k:=min 1 n) rfl (by decide) (by intro r hr;rw [aBJ] at hr;subst hr;rfl) rfl (by omega) rfl) (by intro r hr;obtain ⟨q,hq,rfl⟩:=List.mem_map.1 hr;have:=List.mem_of_mem_take hq;rw [aBJ] at this;subst this;rfl) (by rw [aBG,aBU];show min (min 1 n) 1=min 1 n;omega) rfl hz0)<|Dd aS<|Zz<|Sq<|aN ?_;refine bJ (σ:=Nat) (fun m=>([(7,.osl 960 0 0 n),(8,iv (m:Int))],[(960,⟨0,1,9,iX z m n⟩)])) (fun m=>m≤n∧(n=0∨0 < m)) (fun m=>n - m) (min 1 n) ⟨by omega,by omega⟩ ?_ ?_
 ·exact(cA.wk (Ea<|Eb<|trivial) (Hc D2<|trivial) trivial)
 rintro m ⟨hm,hm0⟩;refine Sq<|Sr<|Dd aF<|Dd aF<|Dd (by exact dO rfl aO rfl rfl rfl)<|Dd dZ<|Zz ?_;refine Cn ?_ ?_<;>intro hc3
 ·have hlt:m < n:=by have:=aBC hc3;omega
  obtain ⟨j,hj⟩:∃ j,j=min m (n - m):=⟨_,rfl⟩;have hrows:=KU (z:=z) (j:=j) hm (by omega);have hrl:∀ r∈(iX z m n).take j,r.length=1:=fun r hr=>by
   have:=List.mem_of_mem_take hr;rcases List.mem_append.1 this with h|h<;>rw [List.eq_of_mem_replicate h]<;>rfl
  have hfl:=OV (z:=z) hm;refine aG<|aN<|bR follows<|Cr [] (fun _ _=>aF)<|Cr [960] (fun _ _=>aF)<|Cr [] (fun _ _=>aF)<|Cr [960] (fun H1 hH=>by exact fX (l:=m) (h:=n) rfl bZ rfl ((hH 960 rfl).trans rfl) rfl rfl rfl rfl (by omega) (aBM _) (aBY _) rfl)<|Cr [960] (fun _ _=>aF)<|Cr [] (fun _ _=>aF)<|Cr [960] (fun H1 hH=>by exact fX (l:=0) (h:=m) rfl bZ rfl ((hH 960 rfl).trans rfl) rfl rfl rfl rfl (aBX _) (by omega) rfl rfl)<|Cp [960] (fun H1 hH=>by exact QC (n:=j) rfl bZ (BI rfl ((hH 960 rfl).trans rfl) rfl) ((hH 960 rfl).trans rfl) rfl rfl (by rw [hfl];omega) (JJ (k:=j) rfl ((hH 960 rfl).trans rfl) rfl rfl (by omega) rfl) hrl (by rw [aBU];show min j (iX z m n).length=j;rw [hfl];omega) hj.symm hrows)<|Cr [960] (fun _ _=>oE)<|Cr [] (fun _ _=>aS)<|dG<|Kr ?_;refine⟨m+j,⟨by omega,by omega⟩,by omega,?_⟩;exact(cA.wk (Ea<|Eb<|trivial) (Hc D2<|trivial) trivial)
 have hge:m=n:=by have:=aBD hc3;omega
 subst hge;have hfin:iX z m m=dE (List.replicate m z):=by rw [iX,Nat.sub_self,List.replicate_zero,List.append_nil,dE,List.map_replicate]
 refine bE<|Sr<|Dd aF<|Dd aS<|Zz<|aM ?_;refine bF (H':=[]) (.inr rfl) rfl (aH rfl) (Fin.st1 (List.replicate m z) rfl rfl hfin (List.length_replicate).symm) ?_;exact Qq
theorem IK {d:DSt} {N m:Nat} (h:DInv d N m) (k a n ar fr:Nat) (b:Bool) (l:List (ByteArray×ByteArray×Nat)) (c:Nat) (hk:k < 5000) (har:ar < 2) (hfr:fr≤k) (hm:m+k < 1048576) :
  aL Tryz.prog 56 [.ref 1100 0 0 0,iv (ar:Int),iv (fr:Int)] (sH d (cI k a n b) (bK l c)) (fun r H'=>r=iv (gI d (2+ar*k+fr) (List.replicate (k - fr) zS)).1∧H'=sH (gI d (2+ar*k+fr) (List.replicate (k - fr) zS)).2 (cI k a n (b||!decide ((gI d (2+ar*k+fr) (List.replicate (k - fr) zS)).1=0))) (bK l c)):=by
 have hark:ar*k≤k:=by
  rcases(show ar=0∨ar=1 by omega)with e|e<;>subst e<;>omega
 have hpl:=AK d k a n ar fr b l c (by omega) (by omega) (by omega);have hw:=oF h k a n (2+ar*k+fr) b l c (List.replicate (k - fr) zS) (by rw [List.length_replicate];omega) (by omega);have hrp:=fun H=>N0 zS (k - fr) (by omega) H;obtain ⟨x,hx⟩:∃ x,x=gI d (2+ar*k+fr) (List.replicate (k - fr) zS):=⟨_,rfl⟩;rw [← hx] at hw ⊢;refine Bd func56 rfl ntmps56<|Sr<|Dd aS<|Zz<|Sq<|bR follows<|Cr [1100] (fun _ _=>aF)<|Cr [1100] (fun _ _=>aF)<|Cr [] (fun _ _=>aF)<|Cr [] (fun _ _=>aF)<|Cr [1000,1001,1002,1003,1100,1101] (fun H1 hH=>by exact aB rfl rfl aAh rfl (kT hpl _ ⟨(hH 1000 rfl).trans rfl,(hH 1001 rfl).trans rfl,(hH 1002 rfl).trans rfl,(hH 1003 rfl).trans rfl,(hH 1100 rfl).trans rfl,(hH 1101 rfl).trans rfl,trivial⟩ (by simp;rfl)))<|Cr [] (fun H1 hH=>by exact aB rfl rfl qJ rfl (pQ _))<|Cr [] (fun H1 hH=>by exact bL [[.str zS]] rfl bZ rfl rfl rfl rfl rfl (by simp))<|Cr [1100] (fun _ _=>aF)<|Cr [1100] (fun H1 hH=>by exact bV rfl rfl ((hH _ rfl).trans rfl) rfl)<|Cr [1100] (fun _ h=>fh uA h)<|Cr [1100] (fun _ h=>lh aU h)<|Cr [] (fun _ _=>aF)<|Cr [] (fun H1 hH=>by exact eF rfl rfl rfl (show IntKind.i64.wrap ((k:Int) - (fr:Int))=((k - fr:Nat):Int)by rw [jS (by omega) (by omega)];omega)) ?_;refine Cr [] (fun H1 hH=>by exact aB rfl rfl call106 rfl (hrp _)) ?_;refine cB (r:=⟨_,some [1000,1001,1002,1003,1100,1101],_⟩) (DStep.plain rfl (fun H1 hH=>by exact aB rfl rfl qI rfl (gW hw _ ⟨(hH 1000 rfl).trans rfl,(hH 1001 rfl).trans rfl,(hH 1002 rfl).trans rfl,(hH 1003 rfl).trans rfl,(hH 1100 rfl).trans rfl,(hH 1101 rfl).trans rfl,trivial⟩ (by simp;rfl)))) rfl ?_;refine Cr [1100] (fun _ _=>aS)<|dG<|Kr<|aM ?_;refine bF (H':=(sH x.2 (cI k a n (b||!decide (x.1=0))) (bK l c))) (.inr rfl) rfl (aH rfl) (Fin.wk (by(simp;done)) (Hc (aE _ _ rfl rfl rfl)<|Hc (aC _ _)<|Hc (aK _ _ _)<|Hc (aJ _ _)<|Hc (bI rfl rfl)<|Hc (aQ _ _ _)<|trivial) ⟨rfl,rfl,rfl,rfl,rfl,rfl,trivial⟩) ?_;exact Qq
end Go.Proofs.YtmkgeogoojcciaaGreatDoor
namespace Go.Abs
section
section
variable {P:Program} {N:Nat} {o:Oper} {E:bH} {H:aA} {T kt et:TypeId} {x:Operand} {q gq:Nat} {oq:Ob}
theorem AU {w:World} {I:Nat→Prop} {ι:cN} {v:Value} (h:VRel w I ι H v (.pv .nilm)):v=.map none:=by cases h.pv_inv;rfl
theorem W2 (ho:o.op=.call {callee:=.builtin .len,args:=#[x],argTypes:=#[T]}) (hT:P.underlying T=some (.map kt et)) (hx:aP E x=some (.pv .nilm)):cD P N o E H (.pv (.int .i64 0)) H :=.of_run fun a w I ι hr he=>by
  have hv:=AU (aD he hx);refine⟨.int .i64 0,?_,.pv (.int _ _)⟩;simp [execOp,ho,resolve,invoke,builtin,hv,Builtin.len_,run_underlying hT,goInt]
theorem FE (ho:o.op=.range T x) (hT:P.underlying T=some (.map kt et)) (hx:aP E x=some (.pv .nilm)) (hq:H.get q=none) :
  cD P N o E H (.it q 0) ((q,⟨0,0,0,eM (.pv .nilm) 0 0 []⟩)::H):=by
 intro a w I ι _ _ hr he K Q hk;have hvx0:=aD he hx;have hvx:=AU hvx0;obtain ⟨k2,k3⟩:=Rel.placeX (H':=(q,⟨0,0,0,eM (.pv .nilm) 0 0 []⟩)::H) (id:=q) (cap:=1) (ob':=⟨0,0,0,eM (.pv .nilm) 0 0 []⟩) (x:=.mapIter none 0 #[] 0) (w':=w.alloc (.mapIter none 0 #[] 0)) hr rfl rfl rfl rfl
  (fun o ho=>by rw [hq] at ho;cases ho) (fun hnew hI hmono=>.inr (.inr (.inl ⟨rfl,w.heap.size,none,0,#[],0,by simp,hnew,hI,rfl,⟨_,_,_,rfl,.pv .nilm,.pv (.int _ _),.pv (.int _ _)⟩,fun i r hr'=>by simp [eM] at hr'⟩)))
  (get_cons_same _ _ _) (fun j hj=>get_cons_other _ _ hj)
 have hrun:(execOp a.eval o).run P w=.ok (.value (.pointer (some ⟨w.heap.size,0,none⟩))) (w.alloc (.mapIter none 0 #[] 0)):=by
  simp only [execOp,ho,hvx];simp [Instr.range,run_underlying hT]
 unfold Oper.wpW;rw [hrun];exact hk _ _ I _ _ _ ⟨rfl,rfl⟩ (.it ⟨0,0,0,eM (.pv .nilm) 0 0 []⟩ (get_cons_same _ _ _) (aBM _) rfl fun _=>⟨rfl,w.heap.size,by simp,rfl⟩) k2 k3
theorem KI (ho:o.op=.next x false) (hx:aP E x=some (.it q gq)) (hQ:H.get q=some oq) (hgq:oq.g=gq) (hrq:oq.rows=eM (.pv .nilm) 0 0 []) :
  P4 P N o E H (fun r H'=>(r=.tup [.pv (.bool false)]∧H'=H∧True)∨∃ (i:Nat) (p:Nat),False∧True∧r=.tup [.pv (.bool true)]∧H'=H):=by
 intro a w I ι _ _ hr he K Q hk;obtain ⟨hsz,b,hι,hvx⟩:=KN (aD he hx) hQ hgq;obtain ⟨_,b',bm,since',seen',last',e1,e2,e3,e4,⟨m,n,k,z1,z2,z3,z4⟩,e6⟩:=(hr.obj q oq hQ).iter hsz hι;rw [hι] at e1;cases e1;rw [hrq] at z1;simp only [eM,List.getElem?_cons_zero,Option.some.injEq,List.cons.injEq,and_true] at z1;obtain ⟨rfl,rfl,rfl⟩:=z1;have hbm:=AU z2;cases hbm;have hrun:(Instr.next (.pointer (some ⟨b,0,none⟩)) false o.type).run P w=.ok (.tuple #[.bool false]) w:=by
  simp only [Instr.next,getObj,Sem.run_bind,Sem.run,e2,Result.andThen];rfl
 unfold Oper.wpW execOp;simp only [ho,hvx,Sem.run_bind,hrun,Result.andThen_ok,Sem.run_pure];refine hk _ _ I ι _ _ (.inl ⟨rfl,rfl,trivial⟩) (.tup rfl (fun i v c hv hc=>?_)) hr (Step.refl _ _ _ _)
 match i with
 | 0=>simp at hv hc;subst hv hc;exact .pv (.bool _)
 | i+1=>simp at hv
end
section
variable {ρ:Nat→Nat} (hρ:∀ i,ρ (ρ i)=i)
include hρ
theorem aL.renQ {P:Program} {f:FuncId} {args args':List AV} {H H':aA} {R:AV→aA→Prop} (h:aL P f args H R) (ha:jE ρ args=args') (hH:kP ρ H=H') :
  aL P f args' H' (fun x K=>∃ x0 K0,R x0 K0∧x=iC ρ x0∧K=kP ρ K0):=by
 subst ha hH;intro I ι w vs hrel hl hv;have hrel':=hrel.ren hρ;rw [rZ hρ] at hrel';have hl':vs.size=args.length:=by rw [hl,fI,aBG]
 refine(h I _ w vs hrel' hl' (fun i v a h1 h2=>?_)).mono ?_
 ·have:=(hv i v (iC ρ a) h1 (by rw [fI,aB0,h2];rfl)).ren hρ
  rwa [rZ hρ,(wX hρ [a]).2 a (by simp)] at this
 rintro e w' ⟨x,K,I',ι',v,rfl,hR,k1,k2,k3⟩;have k3':=k3.ren hρ;have e1:(fun j=>(fun j=>ι (ρ j)) (ρ j))=ι:=by funext j;simp only [hρ]
 rw [e1] at k3';exact⟨_,_,I',_,v,rfl,⟨_,_,hR,rfl,rfl⟩,k1.ren hρ,k2.ren hρ,k3'⟩
end
end
end Go.Abs
namespace Go.Proofs.YtmkgeogoojcciaaGreatDoor
open Go.Proofs.Tryz
open Go.Abs
def dD:bU→ByteArray→Option ByteArray
 | [],_=>none
 | (k',v,_)::r,k=>if k'=k then some v else dD r k
theorem nJ (k:ByteArray):∀ l:bU,cW l k=(dD l k).getD ⟨#[]⟩
 | []=>rfl
 | (k',v,n)::r=>by
  rw [cW,dD]
  split
  ·rfl
  exact nJ k r
def gZ:bU→ByteArray→ByteArray→Nat→bU
 | [],k,v,c=>[(k,v,c)]
 | (k',a,n)::r,k,v,c=>if k'=k then(k,v,n)::r else(k',a,n)::gZ r k v c
def tW:bU→ByteArray→bU
 | [],_=>[]
 | (k',a,n)::r,k=>if k'=k then r else(k',a,n)::tW r k
def nU (l:bU) (k:ByteArray) (c:Nat):Nat:=if(dD l k).isSome then c else c+1
theorem nM (k v:ByteArray) (c:Nat):∀ l:bU,vT (bS l) k (sv v) c=bS (gZ l k v c)
 | []=>rfl
 | (k',a,n)::r=>by
  show (if k'=k then(k,sv v,n)::bS r else(k',sv a,n)::vT (bS r) k (sv v) c)=bS (gZ ((k',a,n)::r) k v c);rw [gZ]
  split
  ·rfl
  rw [nM k v c r];rfl
theorem zH (k:ByteArray):∀ l:bU,vX (bS l) k=bS (tW l k)
 | []=>rfl
 | (k',a,n)::r=>by
  show (if k'=k then bS r else(k',sv a,n)::vX (bS r) k)=bS (tW ((k',a,n)::r) k);rw [tW]
  split
  ·rfl
  rw [zH k r];rfl
theorem xD (k:ByteArray):∀ l:bU,(mU (H6 (bS l)) k).isSome=(dD l k).isSome
 | []=>rfl
 | (k',a,n)::r=>by
  show (if k'=k then some (sv a)else mU (H6 (bS r)) k).isSome=(if k'=k then some a else dD r k).isSome
  split
  ·rfl
  exact xD k r
theorem pK (k:ByteArray) (c:Nat) (l:bU):BC (bS l) k c=nU l k c:=by rw [BC,nU,xD]
theorem zF (k v:ByteArray) (c:Nat) (k2:ByteArray):∀ l:bU,dD (gZ l k v c) k2=if k=k2 then some v else dD l k2
 | []=>rfl
 | (k',a,n)::r=>by
  rw [gZ];by_cases h:k'=k
  ·rw [aBF h,dD,dD];subst h;by_cases h2:k'=k2
   ·rw [aBF h2,aBF h2]
   rw [aBE h2,aBE h2,aBE h2]
  rw [aBE h,dD,dD,zF k v c k2 r];by_cases h2:k'=k2
  ·rw [aBF h2,aBF h2,aBE (fun e=>h (h2.trans e.symm))]
  rw [aBE h2,aBE h2]
def eY (l:bU):Prop:=(l.map Prod.fst).Nodup
theorem iV {k:ByteArray}:∀ {l:bU},dD l k=none↔k∉l.map Prod.fst
 | []=>by simp [dD]
 | (k',a,n)::r=>by
  rw [dD,List.map_cons,aBS,not_or];by_cases h:k'=k
  ·rw [aBF h];exact⟨(fun h=>by cases h),fun h2=>absurd h.symm h2.1⟩
  rw [aBE h,iV];exact⟨fun h2=>⟨fun e=>h e.symm,h2⟩,fun h2=>h2.2⟩
theorem sJ (k v:ByteArray) (c:Nat):∀ l:bU,(gZ l k v c).map Prod.fst=if(dD l k).isSome then l.map Prod.fst else l.map Prod.fst++[k]
 | []=>rfl
 | (k',a,n)::r=>by
  rw [gZ,dD];by_cases h:k'=k
  ·rw [aBF h,aBF h];subst h;rfl
  rw [aBE h,aBE h,List.map_cons,sJ k v c r];cases (dD r k).isSome<;>rfl
theorem FP {l:bU} (h:eY l) (k v:ByteArray) (c:Nat):eY (gZ l k v c):=by
 rw [eY,sJ];cases e:dD l k with
 | some x=>exact h
 | none =>
  have hn:=iV.1 e;exact List.nodup_append.2 ⟨h,by simp,fun a ha b hb e2=>by rw [aBJ] at hb;subst hb;subst e2;exact hn ha⟩
theorem HS (k v:ByteArray) (c:Nat):∀ l:bU,(gZ l k v c).map (fun p=>p.2.2)=if(dD l k).isSome then l.map (fun p=>p.2.2)else l.map (fun p=>p.2.2)++[c]
 | []=>rfl
 | (k',a,n)::r=>by
  rw [gZ,dD];by_cases h:k'=k
  ·rw [aBF h,aBF h];rfl
  rw [aBE h,aBE h,List.map_cons,HS k v c r];cases (dD r k).isSome<;>rfl
theorem QS {l:bU} {c:Nat}:dW l c↔(l.map fun p=>p.2.2).Pairwise (· < ·)∧∀ n∈l.map (fun p=>p.2.2),n < c:=by rw [dW];refine and_congr_right fun _=>⟨fun h n hn=>?_,fun h p hp=>h _ (List.mem_map.2 ⟨p,hp,rfl⟩)⟩;obtain ⟨p,hp,rfl⟩:=List.mem_map.1 hn;exact h p hp
theorem FO {l:bU} {c:Nat} (h:dW l c) (k v:ByteArray):dW (gZ l k v c) (nU l k c):=by
 rw [QS,HS,nU];have h:=QS.1 h;cases dD l k with
 | some x=>exact h
 | none =>
  refine⟨List.pairwise_append.2 ⟨h.1,by simp,fun a ha b hb=>by rw [aBJ] at hb;subst hb;exact h.2 a ha⟩,fun n hn=>?_⟩;show n < c+1;rcases List.mem_append.1 hn with h1|h1
  ·have:=h.2 n h1;omega
  rw [aBJ] at h1;omega
theorem rF (k:ByteArray):∀ l:bU,(tW l k).Sublist l
 | []=>.slnil
 | (k',a,n)::r=>by
  rw [tW]
  split
  ·exact List.sublist_cons_self _ _
  exact(rF k r).cons_cons _
theorem MI {l:bU} (h:eY l) (k:ByteArray):eY (tW l k):=h.sublist ((rF k l).map _)
theorem VP {l:bU} {c:Nat} (h:dW l c) (k:ByteArray):dW (tW l k) c:=⟨h.1.sublist ((rF k l).map _),fun p hp=>h.2 p ((rF k l).subset hp)⟩
theorem ME (k k2:ByteArray):∀ {l:bU},eY l→dD (tW l k) k2=if k=k2 then none else dD l k2
 | [],_=>by rw [tW,dD];split<;>rfl
 | (k',a,n)::r,hnd=>by
  have hn:k'∉r.map Prod.fst∧eY r:=List.nodup_cons.1 hnd;rw [tW];by_cases h:k'=k
  ·subst h;rw [aBF rfl,dD];by_cases h2:k'=k2
   ·subst h2;rw [aBF rfl];exact iV.2 hn.1
   rw [aBE h2,aBE h2]
  rw [aBE h,dD,dD,ME k k2 hn.2];by_cases h2:k'=k2
  ·rw [aBF h2,aBF h2,aBE (fun e=>h (h2.trans e.symm))]
  rw [aBE h2,aBE h2]
def gJ:bU→Nat→bU→bU×Nat
 | l,c,[]=>(l,c)
 | l,c,(k,v,_)::r=>gJ (gZ l k v c) (nU l k c) r
theorem DE (k v:ByteArray) (n:Nat):∀ (ps l:bU) (c:Nat),gJ l c (ps++[(k,v,n)])=(gZ (gJ l c ps).1 k v (gJ l c ps).2,nU (gJ l c ps).1 k (gJ l c ps).2)
 | [],l,c=>rfl
 | (k',a,m)::r,l,c=>DE k v n r _ _
theorem L2:∀ (ps l:bU) (c:Nat),dW l c→eY l→dW (gJ l c ps).1 (gJ l c ps).2∧eY (gJ l c ps).1
 | [],l,c,h1,h2=>⟨h1,h2⟩
 | (k,v,n)::r,l,c,h1,h2=>L2 r _ _ (FO h1 k v) (FP h2 k v c)
theorem RE (k2:ByteArray):∀ (ps l:bU) (c:Nat),eY ps→dD (gJ l c ps).1 k2=(dD ps k2).orElse fun _=>dD l k2
 | [],l,c,_=>rfl
 | (k,v,n)::r,l,c,h=>by
  have hn:k∉r.map Prod.fst∧eY r:=List.nodup_cons.1 h;show dD (gJ (gZ l k v c) (nU l k c) r).1 k2=_;rw [RE k2 r _ _ hn.2,zF,dD];by_cases h2:k=k2
  ·subst h2;rw [aBF rfl,aBF rfl,iV.2 hn.1];rfl
  rw [aBE h2,aBE h2]
theorem R4 {a b:bU} (h:a.Perm b) (k:ByteArray):eY a→dD a k=dD b k:=by
 induction h with
 | nil=>exact fun _=>rfl
 | cons x h ih =>
  obtain ⟨k',v,n⟩:=x;intro hn;rw [dD,dD,ih (List.nodup_cons.1 hn).2]
 | swap x y l =>
  obtain ⟨k1,v1,n1⟩:=x;obtain ⟨k2,v2,n2⟩:=y;intro hn;rw [dD,dD,dD,dD];by_cases e1:k2=k
  ·by_cases e2:k1=k
   ·exact absurd (e1.trans e2.symm) (by have:=(List.nodup_cons.1 hn).1;intro e;subst e;exact this (aBS.2 (.inl rfl)))
   rw [aBF e1,aBE e2,aBF e1]
  rw [aBE e1,aBE e1]
 | trans h1 h2 ih1 ih2=>exact fun hn=>(ih1 hn).trans (ih2 ((h1.map _).nodup_iff.1 hn))
def iN (l:bU) (s:List Nat):bU:=s.filterMap fun i=>l[i]?
theorem yB {l:bU} {s:List Nat} {i:Nat} {p:ByteArray×ByteArray×Nat} (h:l[i]?=some p):iN l (s++[i])=iN l s++[p]:=by rw [iN,iN,List.filterMap_append,List.filterMap_cons,h];rfl
theorem EX:∀ l:bU,iN l (List.range l.length)=l:=fun l=>by
 refine List.ext_getElem? fun i=>?_;have h:∀ n,n≤l.length→iN l (List.range n)=l.take n:=by
  intro n
  induction n with
  | zero=>intro _;rfl
  | succ n ih =>
   intro hn;rw [List.range_succ,yB (aBL (show n < l.length by omega)),ih (by omega),List.take_add_one,aBL (show n < l.length by omega)];rfl
 rw [h _ (aBM _),List.take_length]
theorem J2 {l:bU} {s:List Nat} (hd:s.Nodup) (hb:∀ i,i∈s→i < l.length) (ha:∀ i,i < l.length→i∈s):(iN l s).Perm l:=by have hp:s.Perm (List.range l.length):=(List.perm_ext_iff_of_nodup hd List.nodup_range).2 fun i=>⟨fun h=>List.mem_range.2 (hb i h),fun h=>ha i (List.mem_range.1 h)⟩;have:=hp.filterMap (fun i=>l[i]?);rw [show (List.range l.length).filterMap (fun i=>l[i]?)=l from EX l] at this;exact this
theorem BB {id:Nat} {o:Ob} {H:aA} (h:H.get id=some o) (j:Nat):aA.get ((id,o)::H) j=H.get j:=by
 by_cases e:j=id
 ·subst e;rw [h];exact get_cons_same _ _ _
 exact get_cons_other _ _ e
abbrev pO (l:bU) (c:Nat) (ps:bU):Ob:=bK (gJ l c ps).1 (gJ l c ps).2
theorem ZS (l l2:bU) (c c2:Nat) (H:aA) (hl2:l2.length < 1099511627776) (hst:dW l2 c2) (h0:H.get 1101=some (bK l c)) (h1:H.get 950=some (bK l2 c2)) (h6:H.get 946=none) (hcl:bM H) :
  aL Tryz.prog 104 [.mp 1101 0,.mp 950 0] H (fun r H'=>r=.tup []∧∃ ps,ps.Perm l2∧H'=(1101,pO l c ps)::H):=by
 have g1:∀ o o2,aA.get ((946,o)::(1101,o2)::H) 950=some (bK l2 c2):=fun o o2=>by rw [get_cons_other _ _ (by decide),get_cons_other _ _ (by decide)];exact h1
 have g2:∀ o o2,aA.get ((946,o)::(1101,o2)::H) 1101=some o2:=fun o o2=>by rw [get_cons_other _ _ (by decide)];exact get_cons_same _ _ _
 refine Bd func104 rfl ntmps104<|Sr<|Dd aF<|Dd (by exact zI (q:=946) (κ:=fA) (l:=bS l2) rfl aT rfl h1 rfl rfl rfl h6)<|Zz<|aN ?_;refine bJ (σ:=List Nat) (fun s=>([(0,.mp 1101 0),(7,.it 946 0)],(946,zG 950 l2 c2 s)::(1101,pO l c (iN l2 s))::H)) (fun s=>s.Nodup∧∀ i,i∈s→i < l2.length) (fun s=>l2.length - s.length) [] ⟨List.nodup_nil,by simp⟩ ?_ ?_
 ·exact cA.get' ⟨⟨_,rfl,rfl⟩,⟨_,rfl,rfl⟩,trivial⟩ (fun j=>by
   by_cases e:j=946
   ·subst e;rw [get_cons_same];exact(get_cons_same _ _ _).symm
   rw [get_cons_other _ _ e,get_cons_other _ _ e];exact BB h0 j)
 rintro s ⟨hd,hb⟩;have hsl:s.length≤l2.length:=iU _ _ hd hb;refine Sq<|Rg ?_;refine jA rfl rfl (FV (κ:=fA) (l:=bS l2) rfl rfl (get_cons_same _ _ _) rfl rfl (g1 _ _) rfl rfl rfl (aBM _) (aBM _)) ?_;rintro _ _ (⟨rfl,rfl,hn0⟩|⟨hni,hnp,hn1,hn2,rfl,rfl⟩)
 ·refine Dd eP<|Zz<|Sq ?_;refine Cn ?_ ?_<;>intro hc1
  ·cases hc1
  refine bE ?_;have hall:∀ i,i < l2.length→i∈s:=fun i hi=>by
   have hq:(bS l2)[i]?=some ((l2[i]).1,sv (l2[i]).2.1,(l2[i]).2.2):=by rw [bS,aB0,aBL hi];rfl
   have:=hn0 _ (aBQ hq);obtain ⟨j,hj,e⟩:=List.mem_map.1 this;have e2:iL l2 j=iL l2 i:=by
    rw [e,iL,aBL hi];rfl
   have:=EN hst (hb j hj) hi e2
   rwa [this] at hj
  exact iK (H':=(1101,pO l c (iN l2 s))::H) (.inl rfl) rfl (Fin.pops' [(946,zG 950 l2 c2 s)] (by simp) (bM.app (D:=[(1101,pO l c (iN l2 s))]) (mD.spec ⟨aQ _ _ _,trivial⟩) hcl) (by simp [get_cons_other,h6]) (by simp [get_cons_other,h6])) ⟨rfl,_,J2 hd hb hall,rfl⟩
 obtain ⟨p,hp,rfl⟩:=sI hn1;have hlt:hni < l2.length:=(aBK.1 hp).1;have hst2:iL l2 hni=p.2.2:=by rw [iL,hp];rfl
 have hn3:hni∉s:=fun hm=>hn2 (List.mem_map.2 ⟨hni,hm,hst2⟩);have hb2:∀ i,i∈s++[hni]→i < l2.length:=fun i hi=>by
  rcases List.mem_append.1 hi with h|h
  ·exact hb i h
  rw [aBJ] at h;omega
 have hd2:(s++[hni]).Nodup:=List.nodup_append.2 ⟨hd,by simp,fun a ha b hb e=>by rw [aBJ] at hb;subst hb;subst e;exact hn3 ha⟩;have hlen:=iU _ _ hd2 hb2;rw [aBH,List.length_singleton] at hlen;have hit:zG 950 l2 c2 (s++[hni])=⟨0,0,0,eM (.mp 950 0) c2 c2 (s.map (iL l2)++[p.2.2])⟩:=by rw [zG,List.map_append,List.map_cons,List.map_nil,hst2]
 have hpk:pO l c (iN l2 (s++[hni]))=⟨0,0,nU (gJ l c (iN l2 s)).1 p.1 (gJ l c (iN l2 s)).2,fZ fA (bS (gZ (gJ l c (iN l2 s)).1 p.1 p.2.1 (gJ l c (iN l2 s)).2))⟩:=by rw [pO,yB hp,DE]
 refine Dd eP<|Zz<|Sq ?_;refine Cn ?_ ?_<;>intro hc2
 ·refine aG<|aN<|Sr<|Dd (by exact zJ (κ:=fA) (seen:=s.map (iL l2)) (p:=(p.1,sv p.2.1,p.2.2)) (since:=c2) rfl rfl (get_cons_same _ _ _) rfl rfl ((get_cons_other _ _ (by decide)).trans (g1 _ _)) rfl rfl rfl hn1)<|Dd eP<|Dd eP<|Dd aS<|Dd aS<|Zz<|Rg<|Dd aF<|Dd aF<|Dd aF<|Uu (by exact hU (κ:=fA) (l:=bS (gJ l c (iN l2 s)).1) (.inl rfl) aT aI rfl ((get_cons_other _ _ (by decide)).trans (g2 _ _)) rfl rfl rfl rfl rfl (nM _ _ _ _) (pK _ _ _))<|Zz ?_;refine⟨s++[hni],⟨hd2,hb2⟩,by rw [aBH,List.length_singleton];omega,?_⟩;rw [hit,hpk];exact cA.get' ⟨⟨_,rfl,rfl⟩,⟨_,rfl,rfl⟩,trivial⟩ (fun j=>oQ [_,_] [_,_,_,_] (by repeat(first|exact trivial|refine⟨rfl,?_⟩)) j)
 cases hc2
def jH (l:bU) (P:List ByteArray):bU:=P.foldl tW l
theorem xL {l:bU} {P:List ByteArray} {k:Nat} {s:ByteArray} (h:P[k]?=some s):jH l (P.take (k+1))=tW (jH l (P.take k)) s:=by rw [jH,jH,dK h,List.foldl_append];rfl
theorem zM:∀ (P:List ByteArray) (l:bU) (c:Nat),dW l c→eY l→dW (jH l P) c∧eY (jH l P)
 | [],l,c,h1,h2=>⟨h1,h2⟩
 | k::r,l,c,h1,h2=>zM r _ c (VP h1 k) (MI h2 k)
theorem KW (k2:ByteArray):∀ (P:List ByteArray) (l:bU),eY l→dD (jH l P) k2=if VX P k2=true then none else dD l k2
 | [],l,_=>by rw [aBE (fun h=>by have:=iG.1 h;cases this)];rfl
 | k::r,l,h=>by
  show dD (jH (tW l k) r) k2=_;rw [KW k2 r _ (MI h k),ME k k2 h];by_cases h1:VX r k2=true
  ·rw [aBF h1,aBF (iG.2 (aBS.2 (.inr (iG.1 h1))))]
  rw [aBE h1];by_cases h2:k=k2
  ·rw [aBF h2,aBF (iG.2 (aBS.2 (.inl h2.symm)))]
  rw [aBE h2,aBE (fun hm=>by rcases aBS.1 (iG.1 hm)with e|e;exact h2 e.symm;exact h1 (iG.2 e))]
theorem TR (l l2:bU) (c c2:Nat) (P:List ByteArray) (H:aA) (hl2:l2.length < 1099511627776) (hP:P.length < 1099511627776) (hst:dW l2 c2) (h0:H.get 1101=some (bK l c)) (h1:H.get 950=some (bK l2 c2)) (h6:H.get 946=none) (hcl:bM H) :
  aL Tryz.prog 53 [.mp 1101 0,.mp 950 0,.pv (aW P)] H (fun r H'=>r=.tup []∧∃ ps,ps.Perm l2∧H'=(1101,bK (jH (gJ l c ps).1 P) (gJ l c ps).2)::H):=by
 have hml:(P.map encStr).length=P.length:=aBG _;refine Bd func53 rfl ntmps53<|Sr<|Dd aF<|Dm ?_;refine jA rfl rfl (aB rfl rfl call104 rfl (ZS l l2 c c2 H hl2 hst h0 h1 h6 hcl)) ?_;rintro r H' ⟨rfl,ps,hps,rfl⟩;refine Zz<|Sr<|Dd aF<|Dd (mH aO)<|Dd aF<|Zz<|aN ?_;refine bJ (σ:=Nat) (fun k=>([(0,.mp 1101 0),(11,.pv (aW P)),(12,iv ((P.map encStr).length:Int)),(13,iv (k:Int))],(1101,bK (jH (gJ l c ps).1 (P.take k)) (gJ l c ps).2)::H)) (fun k=>k≤P.length) (fun k=>P.length - k) 0 (aBX _) ?_ ?_
 ·exact E0
 intro k hk;refine Sr<|Dd dZ<|Zz<|Sq ?_;refine Cn ?_ ?_<;>intro hc1
 ·have hlt:k < P.length:=by have:=aBC hc1;omega
  obtain ⟨s,hs⟩:=aZ hlt;have hi:=dI (f:=encStr) hs;refine aG<|Sq<|aN<|Sr<|Dd (GJ bZ)<|Dd (nT aV)<|Dd aS<|Zz<|Rg<|Dd aF<|Dd aF<|Uu (by exact BD (κ:=fA) (l:=bS (jH (gJ l c ps).1 (P.take k))) rfl aT aI rfl (get_cons_same _ _ _) rfl rfl rfl rfl (zH s _))<|Zz<|Rg<|Dd oE<|Dd aF<|Zz ?_;refine⟨k+1,by omega,by omega,?_⟩;rw [xL hs];exact cA.get' ⟨⟨_,rfl,rfl⟩,⟨_,rfl,rfl⟩,⟨_,rfl,rfl⟩,⟨_,rfl,by rfl⟩,trivial⟩ (fun j=>iH _ _ _ _ j)
 have hge:k=P.length:=by have:=aBD hc1;omega
 subst hge;rw [List.take_length];refine bE ?_;exact iK (H':=(1101,bK (jH (gJ l c ps).1 P) (gJ l c ps).2)::H) (.inl rfl) rfl Fin.refl ⟨rfl,ps,hps,rfl⟩
end Go.Proofs.YtmkgeogoojcciaaGreatDoor
