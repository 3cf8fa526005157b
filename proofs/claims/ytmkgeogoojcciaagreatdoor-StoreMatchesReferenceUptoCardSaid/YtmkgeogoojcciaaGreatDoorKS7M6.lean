/-
  Parts of the proof: rules of an abstract program logic, contracts of functions, plain laws. Conditions: each theorem's own.
-/
import Derived.Test.YtmkgeogoojcciaaGreatDoorKS7M5
import Derived.Lib.AtoiAllCases
set_option linter.unusedVariables false
set_option linter.unusedSimpArgs false
set_option maxRecDepth 100000
set_option maxHeartbeats 8000000
namespace Go.Proofs
theorem aHN:type_of% Tryz.call101:=Tryz.call101
theorem aHM:type_of% Tryz.call105:=Tryz.call105
theorem rN:type_of% Tryz.call41:=Tryz.call41
theorem vR:type_of% Tryz.call43:=Tryz.call43
theorem N0:type_of% Tryz.call48:=Tryz.call48
theorem aH4:type_of% Tryz.call55:=Tryz.call55
theorem aCa:type_of% Tryz.call82:=Tryz.call82
theorem aC9:type_of% Tryz.call83:=Tryz.call83
theorem aH2:type_of% Tryz.call85:=Tryz.call85
theorem vQ:type_of% Tryz.call90:=Tryz.call90
theorem vO:type_of% Tryz.call99:=Tryz.call99
theorem sR:type_of% Tryz.isAgg29:=Tryz.isAgg29
theorem dO:type_of% Tryz.isAgg33:=Tryz.isAgg33
theorem fD:type_of% Tryz.isAgg70:=Tryz.isAgg70
theorem bL:type_of% Tryz.underlying33:=Tryz.underlying33
end Go.Proofs
section
namespace Go.Abs
section
variable {P:Program} {N:Nat} {o:Oper} {E:bZ} {H:aE} {t t':TypeId} {x:Operand}
abbrev aFS (b:Bool):PV:=bif b then X4 else SS
theorem BE {b:Bool} (ho:o.op=.binOp .neq t x (.const .nilIface) t') (ht:P.underlying t=some (.interface (P.methodsAt t))) (hx:aS E x=some (.pv (aFS b))):bS P N o E H (.pv (.bool b)) H:=by
 cases b
 ·exact SJ ho ht hx
 exact SK ho ht hx
end
def fH (s:ByteArray):Int:=(xB s).1
def lG (s:ByteArray):Bool:=match Lib.atoiAll s.data.toList with
 | .ok _=>false
 | _=>true
theorem aCA (s:ByteArray):xB s=(fH s,aFS (lG s)):=by rw [fH,lG,xB];cases Lib.atoiAll s.data.toList<;>rfl
end Go.Abs
namespace Go.Proofs.YtmkgeogoojcciaaGreatDoor
open Go.Proofs.Tryz
open Go.Abs Go.Lib
theorem FA (s:ByteArray) (hs:s.size < 1099511627776) (H:aE):aK Tryz.prog 82 [sv s] H (fun r H'=>r=.tup [iv (fH s),.pv (aFS (lG s))]∧H'=H):=by
 have:=aEL s hs H
 rwa [aCA] at this
def cU (l:List (ByteArray×ByteArray×Nat)):List (ByteArray×AV×Nat):=l.map fun p=>(p.1,sv p.2.1,p.2.2)
abbrev cB (l:List (ByteArray×ByteArray×Nat)) (c:Nat):Ob:=⟨0,0,c,jI iU (cU l)⟩
abbrev dU (k a n:Nat) (b:Bool):Ob:=⟨0,6,72,[[.ref 1000 0 0 0,iv (k:Int),iv (a:Int),iv (n:Int),.mp 1101 0,bv b]]⟩
abbrev sH (s:DSt) (o:Ob) (m:Ob):aE:=[(1000,⟨0,4,80,[mY s]⟩),(1001,⟨0,1,5,bP (flat s.cells)⟩),(1002,⟨s.gq,3,103,vK s.q⟩),(1003,⟨s.ga,3,100,mI s.arm⟩),(1100,o),(1101,m)]
theorem aU (l:List (ByteArray×ByteArray×Nat)) (c:Nat) (H:aE):∀ r∈(cB l c).rows,∀ a∈r,Clo H a:=by intro r hr a ha;obtain ⟨p,hp,rfl⟩:=List.mem_map.1 hr;obtain ⟨q,_,rfl⟩:=List.mem_map.1 hp;simp only [aID,aIH,or_false] at ha;rcases ha with rfl|rfl|rfl<;>exact .pv _
theorem cF {H:aE} {k a n:Nat} {b:Bool} (h1:(H.get 1000).isSome=true) (h2:(H.get 1101).isSome=true):∀ r∈(dU k a n b).rows,∀ x∈r,Clo H x:=by
 intro r hr x hx;rw [aHu.1 hr] at hx;simp only [aID,aIH,or_false] at hx;rcases hx with rfl|rfl|rfl|rfl|rfl|rfl
 ·exact .ref h1
 ·exact .pv _
 ·exact .pv _
 ·exact .pv _
 ·exact .mp h2
 exact .pv _
theorem aDt {f:FuncId} {args:List AV} {s s':DSt} {r0:AV} {o m:Ob} (h:aK Tryz.prog f args (bN s) (fun r H'=>r=r0∧H'=bN s')) (ha:∀ a∈args,Clo (bN s) a):aK Tryz.prog f args (sH s o m) (fun r H'=>r=r0∧H'=sH s' o m) :=(cG h (sH s o m) ⟨rfl,rfl,rfl,rfl,trivial⟩ ha).congrH (fun j=>by
  simp only [sH,bN,aE.get,List.cons_append,List.nil_append];cases e0:Nat.beq 1000 j<;>cases e1:Nat.beq 1001 j<;>cases e2:Nat.beq 1002 j<;>cases e3:Nat.beq 1003 j<;>simp [e0,e1,e2,e3])
theorem tD (s:DSt) (k a n:Nat) (b:Bool) (l:List (ByteArray×ByteArray×Nat)) (c:Nat):bT (sH s (dU k a n b) (cB l c)):=bT.of (fun p hp=>by
 simp only [sH,aID,aIH,or_false] at hp;rcases hp with rfl|rfl|rfl|rfl|rfl|rfl
 ·exact aM s _ rfl rfl rfl
 ·exact aG _ _
 ·exact aD _ _ _
 ·exact aP _ _
 ·exact cF rfl rfl
 exact aU _ _ _)
def D6 (place a n:Nat):List UInt8:=pR place (dg a 1++dg n 7)
theorem nN (n:Nat) {w:Nat} (h:n < 10 ^ w) (hw:0 < w):(decDigits n).length≤w:=dT h hw
theorem M5 (place a n:Nat) (hp:place < 1000000000000) (ha:a < 10) (hn:n < 1000000000000) (H:aE):aK Tryz.prog 83 [iv (place:Int),.agg [iv (a:Int),iv (n:Int)]] H (fun r H'=>r=sv (ofL (D6 place a n))∧H'=H):=by
 refine Pu ?_;have h1:(ofL (dg a 1)).size=1:=by rw [bO,jT (nN a (by omega) (by omega))]
 have h2:(ofL (dg n 7)).size≤28:=by rw [bO];exact wW n 7 hn
 have h3:(dg a 1++dg n 7).length≤48:=by rw [aHs];rw [bO] at h1 h2;omega
 have e1:ofL (dg a 1)++ofL (dg n 7)=ofL (dg a 1++dg n 7):=BH _ _;exact Bd func83 rfl ntmps83<|Sr<|Dd (by exact jQ (id:=3) rfl rfl rfl rfl rfl)<|Dd aR<|Zz<|Sq<|bF follows<|Cq aB<|Cq (cI AA)<|Cq (cW aL)<|Cq (by exact aA rfl rfl H5 rfl (tT a 1 (by omega) (by omega) _))<|Cq (cI sJ)<|Cq (cW aL)<|Cq (by exact aA rfl rfl H5 rfl (tT n 7 hn (by omega) _))<|Cq (by exact fA rfl rfl rfl (by omega) e1)<|Cq (by exact aA rfl rfl aHN rfl (FT place (dg a 1++dg n 7) hp h3 _))<|Cq aR<|cA<|Kr<|aH<|Rt<|Qq
end Go.Proofs.YtmkgeogoojcciaaGreatDoor
end
namespace Go.Proofs.YtmkgeogoojcciaaGreatDoor
open Go.Proofs.Tryz
open Go.Abs Go.Lib
theorem aBz {s:ByteArray} (h:lG s=false) : -9223372036854775808≤fH s∧fH s≤9223372036854775807:=by
 rw [lG] at h;rw [fH,xB];cases e:Lib.atoiAll s.data.toList with
 | ok v=>exact Lib.atoiAll_bounds e
 | range=>rw [e] at h;cases h
 | _=>rw [e] at h;cases h
theorem aB0 (s:ByteArray) (i j:Nat):(s.extract i j).size≤s.size:=by rw [ByteArray.size_extract];omega
theorem kU {s:DSt} (hs:DOk s) {n:Nat} (hn:n < s.cells.length):(cH s n).size=64:=by
 rw [cH];cases e:s.q.reverse.find? (pS n)with
 | some p =>
  have:=List.mem_of_find?_eq_some e;exact(hs.q p (List.mem_reverse.1 this)).2
 | none =>
  rw [aHw hn];exact hs.c _ (List.getElem_mem hn)
theorem EQ {s:DSt} (hs:DOk s) (hoff:s.off=false) {n:Nat} (hn:n < s.cells.length):∀ H,lZ H (bN s)→aK Tryz.prog 41 [.ref 1000 0 0 0,iv (n:Int)] H (fun r H'=>r=.tup [sv (cH s n),iv 0]∧H'=H):=fun H hH=>by
 have h:=aK.frameS (L9 s (n:Int) hs) hH.sub (nM s) (by simp;rfl);have e:fK s (n:Int)=true:=by rw [fY];exact decide_eq_true hn
 rw [show sC s (n:Int)=cH s n by rw [sC,hoff,aHp (by decide),aHq e,aIC],show fS s (n:Int)=0 by rw [fS,hoff,aHp (by decide),aHq e]] at h;exact h
def qT (t:ByteArray):Bool:=lG (t.extract 16 24)||decide (fH (t.extract 16 24) < 0)
def W5 (t:ByteArray):Nat:=(fH (t.extract 16 24)).toNat
def pF (t:ByteArray):Nat:=if qT t then 0 else W5 t / 10000000
def pE (t:ByteArray):Nat:=if qT t then 0 else W5 t % 10000000
def kJ (k place:Nat) (t:ByteArray):Bool:=!qT t&&((decide (pF t < 2)&&decide (pE t≤k))&&decide (ofL (D6 place (pF t) (pE t))=t))
theorem A7 (s:DSt) (hs:DOk s) (hoff:s.off=false) (k a n place:Nat) (b:Bool) (l:List (ByteArray×ByteArray×Nat)) (c:Nat) (hp:place < s.cells.length) (hk:k < 10000000) :
  aK Tryz.prog 42 [.ref 1100 0 0 0,iv (place:Int)] (sH s (dU k a n b) (cB l c)) (fun r H'=>r=.tup [.agg [iv (pF (cH s place):Int),iv (pE (cH s place):Int)],bv (kJ k place (cH s place))]∧H'=sH s (dU k a n b) (cB l c)):=by
 have ht:=kU hs hp;have hrd:=EQ hs hoff hp;have hpl:place < 1000000000000:=by have:=hs.n2;omega
 obtain ⟨t,hT⟩:∃ t,t=cH s place:=⟨_,rfl⟩;rw [← hT] at ht hrd ⊢;clear hT;obtain ⟨x,hx⟩:∃ x,x=t.extract 16 24:=⟨_,rfl⟩;have hxs:x.size < 1099511627776:=by rw [hx];have:=aB0 t 16 24;omega
 have hat:=fun H=>FA x hxs H;have hbd:=aBz (s:=x);have hpb:qT t=(lG x||decide (fH x < 0)):=by rw [qT,hx]
 have hpu:W5 t=(fH x).toNat:=by rw [W5,hx]
 obtain ⟨v,hv⟩:∃ v,v=fH x:=⟨_,rfl⟩;obtain ⟨e,he⟩:∃ e,e=lG x:=⟨_,rfl⟩;simp only [← hv,← he] at hat hbd hpb hpu;clear hv he;refine Bd func42 rfl ntmps42<|Sr<|Dd (by exact dW (id:=4) rfl ZJ rfl rfl)<|Dd aR<|Zz<|Sr<|Dd aB<|Dd dY<|Dd (cI zZ)<|Dd (cW sR)<|Dd aB<|Dd (by exact aA rfl rfl rN rfl (hrd _ ⟨rfl,rfl,rfl,rfl,trivial⟩))<|Dd aB<|Dd eC<|Dd eC<|Dd aR<|Dd aR<|Zz<|Sr<|Dd aB<|Dd (by exact bQ (l:=16) (h:=24) rfl aC rfl rfl rfl (by omega) (by omega) hx.symm)<|Dd (by exact aA rfl rfl aCa rfl (hat _))<|Dd aB<|Dd eC<|Dd eC<|Dd aR<|Dd aR<|Zz<|Sq<|Sq ?_;refine cQ (t:=31) (n:=7) (X:=e||decide (v < 0)) ?_ ?_
 ·all_goals refine Dd aB ?_
  all_goals refine Dd (by exact BE rfl mK rfl)<|Dm ?_
  all_goals refine Sp 28 (fun h28=>?_) fun h28=>?_
  all_goals try contradiction
  all_goals first|refine Fo<|Fo ?_|refine On aB<|On cP ?_
  all_goals refine Dd cX<|Zz ?_
  all_goals(exact⟨⟨_,rfl,by(rw [h28];rfl)⟩,rfl,rfl,rfl⟩)
 refine Cn ?_ ?_<;>intro hc1
 ·have hq:=hc1;have hb:qT t=true:=hpb.trans hq;refine Sr<|Dd (RA YO)<|Uu (vJ sizeOf70)<|Dd aR<|Zz<|aH ?_;refine fF (H':=(sH s (dU k a n b) (cB l c))) (.inr rfl) rfl (rl' fD sizeOf70) (aI rfl) (Fin.wk (r:=.tup [.agg [iv 0,iv 0],bv false]) (by simp) ⟨⟨_,rfl,rfl⟩,(by exact aM _ _ rfl rfl rfl),⟨_,rfl,rfl⟩,(by exact aG _ _),⟨_,rfl,rfl⟩,(by exact aD _ _ _),⟨_,rfl,rfl⟩,(by exact aP _ _),⟨_,rfl,rfl⟩,(by exact cF rfl rfl),⟨_,rfl,rfl⟩,(by exact aU _ _ _),trivial⟩ ⟨rfl,rfl,rfl,rfl,rfl,rfl,trivial⟩) ?_;exact⟨by rw [pF,pE,kJ,hb];rfl,rfl⟩
 have hq:=hc1;have hb:qT t=false:=hpb.trans hq;rw [aIN,aHz] at hq;obtain ⟨u,rfl⟩:∃ u:Nat,v=(u:Int):=⟨v.toNat,by omega⟩;have hbu:=hbd hq.1;rw [aIC] at hpu;have h34:IntKind.i64.wrap ((u:Int).tdiv 10000000)=((u / 10000000:Nat):Int):=by
  rw [Int.tdiv_eq_ediv_of_nonneg (by omega),eS (by omega) (by omega)];omega
 have h36:(u:Int).tmod 10000000=((u % 10000000:Nat):Int):=by
  rw [Int.tmod_eq_emod_of_nonneg (by omega)];omega
 have hA:pF t=u / 10000000:=by rw [pF,hb,aHp (by decide),hpu]
 have hN:pE t=u % 10000000:=by rw [pE,hb,aHp (by decide),hpu]
 rw [kJ,hb,hA,hN];have hnn:u % 10000000 < 10000000:=Nat.mod_lt _ (by decide);obtain ⟨p,hpe⟩:∃ p,p=u / 10000000:=⟨_,rfl⟩;obtain ⟨q,hqe⟩:∃ q,q=u % 10000000:=⟨_,rfl⟩;rw [← hpe] at h34;rw [← hqe] at h36 hnn;rw [← hpe,← hqe];clear hpe hqe;by_cases h2:p < 2
 ·have g42:decide ((p:Int) < 2)=true:=decide_eq_true (by omega);have hhd:=fun H=>M5 place p q hpl (by omega) (by omega) H;by_cases h3:q≤k
  ·have g51:decide ((q:Int)≤(k:Int))=true:=decide_eq_true (by omega);refine aF<|Sr<|Dd aB<|Dd (by exact nH rfl rfl rfl (by decide) h34)<|Dd aB<|Dd (by exact pX rfl rfl rfl (by decide) h36)<|Dd (RA YO)<|Dd (by exact dW (id:=10) rfl ZJ rfl rfl)<|Uu (vJ sizeOf70)<|Zz<|Sq<|bF follows<|Cr [10] (fun H1 hH=>by exact eW rfl fD sizeOf70 rfl ((hH _ rfl).trans rfl) rfl rfl rfl rfl)<|Cr [10] (fun _ h=>fh AA h)<|Cr [10] (fun _ h=>lh aL h)<|Cr [] (fun _ _=>cP)<|Cr [] (fun _ _=>aB) ?_;refine dI (r:=⟨_,some [10],[]⟩) (jR rfl rfl rfl (by assumption) (fun H1 hH=>by exact(by exact kE rfl sJ rfl ((hH _ rfl).trans rfl) rfl rfl))) rfl ?_;refine dI (r:=⟨_,some [10],[]⟩) (jR rfl rfl rfl (by assumption) (fun H1 hH=>by exact(by exact bH rfl aL rfl ((hH _ rfl).trans rfl) rfl rfl rfl))) rfl ?_;refine dI (r:=⟨_,some [1100],[]⟩) (jR rfl rfl rfl (by assumption) (fun H1 hH=>by exact tL rfl rfl)) rfl ?_;refine dI (r:=⟨_,some [1100],[]⟩) (jR rfl rfl rfl (by assumption) (fun H1 hH=>by exact(by exact bK rfl rfl ((hH _ rfl).trans rfl) rfl))) rfl ?_;refine dI (r:=⟨_,some [1100],[]⟩) (jR rfl rfl rfl (by assumption) (fun H1 hH=>by exact(by exact kE rfl zY rfl ((hH _ rfl).trans rfl) rfl rfl))) rfl ?_;refine dI (r:=⟨_,some [1100],[]⟩) (jR rfl rfl rfl (by assumption) (fun H1 hH=>by exact(by exact bH rfl aL rfl ((hH _ rfl).trans rfl) rfl rfl rfl))) rfl ?_;refine dI (r:=⟨_,some [],[]⟩) (jR rfl rfl rfl (by assumption) (fun H1 hH=>by exact BG rfl rfl rfl)) rfl ?_;refine Cr [] (fun _ _=>SA)<|Cr [] (fun _ _=>aB) ?_;refine dI (r:=⟨_,some [],[]⟩) (jR rfl rfl rfl (by assumption) (fun H1 hH=>by exact tL rfl rfl)) rfl ?_;refine dI (r:=⟨_,some [10],[]⟩) (jR rfl rfl rfl (by assumption) (fun H1 hH=>by exact(by exact eW rfl fD sizeOf70 rfl ((hH _ rfl).trans rfl) rfl rfl rfl rfl))) rfl ?_;refine dI (r:=⟨_,some [],[]⟩) (jR rfl rfl rfl (by assumption) (fun H1 hH=>by exact aA rfl rfl aC9 rfl (hhd _))) rfl ?_;refine dI (r:=⟨_,some [],[]⟩) (jR rfl rfl rfl (by assumption) (fun H1 hH=>by exact tL rfl rfl)) rfl ?_;refine dI (r:=⟨_,some [],[]⟩) (jR rfl rfl rfl (by assumption) (fun H1 hH=>by exact oV rfl rfl rfl)) rfl ?_;refine Cr [] (fun _ _=>SA)<|Cp [4] (fun H1 hH=>by exact mM rfl sizeOf70 rfl rfl rfl rfl ((hH _ rfl).trans rfl) rfl rfl rfl)<|Cr [] (fun _ _=>aR)<|cA<|Kr<|aH ?_;refine fF (H':=(sH s (dU k a n b) (cB l c))) (.inr rfl) rfl (rl' fD sizeOf70) (aI rfl) (Fin.wk (r:=.tup [.agg [iv (p:Int),iv (q:Int)],bv (decide (ofL (D6 place p q)=t))]) (by simp) ⟨⟨_,rfl,rfl⟩,(by exact aM _ _ rfl rfl rfl),⟨_,rfl,rfl⟩,(by exact aG _ _),⟨_,rfl,rfl⟩,(by exact aD _ _ _),⟨_,rfl,rfl⟩,(by exact aP _ _),⟨_,rfl,rfl⟩,(by exact cF rfl rfl),⟨_,rfl,rfl⟩,(by exact aU _ _ _),trivial⟩ ⟨rfl,rfl,rfl,rfl,rfl,rfl,trivial⟩) ?_;exact⟨by rw [decide_eq_true h2,decide_eq_true h3];rfl,rfl⟩
  have g51:decide ((q:Int)≤(k:Int))=false:=decide_eq_false (by omega);refine aF<|Sr<|Dd aB<|Dd (by exact nH rfl rfl rfl (by decide) h34)<|Dd aB<|Dd (by exact pX rfl rfl rfl (by decide) h36)<|Dd (RA YO)<|Dd (by exact dW (id:=10) rfl ZJ rfl rfl)<|Uu (vJ sizeOf70)<|Zz<|Sq<|bF follows<|Cr [10] (fun H1 hH=>by exact eW rfl fD sizeOf70 rfl ((hH _ rfl).trans rfl) rfl rfl rfl rfl)<|Cr [10] (fun _ h=>fh AA h)<|Cr [10] (fun _ h=>lh aL h)<|Cr [] (fun _ _=>cP)<|Cr [] (fun _ _=>aB) ?_;refine dI (r:=⟨_,some [10],[]⟩) (jR rfl rfl rfl (by assumption) (fun H1 hH=>by exact(by exact kE rfl sJ rfl ((hH _ rfl).trans rfl) rfl rfl))) rfl ?_;refine dI (r:=⟨_,some [10],[]⟩) (jR rfl rfl rfl (by assumption) (fun H1 hH=>by exact(by exact bH rfl aL rfl ((hH _ rfl).trans rfl) rfl rfl rfl))) rfl ?_;refine dI (r:=⟨_,some [1100],[]⟩) (jR rfl rfl rfl (by assumption) (fun H1 hH=>by exact tL rfl rfl)) rfl ?_;refine dI (r:=⟨_,some [1100],[]⟩) (jR rfl rfl rfl (by assumption) (fun H1 hH=>by exact(by exact bK rfl rfl ((hH _ rfl).trans rfl) rfl))) rfl ?_;refine dI (r:=⟨_,some [1100],[]⟩) (jR rfl rfl rfl (by assumption) (fun H1 hH=>by exact(by exact kE rfl zY rfl ((hH _ rfl).trans rfl) rfl rfl))) rfl ?_;refine dI (r:=⟨_,some [1100],[]⟩) (jR rfl rfl rfl (by assumption) (fun H1 hH=>by exact(by exact bH rfl aL rfl ((hH _ rfl).trans rfl) rfl rfl rfl))) rfl ?_;refine dI (r:=⟨_,some [],[]⟩) (jR rfl rfl rfl (by assumption) (fun H1 hH=>by exact BG rfl rfl rfl)) rfl ?_;refine Cr [] (fun _ _=>SA)<|Cr [] (fun _ _=>aB)<|Ot<|Ot<|Ot<|Ot<|Ot<|Cr [] (fun _ _=>D1)<|Cp [4] (fun H1 hH=>by exact mM rfl sizeOf70 rfl rfl rfl rfl ((hH _ rfl).trans rfl) rfl rfl rfl)<|Cr [] (fun _ _=>aR)<|cA<|Kr<|aH ?_;refine fF (H':=(sH s (dU k a n b) (cB l c))) (.inr rfl) rfl (rl' fD sizeOf70) (aI rfl) (Fin.wk (r:=.tup [.agg [iv (p:Int),iv (q:Int)],bv false]) (by simp) ⟨⟨_,rfl,rfl⟩,(by exact aM _ _ rfl rfl rfl),⟨_,rfl,rfl⟩,(by exact aG _ _),⟨_,rfl,rfl⟩,(by exact aD _ _ _),⟨_,rfl,rfl⟩,(by exact aP _ _),⟨_,rfl,rfl⟩,(by exact cF rfl rfl),⟨_,rfl,rfl⟩,(by exact aU _ _ _),trivial⟩ ⟨rfl,rfl,rfl,rfl,rfl,rfl,trivial⟩) ?_;exact⟨by rw [decide_eq_true h2,decide_eq_false h3];rfl,rfl⟩
 have g42:decide ((p:Int) < 2)=false:=decide_eq_false (by omega);refine aF<|Sr<|Dd aB<|Dd (by exact nH rfl rfl rfl (by decide) h34)<|Dd aB<|Dd (by exact pX rfl rfl rfl (by decide) h36)<|Dd (RA YO)<|Dd (by exact dW (id:=10) rfl ZJ rfl rfl)<|Uu (vJ sizeOf70)<|Zz<|Sq<|bF follows<|Cr [10] (fun H1 hH=>by exact eW rfl fD sizeOf70 rfl ((hH _ rfl).trans rfl) rfl rfl rfl rfl)<|Cr [10] (fun _ h=>fh AA h)<|Cr [10] (fun _ h=>lh aL h)<|Cr [] (fun _ _=>cP)<|Cr [] (fun _ _=>aB)<|Ot<|Ot<|Ot<|Ot<|Ot<|Ot<|Ot<|Cr [] (fun _ _=>D1)<|Cr [] (fun _ _=>aB)<|Ot<|Ot<|Ot<|Ot<|Ot<|Cr [] (fun _ _=>cX)<|Cp [4] (fun H1 hH=>by exact mM rfl sizeOf70 rfl rfl rfl rfl ((hH _ rfl).trans rfl) rfl rfl rfl)<|Cr [] (fun _ _=>aR)<|cA<|Kr<|aH ?_;refine fF (H':=(sH s (dU k a n b) (cB l c))) (.inr rfl) rfl (rl' fD sizeOf70) (aI rfl) (Fin.wk (r:=.tup [.agg [iv (p:Int),iv (q:Int)],bv false]) (by simp) ⟨⟨_,rfl,rfl⟩,(by exact aM _ _ rfl rfl rfl),⟨_,rfl,rfl⟩,(by exact aG _ _),⟨_,rfl,rfl⟩,(by exact aD _ _ _),⟨_,rfl,rfl⟩,(by exact aP _ _),⟨_,rfl,rfl⟩,(by exact cF rfl rfl),⟨_,rfl,rfl⟩,(by exact aU _ _ _),trivial⟩ ⟨rfl,rfl,rfl,rfl,rfl,rfl,trivial⟩) ?_;exact⟨by rw [decide_eq_false h2];rfl,rfl⟩
def fE (place:Nat) (p:List UInt8):List UInt8:=pR place (dg p.length 2++p)
def GE (t:ByteArray):Bool:=(lG (t.extract 16 18)||decide (fH (t.extract 16 18) < 1))||decide (46 < fH (t.extract 16 18))
def XA (t:ByteArray):ByteArray:=t.extract 18 (18+(fH (t.extract 16 18)).toNat)
def C3 (place:Nat) (t:ByteArray):ByteArray:=if GE t then sNil else if ofL (fE place (XA t).data.toList)=t then XA t else sNil
theorem aDR (s:DSt) (hs:DOk s) (hoff:s.off=false) (k a n place:Nat) (b:Bool) (l:List (ByteArray×ByteArray×Nat)) (c:Nat) (hp:place < s.cells.length) :
  aK Tryz.prog 84 [.ref 1100 0 0 0,iv (place:Int)] (sH s (dU k a n b) (cB l c)) (fun r H'=>r=sv (C3 place (cH s place))∧H'=sH s (dU k a n b) (cB l c)):=by
 have ht:=kU hs hp;have hrd:=EQ hs hoff hp;have hpl:place < 1000000000000:=by have:=hs.n2;omega
 obtain ⟨t,hT⟩:∃ t,t=cH s place:=⟨_,rfl⟩;rw [← hT] at ht hrd ⊢;clear hT;obtain ⟨x,hx⟩:∃ x,x=t.extract 16 18:=⟨_,rfl⟩;have hxs:x.size < 1099511627776:=by rw [hx];have:=aB0 t 16 18;omega
 have hat:=fun H=>FA x hxs H;have hpb:GE t=((lG x||decide (fH x < 1))||decide (46 < fH x)):=by rw [GE,hx]
 have hpu:XA t=t.extract 18 (18+(fH x).toNat):=by rw [XA,hx]
 obtain ⟨v,hv⟩:∃ v,v=fH x:=⟨_,rfl⟩;obtain ⟨e,he⟩:∃ e,e=lG x:=⟨_,rfl⟩;simp only [← hv,← he] at hat hpb hpu;clear hv he;rw [C3];refine Bd func84 rfl ntmps84<|Sr<|Dd aR<|Zz<|Sr<|Dd aB<|Dd dY<|Dd (cI zZ)<|Dd (cW sR)<|Dd aB<|Dd (by exact aA rfl rfl rN rfl (hrd _ ⟨rfl,rfl,rfl,rfl,trivial⟩))<|Dd aB<|Dd eC<|Dd eC<|Dd aR<|Dd aR<|Zz<|Sr<|Dd aB<|Dd (by exact bQ (l:=16) (h:=18) rfl aC rfl rfl rfl (by omega) (by omega) hx.symm)<|Dd (by exact aA rfl rfl aCa rfl (hat _))<|Dd aB<|Dd eC<|Dd eC<|Dd aR<|Dd aR<|Zz<|Sq<|Sq ?_;refine cQ (t:=34) (n:=12) (X:=(e||decide (v < 1))||decide (46 < v)) ?_ ?_
 ·all_goals refine Dd aB ?_
  all_goals refine Dd (by exact BE rfl mK rfl)<|Dm ?_
  all_goals refine Sp 27 (fun h27=>?_) fun h27=>?_
  all_goals try contradiction
  all_goals first|refine Fo<|Fo ?_|refine On aB<|On cP ?_
  all_goals refine Dd cX<|Dm ?_
  all_goals refine Sp 31 (fun h31=>?_) fun h31=>?_
  all_goals try contradiction
  all_goals first|refine Fo<|Fo ?_|refine On aB<|On yP ?_
  all_goals refine Dd cX<|Zz ?_
  all_goals(exact⟨⟨_,rfl,by first|(rw [h27];rfl)|(rw [h27,h31];rfl)⟩,rfl,rfl,rfl⟩)
 refine Cn ?_ ?_<;>intro hc1
 ·have hq:=hc1;rw [aHq (hpb.trans hq)];refine Sr<|Dd aR<|Zz<|aH ?_;refine bI (H':=(sH s (dU k a n b) (cB l c))) (.inr rfl) rfl (aI rfl) (Fin.wk (by(simp;done)) (Hc (aM _ _ rfl rfl rfl)<|Hc (aG _ _)<|Hc (aD _ _ _)<|Hc (aP _ _)<|Hc (cF rfl rfl)<|Hc (aU _ _ _)<|trivial) ⟨rfl,rfl,rfl,rfl,rfl,rfl,trivial⟩) ?_;exact Qq
 have hq:=hc1;rw [aHp (by rw [hpb,hq];decide)];rw [aIN,aIN,aHz,aHz] at hq;obtain ⟨u,rfl⟩:∃ u:Nat,v=(u:Int):=⟨v.toNat,by omega⟩;rw [aIC] at hpu;have hps:(XA t).size=u:=by rw [hpu,ByteArray.size_extract];omega
 have hpl2:(XA t).data.toList.length=u:=by rw [dP,hps]
 have hof:=MP (XA t);obtain ⟨y,hy⟩:∃ y,y=XA t:=⟨_,rfl⟩;rw [← hy] at hps hpl2 hof hpu ⊢;clear hy;obtain ⟨p,hpe⟩:∃ p,p=y.data.toList:=⟨_,rfl⟩;rw [← hpe] at hpl2 hof ⊢;have h38:((18:Int)+(u:Int))=((18+u:Nat):Int):=by omega
 have e43:ofL (dg u 2)++y=ofL (dg u 2++p):=by rw [← hof];exact BH _ _
 have s43:(ofL (dg u 2)).size≤23:=by rw [bO];exact wW u 2 (by omega)
 have l43:(dg u 2++p).length≤48:=by rw [aHs,jT (nN u (by omega) (by omega)),hpl2];omega
 have hpc:fE place p=pR place (dg u 2++p):=by rw [fE,hpl2]
 refine aF<|Sr<|Dd aB<|Dd aB<|Dd (by exact bA rfl rfl rfl (show IntKind.i64.wrap ((18:Int)+(u:Int))=((18+u:Nat):Int)by rw [eS (by omega) (by omega)];omega))<|Dd (by exact bQ (l:=18) (h:=18+u) rfl aC rfl rfl rfl (by omega) (by omega) hpu.symm)<|Dd aR<|Zz<|Sq<|Sr<|Dd aB<|Dd aB<|Dd (by exact aA rfl rfl H5 rfl (tT u 2 (by omega) (by omega) _))<|Dd aB<|Dd (by exact fA rfl rfl rfl (by omega) e43)<|Dd (by exact aA rfl rfl aHN rfl (FT place (dg u 2++p) hpl l43 _))<|Dd aB<|Dd ZG<|Zz ?_;refine Cn ?_ ?_<;>intro hc2
 ·have hq2:¬ ofL (pR place (dg u 2++p))=t:=by have h:=hc2;simpa using h
  rw [hpc,aHp hq2];refine Sr<|Dd aR<|Zz<|aH ?_;refine bI (H':=(sH s (dU k a n b) (cB l c))) (.inr rfl) rfl (aI rfl) (Fin.wk (by(simp;done)) (Hc (aM _ _ rfl rfl rfl)<|Hc (aG _ _)<|Hc (aD _ _ _)<|Hc (aP _ _)<|Hc (cF rfl rfl)<|Hc (aU _ _ _)<|trivial) ⟨rfl,rfl,rfl,rfl,rfl,rfl,trivial⟩) ?_;exact Qq
 have hq2:ofL (pR place (dg u 2++p))=t:=by have h:=hc2;simpa using h
 rw [hpc,aHq hq2];refine aF<|Sr<|Dd aB<|Dd aR<|Zz<|aH ?_;refine bI (H':=(sH s (dU k a n b) (cB l c))) (.inr rfl) rfl (aI rfl) (Fin.wk (by(simp;done)) (Hc (aM _ _ rfl rfl rfl)<|Hc (aG _ _)<|Hc (aD _ _ _)<|Hc (aP _ _)<|Hc (cF rfl rfl)<|Hc (aU _ _ _)<|trivial) ⟨rfl,rfl,rfl,rfl,rfl,rfl,trivial⟩) ?_;exact Qq
theorem GD (s:DSt) (k a n ar i:Nat) (b:Bool) (l:List (ByteArray×ByteArray×Nat)) (c:Nat) (hk:k < 100000) (har:ar < 10) (hi:i < 100000000) :
  aK Tryz.prog 85 [.ref 1100 0 0 0,iv (ar:Int),iv (i:Int)] (sH s (dU k a n b) (cB l c)) (fun r H'=>r=iv ((2+ar*k+i:Nat):Int)∧H'=sH s (dU k a n b) (cB l c)):=by
 have hm:ar*k≤10*100000:=Nat.mul_le_mul (by omega) (by omega);have hmi:((ar:Int)*(k:Int))=((ar*k:Nat):Int):=by rw [Int.natCast_mul]
 refine Bd func85 rfl ntmps85<|Sr<|Dd aR<|Zz<|Sr<|Dd aB<|Dd aB<|Dd dY<|Dd (cI zY)<|Dd (cW aL)<|Dd (by exact fG rfl rfl rfl (by exact eS (by omega) (by omega)))<|Dd rL<|Dd aB<|Dd rL<|Dd aR<|Zz<|aH ?_;refine bI (H':=(sH s (dU k a n b) (cB l c))) (.inr rfl) rfl (aI rfl) (Fin.wk (by(simp;done)) (Hc (aM _ _ rfl rfl rfl)<|Hc (aG _ _)<|Hc (aD _ _ _)<|Hc (aP _ _)<|Hc (cF rfl rfl)<|Hc (aU _ _ _)<|trivial) ⟨rfl,rfl,rfl,rfl,rfl,rfl,trivial⟩) ?_;exact Qq
end Go.Proofs.YtmkgeogoojcciaaGreatDoor
namespace Go.Proofs.YtmkgeogoojcciaaGreatDoor
open Go.Proofs.Tryz
open Go.Abs
abbrev pB (l:List ByteArray):List (List AV):=l.map (fun e=>(encStr e).map .pv)
structure DInv (s:DSt) (n m:Nat):Prop where
 ok:DOk s
 arm:HW s
 n:s.cells.length=n
 q:s.q.length≤m
theorem DInv.mono {s:DSt} {n m m':Nat} (h:DInv s n m) (hm:m≤m'):DInv s n m':=⟨h.ok,h.arm,h.n,Nat.le_trans h.q hm⟩
theorem aDg {n:Nat} (h1:1≤n) (h2:n≤8000):DInv (pK n) n 0:=⟨aDv h1 h2,fun a w b h=>(by cases h),by simp [pK],aHx _⟩
theorem mV {a:Arm} {x w b:Int} (h:qZ a=.on x w b):False:=by cases a<;>cases h
theorem tP {s:DSt} {n m:Nat} (h:DInv s n m) (w b:Int):DInv (fV s w b) n m:=by
 refine⟨VN h.ok w b,?_,?_,?_⟩<;>unfold fV<;>split
 ·exact h.arm
 ·exact fun a w b h=>(mV h).elim
 ·exact h.n
 ·show (lY s w b).length=n;rw [DH];exact h.n
 ·exact h.q
 exact aII _
theorem DE {s:DSt} {n m:Nat} (h:DInv s n m):DInv (eK s) n m:=by
 refine⟨HL h.ok,?_,?_,?_⟩<;>unfold eK<;>split
 ·next a w b e =>
  split
  ·intro a' w' b' he;cases he;have:=h.arm a w b e;omega
  exact(tP h w b).arm
 ·exact h.arm
 ·next a w b e =>
  split
  ·exact h.n
  exact(tP h w b).n
 ·exact h.n
 ·next a w b e =>
  split
  ·exact h.q
  exact(tP h w b).q
 exact h.q
theorem KF {s:DSt} {n m:Nat} (h:DInv s n m) (hm:m < 1048576) (k:Int) (t:ByteArray):DInv (gR s k t) n (m+1):=by
 unfold gR
 split
 ·exact h.mono (Nat.le_succ _)
 split
 ·next hc =>
  rw [aIA,aHy] at hc;obtain ⟨h1,h2⟩:=hc;rcases mQ s k with e|⟨j,rfl,hj⟩
  ·rw [e] at h1;cases h1
  have hq:=h.q;refine DE ⟨xD h.ok (by simpa using hj) h2 (by omega),h.arm,h.n,?_⟩;show (s.q++[_]).length≤_;simp;exact hq
 exact h.mono (Nat.le_succ _)
theorem XT {s:DSt} {n m:Nat} (h:DInv s n m):DInv (AF s) n m:=by have hp:=MC h.ok s.q.length;rw [List.take_length] at hp;exact⟨⟨hp.n1,hp.n2,hp.c,fun p hp=>(by cases hp),aII _⟩,h.arm,by show (dL _ _).length=n;rw [iT];exact h.n,aII _⟩
theorem aBG {s:DSt} {n m:Nat} (h:DInv s n m):DInv (jJ s) n m:=by
 unfold jJ
 split
 ·exact h
 split
 ·exact XT (DE h)
 exact DE h
theorem XS {s:DSt} {n m:Nat} (h:DInv s n m):DInv (oH s) n m :=⟨⟨h.ok.n1,h.ok.n2,h.ok.c,h.ok.q,h.ok.ql⟩,fun a w b h=>(mV h).elim,h.n,h.q⟩
theorem VH {s:DSt} {n m:Nat} (h:DInv s n m) (a w b:Int) (ha:a≤9223372036854775807):DInv (pL s a w b) n m:=by
 unfold pL
 split
 ·exact h
 split
 ·exact⟨⟨h.ok.n1,h.ok.n2,h.ok.c,h.ok.q,h.ok.ql⟩,fun a' w' b' e=>by cases e;exact ha,h.n,h.q⟩
 exact⟨⟨h.ok.n1,h.ok.n2,h.ok.c,h.ok.q,h.ok.ql⟩,fun a w b h=>(mV h).elim,h.n,h.q⟩
theorem VG {s:DSt} {n m:Nat} (h:DInv s n m) (k p x:Int):DInv (rC s k p x) n m:=by
 unfold rC
 split
 ·next hc =>
  rw [lF,aIA] at hc;rcases mQ s k with e|⟨j,rfl,hj⟩
  ·rw [e] at hc;cases hc.1
  obtain ⟨c,hcj⟩:=aY hj;refine⟨⟨by simpa using h.ok.n1,by simpa using h.ok.n2,fun y hy=>?_,fun p hp=>by simpa using h.ok.q p hp,h.ok.ql⟩,h.arm,by simpa using h.n,h.q⟩;rcases List.mem_or_eq_of_mem_set hy with e|e
  ·exact h.ok.c y e
  rw [e,X0,aIC,hcj];exact h.ok.c c (aIB hcj)
 exact h
end Go.Proofs.YtmkgeogoojcciaaGreatDoor
namespace Go.Proofs.YtmkgeogoojcciaaGreatDoor
open Go.Proofs.Tryz
open Go.Abs Go.Lib
def oN (d:DSt) (place:Nat) (L:List ByteArray):Nat→Int×DSt
 | 0=>(0,d)
 | i+1=>if(oN d place L i).1=0 then(gK (oN d place L i).2 ((place+i:Nat):Int) (L.getD i sNil),gR (oN d place L i).2 ((place+i:Nat):Int) (L.getD i sNil))else oN d place L i
def gY (d:DSt) (place:Nat) (L:List ByteArray):Int×DSt :=if(oN d place L L.length).1=0 then(mG (oN d place L L.length).2,jJ (oN d place L L.length).2)else oN d place L L.length
theorem FB {d:DSt} {place:Nat} {L:List ByteArray} {i:Nat} (h:¬ (oN d place L i).1=0):∀ j,oN d place L (i+j)=oN d place L i
 | 0=>rfl
 | j+1=>by rw [← Nat.add_assoc,oN,FB h j,aHp h]
theorem tY {d:DSt} {n m:Nat} (h:DInv d n m) (place:Nat) (L:List ByteArray):∀ i,m+i≤1048576→DInv (oN d place L i).2 n (m+i)
 | 0,_=>h
 | i+1,hi=>by
  have ih:=tY h place L i (by omega);rw [oN]
  split
  ·exact KF ih (by omega) _ _
  exact ih.mono (by omega)
theorem kI {d:DSt} {n m:Nat} (h:DInv d n m) (place:Nat) (L:List ByteArray) (hm:m+L.length≤1048576):DInv (gY d place L).2 n (m+L.length):=by
 rw [gY]
 split
 ·exact aBG (tY h place L _ hm)
 exact tY h place L _ hm
theorem sX {d:DSt} {n m:Nat} (h:DInv d n m) (k a cn place:Nat) (b:Bool) (l:List (ByteArray×ByteArray×Nat)) (c:Nat) (L:List ByteArray) (hm:m+L.length < 1048576) (hpl:place < 100000) :
  aK Tryz.prog 90 [.ref 1100 0 0 0,iv (place:Int),.pv (aX L)] (sH d (dU k a cn b) (cB l c)) (fun r H'=>r=iv (gY d place L).1∧H'=sH (gY d place L).2 (dU k a cn (b||!decide ((gY d place L).1=0))) (cB l c)):=by
 have hml:(L.map encStr).length=L.length:=aHr _;refine Bd func90 rfl ntmps90<|Sr<|Dd aR<|Zz<|Sr<|Dd aR<|Zz<|Sq<|Sr<|Dd aR<|Zz<|aJ ?_;refine bG (σ:=Nat) (fun i=>([(0,.ref 1100 0 0 0),(1,iv (place:Int)),(2,.pv (aX L)),(7,iv (oN d place L i).1),(8,iv (i:Int))],sH (oN d place L i).2 (dU k a cn b) (cB l c))) (fun i=>i≤L.length∧∀ j,j < i→(oN d place L j).1=0) (fun i=>L.length - i) 0 ⟨aII _,fun j hj=>absurd hj (Nat.not_lt_zero _)⟩ ?_ ?_
 ·exact(cC.wk (Ea<|Eb<|Eb<|Eb<|Eb<|trivial) (Hc (aM _ _ rfl rfl rfl)<|Hc (aG _ _)<|Hc (aD _ _ _)<|Hc (aP _ _)<|Hc (cF rfl rfl)<|Hc (aU _ _ _)<|trivial) ⟨rfl,rfl,rfl,rfl,rfl,rfl,trivial⟩)
 rintro i ⟨hi,hz⟩;have hx:=tY h place L i (by omega);have hst:=FB (d:=d) (place:=place) (L:=L) (i:=i);have hnx:oN d place L (i+1)=if(oN d place L i).1=0 then(gK (oN d place L i).2 ((place+i:Nat):Int) (L.getD i sNil),gR (oN d place L i).2 ((place+i:Nat):Int) (L.getD i sNil))else oN d place L i:=rfl;have hzi:(oN d place L i).1=0→∀ j,j < i+1→(oN d place L j).1=0:=fun h j hj=>by
  rcases Nat.lt_succ_iff_lt_or_eq.1 hj with h1|rfl
  ·exact hz j h1
  exact h
 rcases hp:oN d place L i with⟨e,d1⟩;simp only [hp] at hx hst hnx hzi ⊢;refine Sq<|Sq ?_;refine cQ (t:=16) (n:=9) (X:=decide ((i:Int) < ((L.map encStr).length:Int))&&decide (e=0)) ?_ ?_
 ·all_goals refine Dd aB ?_
  all_goals refine Dd aB<|Dd (jY aO)<|Dd cP<|Dm ?_
  all_goals refine Sp 13 (fun h13=>?_) fun h13=>?_
  all_goals try contradiction
  all_goals first|refine Fo<|Fo ?_|refine On aB<|On eP ?_
  all_goals refine Dd cX<|Zz ?_
  all_goals(exact⟨⟨_,rfl,by(rw [h13];rfl)⟩,rfl,rfl,rfl⟩)
 refine Cn ?_ ?_<;>intro hc1
 ·have hq:i < L.length∧e=0:=by have h:=hc1;rw [aIA,aHy,aHy] at h;exact⟨by omega,h.2⟩
  obtain ⟨t,ht⟩:=aY hq.1;have hit:=cV (f:=encStr) ht;have hgt:L.getD i sNil=t:=by rw [List.getD_eq_getElem?_getD,ht];rfl
  rw [hgt,aHq hq.2] at hnx;have hw:=aCo d1 ((place+i:Nat):Int) t hx.ok hx.arm (by have:=hx.q;omega);refine aF<|Sq<|aJ<|bF follows<|Cr [1100] (fun _ _=>aB)<|Cr [1100] (fun H1 hH=>by exact bK rfl rfl ((hH _ rfl).trans rfl) rfl)<|Cr [1100] (fun _ h=>fh zZ h)<|Cr [1100] (fun _ h=>lh sR h)<|Cr [] (fun _ _=>aB)<|Cr [] (fun _ _=>aB)<|Cr [] (fun H1 hH=>by exact bA rfl rfl rfl (show IntKind.i64.wrap ((place:Int)+(i:Int))=((place+i:Nat):Int)by rw [eS (by omega) (by omega)];omega))<|Cr [] (fun _ _=>aB)<|Cr [] (fun _ _=>aB)<|Cr [] (fun _ _=>(sU cD))<|Cr [] (fun _ _=>(gW aQ)) ?_;refine dI (r:=⟨_,some [1000,1001,1002,1003],_⟩) (DStep.plain rfl (fun H1 hH=>by exact aA rfl rfl call121 rfl (cG hw _ ⟨(hH 1000 rfl).trans rfl,(hH 1001 rfl).trans rfl,(hH 1002 rfl).trans rfl,(hH 1003 rfl).trans rfl,trivial⟩ (by simp;rfl)))) rfl ?_;refine Cr [] (fun _ _=>aR)<|cA<|Kr<|Rg<|Dd aB<|Dd rL<|Da ?_;refine⟨i+1,⟨by omega,hzi hq.2⟩,by omega,?_⟩;dsimp only;rw [hnx];exact(cC.wk (Ea<|Eb<|Eb<|Eb<|Eb<|trivial) (Hc (aM _ _ rfl rfl rfl)<|Hc (aG _ _)<|Hc (aD _ _ _)<|Hc (aP _ _)<|Hc (cF rfl rfl)<|Hc (aU _ _ _)<|trivial) ⟨rfl,rfl,rfl,rfl,rfl,rfl,trivial⟩)
 have hq:i=L.length∨¬ e=0:=by have h:=hc1;rw [Bool.and_eq_false_iff,aHz,aHz] at h;omega
 have hend:oN d place L L.length=(e,d1):=by
  by_cases he:e=0
  ·rcases hq with hq|hq
   ·rw [← hq];exact hp
   exact absurd he hq
  have:=hst he (L.length - i)
  rwa [show i+(L.length - i)=L.length by omega] at this
 rw [gY,hend];refine aV<|Sq<|Sr<|Dd aB<|Dd eP<|Zz ?_;refine Cn ?_ ?_<;>intro hc2
 ·have he:e=0:=aHn hc2;have hs:=aEj d1 hx.ok hx.arm;rw [aHq he];cases b
  ·refine Rg<|Dd aB<|Dd dY<|Dd (cI zZ)<|Dd (cW sR)<|Dd (by exact aA rfl rfl call122 rfl (cG hs _ ⟨rfl,rfl,rfl,rfl,trivial⟩ (by simp;rfl)))<|Dd aR<|Zz<|Sr<|Dd aB<|Dd aB<|Dd dY<|Dd (cI mE)<|Dd (cW cK)<|Dd aB<|On aB<|On tM<|Dd cX<|Dd dY<|Dd (cI mE)<|Uu (by exact bU rfl sizeOf4 rfl rfl rfl rfl rfl rfl (by simp only [aHt,List.length_nil];omega) (by simp only [Zl,encStr];rfl) (by simp only [Zl,encStr];rfl))<|Zz<|Sr<|Dd aB<|Dd aR<|Zz<|aH ?_;refine bI (H':=(sH (jJ d1) (dU k a cn (false||!decide (mG d1=0))) (cB l c))) (.inr rfl) rfl (aI rfl) (Fin.wk (by(simp;done)) (Hc (aM _ _ rfl rfl rfl)<|Hc (aG _ _)<|Hc (aD _ _ _)<|Hc (aP _ _)<|Hc (cF rfl rfl)<|Hc (aU _ _ _)<|trivial) ⟨rfl,rfl,rfl,rfl,rfl,rfl,trivial⟩) ?_;exact Qq
  refine Rg<|Dd aB<|Dd dY<|Dd (cI zZ)<|Dd (cW sR)<|Dd (by exact aA rfl rfl call122 rfl (cG hs _ ⟨rfl,rfl,rfl,rfl,trivial⟩ (by simp;rfl)))<|Dd aR<|Zz<|Sr<|Dd aB<|Dd aB<|Dd dY<|Dd (cI mE)<|Dd (cW cK)<|Dd aB<|Fo<|Fo<|Dd cX<|Dd dY<|Dd (cI mE)<|Uu (by exact bU rfl sizeOf4 rfl rfl rfl rfl rfl rfl (by simp only [aHt,List.length_nil];omega) (by simp only [Zl,encStr];rfl) (by simp only [Zl,encStr];rfl))<|Zz<|Sr<|Dd aB<|Dd aR<|Zz<|aH ?_;refine bI (H':=(sH (jJ d1) (dU k a cn true) (cB l c))) (.inr rfl) rfl (aI rfl) (Fin.wk (by(simp;done)) (Hc (aM _ _ rfl rfl rfl)<|Hc (aG _ _)<|Hc (aD _ _ _)<|Hc (aP _ _)<|Hc (cF rfl rfl)<|Hc (aU _ _ _)<|trivial) ⟨rfl,rfl,rfl,rfl,rfl,rfl,trivial⟩) ?_;exact Qq
 have he:¬ e=0:=aHo hc2;rw [aHp he];cases b
 ·refine aF<|Sr<|Dd aB<|Dd aB<|Dd dY<|Dd (cI mE)<|Dd (cW cK)<|Dd aB<|On aB<|On tM<|Dd cX<|Dd dY<|Dd (cI mE)<|Uu (by exact bU rfl sizeOf4 rfl rfl rfl rfl rfl rfl (by simp only [aHt,List.length_nil];omega) (by simp only [Zl,encStr];rfl) (by simp only [Zl,encStr];rfl))<|Zz<|Sr<|Dd aB<|Dd aR<|Zz<|aH ?_;refine bI (H':=(sH d1 (dU k a cn (false||!decide (e=0))) (cB l c))) (.inr rfl) rfl (aI rfl) (Fin.wk (by(simp;done)) (Hc (aM _ _ rfl rfl rfl)<|Hc (aG _ _)<|Hc (aD _ _ _)<|Hc (aP _ _)<|Hc (cF rfl rfl)<|Hc (aU _ _ _)<|trivial) ⟨rfl,rfl,rfl,rfl,rfl,rfl,trivial⟩) ?_;exact Qq
 refine aF<|Sr<|Dd aB<|Dd aB<|Dd dY<|Dd (cI mE)<|Dd (cW cK)<|Dd aB<|Fo<|Fo<|Dd cX<|Dd dY<|Dd (cI mE)<|Uu (by exact bU rfl sizeOf4 rfl rfl rfl rfl rfl rfl (by simp only [aHt,List.length_nil];omega) (by simp only [Zl,encStr];rfl) (by simp only [Zl,encStr];rfl))<|Zz<|Sr<|Dd aB<|Dd aR<|Zz<|aH ?_;refine bI (H':=(sH d1 (dU k a cn true) (cB l c))) (.inr rfl) rfl (aI rfl) (Fin.wk (by(simp;done)) (Hc (aM _ _ rfl rfl rfl)<|Hc (aG _ _)<|Hc (aD _ _ _)<|Hc (aP _ _)<|Hc (cF rfl rfl)<|Hc (aU _ _ _)<|trivial) ⟨rfl,rfl,rfl,rfl,rfl,rfl,trivial⟩) ?_;exact Qq
abbrev zS:ByteArray:=ofL (zB 64)
abbrev hS (place a cn:Nat):ByteArray:=ofL (D6 place a cn)
def nB (place a cn:Nat):Bool→ByteArray
 | true=>hS place a cn
 | false=>zS
def mB (d:DSt) (place a cn:Nat) (hd:Bool):Int×DSt:=if cH d place=nB place a cn hd then(0,d)else if(gY d place [zS]).1=0∧hd=true then gY (gY d place [zS]).2 place [nB place a cn hd] else gY d place [zS]
theorem JV {d:DSt} {n m:Nat} (h:DInv d n m) (hoff:d.off=false) (k a cn place:Nat) (b hd:Bool) (l:List (ByteArray×ByteArray×Nat)) (c:Nat) (hm:m+2 < 1048576) (hp:place < d.cells.length) (ha:a < 10) (hcn:cn < 1000000000000) :
  aK Tryz.prog 45 [.ref 1100 0 0 0,iv (place:Int),bv hd] (sH d (dU k a cn b) (cB l c)) (fun r H'=>r=iv (mB d place a cn hd).1∧H'=sH (mB d place a cn hd).2 (dU k a cn (b||!decide ((mB d place a cn hd).1=0))) (cB l c)):=by
 have hn2:=h.ok.n2;have hrd:=EQ h.ok hoff hp;have hw:=sX h k a cn place b l c [zS] (by rw [List.length_singleton];omega) (by omega);have hi1:=kI h place [zS] (by rw [List.length_singleton];omega);have hhd:=fun H=>M5 place a cn (by omega) ha hcn H;rw [mB];cases hd
 ·refine Bd func45 rfl ntmps45<|Sr<|Dd aR<|Zz<|Sr<|Dd aB<|Dd dY<|Dd (cI zZ)<|Dd (cW sR)<|Dd aB<|Dd (by exact aA rfl rfl rN rfl (hrd _ ⟨rfl,rfl,rfl,rfl,trivial⟩))<|Dd aB<|Dd eC<|Dd eC<|Dd aR<|Dd aR<|Zz<|Sr<|Dd (by exact aA rfl rfl vR rfl (vF _))<|Dd aR<|Zz<|Sq<|Sr<|Dd aB<|Zz ?_;refine Cn ?_ ?_<;>intro hc1
  ·cases hc1
  refine aF<|Sq<|Sr<|Dd aB<|Dd aB<|Dd se'<|Zz ?_;refine Cn ?_ ?_<;>intro hc2
  ·have he:cH d place=nB place a cn false:=aHn hc2;rw [aHq he];refine Sr<|Dd aR<|Zz<|aH ?_;refine bI (H':=(sH d (dU k a cn b) (cB l c))) (.inr rfl) rfl (aI rfl) (Fin.wk (by(simp;done)) (Hc (aM _ _ rfl rfl rfl)<|Hc (aG _ _)<|Hc (aD _ _ _)<|Hc (aP _ _)<|Hc (cF rfl rfl)<|Hc (aU _ _ _)<|trivial) ⟨rfl,rfl,rfl,rfl,rfl,rfl,trivial⟩) ?_;exact⟨rfl,by cases b<;>rfl⟩
  have he:¬ cH d place=nB place a cn false:=aHo hc2;rw [aHp he,aHp (fun h=>by cases h.2)];refine aF<|Sr<|Dd aB<|Dd aB<|Dd (by exact aA rfl rfl vR rfl (vF _))<|Dd (by exact bD [[.str zS]] rfl cD rfl rfl rfl rfl rfl (by simp))<|Dd (by exact aA rfl rfl vQ rfl (hw))<|Dd aR<|Zz<|Sq<|Sq ?_;refine cQ (t:=40) (n:=6) (X:=false) ?_ ?_
  ·all_goals refine Dd aB ?_
   all_goals refine Dd eP<|Dm ?_
   all_goals refine Sp 38 (fun h38=>?_) fun h38=>?_
   all_goals try contradiction
   all_goals first|refine Fo ?_|refine On aB ?_
   all_goals refine Dd cX<|Zz ?_
   all_goals(exact⟨⟨_,rfl,by rfl⟩,rfl,rfl,rfl⟩)
  refine Cn ?_ ?_<;>intro hc3
  ·cases hc3
  refine aF<|Sr<|Dd aB<|Dd aR<|Zz<|aH ?_;refine bI (H':=(sH (gY d place [zS]).2 (dU k a cn (b||!decide ((gY d place [zS]).1=0))) (cB l c))) (.inr rfl) rfl (aI rfl) (Fin.wk (by(simp;done)) (Hc (aM _ _ rfl rfl rfl)<|Hc (aG _ _)<|Hc (aD _ _ _)<|Hc (aP _ _)<|Hc (cF rfl rfl)<|Hc (aU _ _ _)<|trivial) ⟨rfl,rfl,rfl,rfl,rfl,rfl,trivial⟩) ?_;exact Qq
 refine Bd func45 rfl ntmps45<|Sr<|Dd aR<|Zz<|Sr<|Dd aB<|Dd dY<|Dd (cI zZ)<|Dd (cW sR)<|Dd aB<|Dd (by exact aA rfl rfl rN rfl (hrd _ ⟨rfl,rfl,rfl,rfl,trivial⟩))<|Dd aB<|Dd eC<|Dd eC<|Dd aR<|Dd aR<|Zz<|Sr<|Dd (by exact aA rfl rfl vR rfl (vF _))<|Dd aR<|Zz<|Sq<|Sr<|Dd aB<|Zz ?_;refine Cn ?_ ?_<;>intro hc1
 ·refine Rg<|Dd aB<|Dd aB<|Dd dY<|Dd (cI qX)<|Dd (ln' fD sizeOf70)<|Dd (by exact aA rfl rfl aC9 rfl (hhd _))<|Dd aR<|Zz<|Sq<|Sr<|Dd aB<|Dd aB<|Dd se'<|Zz ?_;refine Cn ?_ ?_<;>intro hc2
  ·have he:cH d place=nB place a cn true:=aHn hc2;rw [aHq he];refine Sr<|Dd aR<|Zz<|aH ?_;refine bI (H':=(sH d (dU k a cn b) (cB l c))) (.inr rfl) rfl (aI rfl) (Fin.wk (by(simp;done)) (Hc (aM _ _ rfl rfl rfl)<|Hc (aG _ _)<|Hc (aD _ _ _)<|Hc (aP _ _)<|Hc (cF rfl rfl)<|Hc (aU _ _ _)<|trivial) ⟨rfl,rfl,rfl,rfl,rfl,rfl,trivial⟩) ?_;exact⟨rfl,by cases b<;>rfl⟩
  have he:¬ cH d place=nB place a cn true:=aHo hc2;rw [aHp he];refine aF<|Sr<|Dd aB<|Dd aB<|Dd (by exact aA rfl rfl vR rfl (vF _))<|Dd (by exact bD [[.str zS]] rfl cD rfl rfl rfl rfl rfl (by simp))<|Dd (by exact aA rfl rfl vQ rfl (hw))<|Dd aR<|Zz<|Sq<|Sq ?_;refine cQ (t:=40) (n:=6) (X:=decide ((gY d place [zS]).1=0)) ?_ ?_
  ·all_goals refine Dd aB ?_
   all_goals refine Dd eP<|Dm ?_
   all_goals refine Sp 38 (fun h38=>?_) fun h38=>?_
   all_goals try contradiction
   all_goals first|refine Fo ?_|refine On aB ?_
   all_goals refine Dd cX<|Zz ?_
   all_goals(exact⟨⟨_,rfl,by(simp_all;done)⟩,rfl,rfl,rfl⟩)
  refine Cn ?_ ?_<;>intro hc3
  ·have hz:(gY d place [zS]).1=0:=aHn hc3;rw [aHq ⟨hz,rfl⟩];have hw2:=sX hi1 k a cn place b l c [hS place a cn] (by rw [List.length_singleton,List.length_singleton];omega) (by omega);have hbz:(b||!decide ((gY d place [zS]).1=0))=b:=by rw [hz];cases b<;>rfl
   rw [hbz];refine Rg<|Dd aB<|Dd aB<|Dd aB<|Dd (by exact bD [[.str (hS place a cn)]] rfl cD rfl rfl rfl rfl rfl (by simp))<|Dd (by exact aA rfl rfl vQ rfl (hw2))<|Dd aR<|Zz<|Sr<|Dd aB<|Dd aR<|Zz<|aH ?_;refine bI (H':=(sH (gY (gY d place [zS]).2 place [hS place a cn]).2 (dU k a cn (b||!decide ((gY (gY d place [zS]).2 place [hS place a cn]).1=0))) (cB l c))) (.inr rfl) rfl (aI rfl) (Fin.wk (by(simp;done)) (Hc (aM _ _ rfl rfl rfl)<|Hc (aG _ _)<|Hc (aD _ _ _)<|Hc (aP _ _)<|Hc (cF rfl rfl)<|Hc (aU _ _ _)<|trivial) ⟨rfl,rfl,rfl,rfl,rfl,rfl,trivial⟩) ?_;exact Qq
  have hz:¬ (gY d place [zS]).1=0:=aHo hc3;rw [aHp (fun h=>hz h.1)];refine aF<|Sr<|Dd aB<|Dd aR<|Zz<|aH ?_;refine bI (H':=(sH (gY d place [zS]).2 (dU k a cn (b||!decide ((gY d place [zS]).1=0))) (cB l c))) (.inr rfl) rfl (aI rfl) (Fin.wk (by(simp;done)) (Hc (aM _ _ rfl rfl rfl)<|Hc (aG _ _)<|Hc (aD _ _ _)<|Hc (aP _ _)<|Hc (cF rfl rfl)<|Hc (aU _ _ _)<|trivial) ⟨rfl,rfl,rfl,rfl,rfl,rfl,trivial⟩) ?_;exact Qq
 cases hc1
theorem LY {d d':DSt} {o o' m m':Ob} {id:Nat} (h:((sH d' o' m').get id).isSome=true):((sH d o m).get id).isSome=true:=by simp only [sH,aE.get] at h ⊢;cases e0:Nat.beq 1000 id<;>cases e1:Nat.beq 1001 id<;>cases e2:Nat.beq 1002 id<;>cases e3:Nat.beq 1003 id<;>cases e4:Nat.beq 1100 id<;>cases e5:Nat.beq 1101 id<;>simp [e0,e1,e2,e3,e4,e5] at h ⊢
theorem kQ {f:FuncId} {args:List AV} {d d':DSt} {k a n:Nat} {b:Bool} {l:List (ByteArray×ByteArray×Nat)} {c:Nat} {o' m':Ob} {r0:AV} (h:aK Tryz.prog f args (sH d (dU k a n b) (cB l c)) (fun r H'=>r=r0∧H'=sH d' o' m')) (H:aE) (hs:lZ H (sH d (dU k a n b) (cB l c))) (ha:∀ x∈args,Clo (sH d (dU k a n b) (cB l c)) x) :
  aK Tryz.prog f args H (fun r H'=>r=r0∧H'=sH d' o' m'++H):=h.frame hs.sub (tD _ _ _ _ _ _ _) ha (fun id hid=>.inl (LY hid))
def pV (d:DSt) (a cn:Nat):Int×DSt:=if(gY d 1 [hS 1 a cn]).1=0 then gY (gY d 1 [hS 1 a cn]).2 0 [hS 0 a cn] else gY d 1 [hS 1 a cn]
theorem aAH {d:DSt} {n m:Nat} (h:DInv d n m) (a cn:Nat) (hm:m+2≤1048576):DInv (pV d a cn).2 n (m+2):=by
 have h1:=kI h 1 [hS 1 a cn] (by rw [List.length_singleton];omega);have h2:=kI h1 0 [hS 0 a cn] (by rw [List.length_singleton,List.length_singleton];omega);rw [List.length_singleton] at h1 h2;rw [pV]
 split
 ·exact h2
 exact h1.mono (by omega)
def stD (a b c:DSt):Nat→DSt
 | 0=>a
 | 1=>b
 | _=>c
theorem aEp {d:DSt} {n m:Nat} (h:DInv d n m) (k a cn a2 cn2:Nat) (b:Bool) (l:List (ByteArray×ByteArray×Nat)) (c:Nat) (hm:m+2 < 1048576) (ha:a2 < 10) (hcn:cn2 < 1000000000000) :
  aK Tryz.prog 103 [.ref 1100 0 0 0,.agg [iv (a2:Int),iv (cn2:Int)]] (sH d (dU k a cn b) (cB l c)) (fun r H'=>r=iv (pV d a2 cn2).1∧H'=sH (pV d a2 cn2).2 (if(pV d a2 cn2).1=0 then dU k a2 cn2 b else dU k a cn true) (cB l c)):=by
 have hw:=sX h k a cn 1 b l c [hS 1 a2 cn2] (by rw [List.length_singleton];omega) (by omega);have h1:=kI h 1 [hS 1 a2 cn2] (by rw [List.length_singleton];omega);have hw2:=sX h1 k a cn 0 b l c [hS 0 a2 cn2] (by rw [List.length_singleton,List.length_singleton];omega) (by omega);have hh1:=fun H=>M5 1 a2 cn2 (by omega) ha hcn H;have hh0:=fun H=>M5 0 a2 cn2 (by omega) ha hcn H;rw [pV];obtain ⟨x,hx⟩:∃ x,x=gY d 1 [hS 1 a2 cn2]:=⟨_,rfl⟩;rw [← hx] at hw hw2 ⊢;obtain ⟨y,hy⟩:∃ y,y=gY x.2 0 [hS 0 a2 cn2]:=⟨_,rfl⟩;rw [← hy] at hw2 ⊢;clear hx hy h1;have hr0:([[PV.int .i64 1],[PV.int .i64 0]]:List (List PV))[0]?=some [PV.int .i64 1]:=rfl;have hr1:([[PV.int .i64 1],[PV.int .i64 0]]:List (List PV))[1]?=some [PV.int .i64 0]:=rfl;refine Bd func103 rfl ntmps103<|Sr<|Dd (by exact jQ (id:=3) rfl rfl rfl rfl rfl)<|Dd aR<|Zz<|Sq<|Sq ?_;refine iF.ent (E':=[(0,.ref 1100 0 0 0),(3,.ref 3 0 0 0)]) (H':=(3,bx 2 70 [iv (a2:Int),iv (cn2:Int)])::sH d (dU k a cn b) (cB l c)) (cC.wk (Ea<|Ea<|trivial) (Hb<|Hc (aM _ _ rfl rfl rfl)<|Hc (aG _ _)<|Hc (aD _ _ _)<|Hc (aP _ _)<|Hc (cF rfl rfl)<|Hc (aU _ _ _)<|trivial) ⟨rfl,rfl,rfl,rfl,rfl,rfl,trivial⟩) ?_;refine Rg<|Dd (by exact bD [[.int .i64 1],[.int .i64 0]] rfl WH rfl rfl rfl rfl rfl (by simp))<|Dd (jY Y3)<|Dd aB<|Zz<|aJ ?_;refine bG (σ:=Nat) (fun i=>([(0,.ref 1100 0 0 0),(3,.ref 3 0 0 0),(8,.pv (.sl [[.int .i64 1],[.int .i64 0]])),(9,iv 2),(10,iv (i:Int))],(3,bx 2 70 [iv (a2:Int),iv (cn2:Int)])::sH (stD d x.2 y.2 i) (dU k a cn b) (cB l c))) (fun i=>i≤2∧(0 < i→x.1=0)∧(1 < i→y.1=0)) (fun i=>2 - i) 0 ⟨by omega,fun h=>absurd h (Nat.lt_irrefl _),fun h=>absurd h (by omega)⟩ ?_ ?_
 ·exact(cC.wk (Ea<|Ea<|Eb<|Eb<|Eb<|trivial) (Hb<|Hc (aM _ _ rfl rfl rfl)<|Hc (aG _ _)<|Hc (aD _ _ _)<|Hc (aP _ _)<|Hc (cF rfl rfl)<|Hc (aU _ _ _)<|trivial) ⟨rfl,rfl,rfl,rfl,rfl,rfl,trivial⟩)
 rintro i ⟨hi,hx0,hy0⟩;have h3:i=0∨i=1∨i=2:=by omega
 rcases h3 with rfl|rfl|rfl
 ·refine Sr<|Dd cP<|Zz<|Sq ?_;refine Cn ?_ ?_<;>intro hc1
  ·refine aF<|Sq<|aJ<|Sr<|Dd (by exact aZ (m:=0) rfl WH rfl rfl (by decide) rfl rfl rfl)<|Dd (gW aL)<|Dd aR<|Zz<|Sr<|Dd aB<|Dd aB<|Dd aB<|Dd (ln' fD sizeOf70)<|Dd (by exact aA rfl rfl aC9 rfl (hh1 _))<|Dd (by exact bD [[.str (hS 1 a2 cn2)]] rfl cD rfl rfl rfl rfl rfl (by simp))<|Dd (by exact aA rfl rfl vQ rfl (kQ hw _ ⟨rfl,rfl,rfl,rfl,rfl,rfl,trivial⟩ (by simp;rfl)))<|Dd aR<|Zz<|Sr<|Dd aB<|Dd tM<|Zz ?_;refine Cn ?_ ?_<;>intro hc2
   ·have he:¬ x.1=0:=by have h:=hc2;simpa using h
    have hb:(b||!decide (x.1=0))=true:=by rw [decide_eq_false he];cases b<;>rfl
    rw [aHp he,aHp he,hb];refine Sr<|Dd aB<|Dd aR<|Zz<|aH ?_;refine bI (H':=(sH x.2 (dU k a cn true) (cB l c))) (.inr rfl) rfl (aI rfl) (Fin.wk (by(simp;done)) (Hc (aM _ _ rfl rfl rfl)<|Hc (aG _ _)<|Hc (aD _ _ _)<|Hc (aP _ _)<|Hc (cF rfl rfl)<|Hc (aU _ _ _)<|trivial) ⟨rfl,rfl,rfl,rfl,rfl,rfl,trivial⟩) ?_;exact Qq
   have he:x.1=0:=by have h:=hc2;simpa using h
   have hb:(b||!decide (x.1=0))=b:=by rw [he];cases b<;>rfl
   rw [hb];refine aF<|Rg<|Dd rL<|Dd aB<|Zz ?_;refine⟨1,⟨by omega,fun _=>he,fun h=>absurd h (by omega)⟩,by omega,?_⟩;exact(cC.wk (Ea<|Ea<|Eb<|Eb<|Eb<|trivial) (Hb<|Hc (aM _ _ rfl rfl rfl)<|Hc (aG _ _)<|Hc (aD _ _ _)<|Hc (aP _ _)<|Hc (cF rfl rfl)<|Hc (aU _ _ _)<|trivial) ⟨rfl,rfl,rfl,rfl,rfl,rfl,trivial⟩)
  cases hc1
 ·have he0:=hx0 (by omega);refine Sr<|Dd cP<|Zz<|Sq ?_;refine Cn ?_ ?_<;>intro hc3
  ·refine aF<|Sq<|aJ<|Sr<|Dd (by exact aZ (m:=1) rfl WH rfl rfl (by decide) rfl rfl rfl)<|Dd (gW aL)<|Dd aR<|Zz<|Sr<|Dd aB<|Dd aB<|Dd aB<|Dd (ln' fD sizeOf70)<|Dd (by exact aA rfl rfl aC9 rfl (hh0 _))<|Dd (by exact bD [[.str (hS 0 a2 cn2)]] rfl cD rfl rfl rfl rfl rfl (by simp))<|Dd (by exact aA rfl rfl vQ rfl (kQ hw2 _ ⟨rfl,rfl,rfl,rfl,rfl,rfl,trivial⟩ (by simp;rfl)))<|Dd aR<|Zz<|Sr<|Dd aB<|Dd tM<|Zz ?_;refine Cn ?_ ?_<;>intro hc4
   ·have he:¬ y.1=0:=by have h:=hc4;simpa using h
    have hb:(b||!decide (y.1=0))=true:=by rw [decide_eq_false he];cases b<;>rfl
    rw [aHq he0,aHp he,hb];refine Sr<|Dd aB<|Dd aR<|Zz<|aH ?_;refine bI (H':=(sH y.2 (dU k a cn true) (cB l c))) (.inr rfl) rfl (aI rfl) (Fin.wk (by(simp;done)) (Hc (aM _ _ rfl rfl rfl)<|Hc (aG _ _)<|Hc (aD _ _ _)<|Hc (aP _ _)<|Hc (cF rfl rfl)<|Hc (aU _ _ _)<|trivial) ⟨rfl,rfl,rfl,rfl,rfl,rfl,trivial⟩) ?_;exact Qq
   have he:y.1=0:=by have h:=hc4;simpa using h
   have hb:(b||!decide (y.1=0))=b:=by rw [he];cases b<;>rfl
   rw [hb];refine aF<|Rg<|Dd rL<|Dd aB<|Zz ?_;refine⟨2,⟨by omega,fun _=>he0,fun _=>he⟩,by omega,?_⟩;exact(cC.wk (Ea<|Ea<|Eb<|Eb<|Eb<|trivial) (Hb<|Hc (aM _ _ rfl rfl rfl)<|Hc (aG _ _)<|Hc (aD _ _ _)<|Hc (aP _ _)<|Hc (cF rfl rfl)<|Hc (aU _ _ _)<|trivial) ⟨rfl,rfl,rfl,rfl,rfl,rfl,trivial⟩)
  cases hc3
 have he0:=hx0 (by omega);have he1:=hy0 (by omega);refine Sr<|Dd cP<|Zz<|Sq ?_;refine Cn ?_ ?_<;>intro hc5
 ·cases hc5
 rw [aHq he0,aHq he1];refine aV<|Sr<|Dd aB<|Dd (ln' fD sizeOf70)<|Dd dY<|Dd (cI qX)<|Uu (by exact T0 rfl sizeOf70 rfl rfl rfl rfl rfl rfl rfl (by simp only [aHt,List.length_nil];omega) (by simp only [Zl,encStr];rfl) (by simp only [Zl,encStr];rfl))<|Zz<|Sr<|Dd aR<|Zz<|aH ?_;refine bI (H':=(sH y.2 (dU k a2 cn2 b) (cB l c))) (.inr rfl) rfl (aI rfl) (Fin.wk (by(simp;done)) (Hc (aM _ _ rfl rfl rfl)<|Hc (aG _ _)<|Hc (aD _ _ _)<|Hc (aP _ _)<|Hc (cF rfl rfl)<|Hc (aU _ _ _)<|trivial) ⟨rfl,rfl,rfl,rfl,rfl,rfl,trivial⟩) ?_;exact⟨by rw [he1],rfl⟩
def gH (t:List UInt8) (i:Nat):List UInt8:=(t.drop (46*i)).take 46
def dD (t:List UInt8):Nat:=(t.length+45) / 46
abbrev WA (t:List UInt8) (i:Nat):Ob:=bx 1 9 [sv (ofL (t.drop (46*i)))]
theorem qU (t:List UInt8) (i:Nat):(gH t i).length=min 46 (t.length - 46*i):=by rw [gH,aIF,aIG]
theorem W6 (t:List UInt8) (H:aE) (h:H.get 910=none):aK Tryz.prog 100 [sv (ofL t)] H (fun r H'=>r=.clo 129 [.ref 910 0 0 0]∧H'=(910,WA t 0)::H):=by refine Bd func100 rfl ntmps100<|Sr<|Dd (by exact jQ (id:=910) rfl rfl rfl rfl h)<|Dd aR<|Zz<|Sr<|Dd (by exact iQ rfl rfl)<|Dd aR<|Zz<|aH ?_;refine bI (H':=((910,WA t 0)::H)) (.inr rfl) rfl (aI rfl) Fin.refl ?_;exact Qq
theorem W7 (t:List UInt8) (fv:AV) (Hs Hr:Nat→aE) (hl:t.length < 1000000000) (h9:∀ i,(Hs i).get 910=some (WA t i)) (h8:∀ i,(Hr i).get 910=some (WA t i)) (hn:∀ i j,aE.get ((910,WA t (i+1))::Hr i) j=(Hs (i+1)).get j)
  (hy:∀ i,i < dD t→iL Tryz.prog fv [sv (ofL (gH t i))] (Hs i) (fun r H'=>r=bv true∧H'=Hr i)) :
  aK Tryz.prog 129 [fv,.ref 910 0 0 0] (Hs 0) (fun r H'=>r=.tup []∧H'=Hs (dD t)):=by
 refine Bd func129 rfl ntmps129<|aJ ?_;refine bG (σ:=Nat) (fun i=>([(0,fv),(1,.ref 910 0 0 0)],Hs i)) (fun i=>i≤dD t) (fun i=>dD t - i) 0 (aII _) ?_ ?_
 ·exact E0
 rintro i hi;have hsz:(ofL (t.drop (46*i))).size=t.length - 46*i:=by rw [bO,aIG]
 refine Sq<|Sr<|Dd (by exact bH rfl aQ rfl (h9 i) rfl rfl rfl)<|Dd (mD aC)<|Dd yP<|Zz ?_;refine Cn ?_ ?_<;>intro hc1
 ·have hlt:46*i < t.length:=by have:=aHn hc1;omega
  have hip:i < dD t:=by rw [dD];omega
  have hmin:min (46:Int) ((ofL (t.drop (46*i))).size:Int)=((gH t i).length:Int):=by rw [hsz,qU];omega
  have hple:(gH t i).length≤(ofL (t.drop (46*i))).size:=by rw [hsz,qU];omega
  have hx1:(ofL (t.drop (46*i))).extract 0 (gH t i).length=ofL (gH t i):=gE (by
   rw [dS,bB,bB,List.drop_zero,Nat.sub_zero,gH,aIF,List.take_eq_take_min];simp)
  have hx2:(ofL (t.drop (46*i))).extract (gH t i).length (ofL (t.drop (46*i))).size=ofL (t.drop (46*(i+1))):=gE (by
   rw [wU,bB,bB,List.drop_drop];rw [qU];by_cases hh:46≤t.length - 46*i
   ·rw [Nat.min_eq_left hh];congr 1
   rw [Nat.min_eq_right (by omega),List.drop_eq_nil_of_le (by omega),List.drop_eq_nil_of_le (by omega)])
  refine aF<|aJ<|Sr<|Dd (by exact bH rfl aQ rfl (h9 i) rfl rfl rfl)<|Dd (mD aC)<|Dd (by exact uN rfl rfl rfl hmin)<|Dd aR<|Zz<|Sq<|Sr<|Dd aB<|Dd (by exact bH rfl aQ rfl (h9 i) rfl rfl rfl)<|Dd aB<|Dd (by exact bQ (l:=0) (h:=(gH t i).length) rfl aC rfl rfl rfl (aII _) hple hx1)<|Dd (by exact kZ rfl rfl rfl (hy i hip))<|Dd pY<|Zz ?_;refine Cn ?_ ?_<;>intro hc2
  ·cases hc2
  refine aF<|Rg<|Dd (by exact bH rfl aQ rfl (h8 i) rfl rfl rfl)<|Dd aB<|Dd (by exact bQ (l:=(gH t i).length) (h:=(ofL (t.drop (46*i))).size) rfl aC rfl rfl rfl hple (aHx _) hx2)<|Uu (by exact mM rfl sizeOf9 rfl rfl rfl rfl (h8 i) rfl rfl rfl)<|Zz ?_;refine⟨i+1,by omega,by omega,?_⟩;exact cC.get' ⟨⟨_,rfl,rfl⟩,⟨_,rfl,rfl⟩,trivial⟩ (fun j=>(hn i j).symm)
 have hge:¬ 46*i < t.length:=by have:=aHo hc1;omega
 have hip:i=dD t:=by rw [dD] at hi ⊢;omega
 subst hip;refine aV ?_;exact eQ (H':=Hs (dD t)) (.inl rfl) rfl Fin.refl ⟨rfl,rfl⟩
def gG (fr:Nat) (t:List UInt8) (i:Nat):List ByteArray:=(List.range i).map fun j=>ofL (fE (fr+j) (gH t j))
theorem eB (fr:Nat) (t:List UInt8) (i:Nat):(gG fr t i).length=i:=by rw [gG,aHr,List.length_range]
theorem JP (fr:Nat) (t:List UInt8) (i:Nat):gG fr t (i+1)=gG fr t i++[ofL (fE (fr+i) (gH t i))]:=by rw [gG,List.range_succ,List.map_append];rfl
def fR (d:DSt) (k a cn:Nat) (t:List UInt8):Int×DSt :=if(gY d (2+a*k+cn) (gG (2+a*k+cn) t (dD t))).1=0 then pV (gY d (2+a*k+cn) (gG (2+a*k+cn) t (dD t))).2 a (cn+dD t)else gY d (2+a*k+cn) (gG (2+a*k+cn) t (dD t))
theorem Q2 {d:DSt} {n m:Nat} (h:DInv d n m) (k a cn:Nat) (t:List UInt8) (hm:m+dD t+2≤1048576):DInv (fR d k a cn t).2 n (m+dD t+2):=by
 have h1:=kI h (2+a*k+cn) (gG (2+a*k+cn) t (dD t)) (by rw [eB];omega);rw [eB] at h1;rw [fR]
 split
 ·exact aAH h1 _ _ (by omega)
 exact h1.mono (by omega)
theorem jL {f:FuncId} {args:List AV} {d:DSt} {k a n:Nat} {b:Bool} {l:List (ByteArray×ByteArray×Nat)} {c:Nat} {r0:AV} (h:aK Tryz.prog f args (sH d (dU k a n b) (cB l c)) (fun r H'=>r=r0∧H'=sH d (dU k a n b) (cB l c))) (H:aE) (hs:lZ H (sH d (dU k a n b) (cB l c))) (ha:∀ x∈args,Clo (sH d (dU k a n b) (cB l c)) x) :
  aK Tryz.prog f args H (fun r H'=>r=r0∧H'=H):=h.frameS hs.sub (tD _ _ _ _ _ _ _) ha
theorem gZ {α:Type} (f:α→List PV) (l:List α):((l.map f).take (0+l.length)).drop 0=l.map f:=by rw [aIJ,List.drop_zero];exact List.take_of_length_le (by rw [aHr];exact aHx _)
theorem aDA {H:aE} {p:Prop} [Decidable p] {k a n a' n':Nat} {b b':Bool} (h1:(H.get 1000).isSome=true) (h2:(H.get 1101).isSome=true):∀ r∈(if p then dU k a n b else dU k a' n' b').rows,∀ x∈r,Clo H x:=by
 split
 ·exact cF h1 h2
 exact cF h1 h2
abbrev adE:bZ:=[(0,.ref 1100 0 0 0),(4,.ref 4 0 0 0),(7,.ref 7 0 0 0),(8,.ref 8 0 0 0)]
def adK (S:List ByteArray) (K:aE):aE:=(905,⟨S.length,1,9,eA S⟩)::(8,bx 1 31 [.osl 905 S.length 0 S.length])::K
theorem aEQ (S:List ByteArray) (s:ByteArray) (K:aE):adK (S++[s]) K=(905,⟨S.length+1,1,9,eA (S++[s])⟩)::(8,bx 1 31 [.osl 905 (S.length+1) 0 (S.length+1)])::K:=by simp [adK]
theorem aCP {d:DSt} {n m:Nat} (h:DInv d n m) (k a cn a2 cn2:Nat) (b:Bool) (l:List (ByteArray×ByteArray×Nat)) (c:Nat) (t:List UInt8) (ht:t.length < 100000000) (hm:m+dD t+2 < 1048576) (ha:a2 < 2) (hk:k < 4000) (hcn:cn2≤4000) :
  aK Tryz.prog 52 [.ref 1100 0 0 0,.agg [iv (a2:Int),iv (cn2:Int)],sv (ofL t)] (sH d (dU k a cn b) (cB l c)) (fun r H'=>r=iv (fR d k a2 cn2 t).1∧H'=sH (fR d k a2 cn2 t).2 (if(fR d k a2 cn2 t).1=0 then dU k a2 (cn2+dD t) b else dU k a cn true) (cB l c)):=by
 have hmk:a2*k≤2*4000:=Nat.mul_le_mul (by omega) (by omega);have hpl:=GD d k a cn a2 cn2 b l c (by omega) (by omega) (by omega);obtain ⟨fr,hfr⟩:∃ fr,fr=2+a2*k+cn2:=⟨_,rfl⟩;have hpn:dD t≤10000000:=by rw [dD];omega
 have hw:=sX h k a cn fr b l c (gG fr t (dD t)) (by rw [eB];omega) (by omega);have h1:=kI h fr (gG fr t (dD t)) (by rw [eB];omega);rw [eB] at h1;rw [fR,← hfr];rw [← hfr] at hpl;obtain ⟨x0,hx0⟩:∃ x,x=gY d fr (gG fr t (dD t)):=⟨_,rfl⟩;rw [← hx0] at hw h1 ⊢;clear hx0;have hset:=aEp h1 k a cn a2 (cn2+dD t) b l c (by omega) (by omega) (by omega);refine Bd func52 rfl ntmps52<|Sr<|Dd (by exact jQ (id:=4) rfl rfl rfl rfl rfl)<|Dd aR<|Zz<|Sr<|Dd aB<|Dd (cI AA)<|Dd (cW aL)<|Dd (cI sJ)<|Dd (cW aL)<|Dd (by exact aA rfl rfl aH2 rfl (jL hpl _ ⟨rfl,rfl,rfl,rfl,rfl,rfl,trivial⟩ (by simp;rfl)))<|Dd (by exact dW (id:=7) rfl zo3 rfl rfl)<|Uu (vJ sizeOf3)<|Zz<|Sr<|Dd (by exact dW (id:=8) rfl aFl rfl rfl)<|Zz<|Sq<|Sr<|Dd aB<|Dd (by exact aA rfl rfl call100 rfl (W6 t _ rfl))<|Zz<|aJ ?_;refine iF.ent (E':=[(0,.ref 1100 0 0 0),(4,.ref 4 0 0 0),(7,.ref 7 0 0 0),(8,.ref 8 0 0 0),(18,.clo 129 [.ref 910 0 0 0])]) (H':=(905,⟨0,1,9,[]⟩)::(910,WA t 0)::(8,bx 1 31 [.osl 905 0 0 0])::(7,bx 1 3 [iv (fr:Int)])::(4,bx 2 70 [iv (a2:Int),iv (cn2:Int)])::sH d (dU k a cn b) (cB l c)) (cC.nz 905 1 9 rfl rfl ⟨⟨_,rfl,(by exact Nz.same (by(simp;rfl)))⟩,⟨_,rfl,(by exact Nz.same (by(simp;rfl)))⟩,⟨_,rfl,(by exact Nz.same (by(simp;rfl)))⟩,⟨_,rfl,(by exact Nz.same (by(simp;rfl)))⟩,⟨_,rfl,(by exact Nz.same (by(simp;rfl)))⟩,trivial⟩ ⟨⟨_,rfl,rfl,rfl,rfl,(by exact .inl ⟨rfl,(by(simp;done))⟩)⟩,⟨_,rfl,rfl,rfl,rfl,(by exact .inr ⟨_,_,rfl,rfl,(by repeat(first|exact trivial|refine⟨(by exact Nz.own),?_⟩))⟩)⟩,⟨_,rfl,rfl,rfl,rfl,(by exact .inl ⟨rfl,(by(simp;done))⟩)⟩,⟨_,rfl,rfl,rfl,rfl,(by exact .inl ⟨rfl,(by(simp;done))⟩)⟩,⟨_,rfl,rfl,rfl,rfl,(by exact .inl ⟨rfl,(by exact aM _ _ rfl rfl rfl)⟩)⟩,⟨_,rfl,rfl,rfl,rfl,(by exact .inl ⟨rfl,(by exact aG _ _)⟩)⟩,⟨_,rfl,rfl,rfl,rfl,(by exact .inl ⟨rfl,(by exact aD _ _ _)⟩)⟩,⟨_,rfl,rfl,rfl,rfl,(by exact .inl ⟨rfl,(by exact aP _ _)⟩)⟩,⟨_,rfl,rfl,rfl,rfl,(by exact .inl ⟨rfl,(by exact cF rfl rfl)⟩)⟩,⟨_,rfl,rfl,rfl,rfl,(by exact .inl ⟨rfl,(by exact aU _ _ _)⟩)⟩,trivial⟩ ⟨rfl,rfl,rfl,rfl,rfl,rfl,trivial⟩) ?_;obtain ⟨K,hK⟩:∃ K:aE,K=(7,bx 1 3 [iv (fr:Int)])::(4,bx 2 70 [iv (a2:Int),iv (cn2:Int)])::sH d (dU k a cn b) (cB l c):=⟨_,rfl⟩;have k7:K.get 7=some (bx 1 3 [iv (fr:Int)]):=by rw [hK];rfl
 have k4:K.get 944=none:=by rw [hK];rfl
 rw [← hK];refine DN (id:=944) (p:=19) adE rfl call129 rfl k4 (by simp [adE];exact⟨rfl,rfl,rfl,rfl⟩) ?_;intro x hx1 hx2 hx3 hx4 hx5 hx6;refine((W7 t (.yld 944 0) (fun i=>(944,LR x adE)::(910,WA t i)::adK (gG fr t i) K) (fun i=>(944,LR x adE)::(910,WA t i)::adK (gG fr t (i+1)) K) (by omega) (fun i=>rfl) (fun i=>rfl) (fun i j=>?_) ?_).congrG (fun j=>?_) (fun j=>rfl)).mono ?_
 ·exact tS [(910,WA t (i+1)),(944,LR x adE),(910,WA t i)] [(944,LR x adE),(910,WA t (i+1))] (by repeat(first|exact trivial|refine⟨rfl,?_⟩)) j
 ·intro i hi;have hsl:(gG fr t i).length=i:=eB fr t i;have hpal:(gH t i).length≤46:=by rw [qU];omega
  have hpos:(ofL (gH t i)).size=(gH t i).length:=bO _;have hdg:=fun H=>tT (gH t i).length 2 (by omega) (by omega) H;have e29:ofL (dg (gH t i).length 2)++ofL (gH t i)=ofL (dg (gH t i).length 2++gH t i):=BH _ _;have s29:(ofL (dg (gH t i).length 2)).size≤23:=by rw [bO];exact wW _ 2 (by omega)
  have l29:(dg (gH t i).length 2++gH t i).length≤48:=by rw [aHs,jT (nN _ (by omega) (by omega))];omega
  have hse:=fun H=>FT (fr+i) (dg (gH t i).length 2++gH t i) (by omega) l29 H;have hpe:ofL (pR (fr+i) (dg (gH t i).length 2++gH t i))=ofL (fE (fr+i) (gH t i)):=rfl;rw [hpe] at hse;rw [JP,aEQ];obtain ⟨S,hS⟩:∃ S,S=gG fr t i:=⟨_,rfl⟩;rw [← hS] at hsl ⊢;obtain ⟨u,hu⟩:∃ u,u=gH t i:=⟨_,rfl⟩;rw [← hu] at hpal hpos hdg e29 s29 l29 hse ⊢;refine .inl ⟨944,0,rfl,?_⟩;refine LH [(0,.ref 1100 0 0 0),(4,.ref 4 0 0 0),(7,.ref 7 0 0 0),(8,.ref 8 0 0 0),(9,sv (ofL u))] ((910,WA t i)::adK S K) hx1 hx2 hx3 hx4 hx5 hx6 rfl rfl rfl ?_ ?_
  ·refine Rg<|Da ?_;exact E0
  refine aJ<|bF follows<|Cs (fun _ h=>lh bJ h)<|Cs (fun H1 hH=>by exact bH rfl aL rfl ((hH _ rfl).trans k7) rfl rfl rfl)<|Cs (fun _ h=>lh bJ h)<|Cs (fun H1 hH=>by exact cM rfl aO rfl ((hH _ rfl).trans rfl) rfl)<|Cs (fun H1 hH=>by exact bA rfl rfl rfl (show IntKind.i64.wrap ((fr:Int)+(S.length:Int))=((fr+i:Nat):Int)by rw [hsl,eS (by omega) (by omega)];omega))<|Cs (fun _ _=>aB)<|Cs (fun _ _=>(mD aC))<|Cs (fun H1 hH=>by exact aA rfl rfl H5 rfl (hdg _))<|Cs (fun _ _=>aB)<|Cs (fun H1 hH=>by exact fA rfl rfl rfl (by omega) e29)<|Cs (fun H1 hH=>by exact aA rfl rfl aHN rfl (hse _))<|Cs (fun H1 hH=>by exact bD [[.str (ofL (fE (fr+i) u))]] rfl cD rfl rfl rfl rfl rfl (by intro r hr;rw [aHu] at hr;subst hr;rfl)) ?_;refine dI (r:=⟨_,none,[_]⟩) (DStep.plain rfl (fun H1 hH=>by exact dV (ps:=[[.str (ofL (fE (fr+i) u))]]) rfl cD IB rfl ((hH _ rfl).trans rfl) rfl rfl rfl (eX _) rfl (by intro r hr;rw [aHu] at hr;subst hr;rfl) (m:=1) rfl (by omega) rfl (oA _ (ofL (fE (fr+i) u))))) rfl ?_;refine dI (r:=⟨_,none,[_]⟩) (DStep.plain rfl (fun H1 hH=>by exact(by exact mM rfl sizeOf31 rfl rfl rfl rfl ((hH _ rfl).trans rfl) rfl rfl rfl))) rfl ?_;refine cA<|Kr ?_;exact⟨(910,WA t i)::(905,⟨S.length+1,1,9,eA (S++[ofL (fE (fr+i) u)])⟩)::(8,bx 1 31 [.osl 905 (S.length+1) 0 (S.length+1)])::K,cC.get' trivial (fun j=>tS [_,_,_,_] [_,_,_,_,_,_] (by repeat(first|exact trivial|refine⟨rfl,?_⟩)) j),rfl,rfl⟩
 ·exact tS [_,_,_,_] [_,_,_,_] (by repeat(first|exact trivial|refine⟨rfl,?_⟩)) j
 rintro r H' ⟨rfl,rfl⟩;refine⟨x,_,rfl,by rw [hx1];decide,rfl,fun z=>?_⟩;rw [hx2];have hSl:(gG fr t (dD t)).length=dD t:=eB _ _ _;obtain ⟨S,hS⟩:∃ S,S=gG fr t (dD t):=⟨_,rfl⟩;rw [← hS] at hSl hw;rw [← hS];have hSm:((S.map encStr).length:Int)=(dD t:Int):=by rw [aHr,hSl]
 subst hK;refine Sq<|Sq ?_;refine iF.ent (cC.fzG (id:=905) (E':=adE) (H':=(8,bx 1 31 [.pv (aX S)])::(7,bx 1 3 [iv (fr:Int)])::(4,bx 2 70 [iv (a2:Int),iv (cn2:Int)])::sH d (dU k a cn b) (cB l c)) (S.map encStr) rfl (kV _) ?_ rfl ?_ ?_) ?_
 ·intro p hp;simp only [aID,aIH,or_false] at hp;rcases hp with rfl|rfl|rfl|rfl<;>exact⟨_,rfl,.same (by simp;rfl)⟩
 ·exact⟨⟨_,rfl,rfl,rfl,rfl,aDo rfl (E6 (.osl (gZ encStr _)) S6)⟩,⟨_,rfl,rfl,rfl,rfl,dM (by simp)⟩,⟨_,rfl,rfl,rfl,rfl,dM (by simp)⟩,⟨_,rfl,rfl,rfl,rfl,dM (aM _ _ rfl rfl rfl)⟩,⟨_,rfl,rfl,rfl,rfl,dM (aG _ _)⟩,⟨_,rfl,rfl,rfl,rfl,dM (aD _ _ _)⟩,⟨_,rfl,rfl,rfl,rfl,dM (aP _ _)⟩,⟨_,rfl,rfl,rfl,rfl,dM (cF rfl rfl)⟩,⟨_,rfl,rfl,rfl,rfl,dM (aU _ _ _)⟩,trivial⟩
 ·exact⟨rfl,rfl,rfl,rfl,rfl,rfl,trivial⟩
 refine Rg<|Dd aB<|Dd (cW aL)<|Dd (cW bJ)<|Dd (by exact aA rfl rfl vQ rfl (kQ hw _ ⟨rfl,rfl,rfl,rfl,rfl,rfl,trivial⟩ (by simp;rfl)))<|Dd aR<|Zz<|Sr<|Dd aB<|Dd tM<|Zz ?_;refine Cn ?_ ?_<;>intro hc1
 ·have he:¬ x0.1=0:=by have h:=hc1;simpa using h
  have hb:(b||!decide (x0.1=0))=true:=by rw [decide_eq_false he];cases b<;>rfl
  rw [aHp he,aHp he,hb];refine Sr<|Dd aB<|Dd aR<|Zz<|aH ?_;refine bI (H':=(sH x0.2 (dU k a cn true) (cB l c))) (.inr rfl) rfl (aI rfl) (Fin.wk (by(simp;done)) (Hc (aM _ _ rfl rfl rfl)<|Hc (aG _ _)<|Hc (aD _ _ _)<|Hc (aP _ _)<|Hc (cF rfl rfl)<|Hc (aU _ _ _)<|trivial) ⟨rfl,rfl,rfl,rfl,rfl,rfl,trivial⟩) ?_;exact Qq
 have he:x0.1=0:=by have h:=hc1;simpa using h
 have hb:(b||!decide (x0.1=0))=b:=by rw [he];cases b<;>rfl
 rw [aHq he,hb];obtain ⟨y,hy⟩:∃ y,y=pV x0.2 a2 (cn2+dD t):=⟨_,rfl⟩;rw [← hy] at hset ⊢;refine aF<|Sr<|Dd (cI sJ)<|Dd (cW aL)<|Dd (cW bJ)<|Dd (jY aO)<|Dd (by exact bA rfl rfl rfl (show IntKind.i64.wrap ((cn2:Int)+((S.map encStr).length:Int))=((cn2+dD t:Nat):Int)by rw [hSm,eS (by omega) (by omega)];omega))<|Dd (cI sJ)<|Uu (by exact bU rfl sizeOf3 rfl rfl rfl rfl rfl rfl (by simp only [aHt,List.length_nil];omega) (by simp only [Zl,encStr];rfl) (by simp only [Zl,encStr];rfl))<|Zz<|Sr<|Dd aB<|Dd (ln' fD sizeOf70)<|Dd (by exact aA rfl rfl call103 rfl (kQ hset _ ⟨rfl,rfl,rfl,rfl,rfl,rfl,trivial⟩ (by simp;rfl)))<|Dd aR<|Zz<|aH ?_;refine bI (H':=(sH y.2 (if y.1=0 then dU k a2 (cn2+dD t) b else dU k a cn true) (cB l c))) (.inr rfl) rfl (aI rfl) (Fin.wk (by(simp;done)) (Hc (aM _ _ rfl rfl rfl)<|Hc (aG _ _)<|Hc (aD _ _ _)<|Hc (aP _ _)<|Hc (aDA rfl rfl)<|Hc (aU _ _ _)<|trivial) ⟨rfl,rfl,rfl,rfl,rfl,rfl,trivial⟩) ?_;exact Qq
end Go.Proofs.YtmkgeogoojcciaaGreatDoor
namespace Go.Proofs.YtmkgeogoojcciaaGreatDoor
open Go.Proofs.Tryz
open Go.Abs
abbrev sCo:ByteArray:=⟨#[58]⟩
theorem RP (s:ByteArray) (H:aE):aK Tryz.prog 171 [sv s,sv sCo] H (fun r H'=>r=iv (Lib.indexByte s.data.toList 58)∧H'=H):=by
 refine Pu ?_;refine Bd func171 rfl ntmps171<|Sr<|Dd aR<|Zz<|Sr<|Dd aB<|Dd (mD aC)<|Dd aR<|Zz<|Sq<|aJ<|Sq ?_;refine cQ (t:=16) (n:=9) (X:=decide (sCo=s)) ?_ ?_
 ·all_goals refine Dd aB ?_
  all_goals refine Dd eP<|Dm ?_
  all_goals refine Sp 19 (fun h19=>?_) fun h19=>?_
  all_goals try contradiction
  all_goals refine On aB<|On aB<|On se'<|Dd cX<|Da ?_
  all_goals(exact⟨⟨_,rfl,by rfl⟩,rfl,rfl,rfl⟩)
 refine Cn ?_ ?_<;>intro hc1
 ·have hs:=aHn hc1;subst hs;exact Sr<|Dd aR<|Zz<|aH<|Rt<|Qq
 refine Sr<|Dd aB<|Dd eP<|Da ?_;refine Cn ?_ ?_<;>intro hc2
 ·exact Sr<|Dd aB<|Dd aB<|Dd (by exact dC rfl aC rfl rfl (by omega) (by exact aIC _) (show 0 < (⟨#[58]⟩:ByteArray).size from Nat.zero_lt_one) rfl)<|Dd (by exact aA rfl rfl call186 rfl (IH s 58 _))<|Dd aR<|Zz<|aH<|Rt<|Qq
 cases hc2
def QH (s:ByteArray):AV:=if Lib.indexByte s.data.toList 58 = -1 then .tup [sv s,sv ⟨#[]⟩,bv false] else .tup [sv (s.extract 0 (Lib.indexByte s.data.toList 58).toNat),sv (s.extract ((Lib.indexByte s.data.toList 58).toNat+1) s.size),bv true]
theorem aAB (s:ByteArray) (H:aE) (hs:s.size < 1099511627776):aK Tryz.prog 144 [sv s,sv sCo] H (fun r H'=>r=QH s∧H'=H):=by
 refine Pu ?_;have hI:=fun H=>RP s H;rw [QH];rcases Classical.em (Lib.indexByte s.data.toList 58 = -1)with h1|h1
 ·rw [aHq h1];simp only [h1] at hI;refine Bd func144 rfl ntmps144<|Sr<|Dd aR<|Dd aR<|Dd aR<|Zz<|Sq<|Sr<|Dd aB<|Dd aB<|Dd (by exact aA rfl rfl call171 rfl (hI _))<|Dd aR<|Zz<|Sr<|Dd aB<|Dd CD<|Zz ?_;refine Cn ?_ ?_<;>intro hc1
  ·cases hc1
  refine aF<|Sr<|Dd aB<|Dd aR<|Dd aR<|Dd aR<|Zz<|aH ?_;refine zD (H':=[]) (.inr rfl) rfl (aI rfl) (aI rfl) (aI rfl) (Fin.wk (by simp) trivial trivial) ?_;exact Qq
 rw [aHp h1];obtain ⟨w,r,e1,e2,e3⟩:=G3 h1;simp only [e3] at hI;rw [e3,aIC];have hl:w.length+1+r.length=s.size:=by rw [← show s.data.toList.length=s.size by simp,e1,aHs,aHt];omega
 refine Bd func144 rfl ntmps144<|Sr<|Dd aR<|Dd aR<|Dd aR<|Zz<|Sq<|Sr<|Dd aB<|Dd aB<|Dd (by exact aA rfl rfl call171 rfl (hI _))<|Dd aR<|Zz<|Sr<|Dd aB<|Dd CD<|Zz ?_;refine Cn ?_ ?_<;>intro hc1
 ·refine Sq<|bF follows<|Cq aB<|Cq aB<|Cq (by exact bQ (l:=0) (h:=(w.length)) rfl aC rfl rfl rfl (by omega) (by omega) rfl)<|Cq aB<|Cq aB<|Cq aB<|Cq (mD aC)<|Cq (by exact bA rfl rfl rfl (show IntKind.i64.wrap ((w.length:Int)+1)=((w.length+1:Nat):Int)by rw [IntKind.wrap_i64];omega))<|Cq (by exact bQ (l:=(w.length+1)) (h:=s.size) rfl aC rfl rfl rfl (by omega) (by omega) rfl)<|Cq aR<|Cq aR<|Cq aR<|cA<|Kr<|aH ?_;refine zD (H':=[]) (.inr rfl) rfl (aI rfl) (aI rfl) (aI rfl) (Fin.wk (by simp) trivial trivial) ?_;exact Qq
 have hx:=aHo hc1;omega
theorem aFV (s:ByteArray) (H:aE) (hs:s.size < 1099511627776):aK Tryz.prog 117 [sv s,sv sCo] H (fun r H'=>r=QH s∧H'=H):=by
 refine Pu ?_;have hC:=fun H=>aAB s H hs;rw [QH] at *;rcases Classical.em (Lib.indexByte s.data.toList 58 = -1)with h1|h1
 ·simp only [QH,aHq h1] at hC ⊢;refine Bd func117 rfl ntmps117<|Sr<|Dd aR<|Dd aR<|Dd aR<|Zz<|Sr<|Dd aB<|Dd aB<|Dd (by exact aA rfl rfl call144 rfl (hC _))<|Dd eC<|Dd eC<|Dd eC<|Dd aR<|Dd aR<|Dd aR<|Zz<|aH ?_;refine zD (H':=[]) (.inr rfl) rfl (aI rfl) (aI rfl) (aI rfl) (Fin.wk (by simp) trivial trivial) ?_;exact Qq
 simp only [QH,aHp h1] at hC ⊢;refine Bd func117 rfl ntmps117<|Sr<|Dd aR<|Dd aR<|Dd aR<|Zz<|Sr<|Dd aB<|Dd aB<|Dd (by exact aA rfl rfl call144 rfl (hC _))<|Dd eC<|Dd eC<|Dd eC<|Dd aR<|Dd aR<|Dd aR<|Zz<|aH ?_;refine zD (H':=[]) (.inr rfl) rfl (aI rfl) (aI rfl) (aI rfl) (Fin.wk (by simp) trivial trivial) ?_;exact Qq
theorem qJ (l:List ByteArray) (H:aE) (hl:(aT l).length < 35184372088832):aK Tryz.prog 99 [.pv (aX l)] H (fun r H'=>r=sv (ofL (aT l))∧H'=H):=by
 refine Pu ?_;have hml:(l.map encStr).length=l.length:=aHr _;have hll:=wQ l;refine Bd func99 rfl ntmps99<|Sr<|Dd aR<|Zz<|Sr<|Dd (by exact dW (id:=2001) rfl ZI rfl rfl)<|Zz<|Sq<|Sq ?_;refine iF.ent (E':=[(0,.pv (aX l)),(3,.ref 2001 0 0 0)]) (H':=RB 0 [] false) (cC.bld0 ⟨⟨_,rfl,.same (by simp)⟩,⟨_,rfl,.same (by simp;rfl)⟩,trivial⟩) ?_;refine Rg<|Dd aB<|Dd (jY aO)<|Dd aB<|Zz<|aJ ?_;refine yM (fun(k g:Nat) (u:Bool)=>([(3,.ref 2001 0 0 0),(6,.pv (aX l)),(7,iv ((l.map encStr).length:Int)),(8,iv (k:Int))],RB g (aT (l.take k)) u)) (fun k g u=>k≤l.length) (fun k g u=>l.length - k) 0 0 false (aII _) ?_ ?_
 ·exact(cC.wk (Ea<|Eb<|Eb<|Eb<|trivial) (Hc (tV rfl rfl)<|Hc (yK _ _)<|trivial) trivial)
 intro k g u hk;have hle:=GY l k;refine Sr<|Dd cP<|Zz<|Sq ?_;refine Cn ?_ ?_<;>intro hc1
 ·have hlt:k < l.length:=by have:=aHn hc1;omega
  obtain ⟨s,hs⟩:=aY hlt;have hi:=cV (f:=encStr) hs;have hle2:=GY l (k+1);rw [bW hs,BO,aHs,wA,rU] at hle2;have hsz:s.size < 35184372088832:=by omega
  refine aF<|Sq<|aJ<|Sr<|Dd (sU cD)<|Dd (gW aQ)<|Dd aR<|Zz<|Rg<|Dd aB<|Dd (mD aC)<|Dd (by exact aA rfl rfl vP rfl (uX (s.size:Int) (by omega) (by omega) _))<|Dd (by exact fA rfl rfl rfl (by have:(⟨#[58]⟩:ByteArray).size=1:=rfl;omega) rfl)<|Dd aB<|Dd (by exact fA rfl rfl rfl (by rw [ByteArray.size_append];have:(⟨#[58]⟩:ByteArray).size=1:=rfl;omega) rfl)<|Dd (by exact aA rfl rfl call86 rfl (yT g (aT (l.take k)) u (uM s) (by rw [rU];omega)))<|Zz<|Rg<|Dd rL<|Dd aB<|Zz ?_;refine⟨k+1,g+1,true,by omega,by omega,?_⟩;rw [bW hs,BO];exact(cC.wk (Ea<|Eb<|Eb<|Eb<|trivial) (Hc (tV rfl rfl)<|Hc (yK _ _)<|trivial) trivial)
 have hge:k=l.length:=by have:=aHo hc1;omega
 subst hge;rw [List.take_length];exact aV<|Sr<|Dd (by exact aA rfl rfl call88 rfl (aEU g (aT l) u (by omega)))<|Dd aR<|Zz<|aH<|Rt<|Qq
def yH (l:List UInt8):List UInt8:=l.takeWhile fun b=>!decide (b=58)
def tW (l:List UInt8):List UInt8:=(l.dropWhile fun b=>!decide (b=58)).drop 1
def nY (l:List UInt8):Bool:=(((!decide ((58:UInt8)∈l)||lG (ofL (yH l)))||decide (fH (ofL (yH l)) < 0))||decide (((tW l).length:Int) < fH (ofL (yH l))))||!decide (fL (fH (ofL (yH l)))=ofL (yH l))
def Q9 (l:List UInt8):Nat:=(fH (ofL (yH l))).toNat
def iJ:Nat→List UInt8→List ByteArray→List ByteArray×Bool
 | 0,l,acc=>(acc,true)
 | n+1,l,acc=>if l=[] then(acc,true)else if nY l then([],false)else iJ n ((tW l).drop (Q9 l)) (acc++[ofL ((tW l).take (Q9 l))])
def cS (l:List UInt8):List ByteArray×Bool:=iJ l.length l []
theorem HP {l:List UInt8} (h:l≠[]):(tW l).length < l.length:=by rw [tW,aIG];have:=(List.dropWhile_sublist (l:=l) fun b=>!decide (b=58)).length_le;have:=List.length_pos_iff.2 h;omega
theorem FJ:∀ (n m:Nat) (l:List UInt8) (acc:List ByteArray),l.length≤n→l.length≤m→iJ n l acc=iJ m l acc
 | 0,m,l,acc,h,_=>by
  rw [List.length_eq_zero_iff.1 (Nat.le_zero.1 h)];cases m<;>rfl
 | n+1,0,l,acc,_,h=>by
  rw [List.length_eq_zero_iff.1 (Nat.le_zero.1 h)];rfl
 | n+1,m+1,l,acc,hn,hm=>by
  rw [iJ,iJ];by_cases h0:l=[]
  ·rw [aHq h0,aHq h0]
  rw [aHp h0,aHp h0];have hlt:=HP h0;by_cases hb:nY l=true
  ·rw [aHq hb,aHq hb]
  rw [aHp hb,aHp hb];exact FJ n m _ _ (by rw [aIG];omega) (by rw [aIG];omega)
theorem vY {l:List UInt8} {acc:List ByteArray} (h0:l≠[]) (hb:nY l=false):iJ l.length l acc=iJ ((tW l).drop (Q9 l)).length ((tW l).drop (Q9 l)) (acc++[ofL ((tW l).take (Q9 l))]):=by have hlt:=HP h0;obtain ⟨k,hk⟩:∃ k,l.length=k+1:=⟨l.length - 1,by omega⟩;rw [hk,iJ,aHp h0,aHp (by rw [hb];decide)];exact FJ _ _ _ _ (by rw [aIG];omega) (aHx _)
theorem FI {l:List UInt8} {acc:List ByteArray} (h0:l≠[]) (hb:nY l=true):iJ l.length l acc=([],false):=by have hlt:=HP h0;obtain ⟨k,hk⟩:∃ k,l.length=k+1:=⟨l.length - 1,by omega⟩;rw [hk,iJ,aHp h0,aHq hb]
theorem QN {w r:List UInt8} (h:(58:UInt8)∉w):yH (w++58::r)=w∧tW (w++58::r)=r:=by
 induction w with
 | nil=>exact⟨rfl,rfl⟩
 | cons b w ih =>
  have hb:b≠58:=fun e=>h (by rw [e];exact List.mem_cons_self);obtain ⟨h1,h2⟩:=ih (fun e=>h (List.mem_cons_of_mem _ e));rw [yH] at h1 ⊢;rw [tW] at h2 ⊢;rw [List.cons_append,List.takeWhile_cons,List.dropWhile_cons,aHq (by simp [hb]),aHq (by simp [hb]),h1];exact⟨rfl,h2⟩
theorem aBd:∀ {l:List UInt8},(58:UInt8)∉l→yH l=l∧tW l=[]
 | [],_=>⟨rfl,rfl⟩
 | b::l,h=>by
  have hb:b≠58:=fun e=>h (by rw [e];exact List.mem_cons_self);obtain ⟨h1,h2⟩:=aBd (l:=l) (fun e=>h (List.mem_cons_of_mem _ e));rw [yH] at h1 ⊢;rw [tW] at h2 ⊢;rw [List.takeWhile_cons,List.dropWhile_cons,aHq (by simp [hb]),aHq (by simp [hb]),h1];exact⟨rfl,h2⟩
theorem aDw (l:List UInt8):QH (ofL l)=.tup [sv (ofL (yH l)),sv (ofL (tW l)),bv (decide ((58:UInt8)∈l))]:=by
 rw [QH,bB];by_cases h:Lib.indexByte l 58 = -1
 ·rw [aHq h];have hm:=GZ.1 h;rw [(aBd hm).1,(aBd hm).2,decide_eq_false hm];rfl
 rw [aHp h];obtain ⟨w,r,e1,e2,e3⟩:=G3 h;rw [e3,aIC];subst e1;rw [(QN e2).1,(QN e2).2,decide_eq_true (by simp)];have x1:(ofL (w++58::r)).extract 0 w.length=ofL w:=gE (by rw [dS,bB,bB,List.drop_zero,Nat.sub_zero,List.take_left]);have x2:(ofL (w++58::r)).extract (w.length+1) (ofL (w++58::r)).size=ofL r:=gE (by
  rw [wU,bB,bB,← List.drop_drop,List.drop_left];rfl)
 rw [x1,x2]
theorem YY (s:ByteArray) : -9223372036854775808≤fH s∧fH s≤9223372036854775807:=by
 rw [fH,xB];cases e:Lib.atoiAll s.data.toList with
 | ok v=>exact Lib.atoiAll_bounds e
 | range =>
  show _≤Lib.atoiSat _∧Lib.atoiSat _≤_;rw [Lib.atoiSat]
  split
  ·exact⟨by decide,by decide⟩
  exact⟨by decide,by decide⟩
 | _ =>
  show (-9223372036854775808:Int)≤0∧(0:Int)≤9223372036854775807;exact⟨by decide,by decide⟩
theorem Fin.st2 {H1:aE} {id g n:Nat} {ob:Ob} (l:List ByteArray) (v:AV) (hH:H1.get id=some ob) (hg:ob.g=g) (hps:ob.rows=eA l) (hn:n=l.length) (hv:Clo [] v) :
  Fin [] H1 (.tup [.osl id g 0 n,v]) [] (.tup [.pv (aX l),v]):=by
 subst hg hn;exact Fin.fz (id:=id) (ob:=ob) (l.map encStr) hH (hps.trans (kV l)) (.tup rfl (E6 (.osl (gZ encStr l)) (E6 (.same hv) S6))) rfl trivial trivial
theorem TF (l:List UInt8):(yH l).length≤l.length∧(tW l).length≤l.length:=by
 constructor
 ·exact(List.takeWhile_sublist _).length_le
 rw [tW,aIG];have:=(List.dropWhile_sublist (l:=l) fun b=>!decide (b=58)).length_le;omega
theorem OQ (t:List UInt8) (H:aE) (ht:t.length < 1000000000):aK Tryz.prog 87 [sv (ofL t)] H (fun r H'=>r=.tup [.pv (aX (cS t).1),bv (cS t).2]∧H'=H):=by
 refine Pu ?_;refine Bd func87 rfl ntmps87<|Sr<|Dd aR<|Dd aR<|Zz<|Sr<|Dd (by exact eU (id:=905) (sz:=1) (ty:=9) rfl rfl rfl)<|Zz<|Sq<|aJ ?_;refine iM (fun(l:List UInt8) (A:List ByteArray)=>([(0,sv (ofL l)),(4,.osl 905 A.length 0 A.length)],[(905,⟨A.length,1,9,eA A⟩)])) (fun l A=>l.length+A.length≤t.length∧cS t=iJ l.length l A) (fun l A=>l.length) t [] ⟨aHx _,rfl⟩ ?_ ?_
 ·exact(cC.wk (Eb<|Ea<|trivial) (Hc (dK _ _)<|trivial) trivial)
 rintro l A ⟨hl,hR⟩;have hls:(ofL l).size=l.length:=bO l;have hcl:=TF l;have hcut:=fun H=>aFV (ofL l) H (by omega);rw [aDw] at hcut;have hat:=fun H=>FA (ofL (yH l)) (by rw [bO];omega) H;have hbd:=YY (ofL (yH l));have hit:=fun H=>uX (fH (ofL (yH l))) hbd.1 hbd.2 H;have hrs:(ofL (tW l)).size=(tW l).length:=bO _;have hbad:nY l=((((!decide ((58:UInt8)∈l)||lG (ofL (yH l)))||decide (fH (ofL (yH l)) < 0))||decide (((tW l).length:Int) < fH (ofL (yH l))))||!decide (fL (fH (ofL (yH l)))=ofL (yH l))):=rfl;have hN:Q9 l=(fH (ofL (yH l))).toNat:=rfl;obtain ⟨x,hx⟩:∃ x,x=ofL (yH l):=⟨_,rfl⟩;obtain ⟨v,hv⟩:∃ v,v=fH (ofL (yH l)):=⟨_,rfl⟩;obtain ⟨e,he⟩:∃ e,e=lG (ofL (yH l)):=⟨_,rfl⟩;obtain ⟨o,ho⟩:∃ o,o=decide ((58:UInt8)∈l):=⟨_,rfl⟩;obtain ⟨r,hr⟩:∃ r,r=tW l:=⟨_,rfl⟩;obtain ⟨iv',hiv⟩:∃ y,y=fL v:=⟨_,rfl⟩;simp only [← hv,← he,← ho,← hr] at hcut hat hit hbad hN hbd hrs hcl;simp only [← hx,← hiv] at hcut hat hit hbad;have hlt:=fun h0=>HP (l:=l) h0;have hst:=fun(h0:l≠[]) hb=>vY (acc:=A) h0 hb;have hbb:=fun(h0:l≠[]) hb=>FI (acc:=A) h0 hb;rw [← hr] at hlt;simp only [← hr] at hst;clear hx hv he ho hr hiv;refine Sq<|Sr<|Dd aB<|Dd (mD aC)<|Dd yP<|Zz ?_;refine Cn ?_ ?_<;>intro hc1
 ·have h0:l≠[]:=fun e=>by have h:=aHn hc1;rw [hls,e] at h;exact absurd h (by decide)
  refine aF<|aJ<|Sr<|Dd aB<|Dd (by exact aA rfl rfl call117 rfl (hcut _))<|Dd aB<|Dd eC<|Dd eC<|Dd eC<|Dd aR<|Dd aR<|Dd aR<|Zz<|Sr<|Dd aB<|Dd (by exact aA rfl rfl aCa rfl (hat _))<|Dd aB<|Dd eC<|Dd eC<|Dd aR<|Dd aR<|Zz<|Sq<|Sq ?_;refine cQ (t:=45) (n:=26) (X:=nY l) ?_ ?_
  ·all_goals refine Dd aB ?_
   all_goals refine Dd pY<|Dm ?_
   all_goals refine Sp 26 (fun h26=>?_) fun h26=>?_
   all_goals(try(with_reducible contradiction))
   all_goals first|refine Fo<|Fo ?_|refine On aB<|On (by exact BE rfl mK rfl) ?_
   all_goals refine Dd cX<|Dm ?_
   all_goals refine Sp 30 (fun h30=>?_) fun h30=>?_
   all_goals(try(with_reducible contradiction))
   all_goals first|refine Fo<|Fo ?_|refine On aB<|On cP ?_
   all_goals refine Dd cX<|Dm ?_
   all_goals refine Sp 34 (fun h34=>?_) fun h34=>?_
   all_goals(try(with_reducible contradiction))
   all_goals first|refine Fo<|Fo<|Fo<|Fo ?_|refine On aB<|On aB<|On (mD aC)<|On yP ?_
   all_goals refine Dd cX<|Dm ?_
   all_goals refine Sp 40 (fun h40=>?_) fun h40=>?_
   all_goals(try(with_reducible contradiction))
   all_goals first|refine Fo<|Fo<|Fo<|Fo ?_|refine On aB<|On (by exact aA rfl rfl vP rfl (hit _))<|On aB<|On ZG ?_
   all_goals refine Dd cX<|Zz ?_
   all_goals(exact⟨⟨_,rfl,by rw [hbad];first|(rw [h26];rfl)|(rw [h26,h30];rfl)|(rw [h26,h30,h34,← hrs];rfl)|(rw [h26,h30,h34,← hrs,h40];rfl)⟩,rfl,rfl,rfl⟩)
  refine Cn ?_ ?_<;>intro hc2
  ·have hb:nY l=true:=hc2;rw [hR,hbb h0 hb];refine Sr<|Dd aR<|Dd aR<|Zz<|aH ?_;refine fF (H':=[]) (.inr rfl) rfl (aI rfl) (aI rfl) (Fin.wk (r:=.tup [.pv (aX []),bv false]) (by simp) trivial trivial) ?_;exact Qq
  have hb:nY l=false:=hc2;have hs:=hst h0 hb;have hlt2:=hlt h0;have hb2:=hbad.symm.trans hb;simp only [aIN,aHz] at hb2;obtain ⟨u,rfl⟩:∃ u:Nat,v=(u:Int):=⟨v.toNat,by omega⟩;rw [aIC] at hN;rw [hN] at hs;have hur:u≤r.length:=by omega
  have x1:(ofL r).extract 0 u=ofL (r.take u):=gE (by rw [dS,bB,bB,List.drop_zero,Nat.sub_zero]);have x2:(ofL r).extract u (ofL r).size=ofL (r.drop u):=gE (by rw [wU,bB,bB]);have hnl:(A++[ofL (r.take u)]).length=A.length+1:=by rw [aHs];rfl
  refine aF<|bF follows<|Cr [905] (fun _ _=>aB)<|Cr [] (fun _ _=>aB)<|Cr [] (fun _ _=>aB)<|Cr [] (fun H1 hH=>by exact bQ (l:=0) (h:=u) rfl aC rfl rfl rfl (aII _) (by omega) x1)<|Cr [] (fun H1 hH=>by exact bD [[.str (ofL (r.take u))]] rfl cD rfl rfl rfl rfl rfl (by intro r hr;rw [aHu] at hr;subst hr;rfl))<|Cp [905] (fun H1 hH=>by exact dV (ps:=[[.str (ofL (r.take u))]]) rfl cD IB rfl ((hH _ rfl).trans rfl) rfl rfl rfl (eX _) rfl (by intro r hr;rw [aHu] at hr;subst hr;rfl) (m:=1) rfl (by omega) rfl (oA _ (ofL (r.take u))))<|Cr [] (fun _ _=>aB)<|Cr [] (fun _ _=>aB)<|Cr [] (fun H1 hH=>by exact bQ (l:=u) (h:=(ofL r).size) rfl aC rfl rfl rfl (by omega) (aHx _) x2)<|Cr [905] (fun _ _=>aR)<|Cr [] (fun _ _=>aR)<|cA<|Kr ?_;refine⟨r.drop u,A++[ofL (r.take u)],⟨by rw [aIG,hnl];omega,hR.trans hs⟩,by rw [aIG];omega,?_⟩;dsimp only;rw [hnl];exact(cC.wk (Eb<|Ea<|trivial) (Hc (dK _ _)<|trivial) trivial)
 have h0:l=[]:=List.length_eq_zero_iff.1 (by have:=aHo hc1;omega);rw [hR,h0];refine aV<|Sr<|Dd aB<|Dd aR<|Dd aR<|Zz<|aH ?_;refine fF (H':=[]) (.inr rfl) rfl (aI rfl) (aI rfl) (Fin.st2 A (bv true) rfl rfl rfl rfl (by simp)) ?_;exact Qq
def H6 (F:FuncId) (caps:List AV) (PR:List ByteArray→Prop) (K:aE):Prop :=∀ (yv:AV) (Hs:List ByteArray→aE),(∀ M,Sub K (Hs M))→(∀ M,(Hs M).get 946=none)→(∀ M,bT (Hs M))→(∀ M,Clo (Hs M) yv) →
  (∀ M x,M.length < 1099511627776→iL Tryz.prog yv [sv x] (Hs M) (fun r H'=>r=bv true∧H'=Hs (M++[x]))) →
  (∀ o M x,M.length < 1099511627776→iL Tryz.prog yv [sv x] ((946,o)::Hs M) (fun r H'=>r=bv true∧H'=(946,o)::Hs (M++[x]))) →
  aK Tryz.prog F (yv::caps) (Hs []) (fun r H'=>r=.tup []∧∃ M,PR M∧H'=Hs M)
def zpE:bZ:=[(2,.ref 942 0 0 0)]
def zpK (M:List ByteArray) (K:aE):aE:=(945,⟨M.length,1,9,eA M⟩)::(942,bx 1 31 [.osl 945 M.length 0 M.length])::K
theorem TV (M:List ByteArray) (s:ByteArray) (K:aE):zpK (M++[s]) K=(945,⟨M.length+1,1,9,eA (M++[s])⟩)::(942,bx 1 31 [.osl 945 (M.length+1) 0 (M.length+1)])::K:=by simp [zpK]
theorem RE {M:List ByteArray} {K:aE} {x:Go.Loop} (h:bT K):bT ((944,LR x zpE)::zpK M K):=by refine bT.app (D:=[(944,LR x zpE),(945,⟨M.length,1,9,eA M⟩),(942,bx 1 31 [.osl 945 M.length 0 M.length])]) ?_ h;refine qD.spec ⟨aCX (by simp [zpE];rfl),dK _ _,?_,trivial⟩;intro r hr a ha;simp only [bx,aHu] at hr;subst hr;rw [aHu] at ha;subst ha;exact .osl rfl
theorem TN {F:FuncId} {caps:List AV} {PR:List ByteArray→Prop} (hE:∀ (args:Array Value) (w:World),(callFunc F args).run Tryz.prog w=.ok (.enter F args) w) (K:aE) (hS:H6 F caps PR K) (k2:K.get 942=none) (k4:K.get 944=none) (k5:K.get 945=none) (k6:K.get 946=none) (hc:bT K) (hcap:Clo K (.clo F caps)) :
  aK Tryz.prog 125 [.pv .nils,.clo F caps] K (fun r H'=>∃ M,PR M∧r=.osl 945 M.length 0 M.length∧H'=(945,⟨M.length,1,9,eA M⟩)::K):=by
 have k2':aE.get ((945,⟨0,1,9,[]⟩)::K) 942=none:=k2;refine Bd func125 rfl ntmps125 ?_;refine aBw (t:=0) (id:=945) (sz:=1) (ty:=9) rfl k5 rfl ?_;refine YS (t:=0) rfl rfl rfl (aHx _) ?_;refine Sr<|Dd (by exact jQ (id:=942) rfl rfl rfl rfl k2')<|Dd aR<|Zz<|Sq<|Sr<|Dd aB<|Zz<|aJ ?_;refine iF.ent (E':=[(2,.ref 942 0 0 0),(6,.clo F caps)]) (H':=zpK [] K) (cC.get' ⟨⟨_,rfl,rfl⟩,⟨_,rfl,rfl⟩,trivial⟩ (fun j=>BV (by decide) j)) ?_;refine DN (id:=944) (p:=7) zpE rfl hE rfl k4 (by simp [zpE];rfl) ?_;intro x hx1 hx2 hx3 hx4 hx5 hx6;refine(hS (.yld 944 0) (fun M=>(944,LR x zpE)::zpK M K) (fun M=>?_) (fun M=>k6) (fun M=>RE hc) (fun M=>by simp;rfl) ?_ ?_).mono ?_
 ·refine Sub.app (D:=[(944,LR x zpE),(945,⟨M.length,1,9,eA M⟩),(942,bx 1 31 [.osl 945 M.length 0 M.length])]) ?_;intro p hp;simp only [aID,aIH,or_false] at hp;rcases hp with rfl|rfl|rfl
  ·exact k4
  ·exact k5
  exact k2
 ·intro M s hM;refine .inl ⟨944,0,rfl,?_⟩;rw [TV];refine LH [(2,.ref 942 0 0 0),(5,sv s)] (zpK M K) hx1 hx2 hx3 hx4 hx5 hx6 rfl rfl rfl ?_ ?_
  ·refine Rg<|Da ?_;exact E0
  refine aJ<|Rg<|Dd (cW bJ)<|Dd aB<|Dd (by exact bD [[.str s]] rfl cD rfl rfl rfl rfl rfl (by intro r hr;rw [aHu] at hr;subst hr;rfl))<|Dd (by exact dV (ps:=[[.str s]]) rfl cD IB rfl rfl rfl rfl rfl (eX _) rfl (by intro r hr;rw [aHu] at hr;subst hr;rfl) (m:=1) rfl (by omega) rfl (oA _ s))<|Uu (vJ sizeOf31)<|Zz ?_;exact⟨(945,⟨M.length+1,1,9,eA (M++[s])⟩)::(942,bx 1 31 [.osl 945 (M.length+1) 0 (M.length+1)])::K,cC.get' trivial (fun j=>tS [_,_,_] [_,_,_,_,_] (by repeat(first|exact trivial|refine⟨rfl,?_⟩)) j),rfl,rfl⟩
 ·intro o M s hM;refine iL.congrG (H1:=(944,LR x zpE)::(946,o)::zpK M K) (K1:=(944,LR x zpE)::(946,o)::zpK (M++[s]) K) (.inl ⟨944,0,rfl,?_⟩) (fun j=>BV (by decide) j) (fun j=>BV (by decide) j);rw [TV];refine LH [(2,.ref 942 0 0 0),(5,sv s)] ((946,o)::zpK M K) hx1 hx2 hx3 hx4 hx5 hx6 rfl rfl rfl ?_ ?_
  ·refine Rg<|Da ?_;exact E0
  refine aJ<|Rg<|Dd (cW bJ)<|Dd aB<|Dd (by exact bD [[.str s]] rfl cD rfl rfl rfl rfl rfl (by intro r hr;rw [aHu] at hr;subst hr;rfl))<|Dd (by exact dV (ps:=[[.str s]]) rfl cD IB rfl rfl rfl rfl rfl (eX _) rfl (by intro r hr;rw [aHu] at hr;subst hr;rfl) (m:=1) rfl (by omega) rfl (oA _ s))<|Uu (vJ sizeOf31)<|Zz ?_;exact⟨(946,o)::(945,⟨M.length+1,1,9,eA (M++[s])⟩)::(942,bx 1 31 [.osl 945 (M.length+1) 0 (M.length+1)])::K,cC.get' trivial (fun j=>tS [_,_,_,_] [_,_,_,_,_,_] (by repeat(first|exact trivial|refine⟨rfl,?_⟩)) j),rfl,rfl⟩
 rintro r H' ⟨rfl,M,hM,rfl⟩;refine⟨x,_,rfl,by rw [hx1];decide,rfl,fun z=>?_⟩;rw [hx2];refine Sr<|Dd (cW bJ)<|Dd aR<|Zz<|aH ?_;refine bI (H':=((945,⟨M.length,1,9,eA M⟩)::K)) (.inr rfl) rfl (aI rfl) (Fin.front' [(944,LR z zpE),(945,⟨M.length,1,9,eA M⟩),(942,bx 1 31 [.osl 945 M.length 0 M.length])] [(945,⟨M.length,1,9,eA M⟩)] (.osl rfl) (by simp [k2,k4,aE.get]) (by intro p hp;rw [aHu] at hp;subst hp;rfl) (qD.spec ⟨dK _ _,trivial⟩) hc (by simp [k2,k4,aE.get])) ?_;exact⟨M,hM,rfl,rfl⟩
theorem QM {F:FuncId} {caps:List AV} {PR:List ByteArray→Prop} (hE:∀ (args:Array Value) (w:World),(callFunc F args).run Tryz.prog w=.ok (.enter F args) w) (K:aE) (hS:H6 F caps PR K) (k2:K.get 942=none) (k4:K.get 944=none) (k5:K.get 945=none) (k6:K.get 946=none) (hc:bT K) (hcap:Clo K (.clo F caps)) :
  aK Tryz.prog 95 [.clo F caps] K (fun r H'=>∃ M,PR M∧r=.osl 945 M.length 0 M.length∧H'=(945,⟨M.length,1,9,eA M⟩)::K):=by
 refine Bd func95 rfl ntmps95<|Sr<|Dd aR<|Zz<|Sr<|Dm ?_;refine gC rfl rfl (MJ rfl rfl call125 rfl (TN hE K hS k2 k4 k5 k6 hc hcap)) ?_;rintro r H' ⟨M,hM,rfl,rfl⟩;refine Dd aR<|Zz<|aH ?_;refine bI (H':=((945,⟨M.length,1,9,eA M⟩)::K)) (.inr rfl) rfl (aI rfl) Fin.refl ?_;exact⟨M,hM,rfl,rfl⟩
theorem LO (l:List ByteArray):fT l=(l.map encStr).map (·.map .pv):=by rw [List.map_map];rfl
theorem LU {F:FuncId} {caps:List AV} {L:List ByteArray} (hL:L.length < 1099511627776) (hE:∀ (args:Array Value) (w:World),(callFunc F args).run Tryz.prog w=.ok (.enter F args) w) (K:aE) (hS:H6 F caps (fun M=>M.Perm L) K) (k2:K.get 942=none) (k4:K.get 944=none) (k5:K.get 945=none) (k6:K.get 946=none) (hc:bT K) (hcap:Clo K (.clo F caps)) :
  aK Tryz.prog 48 [.clo F caps] K (fun r H'=>r=.pv (aX (eZ L))∧H'=K):=by
 refine Bd func48 rfl ntmps48<|Sr<|Dd aR<|Zz<|Sr<|Dm ?_;refine gC rfl rfl (aA rfl rfl call95 rfl (QM hE K hS k2 k4 k5 k6 hc hcap)) ?_;rintro r H' ⟨M,hperm,rfl,rfl⟩;have hMl:M.length < 4611686018427387904:=by rw [hperm.length_eq];omega
 have hSo:=FO hperm;have hSl:(eZ M).length=M.length:=by rw [eZ,aHr,List.length_mergeSort,aHr]
 refine Dd aR<|Zz<|Sr<|Dd aB<|Dd (by exact aA rfl rfl call96 rfl (JM M rfl rfl hMl))<|Zz<|Sr<|Dd aB<|Dd aR<|Zz<|aH ?_;refine bI (H':=K) (.inr rfl) rfl (aI rfl) (Fin.slice [(945,⟨M.length,1,9,fT (eZ M)⟩),(945,⟨M.length,1,9,eA M⟩)] ((eZ M).map encStr) rfl rfl (LO _) (by rw [aHr,hSl]) hc (by simp [k5]) (by simp [k5]) k5) ?_;exact⟨by rw [← hSo];rfl,rfl⟩
abbrev cN:=List (ByteArray×ByteArray×Nat)
def fI (l:cN) (c:Nat):Prop:=(l.map fun p=>p.2.2).Pairwise (· < ·)∧∀ p∈l,p.2.2 < c
def lH (l:cN) (i:Nat):Nat:=((l[i]?).map fun p=>p.2.2).getD 0
theorem LQ {l:cN} {c:Nat} (h:fI l c) {i j:Nat} (hi:i < l.length) (hj:j < l.length) (e:lH l i=lH l j):i=j:=by
 have hp:=List.pairwise_iff_getElem.1 h.1;rw [lH,lH,aHw hi,aHw hj] at e;have e:(l[i]).2.2=(l[j]).2.2:=e;rcases Nat.lt_trichotomy i j with h1|h1|h1
 ·have:=hp i j (by simpa using hi) (by simpa using hj) h1;simp at this;omega
 ·exact h1
 have:=hp j i (by simpa using hj) (by simpa using hi) h1;simp at this;omega
def IA (mid:Nat) (l:cN) (c:Nat) (s:List Nat):Ob:=⟨0,0,0,gU (.mp mid 0) c c (s.map (lH l))⟩
abbrev mBx (mid:Nat):Ob:=bx 1 33 [.mp mid 0]
theorem EY {H:aE} {mid:Nat} (h:(H.get mid).isSome=true) (l:cN) (c:Nat) (s:List Nat):∀ r∈(IA mid l c s).rows,∀ x∈r,Clo H x:=by
 intro r hr x hx;rw [IA,gU] at hr;rcases aID.1 hr with rfl|hr
 ·simp only [aID,aIH,or_false] at hx;rcases hx with rfl|rfl|rfl
  ·exact .mp h
  ·exact .pv _
  exact .pv _
 obtain ⟨n,_,rfl⟩:=List.mem_map.1 hr;rw [aHu] at hx;subst hx;exact .pv _
theorem xX {l:cN} {i:Nat} {q:ByteArray×AV×Nat} (h:(cU l)[i]?=some q):∃ p,l[i]?=some p∧q=(p.1,sv p.2.1,p.2.2):=by
 rw [cU,aIL] at h;cases e:l[i]? with
 | none=>rw [e] at h;cases h
 | some p=>rw [e] at h;cases h;exact⟨p,rfl,rfl⟩
def yW (l:cN) (s:List Nat):List ByteArray:=pick (l.map Prod.fst) s
theorem SE {l:cN} {s:List Nat} {i:Nat} {p:ByteArray×ByteArray×Nat} (h:l[i]?=some p):yW l (s++[i])=yW l s++[p.1]:=by simp only [yW,pick,List.map_append,List.map_cons,List.map_nil,aIL,h,Option.map_some,Option.getD_some]
theorem W9 (l:cN) (s:List Nat):(yW l s).length=s.length:=aHr _
theorem VB (mid:Nat) (l:cN) (c:Nat) (K:aE) (hl:l.length < 1099511627776) (hst:fI l c) (h1:K.get 951=some (mBx mid)) (h2:K.get mid=some (cB l c)) (hm6:mid≠946):H6 105 [.ref 951 0 0 0] (fun M=>M.Perm (l.map Prod.fst)) K:=by
 intro yv Hs hK h6 hcl hf hy0 hy1;have g1:∀ M,(Hs M).get 951=some (mBx mid):=fun M=>hK M _ _ h1;have g2:∀ M,(Hs M).get mid=some (cB l c):=fun M=>hK M _ _ h2;have g2':∀ o M,aE.get ((946,o)::Hs M) mid=some (cB l c):=fun o M=>by rw [get_cons_other _ _ hm6];exact g2 M
 refine Bd func105 rfl ntmps105<|Sr<|Dd (by exact bH rfl dO rfl (g1 []) rfl rfl rfl)<|Dd (by exact E4 (q:=946) (κ:=iU) rfl bL rfl (g2 []) rfl rfl rfl (h6 []))<|Zz<|aJ ?_;refine bG (σ:=List Nat) (fun s=>([(0,yv),(5,.it 946 0)],(946,IA mid l c s)::Hs (yW l s))) (fun s=>s.Nodup∧∀ i,i∈s→i < l.length) (fun s=>l.length - s.length) [] ⟨List.nodup_nil,by simp⟩ ?_ ?_
 ·exact E0
 rintro s ⟨hd,hb⟩;have hsl:s.length≤l.length:=lW _ _ hd hb;refine Sq<|Rg ?_;refine gC rfl rfl (M9 (κ:=iU) (l:=cU l) rfl rfl (get_cons_same _ _ _) rfl rfl (g2' _ _) rfl rfl rfl (aHx _) (aHx _)) ?_;rintro _ _ (⟨rfl,rfl,hn0⟩|⟨hni,hnp,hn1,hn2,rfl,rfl⟩)
 ·refine Dd eC<|Zz<|Sq ?_;refine Cn ?_ ?_<;>intro hc1
  ·cases hc1
  refine aV ?_;have hall:∀ i,i < l.length→i∈s:=fun i hi=>by
   have hq:(cU l)[i]?=some ((l[i]).1,sv (l[i]).2.1,(l[i]).2.2):=by rw [cU,aIL,aHw hi];rfl
   have:=hn0 _ (aIB hq);obtain ⟨j,hj,e⟩:=List.mem_map.1 this;have e2:lH l j=lH l i:=by
    rw [e,lH,aHw hi];rfl
   have:=LQ hst (hb j hj) hi e2
   rwa [this] at hj
  exact eQ (H':=Hs (yW l s)) (.inl rfl) rfl (Fin.pops' [(946,IA mid l c s)] (by simp) (hcl _) (by simp [h6]) (by simp [h6])) ⟨rfl,yW l s,aAb hd (by rw [aHr];exact hb) (by rw [aHr];exact hall),rfl⟩
 obtain ⟨p,hp,rfl⟩:=xX hn1;have hlt:hni < l.length:=(aHv.1 hp).1;have hst2:lH l hni=p.2.2:=by rw [lH,hp];rfl
 have hn3:hni∉s:=fun hm=>hn2 (List.mem_map.2 ⟨hni,hm,hst2⟩);have hb2:∀ i,i∈s++[hni]→i < l.length:=fun i hi=>by
  rcases List.mem_append.1 hi with h|h
  ·exact hb i h
  rw [aHu] at h;omega
 have hd2:(s++[hni]).Nodup:=List.nodup_append.2 ⟨hd,by simp,fun a ha b hb e=>by rw [aHu] at hb;subst hb;subst e;exact hn3 ha⟩;have hlen:=lW _ _ hd2 hb2;rw [aHs,List.length_singleton] at hlen;have hit:IA mid l c (s++[hni])=⟨0,0,0,gU (.mp mid 0) c c (s.map (lH l)++[p.2.2])⟩:=by rw [IA,List.map_append,List.map_cons,List.map_nil,hst2]
 have hyy:=hy1 (IA mid l c (s++[hni])) (yW l s) p.1 (by rw [W9];omega);rw [← SE hp] at hyy;refine Dd eC<|Zz<|Sq ?_;refine Cn ?_ ?_<;>intro hc2
 ·refine aF<|aJ<|Sr<|Dd (by exact E5 (κ:=iU) (seen:=s.map (lH l)) (p:=(p.1,sv p.2.1,p.2.2)) (since:=c) rfl rfl (get_cons_same _ _ _) rfl rfl ((get_cons_other _ _ hm6).trans (g2' _ _)) rfl rfl rfl hn1)<|Dd eC<|Dd aR<|Zz<|Sq ?_;refine iF.ent (E':=[(0,yv),(5,.it 946 0),(3,sv p.1)]) (H':=(946,IA mid l c (s++[hni]))::Hs (yW l s)) (cC.get' ⟨⟨_,rfl,rfl⟩,⟨_,rfl,rfl⟩,⟨_,rfl,rfl⟩,trivial⟩ (fun j=>by rw [hit];exact lD 946 _ (IA mid l c s) (Hs (yW l s)) j)) ?_;refine Rg<|Dd aB<|Dd aB<|Dd (by exact kZ rfl rfl rfl (hyy))<|Dd pY<|Zz ?_;refine Cn ?_ ?_<;>intro hc3
  ·cases hc3
  refine aF ?_;refine⟨s++[hni],⟨hd2,hb2⟩,by rw [aHs,List.length_singleton];omega,?_⟩;exact E0
 cases hc2
theorem JH (l:List ByteArray) (K:aE) (hl:l.length < 1099511627776) (h1:K.get 951=some (bx 1 31 [.pv (aX l)])):H6 97 [.ref 951 0 0 0] (fun M=>M.Perm l) K:=by
 intro yv Hs hK h6 hcl hf hy0 hy1;have g1:∀ M,(Hs M).get 951=some (bx 1 31 [.pv (aX l)]):=fun M=>hK M _ _ h1;have hml:(l.map encStr).length=l.length:=aHr _;refine Bd func97 rfl ntmps97<|Sr<|Dd (by exact bH rfl bJ rfl (g1 []) rfl rfl rfl)<|Dd (jY aO)<|Dd aB<|Zz<|aJ ?_;refine bG (σ:=Nat) (fun i=>([(0,yv),(5,.pv (aX l)),(6,iv ((l.map encStr).length:Int)),(7,iv (i:Int))],Hs (l.take i))) (fun i=>i≤l.length) (fun i=>l.length - i) 0 (aII _) ?_ ?_
 ·exact E0
 rintro i hi;refine Sr<|Dd cP<|Zz<|Sq ?_;refine Cn ?_ ?_<;>intro hc1
 ·have hlt:i < l.length:=by have:=aHn hc1;omega
  obtain ⟨s,hs⟩:=aY hlt;have his:=cV (f:=encStr) hs;have hyy:=hy0 (l.take i) s (by rw [aIF];omega);rw [← bW hs] at hyy;refine aF<|Sq<|aJ<|Sr<|Dd (sU cD)<|Dd (gW aQ)<|Dd aR<|Zz<|Sr<|Dd aB<|Dd aB<|Dd (by exact kZ rfl rfl rfl (hyy))<|Dd pY<|Zz ?_;refine Cn ?_ ?_<;>intro hc2
  ·cases hc2
  refine aF<|Rg<|Dd rL<|Dd aB<|Zz ?_;exact⟨i+1,by omega,by omega,E0⟩
 have hge:i=l.length:=by have:=aHo hc1;omega
 subst hge;refine aV ?_;exact eQ (H':=Hs (l.take l.length)) (.inl rfl) rfl Fin.refl ⟨rfl,_,by rw [List.take_length],rfl⟩
theorem VA (mid:Nat) (H:aE) (h1:H.get 951=none) (hm:(H.get mid).isSome=true) :
  aK Tryz.prog 55 [.mp mid 0] H (fun r H'=>r=.clo 105 [.ref 951 0 0 0]∧H'=(951,mBx mid)::H):=by
 refine Bd func55 rfl ntmps55<|Sr<|Dd (by exact jQ (id:=951) rfl rfl rfl rfl h1)<|Dd aR<|Zz<|Sr<|Dd (by exact iQ rfl rfl)<|Dd aR<|Zz<|aH ?_;refine bI (H':=((951,mBx mid)::H)) (.inr rfl) rfl (aI rfl) Fin.refl ?_;exact Qq
def fO:cN→ByteArray→ByteArray
 | [],_=>⟨#[]⟩
 | (k',v,_)::r,k=>if k'=k then v else fO r k
theorem EV (k:ByteArray):∀ l:cN,(pH (M7 (cU l)) k).getD (sv ⟨#[]⟩)=sv (fO l k)
 | []=>rfl
 | (k',v,n)::r=>by
  show (if k'=k then some (sv v)else pH (M7 (cU r)) k).getD (sv ⟨#[]⟩)=sv (if k'=k then v else fO r k)
  split
  ·rfl
  exact EV k r
theorem aFD {P:Program} {N:Nat} {o:Oper} {E:bZ} {H:aE} {T kt et:TypeId} {x y:Operand} {zv:Value} {id g:Nat} {ob:Ob} {l:cN} {k:ByteArray} (ho:o.op=.lookup T x y false) (hT:P.underlying T=some (.map kt et)) (hd:P.underlying kt=some .string) (hx:aS E x=some (.mp id g)) (hH:H.get id=some ob) (hg:ob.g=g)
  (hrows:ob.rows=jI iU (cU l)) (hy:aS E y=some (sv k)) (hz:∀ w,(zeroValue et).run P w=.ok zv w) (hv:ZV zv (sv ⟨#[]⟩)):bS P N o E H (sv (fO l k)) H:=by
 have h:=aBS (N:=N) (κ:=iU) ho hT hd hx hH hg hrows hy hz hv
 rwa [EV] at h
theorem oO (s u:ByteArray):∀ r∈([[.str s],[.str u]]:List (List PV)),r.length=1:=by intro r hr;simp only [aID,aIH,or_false] at hr;rcases hr with rfl|rfl<;>rfl
def wZ (l:cN) (S:List ByteArray) (k:Nat):List ByteArray:=fL ((cU l).length:Int)::(S.take k).flatMap fun x=>[x,fO l x]
theorem aCq {l:cN} {S:List ByteArray} {k:Nat} {s:ByteArray} (h:S[k]?=some s):wZ l S (k+1)=wZ l S k++[s,fO l s]:=by rw [wZ,wZ,bW h,List.flatMap_append];rfl
theorem lE {α β:Type} (f g:α→β):∀ S:List α,(S.flatMap fun x=>[f x,g x]).length=2*S.length
 | []=>rfl
 | x::r=>by
  have h:=lE f g r;rw [List.flatMap_cons,aHs,h];simp only [aHt,List.length_nil];omega
theorem ZS {l:cN} {S:List ByteArray} {k:Nat} (h:k≤S.length):(wZ l S k).length=1+2*k:=by rw [wZ,aHt,lE,aIF];omega
def eT (l:cN):List ByteArray:=eZ (l.map Prod.fst)
def eD (l:cN) (P:List ByteArray):List ByteArray:=(wZ l (eT l) (eT l).length++[fL ((P.map encStr).length:Int)])++P
def bM (l:cN) (P:List ByteArray):List UInt8:=aT [ofL (aT (eD l P))]
theorem kW (l:cN):(eT l).length=l.length:=by rw [eT,eZ,aHr,List.length_mergeSort,aHr,aHr]
theorem zF (A B:List ByteArray):eA A++(B.map encStr).map (·.map AV.pv)=eA (A++B):=by rw [eA,eA,List.map_append,List.map_map];rfl
theorem jK (A B:List ByteArray):eA A++B.map (fun s=>[.pv (.str s)])=eA (A++B):=by rw [eA,eA,List.map_append]
abbrev tK (g:Nat) (W:List ByteArray) (l:cN) (c:Nat):aE:=[(951,mBx 950),(920,⟨g,1,9,eA W⟩),(950,cB l c)]
theorem aEh (g:Nat) (W:List ByteArray) (l:cN) (c:Nat):bT (tK g W l c):=bT.of (fun p hp=>by
 simp only [aID,aIH,or_false] at hp;rcases hp with rfl|rfl|rfl
 ·intro r hr x hx;simp only [bx,aHu] at hr;subst hr;rw [aHu] at hx;subst hx;exact .mp rfl
 ·exact dK _ _
 exact aU _ _ _)
theorem vX {l:cN} {P:List ByteArray} {N:Nat} (h:(bM l P).length < N):(aT (eD l P)).length < N:=by
 have e:bM l P=(uM (ofL (aT (eD l P)))).data.toList:=by rw [bM,aT,List.flatMap_cons,List.flatMap_nil,List.append_nil]
 rw [e,wA,rU,bO] at h;omega
theorem VE {W:List ByteArray} {g n:Nat} {H:aE} (hW:(aT W).length < 35184372088832) (hH:H.get 920=some ⟨g,1,9,eA W⟩) (hn:n=W.length):aK Tryz.prog 99 [.osl 920 g 0 n] H (fun x H'=>x=sv (ofL (aT W))∧H'=H):=by subst hn;exact RO.calls (RO.lend (id:=920) (H1:=[]) (W.map encStr) (RO.of (qJ W [] hW) rfl) hH (kV W) rfl (E6 (.osl (gZ encStr W)) S6) (fun _ _ h=>by cases h) (fun _ _ h=>by cases h) rfl)
theorem T4 (l:cN) (c:Nat) (P:List ByteArray) (hst:fI l c) (hl:l.length < 1099511627776) (hP:P.length < 1099511627776) (hsz:(bM l P).length < 35184372088832) :
  aK Tryz.prog 50 [.mp 950 0,.pv (aX P)] [(950,cB l c)] (fun r H'=>r=sv (ofL (bM l P))∧H'=[(950,cB l c)]):=by
 have hsl:=kW l;have hso:=LU (L:=l.map Prod.fst) (by rw [aHr];exact hl) aHM (tK 0 [fL ((cU l).length:Int)] l c) (VB 950 l c _ hl hst rfl rfl (by decide)) rfl rfl rfl rfl (aEh _ _ _ _) (by simp;rfl);have hin:=vX hsz;have hgl:(cU l).length=l.length:=aHr _;have hml:((eT l).map encStr).length=(eT l).length:=aHr _;have hpl:(P.map encStr).length=P.length:=aHr _;change aK _ _ _ _ fun r H'=>r=.pv (aX (eT l))∧H'=_ at hso;refine Bd func50 rfl ntmps50<|Sr<|Dd aR<|Zz<|Sr<|Dd aB<|Dd (by exact D8 (κ:=iU) (l:=cU l) rfl bL rfl rfl rfl rfl)<|Dd (by exact aA rfl rfl vP rfl (uX ((cU l).length:Int) (by omega) (by omega) _))<|Dd (by exact fX (id:=920) rfl cD rfl rfl rfl rfl (show ∀ r∈eA [fL ((cU l).length:Int)],r.length=1 from by intro r hr;rw [aHu.1 hr];rfl) rfl)<|Dd aR<|Zz<|Sq<|Sr<|Dd aB<|Dd (by exact aA rfl rfl aH4 rfl (VA 950 _ rfl rfl))<|Dd (by exact aA rfl rfl N0 rfl (hso))<|Dd (jY aO)<|Dd aB<|Zz<|aJ ?_;refine bG (σ:=Nat) (fun k=>([(0,.mp 950 0),(1,.pv (aX P)),(5,.osl 920 k 0 (1+2*k)),(14,.pv (aX (eT l))),(15,iv (((eT l).map encStr).length:Int)),(16,iv (k:Int))],tK k (wZ l (eT l) k) l c)) (fun k=>k≤(eT l).length) (fun k=>(eT l).length - k) 0 (aII _) ?_ ?_
 ·exact E0
 intro k hk;refine Sr<|Dd cP<|Zz<|Sq ?_;refine Cn ?_ ?_<;>intro hc1
 ·have hlt:k < (eT l).length:=by have:=aHn hc1;omega
  obtain ⟨s,hs⟩:=aY hlt;have hi:=cV (f:=encStr) hs;have hwl:=ZS (l:=l) hk;refine aF<|Sq<|aJ<|Sr<|Dd (sU cD)<|Dd (gW aQ)<|Dd aR<|Zz<|Rg<|Dd aB<|Dd aB<|Dd aB<|Dd aB<|Dd (by exact aFD (l:=l) (k:=s) rfl bL aC rfl rfl rfl rfl rfl gM (.inl rfl))<|Dd (by exact bD [[.str s],[.str (fO l s)]] rfl cD rfl rfl rfl rfl rfl (oO s (fO l s)))<|Dd (by exact dV (k:=1+2*(k+1)) (ps:=[[.str s],[.str (fO l s)]]) rfl cD IB rfl rfl rfl rfl rfl ((eX _).trans hwl) rfl (oO _ _) (m:=2) rfl (by omega) (by omega) (jK _ [s,fO l s]))<|Dd aR<|Zz<|Rg<|Dd rL<|Dd aB<|Zz ?_;refine⟨k+1,by omega,by omega,?_⟩;rw [aCq hs];exact(cC.wk (Ea<|Eb<|Ea<|Eb<|Eb<|Eb<|trivial) (Ha<|Hc (dK _ _)<|Hc (aU _ _ _)<|trivial) ⟨rfl,trivial⟩)
 have hge:k=(eT l).length:=by have:=aHo hc1;omega
 subst hge;have hwl:=ZS (l:=l) (aHx (eT l).length);refine aV<|Sr<|Dd aB<|Dd aB<|Dd (jY aO)<|Dd (by exact aA rfl rfl vP rfl (uX ((P.map encStr).length:Int) (by omega) (by omega) _))<|Dd (by exact bD [[.str (fL ((P.map encStr).length:Int))]] rfl cD rfl rfl rfl rfl rfl (by intro r hr;rw [aHu] at hr;subst hr;rfl))<|Dd (by exact dV (ps:=[[.str (fL ((P.map encStr).length:Int))]]) rfl cD IB rfl rfl rfl rfl rfl ((eX _).trans hwl) rfl (by intro r hr;rw [aHu] at hr;subst hr;rfl) (m:=1) rfl (by omega) rfl (oA _ _))<|Dd aR<|Zz<|Sr<|Dd aB<|Dd aB<|Dd (by exact dV (ps:=P.map encStr) rfl cD IB rfl rfl rfl rfl rfl ((eX _).trans (by rw [aHs,hwl];rfl)) rfl (by intro r hr;obtain ⟨q,_,rfl⟩:=List.mem_map.1 hr;rfl) (m:=P.length) hpl (by omega) rfl (zF _ P))<|Dd (by exact aA rfl rfl vO rfl (VE (W:=eD l P) hin rfl (by rw [eD,aHs,aHs,hwl];rfl))) ?_;refine Dd (by exact bD [[.str (ofL (aT (eD l P)))]] rfl cD rfl rfl rfl rfl rfl (by intro r hr;rw [aHu] at hr;subst hr;rfl))<|Dd (by exact aA rfl rfl vO rfl (qJ [ofL (aT (eD l P))] _ hsz))<|Dd aR<|Zz<|aH ?_;refine bI (H':=[(950,cB l c)]) (.inr rfl) rfl (aI rfl) (Fin.wk (by(simp;done)) (Hc (aU _ _ _)<|trivial) ⟨rfl,trivial⟩) ?_;exact Qq
end Go.Proofs.YtmkgeogoojcciaaGreatDoor
namespace Go.Proofs.YtmkgeogoojcciaaGreatDoor
open Go.Proofs.Tryz
open Go.Abs Go.Lib
theorem aFH (x y:Nat) (hx:x < 18446744073709551616) (hy:y < 18446744073709551616) (H:aE):aK Tryz.prog 132 [uv x,uv y] H (fun r H'=>r=.tup [uv (x*y / 18446744073709551616),uv (x*y % 18446744073709551616)]∧H'=H):=by
 refine Pu ?_;refine Bd func132 rfl ntmps132<|Sr<|Dd aR<|Dd aR<|Zz<|Sq ?_;refine Cn ?_ ?_<;>intro hc1
 ·cases hc1
 exact aF<|Sr<|Dd aB<|Dd aB<|Dd (by exact aA rfl rfl aHK rfl (GP x y hx hy _))<|Dd aB<|Dd eC<|Dd eC<|Dd aR<|Dd aR<|Zz<|Sr<|Dd aB<|Dd aB<|Dd aR<|Dd aR<|Zz<|aH<|Ru<|Qq
theorem HM (t:List UInt8) (ht:t.length < 1000000000000) (H:aE):aK Tryz.prog 51 [sv (ofL t)] H (fun r H'=>r=iv (dD t:Int)∧H'=H):=by
 refine Pu ?_;have hs:(ofL t).size=t.length:=bO t;have hq:IntKind.i64.wrap ((((ofL t).size:Int)+46 - 1).tdiv 46)=(dD t:Int):=by
  rw [hs,Int.tdiv_eq_ediv_of_nonneg (by omega),eS (by omega) (by omega),dD];omega
 exact Bd func51 rfl ntmps51<|Sr<|Dd aR<|Zz<|Sr<|Dd aB<|Dd (mD aC)<|Dd rL<|Dd (by exact dG rfl rfl rfl (by exact eS (by omega) (by omega)))<|Dd (by exact nH rfl rfl rfl (by decide) hq)<|Dd aR<|Zz<|aH<|Rt<|Qq
theorem Fin.st1 {H1:aE} {id g n:Nat} {ob:Ob} (l:List ByteArray) (hH:H1.get id=some ob) (hg:ob.g=g) (hps:ob.rows=eA l) (hn:n=l.length) :
  Fin [] H1 (.osl id g 0 n) [] (.pv (aX l)):=by
 subst hg hn;exact Fin.fz (id:=id) (ob:=ob) (l.map encStr) hH (hps.trans (kV l)) (.osl (gZ encStr l)) rfl trivial trivial
def lX (z:ByteArray) (m n:Nat):List (List AV):=List.replicate m [sv z]++List.replicate (n - m) [sv sNil]
theorem X1 {z:ByteArray} {m n:Nat} (h:m≤n):(lX z m n).length=n:=by rw [lX,aHs,List.length_replicate,List.length_replicate];omega
theorem S8 {z:ByteArray} {m n j:Nat} (h:m≤n) (hj:j=min (n - m) m):(lX z m n).take m++(((lX z m n).take j)++(lX z m n).drop (m+j))=lX z (m+j) n:=by
 have hjm:j≤m:=by omega
 have h1:(lX z m n).take m=List.replicate m [sv z]:=by rw [lX,List.take_left' List.length_replicate]
 have h2:(lX z m n).take j=List.replicate j [sv z]:=by
  rw [lX,List.take_append_of_le_length (by rw [List.length_replicate];exact hjm),List.take_replicate,Nat.min_eq_left hjm]
 have h3:(lX z m n).drop (m+j)=List.replicate (n - (m+j)) [sv sNil]:=by
  rw [lX,← List.drop_drop,List.drop_left' List.length_replicate,List.drop_replicate,Nat.sub_sub]
 rw [h1,h2,h3,lX,← List.append_assoc,List.replicate_append_replicate]
theorem KR {H:aE} {z:ByteArray} {m n:Nat}:∀ r∈lX z m n,∀ a∈r,Clo H a:=by intro r hr a ha;rcases List.mem_append.1 hr with h|h<;>rw [List.eq_of_mem_replicate h,aHu] at ha<;>subst ha<;>exact .pv _
theorem WT (z:ByteArray) (n:Nat) (hn:n < 100000) (H:aE):aK Tryz.prog 106 [.pv (aX [z]),iv (n:Int)] H (fun r H'=>r=.pv (aX (List.replicate n z))∧H'=H):=by
 refine Pu ?_;have hmul:=fun H=>aFH 1 n (by omega) (by omega) H;have e1:1*n / 18446744073709551616=0:=by omega
 have e2:1*n % 18446744073709551616=n:=by omega
 rw [e1,e2] at hmul;have hz0:((List.replicate n [sv sNil]:List (List AV))).take 0++((([[.str z]]:List (List PV)).take (min 1 n)).map (·.map .pv)++(List.replicate n [sv sNil]).drop (0+min 1 n))=lX z (min 1 n) n:=by
  rw [List.take_zero,List.nil_append,List.drop_replicate,lX,aIJ];rcases(show min 1 n=0∨min 1 n=1 by omega)with e|e<;>rw [e]<;>rfl
 refine Bd func106 rfl ntmps106<|Sr<|Dd aR<|Zz<|Sq<|Sr<|Dd aB<|Dd cP<|Zz ?_;refine Cn ?_ ?_<;>intro hc1
 ·(have:=aHn hc1;omega)
 refine aF<|Sr<|Dd aB<|Dd (jY aO)<|Dd (by exact eO rfl cJ iD rfl (show IntKind.u64.wrap (1:Int)=1 by rfl))<|Dd aB<|Dd (by exact eO rfl cJ iD rfl (show IntKind.u64.wrap (n:Int)=(n:Int)by rw [IntKind.wrap_u64];omega))<|Dd (by exact aA rfl rfl call132 rfl (hmul _))<|Dd aB<|Dd eC<|Dd eC<|Dd aR<|Dd aR<|Zz<|Sq<|Sq ?_;refine cQ (t:=26) (n:=7) (X:=false) ?_ ?_
 ·all_goals refine Dd aB ?_
  all_goals refine Dd yP<|Dm ?_
  all_goals refine Sp 23 (fun h23=>?_) fun h23=>?_
  all_goals try contradiction
  all_goals refine On aB<|On yP<|Dd cX<|Zz ?_
  all_goals(exact⟨⟨_,rfl,by simp;omega⟩,rfl,rfl,rfl⟩)
 refine Cn ?_ ?_<;>intro hc2
 ·cases hc2
 refine aF<|Sr<|Dd aB<|Dd (by exact eO rfl iD cJ rfl (eS (by omega) (by omega)))<|Dd (by exact jG (id:=960) rfl cD IB zo9 rfl rfl rfl (by omega) (by omega) (by exact aIC _) (by exact aIC _) (by omega) rfl)<|Dd aR<|Zz<|Sr<|Dd aB<|Dd aB<|Dd (by exact ZO (n:=min 1 n) rfl cD (HE rfl rfl rfl) rfl rfl rfl (aII _) (WD (len:=1) (ps:=[[.str z]]) (k:=min 1 n) rfl (by decide) (by intro r hr;rw [aHu] at hr;subst hr;rfl) rfl (by omega) rfl) (by intro r hr;obtain ⟨q,hq,rfl⟩:=List.mem_map.1 hr;have:=List.mem_of_mem_take hq;rw [aHu] at this;subst this;rfl) (by rw [aHr,aIF];show min (min 1 n) 1=min 1 n;omega) rfl hz0)<|Dd aR<|Zz<|Sq<|aJ ?_;refine bG (σ:=Nat) (fun m=>([(7,.osl 960 0 0 n),(8,iv (m:Int))],[(960,⟨0,1,9,lX z m n⟩)])) (fun m=>m≤n∧(n=0∨0 < m)) (fun m=>n - m) (min 1 n) ⟨by omega,by omega⟩ ?_ ?_
 ·exact(cC.wk (Ea<|Eb<|trivial) (Hc KR<|trivial) trivial)
 rintro m ⟨hm,hm0⟩;refine Sq<|Sr<|Dd aB<|Dd aB<|Dd (by exact cM rfl aO rfl rfl rfl)<|Dd cP<|Zz ?_;refine Cn ?_ ?_<;>intro hc3
 ·have hlt:m < n:=by have:=aHn hc3;omega
  obtain ⟨j,hj⟩:∃ j,j=min m (n - m):=⟨_,rfl⟩;have hrows:=S8 (z:=z) (j:=j) hm (by omega);have hrl:∀ r∈(lX z m n).take j,r.length=1:=fun r hr=>by
   have:=List.mem_of_mem_take hr;rcases List.mem_append.1 this with h|h<;>rw [List.eq_of_mem_replicate h]<;>rfl
  have hfl:=X1 (z:=z) hm;refine aF<|aJ<|bF follows<|Cr [] (fun _ _=>aB)<|Cr [960] (fun _ _=>aB)<|Cr [] (fun _ _=>aB)<|Cr [960] (fun H1 hH=>by exact jF (l:=m) (h:=n) rfl cD rfl ((hH 960 rfl).trans rfl) rfl rfl rfl rfl (by omega) (aHx _) (aIJ _) rfl)<|Cr [960] (fun _ _=>aB)<|Cr [] (fun _ _=>aB)<|Cr [960] (fun H1 hH=>by exact jF (l:=0) (h:=m) rfl cD rfl ((hH 960 rfl).trans rfl) rfl rfl rfl rfl (aII _) (by omega) rfl rfl)<|Cp [960] (fun H1 hH=>by exact ZO (n:=j) rfl cD (HE rfl ((hH 960 rfl).trans rfl) rfl) ((hH 960 rfl).trans rfl) rfl rfl (by rw [hfl];omega) (RL (k:=j) rfl ((hH 960 rfl).trans rfl) rfl rfl (by omega) rfl) hrl (by rw [aIF];show min j (lX z m n).length=j;rw [hfl];omega) hj.symm hrows)<|Cr [960] (fun _ _=>rL)<|Cr [] (fun _ _=>aR)<|cA<|Kr ?_;refine⟨m+j,⟨by omega,by omega⟩,by omega,?_⟩;exact(cC.wk (Ea<|Eb<|trivial) (Hc KR<|trivial) trivial)
 have hge:m=n:=by have:=aHo hc3;omega
 subst hge;have hfin:lX z m m=eA (List.replicate m z):=by rw [lX,Nat.sub_self,List.replicate_zero,List.append_nil,eA,List.map_replicate]
 refine aV<|Sr<|Dd aB<|Dd aR<|Zz<|aH ?_;refine bI (H':=[]) (.inr rfl) rfl (aI rfl) (Fin.st1 (List.replicate m z) rfl rfl hfin (List.length_replicate).symm) ?_;exact Qq
theorem QO {d:DSt} {N m:Nat} (h:DInv d N m) (k a n ar fr:Nat) (b:Bool) (l:List (ByteArray×ByteArray×Nat)) (c:Nat) (hk:k < 5000) (har:ar < 2) (hfr:fr≤k) (hm:m+k < 1048576) :
  aK Tryz.prog 56 [.ref 1100 0 0 0,iv (ar:Int),iv (fr:Int)] (sH d (dU k a n b) (cB l c)) (fun r H'=>r=iv (gY d (2+ar*k+fr) (List.replicate (k - fr) zS)).1∧H'=sH (gY d (2+ar*k+fr) (List.replicate (k - fr) zS)).2 (dU k a n (b||!decide ((gY d (2+ar*k+fr) (List.replicate (k - fr) zS)).1=0))) (cB l c)):=by
 have hark:ar*k≤k:=by
  rcases(show ar=0∨ar=1 by omega)with e|e<;>subst e<;>omega
 have hpl:=GD d k a n ar fr b l c (by omega) (by omega) (by omega);have hw:=sX h k a n (2+ar*k+fr) b l c (List.replicate (k - fr) zS) (by rw [List.length_replicate];omega) (by omega);have hrp:=fun H=>WT zS (k - fr) (by omega) H;obtain ⟨x,hx⟩:∃ x,x=gY d (2+ar*k+fr) (List.replicate (k - fr) zS):=⟨_,rfl⟩;rw [← hx] at hw ⊢;refine Bd func56 rfl ntmps56<|Sr<|Dd aR<|Zz<|Sq<|bF follows<|Cr [1100] (fun _ _=>aB)<|Cr [1100] (fun _ _=>aB)<|Cr [] (fun _ _=>aB)<|Cr [] (fun _ _=>aB)<|Cr [1000,1001,1002,1003,1100,1101] (fun H1 hH=>by exact aA rfl rfl aH2 rfl (jL hpl _ ⟨(hH 1000 rfl).trans rfl,(hH 1001 rfl).trans rfl,(hH 1002 rfl).trans rfl,(hH 1003 rfl).trans rfl,(hH 1100 rfl).trans rfl,(hH 1101 rfl).trans rfl,trivial⟩ (by simp;rfl)))<|Cr [] (fun H1 hH=>by exact aA rfl rfl vR rfl (vF _))<|Cr [] (fun H1 hH=>by exact bD [[.str zS]] rfl cD rfl rfl rfl rfl rfl (by simp))<|Cr [1100] (fun _ _=>aB)<|Cr [1100] (fun H1 hH=>by exact bK rfl rfl ((hH _ rfl).trans rfl) rfl)<|Cr [1100] (fun _ h=>fh zY h)<|Cr [1100] (fun _ h=>lh aL h)<|Cr [] (fun _ _=>aB)<|Cr [] (fun H1 hH=>by exact dG rfl rfl rfl (show IntKind.i64.wrap ((k:Int) - (fr:Int))=((k - fr:Nat):Int)by rw [eS (by omega) (by omega)];omega)) ?_;refine Cr [] (fun H1 hH=>by exact aA rfl rfl call106 rfl (hrp _)) ?_;refine dI (r:=⟨_,some [1000,1001,1002,1003,1100,1101],_⟩) (DStep.plain rfl (fun H1 hH=>by exact aA rfl rfl vQ rfl (kQ hw _ ⟨(hH 1000 rfl).trans rfl,(hH 1001 rfl).trans rfl,(hH 1002 rfl).trans rfl,(hH 1003 rfl).trans rfl,(hH 1100 rfl).trans rfl,(hH 1101 rfl).trans rfl,trivial⟩ (by simp;rfl)))) rfl ?_;refine Cr [1100] (fun _ _=>aR)<|cA<|Kr<|aH ?_;refine bI (H':=(sH x.2 (dU k a n (b||!decide (x.1=0))) (cB l c))) (.inr rfl) rfl (aI rfl) (Fin.wk (by(simp;done)) (Hc (aM _ _ rfl rfl rfl)<|Hc (aG _ _)<|Hc (aD _ _ _)<|Hc (aP _ _)<|Hc (cF rfl rfl)<|Hc (aU _ _ _)<|trivial) ⟨rfl,rfl,rfl,rfl,rfl,rfl,trivial⟩) ?_;exact Qq
end Go.Proofs.YtmkgeogoojcciaaGreatDoor
namespace Go.Abs
section
section
variable {P:Program} {N:Nat} {o:Oper} {E:bZ} {H:aE} {T kt et:TypeId} {x:Operand} {q gq:Nat} {oq:Ob}
theorem GN {w:World} {I:Nat→Prop} {ι:eE} {v:Value} (h:VRel w I ι H v (.pv .nilm)):v=.map none:=by cases h.pv_inv;rfl
theorem aE1 (ho:o.op=.call {callee:=.builtin .len,args:=#[x],argTypes:=#[T]}) (hT:P.underlying T=some (.map kt et)) (hx:aS E x=some (.pv .nilm)):bS P N o E H (.pv (.int .i64 0)) H :=.of_run fun a w I ι hr he=>by
  have hv:=GN (aN he hx);refine⟨.int .i64 0,?_,.pv (.int _ _)⟩;simp [execOp,ho,resolve,invoke,builtin,hv,Builtin.len_,run_underlying hT,goInt]
theorem MS (ho:o.op=.range T x) (hT:P.underlying T=some (.map kt et)) (hx:aS E x=some (.pv .nilm)) (hq:H.get q=none) :
  bS P N o E H (.it q 0) ((q,⟨0,0,0,gU (.pv .nilm) 0 0 []⟩)::H):=by
 intro a w I ι _ _ hr he K Q hk;have hvx0:=aN he hx;have hvx:=GN hvx0;obtain ⟨k2,k3⟩:=Rel.placeX (H':=(q,⟨0,0,0,gU (.pv .nilm) 0 0 []⟩)::H) (id:=q) (cap:=1) (ob':=⟨0,0,0,gU (.pv .nilm) 0 0 []⟩) (x:=.mapIter none 0 #[] 0) (w':=w.alloc (.mapIter none 0 #[] 0)) hr rfl rfl rfl rfl
  (fun o ho=>by rw [hq] at ho;cases ho) (fun hnew hI hmono=>.inr (.inr (.inl ⟨rfl,w.heap.size,none,0,#[],0,by simp,hnew,hI,rfl,⟨_,_,_,rfl,.pv .nilm,.pv (.int _ _),.pv (.int _ _)⟩,fun i r hr'=>by simp [gU] at hr'⟩)))
  (get_cons_same _ _ _) (fun j hj=>get_cons_other _ _ hj)
 have hrun:(execOp a.eval o).run P w=.ok (.value (.pointer (some ⟨w.heap.size,0,none⟩))) (w.alloc (.mapIter none 0 #[] 0)):=by
  simp only [execOp,ho,hvx];simp [Instr.range,run_underlying hT]
 unfold Oper.wpW;rw [hrun];exact hk _ _ I _ _ _ ⟨rfl,rfl⟩ (.it ⟨0,0,0,gU (.pv .nilm) 0 0 []⟩ (get_cons_same _ _ _) (aHx _) rfl fun _=>⟨rfl,w.heap.size,by simp,rfl⟩) k2 k3
theorem SU (ho:o.op=.next x false) (hx:aS E x=some (.it q gq)) (hQ:H.get q=some oq) (hgq:oq.g=gq) (hrq:oq.rows=gU (.pv .nilm) 0 0 []) :
  TU P N o E H (fun r H'=>(r=.tup [.pv (.bool false)]∧H'=H∧True)∨∃ (i:Nat) (p:Nat),False∧True∧r=.tup [.pv (.bool true)]∧H'=H):=by
 intro a w I ι _ _ hr he K Q hk;obtain ⟨hsz,b,hι,hvx⟩:=S0 (aN he hx) hQ hgq;obtain ⟨_,b',bm,since',seen',last',e1,e2,e3,e4,⟨m,n,k,z1,z2,z3,z4⟩,e6⟩:=(hr.obj q oq hQ).iter hsz hι;rw [hι] at e1;cases e1;rw [hrq] at z1;simp only [gU,List.getElem?_cons_zero,Option.some.injEq,List.cons.injEq,and_true] at z1;obtain ⟨rfl,rfl,rfl⟩:=z1;have hbm:=GN z2;cases hbm;have hrun:(Instr.next (.pointer (some ⟨b,0,none⟩)) false o.type).run P w=.ok (.tuple #[.bool false]) w:=by
  simp only [Instr.next,getObj,Sem.run_bind,Sem.run,e2,Result.andThen];rfl
 unfold Oper.wpW execOp;simp only [ho,hvx,Sem.run_bind,hrun,Result.andThen_ok,Sem.run_pure];refine hk _ _ I ι _ _ (.inl ⟨rfl,rfl,trivial⟩) (.tup rfl (fun i v c hv hc=>?_)) hr (Step.refl _ _ _ _)
 match i with
 | 0=>simp at hv hc;subst hv hc;exact .pv (.bool _)
 | i+1=>simp at hv
end
section
variable {ρ:Nat→Nat} (hρ:∀ i,ρ (ρ i)=i)
include hρ
theorem aK.renQ {P:Program} {f:FuncId} {args args':List AV} {H H':aE} {R:AV→aE→Prop} (h:aK P f args H R) (ha:kR ρ args=args') (hH:jM ρ H=H') :
  aK P f args' H' (fun x K=>∃ x0 K0,R x0 K0∧x=jN ρ x0∧K=jM ρ K0):=by
 subst ha hH;intro I ι w vs hrel hl hv;have hrel':=hrel.ren hρ;rw [xL hρ] at hrel';have hl':vs.size=args.length:=by rw [hl,iP,aHr]
 refine(h I _ w vs hrel' hl' (fun i v a h1 h2=>?_)).mono ?_
 ·have:=(hv i v (jN ρ a) h1 (by rw [iP,aIL,h2];rfl)).ren hρ
  rwa [xL hρ,(CV hρ [a]).2 a (by simp)] at this
 rintro e w' ⟨x,K,I',ι',v,rfl,hR,k1,k2,k3⟩;have k3':=k3.ren hρ;have e1:(fun j=>(fun j=>ι (ρ j)) (ρ j))=ι:=by funext j;simp only [hρ]
 rw [e1] at k3';exact⟨_,_,I',_,v,rfl,⟨_,_,hR,rfl,rfl⟩,k1.ren hρ,k2.ren hρ,k3'⟩
end
end
end Go.Abs
