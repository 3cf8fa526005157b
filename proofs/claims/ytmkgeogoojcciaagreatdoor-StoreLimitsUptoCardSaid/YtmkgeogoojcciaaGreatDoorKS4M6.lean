/-
  Parts of the proof: rules of an abstract program logic, contracts of functions, plain laws. Conditions: each theorem's own.
-/
import Derived.Test.YtmkgeogoojcciaaGreatDoorKS4M5
set_option linter.unusedVariables false
set_option linter.unusedSimpArgs false
set_option maxRecDepth 100000
set_option maxHeartbeats 8000000
namespace Go.Proofs
theorem YO:type_of% Tryz.call105:=Tryz.call105
theorem oP:type_of% Tryz.call43:=Tryz.call43
theorem DZ:type_of% Tryz.call48:=Tryz.call48
theorem Y0:type_of% Tryz.call55:=Tryz.call55
theorem YZ:type_of% Tryz.call85:=Tryz.call85
theorem oO:type_of% Tryz.call90:=Tryz.call90
theorem oM:type_of% Tryz.call99:=Tryz.call99
theorem bS:type_of% Tryz.isAgg33:=Tryz.isAgg33
theorem aV:type_of% Tryz.underlying33:=Tryz.underlying33
end Go.Proofs
namespace Go.Proofs.YtmkgeogoojcciaaGreatDoor
open Go.Proofs.Tryz
open Go.Abs Go.Lib
def nF (d:DSt) (place:Nat) (L:List ByteArray):Nat→Int×DSt
 | 0=>(0,d)
 | i+1=>if(nF d place L i).1=0 then(hU (nF d place L i).2 ((place+i:Nat):Int) (L.getD i sNil),iW (nF d place L i).2 ((place+i:Nat):Int) (L.getD i sNil))else nF d place L i
def jI (d:DSt) (place:Nat) (L:List ByteArray):Int×DSt :=if(nF d place L L.length).1=0 then(mH (nF d place L L.length).2,iX (nF d place L L.length).2)else nF d place L L.length
theorem D6 {d:DSt} {place:Nat} {L:List ByteArray} {i:Nat} (h:¬ (nF d place L i).1=0):∀ j,nF d place L (i+j)=nF d place L i
 | 0=>rfl
 | j+1=>by rw [← Nat.add_assoc,nF,D6 h j,ZJ h]
theorem pT {d:DSt} {n m:Nat} (h:DInv d n m) (place:Nat) (L:List ByteArray):∀ i,m+i≤1048576→DInv (nF d place L i).2 n (m+i)
 | 0,_=>h
 | i+1,hi=>by
  have ih:=pT h place L i (by omega);rw [nF]
  split
  ·exact BG ih (by omega) _ _
  exact ih.mono (by omega)
theorem kP {d:DSt} {n m:Nat} (h:DInv d n m) (place:Nat) (L:List ByteArray) (hm:m+L.length≤1048576):DInv (jI d place L).2 n (m+L.length):=by
 rw [jI]
 split
 ·exact PQ (pT h place L _ hm)
 exact pT h place L _ hm
theorem mO {d:DSt} {n m:Nat} (h:DInv d n m) (k a cn place:Nat) (b:Bool) (l:List (ByteArray×ByteArray×Nat)) (c:Nat) (L:List ByteArray) (hm:m+L.length < 1048576) (hpl:place < 100000) :
  aJ Tryz.prog 90 [.ref 1100 0 0 0,iv (place:Int),.pv (aY L)] (sH d (cC k a cn b) (bK l c)) (fun r H'=>r=iv (jI d place L).1∧H'=sH (jI d place L).2 (cC k a cn (b||!decide ((jI d place L).1=0))) (bK l c)):=by
 have hml:(L.map encStr).length=L.length:=ZL _;refine Bd func90 rfl ntmps90<|Sr<|Dd aS<|Zz<|Sr<|Dd aS<|Zz<|Sq<|Sr<|Dd aS<|Zz<|aP ?_;refine bR (σ:=Nat) (fun i=>([(0,.ref 1100 0 0 0),(1,iv (place:Int)),(2,.pv (aY L)),(7,iv (nF d place L i).1),(8,iv (i:Int))],sH (nF d place L i).2 (cC k a cn b) (bK l c))) (fun i=>i≤L.length∧∀ j,j < i→(nF d place L j).1=0) (fun i=>L.length - i) 0 ⟨Z3 _,fun j hj=>absurd hj (Nat.not_lt_zero _)⟩ ?_ ?_
 ·exact(cG.wk (Ea<|Eb<|Eb<|Eb<|Eb<|trivial) (Hc (aG _ _ rfl rfl rfl)<|Hc (aC _ _)<|Hc (aM _ _ _)<|Hc (aL _ _)<|Hc (bA rfl rfl)<|Hc (aT _ _ _)<|trivial) ⟨rfl,rfl,rfl,rfl,rfl,rfl,trivial⟩)
 rintro i ⟨hi,hz⟩;have hx:=pT h place L i (by omega);have hst:=D6 (d:=d) (place:=place) (L:=L) (i:=i);have hnx:nF d place L (i+1)=if(nF d place L i).1=0 then(hU (nF d place L i).2 ((place+i:Nat):Int) (L.getD i sNil),iW (nF d place L i).2 ((place+i:Nat):Int) (L.getD i sNil))else nF d place L i:=rfl;have hzi:(nF d place L i).1=0→∀ j,j < i+1→(nF d place L j).1=0:=fun h j hj=>by
  rcases Nat.lt_succ_iff_lt_or_eq.1 hj with h1|rfl
  ·exact hz j h1
  exact h
 rcases hp:nF d place L i with⟨e,d1⟩;simp only [hp] at hx hst hnx hzi ⊢;refine Sq<|Sq ?_;refine dF (t:=16) (n:=9) (X:=decide ((i:Int) < ((L.map encStr).length:Int))&&decide (e=0)) ?_ ?_
 ·all_goals refine Dd aF ?_
  all_goals refine Dd aF<|Dd (qQ aQ)<|Dd eF<|Dm ?_
  all_goals refine Sp 13 (fun h13=>?_) fun h13=>?_
  all_goals try contradiction
  all_goals first|refine Fo<|Fo ?_|refine On aF<|On gS ?_
  all_goals refine Dd dU<|Zz ?_
  all_goals(exact⟨⟨_,rfl,by(rw [h13];rfl)⟩,rfl,rfl,rfl⟩)
 refine Cn ?_ ?_<;>intro hc1
 ·have hq:i < L.length∧e=0:=by have h:=hc1;rw [ZU,ZS,ZS] at h;exact⟨by omega,h.2⟩
  obtain ⟨t,ht⟩:=bM hq.1;have hit:=fV (f:=encStr) ht;have hgt:L.getD i sNil=t:=by rw [List.getD_eq_getElem?_getD,ht];rfl
  rw [hgt,ZK hq.2] at hnx;have hw:=SF d1 ((place+i:Nat):Int) t hx.ok hx.arm (by have:=hx.q;omega);refine aK<|Sq<|aP<|bU follows<|Cr [1100] (fun _ _=>aF)<|Cr [1100] (fun H1 hH=>by exact bO rfl rfl ((hH _ rfl).trans rfl) rfl)<|Cr [1100] (fun _ h=>fh rU h)<|Cr [1100] (fun _ h=>lh mN h)<|Cr [] (fun _ _=>aF)<|Cr [] (fun _ _=>aF)<|Cr [] (fun H1 hH=>by exact bZ rfl rfl rfl (show IntKind.i64.wrap ((place:Int)+(i:Int))=((place+i:Nat):Int)by rw [gV (by omega) (by omega)];omega))<|Cr [] (fun _ _=>aF)<|Cr [] (fun _ _=>aF)<|Cr [] (fun _ _=>(KV cK))<|Cr [] (fun _ _=>(AK bB)) ?_;refine cF (r:=⟨_,some [1000,1001,1002,1003],_⟩) (DStep.plain rfl (fun H1 hH=>by exact aB rfl rfl call121 rfl (cE hw _ ⟨(hH 1000 rfl).trans rfl,(hH 1001 rfl).trans rfl,(hH 1002 rfl).trans rfl,(hH 1003 rfl).trans rfl,trivial⟩ (by simp;rfl)))) rfl ?_;refine Cr [] (fun _ _=>aS)<|dO<|Kr<|Rg<|Dd aF<|Dd rD<|Da ?_;refine⟨i+1,⟨by omega,hzi hq.2⟩,by omega,?_⟩;dsimp only;rw [hnx];exact(cG.wk (Ea<|Eb<|Eb<|Eb<|Eb<|trivial) (Hc (aG _ _ rfl rfl rfl)<|Hc (aC _ _)<|Hc (aM _ _ _)<|Hc (aL _ _)<|Hc (bA rfl rfl)<|Hc (aT _ _ _)<|trivial) ⟨rfl,rfl,rfl,rfl,rfl,rfl,trivial⟩)
 have hq:i=L.length∨¬ e=0:=by have h:=hc1;rw [Bool.and_eq_false_iff,ZT,ZT] at h;omega
 have hend:nF d place L L.length=(e,d1):=by
  by_cases he:e=0
  ·rcases hq with hq|hq
   ·rw [← hq];exact hp
   exact absurd he hq
  have:=hst he (L.length - i)
  rwa [show i+(L.length - i)=L.length by omega] at this
 rw [jI,hend];refine bL<|Sq<|Sr<|Dd aF<|Dd gS<|Zz ?_;refine Cn ?_ ?_<;>intro hc2
 ·have he:e=0:=ZH hc2;have hs:=VD d1 hx.ok hx.arm;rw [ZK he];cases b
  ·refine Rg<|Dd aF<|Dd fH<|Dd (dX rU)<|Dd (eQ mN)<|Dd (by exact aB rfl rfl call122 rfl (cE hs _ ⟨rfl,rfl,rfl,rfl,trivial⟩ (by simp;rfl)))<|Dd aS<|Zz<|Sr<|Dd aF<|Dd aF<|Dd fH<|Dd (dX jR)<|Dd (eQ dM)<|Dd aF<|On aF<|On uG<|Dd dU<|Dd fH<|Dd (dX jR)<|Uu (by exact dI rfl sizeOf4 rfl rfl rfl rfl rfl rfl (by simp only [ZN,List.length_nil];omega) (by simp only [Zl,encStr];rfl) (by simp only [Zl,encStr];rfl))<|Zz<|Sr<|Dd aF<|Dd aS<|Zz<|aN ?_;refine bD (H':=(sH (iX d1) (cC k a cn (false||!decide (mH d1=0))) (bK l c))) (.inr rfl) rfl (aI rfl) (Fin.wk (by(simp;done)) (Hc (aG _ _ rfl rfl rfl)<|Hc (aC _ _)<|Hc (aM _ _ _)<|Hc (aL _ _)<|Hc (bA rfl rfl)<|Hc (aT _ _ _)<|trivial) ⟨rfl,rfl,rfl,rfl,rfl,rfl,trivial⟩) ?_;exact Qq
  refine Rg<|Dd aF<|Dd fH<|Dd (dX rU)<|Dd (eQ mN)<|Dd (by exact aB rfl rfl call122 rfl (cE hs _ ⟨rfl,rfl,rfl,rfl,trivial⟩ (by simp;rfl)))<|Dd aS<|Zz<|Sr<|Dd aF<|Dd aF<|Dd fH<|Dd (dX jR)<|Dd (eQ dM)<|Dd aF<|Fo<|Fo<|Dd dU<|Dd fH<|Dd (dX jR)<|Uu (by exact dI rfl sizeOf4 rfl rfl rfl rfl rfl rfl (by simp only [ZN,List.length_nil];omega) (by simp only [Zl,encStr];rfl) (by simp only [Zl,encStr];rfl))<|Zz<|Sr<|Dd aF<|Dd aS<|Zz<|aN ?_;refine bD (H':=(sH (iX d1) (cC k a cn true) (bK l c))) (.inr rfl) rfl (aI rfl) (Fin.wk (by(simp;done)) (Hc (aG _ _ rfl rfl rfl)<|Hc (aC _ _)<|Hc (aM _ _ _)<|Hc (aL _ _)<|Hc (bA rfl rfl)<|Hc (aT _ _ _)<|trivial) ⟨rfl,rfl,rfl,rfl,rfl,rfl,trivial⟩) ?_;exact Qq
 have he:¬ e=0:=ZI hc2;rw [ZJ he];cases b
 ·refine aK<|Sr<|Dd aF<|Dd aF<|Dd fH<|Dd (dX jR)<|Dd (eQ dM)<|Dd aF<|On aF<|On uG<|Dd dU<|Dd fH<|Dd (dX jR)<|Uu (by exact dI rfl sizeOf4 rfl rfl rfl rfl rfl rfl (by simp only [ZN,List.length_nil];omega) (by simp only [Zl,encStr];rfl) (by simp only [Zl,encStr];rfl))<|Zz<|Sr<|Dd aF<|Dd aS<|Zz<|aN ?_;refine bD (H':=(sH d1 (cC k a cn (false||!decide (e=0))) (bK l c))) (.inr rfl) rfl (aI rfl) (Fin.wk (by(simp;done)) (Hc (aG _ _ rfl rfl rfl)<|Hc (aC _ _)<|Hc (aM _ _ _)<|Hc (aL _ _)<|Hc (bA rfl rfl)<|Hc (aT _ _ _)<|trivial) ⟨rfl,rfl,rfl,rfl,rfl,rfl,trivial⟩) ?_;exact Qq
 refine aK<|Sr<|Dd aF<|Dd aF<|Dd fH<|Dd (dX jR)<|Dd (eQ dM)<|Dd aF<|Fo<|Fo<|Dd dU<|Dd fH<|Dd (dX jR)<|Uu (by exact dI rfl sizeOf4 rfl rfl rfl rfl rfl rfl (by simp only [ZN,List.length_nil];omega) (by simp only [Zl,encStr];rfl) (by simp only [Zl,encStr];rfl))<|Zz<|Sr<|Dd aF<|Dd aS<|Zz<|aN ?_;refine bD (H':=(sH d1 (cC k a cn true) (bK l c))) (.inr rfl) rfl (aI rfl) (Fin.wk (by(simp;done)) (Hc (aG _ _ rfl rfl rfl)<|Hc (aC _ _)<|Hc (aM _ _ _)<|Hc (aL _ _)<|Hc (bA rfl rfl)<|Hc (aT _ _ _)<|trivial) ⟨rfl,rfl,rfl,rfl,rfl,rfl,trivial⟩) ?_;exact Qq
abbrev zS:ByteArray:=ofL (zB 64)
abbrev hS (place a cn:Nat):ByteArray:=ofL (BH place a cn)
def oR (place a cn:Nat):Bool→ByteArray
 | true=>hS place a cn
 | false=>zS
def uF (d:DSt) (place a cn:Nat) (hd:Bool):Int×DSt:=if bW d place=oR place a cn hd then(0,d)else if(jI d place [zS]).1=0∧hd=true then jI (jI d place [zS]).2 place [oR place a cn hd] else jI d place [zS]
theorem A3 {d:DSt} {n m:Nat} (h:DInv d n m) (hoff:d.off=false) (k a cn place:Nat) (b hd:Bool) (l:List (ByteArray×ByteArray×Nat)) (c:Nat) (hm:m+2 < 1048576) (hp:place < d.cells.length) (ha:a < 10) (hcn:cn < 1000000000000) :
  aJ Tryz.prog 45 [.ref 1100 0 0 0,iv (place:Int),bv hd] (sH d (cC k a cn b) (bK l c)) (fun r H'=>r=iv (uF d place a cn hd).1∧H'=sH (uF d place a cn hd).2 (cC k a cn (b||!decide ((uF d place a cn hd).1=0))) (bK l c)):=by
 have hn2:=h.ok.n2;have hrd:=wS h.ok hoff hp;have hw:=mO h k a cn place b l c [zS] (by rw [List.length_singleton];omega) (by omega);have hi1:=kP h place [zS] (by rw [List.length_singleton];omega);have hhd:=fun H=>DD place a cn (by omega) ha hcn H;rw [uF];cases hd
 ·refine Bd func45 rfl ntmps45<|Sr<|Dd aS<|Zz<|Sr<|Dd aF<|Dd fH<|Dd (dX rU)<|Dd (eQ mN)<|Dd aF<|Dd (by exact aB rfl rfl uL rfl (hrd _ ⟨rfl,rfl,rfl,rfl,trivial⟩))<|Dd aF<|Dd eR<|Dd eR<|Dd aS<|Dd aS<|Zz<|Sr<|Dd (by exact aB rfl rfl oP rfl (nW _))<|Dd aS<|Zz<|Sq<|Sr<|Dd aF<|Zz ?_;refine Cn ?_ ?_<;>intro hc1
  ·cases hc1
  refine aK<|Sq<|Sr<|Dd aF<|Dd aF<|Dd VI<|Zz ?_;refine Cn ?_ ?_<;>intro hc2
  ·have he:bW d place=oR place a cn false:=ZH hc2;rw [ZK he];refine Sr<|Dd aS<|Zz<|aN ?_;refine bD (H':=(sH d (cC k a cn b) (bK l c))) (.inr rfl) rfl (aI rfl) (Fin.wk (by(simp;done)) (Hc (aG _ _ rfl rfl rfl)<|Hc (aC _ _)<|Hc (aM _ _ _)<|Hc (aL _ _)<|Hc (bA rfl rfl)<|Hc (aT _ _ _)<|trivial) ⟨rfl,rfl,rfl,rfl,rfl,rfl,trivial⟩) ?_;exact⟨rfl,by cases b<;>rfl⟩
  have he:¬ bW d place=oR place a cn false:=ZI hc2;rw [ZJ he,ZJ (fun h=>by cases h.2)];refine aK<|Sr<|Dd aF<|Dd aF<|Dd (by exact aB rfl rfl oP rfl (nW _))<|Dd (by exact bH [[.str zS]] rfl cK rfl rfl rfl rfl rfl (by simp))<|Dd (by exact aB rfl rfl oO rfl (hw))<|Dd aS<|Zz<|Sq<|Sq ?_;refine dF (t:=40) (n:=6) (X:=false) ?_ ?_
  ·all_goals refine Dd aF ?_
   all_goals refine Dd gS<|Dm ?_
   all_goals refine Sp 38 (fun h38=>?_) fun h38=>?_
   all_goals try contradiction
   all_goals first|refine Fo ?_|refine On aF ?_
   all_goals refine Dd dU<|Zz ?_
   all_goals(exact⟨⟨_,rfl,by rfl⟩,rfl,rfl,rfl⟩)
  refine Cn ?_ ?_<;>intro hc3
  ·cases hc3
  refine aK<|Sr<|Dd aF<|Dd aS<|Zz<|aN ?_;refine bD (H':=(sH (jI d place [zS]).2 (cC k a cn (b||!decide ((jI d place [zS]).1=0))) (bK l c))) (.inr rfl) rfl (aI rfl) (Fin.wk (by(simp;done)) (Hc (aG _ _ rfl rfl rfl)<|Hc (aC _ _)<|Hc (aM _ _ _)<|Hc (aL _ _)<|Hc (bA rfl rfl)<|Hc (aT _ _ _)<|trivial) ⟨rfl,rfl,rfl,rfl,rfl,rfl,trivial⟩) ?_;exact Qq
 refine Bd func45 rfl ntmps45<|Sr<|Dd aS<|Zz<|Sr<|Dd aF<|Dd fH<|Dd (dX rU)<|Dd (eQ mN)<|Dd aF<|Dd (by exact aB rfl rfl uL rfl (hrd _ ⟨rfl,rfl,rfl,rfl,trivial⟩))<|Dd aF<|Dd eR<|Dd eR<|Dd aS<|Dd aS<|Zz<|Sr<|Dd (by exact aB rfl rfl oP rfl (nW _))<|Dd aS<|Zz<|Sq<|Sr<|Dd aF<|Zz ?_;refine Cn ?_ ?_<;>intro hc1
 ·refine Rg<|Dd aF<|Dd aF<|Dd fH<|Dd (dX lK)<|Dd (TA cV sizeOf70)<|Dd (by exact aB rfl rfl R4 rfl (hhd _))<|Dd aS<|Zz<|Sq<|Sr<|Dd aF<|Dd aF<|Dd VI<|Zz ?_;refine Cn ?_ ?_<;>intro hc2
  ·have he:bW d place=oR place a cn true:=ZH hc2;rw [ZK he];refine Sr<|Dd aS<|Zz<|aN ?_;refine bD (H':=(sH d (cC k a cn b) (bK l c))) (.inr rfl) rfl (aI rfl) (Fin.wk (by(simp;done)) (Hc (aG _ _ rfl rfl rfl)<|Hc (aC _ _)<|Hc (aM _ _ _)<|Hc (aL _ _)<|Hc (bA rfl rfl)<|Hc (aT _ _ _)<|trivial) ⟨rfl,rfl,rfl,rfl,rfl,rfl,trivial⟩) ?_;exact⟨rfl,by cases b<;>rfl⟩
  have he:¬ bW d place=oR place a cn true:=ZI hc2;rw [ZJ he];refine aK<|Sr<|Dd aF<|Dd aF<|Dd (by exact aB rfl rfl oP rfl (nW _))<|Dd (by exact bH [[.str zS]] rfl cK rfl rfl rfl rfl rfl (by simp))<|Dd (by exact aB rfl rfl oO rfl (hw))<|Dd aS<|Zz<|Sq<|Sq ?_;refine dF (t:=40) (n:=6) (X:=decide ((jI d place [zS]).1=0)) ?_ ?_
  ·all_goals refine Dd aF ?_
   all_goals refine Dd gS<|Dm ?_
   all_goals refine Sp 38 (fun h38=>?_) fun h38=>?_
   all_goals try contradiction
   all_goals first|refine Fo ?_|refine On aF ?_
   all_goals refine Dd dU<|Zz ?_
   all_goals(exact⟨⟨_,rfl,by(simp_all;done)⟩,rfl,rfl,rfl⟩)
  refine Cn ?_ ?_<;>intro hc3
  ·have hz:(jI d place [zS]).1=0:=ZH hc3;rw [ZK ⟨hz,rfl⟩];have hw2:=mO hi1 k a cn place b l c [hS place a cn] (by rw [List.length_singleton,List.length_singleton];omega) (by omega);have hbz:(b||!decide ((jI d place [zS]).1=0))=b:=by rw [hz];cases b<;>rfl
   rw [hbz];refine Rg<|Dd aF<|Dd aF<|Dd aF<|Dd (by exact bH [[.str (hS place a cn)]] rfl cK rfl rfl rfl rfl rfl (by simp))<|Dd (by exact aB rfl rfl oO rfl (hw2))<|Dd aS<|Zz<|Sr<|Dd aF<|Dd aS<|Zz<|aN ?_;refine bD (H':=(sH (jI (jI d place [zS]).2 place [hS place a cn]).2 (cC k a cn (b||!decide ((jI (jI d place [zS]).2 place [hS place a cn]).1=0))) (bK l c))) (.inr rfl) rfl (aI rfl) (Fin.wk (by(simp;done)) (Hc (aG _ _ rfl rfl rfl)<|Hc (aC _ _)<|Hc (aM _ _ _)<|Hc (aL _ _)<|Hc (bA rfl rfl)<|Hc (aT _ _ _)<|trivial) ⟨rfl,rfl,rfl,rfl,rfl,rfl,trivial⟩) ?_;exact Qq
  have hz:¬ (jI d place [zS]).1=0:=ZI hc3;rw [ZJ (fun h=>hz h.1)];refine aK<|Sr<|Dd aF<|Dd aS<|Zz<|aN ?_;refine bD (H':=(sH (jI d place [zS]).2 (cC k a cn (b||!decide ((jI d place [zS]).1=0))) (bK l c))) (.inr rfl) rfl (aI rfl) (Fin.wk (by(simp;done)) (Hc (aG _ _ rfl rfl rfl)<|Hc (aC _ _)<|Hc (aM _ _ _)<|Hc (aL _ _)<|Hc (bA rfl rfl)<|Hc (aT _ _ _)<|trivial) ⟨rfl,rfl,rfl,rfl,rfl,rfl,trivial⟩) ?_;exact Qq
 cases hc1
theorem SN {d d':DSt} {o o' m m':Ob} {id:Nat} (h:((sH d' o' m').get id).isSome=true):((sH d o m).get id).isSome=true:=by simp only [sH,aA.get] at h ⊢;cases e0:Nat.beq 1000 id<;>cases e1:Nat.beq 1001 id<;>cases e2:Nat.beq 1002 id<;>cases e3:Nat.beq 1003 id<;>cases e4:Nat.beq 1100 id<;>cases e5:Nat.beq 1101 id<;>simp [e0,e1,e2,e3,e4,e5] at h ⊢
theorem gC {f:FuncId} {args:List AV} {d d':DSt} {k a n:Nat} {b:Bool} {l:List (ByteArray×ByteArray×Nat)} {c:Nat} {o' m':Ob} {r0:AV} (h:aJ Tryz.prog f args (sH d (cC k a n b) (bK l c)) (fun r H'=>r=r0∧H'=sH d' o' m')) (H:aA) (hs:GX H (sH d (cC k a n b) (bK l c))) (ha:∀ x∈args,Clo (sH d (cC k a n b) (bK l c)) x) :
  aJ Tryz.prog f args H (fun r H'=>r=r0∧H'=sH d' o' m'++H):=h.frame hs.sub (pY _ _ _ _ _ _ _) ha (fun id hid=>.inl (SN hid))
def wI (d:DSt) (a cn:Nat):Int×DSt:=if(jI d 1 [hS 1 a cn]).1=0 then jI (jI d 1 [hS 1 a cn]).2 0 [hS 0 a cn] else jI d 1 [hS 1 a cn]
theorem OO {d:DSt} {n m:Nat} (h:DInv d n m) (a cn:Nat) (hm:m+2≤1048576):DInv (wI d a cn).2 n (m+2):=by
 have h1:=kP h 1 [hS 1 a cn] (by rw [List.length_singleton];omega);have h2:=kP h1 0 [hS 0 a cn] (by rw [List.length_singleton,List.length_singleton];omega);rw [List.length_singleton] at h1 h2;rw [wI]
 split
 ·exact h2
 exact h1.mono (by omega)
def YS (a b c:DSt):Nat→DSt
 | 0=>a
 | 1=>b
 | _=>c
theorem VG {d:DSt} {n m:Nat} (h:DInv d n m) (k a cn a2 cn2:Nat) (b:Bool) (l:List (ByteArray×ByteArray×Nat)) (c:Nat) (hm:m+2 < 1048576) (ha:a2 < 10) (hcn:cn2 < 1000000000000) :
  aJ Tryz.prog 103 [.ref 1100 0 0 0,.agg [iv (a2:Int),iv (cn2:Int)]] (sH d (cC k a cn b) (bK l c)) (fun r H'=>r=iv (wI d a2 cn2).1∧H'=sH (wI d a2 cn2).2 (if(wI d a2 cn2).1=0 then cC k a2 cn2 b else cC k a cn true) (bK l c)):=by
 have hw:=mO h k a cn 1 b l c [hS 1 a2 cn2] (by rw [List.length_singleton];omega) (by omega);have h1:=kP h 1 [hS 1 a2 cn2] (by rw [List.length_singleton];omega);have hw2:=mO h1 k a cn 0 b l c [hS 0 a2 cn2] (by rw [List.length_singleton,List.length_singleton];omega) (by omega);have hh1:=fun H=>DD 1 a2 cn2 (by omega) ha hcn H;have hh0:=fun H=>DD 0 a2 cn2 (by omega) ha hcn H;rw [wI];obtain ⟨x,hx⟩:∃ x,x=jI d 1 [hS 1 a2 cn2]:=⟨_,rfl⟩;rw [← hx] at hw hw2 ⊢;obtain ⟨y,hy⟩:∃ y,y=jI x.2 0 [hS 0 a2 cn2]:=⟨_,rfl⟩;rw [← hy] at hw2 ⊢;clear hx hy h1;have hr0:([[PV.int .i64 1],[PV.int .i64 0]]:List (List PV))[0]?=some [PV.int .i64 1]:=rfl;have hr1:([[PV.int .i64 1],[PV.int .i64 0]]:List (List PV))[1]?=some [PV.int .i64 0]:=rfl;refine Bd func103 rfl ntmps103<|Sr<|Dd (by exact gN (id:=3) rfl rfl rfl rfl rfl)<|Dd aS<|Zz<|Sq<|Sq ?_;refine gP.ent (E':=[(0,.ref 1100 0 0 0),(3,.ref 3 0 0 0)]) (H':=(3,bx 2 70 [iv (a2:Int),iv (cn2:Int)])::sH d (cC k a cn b) (bK l c)) (cG.wk (Ea<|Ea<|trivial) (Hb<|Hc (aG _ _ rfl rfl rfl)<|Hc (aC _ _)<|Hc (aM _ _ _)<|Hc (aL _ _)<|Hc (bA rfl rfl)<|Hc (aT _ _ _)<|trivial) ⟨rfl,rfl,rfl,rfl,rfl,rfl,trivial⟩) ?_;refine Rg<|Dd (by exact bH [[.int .i64 1],[.int .i64 0]] rfl K8 rfl rfl rfl rfl rfl (by simp))<|Dd (qQ NJ)<|Dd aF<|Zz<|aP ?_;refine bR (σ:=Nat) (fun i=>([(0,.ref 1100 0 0 0),(3,.ref 3 0 0 0),(8,.pv (.sl [[.int .i64 1],[.int .i64 0]])),(9,iv 2),(10,iv (i:Int))],(3,bx 2 70 [iv (a2:Int),iv (cn2:Int)])::sH (YS d x.2 y.2 i) (cC k a cn b) (bK l c))) (fun i=>i≤2∧(0 < i→x.1=0)∧(1 < i→y.1=0)) (fun i=>2 - i) 0 ⟨by omega,fun h=>absurd h (Nat.lt_irrefl _),fun h=>absurd h (by omega)⟩ ?_ ?_
 ·exact(cG.wk (Ea<|Ea<|Eb<|Eb<|Eb<|trivial) (Hb<|Hc (aG _ _ rfl rfl rfl)<|Hc (aC _ _)<|Hc (aM _ _ _)<|Hc (aL _ _)<|Hc (bA rfl rfl)<|Hc (aT _ _ _)<|trivial) ⟨rfl,rfl,rfl,rfl,rfl,rfl,trivial⟩)
 rintro i ⟨hi,hx0,hy0⟩;have h3:i=0∨i=1∨i=2:=by omega
 rcases h3 with rfl|rfl|rfl
 ·refine Sr<|Dd eF<|Zz<|Sq ?_;refine Cn ?_ ?_<;>intro hc1
  ·refine aK<|Sq<|aP<|Sr<|Dd (by exact eT (m:=0) rfl K8 rfl rfl (by decide) rfl rfl rfl)<|Dd (AK aU)<|Dd aS<|Zz<|Sr<|Dd aF<|Dd aF<|Dd aF<|Dd (TA cV sizeOf70)<|Dd (by exact aB rfl rfl R4 rfl (hh1 _))<|Dd (by exact bH [[.str (hS 1 a2 cn2)]] rfl cK rfl rfl rfl rfl rfl (by simp))<|Dd (by exact aB rfl rfl oO rfl (gC hw _ ⟨rfl,rfl,rfl,rfl,rfl,rfl,trivial⟩ (by simp;rfl)))<|Dd aS<|Zz<|Sr<|Dd aF<|Dd uG<|Zz ?_;refine Cn ?_ ?_<;>intro hc2
   ·have he:¬ x.1=0:=by have h:=hc2;simpa using h
    have hb:(b||!decide (x.1=0))=true:=by rw [decide_eq_false he];cases b<;>rfl
    rw [ZJ he,ZJ he,hb];refine Sr<|Dd aF<|Dd aS<|Zz<|aN ?_;refine bD (H':=(sH x.2 (cC k a cn true) (bK l c))) (.inr rfl) rfl (aI rfl) (Fin.wk (by(simp;done)) (Hc (aG _ _ rfl rfl rfl)<|Hc (aC _ _)<|Hc (aM _ _ _)<|Hc (aL _ _)<|Hc (bA rfl rfl)<|Hc (aT _ _ _)<|trivial) ⟨rfl,rfl,rfl,rfl,rfl,rfl,trivial⟩) ?_;exact Qq
   have he:x.1=0:=by have h:=hc2;simpa using h
   have hb:(b||!decide (x.1=0))=b:=by rw [he];cases b<;>rfl
   rw [hb];refine aK<|Rg<|Dd rD<|Dd aF<|Zz ?_;refine⟨1,⟨by omega,fun _=>he,fun h=>absurd h (by omega)⟩,by omega,?_⟩;exact(cG.wk (Ea<|Ea<|Eb<|Eb<|Eb<|trivial) (Hb<|Hc (aG _ _ rfl rfl rfl)<|Hc (aC _ _)<|Hc (aM _ _ _)<|Hc (aL _ _)<|Hc (bA rfl rfl)<|Hc (aT _ _ _)<|trivial) ⟨rfl,rfl,rfl,rfl,rfl,rfl,trivial⟩)
  cases hc1
 ·have he0:=hx0 (by omega);refine Sr<|Dd eF<|Zz<|Sq ?_;refine Cn ?_ ?_<;>intro hc3
  ·refine aK<|Sq<|aP<|Sr<|Dd (by exact eT (m:=1) rfl K8 rfl rfl (by decide) rfl rfl rfl)<|Dd (AK aU)<|Dd aS<|Zz<|Sr<|Dd aF<|Dd aF<|Dd aF<|Dd (TA cV sizeOf70)<|Dd (by exact aB rfl rfl R4 rfl (hh0 _))<|Dd (by exact bH [[.str (hS 0 a2 cn2)]] rfl cK rfl rfl rfl rfl rfl (by simp))<|Dd (by exact aB rfl rfl oO rfl (gC hw2 _ ⟨rfl,rfl,rfl,rfl,rfl,rfl,trivial⟩ (by simp;rfl)))<|Dd aS<|Zz<|Sr<|Dd aF<|Dd uG<|Zz ?_;refine Cn ?_ ?_<;>intro hc4
   ·have he:¬ y.1=0:=by have h:=hc4;simpa using h
    have hb:(b||!decide (y.1=0))=true:=by rw [decide_eq_false he];cases b<;>rfl
    rw [ZK he0,ZJ he,hb];refine Sr<|Dd aF<|Dd aS<|Zz<|aN ?_;refine bD (H':=(sH y.2 (cC k a cn true) (bK l c))) (.inr rfl) rfl (aI rfl) (Fin.wk (by(simp;done)) (Hc (aG _ _ rfl rfl rfl)<|Hc (aC _ _)<|Hc (aM _ _ _)<|Hc (aL _ _)<|Hc (bA rfl rfl)<|Hc (aT _ _ _)<|trivial) ⟨rfl,rfl,rfl,rfl,rfl,rfl,trivial⟩) ?_;exact Qq
   have he:y.1=0:=by have h:=hc4;simpa using h
   have hb:(b||!decide (y.1=0))=b:=by rw [he];cases b<;>rfl
   rw [hb];refine aK<|Rg<|Dd rD<|Dd aF<|Zz ?_;refine⟨2,⟨by omega,fun _=>he0,fun _=>he⟩,by omega,?_⟩;exact(cG.wk (Ea<|Ea<|Eb<|Eb<|Eb<|trivial) (Hb<|Hc (aG _ _ rfl rfl rfl)<|Hc (aC _ _)<|Hc (aM _ _ _)<|Hc (aL _ _)<|Hc (bA rfl rfl)<|Hc (aT _ _ _)<|trivial) ⟨rfl,rfl,rfl,rfl,rfl,rfl,trivial⟩)
  cases hc3
 have he0:=hx0 (by omega);have he1:=hy0 (by omega);refine Sr<|Dd eF<|Zz<|Sq ?_;refine Cn ?_ ?_<;>intro hc5
 ·cases hc5
 rw [ZK he0,ZK he1];refine bL<|Sr<|Dd aF<|Dd (TA cV sizeOf70)<|Dd fH<|Dd (dX lK)<|Uu (by exact I4 rfl sizeOf70 rfl rfl rfl rfl rfl rfl rfl (by simp only [ZN,List.length_nil];omega) (by simp only [Zl,encStr];rfl) (by simp only [Zl,encStr];rfl))<|Zz<|Sr<|Dd aS<|Zz<|aN ?_;refine bD (H':=(sH y.2 (cC k a2 cn2 b) (bK l c))) (.inr rfl) rfl (aI rfl) (Fin.wk (by(simp;done)) (Hc (aG _ _ rfl rfl rfl)<|Hc (aC _ _)<|Hc (aM _ _ _)<|Hc (aL _ _)<|Hc (bA rfl rfl)<|Hc (aT _ _ _)<|trivial) ⟨rfl,rfl,rfl,rfl,rfl,rfl,trivial⟩) ?_;exact⟨by rw [he1],rfl⟩
def fM (t:List UInt8) (i:Nat):List UInt8:=(t.drop (46*i)).take 46
def cR (t:List UInt8):Nat:=(t.length+45) / 46
abbrev K4 (t:List UInt8) (i:Nat):Ob:=bx 1 9 [sv (ofL (t.drop (46*i)))]
theorem mT (t:List UInt8) (i:Nat):(fM t i).length=min 46 (t.length - 46*i):=by rw [fM,Z0,Z1]
theorem LN (t:List UInt8) (H:aA) (h:H.get 910=none):aJ Tryz.prog 100 [sv (ofL t)] H (fun r H'=>r=.clo 129 [.ref 910 0 0 0]∧H'=(910,K4 t 0)::H):=by refine Bd func100 rfl ntmps100<|Sr<|Dd (by exact gN (id:=910) rfl rfl rfl rfl h)<|Dd aS<|Zz<|Sr<|Dd (by exact eY rfl rfl)<|Dd aS<|Zz<|aN ?_;refine bD (H':=((910,K4 t 0)::H)) (.inr rfl) rfl (aI rfl) Fin.refl ?_;exact Qq
theorem LO (t:List UInt8) (fv:AV) (Hs Hr:Nat→aA) (hl:t.length < 1000000000) (h9:∀ i,(Hs i).get 910=some (K4 t i)) (h8:∀ i,(Hr i).get 910=some (K4 t i)) (hn:∀ i j,aA.get ((910,K4 t (i+1))::Hr i) j=(Hs (i+1)).get j)
  (hy:∀ i,i < cR t→eS Tryz.prog fv [sv (ofL (fM t i))] (Hs i) (fun r H'=>r=bv true∧H'=Hr i)) :
  aJ Tryz.prog 129 [fv,.ref 910 0 0 0] (Hs 0) (fun r H'=>r=.tup []∧H'=Hs (cR t)):=by
 refine Bd func129 rfl ntmps129<|aP ?_;refine bR (σ:=Nat) (fun i=>([(0,fv),(1,.ref 910 0 0 0)],Hs i)) (fun i=>i≤cR t) (fun i=>cR t - i) 0 (Z3 _) ?_ ?_
 ·exact E0
 rintro i hi;have hsz:(ofL (t.drop (46*i))).size=t.length - 46*i:=by rw [bP,Z1]
 refine Sq<|Sr<|Dd (by exact aW rfl bB rfl (h9 i) rfl rfl rfl)<|Dd (wN aH)<|Dd GI<|Zz ?_;refine Cn ?_ ?_<;>intro hc1
 ·have hlt:46*i < t.length:=by have:=ZH hc1;omega
  have hip:i < cR t:=by rw [cR];omega
  have hmin:min (46:Int) ((ofL (t.drop (46*i))).size:Int)=((fM t i).length:Int):=by rw [hsz,mT];omega
  have hple:(fM t i).length≤(ofL (t.drop (46*i))).size:=by rw [hsz,mT];omega
  have hx1:(ofL (t.drop (46*i))).extract 0 (fM t i).length=ofL (fM t i):=jA (by
   rw [dZ,aX,aX,List.drop_zero,Nat.sub_zero,fM,Z0,List.take_eq_take_min];simp)
  have hx2:(ofL (t.drop (46*i))).extract (fM t i).length (ofL (t.drop (46*i))).size=ofL (t.drop (46*(i+1))):=jA (by
   rw [pH,aX,aX,List.drop_drop];rw [mT];by_cases hh:46≤t.length - 46*i
   ·rw [Nat.min_eq_left hh];congr 1
   rw [Nat.min_eq_right (by omega),List.drop_eq_nil_of_le (by omega),List.drop_eq_nil_of_le (by omega)])
  refine aK<|aP<|Sr<|Dd (by exact aW rfl bB rfl (h9 i) rfl rfl rfl)<|Dd (wN aH)<|Dd (by exact wU rfl rfl rfl hmin)<|Dd aS<|Zz<|Sq<|Sr<|Dd aF<|Dd (by exact aW rfl bB rfl (h9 i) rfl rfl rfl)<|Dd aF<|Dd (by exact cI (l:=0) (h:=(fM t i).length) rfl aH rfl rfl rfl (Z3 _) hple hx1)<|Dd (by exact gM rfl rfl rfl (hy i hip))<|Dd AJ<|Zz ?_;refine Cn ?_ ?_<;>intro hc2
  ·cases hc2
  refine aK<|Rg<|Dd (by exact aW rfl bB rfl (h8 i) rfl rfl rfl)<|Dd aF<|Dd (by exact cI (l:=(fM t i).length) (h:=(ofL (t.drop (46*i))).size) rfl aH rfl rfl rfl hple (ZR _) hx2)<|Uu (by exact iH rfl sizeOf9 rfl rfl rfl rfl (h8 i) rfl rfl rfl)<|Zz ?_;refine⟨i+1,by omega,by omega,?_⟩;exact cG.get' ⟨⟨_,rfl,rfl⟩,⟨_,rfl,rfl⟩,trivial⟩ (fun j=>(hn i j).symm)
 have hge:¬ 46*i < t.length:=by have:=ZI hc1;omega
 have hip:i=cR t:=by rw [cR] at hi ⊢;omega
 subst hip;refine bL ?_;exact jJ (H':=Hs (cR t)) (.inl rfl) rfl Fin.refl ⟨rfl,rfl⟩
def jN (fr:Nat) (t:List UInt8) (i:Nat):List ByteArray:=(List.range i).map fun j=>ofL (eP (fr+j) (fM t j))
theorem dJ (fr:Nat) (t:List UInt8) (i:Nat):(jN fr t i).length=i:=by rw [jN,ZL,List.length_range]
theorem LC (fr:Nat) (t:List UInt8) (i:Nat):jN fr t (i+1)=jN fr t i++[ofL (eP (fr+i) (fM t i))]:=by rw [jN,List.range_succ,List.map_append];rfl
def jH (d:DSt) (k a cn:Nat) (t:List UInt8):Int×DSt :=if(jI d (2+a*k+cn) (jN (2+a*k+cn) t (cR t))).1=0 then wI (jI d (2+a*k+cn) (jN (2+a*k+cn) t (cR t))).2 a (cn+cR t)else jI d (2+a*k+cn) (jN (2+a*k+cn) t (cR t))
theorem RJ {d:DSt} {n m:Nat} (h:DInv d n m) (k a cn:Nat) (t:List UInt8) (hm:m+cR t+2≤1048576):DInv (jH d k a cn t).2 n (m+cR t+2):=by
 have h1:=kP h (2+a*k+cn) (jN (2+a*k+cn) t (cR t)) (by rw [dJ];omega);rw [dJ] at h1;rw [jH]
 split
 ·exact OO h1 _ _ (by omega)
 exact h1.mono (by omega)
theorem lF {f:FuncId} {args:List AV} {d:DSt} {k a n:Nat} {b:Bool} {l:List (ByteArray×ByteArray×Nat)} {c:Nat} {r0:AV} (h:aJ Tryz.prog f args (sH d (cC k a n b) (bK l c)) (fun r H'=>r=r0∧H'=sH d (cC k a n b) (bK l c))) (H:aA) (hs:GX H (sH d (cC k a n b) (bK l c))) (ha:∀ x∈args,Clo (sH d (cC k a n b) (bK l c)) x) :
  aJ Tryz.prog f args H (fun r H'=>r=r0∧H'=H):=h.frameS hs.sub (pY _ _ _ _ _ _ _) ha
theorem nH {α:Type} (f:α→List PV) (l:List α):((l.map f).take (0+l.length)).drop 0=l.map f:=by rw [Z4,List.drop_zero];exact List.take_of_length_le (by rw [ZL];exact ZR _)
theorem SM {H:aA} {p:Prop} [Decidable p] {k a n a' n':Nat} {b b':Bool} (h1:(H.get 1000).isSome=true) (h2:(H.get 1101).isSome=true):∀ r∈(if p then cC k a n b else cC k a' n' b').rows,∀ x∈r,Clo H x:=by
 split
 ·exact bA h1 h2
 exact bA h1 h2
abbrev WE:bJ:=[(0,.ref 1100 0 0 0),(4,.ref 4 0 0 0),(7,.ref 7 0 0 0),(8,.ref 8 0 0 0)]
def XK (S:List ByteArray) (K:aA):aA:=(905,⟨S.length,1,9,dC S⟩)::(8,bx 1 31 [.osl 905 S.length 0 S.length])::K
theorem UK (S:List ByteArray) (s:ByteArray) (K:aA):XK (S++[s]) K=(905,⟨S.length+1,1,9,dC (S++[s])⟩)::(8,bx 1 31 [.osl 905 (S.length+1) 0 (S.length+1)])::K:=by simp [XK]
theorem RI {d:DSt} {n m:Nat} (h:DInv d n m) (k a cn a2 cn2:Nat) (b:Bool) (l:List (ByteArray×ByteArray×Nat)) (c:Nat) (t:List UInt8) (ht:t.length < 100000000) (hm:m+cR t+2 < 1048576) (ha:a2 < 2) (hk:k < 4000) (hcn:cn2≤4000) :
  aJ Tryz.prog 52 [.ref 1100 0 0 0,.agg [iv (a2:Int),iv (cn2:Int)],sv (ofL t)] (sH d (cC k a cn b) (bK l c)) (fun r H'=>r=iv (jH d k a2 cn2 t).1∧H'=sH (jH d k a2 cn2 t).2 (if(jH d k a2 cn2 t).1=0 then cC k a2 (cn2+cR t) b else cC k a cn true) (bK l c)):=by
 have hmk:a2*k≤2*4000:=Nat.mul_le_mul (by omega) (by omega);have hpl:=xW d k a cn a2 cn2 b l c (by omega) (by omega) (by omega);obtain ⟨fr,hfr⟩:∃ fr,fr=2+a2*k+cn2:=⟨_,rfl⟩;have hpn:cR t≤10000000:=by rw [cR];omega
 have hw:=mO h k a cn fr b l c (jN fr t (cR t)) (by rw [dJ];omega) (by omega);have h1:=kP h fr (jN fr t (cR t)) (by rw [dJ];omega);rw [dJ] at h1;rw [jH,← hfr];rw [← hfr] at hpl;obtain ⟨x0,hx0⟩:∃ x,x=jI d fr (jN fr t (cR t)):=⟨_,rfl⟩;rw [← hx0] at hw h1 ⊢;clear hx0;have hset:=VG h1 k a cn a2 (cn2+cR t) b l c (by omega) (by omega) (by omega);refine Bd func52 rfl ntmps52<|Sr<|Dd (by exact gN (id:=4) rfl rfl rfl rfl rfl)<|Dd aS<|Zz<|Sr<|Dd aF<|Dd (dX rV)<|Dd (eQ aU)<|Dd (dX mG)<|Dd (eQ aU)<|Dd (by exact aB rfl rfl YZ rfl (lF hpl _ ⟨rfl,rfl,rfl,rfl,rfl,rfl,trivial⟩ (by simp;rfl)))<|Dd (by exact cH (id:=7) rfl YW rfl rfl)<|Uu (qV sizeOf3)<|Zz<|Sr<|Dd (by exact cH (id:=8) rfl WU rfl rfl)<|Zz<|Sq<|Sr<|Dd aF<|Dd (by exact aB rfl rfl call100 rfl (LN t _ rfl))<|Zz<|aP ?_;refine gP.ent (E':=[(0,.ref 1100 0 0 0),(4,.ref 4 0 0 0),(7,.ref 7 0 0 0),(8,.ref 8 0 0 0),(18,.clo 129 [.ref 910 0 0 0])]) (H':=(905,⟨0,1,9,[]⟩)::(910,K4 t 0)::(8,bx 1 31 [.osl 905 0 0 0])::(7,bx 1 3 [iv (fr:Int)])::(4,bx 2 70 [iv (a2:Int),iv (cn2:Int)])::sH d (cC k a cn b) (bK l c)) (cG.nz 905 1 9 rfl rfl ⟨⟨_,rfl,(by exact Nz.same (by(simp;rfl)))⟩,⟨_,rfl,(by exact Nz.same (by(simp;rfl)))⟩,⟨_,rfl,(by exact Nz.same (by(simp;rfl)))⟩,⟨_,rfl,(by exact Nz.same (by(simp;rfl)))⟩,⟨_,rfl,(by exact Nz.same (by(simp;rfl)))⟩,trivial⟩ ⟨⟨_,rfl,rfl,rfl,rfl,(by exact .inl ⟨rfl,(by(simp;done))⟩)⟩,⟨_,rfl,rfl,rfl,rfl,(by exact .inr ⟨_,_,rfl,rfl,(by repeat(first|exact trivial|refine⟨(by exact Nz.own),?_⟩))⟩)⟩,⟨_,rfl,rfl,rfl,rfl,(by exact .inl ⟨rfl,(by(simp;done))⟩)⟩,⟨_,rfl,rfl,rfl,rfl,(by exact .inl ⟨rfl,(by(simp;done))⟩)⟩,⟨_,rfl,rfl,rfl,rfl,(by exact .inl ⟨rfl,(by exact aG _ _ rfl rfl rfl)⟩)⟩,⟨_,rfl,rfl,rfl,rfl,(by exact .inl ⟨rfl,(by exact aC _ _)⟩)⟩,⟨_,rfl,rfl,rfl,rfl,(by exact .inl ⟨rfl,(by exact aM _ _ _)⟩)⟩,⟨_,rfl,rfl,rfl,rfl,(by exact .inl ⟨rfl,(by exact aL _ _)⟩)⟩,⟨_,rfl,rfl,rfl,rfl,(by exact .inl ⟨rfl,(by exact bA rfl rfl)⟩)⟩,⟨_,rfl,rfl,rfl,rfl,(by exact .inl ⟨rfl,(by exact aT _ _ _)⟩)⟩,trivial⟩ ⟨rfl,rfl,rfl,rfl,rfl,rfl,trivial⟩) ?_;obtain ⟨K,hK⟩:∃ K:aA,K=(7,bx 1 3 [iv (fr:Int)])::(4,bx 2 70 [iv (a2:Int),iv (cn2:Int)])::sH d (cC k a cn b) (bK l c):=⟨_,rfl⟩;have k7:K.get 7=some (bx 1 3 [iv (fr:Int)]):=by rw [hK];rfl
 have k4:K.get 944=none:=by rw [hK];rfl
 rw [← hK];refine vI (id:=944) (p:=19) WE rfl call129 rfl k4 (by simp [WE];exact⟨rfl,rfl,rfl,rfl⟩) ?_;intro x hx1 hx2 hx3 hx4 hx5 hx6;refine((LO t (.yld 944 0) (fun i=>(944,LR x WE)::(910,K4 t i)::XK (jN fr t i) K) (fun i=>(944,LR x WE)::(910,K4 t i)::XK (jN fr t (i+1)) K) (by omega) (fun i=>rfl) (fun i=>rfl) (fun i j=>?_) ?_).congrG (fun j=>?_) (fun j=>rfl)).mono ?_
 ·exact mW [(910,K4 t (i+1)),(944,LR x WE),(910,K4 t i)] [(944,LR x WE),(910,K4 t (i+1))] (by repeat(first|exact trivial|refine⟨rfl,?_⟩)) j
 ·intro i hi;have hsl:(jN fr t i).length=i:=dJ fr t i;have hpal:(fM t i).length≤46:=by rw [mT];omega
  have hpos:(ofL (fM t i)).size=(fM t i).length:=bP _;have hdg:=fun H=>mZ (fM t i).length 2 (by omega) (by omega) H;have e29:ofL (dg (fM t i).length 2)++ofL (fM t i)=ofL (dg (fM t i).length 2++fM t i):=sX _ _;have s29:(ofL (dg (fM t i).length 2)).size≤23:=by rw [bP];exact pJ _ 2 (by omega)
  have l29:(dg (fM t i).length 2++fM t i).length≤48:=by rw [ZM,kL (oF _ (by omega) (by omega))];omega
  have hse:=fun H=>xQ (fr+i) (dg (fM t i).length 2++fM t i) (by omega) l29 H;have hpe:ofL (oC (fr+i) (dg (fM t i).length 2++fM t i))=ofL (eP (fr+i) (fM t i)):=rfl;rw [hpe] at hse;rw [LC,UK];obtain ⟨S,hS⟩:∃ S,S=jN fr t i:=⟨_,rfl⟩;rw [← hS] at hsl ⊢;obtain ⟨u,hu⟩:∃ u,u=fM t i:=⟨_,rfl⟩;rw [← hu] at hpal hpos hdg e29 s29 l29 hse ⊢;refine .inl ⟨944,0,rfl,?_⟩;refine B6 [(0,.ref 1100 0 0 0),(4,.ref 4 0 0 0),(7,.ref 7 0 0 0),(8,.ref 8 0 0 0),(9,sv (ofL u))] ((910,K4 t i)::XK S K) hx1 hx2 hx3 hx4 hx5 hx6 rfl rfl rfl ?_ ?_
  ·refine Rg<|Da ?_;exact E0
  refine aP<|bU follows<|Cs (fun _ h=>lh dW h)<|Cs (fun H1 hH=>by exact aW rfl aU rfl ((hH _ rfl).trans k7) rfl rfl rfl)<|Cs (fun _ h=>lh dW h)<|Cs (fun H1 hH=>by exact dD rfl aQ rfl ((hH _ rfl).trans rfl) rfl)<|Cs (fun H1 hH=>by exact bZ rfl rfl rfl (show IntKind.i64.wrap ((fr:Int)+(S.length:Int))=((fr+i:Nat):Int)by rw [hsl,gV (by omega) (by omega)];omega))<|Cs (fun _ _=>aF)<|Cs (fun _ _=>(wN aH))<|Cs (fun H1 hH=>by exact aB rfl rfl zK rfl (hdg _))<|Cs (fun _ _=>aF)<|Cs (fun H1 hH=>by exact gE rfl rfl rfl (by omega) e29)<|Cs (fun H1 hH=>by exact aB rfl rfl YP rfl (hse _))<|Cs (fun H1 hH=>by exact bH [[.str (ofL (eP (fr+i) u))]] rfl cK rfl rfl rfl rfl rfl (by intro r hr;rw [ZO] at hr;subst hr;rfl)) ?_;refine cF (r:=⟨_,none,[_]⟩) (DStep.plain rfl (fun H1 hH=>by exact gA (ps:=[[.str (ofL (eP (fr+i) u))]]) rfl cK P9 rfl ((hH _ rfl).trans rfl) rfl rfl rfl (gI _) rfl (by intro r hr;rw [ZO] at hr;subst hr;rfl) (m:=1) rfl (by omega) rfl (kW _ (ofL (eP (fr+i) u))))) rfl ?_;refine cF (r:=⟨_,none,[_]⟩) (DStep.plain rfl (fun H1 hH=>by exact(by exact iH rfl vL rfl rfl rfl rfl ((hH _ rfl).trans rfl) rfl rfl rfl))) rfl ?_;refine dO<|Kr ?_;exact⟨(910,K4 t i)::(905,⟨S.length+1,1,9,dC (S++[ofL (eP (fr+i) u)])⟩)::(8,bx 1 31 [.osl 905 (S.length+1) 0 (S.length+1)])::K,cG.get' trivial (fun j=>mW [_,_,_,_] [_,_,_,_,_,_] (by repeat(first|exact trivial|refine⟨rfl,?_⟩)) j),rfl,rfl⟩
 ·exact mW [_,_,_,_] [_,_,_,_] (by repeat(first|exact trivial|refine⟨rfl,?_⟩)) j
 rintro r H' ⟨rfl,rfl⟩;refine⟨x,_,rfl,by rw [hx1];decide,rfl,fun z=>?_⟩;rw [hx2];have hSl:(jN fr t (cR t)).length=cR t:=dJ _ _ _;obtain ⟨S,hS⟩:∃ S,S=jN fr t (cR t):=⟨_,rfl⟩;rw [← hS] at hSl hw;rw [← hS];have hSm:((S.map encStr).length:Int)=(cR t:Int):=by rw [ZL,hSl]
 subst hK;refine Sq<|Sq ?_;refine gP.ent (cG.fzG (id:=905) (E':=WE) (H':=(8,bx 1 31 [.pv (aY S)])::(7,bx 1 3 [iv (fr:Int)])::(4,bx 2 70 [iv (a2:Int),iv (cn2:Int)])::sH d (cC k a cn b) (bK l c)) (S.map encStr) rfl (pU _) ?_ rfl ?_ ?_) ?_
 ·intro p hp;simp only [ZY,Z2,or_false] at hp;rcases hp with rfl|rfl|rfl|rfl<;>exact⟨_,rfl,.same (by simp;rfl)⟩
 ·exact⟨⟨_,rfl,rfl,rfl,rfl,TS rfl (xD (.osl (nH encStr _)) IC)⟩,⟨_,rfl,rfl,rfl,rfl,cY (by simp)⟩,⟨_,rfl,rfl,rfl,rfl,cY (by simp)⟩,⟨_,rfl,rfl,rfl,rfl,cY (aG _ _ rfl rfl rfl)⟩,⟨_,rfl,rfl,rfl,rfl,cY (aC _ _)⟩,⟨_,rfl,rfl,rfl,rfl,cY (aM _ _ _)⟩,⟨_,rfl,rfl,rfl,rfl,cY (aL _ _)⟩,⟨_,rfl,rfl,rfl,rfl,cY (bA rfl rfl)⟩,⟨_,rfl,rfl,rfl,rfl,cY (aT _ _ _)⟩,trivial⟩
 ·exact⟨rfl,rfl,rfl,rfl,rfl,rfl,trivial⟩
 refine Rg<|Dd aF<|Dd (eQ aU)<|Dd (eQ dW)<|Dd (by exact aB rfl rfl oO rfl (gC hw _ ⟨rfl,rfl,rfl,rfl,rfl,rfl,trivial⟩ (by simp;rfl)))<|Dd aS<|Zz<|Sr<|Dd aF<|Dd uG<|Zz ?_;refine Cn ?_ ?_<;>intro hc1
 ·have he:¬ x0.1=0:=by have h:=hc1;simpa using h
  have hb:(b||!decide (x0.1=0))=true:=by rw [decide_eq_false he];cases b<;>rfl
  rw [ZJ he,ZJ he,hb];refine Sr<|Dd aF<|Dd aS<|Zz<|aN ?_;refine bD (H':=(sH x0.2 (cC k a cn true) (bK l c))) (.inr rfl) rfl (aI rfl) (Fin.wk (by(simp;done)) (Hc (aG _ _ rfl rfl rfl)<|Hc (aC _ _)<|Hc (aM _ _ _)<|Hc (aL _ _)<|Hc (bA rfl rfl)<|Hc (aT _ _ _)<|trivial) ⟨rfl,rfl,rfl,rfl,rfl,rfl,trivial⟩) ?_;exact Qq
 have he:x0.1=0:=by have h:=hc1;simpa using h
 have hb:(b||!decide (x0.1=0))=b:=by rw [he];cases b<;>rfl
 rw [ZK he,hb];obtain ⟨y,hy⟩:∃ y,y=wI x0.2 a2 (cn2+cR t):=⟨_,rfl⟩;rw [← hy] at hset ⊢;refine aK<|Sr<|Dd (dX mG)<|Dd (eQ aU)<|Dd (eQ dW)<|Dd (qQ aQ)<|Dd (by exact bZ rfl rfl rfl (show IntKind.i64.wrap ((cn2:Int)+((S.map encStr).length:Int))=((cn2+cR t:Nat):Int)by rw [hSm,gV (by omega) (by omega)];omega))<|Dd (dX mG)<|Uu (by exact dI rfl sizeOf3 rfl rfl rfl rfl rfl rfl (by simp only [ZN,List.length_nil];omega) (by simp only [Zl,encStr];rfl) (by simp only [Zl,encStr];rfl))<|Zz<|Sr<|Dd aF<|Dd (TA cV sizeOf70)<|Dd (by exact aB rfl rfl call103 rfl (gC hset _ ⟨rfl,rfl,rfl,rfl,rfl,rfl,trivial⟩ (by simp;rfl)))<|Dd aS<|Zz<|aN ?_;refine bD (H':=(sH y.2 (if y.1=0 then cC k a2 (cn2+cR t) b else cC k a cn true) (bK l c))) (.inr rfl) rfl (aI rfl) (Fin.wk (by(simp;done)) (Hc (aG _ _ rfl rfl rfl)<|Hc (aC _ _)<|Hc (aM _ _ _)<|Hc (aL _ _)<|Hc (SM rfl rfl)<|Hc (aT _ _ _)<|trivial) ⟨rfl,rfl,rfl,rfl,rfl,rfl,trivial⟩) ?_;exact Qq
end Go.Proofs.YtmkgeogoojcciaaGreatDoor
namespace Go.Proofs.YtmkgeogoojcciaaGreatDoor
open Go.Proofs.Tryz
open Go.Abs
abbrev XT:ByteArray:=⟨#[58]⟩
theorem G7 (s:ByteArray) (H:aA):aJ Tryz.prog 171 [sv s,sv XT] H (fun r H'=>r=iv (Lib.indexByte s.data.toList 58)∧H'=H):=by
 refine Pu ?_;refine Bd func171 rfl ntmps171<|Sr<|Dd aS<|Zz<|Sr<|Dd aF<|Dd (wN aH)<|Dd aS<|Zz<|Sq<|aP<|Sq ?_;refine dF (t:=16) (n:=9) (X:=decide (XT=s)) ?_ ?_
 ·all_goals refine Dd aF ?_
  all_goals refine Dd gS<|Dm ?_
  all_goals refine Sp 19 (fun h19=>?_) fun h19=>?_
  all_goals try contradiction
  all_goals refine On aF<|On aF<|On VI<|Dd dU<|Da ?_
  all_goals(exact⟨⟨_,rfl,by rfl⟩,rfl,rfl,rfl⟩)
 refine Cn ?_ ?_<;>intro hc1
 ·have hs:=ZH hc1;subst hs;exact Sr<|Dd aS<|Zz<|aN<|Rt<|Qq
 refine Sr<|Dd aF<|Dd gS<|Da ?_;refine Cn ?_ ?_<;>intro hc2
 ·exact Sr<|Dd aF<|Dd aF<|Dd (by exact mE rfl aH rfl rfl (by omega) (by exact ZX _) (show 0 < (⟨#[58]⟩:ByteArray).size from Nat.zero_lt_one) rfl)<|Dd (by exact aB rfl rfl call186 rfl (zX s 58 _))<|Dd aS<|Zz<|aN<|Rt<|Qq
 cases hc2
def FW (s:ByteArray):AV:=if Lib.indexByte s.data.toList 58 = -1 then .tup [sv s,sv ⟨#[]⟩,bv false] else .tup [sv (s.extract 0 (Lib.indexByte s.data.toList 58).toNat),sv (s.extract ((Lib.indexByte s.data.toList 58).toNat+1) s.size),bv true]
theorem OJ (s:ByteArray) (H:aA) (hs:s.size < 1099511627776):aJ Tryz.prog 144 [sv s,sv XT] H (fun r H'=>r=FW s∧H'=H):=by
 refine Pu ?_;have hI:=fun H=>G7 s H;rw [FW];rcases Classical.em (Lib.indexByte s.data.toList 58 = -1)with h1|h1
 ·rw [ZK h1];simp only [h1] at hI;refine Bd func144 rfl ntmps144<|Sr<|Dd aS<|Dd aS<|Dd aS<|Zz<|Sq<|Sr<|Dd aF<|Dd aF<|Dd (by exact aB rfl rfl call171 rfl (hI _))<|Dd aS<|Zz<|Sr<|Dd aF<|Dd R1<|Zz ?_;refine Cn ?_ ?_<;>intro hc1
  ·cases hc1
  refine aK<|Sr<|Dd aF<|Dd aS<|Dd aS<|Dd aS<|Zz<|aN ?_;refine KN (H':=[]) (.inr rfl) rfl (aI rfl) (aI rfl) (aI rfl) (Fin.wk (by simp) trivial trivial) ?_;exact Qq
 rw [ZJ h1];obtain ⟨w,r,e1,e2,e3⟩:=yP h1;simp only [e3] at hI;rw [e3,ZX];have hl:w.length+1+r.length=s.size:=by rw [← show s.data.toList.length=s.size by simp,e1,ZM,ZN];omega
 refine Bd func144 rfl ntmps144<|Sr<|Dd aS<|Dd aS<|Dd aS<|Zz<|Sq<|Sr<|Dd aF<|Dd aF<|Dd (by exact aB rfl rfl call171 rfl (hI _))<|Dd aS<|Zz<|Sr<|Dd aF<|Dd R1<|Zz ?_;refine Cn ?_ ?_<;>intro hc1
 ·refine Sq<|bU follows<|Cq aF<|Cq aF<|Cq (by exact cI (l:=0) (h:=(w.length)) rfl aH rfl rfl rfl (by omega) (by omega) rfl)<|Cq aF<|Cq aF<|Cq aF<|Cq (wN aH)<|Cq (by exact bZ rfl rfl rfl (show IntKind.i64.wrap ((w.length:Int)+1)=((w.length+1:Nat):Int)by rw [IntKind.wrap_i64];omega))<|Cq (by exact cI (l:=(w.length+1)) (h:=s.size) rfl aH rfl rfl rfl (by omega) (by omega) rfl)<|Cq aS<|Cq aS<|Cq aS<|dO<|Kr<|aN ?_;refine KN (H':=[]) (.inr rfl) rfl (aI rfl) (aI rfl) (aI rfl) (Fin.wk (by simp) trivial trivial) ?_;exact Qq
 have hx:=ZI hc1;omega
theorem V3 (s:ByteArray) (H:aA) (hs:s.size < 1099511627776):aJ Tryz.prog 117 [sv s,sv XT] H (fun r H'=>r=FW s∧H'=H):=by
 refine Pu ?_;have hC:=fun H=>OJ s H hs;rw [FW] at *;rcases Classical.em (Lib.indexByte s.data.toList 58 = -1)with h1|h1
 ·simp only [FW,ZK h1] at hC ⊢;refine Bd func117 rfl ntmps117<|Sr<|Dd aS<|Dd aS<|Dd aS<|Zz<|Sr<|Dd aF<|Dd aF<|Dd (by exact aB rfl rfl call144 rfl (hC _))<|Dd eR<|Dd eR<|Dd eR<|Dd aS<|Dd aS<|Dd aS<|Zz<|aN ?_;refine KN (H':=[]) (.inr rfl) rfl (aI rfl) (aI rfl) (aI rfl) (Fin.wk (by simp) trivial trivial) ?_;exact Qq
 simp only [FW,ZJ h1] at hC ⊢;refine Bd func117 rfl ntmps117<|Sr<|Dd aS<|Dd aS<|Dd aS<|Zz<|Sr<|Dd aF<|Dd aF<|Dd (by exact aB rfl rfl call144 rfl (hC _))<|Dd eR<|Dd eR<|Dd eR<|Dd aS<|Dd aS<|Dd aS<|Zz<|aN ?_;refine KN (H':=[]) (.inr rfl) rfl (aI rfl) (aI rfl) (aI rfl) (Fin.wk (by simp) trivial trivial) ?_;exact Qq
theorem kZ (l:List ByteArray) (H:aA) (hl:(aR l).length < 35184372088832):aJ Tryz.prog 99 [.pv (aY l)] H (fun r H'=>r=sv (ofL (aR l))∧H'=H):=by
 refine Pu ?_;have hml:(l.map encStr).length=l.length:=ZL _;have hll:=pE l;refine Bd func99 rfl ntmps99<|Sr<|Dd aS<|Zz<|Sr<|Dd (by exact cH (id:=2001) rfl NT rfl rfl)<|Zz<|Sq<|Sq ?_;refine gP.ent (E':=[(0,.pv (aY l)),(3,.ref 2001 0 0 0)]) (H':=GJ 0 [] false) (cG.bld0 ⟨⟨_,rfl,.same (by simp)⟩,⟨_,rfl,.same (by simp;rfl)⟩,trivial⟩) ?_;refine Rg<|Dd aF<|Dd (qQ aQ)<|Dd aF<|Zz<|aP ?_;refine qN (fun(k g:Nat) (u:Bool)=>([(3,.ref 2001 0 0 0),(6,.pv (aY l)),(7,iv ((l.map encStr).length:Int)),(8,iv (k:Int))],GJ g (aR (l.take k)) u)) (fun k g u=>k≤l.length) (fun k g u=>l.length - k) 0 0 false (Z3 _) ?_ ?_
 ·exact(cG.wk (Ea<|Eb<|Eb<|Eb<|trivial) (Hc (nD rfl rfl)<|Hc (qM _ _)<|trivial) trivial)
 intro k g u hk;have hle:=yN l k;refine Sr<|Dd eF<|Zz<|Sq ?_;refine Cn ?_ ?_<;>intro hc1
 ·have hlt:k < l.length:=by have:=ZH hc1;omega
  obtain ⟨s,hs⟩:=bM hlt;have hi:=fV (f:=encStr) hs;have hle2:=yN l (k+1);rw [dR hs,tF,ZM,oT,lU] at hle2;have hsz:s.size < 35184372088832:=by omega
  refine aK<|Sq<|aP<|Sr<|Dd (KV cK)<|Dd (AK bB)<|Dd aS<|Zz<|Rg<|Dd aF<|Dd (wN aH)<|Dd (by exact aB rfl rfl oN rfl (nQ (s.size:Int) (by omega) (by omega) _))<|Dd (by exact gE rfl rfl rfl (by have:(⟨#[58]⟩:ByteArray).size=1:=rfl;omega) rfl)<|Dd aF<|Dd (by exact gE rfl rfl rfl (by rw [ByteArray.size_append];have:(⟨#[58]⟩:ByteArray).size=1:=rfl;omega) rfl)<|Dd (by exact aB rfl rfl call86 rfl (qS g (aR (l.take k)) u (nK s) (by rw [lU];omega)))<|Zz<|Rg<|Dd rD<|Dd aF<|Zz ?_;refine⟨k+1,g+1,true,by omega,by omega,?_⟩;rw [dR hs,tF];exact(cG.wk (Ea<|Eb<|Eb<|Eb<|trivial) (Hc (nD rfl rfl)<|Hc (qM _ _)<|trivial) trivial)
 have hge:k=l.length:=by have:=ZI hc1;omega
 subst hge;rw [List.take_length];exact bL<|Sr<|Dd (by exact aB rfl rfl call88 rfl (UO g (aR l) u (by omega)))<|Dd aS<|Zz<|aN<|Rt<|Qq
def xF (l:List UInt8):List UInt8:=l.takeWhile fun b=>!decide (b=58)
def wB (l:List UInt8):List UInt8:=(l.dropWhile fun b=>!decide (b=58)).drop 1
def rA (l:List UInt8):Bool:=(((!decide ((58:UInt8)∈l)||gO (ofL (xF l)))||decide (dG (ofL (xF l)) < 0))||decide (((wB l).length:Int) < dG (ofL (xF l))))||!decide (dA (dG (ofL (xF l)))=ofL (xF l))
def KA (l:List UInt8):Nat:=(dG (ofL (xF l))).toNat
def fB:Nat→List UInt8→List ByteArray→List ByteArray×Bool
 | 0,l,acc=>(acc,true)
 | n+1,l,acc=>if l=[] then(acc,true)else if rA l then([],false)else fB n ((wB l).drop (KA l)) (acc++[ofL ((wB l).take (KA l))])
def eE (l:List UInt8):List ByteArray×Bool:=fB l.length l []
theorem DS {l:List UInt8} (h:l≠[]):(wB l).length < l.length:=by rw [wB,Z1];have:=(List.dropWhile_sublist (l:=l) fun b=>!decide (b=58)).length_le;have:=List.length_pos_iff.2 h;omega
theorem xM:∀ (n m:Nat) (l:List UInt8) (acc:List ByteArray),l.length≤n→l.length≤m→fB n l acc=fB m l acc
 | 0,m,l,acc,h,_=>by
  rw [List.length_eq_zero_iff.1 (Nat.le_zero.1 h)];cases m<;>rfl
 | n+1,0,l,acc,_,h=>by
  rw [List.length_eq_zero_iff.1 (Nat.le_zero.1 h)];rfl
 | n+1,m+1,l,acc,hn,hm=>by
  rw [fB,fB];by_cases h0:l=[]
  ·rw [ZK h0,ZK h0]
  rw [ZJ h0,ZJ h0];have hlt:=DS h0;by_cases hb:rA l=true
  ·rw [ZK hb,ZK hb]
  rw [ZJ hb,ZJ hb];exact xM n m _ _ (by rw [Z1];omega) (by rw [Z1];omega)
theorem vQ {l:List UInt8} {acc:List ByteArray} (h0:l≠[]) (hb:rA l=false):fB l.length l acc=fB ((wB l).drop (KA l)).length ((wB l).drop (KA l)) (acc++[ofL ((wB l).take (KA l))]):=by have hlt:=DS h0;obtain ⟨k,hk⟩:∃ k,l.length=k+1:=⟨l.length - 1,by omega⟩;rw [hk,fB,ZJ h0,ZJ (by rw [hb];decide)];exact xM _ _ _ _ (by rw [Z1];omega) (ZR _)
theorem G3 {l:List UInt8} {acc:List ByteArray} (h0:l≠[]) (hb:rA l=true):fB l.length l acc=([],false):=by have hlt:=DS h0;obtain ⟨k,hk⟩:∃ k,l.length=k+1:=⟨l.length - 1,by omega⟩;rw [hk,fB,ZJ h0,ZK hb]
theorem QM {w r:List UInt8} (h:(58:UInt8)∉w):xF (w++58::r)=w∧wB (w++58::r)=r:=by
 induction w with
 | nil=>exact⟨rfl,rfl⟩
 | cons b w ih =>
  have hb:b≠58:=fun e=>h (by rw [e];exact List.mem_cons_self);obtain ⟨h1,h2⟩:=ih (fun e=>h (List.mem_cons_of_mem _ e));rw [xF] at h1 ⊢;rw [wB] at h2 ⊢;rw [List.cons_append,List.takeWhile_cons,List.dropWhile_cons,ZK (by simp [hb]),ZK (by simp [hb]),h1];exact⟨rfl,h2⟩
theorem QL:∀ {l:List UInt8},(58:UInt8)∉l→xF l=l∧wB l=[]
 | [],_=>⟨rfl,rfl⟩
 | b::l,h=>by
  have hb:b≠58:=fun e=>h (by rw [e];exact List.mem_cons_self);obtain ⟨h1,h2⟩:=QL (l:=l) (fun e=>h (List.mem_cons_of_mem _ e));rw [xF] at h1 ⊢;rw [wB] at h2 ⊢;rw [List.takeWhile_cons,List.dropWhile_cons,ZK (by simp [hb]),ZK (by simp [hb]),h1];exact⟨rfl,h2⟩
theorem T1 (l:List UInt8):FW (ofL l)=.tup [sv (ofL (xF l)),sv (ofL (wB l)),bv (decide ((58:UInt8)∈l))]:=by
 rw [FW,aX];by_cases h:Lib.indexByte l 58 = -1
 ·rw [ZK h];have hm:=yO.1 h;rw [(QL hm).1,(QL hm).2,decide_eq_false hm];rfl
 rw [ZJ h];obtain ⟨w,r,e1,e2,e3⟩:=yP h;rw [e3,ZX];subst e1;rw [(QM e2).1,(QM e2).2,decide_eq_true (by simp)];have x1:(ofL (w++58::r)).extract 0 w.length=ofL w:=jA (by rw [dZ,aX,aX,List.drop_zero,Nat.sub_zero,List.take_left]);have x2:(ofL (w++58::r)).extract (w.length+1) (ofL (w++58::r)).size=ofL r:=jA (by
  rw [pH,aX,aX,← List.drop_drop,List.drop_left];rfl)
 rw [x1,x2]
theorem NE (s:ByteArray) : -9223372036854775808≤dG s∧dG s≤9223372036854775807:=by
 rw [dG,pP];cases e:Lib.atoiAll s.data.toList with
 | ok v=>exact Lib.atoiAll_bounds e
 | range =>
  show _≤Lib.atoiSat _∧Lib.atoiSat _≤_;rw [Lib.atoiSat]
  split
  ·exact⟨by decide,by decide⟩
  exact⟨by decide,by decide⟩
 | _ =>
  show (-9223372036854775808:Int)≤0∧(0:Int)≤9223372036854775807;exact⟨by decide,by decide⟩
theorem Fin.st2 {H1:aA} {id g n:Nat} {ob:Ob} (l:List ByteArray) (v:AV) (hH:H1.get id=some ob) (hg:ob.g=g) (hps:ob.rows=dC l) (hn:n=l.length) (hv:Clo [] v) :
  Fin [] H1 (.tup [.osl id g 0 n,v]) [] (.tup [.pv (aY l),v]):=by
 subst hg hn;exact Fin.fz (id:=id) (ob:=ob) (l.map encStr) hH (hps.trans (pU l)) (.tup rfl (xD (.osl (nH encStr l)) (xD (.same hv) IC))) rfl trivial trivial
theorem IL (l:List UInt8):(xF l).length≤l.length∧(wB l).length≤l.length:=by
 constructor
 ·exact(List.takeWhile_sublist _).length_le
 rw [wB,Z1];have:=(List.dropWhile_sublist (l:=l) fun b=>!decide (b=58)).length_le;omega
theorem EL (t:List UInt8) (H:aA) (ht:t.length < 1000000000):aJ Tryz.prog 87 [sv (ofL t)] H (fun r H'=>r=.tup [.pv (aY (eE t).1),bv (eE t).2]∧H'=H):=by
 refine Pu ?_;refine Bd func87 rfl ntmps87<|Sr<|Dd aS<|Dd aS<|Zz<|Sr<|Dd (by exact pA (id:=905) (sz:=1) (ty:=9) rfl rfl rfl)<|Zz<|Sq<|aP ?_;refine nE (fun(l:List UInt8) (A:List ByteArray)=>([(0,sv (ofL l)),(4,.osl 905 A.length 0 A.length)],[(905,⟨A.length,1,9,dC A⟩)])) (fun l A=>l.length+A.length≤t.length∧eE t=fB l.length l A) (fun l A=>l.length) t [] ⟨ZR _,rfl⟩ ?_ ?_
 ·exact(cG.wk (Eb<|Ea<|trivial) (Hc (jM _ _)<|trivial) trivial)
 rintro l A ⟨hl,hR⟩;have hls:(ofL l).size=l.length:=bP l;have hcl:=IL l;have hcut:=fun H=>V3 (ofL l) H (by omega);rw [T1] at hcut;have hat:=fun H=>xH (ofL (xF l)) (by rw [bP];omega) H;have hbd:=NE (ofL (xF l));have hit:=fun H=>nQ (dG (ofL (xF l))) hbd.1 hbd.2 H;have hrs:(ofL (wB l)).size=(wB l).length:=bP _;have hbad:rA l=((((!decide ((58:UInt8)∈l)||gO (ofL (xF l)))||decide (dG (ofL (xF l)) < 0))||decide (((wB l).length:Int) < dG (ofL (xF l))))||!decide (dA (dG (ofL (xF l)))=ofL (xF l))):=rfl;have hN:KA l=(dG (ofL (xF l))).toNat:=rfl;obtain ⟨x,hx⟩:∃ x,x=ofL (xF l):=⟨_,rfl⟩;obtain ⟨v,hv⟩:∃ v,v=dG (ofL (xF l)):=⟨_,rfl⟩;obtain ⟨e,he⟩:∃ e,e=gO (ofL (xF l)):=⟨_,rfl⟩;obtain ⟨o,ho⟩:∃ o,o=decide ((58:UInt8)∈l):=⟨_,rfl⟩;obtain ⟨r,hr⟩:∃ r,r=wB l:=⟨_,rfl⟩;obtain ⟨iv',hiv⟩:∃ y,y=dA v:=⟨_,rfl⟩;simp only [← hv,← he,← ho,← hr] at hcut hat hit hbad hN hbd hrs hcl;simp only [← hx,← hiv] at hcut hat hit hbad;have hlt:=fun h0=>DS (l:=l) h0;have hst:=fun(h0:l≠[]) hb=>vQ (acc:=A) h0 hb;have hbb:=fun(h0:l≠[]) hb=>G3 (acc:=A) h0 hb;rw [← hr] at hlt;simp only [← hr] at hst;clear hx hv he ho hr hiv;refine Sq<|Sr<|Dd aF<|Dd (wN aH)<|Dd GI<|Zz ?_;refine Cn ?_ ?_<;>intro hc1
 ·have h0:l≠[]:=fun e=>by have h:=ZH hc1;rw [hls,e] at h;exact absurd h (by decide)
  refine aK<|aP<|Sr<|Dd aF<|Dd (by exact aB rfl rfl call117 rfl (hcut _))<|Dd aF<|Dd eR<|Dd eR<|Dd eR<|Dd aS<|Dd aS<|Dd aS<|Zz<|Sr<|Dd aF<|Dd (by exact aB rfl rfl R5 rfl (hat _))<|Dd aF<|Dd eR<|Dd eR<|Dd aS<|Dd aS<|Zz<|Sq<|Sq ?_;refine dF (t:=45) (n:=26) (X:=rA l) ?_ ?_
  ·all_goals refine Dd aF ?_
   all_goals refine Dd AJ<|Dm ?_
   all_goals refine Sp 26 (fun h26=>?_) fun h26=>?_
   all_goals(try(with_reducible contradiction))
   all_goals first|refine Fo<|Fo ?_|refine On aF<|On (by exact sW rfl iE rfl) ?_
   all_goals refine Dd dU<|Dm ?_
   all_goals refine Sp 30 (fun h30=>?_) fun h30=>?_
   all_goals(try(with_reducible contradiction))
   all_goals first|refine Fo<|Fo ?_|refine On aF<|On eF ?_
   all_goals refine Dd dU<|Dm ?_
   all_goals refine Sp 34 (fun h34=>?_) fun h34=>?_
   all_goals(try(with_reducible contradiction))
   all_goals first|refine Fo<|Fo<|Fo<|Fo ?_|refine On aF<|On aF<|On (wN aH)<|On GI ?_
   all_goals refine Dd dU<|Dm ?_
   all_goals refine Sp 40 (fun h40=>?_) fun h40=>?_
   all_goals(try(with_reducible contradiction))
   all_goals first|refine Fo<|Fo<|Fo<|Fo ?_|refine On aF<|On (by exact aB rfl rfl oN rfl (hit _))<|On aF<|On OG ?_
   all_goals refine Dd dU<|Zz ?_
   all_goals(exact⟨⟨_,rfl,by rw [hbad];first|(rw [h26];rfl)|(rw [h26,h30];rfl)|(rw [h26,h30,h34,← hrs];rfl)|(rw [h26,h30,h34,← hrs,h40];rfl)⟩,rfl,rfl,rfl⟩)
  refine Cn ?_ ?_<;>intro hc2
  ·have hb:rA l=true:=hc2;rw [hR,hbb h0 hb];refine Sr<|Dd aS<|Dd aS<|Zz<|aN ?_;refine fW (H':=[]) (.inr rfl) rfl (aI rfl) (aI rfl) (Fin.wk (r:=.tup [.pv (aY []),bv false]) (by simp) trivial trivial) ?_;exact Qq
  have hb:rA l=false:=hc2;have hs:=hst h0 hb;have hlt2:=hlt h0;have hb2:=hbad.symm.trans hb;simp only [Z8,ZT] at hb2;obtain ⟨u,rfl⟩:∃ u:Nat,v=(u:Int):=⟨v.toNat,by omega⟩;rw [ZX] at hN;rw [hN] at hs;have hur:u≤r.length:=by omega
  have x1:(ofL r).extract 0 u=ofL (r.take u):=jA (by rw [dZ,aX,aX,List.drop_zero,Nat.sub_zero]);have x2:(ofL r).extract u (ofL r).size=ofL (r.drop u):=jA (by rw [pH,aX,aX]);have hnl:(A++[ofL (r.take u)]).length=A.length+1:=by rw [ZM];rfl
  refine aK<|bU follows<|Cr [905] (fun _ _=>aF)<|Cr [] (fun _ _=>aF)<|Cr [] (fun _ _=>aF)<|Cr [] (fun H1 hH=>by exact cI (l:=0) (h:=u) rfl aH rfl rfl rfl (Z3 _) (by omega) x1)<|Cr [] (fun H1 hH=>by exact bH [[.str (ofL (r.take u))]] rfl cK rfl rfl rfl rfl rfl (by intro r hr;rw [ZO] at hr;subst hr;rfl))<|Cp [905] (fun H1 hH=>by exact gA (ps:=[[.str (ofL (r.take u))]]) rfl cK P9 rfl ((hH _ rfl).trans rfl) rfl rfl rfl (gI _) rfl (by intro r hr;rw [ZO] at hr;subst hr;rfl) (m:=1) rfl (by omega) rfl (kW _ (ofL (r.take u))))<|Cr [] (fun _ _=>aF)<|Cr [] (fun _ _=>aF)<|Cr [] (fun H1 hH=>by exact cI (l:=u) (h:=(ofL r).size) rfl aH rfl rfl rfl (by omega) (ZR _) x2)<|Cr [905] (fun _ _=>aS)<|Cr [] (fun _ _=>aS)<|dO<|Kr ?_;refine⟨r.drop u,A++[ofL (r.take u)],⟨by rw [Z1,hnl];omega,hR.trans hs⟩,by rw [Z1];omega,?_⟩;dsimp only;rw [hnl];exact(cG.wk (Eb<|Ea<|trivial) (Hc (jM _ _)<|trivial) trivial)
 have h0:l=[]:=List.length_eq_zero_iff.1 (by have:=ZI hc1;omega);rw [hR,h0];refine bL<|Sr<|Dd aF<|Dd aS<|Dd aS<|Zz<|aN ?_;refine fW (H':=[]) (.inr rfl) rfl (aI rfl) (aI rfl) (Fin.st2 A (bv true) rfl rfl rfl rfl (by simp)) ?_;exact Qq
def zL (F:FuncId) (caps:List AV) (PR:List ByteArray→Prop) (K:aA):Prop :=∀ (yv:AV) (Hs:List ByteArray→aA),(∀ M,Sub K (Hs M))→(∀ M,(Hs M).get 946=none)→(∀ M,bG (Hs M))→(∀ M,Clo (Hs M) yv) →
  (∀ M x,M.length < 1099511627776→eS Tryz.prog yv [sv x] (Hs M) (fun r H'=>r=bv true∧H'=Hs (M++[x]))) →
  (∀ o M x,M.length < 1099511627776→eS Tryz.prog yv [sv x] ((946,o)::Hs M) (fun r H'=>r=bv true∧H'=(946,o)::Hs (M++[x]))) →
  aJ Tryz.prog F (yv::caps) (Hs []) (fun r H'=>r=.tup []∧∃ M,PR M∧H'=Hs M)
def RX:bJ:=[(2,.ref 942 0 0 0)]
def SA (M:List ByteArray) (K:aA):aA:=(945,⟨M.length,1,9,dC M⟩)::(942,bx 1 31 [.osl 945 M.length 0 M.length])::K
theorem IX (M:List ByteArray) (s:ByteArray) (K:aA):SA (M++[s]) K=(945,⟨M.length+1,1,9,dC (M++[s])⟩)::(942,bx 1 31 [.osl 945 (M.length+1) 0 (M.length+1)])::K:=by simp [SA]
theorem GM {M:List ByteArray} {K:aA} {x:Go.Loop} (h:bG K):bG ((944,LR x RX)::SA M K):=by refine bG.app (D:=[(944,LR x RX),(945,⟨M.length,1,9,dC M⟩),(942,bx 1 31 [.osl 945 M.length 0 M.length])]) ?_ h;refine kV.spec ⟨RS (by simp [RX];rfl),jM _ _,?_,trivial⟩;intro r hr a ha;simp only [bx,ZO] at hr;subst hr;rw [ZO] at ha;subst ha;exact .osl rfl
theorem IR {F:FuncId} {caps:List AV} {PR:List ByteArray→Prop} (hE:∀ (args:Array Value) (w:World),(callFunc F args).run Tryz.prog w=.ok (.enter F args) w) (K:aA) (hS:zL F caps PR K) (k2:K.get 942=none) (k4:K.get 944=none) (k5:K.get 945=none) (k6:K.get 946=none) (hc:bG K) (hcap:Clo K (.clo F caps)) :
  aJ Tryz.prog 125 [.pv .nils,.clo F caps] K (fun r H'=>∃ M,PR M∧r=.osl 945 M.length 0 M.length∧H'=(945,⟨M.length,1,9,dC M⟩)::K):=by
 have k2':aA.get ((945,⟨0,1,9,[]⟩)::K) 942=none:=k2;refine Bd func125 rfl ntmps125 ?_;refine Q1 (t:=0) (id:=945) (sz:=1) (ty:=9) rfl k5 rfl ?_;refine NB (t:=0) rfl rfl rfl (ZR _) ?_;refine Sr<|Dd (by exact gN (id:=942) rfl rfl rfl rfl k2')<|Dd aS<|Zz<|Sq<|Sr<|Dd aF<|Zz<|aP ?_;refine gP.ent (E':=[(2,.ref 942 0 0 0),(6,.clo F caps)]) (H':=SA [] K) (cG.get' ⟨⟨_,rfl,rfl⟩,⟨_,rfl,rfl⟩,trivial⟩ (fun j=>tP (by decide) j)) ?_;refine vI (id:=944) (p:=7) RX rfl hE rfl k4 (by simp [RX];rfl) ?_;intro x hx1 hx2 hx3 hx4 hx5 hx6;refine(hS (.yld 944 0) (fun M=>(944,LR x RX)::SA M K) (fun M=>?_) (fun M=>k6) (fun M=>GM hc) (fun M=>by simp;rfl) ?_ ?_).mono ?_
 ·refine Sub.app (D:=[(944,LR x RX),(945,⟨M.length,1,9,dC M⟩),(942,bx 1 31 [.osl 945 M.length 0 M.length])]) ?_;intro p hp;simp only [ZY,Z2,or_false] at hp;rcases hp with rfl|rfl|rfl
  ·exact k4
  ·exact k5
  exact k2
 ·intro M s hM;refine .inl ⟨944,0,rfl,?_⟩;rw [IX];refine B6 [(2,.ref 942 0 0 0),(5,sv s)] (SA M K) hx1 hx2 hx3 hx4 hx5 hx6 rfl rfl rfl ?_ ?_
  ·refine Rg<|Da ?_;exact E0
  refine aP<|Rg<|Dd (eQ dW)<|Dd aF<|Dd (by exact bH [[.str s]] rfl cK rfl rfl rfl rfl rfl (by intro r hr;rw [ZO] at hr;subst hr;rfl))<|Dd (by exact gA (ps:=[[.str s]]) rfl cK P9 rfl rfl rfl rfl rfl (gI _) rfl (by intro r hr;rw [ZO] at hr;subst hr;rfl) (m:=1) rfl (by omega) rfl (kW _ s))<|Uu (qV vL)<|Zz ?_;exact⟨(945,⟨M.length+1,1,9,dC (M++[s])⟩)::(942,bx 1 31 [.osl 945 (M.length+1) 0 (M.length+1)])::K,cG.get' trivial (fun j=>mW [_,_,_] [_,_,_,_,_] (by repeat(first|exact trivial|refine⟨rfl,?_⟩)) j),rfl,rfl⟩
 ·intro o M s hM;refine eS.congrG (H1:=(944,LR x RX)::(946,o)::SA M K) (K1:=(944,LR x RX)::(946,o)::SA (M++[s]) K) (.inl ⟨944,0,rfl,?_⟩) (fun j=>tP (by decide) j) (fun j=>tP (by decide) j);rw [IX];refine B6 [(2,.ref 942 0 0 0),(5,sv s)] ((946,o)::SA M K) hx1 hx2 hx3 hx4 hx5 hx6 rfl rfl rfl ?_ ?_
  ·refine Rg<|Da ?_;exact E0
  refine aP<|Rg<|Dd (eQ dW)<|Dd aF<|Dd (by exact bH [[.str s]] rfl cK rfl rfl rfl rfl rfl (by intro r hr;rw [ZO] at hr;subst hr;rfl))<|Dd (by exact gA (ps:=[[.str s]]) rfl cK P9 rfl rfl rfl rfl rfl (gI _) rfl (by intro r hr;rw [ZO] at hr;subst hr;rfl) (m:=1) rfl (by omega) rfl (kW _ s))<|Uu (qV vL)<|Zz ?_;exact⟨(946,o)::(945,⟨M.length+1,1,9,dC (M++[s])⟩)::(942,bx 1 31 [.osl 945 (M.length+1) 0 (M.length+1)])::K,cG.get' trivial (fun j=>mW [_,_,_,_] [_,_,_,_,_,_] (by repeat(first|exact trivial|refine⟨rfl,?_⟩)) j),rfl,rfl⟩
 rintro r H' ⟨rfl,M,hM,rfl⟩;refine⟨x,_,rfl,by rw [hx1];decide,rfl,fun z=>?_⟩;rw [hx2];refine Sr<|Dd (eQ dW)<|Dd aS<|Zz<|aN ?_;refine bD (H':=((945,⟨M.length,1,9,dC M⟩)::K)) (.inr rfl) rfl (aI rfl) (Fin.front' [(944,LR z RX),(945,⟨M.length,1,9,dC M⟩),(942,bx 1 31 [.osl 945 M.length 0 M.length])] [(945,⟨M.length,1,9,dC M⟩)] (.osl rfl) (by simp [k2,k4,aA.get]) (by intro p hp;rw [ZO] at hp;subst hp;rfl) (kV.spec ⟨jM _ _,trivial⟩) hc (by simp [k2,k4,aA.get])) ?_;exact⟨M,hM,rfl,rfl⟩
theorem F1 {F:FuncId} {caps:List AV} {PR:List ByteArray→Prop} (hE:∀ (args:Array Value) (w:World),(callFunc F args).run Tryz.prog w=.ok (.enter F args) w) (K:aA) (hS:zL F caps PR K) (k2:K.get 942=none) (k4:K.get 944=none) (k5:K.get 945=none) (k6:K.get 946=none) (hc:bG K) (hcap:Clo K (.clo F caps)) :
  aJ Tryz.prog 95 [.clo F caps] K (fun r H'=>∃ M,PR M∧r=.osl 945 M.length 0 M.length∧H'=(945,⟨M.length,1,9,dC M⟩)::K):=by
 refine Bd func95 rfl ntmps95<|Sr<|Dd aS<|Zz<|Sr<|Dm ?_;refine iM rfl rfl (CN rfl rfl call125 rfl (IR hE K hS k2 k4 k5 k6 hc hcap)) ?_;rintro r H' ⟨M,hM,rfl,rfl⟩;refine Dd aS<|Zz<|aN ?_;refine bD (H':=((945,⟨M.length,1,9,dC M⟩)::K)) (.inr rfl) rfl (aI rfl) Fin.refl ?_;exact⟨M,hM,rfl,rfl⟩
theorem B9 (l:List ByteArray):dN l=(l.map encStr).map (·.map .pv):=by rw [List.map_map];rfl
theorem CA {F:FuncId} {caps:List AV} {L:List ByteArray} (hL:L.length < 1099511627776) (hE:∀ (args:Array Value) (w:World),(callFunc F args).run Tryz.prog w=.ok (.enter F args) w) (K:aA) (hS:zL F caps (fun M=>M.Perm L) K) (k2:K.get 942=none) (k4:K.get 944=none) (k5:K.get 945=none) (k6:K.get 946=none) (hc:bG K) (hcap:Clo K (.clo F caps)) :
  aJ Tryz.prog 48 [.clo F caps] K (fun r H'=>r=.pv (aY (cQ L))∧H'=K):=by
 refine Bd func48 rfl ntmps48<|Sr<|Dd aS<|Zz<|Sr<|Dm ?_;refine iM rfl rfl (aB rfl rfl call95 rfl (F1 hE K hS k2 k4 k5 k6 hc hcap)) ?_;rintro r H' ⟨M,hperm,rfl,rfl⟩;have hMl:M.length < 4611686018427387904:=by rw [hperm.length_eq];omega
 have hSo:=xO hperm;have hSl:(cQ M).length=M.length:=by rw [cQ,ZL,List.length_mergeSort,ZL]
 refine Dd aS<|Zz<|Sr<|Dd aF<|Dd (by exact aB rfl rfl call96 rfl (AZ M rfl rfl hMl))<|Zz<|Sr<|Dd aF<|Dd aS<|Zz<|aN ?_;refine bD (H':=K) (.inr rfl) rfl (aI rfl) (Fin.slice [(945,⟨M.length,1,9,dN (cQ M)⟩),(945,⟨M.length,1,9,dC M⟩)] ((cQ M).map encStr) rfl rfl (B9 _) (by rw [ZL,hSl]) hc (by simp [k5]) (by simp [k5]) k5) ?_;exact⟨by rw [← hSo];rfl,rfl⟩
abbrev bT:=List (ByteArray×ByteArray×Nat)
def eA (l:bT) (c:Nat):Prop:=(l.map fun p=>p.2.2).Pairwise (· < ·)∧∀ p∈l,p.2.2 < c
def jW (l:bT) (i:Nat):Nat:=((l[i]?).map fun p=>p.2.2).getD 0
theorem GY {l:bT} {c:Nat} (h:eA l c) {i j:Nat} (hi:i < l.length) (hj:j < l.length) (e:jW l i=jW l j):i=j:=by
 have hp:=List.pairwise_iff_getElem.1 h.1;rw [jW,jW,ZQ hi,ZQ hj] at e;have e:(l[i]).2.2=(l[j]).2.2:=e;rcases Nat.lt_trichotomy i j with h1|h1|h1
 ·have:=hp i j (by simpa using hi) (by simpa using hj) h1;simp at this;omega
 ·exact h1
 have:=hp j i (by simpa using hj) (by simpa using hi) h1;simp at this;omega
def FG (mid:Nat) (l:bT) (c:Nat) (s:List Nat):Ob:=⟨0,0,0,eG (.mp mid 0) c c (s.map (jW l))⟩
abbrev RZ (mid:Nat):Ob:=bx 1 33 [.mp mid 0]
theorem J4 {H:aA} {mid:Nat} (h:(H.get mid).isSome=true) (l:bT) (c:Nat) (s:List Nat):∀ r∈(FG mid l c s).rows,∀ x∈r,Clo H x:=by
 intro r hr x hx;rw [FG,eG] at hr;rcases ZY.1 hr with rfl|hr
 ·simp only [ZY,Z2,or_false] at hx;rcases hx with rfl|rfl|rfl
  ·exact .mp h
  ·exact .pv _
  exact .pv _
 obtain ⟨n,_,rfl⟩:=List.mem_map.1 hr;rw [ZO] at hx;subst hx;exact .pv _
theorem uX {l:bT} {i:Nat} {q:ByteArray×AV×Nat} (h:(bQ l)[i]?=some q):∃ p,l[i]?=some p∧q=(p.1,sv p.2.1,p.2.2):=by
 rw [bQ,Z6] at h;cases e:l[i]? with
 | none=>rw [e] at h;cases h
 | some p=>rw [e] at h;cases h;exact⟨p,rfl,rfl⟩
def qW (l:bT) (s:List Nat):List ByteArray:=pick (l.map Prod.fst) s
theorem HJ {l:bT} {s:List Nat} {i:Nat} {p:ByteArray×ByteArray×Nat} (h:l[i]?=some p):qW l (s++[i])=qW l s++[p.1]:=by simp only [qW,pick,List.map_append,List.map_cons,List.map_nil,Z6,h,Option.map_some,Option.getD_some]
theorem LQ (l:bT) (s:List Nat):(qW l s).length=s.length:=ZL _
theorem J0 (mid:Nat) (l:bT) (c:Nat) (K:aA) (hl:l.length < 1099511627776) (hst:eA l c) (h1:K.get 951=some (RZ mid)) (h2:K.get mid=some (bK l c)) (hm6:mid≠946):zL 105 [.ref 951 0 0 0] (fun M=>M.Perm (l.map Prod.fst)) K:=by
 intro yv Hs hK h6 hcl hf hy0 hy1;have g1:∀ M,(Hs M).get 951=some (RZ mid):=fun M=>hK M _ _ h1;have g2:∀ M,(Hs M).get mid=some (bK l c):=fun M=>hK M _ _ h2;have g2':∀ o M,aA.get ((946,o)::Hs M) mid=some (bK l c):=fun o M=>by rw [get_cons_other _ _ hm6];exact g2 M
 refine Bd func105 rfl ntmps105<|Sr<|Dd (by exact aW rfl bS rfl (g1 []) rfl rfl rfl)<|Dd (by exact DH (q:=946) (κ:=fX) rfl aV rfl (g2 []) rfl rfl rfl (h6 []))<|Zz<|aP ?_;refine bR (σ:=List Nat) (fun s=>([(0,yv),(5,.it 946 0)],(946,FG mid l c s)::Hs (qW l s))) (fun s=>s.Nodup∧∀ i,i∈s→i < l.length) (fun s=>l.length - s.length) [] ⟨List.nodup_nil,by simp⟩ ?_ ?_
 ·exact E0
 rintro s ⟨hd,hb⟩;have hsl:s.length≤l.length:=kC _ _ hd hb;refine Sq<|Rg ?_;refine iM rfl rfl (IB (κ:=fX) (l:=bQ l) rfl rfl (get_cons_same _ _ _) rfl rfl (g2' _ _) rfl rfl rfl (ZR _) (ZR _)) ?_;rintro _ _ (⟨rfl,rfl,hn0⟩|⟨hni,hnp,hn1,hn2,rfl,rfl⟩)
 ·refine Dd eR<|Zz<|Sq ?_;refine Cn ?_ ?_<;>intro hc1
  ·cases hc1
  refine bL ?_;have hall:∀ i,i < l.length→i∈s:=fun i hi=>by
   have hq:(bQ l)[i]?=some ((l[i]).1,sv (l[i]).2.1,(l[i]).2.2):=by rw [bQ,Z6,ZQ hi];rfl
   have:=hn0 _ (ZW hq);obtain ⟨j,hj,e⟩:=List.mem_map.1 this;have e2:jW l j=jW l i:=by
    rw [e,jW,ZQ hi];rfl
   have:=GY hst (hb j hj) hi e2
   rwa [this] at hj
  exact jJ (H':=Hs (qW l s)) (.inl rfl) rfl (Fin.pops' [(946,FG mid l c s)] (by simp) (hcl _) (by simp [h6]) (by simp [h6])) ⟨rfl,qW l s,O2 hd (by rw [ZL];exact hb) (by rw [ZL];exact hall),rfl⟩
 obtain ⟨p,hp,rfl⟩:=uX hn1;have hlt:hni < l.length:=(ZP.1 hp).1;have hst2:jW l hni=p.2.2:=by rw [jW,hp];rfl
 have hn3:hni∉s:=fun hm=>hn2 (List.mem_map.2 ⟨hni,hm,hst2⟩);have hb2:∀ i,i∈s++[hni]→i < l.length:=fun i hi=>by
  rcases List.mem_append.1 hi with h|h
  ·exact hb i h
  rw [ZO] at h;omega
 have hd2:(s++[hni]).Nodup:=List.nodup_append.2 ⟨hd,by simp,fun a ha b hb e=>by rw [ZO] at hb;subst hb;subst e;exact hn3 ha⟩;have hlen:=kC _ _ hd2 hb2;rw [ZM,List.length_singleton] at hlen;have hit:FG mid l c (s++[hni])=⟨0,0,0,eG (.mp mid 0) c c (s.map (jW l)++[p.2.2])⟩:=by rw [FG,List.map_append,List.map_cons,List.map_nil,hst2]
 have hyy:=hy1 (FG mid l c (s++[hni])) (qW l s) p.1 (by rw [LQ];omega);rw [← HJ hp] at hyy;refine Dd eR<|Zz<|Sq ?_;refine Cn ?_ ?_<;>intro hc2
 ·refine aK<|aP<|Sr<|Dd (by exact DI (κ:=fX) (seen:=s.map (jW l)) (p:=(p.1,sv p.2.1,p.2.2)) (since:=c) rfl rfl (get_cons_same _ _ _) rfl rfl ((get_cons_other _ _ hm6).trans (g2' _ _)) rfl rfl rfl hn1)<|Dd eR<|Dd aS<|Zz<|Sq ?_;refine gP.ent (E':=[(0,yv),(5,.it 946 0),(3,sv p.1)]) (H':=(946,FG mid l c (s++[hni]))::Hs (qW l s)) (cG.get' ⟨⟨_,rfl,rfl⟩,⟨_,rfl,rfl⟩,⟨_,rfl,rfl⟩,trivial⟩ (fun j=>by rw [hit];exact iT 946 _ (FG mid l c s) (Hs (qW l s)) j)) ?_;refine Rg<|Dd aF<|Dd aF<|Dd (by exact gM rfl rfl rfl (hyy))<|Dd AJ<|Zz ?_;refine Cn ?_ ?_<;>intro hc3
  ·cases hc3
  refine aK ?_;refine⟨s++[hni],⟨hd2,hb2⟩,by rw [ZM,List.length_singleton];omega,?_⟩;exact E0
 cases hc2
theorem AU (l:List ByteArray) (K:aA) (hl:l.length < 1099511627776) (h1:K.get 951=some (bx 1 31 [.pv (aY l)])):zL 97 [.ref 951 0 0 0] (fun M=>M.Perm l) K:=by
 intro yv Hs hK h6 hcl hf hy0 hy1;have g1:∀ M,(Hs M).get 951=some (bx 1 31 [.pv (aY l)]):=fun M=>hK M _ _ h1;have hml:(l.map encStr).length=l.length:=ZL _;refine Bd func97 rfl ntmps97<|Sr<|Dd (by exact aW rfl dW rfl (g1 []) rfl rfl rfl)<|Dd (qQ aQ)<|Dd aF<|Zz<|aP ?_;refine bR (σ:=Nat) (fun i=>([(0,yv),(5,.pv (aY l)),(6,iv ((l.map encStr).length:Int)),(7,iv (i:Int))],Hs (l.take i))) (fun i=>i≤l.length) (fun i=>l.length - i) 0 (Z3 _) ?_ ?_
 ·exact E0
 rintro i hi;refine Sr<|Dd eF<|Zz<|Sq ?_;refine Cn ?_ ?_<;>intro hc1
 ·have hlt:i < l.length:=by have:=ZH hc1;omega
  obtain ⟨s,hs⟩:=bM hlt;have his:=fV (f:=encStr) hs;have hyy:=hy0 (l.take i) s (by rw [Z0];omega);rw [← dR hs] at hyy;refine aK<|Sq<|aP<|Sr<|Dd (KV cK)<|Dd (AK bB)<|Dd aS<|Zz<|Sr<|Dd aF<|Dd aF<|Dd (by exact gM rfl rfl rfl (hyy))<|Dd AJ<|Zz ?_;refine Cn ?_ ?_<;>intro hc2
  ·cases hc2
  refine aK<|Rg<|Dd rD<|Dd aF<|Zz ?_;exact⟨i+1,by omega,by omega,E0⟩
 have hge:i=l.length:=by have:=ZI hc1;omega
 subst hge;refine bL ?_;exact jJ (H':=Hs (l.take l.length)) (.inl rfl) rfl Fin.refl ⟨rfl,_,by rw [List.take_length],rfl⟩
theorem JZ (mid:Nat) (H:aA) (h1:H.get 951=none) (hm:(H.get mid).isSome=true) :
  aJ Tryz.prog 55 [.mp mid 0] H (fun r H'=>r=.clo 105 [.ref 951 0 0 0]∧H'=(951,RZ mid)::H):=by
 refine Bd func55 rfl ntmps55<|Sr<|Dd (by exact gN (id:=951) rfl rfl rfl rfl h1)<|Dd aS<|Zz<|Sr<|Dd (by exact eY rfl rfl)<|Dd aS<|Zz<|aN ?_;refine bD (H':=((951,RZ mid)::H)) (.inr rfl) rfl (aI rfl) Fin.refl ?_;exact Qq
def fF:bT→ByteArray→ByteArray
 | [],_=>⟨#[]⟩
 | (k',v,_)::r,k=>if k'=k then v else fF r k
theorem C2 (k:ByteArray):∀ l:bT,(lI (FM (bQ l)) k).getD (sv ⟨#[]⟩)=sv (fF l k)
 | []=>rfl
 | (k',v,n)::r=>by
  show (if k'=k then some (sv v)else lI (FM (bQ r)) k).getD (sv ⟨#[]⟩)=sv (if k'=k then v else fF r k)
  split
  ·rfl
  exact C2 k r
theorem VQ {P:Program} {N:Nat} {o:Oper} {E:bJ} {H:aA} {T kt et:TypeId} {x y:Operand} {zv:Value} {id g:Nat} {ob:Ob} {l:bT} {k:ByteArray} (ho:o.op=.lookup T x y false) (hT:P.underlying T=some (.map kt et)) (hd:P.underlying kt=some .string) (hx:aO E x=some (.mp id g)) (hH:H.get id=some ob) (hg:ob.g=g)
  (hrows:ob.rows=fK fX (bQ l)) (hy:aO E y=some (sv k)) (hz:∀ w,(zeroValue et).run P w=.ok zv w) (hv:ZV zv (sv ⟨#[]⟩)):bN P N o E H (sv (fF l k)) H:=by
 have h:=P2 (N:=N) (κ:=fX) ho hT hd hx hH hg hrows hy hz hv
 rwa [C2] at h
theorem D8 (s u:ByteArray):∀ r∈([[.str s],[.str u]]:List (List PV)),r.length=1:=by intro r hr;simp only [ZY,Z2,or_false] at hr;rcases hr with rfl|rfl<;>rfl
def wZ (l:bT) (S:List ByteArray) (k:Nat):List ByteArray:=dA ((bQ l).length:Int)::(S.take k).flatMap fun x=>[x,fF l x]
theorem SG {l:bT} {S:List ByteArray} {k:Nat} {s:ByteArray} (h:S[k]?=some s):wZ l S (k+1)=wZ l S k++[s,fF l s]:=by rw [wZ,wZ,dR h,List.flatMap_append];rfl
theorem lC {α β:Type} (f g:α→β):∀ S:List α,(S.flatMap fun x=>[f x,g x]).length=2*S.length
 | []=>rfl
 | x::r=>by
  have h:=lC f g r;rw [List.flatMap_cons,ZM,h];simp only [ZN,List.length_nil];omega
theorem N3 {l:bT} {S:List ByteArray} {k:Nat} (h:k≤S.length):(wZ l S k).length=1+2*k:=by rw [wZ,ZN,lC,Z0];omega
def eD (l:bT):List ByteArray:=cQ (l.map Prod.fst)
def cA (l:bT) (P:List ByteArray):List ByteArray:=(wZ l (eD l) (eD l).length++[dA ((P.map encStr).length:Int)])++P
def aZ (l:bT) (P:List ByteArray):List UInt8:=aR [ofL (aR (cA l P))]
theorem kX (l:bT):(eD l).length=l.length:=by rw [eD,cQ,ZL,List.length_mergeSort,ZL,ZL]
theorem xJ (A B:List ByteArray):dC A++(B.map encStr).map (·.map AV.pv)=dC (A++B):=by rw [dC,dC,List.map_append,List.map_map];rfl
theorem GR (A B:List ByteArray):dC A++B.map (fun s=>[.pv (.str s)])=dC (A++B):=by rw [dC,dC,List.map_append]
abbrev tK (g:Nat) (W:List ByteArray) (l:bT) (c:Nat):aA:=[(951,RZ 950),(920,⟨g,1,9,dC W⟩),(950,bK l c)]
theorem VC (g:Nat) (W:List ByteArray) (l:bT) (c:Nat):bG (tK g W l c):=bG.of (fun p hp=>by
 simp only [ZY,Z2,or_false] at hp;rcases hp with rfl|rfl|rfl
 ·intro r hr x hx;simp only [bx,ZO] at hr;subst hr;rw [ZO] at hx;subst hx;exact .mp rfl
 ·exact jM _ _
 exact aT _ _ _)
theorem sI {l:bT} {P:List ByteArray} {N:Nat} (h:(aZ l P).length < N):(aR (cA l P)).length < N:=by
 have e:aZ l P=(nK (ofL (aR (cA l P)))).data.toList:=by rw [aZ,aR,List.flatMap_cons,List.flatMap_nil,List.append_nil]
 rw [e,oT,lU,bP] at h;omega
theorem J2 {W:List ByteArray} {g n:Nat} {H:aA} (hW:(aR W).length < 35184372088832) (hH:H.get 920=some ⟨g,1,9,dC W⟩) (hn:n=W.length):aJ Tryz.prog 99 [.osl 920 g 0 n] H (fun x H'=>x=sv (ofL (aR W))∧H'=H):=by subst hn;exact RO.calls (RO.lend (id:=920) (H1:=[]) (W.map encStr) (RO.of (kZ W [] hW) rfl) hH (pU W) rfl (xD (.osl (nH encStr W)) IC) (fun _ _ h=>by cases h) (fun _ _ h=>by cases h) rfl)
theorem I8 (l:bT) (c:Nat) (P:List ByteArray) (hst:eA l c) (hl:l.length < 1099511627776) (hP:P.length < 1099511627776) (hsz:(aZ l P).length < 35184372088832) :
  aJ Tryz.prog 50 [.mp 950 0,.pv (aY P)] [(950,bK l c)] (fun r H'=>r=sv (ofL (aZ l P))∧H'=[(950,bK l c)]):=by
 have hsl:=kX l;have hso:=CA (L:=l.map Prod.fst) (by rw [ZL];exact hl) YO (tK 0 [dA ((bQ l).length:Int)] l c) (J0 950 l c _ hl hst rfl rfl (by decide)) rfl rfl rfl rfl (VC _ _ _ _) (by simp;rfl);have hin:=sI hsz;have hgl:(bQ l).length=l.length:=ZL _;have hml:((eD l).map encStr).length=(eD l).length:=ZL _;have hpl:(P.map encStr).length=P.length:=ZL _;change aJ _ _ _ _ fun r H'=>r=.pv (aY (eD l))∧H'=_ at hso;refine Bd func50 rfl ntmps50<|Sr<|Dd aS<|Zz<|Sr<|Dd aF<|Dd (by exact vY (κ:=fX) (l:=bQ l) rfl aV rfl rfl rfl rfl)<|Dd (by exact aB rfl rfl oN rfl (nQ ((bQ l).length:Int) (by omega) (by omega) _))<|Dd (by exact jK (id:=920) rfl cK rfl rfl rfl rfl (show ∀ r∈dC [dA ((bQ l).length:Int)],r.length=1 from by intro r hr;rw [ZO.1 hr];rfl) rfl)<|Dd aS<|Zz<|Sq<|Sr<|Dd aF<|Dd (by exact aB rfl rfl Y0 rfl (JZ 950 _ rfl rfl))<|Dd (by exact aB rfl rfl DZ rfl (hso))<|Dd (qQ aQ)<|Dd aF<|Zz<|aP ?_;refine bR (σ:=Nat) (fun k=>([(0,.mp 950 0),(1,.pv (aY P)),(5,.osl 920 k 0 (1+2*k)),(14,.pv (aY (eD l))),(15,iv (((eD l).map encStr).length:Int)),(16,iv (k:Int))],tK k (wZ l (eD l) k) l c)) (fun k=>k≤(eD l).length) (fun k=>(eD l).length - k) 0 (Z3 _) ?_ ?_
 ·exact E0
 intro k hk;refine Sr<|Dd eF<|Zz<|Sq ?_;refine Cn ?_ ?_<;>intro hc1
 ·have hlt:k < (eD l).length:=by have:=ZH hc1;omega
  obtain ⟨s,hs⟩:=bM hlt;have hi:=fV (f:=encStr) hs;have hwl:=N3 (l:=l) hk;refine aK<|Sq<|aP<|Sr<|Dd (KV cK)<|Dd (AK bB)<|Dd aS<|Zz<|Rg<|Dd aF<|Dd aF<|Dd aF<|Dd aF<|Dd (by exact VQ (l:=l) (k:=s) rfl aV aH rfl rfl rfl rfl rfl fC (.inl rfl))<|Dd (by exact bH [[.str s],[.str (fF l s)]] rfl cK rfl rfl rfl rfl rfl (D8 s (fF l s)))<|Dd (by exact gA (k:=1+2*(k+1)) (ps:=[[.str s],[.str (fF l s)]]) rfl cK P9 rfl rfl rfl rfl rfl ((gI _).trans hwl) rfl (D8 _ _) (m:=2) rfl (by omega) (by omega) (GR _ [s,fF l s]))<|Dd aS<|Zz<|Rg<|Dd rD<|Dd aF<|Zz ?_;refine⟨k+1,by omega,by omega,?_⟩;rw [SG hs];exact(cG.wk (Ea<|Eb<|Ea<|Eb<|Eb<|Eb<|trivial) (Ha<|Hc (jM _ _)<|Hc (aT _ _ _)<|trivial) ⟨rfl,trivial⟩)
 have hge:k=(eD l).length:=by have:=ZI hc1;omega
 subst hge;have hwl:=N3 (l:=l) (ZR (eD l).length);refine bL<|Sr<|Dd aF<|Dd aF<|Dd (qQ aQ)<|Dd (by exact aB rfl rfl oN rfl (nQ ((P.map encStr).length:Int) (by omega) (by omega) _))<|Dd (by exact bH [[.str (dA ((P.map encStr).length:Int))]] rfl cK rfl rfl rfl rfl rfl (by intro r hr;rw [ZO] at hr;subst hr;rfl))<|Dd (by exact gA (ps:=[[.str (dA ((P.map encStr).length:Int))]]) rfl cK P9 rfl rfl rfl rfl rfl ((gI _).trans hwl) rfl (by intro r hr;rw [ZO] at hr;subst hr;rfl) (m:=1) rfl (by omega) rfl (kW _ _))<|Dd aS<|Zz<|Sr<|Dd aF<|Dd aF<|Dd (by exact gA (ps:=P.map encStr) rfl cK P9 rfl rfl rfl rfl rfl ((gI _).trans (by rw [ZM,hwl];rfl)) rfl (by intro r hr;obtain ⟨q,_,rfl⟩:=List.mem_map.1 hr;rfl) (m:=P.length) hpl (by omega) rfl (xJ _ P))<|Dd (by exact aB rfl rfl oM rfl (J2 (W:=cA l P) hin rfl (by rw [cA,ZM,ZM,hwl];rfl))) ?_;refine Dd (by exact bH [[.str (ofL (aR (cA l P)))]] rfl cK rfl rfl rfl rfl rfl (by intro r hr;rw [ZO] at hr;subst hr;rfl))<|Dd (by exact aB rfl rfl oM rfl (kZ [ofL (aR (cA l P))] _ hsz))<|Dd aS<|Zz<|aN ?_;refine bD (H':=[(950,bK l c)]) (.inr rfl) rfl (aI rfl) (Fin.wk (by(simp;done)) (Hc (aT _ _ _)<|trivial) ⟨rfl,trivial⟩) ?_;exact Qq
end Go.Proofs.YtmkgeogoojcciaaGreatDoor
namespace Go.Proofs.YtmkgeogoojcciaaGreatDoor
open Go.Proofs.Tryz
open Go.Abs Go.Lib
theorem VS (x y:Nat) (hx:x < 18446744073709551616) (hy:y < 18446744073709551616) (H:aA):aJ Tryz.prog 132 [uv x,uv y] H (fun r H'=>r=.tup [uv (x*y / 18446744073709551616),uv (x*y % 18446744073709551616)]∧H'=H):=by
 refine Pu ?_;refine Bd func132 rfl ntmps132<|Sr<|Dd aS<|Dd aS<|Zz<|Sq ?_;refine Cn ?_ ?_<;>intro hc1
 ·cases hc1
 exact aK<|Sr<|Dd aF<|Dd aF<|Dd (by exact aB rfl rfl YN rfl (yG x y hx hy _))<|Dd aF<|Dd eR<|Dd eR<|Dd aS<|Dd aS<|Zz<|Sr<|Dd aF<|Dd aF<|Dd aS<|Dd aS<|Zz<|aN<|Ru<|Qq
theorem zD (t:List UInt8) (ht:t.length < 1000000000000) (H:aA):aJ Tryz.prog 51 [sv (ofL t)] H (fun r H'=>r=iv (cR t:Int)∧H'=H):=by
 refine Pu ?_;have hs:(ofL t).size=t.length:=bP t;have hq:IntKind.i64.wrap ((((ofL t).size:Int)+46 - 1).tdiv 46)=(cR t:Int):=by
  rw [hs,Int.tdiv_eq_ediv_of_nonneg (by omega),gV (by omega) (by omega),cR];omega
 exact Bd func51 rfl ntmps51<|Sr<|Dd aS<|Zz<|Sr<|Dd aF<|Dd (wN aH)<|Dd rD<|Dd (by exact dQ rfl rfl rfl (by exact gV (by omega) (by omega)))<|Dd (by exact lV rfl rfl rfl (by decide) hq)<|Dd aS<|Zz<|aN<|Rt<|Qq
theorem Fin.st1 {H1:aA} {id g n:Nat} {ob:Ob} (l:List ByteArray) (hH:H1.get id=some ob) (hg:ob.g=g) (hps:ob.rows=dC l) (hn:n=l.length) :
  Fin [] H1 (.osl id g 0 n) [] (.pv (aY l)):=by
 subst hg hn;exact Fin.fz (id:=id) (ob:=ob) (l.map encStr) hH (hps.trans (pU l)) (.osl (nH encStr l)) rfl trivial trivial
def gY (z:ByteArray) (m n:Nat):List (List AV):=List.replicate m [sv z]++List.replicate (n - m) [sv sNil]
theorem MH {z:ByteArray} {m n:Nat} (h:m≤n):(gY z m n).length=n:=by rw [gY,ZM,List.length_replicate,List.length_replicate];omega
theorem IE {z:ByteArray} {m n j:Nat} (h:m≤n) (hj:j=min (n - m) m):(gY z m n).take m++(((gY z m n).take j)++(gY z m n).drop (m+j))=gY z (m+j) n:=by
 have hjm:j≤m:=by omega
 have h1:(gY z m n).take m=List.replicate m [sv z]:=by rw [gY,List.take_left' List.length_replicate]
 have h2:(gY z m n).take j=List.replicate j [sv z]:=by
  rw [gY,List.take_append_of_le_length (by rw [List.length_replicate];exact hjm),List.take_replicate,Nat.min_eq_left hjm]
 have h3:(gY z m n).drop (m+j)=List.replicate (n - (m+j)) [sv sNil]:=by
  rw [gY,← List.drop_drop,List.drop_left' List.length_replicate,List.drop_replicate,Nat.sub_sub]
 rw [h1,h2,h3,gY,← List.append_assoc,List.replicate_append_replicate]
theorem BQ {H:aA} {z:ByteArray} {m n:Nat}:∀ r∈gY z m n,∀ a∈r,Clo H a:=by intro r hr a ha;rcases List.mem_append.1 hr with h|h<;>rw [List.eq_of_mem_replicate h,ZO] at ha<;>subst ha<;>exact .pv _
theorem LI (z:ByteArray) (n:Nat) (hn:n < 100000) (H:aA):aJ Tryz.prog 106 [.pv (aY [z]),iv (n:Int)] H (fun r H'=>r=.pv (aY (List.replicate n z))∧H'=H):=by
 refine Pu ?_;have hmul:=fun H=>VS 1 n (by omega) (by omega) H;have e1:1*n / 18446744073709551616=0:=by omega
 have e2:1*n % 18446744073709551616=n:=by omega
 rw [e1,e2] at hmul;have hz0:((List.replicate n [sv sNil]:List (List AV))).take 0++((([[.str z]]:List (List PV)).take (min 1 n)).map (·.map .pv)++(List.replicate n [sv sNil]).drop (0+min 1 n))=gY z (min 1 n) n:=by
  rw [List.take_zero,List.nil_append,List.drop_replicate,gY,Z4];rcases(show min 1 n=0∨min 1 n=1 by omega)with e|e<;>rw [e]<;>rfl
 refine Bd func106 rfl ntmps106<|Sr<|Dd aS<|Zz<|Sq<|Sr<|Dd aF<|Dd eF<|Zz ?_;refine Cn ?_ ?_<;>intro hc1
 ·(have:=ZH hc1;omega)
 refine aK<|Sr<|Dd aF<|Dd (qQ aQ)<|Dd (by exact cP rfl bX eL rfl (show IntKind.u64.wrap (1:Int)=1 by rfl))<|Dd aF<|Dd (by exact cP rfl bX eL rfl (show IntKind.u64.wrap (n:Int)=(n:Int)by rw [IntKind.wrap_u64];omega))<|Dd (by exact aB rfl rfl call132 rfl (hmul _))<|Dd aF<|Dd eR<|Dd eR<|Dd aS<|Dd aS<|Zz<|Sq<|Sq ?_;refine dF (t:=26) (n:=7) (X:=false) ?_ ?_
 ·all_goals refine Dd aF ?_
  all_goals refine Dd GI<|Dm ?_
  all_goals refine Sp 23 (fun h23=>?_) fun h23=>?_
  all_goals try contradiction
  all_goals refine On aF<|On GI<|Dd dU<|Zz ?_
  all_goals(exact⟨⟨_,rfl,by simp;omega⟩,rfl,rfl,rfl⟩)
 refine Cn ?_ ?_<;>intro hc2
 ·cases hc2
 refine aK<|Sr<|Dd aF<|Dd (by exact cP rfl eL bX rfl (gV (by omega) (by omega)))<|Dd (by exact iI (id:=960) rfl cK P9 YQ rfl rfl rfl (by omega) (by omega) (by exact ZX _) (by exact ZX _) (by omega) rfl)<|Dd aS<|Zz<|Sr<|Dd aF<|Dd aF<|Dd (by exact NY (n:=min 1 n) rfl cK (yY rfl rfl rfl) rfl rfl rfl (Z3 _) (K5 (len:=1) (ps:=[[.str z]]) (k:=min 1 n) rfl (by decide) (by intro r hr;rw [ZO] at hr;subst hr;rfl) rfl (by omega) rfl) (by intro r hr;obtain ⟨q,hq,rfl⟩:=List.mem_map.1 hr;have:=List.mem_of_mem_take hq;rw [ZO] at this;subst this;rfl) (by rw [ZL,Z0];show min (min 1 n) 1=min 1 n;omega) rfl hz0)<|Dd aS<|Zz<|Sq<|aP ?_;refine bR (σ:=Nat) (fun m=>([(7,.osl 960 0 0 n),(8,iv (m:Int))],[(960,⟨0,1,9,gY z m n⟩)])) (fun m=>m≤n∧(n=0∨0 < m)) (fun m=>n - m) (min 1 n) ⟨by omega,by omega⟩ ?_ ?_
 ·exact(cG.wk (Ea<|Eb<|trivial) (Hc BQ<|trivial) trivial)
 rintro m ⟨hm,hm0⟩;refine Sq<|Sr<|Dd aF<|Dd aF<|Dd (by exact dD rfl aQ rfl rfl rfl)<|Dd eF<|Zz ?_;refine Cn ?_ ?_<;>intro hc3
 ·have hlt:m < n:=by have:=ZH hc3;omega
  obtain ⟨j,hj⟩:∃ j,j=min m (n - m):=⟨_,rfl⟩;have hrows:=IE (z:=z) (j:=j) hm (by omega);have hrl:∀ r∈(gY z m n).take j,r.length=1:=fun r hr=>by
   have:=List.mem_of_mem_take hr;rcases List.mem_append.1 this with h|h<;>rw [List.eq_of_mem_replicate h]<;>rfl
  have hfl:=MH (z:=z) hm;refine aK<|aP<|bU follows<|Cr [] (fun _ _=>aF)<|Cr [960] (fun _ _=>aF)<|Cr [] (fun _ _=>aF)<|Cr [960] (fun H1 hH=>by exact fI (l:=m) (h:=n) rfl cK rfl ((hH 960 rfl).trans rfl) rfl rfl rfl rfl (by omega) (ZR _) (Z4 _) rfl)<|Cr [960] (fun _ _=>aF)<|Cr [] (fun _ _=>aF)<|Cr [960] (fun H1 hH=>by exact fI (l:=0) (h:=m) rfl cK rfl ((hH 960 rfl).trans rfl) rfl rfl rfl rfl (Z3 _) (by omega) rfl rfl)<|Cp [960] (fun H1 hH=>by exact NY (n:=j) rfl cK (yY rfl ((hH 960 rfl).trans rfl) rfl) ((hH 960 rfl).trans rfl) rfl rfl (by rw [hfl];omega) (GZ (k:=j) rfl ((hH 960 rfl).trans rfl) rfl rfl (by omega) rfl) hrl (by rw [Z0];show min j (gY z m n).length=j;rw [hfl];omega) hj.symm hrows)<|Cr [960] (fun _ _=>rD)<|Cr [] (fun _ _=>aS)<|dO<|Kr ?_;refine⟨m+j,⟨by omega,by omega⟩,by omega,?_⟩;exact(cG.wk (Ea<|Eb<|trivial) (Hc BQ<|trivial) trivial)
 have hge:m=n:=by have:=ZI hc3;omega
 subst hge;have hfin:gY z m m=dC (List.replicate m z):=by rw [gY,Nat.sub_self,List.replicate_zero,List.append_nil,dC,List.map_replicate]
 refine bL<|Sr<|Dd aF<|Dd aS<|Zz<|aN ?_;refine bD (H':=[]) (.inr rfl) rfl (aI rfl) (Fin.st1 (List.replicate m z) rfl rfl hfin (List.length_replicate).symm) ?_;exact Qq
theorem F2 {d:DSt} {N m:Nat} (h:DInv d N m) (k a n ar fr:Nat) (b:Bool) (l:List (ByteArray×ByteArray×Nat)) (c:Nat) (hk:k < 5000) (har:ar < 2) (hfr:fr≤k) (hm:m+k < 1048576) :
  aJ Tryz.prog 56 [.ref 1100 0 0 0,iv (ar:Int),iv (fr:Int)] (sH d (cC k a n b) (bK l c)) (fun r H'=>r=iv (jI d (2+ar*k+fr) (List.replicate (k - fr) zS)).1∧H'=sH (jI d (2+ar*k+fr) (List.replicate (k - fr) zS)).2 (cC k a n (b||!decide ((jI d (2+ar*k+fr) (List.replicate (k - fr) zS)).1=0))) (bK l c)):=by
 have hark:ar*k≤k:=by
  rcases(show ar=0∨ar=1 by omega)with e|e<;>subst e<;>omega
 have hpl:=xW d k a n ar fr b l c (by omega) (by omega) (by omega);have hw:=mO h k a n (2+ar*k+fr) b l c (List.replicate (k - fr) zS) (by rw [List.length_replicate];omega) (by omega);have hrp:=fun H=>LI zS (k - fr) (by omega) H;obtain ⟨x,hx⟩:∃ x,x=jI d (2+ar*k+fr) (List.replicate (k - fr) zS):=⟨_,rfl⟩;rw [← hx] at hw ⊢;refine Bd func56 rfl ntmps56<|Sr<|Dd aS<|Zz<|Sq<|bU follows<|Cr [1100] (fun _ _=>aF)<|Cr [1100] (fun _ _=>aF)<|Cr [] (fun _ _=>aF)<|Cr [] (fun _ _=>aF)<|Cr [1000,1001,1002,1003,1100,1101] (fun H1 hH=>by exact aB rfl rfl YZ rfl (lF hpl _ ⟨(hH 1000 rfl).trans rfl,(hH 1001 rfl).trans rfl,(hH 1002 rfl).trans rfl,(hH 1003 rfl).trans rfl,(hH 1100 rfl).trans rfl,(hH 1101 rfl).trans rfl,trivial⟩ (by simp;rfl)))<|Cr [] (fun H1 hH=>by exact aB rfl rfl oP rfl (nW _))<|Cr [] (fun H1 hH=>by exact bH [[.str zS]] rfl cK rfl rfl rfl rfl rfl (by simp))<|Cr [1100] (fun _ _=>aF)<|Cr [1100] (fun H1 hH=>by exact bO rfl rfl ((hH _ rfl).trans rfl) rfl)<|Cr [1100] (fun _ h=>fh rT h)<|Cr [1100] (fun _ h=>lh aU h)<|Cr [] (fun _ _=>aF)<|Cr [] (fun H1 hH=>by exact dQ rfl rfl rfl (show IntKind.i64.wrap ((k:Int) - (fr:Int))=((k - fr:Nat):Int)by rw [gV (by omega) (by omega)];omega)) ?_;refine Cr [] (fun H1 hH=>by exact aB rfl rfl call106 rfl (hrp _)) ?_;refine cF (r:=⟨_,some [1000,1001,1002,1003,1100,1101],_⟩) (DStep.plain rfl (fun H1 hH=>by exact aB rfl rfl oO rfl (gC hw _ ⟨(hH 1000 rfl).trans rfl,(hH 1001 rfl).trans rfl,(hH 1002 rfl).trans rfl,(hH 1003 rfl).trans rfl,(hH 1100 rfl).trans rfl,(hH 1101 rfl).trans rfl,trivial⟩ (by simp;rfl)))) rfl ?_;refine Cr [1100] (fun _ _=>aS)<|dO<|Kr<|aN ?_;refine bD (H':=(sH x.2 (cC k a n (b||!decide (x.1=0))) (bK l c))) (.inr rfl) rfl (aI rfl) (Fin.wk (by(simp;done)) (Hc (aG _ _ rfl rfl rfl)<|Hc (aC _ _)<|Hc (aM _ _ _)<|Hc (aL _ _)<|Hc (bA rfl rfl)<|Hc (aT _ _ _)<|trivial) ⟨rfl,rfl,rfl,rfl,rfl,rfl,trivial⟩) ?_;exact Qq
end Go.Proofs.YtmkgeogoojcciaaGreatDoor
namespace Go.Abs
section
section
variable {P:Program} {N:Nat} {o:Oper} {E:bJ} {H:aA} {T kt et:TypeId} {x:Operand} {q gq:Nat} {oq:Ob}
theorem yE {w:World} {I:Nat→Prop} {ι:cB} {v:Value} (h:VRel w I ι H v (.pv .nilm)):v=.map none:=by cases h.pv_inv;rfl
theorem UZ (ho:o.op=.call {callee:=.builtin .len,args:=#[x],argTypes:=#[T]}) (hT:P.underlying T=some (.map kt et)) (hx:aO E x=some (.pv .nilm)):bN P N o E H (.pv (.int .i64 0)) H :=.of_run fun a w I ι hr he=>by
  have hv:=yE (aE he hx);refine⟨.int .i64 0,?_,.pv (.int _ _)⟩;simp [execOp,ho,resolve,invoke,builtin,hv,Builtin.len_,run_underlying hT,goInt]
theorem CX (ho:o.op=.range T x) (hT:P.underlying T=some (.map kt et)) (hx:aO E x=some (.pv .nilm)) (hq:H.get q=none) :
  bN P N o E H (.it q 0) ((q,⟨0,0,0,eG (.pv .nilm) 0 0 []⟩)::H):=by
 intro a w I ι _ _ hr he K Q hk;have hvx0:=aE he hx;have hvx:=yE hvx0;obtain ⟨k2,k3⟩:=Rel.placeX (H':=(q,⟨0,0,0,eG (.pv .nilm) 0 0 []⟩)::H) (id:=q) (cap:=1) (ob':=⟨0,0,0,eG (.pv .nilm) 0 0 []⟩) (x:=.mapIter none 0 #[] 0) (w':=w.alloc (.mapIter none 0 #[] 0)) hr rfl rfl rfl rfl
  (fun o ho=>by rw [hq] at ho;cases ho) (fun hnew hI hmono=>.inr (.inr (.inl ⟨rfl,w.heap.size,none,0,#[],0,by simp,hnew,hI,rfl,⟨_,_,_,rfl,.pv .nilm,.pv (.int _ _),.pv (.int _ _)⟩,fun i r hr'=>by simp [eG] at hr'⟩)))
  (get_cons_same _ _ _) (fun j hj=>get_cons_other _ _ hj)
 have hrun:(execOp a.eval o).run P w=.ok (.value (.pointer (some ⟨w.heap.size,0,none⟩))) (w.alloc (.mapIter none 0 #[] 0)):=by
  simp only [execOp,ho,hvx];simp [Instr.range,run_underlying hT]
 unfold Oper.wpW;rw [hrun];exact hk _ _ I _ _ _ ⟨rfl,rfl⟩ (.it ⟨0,0,0,eG (.pv .nilm) 0 0 []⟩ (get_cons_same _ _ _) (ZR _) rfl fun _=>⟨rfl,w.heap.size,by simp,rfl⟩) k2 k3
theorem HY (ho:o.op=.next x false) (hx:aO E x=some (.it q gq)) (hQ:H.get q=some oq) (hgq:oq.g=gq) (hrq:oq.rows=eG (.pv .nilm) 0 0 []) :
  NS P N o E H (fun r H'=>(r=.tup [.pv (.bool false)]∧H'=H∧True)∨∃ (i:Nat) (p:Nat),False∧True∧r=.tup [.pv (.bool true)]∧H'=H):=by
 intro a w I ι _ _ hr he K Q hk;obtain ⟨hsz,b,hι,hvx⟩:=H4 (aE he hx) hQ hgq;obtain ⟨_,b',bm,since',seen',last',e1,e2,e3,e4,⟨m,n,k,z1,z2,z3,z4⟩,e6⟩:=(hr.obj q oq hQ).iter hsz hι;rw [hι] at e1;cases e1;rw [hrq] at z1;simp only [eG,List.getElem?_cons_zero,Option.some.injEq,List.cons.injEq,and_true] at z1;obtain ⟨rfl,rfl,rfl⟩:=z1;have hbm:=yE z2;cases hbm;have hrun:(Instr.next (.pointer (some ⟨b,0,none⟩)) false o.type).run P w=.ok (.tuple #[.bool false]) w:=by
  simp only [Instr.next,getObj,Sem.run_bind,Sem.run,e2,Result.andThen];rfl
 unfold Oper.wpW execOp;simp only [ho,hvx,Sem.run_bind,hrun,Result.andThen_ok,Sem.run_pure];refine hk _ _ I ι _ _ (.inl ⟨rfl,rfl,trivial⟩) (.tup rfl (fun i v c hv hc=>?_)) hr (Step.refl _ _ _ _)
 match i with
 | 0=>simp at hv hc;subst hv hc;exact .pv (.bool _)
 | i+1=>simp at hv
end
section
variable {ρ:Nat→Nat} (hρ:∀ i,ρ (ρ i)=i)
include hρ
theorem aJ.renQ {P:Program} {f:FuncId} {args args':List AV} {H H':aA} {R:AV→aA→Prop} (h:aJ P f args H R) (ha:iA ρ args=args') (hH:jG ρ H=H') :
  aJ P f args' H' (fun x K=>∃ x0 K0,R x0 K0∧x=gK ρ x0∧K=jG ρ K0):=by
 subst ha hH;intro I ι w vs hrel hl hv;have hrel':=hrel.ren hρ;rw [pZ hρ] at hrel';have hl':vs.size=args.length:=by rw [hl,eX,ZL]
 refine(h I _ w vs hrel' hl' (fun i v a h1 h2=>?_)).mono ?_
 ·have:=(hv i v (gK ρ a) h1 (by rw [eX,Z6,h2];rfl)).ren hρ
  rwa [pZ hρ,(uR hρ [a]).2 a (by simp)] at this
 rintro e w' ⟨x,K,I',ι',v,rfl,hR,k1,k2,k3⟩;have k3':=k3.ren hρ;have e1:(fun j=>(fun j=>ι (ρ j)) (ρ j))=ι:=by funext j;simp only [hρ]
 rw [e1] at k3';exact⟨_,_,I',_,v,rfl,⟨_,_,hR,rfl,rfl⟩,k1.ren hρ,k2.ren hρ,k3'⟩
end
end
end Go.Abs
namespace Go.Proofs.YtmkgeogoojcciaaGreatDoor
open Go.Proofs.Tryz
open Go.Abs
def cU:bT→ByteArray→Option ByteArray
 | [],_=>none
 | (k',v,_)::r,k=>if k'=k then some v else cU r k
theorem nO (k:ByteArray):∀ l:bT,fF l k=(cU l k).getD ⟨#[]⟩
 | []=>rfl
 | (k',v,n)::r=>by
  rw [fF,cU]
  split
  ·rfl
  exact nO k r
def jQ:bT→ByteArray→ByteArray→Nat→bT
 | [],k,v,c=>[(k,v,c)]
 | (k',a,n)::r,k,v,c=>if k'=k then(k,v,n)::r else(k',a,n)::jQ r k v c
def rQ:bT→ByteArray→bT
 | [],_=>[]
 | (k',a,n)::r,k=>if k'=k then r else(k',a,n)::rQ r k
def tE (l:bT) (k:ByteArray) (c:Nat):Nat:=if(cU l k).isSome then c else c+1
theorem tL (k v:ByteArray) (c:Nat):∀ l:bT,tM (bQ l) k (sv v) c=bQ (jQ l k v c)
 | []=>rfl
 | (k',a,n)::r=>by
  show (if k'=k then(k,sv v,n)::bQ r else(k',sv a,n)::tM (bQ r) k (sv v) c)=bQ (jQ ((k',a,n)::r) k v c);rw [jQ]
  split
  ·rfl
  rw [tL k v c r];rfl
theorem DG (k:ByteArray):∀ l:bT,tQ (bQ l) k=bQ (rQ l k)
 | []=>rfl
 | (k',a,n)::r=>by
  show (if k'=k then bQ r else(k',sv a,n)::tQ (bQ r) k)=bQ (rQ ((k',a,n)::r) k);rw [rQ]
  split
  ·rfl
  rw [DG k r];rfl
theorem uW (k:ByteArray):∀ l:bT,(lI (FM (bQ l)) k).isSome=(cU l k).isSome
 | []=>rfl
 | (k',a,n)::r=>by
  show (if k'=k then some (sv a)else lI (FM (bQ r)) k).isSome=(if k'=k then some a else cU r k).isSome
  split
  ·rfl
  exact uW k r
theorem xC (k:ByteArray) (c:Nat) (l:bT):yT (bQ l) k c=tE l k c:=by rw [yT,tE,uW]
theorem xA (k v:ByteArray) (c:Nat) (k2:ByteArray):∀ l:bT,cU (jQ l k v c) k2=if k=k2 then some v else cU l k2
 | []=>rfl
 | (k',a,n)::r=>by
  rw [jQ];by_cases h:k'=k
  ·rw [ZK h,cU,cU];subst h;by_cases h2:k'=k2
   ·rw [ZK h2,ZK h2]
   rw [ZJ h2,ZJ h2,ZJ h2]
  rw [ZJ h,cU,cU,xA k v c k2 r];by_cases h2:k'=k2
  ·rw [ZK h2,ZK h2,ZJ (fun e=>h (h2.trans e.symm))]
  rw [ZJ h2,ZJ h2]
def fU (l:bT):Prop:=(l.map Prod.fst).Nodup
theorem iR {k:ByteArray}:∀ {l:bT},cU l k=none↔k∉l.map Prod.fst
 | []=>by simp [cU]
 | (k',a,n)::r=>by
  rw [cU,List.map_cons,ZY,not_or];by_cases h:k'=k
  ·rw [ZK h];exact⟨(fun h=>by cases h),fun h2=>absurd h.symm h2.1⟩
  rw [ZJ h,iR];exact⟨fun h2=>⟨fun e=>h e.symm,h2⟩,fun h2=>h2.2⟩
theorem qF (k v:ByteArray) (c:Nat):∀ l:bT,(jQ l k v c).map Prod.fst=if(cU l k).isSome then l.map Prod.fst else l.map Prod.fst++[k]
 | []=>rfl
 | (k',a,n)::r=>by
  rw [jQ,cU];by_cases h:k'=k
  ·rw [ZK h,ZK h];subst h;rfl
  rw [ZJ h,ZJ h,List.map_cons,qF k v c r];cases (cU r k).isSome<;>rfl
theorem C9 {l:bT} (h:fU l) (k v:ByteArray) (c:Nat):fU (jQ l k v c):=by
 rw [fU,qF];cases e:cU l k with
 | some x=>exact h
 | none =>
  have hn:=iR.1 e;exact List.nodup_append.2 ⟨h,by simp,fun a ha b hb e2=>by rw [ZO] at hb;subst hb;subst e2;exact hn ha⟩
theorem FB (k v:ByteArray) (c:Nat):∀ l:bT,(jQ l k v c).map (fun p=>p.2.2)=if(cU l k).isSome then l.map (fun p=>p.2.2)else l.map (fun p=>p.2.2)++[c]
 | []=>rfl
 | (k',a,n)::r=>by
  rw [jQ,cU];by_cases h:k'=k
  ·rw [ZK h,ZK h];rfl
  rw [ZJ h,ZJ h,List.map_cons,FB k v c r];cases (cU r k).isSome<;>rfl
theorem OB {l:bT} {c:Nat}:eA l c↔(l.map fun p=>p.2.2).Pairwise (· < ·)∧∀ n∈l.map (fun p=>p.2.2),n < c:=by rw [eA];refine and_congr_right fun _=>⟨fun h n hn=>?_,fun h p hp=>h _ (List.mem_map.2 ⟨p,hp,rfl⟩)⟩;obtain ⟨p,hp,rfl⟩:=List.mem_map.1 hn;exact h p hp
theorem C8 {l:bT} {c:Nat} (h:eA l c) (k v:ByteArray):eA (jQ l k v c) (tE l k c):=by
 rw [OB,FB,tE];have h:=OB.1 h;cases cU l k with
 | some x=>exact h
 | none =>
  refine⟨List.pairwise_append.2 ⟨h.1,by simp,fun a ha b hb=>by rw [ZO] at hb;subst hb;exact h.2 a ha⟩,fun n hn=>?_⟩;show n < c+1;rcases List.mem_append.1 hn with h1|h1
  ·have:=h.2 n h1;omega
  rw [ZO] at h1;omega
theorem pD (k:ByteArray):∀ l:bT,(rQ l k).Sublist l
 | []=>.slnil
 | (k',a,n)::r=>by
  rw [rQ]
  split
  ·exact List.sublist_cons_self _ _
  exact(pD k r).cons_cons _
theorem J1 {l:bT} (h:fU l) (k:ByteArray):fU (rQ l k):=h.sublist ((pD k l).map _)
theorem TH {l:bT} {c:Nat} (h:eA l c) (k:ByteArray):eA (rQ l k) c:=⟨h.1.sublist ((pD k l).map _),fun p hp=>h.2 p ((pD k l).subset hp)⟩
theorem JY (k k2:ByteArray):∀ {l:bT},fU l→cU (rQ l k) k2=if k=k2 then none else cU l k2
 | [],_=>by rw [rQ,cU];split<;>rfl
 | (k',a,n)::r,hnd=>by
  have hn:k'∉r.map Prod.fst∧fU r:=List.nodup_cons.1 hnd;rw [rQ];by_cases h:k'=k
  ·subst h;rw [ZK rfl,cU];by_cases h2:k'=k2
   ·subst h2;rw [ZK rfl];exact iR.2 hn.1
   rw [ZJ h2,ZJ h2]
  rw [ZJ h,cU,cU,JY k k2 hn.2];by_cases h2:k'=k2
  ·rw [ZK h2,ZK h2,ZJ (fun e=>h (h2.trans e.symm))]
  rw [ZJ h2,ZJ h2]
def fS:bT→Nat→bT→bT×Nat
 | l,c,[]=>(l,c)
 | l,c,(k,v,_)::r=>fS (jQ l k v c) (tE l k c) r
theorem A9 (k v:ByteArray) (n:Nat):∀ (ps l:bT) (c:Nat),fS l c (ps++[(k,v,n)])=(jQ (fS l c ps).1 k v (fS l c ps).2,tE (fS l c ps).1 k (fS l c ps).2)
 | [],l,c=>rfl
 | (k',a,m)::r,l,c=>A9 k v n r _ _
theorem JN:∀ (ps l:bT) (c:Nat),eA l c→fU l→eA (fS l c ps).1 (fS l c ps).2∧fU (fS l c ps).1
 | [],l,c,h1,h2=>⟨h1,h2⟩
 | (k,v,n)::r,l,c,h1,h2=>JN r _ _ (C8 h1 k v) (C9 h2 k v c)
theorem OY (k2:ByteArray):∀ (ps l:bT) (c:Nat),fU ps→cU (fS l c ps).1 k2=(cU ps k2).orElse fun _=>cU l k2
 | [],l,c,_=>rfl
 | (k,v,n)::r,l,c,h=>by
  have hn:k∉r.map Prod.fst∧fU r:=List.nodup_cons.1 h;show cU (fS (jQ l k v c) (tE l k c) r).1 k2=_;rw [OY k2 r _ _ hn.2,xA,cU];by_cases h2:k=k2
  ·subst h2;rw [ZK rfl,ZK rfl,iR.2 hn.1];rfl
  rw [ZJ h2,ZJ h2]
theorem PK {a b:bT} (h:a.Perm b) (k:ByteArray):fU a→cU a k=cU b k:=by
 induction h with
 | nil=>exact fun _=>rfl
 | cons x h ih =>
  obtain ⟨k',v,n⟩:=x;intro hn;rw [cU,cU,ih (List.nodup_cons.1 hn).2]
 | swap x y l =>
  obtain ⟨k1,v1,n1⟩:=x;obtain ⟨k2,v2,n2⟩:=y;intro hn;rw [cU,cU,cU,cU];by_cases e1:k2=k
  ·by_cases e2:k1=k
   ·exact absurd (e1.trans e2.symm) (by have:=(List.nodup_cons.1 hn).1;intro e;subst e;exact this (ZY.2 (.inl rfl)))
   rw [ZK e1,ZJ e2,ZK e1]
  rw [ZJ e1,ZJ e1]
 | trans h1 h2 ih1 ih2=>exact fun hn=>(ih1 hn).trans (ih2 ((h1.map _).nodup_iff.1 hn))
def gQ (l:bT) (s:List Nat):bT:=s.filterMap fun i=>l[i]?
theorem vU {l:bT} {s:List Nat} {i:Nat} {p:ByteArray×ByteArray×Nat} (h:l[i]?=some p):gQ l (s++[i])=gQ l s++[p]:=by rw [gQ,gQ,List.filterMap_append,List.filterMap_cons,h];rfl
theorem CK:∀ l:bT,gQ l (List.range l.length)=l:=fun l=>by
 refine List.ext_getElem? fun i=>?_;have h:∀ n,n≤l.length→gQ l (List.range n)=l.take n:=by
  intro n
  induction n with
  | zero=>intro _;rfl
  | succ n ih =>
   intro hn;rw [List.range_succ,vU (ZQ (show n < l.length by omega)),ih (by omega),List.take_add_one,ZQ (show n < l.length by omega)];rfl
 rw [h _ (ZR _),List.take_length]
theorem HK {l:bT} {s:List Nat} (hd:s.Nodup) (hb:∀ i,i∈s→i < l.length) (ha:∀ i,i < l.length→i∈s):(gQ l s).Perm l:=by have hp:s.Perm (List.range l.length):=(List.perm_ext_iff_of_nodup hd List.nodup_range).2 fun i=>⟨fun h=>List.mem_range.2 (hb i h),fun h=>ha i (List.mem_range.1 h)⟩;have:=hp.filterMap (fun i=>l[i]?);rw [show (List.range l.length).filterMap (fun i=>l[i]?)=l from CK l] at this;exact this
theorem yS {id:Nat} {o:Ob} {H:aA} (h:H.get id=some o) (j:Nat):aA.get ((id,o)::H) j=H.get j:=by
 by_cases e:j=id
 ·subst e;rw [h];exact get_cons_same _ _ _
 exact get_cons_other _ _ e
abbrev pO (l:bT) (c:Nat) (ps:bT):Ob:=bK (fS l c ps).1 (fS l c ps).2
theorem XG (l l2:bT) (c c2:Nat) (H:aA) (hl2:l2.length < 1099511627776) (hst:eA l2 c2) (h0:H.get 1101=some (bK l c)) (h1:H.get 950=some (bK l2 c2)) (h6:H.get 946=none) (hcl:bG H) :
  aJ Tryz.prog 104 [.mp 1101 0,.mp 950 0] H (fun r H'=>r=.tup []∧∃ ps,ps.Perm l2∧H'=(1101,pO l c ps)::H):=by
 have g1:∀ o o2,aA.get ((946,o)::(1101,o2)::H) 950=some (bK l2 c2):=fun o o2=>by rw [get_cons_other _ _ (by decide),get_cons_other _ _ (by decide)];exact h1
 have g2:∀ o o2,aA.get ((946,o)::(1101,o2)::H) 1101=some o2:=fun o o2=>by rw [get_cons_other _ _ (by decide)];exact get_cons_same _ _ _
 refine Bd func104 rfl ntmps104<|Sr<|Dd aF<|Dd (by exact DH (q:=946) (κ:=fX) (l:=bQ l2) rfl aV rfl h1 rfl rfl rfl h6)<|Zz<|aP ?_;refine bR (σ:=List Nat) (fun s=>([(0,.mp 1101 0),(7,.it 946 0)],(946,FG 950 l2 c2 s)::(1101,pO l c (gQ l2 s))::H)) (fun s=>s.Nodup∧∀ i,i∈s→i < l2.length) (fun s=>l2.length - s.length) [] ⟨List.nodup_nil,by simp⟩ ?_ ?_
 ·exact cG.get' ⟨⟨_,rfl,rfl⟩,⟨_,rfl,rfl⟩,trivial⟩ (fun j=>by
   by_cases e:j=946
   ·subst e;rw [get_cons_same];exact(get_cons_same _ _ _).symm
   rw [get_cons_other _ _ e,get_cons_other _ _ e];exact yS h0 j)
 rintro s ⟨hd,hb⟩;have hsl:s.length≤l2.length:=kC _ _ hd hb;refine Sq<|Rg ?_;refine iM rfl rfl (IB (κ:=fX) (l:=bQ l2) rfl rfl (get_cons_same _ _ _) rfl rfl (g1 _ _) rfl rfl rfl (ZR _) (ZR _)) ?_;rintro _ _ (⟨rfl,rfl,hn0⟩|⟨hni,hnp,hn1,hn2,rfl,rfl⟩)
 ·refine Dd eR<|Zz<|Sq ?_;refine Cn ?_ ?_<;>intro hc1
  ·cases hc1
  refine bL ?_;have hall:∀ i,i < l2.length→i∈s:=fun i hi=>by
   have hq:(bQ l2)[i]?=some ((l2[i]).1,sv (l2[i]).2.1,(l2[i]).2.2):=by rw [bQ,Z6,ZQ hi];rfl
   have:=hn0 _ (ZW hq);obtain ⟨j,hj,e⟩:=List.mem_map.1 this;have e2:jW l2 j=jW l2 i:=by
    rw [e,jW,ZQ hi];rfl
   have:=GY hst (hb j hj) hi e2
   rwa [this] at hj
  exact jJ (H':=(1101,pO l c (gQ l2 s))::H) (.inl rfl) rfl (Fin.pops' [(946,FG 950 l2 c2 s)] (by simp) (bG.app (D:=[(1101,pO l c (gQ l2 s))]) (kV.spec ⟨aT _ _ _,trivial⟩) hcl) (by simp [get_cons_other,h6]) (by simp [get_cons_other,h6])) ⟨rfl,_,HK hd hb hall,rfl⟩
 obtain ⟨p,hp,rfl⟩:=uX hn1;have hlt:hni < l2.length:=(ZP.1 hp).1;have hst2:jW l2 hni=p.2.2:=by rw [jW,hp];rfl
 have hn3:hni∉s:=fun hm=>hn2 (List.mem_map.2 ⟨hni,hm,hst2⟩);have hb2:∀ i,i∈s++[hni]→i < l2.length:=fun i hi=>by
  rcases List.mem_append.1 hi with h|h
  ·exact hb i h
  rw [ZO] at h;omega
 have hd2:(s++[hni]).Nodup:=List.nodup_append.2 ⟨hd,by simp,fun a ha b hb e=>by rw [ZO] at hb;subst hb;subst e;exact hn3 ha⟩;have hlen:=kC _ _ hd2 hb2;rw [ZM,List.length_singleton] at hlen;have hit:FG 950 l2 c2 (s++[hni])=⟨0,0,0,eG (.mp 950 0) c2 c2 (s.map (jW l2)++[p.2.2])⟩:=by rw [FG,List.map_append,List.map_cons,List.map_nil,hst2]
 have hpk:pO l c (gQ l2 (s++[hni]))=⟨0,0,tE (fS l c (gQ l2 s)).1 p.1 (fS l c (gQ l2 s)).2,fK fX (bQ (jQ (fS l c (gQ l2 s)).1 p.1 p.2.1 (fS l c (gQ l2 s)).2))⟩:=by rw [pO,vU hp,A9]
 refine Dd eR<|Zz<|Sq ?_;refine Cn ?_ ?_<;>intro hc2
 ·refine aK<|aP<|Sr<|Dd (by exact DI (κ:=fX) (seen:=s.map (jW l2)) (p:=(p.1,sv p.2.1,p.2.2)) (since:=c2) rfl rfl (get_cons_same _ _ _) rfl rfl ((get_cons_other _ _ (by decide)).trans (g1 _ _)) rfl rfl rfl hn1)<|Dd eR<|Dd eR<|Dd aS<|Dd aS<|Zz<|Rg<|Dd aF<|Dd aF<|Dd aF<|Uu (by exact lZ (κ:=fX) (l:=bQ (fS l c (gQ l2 s)).1) (.inl rfl) aV aH rfl ((get_cons_other _ _ (by decide)).trans (g2 _ _)) rfl rfl rfl rfl rfl (tL _ _ _ _) (xC _ _ _))<|Zz ?_;refine⟨s++[hni],⟨hd2,hb2⟩,by rw [ZM,List.length_singleton];omega,?_⟩;rw [hit,hpk];exact cG.get' ⟨⟨_,rfl,rfl⟩,⟨_,rfl,rfl⟩,trivial⟩ (fun j=>mW [_,_] [_,_,_,_] (by repeat(first|exact trivial|refine⟨rfl,?_⟩)) j)
 cases hc2
def kT (l:bT) (P:List ByteArray):bT:=P.foldl rQ l
theorem BU {l:bT} {P:List ByteArray} {k:Nat} {s:ByteArray} (h:P[k]?=some s):kT l (P.take (k+1))=rQ (kT l (P.take k)) s:=by rw [kT,kT,dR h,List.foldl_append];rfl
theorem KG:∀ (P:List ByteArray) (l:bT) (c:Nat),eA l c→fU l→eA (kT l P) c∧fU (kT l P)
 | [],l,c,h1,h2=>⟨h1,h2⟩
 | k::r,l,c,h1,h2=>KG r _ c (TH h1 k) (J1 h2 k)
theorem QG (k2:ByteArray):∀ (P:List ByteArray) (l:bT),fU l→cU (kT l P) k2=if R0 P k2=true then none else cU l k2
 | [],l,_=>by rw [ZJ (fun h=>by have:=iS.1 h;cases this)];rfl
 | k::r,l,h=>by
  show cU (kT (rQ l k) r) k2=_;rw [QG k2 r _ (J1 h k),JY k k2 h];by_cases h1:R0 r k2=true
  ·rw [ZK h1,ZK (iS.2 (ZY.2 (.inr (iS.1 h1))))]
  rw [ZJ h1];by_cases h2:k=k2
  ·rw [ZK h2,ZK (iS.2 (ZY.2 (.inl h2.symm)))]
  rw [ZJ h2,ZJ (fun hm=>by rcases ZY.1 (iS.1 hm)with e|e;exact h2 e.symm;exact h1 (iS.2 e))]
theorem RC (l l2:bT) (c c2:Nat) (P:List ByteArray) (H:aA) (hl2:l2.length < 1099511627776) (hP:P.length < 1099511627776) (hst:eA l2 c2) (h0:H.get 1101=some (bK l c)) (h1:H.get 950=some (bK l2 c2)) (h6:H.get 946=none) (hcl:bG H) :
  aJ Tryz.prog 53 [.mp 1101 0,.mp 950 0,.pv (aY P)] H (fun r H'=>r=.tup []∧∃ ps,ps.Perm l2∧H'=(1101,bK (kT (fS l c ps).1 P) (fS l c ps).2)::H):=by
 have hml:(P.map encStr).length=P.length:=ZL _;refine Bd func53 rfl ntmps53<|Sr<|Dd aF<|Dm ?_;refine iM rfl rfl (aB rfl rfl call104 rfl (XG l l2 c c2 H hl2 hst h0 h1 h6 hcl)) ?_;rintro r H' ⟨rfl,ps,hps,rfl⟩;refine Zz<|Sr<|Dd aF<|Dd (qQ aQ)<|Dd aF<|Zz<|aP ?_;refine bR (σ:=Nat) (fun k=>([(0,.mp 1101 0),(11,.pv (aY P)),(12,iv ((P.map encStr).length:Int)),(13,iv (k:Int))],(1101,bK (kT (fS l c ps).1 (P.take k)) (fS l c ps).2)::H)) (fun k=>k≤P.length) (fun k=>P.length - k) 0 (Z3 _) ?_ ?_
 ·exact E0
 intro k hk;refine Sr<|Dd eF<|Zz<|Sq ?_;refine Cn ?_ ?_<;>intro hc1
 ·have hlt:k < P.length:=by have:=ZH hc1;omega
  obtain ⟨s,hs⟩:=bM hlt;have hi:=fV (f:=encStr) hs;refine aK<|Sq<|aP<|Sr<|Dd (KV cK)<|Dd (AK bB)<|Dd aS<|Zz<|Rg<|Dd aF<|Dd aF<|Uu (by exact FQ (κ:=fX) (l:=bQ (kT (fS l c ps).1 (P.take k))) rfl aV aH rfl (get_cons_same _ _ _) rfl rfl rfl rfl (DG s _))<|Zz<|Rg<|Dd rD<|Dd aF<|Zz ?_;refine⟨k+1,by omega,by omega,?_⟩;rw [BU hs];exact cG.get' ⟨⟨_,rfl,rfl⟩,⟨_,rfl,rfl⟩,⟨_,rfl,rfl⟩,⟨_,rfl,by rfl⟩,trivial⟩ (fun j=>iT _ _ _ _ j)
 have hge:k=P.length:=by have:=ZI hc1;omega
 subst hge;rw [List.take_length];refine bL ?_;exact jJ (H':=(1101,bK (kT (fS l c ps).1 P) (fS l c ps).2)::H) (.inl rfl) rfl Fin.refl ⟨rfl,ps,hps,rfl⟩
end Go.Proofs.YtmkgeogoojcciaaGreatDoor
section
namespace Go.Abs
open Go.Lib
theorem pK:∀ (l:List UInt8) (a:Nat),decFrom a l=(decFrom 0 l).map fun n=>a*10 ^ l.length+n
 | [],a=>by simp [decFrom]
 | b::r,a=>by
  rw [decFrom,decFrom];cases h:digitVal b with
  | none=>rfl
  | some d =>
   show decFrom (a*10+d) r=(decFrom (0*10+d) r).map _;rw [pK r (a*10+d),pK r (0*10+d),Option.map_map];congr 1;funext n;show (a*10+d)*10 ^ r.length+n=a*10 ^ (r.length+1)+((0*10+d)*10 ^ r.length+n);rw [Nat.pow_succ];obtain ⟨p,hp⟩:∃ p,p=10 ^ r.length:=⟨_,rfl⟩;rw [← hp,Nat.add_mul,Nat.mul_assoc,Nat.mul_comm 10 p,Nat.zero_mul,Z4];omega
theorem tS (l:List UInt8):∀ z,decFrom 0 (List.replicate z 48++l)=decFrom 0 l
 | 0=>rfl
 | z+1=>by
  have h48:digitVal 48=some 0:=by decide
  rw [List.replicate_succ,List.cons_append,decFrom,h48];exact tS l z
theorem wA (b:List UInt8):∀ (a:List UInt8) (n:Nat),decFrom n (a++b)=(decFrom n a).bind fun x=>decFrom x b
 | [],n=>rfl
 | c::a,n=>by
  rw [List.cons_append,decFrom,decFrom];cases h:digitVal c with
  | none=>rfl
  | some d=>exact wA b a _
theorem ND {l:List UInt8} {u:Nat} (hne:l≠[]) (hm:∀ b∈l,48≤b.toNat∧b.toNat≤57) (hd:decFrom 0 l=some u):atoi l=some (u:Int):=by
 cases l with
 | nil=>exact absurd rfl hne
 | cons b r =>
  have hb:=hm b List.mem_cons_self;have e2:decNat (b::r)=some u:=by rw [decNat,hd];rfl
  have h43:¬ (b == 43)=true:=fun h=>by rw [beq_iff_eq] at h;rw [h] at hb;exact absurd hb.1 (by decide)
  have h45:¬ (b == 45)=true:=fun h=>by rw [beq_iff_eq] at h;rw [h] at hb;exact absurd hb.1 (by decide)
  rw [atoi,ZJ h45,ZJ h43,e2];rfl
theorem DV {l:List UInt8} {u:Nat} (hl:l.length≤18) (hne:l≠[]) (hm:∀ b∈l,48≤b.toNat∧b.toNat≤57) (hd:decFrom 0 l=some u):atoiAll l=.ok (u:Int):=by rw [atoiAll_short _ hl,ND hne hm hd];rfl
end Go.Abs
namespace Go.Proofs.YtmkgeogoojcciaaGreatDoor
open Go.Proofs.Tryz
open Go.Abs Go.Lib
instance memDecZ (k:ByteArray) (l:List ByteArray):Decidable (k∈l):=decidable_of_iff _ iS
theorem uA {l:List UInt8} {u:Nat} (hl:l.length≤18) (hne:l≠[]) (hm:∀ b∈l,48≤b.toNat∧b.toNat≤57) (hd:decFrom 0 l=some u):gO (ofL l)=false∧dG (ofL l)=(u:Int):=by
 have h:=DV hl hne hm hd;constructor
 ·rw [gO,aX,h]
 rw [dG,pP,aX,h]
theorem IH {n w:Nat} {b:UInt8} (h:b∈dg n w):48≤b.toNat∧b.toNat≤57:=by
 rw [dg] at h;rcases List.mem_append.1 h with h|h
 ·rw [List.eq_of_mem_replicate h];decide
 exact nS n h
theorem U6 (n w:Nat):dg n w≠[]:=by rw [dg];intro h;exact nU n (List.append_eq_nil_iff.1 h).2
theorem II (n w:Nat):decFrom 0 (dg n w)=some n:=by rw [dg,tS,lM]
theorem PX (place a n:Nat) (ha:a < 10) (hn:n < 10000000):(hS place a n).extract 16 24=ofL (dg a 1++dg n 7):=jA (by
 have h8:(dg a 1++dg n 7).length=8:=by rw [ZM,kL (oF a (by omega) (by omega)),kL (oF n (by omega) (by omega))]
 rw [dZ,aX,aX,BH,oC,qO,List.drop_left' (sJ _),List.take_left' h8])
theorem PW (place a n:Nat) (ha:a < 10) (hn:n < 10000000):gO ((hS place a n).extract 16 24)=false∧dG ((hS place a n).extract 16 24)=((a*10000000+n:Nat):Int):=by
 have h7:(dg n 7).length=7:=kL (oF n (by omega) (by omega));have h8:(dg a 1++dg n 7).length=8:=by rw [ZM,kL (oF a (by omega) (by omega)),h7]
 rw [PX place a n ha hn];refine uA (by omega) (fun h=>U6 a 1 (List.append_eq_nil_iff.1 h).1) (fun b hb=>?_) ?_
 ·rcases List.mem_append.1 hb with h|h
  ·exact IH h
  exact IH h
 rw [wA,II,Option.bind_some,pK,II,h7];rfl
theorem PU {k place a n:Nat} (ha:a < 2) (hn:n≤k) (hk:k < 10000000):oX (hS place a n)=a∧oW (hS place a n)=n∧kN k place (hS place a n)=true:=by
 obtain ⟨h1,h2⟩:=PW place a n (by omega) (by omega);have hb:lG (hS place a n)=false:=by
  rw [lG,h1,h2,Bool.false_or];exact decide_eq_false (by omega)
 have hu:LL (hS place a n)=a*10000000+n:=by rw [LL,h2,ZX]
 have hA:oX (hS place a n)=a:=by rw [oX,hb,ZJ (by decide),hu];omega
 have hN:oW (hS place a n)=n:=by rw [oW,hb,ZJ (by decide),hu];omega
 refine⟨hA,hN,?_⟩;rw [kN,hb,hA,hN,decide_eq_true ha,decide_eq_true hn,decide_eq_true rfl];rfl
theorem LP (place:Nat) {p:List UInt8} (h2:p.length≤46):(ofL (eP place p)).extract 16 18=ofL (dg p.length 2)∧(ofL (eP place p)).extract 18 (18+p.length)=ofL p:=by
 have hd:(dg p.length 2).length=2:=kL (oF _ (by omega) (by omega));have e:(eP place p).drop 16=dg p.length 2++(p++zB (48 - (dg p.length 2++p).length)):=by rw [eP,oC,qO,List.drop_left' (sJ _),List.append_assoc]
 have e2:(eP place p).drop 18=p++zB (48 - (dg p.length 2++p).length):=by
  rw [show 18=16+2 from rfl,← List.drop_drop,e,List.drop_left' hd]
 constructor
 ·refine jA ?_;rw [dZ,aX,aX,e];exact List.take_left' hd
 refine jA ?_;rw [dZ,aX,aX,e2,show 18+p.length - 18=p.length by omega,List.take_left]
theorem O1 {place:Nat} {p:List UInt8} (h1:1≤p.length) (h2:p.length≤46):EV place (ofL (eP place p))=ofL p:=by
 obtain ⟨c1,c2⟩:=LP place h2;have hd:(dg p.length 2).length=2:=kL (oF _ (by omega) (by omega));obtain ⟨n1,n2⟩:=uA (l:=dg p.length 2) (u:=p.length) (by omega) (U6 _ _) (fun b=>IH) (II _ _);have hb:BB (ofL (eP place p))=false:=by
  rw [BB,c1,n1,n2,Bool.false_or,decide_eq_false (by omega),decide_eq_false (by omega)];rfl
 have hp:O4 (ofL (eP place p))=ofL p:=by rw [O4,c1,n2,ZX,c2]
 rw [EV,hb,ZJ (by decide),hp,aX,ZK rfl]
theorem EU (t:List UInt8):∀ i,(List.range i).flatMap (fM t)=t.take (46*i)
 | 0=>by rw [List.range_zero,Nat.mul_zero,List.take_zero];rfl
 | i+1=>by
  rw [List.range_succ,List.flatMap_append,EU t i,List.flatMap_cons,List.flatMap_nil,List.append_nil,fM,Nat.mul_succ];exact(List.take_add ..).symm
theorem JP (t:List UInt8):((List.range (cR t)).map (fM t)).flatten=t:=by rw [← List.flatMap_def,EU,List.take_of_length_le (by rw [cR];omega)]
theorem EW {t:List UInt8} {i:Nat} (h:i < cR t):1≤(fM t i).length∧(fM t i).length≤46:=by rw [mT];rw [cR] at h;omega
theorem dE (x:ByteArray) (L:List ByteArray):aR (x::L)=decDigits x.size++58::(x.data.toList++aR L):=by
 have h1:aR (x::L)=(nK x).data.toList++aR L:=by rw [aR,List.flatMap_cons];rfl
 rw [h1,nK,ByteArray.data_append,Array.toList_append,ByteArray.data_append,Array.toList_append,lA];simp
theorem QC (n:Nat):(58:UInt8)∉decDigits n:=fun h=>by
 have:=nS n h;exact absurd this.2 (by decide)
theorem MM {x:ByteArray} (L:List ByteArray) (hx:x.size < 1000000000000000000):rA (aR (x::L))=false∧KA (aR (x::L))=x.size∧wB (aR (x::L))=x.data.toList++aR L:=by
 obtain ⟨e1,e2⟩:=QM (r:=x.data.toList++aR L) (QC x.size);rw [← dE] at e1 e2;obtain ⟨n1,n2⟩:=uA (l:=decDigits x.size) (u:=x.size) (cZ (k:=18) (by omega) (by decide)) (nU _) (fun b=>nS _) (lM _);have hm:(58:UInt8)∈aR (x::L):=by rw [dE];simp
 have hi:dA (x.size:Int)=ofL (decDigits x.size):=jA (by rw [aX,lA]);refine⟨?_,?_,e2⟩
 ·rw [rA,e1,e2,n1,n2,decide_eq_true hm,hi,decide_eq_true rfl,decide_eq_false (by omega),decide_eq_false (by rw [ZM,cW];omega)];rfl
 rw [KA,e1,n2,ZX]
theorem qT:∀ (L acc:List ByteArray),(∀ x∈L,x.size < 1000000000000000000)→fB (aR L).length (aR L) acc=(acc++L,true)
 | [],acc,_=>by rw [List.append_nil];rfl
 | x::L,acc,h=>by
  obtain ⟨h1,h2,h3⟩:=MM L (h x List.mem_cons_self);have hne:aR (x::L)≠[]:=by rw [dE];simp
  rw [vQ hne h1,h2,h3,List.drop_left' (cW x),List.take_left' (cW x),HS,qT L _ (fun y hy=>h y (List.mem_cons_of_mem _ hy)),List.append_assoc];rfl
theorem qU {L:List ByteArray} (h:∀ x∈L,x.size < 1000000000000000000):eE (aR L)=(L,true):=by rw [eE,qT L [] h,List.nil_append]
theorem FF (A B:List ByteArray):aR (A++B)=aR A++aR B:=List.flatMap_append
end Go.Proofs.YtmkgeogoojcciaaGreatDoor
end
namespace Go.Proofs.YtmkgeogoojcciaaGreatDoor
open Go.Proofs.Tryz
open Go.Abs
theorem PP (s:ByteArray) (H:aA):aJ Tryz.prog 172 [sv s] H (fun r H'=>r=bv false∧H'=H):=by refine Pu ?_;refine Bd func172 rfl ntmps172<|Sr<|Dd aS<|Zz<|Sr<|Dd aF<|Dd aF<|Dd OG<|Dd aS<|Zz<|aN<|Rt ?_;exact⟨by simp,rfl⟩
theorem TD (s t:ByteArray) (H:aA):aJ Tryz.prog 146 [sv s,sv t] H (fun r H'=>r=bv (rH s t)∧H'=H):=by
 refine Pu ?_;refine Bd func146 rfl ntmps146<|Sr<|Dd aS<|Zz<|Sq ?_;refine dF (t:=4) (n:=15) (X:=rH s t) ?_ ?_
 ·all_goals refine Dd aF ?_
  all_goals refine Dd (by exact aB rfl rfl call172 rfl (PP _ _))<|Dm ?_
  all_goals refine Sp 7 (fun h7=>?_) fun h7=>?_
  all_goals try contradiction
  all_goals refine Fo<|Fo<|Fo<|Dd dU<|Dm ?_
  all_goals refine Sp 12 (fun h12=>?_) fun h12=>?_
  all_goals try contradiction
  all_goals refine On aF<|On aF<|On (by exact O7 rfl rfl rfl)<|Dd dU<|Da ?_
  all_goals(exact⟨⟨_,rfl,by rfl⟩,rfl,rfl,rfl⟩)
 exact aN<|Rt<|Qq
def eU:List ByteArray→Bool
 | a::b::r=>!rH b a&&eU (b::r)
 | _=>true
theorem CB {a:ByteArray} {l:List ByteArray} (h:eU (a::l)=true):eU l=true:=by
 cases l with
 | nil=>rfl
 | cons b r=>exact(ZU _ _▸h:_∧_).2
theorem sL:∀ (i:Nat) {l:List ByteArray},eU l=true→eU (l.drop i)=true
 | 0,_,h=>h
 | i+1,[],_=>rfl
 | i+1,a::l,h=>sL i (CB h)
theorem G5 {l:List ByteArray} {k:Nat} {a b:ByteArray} (ha:l[k]?=some a) (hb:l[k+1]?=some b):eU (l.drop k)=(!rH b a&&eU (l.drop (k+1))):=by obtain ⟨h1,e1⟩:=ZP.1 ha;obtain ⟨h2,e2⟩:=ZP.1 hb;rw [List.drop_eq_getElem_cons h1,List.drop_eq_getElem_cons h2,e1,e2];rfl
theorem FH (l:List ByteArray) (H:aA) (hl:l.length < 1099511627776):aJ Tryz.prog 119 [.pv (aY l)] H (fun r H'=>r=bv (eU l)∧H'=H):=by
 refine Pu ?_;have hml:(l.map encStr).length=l.length:=ZL _;refine Bd func119 rfl ntmps119<|Sr<|Dd aS<|Zz<|Sq<|Sr<|Dd aF<|Dd (qQ aQ)<|Dd (by exact dQ rfl rfl rfl (show IntKind.i64.wrap (((l.map encStr).length:Int) - 1)=((l.map encStr).length:Int) - 1 by rw [IntKind.wrap_i64];omega))<|Dd aS<|Zz<|aP ?_;refine bR (σ:=Nat) (fun k=>([(0,.pv (aY l)),(3,iv ((k:Int) - 1))],[])) (fun k=>k≤l.length∧eU (l.drop (k - 1))=true) (fun k=>k) l.length ⟨ZR _,?_⟩ ?_ ?_
 ·have:(l.drop (l.length - 1)).length≤1:=by rw [Z1];omega
  match l.drop (l.length - 1),this with
  | [],_=>rfl
  | [a],_=>rfl
 ·rw [hml];exact Wk
 rintro k ⟨hk,hs⟩;refine Sq<|Sr<|Dd aF<|Dd GI<|Zz ?_;refine Cn ?_ ?_<;>intro hc1
 ·have hlt:2≤k:=by have:=ZH hc1;omega
  obtain ⟨m,rfl⟩:∃ m,k=m+2:=⟨k - 2,by omega⟩;obtain ⟨b,hb⟩:=bM (l:=l) (k:=m+1) (by omega);obtain ⟨a,ha⟩:=bM (l:=l) (k:=m) (by omega);have hib:=fV (f:=encStr) hb;have hia:=fV (f:=encStr) ha;have hat:=G5 ha hb;rw [show m+2 - 1=m+1 by omega] at hs;rw [hs,Bool.and_true] at hat;refine aK<|Sq<|aP<|Sq<|bU follows<|Cq aF<|Cq aF<|Cq (by exact eT (m:=m+1) rfl cK rfl rfl (by omega) (show (((m+2:Nat):Int) - 1).toNat=m+1 by omega) hib rfl)<|Cq (AK bB)<|Cq aF<|Cq aF<|Cq (by exact dQ rfl rfl rfl (show IntKind.i64.wrap ((((m+2:Nat):Int) - 1) - 1)=((m:Nat):Int)by rw [IntKind.wrap_i64];omega))<|Cq (KV cK)<|Cq (AK bB)<|Cq (by exact aB rfl rfl call146 rfl (TD b a _))<|dO<|Kr ?_;refine Cn ?_ ?_<;>intro hc2
  ·have hlt2:rH b a=true:=hc2;have h0:eU l=false:=by
    rw [Bool.eq_false_iff];intro h;rw [sL m h,hlt2] at hat;cases hat
   rw [h0];exact Sr<|Dd aS<|Zz<|aN<|Rt<|Qq
  have hlt2:rH b a=false:=hc2;refine aK<|Rg<|Dd aF<|Dd (by exact dQ rfl rfl rfl (show IntKind.i64.wrap ((((m+2:Nat):Int) - 1) - 1)=((m+1:Nat):Int) - 1 by rw [IntKind.wrap_i64];omega))<|Da ?_;refine⟨m+1,⟨by omega,?_⟩,by omega,?_⟩
  ·rw [show m+1 - 1=m by omega,hat,hlt2];rfl
  exact Wk
 have hge:k≤1:=by have:=ZI hc1;omega
 have h0:eU l=true:=by rw [show k - 1=0 by omega] at hs;exact hs
 rw [h0];exact bL<|Sr<|Dd aS<|Zz<|aN<|Rt<|Qq
end Go.Proofs.YtmkgeogoojcciaaGreatDoor
section
namespace Go.Proofs.YtmkgeogoojcciaaGreatDoor
open Go.Proofs.Tryz
open Go.Abs
structure M3 where
 k:ByteArray
 b:ByteArray
 o:ByteArray
 t:ByteArray
end Go.Proofs.YtmkgeogoojcciaaGreatDoor
namespace Go.Abs
end Go.Abs
namespace Go.Proofs.YtmkgeogoojcciaaGreatDoor
open Go.Proofs.Tryz
open Go.Abs
end Go.Proofs.YtmkgeogoojcciaaGreatDoor
end
namespace Go.Proofs.YtmkgeogoojcciaaGreatDoor
open Go.Proofs.Tryz
open Go.Abs
theorem MB (l:List ByteArray) (s:ByteArray) (H:aA) (hl:l.length < 4611686018427387904):aJ Tryz.prog 123 [.pv (aY l),sv s] H (fun r H'=>r=iv (P1 (fun x=>decide (s=x)) l)∧H'=H):=by
 refine Pu ?_;have hml:(l.map encStr).length=l.length:=ZL _;refine Bd func123 rfl ntmps123<|Sr<|Dd aS<|Zz<|Sq<|Sr<|Dd aF<|Dd (qQ aQ)<|Dd aF<|Zz<|aP ?_;refine bR (σ:=Nat) (fun k=>([(0,.pv (aY l)),(1,sv s),(7,iv ((l.map encStr).length:Int)),(8,iv (k:Int))],[])) (fun k=>k≤l.length∧∀ j,j < k→∀ b,l[j]?=some b→decide (s=b)=false) (fun k=>l.length - k) 0 ⟨by omega,by omega⟩ ?_ ?_
 ·exact E0
 rintro k ⟨hk,hno⟩;refine Sr<|Dd eF<|Zz<|Sq ?_;refine Cn ?_ ?_<;>intro hc1
 ·have hlt:k < l.length:=by have:=ZH hc1;omega
  obtain ⟨o,ho⟩:=bM hlt;have hi:=fV (f:=encStr) ho;refine aK<|Sq<|aP<|Sr<|Dd aF<|Dd aS<|Zz<|Sr<|Dd aF<|Dd aF<|Dd aF<|Dd (KV cK)<|Dd (AK bB)<|Dd VI<|Zz ?_;refine Cn ?_ ?_<;>intro hc2
  ·refine Sr<|Dd aF<|Dd aS<|Zz<|aN<|Rt ?_;exact⟨by rw [P1,MI hno ho hc2],rfl⟩
  refine aK<|Rg<|Dd rD<|Dd aF<|Zz ?_;exact⟨k+1,⟨by omega,OZ hno ho hc2⟩,by omega,E0⟩
 have hge:k=l.length:=by have:=ZI hc1;omega
 subst hge;refine bL<|Sr<|Dd aS<|Zz<|aN<|Rt ?_;exact⟨by rw [P1,MJ hno],rfl⟩
theorem TP (l:List ByteArray) (s:ByteArray):l.any (fun x=>decide (s=x))=R0 l s:=by rw [R0];congr 1;funext x;rw [Bool.eq_iff_iff,ZS,ZS];exact eq_comm
theorem DR (l:List ByteArray) (s:ByteArray) (H:aA) (hl:l.length < 4611686018427387904):aJ Tryz.prog 92 [.pv (aY l),sv s] H (fun r H'=>r=bv (R0 l s)∧H'=H):=by refine Pu ?_;refine Bd func92 rfl ntmps92<|Sr<|Dd aS<|Zz<|Sr<|Dd aF<|Dd aF<|Dd (by exact aB rfl rfl call123 rfl (MB l s _ hl))<|Dd R1<|Dd aS<|Zz<|aN<|Rt ?_;exact⟨by rw [P0,TP],rfl⟩
def m1 (p:M3):ByteArray×Bool:=if p.t=p.o then(p.o,false)else if p.t=p.b then(p.o,false)else if p.o=p.b then(p.t,false)else(p.b,true)
end Go.Proofs.YtmkgeogoojcciaaGreatDoor
