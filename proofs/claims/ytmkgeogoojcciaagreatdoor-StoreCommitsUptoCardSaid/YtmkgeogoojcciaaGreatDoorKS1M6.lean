/-
  Parts of the proof: rules of an abstract program logic, contracts of functions, plain laws. Conditions: each theorem's own.
-/
import Derived.Test.YtmkgeogoojcciaaGreatDoorKS1M5
set_option linter.unusedVariables false
set_option linter.unusedSimpArgs false
set_option maxRecDepth 100000
set_option maxHeartbeats 8000000
namespace Go.Proofs
theorem WB:type_of% Tryz.call105:=Tryz.call105
theorem nF:type_of% Tryz.call43:=Tryz.call43
theorem BT:type_of% Tryz.call48:=Tryz.call48
theorem WP:type_of% Tryz.call55:=Tryz.call55
theorem WO:type_of% Tryz.call85:=Tryz.call85
theorem nE:type_of% Tryz.call90:=Tryz.call90
theorem nC:type_of% Tryz.call99:=Tryz.call99
theorem bO:type_of% Tryz.isAgg33:=Tryz.isAgg33
theorem aT:type_of% Tryz.underlying33:=Tryz.underlying33
end Go.Proofs
namespace Go.Proofs.YtmkgeogoojcciaaGreatDoor
open Go.Proofs.Tryz
open Go.Abs Go.Lib
def l9 (d:DSt) (place:Nat) (L:List ByteArray):Nat→Int×DSt
 | 0=>(0,d)
 | i+1=>if(l9 d place L i).1=0 then(gS (l9 d place L i).2 ((place+i:Nat):Int) (L.getD i sNil),iE (l9 d place L i).2 ((place+i:Nat):Int) (L.getD i sNil))else l9 d place L i
def iP (d:DSt) (place:Nat) (L:List ByteArray):Int×DSt :=if(l9 d place L L.length).1=0 then(lE (l9 d place L L.length).2,iF (l9 d place L L.length).2)else l9 d place L L.length
theorem B1 {d:DSt} {place:Nat} {L:List ByteArray} {i:Nat} (h:¬ (l9 d place L i).1=0):∀ j,l9 d place L (i+j)=l9 d place L i
 | 0=>rfl
 | j+1=>by rw [← Nat.add_assoc,l9,B1 h j,XB h]
theorem oK {d:DSt} {n m:Nat} (h:DInv d n m) (place:Nat) (L:List ByteArray):∀ i,m+i≤1048576→DInv (l9 d place L i).2 n (m+i)
 | 0,_=>h
 | i+1,hi=>by
  have ih:=oK h place L i (by omega);rw [l9]
  split
  ·exact yX ih (by omega) _ _
  exact ih.mono (by omega)
theorem jT {d:DSt} {n m:Nat} (h:DInv d n m) (place:Nat) (L:List ByteArray) (hm:m+L.length≤1048576):DInv (iP d place L).2 n (m+L.length):=by
 rw [iP]
 split
 ·exact NL (oK h place L _ hm)
 exact oK h place L _ hm
theorem lN {d:DSt} {n m:Nat} (h:DInv d n m) (k a cn place:Nat) (b:Bool) (l:List (ByteArray×ByteArray×Nat)) (c:Nat) (L:List ByteArray) (hm:m+L.length < 1048576) (hpl:place < 100000) :
  aK Tryz.prog 90 [.ref 1100 0 0 0,iv (place:Int),.pv (aW L)] (sH d (b6 k a cn b) (bJ l c)) (fun r H'=>r=iv (iP d place L).1∧H'=sH (iP d place L).2 (b6 k a cn (b||!decide ((iP d place L).1=0))) (bJ l c)):=by
 have hml:(L.map encStr).length=L.length:=XD _;refine Bd func90 rfl ntmps90<|Sr<|Dd aS<|Zz<|Sr<|Dd aS<|Zz<|Sq<|Sr<|Dd aS<|Zz<|aM ?_;refine bB (σ:=Nat) (fun i=>([(0,.ref 1100 0 0 0),(1,iv (place:Int)),(2,.pv (aW L)),(7,iv (l9 d place L i).1),(8,iv (i:Int))],sH (l9 d place L i).2 (b6 k a cn b) (bJ l c))) (fun i=>i≤L.length∧∀ j,j < i→(l9 d place L j).1=0) (fun i=>L.length - i) 0 ⟨XU _,fun j hj=>absurd hj (Nat.not_lt_zero _)⟩ ?_ ?_
 ·exact(bY.wk (Ea<|Eb<|Eb<|Eb<|Eb<|trivial) (Hc (aF _ _ rfl rfl rfl)<|Hc (aC _ _)<|Hc (aL _ _ _)<|Hc (aJ _ _)<|Hc (bD rfl rfl)<|Hc (aQ _ _ _)<|trivial) ⟨rfl,rfl,rfl,rfl,rfl,rfl,trivial⟩)
 rintro i ⟨hi,hz⟩;have hx:=oK h place L i (by omega);have hst:=B1 (d:=d) (place:=place) (L:=L) (i:=i);have hnx:l9 d place L (i+1)=if(l9 d place L i).1=0 then(gS (l9 d place L i).2 ((place+i:Nat):Int) (L.getD i sNil),iE (l9 d place L i).2 ((place+i:Nat):Int) (L.getD i sNil))else l9 d place L i:=rfl;have hzi:(l9 d place L i).1=0→∀ j,j < i+1→(l9 d place L j).1=0:=fun h j hj=>by
  rcases Nat.lt_succ_iff_lt_or_eq.1 hj with h1|rfl
  ·exact hz j h1
  exact h
 rcases hp:l9 d place L i with⟨e,d1⟩;simp only [hp] at hx hst hnx hzi ⊢;refine Sq<|Sq ?_;refine dA (t:=16) (n:=9) (X:=decide ((i:Int) < ((L.map encStr).length:Int))&&decide (e=0)) ?_ ?_
 ·all_goals refine Dd aE ?_
  all_goals refine Dd aE<|Dd (jW aO)<|Dd dG<|Dm ?_
  all_goals refine Sp 13 (fun h13=>?_) fun h13=>?_
  all_goals try contradiction
  all_goals first|refine Fo<|Fo ?_|refine On aE<|On g6 ?_
  all_goals refine Dd gL<|Zz ?_
  all_goals(exact⟨⟨_,rfl,by(rw [h13];rfl)⟩,rfl,rfl,rfl⟩)
 refine Cn ?_ ?_<;>intro hc1
 ·have hq:i < L.length∧e=0:=by have h:=hc1;rw [XM,XK,XK] at h;exact⟨by omega,h.2⟩
  obtain ⟨t,ht⟩:=aY hq.1;have hit:=cG (f:=encStr) ht;have hgt:L.getD i sNil=t:=by rw [List.getD_eq_getElem?_getD,ht];rfl
  rw [hgt,XC hq.2] at hnx;have hw:=P3 d1 ((place+i:Nat):Int) t hx.ok hx.arm (by have:=hx.q;omega);refine aG<|Sq<|aM<|bK follows<|Cr [1100] (fun _ _=>aE)<|Cr [1100] (fun H1 hH=>by exact bM rfl rfl ((hH _ rfl).trans rfl) rfl)<|Cr [1100] (fun _ h=>fh p7 h)<|Cr [1100] (fun _ h=>lh lM h)<|Cr [] (fun _ _=>aE)<|Cr [] (fun _ _=>aE)<|Cr [] (fun H1 hH=>by exact cF rfl rfl rfl (show IntKind.i64.wrap ((place:Int)+(i:Int))=((place+i:Nat):Int)by rw [g9 (by omega) (by omega)];omega))<|Cr [] (fun _ _=>aE)<|Cr [] (fun _ _=>aE)<|Cr [] (fun _ _=>(BY bR))<|Cr [] (fun _ _=>(kG aU)) ?_;refine bU (r:=⟨_,some [1000,1001,1002,1003],_⟩) (DStep.plain rfl (fun H1 hH=>by exact aB rfl rfl call121 rfl (b8 hw _ ⟨(hH 1000 rfl).trans rfl,(hH 1001 rfl).trans rfl,(hH 1002 rfl).trans rfl,(hH 1003 rfl).trans rfl,trivial⟩ (by simp;rfl)))) rfl ?_;refine Cr [] (fun _ _=>aS)<|cM<|Kr<|Rg<|Dd aE<|Dd kP<|Da ?_;refine⟨i+1,⟨by omega,hzi hq.2⟩,by omega,?_⟩;dsimp only;rw [hnx];exact(bY.wk (Ea<|Eb<|Eb<|Eb<|Eb<|trivial) (Hc (aF _ _ rfl rfl rfl)<|Hc (aC _ _)<|Hc (aL _ _ _)<|Hc (aJ _ _)<|Hc (bD rfl rfl)<|Hc (aQ _ _ _)<|trivial) ⟨rfl,rfl,rfl,rfl,rfl,rfl,trivial⟩)
 have hq:i=L.length∨¬ e=0:=by have h:=hc1;rw [Bool.and_eq_false_iff,XL,XL] at h;omega
 have hend:l9 d place L L.length=(e,d1):=by
  by_cases he:e=0
  ·rcases hq with hq|hq
   ·rw [← hq];exact hp
   exact absurd he hq
  have:=hst he (L.length - i)
  rwa [show i+(L.length - i)=L.length by omega] at this
 rw [iP,hend];refine a6<|Sq<|Sr<|Dd aE<|Dd g6<|Zz ?_;refine Cn ?_ ?_<;>intro hc2
 ·have he:e=0:=W9 hc2;have hs:=SX d1 hx.ok hx.arm;rw [XC he];cases b
  ·refine Rg<|Dd aE<|Dd e8<|Dd (dP p7)<|Dd (eA lM)<|Dd (by exact aB rfl rfl call122 rfl (b8 hs _ ⟨rfl,rfl,rfl,rfl,trivial⟩ (by simp;rfl)))<|Dd aS<|Zz<|Sr<|Dd aE<|Dd aE<|Dd e8<|Dd (dP iZ)<|Dd (eA dC)<|Dd aE<|On aE<|On oZ<|Dd gL<|Dd e8<|Dd (dP iZ)<|Uu (by exact cX rfl sizeOf4 rfl rfl rfl rfl rfl rfl (by simp only [XF,List.length_nil];omega) (by simp only [Zl,encStr];rfl) (by simp only [Zl,encStr];rfl))<|Zz<|Sr<|Dd aE<|Dd aS<|Zz<|aN ?_;refine a8 (H':=(sH (iF d1) (b6 k a cn (false||!decide (lE d1=0))) (bJ l c))) (.inr rfl) rfl (aH rfl) (Fin.wk (by(simp;done)) (Hc (aF _ _ rfl rfl rfl)<|Hc (aC _ _)<|Hc (aL _ _ _)<|Hc (aJ _ _)<|Hc (bD rfl rfl)<|Hc (aQ _ _ _)<|trivial) ⟨rfl,rfl,rfl,rfl,rfl,rfl,trivial⟩) ?_;exact Qq
  refine Rg<|Dd aE<|Dd e8<|Dd (dP p7)<|Dd (eA lM)<|Dd (by exact aB rfl rfl call122 rfl (b8 hs _ ⟨rfl,rfl,rfl,rfl,trivial⟩ (by simp;rfl)))<|Dd aS<|Zz<|Sr<|Dd aE<|Dd aE<|Dd e8<|Dd (dP iZ)<|Dd (eA dC)<|Dd aE<|Fo<|Fo<|Dd gL<|Dd e8<|Dd (dP iZ)<|Uu (by exact cX rfl sizeOf4 rfl rfl rfl rfl rfl rfl (by simp only [XF,List.length_nil];omega) (by simp only [Zl,encStr];rfl) (by simp only [Zl,encStr];rfl))<|Zz<|Sr<|Dd aE<|Dd aS<|Zz<|aN ?_;refine a8 (H':=(sH (iF d1) (b6 k a cn true) (bJ l c))) (.inr rfl) rfl (aH rfl) (Fin.wk (by(simp;done)) (Hc (aF _ _ rfl rfl rfl)<|Hc (aC _ _)<|Hc (aL _ _ _)<|Hc (aJ _ _)<|Hc (bD rfl rfl)<|Hc (aQ _ _ _)<|trivial) ⟨rfl,rfl,rfl,rfl,rfl,rfl,trivial⟩) ?_;exact Qq
 have he:¬ e=0:=XA hc2;rw [XB he];cases b
 ·refine aG<|Sr<|Dd aE<|Dd aE<|Dd e8<|Dd (dP iZ)<|Dd (eA dC)<|Dd aE<|On aE<|On oZ<|Dd gL<|Dd e8<|Dd (dP iZ)<|Uu (by exact cX rfl sizeOf4 rfl rfl rfl rfl rfl rfl (by simp only [XF,List.length_nil];omega) (by simp only [Zl,encStr];rfl) (by simp only [Zl,encStr];rfl))<|Zz<|Sr<|Dd aE<|Dd aS<|Zz<|aN ?_;refine a8 (H':=(sH d1 (b6 k a cn (false||!decide (e=0))) (bJ l c))) (.inr rfl) rfl (aH rfl) (Fin.wk (by(simp;done)) (Hc (aF _ _ rfl rfl rfl)<|Hc (aC _ _)<|Hc (aL _ _ _)<|Hc (aJ _ _)<|Hc (bD rfl rfl)<|Hc (aQ _ _ _)<|trivial) ⟨rfl,rfl,rfl,rfl,rfl,rfl,trivial⟩) ?_;exact Qq
 refine aG<|Sr<|Dd aE<|Dd aE<|Dd e8<|Dd (dP iZ)<|Dd (eA dC)<|Dd aE<|Fo<|Fo<|Dd gL<|Dd e8<|Dd (dP iZ)<|Uu (by exact cX rfl sizeOf4 rfl rfl rfl rfl rfl rfl (by simp only [XF,List.length_nil];omega) (by simp only [Zl,encStr];rfl) (by simp only [Zl,encStr];rfl))<|Zz<|Sr<|Dd aE<|Dd aS<|Zz<|aN ?_;refine a8 (H':=(sH d1 (b6 k a cn true) (bJ l c))) (.inr rfl) rfl (aH rfl) (Fin.wk (by(simp;done)) (Hc (aF _ _ rfl rfl rfl)<|Hc (aC _ _)<|Hc (aL _ _ _)<|Hc (aJ _ _)<|Hc (bD rfl rfl)<|Hc (aQ _ _ _)<|trivial) ⟨rfl,rfl,rfl,rfl,rfl,rfl,trivial⟩) ?_;exact Qq
abbrev zS:ByteArray:=ofL (zB 64)
abbrev hS (place a cn:Nat):ByteArray:=ofL (yY place a cn)
def nG (place a cn:Nat):Bool→ByteArray
 | true=>hS place a cn
 | false=>zS
def r5 (d:DSt) (place a cn:Nat) (hd:Bool):Int×DSt:=if bT d place=nG place a cn hd then(0,d)else if(iP d place [zS]).1=0∧hd=true then iP (iP d place [zS]).2 place [nG place a cn hd] else iP d place [zS]
theorem yG {d:DSt} {n m:Nat} (h:DInv d n m) (hoff:d.off=false) (k a cn place:Nat) (b hd:Bool) (l:List (ByteArray×ByteArray×Nat)) (c:Nat) (hm:m+2 < 1048576) (hp:place < d.cells.length) (ha:a < 10) (hcn:cn < 1000000000000) :
  aK Tryz.prog 45 [.ref 1100 0 0 0,iv (place:Int),bv hd] (sH d (b6 k a cn b) (bJ l c)) (fun r H'=>r=iv (r5 d place a cn hd).1∧H'=sH (r5 d place a cn hd).2 (b6 k a cn (b||!decide ((r5 d place a cn hd).1=0))) (bJ l c)):=by
 have hn2:=h.ok.n2;have hrd:=uL h.ok hoff hp;have hw:=lN h k a cn place b l c [zS] (by rw [List.length_singleton];omega) (by omega);have hi1:=jT h place [zS] (by rw [List.length_singleton];omega);have hhd:=fun H=>A5 place a cn (by omega) ha hcn H;rw [r5];cases hd
 ·refine Bd func45 rfl ntmps45<|Sr<|Dd aS<|Zz<|Sr<|Dd aE<|Dd e8<|Dd (dP p7)<|Dd (eA lM)<|Dd aE<|Dd (by exact aB rfl rfl sA rfl (hrd _ ⟨rfl,rfl,rfl,rfl,trivial⟩))<|Dd aE<|Dd eB<|Dd eB<|Dd aS<|Dd aS<|Zz<|Sr<|Dd (by exact aB rfl rfl nF rfl (mR _))<|Dd aS<|Zz<|Sq<|Sr<|Dd aE<|Zz ?_;refine Cn ?_ ?_<;>intro hc1
  ·cases hc1
  refine aG<|Sq<|Sr<|Dd aE<|Dd aE<|Dd S3<|Zz ?_;refine Cn ?_ ?_<;>intro hc2
  ·have he:bT d place=nG place a cn false:=W9 hc2;rw [XC he];refine Sr<|Dd aS<|Zz<|aN ?_;refine a8 (H':=(sH d (b6 k a cn b) (bJ l c))) (.inr rfl) rfl (aH rfl) (Fin.wk (by(simp;done)) (Hc (aF _ _ rfl rfl rfl)<|Hc (aC _ _)<|Hc (aL _ _ _)<|Hc (aJ _ _)<|Hc (bD rfl rfl)<|Hc (aQ _ _ _)<|trivial) ⟨rfl,rfl,rfl,rfl,rfl,rfl,trivial⟩) ?_;exact⟨rfl,by cases b<;>rfl⟩
  have he:¬ bT d place=nG place a cn false:=XA hc2;rw [XB he,XB (fun h=>by cases h.2)];refine aG<|Sr<|Dd aE<|Dd aE<|Dd (by exact aB rfl rfl nF rfl (mR _))<|Dd (by exact bE [[.str zS]] rfl bR rfl rfl rfl rfl rfl (by simp))<|Dd (by exact aB rfl rfl nE rfl (hw))<|Dd aS<|Zz<|Sq<|Sq ?_;refine dA (t:=40) (n:=6) (X:=false) ?_ ?_
  ·all_goals refine Dd aE ?_
   all_goals refine Dd g6<|Dm ?_
   all_goals refine Sp 38 (fun h38=>?_) fun h38=>?_
   all_goals try contradiction
   all_goals first|refine Fo ?_|refine On aE ?_
   all_goals refine Dd gL<|Zz ?_
   all_goals(exact⟨⟨_,rfl,by rfl⟩,rfl,rfl,rfl⟩)
  refine Cn ?_ ?_<;>intro hc3
  ·cases hc3
  refine aG<|Sr<|Dd aE<|Dd aS<|Zz<|aN ?_;refine a8 (H':=(sH (iP d place [zS]).2 (b6 k a cn (b||!decide ((iP d place [zS]).1=0))) (bJ l c))) (.inr rfl) rfl (aH rfl) (Fin.wk (by(simp;done)) (Hc (aF _ _ rfl rfl rfl)<|Hc (aC _ _)<|Hc (aL _ _ _)<|Hc (aJ _ _)<|Hc (bD rfl rfl)<|Hc (aQ _ _ _)<|trivial) ⟨rfl,rfl,rfl,rfl,rfl,rfl,trivial⟩) ?_;exact Qq
 refine Bd func45 rfl ntmps45<|Sr<|Dd aS<|Zz<|Sr<|Dd aE<|Dd e8<|Dd (dP p7)<|Dd (eA lM)<|Dd aE<|Dd (by exact aB rfl rfl sA rfl (hrd _ ⟨rfl,rfl,rfl,rfl,trivial⟩))<|Dd aE<|Dd eB<|Dd eB<|Dd aS<|Dd aS<|Zz<|Sr<|Dd (by exact aB rfl rfl nF rfl (mR _))<|Dd aS<|Zz<|Sq<|Sr<|Dd aE<|Zz ?_;refine Cn ?_ ?_<;>intro hc1
 ·refine Rg<|Dd aE<|Dd aE<|Dd e8<|Dd (dP kI)<|Dd (Q0 cQ sizeOf70)<|Dd (by exact aB rfl rfl PS rfl (hhd _))<|Dd aS<|Zz<|Sq<|Sr<|Dd aE<|Dd aE<|Dd S3<|Zz ?_;refine Cn ?_ ?_<;>intro hc2
  ·have he:bT d place=nG place a cn true:=W9 hc2;rw [XC he];refine Sr<|Dd aS<|Zz<|aN ?_;refine a8 (H':=(sH d (b6 k a cn b) (bJ l c))) (.inr rfl) rfl (aH rfl) (Fin.wk (by(simp;done)) (Hc (aF _ _ rfl rfl rfl)<|Hc (aC _ _)<|Hc (aL _ _ _)<|Hc (aJ _ _)<|Hc (bD rfl rfl)<|Hc (aQ _ _ _)<|trivial) ⟨rfl,rfl,rfl,rfl,rfl,rfl,trivial⟩) ?_;exact⟨rfl,by cases b<;>rfl⟩
  have he:¬ bT d place=nG place a cn true:=XA hc2;rw [XB he];refine aG<|Sr<|Dd aE<|Dd aE<|Dd (by exact aB rfl rfl nF rfl (mR _))<|Dd (by exact bE [[.str zS]] rfl bR rfl rfl rfl rfl rfl (by simp))<|Dd (by exact aB rfl rfl nE rfl (hw))<|Dd aS<|Zz<|Sq<|Sq ?_;refine dA (t:=40) (n:=6) (X:=decide ((iP d place [zS]).1=0)) ?_ ?_
  ·all_goals refine Dd aE ?_
   all_goals refine Dd g6<|Dm ?_
   all_goals refine Sp 38 (fun h38=>?_) fun h38=>?_
   all_goals try contradiction
   all_goals first|refine Fo ?_|refine On aE ?_
   all_goals refine Dd gL<|Zz ?_
   all_goals(exact⟨⟨_,rfl,by(simp_all;done)⟩,rfl,rfl,rfl⟩)
  refine Cn ?_ ?_<;>intro hc3
  ·have hz:(iP d place [zS]).1=0:=W9 hc3;rw [XC ⟨hz,rfl⟩];have hw2:=lN hi1 k a cn place b l c [hS place a cn] (by rw [List.length_singleton,List.length_singleton];omega) (by omega);have hbz:(b||!decide ((iP d place [zS]).1=0))=b:=by rw [hz];cases b<;>rfl
   rw [hbz];refine Rg<|Dd aE<|Dd aE<|Dd aE<|Dd (by exact bE [[.str (hS place a cn)]] rfl bR rfl rfl rfl rfl rfl (by simp))<|Dd (by exact aB rfl rfl nE rfl (hw2))<|Dd aS<|Zz<|Sr<|Dd aE<|Dd aS<|Zz<|aN ?_;refine a8 (H':=(sH (iP (iP d place [zS]).2 place [hS place a cn]).2 (b6 k a cn (b||!decide ((iP (iP d place [zS]).2 place [hS place a cn]).1=0))) (bJ l c))) (.inr rfl) rfl (aH rfl) (Fin.wk (by(simp;done)) (Hc (aF _ _ rfl rfl rfl)<|Hc (aC _ _)<|Hc (aL _ _ _)<|Hc (aJ _ _)<|Hc (bD rfl rfl)<|Hc (aQ _ _ _)<|trivial) ⟨rfl,rfl,rfl,rfl,rfl,rfl,trivial⟩) ?_;exact Qq
  have hz:¬ (iP d place [zS]).1=0:=XA hc3;rw [XB (fun h=>hz h.1)];refine aG<|Sr<|Dd aE<|Dd aS<|Zz<|aN ?_;refine a8 (H':=(sH (iP d place [zS]).2 (b6 k a cn (b||!decide ((iP d place [zS]).1=0))) (bJ l c))) (.inr rfl) rfl (aH rfl) (Fin.wk (by(simp;done)) (Hc (aF _ _ rfl rfl rfl)<|Hc (aC _ _)<|Hc (aL _ _ _)<|Hc (aJ _ _)<|Hc (bD rfl rfl)<|Hc (aQ _ _ _)<|trivial) ⟨rfl,rfl,rfl,rfl,rfl,rfl,trivial⟩) ?_;exact Qq
 cases hc1
theorem QA {d d':DSt} {o o' m m':Ob} {id:Nat} (h:((sH d' o' m').get id).isSome=true):((sH d o m).get id).isSome=true:=by simp only [sH,aA.get] at h ⊢;cases e0:Nat.beq 1000 id<;>cases e1:Nat.beq 1001 id<;>cases e2:Nat.beq 1002 id<;>cases e3:Nat.beq 1003 id<;>cases e4:Nat.beq 1100 id<;>cases e5:Nat.beq 1101 id<;>simp [e0,e1,e2,e3,e4,e5] at h ⊢
theorem fV {f:FuncId} {args:List AV} {d d':DSt} {k a n:Nat} {b:Bool} {l:List (ByteArray×ByteArray×Nat)} {c:Nat} {o' m':Ob} {r0:AV} (h:aK Tryz.prog f args (sH d (b6 k a n b) (bJ l c)) (fun r H'=>r=r0∧H'=sH d' o' m')) (H:aA) (hs:EJ H (sH d (b6 k a n b) (bJ l c))) (ha:∀ x∈args,Clo (sH d (b6 k a n b) (bJ l c)) x) :
  aK Tryz.prog f args H (fun r H'=>r=r0∧H'=sH d' o' m'++H):=h.frame hs.sub (oM _ _ _ _ _ _ _) ha (fun id hid=>.inl (QA hid))
def uB (d:DSt) (a cn:Nat):Int×DSt:=if(iP d 1 [hS 1 a cn]).1=0 then iP (iP d 1 [hS 1 a cn]).2 0 [hS 0 a cn] else iP d 1 [hS 1 a cn]
theorem MH {d:DSt} {n m:Nat} (h:DInv d n m) (a cn:Nat) (hm:m+2≤1048576):DInv (uB d a cn).2 n (m+2):=by
 have h1:=jT h 1 [hS 1 a cn] (by rw [List.length_singleton];omega);have h2:=jT h1 0 [hS 0 a cn] (by rw [List.length_singleton,List.length_singleton];omega);rw [List.length_singleton] at h1 h2;rw [uB]
 split
 ·exact h2
 exact h1.mono (by omega)
def WF (a b c:DSt):Nat→DSt
 | 0=>a
 | 1=>b
 | _=>c
theorem S1 {d:DSt} {n m:Nat} (h:DInv d n m) (k a cn a2 cn2:Nat) (b:Bool) (l:List (ByteArray×ByteArray×Nat)) (c:Nat) (hm:m+2 < 1048576) (ha:a2 < 10) (hcn:cn2 < 1000000000000) :
  aK Tryz.prog 103 [.ref 1100 0 0 0,.agg [iv (a2:Int),iv (cn2:Int)]] (sH d (b6 k a cn b) (bJ l c)) (fun r H'=>r=iv (uB d a2 cn2).1∧H'=sH (uB d a2 cn2).2 (if(uB d a2 cn2).1=0 then b6 k a2 cn2 b else b6 k a cn true) (bJ l c)):=by
 have hw:=lN h k a cn 1 b l c [hS 1 a2 cn2] (by rw [List.length_singleton];omega) (by omega);have h1:=jT h 1 [hS 1 a2 cn2] (by rw [List.length_singleton];omega);have hw2:=lN h1 k a cn 0 b l c [hS 0 a2 cn2] (by rw [List.length_singleton,List.length_singleton];omega) (by omega);have hh1:=fun H=>A5 1 a2 cn2 (by omega) ha hcn H;have hh0:=fun H=>A5 0 a2 cn2 (by omega) ha hcn H;rw [uB];obtain ⟨x,hx⟩:∃ x,x=iP d 1 [hS 1 a2 cn2]:=⟨_,rfl⟩;rw [← hx] at hw hw2 ⊢;obtain ⟨y,hy⟩:∃ y,y=iP x.2 0 [hS 0 a2 cn2]:=⟨_,rfl⟩;rw [← hy] at hw2 ⊢;clear hx hy h1;have hr0:([[PV.int .i64 1],[PV.int .i64 0]]:List (List PV))[0]?=some [PV.int .i64 1]:=rfl;have hr1:([[PV.int .i64 1],[PV.int .i64 0]]:List (List PV))[1]?=some [PV.int .i64 0]:=rfl;refine Bd func103 rfl ntmps103<|Sr<|Dd (by exact fP (id:=3) rfl rfl rfl rfl rfl)<|Dd aS<|Zz<|Sq<|Sq ?_;refine fU.ent (E':=[(0,.ref 1100 0 0 0),(3,.ref 3 0 0 0)]) (H':=(3,bx 2 70 [iv (a2:Int),iv (cn2:Int)])::sH d (b6 k a cn b) (bJ l c)) (bY.wk (Ea<|Ea<|trivial) (Hb<|Hc (aF _ _ rfl rfl rfl)<|Hc (aC _ _)<|Hc (aL _ _ _)<|Hc (aJ _ _)<|Hc (bD rfl rfl)<|Hc (aQ _ _ _)<|trivial) ⟨rfl,rfl,rfl,rfl,rfl,rfl,trivial⟩) ?_;refine Rg<|Dd (by exact bE [[.int .i64 1],[.int .i64 0]] rfl IN rfl rfl rfl rfl rfl (by simp))<|Dd (jW K6)<|Dd aE<|Zz<|aM ?_;refine bB (σ:=Nat) (fun i=>([(0,.ref 1100 0 0 0),(3,.ref 3 0 0 0),(8,.pv (.sl [[.int .i64 1],[.int .i64 0]])),(9,iv 2),(10,iv (i:Int))],(3,bx 2 70 [iv (a2:Int),iv (cn2:Int)])::sH (WF d x.2 y.2 i) (b6 k a cn b) (bJ l c))) (fun i=>i≤2∧(0 < i→x.1=0)∧(1 < i→y.1=0)) (fun i=>2 - i) 0 ⟨by omega,fun h=>absurd h (Nat.lt_irrefl _),fun h=>absurd h (by omega)⟩ ?_ ?_
 ·exact(bY.wk (Ea<|Ea<|Eb<|Eb<|Eb<|trivial) (Hb<|Hc (aF _ _ rfl rfl rfl)<|Hc (aC _ _)<|Hc (aL _ _ _)<|Hc (aJ _ _)<|Hc (bD rfl rfl)<|Hc (aQ _ _ _)<|trivial) ⟨rfl,rfl,rfl,rfl,rfl,rfl,trivial⟩)
 rintro i ⟨hi,hx0,hy0⟩;have h3:i=0∨i=1∨i=2:=by omega
 rcases h3 with rfl|rfl|rfl
 ·refine Sr<|Dd dG<|Zz<|Sq ?_;refine Cn ?_ ?_<;>intro hc1
  ·refine aG<|Sq<|aM<|Sr<|Dd (by exact aZ (m:=0) rfl IN rfl rfl (by decide) rfl rfl rfl)<|Dd (kG aV)<|Dd aS<|Zz<|Sr<|Dd aE<|Dd aE<|Dd aE<|Dd (Q0 cQ sizeOf70)<|Dd (by exact aB rfl rfl PS rfl (hh1 _))<|Dd (by exact bE [[.str (hS 1 a2 cn2)]] rfl bR rfl rfl rfl rfl rfl (by simp))<|Dd (by exact aB rfl rfl nE rfl (fV hw _ ⟨rfl,rfl,rfl,rfl,rfl,rfl,trivial⟩ (by simp;rfl)))<|Dd aS<|Zz<|Sr<|Dd aE<|Dd oZ<|Zz ?_;refine Cn ?_ ?_<;>intro hc2
   ·have he:¬ x.1=0:=by have h:=hc2;simpa using h
    have hb:(b||!decide (x.1=0))=true:=by rw [decide_eq_false he];cases b<;>rfl
    rw [XB he,XB he,hb];refine Sr<|Dd aE<|Dd aS<|Zz<|aN ?_;refine a8 (H':=(sH x.2 (b6 k a cn true) (bJ l c))) (.inr rfl) rfl (aH rfl) (Fin.wk (by(simp;done)) (Hc (aF _ _ rfl rfl rfl)<|Hc (aC _ _)<|Hc (aL _ _ _)<|Hc (aJ _ _)<|Hc (bD rfl rfl)<|Hc (aQ _ _ _)<|trivial) ⟨rfl,rfl,rfl,rfl,rfl,rfl,trivial⟩) ?_;exact Qq
   have he:x.1=0:=by have h:=hc2;simpa using h
   have hb:(b||!decide (x.1=0))=b:=by rw [he];cases b<;>rfl
   rw [hb];refine aG<|Rg<|Dd kP<|Dd aE<|Zz ?_;refine⟨1,⟨by omega,fun _=>he,fun h=>absurd h (by omega)⟩,by omega,?_⟩;exact(bY.wk (Ea<|Ea<|Eb<|Eb<|Eb<|trivial) (Hb<|Hc (aF _ _ rfl rfl rfl)<|Hc (aC _ _)<|Hc (aL _ _ _)<|Hc (aJ _ _)<|Hc (bD rfl rfl)<|Hc (aQ _ _ _)<|trivial) ⟨rfl,rfl,rfl,rfl,rfl,rfl,trivial⟩)
  cases hc1
 ·have he0:=hx0 (by omega);refine Sr<|Dd dG<|Zz<|Sq ?_;refine Cn ?_ ?_<;>intro hc3
  ·refine aG<|Sq<|aM<|Sr<|Dd (by exact aZ (m:=1) rfl IN rfl rfl (by decide) rfl rfl rfl)<|Dd (kG aV)<|Dd aS<|Zz<|Sr<|Dd aE<|Dd aE<|Dd aE<|Dd (Q0 cQ sizeOf70)<|Dd (by exact aB rfl rfl PS rfl (hh0 _))<|Dd (by exact bE [[.str (hS 0 a2 cn2)]] rfl bR rfl rfl rfl rfl rfl (by simp))<|Dd (by exact aB rfl rfl nE rfl (fV hw2 _ ⟨rfl,rfl,rfl,rfl,rfl,rfl,trivial⟩ (by simp;rfl)))<|Dd aS<|Zz<|Sr<|Dd aE<|Dd oZ<|Zz ?_;refine Cn ?_ ?_<;>intro hc4
   ·have he:¬ y.1=0:=by have h:=hc4;simpa using h
    have hb:(b||!decide (y.1=0))=true:=by rw [decide_eq_false he];cases b<;>rfl
    rw [XC he0,XB he,hb];refine Sr<|Dd aE<|Dd aS<|Zz<|aN ?_;refine a8 (H':=(sH y.2 (b6 k a cn true) (bJ l c))) (.inr rfl) rfl (aH rfl) (Fin.wk (by(simp;done)) (Hc (aF _ _ rfl rfl rfl)<|Hc (aC _ _)<|Hc (aL _ _ _)<|Hc (aJ _ _)<|Hc (bD rfl rfl)<|Hc (aQ _ _ _)<|trivial) ⟨rfl,rfl,rfl,rfl,rfl,rfl,trivial⟩) ?_;exact Qq
   have he:y.1=0:=by have h:=hc4;simpa using h
   have hb:(b||!decide (y.1=0))=b:=by rw [he];cases b<;>rfl
   rw [hb];refine aG<|Rg<|Dd kP<|Dd aE<|Zz ?_;refine⟨2,⟨by omega,fun _=>he0,fun _=>he⟩,by omega,?_⟩;exact(bY.wk (Ea<|Ea<|Eb<|Eb<|Eb<|trivial) (Hb<|Hc (aF _ _ rfl rfl rfl)<|Hc (aC _ _)<|Hc (aL _ _ _)<|Hc (aJ _ _)<|Hc (bD rfl rfl)<|Hc (aQ _ _ _)<|trivial) ⟨rfl,rfl,rfl,rfl,rfl,rfl,trivial⟩)
  cases hc3
 have he0:=hx0 (by omega);have he1:=hy0 (by omega);refine Sr<|Dd dG<|Zz<|Sq ?_;refine Cn ?_ ?_<;>intro hc5
 ·cases hc5
 rw [XC he0,XC he1];refine a6<|Sr<|Dd aE<|Dd (Q0 cQ sizeOf70)<|Dd e8<|Dd (dP kI)<|Uu (by exact GM rfl sizeOf70 rfl rfl rfl rfl rfl rfl rfl (by simp only [XF,List.length_nil];omega) (by simp only [Zl,encStr];rfl) (by simp only [Zl,encStr];rfl))<|Zz<|Sr<|Dd aS<|Zz<|aN ?_;refine a8 (H':=(sH y.2 (b6 k a2 cn2 b) (bJ l c))) (.inr rfl) rfl (aH rfl) (Fin.wk (by(simp;done)) (Hc (aF _ _ rfl rfl rfl)<|Hc (aC _ _)<|Hc (aL _ _ _)<|Hc (aJ _ _)<|Hc (bD rfl rfl)<|Hc (aQ _ _ _)<|trivial) ⟨rfl,rfl,rfl,rfl,rfl,rfl,trivial⟩) ?_;exact⟨by rw [he1],rfl⟩
def fF (t:List UInt8) (i:Nat):List UInt8:=(t.drop (46*i)).take 46
def cT (t:List UInt8):Nat:=(t.length+45) / 46
abbrev II (t:List UInt8) (i:Nat):Ob:=bx 1 9 [sv (ofL (t.drop (46*i)))]
theorem lR (t:List UInt8) (i:Nat):(fF t i).length=min 46 (t.length - 46*i):=by rw [fF,XR,XS]
theorem I9 (t:List UInt8) (H:aA) (h:H.get 910=none):aK Tryz.prog 100 [sv (ofL t)] H (fun r H'=>r=.clo 129 [.ref 910 0 0 0]∧H'=(910,II t 0)::H):=by refine Bd func100 rfl ntmps100<|Sr<|Dd (by exact fP (id:=910) rfl rfl rfl rfl h)<|Dd aS<|Zz<|Sr<|Dd (by exact eP rfl rfl)<|Dd aS<|Zz<|aN ?_;refine a8 (H':=((910,II t 0)::H)) (.inr rfl) rfl (aH rfl) Fin.refl ?_;exact Qq
theorem JA (t:List UInt8) (fv:AV) (Hs Hr:Nat→aA) (hl:t.length < 1000000000) (h9:∀ i,(Hs i).get 910=some (II t i)) (h8:∀ i,(Hr i).get 910=some (II t i)) (hn:∀ i j,aA.get ((910,II t (i+1))::Hr i) j=(Hs (i+1)).get j)
  (hy:∀ i,i < cT t→eK Tryz.prog fv [sv (ofL (fF t i))] (Hs i) (fun r H'=>r=bv true∧H'=Hr i)) :
  aK Tryz.prog 129 [fv,.ref 910 0 0 0] (Hs 0) (fun r H'=>r=.tup []∧H'=Hs (cT t)):=by
 refine Bd func129 rfl ntmps129<|aM ?_;refine bB (σ:=Nat) (fun i=>([(0,fv),(1,.ref 910 0 0 0)],Hs i)) (fun i=>i≤cT t) (fun i=>cT t - i) 0 (XU _) ?_ ?_
 ·exact E0
 rintro i hi;have hsz:(ofL (t.drop (46*i))).size=t.length - 46*i:=by rw [bS,XS]
 refine Sq<|Sr<|Dd (by exact aX rfl aU rfl (h9 i) rfl rfl rfl)<|Dd (xX aI)<|Dd yZ<|Zz ?_;refine Cn ?_ ?_<;>intro hc1
 ·have hlt:46*i < t.length:=by have:=W9 hc1;omega
  have hip:i < cT t:=by rw [cT];omega
  have hmin:min (46:Int) ((ofL (t.drop (46*i))).size:Int)=((fF t i).length:Int):=by rw [hsz,lR];omega
  have hple:(fF t i).length≤(ofL (t.drop (46*i))).size:=by rw [hsz,lR];omega
  have hx1:(ofL (t.drop (46*i))).extract 0 (fF t i).length=ofL (fF t i):=i8 (by
   rw [eS,bA,bA,List.drop_zero,Nat.sub_zero,fF,XR,List.take_eq_take_min];simp)
  have hx2:(ofL (t.drop (46*i))).extract (fF t i).length (ofL (t.drop (46*i))).size=ofL (t.drop (46*(i+1))):=i8 (by
   rw [n7,bA,bA,List.drop_drop];rw [lR];by_cases hh:46≤t.length - 46*i
   ·rw [Nat.min_eq_left hh];congr 1
   rw [Nat.min_eq_right (by omega),List.drop_eq_nil_of_le (by omega),List.drop_eq_nil_of_le (by omega)])
  refine aG<|aM<|Sr<|Dd (by exact aX rfl aU rfl (h9 i) rfl rfl rfl)<|Dd (xX aI)<|Dd (by exact uO rfl rfl rfl hmin)<|Dd aS<|Zz<|Sq<|Sr<|Dd aE<|Dd (by exact aX rfl aU rfl (h9 i) rfl rfl rfl)<|Dd aE<|Dd (by exact cI (l:=0) (h:=(fF t i).length) rfl aI rfl rfl rfl (XU _) hple hx1)<|Dd (by exact gB rfl rfl rfl (hy i hip))<|Dd uF<|Zz ?_;refine Cn ?_ ?_<;>intro hc2
  ·cases hc2
  refine aG<|Rg<|Dd (by exact aX rfl aU rfl (h8 i) rfl rfl rfl)<|Dd aE<|Dd (by exact cI (l:=(fF t i).length) (h:=(ofL (t.drop (46*i))).size) rfl aI rfl rfl rfl hple (XJ _) hx2)<|Uu (by exact gZ rfl sizeOf9 rfl rfl rfl rfl (h8 i) rfl rfl rfl)<|Zz ?_;refine⟨i+1,by omega,by omega,?_⟩;exact bY.get' ⟨⟨_,rfl,rfl⟩,⟨_,rfl,rfl⟩,trivial⟩ (fun j=>(hn i j).symm)
 have hge:¬ 46*i < t.length:=by have:=XA hc1;omega
 have hip:i=cT t:=by rw [cT] at hi ⊢;omega
 subst hip;refine a6 ?_;exact iQ (H':=Hs (cT t)) (.inl rfl) rfl Fin.refl ⟨rfl,rfl⟩
def iV (fr:Nat) (t:List UInt8) (i:Nat):List ByteArray:=(List.range i).map fun j=>ofL (eF (fr+j) (fF t j))
theorem cY (fr:Nat) (t:List UInt8) (i:Nat):(iV fr t i).length=i:=by rw [iV,XD,List.length_range]
theorem IU (fr:Nat) (t:List UInt8) (i:Nat):iV fr t (i+1)=iV fr t i++[ofL (eF (fr+i) (fF t i))]:=by rw [iV,List.range_succ,List.map_append];rfl
def iO (d:DSt) (k a cn:Nat) (t:List UInt8):Int×DSt :=if(iP d (2+a*k+cn) (iV (2+a*k+cn) t (cT t))).1=0 then uB (iP d (2+a*k+cn) (iV (2+a*k+cn) t (cT t))).2 a (cn+cT t)else iP d (2+a*k+cn) (iV (2+a*k+cn) t (cT t))
theorem O9 {d:DSt} {n m:Nat} (h:DInv d n m) (k a cn:Nat) (t:List UInt8) (hm:m+cT t+2≤1048576):DInv (iO d k a cn t).2 n (m+cT t+2):=by
 have h1:=jT h (2+a*k+cn) (iV (2+a*k+cn) t (cT t)) (by rw [cY];omega);rw [cY] at h1;rw [iO]
 split
 ·exact MH h1 _ _ (by omega)
 exact h1.mono (by omega)
theorem fE {f:FuncId} {args:List AV} {d:DSt} {k a n:Nat} {b:Bool} {l:List (ByteArray×ByteArray×Nat)} {c:Nat} {r0:AV} (h:aK Tryz.prog f args (sH d (b6 k a n b) (bJ l c)) (fun r H'=>r=r0∧H'=sH d (b6 k a n b) (bJ l c))) (H:aA) (hs:EJ H (sH d (b6 k a n b) (bJ l c))) (ha:∀ x∈args,Clo (sH d (b6 k a n b) (bJ l c)) x) :
  aK Tryz.prog f args H (fun r H'=>r=r0∧H'=H):=h.frameS hs.sub (oM _ _ _ _ _ _ _) ha
theorem kC {α:Type} (f:α→List PV) (l:List α):((l.map f).take (0+l.length)).drop 0=l.map f:=by rw [XV,List.drop_zero];exact List.take_of_length_le (by rw [XD];exact XJ _)
theorem P9 {H:aA} {p:Prop} [Decidable p] {k a n a' n':Nat} {b b':Bool} (h1:(H.get 1000).isSome=true) (h2:(H.get 1101).isSome=true):∀ r∈(if p then b6 k a n b else b6 k a' n' b').rows,∀ x∈r,Clo H x:=by
 split
 ·exact bD h1 h2
 exact bD h1 h2
abbrev TW:bI:=[(0,.ref 1100 0 0 0),(4,.ref 4 0 0 0),(7,.ref 7 0 0 0),(8,.ref 8 0 0 0)]
def U6 (S:List ByteArray) (K:aA):aA:=(905,⟨S.length,1,9,cJ S⟩)::(8,bx 1 31 [.osl 905 S.length 0 S.length])::K
theorem R8 (S:List ByteArray) (s:ByteArray) (K:aA):U6 (S++[s]) K=(905,⟨S.length+1,1,9,cJ (S++[s])⟩)::(8,bx 1 31 [.osl 905 (S.length+1) 0 (S.length+1)])::K:=by simp [U6]
theorem O8 {d:DSt} {n m:Nat} (h:DInv d n m) (k a cn a2 cn2:Nat) (b:Bool) (l:List (ByteArray×ByteArray×Nat)) (c:Nat) (t:List UInt8) (ht:t.length < 100000000) (hm:m+cT t+2 < 1048576) (ha:a2 < 2) (hk:k < 4000) (hcn:cn2≤4000) :
  aK Tryz.prog 52 [.ref 1100 0 0 0,.agg [iv (a2:Int),iv (cn2:Int)],sv (ofL t)] (sH d (b6 k a cn b) (bJ l c)) (fun r H'=>r=iv (iO d k a2 cn2 t).1∧H'=sH (iO d k a2 cn2 t).2 (if(iO d k a2 cn2 t).1=0 then b6 k a2 (cn2+cT t) b else b6 k a cn true) (bJ l c)):=by
 have hmk:a2*k≤2*4000:=Nat.mul_le_mul (by omega) (by omega);have hpl:=vN d k a cn a2 cn2 b l c (by omega) (by omega) (by omega);obtain ⟨fr,hfr⟩:∃ fr,fr=2+a2*k+cn2:=⟨_,rfl⟩;have hpn:cT t≤10000000:=by rw [cT];omega
 have hw:=lN h k a cn fr b l c (iV fr t (cT t)) (by rw [cY];omega) (by omega);have h1:=jT h fr (iV fr t (cT t)) (by rw [cY];omega);rw [cY] at h1;rw [iO,← hfr];rw [← hfr] at hpl;obtain ⟨x0,hx0⟩:∃ x,x=iP d fr (iV fr t (cT t)):=⟨_,rfl⟩;rw [← hx0] at hw h1 ⊢;clear hx0;have hset:=S1 h1 k a cn a2 (cn2+cT t) b l c (by omega) (by omega) (by omega);refine Bd func52 rfl ntmps52<|Sr<|Dd (by exact fP (id:=4) rfl rfl rfl rfl rfl)<|Dd aS<|Zz<|Sr<|Dd aE<|Dd (dP p8)<|Dd (eA aV)<|Dd (dP lD)<|Dd (eA aV)<|Dd (by exact aB rfl rfl WO rfl (fE hpl _ ⟨rfl,rfl,rfl,rfl,rfl,rfl,trivial⟩ (by simp;rfl)))<|Dd (by exact cC (id:=7) rfl WK rfl rfl)<|Uu (pE sizeOf3)<|Zz<|Sr<|Dd (by exact cC (id:=8) rfl UE rfl rfl)<|Zz<|Sq<|Sr<|Dd aE<|Dd (by exact aB rfl rfl call100 rfl (I9 t _ rfl))<|Zz<|aM ?_;refine fU.ent (E':=[(0,.ref 1100 0 0 0),(4,.ref 4 0 0 0),(7,.ref 7 0 0 0),(8,.ref 8 0 0 0),(18,.clo 129 [.ref 910 0 0 0])]) (H':=(905,⟨0,1,9,[]⟩)::(910,II t 0)::(8,bx 1 31 [.osl 905 0 0 0])::(7,bx 1 3 [iv (fr:Int)])::(4,bx 2 70 [iv (a2:Int),iv (cn2:Int)])::sH d (b6 k a cn b) (bJ l c)) (bY.nz 905 1 9 rfl rfl ⟨⟨_,rfl,(by exact Nz.same (by(simp;rfl)))⟩,⟨_,rfl,(by exact Nz.same (by(simp;rfl)))⟩,⟨_,rfl,(by exact Nz.same (by(simp;rfl)))⟩,⟨_,rfl,(by exact Nz.same (by(simp;rfl)))⟩,⟨_,rfl,(by exact Nz.same (by(simp;rfl)))⟩,trivial⟩ ⟨⟨_,rfl,rfl,rfl,rfl,(by exact .inl ⟨rfl,(by(simp;done))⟩)⟩,⟨_,rfl,rfl,rfl,rfl,(by exact .inr ⟨_,_,rfl,rfl,(by repeat(first|exact trivial|refine⟨(by exact Nz.own),?_⟩))⟩)⟩,⟨_,rfl,rfl,rfl,rfl,(by exact .inl ⟨rfl,(by(simp;done))⟩)⟩,⟨_,rfl,rfl,rfl,rfl,(by exact .inl ⟨rfl,(by(simp;done))⟩)⟩,⟨_,rfl,rfl,rfl,rfl,(by exact .inl ⟨rfl,(by exact aF _ _ rfl rfl rfl)⟩)⟩,⟨_,rfl,rfl,rfl,rfl,(by exact .inl ⟨rfl,(by exact aC _ _)⟩)⟩,⟨_,rfl,rfl,rfl,rfl,(by exact .inl ⟨rfl,(by exact aL _ _ _)⟩)⟩,⟨_,rfl,rfl,rfl,rfl,(by exact .inl ⟨rfl,(by exact aJ _ _)⟩)⟩,⟨_,rfl,rfl,rfl,rfl,(by exact .inl ⟨rfl,(by exact bD rfl rfl)⟩)⟩,⟨_,rfl,rfl,rfl,rfl,(by exact .inl ⟨rfl,(by exact aQ _ _ _)⟩)⟩,trivial⟩ ⟨rfl,rfl,rfl,rfl,rfl,rfl,trivial⟩) ?_;obtain ⟨K,hK⟩:∃ K:aA,K=(7,bx 1 3 [iv (fr:Int)])::(4,bx 2 70 [iv (a2:Int),iv (cn2:Int)])::sH d (b6 k a cn b) (bJ l c):=⟨_,rfl⟩;have k7:K.get 7=some (bx 1 3 [iv (fr:Int)]):=by rw [hK];rfl
 have k4:K.get 944=none:=by rw [hK];rfl
 rw [← hK];refine s8 (id:=944) (p:=19) TW rfl call129 rfl k4 (by simp [TW];exact⟨rfl,rfl,rfl,rfl⟩) ?_;intro x hx1 hx2 hx3 hx4 hx5 hx6;refine((JA t (.yld 944 0) (fun i=>(944,LR x TW)::(910,II t i)::U6 (iV fr t i) K) (fun i=>(944,LR x TW)::(910,II t i)::U6 (iV fr t (i+1)) K) (by omega) (fun i=>rfl) (fun i=>rfl) (fun i j=>?_) ?_).congrG (fun j=>?_) (fun j=>rfl)).mono ?_
 ·exact lV [(910,II t (i+1)),(944,LR x TW),(910,II t i)] [(944,LR x TW),(910,II t (i+1))] (by repeat(first|exact trivial|refine⟨rfl,?_⟩)) j
 ·intro i hi;have hsl:(iV fr t i).length=i:=cY fr t i;have hpal:(fF t i).length≤46:=by rw [lR];omega
  have hpos:(ofL (fF t i)).size=(fF t i).length:=bS _;have hdg:=fun H=>lY (fF t i).length 2 (by omega) (by omega) H;have e29:ofL (dg (fF t i).length 2)++ofL (fF t i)=ofL (dg (fF t i).length 2++fF t i):=q9 _ _;have s29:(ofL (dg (fF t i).length 2)).size≤23:=by rw [bS];exact oD _ 2 (by omega)
  have l29:(dg (fF t i).length 2++fF t i).length≤48:=by rw [XE,jP (mZ _ (by omega) (by omega))];omega
  have hse:=fun H=>vF (fr+i) (dg (fF t i).length 2++fF t i) (by omega) l29 H;have hpe:ofL (mW (fr+i) (dg (fF t i).length 2++fF t i))=ofL (eF (fr+i) (fF t i)):=rfl;rw [hpe] at hse;rw [IU,R8];obtain ⟨S,hS⟩:∃ S,S=iV fr t i:=⟨_,rfl⟩;rw [← hS] at hsl ⊢;obtain ⟨u,hu⟩:∃ u,u=fF t i:=⟨_,rfl⟩;rw [← hu] at hpal hpos hdg e29 s29 l29 hse ⊢;refine .inl ⟨944,0,rfl,?_⟩;refine zQ [(0,.ref 1100 0 0 0),(4,.ref 4 0 0 0),(7,.ref 7 0 0 0),(8,.ref 8 0 0 0),(9,sv (ofL u))] ((910,II t i)::U6 S K) hx1 hx2 hx3 hx4 hx5 hx6 rfl rfl rfl ?_ ?_
  ·refine Rg<|Da ?_;exact E0
  refine aM<|bK follows<|Cs (fun _ h=>lh b5 h)<|Cs (fun H1 hH=>by exact aX rfl aV rfl ((hH _ rfl).trans k7) rfl rfl rfl)<|Cs (fun _ h=>lh b5 h)<|Cs (fun H1 hH=>by exact cV rfl aO rfl ((hH _ rfl).trans rfl) rfl)<|Cs (fun H1 hH=>by exact cF rfl rfl rfl (show IntKind.i64.wrap ((fr:Int)+(S.length:Int))=((fr+i:Nat):Int)by rw [hsl,g9 (by omega) (by omega)];omega))<|Cs (fun _ _=>aE)<|Cs (fun _ _=>(xX aI))<|Cs (fun H1 hH=>by exact aB rfl rfl w6 rfl (hdg _))<|Cs (fun _ _=>aE)<|Cs (fun H1 hH=>by exact iA rfl rfl rfl (by omega) e29)<|Cs (fun H1 hH=>by exact aB rfl rfl WC rfl (hse _))<|Cs (fun H1 hH=>by exact bE [[.str (ofL (eF (fr+i) u))]] rfl bR rfl rfl rfl rfl rfl (by intro r hr;rw [XG] at hr;subst hr;rfl)) ?_;refine bU (r:=⟨_,none,[_]⟩) (DStep.plain rfl (fun H1 hH=>by exact dQ (ps:=[[.str (ofL (eF (fr+i) u))]]) rfl bR D7 rfl ((hH _ rfl).trans rfl) rfl rfl rfl (eL _) rfl (by intro r hr;rw [XG] at hr;subst hr;rfl) (m:=1) rfl (by omega) rfl (j1 _ (ofL (eF (fr+i) u))))) rfl ?_;refine bU (r:=⟨_,none,[_]⟩) (DStep.plain rfl (fun H1 hH=>by exact(by exact gZ rfl m6 rfl rfl rfl rfl ((hH _ rfl).trans rfl) rfl rfl rfl))) rfl ?_;refine cM<|Kr ?_;exact⟨(910,II t i)::(905,⟨S.length+1,1,9,cJ (S++[ofL (eF (fr+i) u)])⟩)::(8,bx 1 31 [.osl 905 (S.length+1) 0 (S.length+1)])::K,bY.get' trivial (fun j=>lV [_,_,_,_] [_,_,_,_,_,_] (by repeat(first|exact trivial|refine⟨rfl,?_⟩)) j),rfl,rfl⟩
 ·exact lV [_,_,_,_] [_,_,_,_] (by repeat(first|exact trivial|refine⟨rfl,?_⟩)) j
 rintro r H' ⟨rfl,rfl⟩;refine⟨x,_,rfl,by rw [hx1];decide,rfl,fun z=>?_⟩;rw [hx2];have hSl:(iV fr t (cT t)).length=cT t:=cY _ _ _;obtain ⟨S,hS⟩:∃ S,S=iV fr t (cT t):=⟨_,rfl⟩;rw [← hS] at hSl hw;rw [← hS];have hSm:((S.map encStr).length:Int)=(cT t:Int):=by rw [XD,hSl]
 subst hK;refine Sq<|Sq ?_;refine fU.ent (bY.fzG (id:=905) (E':=TW) (H':=(8,bx 1 31 [.pv (aW S)])::(7,bx 1 3 [iv (fr:Int)])::(4,bx 2 70 [iv (a2:Int),iv (cn2:Int)])::sH d (b6 k a cn b) (bJ l c)) (S.map encStr) rfl (iS _) ?_ rfl ?_ ?_) ?_
 ·intro p hp;simp only [XP,XT,or_false] at hp;rcases hp with rfl|rfl|rfl|rfl<;>exact⟨_,rfl,.same (by simp;rfl)⟩
 ·exact⟨⟨_,rfl,rfl,rfl,rfl,RG rfl (uX (.osl (kC encStr _)) FT)⟩,⟨_,rfl,rfl,rfl,rfl,cB (by simp)⟩,⟨_,rfl,rfl,rfl,rfl,cB (by simp)⟩,⟨_,rfl,rfl,rfl,rfl,cB (aF _ _ rfl rfl rfl)⟩,⟨_,rfl,rfl,rfl,rfl,cB (aC _ _)⟩,⟨_,rfl,rfl,rfl,rfl,cB (aL _ _ _)⟩,⟨_,rfl,rfl,rfl,rfl,cB (aJ _ _)⟩,⟨_,rfl,rfl,rfl,rfl,cB (bD rfl rfl)⟩,⟨_,rfl,rfl,rfl,rfl,cB (aQ _ _ _)⟩,trivial⟩
 ·exact⟨rfl,rfl,rfl,rfl,rfl,rfl,trivial⟩
 refine Rg<|Dd aE<|Dd (eA aV)<|Dd (eA b5)<|Dd (by exact aB rfl rfl nE rfl (fV hw _ ⟨rfl,rfl,rfl,rfl,rfl,rfl,trivial⟩ (by simp;rfl)))<|Dd aS<|Zz<|Sr<|Dd aE<|Dd oZ<|Zz ?_;refine Cn ?_ ?_<;>intro hc1
 ·have he:¬ x0.1=0:=by have h:=hc1;simpa using h
  have hb:(b||!decide (x0.1=0))=true:=by rw [decide_eq_false he];cases b<;>rfl
  rw [XB he,XB he,hb];refine Sr<|Dd aE<|Dd aS<|Zz<|aN ?_;refine a8 (H':=(sH x0.2 (b6 k a cn true) (bJ l c))) (.inr rfl) rfl (aH rfl) (Fin.wk (by(simp;done)) (Hc (aF _ _ rfl rfl rfl)<|Hc (aC _ _)<|Hc (aL _ _ _)<|Hc (aJ _ _)<|Hc (bD rfl rfl)<|Hc (aQ _ _ _)<|trivial) ⟨rfl,rfl,rfl,rfl,rfl,rfl,trivial⟩) ?_;exact Qq
 have he:x0.1=0:=by have h:=hc1;simpa using h
 have hb:(b||!decide (x0.1=0))=b:=by rw [he];cases b<;>rfl
 rw [XC he,hb];obtain ⟨y,hy⟩:∃ y,y=uB x0.2 a2 (cn2+cT t):=⟨_,rfl⟩;rw [← hy] at hset ⊢;refine aG<|Sr<|Dd (dP lD)<|Dd (eA aV)<|Dd (eA b5)<|Dd (jW aO)<|Dd (by exact cF rfl rfl rfl (show IntKind.i64.wrap ((cn2:Int)+((S.map encStr).length:Int))=((cn2+cT t:Nat):Int)by rw [hSm,g9 (by omega) (by omega)];omega))<|Dd (dP lD)<|Uu (by exact cX rfl sizeOf3 rfl rfl rfl rfl rfl rfl (by simp only [XF,List.length_nil];omega) (by simp only [Zl,encStr];rfl) (by simp only [Zl,encStr];rfl))<|Zz<|Sr<|Dd aE<|Dd (Q0 cQ sizeOf70)<|Dd (by exact aB rfl rfl call103 rfl (fV hset _ ⟨rfl,rfl,rfl,rfl,rfl,rfl,trivial⟩ (by simp;rfl)))<|Dd aS<|Zz<|aN ?_;refine a8 (H':=(sH y.2 (if y.1=0 then b6 k a2 (cn2+cT t) b else b6 k a cn true) (bJ l c))) (.inr rfl) rfl (aH rfl) (Fin.wk (by(simp;done)) (Hc aF _ _ rfl rfl rfl<|Hc aC _ _<|Hc aL _ _ _<|Hc aJ _ _<|Hc P9 rfl rfl<|Hc aQ _ _ _<|trivial) ⟨rfl,rfl,rfl,rfl,rfl,rfl,trivial⟩) ?_;exact Qq
end Go.Proofs.YtmkgeogoojcciaaGreatDoor
namespace Go.Proofs.YtmkgeogoojcciaaGreatDoor
open Go.Proofs.Tryz
open Go.Abs
abbrev VH:ByteArray:=⟨#[58]⟩
theorem EQ (s:ByteArray) (H:aA):aK Tryz.prog 171 [sv s,sv VH] H (fun r H'=>r=iv (Lib.indexByte s.data.toList 58)∧H'=H):=by
 refine Pu ?_;refine Bd func171 rfl ntmps171<|Sr<|Dd aS<|Zz<|Sr<|Dd aE<|Dd (xX aI)<|Dd aS<|Zz<|Sq<|aM<|Sq ?_;refine dA (t:=16) (n:=9) (X:=decide (VH=s)) ?_ ?_
 ·all_goals refine Dd aE ?_
  all_goals refine Dd g6<|Dm ?_
  all_goals refine Sp 19 (fun h19=>?_) fun h19=>?_
  all_goals try contradiction
  all_goals refine On aE<|On aE<|On S3<|Dd gL<|Da ?_
  all_goals(exact⟨⟨_,rfl,by rfl⟩,rfl,rfl,rfl⟩)
 refine Cn ?_ ?_<;>intro hc1
 ·have hs:=W9 hc1;subst hs;exact Sr<|Dd aS<|Zz<|aN<|Rt<|Qq
 refine Sr<|Dd aE<|Dd g6<|Da ?_;refine Cn ?_ ?_<;>intro hc2
 ·exact Sr<|Dd aE<|Dd aE<|Dd (by exact xQ rfl aI rfl rfl (by omega) (by exact XO _) (show 0 < (⟨#[58]⟩:ByteArray).size from Nat.zero_lt_one) rfl)<|Dd (by exact aB rfl rfl call186 rfl (xH s 58 _))<|Dd aS<|Zz<|aN<|Rt<|Qq
 cases hc2
def DM (s:ByteArray):AV:=if Lib.indexByte s.data.toList 58 = -1 then .tup [sv s,sv ⟨#[]⟩,bv false] else .tup [sv (s.extract 0 (Lib.indexByte s.data.toList 58).toNat),sv (s.extract ((Lib.indexByte s.data.toList 58).toNat+1) s.size),bv true]
theorem MD (s:ByteArray) (H:aA) (hs:s.size < 1099511627776):aK Tryz.prog 144 [sv s,sv VH] H (fun r H'=>r=DM s∧H'=H):=by
 refine Pu ?_;have hI:=fun H=>EQ s H;rw [DM];rcases Classical.em (Lib.indexByte s.data.toList 58 = -1)with h1|h1
 ·rw [XC h1];simp only [h1] at hI;refine Bd func144 rfl ntmps144<|Sr<|Dd aS<|Dd aS<|Dd aS<|Zz<|Sq<|Sr<|Dd aE<|Dd aE<|Dd (by exact aB rfl rfl call171 rfl (hI _))<|Dd aS<|Zz<|Sr<|Dd aE<|Dd RE<|Zz ?_;refine Cn ?_ ?_<;>intro hc1
  ·cases hc1
  refine aG<|Sr<|Dd aE<|Dd aS<|Dd aS<|Dd aS<|Zz<|aN ?_;refine H8 (H':=[]) (.inr rfl) rfl (aH rfl) (aH rfl) (aH rfl) (Fin.wk (by simp) trivial trivial) ?_;exact Qq
 rw [XB h1];obtain ⟨w,r,e1,e2,e3⟩:=wE h1;simp only [e3] at hI;rw [e3,XO];have hl:w.length+1+r.length=s.size:=by rw [← show s.data.toList.length=s.size by simp,e1,XE,XF];omega
 refine Bd func144 rfl ntmps144<|Sr<|Dd aS<|Dd aS<|Dd aS<|Zz<|Sq<|Sr<|Dd aE<|Dd aE<|Dd (by exact aB rfl rfl call171 rfl (hI _))<|Dd aS<|Zz<|Sr<|Dd aE<|Dd RE<|Zz ?_;refine Cn ?_ ?_<;>intro hc1
 ·refine Sq<|bK follows<|Cq aE<|Cq aE<|Cq (by exact cI (l:=0) (h:=(w.length)) rfl aI rfl rfl rfl (by omega) (by omega) rfl)<|Cq aE<|Cq aE<|Cq aE<|Cq (xX aI)<|Cq (by exact cF rfl rfl rfl (show IntKind.i64.wrap ((w.length:Int)+1)=((w.length+1:Nat):Int)by rw [IntKind.wrap_i64];omega))<|Cq (by exact cI (l:=(w.length+1)) (h:=s.size) rfl aI rfl rfl rfl (by omega) (by omega) rfl)<|Cq aS<|Cq aS<|Cq aS<|cM<|Kr<|aN ?_;refine H8 (H':=[]) (.inr rfl) rfl (aH rfl) (aH rfl) (aH rfl) (Fin.wk (by simp) trivial trivial) ?_;exact Qq
 have hx:=XA hc1;omega
theorem TM (s:ByteArray) (H:aA) (hs:s.size < 1099511627776):aK Tryz.prog 117 [sv s,sv VH] H (fun r H'=>r=DM s∧H'=H):=by
 refine Pu ?_;have hC:=fun H=>MD s H hs;rw [DM] at *;rcases Classical.em (Lib.indexByte s.data.toList 58 = -1)with h1|h1
 ·simp only [DM,XC h1] at hC ⊢;refine Bd func117 rfl ntmps117<|Sr<|Dd aS<|Dd aS<|Dd aS<|Zz<|Sr<|Dd aE<|Dd aE<|Dd (by exact aB rfl rfl call144 rfl (hC _))<|Dd eB<|Dd eB<|Dd eB<|Dd aS<|Dd aS<|Dd aS<|Zz<|aN ?_;refine H8 (H':=[]) (.inr rfl) rfl (aH rfl) (aH rfl) (aH rfl) (Fin.wk (by simp) trivial trivial) ?_;exact Qq
 simp only [DM,XB h1] at hC ⊢;refine Bd func117 rfl ntmps117<|Sr<|Dd aS<|Dd aS<|Dd aS<|Zz<|Sr<|Dd aE<|Dd aE<|Dd (by exact aB rfl rfl call144 rfl (hC _))<|Dd eB<|Dd eB<|Dd eB<|Dd aS<|Dd aS<|Dd aS<|Zz<|aN ?_;refine H8 (H':=[]) (.inr rfl) rfl (aH rfl) (aH rfl) (aH rfl) (Fin.wk (by simp) trivial trivial) ?_;exact Qq
theorem j4 (l:List ByteArray) (H:aA) (hl:(aR l).length < 35184372088832):aK Tryz.prog 99 [.pv (aW l)] H (fun r H'=>r=sv (ofL (aR l))∧H'=H):=by
 refine Pu ?_;have hml:(l.map encStr).length=l.length:=XD _;have hll:=nX l;refine Bd func99 rfl ntmps99<|Sr<|Dd aS<|Zz<|Sr<|Dd (by exact cC (id:=2001) rfl LI rfl rfl)<|Zz<|Sq<|Sq ?_;refine fU.ent (E':=[(0,.pv (aW l)),(3,.ref 2001 0 0 0)]) (H':=D8 0 [] false) (bY.bld0 ⟨⟨_,rfl,.same (by simp)⟩,⟨_,rfl,.same (by simp;rfl)⟩,trivial⟩) ?_;refine Rg<|Dd aE<|Dd (jW aO)<|Dd aE<|Zz<|aM ?_;refine s9 (fun(k g:Nat) (u:Bool)=>([(3,.ref 2001 0 0 0),(6,.pv (aW l)),(7,iv ((l.map encStr).length:Int)),(8,iv (k:Int))],D8 g (aR (l.take k)) u)) (fun k g u=>k≤l.length) (fun k g u=>l.length - k) 0 0 false (XU _) ?_ ?_
 ·exact(bY.wk (Ea<|Eb<|Eb<|Eb<|trivial) (Hc (l5 rfl rfl)<|Hc (oX _ _)<|trivial) trivial)
 intro k g u hk;have hle:=wC l k;refine Sr<|Dd dG<|Zz<|Sq ?_;refine Cn ?_ ?_<;>intro hc1
 ·have hlt:k < l.length:=by have:=W9 hc1;omega
  obtain ⟨s,hs⟩:=aY hlt;have hi:=cG (f:=encStr) hs;have hle2:=wC l (k+1);rw [cR hs,rC,XE,nJ,kS] at hle2;have hsz:s.size < 35184372088832:=by omega
  refine aG<|Sq<|aM<|Sr<|Dd (BY bR)<|Dd (kG aU)<|Dd aS<|Zz<|Rg<|Dd aE<|Dd (xX aI)<|Dd (by exact aB rfl rfl nD rfl (mK (s.size:Int) (by omega) (by omega) _))<|Dd (by exact iA rfl rfl rfl (by have:(⟨#[58]⟩:ByteArray).size=1:=rfl;omega) rfl)<|Dd aE<|Dd (by exact iA rfl rfl rfl (by rw [ByteArray.size_append];have:(⟨#[58]⟩:ByteArray).size=1:=rfl;omega) rfl)<|Dd (by exact aB rfl rfl call86 rfl (pA g (aR (l.take k)) u (mE s) (by rw [kS];omega)))<|Zz<|Rg<|Dd kP<|Dd aE<|Zz ?_;refine⟨k+1,g+1,true,by omega,by omega,?_⟩;rw [cR hs,rC];exact(bY.wk (Ea<|Eb<|Eb<|Eb<|trivial) (Hc (l5 rfl rfl)<|Hc (oX _ _)<|trivial) trivial)
 have hge:k=l.length:=by have:=XA hc1;omega
 subst hge;rw [List.take_length];exact a6<|Sr<|Dd (by exact aB rfl rfl call88 rfl (SC g (aR l) u (by omega)))<|Dd aS<|Zz<|aN<|Rt<|Qq
def u0 (l:List UInt8):List UInt8:=l.takeWhile fun b=>!decide (b=58)
def tY (l:List UInt8):List UInt8:=(l.dropWhile fun b=>!decide (b=58)).drop 1
def pI (l:List UInt8):Bool:=(((!decide ((58:UInt8)∈l)||gG (ofL (u0 l)))||decide (cW (ofL (u0 l)) < 0))||decide (((tY l).length:Int) < cW (ofL (u0 l))))||!decide (dD (cW (ofL (u0 l)))=ofL (u0 l))
def HT (l:List UInt8):Nat:=(cW (ofL (u0 l))).toNat
def eT:Nat→List UInt8→List ByteArray→List ByteArray×Bool
 | 0,l,acc=>(acc,true)
 | n+1,l,acc=>if l=[] then(acc,true)else if pI l then([],false)else eT n ((tY l).drop (HT l)) (acc++[ofL ((tY l).take (HT l))])
def dX (l:List UInt8):List ByteArray×Bool:=eT l.length l []
theorem BL {l:List UInt8} (h:l≠[]):(tY l).length < l.length:=by rw [tY,XS];have:=(List.dropWhile_sublist (l:=l) fun b=>!decide (b=58)).length_le;have:=List.length_pos_iff.2 h;omega
theorem vA:∀ (n m:Nat) (l:List UInt8) (acc:List ByteArray),l.length≤n→l.length≤m→eT n l acc=eT m l acc
 | 0,m,l,acc,h,_=>by
  rw [List.length_eq_zero_iff.1 (Nat.le_zero.1 h)];cases m<;>rfl
 | n+1,0,l,acc,_,h=>by
  rw [List.length_eq_zero_iff.1 (Nat.le_zero.1 h)];rfl
 | n+1,m+1,l,acc,hn,hm=>by
  rw [eT,eT];by_cases h0:l=[]
  ·rw [XC h0,XC h0]
  rw [XB h0,XB h0];have hlt:=BL h0;by_cases hb:pI l=true
  ·rw [XC hb,XC hb]
  rw [XB hb,XB hb];exact vA n m _ _ (by rw [XS];omega) (by rw [XS];omega)
theorem tL {l:List UInt8} {acc:List ByteArray} (h0:l≠[]) (hb:pI l=false):eT l.length l acc=eT ((tY l).drop (HT l)).length ((tY l).drop (HT l)) (acc++[ofL ((tY l).take (HT l))]):=by have hlt:=BL h0;obtain ⟨k,hk⟩:∃ k,l.length=k+1:=⟨l.length - 1,by omega⟩;rw [hk,eT,XB h0,XB (by rw [hb];decide)];exact vA _ _ _ _ (by rw [XS];omega) (XJ _)
theorem EL {l:List UInt8} {acc:List ByteArray} (h0:l≠[]) (hb:pI l=true):eT l.length l acc=([],false):=by have hlt:=BL h0;obtain ⟨k,hk⟩:∃ k,l.length=k+1:=⟨l.length - 1,by omega⟩;rw [hk,eT,XB h0,XC hb]
theorem OD {w r:List UInt8} (h:(58:UInt8)∉w):u0 (w++58::r)=w∧tY (w++58::r)=r:=by
 induction w with
 | nil=>exact⟨rfl,rfl⟩
 | cons b w ih =>
  have hb:b≠58:=fun e=>h (by rw [e];exact List.mem_cons_self);obtain ⟨h1,h2⟩:=ih (fun e=>h (List.mem_cons_of_mem _ e));rw [u0] at h1 ⊢;rw [tY] at h2 ⊢;rw [List.cons_append,List.takeWhile_cons,List.dropWhile_cons,XC (by simp [hb]),XC (by simp [hb]),h1];exact⟨rfl,h2⟩
theorem OC:∀ {l:List UInt8},(58:UInt8)∉l→u0 l=l∧tY l=[]
 | [],_=>⟨rfl,rfl⟩
 | b::l,h=>by
  have hb:b≠58:=fun e=>h (by rw [e];exact List.mem_cons_self);obtain ⟨h1,h2⟩:=OC (l:=l) (fun e=>h (List.mem_cons_of_mem _ e));rw [u0] at h1 ⊢;rw [tY] at h2 ⊢;rw [List.takeWhile_cons,List.dropWhile_cons,XC (by simp [hb]),XC (by simp [hb]),h1];exact⟨rfl,h2⟩
theorem RQ (l:List UInt8):DM (ofL l)=.tup [sv (ofL (u0 l)),sv (ofL (tY l)),bv (decide ((58:UInt8)∈l))]:=by
 rw [DM,bA];by_cases h:Lib.indexByte l 58 = -1
 ·rw [XC h];have hm:=wD.1 h;rw [(OC hm).1,(OC hm).2,decide_eq_false hm];rfl
 rw [XB h];obtain ⟨w,r,e1,e2,e3⟩:=wE h;rw [e3,XO];subst e1;rw [(OD e2).1,(OD e2).2,decide_eq_true (by simp)];have x1:(ofL (w++58::r)).extract 0 w.length=ofL w:=i8 (by rw [eS,bA,bA,List.drop_zero,Nat.sub_zero,List.take_left]);have x2:(ofL (w++58::r)).extract (w.length+1) (ofL (w++58::r)).size=ofL r:=i8 (by
  rw [n7,bA,bA,← List.drop_drop,List.drop_left];rfl)
 rw [x1,x2]
theorem KX (s:ByteArray) : -9223372036854775808≤cW s∧cW s≤9223372036854775807:=by
 rw [cW,oH];cases e:Lib.atoiAll s.data.toList with
 | ok v=>exact Lib.atoiAll_bounds e
 | range =>
  show _≤Lib.atoiSat _∧Lib.atoiSat _≤_;rw [Lib.atoiSat]
  split
  ·exact⟨by decide,by decide⟩
  exact⟨by decide,by decide⟩
 | _ =>
  show (-9223372036854775808:Int)≤0∧(0:Int)≤9223372036854775807;exact⟨by decide,by decide⟩
theorem Fin.st2 {H1:aA} {id g n:Nat} {ob:Ob} (l:List ByteArray) (v:AV) (hH:H1.get id=some ob) (hg:ob.g=g) (hps:ob.rows=cJ l) (hn:n=l.length) (hv:Clo [] v) :
  Fin [] H1 (.tup [.osl id g 0 n,v]) [] (.tup [.pv (aW l),v]):=by
 subst hg hn;exact Fin.fz (id:=id) (ob:=ob) (l.map encStr) hH (hps.trans (iS l)) (.tup rfl (uX (.osl (kC encStr l)) (uX (.same hv) FT))) rfl trivial trivial
theorem F5 (l:List UInt8):(u0 l).length≤l.length∧(tY l).length≤l.length:=by
 constructor
 ·exact(List.takeWhile_sublist _).length_le
 rw [tY,XS];have:=(List.dropWhile_sublist (l:=l) fun b=>!decide (b=58)).length_le;omega
theorem CC (t:List UInt8) (H:aA) (ht:t.length < 1000000000):aK Tryz.prog 87 [sv (ofL t)] H (fun r H'=>r=.tup [.pv (aW (dX t).1),bv (dX t).2]∧H'=H):=by
 refine Pu ?_;refine Bd func87 rfl ntmps87<|Sr<|Dd aS<|Dd aS<|Zz<|Sr<|Dd (by exact iC (id:=905) (sz:=1) (ty:=9) rfl rfl rfl)<|Zz<|Sq<|aM ?_;refine tD (fun(l:List UInt8) (A:List ByteArray)=>([(0,sv (ofL l)),(4,.osl 905 A.length 0 A.length)],[(905,⟨A.length,1,9,cJ A⟩)])) (fun l A=>l.length+A.length≤t.length∧dX t=eT l.length l A) (fun l A=>l.length) t [] ⟨XJ _,rfl⟩ ?_ ?_
 ·exact(bY.wk (Eb<|Ea<|trivial) (Hc (eX _ _)<|trivial) trivial)
 rintro l A ⟨hl,hR⟩;have hls:(ofL l).size=l.length:=bS l;have hcl:=F5 l;have hcut:=fun H=>TM (ofL l) H (by omega);rw [RQ] at hcut;have hat:=fun H=>u4 (ofL (u0 l)) (by rw [bS];omega) H;have hbd:=KX (ofL (u0 l));have hit:=fun H=>mK (cW (ofL (u0 l))) hbd.1 hbd.2 H;have hrs:(ofL (tY l)).size=(tY l).length:=bS _;have hbad:pI l=((((!decide ((58:UInt8)∈l)||gG (ofL (u0 l)))||decide (cW (ofL (u0 l)) < 0))||decide (((tY l).length:Int) < cW (ofL (u0 l))))||!decide (dD (cW (ofL (u0 l)))=ofL (u0 l))):=rfl;have hN:HT l=(cW (ofL (u0 l))).toNat:=rfl;obtain ⟨x,hx⟩:∃ x,x=ofL (u0 l):=⟨_,rfl⟩;obtain ⟨v,hv⟩:∃ v,v=cW (ofL (u0 l)):=⟨_,rfl⟩;obtain ⟨e,he⟩:∃ e,e=gG (ofL (u0 l)):=⟨_,rfl⟩;obtain ⟨o,ho⟩:∃ o,o=decide ((58:UInt8)∈l):=⟨_,rfl⟩;obtain ⟨r,hr⟩:∃ r,r=tY l:=⟨_,rfl⟩;obtain ⟨iv',hiv⟩:∃ y,y=dD v:=⟨_,rfl⟩;simp only [← hv,← he,← ho,← hr] at hcut hat hit hbad hN hbd hrs hcl;simp only [← hx,← hiv] at hcut hat hit hbad;have hlt:=fun h0=>BL (l:=l) h0;have hst:=fun(h0:l≠[]) hb=>tL (acc:=A) h0 hb;have hbb:=fun(h0:l≠[]) hb=>EL (acc:=A) h0 hb;rw [← hr] at hlt;simp only [← hr] at hst;clear hx hv he ho hr hiv;refine Sq<|Sr<|Dd aE<|Dd (xX aI)<|Dd yZ<|Zz ?_;refine Cn ?_ ?_<;>intro hc1
 ·have h0:l≠[]:=fun e=>by have h:=W9 hc1;rw [hls,e] at h;exact absurd h (by decide)
  refine aG<|aM<|Sr<|Dd aE<|Dd (by exact aB rfl rfl call117 rfl (hcut _))<|Dd aE<|Dd eB<|Dd eB<|Dd eB<|Dd aS<|Dd aS<|Dd aS<|Zz<|Sr<|Dd aE<|Dd (by exact aB rfl rfl PT rfl (hat _))<|Dd aE<|Dd eB<|Dd eB<|Dd aS<|Dd aS<|Zz<|Sq<|Sq ?_;refine dA (t:=45) (n:=26) (X:=pI l) ?_ ?_
  ·all_goals refine Dd aE ?_
   all_goals refine Dd uF<|Dm ?_
   all_goals refine Sp 26 (fun h26=>?_) fun h26=>?_
   all_goals(try(with_reducible contradiction))
   all_goals first|refine Fo<|Fo ?_|refine On aE<|On (by exact qY rfl gW rfl) ?_
   all_goals refine Dd gL<|Dm ?_
   all_goals refine Sp 30 (fun h30=>?_) fun h30=>?_
   all_goals(try(with_reducible contradiction))
   all_goals first|refine Fo<|Fo ?_|refine On aE<|On dG ?_
   all_goals refine Dd gL<|Dm ?_
   all_goals refine Sp 34 (fun h34=>?_) fun h34=>?_
   all_goals(try(with_reducible contradiction))
   all_goals first|refine Fo<|Fo<|Fo<|Fo ?_|refine On aE<|On aE<|On (xX aI)<|On yZ ?_
   all_goals refine Dd gL<|Dm ?_
   all_goals refine Sp 40 (fun h40=>?_) fun h40=>?_
   all_goals(try(with_reducible contradiction))
   all_goals first|refine Fo<|Fo<|Fo<|Fo ?_|refine On aE<|On (by exact aB rfl rfl nD rfl (hit _))<|On aE<|On MA ?_
   all_goals refine Dd gL<|Zz ?_
   all_goals(exact⟨⟨_,rfl,by rw [hbad];first|(rw [h26];rfl)|(rw [h26,h30];rfl)|(rw [h26,h30,h34,← hrs];rfl)|(rw [h26,h30,h34,← hrs,h40];rfl)⟩,rfl,rfl,rfl⟩)
  refine Cn ?_ ?_<;>intro hc2
  ·have hb:pI l=true:=hc2;rw [hR,hbb h0 hb];refine Sr<|Dd aS<|Dd aS<|Zz<|aN ?_;refine fQ (H':=[]) (.inr rfl) rfl (aH rfl) (aH rfl) (Fin.wk (r:=.tup [.pv (aW []),bv false]) (by simp) trivial trivial) ?_;exact Qq
  have hb:pI l=false:=hc2;have hs:=hst h0 hb;have hlt2:=hlt h0;have hb2:=hbad.symm.trans hb;simp only [XZ,XL] at hb2;obtain ⟨u,rfl⟩:∃ u:Nat,v=(u:Int):=⟨v.toNat,by omega⟩;rw [XO] at hN;rw [hN] at hs;have hur:u≤r.length:=by omega
  have x1:(ofL r).extract 0 u=ofL (r.take u):=i8 (by rw [eS,bA,bA,List.drop_zero,Nat.sub_zero]);have x2:(ofL r).extract u (ofL r).size=ofL (r.drop u):=i8 (by rw [n7,bA,bA]);have hnl:(A++[ofL (r.take u)]).length=A.length+1:=by rw [XE];rfl
  refine aG<|bK follows<|Cr [905] (fun _ _=>aE)<|Cr [] (fun _ _=>aE)<|Cr [] (fun _ _=>aE)<|Cr [] (fun H1 hH=>by exact cI (l:=0) (h:=u) rfl aI rfl rfl rfl (XU _) (by omega) x1)<|Cr [] (fun H1 hH=>by exact bE [[.str (ofL (r.take u))]] rfl bR rfl rfl rfl rfl rfl (by intro r hr;rw [XG] at hr;subst hr;rfl))<|Cp [905] (fun H1 hH=>by exact dQ (ps:=[[.str (ofL (r.take u))]]) rfl bR D7 rfl ((hH _ rfl).trans rfl) rfl rfl rfl (eL _) rfl (by intro r hr;rw [XG] at hr;subst hr;rfl) (m:=1) rfl (by omega) rfl (j1 _ (ofL (r.take u))))<|Cr [] (fun _ _=>aE)<|Cr [] (fun _ _=>aE)<|Cr [] (fun H1 hH=>by exact cI (l:=u) (h:=(ofL r).size) rfl aI rfl rfl rfl (by omega) (XJ _) x2)<|Cr [905] (fun _ _=>aS)<|Cr [] (fun _ _=>aS)<|cM<|Kr ?_;refine⟨r.drop u,A++[ofL (r.take u)],⟨by rw [XS,hnl];omega,hR.trans hs⟩,by rw [XS];omega,?_⟩;dsimp only;rw [hnl];exact(bY.wk (Eb<|Ea<|trivial) (Hc (eX _ _)<|trivial) trivial)
 have h0:l=[]:=List.length_eq_zero_iff.1 (by have:=XA hc1;omega);rw [hR,h0];refine a6<|Sr<|Dd aE<|Dd aS<|Dd aS<|Zz<|aN ?_;refine fQ (H':=[]) (.inr rfl) rfl (aH rfl) (aH rfl) (Fin.st2 A (bv true) rfl rfl rfl rfl (by simp)) ?_;exact Qq
def w7 (F:FuncId) (caps:List AV) (PR:List ByteArray→Prop) (K:aA):Prop :=∀ (yv:AV) (Hs:List ByteArray→aA),(∀ M,Sub K (Hs M))→(∀ M,(Hs M).get 946=none)→(∀ M,bF (Hs M))→(∀ M,Clo (Hs M) yv) →
  (∀ M x,M.length < 1099511627776→eK Tryz.prog yv [sv x] (Hs M) (fun r H'=>r=bv true∧H'=Hs (M++[x]))) →
  (∀ o M x,M.length < 1099511627776→eK Tryz.prog yv [sv x] ((946,o)::Hs M) (fun r H'=>r=bv true∧H'=(946,o)::Hs (M++[x]))) →
  aK Tryz.prog F (yv::caps) (Hs []) (fun r H'=>r=.tup []∧∃ M,PR M∧H'=Hs M)
def PM:bI:=[(2,.ref 942 0 0 0)]
def PY (M:List ByteArray) (K:aA):aA:=(945,⟨M.length,1,9,cJ M⟩)::(942,bx 1 31 [.osl 945 M.length 0 M.length])::K
theorem GI (M:List ByteArray) (s:ByteArray) (K:aA):PY (M++[s]) K=(945,⟨M.length+1,1,9,cJ (M++[s])⟩)::(942,bx 1 31 [.osl 945 (M.length+1) 0 (M.length+1)])::K:=by simp [PY]
theorem EB {M:List ByteArray} {K:aA} {x:Go.Loop} (h:bF K):bF ((944,LR x PM)::PY M K):=by refine bF.app (D:=[(944,LR x PM),(945,⟨M.length,1,9,cJ M⟩),(942,bx 1 31 [.osl 945 M.length 0 M.length])]) ?_ h;refine j0.spec ⟨PH (by simp [PM];rfl),eX _ _,?_,trivial⟩;intro r hr a ha;simp only [bx,XG] at hr;subst hr;rw [XG] at ha;subst ha;exact .osl rfl
theorem GB {F:FuncId} {caps:List AV} {PR:List ByteArray→Prop} (hE:∀ (args:Array Value) (w:World),(callFunc F args).run Tryz.prog w=.ok (.enter F args) w) (K:aA) (hS:w7 F caps PR K) (k2:K.get 942=none) (k4:K.get 944=none) (k5:K.get 945=none) (k6:K.get 946=none) (hc:bF K) (hcap:Clo K (.clo F caps)) :
  aK Tryz.prog 125 [.pv .nils,.clo F caps] K (fun r H'=>∃ M,PR M∧r=.osl 945 M.length 0 M.length∧H'=(945,⟨M.length,1,9,cJ M⟩)::K):=by
 have k2':aA.get ((945,⟨0,1,9,[]⟩)::K) 942=none:=k2;refine Bd func125 rfl ntmps125 ?_;refine OR (t:=0) (id:=945) (sz:=1) (ty:=9) rfl k5 rfl ?_;refine KS (t:=0) rfl rfl rfl (XJ _) ?_;refine Sr<|Dd (by exact fP (id:=942) rfl rfl rfl rfl k2')<|Dd aS<|Zz<|Sq<|Sr<|Dd aE<|Zz<|aM ?_;refine fU.ent (E':=[(2,.ref 942 0 0 0),(6,.clo F caps)]) (H':=PY [] K) (bY.get' ⟨⟨_,rfl,rfl⟩,⟨_,rfl,rfl⟩,trivial⟩ (fun j=>rL (by decide) j)) ?_;refine s8 (id:=944) (p:=7) PM rfl hE rfl k4 (by simp [PM];rfl) ?_;intro x hx1 hx2 hx3 hx4 hx5 hx6;refine(hS (.yld 944 0) (fun M=>(944,LR x PM)::PY M K) (fun M=>?_) (fun M=>k6) (fun M=>EB hc) (fun M=>by simp;rfl) ?_ ?_).mono ?_
 ·refine Sub.app (D:=[(944,LR x PM),(945,⟨M.length,1,9,cJ M⟩),(942,bx 1 31 [.osl 945 M.length 0 M.length])]) ?_;intro p hp;simp only [XP,XT,or_false] at hp;rcases hp with rfl|rfl|rfl
  ·exact k4
  ·exact k5
  exact k2
 ·intro M s hM;refine .inl ⟨944,0,rfl,?_⟩;rw [GI];refine zQ [(2,.ref 942 0 0 0),(5,sv s)] (PY M K) hx1 hx2 hx3 hx4 hx5 hx6 rfl rfl rfl ?_ ?_
  ·refine Rg<|Da ?_;exact E0
  refine aM<|Rg<|Dd (eA b5)<|Dd aE<|Dd (by exact bE [[.str s]] rfl bR rfl rfl rfl rfl rfl (by intro r hr;rw [XG] at hr;subst hr;rfl))<|Dd (by exact dQ (ps:=[[.str s]]) rfl bR D7 rfl rfl rfl rfl rfl (eL _) rfl (by intro r hr;rw [XG] at hr;subst hr;rfl) (m:=1) rfl (by omega) rfl (j1 _ s))<|Uu (pE m6)<|Zz ?_;exact⟨(945,⟨M.length+1,1,9,cJ (M++[s])⟩)::(942,bx 1 31 [.osl 945 (M.length+1) 0 (M.length+1)])::K,bY.get' trivial (fun j=>lV [_,_,_] [_,_,_,_,_] (by repeat(first|exact trivial|refine⟨rfl,?_⟩)) j),rfl,rfl⟩
 ·intro o M s hM;refine eK.congrG (H1:=(944,LR x PM)::(946,o)::PY M K) (K1:=(944,LR x PM)::(946,o)::PY (M++[s]) K) (.inl ⟨944,0,rfl,?_⟩) (fun j=>rL (by decide) j) (fun j=>rL (by decide) j);rw [GI];refine zQ [(2,.ref 942 0 0 0),(5,sv s)] ((946,o)::PY M K) hx1 hx2 hx3 hx4 hx5 hx6 rfl rfl rfl ?_ ?_
  ·refine Rg<|Da ?_;exact E0
  refine aM<|Rg<|Dd (eA b5)<|Dd aE<|Dd (by exact bE [[.str s]] rfl bR rfl rfl rfl rfl rfl (by intro r hr;rw [XG] at hr;subst hr;rfl))<|Dd (by exact dQ (ps:=[[.str s]]) rfl bR D7 rfl rfl rfl rfl rfl (eL _) rfl (by intro r hr;rw [XG] at hr;subst hr;rfl) (m:=1) rfl (by omega) rfl (j1 _ s))<|Uu (pE m6)<|Zz ?_;exact⟨(946,o)::(945,⟨M.length+1,1,9,cJ (M++[s])⟩)::(942,bx 1 31 [.osl 945 (M.length+1) 0 (M.length+1)])::K,bY.get' trivial (fun j=>lV [_,_,_,_] [_,_,_,_,_,_] (by repeat(first|exact trivial|refine⟨rfl,?_⟩)) j),rfl,rfl⟩
 rintro r H' ⟨rfl,M,hM,rfl⟩;refine⟨x,_,rfl,by rw [hx1];decide,rfl,fun z=>?_⟩;rw [hx2];refine Sr<|Dd (eA b5)<|Dd aS<|Zz<|aN ?_;refine a8 (H':=((945,⟨M.length,1,9,cJ M⟩)::K)) (.inr rfl) rfl (aH rfl) (Fin.front' [(944,LR z PM),(945,⟨M.length,1,9,cJ M⟩),(942,bx 1 31 [.osl 945 M.length 0 M.length])] [(945,⟨M.length,1,9,cJ M⟩)] (.osl rfl) (by simp [k2,k4,aA.get]) (by intro p hp;rw [XG] at hp;subst hp;rfl) (j0.spec ⟨eX _ _,trivial⟩) hc (by simp [k2,k4,aA.get])) ?_;exact⟨M,hM,rfl,rfl⟩
theorem DR {F:FuncId} {caps:List AV} {PR:List ByteArray→Prop} (hE:∀ (args:Array Value) (w:World),(callFunc F args).run Tryz.prog w=.ok (.enter F args) w) (K:aA) (hS:w7 F caps PR K) (k2:K.get 942=none) (k4:K.get 944=none) (k5:K.get 945=none) (k6:K.get 946=none) (hc:bF K) (hcap:Clo K (.clo F caps)) :
  aK Tryz.prog 95 [.clo F caps] K (fun r H'=>∃ M,PR M∧r=.osl 945 M.length 0 M.length∧H'=(945,⟨M.length,1,9,cJ M⟩)::K):=by
 refine Bd func95 rfl ntmps95<|Sr<|Dd aS<|Zz<|Sr<|Dm ?_;refine iJ rfl rfl (AF rfl rfl call125 rfl (GB hE K hS k2 k4 k5 k6 hc hcap)) ?_;rintro r H' ⟨M,hM,rfl,rfl⟩;refine Dd aS<|Zz<|aN ?_;refine a8 (H':=((945,⟨M.length,1,9,cJ M⟩)::K)) (.inr rfl) rfl (aH rfl) Fin.refl ?_;exact⟨M,hM,rfl,rfl⟩
theorem zV (l:List ByteArray):dE l=(l.map encStr).map (·.map .pv):=by rw [List.map_map];rfl
theorem zX {F:FuncId} {caps:List AV} {L:List ByteArray} (hL:L.length < 1099511627776) (hE:∀ (args:Array Value) (w:World),(callFunc F args).run Tryz.prog w=.ok (.enter F args) w) (K:aA) (hS:w7 F caps (fun M=>M.Perm L) K) (k2:K.get 942=none) (k4:K.get 944=none) (k5:K.get 945=none) (k6:K.get 946=none) (hc:bF K) (hcap:Clo K (.clo F caps)) :
  aK Tryz.prog 48 [.clo F caps] K (fun r H'=>r=.pv (aW (b4 L))∧H'=K):=by
 refine Bd func48 rfl ntmps48<|Sr<|Dd aS<|Zz<|Sr<|Dm ?_;refine iJ rfl rfl (aB rfl rfl call95 rfl (DR hE K hS k2 k4 k5 k6 hc hcap)) ?_;rintro r H' ⟨M,hperm,rfl,rfl⟩;have hMl:M.length < 4611686018427387904:=by rw [hperm.length_eq];omega
 have hSo:=nI hperm;have hSl:(b4 M).length=M.length:=by rw [b4,XD,List.length_mergeSort,XD]
 refine Dd aS<|Zz<|Sr<|Dd aE<|Dd (by exact aB rfl rfl call96 rfl (yE M rfl rfl hMl))<|Zz<|Sr<|Dd aE<|Dd aS<|Zz<|aN ?_;refine a8 (H':=K) (.inr rfl) rfl (aH rfl) (Fin.slice [(945,⟨M.length,1,9,dE (b4 M)⟩),(945,⟨M.length,1,9,cJ M⟩)] ((b4 M).map encStr) rfl rfl (zV _) (by rw [XD,hSl]) hc (by simp [k5]) (by simp [k5]) k5) ?_;exact⟨by rw [← hSo];rfl,rfl⟩
abbrev bN:=List (ByteArray×ByteArray×Nat)
def dR (l:bN) (c:Nat):Prop:=(l.map fun p=>p.2.2).Pairwise (· < ·)∧∀ p∈l,p.2.2 < c
def gH (l:bN) (i:Nat):Nat:=((l[i]?).map fun p=>p.2.2).getD 0
theorem zW {l:bN} {c:Nat} (h:dR l c) {i j:Nat} (hi:i < l.length) (hj:j < l.length) (e:gH l i=gH l j):i=j:=by
 have hp:=List.pairwise_iff_getElem.1 h.1;rw [gH,gH,XI hi,XI hj] at e;have e:(l[i]).2.2=(l[j]).2.2:=e;rcases Nat.lt_trichotomy i j with h1|h1|h1
 ·have:=hp i j (by simpa using hi) (by simpa using hj) h1;simp at this;omega
 ·exact h1
 have:=hp j i (by simpa using hj) (by simpa using hi) h1;simp at this;omega
def uT (mid:Nat) (l:bN) (c:Nat) (s:List Nat):Ob:=⟨0,0,0,dV (.mp mid 0) c c (s.map (gH l))⟩
abbrev PO (mid:Nat):Ob:=bx 1 33 [.mp mid 0]
theorem kV {H:aA} {mid:Nat} (h:(H.get mid).isSome=true) (l:bN) (c:Nat) (s:List Nat):∀ r∈(uT mid l c s).rows,∀ x∈r,Clo H x:=by
 intro r hr x hx;rw [uT,dV] at hr;rcases XP.1 hr with rfl|hr
 ·simp only [XP,XT,or_false] at hx;rcases hx with rfl|rfl|rfl
  ·exact .mp h
  ·exact .pv _
  exact .pv _
 obtain ⟨n,_,rfl⟩:=List.mem_map.1 hr;rw [XG] at hx;subst hx;exact .pv _
theorem oQ {l:bN} {i:Nat} {q:ByteArray×AV×Nat} (h:(bL l)[i]?=some q):∃ p,l[i]?=some p∧q=(p.1,sv p.2.1,p.2.2):=by
 rw [bL,XX] at h;cases e:l[i]? with
 | none=>rw [e] at h;cases h
 | some p=>rw [e] at h;cases h;exact⟨p,rfl,rfl⟩
def hY (l:bN) (s:List Nat):List ByteArray:=pick (l.map Prod.fst) s
theorem vO {l:bN} {s:List Nat} {i:Nat} {p:ByteArray×ByteArray×Nat} (h:l[i]?=some p):hY l (s++[i])=hY l s++[p.1]:=by simp only [hY,pick,List.map_append,List.map_cons,List.map_nil,XX,h,Option.map_some,Option.getD_some]
theorem yN (l:bN) (s:List Nat):(hY l s).length=s.length:=XD _
theorem HK (mid:Nat) (l:bN) (c:Nat) (K:aA) (hl:l.length < 1099511627776) (hst:dR l c) (h1:K.get 951=some (PO mid)) (h2:K.get mid=some (bJ l c)) (hm6:mid≠946):w7 105 [.ref 951 0 0 0] (fun M=>M.Perm (l.map Prod.fst)) K:=by
 intro yv Hs hK h6 hcl hf hy0 hy1;have g1:∀ M,(Hs M).get 951=some (PO mid):=fun M=>hK M _ _ h1;have g2:∀ M,(Hs M).get mid=some (bJ l c):=fun M=>hK M _ _ h2;have g2':∀ o M,aA.get ((946,o)::Hs M) mid=some (bJ l c):=fun o M=>by rw [get_cons_other _ _ hm6];exact g2 M
 refine Bd func105 rfl ntmps105<|Sr<|Dd (by exact aX rfl bO rfl (g1 []) rfl rfl rfl)<|Dd (by exact uV (q:=946) (κ:=eE) rfl aT rfl (g2 []) rfl rfl rfl (h6 []))<|Zz<|aM ?_;refine bB (σ:=List Nat) (fun s=>([(0,yv),(5,.it 946 0)],(946,uT mid l c s)::Hs (hY l s))) (fun s=>s.Nodup∧∀ i,i∈s→i < l.length) (fun s=>l.length - s.length) [] ⟨List.nodup_nil,by simp⟩ ?_ ?_
 ·exact E0
 rintro s ⟨hd,hb⟩;have hsl:s.length≤l.length:=gO _ _ hd hb;refine Sq<|Rg ?_;refine iJ rfl rfl (A8 (κ:=eE) (l:=bL l) rfl rfl (get_cons_same _ _ _) rfl rfl (g2' _ _) rfl rfl rfl (XJ _) (XJ _)) ?_;rintro _ _ (⟨rfl,rfl,hn0⟩|⟨hni,hnp,hn1,hn2,rfl,rfl⟩)
 ·refine Dd eB<|Zz<|Sq ?_;refine Cn ?_ ?_<;>intro hc1
  ·cases hc1
  refine a6 ?_;have hall:∀ i,i < l.length→i∈s:=fun i hi=>by
   have hq:(bL l)[i]?=some ((l[i]).1,sv (l[i]).2.1,(l[i]).2.2):=by rw [bL,XX,XI hi];rfl
   have:=hn0 _ (XN hq);obtain ⟨j,hj,e⟩:=List.mem_map.1 this;have e2:gH l j=gH l i:=by
    rw [e,gH,XI hi];rfl
   have:=zW hst (hb j hj) hi e2
   rwa [this] at hj
  exact iQ (H':=Hs (hY l s)) (.inl rfl) rfl (Fin.pops' [(946,uT mid l c s)] (by simp) (hcl _) (by simp [h6]) (by simp [h6])) ⟨rfl,hY l s,CL hd (by rw [XD];exact hb) (by rw [XD];exact hall),rfl⟩
 obtain ⟨p,hp,rfl⟩:=oQ hn1;have hlt:hni < l.length:=(XH.1 hp).1;have hst2:gH l hni=p.2.2:=by rw [gH,hp];rfl
 have hn3:hni∉s:=fun hm=>hn2 (List.mem_map.2 ⟨hni,hm,hst2⟩);have hb2:∀ i,i∈s++[hni]→i < l.length:=fun i hi=>by
  rcases List.mem_append.1 hi with h|h
  ·exact hb i h
  rw [XG] at h;omega
 have hd2:(s++[hni]).Nodup:=List.nodup_append.2 ⟨hd,by simp,fun a ha b hb e=>by rw [XG] at hb;subst hb;subst e;exact hn3 ha⟩;have hlen:=gO _ _ hd2 hb2;rw [XE,List.length_singleton] at hlen;have hit:uT mid l c (s++[hni])=⟨0,0,0,dV (.mp mid 0) c c (s.map (gH l)++[p.2.2])⟩:=by rw [uT,List.map_append,List.map_cons,List.map_nil,hst2]
 have hyy:=hy1 (uT mid l c (s++[hni])) (hY l s) p.1 (by rw [yN];omega);rw [← vO hp] at hyy;refine Dd eB<|Zz<|Sq ?_;refine Cn ?_ ?_<;>intro hc2
 ·refine aG<|aM<|Sr<|Dd (by exact uW (κ:=eE) (seen:=s.map (gH l)) (p:=(p.1,sv p.2.1,p.2.2)) (since:=c) rfl rfl (get_cons_same _ _ _) rfl rfl ((get_cons_other _ _ hm6).trans (g2' _ _)) rfl rfl rfl hn1)<|Dd eB<|Dd aS<|Zz<|Sq ?_;refine fU.ent (E':=[(0,yv),(5,.it 946 0),(3,sv p.1)]) (H':=(946,uT mid l c (s++[hni]))::Hs (hY l s)) (bY.get' ⟨⟨_,rfl,rfl⟩,⟨_,rfl,rfl⟩,⟨_,rfl,rfl⟩,trivial⟩ (fun j=>by rw [hit];exact gE 946 _ (uT mid l c s) (Hs (hY l s)) j)) ?_;refine Rg<|Dd aE<|Dd aE<|Dd (by exact gB rfl rfl rfl (hyy))<|Dd uF<|Zz ?_;refine Cn ?_ ?_<;>intro hc3
  ·cases hc3
  refine aG ?_;refine⟨s++[hni],⟨hd2,hb2⟩,by rw [XE,List.length_singleton];omega,?_⟩;exact E0
 cases hc2
theorem yA (l:List ByteArray) (K:aA) (hl:l.length < 1099511627776) (h1:K.get 951=some (bx 1 31 [.pv (aW l)])):w7 97 [.ref 951 0 0 0] (fun M=>M.Perm l) K:=by
 intro yv Hs hK h6 hcl hf hy0 hy1;have g1:∀ M,(Hs M).get 951=some (bx 1 31 [.pv (aW l)]):=fun M=>hK M _ _ h1;have hml:(l.map encStr).length=l.length:=XD _;refine Bd func97 rfl ntmps97<|Sr<|Dd (by exact aX rfl b5 rfl (g1 []) rfl rfl rfl)<|Dd (jW aO)<|Dd aE<|Zz<|aM ?_;refine bB (σ:=Nat) (fun i=>([(0,yv),(5,.pv (aW l)),(6,iv ((l.map encStr).length:Int)),(7,iv (i:Int))],Hs (l.take i))) (fun i=>i≤l.length) (fun i=>l.length - i) 0 (XU _) ?_ ?_
 ·exact E0
 rintro i hi;refine Sr<|Dd dG<|Zz<|Sq ?_;refine Cn ?_ ?_<;>intro hc1
 ·have hlt:i < l.length:=by have:=W9 hc1;omega
  obtain ⟨s,hs⟩:=aY hlt;have his:=cG (f:=encStr) hs;have hyy:=hy0 (l.take i) s (by rw [XR];omega);rw [← cR hs] at hyy;refine aG<|Sq<|aM<|Sr<|Dd (BY bR)<|Dd (kG aU)<|Dd aS<|Zz<|Sr<|Dd aE<|Dd aE<|Dd (by exact gB rfl rfl rfl (hyy))<|Dd uF<|Zz ?_;refine Cn ?_ ?_<;>intro hc2
  ·cases hc2
  refine aG<|Rg<|Dd kP<|Dd aE<|Zz ?_;exact⟨i+1,by omega,by omega,E0⟩
 have hge:i=l.length:=by have:=XA hc1;omega
 subst hge;refine a6 ?_;exact iQ (H':=Hs (l.take l.length)) (.inl rfl) rfl Fin.refl ⟨rfl,_,by rw [List.take_length],rfl⟩
theorem HJ (mid:Nat) (H:aA) (h1:H.get 951=none) (hm:(H.get mid).isSome=true) :
  aK Tryz.prog 55 [.mp mid 0] H (fun r H'=>r=.clo 105 [.ref 951 0 0 0]∧H'=(951,PO mid)::H):=by
 refine Bd func55 rfl ntmps55<|Sr<|Dd (by exact fP (id:=951) rfl rfl rfl rfl h1)<|Dd aS<|Zz<|Sr<|Dd (by exact eP rfl rfl)<|Dd aS<|Zz<|aN ?_;refine a8 (H':=((951,PO mid)::H)) (.inr rfl) rfl (aH rfl) Fin.refl ?_;exact Qq
def cE:bN→ByteArray→ByteArray
 | [],_=>⟨#[]⟩
 | (k',v,_)::r,k=>if k'=k then v else cE r k
theorem AS (k:ByteArray):∀ l:bN,(kF (DB (bL l)) k).getD (sv ⟨#[]⟩)=sv (cE l k)
 | []=>rfl
 | (k',v,n)::r=>by
  show (if k'=k then some (sv v)else kF (DB (bL r)) k).getD (sv ⟨#[]⟩)=sv (if k'=k then v else cE r k)
  split
  ·rfl
  exact AS k r
theorem MX {P:Program} {N:Nat} {o:Oper} {E:bI} {H:aA} {T kt et:TypeId} {x y:Operand} {zv:Value} {id g:Nat} {ob:Ob} {l:bN} {k:ByteArray} (ho:o.op=.lookup T x y false) (hT:P.underlying T=some (.map kt et)) (hd:P.underlying kt=some .string) (hx:aP E x=some (.mp id g)) (hH:H.get id=some ob) (hg:ob.g=g)
  (hrows:ob.rows=fC eE (bL l)) (hy:aP E y=some (sv k)) (hz:∀ w,(zeroValue et).run P w=.ok zv w) (hv:ZV zv (sv ⟨#[]⟩)):bW P N o E H (sv (cE l k)) H:=by
 have h:=NU (N:=N) (κ:=eE) ho hT hd hx hH hg hrows hy hz hv
 rwa [AS] at h
theorem lO (s u:ByteArray):∀ r∈([[.str s],[.str u]]:List (List PV)),r.length=1:=by intro r hr;simp only [XP,XT,or_false] at hr;rcases hr with rfl|rfl<;>rfl
def wZ (l:bN) (S:List ByteArray) (k:Nat):List ByteArray:=dD ((bL l).length:Int)::(S.take k).flatMap fun x=>[x,cE l x]
theorem P4 {l:bN} {S:List ByteArray} {k:Nat} {s:ByteArray} (h:S[k]?=some s):wZ l S (k+1)=wZ l S k++[s,cE l s]:=by rw [wZ,wZ,cR h,List.flatMap_append];rfl
theorem fM {α β:Type} (f g:α→β):∀ S:List α,(S.flatMap fun x=>[f x,g x]).length=2*S.length
 | []=>rfl
 | x::r=>by
  have h:=fM f g r;rw [List.flatMap_cons,XE,h];simp only [XF,List.length_nil];omega
theorem LT {l:bN} {S:List ByteArray} {k:Nat} (h:k≤S.length):(wZ l S k).length=1+2*k:=by rw [wZ,XF,fM,XR];omega
def bP (l:bN):List ByteArray:=b4 (l.map Prod.fst)
def cA (l:bN) (P:List ByteArray):List ByteArray:=(wZ l (bP l) (bP l).length++[dD ((P.map encStr).length:Int)])++P
def bC (l:bN) (P:List ByteArray):List UInt8:=aR [ofL (aR (cA l P))]
theorem fK (l:bN):(bP l).length=l.length:=by rw [bP,b4,XD,List.length_mergeSort,XD,XD]
theorem j9 (A B:List ByteArray):cJ A++(B.map encStr).map (·.map AV.pv)=cJ (A++B):=by rw [cJ,cJ,List.map_append,List.map_map];rfl
theorem pL (A B:List ByteArray):cJ A++B.map (fun s=>[.pv (.str s)])=cJ (A++B):=by rw [cJ,cJ,List.map_append]
abbrev tK (g:Nat) (W:List ByteArray) (l:bN) (c:Nat):aA:=[(951,PO 950),(920,⟨g,1,9,cJ W⟩),(950,bJ l c)]
theorem SV (g:Nat) (W:List ByteArray) (l:bN) (c:Nat):bF (tK g W l c):=bF.of (fun p hp=>by
 simp only [XP,XT,or_false] at hp;rcases hp with rfl|rfl|rfl
 ·intro r hr x hx;simp only [bx,XG] at hr;subst hr;rw [XG] at hx;subst hx;exact .mp rfl
 ·exact eX _ _
 exact aQ _ _ _)
theorem qL {l:bN} {P:List ByteArray} {N:Nat} (h:(bC l P).length < N):(aR (cA l P)).length < N:=by
 have e:bC l P=(mE (ofL (aR (cA l P)))).data.toList:=by rw [bC,aR,List.flatMap_cons,List.flatMap_nil,List.append_nil]
 rw [e,nJ,kS,bS] at h;omega
theorem HM {W:List ByteArray} {g n:Nat} {H:aA} (hW:(aR W).length < 35184372088832) (hH:H.get 920=some ⟨g,1,9,cJ W⟩) (hn:n=W.length):aK Tryz.prog 99 [.osl 920 g 0 n] H (fun x H'=>x=sv (ofL (aR W))∧H'=H):=by subst hn;exact RO.calls (RO.lend (id:=920) (H1:=[]) (W.map encStr) (RO.of (j4 W [] hW) rfl) hH (iS W) rfl (uX (.osl (kC encStr W)) FT) (fun _ _ h=>by cases h) (fun _ _ h=>by cases h) rfl)
theorem GP (l:bN) (c:Nat) (P:List ByteArray) (hst:dR l c) (hl:l.length < 1099511627776) (hP:P.length < 1099511627776) (hsz:(bC l P).length < 35184372088832) :
  aK Tryz.prog 50 [.mp 950 0,.pv (aW P)] [(950,bJ l c)] (fun r H'=>r=sv (ofL (bC l P))∧H'=[(950,bJ l c)]):=by
 have hsl:=fK l;have hso:=zX (L:=l.map Prod.fst) (by rw [XD];exact hl) WB (tK 0 [dD ((bL l).length:Int)] l c) (HK 950 l c _ hl hst rfl rfl (by decide)) rfl rfl rfl rfl (SV _ _ _ _) (by simp;rfl);have hin:=qL hsz;have hgl:(bL l).length=l.length:=XD _;have hml:((bP l).map encStr).length=(bP l).length:=XD _;have hpl:(P.map encStr).length=P.length:=XD _;change aK _ _ _ _ fun r H'=>r=.pv (aW (bP l))∧H'=_ at hso;refine Bd func50 rfl ntmps50<|Sr<|Dd aS<|Zz<|Sr<|Dd aE<|Dd (by exact tU (κ:=eE) (l:=bL l) rfl aT rfl rfl rfl rfl)<|Dd (by exact aB rfl rfl nD rfl (mK ((bL l).length:Int) (by omega) (by omega) _))<|Dd (by exact eW (id:=920) rfl bR rfl rfl rfl rfl (show ∀ r∈cJ [dD ((bL l).length:Int)],r.length=1 from by intro r hr;rw [XG.1 hr];rfl) rfl)<|Dd aS<|Zz<|Sq<|Sr<|Dd aE<|Dd (by exact aB rfl rfl WP rfl (HJ 950 _ rfl rfl))<|Dd (by exact aB rfl rfl BT rfl (hso))<|Dd (jW aO)<|Dd aE<|Zz<|aM ?_;refine bB (σ:=Nat) (fun k=>([(0,.mp 950 0),(1,.pv (aW P)),(5,.osl 920 k 0 (1+2*k)),(14,.pv (aW (bP l))),(15,iv (((bP l).map encStr).length:Int)),(16,iv (k:Int))],tK k (wZ l (bP l) k) l c)) (fun k=>k≤(bP l).length) (fun k=>(bP l).length - k) 0 (XU _) ?_ ?_
 ·exact E0
 intro k hk;refine Sr<|Dd dG<|Zz<|Sq ?_;refine Cn ?_ ?_<;>intro hc1
 ·have hlt:k < (bP l).length:=by have:=W9 hc1;omega
  obtain ⟨s,hs⟩:=aY hlt;have hi:=cG (f:=encStr) hs;have hwl:=LT (l:=l) hk;refine aG<|Sq<|aM<|Sr<|Dd (BY bR)<|Dd (kG aU)<|Dd aS<|Zz<|Rg<|Dd aE<|Dd aE<|Dd aE<|Dd aE<|Dd (by exact MX (l:=l) (k:=s) rfl aT aI rfl rfl rfl rfl rfl dS (.inl rfl))<|Dd (by exact bE [[.str s],[.str (cE l s)]] rfl bR rfl rfl rfl rfl rfl (lO s (cE l s)))<|Dd (by exact dQ (k:=1+2*(k+1)) (ps:=[[.str s],[.str (cE l s)]]) rfl bR D7 rfl rfl rfl rfl rfl ((eL _).trans hwl) rfl (lO _ _) (m:=2) rfl (by omega) (by omega) (pL _ [s,cE l s]))<|Dd aS<|Zz<|Rg<|Dd kP<|Dd aE<|Zz ?_;refine⟨k+1,by omega,by omega,?_⟩;rw [P4 hs];exact(bY.wk (Ea<|Eb<|Ea<|Eb<|Eb<|Eb<|trivial) (Ha<|Hc (eX _ _)<|Hc (aQ _ _ _)<|trivial) ⟨rfl,trivial⟩)
 have hge:k=(bP l).length:=by have:=XA hc1;omega
 subst hge;have hwl:=LT (l:=l) (XJ (bP l).length);refine a6<|Sr<|Dd aE<|Dd aE<|Dd (jW aO)<|Dd (by exact aB rfl rfl nD rfl (mK ((P.map encStr).length:Int) (by omega) (by omega) _))<|Dd (by exact bE [[.str (dD ((P.map encStr).length:Int))]] rfl bR rfl rfl rfl rfl rfl (by intro r hr;rw [XG] at hr;subst hr;rfl))<|Dd (by exact dQ (ps:=[[.str (dD ((P.map encStr).length:Int))]]) rfl bR D7 rfl rfl rfl rfl rfl ((eL _).trans hwl) rfl (by intro r hr;rw [XG] at hr;subst hr;rfl) (m:=1) rfl (by omega) rfl (j1 _ _))<|Dd aS<|Zz<|Sr<|Dd aE<|Dd aE<|Dd (by exact dQ (ps:=P.map encStr) rfl bR D7 rfl rfl rfl rfl rfl ((eL _).trans (by rw [XE,hwl];rfl)) rfl (by intro r hr;obtain ⟨q,_,rfl⟩:=List.mem_map.1 hr;rfl) (m:=P.length) hpl (by omega) rfl (j9 _ P))<|Dd (by exact aB rfl rfl nC rfl (HM (W:=cA l P) hin rfl (by rw [cA,XE,XE,hwl];rfl))) ?_;refine Dd (by exact bE [[.str (ofL (aR (cA l P)))]] rfl bR rfl rfl rfl rfl rfl (by intro r hr;rw [XG] at hr;subst hr;rfl))<|Dd (by exact aB rfl rfl nC rfl (j4 [ofL (aR (cA l P))] _ hsz))<|Dd aS<|Zz<|aN ?_;refine a8 (H':=[(950,bJ l c)]) (.inr rfl) rfl (aH rfl) (Fin.wk (by(simp;done)) (Hc (aQ _ _ _)<|trivial) ⟨rfl,trivial⟩) ?_;exact Qq
end Go.Proofs.YtmkgeogoojcciaaGreatDoor
namespace Go.Proofs.YtmkgeogoojcciaaGreatDoor
open Go.Proofs.Tryz
open Go.Abs Go.Lib
theorem TA (x y:Nat) (hx:x < 18446744073709551616) (hy:y < 18446744073709551616) (H:aA):aK Tryz.prog 132 [uv x,uv y] H (fun r H'=>r=.tup [uv (x*y / 18446744073709551616),uv (x*y % 18446744073709551616)]∧H'=H):=by
 refine Pu ?_;refine Bd func132 rfl ntmps132<|Sr<|Dd aS<|Dd aS<|Zz<|Sq ?_;refine Cn ?_ ?_<;>intro hc1
 ·cases hc1
 exact aG<|Sr<|Dd aE<|Dd aE<|Dd (by exact aB rfl rfl WA rfl (vY x y hx hy _))<|Dd aE<|Dd eB<|Dd eB<|Dd aS<|Dd aS<|Zz<|Sr<|Dd aE<|Dd aE<|Dd aS<|Dd aS<|Zz<|aN<|Ru<|Qq
theorem wS (t:List UInt8) (ht:t.length < 1000000000000) (H:aA):aK Tryz.prog 51 [sv (ofL t)] H (fun r H'=>r=iv (cT t:Int)∧H'=H):=by
 refine Pu ?_;have hs:(ofL t).size=t.length:=bS t;have hq:IntKind.i64.wrap ((((ofL t).size:Int)+46 - 1).tdiv 46)=(cT t:Int):=by
  rw [hs,Int.tdiv_eq_ediv_of_nonneg (by omega),g9 (by omega) (by omega),cT];omega
 exact Bd func51 rfl ntmps51<|Sr<|Dd aS<|Zz<|Sr<|Dd aE<|Dd (xX aI)<|Dd kP<|Dd (by exact dO rfl rfl rfl (by exact g9 (by omega) (by omega)))<|Dd (by exact mF rfl rfl rfl (by decide) hq)<|Dd aS<|Zz<|aN<|Rt<|Qq
theorem Fin.st1 {H1:aA} {id g n:Nat} {ob:Ob} (l:List ByteArray) (hH:H1.get id=some ob) (hg:ob.g=g) (hps:ob.rows=cJ l) (hn:n=l.length) :
  Fin [] H1 (.osl id g 0 n) [] (.pv (aW l)):=by
 subst hg hn;exact Fin.fz (id:=id) (ob:=ob) (l.map encStr) hH (hps.trans (iS l)) (.osl (kC encStr l)) rfl trivial trivial
def gQ (z:ByteArray) (m n:Nat):List (List AV):=List.replicate m [sv z]++List.replicate (n - m) [sv sNil]
theorem JZ {z:ByteArray} {m n:Nat} (h:m≤n):(gQ z m n).length=n:=by rw [gQ,XE,List.length_replicate,List.length_replicate];omega
theorem FV {z:ByteArray} {m n j:Nat} (h:m≤n) (hj:j=min (n - m) m):(gQ z m n).take m++(((gQ z m n).take j)++(gQ z m n).drop (m+j))=gQ z (m+j) n:=by
 have hjm:j≤m:=by omega
 have h1:(gQ z m n).take m=List.replicate m [sv z]:=by rw [gQ,List.take_left' List.length_replicate]
 have h2:(gQ z m n).take j=List.replicate j [sv z]:=by
  rw [gQ,List.take_append_of_le_length (by rw [List.length_replicate];exact hjm),List.take_replicate,Nat.min_eq_left hjm]
 have h3:(gQ z m n).drop (m+j)=List.replicate (n - (m+j)) [sv sNil]:=by
  rw [gQ,← List.drop_drop,List.drop_left' List.length_replicate,List.drop_replicate,Nat.sub_sub]
 rw [h1,h2,h3,gQ,← List.append_assoc,List.replicate_append_replicate]
theorem zC {H:aA} {z:ByteArray} {m n:Nat}:∀ r∈gQ z m n,∀ a∈r,Clo H a:=by intro r hr a ha;rcases List.mem_append.1 hr with h|h<;>rw [List.eq_of_mem_replicate h,XG] at ha<;>subst ha<;>exact .pv _
theorem IZ (z:ByteArray) (n:Nat) (hn:n < 100000) (H:aA):aK Tryz.prog 106 [.pv (aW [z]),iv (n:Int)] H (fun r H'=>r=.pv (aW (List.replicate n z))∧H'=H):=by
 refine Pu ?_;have hmul:=fun H=>TA 1 n (by omega) (by omega) H;have e1:1*n / 18446744073709551616=0:=by omega
 have e2:1*n % 18446744073709551616=n:=by omega
 rw [e1,e2] at hmul;have hz0:((List.replicate n [sv sNil]:List (List AV))).take 0++((([[.str z]]:List (List PV)).take (min 1 n)).map (·.map .pv)++(List.replicate n [sv sNil]).drop (0+min 1 n))=gQ z (min 1 n) n:=by
  rw [List.take_zero,List.nil_append,List.drop_replicate,gQ,XV];rcases(show min 1 n=0∨min 1 n=1 by omega)with e|e<;>rw [e]<;>rfl
 refine Bd func106 rfl ntmps106<|Sr<|Dd aS<|Zz<|Sq<|Sr<|Dd aE<|Dd dG<|Zz ?_;refine Cn ?_ ?_<;>intro hc1
 ·(have:=W9 hc1;omega)
 refine aG<|Sr<|Dd aE<|Dd (jW aO)<|Dd (by exact eQ rfl bV d6 rfl (show IntKind.u64.wrap (1:Int)=1 by rfl))<|Dd aE<|Dd (by exact eQ rfl bV d6 rfl (show IntKind.u64.wrap (n:Int)=(n:Int)by rw [IntKind.wrap_u64];omega))<|Dd (by exact aB rfl rfl call132 rfl (hmul _))<|Dd aE<|Dd eB<|Dd eB<|Dd aS<|Dd aS<|Zz<|Sq<|Sq ?_;refine dA (t:=26) (n:=7) (X:=false) ?_ ?_
 ·all_goals refine Dd aE ?_
  all_goals refine Dd yZ<|Dm ?_
  all_goals refine Sp 23 (fun h23=>?_) fun h23=>?_
  all_goals try contradiction
  all_goals refine On aE<|On yZ<|Dd gL<|Zz ?_
  all_goals(exact⟨⟨_,rfl,by simp;omega⟩,rfl,rfl,rfl⟩)
 refine Cn ?_ ?_<;>intro hc2
 ·cases hc2
 refine aG<|Sr<|Dd aE<|Dd (by exact eQ rfl d6 bV rfl (g9 (by omega) (by omega)))<|Dd (by exact jC (id:=960) rfl bR D7 WD rfl rfl rfl (by omega) (by omega) (by exact XO _) (by exact XO _) (by omega) rfl)<|Dd aS<|Zz<|Sr<|Dd aE<|Dd aE<|Dd (by exact LN (n:=min 1 n) rfl bR (wO rfl rfl rfl) rfl rfl rfl (XU _) (IJ (len:=1) (ps:=[[.str z]]) (k:=min 1 n) rfl (by decide) (by intro r hr;rw [XG] at hr;subst hr;rfl) rfl (by omega) rfl) (by intro r hr;obtain ⟨q,hq,rfl⟩:=List.mem_map.1 hr;have:=List.mem_of_mem_take hq;rw [XG] at this;subst this;rfl) (by rw [XD,XR];show min (min 1 n) 1=min 1 n;omega) rfl hz0)<|Dd aS<|Zz<|Sq<|aM ?_;refine bB (σ:=Nat) (fun m=>([(7,.osl 960 0 0 n),(8,iv (m:Int))],[(960,⟨0,1,9,gQ z m n⟩)])) (fun m=>m≤n∧(n=0∨0 < m)) (fun m=>n - m) (min 1 n) ⟨by omega,by omega⟩ ?_ ?_
 ·exact(bY.wk (Ea<|Eb<|trivial) (Hc zC<|trivial) trivial)
 rintro m ⟨hm,hm0⟩;refine Sq<|Sr<|Dd aE<|Dd aE<|Dd (by exact cV rfl aO rfl rfl rfl)<|Dd dG<|Zz ?_;refine Cn ?_ ?_<;>intro hc3
 ·have hlt:m < n:=by have:=W9 hc3;omega
  obtain ⟨j,hj⟩:∃ j,j=min m (n - m):=⟨_,rfl⟩;have hrows:=FV (z:=z) (j:=j) hm (by omega);have hrl:∀ r∈(gQ z m n).take j,r.length=1:=fun r hr=>by
   have:=List.mem_of_mem_take hr;rcases List.mem_append.1 this with h|h<;>rw [List.eq_of_mem_replicate h]<;>rfl
  have hfl:=JZ (z:=z) hm;refine aG<|aM<|bK follows<|Cr [] (fun _ _=>aE)<|Cr [960] (fun _ _=>aE)<|Cr [] (fun _ _=>aE)<|Cr [960] (fun H1 hH=>by exact fA (l:=m) (h:=n) rfl bR rfl ((hH 960 rfl).trans rfl) rfl rfl rfl rfl (by omega) (XJ _) (XV _) rfl)<|Cr [960] (fun _ _=>aE)<|Cr [] (fun _ _=>aE)<|Cr [960] (fun H1 hH=>by exact fA (l:=0) (h:=m) rfl bR rfl ((hH 960 rfl).trans rfl) rfl rfl rfl rfl (XU _) (by omega) rfl rfl)<|Cp [960] (fun H1 hH=>by exact LN (n:=j) rfl bR (wO rfl ((hH 960 rfl).trans rfl) rfl) ((hH 960 rfl).trans rfl) rfl rfl (by rw [hfl];omega) (EK (k:=j) rfl ((hH 960 rfl).trans rfl) rfl rfl (by omega) rfl) hrl (by rw [XR];show min j (gQ z m n).length=j;rw [hfl];omega) hj.symm hrows)<|Cr [960] (fun _ _=>kP)<|Cr [] (fun _ _=>aS)<|cM<|Kr ?_;refine⟨m+j,⟨by omega,by omega⟩,by omega,?_⟩;exact(bY.wk (Ea<|Eb<|trivial) (Hc zC<|trivial) trivial)
 have hge:m=n:=by have:=XA hc3;omega
 subst hge;have hfin:gQ z m m=cJ (List.replicate m z):=by rw [gQ,Nat.sub_self,List.replicate_zero,List.append_nil,cJ,List.map_replicate]
 refine a6<|Sr<|Dd aE<|Dd aS<|Zz<|aN ?_;refine a8 (H':=[]) (.inr rfl) rfl (aH rfl) (Fin.st1 (List.replicate m z) rfl rfl hfin (List.length_replicate).symm) ?_;exact Qq
theorem DS {d:DSt} {N m:Nat} (h:DInv d N m) (k a n ar fr:Nat) (b:Bool) (l:List (ByteArray×ByteArray×Nat)) (c:Nat) (hk:k < 5000) (har:ar < 2) (hfr:fr≤k) (hm:m+k < 1048576) :
  aK Tryz.prog 56 [.ref 1100 0 0 0,iv (ar:Int),iv (fr:Int)] (sH d (b6 k a n b) (bJ l c)) (fun r H'=>r=iv (iP d (2+ar*k+fr) (List.replicate (k - fr) zS)).1∧H'=sH (iP d (2+ar*k+fr) (List.replicate (k - fr) zS)).2 (b6 k a n (b||!decide ((iP d (2+ar*k+fr) (List.replicate (k - fr) zS)).1=0))) (bJ l c)):=by
 have hark:ar*k≤k:=by
  rcases(show ar=0∨ar=1 by omega)with e|e<;>subst e<;>omega
 have hpl:=vN d k a n ar fr b l c (by omega) (by omega) (by omega);have hw:=lN h k a n (2+ar*k+fr) b l c (List.replicate (k - fr) zS) (by rw [List.length_replicate];omega) (by omega);have hrp:=fun H=>IZ zS (k - fr) (by omega) H;obtain ⟨x,hx⟩:∃ x,x=iP d (2+ar*k+fr) (List.replicate (k - fr) zS):=⟨_,rfl⟩;rw [← hx] at hw ⊢;refine Bd func56 rfl ntmps56<|Sr<|Dd aS<|Zz<|Sq<|bK follows<|Cr [1100] (fun _ _=>aE)<|Cr [1100] (fun _ _=>aE)<|Cr [] (fun _ _=>aE)<|Cr [] (fun _ _=>aE)<|Cr [1000,1001,1002,1003,1100,1101] (fun H1 hH=>by exact aB rfl rfl WO rfl (fE hpl _ ⟨(hH 1000 rfl).trans rfl,(hH 1001 rfl).trans rfl,(hH 1002 rfl).trans rfl,(hH 1003 rfl).trans rfl,(hH 1100 rfl).trans rfl,(hH 1101 rfl).trans rfl,trivial⟩ (by simp;rfl)))<|Cr [] (fun H1 hH=>by exact aB rfl rfl nF rfl (mR _))<|Cr [] (fun H1 hH=>by exact bE [[.str zS]] rfl bR rfl rfl rfl rfl rfl (by simp))<|Cr [1100] (fun _ _=>aE)<|Cr [1100] (fun H1 hH=>by exact bM rfl rfl ((hH _ rfl).trans rfl) rfl)<|Cr [1100] (fun _ h=>fh p6 h)<|Cr [1100] (fun _ h=>lh aV h)<|Cr [] (fun _ _=>aE)<|Cr [] (fun H1 hH=>by exact dO rfl rfl rfl (show IntKind.i64.wrap ((k:Int) - (fr:Int))=((k - fr:Nat):Int)by rw [g9 (by omega) (by omega)];omega)) ?_;refine Cr [] (fun H1 hH=>by exact aB rfl rfl call106 rfl (hrp _)) ?_;refine bU (r:=⟨_,some [1000,1001,1002,1003,1100,1101],_⟩) (DStep.plain rfl (fun H1 hH=>by exact aB rfl rfl nE rfl (fV hw _ ⟨(hH 1000 rfl).trans rfl,(hH 1001 rfl).trans rfl,(hH 1002 rfl).trans rfl,(hH 1003 rfl).trans rfl,(hH 1100 rfl).trans rfl,(hH 1101 rfl).trans rfl,trivial⟩ (by simp;rfl)))) rfl ?_;refine Cr [1100] (fun _ _=>aS)<|cM<|Kr<|aN ?_;refine a8 (H':=(sH x.2 (b6 k a n (b||!decide (x.1=0))) (bJ l c))) (.inr rfl) rfl (aH rfl) (Fin.wk (by(simp;done)) (Hc (aF _ _ rfl rfl rfl)<|Hc (aC _ _)<|Hc (aL _ _ _)<|Hc (aJ _ _)<|Hc (bD rfl rfl)<|Hc (aQ _ _ _)<|trivial) ⟨rfl,rfl,rfl,rfl,rfl,rfl,trivial⟩) ?_;exact Qq
end Go.Proofs.YtmkgeogoojcciaaGreatDoor
namespace Go.Abs
section
section
variable {P:Program} {N:Nat} {o:Oper} {E:bI} {H:aA} {T kt et:TypeId} {x:Operand} {q gq:Nat} {oq:Ob}
theorem vW {w:World} {I:Nat→Prop} {ι:b9} {v:Value} (h:VRel w I ι H v (.pv .nilm)):v=.map none:=by cases h.pv_inv;rfl
theorem SL (ho:o.op=.call {callee:=.builtin .len,args:=#[x],argTypes:=#[T]}) (hT:P.underlying T=some (.map kt et)) (hx:aP E x=some (.pv .nilm)):bW P N o E H (.pv (.int .i64 0)) H :=.of_run fun a w I ι hr he=>by
  have hv:=vW (aD he hx);refine⟨.int .i64 0,?_,.pv (.int _ _)⟩;simp [execOp,ho,resolve,invoke,builtin,hv,Builtin.len_,run_underlying hT,goInt]
theorem AQ (ho:o.op=.range T x) (hT:P.underlying T=some (.map kt et)) (hx:aP E x=some (.pv .nilm)) (hq:H.get q=none) :
  bW P N o E H (.it q 0) ((q,⟨0,0,0,dV (.pv .nilm) 0 0 []⟩)::H):=by
 intro a w I ι _ _ hr he K Q hk;have hvx0:=aD he hx;have hvx:=vW hvx0;obtain ⟨k2,k3⟩:=Rel.placeX (H':=(q,⟨0,0,0,dV (.pv .nilm) 0 0 []⟩)::H) (id:=q) (cap:=1) (ob':=⟨0,0,0,dV (.pv .nilm) 0 0 []⟩) (x:=.mapIter none 0 #[] 0) (w':=w.alloc (.mapIter none 0 #[] 0)) hr rfl rfl rfl rfl
  (fun o ho=>by rw [hq] at ho;cases ho) (fun hnew hI hmono=>.inr (.inr (.inl ⟨rfl,w.heap.size,none,0,#[],0,by simp,hnew,hI,rfl,⟨_,_,_,rfl,.pv .nilm,.pv (.int _ _),.pv (.int _ _)⟩,fun i r hr'=>by simp [dV] at hr'⟩)))
  (get_cons_same _ _ _) (fun j hj=>get_cons_other _ _ hj)
 have hrun:(execOp a.eval o).run P w=.ok (.value (.pointer (some ⟨w.heap.size,0,none⟩))) (w.alloc (.mapIter none 0 #[] 0)):=by
  simp only [execOp,ho,hvx];simp [Instr.range,run_underlying hT]
 unfold Oper.wpW;rw [hrun];exact hk _ _ I _ _ _ ⟨rfl,rfl⟩ (.it ⟨0,0,0,dV (.pv .nilm) 0 0 []⟩ (get_cons_same _ _ _) (XJ _) rfl fun _=>⟨rfl,w.heap.size,by simp,rfl⟩) k2 k3
theorem FL (ho:o.op=.next x false) (hx:aP E x=some (.it q gq)) (hQ:H.get q=some oq) (hgq:oq.g=gq) (hrq:oq.rows=dV (.pv .nilm) 0 0 []) :
  LG P N o E H (fun r H'=>(r=.tup [.pv (.bool false)]∧H'=H∧True)∨∃ (i:Nat) (p:Nat),False∧True∧r=.tup [.pv (.bool true)]∧H'=H):=by
 intro a w I ι _ _ hr he K Q hk;obtain ⟨hsz,b,hι,hvx⟩:=FN (aD he hx) hQ hgq;obtain ⟨_,b',bm,since',seen',last',e1,e2,e3,e4,⟨m,n,k,z1,z2,z3,z4⟩,e6⟩:=(hr.obj q oq hQ).iter hsz hι;rw [hι] at e1;cases e1;rw [hrq] at z1;simp only [dV,List.getElem?_cons_zero,Option.some.injEq,List.cons.injEq,and_true] at z1;obtain ⟨rfl,rfl,rfl⟩:=z1;have hbm:=vW z2;cases hbm;have hrun:(Instr.next (.pointer (some ⟨b,0,none⟩)) false o.type).run P w=.ok (.tuple #[.bool false]) w:=by
  simp only [Instr.next,getObj,Sem.run_bind,Sem.run,e2,Result.andThen];rfl
 unfold Oper.wpW execOp;simp only [ho,hvx,Sem.run_bind,hrun,Result.andThen_ok,Sem.run_pure];refine hk _ _ I ι _ _ (.inl ⟨rfl,rfl,trivial⟩) (.tup rfl (fun i v c hv hc=>?_)) hr (Step.refl _ _ _ _)
 match i with
 | 0=>simp at hv hc;subst hv hc;exact .pv (.bool _)
 | i+1=>simp at hv
end
section
variable {ρ:Nat→Nat} (hρ:∀ i,ρ (ρ i)=i)
include hρ
theorem aK.renQ {P:Program} {f:FuncId} {args args':List AV} {H H':aA} {R:AV→aA→Prop} (h:aK P f args H R) (ha:kD ρ args=args') (hH:m7 ρ H=H') :
  aK P f args' H' (fun x K=>∃ x0 K0,R x0 K0∧x=EZ ρ x0∧K=m7 ρ K0):=by
 subst ha hH;intro I ι w vs hrel hl hv;have hrel':=hrel.ren hρ;rw [yI hρ] at hrel';have hl':vs.size=args.length:=by rw [hl,vJ,XD]
 refine(h I _ w vs hrel' hl' (fun i v a h1 h2=>?_)).mono ?_
 ·have:=(hv i v (EZ ρ a) h1 (by rw [vJ,XX,h2];rfl)).ren hρ
  rwa [yI hρ,(renL_renL hρ [a]).2 a (by simp)] at this
 rintro e w' ⟨x,K,I',ι',v,rfl,hR,k1,k2,k3⟩;have k3':=k3.ren hρ;have e1:(fun j=>(fun j=>ι (ρ j)) (ρ j))=ι:=by funext j;simp only [hρ]
 rw [e1] at k3';exact⟨_,_,I',_,v,rfl,⟨_,_,hR,rfl,rfl⟩,k1.ren hρ,k2.ren hρ,k3'⟩
end
end
end Go.Abs
namespace Go.Proofs.YtmkgeogoojcciaaGreatDoor
open Go.Proofs.Tryz
open Go.Abs
def cS:bN→ByteArray→Option ByteArray
 | [],_=>none
 | (k',v,_)::r,k=>if k'=k then some v else cS r k
theorem kT (k:ByteArray):∀ l:bN,cE l k=(cS l k).getD ⟨#[]⟩
 | []=>rfl
 | (k',v,n)::r=>by
  rw [cE,cS]
  split
  ·rfl
  exact kT k r
def fY:bN→ByteArray→ByteArray→Nat→bN
 | [],k,v,c=>[(k,v,c)]
 | (k',a,n)::r,k,v,c=>if k'=k then(k,v,n)::r else(k',a,n)::fY r k v c
def pY:bN→ByteArray→bN
 | [],_=>[]
 | (k',a,n)::r,k=>if k'=k then r else(k',a,n)::pY r k
def lB (l:bN) (k:ByteArray) (c:Nat):Nat:=if(cS l k).isSome then c else c+1
theorem kW (k v:ByteArray) (c:Nat):∀ l:bN,rI (bL l) k (sv v) c=bL (fY l k v c)
 | []=>rfl
 | (k',a,n)::r=>by
  show (if k'=k then(k,sv v,n)::bL r else(k',sv a,n)::rI (bL r) k (sv v) c)=bL (fY ((k',a,n)::r) k v c);rw [fY]
  split
  ·rfl
  rw [kW k v c r];rfl
theorem uU (k:ByteArray):∀ l:bN,rN (bL l) k=bL (pY l k)
 | []=>rfl
 | (k',a,n)::r=>by
  show (if k'=k then bL r else(k',sv a,n)::rN (bL r) k)=bL (pY ((k',a,n)::r) k);rw [pY]
  split
  ·rfl
  rw [uU k r];rfl
theorem sN (k:ByteArray):∀ l:bN,(kF (DB (bL l)) k).isSome=(cS l k).isSome
 | []=>rfl
 | (k',a,n)::r=>by
  show (if k'=k then some (sv a)else kF (DB (bL r)) k).isSome=(if k'=k then some a else cS r k).isSome
  split
  ·rfl
  exact sN k r
theorem mL (k:ByteArray) (c:Nat) (l:bN):wI (bL l) k c=lB l k c:=by rw [wI,lB,sN]
theorem uS (k v:ByteArray) (c:Nat) (k2:ByteArray):∀ l:bN,cS (fY l k v c) k2=if k=k2 then some v else cS l k2
 | []=>rfl
 | (k',a,n)::r=>by
  rw [fY];by_cases h:k'=k
  ·rw [XC h,cS,cS];subst h;by_cases h2:k'=k2
   ·rw [XC h2,XC h2]
   rw [XB h2,XB h2,XB h2]
  rw [XB h,cS,cS,uS k v c k2 r];by_cases h2:k'=k2
  ·rw [XC h2,XC h2,XB (fun e=>h (h2.trans e.symm))]
  rw [XB h2,XB h2]
def e9 (l:bN):Prop:=(l.map Prod.fst).Nodup
theorem gP {k:ByteArray}:∀ {l:bN},cS l k=none↔k∉l.map Prod.fst
 | []=>by simp [cS]
 | (k',a,n)::r=>by
  rw [cS,List.map_cons,XP,not_or];by_cases h:k'=k
  ·rw [XC h];exact⟨(fun h=>by cases h),fun h2=>absurd h.symm h2.1⟩
  rw [XB h,gP];exact⟨fun h2=>⟨fun e=>h e.symm,h2⟩,fun h2=>h2.2⟩
theorem oR (k v:ByteArray) (c:Nat):∀ l:bN,(fY l k v c).map Prod.fst=if(cS l k).isSome then l.map Prod.fst else l.map Prod.fst++[k]
 | []=>rfl
 | (k',a,n)::r=>by
  rw [fY,cS];by_cases h:k'=k
  ·rw [XC h,XC h];subst h;rfl
  rw [XB h,XB h,List.map_cons,oR k v c r];cases (cS r k).isSome<;>rfl
theorem A1 {l:bN} (h:e9 l) (k v:ByteArray) (c:Nat):e9 (fY l k v c):=by
 rw [e9,oR];cases e:cS l k with
 | some x=>exact h
 | none =>
  have hn:=gP.1 e;exact List.nodup_append.2 ⟨h,by simp,fun a ha b hb e2=>by rw [XG] at hb;subst hb;subst e2;exact hn ha⟩
theorem C1 (k v:ByteArray) (c:Nat):∀ l:bN,(fY l k v c).map (fun p=>p.2.2)=if(cS l k).isSome then l.map (fun p=>p.2.2)else l.map (fun p=>p.2.2)++[c]
 | []=>rfl
 | (k',a,n)::r=>by
  rw [fY,cS];by_cases h:k'=k
  ·rw [XC h,XC h];rfl
  rw [XB h,XB h,List.map_cons,C1 k v c r];cases (cS r k).isSome<;>rfl
theorem L5 {l:bN} {c:Nat}:dR l c↔(l.map fun p=>p.2.2).Pairwise (· < ·)∧∀ n∈l.map (fun p=>p.2.2),n < c:=by rw [dR];refine and_congr_right fun _=>⟨fun h n hn=>?_,fun h p hp=>h _ (List.mem_map.2 ⟨p,hp,rfl⟩)⟩;obtain ⟨p,hp,rfl⟩:=List.mem_map.1 hn;exact h p hp
theorem A0 {l:bN} {c:Nat} (h:dR l c) (k v:ByteArray):dR (fY l k v c) (lB l k c):=by
 rw [L5,C1,lB];have h:=L5.1 h;cases cS l k with
 | some x=>exact h
 | none =>
  refine⟨List.pairwise_append.2 ⟨h.1,by simp,fun a ha b hb=>by rw [XG] at hb;subst hb;exact h.2 a ha⟩,fun n hn=>?_⟩;show n < c+1;rcases List.mem_append.1 hn with h1|h1
  ·have:=h.2 n h1;omega
  rw [XG] at h1;omega
theorem nW (k:ByteArray):∀ l:bN,(pY l k).Sublist l
 | []=>.slnil
 | (k',a,n)::r=>by
  rw [pY]
  split
  ·exact List.sublist_cons_self _ _
  exact(nW k r).cons_cons _
theorem HL {l:bN} (h:e9 l) (k:ByteArray):e9 (pY l k):=h.sublist ((nW k l).map _)
theorem Q4 {l:bN} {c:Nat} (h:dR l c) (k:ByteArray):dR (pY l k) c:=⟨h.1.sublist ((nW k l).map _),fun p hp=>h.2 p ((nW k l).subset hp)⟩
theorem HI (k k2:ByteArray):∀ {l:bN},e9 l→cS (pY l k) k2=if k=k2 then none else cS l k2
 | [],_=>by rw [pY,cS];split<;>rfl
 | (k',a,n)::r,hnd=>by
  have hn:k'∉r.map Prod.fst∧e9 r:=List.nodup_cons.1 hnd;rw [pY];by_cases h:k'=k
  ·subst h;rw [XC rfl,cS];by_cases h2:k'=k2
   ·subst h2;rw [XC rfl];exact gP.2 hn.1
   rw [XB h2,XB h2]
  rw [XB h,cS,cS,HI k k2 hn.2];by_cases h2:k'=k2
  ·rw [XC h2,XC h2,XB (fun e=>h (h2.trans e.symm))]
  rw [XB h2,XB h2]
def fN:bN→Nat→bN→bN×Nat
 | l,c,[]=>(l,c)
 | l,c,(k,v,_)::r=>fN (fY l k v c) (lB l k c) r
theorem yM (k v:ByteArray) (n:Nat):∀ (ps l:bN) (c:Nat),fN l c (ps++[(k,v,n)])=(fY (fN l c ps).1 k v (fN l c ps).2,lB (fN l c ps).1 k (fN l c ps).2)
 | [],l,c=>rfl
 | (k',a,m)::r,l,c=>yM k v n r _ _
theorem G6:∀ (ps l:bN) (c:Nat),dR l c→e9 l→dR (fN l c ps).1 (fN l c ps).2∧e9 (fN l c ps).1
 | [],l,c,h1,h2=>⟨h1,h2⟩
 | (k,v,n)::r,l,c,h1,h2=>G6 r _ _ (A0 h1 k v) (A1 h2 k v c)
theorem MP (k2:ByteArray):∀ (ps l:bN) (c:Nat),e9 ps→cS (fN l c ps).1 k2=(cS ps k2).orElse fun _=>cS l k2
 | [],l,c,_=>rfl
 | (k,v,n)::r,l,c,h=>by
  have hn:k∉r.map Prod.fst∧e9 r:=List.nodup_cons.1 h;show cS (fN (fY l k v c) (lB l k c) r).1 k2=_;rw [MP k2 r _ _ hn.2,uS,cS];by_cases h2:k=k2
  ·subst h2;rw [XC rfl,XC rfl,gP.2 hn.1];rfl
  rw [XB h2,XB h2]
theorem NG {a b:bN} (h:a.Perm b) (k:ByteArray):e9 a→cS a k=cS b k:=by
 induction h with
 | nil=>exact fun _=>rfl
 | cons x h ih =>
  obtain ⟨k',v,n⟩:=x;intro hn;rw [cS,cS,ih (List.nodup_cons.1 hn).2]
 | swap x y l =>
  obtain ⟨k1,v1,n1⟩:=x;obtain ⟨k2,v2,n2⟩:=y;intro hn;rw [cS,cS,cS,cS];by_cases e1:k2=k
  ·by_cases e2:k1=k
   ·exact absurd (e1.trans e2.symm) (by have:=(List.nodup_cons.1 hn).1;intro e;subst e;exact this (XP.2 (.inl rfl)))
   rw [XC e1,XB e2,XC e1]
  rw [XB e1,XB e1]
 | trans h1 h2 ih1 ih2=>exact fun hn=>(ih1 hn).trans (ih2 ((h1.map _).nodup_iff.1 hn))
def gI (l:bN) (s:List Nat):bN:=s.filterMap fun i=>l[i]?
theorem tQ {l:bN} {s:List Nat} {i:Nat} {p:ByteArray×ByteArray×Nat} (h:l[i]?=some p):gI l (s++[i])=gI l s++[p]:=by rw [gI,gI,List.filterMap_append,List.filterMap_cons,h];rfl
theorem AC:∀ l:bN,gI l (List.range l.length)=l:=fun l=>by
 refine List.ext_getElem? fun i=>?_;have h:∀ n,n≤l.length→gI l (List.range n)=l.take n:=by
  intro n
  induction n with
  | zero=>intro _;rfl
  | succ n ih =>
   intro hn;rw [List.range_succ,tQ (XI (show n < l.length by omega)),ih (by omega),List.take_add_one,XI (show n < l.length by omega)];rfl
 rw [h _ (XJ _),List.take_length]
theorem E8 {l:bN} {s:List Nat} (hd:s.Nodup) (hb:∀ i,i∈s→i < l.length) (ha:∀ i,i < l.length→i∈s):(gI l s).Perm l:=by have hp:s.Perm (List.range l.length):=(List.perm_ext_iff_of_nodup hd List.nodup_range).2 fun i=>⟨fun h=>List.mem_range.2 (hb i h),fun h=>ha i (List.mem_range.1 h)⟩;have:=hp.filterMap (fun i=>l[i]?);rw [show (List.range l.length).filterMap (fun i=>l[i]?)=l from AC l] at this;exact this
theorem wH {id:Nat} {o:Ob} {H:aA} (h:H.get id=some o) (j:Nat):aA.get ((id,o)::H) j=H.get j:=by
 by_cases e:j=id
 ·subst e;rw [h];exact get_cons_same _ _ _
 exact get_cons_other _ _ e
abbrev pO (l:bN) (c:Nat) (ps:bN):Ob:=bJ (fN l c ps).1 (fN l c ps).2
theorem U2 (l l2:bN) (c c2:Nat) (H:aA) (hl2:l2.length < 1099511627776) (hst:dR l2 c2) (h0:H.get 1101=some (bJ l c)) (h1:H.get 950=some (bJ l2 c2)) (h6:H.get 946=none) (hcl:bF H) :
  aK Tryz.prog 104 [.mp 1101 0,.mp 950 0] H (fun r H'=>r=.tup []∧∃ ps,ps.Perm l2∧H'=(1101,pO l c ps)::H):=by
 have g1:∀ o o2,aA.get ((946,o)::(1101,o2)::H) 950=some (bJ l2 c2):=fun o o2=>by rw [get_cons_other _ _ (by decide),get_cons_other _ _ (by decide)];exact h1
 have g2:∀ o o2,aA.get ((946,o)::(1101,o2)::H) 1101=some o2:=fun o o2=>by rw [get_cons_other _ _ (by decide)];exact get_cons_same _ _ _
 refine Bd func104 rfl ntmps104<|Sr<|Dd aE<|Dd (by exact uV (q:=946) (κ:=eE) (l:=bL l2) rfl aT rfl h1 rfl rfl rfl h6)<|Zz<|aM ?_;refine bB (σ:=List Nat) (fun s=>([(0,.mp 1101 0),(7,.it 946 0)],(946,uT 950 l2 c2 s)::(1101,pO l c (gI l2 s))::H)) (fun s=>s.Nodup∧∀ i,i∈s→i < l2.length) (fun s=>l2.length - s.length) [] ⟨List.nodup_nil,by simp⟩ ?_ ?_
 ·exact bY.get' ⟨⟨_,rfl,rfl⟩,⟨_,rfl,rfl⟩,trivial⟩ (fun j=>by
   by_cases e:j=946
   ·subst e;rw [get_cons_same];exact(get_cons_same _ _ _).symm
   rw [get_cons_other _ _ e,get_cons_other _ _ e];exact wH h0 j)
 rintro s ⟨hd,hb⟩;have hsl:s.length≤l2.length:=gO _ _ hd hb;refine Sq<|Rg ?_;refine iJ rfl rfl (A8 (κ:=eE) (l:=bL l2) rfl rfl (get_cons_same _ _ _) rfl rfl (g1 _ _) rfl rfl rfl (XJ _) (XJ _)) ?_;rintro _ _ (⟨rfl,rfl,hn0⟩|⟨hni,hnp,hn1,hn2,rfl,rfl⟩)
 ·refine Dd eB<|Zz<|Sq ?_;refine Cn ?_ ?_<;>intro hc1
  ·cases hc1
  refine a6 ?_;have hall:∀ i,i < l2.length→i∈s:=fun i hi=>by
   have hq:(bL l2)[i]?=some ((l2[i]).1,sv (l2[i]).2.1,(l2[i]).2.2):=by rw [bL,XX,XI hi];rfl
   have:=hn0 _ (XN hq);obtain ⟨j,hj,e⟩:=List.mem_map.1 this;have e2:gH l2 j=gH l2 i:=by
    rw [e,gH,XI hi];rfl
   have:=zW hst (hb j hj) hi e2
   rwa [this] at hj
  exact iQ (H':=(1101,pO l c (gI l2 s))::H) (.inl rfl) rfl (Fin.pops' [(946,uT 950 l2 c2 s)] (by simp) (bF.app (D:=[(1101,pO l c (gI l2 s))]) (j0.spec ⟨aQ _ _ _,trivial⟩) hcl) (by simp [get_cons_other,h6]) (by simp [get_cons_other,h6])) ⟨rfl,_,E8 hd hb hall,rfl⟩
 obtain ⟨p,hp,rfl⟩:=oQ hn1;have hlt:hni < l2.length:=(XH.1 hp).1;have hst2:gH l2 hni=p.2.2:=by rw [gH,hp];rfl
 have hn3:hni∉s:=fun hm=>hn2 (List.mem_map.2 ⟨hni,hm,hst2⟩);have hb2:∀ i,i∈s++[hni]→i < l2.length:=fun i hi=>by
  rcases List.mem_append.1 hi with h|h
  ·exact hb i h
  rw [XG] at h;omega
 have hd2:(s++[hni]).Nodup:=List.nodup_append.2 ⟨hd,by simp,fun a ha b hb e=>by rw [XG] at hb;subst hb;subst e;exact hn3 ha⟩;have hlen:=gO _ _ hd2 hb2;rw [XE,List.length_singleton] at hlen;have hit:uT 950 l2 c2 (s++[hni])=⟨0,0,0,dV (.mp 950 0) c2 c2 (s.map (gH l2)++[p.2.2])⟩:=by rw [uT,List.map_append,List.map_cons,List.map_nil,hst2]
 have hpk:pO l c (gI l2 (s++[hni]))=⟨0,0,lB (fN l c (gI l2 s)).1 p.1 (fN l c (gI l2 s)).2,fC eE (bL (fY (fN l c (gI l2 s)).1 p.1 p.2.1 (fN l c (gI l2 s)).2))⟩:=by rw [pO,tQ hp,yM]
 refine Dd eB<|Zz<|Sq ?_;refine Cn ?_ ?_<;>intro hc2
 ·refine aG<|aM<|Sr<|Dd (by exact uW (κ:=eE) (seen:=s.map (gH l2)) (p:=(p.1,sv p.2.1,p.2.2)) (since:=c2) rfl rfl (get_cons_same _ _ _) rfl rfl ((get_cons_other _ _ (by decide)).trans (g1 _ _)) rfl rfl rfl hn1)<|Dd eB<|Dd eB<|Dd aS<|Dd aS<|Zz<|Rg<|Dd aE<|Dd aE<|Dd aE<|Uu (by exact fZ (κ:=eE) (l:=bL (fN l c (gI l2 s)).1) (.inl rfl) aT aI rfl ((get_cons_other _ _ (by decide)).trans (g2 _ _)) rfl rfl rfl rfl rfl (kW _ _ _ _) (mL _ _ _))<|Zz ?_;refine⟨s++[hni],⟨hd2,hb2⟩,by rw [XE,List.length_singleton];omega,?_⟩;rw [hit,hpk];exact bY.get' ⟨⟨_,rfl,rfl⟩,⟨_,rfl,rfl⟩,trivial⟩ (fun j=>lV [_,_] [_,_,_,_] (by repeat(first|exact trivial|refine⟨rfl,?_⟩)) j)
 cases hc2
def g7 (l:bN) (P:List ByteArray):bN:=P.foldl pY l
theorem sV {l:bN} {P:List ByteArray} {k:Nat} {s:ByteArray} (h:P[k]?=some s):g7 l (P.take (k+1))=pY (g7 l (P.take k)) s:=by rw [g7,g7,cR h,List.foldl_append];rfl
theorem uZ:∀ (P:List ByteArray) (l:bN) (c:Nat),dR l c→e9 l→dR (g7 l P) c∧e9 (g7 l P)
 | [],l,c,h1,h2=>⟨h1,h2⟩
 | k::r,l,c,h1,h2=>uZ r _ c (Q4 h1 k) (HL h2 k)
theorem F0 (k2:ByteArray):∀ (P:List ByteArray) (l:bN),e9 l→cS (g7 l P) k2=if RB P k2=true then none else cS l k2
 | [],l,_=>by rw [XB (fun h=>by have:=gD.1 h;cases this)];rfl
 | k::r,l,h=>by
  show cS (g7 (pY l k) r) k2=_;rw [F0 k2 r _ (HL h k),HI k k2 h];by_cases h1:RB r k2=true
  ·rw [XC h1,XC (gD.2 (XP.2 (.inr (gD.1 h1))))]
  rw [XB h1];by_cases h2:k=k2
  ·rw [XC h2,XC (gD.2 (XP.2 (.inl h2.symm)))]
  rw [XB h2,XB (fun hm=>by rcases XP.1 (gD.1 hm)with e|e;exact h2 e.symm;exact h1 (gD.2 e))]
theorem O2 (l l2:bN) (c c2:Nat) (P:List ByteArray) (H:aA) (hl2:l2.length < 1099511627776) (hP:P.length < 1099511627776) (hst:dR l2 c2) (h0:H.get 1101=some (bJ l c)) (h1:H.get 950=some (bJ l2 c2)) (h6:H.get 946=none) (hcl:bF H) :
  aK Tryz.prog 53 [.mp 1101 0,.mp 950 0,.pv (aW P)] H (fun r H'=>r=.tup []∧∃ ps,ps.Perm l2∧H'=(1101,bJ (g7 (fN l c ps).1 P) (fN l c ps).2)::H):=by
 have hml:(P.map encStr).length=P.length:=XD _;refine Bd func53 rfl ntmps53<|Sr<|Dd aE<|Dm ?_;refine iJ rfl rfl (aB rfl rfl call104 rfl (U2 l l2 c c2 H hl2 hst h0 h1 h6 hcl)) ?_;rintro r H' ⟨rfl,ps,hps,rfl⟩;refine Zz<|Sr<|Dd aE<|Dd (jW aO)<|Dd aE<|Zz<|aM ?_;refine bB (σ:=Nat) (fun k=>([(0,.mp 1101 0),(11,.pv (aW P)),(12,iv ((P.map encStr).length:Int)),(13,iv (k:Int))],(1101,bJ (g7 (fN l c ps).1 (P.take k)) (fN l c ps).2)::H)) (fun k=>k≤P.length) (fun k=>P.length - k) 0 (XU _) ?_ ?_
 ·exact E0
 intro k hk;refine Sr<|Dd dG<|Zz<|Sq ?_;refine Cn ?_ ?_<;>intro hc1
 ·have hlt:k < P.length:=by have:=W9 hc1;omega
  obtain ⟨s,hs⟩:=aY hlt;have hi:=cG (f:=encStr) hs;refine aG<|Sq<|aM<|Sr<|Dd (BY bR)<|Dd (kG aU)<|Dd aS<|Zz<|Rg<|Dd aE<|Dd aE<|Uu (by exact wJ (κ:=eE) (l:=bL (g7 (fN l c ps).1 (P.take k))) rfl aT aI rfl (get_cons_same _ _ _) rfl rfl rfl rfl (uU s _))<|Zz<|Rg<|Dd kP<|Dd aE<|Zz ?_;refine⟨k+1,by omega,by omega,?_⟩;rw [sV hs];exact bY.get' ⟨⟨_,rfl,rfl⟩,⟨_,rfl,rfl⟩,⟨_,rfl,rfl⟩,⟨_,rfl,by rfl⟩,trivial⟩ (fun j=>gE _ _ _ _ j)
 have hge:k=P.length:=by have:=XA hc1;omega
 subst hge;rw [List.take_length];refine a6 ?_;exact iQ (H':=(1101,bJ (g7 (fN l c ps).1 P) (fN l c ps).2)::H) (.inl rfl) rfl Fin.refl ⟨rfl,ps,hps,rfl⟩
end Go.Proofs.YtmkgeogoojcciaaGreatDoor
section
namespace Go.Abs
open Go.Lib
theorem oE:∀ (l:List UInt8) (a:Nat),decFrom a l=(decFrom 0 l).map fun n=>a*10 ^ l.length+n
 | [],a=>by simp [decFrom]
 | b::r,a=>by
  rw [decFrom,decFrom];cases h:digitVal b with
  | none=>rfl
  | some d =>
   show decFrom (a*10+d) r=(decFrom (0*10+d) r).map _;rw [oE r (a*10+d),oE r (0*10+d),Option.map_map];congr 1;funext n;show (a*10+d)*10 ^ r.length+n=a*10 ^ (r.length+1)+((0*10+d)*10 ^ r.length+n);rw [Nat.pow_succ];obtain ⟨p,hp⟩:∃ p,p=10 ^ r.length:=⟨_,rfl⟩;rw [← hp,Nat.add_mul,Nat.mul_assoc,Nat.mul_comm 10 p,Nat.zero_mul,XV];omega
theorem rQ (l:List UInt8):∀ z,decFrom 0 (List.replicate z 48++l)=decFrom 0 l
 | 0=>rfl
 | z+1=>by
  have h48:digitVal 48=some 0:=by decide
  rw [List.replicate_succ,List.cons_append,decFrom,h48];exact rQ l z
theorem tX (b:List UInt8):∀ (a:List UInt8) (n:Nat),decFrom n (a++b)=(decFrom n a).bind fun x=>decFrom x b
 | [],n=>rfl
 | c::a,n=>by
  rw [List.cons_append,decFrom,decFrom];cases h:digitVal c with
  | none=>rfl
  | some d=>exact tX b a _
theorem KW {l:List UInt8} {u:Nat} (hne:l≠[]) (hm:∀ b∈l,48≤b.toNat∧b.toNat≤57) (hd:decFrom 0 l=some u):atoi l=some (u:Int):=by
 cases l with
 | nil=>exact absurd rfl hne
 | cons b r =>
  have hb:=hm b List.mem_cons_self;have e2:decNat (b::r)=some u:=by rw [decNat,hd];rfl
  have h43:¬ (b == 43)=true:=fun h=>by rw [beq_iff_eq] at h;rw [h] at hb;exact absurd hb.1 (by decide)
  have h45:¬ (b == 45)=true:=fun h=>by rw [beq_iff_eq] at h;rw [h] at hb;exact absurd hb.1 (by decide)
  rw [atoi,XB h45,XB h43,e2];rfl
theorem BO {l:List UInt8} {u:Nat} (hl:l.length≤18) (hne:l≠[]) (hm:∀ b∈l,48≤b.toNat∧b.toNat≤57) (hd:decFrom 0 l=some u):atoiAll l=.ok (u:Int):=by rw [atoiAll_short _ hl,KW hne hm hd];rfl
end Go.Abs
namespace Go.Proofs.YtmkgeogoojcciaaGreatDoor
open Go.Proofs.Tryz
open Go.Abs Go.Lib
instance memDecZ (k:ByteArray) (l:List ByteArray):Decidable (k∈l):=decidable_of_iff _ gD
theorem rW {l:List UInt8} {u:Nat} (hl:l.length≤18) (hne:l≠[]) (hm:∀ b∈l,48≤b.toNat∧b.toNat≤57) (hd:decFrom 0 l=some u):gG (ofL l)=false∧cW (ofL l)=(u:Int):=by
 have h:=BO hl hne hm hd;constructor
 ·rw [gG,bA,h]
 rw [cW,oH,bA,h]
theorem FY {n w:Nat} {b:UInt8} (h:b∈dg n w):48≤b.toNat∧b.toNat≤57:=by
 rw [dg] at h;rcases List.mem_append.1 h with h|h
 ·rw [List.eq_of_mem_replicate h];decide
 exact mM n h
theorem SP (n w:Nat):dg n w≠[]:=by rw [dg];intro h;exact mO n (List.append_eq_nil_iff.1 h).2
theorem FZ (n w:Nat):decFrom 0 (dg n w)=some n:=by rw [dg,rQ,kJ]
theorem NP (place a n:Nat) (ha:a < 10) (hn:n < 10000000):(hS place a n).extract 16 24=ofL (dg a 1++dg n 7):=i8 (by
 have h8:(dg a 1++dg n 7).length=8:=by rw [XE,jP (mZ a (by omega) (by omega)),jP (mZ n (by omega) (by omega))]
 rw [eS,bA,bA,yY,mW,oY,List.drop_left' (qM _),List.take_left' h8])
theorem NO (place a n:Nat) (ha:a < 10) (hn:n < 10000000):gG ((hS place a n).extract 16 24)=false∧cW ((hS place a n).extract 16 24)=((a*10000000+n:Nat):Int):=by
 have h7:(dg n 7).length=7:=jP (mZ n (by omega) (by omega));have h8:(dg a 1++dg n 7).length=8:=by rw [XE,jP (mZ a (by omega) (by omega)),h7]
 rw [NP place a n ha hn];refine rW (by omega) (fun h=>SP a 1 (List.append_eq_nil_iff.1 h).1) (fun b hb=>?_) ?_
 ·rcases List.mem_append.1 hb with h|h
  ·exact FY h
  exact FY h
 rw [tX,FZ,Option.bind_some,oE,FZ,h7];rfl
theorem NN {k place a n:Nat} (ha:a < 2) (hn:n≤k) (hk:k < 10000000):nP (hS place a n)=a∧nO (hS place a n)=n∧jR k place (hS place a n)=true:=by
 obtain ⟨h1,h2⟩:=NO place a n (by omega) (by omega);have hb:kE (hS place a n)=false:=by
  rw [kE,h1,h2,Bool.false_or];exact decide_eq_false (by omega)
 have hu:I7 (hS place a n)=a*10000000+n:=by rw [I7,h2,XO]
 have hA:nP (hS place a n)=a:=by rw [nP,hb,XB (by decide),hu];omega
 have hN:nO (hS place a n)=n:=by rw [nO,hb,XB (by decide),hu];omega
 refine⟨hA,hN,?_⟩;rw [jR,hb,hA,hN,decide_eq_true ha,decide_eq_true hn,decide_eq_true rfl];rfl
theorem JB (place:Nat) {p:List UInt8} (h2:p.length≤46):(ofL (eF place p)).extract 16 18=ofL (dg p.length 2)∧(ofL (eF place p)).extract 18 (18+p.length)=ofL p:=by
 have hd:(dg p.length 2).length=2:=jP (mZ _ (by omega) (by omega));have e:(eF place p).drop 16=dg p.length 2++(p++zB (48 - (dg p.length 2++p).length)):=by rw [eF,mW,oY,List.drop_left' (qM _),List.append_assoc]
 have e2:(eF place p).drop 18=p++zB (48 - (dg p.length 2++p).length):=by
  rw [show 18=16+2 from rfl,← List.drop_drop,e,List.drop_left' hd]
 constructor
 ·refine i8 ?_;rw [eS,bA,bA,e];exact List.take_left' hd
 refine i8 ?_;rw [eS,bA,bA,e2,show 18+p.length - 18=p.length by omega,List.take_left]
theorem MS {place:Nat} {p:List UInt8} (h1:1≤p.length) (h2:p.length≤46):CO place (ofL (eF place p))=ofL p:=by
 obtain ⟨c1,c2⟩:=JB place h2;have hd:(dg p.length 2).length=2:=jP (mZ _ (by omega) (by omega));obtain ⟨n1,n2⟩:=rW (l:=dg p.length 2) (u:=p.length) (by omega) (SP _ _) (fun b=>FY) (FZ _ _);have hb:yP (ofL (eF place p))=false:=by
  rw [yP,c1,n1,n2,Bool.false_or,decide_eq_false (by omega),decide_eq_false (by omega)];rfl
 have hp:MT (ofL (eF place p))=ofL p:=by rw [MT,c1,n2,XO,c2]
 rw [CO,hb,XB (by decide),hp,bA,XC rfl]
theorem CN (t:List UInt8):∀ i,(List.range i).flatMap (fF t)=t.take (46*i)
 | 0=>by rw [List.range_zero,Nat.mul_zero,List.take_zero];rfl
 | i+1=>by
  rw [List.range_succ,List.flatMap_append,CN t i,List.flatMap_cons,List.flatMap_nil,List.append_nil,fF,Nat.mul_succ];exact(List.take_add ..).symm
theorem G8 (t:List UInt8):((List.range (cT t)).map (fF t)).flatten=t:=by rw [← List.flatMap_def,CN,List.take_of_length_le (by rw [cT];omega)]
theorem CP {t:List UInt8} {i:Nat} (h:i < cT t):1≤(fF t i).length∧(fF t i).length≤46:=by rw [lR];rw [cT] at h;omega
theorem dL (x:ByteArray) (L:List ByteArray):aR (x::L)=decDigits x.size++58::(x.data.toList++aR L):=by
 have h1:aR (x::L)=(mE x).data.toList++aR L:=by rw [aR,List.flatMap_cons];rfl
 rw [h1,mE,ByteArray.data_append,Array.toList_append,ByteArray.data_append,Array.toList_append,j5];simp
theorem N5 (n:Nat):(58:UInt8)∉decDigits n:=fun h=>by
 have:=mM n h;exact absurd this.2 (by decide)
theorem J5 {x:ByteArray} (L:List ByteArray) (hx:x.size < 1000000000000000000):pI (aR (x::L))=false∧HT (aR (x::L))=x.size∧tY (aR (x::L))=x.data.toList++aR L:=by
 obtain ⟨e1,e2⟩:=OD (r:=x.data.toList++aR L) (N5 x.size);rw [← dL] at e1 e2;obtain ⟨n1,n2⟩:=rW (l:=decDigits x.size) (u:=x.size) (dK (k:=18) (by omega) (by decide)) (mO _) (fun b=>mM _) (kJ _);have hm:(58:UInt8)∈aR (x::L):=by rw [dL];simp
 have hi:dD (x.size:Int)=ofL (decDigits x.size):=i8 (by rw [bA,j5]);refine⟨?_,?_,e2⟩
 ·rw [pI,e1,e2,n1,n2,decide_eq_true hm,hi,decide_eq_true rfl,decide_eq_false (by omega),decide_eq_false (by rw [XE,dB];omega)];rfl
 rw [HT,e1,n2,XO]
theorem pB:∀ (L acc:List ByteArray),(∀ x∈L,x.size < 1000000000000000000)→eT (aR L).length (aR L) acc=(acc++L,true)
 | [],acc,_=>by rw [List.append_nil];rfl
 | x::L,acc,h=>by
  obtain ⟨h1,h2,h3⟩:=J5 L (h x List.mem_cons_self);have hne:aR (x::L)≠[]:=by rw [dL];simp
  rw [tL hne h1,h2,h3,List.drop_left' (dB x),List.take_left' (dB x),FG,pB L _ (fun y hy=>h y (List.mem_cons_of_mem _ hy)),List.append_assoc];rfl
theorem pC {L:List ByteArray} (h:∀ x∈L,x.size < 1000000000000000000):dX (aR L)=(L,true):=by rw [dX,pB L [] h,List.nil_append]
theorem C4 (A B:List ByteArray):aR (A++B)=aR A++aR B:=List.flatMap_append
end Go.Proofs.YtmkgeogoojcciaaGreatDoor
end
namespace Go.Proofs.YtmkgeogoojcciaaGreatDoor
open Go.Proofs.Tryz
open Go.Abs
theorem NK (s:ByteArray) (H:aA):aK Tryz.prog 172 [sv s] H (fun r H'=>r=bv false∧H'=H):=by refine Pu ?_;refine Bd func172 rfl ntmps172<|Sr<|Dd aS<|Zz<|Sr<|Dd aE<|Dd aE<|Dd MA<|Dd aS<|Zz<|aN<|Rt ?_;exact⟨by simp,rfl⟩
theorem Q1 (s t:ByteArray) (H:aA):aK Tryz.prog 146 [sv s,sv t] H (fun r H'=>r=bv (jU s t)∧H'=H):=by
 refine Pu ?_;refine Bd func146 rfl ntmps146<|Sr<|Dd aS<|Zz<|Sq ?_;refine dA (t:=4) (n:=15) (X:=jU s t) ?_ ?_
 ·all_goals refine Dd aE ?_
  all_goals refine Dd (by exact aB rfl rfl call172 rfl (NK _ _))<|Dm ?_
  all_goals refine Sp 7 (fun h7=>?_) fun h7=>?_
  all_goals try contradiction
  all_goals refine Fo<|Fo<|Fo<|Dd gL<|Dm ?_
  all_goals refine Sp 12 (fun h12=>?_) fun h12=>?_
  all_goals try contradiction
  all_goals refine On aE<|On aE<|On (by exact CR rfl rfl rfl)<|Dd gL<|Da ?_
  all_goals(exact⟨⟨_,rfl,by rfl⟩,rfl,rfl,rfl⟩)
 exact aN<|Rt<|Qq
def eN:List ByteArray→Bool
 | a::b::r=>!jU b a&&eN (b::r)
 | _=>true
theorem zY {a:ByteArray} {l:List ByteArray} (h:eN (a::l)=true):eN l=true:=by
 cases l with
 | nil=>rfl
 | cons b r=>exact(XM _ _▸h:_∧_).2
theorem qO:∀ (i:Nat) {l:List ByteArray},eN l=true→eN (l.drop i)=true
 | 0,_,h=>h
 | i+1,[],_=>rfl
 | i+1,a::l,h=>qO i (zY h)
theorem EN {l:List ByteArray} {k:Nat} {a b:ByteArray} (ha:l[k]?=some a) (hb:l[k+1]?=some b):eN (l.drop k)=(!jU b a&&eN (l.drop (k+1))):=by obtain ⟨h1,e1⟩:=XH.1 ha;obtain ⟨h2,e2⟩:=XH.1 hb;rw [List.drop_eq_getElem_cons h1,List.drop_eq_getElem_cons h2,e1,e2];rfl
theorem C5 (l:List ByteArray) (H:aA) (hl:l.length < 1099511627776):aK Tryz.prog 119 [.pv (aW l)] H (fun r H'=>r=bv (eN l)∧H'=H):=by
 refine Pu ?_;have hml:(l.map encStr).length=l.length:=XD _;refine Bd func119 rfl ntmps119<|Sr<|Dd aS<|Zz<|Sq<|Sr<|Dd aE<|Dd (jW aO)<|Dd (by exact dO rfl rfl rfl (show IntKind.i64.wrap (((l.map encStr).length:Int) - 1)=((l.map encStr).length:Int) - 1 by rw [IntKind.wrap_i64];omega))<|Dd aS<|Zz<|aM ?_;refine bB (σ:=Nat) (fun k=>([(0,.pv (aW l)),(3,iv ((k:Int) - 1))],[])) (fun k=>k≤l.length∧eN (l.drop (k - 1))=true) (fun k=>k) l.length ⟨XJ _,?_⟩ ?_ ?_
 ·have:(l.drop (l.length - 1)).length≤1:=by rw [XS];omega
  match l.drop (l.length - 1),this with
  | [],_=>rfl
  | [a],_=>rfl
 ·rw [hml];exact Wk
 rintro k ⟨hk,hs⟩;refine Sq<|Sr<|Dd aE<|Dd yZ<|Zz ?_;refine Cn ?_ ?_<;>intro hc1
 ·have hlt:2≤k:=by have:=W9 hc1;omega
  obtain ⟨m,rfl⟩:∃ m,k=m+2:=⟨k - 2,by omega⟩;obtain ⟨b,hb⟩:=aY (l:=l) (k:=m+1) (by omega);obtain ⟨a,ha⟩:=aY (l:=l) (k:=m) (by omega);have hib:=cG (f:=encStr) hb;have hia:=cG (f:=encStr) ha;have hat:=EN ha hb;rw [show m+2 - 1=m+1 by omega] at hs;rw [hs,Bool.and_true] at hat;refine aG<|Sq<|aM<|Sq<|bK follows<|Cq aE<|Cq aE<|Cq (by exact aZ (m:=m+1) rfl bR rfl rfl (by omega) (show (((m+2:Nat):Int) - 1).toNat=m+1 by omega) hib rfl)<|Cq (kG aU)<|Cq aE<|Cq aE<|Cq (by exact dO rfl rfl rfl (show IntKind.i64.wrap ((((m+2:Nat):Int) - 1) - 1)=((m:Nat):Int)by rw [IntKind.wrap_i64];omega))<|Cq (BY bR)<|Cq (kG aU)<|Cq (by exact aB rfl rfl call146 rfl (Q1 b a _))<|cM<|Kr ?_;refine Cn ?_ ?_<;>intro hc2
  ·have hlt2:jU b a=true:=hc2;have h0:eN l=false:=by
    rw [Bool.eq_false_iff];intro h;rw [qO m h,hlt2] at hat;cases hat
   rw [h0];exact Sr<|Dd aS<|Zz<|aN<|Rt<|Qq
  have hlt2:jU b a=false:=hc2;refine aG<|Rg<|Dd aE<|Dd (by exact dO rfl rfl rfl (show IntKind.i64.wrap ((((m+2:Nat):Int) - 1) - 1)=((m+1:Nat):Int) - 1 by rw [IntKind.wrap_i64];omega))<|Da ?_;refine⟨m+1,⟨by omega,?_⟩,by omega,?_⟩
  ·rw [show m+1 - 1=m by omega,hat,hlt2];rfl
  exact Wk
 have hge:k≤1:=by have:=XA hc1;omega
 have h0:eN l=true:=by rw [show k - 1=0 by omega] at hs;exact hs
 rw [h0];exact a6<|Sr<|Dd aS<|Zz<|aN<|Rt<|Qq
end Go.Proofs.YtmkgeogoojcciaaGreatDoor
section
namespace Go.Proofs.YtmkgeogoojcciaaGreatDoor
open Go.Proofs.Tryz
open Go.Abs
structure M3 where
 k:ByteArray
 b:ByteArray
 o:ByteArray
 t:ByteArray
end Go.Proofs.YtmkgeogoojcciaaGreatDoor
namespace Go.Abs
end Go.Abs
namespace Go.Proofs.YtmkgeogoojcciaaGreatDoor
open Go.Proofs.Tryz
open Go.Abs
end Go.Proofs.YtmkgeogoojcciaaGreatDoor
end
namespace Go.Proofs.YtmkgeogoojcciaaGreatDoor
open Go.Proofs.Tryz
open Go.Abs
theorem yD {α:Type} {l:List α} {k:Nat} {x:α} (h:l[k]?=some x):l.take (k+1)=l.take k++[x]:=by rw [List.take_add_one,h];rfl
theorem JU (l:List ByteArray) (s:ByteArray) (H:aA) (hl:l.length < 4611686018427387904):aK Tryz.prog 123 [.pv (aW l),sv s] H (fun r H'=>r=iv (NT (fun x=>decide (s=x)) l)∧H'=H):=by
 refine Pu ?_;have hml:(l.map encStr).length=l.length:=XD _;refine Bd func123 rfl ntmps123<|Sr<|Dd aS<|Zz<|Sq<|Sr<|Dd aE<|Dd (jW aO)<|Dd aE<|Zz<|aM ?_;refine bB (σ:=Nat) (fun k=>([(0,.pv (aW l)),(1,sv s),(7,iv ((l.map encStr).length:Int)),(8,iv (k:Int))],[])) (fun k=>k≤l.length∧∀ j,j < k→∀ b,l[j]?=some b→decide (s=b)=false) (fun k=>l.length - k) 0 ⟨by omega,by omega⟩ ?_ ?_
 ·exact E0
 rintro k ⟨hk,hno⟩;refine Sr<|Dd dG<|Zz<|Sq ?_;refine Cn ?_ ?_<;>intro hc1
 ·have hlt:k < l.length:=by have:=W9 hc1;omega
  obtain ⟨o,ho⟩:=aY hlt;have hi:=cG (f:=encStr) ho;refine aG<|Sq<|aM<|Sr<|Dd aE<|Dd aS<|Zz<|Sr<|Dd aE<|Dd aE<|Dd aE<|Dd (BY bR)<|Dd (kG aU)<|Dd S3<|Zz ?_;refine Cn ?_ ?_<;>intro hc2
  ·refine Sr<|Dd aE<|Dd aS<|Zz<|aN<|Rt ?_;exact⟨by rw [NT,J0 hno ho hc2],rfl⟩
  refine aG<|Rg<|Dd kP<|Dd aE<|Zz ?_;exact⟨k+1,⟨by omega,MQ hno ho hc2⟩,by omega,E0⟩
 have hge:k=l.length:=by have:=XA hc1;omega
 subst hge;refine a6<|Sr<|Dd aS<|Zz<|aN<|Rt ?_;exact⟨by rw [NT,J1 hno],rfl⟩
theorem RA (l:List ByteArray) (s:ByteArray):l.any (fun x=>decide (s=x))=RB l s:=by rw [RB];congr 1;funext x;rw [Bool.eq_iff_iff,XK,XK];exact eq_comm
theorem BJ (l:List ByteArray) (s:ByteArray) (H:aA) (hl:l.length < 4611686018427387904):aK Tryz.prog 92 [.pv (aW l),sv s] H (fun r H'=>r=bv (RB l s)∧H'=H):=by refine Pu ?_;refine Bd func92 rfl ntmps92<|Sr<|Dd aS<|Zz<|Sr<|Dd aE<|Dd aE<|Dd (by exact aB rfl rfl call123 rfl (JU l s _ hl))<|Dd RE<|Dd aS<|Zz<|aN<|Rt ?_;exact⟨by rw [NS,RA],rfl⟩
def m1 (p:M3):ByteArray×Bool:=if p.t=p.o then(p.o,false)else if p.t=p.b then(p.o,false)else if p.o=p.b then(p.t,false)else(p.b,true)
end Go.Proofs.YtmkgeogoojcciaaGreatDoor
