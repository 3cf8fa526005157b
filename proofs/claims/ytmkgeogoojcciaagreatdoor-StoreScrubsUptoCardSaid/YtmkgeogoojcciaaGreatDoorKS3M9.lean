/-
  Parts of the proof: rules of an abstract program logic, contracts of functions, plain laws. Conditions: each theorem's own.
-/
import Derived.Test.YtmkgeogoojcciaaGreatDoorKS3M8
set_option linter.unusedVariables false
set_option linter.unusedSimpArgs false
set_option maxRecDepth 100000
set_option maxHeartbeats 8000000
namespace Go.Proofs
theorem WW:type_of% Tryz.call11:=Tryz.call11
theorem BP:type_of% Tryz.call12:=Tryz.call12
theorem PX:type_of% Tryz.call13:=Tryz.call13
theorem nJ:type_of% Tryz.call14:=Tryz.call14
theorem WV:type_of% Tryz.call17:=Tryz.call17
theorem BO:type_of% Tryz.call21:=Tryz.call21
theorem PW:type_of% Tryz.call22:=Tryz.call22
theorem WU:type_of% Tryz.call23:=Tryz.call23
end Go.Proofs
namespace Go.Proofs.YtmkgeogoojcciaaGreatDoor
open Go.Proofs.Tryz
open Go.Abs Go.Lib
theorem KW {P:Program} {G0:aA} {N:Nat} {Q:Exit→bC→aA→Prop} {E:bC} {H:aA} {cc:Code} {α β γ δ ε ζ:Type} (S:α→β→γ→δ→ε→ζ→bC×aA) (J:α→β→γ→δ→ε→ζ→Prop) (μ:α→β→γ→δ→ε→ζ→Nat) (a0:α) (b0:β) (c0:γ) (d0:δ) (e0:ε) (z0:ζ) (h0:J a0 b0 c0 d0 e0 z0) (hin:bX G0 E H (S a0 b0 c0 d0 e0 z0).1 (S a0 b0 c0 d0 e0 z0).2)
  (round:∀ a b c d e z,J a b c d e z→fJ P G0 N cc (oL (fun E' H'=>∃ a' b' c' d' e' z',J a' b' c' d' e' z'∧μ a' b' c' d' e' z' < μ a b c d e z∧bX G0 E' H' (S a' b' c' d' e' z').1 (S a' b' c' d' e' z').2) Q) (S a b c d e z).1 (S a b c d e z).2):fJ P G0 N (.loop cc) Q E H:=by
 refine KX (α:=α) (β:=β) (γ:=γ) (δ:=δ) (ε:=ε×ζ) (fun a b c d s=>S a b c d s.1 s.2) (fun a b c d s=>J a b c d s.1 s.2) (fun a b c d s=>μ a b c d s.1 s.2) a0 b0 c0 d0 (e0,z0) h0 hin ?_;intro a b c d s hs;have h:=round a b c d s.1 s.2 hs;have e:(fun(E':bC) (H':aA)=>∃ (a':α) (b':β) (c':γ) (d':δ) (s':ε×ζ),J a' b' c' d' s'.1 s'.2∧μ a' b' c' d' s'.1 s'.2 < μ a b c d s.1 s.2∧bX G0 E' H' (S a' b' c' d' s'.1 s'.2).1 (S a' b' c' d' s'.1 s'.2).2)=(fun E' H'=>∃ a' b' c' d' e' z',J a' b' c' d' e' z'∧μ a' b' c' d' e' z' < μ a b c d s.1 s.2∧bX G0 E' H' (S a' b' c' d' e' z').1 (S a' b' c' d' e' z').2):=by
  funext E' H';exact propext ⟨fun⟨a',b',c',d',s',h⟩=>⟨a',b',c',d',s'.1,s'.2,h⟩,fun⟨a',b',c',d',e',z',h⟩=>⟨a',b',c',d',(e',z'),h⟩⟩
 rw [e];exact h
theorem aI.pureQ {P:Program} {f:FuncId} {args:List AV} {R:AV→Prop} (h:aI P f args [] (fun r H=>R r∧H=[])) (hp:∀ a∈args,Clo [] a) (H:aA):aI P f args H (fun r H'=>R r∧H'=H) :=(h.frame0 hp (fun _ _ hq=>hq.2) H).mono fun _ _ ⟨⟨h1,_⟩,h2⟩=>⟨h1,h2⟩
theorem vS {l:bN} {x:ByteArray}:x∈l.map Prod.fst↔cI l x≠none:=by rw [Ne,fQ,Classical.not_not]
theorem SY {a b c:bN} {D:List ByteArray} {C:CT} (ha:eV a) (hb:∀ x,cI b x=C x) (h:∀ x,cI a x=oF C c D x):a.length≤b.length+c.length:=by
 have:=yJ (l:=a.map Prod.fst) (s:=b.map Prod.fst++c.map Prod.fst) ha fun x hx=>by
  rw [List.mem_append];have h1:=vS.1 hx;rw [h,oF] at h1;by_cases hD:x∈D
  ·rw [XA hD] at h1;exact absurd rfl h1
  rw [W9 hD] at h1;cases e:cI c x with
  | none =>
   rw [e] at h1;refine .inl (vS.2 ?_);rw [hb];exact h1
  | some v=>exact .inr (vS.2 (by rw [e];exact fun h=>by cases h))
 simpa using this
theorem FM {a b:bN} (ha:eV a) (hb:eV b) (h:fG a=fG b) (x:ByteArray):cI a x=cI b x:=by rw [← vN ha,← vN hb,h]
def UO (l:List ByteArray):ByteArray:=⟨(flat l).toArray⟩
theorem MP {d:DSt} {N:Nat} (h:Calm d N):(g7 d).size=64*N:=by
 have:(g7 d).size=(flat d.cells).length:=by rw [← cR,g7]
 rw [this,j9 h.inv.ok.c,h.inv.n]
theorem u6 (N k:Nat) (tl:List ByteArray) (l:List GOp) (hN4:4≤N) (hN1:N≤103) (hk:k=(N - 2) / 2) (htl:tl=(jK N).cells.drop (2*k+2)) (hq:pK l=true) (H:aA) :
  aI Tryz.prog 20 [iv (N:Int),.pv (kF l)] H (fun r H'=>(∃ lm a,eV lm∧lm.length≤72∧(a=sNil∨(a≠sNil∧a=UO (gR k (bW lm) tl)))∧r=.tup [sv a,.pv (aW (fG lm)),bv true])∧H'=H):=by
 refine aI.pureQ ?_ (by simp) H;have hml:(l.map tW).length=l.length:=XB _;obtain ⟨hl12,hfx⟩:=J2 hq;have hop:=lQ (oH (n:=N) (by omega) (by omega)) (nN hN4) hN4 rfl;rw [← hk] at hop;refine Bd func20 rfl ntmps20<|Sr<|Dd aQ<|Dd aQ<|Dd aQ<|Zz<|Sr<|Dd aE<|Dd (by exact aB rfl rfl PX rfl (HD N (by omega) (by omega)))<|Dd aQ<|Zz<|Sr<|Dm ?_;refine fR rfl rfl (aB rfl rfl BP rfl hop) ?_;rintro _ _ ⟨rfl,lm,cm,q1,q2,q3,q4,rfl⟩;refine Dd aE<|Dd dO<|Dd dO<|Dd aQ<|Dd aQ<|Zz<|Sq<|Sr<|Dd aE<|Dd rG<|Zz ?_;refine Cn ?_ ?_<;>intro hc1
 ·cases hc1
 have hSt0:St N k tl (jK N) 0 0 lm cm (fun _=>none):=by rw [htl,hk];exact EF hN4 (by omega) q1 q2 q4
 obtain ⟨d0,hd0⟩:∃ d,d=jK N:=⟨_,rfl⟩;rw [← hd0] at hSt0 ⊢;clear hd0 htl;have hlm0:lm.length≤0:=by omega
 refine aH<|Sq<|Sr<|Dd aQ<|Zz<|aN ?_;refine KW (fun(j:Nat) (d:DSt) (a n:Nat) (lm:bN) (cm:Nat)=>([(1,.pv (kF l)),(7,.ref 1000 0 0 0),(8,.ref 1100 0 0 0),(10,iv (j:Int))],sH d (bZ k a n false) (bH lm cm))) (fun j d a n lm cm=>j≤l.length∧lm.length≤6*j∧∃ C,St N k tl d a n lm cm C) (fun j d a n lm cm=>l.length - j) 0 d0 0 0 lm cm ⟨XS _,by omega,_,hSt0⟩ ?_ ?_
 ·exact(bX.wk (Eb<|Ea<|Ea<|Eb<|trivial) (Hc (aF _ _ rfl rfl rfl)<|Hc (aC _ _)<|Hc (aL _ _ _)<|Hc (aK _ _)<|Hc (by(simp;exact⟨rfl,rfl⟩))<|Hc (aS _ _ _)<|trivial) trivial)
 clear hSt0 q1 q2 q3 q4 hlm0 lm cm;rintro j d a n lm cm ⟨hj,hlmj,C,hSt⟩;have hlmlen:=hSt.inv.len hSt.nd hSt.kv;have hnk:=hSt.inv.nk;have hsc:=mG hSt (by omega);refine Sq<|Sr<|Dd aE<|Dd aE<|Dd (kZ lG)<|Dd dN<|Zz ?_;refine Cn ?_ ?_<;>intro hc2
 ·have hlt:j < l.length:=by have:=W7 hc2;omega
  obtain ⟨x,hx⟩:=aY hlt;have hix:=dC (f:=tW) hx;obtain ⟨f1,f2,f3,f4⟩:=hfx x (XL hx);have hmk:=fZ x.put;have hmkl:(dZ x.put).1.length≤6:=Nat.le_trans (yF x.put ([],0)) (by show 0+x.put.length≤6;omega);have hcm:=g5 hSt (by omega) (dZ x.put).1 (dZ x.put).2 x.drop hmk.1 hmk.2 (by omega) (by omega);refine aH<|Sq<|aN<|Sr<|Dd aE<|Dd aE<|Dd (by exact bJ rfl w8 rfl rfl (by omega) (by exact XM _) hix rfl)<|Dd (PP TJ)<|Dd (mB aT)<|Dd gA<|Zz ?_;refine Cn ?_ ?_<;>intro hc3
  ·refine Rg<|Dm ?_;refine fR rfl rfl (aB rfl rfl BO rfl hsc) ?_;rintro _ _ ⟨rfl,d2,a2,n2,hSt2,_,rfl⟩;refine Zz<|Rg<|Dd aE<|Dd mC<|Da ?_;refine⟨j+1,d2,a2,n2,lm,cm,⟨by omega,by omega,_,hSt2⟩,by omega,?_⟩;exact(bX.wk (Eb<|Ea<|Ea<|Eb<|trivial) (Hc (aF _ _ rfl rfl rfl)<|Hc (aC _ _)<|Hc (aL _ _ _)<|Hc (aK _ _)<|Hc (by(simp;exact⟨rfl,rfl⟩))<|Hc (aS _ _ _)<|trivial) trivial)
  refine F7 12 follows (XO rfl) ?_;refine Cr [1100] (fun _ _=>aE)<|Cr [] (fun _ _=>aE)<|Cr [] (fun _ _=>aE)<|Cr [] (fun H1 hH=>by exact bJ rfl w8 rfl rfl (by omega) (by exact XM _) hix rfl)<|Cr [] (fun _ _=>(PP wA))<|Cr [] (fun _ _=>(mB wR))<|Cp [950] (fun H1 hH=>by exact aB rfl rfl call15 rfl (M8 x.put _ ((hH 950 rfl).trans rfl) (by omega)))<|Cr [] (fun _ _=>aE)<|Cr [] (fun _ _=>aE)<|Cr [] (fun H1 hH=>by exact bJ rfl w8 rfl rfl (by omega) (by exact XM _) hix rfl)<|Cr [] (fun _ _=>(PP A4))<|Cr [] (fun _ _=>(mB cD))<|cQ<|Kr ?_;refine fR rfl rfl (aB rfl rfl nJ rfl hcm) ?_;rintro _ _ ⟨rfl,d2,n2,l2,c2,hSt2,_,rfl⟩;have hl2:l2.length≤lm.length+(dZ x.put).1.length:=by
   by_cases e:wL k n (dZ x.put).1 x.drop=0
   ·exact SY hSt2.nd hSt.kv fun y=>by rw [hSt2.kv,XA e]
   exact Nat.le_trans (Nat.le_of_eq (uO hSt2.nd hSt.nd fun y=>by rw [hSt2.kv,W9 e,hSt.kv])) (Nat.le_add_right _ _)
  refine Zz<|Rg<|Dd aE<|Dd mC<|Da ?_;refine⟨j+1,d2,a,n2,l2,c2,⟨by omega,by omega,_,hSt2⟩,by omega,?_⟩;exact(bX.wk (Eb<|Ea<|Ea<|Eb<|trivial) (Hc (aF _ _ rfl rfl rfl)<|Hc (aC _ _)<|Hc (aL _ _ _)<|Hc (aK _ _)<|Hc (by(simp;exact⟨rfl,rfl⟩))<|Hc (aS _ _ _)<|trivial) trivial)
 refine bE<|Sr<|Dm ?_;refine fR rfl rfl (aB rfl rfl BO rfl hsc) ?_;rintro _ _ ⟨rfl,d2,a2,n2,hSt2,hcan,rfl⟩;have hct:=F2 d2 k a2 n2 false lm cm hSt2.st hSt2.nd (by omega);have hraw:=BA (o:=bZ k a2 n2 false) (m:=bH lm cm) (G3 d2 hSt2.calm.inv.ok) (by simp;rfl);have hrs:g7 d2≠sNil:=fun e=>by
  have h1:=MP hSt2.calm;rw [e] at h1;have:sNil.size=0:=rfl;omega
 by_cases hE:LH k lm=0
 ·have hcan:=hcan hE;have hrc:g7 d2=UO (gR k (bW lm) tl):=by rw [g7,hcan];rfl
  rw [hE];refine Dd aQ<|Zz<|Sq<|Sr<|Dd aE<|Dd rG<|Zz ?_;refine Cn ?_ ?_<;>intro hc4
  ·cases hc4
  refine aH<|Sr<|Dd aE<|Dd (by exact aB rfl rfl PW rfl (hraw))<|Dd aE<|Dd (by exact aB rfl rfl call18 rfl (hct))<|Dd aQ<|Dd aQ<|Dd aQ<|Zz<|aM ?_;refine zK (H':=[]) (.inr rfl) rfl (aG rfl) (aG rfl) (aG rfl) (Fin.wk (by simp) trivial trivial) ?_;exact⟨⟨lm,_,hSt2.nd,by omega,.inr ⟨hrs,hrc⟩,rfl⟩,rfl⟩
 have hE:LH k lm=21:=by
  rw [LH] at hE ⊢
  split at hE
  ·next h=>exact XA h
  exact absurd rfl hE
 rw [hE];refine Dd aQ<|Zz<|Sq<|Sr<|Dd aE<|Dd rG<|Zz ?_;refine Cn ?_ ?_<;>intro hc5
 ·refine Sr<|Dd aE<|Dd (by exact aB rfl rfl call18 rfl (hct))<|Dd aE<|Dd gA<|Dd aQ<|Dd aQ<|Dd aQ<|Zz<|aM ?_;refine zK (H':=[]) (.inr rfl) rfl (aG rfl) (aG rfl) (aG rfl) (Fin.wk (by simp) trivial trivial) ?_;exact⟨⟨lm,_,hSt2.nd,by omega,.inl rfl,rfl⟩,rfl⟩
 cases hc5
end Go.Proofs.YtmkgeogoojcciaaGreatDoor
namespace Go.Abs
theorem aI.frameQ {P:Program} {f:FuncId} {args:List AV} {H0 H:aA} {R:AV→aA→Prop} (h:aI P f args H0 R) (hs:Sub H0 H) (hc:bB H0) (ha:∀ a∈args,Clo H0 a)
  (hk0:∀ r H1,R r H1→∀ id,(H1.get id).isSome=true→(H0.get id).isSome=true∨H.get id=none):aI P f args H (fun r H'=>∃ K,R r K∧H'=K++H):=by
 intro I ι w vs hr hl hv;refine(h I ι w vs (hr.restrict hs hc) hl (fun i v a h1 h2=>(hv i v a h1 h2).restrict hs (ha a (XL h2)))).mono ?_;rintro e w' ⟨r,H',I',ι',v,rfl,hR,k1,k2,k3⟩;have hk:=hk0 r H' hR;obtain ⟨ι2,hι2⟩:∃ ι2:b4,ι2=(fun j=>if(H'.get j).isSome=true then ι' j else ι j):=⟨_,rfl⟩;have i1:∀ j o,H'.get j=some o→ι2 j=ι' j:=fun j o hj=>by rw [hι2];simp [hj]
 have i2:∀ j,H'.get j=none→ι2 j=ι j:=fun j hj=>by rw [hι2];simp [hj]
 have g1:∀ j o,H'.get j=some o→aA.get (H'++H) j=some o:=fun j o hj=>by rw [eM,hj]
 have g2:∀ j,H'.get j=none→aA.get (H'++H) j=H.get j:=fun j hj=>by rw [eM,hj]
 have hfr:∀ j o,H.get j=some o→H'.get j=none→H0.get j=none:=fun j o hj hn=>by
  cases e:H0.get j with
  | none=>rfl
  | some o0 =>
   obtain ⟨o',e1,_⟩:=k3.objs j o0 e;rw [hn] at e1;cases e1
 have hno:∀ j o b c,H.get j=some o→H'.get j=none→ι j=some (b,c)→¬ sI ι H0 b:=fun j o b c hj hn hb ⟨j',o',c',hj',hb'⟩=>by
  have:=hr.inj j j' o o' b c c' hj (hs _ _ hj') hb hb';subst this;rw [hfr j o hj hn] at hj';cases hj'
 have hst:Step I ι H w I' ι2 (H'++H) w':=by
  refine⟨k3.os,k3.tape,k3.output,k3.size,fun a ha hn=>k3.froz a ha (fun h=>hn (h.sub hs)),k3.imm,fun b hb=>?_,?_,?_,?_⟩
  ·rcases k3.immNew b hb with h1|h1|h1
   ·exact .inl h1
   ·exact .inr (.inl (h1.sub hs))
   exact .inr (.inr h1)
  ·rintro b ⟨j,o,c,hj,hc⟩;cases e:H'.get j with
   | some o' =>
    rw [i1 j o' e] at hc;rcases k3.own b ⟨j,o',c,e,hc⟩with h1|h1
    ·exact .inl (h1.sub hs)
    exact .inr h1
   | none =>
    rw [i2 j e] at hc;rw [g2 j e] at hj;exact .inl ⟨j,o,c,hj,hc⟩
  ·intro b hb hn;exact k3.keep b hb (fun h=>hn (h.sub hs))
  intro j o hj;cases e:H'.get j with
  | some o' =>
   rcases hk j (by rw [e];rfl)with h1|h1
   ·obtain ⟨o0,e0⟩:=Option.isSome_iff_exists.1 h1;have:=hs _ _ e0;rw [hj] at this;cases this;obtain ⟨o2,q1,q2,q3⟩:=k3.objs j o e0;exact⟨o2,g1 j o2 q1,q2,fun e=>by rw [i1 j o2 q1];exact q3 e⟩
   rw [hj] at h1;cases h1
  | none=>exact⟨o,(g2 j e).trans hj,XH _,fun _=>⟨i2 j e,rfl,fun _=>XH _⟩⟩
 have hv':∀ {v:Value} {a:AV},VRel w' I' ι' H' v a→VRel w' I' ι2 (H'++H) v a:=fun hva =>
  hva.mono' (fun _ _=>rfl) (fun _ h=>h) (fun id o ho=>⟨o,g1 id o ho,XH _,fun _=>⟨i1 id o ho,rfl,fun _=>XH _⟩⟩)
 refine⟨r,H'++H,I',ι2,v,rfl,⟨H',hR,rfl⟩,hv' k1,⟨k2.imm,fun j o hj=>?_,fun j j' o o' b c c' hj hj' hc hc'=>?_,k2.glob⟩,hst⟩
 ·cases e:H'.get j with
  | some o' =>
   rw [g1 j o' e] at hj;obtain rfl:o'=o:=Option.some.inj hj;exact(k2.obj j o' e).keep (i1 j o' e) (fun _ _ _ _=>⟨rfl,fun h=>h⟩) (fun r _ a _ v hv=>hv' hv)
  | none =>
   rw [g2 j e] at hj;refine(hr.obj j o hj).keep (i2 j e) (fun b' cap' e1 hlt=>⟨k3.keep b' hlt (hno j o b' cap' hj e e1),fun e3 hi=>?_⟩) (fun r _ a _ v hv=>hv.mono hr hst);rcases k3.immNew b' hi with h1|h1|h1
   ·exact e3 h1
   ·exact hno j o b' cap' hj e e1 h1
   omega
 cases e:H'.get j with
 | some q =>
  rw [i1 j q e] at hc;cases e':H'.get j' with
  | some q' =>
   rw [i1 j' q' e'] at hc';exact k2.inj j j' q q' b c c' e e' hc hc'
  | none =>
   rw [i2 j' e'] at hc';rw [g2 j' e'] at hj';have hlt:=hr.lt ⟨j',o',c',hj',hc'⟩;rcases k3.own b ⟨j,q,c,e,hc⟩with h1|h1
   ·exact absurd h1 (hno j' o' b c' hj' e' hc')
   omega
 | none =>
  rw [i2 j e] at hc;rw [g2 j e] at hj;cases e':H'.get j' with
  | some q' =>
   rw [i1 j' q' e'] at hc';have hlt:=hr.lt ⟨j,o,c,hj,hc⟩;rcases k3.own b ⟨j',q',c',e',hc'⟩with h1|h1
   ·exact absurd h1 (hno j o b c hj e hc)
   omega
  | none =>
   rw [i2 j' e'] at hc';rw [g2 j' e'] at hj';exact hr.inj j j' o o' b c c' hj hj' hc hc'
end Go.Abs
namespace Go.Proofs.YtmkgeogoojcciaaGreatDoor
open Go.Proofs.Tryz
open Go.Abs Go.Lib
def w7 (n:Nat):Nat:=if 1000≤n∧n < 1200 then n+2000 else if 3000≤n∧n < 3200 then n - 2000 else n
theorem GO (n:Nat):w7 (w7 n)=n:=by
 unfold w7
 repeat' split
 all_goals omega
def OZ (ga:Nat):Arm→AV
 | .never=>.pv .nilp
 | .off _ _ _=>.pv .nilp
 | .on _ _ _=>.ref 3003 ga 0 0
abbrev zA (s:DSt):List AV:=[.osl 3001 0 0 (64*s.cells.length),.osl 3002 s.gq 0 s.q.length,bv s.off,OZ s.ga s.arm]
abbrev jQ (s:DSt):aA:=[(3000,⟨0,4,80,[zA s]⟩),(3001,⟨0,1,5,bD (flat s.cells)⟩),(3002,⟨s.gq,3,103,tO s.q⟩),(3003,⟨s.ga,3,100,nD s.arm⟩)]
abbrev uB (k a n:Nat) (b:Bool):Ob:=⟨0,6,72,[[.ref 3000 0 0 0,iv (k:Int),iv (a:Int),iv (n:Int),.mp 3101 0,bv b]]⟩
abbrev ES (s:DSt) (o m:Ob):aA:=[(3000,⟨0,4,80,[zA s]⟩),(3001,⟨0,1,5,bD (flat s.cells)⟩),(3002,⟨s.gq,3,103,tO s.q⟩),(3003,⟨s.ga,3,100,nD s.arm⟩),(3100,o),(3101,m)]
theorem yC (ρ:Nat→Nat) {α:Type} (f:α→List PV) (l:List α):(l.map fun e=>(f e).map AV.pv).map (gP ρ)=l.map fun e=>(f e).map AV.pv:=by rw [List.map_map];refine List.map_congr_left fun e _=>?_;show gP ρ ((f e).map AV.pv)=_;rw [eJ,List.map_map];rfl
theorem vA (ρ:Nat→Nat) (l:List UInt8):(bD l).map (gP ρ)=bD l:=by rw [bD,List.map_map];exact List.map_congr_left fun e _=>rfl
theorem lO (s:DSt):iN w7 (aZ s)=jQ s:=by
 have e1:(nD s.arm).map (gP w7)=nD s.arm:=by cases s.arm<;>rfl
 have e2:fV w7 (O0 s.ga s.arm)=OZ s.ga s.arm:=by cases s.arm<;>rfl
 simp only [aZ,jQ,iN,iA,List.map_cons,List.map_nil,vA,yC,e1,oE,zA,gP,e2];rfl
theorem oQ (s:DSt) (k a n:Nat) (b:Bool) (l:bN) (c:Nat):iN w7 (sH s (bZ k a n b) (bH l c))=ES s (uB k a n b) (bH l c):=by
 have e1:(nD s.arm).map (gP w7)=nD s.arm:=by cases s.arm<;>rfl
 have e2:fV w7 (O0 s.ga s.arm)=OZ s.ga s.arm:=by cases s.arm<;>rfl
 have e3:=zY w7 l c;simp only [sH,ES,iN,List.map_cons,List.map_nil,e3];simp only [iA,List.map_cons,List.map_nil,vA,yC,e1,oE,zA,gP,e2];rfl
theorem kC (s:DSt) (H:aA) (h1:(H.get 3001).isSome=true) (h2:(H.get 3002).isSome=true) (h3:(H.get 3003).isSome=true):∀ r∈[zA s],∀ a∈r,Clo H a:=by
 intro r hr a ha;rw [XE.1 hr] at ha;simp only [zA,XN,XR,or_false] at ha;rcases ha with rfl|rfl|rfl|rfl
 ·exact .osl h1
 ·exact .osl h2
 ·exact .pv _
 cases s.arm<;>first|exact .pv _|exact .ref h3
theorem zW {H:aA} {k a n:Nat} {b:Bool} (h1:(H.get 3000).isSome=true) (h2:(H.get 3101).isSome=true):∀ r∈(uB k a n b).rows,∀ x∈r,Clo H x:=by
 intro r hr x hx;rw [XE.1 hr] at hx;simp only [XN,XR,or_false] at hx;rcases hx with rfl|rfl|rfl|rfl|rfl|rfl
 ·exact .ref h1
 ·exact .pv _
 ·exact .pv _
 ·exact .pv _
 ·exact .mp h2
 exact .pv _
theorem pM (s:DSt):bB (jQ s):=(bB.ofL ⟨(by exact kC _ _ rfl rfl rfl),(by exact aC _ _),(by exact aL _ _ _),(by exact aK _ _),trivial⟩)
theorem ER (s:DSt) (k a n:Nat) (b:Bool) (l:bN) (c:Nat):bB (ES s (uB k a n b) (bH l c)):=(bB.ofL ⟨(by exact kC _ _ rfl rfl rfl),(by exact aC _ _),(by exact aL _ _ _),(by exact aK _ _),(by exact zW rfl rfl),(by exact aS _ _ _),trivial⟩)
theorem H9 {f:FuncId} {args args':List AV} {H0 H3 H:aA} {R:AV→aA→Prop} (h:aI Tryz.prog f args H0 R) (ha:gP w7 args=args') (hH:iN w7 H0=H3) (hs:Sub H3 H) (hc:bB H3) (hac:∀ a∈args',Clo H3 a)
  (hk:∀ r K,R r K→∀ id,(aA.get (iN w7 K) id).isSome=true→(H3.get id).isSome=true∨H.get id=none):aI Tryz.prog f args' H (fun r H'=>∃ r0 K,R r0 K∧r=fV w7 r0∧H'=iN w7 K++H):=by
 refine(aI.frameQ (aI.renQ GO h ha hH) hs hc hac ?_).mono ?_
 ·rintro r K ⟨r0,K0,hR,rfl,rfl⟩ id hid;exact hk r0 K0 hR id hid
 rintro r H' ⟨K,⟨r0,K0,hR,rfl,rfl⟩,rfl⟩;exact⟨r0,K0,hR,rfl,rfl⟩
theorem UV {d:DSt} {id:Nat} (h:(aA.get (jQ d) id).isSome=true):id=3000∨id=3001∨id=3002∨id=3003:=by
 simp only [jQ,aA.get] at h;cases e0:Nat.beq 3000 id
 ·cases e1:Nat.beq 3001 id
  ·cases e2:Nat.beq 3002 id
   ·cases e3:Nat.beq 3003 id
    ·rw [e0,e1,e2,e3] at h;cases h
    exact .inr (.inr (.inr (Nat.eq_of_beq_eq_true e3).symm))
   exact .inr (.inr (.inl (Nat.eq_of_beq_eq_true e2).symm))
  exact .inr (.inl (Nat.eq_of_beq_eq_true e1).symm)
 exact .inl (Nat.eq_of_beq_eq_true e0).symm
theorem TH {d:DSt} {o m:Ob} {id:Nat} (h:(aA.get (ES d o m) id).isSome=true):id=3000∨id=3001∨id=3002∨id=3003∨id=3100∨id=3101:=by
 simp only [ES,aA.get] at h;cases e0:Nat.beq 3000 id
 ·cases e1:Nat.beq 3001 id
  ·cases e2:Nat.beq 3002 id
   ·cases e3:Nat.beq 3003 id
    ·cases e4:Nat.beq 3100 id
     ·cases e5:Nat.beq 3101 id
      ·rw [e0,e1,e2,e3,e4,e5] at h;cases h
      exact .inr (.inr (.inr (.inr (.inr (Nat.eq_of_beq_eq_true e5).symm))))
     exact .inr (.inr (.inr (.inr (.inl (Nat.eq_of_beq_eq_true e4).symm))))
    exact .inr (.inr (.inr (.inl (Nat.eq_of_beq_eq_true e3).symm)))
   exact .inr (.inr (.inl (Nat.eq_of_beq_eq_true e2).symm))
  exact .inr (.inl (Nat.eq_of_beq_eq_true e1).symm)
 exact .inl (Nat.eq_of_beq_eq_true e0).symm
theorem pJ {M d:Nat} (hd0:0 < d) (hM:M < 10 ^ d):∀ (L:List ByteArray),(∀ s∈L,s.size≤M)→(aR L).length≤L.length*(M+d+1)
 | [],_=>XS _
 | s::r,h=>by
  have ih:=pJ hd0 hM r (fun x hx=>h x (List.mem_cons_of_mem _ hx));have hs:=h s List.mem_cons_self;have hd:=dG (k:=d) (u:=s.size) (by omega) hd0;rw [dI,XC,XD,XC,cR,XD,Nat.add_mul];omega
theorem yP {n:Nat} (h:n < 10):(dA (n:Int)).size≤1:=by have e:dA (n:Int)=ofL (decDigits n):=i8 (by rw [a6,j8]);rw [e,bR];exact dG (k:=1) (by omega) (by decide)
theorem lM {l:bN} {P:List ByteArray} (hl:∀ p∈l,p.1.size≤1∧p.2.1.size≤1) (hP:∀ s∈P,s.size≤1) (hn:2*l.length+2+P.length≤10):cM (a8 l P)≤1:=by
 have h1:(aR (b7 l P)).length≤(b7 l P).length*(1+1+1):=by
  refine pJ (by decide) (by decide) _ fun s hs=>?_;rw [jD] at hs;rcases XN.1 hs with rfl|hs
  ·exact yP (by omega)
  rcases List.mem_append.1 hs with hs|hs
  ·obtain ⟨x,hx,hs⟩:=List.mem_flatMap.1 hs;simp only [XN,XR,or_false] at hs;rcases hs with rfl|rfl
   ·obtain ⟨p,hp,rfl⟩:=List.mem_map.1 (j5.1 hx);exact(hl p hp).1
   exact p7 x fun p hp=>(hl p hp).2
  rcases XN.1 hs with rfl|hs
  ·exact yP (by omega)
  exact hP s hs
 rw [xZ] at h1;have hd:=dG (k:=2) (u:=(aR (b7 l P)).length) (by omega) (by decide);have h2:(a8 l P).length≤46:=by
  rw [a8,dI,XC,XD,XC,a6,bR];have h0:(aR []).length=0:=rfl;omega
 rw [cM];omega
theorem L2 {l:bN} {P:List ByteArray} {x:ByteArray} (hx:x∈l.map Prod.fst):(dE l x).size≤(a8 l P).length:=by
 have h1:dE l x∈b7 l P:=by
  rw [jD];refine List.mem_cons_of_mem _ (List.mem_append_left _ (List.mem_flatMap.2 ⟨x,j5.2 hx,?_⟩));simp
 have h2:=mO h1;rw [a8,dI,XC,XD,XC,a6];omega
theorem wK {k n:Nat} {l2:bN} {P:List ByteArray} (h1:bG l2 P=0) (h2:n+cM (a8 l2 (fH P))≤k):wL k n l2 P=0:=by
 rw [wL];rcases lZ k n l2 P with⟨e1,_⟩|⟨e1,_⟩|⟨e1,_,_,e2⟩|⟨e1,e2⟩
 ·rw [e1];rfl
 ·rw [e1];rfl
 ·omega
 exact absurd h1 e2
theorem OE {k n:Nat} {l2:bN} {P:List ByteArray} (h1:bG l2 P=0) (h0:0 < l2.length) (h2:k < n+cM (a8 l2 (fH P))):wL k n l2 P=21:=by
 rw [wL];rcases lZ k n l2 P with⟨e1,_,e2⟩|⟨e1,_,_,e2⟩|⟨e1,_⟩|⟨e1,e2⟩
 ·omega
 ·omega
 ·rw [e1];rfl
 exact absurd h1 e2
theorem KH {k n:Nat} {l2:bN} {P:List ByteArray} (h1:¬ bG l2 P=0):wL k n l2 P=bG l2 P:=by
 rw [wL];rcases lZ k n l2 P with⟨_,e2,_⟩|⟨_,e2,_⟩|⟨_,e2,_⟩|⟨e1,e2⟩
 ·exact absurd e2 h1
 ·exact absurd e2 h1
 ·exact absurd e2 h1
 have:=eZ l2 P;rw [e1,W9 (by omega)]
theorem j1:fH []=[]:=List.length_eq_zero_iff.1 (by have:=rX [];rw [List.length_nil] at this;omega)
theorem mE {a b:bN} (ha:eV a) (hb:eV b) (h:∀ k,cI a k=cI b k):bW a=bW b:=by rw [bW,bW,uO ha hb h,x5 ha hb h]
theorem IY (hhd:∀ H,aI Tryz.prog 10 [] H (fun r H'=>r=bv true∧H'=H)) (raw:Int) (l m:List GOp) (hr:0≤raw∧raw≤255) (hl:l.length < 1000000000) (hs:∀ x∈l,TB x) (hlm:m.length < 1000000000) (hsm:∀ x∈m,TB x) :
  aI Tryz.prog 4 [.pv (.int .u8 raw),.pv (kF l),.pv (kF m)] [] (fun r H'=>r=bv true∧H'=[]):=by
 have hfw:=fun H=>SM l H (by omega) (fun x hx=>by have:=hs x hx;exact⟨by have:=this.1;omega,by have:=this.2.1;omega,this.2.2⟩);have hfm:=fun H=>SM m H (by omega) (fun x hx=>by have:=hsm x hx;exact⟨by have:=this.1;omega,by have:=this.2.1;omega,this.2.2⟩);obtain ⟨N,hN⟩:∃ N,N=4+(raw % 100).toNat:=⟨_,rfl⟩;have hN4:4≤N:=by omega
 have hN1:N≤103:=by omega
 have hrem:raw.tmod 100=((N - 4:Nat):Int):=by
  rw [Int.tmod_eq_emod_of_nonneg hr.1];omega
 obtain ⟨k,hk⟩:∃ k,k=(N - 2) / 2:=⟨_,rfl⟩;obtain ⟨tl,htl⟩:∃ tl,tl=(jK N).cells.drop (2*k+2):=⟨_,rfl⟩;have hop:=lQ (oH (n:=N) (by omega) (by omega)) (nN hN4) hN4 rfl;rw [← hk] at hop;have hst0:∀ {l:bN} {c:Nat},dL l c→eV l→(∀ x,cI l x=none)→St N k tl (jK N) 0 0 l c (fun _=>none):=fun q1 q2 q3=>by
  rw [htl,hk];exact EF hN4 (by omega) q1 q2 q3
 have hsl:=fun hq H=>u6 N k tl l hN4 hN1 hk htl hq H;have hsm':=fun hq H=>u6 N k tl m hN4 hN1 hk htl hq H;have hnew:=HD N (by omega) (by omega);obtain ⟨d0,hd0⟩:∃ d,d=jK N:=⟨_,rfl⟩;rw [← hd0] at hop hst0 hnew;clear hd0 htl;refine Bd func4 rfl ntmps4 ?_;rcases Bool.eq_false_or_eq_true (pK l)with hq|hq
 ·rw [hq] at hfw;refine Sr<|Dd aQ<|Zz<|Sr<|Dd (by exact aB rfl rfl call10 rfl (hhd _))<|Dd aQ<|Zz<|Sq<|Sr<|Dd aE<|Dd (by exact aB rfl rfl WW rfl (hfw _))<|Dd sA<|Dd aE<|On aE<|On (by exact aB rfl rfl WW rfl (hfm _))<|On sA<|Dd dW<|Zz ?_;refine Cn ?_ ?_<;>intro hc1
  ·exact Sr<|Dd aE<|Dd aQ<|Zz<|aM<|Rt<|Qq
  have hqm:pK m=true:=by have h:=hc1;simpa using h
  refine aH<|Sr<|Dd aE<|Dd (by exact eL rfl bQ bT rfl (g9 (by omega) (by omega)))<|Dd (by exact uJ rfl rfl rfl (by decide) hrem)<|Dd (by exact cA rfl rfl rfl (show IntKind.i64.wrap (4+((N - 4:Nat):Int))=(N:Int)by rw [g9 (by omega) (by omega)];omega))<|Dd aQ<|Zz<|Sr<|Dd aE<|Dm ?_;refine fR rfl rfl (aB rfl rfl call20 rfl (hsl hq _)) ?_;rintro _ _ ⟨⟨lx,a,hnx,hlx,hA,rfl⟩,rfl⟩;refine Dd aE<|Dd dO<|Dd dO<|Dd dO<|Dd aQ<|Dd aQ<|Dd aQ<|Zz<|Sr<|Dd aE<|Dm ?_;refine fR rfl rfl (aB rfl rfl call20 rfl (hsm' hqm _)) ?_;rintro _ _ ⟨⟨ly,b,hny,hly,hB,rfl⟩,rfl⟩;refine Dd aE<|Dd dO<|Dd dO<|Dd dO<|Dd aQ<|Dd aQ<|Dd aQ<|Zz<|Sq<|Sr<|Dd aE<|Dd sA<|Dd aE<|On aE<|On sA<|Dd dW<|Zz ?_;refine Cn ?_ ?_<;>intro hc2
  ·cases hc2
  refine aH<|Sr<|Dd aE<|Dd (by exact aB rfl rfl PX rfl (hnew))<|Dd aQ<|Zz<|Sr<|Dm ?_;refine fR rfl rfl (aB rfl rfl BP rfl hop) ?_;rintro _ _ ⟨rfl,l0,c0,q1,q2,q3,q4,rfl⟩;have hS0:=hst0 q1 q2 q4;clear q1 q2 q3 q4 hop hnew hst0 hsl hsm';refine Dd aE<|Dd dO<|Dd dO<|Dd aQ<|Dd aQ<|Zz<|Sr<|Dd (by exact gY (id:=950) eT rfl rfl)<|Dd aQ<|Zz<|Sq<|Sr<|Dd aQ<|Zz<|aN ?_;obtain ⟨W,hW⟩:∃ W,W=fG lx:=⟨_,rfl⟩;have hWl:W.length=2*lx.length:=by rw [hW,p6]
  have hmw:(W.map encStr).length=W.length:=XB _;rw [← hW];refine bI (σ:=Nat) (fun j=>([(7,bv true),(9,sv a),(10,.pv (aW W)),(12,sv b),(13,.pv (aW (fG ly))),(15,.ref 1000 0 0 0),(16,.ref 1100 0 0 0),(17,iv 0),(18,.mp 950 0),(19,iv ((2*j:Nat):Int))],(950,bH (mA W j).1 (mA W j).2)::sH d0 (bZ k 0 0 false) (bH l0 c0))) (fun j=>2*j≤W.length+1∧(∀ i,i < j→2*i+1 < W.length)) (fun j=>W.length - j) 0 ⟨by omega,fun i hi=>absurd hi (Nat.not_lt_zero _)⟩ ?_ ?_
  ·exact(bX.wk (Eb<|Eb<|Eb<|Eb<|Eb<|Ea<|Ea<|Eb<|Ea<|Eb<|trivial) (Hc (aS _ _ _)<|Hc (aF _ _ rfl rfl rfl)<|Hc (aC _ _)<|Hc (aL _ _ _)<|Hc (aK _ _)<|Hc (by(simp;exact⟨rfl,rfl⟩))<|Hc (aS _ _ _)<|trivial) trivial)
  rintro j ⟨hj,hjj⟩;refine Sq<|Sr<|Dd aE<|Dd (by exact cA rfl rfl rfl (show IntKind.i64.wrap (((2*j:Nat):Int)+1)=((2*j+1:Nat):Int)by rw [g9 (by omega) (by omega)];omega))<|Dd aE<|Dd (kZ aP)<|Dd dN<|Zz ?_;refine Cn ?_ ?_<;>intro hc3
  ·have hlt:2*j+1 < W.length:=by have:=W7 hc3;omega
   obtain ⟨s,hs⟩:=aY (l:=W) (k:=2*j) (by omega);obtain ⟨t,ht⟩:=aY hlt;have his:=dC (f:=encStr) hs;have hit:=dC (f:=encStr) ht;have hg1:W.getD (2*j) sNil=s:=by rw [List.getD_eq_getElem?_getD,hs];rfl
   have hg2:W.getD (2*j+1) sNil=t:=by rw [List.getD_eq_getElem?_getD,ht];rfl
   have hnx:mA W (j+1)=(f0 (mA W j).1 s t (mA W j).2,lV (mA W j).1 s (mA W j).2):=by rw [mA,hg1,hg2]
   refine aH<|Sq<|aN<|bK follows<|Cs (fun _ _=>aE)<|Cs (fun _ _=>aE)<|Cs (fun _ _=>aE)<|Cs (fun H1 hH=>by exact bJ rfl b5 rfl rfl (by omega) (by exact XM _) his rfl)<|Cs (fun _ _=>(mB aV))<|Cs (fun _ _=>aE)<|Cs (fun _ _=>aE)<|Cs (fun H1 hH=>by exact cA rfl rfl rfl (show IntKind.i64.wrap (((2*j:Nat):Int)+1)=((2*j+1:Nat):Int)by rw [g9 (by omega) (by omega)];omega))<|Cs (fun H1 hH=>by exact bJ rfl b5 rfl rfl (by omega) (by exact XM _) hit rfl)<|Cs (fun _ _=>(mB aV)) ?_;refine bY (r:=⟨_,none,[_]⟩) (DStep.plain rfl (fun H1 hH=>by exact gZ (κ:=eT) (l:=bM (mA W j).1) (.inl rfl) aU aJ rfl ((hH _ rfl).trans rfl) rfl rfl rfl rfl rfl (mQ _ _ _ _) (oV _ _ _))) rfl ?_;refine cQ<|Kr<|Rg<|Dd aE<|Dd (by exact cA rfl rfl rfl (show IntKind.i64.wrap (((2*j:Nat):Int)+2)=((2*(j+1):Nat):Int)by rw [g9 (by omega) (by omega)];omega))<|Da ?_;refine⟨j+1,⟨by omega,fun i hi=>?_⟩,by omega,?_⟩
   ·rcases Nat.lt_succ_iff_lt_or_eq.1 hi with h|rfl
    ·exact hjj i h
    exact hlt
   rw [hnx];exact(bX.wk (Eb<|Eb<|Eb<|Eb<|Eb<|Ea<|Ea<|Eb<|Ea<|Eb<|trivial) (Hc (aS _ _ _)<|Hc (aF _ _ rfl rfl rfl)<|Hc (aC _ _)<|Hc (aL _ _ _)<|Hc (aK _ _)<|Hc (by(simp;exact⟨rfl,rfl⟩))<|Hc (aS _ _ _)<|trivial) trivial)
  have hge:W.length≤2*j+1:=by have:=W8 hc3;omega
  have hjn:j=W.length / 2:=by
   rcases Nat.eq_zero_or_pos j with h0|h0
   ·omega
   have:=hjj (j - 1) (by omega);omega
  subst hjn;obtain ⟨M,hM⟩:∃ M,M=mA W (W.length / 2):=⟨_,rfl⟩;have hMok:=vM W (W.length / 2);have hMl:=uL W (W.length / 2);have hMk:∀ x,cI M.1 x=cI lx x:=fun x=>by rw [hM,hW,vN hnx]
  rw [← hM] at hMok hMl;rw [← hM];have hcm:=g5 hS0 (by omega) M.1 M.2 [] hMok.1 hMok.2 (by omega) (by decide);obtain ⟨X,hX⟩:∃ X,X=wL k 0 M.1 []:=⟨_,rfl⟩;rw [← hX] at hcm;clear hM;refine bE<|Sr<|Dd aE<|Dm ?_;refine jS (E':=[(7,bv true),(9,sv a),(10,.pv (aW W)),(12,sv b),(13,.pv (aW (fG ly))),(15,.ref 1000 0 0 0),(16,.ref 1100 0 0 0),(17,iv 0),(81,.ref 1100 0 0 0),(82,.mp 950 0)]) (H':=(950,bH M.1 M.2)::sH d0 (bZ k 0 0 false) (bH l0 c0)) (bX.wk (Eb<|Eb<|Eb<|Eb<|Eb<|Ea<|Ea<|Eb<|Ea<|Ea<|trivial) (Hc (aS _ _ _)<|Hc (aF _ _ rfl rfl rfl)<|Hc (aC _ _)<|Hc (aL _ _ _)<|Hc (aK _ _)<|Hc (by(simp;exact⟨rfl,rfl⟩))<|Hc (aS _ _ _)<|trivial) trivial) ?_;refine fR rfl rfl (aB rfl rfl nJ rfl hcm) ?_;rintro _ _ ⟨rfl,d1,n1,l1,c1,hS1,hn1,rfl⟩;clear hcm hS0 hn1;refine Dd aQ<|Zz<|Sr<|Dm ?_;refine jS (E':=[(7,bv true),(9,sv a),(10,.pv (aW W)),(12,sv b),(13,.pv (aW (fG ly))),(15,.ref 1000 0 0 0),(17,iv 0),(20,iv X),(84,.ref 1100 0 0 0)]) (H':=sH d1 (bZ k 0 n1 false) (bH l1 c1)) (bX.wk (Eb<|Eb<|Eb<|Eb<|Eb<|Ea<|Eb<|Eb<|Ea<|trivial) (Hc (aF _ _ rfl rfl rfl)<|Hc (aC _ _)<|Hc (aL _ _ _)<|Hc (aK _ _)<|Hc (by(simp;exact⟨rfl,rfl⟩))<|Hc (aS _ _ _)<|trivial) trivial) ?_;refine fR rfl rfl (aB rfl rfl BO rfl (mG hS1 (by omega))) ?_;rintro _ _ ⟨rfl,d2,a2,n2,hS2,hcan,rfl⟩;obtain ⟨Y,hY⟩:∃ Y,Y=LH k l1:=⟨_,rfl⟩;rw [← hY] at hcan ⊢;have hraw:=BA (o:=bZ k a2 n2 false) (m:=bH l1 c1) (G3 d2 hS2.calm.inv.ok) (by simp;rfl);have hsame:=fun H=>CC W (fG ly) H (by omega) (by rw [p6];omega);have hgood:X=0→Y=0→a≠sNil→g7 d2=a:=fun hX0 hY0 hna=>by
   rcases hA with hA|⟨_,hA⟩
   ·exact absurd hA hna
   have e1:bW l1=bW lx:=mE hS1.nd hnx fun x=>by
    rw [hS1.kv,XA hX0,oF,j1,W9 XR,← hMk];cases cI M.1 x<;>rfl
   rw [hA,g7,hcan hY0,e1];rfl
  refine Da ?_;refine kQ (fun(_:Unit)=>([(7,bv true),(9,sv a),(10,.pv (aW W)),(12,sv b),(13,.pv (aW (fG ly)))],[])) (fun _=>True) ?_ ?_
  ·have n1:¬ a=sNil→AV.pv (.bool (!decide (a=sNil)))=bv true:=fun h=>by rw [decide_eq_false h];rfl
   have n2:∀ {z:Int},z=0→AV.pv (.bool (decide (z=0)))=bv true:=fun h=>by rw [decide_eq_true h]
   have n3:∀ {z:Int},¬ z=0→AV.pv (.bool (decide (z=0)))=bv false:=fun h=>by rw [decide_eq_false h]
   have n4:g7 d2=a→AV.pv (.bool (!decide (g7 d2=a)))=bv false:=fun h=>by rw [decide_eq_true h];rfl
   by_cases a0:a=sNil
   ·have n0:AV.pv (.bool (!decide (a=sNil)))=bv false:=by rw [decide_eq_true a0];rfl
    refine Sr<|Dd aE<|Dd (by exact bP.eqv (lR rfl rfl rfl) n0)<|Dd aE<|Fo<|Fo<|Dd dW<|Dd aE<|Fo<|Fo<|Dd dW<|Dd aE<|Fo<|Fo<|Dd dW<|Dd aE<|Fo<|Fo<|Fo<|Fo<|Dd dW<|Zz ?_;refine Cn ?_ ?_<;>intro hc4
    ·cases hc4
    refine aH ?_;exact⟨(),trivial,Wk⟩
   by_cases x0:X=0
   ·by_cases y0:Y=0
    ·have hr:=hgood x0 y0 a0;refine Sr<|Dd aE<|Dd (by exact bP.eqv (lR rfl rfl rfl) (n1 a0))<|Dd aE<|On aE<|On gA<|Dd dW<|Dd aE<|On aE<|On (by exact bP.eqv (mK rfl rfl rfl) (n2 x0))<|Dd dW<|Dd aE<|On aE<|On (by exact bP.eqv (mK rfl rfl rfl) (n2 y0))<|Dd dW<|Dd aE<|On aE<|On (by exact aB rfl rfl PW rfl (hraw))<|On aE<|On (by exact bP.eqv (lR rfl rfl rfl) (n4 hr))<|Dd dW<|Zz ?_;refine Cn ?_ ?_<;>intro hc5
     ·cases hc5
     refine aH ?_;exact⟨(),trivial,Wk⟩
    refine Sr<|Dd aE<|Dd (by exact bP.eqv (lR rfl rfl rfl) (n1 a0))<|Dd aE<|On aE<|On gA<|Dd dW<|Dd aE<|On aE<|On (by exact bP.eqv (mK rfl rfl rfl) (n2 x0))<|Dd dW<|Dd aE<|On aE<|On (by exact bP.eqv (mK rfl rfl rfl) (n3 y0))<|Dd dW<|Dd aE<|Fo<|Fo<|Fo<|Fo<|Dd dW<|Zz ?_;refine Cn ?_ ?_<;>intro hc6
    ·cases hc6
    refine aH ?_;exact⟨(),trivial,Wk⟩
   refine Sr<|Dd aE<|Dd (by exact bP.eqv (lR rfl rfl rfl) (n1 a0))<|Dd aE<|On aE<|On gA<|Dd dW<|Dd aE<|On aE<|On (by exact bP.eqv (mK rfl rfl rfl) (n3 x0))<|Dd dW<|Dd aE<|Fo<|Fo<|Dd dW<|Dd aE<|Fo<|Fo<|Fo<|Fo<|Dd dW<|Zz ?_;refine Cn ?_ ?_<;>intro hc7
   ·cases hc7
   refine aH ?_;exact⟨(),trivial,Wk⟩
  rintro _ _;have m1:∀ {z:ByteArray},z=sNil→AV.pv (.bool (decide (z=sNil)))=bv true:=fun h=>by rw [decide_eq_true h]
  have m2:∀ {z:ByteArray},¬ z=sNil→AV.pv (.bool (decide (z=sNil)))=bv false:=fun h=>by rw [decide_eq_false h]
  by_cases a0:a=sNil
  ·exact Sr<|Dd aE<|Dd aE<|On aE<|On (by exact bP.eqv (fP rfl rfl rfl) (m1 a0))<|On aE<|Fo<|Fo<|On dW<|On aE<|Fo<|Fo<|Fo<|Fo<|On dW<|On aE<|Fo<|Fo<|Fo<|On dW<|Dd dW<|Dd aQ<|Zz<|aM<|Rt<|Qq
  by_cases b0:b=sNil
  ·exact Sr<|Dd aE<|Dd aE<|On aE<|On (by exact bP.eqv (fP rfl rfl rfl) (m2 a0))<|On aE<|On aE<|On (by exact bP.eqv (fP rfl rfl rfl) (m1 b0))<|On dW<|On aE<|Fo<|Fo<|Fo<|Fo<|On dW<|On aE<|Fo<|Fo<|Fo<|On dW<|Dd dW<|Dd aQ<|Zz<|aM<|Rt<|Qq
  by_cases w0:W=fG ly
  ·have hsame:=fun H=>(hsame H);rw [decide_eq_true w0] at hsame;have hab:a=b:=by
    rcases hA with hA|⟨_,hA⟩
    ·exact absurd hA a0
    rcases hB with hB|⟨_,hB⟩
    ·exact absurd hB b0
    rw [hA,hB,mE hnx hny (FM hnx hny (hW.symm.trans w0))]
   have m3:AV.pv (.bool (decide (a=b)))=bv true:=by rw [decide_eq_true hab]
   exact Sr<|Dd aE<|Dd aE<|On aE<|On (by exact bP.eqv (fP rfl rfl rfl) (m2 a0))<|On aE<|On aE<|On (by exact bP.eqv (fP rfl rfl rfl) (m2 b0))<|On dW<|On aE<|On aE<|On aE<|On (by exact aB rfl rfl WV rfl (hsame _))<|On sA<|On dW<|On aE<|On aE<|On aE<|On (by exact bP.eqv (fP rfl rfl rfl) m3)<|On dW<|Dd dW<|Dd aQ<|Zz<|aM<|Rt<|Qq
  have hsame:=fun H=>(hsame H);rw [decide_eq_false w0] at hsame;exact Sr<|Dd aE<|Dd aE<|On aE<|On (by exact bP.eqv (fP rfl rfl rfl) (m2 a0))<|On aE<|On aE<|On (by exact bP.eqv (fP rfl rfl rfl) (m2 b0))<|On dW<|On aE<|On aE<|On aE<|On (by exact aB rfl rfl WV rfl (hsame _))<|On sA<|On dW<|On aE<|Fo<|Fo<|Fo<|On dW<|Dd dW<|Dd aQ<|Zz<|aM<|Rt<|Qq
 rw [hq] at hfw;refine Sr<|Dd aQ<|Zz<|Sr<|Dd (by exact aB rfl rfl call10 rfl (hhd _))<|Dd aQ<|Zz<|Sq<|Sr<|Dd aE<|Dd (by exact aB rfl rfl WW rfl (hfw _))<|Dd sA<|Dd aE<|Fo<|Fo<|Fo<|Dd dW<|Zz ?_;refine Cn ?_ ?_<;>intro hc8
 ·exact Sr<|Dd aE<|Dd aQ<|Zz<|aM<|Rt<|Qq
 cases hc8
theorem oN (A B:aA):Sub A (A++B):=fun j o h=>by rw [eM,h]
theorem VV (n:Nat) (h1:1≤n) (h2:n≤8000) (H:aA) (k0:H.get 3000=none) (k1:H.get 3001=none) (k2:H.get 3002=none) (k3:H.get 3003=none):aI Tryz.prog 13 [iv (n:Int)] H (fun r H'=>r=.ref 3000 0 0 0∧H'=jQ (jK n)++H):=by
 refine(H9 (HD n h1 h2) (args':=[iv (n:Int)]) rfl (rfl:iN w7 []=[]) (fun _ _ h=>by cases h) (fun _ _ h=>by cases h) (by intro a ha;rw [XE] at ha;subst ha;exact .pv _) ?_).mono ?_
 ·rintro r K ⟨rfl,rfl⟩ id hid;rw [lO] at hid;rcases UV hid with rfl|rfl|rfl|rfl
  ·exact .inr k0
  ·exact .inr k1
  ·exact .inr k2
  exact .inr k3
 rintro r H' ⟨r0,K,⟨rfl,rfl⟩,rfl,rfl⟩;exact⟨rfl,by rw [lO]⟩
theorem UP {d:DSt} {N k a n:Nat} {C:CT} (hc:Calm d N) (hI:SInv d.cells k a n C) (hN:4≤N) (hk:k=(N - 2) / 2) (H:aA) (hs:Sub (jQ d) H) (k4:H.get 3100=none) (k5:H.get 3101=none) :
  aI Tryz.prog 12 [.ref 3000 0 0 0] H (fun r H'=>r=.tup [.ref 3100 0 0 0,iv 0]∧∃ l c,dL l c∧eV l∧l.length≤46*n∧(∀ x,cI l x=C x)∧H'=ES d (uB k a n false) (bH l c)++H):=by
 refine(H9 (lQ hc hI hN hk) (args':=[.ref 3000 0 0 0]) rfl (lO d) hs (pM d) (by simp;rfl) ?_).mono ?_
 ·rintro r K ⟨rfl,l,c,q1,q2,q3,q4,rfl⟩ id hid;rw [oQ] at hid;rcases TH hid with rfl|rfl|rfl|rfl|rfl|rfl
  ·exact .inl rfl
  ·exact .inl rfl
  ·exact .inl rfl
  ·exact .inl rfl
  ·exact .inr k4
  exact .inr k5
 rintro r H' ⟨r0,K,⟨rfl,l,c,q1,q2,q3,q4,rfl⟩,rfl,rfl⟩;exact⟨rfl,l,c,q1,q2,q3,q4,by rw [oQ]⟩
theorem EW (d:DSt) (k a n:Nat) (b:Bool) (l l2:bN) (c c2:Nat):iN w7 ((950,bH l2 c2)::sH d (bZ k a n b) (bH l c))=(950,bH l2 c2)::ES d (uB k a n b) (bH l c):=by have h:=oQ d k a n b l c;show (w7 950,iA w7 (bH l2 c2))::iN w7 (sH d (bZ k a n b) (bH l c))=_;rw [h,zY];rfl
theorem KN (d:DSt) (k a n:Nat) (b:Bool) (l l2:bN) (c c2:Nat):bB ((950,bH l2 c2)::ES d (uB k a n b) (bH l c)):=(bB.ofL ⟨(by exact aS _ _ _),(by exact kC _ _ rfl rfl rfl),(by exact aC _ _),(by exact aL _ _ _),(by exact aK _ _),(by exact zW rfl rfl),(by exact aS _ _ _),trivial⟩)
theorem VW {d:DSt} {o m o2:Ob} {id:Nat} (h:(aA.get ((950,o2)::ES d o m) id).isSome=true):id=950∨id=3000∨id=3001∨id=3002∨id=3003∨id=3100∨id=3101:=by
 by_cases e:id=950
 ·exact .inl e
 rw [get_cons_other _ _ e] at h;exact .inr (TH h)
theorem RQ {N k:Nat} {tl:List ByteArray} {d:DSt} {a n:Nat} {l:bN} {c:Nat} {C:CT} (h:St N k tl d a n l c C) (hk:k < 4000) (l2:bN) (c2:Nat) (P:List ByteArray) (hst2:dL l2 c2) (hnd2:eV l2) (hl2:l2.length≤1000) (hP:P.length≤1000) (H:aA) (hs:Sub ((950,bH l2 c2)::ES d (uB k a n false) (bH l c)) H) :
  aI Tryz.prog 14 [.ref 3100 0 0 0,.mp 950 0,.pv (aW P)] H (fun r H'=>r=iv (wL k n l2 P)∧∃ d' n' l' c',St N k tl d' a n' l' c' (if wL k n l2 P=0 then oF C l2 (fH P)else C)∧n'=(if uT k n false l2 P = -1 then n+cM (a8 l2 (fH P))else n)∧H'=(950,bH l2 c2)::ES d' (uB k a n' false) (bH l' c')++H):=by
 refine(H9 (g5 h hk l2 c2 P hst2 hnd2 hl2 hP) (args':=[.ref 3100 0 0 0,.mp 950 0,.pv (aW P)]) rfl (EW d k a n false l l2 c c2) hs (KN _ _ _ _ _ _ _ _ _) (by simp;exact⟨rfl,rfl⟩) ?_).mono ?_
 ·rintro r K ⟨rfl,d',n',l',c',q1,q2,rfl⟩ id hid;rw [EW] at hid;rcases VW hid with rfl|rfl|rfl|rfl|rfl|rfl|rfl<;>exact .inl rfl
 rintro r H' ⟨r0,K,⟨rfl,d',n',l',c',q1,q2,rfl⟩,rfl,rfl⟩;exact⟨rfl,d',n',l',c',q1,q2,by rw [EW]⟩
theorem S4 {N k:Nat} {tl:List ByteArray} {d:DSt} {a n:Nat} {l:bN} {c:Nat} {C:CT} (h:St N k tl d a n l c C) (hk:k < 4000) (H:aA) (hs:Sub (ES d (uB k a n false) (bH l c)) H) :
  aI Tryz.prog 21 [.ref 3100 0 0 0] H (fun r H'=>r=iv (LH k l)∧∃ d' a' n',St N k tl d' a' n' l c C∧(LH k l=0→d'.cells=gR k (bW l) tl)∧H'=ES d' (uB k a' n' false) (bH l c)++H):=by
 refine(H9 (mG h hk) (args':=[.ref 3100 0 0 0]) rfl (oQ d k a n false l c) hs (ER _ _ _ _ _ _ _) (by simp;rfl) ?_).mono ?_
 ·rintro r K ⟨rfl,d',a',n',q1,q2,rfl⟩ id hid;rw [oQ] at hid;rcases TH hid with rfl|rfl|rfl|rfl|rfl|rfl<;>exact .inl rfl
 rintro r H' ⟨r0,K,⟨rfl,d',a',n',q1,q2,rfl⟩,rfl,rfl⟩;exact⟨rfl,d',a',n',q1,q2,by rw [oQ]⟩
theorem VU (d:DSt) (hd:DOk d) (H:aA) (hs:Sub (jQ d) H):aI Tryz.prog 22 [.ref 3000 0 0 0] H (fun r H'=>r=sv (g7 d)∧H'=H):=by have h:=aI.ren (ρ:=w7) GO (G3 d hd) (args':=[.ref 3000 0 0 0]) (r':=sv (g7 d)) rfl (lO d) rfl (lO d);exact aI.frameS h hs (pM d) (by simp;rfl)
abbrev tA:ByteArray:=⟨#[97]⟩
abbrev tB:ByteArray:=⟨#[98]⟩
abbrev tC:ByteArray:=⟨#[99]⟩
abbrev t1:ByteArray:=⟨#[49]⟩
abbrev t2:ByteArray:=⟨#[50]⟩
abbrev kB:bN×Nat:=dZ [(tB,t2)]
abbrev LI:bN×Nat:=dZ [(tA,t1),(tB,t2)]
theorem Q6 (x:ByteArray):cI kB.1 x=if tB=x then some t2 else none:=by rw [FL];rfl
theorem UW (x:ByteArray):cI LI.1 x=if tB=x then some t2 else if tA=x then some t1 else none:=by
 rw [FL];show ((if tB=x then some t2 else none).orElse fun _=>if tA=x then some t1 else none)=_
 split<;>rfl
theorem U4 (x:ByteArray):oF (oF (fun _=>none) LI.1 (fH [])) [] (fH [tA]) x=cI kB.1 x:=by
 have hAB:¬ tB=tA:=by decide
 rw [oF,oF,j1,W9 XR,Q6,UW];by_cases h:x∈fH [tA]
 ·rw [XA h];have:=oY.1 h;rw [XE] at this;subst this;rw [W9 hAB]
 rw [W9 h];have hx:¬ tA=x:=fun e=>h (oY.2 (by rw [e];exact XE.2 rfl));rw [W9 hx];show ((none:Option ByteArray).orElse fun _=>(if tB=x then some t2 else none).orElse fun _=>none)=_;by_cases h2:tB=x
 ·rw [XA h2];rfl
 rw [W9 h2];rfl
theorem V3 (x:ByteArray):oF (fun _=>none) kB.1 (fH []) x=cI kB.1 x:=by
 rw [oF,j1,W9 XR,Q6];by_cases h2:tB=x
 ·rw [XA h2];rfl
 rw [W9 h2];rfl
theorem Q5:cG kB.1=[tB]:=IR (List.pairwise_singleton _ _)
theorem CZ:cM (bW kB.1)≤1:=by
 have h:bW kB.1=a8 kB.1 []:=W9 (by decide);rw [h];exact lM (fun p hp=>by
  have:=rI hp;simp only [XE,Prod.mk.injEq] at this;rw [this.1,this.2];exact⟨XH 1,XH 1⟩) (fun s hs=>by cases hs) (by decide)
theorem H4:wL 9 0 LI.1 []=0:=wK (by decide) (by
 have h:cM (a8 LI.1 (fH []))≤1:=lM (fun p hp=>by
  have:=rI hp;simp only [XN,XR,or_false,Prod.mk.injEq] at this;rcases this with⟨e1,e2⟩|⟨e1,e2⟩<;>rw [e1,e2]<;>exact⟨XH 1,XH 1⟩) (fun s hs=>by rw [j1] at hs;cases hs) (by rw [j1];decide)
 omega)
theorem UT:(if uT 9 0 false LI.1 [] = -1 then 0+cM (a8 LI.1 (fH []))else 0)≤1:=by
 have h:cM (a8 LI.1 (fH []))≤1:=lM (fun p hp=>by
  have:=rI hp;simp only [XN,XR,or_false,Prod.mk.injEq] at this;rcases this with⟨e1,e2⟩|⟨e1,e2⟩<;>rw [e1,e2]<;>exact⟨XH 1,XH 1⟩) (fun s hs=>by rw [j1] at hs;cases hs) (by rw [j1];decide)
 split<;>omega
theorem SD:cM (a8 [] (fH [tA]))≤1:=lM (fun p hp=>by cases hp) (fun s hs=>by
  have:=oY.1 hs;rw [XE] at this;rw [this];exact XH 1) (by have:=rX [tA];have e:([tA]:List ByteArray).length=1:=rfl;have e0:([]:bN).length=0:=rfl;omega)
theorem HZ {n:Nat} (h:n≤1):wL 9 n [] [tA]=0:=wK (by decide) (by have:=SD;omega)
theorem US {n:Nat} (h:n≤1):(if uT 9 n false [] [tA] = -1 then n+cM (a8 [] (fH [tA]))else n)≤2:=by
 have:=SD
 split<;>omega
theorem HY:wL 9 0 kB.1 []=0:=wK (by decide) (by
 have h:cM (a8 kB.1 (fH []))≤1:=lM (fun p hp=>by
  have:=rI hp;simp only [XE,Prod.mk.injEq] at this;rw [this.1,this.2];exact⟨XH 1,XH 1⟩) (fun s hs=>by rw [j1] at hs;cases hs) (by rw [j1];decide)
 omega)
theorem GJ (n:Nat):(ofL (zB n)).size=n:=by rw [bR,zB,List.length_replicate]
theorem p5 (k v:ByteArray):(dZ [(k,v)]).1=[(k,v,0)]:=rfl
theorem xV {k v:ByteArray} (hk:eB k=true):bG (dZ [(k,v)]).1 []=if(20000:Int) < (v.size:Int)then 2 else 0:=by
 rw [p5,bG];show (if(((!eB k||RB [] k)||false)||false)=true then(1:Int)else if(decide ((20000:Int) < (v.size:Int))||false)=true then 2 else 0)=_;rw [hk];show (if false=true then(1:Int)else if(decide ((20000:Int) < (v.size:Int))||false)=true then 2 else 0)=_;rw [W9 Bool.false_ne_true,Bool.or_false];by_cases h:(20000:Int) < (v.size:Int)
 ·rw [XA (decide_eq_true h),XA h]
 rw [W9 (by rw [decide_eq_false h];decide),W9 h]
theorem eH {n:Nat} {v:ByteArray} (hv:v.size=20001):wL 9 n (dZ [(tC,v)]).1 []=2:=by
 have hw:bG (dZ [(tC,v)]).1 []=2:=by rw [xV (by decide),hv];rfl
 rw [KH (by rw [hw];decide),hw]
theorem eI {n:Nat} {v:ByteArray} (hv:v.size=500):wL 9 n (dZ [(tC,v)]).1 []=21:=by
 have hw:bG (dZ [(tC,v)]).1 []=0:=by rw [xV (by decide),hv];rfl
 refine OE hw (by rw [p5];exact Nat.zero_lt_one) ?_;have h:=L2 (l:=(dZ [(tC,v)]).1) (P:=fH []) (x:=tC) (by rw [p5];exact XE.2 rfl);have hg:dE (dZ [(tC,v)]).1 tC=v:=by
  rw [p5];show (if tC=tC then v else _)=v;rw [XA rfl]
 rw [hg,hv] at h;rw [cM];omega
theorem C4 (n:Nat):((List.replicate n [AV.pv (.int .u8 0)]).drop 0).take n=bD (zB n):=by rw [List.drop_zero,List.take_of_length_le (by rw [List.length_replicate];exact XH _),bD,zB,List.map_replicate];rfl
theorem RL {a b:DSt} (h:a.cells=b.cells):g7 a=g7 b:=by rw [g7,g7,h]
theorem KD {d:DSt} {N:Nat} (h:Calm d N):(g7 d).size=64*N:=by
 have:(g7 d).size=(flat d.cells).length:=by rw [← cR,g7]
 rw [this,j9 h.inv.ok.c,h.inv.n]
theorem NO (H:aA):aI Tryz.prog 10 [] H (fun r H'=>r=bv true∧H'=H):=by
 refine Pu ?_;have hop:=lQ (k:=9) (oH (n:=20) (by omega) (by omega)) (nN (by omega)) (by omega) rfl;have hz1:=GJ 20001;have hz2:=GJ 500;have hb1:=C4 20001;have hb2:=C4 500;have hnew:=HD 20 (by omega) (by omega);obtain ⟨tl,htl⟩:∃ tl,tl=(jK 20).cells.drop (2*9+2):=⟨_,rfl⟩;have hst0:∀ {l:bN} {c:Nat},dL l c→eV l→(∀ x,cI l x=none)→St 20 9 tl (jK 20) 0 0 l c (fun _=>none):=fun q1 q2 q3=>by
  rw [htl];exact EF (N:=20) (by omega) (by omega) q1 q2 q3
 clear htl;have hd3:=fun H k0 k1 k2 k3=>VV 20 (by omega) (by omega) H k0 k1 k2 k3;have hop3:=fun H hs k4 k5=>UP (k:=9) (oH (n:=20) (by omega) (by omega)) (nN (by omega)) (by omega) rfl H hs k4 k5;obtain ⟨z1,hzz1⟩:∃ z,z=zB 20001:=⟨_,rfl⟩;obtain ⟨z2,hzz2⟩:∃ z,z=zB 500:=⟨_,rfl⟩;rw [← hzz1] at hz1 hb1;rw [← hzz2] at hz2 hb2;clear hzz1 hzz2;obtain ⟨e0,he0⟩:∃ e,e=jK 20:=⟨_,rfl⟩;rw [← he0] at hop hnew hst0 hd3 hop3;clear he0;refine Bd func10 rfl ntmps10<|Sr<|Dd aQ<|Zz<|Sr<|Dd (by exact aB rfl rfl PX rfl (hnew))<|Dd aQ<|Zz<|Sr<|Dm ?_;refine fR rfl rfl (aB rfl rfl BP rfl hop) ?_;rintro _ _ ⟨rfl,l0,c0,q1,q2,q3,q4,rfl⟩;have hS0:=hst0 q1 q2 q4;clear q1 q2 q3 q4 hop hnew;refine Dd aE<|Dd dO<|Dd dO<|Dd aQ<|Dd aQ<|Zz<|Sr<|Dd aE<|Dd (by exact gY (id:=950) eT rfl rfl)<|Uu (by exact gZ (κ:=eT) (l:=bM []) (k:=tA) (v:=sv t1) (.inr rfl) aU aJ rfl (get_cons_same _ _ _) rfl rfl rfl rfl rfl (mQ _ _ _ _) (oV _ _ _))<|Uu (by exact gZ (κ:=eT) (l:=bM (dZ [(tA,t1)]).1) (k:=tB) (v:=sv t2) (.inr rfl) aU aJ rfl (get_cons_same _ _ _) rfl rfl rfl rfl rfl (mQ _ _ _ _) (oV _ _ _))<|Dm ?_;refine jS (E':=[(1,.ref 1000 0 0 0),(2,.ref 1100 0 0 0),(3,iv 0),(28,.ref 1100 0 0 0),(30,.mp 950 0)]) (H':=(950,bH LI.1 LI.2)::sH e0 (bZ 9 0 0 false) (bH l0 c0)) (bX.wk (Ea<|Ea<|Eb<|Ea<|Ea<|trivial) (Hc (aS _ _ _)<|Hc (aF _ _ rfl rfl rfl)<|Hc (aC _ _)<|Hc (aL _ _ _)<|Hc (aK _ _)<|Hc (bA rfl rfl)<|Hc (aS _ _ _)<|trivial) trivial) ?_;refine fR rfl rfl (aB rfl rfl nJ rfl (g5 hS0 (by omega) LI.1 LI.2 [] (fZ _).1 (fZ _).2 (by decide) (by decide))) ?_;rintro _ _ ⟨rfl,d1,n1,l1,c1,hS1,hn1,rfl⟩;rw [H4,XA rfl] at hS1;rw [H4];have hn1:n1≤1:=by rw [hn1];exact UT
 clear hS0;refine Dd aQ<|Zz<|Sr<|Dd aE<|Dd (by exact bF [[.str tA]] rfl b5 rfl rfl rfl rfl rfl (by simp)) ?_;refine jS (E':=[(1,.ref 1000 0 0 0),(2,.ref 1100 0 0 0),(3,iv 0),(4,iv 0),(32,.ref 1100 0 0 0),(33,.pv (aW [tA]))]) (H':=sH d1 (bZ 9 0 n1 false) (bH l1 c1)) (bX.wk (Ea<|Ea<|Eb<|Eb<|Ea<|Eb<|trivial) (Hc (aF _ _ rfl rfl rfl)<|Hc (aC _ _)<|Hc (aL _ _ _)<|Hc (aK _ _)<|Hc (bA rfl rfl)<|Hc (aS _ _ _)<|trivial) trivial) ?_;refine fR rfl rfl (aB rfl rfl nJ rfl (BE hS1 (by omega) [tA] (by decide))) ?_;rintro _ _ ⟨rfl,d2,n2,l2,c2,hS2,hn2,rfl⟩;rw [HZ hn1,XA rfl] at hS2;rw [HZ hn1];have hn2:n2≤2:=by rw [hn2];exact US hn1
 clear hS1 hn1;obtain ⟨C,hC⟩:∃ C,C=oF (oF (fun _=>none) LI.1 (fH [])) [] (fH [tA]):=⟨_,rfl⟩;have hCB:∀ x,C x=cI kB.1 x:=fun x=>by rw [hC];exact U4 x
 rw [← hC] at hS2;clear hC;have hgA:=FR d2 9 0 n2 false l2 c2 tA;have hgB:=FR d2 9 0 n2 false l2 c2 tB;have kA:cI l2 tA=none:=by rw [hS2.kv,hCB,Q6,W9 (by decide)]
 have kBv:cI l2 tB=some t2:=by rw [hS2.kv,hCB,Q6,XA rfl]
 rw [oS,kA] at hgA;rw [oS,kBv] at hgB;refine Dd aQ<|Zz<|Sr<|Dd aE<|Dd (by exact aB rfl rfl WT rfl (hgA))<|Dd aE<|Dd dO<|Dd dO<|Dd aQ<|Dd aQ<|Zz<|Sr<|Dd aE<|Dd (by exact aB rfl rfl WT rfl (hgB))<|Dd aE<|Dd dO<|Dd dO<|Dd aQ<|Dd aQ<|Zz<|Sr<|Dd aE<|Dd (by exact jC (id:=960) rfl B9 UY VE rfl rfl rfl (by decide) (by decide) rfl rfl (by decide) rfl)<|Dd (by exact gI rfl bU bQ aJ rfl rfl rfl rfl hb1 rfl)<|Dd (by exact aB rfl rfl WU rfl (M1 tC (ofL z1) _ rfl)) ?_;refine jS (E':=[(1,.ref 1000 0 0 0),(2,.ref 1100 0 0 0),(3,iv 0),(4,iv 0),(5,iv 0),(7,bv false),(8,sv t2),(9,bv true),(45,.ref 1100 0 0 0),(48,.mp 950 0)]) (H':=(950,bH (dZ [(tC,ofL z1)]).1 (dZ [(tC,ofL z1)]).2)::sH d2 (bZ 9 0 n2 false) (bH l2 c2)) (bX.wk (Ea<|Ea<|Eb<|Eb<|Eb<|Eb<|Eb<|Eb<|Ea<|Ea<|trivial) (Hc (aS _ _ _)<|Hc (aF _ _ rfl rfl rfl)<|Hc (aC _ _)<|Hc (aL _ _ _)<|Hc (aK _ _)<|Hc (bA rfl rfl)<|Hc (aS _ _ _)<|trivial) trivial) ?_;refine fR rfl rfl (aB rfl rfl nJ rfl (g5 hS2 (by omega) (dZ [(tC,ofL z1)]).1 (dZ [(tC,ofL z1)]).2 [] (fZ _).1 (fZ _).2 (by rw [p5];exact XO rfl) (by decide))) ?_;rintro _ _ ⟨rfl,d3,n3,l3,c3,hS3,hn3,rfl⟩;rw [eH hz1,W9 (by decide)] at hS3;rw [eH hz1];clear hS2 hgA hgB kA kBv;refine jS (E':=[(1,.ref 1000 0 0 0),(2,.ref 1100 0 0 0),(3,iv 0),(4,iv 0),(5,iv 0),(7,bv false),(8,sv t2),(9,bv true),(49,iv 2)]) (H':=sH d3 (bZ 9 0 n3 false) (bH l3 c3)) (bX.wk (Ea<|Ea<|Eb<|Eb<|Eb<|Eb<|Eb<|Eb<|Eb<|trivial) (Hc (aF _ _ rfl rfl rfl)<|Hc (aC _ _)<|Hc (aL _ _ _)<|Hc (aK _ _)<|Hc (bA rfl rfl)<|Hc (aS _ _ _)<|trivial) trivial) ?_;refine Dd aQ<|Zz<|Sr<|Dd aE<|Dd (by exact jC (id:=960) rfl B9 UY VE rfl rfl rfl (by decide) (by decide) rfl rfl (by decide) rfl)<|Dd (by exact gI rfl bU bQ aJ rfl rfl rfl rfl hb2 rfl)<|Dd (by exact aB rfl rfl WU rfl (M1 tC (ofL z2) _ rfl)) ?_;refine jS (E':=[(1,.ref 1000 0 0 0),(2,.ref 1100 0 0 0),(3,iv 0),(4,iv 0),(5,iv 0),(7,bv false),(8,sv t2),(9,bv true),(10,iv 2),(50,.ref 1100 0 0 0),(53,.mp 950 0)]) (H':=(950,bH (dZ [(tC,ofL z2)]).1 (dZ [(tC,ofL z2)]).2)::sH d3 (bZ 9 0 n3 false) (bH l3 c3)) (bX.wk (Ea<|Ea<|Eb<|Eb<|Eb<|Eb<|Eb<|Eb<|Eb<|Ea<|Ea<|trivial) (Hc (aS _ _ _)<|Hc (aF _ _ rfl rfl rfl)<|Hc (aC _ _)<|Hc (aL _ _ _)<|Hc (aK _ _)<|Hc (bA rfl rfl)<|Hc (aS _ _ _)<|trivial) trivial) ?_;refine fR rfl rfl (aB rfl rfl nJ rfl (g5 hS3 (by omega) (dZ [(tC,ofL z2)]).1 (dZ [(tC,ofL z2)]).2 [] (fZ _).1 (fZ _).2 (by rw [p5];exact XO rfl) (by decide))) ?_;rintro _ _ ⟨rfl,d4,n4,l4,c4,hS4,hn4,rfl⟩;rw [eI hz2,W9 (by decide)] at hS4;rw [eI hz2];clear hS3 hn3 hn4;have hw4:bW l4=bW kB.1:=mE hS4.nd (fZ _).2 fun x=>by rw [hS4.kv,hCB]
 have hsc4:LH 9 l4=0:=W9 (by rw [hw4];have:=CZ;omega);refine Dd aQ<|Zz<|Sr<|Dm ?_;refine jS (E':=[(1,.ref 1000 0 0 0),(3,iv 0),(4,iv 0),(5,iv 0),(7,bv false),(8,sv t2),(9,bv true),(10,iv 2),(11,iv 21),(55,.ref 1100 0 0 0)]) (H':=sH d4 (bZ 9 0 n4 false) (bH l4 c4)) (bX.wk (Ea<|Eb<|Eb<|Eb<|Eb<|Eb<|Eb<|Eb<|Eb<|Ea<|trivial) (Hc (aF _ _ rfl rfl rfl)<|Hc (aC _ _)<|Hc (aL _ _ _)<|Hc (aK _ _)<|Hc (bA rfl rfl)<|Hc (aS _ _ _)<|trivial) trivial) ?_;refine fR rfl rfl (aB rfl rfl BO rfl (mG hS4 (by omega))) ?_;rintro _ _ ⟨rfl,d5,a5,n5,hS5,hcan5,rfl⟩;have hcan5:=hcan5 hsc4;rw [hw4] at hcan5;rw [hsc4];clear hS4 hsc4 hw4;have hraw5:=BA (o:=bZ 9 a5 n5 false) (m:=bH l4 c4) (G3 d5 hS5.calm.inv.ok) (by simp;rfl);refine Dd aQ<|Zz<|Sr<|Dd aE<|Dd (by exact aB rfl rfl PW rfl (hraw5))<|Dd aQ<|Zz<|Sr<|Dm ?_;refine jS (E':=[(1,.ref 1000 0 0 0),(3,iv 0),(4,iv 0),(5,iv 0),(7,bv false),(8,sv t2),(9,bv true),(10,iv 2),(11,iv 21),(12,iv 0),(13,sv (g7 d5)),(60,.ref 1000 0 0 0)]) (H':=aZ d5) (bX.wk (Ea<|Eb<|Eb<|Eb<|Eb<|Eb<|Eb<|Eb<|Eb<|Eb<|Eb<|Ea<|trivial) (Hc (aF _ _ rfl rfl rfl)<|Hc (aC _ _)<|Hc (aL _ _ _)<|Hc (aK _ _)<|trivial) trivial) ?_;refine fR rfl rfl (aB rfl rfl BP rfl (lQ hS5.calm hS5.inv (by omega) rfl)) ?_;rintro _ _ ⟨rfl,l6,c6,q1,q2,q3,q4,rfl⟩;have hk6:cG l6=[tB]:=(x4 q2 (fZ _).2 fun x=>by rw [q4,hCB]).trans Q5;have hl6:l6.length < 1099511627776:=by have:=hS5.inv.nk;omega
 have hd5:(g7 d5).size=1280:=KD hS5.calm;have hkey:=HN d5 9 a5 n5 false l6 c6 q1 hl6;rw [hk6] at hkey;clear hS5 hraw5 q2 q3 q4;refine Dd aE<|Dd dO<|Dd dO<|Dd aQ<|Dd aQ<|Zz<|Sr<|Dd (by exact aB rfl rfl PX rfl (hd3 _ rfl rfl rfl rfl))<|Dd aQ<|Zz<|Sr<|Dm ?_;refine fR rfl rfl (aB rfl rfl BP rfl (hop3 _ (oN _ _) rfl rfl)) ?_;rintro _ _ ⟨rfl,l7,c7,p1,p2,p3,p4,rfl⟩;have hS7:=hst0 p1 p2 p4;clear p1 p2 p3 p4 hd3 hop3 hst0;refine Dd aE<|Dd dO<|Dd dO<|Dd aQ<|Dd aQ<|Zz<|Sr<|Dd aE<|Dd (by exact aB rfl rfl WU rfl (M1 tB t2 _ rfl)) ?_;refine jS (E':=[(3,iv 0),(4,iv 0),(5,iv 0),(7,bv false),(8,sv t2),(9,bv true),(10,iv 2),(11,iv 21),(12,iv 0),(13,sv (g7 d5)),(14,.ref 1100 0 0 0),(15,iv 0),(16,.ref 3000 0 0 0),(17,.ref 3100 0 0 0),(18,iv 0),(70,.ref 3100 0 0 0),(71,.mp 950 0)]) (H':=((950,bH kB.1 kB.2)::ES e0 (uB 9 0 0 false) (bH l7 c7))++sH d5 (bZ 9 a5 n5 false) (bH l6 c6)) (bX.wk (Eb<|Eb<|Eb<|Eb<|Eb<|Eb<|Eb<|Eb<|Eb<|Eb<|Ea<|Eb<|Ea<|Ea<|Eb<|Ea<|Ea<|trivial) (Hc (aS _ _ _)<|Hc (kC _ _ rfl rfl rfl)<|Hc (aC _ _)<|Hc (aL _ _ _)<|Hc (aK _ _)<|Hc (zW rfl rfl)<|Hc (aS _ _ _)<|Hc (aF _ _ rfl rfl rfl)<|Hc (aC _ _)<|Hc (aL _ _ _)<|Hc (aK _ _)<|Hc (bA rfl rfl)<|Hc (aS _ _ _)<|trivial) trivial) ?_;refine fR rfl rfl (aB rfl rfl nJ rfl (RQ hS7 (by omega) kB.1 kB.2 [] (fZ _).1 (fZ _).2 (by rw [p5];exact XO rfl) (by decide) _ (oN _ _))) ?_;rintro _ _ ⟨rfl,d8,n8,l8,c8,hS8,hn8,rfl⟩;rw [HY,XA rfl] at hS8;rw [HY];have hw8:bW l8=bW kB.1:=mE hS8.nd (fZ _).2 fun x=>by rw [hS8.kv,V3]
 have hsc8:LH 9 l8=0:=W9 (by rw [hw8];have:=CZ;omega);clear hS7 hn8;refine Dd aQ<|Zz<|Sr<|Dm ?_;refine jS (E':=[(3,iv 0),(4,iv 0),(5,iv 0),(7,bv false),(8,sv t2),(9,bv true),(10,iv 2),(11,iv 21),(12,iv 0),(13,sv (g7 d5)),(14,.ref 1100 0 0 0),(15,iv 0),(16,.ref 3000 0 0 0),(18,iv 0),(19,iv 0),(73,.ref 3100 0 0 0)]) (H':=ES d8 (uB 9 0 n8 false) (bH l8 c8)++sH d5 (bZ 9 a5 n5 false) (bH l6 c6)) (bX.wk (Eb<|Eb<|Eb<|Eb<|Eb<|Eb<|Eb<|Eb<|Eb<|Eb<|Ea<|Eb<|Ea<|Eb<|Eb<|Ea<|trivial) (Hc (kC _ _ rfl rfl rfl)<|Hc (aC _ _)<|Hc (aL _ _ _)<|Hc (aK _ _)<|Hc (zW rfl rfl)<|Hc (aS _ _ _)<|Hc (aF _ _ rfl rfl rfl)<|Hc (aC _ _)<|Hc (aL _ _ _)<|Hc (aK _ _)<|Hc (bA rfl rfl)<|Hc (aS _ _ _)<|trivial) trivial) ?_;refine fR rfl rfl (aB rfl rfl BO rfl (S4 hS8 (by omega) _ (oN _ _))) ?_;rintro _ _ ⟨rfl,d9,a9,n9,hS9,hcan9,rfl⟩;have hcan9:=hcan9 hsc8;rw [hw8] at hcan9;rw [hsc8];clear hS8 hsc8 hw8;have hreq:g7 d5=g7 d9:=RL (hcan5.trans hcan9.symm);refine jS (E':=[(3,iv 0),(4,iv 0),(5,iv 0),(7,bv false),(8,sv t2),(9,bv true),(10,iv 2),(11,iv 21),(12,iv 0),(13,sv (g7 d5)),(14,.ref 1100 0 0 0),(15,iv 0),(16,.ref 3000 0 0 0),(18,iv 0),(19,iv 0),(74,iv 0)]) (H':=sH d5 (bZ 9 a5 n5 false) (bH l6 c6)++jQ d9) (bX.wk (Eb<|Eb<|Eb<|Eb<|Eb<|Eb<|Eb<|Eb<|Eb<|Eb<|Ea<|Eb<|Ea<|Eb<|Eb<|Eb<|trivial) (Hc (aF _ _ rfl rfl rfl)<|Hc (aC _ _)<|Hc (aL _ _ _)<|Hc (aK _ _)<|Hc (bA rfl rfl)<|Hc (aS _ _ _)<|Hc (kC _ _ rfl rfl rfl)<|Hc (aC _ _)<|Hc (aL _ _ _)<|Hc (aK _ _)<|trivial) trivial) ?_;have hkey:=aI.frameS (H:=sH d5 (bZ 9 a5 n5 false) (bH l6 c6)++jQ d9) hkey (oN _ _) (oO _ _ _ _ _ _ _) (by simp;rfl);have hraw9:=VU d9 hS9.calm.inv.ok (sH d5 (bZ 9 a5 n5 false) (bH l6 c6)++jQ d9) (fun j o h=>by rcases UV (d:=d9) (id:=j) (by rw [h];rfl)with rfl|rfl|rfl|rfl<;>exact h);have hsame:=CC [tB] [tB] (sH d5 (bZ 9 a5 n5 false) (bH l6 c6)++jQ d9) (by decide) (by decide);rw [decide_eq_true rfl] at hsame;refine Dd aQ<|Zz<|Sr<|Dd aE<|Dd gA<|Dd aE<|On aE<|On gA<|Dd dW<|Dd aE<|On aE<|On gA<|Dd dW<|Dd aE<|On aE<|On sA<|Dd dW<|Dd aE<|On aE<|Dd dW<|Dd aE<|On aE<|On S3<|Dd dW<|Dd aE<|On aE<|On gA<|Dd dW<|Dd aE<|On aE<|On gA<|Dd dW<|Dd aE<|On aE<|On gA<|Dd dW<|Dd aE<|On aE<|On gA<|Dd dW<|Dd aE<|On aE<|On (by exact aB rfl rfl call19 rfl (hkey))<|On (by exact bF [[.str tB]] rfl b5 rfl rfl rfl rfl rfl (by simp))<|On (by exact aB rfl rfl WV rfl (hsame))<|Dd dW<|Dd aQ<|Zz<|Sq ?_;have h135:AV.pv (.bool (decide (g7 d5=g7 d9)))=bv true:=by rw [decide_eq_true hreq]
 have h140:AV.pv (.bool (decide (((g7 d5).size:Int)=1280)))=bv true:=by rw [hd5];rfl
 exact Rg<|Dd aE<|Dd aE<|On aE<|On gA<|Dd dW<|Dd aE<|On aE<|On gA<|Dd dW<|Dd aE<|On aE<|On gA<|Dd dW<|Dd aE<|On aE<|On aE<|On (by exact aB rfl rfl PW rfl (hraw9))<|On (by exact bP.eqv (fP rfl rfl rfl) h135)<|Dd dW<|Dd aE<|On aE<|On (xO aJ)<|On (by exact bP.eqv (mK rfl rfl rfl) h140)<|Dd dW<|Dd aQ<|Zz<|aM<|Rt<|Qq
end Go.Proofs.YtmkgeogoojcciaaGreatDoor
