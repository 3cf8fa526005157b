/-
  Parts of the proof: rules of an abstract program logic, contracts of functions, plain laws. Conditions: each theorem's own.
-/
import Derived.Test.YtiifmppaejpemaaGreatDoorKR2M11
set_option linter.unusedVariables false
set_option linter.unusedSimpArgs false
set_option maxRecDepth 100000
set_option maxHeartbeats 8000000
namespace Go.Proofs
theorem aFh:type_of% Tryz.call22:=Tryz.call22
theorem aFc:type_of% Tryz.call91:=Tryz.call91
theorem aNO:type_of% Tryz.isAgg37:=Tryz.isAgg37
theorem WN:type_of% Tryz.sizeOf37:=Tryz.sizeOf37
end Go.Proofs
namespace Go.Proofs.YtiifmppaejpemaaGreatDoor
open Go.Proofs.Tryz
open Go.Abs
theorem TB.mono {P:Program} {F:FuncId} {args:List AV} {H:aB} {u:FrameMode} {K K':aB→Prop} (h:TB P F args H u K) (hk:∀ H,K H→K' H):TB P F args H u K' :=fun I ι w vs h1 h2 h3=>(h I ι w vs h1 h2 h3).mono fun _ _ _ ⟨v,H',I',ι',e,s,q,r⟩=>⟨v,H',I',ι',e,s,hk _ q,r⟩
def PQ (t:List UInt8) (r:AV) (H:aB):Prop:=r=.tup [av (cF (jM t).1),iv (jM t).2]∧H=[]
abbrev dE:cB:=[(2,.ref 2 0 0 0),(3,.ref 3 0 0 0)]
theorem VP (x:GRec) (e:Int) {t:List UInt8} (hg:jM t=(x,e)):∃ r,(∀ (a:Act) (w:World) (I:Nat→Prop) (ι:eS),Rel I ι (XQ x e) w→iO w I ι (XQ x e) dE a→∃ v,(results f15 a.tmps).run Tryz.prog w=.ok v w∧VRel w I ι (XQ x e) v r)∧∃ r' H3,Fin [] (XQ x e) r H3 r'∧PQ t r' H3 :=⟨.tup [av (cF x),iv e],aMg rfl (XF bD aQ) (gA rfl kG rfl rfl rfl rfl),_,[],Fin.wk (by simp [cF]) trivial trivial,by rw [PQ,hg];exact⟨rfl,rfl⟩⟩
theorem oV {t:List UInt8} {ch:GK} {E1:cB} {H2:aB} (ht:¬ 20000 < t.length) (hok:sH t=false) (he:ch=DP) (h2:E1.get 2=some (.ref 2 0 0 0)) (h3:E1.get 3=some (.ref 3 0 0 0)) (s2:∃ o,H2.get 2=some o∧jX o rAJ) (s3:∃ o,H2.get 3=some o∧jX o eAJ) :
  aAh Tryz.prog f15 [] (XQ zR 0) 50 dcJ (PQ t) (.panic ch) E1 H2:=by
 subst he;have hg:jM t=(zR,5):=by rw [jM,aNx ht,aNx (by rw [hok];rintro⟨h,_⟩;cases h)]
 refine⟨.panicking DP,dE,pAJ,.inr ⟨DP,rfl,rfl⟩,cY.toAny (fun u v hu=>?_) (fun id o' ho'=>?_) (fun id hi=>?_),TB.mono aJD fun H hH=>by subst hH;exact VP zR 5 hg⟩
 ·have hm:=gD hu;simp only [aOL,aOP,or_false,Prod.mk.injEq] at hm;rcases hm with⟨rfl,rfl⟩|⟨rfl,rfl⟩
  ·exact⟨h2,by simp;rfl⟩
  exact⟨h3,by simp;rfl⟩
 ·have hm:=dW ho';simp only [aOL,aOP,or_false,Prod.mk.injEq] at hm;rcases hm with⟨rfl,rfl⟩|⟨rfl,rfl⟩
  ·obtain ⟨o,k1,k2⟩:=s3;exact⟨o,k1,k2,by simp⟩
  obtain ⟨o,k1,k2⟩:=s2;exact⟨o,k1,k2,by simp⟩
 by_cases e3:3=id
 ·subst e3;rfl
 by_cases e2:2=id
 ·subst e2;rfl
 simp [aB.get,kE e3,kE e2] at hi
theorem PG {t:List UInt8} {x:GRec} {e:Int} {E1:cB} {H2:aB} (hg:jM t=(x,e)) (hE:cY (XQ zR 0) E1 H2 dE (XQ x e)):aAh Tryz.prog f15 [] (XQ zR 0) 50 dcJ (PQ t) .ret E1 H2 :=⟨.returning,dE,XQ x e,.inl ⟨.inr rfl,rfl⟩,hE,TB.mono (aJC x e) fun H hH=>by subst hH;exact VP x e hg⟩
theorem JQ {x:GRec} {o:Ob} (h:jX (rOJ x) o):jX o rAJ:=⟨h.1.symm,h.2.1.symm,h.2.2.1.symm,h.2.2.2.symm⟩
theorem B8 {e:Int} {o:Ob} (h:jX (eOJ e) o):jX o eAJ:=⟨h.1.symm,h.2.1.symm,h.2.2.1.symm,h.2.2.2.symm⟩
theorem RL (x:GRec):jX (rOJ x) rAJ:=⟨rfl,rfl,rfl,rfl⟩
theorem RK (e:Int):jX (eOJ e) eAJ:=⟨rfl,rfl,rfl,rfl⟩
theorem aD4 (t:List UInt8) (hts:t.length < 1099511627776) (H:aB):aI Tryz.prog 15 [sv (ofL t)] H (fun r H'=>r=.tup [av (cF (jM t).1),iv (jM t).2]∧H'=H):=by
 refine aI.pure (show aI Tryz.prog 15 [sv (ofL t)] [] (PQ t)from ?_) (by simp) H;have hls:(ofL t).size=t.length:=dA t;refine aI.bodyD func15 rfl ntmps15 (aOM rfl) ?_;refine aA2 ?_;refine Rg<|Dd (by exact bU (id:=2) rfl NH rfl rfl)<|Dd (by exact bU (id:=3) rfl aIc rfl rfl)<|Zz ?_;refine aA2 ?_;refine Sr<|Dd aF<|Dd (lH underlying9)<|Dd jE<|Zz ?_;refine Cn ?_ ?_<;>intro hc1
 ·have hb:20000 < t.length:=by have:=aNv hc1;omega
  have hg:jM t=(zR,2):=by rw [jM,aNy hb]
  refine Sr<|Dd (uQ WA)<|Uu (kQ aQ)<|Uu (kQ sizeOf41)<|Zz<|aC ?_;refine uM (H':=[]) (.inr rfl) rfl (fV rfl bD aQ rfl rfl rfl (by simp only [Zl,encStr];rfl) rfl) (gA rfl kG rfl rfl rfl rfl) (Fin.wk (by simp [cF,NA]) trivial trivial) ?_;rw [PQ,hg];exact Qq
 have hb:¬ 20000 < t.length:=by have:=aNw hc1;omega
 refine aD ?_;refine aBs (F:=50) (cs:=dcJ) rfl rfl rfl rfl rfl rfl rfl rfl rfl call50 ?_;refine gK.mono (Q:=aAh Tryz.prog f15 [] (XQ zR 0) 50 dcJ (PQ t)) ?_ (fun _ _ _ h=>h);have t0:=aMs t;have n0:=aL3 t;have c0:=aDh t;have t1:=aMr t;have n1:=aLU t;have c1:=aDf t;have t2:=aMq t;have n2:=aLS t;have c2:=aDe t;have t3:=aMp t;have n3:=aLQ t;have c3:=aDd t;have t4:=aMo t;have n4:=aLO t;have c4:=XU t;have t5:=aMn t;have n5:=aLM t;have c5:=XT t;have t6:=aMm t;have n6:=aLK t;have c6:=XS t;have t7:=aMl t;have n7:=aLI t;have c7:=XR t;have t8:=aMk t;have n8:=aLG t;have c8:=aDc t;have t9:=aMj t;have n9:=aLE t;have c9:=aDb t;have t10:=aL2 t;have n10:=aJU t;have c10:=RZ t;have t11:=aL1 t;have n11:=aJS t;have c11:=RY t;have t12:=aL0 t;have n12:=aJQ t;have c12:=RX t;have t13:=aLZ t;have n13:=aJO t;have c13:=RW t;have t14:=aLY t;have n14:=aJM t;have c14:=RV t;have t15:=aLX t;have n15:=aJK t;have c15:=RU t;have t16:=aLW t;have n16:=aJI t;have c16:=RT t;have t17:=aLV t;have n17:=aJG t;have c17:=aGh t;have yes:=aGl t;have hok:=aDL (t:=t) (by omega);have hread:C3 t=⟨(p1 t).1,(p2 t).1,(p3 t).1,(p4 t).1,(p5 t).1,(p6 t).1,(mC (p7 t).1).1,(p8 t).1,decide ((p9 t).1=N4),(NT t).1,(NS t).1,(NR t).1,⟨(NQ t).1,(NP t).1,(NO t).1,(NN t).1,(p17 t).1⟩⟩:=rfl;have s7:(p7 t).1.size≤t.length:=aLH t;have hg0:jM t=if sH t=true∧pE (C3 t)=(ofL t,0)then(C3 t,0)else(zR,5):=by rw [jM,aNx hb]
 rw [hread] at hok hg0;obtain ⟨V0,hV0⟩:∃ v,v=(p0 t).1:=⟨_,rfl⟩;obtain ⟨L0,hL0⟩:∃ v,v=(p0 t).2:=⟨_,rfl⟩;obtain ⟨V1,hV1⟩:∃ v,v=(p1 t).1:=⟨_,rfl⟩;obtain ⟨L1,hL1⟩:∃ v,v=(p1 t).2:=⟨_,rfl⟩;obtain ⟨V2,hV2⟩:∃ v,v=(p2 t).1:=⟨_,rfl⟩;obtain ⟨L2,hL2⟩:∃ v,v=(p2 t).2:=⟨_,rfl⟩;obtain ⟨V3,hV3⟩:∃ v,v=(p3 t).1:=⟨_,rfl⟩;obtain ⟨L3,hL3⟩:∃ v,v=(p3 t).2:=⟨_,rfl⟩;obtain ⟨V4,hV4⟩:∃ v,v=(p4 t).1:=⟨_,rfl⟩;obtain ⟨L4,hL4⟩:∃ v,v=(p4 t).2:=⟨_,rfl⟩;obtain ⟨V5,hV5⟩:∃ v,v=(p5 t).1:=⟨_,rfl⟩;obtain ⟨L5,hL5⟩:∃ v,v=(p5 t).2:=⟨_,rfl⟩;obtain ⟨V6,hV6⟩:∃ v,v=(p6 t).1:=⟨_,rfl⟩;obtain ⟨L6,hL6⟩:∃ v,v=(p6 t).2:=⟨_,rfl⟩;obtain ⟨V7,hV7⟩:∃ v,v=(p7 t).1:=⟨_,rfl⟩;obtain ⟨L7,hL7⟩:∃ v,v=(p7 t).2:=⟨_,rfl⟩;obtain ⟨V8,hV8⟩:∃ v,v=(p8 t).1:=⟨_,rfl⟩;obtain ⟨L8,hL8⟩:∃ v,v=(p8 t).2:=⟨_,rfl⟩;obtain ⟨V9,hV9⟩:∃ v,v=(p9 t).1:=⟨_,rfl⟩;obtain ⟨L9,hL9⟩:∃ v,v=(p9 t).2:=⟨_,rfl⟩;obtain ⟨V10,hV10⟩:∃ v,v=(NT t).1:=⟨_,rfl⟩;obtain ⟨L10,hL10⟩:∃ v,v=(NT t).2:=⟨_,rfl⟩;obtain ⟨V11,hV11⟩:∃ v,v=(NS t).1:=⟨_,rfl⟩;obtain ⟨L11,hL11⟩:∃ v,v=(NS t).2:=⟨_,rfl⟩;obtain ⟨V12,hV12⟩:∃ v,v=(NR t).1:=⟨_,rfl⟩;obtain ⟨L12,hL12⟩:∃ v,v=(NR t).2:=⟨_,rfl⟩;obtain ⟨V13,hV13⟩:∃ v,v=(NQ t).1:=⟨_,rfl⟩;obtain ⟨L13,hL13⟩:∃ v,v=(NQ t).2:=⟨_,rfl⟩;obtain ⟨V14,hV14⟩:∃ v,v=(NP t).1:=⟨_,rfl⟩;obtain ⟨L14,hL14⟩:∃ v,v=(NP t).2:=⟨_,rfl⟩;obtain ⟨V15,hV15⟩:∃ v,v=(NO t).1:=⟨_,rfl⟩;obtain ⟨L15,hL15⟩:∃ v,v=(NO t).2:=⟨_,rfl⟩;obtain ⟨V16,hV16⟩:∃ v,v=(NN t).1:=⟨_,rfl⟩;obtain ⟨L16,hL16⟩:∃ v,v=(NN t).2:=⟨_,rfl⟩;obtain ⟨V17,hV17⟩:∃ v,v=(p17 t).1:=⟨_,rfl⟩;obtain ⟨L17,hL17⟩:∃ v,v=(p17 t).2:=⟨_,rfl⟩;simp only [← hV0,← hL0,← hV1,← hL1,← hV2,← hL2,← hV3,← hL3,← hV4,← hL4,← hV5,← hL5,← hV6,← hL6,← hV7,← hL7,← hV8,← hL8,← hV9,← hL9,← hV10,← hL10,← hV11,← hL11,← hV12,← hL12,← hV13,← hL13,← hV14,← hL14,← hV15,← hL15,← hV16,← hL16,← hV17,← hL17] at t0 n0 c0 t1 n1 c1 t2 n2 c2 t3 n3 c3 t4 n4 c4 t5 n5 c5 t6 n6 c6 t7 n7 c7 t8 n8 c8 t9 n9 c9 t10 n10 c10 t11 n11 c11 t12 n12 c12 t13 n13 c13 t14 n14 c14 t15 n15 c15 t16 n16 c16 t17 n17 c17 yes hok hg0 s7;clear hread hV0 hL0 hV1 hL1 hV2 hL2 hV3 hL3 hV4 hL4 hV5 hL5 hV6 hL6 hV7 hL7 hV8 hL8 hV9 hL9 hV10 hL10 hV11 hL11 hV12 hL12 hV13 hL13 hV14 hL14 hV15 hL15 hV16 hL16 hV17 hL17;have hpc:=fun H=>aD5 V7 H (by omega);obtain ⟨PE,hPE⟩:∃ v,v=mC V7:=⟨_,rfl⟩;rw [← hPE] at hpc hok hg0;clear hPE;obtain ⟨ED,EE⟩:=PE;simp only at hpc hok hg0;have htx:=fun H=>Q8 ⟨V1,V2,V3,V4,V5,V6,ED,V8,decide (V9=N4),V10,V11,V12,⟨V13,V14,V15,V16,V17⟩⟩ hok.1 hok.2 H;obtain ⟨TX,hTX⟩:∃ v,v=pE ⟨V1,V2,V3,V4,V5,V6,ED,V8,decide (V9=N4),V10,V11,V12,⟨V13,V14,V15,V16,V17⟩⟩:=⟨_,rfl⟩;rw [← hTX] at htx hg0;clear hTX hok;refine Sr<|Dd aF<|Dd (uQ aNI)<|Dd (by exact cH (id:=980) rfl rfl rfl rfl rfl)<|Dd (by exact bU (id:=4) rfl aM3 rfl rfl)<|Uu (kQ sizeOf85)<|Zz<|Sq ?_;refine gK.ent (E':=[(0,sv (ofL t)),(2,.ref 2 0 0 0),(3,.ref 3 0 0 0),(4,.ref 4 0 0 0)]) (H':=[(980,T8 t),(4,inO),(3,eOJ 0),(2,rOJ zR)]) (cY.wk (Eb<|Ea<|Ea<|Ea<|trivial) (Hb<|Ha<|Hb<|Hb<|trivial) ⟨rfl,rfl,trivial⟩) ?_;refine fK ?_;refine gL rfl rfl rfl (by exact aK rfl eB rfl rfl rfl rfl rfl) ?_
 refine S0 rfl rfl rfl (by exact eD rfl rfl kP rfl (((vW t (by omega)).tot t0 rfl (eZ _)).mono (PP':=fun ch H'=>sH t=false∧ch=DP∧∃ q,H'=kN q++_) (fun _ _ h=>h) (fun ch H' ⟨e,e2,e3⟩=>⟨n0 e,e2,e3⟩))) (fun ch H' h=>by obtain ⟨e,e2,q,rfl⟩:=h;exact oV hb e e2 rfl rfl ⟨_,rfl,RL _⟩ ⟨_,rfl,RK _⟩) (fun h16=>?_);refine KB ?_;refine Sq ?_;refine gK.ent (E':=[(0,sv (ofL t)),(2,.ref 2 0 0 0),(3,.ref 3 0 0 0),(4,.ref 4 0 0 0)]) (H':=[(980,T8 L0),(4,inO),(3,eOJ 0),(2,rOJ zR)]) (cY.wk (Eb<|Ea<|Ea<|Ea<|trivial) (Hb<|Ha<|Hb<|Hb<|trivial) ⟨rfl,rfl,trivial⟩) ?_;refine uL (fun ch H1 H2=>sH t=false∧ch=DP∧∃ q,H2=kN q++H1) [2,3] [2,3] [] rfl follows (fun ch E1 H1 H2 hts hsh hks ⟨e,e2,q,e3⟩=>by subst e3;obtain ⟨o2,k1,k2⟩:=hsh 2 (by simp) _ rfl;obtain ⟨o3,k3,k4⟩:=hsh 3 (by simp) _ rfl;exact oV hb e e2 ((hts 2 (by simp)).trans rfl) ((hts 3 (by simp)).trans rfl) ⟨o2,k1,JQ k2⟩ ⟨o3,k3,B8 k4⟩) ?_;refine cK (r:=⟨_,some [4],[]⟩) (DStep.plain rfl (fun H1 hH=>by exact(by exact aK rfl eB rfl ((hH _ rfl).trans rfl) rfl rfl rfl))) rfl ?_;refine rK (r:=⟨_,some [980],kN L1⟩) (.pan rfl (fun H1 hH=>by exact eD rfl rfl gW rfl (((lP L0 (by omega)).tot t1 ((hH 980 rfl).trans rfl) (eZ _)).mono (PP':=fun ch H'=>sH t=false∧ch=DP∧∃ q,H'=kN q++_) (fun _ _ h=>h) (fun ch H' ⟨e,e2,e3⟩=>⟨n1 e,e2,e3⟩)))) rfl ?_;refine cK (r:=⟨_,some [4],[]⟩) (DStep.plain rfl (fun H1 hH=>by exact(by exact aK rfl eB rfl ((hH _ rfl).trans rfl) rfl rfl rfl))) rfl ?_;refine rK (r:=⟨_,some [980],kN L2⟩) (.pan rfl (fun H1 hH=>by exact eD rfl rfl gW rfl (((lP L1 (by omega)).tot t2 ((hH 980 rfl).trans rfl) (eZ _)).mono (PP':=fun ch H'=>sH t=false∧ch=DP∧∃ q,H'=kN q++_) (fun _ _ h=>h) (fun ch H' ⟨e,e2,e3⟩=>⟨n2 e,e2,e3⟩)))) rfl ?_;refine cK (r:=⟨_,some [4],[]⟩) (DStep.plain rfl (fun H1 hH=>by exact(by exact aK rfl eB rfl ((hH _ rfl).trans rfl) rfl rfl rfl))) rfl ?_;refine rK (r:=⟨_,some [980],kN L3⟩) (.pan rfl (fun H1 hH=>by exact eD rfl rfl gW rfl (((lP L2 (by omega)).tot t3 ((hH 980 rfl).trans rfl) (eZ _)).mono (PP':=fun ch H'=>sH t=false∧ch=DP∧∃ q,H'=kN q++_) (fun _ _ h=>h) (fun ch H' ⟨e,e2,e3⟩=>⟨n3 e,e2,e3⟩)))) rfl ?_;refine cK (r:=⟨_,some [4],[]⟩) (DStep.plain rfl (fun H1 hH=>by exact(by exact aK rfl eB rfl ((hH _ rfl).trans rfl) rfl rfl rfl))) rfl ?_;refine rK (r:=⟨_,some [980],kN L4⟩) (.pan rfl (fun H1 hH=>by exact eD rfl rfl gW rfl (((lP L3 (by omega)).tot t4 ((hH 980 rfl).trans rfl) (eZ _)).mono (PP':=fun ch H'=>sH t=false∧ch=DP∧∃ q,H'=kN q++_) (fun _ _ h=>h) (fun ch H' ⟨e,e2,e3⟩=>⟨n4 e,e2,e3⟩)))) rfl ?_;refine cK (r:=⟨_,some [2],[]⟩) (DStep.plain rfl (fun H1 hH=>by exact(by exact bG rfl BM rfl ((hH _ rfl).trans rfl) rfl rfl))) rfl ?_;refine cK (r:=⟨_,some [2],[_]⟩) (DStep.plain rfl (fun H1 hH=>by exact(by exact bH rfl sizeOf3 rfl rfl rfl ((hH _ rfl).trans rfl) rfl rfl (aOM rfl) rfl rfl))) rfl ?_;refine cK (r:=⟨_,some [2],[]⟩) (DStep.plain rfl (fun H1 hH=>by exact(by exact bG rfl zG rfl ((hH _ rfl).trans rfl) rfl rfl))) rfl ?_
 refine cK (r:=⟨_,some [2],[_]⟩) (DStep.plain rfl (fun H1 hH=>by exact(by exact bH rfl sizeOf3 rfl rfl rfl ((hH _ rfl).trans rfl) rfl rfl (aOM rfl) rfl rfl))) rfl ?_;refine cK (r:=⟨_,some [2],[]⟩) (DStep.plain rfl (fun H1 hH=>by exact(by exact bG rfl qL rfl ((hH _ rfl).trans rfl) rfl rfl))) rfl ?_;refine cK (r:=⟨_,some [2],[_]⟩) (DStep.plain rfl (fun H1 hH=>by exact(by exact bH rfl sizeOf3 rfl rfl rfl ((hH _ rfl).trans rfl) rfl rfl (aOM rfl) rfl rfl))) rfl ?_;refine cK (r:=⟨_,some [2],[]⟩) (DStep.plain rfl (fun H1 hH=>by exact(by exact bG rfl zF rfl ((hH _ rfl).trans rfl) rfl rfl))) rfl ?_;refine cK (r:=⟨_,some [2],[_]⟩) (DStep.plain rfl (fun H1 hH=>by exact(by exact bH rfl sizeOf3 rfl rfl rfl ((hH _ rfl).trans rfl) rfl rfl (aOM rfl) rfl rfl))) rfl ?_;refine F0 ⟨⟨by kernel_rfl,by kernel_rfl,by kernel_rfl⟩,fun hF=>?_⟩;simp only [TA,true_and,and_true] at hF;refine Sq ?_;have f4:=hF;refine gK.ent (E':=[(0,sv (ofL t)),(2,.ref 2 0 0 0),(3,.ref 3 0 0 0),(4,.ref 4 0 0 0)]) (H':=[(980,T8 L4),(4,inO),(3,eOJ 0),(2,rOJ ⟨V1,V2,V3,V4,sNil,[],[],sNil,false,0,sNil,zS,⟨sNil,sNil,[],[],zS⟩⟩)]) (cY.wk (Eb<|Ea<|Ea<|Ea<|trivial) (Hb<|Ha<|Hb<|Hb<|trivial) ⟨rfl,rfl,trivial⟩) ?_;refine uL (fun ch H1 H2=>sH t=false∧ch=DP∧∃ q,H2=kN q++H1) [2,3] [2,3] [] rfl follows (fun ch E1 H1 H2 hts hsh hks ⟨e,e2,q,e3⟩=>by subst e3;obtain ⟨o2,k1,k2⟩:=hsh 2 (by simp) _ rfl;obtain ⟨o3,k3,k4⟩:=hsh 3 (by simp) _ rfl;exact oV hb e e2 ((hts 2 (by simp)).trans rfl) ((hts 3 (by simp)).trans rfl) ⟨o2,k1,JQ k2⟩ ⟨o3,k3,B8 k4⟩) ?_;refine cK (r:=⟨_,some [4],[]⟩) (DStep.plain rfl (fun H1 hH=>by exact(by exact aK rfl eB rfl ((hH _ rfl).trans rfl) rfl rfl rfl))) rfl ?_;refine rK (r:=⟨_,some [980],kN L5⟩) (.pan rfl (fun H1 hH=>by exact eD rfl rfl kP rfl (((vW L4 (by omega)).tot t5 ((hH 980 rfl).trans rfl) (eZ _)).mono (PP':=fun ch H'=>sH t=false∧ch=DP∧∃ q,H'=kN q++_) (fun _ _ h=>h) (fun ch H' ⟨e,e2,e3⟩=>⟨n5 e,e2,e3⟩)))) rfl ?_;refine cK (r:=⟨_,some [4],[]⟩) (DStep.plain rfl (fun H1 hH=>by exact(by exact aK rfl eB rfl ((hH _ rfl).trans rfl) rfl rfl rfl))) rfl ?_;refine cK (r:=⟨_,some [4],[]⟩) (DStep.plain rfl (fun H1 hH=>by exact(by exact aK rfl eB rfl ((hH _ rfl).trans rfl) rfl rfl rfl))) rfl ?_;refine cK (r:=⟨_,some [],[]⟩) (DStep.plain rfl (fun H1 hH=>by exact mR rfl rfl)) rfl ?_;refine rK (r:=⟨_,some [980],kN L6⟩) (.pan rfl (fun H1 hH=>by exact eD rfl rfl AP rfl (((SA L5 (by omega)).tot t6 ((hH 980 rfl).trans rfl) (eZ _)).mono (PP':=fun ch H'=>sH t=false∧ch=DP∧∃ q,H'=kN q++_) (fun _ _ h=>h) (fun ch H' ⟨e,e2,e3⟩=>⟨n6 e,e2,e3⟩)))) rfl ?_;refine cK (r:=⟨_,some [2],[]⟩) (DStep.plain rfl (fun H1 hH=>by exact(by exact bG rfl zE rfl ((hH _ rfl).trans rfl) rfl rfl))) rfl ?_;refine cK (r:=⟨_,some [2],[_]⟩) (DStep.plain rfl (fun H1 hH=>by exact(by exact bH rfl sizeOf9 rfl rfl rfl ((hH _ rfl).trans rfl) rfl rfl (aOM rfl) rfl rfl))) rfl ?_;refine cK (r:=⟨_,some [2],[]⟩) (DStep.plain rfl (fun H1 hH=>by exact(by exact bG rfl oI rfl ((hH _ rfl).trans rfl) rfl rfl))) rfl ?_
 refine cK (r:=⟨_,some [2],[_]⟩) (DStep.plain rfl (fun H1 hH=>by exact(by exact bH rfl sizeOf22 rfl rfl rfl ((hH _ rfl).trans rfl) rfl rfl (aOM rfl) rfl rfl))) rfl ?_;refine F0 ⟨⟨by kernel_rfl,by kernel_rfl,by kernel_rfl⟩,fun hF=>?_⟩;simp only [TA,true_and,and_true] at hF;refine Sq ?_;have f6:=hF;refine gK.ent (E':=[(0,sv (ofL t)),(2,.ref 2 0 0 0),(3,.ref 3 0 0 0),(4,.ref 4 0 0 0)]) (H':=[(980,T8 L6),(4,inO),(3,eOJ 0),(2,rOJ ⟨V1,V2,V3,V4,V5,V6,[],sNil,false,0,sNil,zS,⟨sNil,sNil,[],[],zS⟩⟩)]) (cY.wk (Eb<|Ea<|Ea<|Ea<|trivial) (Hb<|Ha<|Hb<|Hb<|trivial) ⟨rfl,rfl,trivial⟩) ?_;refine fK ?_;refine gL rfl rfl rfl (by exact aK rfl eB rfl rfl rfl rfl rfl) ?_;refine S0 rfl rfl rfl (by exact eD rfl rfl kP rfl (((vW L6 (by omega)).tot t7 rfl (eZ _)).mono (PP':=fun ch H'=>sH t=false∧ch=DP∧∃ q,H'=kN q++_) (fun _ _ h=>h) (fun ch H' ⟨e,e2,e3⟩=>⟨n7 e,e2,e3⟩))) (fun ch H' h=>by obtain ⟨e,e2,q,rfl⟩:=h;exact oV hb e e2 rfl rfl ⟨_,rfl,RL _⟩ ⟨_,rfl,RK _⟩) (fun h39=>?_);refine gL rfl rfl rfl (by exact aA rfl rfl call54 rfl (hpc _)) ?_;refine gL rfl rfl rfl (by exact fO rfl rfl) ?_;refine gL rfl rfl rfl (by exact rD rfl rfl rfl) ?_;refine gL rfl rfl rfl (by exact rD rfl rfl rfl) ?_;refine gL rfl rfl rfl (by exact bG rfl zD rfl rfl rfl rfl) ?_;refine aFL rfl rfl (by exact bH rfl sizeOf23 rfl rfl rfl rfl rfl rfl (aOM rfl) rfl rfl) ?_;refine KB ?_;refine Sq ?_;refine gK.ent (E':=[(0,sv (ofL t)),(2,.ref 2 0 0 0),(3,.ref 3 0 0 0),(4,.ref 4 0 0 0)]) (H':=[(980,T8 L7),(4,inO),(3,eOJ 0),(2,rOJ ⟨V1,V2,V3,V4,V5,V6,ED,sNil,false,0,sNil,zS,⟨sNil,sNil,[],[],zS⟩⟩)]) (cY.wk (Eb<|Ea<|Ea<|Ea<|trivial) (Hb<|Ha<|Hb<|Hb<|trivial) ⟨rfl,rfl,trivial⟩) ?_;refine uL (fun ch H1 H2=>sH t=false∧ch=DP∧∃ q,H2=kN q++H1) [2,3] [2,3] [] rfl follows (fun ch E1 H1 H2 hts hsh hks ⟨e,e2,q,e3⟩=>by subst e3;obtain ⟨o2,k1,k2⟩:=hsh 2 (by simp) _ rfl;obtain ⟨o3,k3,k4⟩:=hsh 3 (by simp) _ rfl;exact oV hb e e2 ((hts 2 (by simp)).trans rfl) ((hts 3 (by simp)).trans rfl) ⟨o2,k1,JQ k2⟩ ⟨o3,k3,B8 k4⟩) ?_;refine cK (r:=⟨_,some [4],[]⟩) (DStep.plain rfl (fun H1 hH=>by exact(by exact aK rfl eB rfl ((hH _ rfl).trans rfl) rfl rfl rfl))) rfl ?_;refine rK (r:=⟨_,some [980],kN L8⟩) (.pan rfl (fun H1 hH=>by exact eD rfl rfl kP rfl (((vW L7 (by omega)).tot t8 ((hH 980 rfl).trans rfl) (eZ _)).mono (PP':=fun ch H'=>sH t=false∧ch=DP∧∃ q,H'=kN q++_) (fun _ _ h=>h) (fun ch H' ⟨e,e2,e3⟩=>⟨n8 e,e2,e3⟩)))) rfl ?_;refine cK (r:=⟨_,some [4],[]⟩) (DStep.plain rfl (fun H1 hH=>by exact(by exact aK rfl eB rfl ((hH _ rfl).trans rfl) rfl rfl rfl))) rfl ?_;refine rK (r:=⟨_,some [980],kN L9⟩) (.pan rfl (fun H1 hH=>by exact eD rfl rfl kP rfl (((vW L8 (by omega)).tot t9 ((hH 980 rfl).trans rfl) (eZ _)).mono (PP':=fun ch H'=>sH t=false∧ch=DP∧∃ q,H'=kN q++_) (fun _ _ h=>h) (fun ch H' ⟨e,e2,e3⟩=>⟨n9 e,e2,e3⟩)))) rfl ?_;refine cK (r:=⟨_,some [],[]⟩) (DStep.plain rfl (fun H1 hH=>by exact xA rfl rfl rfl)) rfl ?_;refine cK (r:=⟨_,some [4],[]⟩) (DStep.plain rfl (fun H1 hH=>by exact(by exact aK rfl eB rfl ((hH _ rfl).trans rfl) rfl rfl rfl))) rfl ?_
 refine rK (r:=⟨_,some [980],kN L10⟩) (.pan rfl (fun H1 hH=>by exact eD rfl rfl gW rfl (((lP L9 (by omega)).tot t10 ((hH 980 rfl).trans rfl) (eZ _)).mono (PP':=fun ch H'=>sH t=false∧ch=DP∧∃ q,H'=kN q++_) (fun _ _ h=>h) (fun ch H' ⟨e,e2,e3⟩=>⟨n10 e,e2,e3⟩)))) rfl ?_;refine cK (r:=⟨_,some [4],[]⟩) (DStep.plain rfl (fun H1 hH=>by exact(by exact aK rfl eB rfl ((hH _ rfl).trans rfl) rfl rfl rfl))) rfl ?_;refine rK (r:=⟨_,some [980],kN L11⟩) (.pan rfl (fun H1 hH=>by exact eD rfl rfl kP rfl (((vW L10 (by omega)).tot t11 ((hH 980 rfl).trans rfl) (eZ _)).mono (PP':=fun ch H'=>sH t=false∧ch=DP∧∃ q,H'=kN q++_) (fun _ _ h=>h) (fun ch H' ⟨e,e2,e3⟩=>⟨n11 e,e2,e3⟩)))) rfl ?_;refine cK (r:=⟨_,some [2],[]⟩) (DStep.plain rfl (fun H1 hH=>by exact(by exact bG rfl rS rfl ((hH _ rfl).trans rfl) rfl rfl))) rfl ?_;refine cK (r:=⟨_,some [2],[_]⟩) (DStep.plain rfl (fun H1 hH=>by exact(by exact bH rfl sizeOf9 rfl rfl rfl ((hH _ rfl).trans rfl) rfl rfl (aOM rfl) rfl rfl))) rfl ?_;refine cK (r:=⟨_,some [2],[]⟩) (DStep.plain rfl (fun H1 hH=>by exact(by exact bG rfl BL rfl ((hH _ rfl).trans rfl) rfl rfl))) rfl ?_;refine cK (r:=⟨_,some [2],[_]⟩) (DStep.plain rfl (fun H1 hH=>by exact(by exact bH rfl sizeOf4 rfl rfl rfl ((hH _ rfl).trans rfl) rfl rfl (aOM rfl) rfl rfl))) rfl ?_;refine cK (r:=⟨_,some [2],[]⟩) (DStep.plain rfl (fun H1 hH=>by exact(by exact bG rfl uE rfl ((hH _ rfl).trans rfl) rfl rfl))) rfl ?_;refine cK (r:=⟨_,some [2],[_]⟩) (DStep.plain rfl (fun H1 hH=>by exact(by exact bH rfl sizeOf3 rfl rfl rfl ((hH _ rfl).trans rfl) rfl rfl (aOM rfl) rfl rfl))) rfl ?_;refine cK (r:=⟨_,some [2],[]⟩) (DStep.plain rfl (fun H1 hH=>by exact(by exact bG rfl pT rfl ((hH _ rfl).trans rfl) rfl rfl))) rfl ?_;refine cK (r:=⟨_,some [2],[_]⟩) (DStep.plain rfl (fun H1 hH=>by exact(by exact bH rfl sizeOf9 rfl rfl rfl ((hH _ rfl).trans rfl) rfl rfl (aOM rfl) rfl rfl))) rfl ?_;refine F0 ⟨⟨by kernel_rfl,by kernel_rfl,by kernel_rfl⟩,fun hF=>?_⟩;simp only [TA,true_and,and_true] at hF;refine Sq ?_;have f11:=hF;refine gK.ent (E':=[(0,sv (ofL t)),(2,.ref 2 0 0 0),(3,.ref 3 0 0 0),(4,.ref 4 0 0 0)]) (H':=[(980,T8 L11),(4,inO),(3,eOJ 0),(2,rOJ ⟨V1,V2,V3,V4,V5,V6,ED,V8,decide (V9=N4),V10,V11,zS,⟨sNil,sNil,[],[],zS⟩⟩)]) (cY.wk (Eb<|Ea<|Ea<|Ea<|trivial) (Hb<|Ha<|Hb<|Hb<|trivial) ⟨rfl,rfl,trivial⟩) ?_;refine fK ?_;refine gL rfl rfl rfl (by exact aK rfl eB rfl rfl rfl rfl rfl) ?_;refine S0 rfl rfl rfl (by exact eD rfl rfl call55 rfl (((Z2 L11 (by omega)).tot t12 rfl (eZ _)).mono (PP':=fun ch H'=>sH t=false∧ch=DP∧∃ q,H'=kN q++_) (fun _ _ h=>h) (fun ch H' ⟨e,e2,e3⟩=>⟨n12 e,e2,e3⟩))) (fun ch H' h=>by obtain ⟨e,e2,q,rfl⟩:=h;exact oV hb e e2 rfl rfl ⟨_,rfl,RL _⟩ ⟨_,rfl,RK _⟩) (fun h58=>?_);refine gL rfl rfl rfl (by exact bG rfl nA rfl rfl rfl rfl) ?_;refine aFL rfl rfl (by exact kT rfl sizeOf25 rfl rfl rfl rfl rfl rfl rfl (aOM rfl) rfl rfl) ?_;refine KB ?_;refine Sq ?_
 refine gK.ent (E':=[(0,sv (ofL t)),(2,.ref 2 0 0 0),(3,.ref 3 0 0 0),(4,.ref 4 0 0 0)]) (H':=[(980,T8 L12),(4,inO),(3,eOJ 0),(2,rOJ ⟨V1,V2,V3,V4,V5,V6,ED,V8,decide (V9=N4),V10,V11,V12,⟨sNil,sNil,[],[],zS⟩⟩)]) (cY.wk (Eb<|Ea<|Ea<|Ea<|trivial) (Hb<|Ha<|Hb<|Hb<|trivial) ⟨rfl,rfl,trivial⟩) ?_;refine uL (fun ch H1 H2=>sH t=false∧ch=DP∧∃ q,H2=kN q++H1) [2,3] [2,3] [] rfl follows (fun ch E1 H1 H2 hts hsh hks ⟨e,e2,q,e3⟩=>by subst e3;obtain ⟨o2,k1,k2⟩:=hsh 2 (by simp) _ rfl;obtain ⟨o3,k3,k4⟩:=hsh 3 (by simp) _ rfl;exact oV hb e e2 ((hts 2 (by simp)).trans rfl) ((hts 3 (by simp)).trans rfl) ⟨o2,k1,JQ k2⟩ ⟨o3,k3,B8 k4⟩) ?_;refine cK (r:=⟨_,some [4],[]⟩) (DStep.plain rfl (fun H1 hH=>by exact(by exact aK rfl eB rfl ((hH _ rfl).trans rfl) rfl rfl rfl))) rfl ?_;refine rK (r:=⟨_,some [980],kN L13⟩) (.pan rfl (fun H1 hH=>by exact eD rfl rfl kP rfl (((vW L12 (by omega)).tot t13 ((hH 980 rfl).trans rfl) (eZ _)).mono (PP':=fun ch H'=>sH t=false∧ch=DP∧∃ q,H'=kN q++_) (fun _ _ h=>h) (fun ch H' ⟨e,e2,e3⟩=>⟨n13 e,e2,e3⟩)))) rfl ?_;refine cK (r:=⟨_,some [4],[]⟩) (DStep.plain rfl (fun H1 hH=>by exact(by exact aK rfl eB rfl ((hH _ rfl).trans rfl) rfl rfl rfl))) rfl ?_;refine rK (r:=⟨_,some [980],kN L14⟩) (.pan rfl (fun H1 hH=>by exact eD rfl rfl kP rfl (((vW L13 (by omega)).tot t14 ((hH 980 rfl).trans rfl) (eZ _)).mono (PP':=fun ch H'=>sH t=false∧ch=DP∧∃ q,H'=kN q++_) (fun _ _ h=>h) (fun ch H' ⟨e,e2,e3⟩=>⟨n14 e,e2,e3⟩)))) rfl ?_;refine cK (r:=⟨_,some [4],[]⟩) (DStep.plain rfl (fun H1 hH=>by exact(by exact aK rfl eB rfl ((hH _ rfl).trans rfl) rfl rfl rfl))) rfl ?_;refine cK (r:=⟨_,some [4],[]⟩) (DStep.plain rfl (fun H1 hH=>by exact(by exact aK rfl eB rfl ((hH _ rfl).trans rfl) rfl rfl rfl))) rfl ?_;refine cK (r:=⟨_,some [],[]⟩) (DStep.plain rfl (fun H1 hH=>by exact mR rfl rfl)) rfl ?_;refine rK (r:=⟨_,some [980],kN L15⟩) (.pan rfl (fun H1 hH=>by exact eD rfl rfl AP rfl (((SA L14 (by omega)).tot t15 ((hH 980 rfl).trans rfl) (eZ _)).mono (PP':=fun ch H'=>sH t=false∧ch=DP∧∃ q,H'=kN q++_) (fun _ _ h=>h) (fun ch H' ⟨e,e2,e3⟩=>⟨n15 e,e2,e3⟩)))) rfl ?_;refine cK (r:=⟨_,some [4],[]⟩) (DStep.plain rfl (fun H1 hH=>by exact(by exact aK rfl eB rfl ((hH _ rfl).trans rfl) rfl rfl rfl))) rfl ?_;refine cK (r:=⟨_,some [4],[]⟩) (DStep.plain rfl (fun H1 hH=>by exact gC rfl rfl)) rfl ?_;refine rK (r:=⟨_,some [980,4],kN L16⟩) (.pan rfl (fun H1 hH=>by exact eD rfl rfl call56 rfl (((aHD L15 (by omega)).tot t16 ((hH 980 rfl).trans rfl) (NJ.sub ⟨(hH 4 rfl).trans rfl,trivial⟩)).mono (PP':=fun ch H'=>sH t=false∧ch=DP∧∃ q,H'=kN q++_) (fun _ _ h=>h) (fun ch H' ⟨e,e2,e3⟩=>⟨n16 e,e2,e3⟩)))) rfl ?_;refine cK (r:=⟨_,some [],[]⟩) (DStep.plain rfl (fun H1 hH=>by exact JH rfl aKF rfl rfl)) rfl ?_;refine cK (r:=⟨_,some [2],[]⟩) (DStep.plain rfl (fun H1 hH=>by exact(by exact bG rfl fW rfl ((hH _ rfl).trans rfl) rfl rfl))) rfl ?_;refine cK (r:=⟨_,some [2],[_]⟩) (DStep.plain rfl (fun H1 hH=>by exact(by exact kT rfl sizeOf28 rfl rfl rfl rfl ((hH _ rfl).trans rfl) rfl rfl (aOM rfl) rfl rfl))) rfl ?_
 refine F0 ⟨⟨by kernel_rfl,by kernel_rfl,by kernel_rfl⟩,fun hF=>?_⟩;simp only [TA,true_and,and_true] at hF;refine Sq ?_;have f16:=hF;refine gK.ent (E':=[(0,sv (ofL t)),(2,.ref 2 0 0 0),(3,.ref 3 0 0 0),(4,.ref 4 0 0 0)]) (H':=[(980,T8 L16),(4,inO),(3,eOJ 0),(2,rOJ ⟨V1,V2,V3,V4,V5,V6,ED,V8,decide (V9=N4),V10,V11,V12,⟨V13,V14,V15,V16,zS⟩⟩)]) (cY.wk (Eb<|Ea<|Ea<|Ea<|trivial) (Hb<|Ha<|Hb<|Hb<|trivial) ⟨rfl,rfl,trivial⟩) ?_;refine fK ?_;refine gL rfl rfl rfl (by exact aK rfl eB rfl rfl rfl rfl rfl) ?_;refine S0 rfl rfl rfl (by exact eD rfl rfl call55 rfl (((Z2 L16 (by omega)).tot t17 rfl (eZ _)).mono (PP':=fun ch H'=>sH t=false∧ch=DP∧∃ q,H'=kN q++_) (fun _ _ h=>h) (fun ch H' ⟨e,e2,e3⟩=>⟨n17 e,e2,e3⟩))) (fun ch H' h=>by obtain ⟨e,e2,q,rfl⟩:=h;exact oV hb e e2 rfl rfl ⟨_,rfl,RL _⟩ ⟨_,rfl,RK _⟩) (fun h74=>?_);refine gL rfl rfl rfl (by exact bG rfl fW rfl rfl rfl rfl) ?_;refine gL rfl rfl rfl (by exact bG rfl pU rfl rfl rfl rfl) ?_;refine aFL rfl rfl (by exact kT rfl sizeOf25 rfl rfl rfl rfl rfl rfl rfl (aOM rfl) rfl rfl) ?_;refine KB ?_;refine Sq<|Sq ?_;refine gK.ent (E':=[(0,sv (ofL t)),(2,.ref 2 0 0 0),(3,.ref 3 0 0 0),(4,.ref 4 0 0 0)]) (H':=[(980,T8 L17),(4,inO),(3,eOJ 0),(2,rOJ ⟨V1,V2,V3,V4,V5,V6,ED,V8,decide (V9=N4),V10,V11,V12,⟨V13,V14,V15,V16,V17⟩⟩)]) (cY.wk (Eb<|Ea<|Ea<|Ea<|trivial) (Hb<|Ha<|Hb<|Hb<|trivial) ⟨rfl,rfl,trivial⟩) ?_;have hokt:=yes h16 f4.1 f4.2.1 f4.2.2.1 f4.2.2.2 f6.1 f6.2 h39 f11.1 f11.2.1 f11.2.2.1 f11.2.2.2 h58 f16.1 f16.2.1 f16.2.2.1 f16.2.2.2 h74;have hg1:jM t=if TX=(ofL t,0)then(⟨V1,V2,V3,V4,V5,V6,ED,V8,decide (V9=N4),V10,V11,V12,⟨V13,V14,V15,V16,V17⟩⟩,0)else(zR,5):=by rw [hg0];by_cases e:TX=(ofL t,0);rw [aNy ⟨hokt,e⟩,aNy e];rw [aNx (fun h=>e h.2),aNx e]
 refine Rg<|Dd (rQ bD aQ)<|Dd (by exact aA rfl rfl aNm rfl (htx _))<|Dd aF<|Dd fL<|Dd fL<|Dd aN<|Dd aN<|Zz<|Sq ?_;refine bA (t:=88) (n:=8) (X:=!decide (TX.2=0)||!decide (TX.1=ofL t)) ?_ ?_
 ·all_goals refine Dd aF ?_
  all_goals refine Dd AI<|Dm ?_
  all_goals refine Sp 84 (fun h84=>?_) fun h84=>?_
  all_goals try contradiction
  all_goals first|refine Fo<|Fo<|Fo ?_|refine On aF<|On aF<|On JO ?_
  all_goals refine Dd cW<|Zz ?_
  all_goals(exact⟨⟨_,rfl,by(rw [h84];rfl)⟩,rfl,rfl,rfl⟩)
 refine Cn ?_ ?_<;>intro hc1
 ·have hne:TX≠(ofL t,0):=by have:=hc1;rintro rfl;simp at this
  refine Sr<|Dd (uQ WA)<|Uu (kQ aQ)<|Uu (kQ sizeOf41)<|Zz<|aC ?_;exact PG (by rw [hg1,aNx hne]) (cY.wk (Ea<|Ea<|trivial) (Hb<|Hb<|trivial) ⟨rfl,rfl,trivial⟩)
 have heq:TX=(ofL t,0):=by have:=hc1;rw [aOV,Bool.not_eq_false',Bool.not_eq_false',aOG,aOG] at this;exact Prod.ext this.2 this.1
 refine aD<|Sr<|Dd (rQ bD aQ)<|Uu (kQ aQ)<|Uu (kQ sizeOf41)<|Zz<|aC ?_;exact PG (by rw [hg1,aNy heq]) (cY.wk (Ea<|Ea<|trivial) (Hb<|Hb<|trivial) ⟨rfl,rfl,trivial⟩)
end Go.Proofs.YtiifmppaejpemaaGreatDoor
namespace Go.Proofs.YtiifmppaejpemaaGreatDoor
open Go.Proofs.Tryz
open Go.Abs Go.Lib
theorem iX {α:Type} {f:List UInt8→Option (α×List UInt8)} {d:α} {l:List UInt8} {p:α×List UInt8} (h:f l=some p):GS f d l=p:=by rw [GS,h];rfl
theorem YR {l:List GEdit} (h:(jJ l).2=true):(mC (jJ l).1).1=l:=by
 rw [jJ] at h ⊢
 split at h
 ·next h0 =>
  rw [aNy h0,List.eq_nil_of_length_eq_zero h0]
  kernel_rfl
 next h0 =>
 rw [aNx h0];exact congrArg Prod.fst (IE (aNv h))
theorem aC8 (b:Bool):decide (aT (if b then 1 else 0)=N4)=b:=by cases b<;>kernel_rfl
def aGM (r:GRec):List ByteArray:=[]
def aGN (r:GRec):List ByteArray:=fI (.z r.priv.sl.idx r.priv.sl.sig r.priv.sl.path)++aGM r
def aGO (r:GRec):List ByteArray:=fI (.p r.priv.trace)++aGN r
def aGP (r:GRec):List ByteArray:=aT (r.priv.sources.length:Int)::(r.priv.sources++aGO r)
def aGQ (r:GRec):List ByteArray:=r.priv.reason::aGP r
def aGR (r:GRec):List ByteArray:=r.priv.name::aGQ r
def aGS (r:GRec):List ByteArray:=fI (.z r.sl.idx r.sl.sig r.sl.path)++aGR r
def aGT (r:GRec):List ByteArray:=r.from'::aGS r
def aGU (r:GRec):List ByteArray:=aT r.order::aGT r
def sf9 (r:GRec):List ByteArray:=(aT (if r.yes then 1 else 0))::aGU r
def sf8 (r:GRec):List ByteArray:=r.target::sf9 r
def sf7 (r:GRec):List ByteArray:=(jJ r.edits).1::sf8 r
def sf6 (r:GRec):List ByteArray:=aT (r.parents.length:Int)::(r.parents++sf7 r)
def sf5 (r:GRec):List ByteArray:=r.branch::sf6 r
def sf4 (r:GRec):List ByteArray:=aT r.clock::sf5 r
def sf3 (r:GRec):List ByteArray:=aT r.number::sf4 r
def sf2 (r:GRec):List ByteArray:=aT r.author::sf3 r
def sf1 (r:GRec):List ByteArray:=aT r.kind::sf2 r
def sf0 (r:GRec):List ByteArray:=T6::sf1 r
theorem aKJ (r:GRec):pZ r=sf0 r:=by simp [pZ,gX,vN,CW,EP,fI,sf0,sf1,sf2,sf3,sf4,sf5,sf6,sf7,sf8,sf9,aGU,aGT,aGS,aGR,aGQ,aGP,aGO,aGN,aGM]
theorem GR {r:GRec} (h:VF r):sH (aM (pZ r))=true∧C3 (aM (pZ r))=r:=by
 have hk:=HH h.k;have hau:=h.au;have hnu:=h.nu;have hcl:=h.cl;have hod:=h.order;have hpl:=h.pal;have hsl:=kZ h.sl;have hps:=kZ h.psl;have s0:=hsl.i0;have s1:=hsl.i1;have s2:=hsl.sl;have s3:=hsl.pl;have z0:=hps.i0;have z1:=hps.i1;have z2:=hps.sl;have z3:=hps.pl;have hso:=h.sol;have htr:=h.trl;have hbr:=G9 h.br;have htx:=KO h.tx;have hta:=h.target;have hfr:=h.from
 have hnm:=h.nm;have hrs:=h.rs;have hJ:∀ {l:List ByteArray},(∀ t∈l,isJ t=true)→∀ t∈l,DK t:=fun hl t ht=>Nat.lt_of_le_of_lt (sN (hl t ht)) (by decide);rw [aKJ];obtain ⟨t,ht⟩:∃ t,t=aM (sf0 r):=⟨_,rfl⟩;rw [← ht];have f0:iJ t=some (T6,aM (sf1 r)):=by rw [ht];exact jQ _ (show T6.size < 1000000000000000000 by decide)
 have q0:p0 t=(T6,aM (sf1 r)):=iX f0;have f1:nL (p0 t).2=some (r.kind,aM (sf2 r)):=by rw [q0];exact jR _ (by omega) (by omega)
 have q1:p1 t=(r.kind,aM (sf2 r)):=iX f1;have f2:nL (p1 t).2=some (r.author,aM (sf3 r)):=by rw [q1];exact jR _ (by omega) (by omega)
 have q2:p2 t=(r.author,aM (sf3 r)):=iX f2;have f3:nL (p2 t).2=some (r.number,aM (sf4 r)):=by rw [q2];exact jR _ (by omega) (by omega)
 have q3:p3 t=(r.number,aM (sf4 r)):=iX f3;have f4:nL (p3 t).2=some (r.clock,aM (sf5 r)):=by rw [q3];exact jR _ (by omega) (by omega)
 have q4:p4 t=(r.clock,aM (sf5 r)):=iX f4;have f5:iJ (p4 t).2=some (r.branch,aM (sf6 r)):=by rw [q4];exact jQ _ (Nat.lt_of_le_of_lt hbr (by decide))
 have q5:p5 t=(r.branch,aM (sf6 r)):=iX f5;have f6:(uU iJ) (p5 t).2=some (r.parents,aM (sf7 r)):=by rw [q5];exact yV _ _ (hJ h.pa) (by omega)
 have q6:p6 t=(r.parents,aM (sf7 r)):=iX f6;have f7:iJ (p6 t).2=some ((jJ r.edits).1,aM (sf8 r)):=by rw [q6];exact jQ _ (Nat.lt_of_le_of_lt htx (by decide))
 have q7:p7 t=((jJ r.edits).1,aM (sf8 r)):=iX f7;have f8:iJ (p7 t).2=some (r.target,aM (sf9 r)):=by rw [q7];exact jQ _ (Nat.lt_of_le_of_lt hta (by decide))
 have q8:p8 t=(r.target,aM (sf9 r)):=iX f8;have f9:iJ (p8 t).2=some ((aT (if r.yes then 1 else 0)),aM (aGU r)):=by rw [q8];exact jQ _ (IN (by split<;>decide) (by split<;>decide))
 have q9:p9 t=((aT (if r.yes then 1 else 0)),aM (aGU r)):=iX f9;have f10:nL (p9 t).2=some (r.order,aM (aGT r)):=by rw [q9];exact jR _ (by omega) (by omega)
 have q10:NT t=(r.order,aM (aGT r)):=iX f10;have f11:iJ (NT t).2=some (r.from',aM (aGS r)):=by rw [q10];exact jQ _ (Nat.lt_of_le_of_lt hfr (by decide))
 have q11:NS t=(r.from',aM (aGS r)):=iX f11;have f12:RI (NS t).2=some (r.sl,aM (aGR r)):=by rw [q11];exact KZ _ _ s0 (by omega) (hJ hsl.sa) (hJ hsl.pa) (by omega) (by omega)
 have q12:NR t=(r.sl,aM (aGR r)):=iX f12;have f13:iJ (NR t).2=some (r.priv.name,aM (aGQ r)):=by rw [q12];exact jQ _ (Nat.lt_of_le_of_lt hnm (by decide))
 have q13:NQ t=(r.priv.name,aM (aGQ r)):=iX f13;have f14:iJ (NQ t).2=some (r.priv.reason,aM (aGP r)):=by rw [q13];exact jQ _ (Nat.lt_of_le_of_lt hrs (by decide))
 have q14:NP t=(r.priv.reason,aM (aGP r)):=iX f14;have f15:(uU iJ) (NP t).2=some (r.priv.sources,aM (aGO r)):=by rw [q14];exact yV _ _ (fun x hx=>Nat.lt_of_le_of_lt (h.so x hx) (by decide)) (by omega)
 have q15:NO t=(r.priv.sources,aM (aGO r)):=iX f15;have f16:(uU GW) (NO t).2=some (r.priv.trace,aM (aGN r)):=by rw [q15];exact X9 _ _ (fun q hq=>by obtain ⟨⟨a1,a2⟩,a3,a4⟩:=h.tr q hq;exact⟨⟨by omega,by omega⟩,by omega,by omega⟩) (by omega)
 have q16:NN t=(r.priv.trace,aM (aGN r)):=iX f16;have f17:RI (NN t).2=some (r.priv.sl,aM (aGM r)):=by rw [q16];exact KZ _ _ z0 (by omega) (hJ hps.sa) (hJ hps.pa) (by omega) (by omega)
 have q17:p17 t=(r.priv.sl,aM (aGM r)):=iX f17;constructor
 ·unfold sH R4;rw [f0,f1,f2,f3,f4,f5,f6,f7,f8,f9,f10,f11,f12,f13,f14,f15,f16,f17];rfl
 unfold C3;rw [q1,q2,q3,q4,q5,q6,q7,q8,q9,q10,q11,q12,q13,q14,q15,q16,q17,YR h.tx,aC8]
theorem XO {r:GRec} {t:List UInt8} (h:pE r=(ofL t,0)):jM t=(r,0):=by
 have h0:=h;rw [pE] at h;by_cases hv:dT r=true
 ·rw [aNy hv] at h
  split at h
  ·cases h
  next hl =>
  have ht:t=aM (pZ r):=by
   have:=congrArg (fun p:ByteArray×Int=>p.1.data.toList) h;simp only [cZ] at this;exact this.symm
  obtain ⟨h1,h2⟩:=GR (lI hv);rw [← ht] at h1 h2 hl;rw [jM,aNx hl,h2,aNy ⟨h1,h0⟩]
 rw [aNx hv] at h;cases h
end Go.Proofs.YtiifmppaejpemaaGreatDoor
namespace Go.Proofs.YtiifmppaejpemaaGreatDoor
open Go.Proofs.Tryz
open Go.Abs
def Y0 (e:GEdit):Bool:=((decide (300 < IntKind.i64.wrap (IntKind.i64.wrap (IntKind.i64.wrap ((e.id.size:Int)+(e.other.size:Int))+(e.node.size:Int))+(e.key.size:Int)))||decide (600 < (e.val.size:Int)))||decide (40 < ((e.refs.map encStr).length:Int)))||DF e.obj 40
def AD (e:GEdit):Bool:=Y0 e||e.refs.any (zW 300)
def vZ (l:List GEdit) (n:Int):Bool:=decide ((l.length:Int)≤n)&&!l.any AD
theorem aHS (l:List GEdit) (n:Int) (H:aB) (hl:l.length < 4611686018427387904) (ho:∀ e,e∈l→aIJ e.obj∧e.refs.length < 4611686018427387904) :
  aI Tryz.prog 112 [.pv (hU l),iv n] H (fun r H'=>r=bv (vZ l n)∧H'=H):=by
 refine Pu ?_;have hml:(l.map aU).length=l.length:=aNz _;have hB:vZ l n=(decide (((l.map aU).length:Int)≤n)&&!l.any AD):=by rw [vZ,hml]
 refine Bd func112 rfl ntmps112<|Sr<|Dd aN<|Zz<|Sq<|Sr<|Dd aN<|Zz<|aG ?_;refine bT (σ:=Nat) (fun k=>([(0,.pv (hU l)),(1,iv n),(5,iv (k:Int))],[])) (fun k=>k≤l.length∧∀ j,j < k→∀ b,l[j]?=some b→AD b=false) (fun k=>l.length - k) 0 ⟨by omega,by omega⟩ ?_ ?_
 ·exact Wk
 rintro k ⟨hk,hno⟩;refine Sq<|Sq ?_;refine bA (t:=17) (n:=11) (X:=decide ((k:Int) < ((l.map aU).length:Int))&&decide (((l.map aU).length:Int)≤n)) ?_ ?_
 ·all_goals refine Dd aF ?_
  all_goals refine Dd aF<|Dd (fY cX)<|Dd dK<|Dm ?_
  all_goals refine Sp 12 (fun h12=>?_) fun h12=>?_
  all_goals try contradiction
  all_goals first|refine Fo<|Fo<|Fo<|Fo ?_|refine On aF<|On (fY cX)<|On aF<|On MB ?_
  all_goals refine Dd cW<|Zz ?_
  all_goals(exact⟨⟨_,rfl,by(rw [h12];rfl)⟩,rfl,rfl,rfl⟩)
 refine Cn ?_ ?_<;>intro hc1
 ·have h:=hc1;rw [aOI,aOG] at h;have hlt:k < l.length:=by have:=h.1;omega
  obtain ⟨e,hel⟩:=aZ hlt;have hi:=cP (f:=aU) hel;obtain ⟨ho1,ho2⟩:=ho e (aOJ hel);have hrl:(e.refs.map encStr).length=e.refs.length:=aNz _;obtain ⟨w,hw⟩:∃ w,w=IntKind.i64.wrap (IntKind.i64.wrap (IntKind.i64.wrap ((e.id.size:Int)+(e.other.size:Int))+(e.node.size:Int))+(e.key.size:Int)):=⟨_,rfl⟩;have hbh:Y0 e=(((decide (300 < w)||decide (600 < (e.val.size:Int)))||decide (40 < ((e.refs.map encStr).length:Int)))||!!DF e.obj 40):=by rw [Y0,← hw,Bool.not_not]
  refine aD<|Sq<|aG<|Sr<|Dd aF<|Dd aF<|Dd (lN RD)<|Dd (by exact dL rfl bZ aS rfl (by omega) (by simp only [Zl,bJ,bQ,encStr,aU,iR];rfl) rfl)<|Dd (by exact bU (id:=6) rfl OM rfl rfl)<|Uu (kQ aS)<|Zz<|Sq<|Sq ?_;refine bA (t:=57) (n:=37) (X:=((decide (300 < w)||decide (600 < (e.val.size:Int)))||decide (40 < ((e.refs.map encStr).length:Int)))||!!DF e.obj 40) ?_ ?_
  ·all_goals refine Dd (aV gG) ?_
   all_goals refine Dd (bM isAgg9)<|Dd (lH underlying9)<|Dd (aV gO)<|Dd (bM isAgg9)<|Dd (lH underlying9)<|Dd (by exact cI rfl rfl rfl rfl)<|Dd (aV lC)<|Dd (bM isAgg9)<|Dd (lH underlying9)<|Dd (by exact cI rfl rfl rfl rfl)<|Dd (aV jB)<|Dd (bM isAgg9)<|Dd (lH underlying9)<|Dd (by exact cI rfl rfl rfl (hw.symm))<|Dd jE<|Dm ?_
   all_goals refine Sp 40 (fun h40=>?_) fun h40=>?_
   all_goals try contradiction
   all_goals first|refine Fo<|Fo<|Fo<|Fo ?_|refine On (aV jO)<|On (bM isAgg9)<|On (lH underlying9)<|On jE ?_
   all_goals refine Dd cW<|Dm ?_
   all_goals refine Sp 46 (fun h46=>?_) fun h46=>?_
   all_goals try contradiction
   all_goals first|refine Fo<|Fo<|Fo<|Fo ?_|refine On (aV eT)<|On (bM aH)<|On (fY aE)<|On jE ?_
   all_goals refine Dd cW<|Dm ?_
   all_goals refine Sp 52 (fun h52=>?_) fun h52=>?_
   all_goals try contradiction
   all_goals first|refine Fo<|Fo<|Fo<|Fo ?_|refine On (aV nD)<|On (rQ cU sizeOf153)<|On (by exact aA rfl rfl call157 rfl (aHT e.obj 40 _ ho1))<|On jS ?_
   all_goals refine Dd cW<|Zz ?_
   all_goals(exact⟨⟨_,rfl,by first|(rw [h40];rfl)|(rw [h40,h46];rfl)|(rw [h40,h46,h52];rfl)⟩,rfl,rfl,rfl⟩)
  refine Cn ?_ ?_<;>intro hc2
  ·have hb:AD e=true:=by rw [AD,hbh,hc2];rfl
   have hf:vZ l n=false:=by rw [vZ,xR (p:=AD) hel hb];simp
   rw [hf];exact Sr<|Dd aN<|Zz<|aC<|Rt<|Qq
  refine aD<|Sr<|Dd aN<|Zz<|aG ?_;refine bT (σ:=Nat) (fun q=>([(0,.pv (hU l)),(1,iv n),(5,iv (k:Int)),(6,.ref 6 0 0 0),(7,iv (q:Int))],[(6,bx 15 155 ((aU e).map .pv))])) (fun q=>q≤e.refs.length∧∀ j,j < q→∀ b,e.refs[j]?=some b→zW 300 b=false) (fun q=>e.refs.length - q) 0 ⟨by omega,by omega⟩ ?_ ?_
  ·exact Wk
  rintro q ⟨hq,hnr⟩;refine Sq<|Sr<|Dd aF<|Dd (aV eT)<|Dd (bM aH)<|Dd (fY aE)<|Dd dK<|Zz ?_;refine Cn ?_ ?_<;>intro hc3
  ·have hql:q < e.refs.length:=by have:=aNv hc3;omega
   obtain ⟨s,hs⟩:=aZ hql;have hi2:=cP (f:=encStr) hs;refine aD<|Sq<|aG<|Sr<|Dd (aV eT)<|Dd (bM aH)<|Dd aF<|Dd (by exact bW rfl cA rfl rfl (by omega) (by exact aOK _) hi2 rfl)<|Dd (jA isAgg9)<|Dd (lH underlying9)<|Dd jE<|Zz ?_;refine Cn ?_ ?_<;>intro hc4
   ·have hb:AD e=true:=by rw [AD,xR (p:=zW 300) hs hc4,Bool.or_true]
    have hf:vZ l n=false:=by rw [vZ,xR (p:=AD) hel hb];simp
    rw [hf];exact Sr<|Dd aN<|Zz<|aC<|Rt<|Qq
   refine aD<|Rg<|Dd aF<|Dd lR<|Da ?_;exact⟨q+1,⟨by omega,tM (p:=zW 300) hnr hs hc4⟩,by omega,Wk⟩
  have hge:q=e.refs.length:=by have:=aNw hc3;omega
  subst hge;have hb:AD e=false:=by rw [AD,hbh,hc2,B0 hnr];rfl
  refine bC<|Rg<|Dd aF<|Dd lR<|Da ?_;exact⟨k+1,⟨by omega,tM (p:=AD) hno hel hb⟩,by omega,Wk⟩
 refine bC<|Sr<|Dd aF<|Dd (fY cX)<|Dd aF<|Dd MB<|Dd aN<|Zz<|aC<|Rt ?_;refine⟨?_,rfl⟩;rw [hB];have h:=hc1;rw [Bool.and_eq_false_iff,aOH] at h;rcases h with h|h
 ·have hge:k=l.length:=by omega
  subst hge;rw [B0 hno];simp
 rw [h];rfl
theorem FW {α:Type} {a b:List α} {n:Nat} (hl:a.length=b.length) (hn:n=a.length) (h:a.take n=b.take n):a=b:=by rw [List.take_of_length_le (by omega),List.take_of_length_le (by omega)] at h;exact h
theorem yB {α:Type} {a b:List α} {i:Nat} {x y:α} (h:a.take i=b.take i) (hx:a[i]?=some x) (hy:b[i]?=some y) (e:x=y):a.take (i+1)=b.take (i+1):=by rw [List.take_add_one,List.take_add_one,h,hx,hy,e]
theorem aAK {α:Type} {a b:List α} {i:Nat} {x y:α} (hx:a[i]?=some x) (hy:b[i]?=some y) (e:x≠y):a≠b:=fun h=>by
 subst h;rw [hx] at hy;exact e (Option.some.inj hy)
theorem uZ (a b:List ByteArray) (H:aB) (ha:a.length < 4611686018427387904) (hb:b.length < 4611686018427387904):aI Tryz.prog 91 [.pv (aX a),.pv (aX b)] H (fun r H'=>r=bv (decide (a=b))∧H'=H):=by
 refine Pu ?_;have hma:(a.map encStr).length=a.length:=aNz _;have hmb:(b.map encStr).length=b.length:=aNz _;refine Bd func91 rfl ntmps91<|Sr<|Dd aN<|Zz<|Sq<|Sr<|Dd aF<|Dd (fY aE)<|Dd aF<|Dd (fY aE)<|Dd AI<|Zz ?_;refine Cn ?_ ?_<;>intro hc1
 ·have hne:a≠b:=by have h:=hc1;intro e;subst e;simp at h
  rw [decide_eq_false hne];exact Sr<|Dd aN<|Zz<|aC<|Rt<|Qq
 have hl:a.length=b.length:=by have h:=hc1;simp only [Bool.not_eq_false',aOG] at h;omega
 refine aD<|Sq<|Sr<|Dd aN<|Zz<|aG ?_;refine bT (σ:=Nat) (fun i=>([(0,.pv (aX a)),(1,.pv (aX b)),(5,iv (i:Int))],[])) (fun i=>i≤a.length∧a.take i=b.take i) (fun i=>a.length - i) 0 ⟨by omega,rfl⟩ ?_ ?_
 ·exact Wk
 rintro i ⟨hi,hp⟩;refine Sq<|Sr<|Dd aF<|Dd aF<|Dd (fY aE)<|Dd dK<|Zz ?_;refine Cn ?_ ?_<;>intro hc2
 ·have hil:i < a.length:=by have:=aNv hc2;omega
  obtain ⟨s,hs⟩:=aZ hil;obtain ⟨u,hu⟩:=aZ (show i < b.length by omega);have hi1:=cP (f:=encStr) hs;have hi2:=cP (f:=encStr) hu;refine aD<|Sq<|aG<|Sq<|aO follows<|Cq aF<|Cq aF<|Cq (by exact bW rfl cA rfl rfl (by omega) (by exact aOK _) hi1 rfl)<|Cq (jA isAgg9 (hi:=hi1))<|Cq aF<|Cq aF<|Cq (by exact bW rfl cA rfl rfl (by omega) (by exact aOK _) hi2 rfl)<|Cq (jA isAgg9 (hi:=hi2))<|Cq JO<|bL<|Kr ?_;refine Cn ?_ ?_<;>intro hc3
  ·have hne:s≠u:=by have h:=hc3;intro e;subst e;simp at h
   rw [decide_eq_false (aAK hs hu hne)];exact Sr<|Dd aN<|Zz<|aC<|Rt<|Qq
  have heq:s=u:=by have h:=hc3;simpa using h
  refine aD<|Rg<|Dd aF<|Dd (by exact cI rfl rfl rfl (show IntKind.i64.wrap ((i:Int)+1)=((i+1:Nat):Int)by rw [pB (by omega) (by omega)];omega))<|Da ?_;exact⟨i+1,⟨by omega,yB hp hs hu heq⟩,by omega,Wk⟩
 have hge:i=a.length:=by have:=aNw hc2;omega
 rw [decide_eq_true (FW hl hge hp)];exact bC<|Sr<|Dd aN<|Zz<|aC<|Rt<|Qq
def UN (s:GSeal):Prop:=s.sig.length < 4611686018427387904∧s.path.length < 4611686018427387904
theorem UM {s:GSeal} (h:tP s):UN s:=⟨by have:=h.2.1.1;omega,by have:=h.2.2.1;omega⟩
theorem K5 (a b:GSeal) (H:aB) (ha:UN a) (hb:UN b):aI Tryz.prog 35 [av (jC a),av (jC b)] H (fun r H'=>r=bv (decide (a=b))∧H'=H):=by
 refine aI.pure ?_ (by simp [jC]) H;have hs1:=fun H=>uZ a.sig b.sig H ha.1 hb.1;have hs2:=fun H=>uZ a.path b.path H ha.2 hb.2;have hX:decide (a=b)=((decide (a.idx=b.idx)&&decide (a.sig=b.sig))&&decide (a.path=b.path)):=by
  obtain ⟨a1,a2,a3⟩:=a;obtain ⟨b1,b2,b3⟩:=b;rw [Bool.eq_iff_iff];simp [and_assoc]
 rw [hX];refine Bd func35 rfl ntmps35<|Sr<|Dd (by exact cH (id:=2) rfl rfl rfl rfl rfl)<|Dd (by exact cH (id:=3) rfl rfl rfl rfl rfl)<|Dd aN<|Zz<|Sq ?_;refine bA (t:=4) (n:=22) (X:=(decide (a.idx=b.idx)&&decide (a.sig=b.sig))&&decide (a.path=b.path)) ?_ ?_
 ·all_goals refine Dd (aV nN) ?_
  all_goals refine Dd (bM isAgg3)<|Dd (aV nN)<|Dd (bM isAgg3)<|Dd cT<|Dm ?_
  all_goals refine Sp 10 (fun h10=>?_) fun h10=>?_
  all_goals try contradiction
  all_goals first|refine Fo<|Fo<|Fo<|Fo<|Fo ?_|refine On (aV jT)<|On (bM aH)<|On (aV jT)<|On (bM aH)<|On (by exact aA rfl rfl aFc rfl (hs1 _)) ?_
  all_goals refine Dd cW<|Dm ?_
  all_goals refine Sp 17 (fun h17=>?_) fun h17=>?_
  all_goals try contradiction
  all_goals first|refine Fo<|Fo<|Fo<|Fo<|Fo ?_|refine On (aV oJ)<|On (bM aH)<|On (aV oJ)<|On (bM aH)<|On (by exact aA rfl rfl aFc rfl (hs2 _)) ?_
  all_goals refine Dd cW<|Da ?_
  all_goals(exact⟨⟨_,rfl,by first|(rw [h10];rfl)|(rw [h10,h17];rfl)⟩,rfl,rfl,rfl⟩)
 exact aC<|Rt<|Qq
def RS (a b:GPriv):Bool:=((decide (a.name=b.name)&&decide (a.reason=b.reason))&&decide (a.sources=b.sources))&&decide (a.trace=b.trace)
def aGf (a b:GPriv):Bool:=((!decide (a.name=b.name)||!decide (a.reason=b.reason))||!decide (a.sources=b.sources))||!decide (((a.trace.map gP).length:Int)=((b.trace.map gP).length:Int))
theorem NL (a b:GPriv) (H:aB) (ha:a.sources.length < 4611686018427387904) (hb:b.sources.length < 4611686018427387904) (hat:a.trace.length < 4611686018427387904):aI Tryz.prog 30 [av (sR a),av (sR b)] H (fun r H'=>r=bv (RS a b)∧H'=H):=by
 refine aI.pure ?_ (by simp [sR]) H;have hma:(a.trace.map gP).length=a.trace.length:=aNz _;have hmb:(b.trace.map gP).length=b.trace.length:=aNz _;have hs1:=fun H=>uZ a.sources b.sources H ha hb;have hX:aGf a b=(((!decide (a.name=b.name)||!decide (a.reason=b.reason))||!decide (a.sources=b.sources))||!decide (((a.trace.map gP).length:Int)=((b.trace.map gP).length:Int))):=rfl;refine Bd func30 rfl ntmps30<|Sr<|Dd (by exact cH (id:=2) rfl rfl rfl rfl rfl)<|Dd (by exact cH (id:=3) rfl rfl rfl rfl rfl)<|Dd aN<|Zz<|Sq<|Sq ?_;refine bA (t:=34) (n:=32) (X:=aGf a b) ?_ ?_
 ·all_goals refine Dd (aV DX) ?_
  all_goals refine Dd (bM isAgg9)<|Dd (aV DX)<|Dd (bM isAgg9)<|Dd JO<|Dm ?_
  all_goals refine Sp 11 (fun h11=>?_) fun h11=>?_
  all_goals try contradiction
  all_goals first|refine Fo<|Fo<|Fo<|Fo<|Fo ?_|refine On (aV DW)<|On (bM isAgg9)<|On (aV DW)<|On (bM isAgg9)<|On JO ?_
  all_goals refine Dd cW<|Dm ?_
  all_goals refine Sp 18 (fun h18=>?_) fun h18=>?_
  all_goals try contradiction
  all_goals first|refine Fo<|Fo<|Fo<|Fo<|Fo<|Fo ?_|refine On (aV BN)<|On (bM aH)<|On (aV BN)<|On (bM aH)<|On (by exact aA rfl rfl aFc rfl (hs1 _))<|On jS ?_
  all_goals refine Dd cW<|Dm ?_
  all_goals refine Sp 26 (fun h26=>?_) fun h26=>?_
  all_goals try contradiction
  all_goals first|refine Fo<|Fo<|Fo<|Fo<|Fo<|Fo<|Fo ?_|refine On (aV uF)<|On (bM kH)<|On (fY eR)<|On (aV uF)<|On (bM kH)<|On (fY eR)<|On AI ?_
  all_goals refine Dd cW<|Zz ?_
  all_goals(exact⟨⟨_,rfl,by first|(rw [hX,h11];rfl)|(rw [hX,h11,h18];rfl)|(rw [hX,h11,h18,h26];rfl)⟩,rfl,rfl,rfl⟩)
 refine Cn ?_ ?_<;>intro hc1
 ·have h:=hc1;have hne:RS a b=false:=by
   rw [RS];simp only [aGf,hma,hmb,Bool.or_eq_true,aOS,aOH] at h;simp only [Bool.and_eq_false_iff,aOH];rcases h with((h|h)|h)|h
   ·exact .inl (.inl (.inl h))
   ·exact .inl (.inl (.inr h))
   ·exact .inl (.inr h)
   exact .inr fun e=>h (by rw [e])
  rw [hne];exact Sr<|Dd aN<|Zz<|aC<|Rt<|Qq
 have h:=hc1;simp only [aGf,hma,hmb,aOV,Bool.not_eq_false',aOG] at h;obtain ⟨⟨⟨h1,h2⟩,h3⟩,h4⟩:=h;have hl:a.trace.length=b.trace.length:=by omega
 have hp2:RS a b=decide (a.trace=b.trace):=by rw [RS,decide_eq_true h1,decide_eq_true h2,decide_eq_true h3];rfl
 rw [hp2];refine aD<|Sq<|Sr<|Dd aN<|Zz<|aG ?_;refine bT (σ:=Nat) (fun i=>([(2,.ref 2 0 0 0),(3,.ref 3 0 0 0),(5,iv (i:Int))],[(3,bx 7 28 ((sR b).map .pv)),(2,bx 7 28 ((sR a).map .pv))])) (fun i=>i≤a.trace.length∧a.trace.take i=b.trace.take i) (fun i=>a.trace.length - i) 0 ⟨by omega,rfl⟩ ?_ ?_
 ·exact Wk
 rintro i ⟨hi,hp⟩;refine Sq<|Sr<|Dd aF<|Dd (aV uF)<|Dd (bM kH)<|Dd (fY eR)<|Dd dK<|Zz ?_;refine Cn ?_ ?_<;>intro hc2
 ·have hil:i < a.trace.length:=by have:=aNv hc2;omega
  obtain ⟨s,hs⟩:=aZ hil;obtain ⟨u,hu⟩:=aZ (show i < b.trace.length by omega);have hi1:=cP (f:=gP) hs;have hi2:=cP (f:=gP) hu;refine aD<|Sq<|aG<|Sq<|aO follows<|Cq (aV uF)<|Cq (bM kH)<|Cq aF<|Cq (by exact bW rfl TU rfl rfl (by omega) (by exact aOK _) hi1 rfl)<|Cq (by exact dL rfl dQ sizeOf73 rfl hi1 (by simp only [Zl,gP];rfl) rfl)<|Cq (aV uF)<|Cq (bM kH)<|Cq aF<|Cq (by exact bW rfl TU rfl rfl (by omega) (by exact aOK _) hi2 rfl)<|Cq (by exact dL rfl dQ sizeOf73 rfl hi2 (by simp only [Zl,gP];rfl) rfl)<|Cq (by exact xB rfl rfl rfl rfl rfl gV (RM _ _ _ _))<|bL<|Kr ?_;refine Cn ?_ ?_<;>intro hc3
  ·have hne:s≠u:=by have h:=hc3;intro e;subst e;simp at h
   rw [decide_eq_false (aAK hs hu hne)];exact Sr<|Dd aN<|Zz<|aC<|Rt<|Qq
  have heq:s=u:=by have h:=hc3;simp at h;exact Prod.ext h.1 h.2
  refine aD<|Rg<|Dd aF<|Dd (by exact cI rfl rfl rfl (show IntKind.i64.wrap ((i:Int)+1)=((i+1:Nat):Int)by rw [pB (by omega) (by omega)];omega))<|Da ?_;exact⟨i+1,⟨by omega,yB hp hs hu heq⟩,by omega,Wk⟩
 have hge:i=a.trace.length:=by have:=aNw hc2;omega
 rw [decide_eq_true (FW hl hge hp)];exact bC<|Sr<|Dd aN<|Zz<|aC<|Rt<|Qq
def aBp (a b:GEdit):Bool:=((((((!decide (a.op=b.op)||!decide (a.id=b.id))||!decide (a.other=b.other))||!decide (a.node=b.node))||!(decide (a.x=b.x)&&decide (a.y=b.y)))||!decide (a.key=b.key))||!decide (a.val=b.val))||!decide (((a.refs.map encStr).length:Int)=((b.refs.map encStr).length:Int))
def VM (a b:GEdit):Bool:=(((((((decide (a.op=b.op)&&decide (a.id=b.id))&&decide (a.other=b.other))&&decide (a.node=b.node))&&(decide (a.x=b.x)&&decide (a.y=b.y)))&&decide (a.key=b.key))&&decide (a.val=b.val))&&decide (a.refs=b.refs))&&pO a.obj b.obj
theorem FY {a b:GEdit}:VM a b=true↔a=b:=by obtain ⟨a1,a2,a3,a4,a5,a6,a7,a8,a9,a10⟩:=a;obtain ⟨b1,b2,b3,b4,b5,b6,b7,b8,b9,b10⟩:=b;simp only [VM,aOI,aOG,zC,GEdit.mk.injEq,and_assoc]
theorem aHY {a b:GEdit} (h:aBp a b=true):VM a b=false:=by
 cases e:VM a b with
 | false=>rfl
 | true =>
  have:=FY.1 e;subst this;simp [aBp] at h
theorem aEf {a b:GEdit} (h:aBp a b=false):a.refs.length=b.refs.length∧∀ r:Bool,(decide (a.refs=b.refs)&&pO a.obj b.obj)=r→VM a b=r:=by simp only [aBp,aOV,Bool.not_eq_false',aOG,aOI,aNz] at h;obtain ⟨⟨⟨⟨⟨⟨⟨h1,h2⟩,h3⟩,h4⟩,h5,h6⟩,h7⟩,h8⟩,h9⟩:=h;refine⟨by omega,fun r hr=>?_⟩;rw [VM,decide_eq_true h1,decide_eq_true h2,decide_eq_true h3,decide_eq_true h4,decide_eq_true h5,decide_eq_true h6,decide_eq_true h7,decide_eq_true h8];exact hr
theorem aBI (a b:GEdit) (H:aB) (ha:LM a) (hb:LM b):aI Tryz.prog 141 [av (aU a),av (aU b)] H (fun r H'=>r=bv (VM a b)∧H'=H):=by
 refine aI.pure ?_ (by simp [aU]) H;have hra:(a.refs.map encStr).length=a.refs.length:=aNz _;have hrb:(b.refs.map encStr).length=b.refs.length:=aNz _;have hla:=ha.2.1.1;have hlb:=hb.2.1.1;have hX:aBp a b=(((((((!decide (a.op=b.op)||!decide (a.id=b.id))||!decide (a.other=b.other))||!decide (a.node=b.node))||!(decide (a.x=b.x)&&decide (a.y=b.y)))||!decide (a.key=b.key))||!decide (a.val=b.val))||!decide (((a.refs.map encStr).length:Int)=((b.refs.map encStr).length:Int))):=rfl;have hso:=fun H=>aAA a.obj b.obj H ha.2.2.2.2.1 ha.2.2.2.1.1;obtain ⟨so,hsoE⟩:∃ so,so=pO a.obj b.obj:=⟨_,rfl⟩;have hyes:=fun h=>aEf (a:=a) (b:=b) h;rw [← hsoE] at hso hyes;clear hsoE;refine Bd func141 rfl ntmps141<|Sr<|Dd (by exact cH (id:=2) rfl rfl rfl rfl rfl)<|Dd (by exact cH (id:=3) rfl rfl rfl rfl rfl)<|Dd aN<|Zz<|Sq<|Sq ?_;refine bA (t:=61) (n:=63) (X:=aBp a b) ?_ ?_
 ·all_goals refine Dd (aV fT) ?_
  all_goals refine Dd (bM isAgg3)<|Dd (aV fT)<|Dd (bM isAgg3)<|Dd AI<|Dm ?_
  all_goals refine Sp 11 (fun h11=>?_) fun h11=>?_
  all_goals try contradiction
  all_goals first|refine Fo<|Fo<|Fo<|Fo<|Fo ?_|refine On (aV gG)<|On (bM isAgg9)<|On (aV gG)<|On (bM isAgg9)<|On JO ?_
  all_goals refine Dd cW<|Dm ?_
  all_goals refine Sp 18 (fun h18=>?_) fun h18=>?_
  all_goals try contradiction
  all_goals first|refine Fo<|Fo<|Fo<|Fo<|Fo ?_|refine On (aV gO)<|On (bM isAgg9)<|On (aV gO)<|On (bM isAgg9)<|On JO ?_
  all_goals refine Dd cW<|Dm ?_
  all_goals refine Sp 25 (fun h25=>?_) fun h25=>?_
  all_goals try contradiction
  all_goals first|refine Fo<|Fo<|Fo<|Fo<|Fo ?_|refine On (aV lC)<|On (bM isAgg9)<|On (aV lC)<|On (bM isAgg9)<|On JO ?_
  all_goals refine Dd cW<|Dm ?_
  all_goals refine Sp 32 (fun h32=>?_) fun h32=>?_
  all_goals try contradiction
  all_goals first|refine Fo<|Fo<|Fo<|Fo<|Fo ?_|refine On (aV gF)<|On (by exact aL rfl dQ sizeOf73 rfl rfl rfl rfl (by simp only [Zl,aU];rfl) rfl)<|On (aV gF)<|On (by exact aL rfl dQ sizeOf73 rfl rfl rfl rfl (by simp only [Zl,aU];rfl) rfl)<|On (by exact xB rfl rfl rfl rfl rfl gV (RM _ _ _ _)) ?_
  all_goals refine Dd cW<|Dm ?_
  all_goals refine Sp 39 (fun h39=>?_) fun h39=>?_
  all_goals try contradiction
  all_goals first|refine Fo<|Fo<|Fo<|Fo<|Fo ?_|refine On (aV jB)<|On (bM isAgg9)<|On (aV jB)<|On (bM isAgg9)<|On JO ?_
  all_goals refine Dd cW<|Dm ?_
  all_goals refine Sp 46 (fun h46=>?_) fun h46=>?_
  all_goals try contradiction
  all_goals first|refine Fo<|Fo<|Fo<|Fo<|Fo ?_|refine On (aV jO)<|On (bM isAgg9)<|On (aV jO)<|On (bM isAgg9)<|On JO ?_
  all_goals refine Dd cW<|Dm ?_
  all_goals refine Sp 53 (fun h53=>?_) fun h53=>?_
  all_goals try contradiction
  all_goals first|refine Fo<|Fo<|Fo<|Fo<|Fo<|Fo<|Fo ?_|refine On (aV eT)<|On (bM aH)<|On (fY aE)<|On (aV eT)<|On (bM aH)<|On (fY aE)<|On AI ?_
  all_goals refine Dd cW<|Zz ?_
  all_goals(exact⟨⟨_,rfl,by first|(rw [hX,h11];rfl)|(rw [hX,h11,h18];rfl)|(rw [hX,h11,h18,h25];rfl)|(rw [hX,h11,h18,h25,h32];rfl)|(rw [hX,h11,h18,h25,h32,h39];rfl)|(rw [hX,h11,h18,h25,h32,h39,h46];rfl)|(rw [hX,h11,h18,h25,h32,h39,h46,h53];rfl)⟩,rfl,rfl,rfl⟩)
 refine Cn ?_ ?_<;>intro hc1
 ·rw [aHY hc1];exact Sr<|Dd aN<|Zz<|aC<|Rt<|Qq
 obtain ⟨hl,hyes⟩:=hyes hc1;refine aD<|Sq<|Sr<|Dd aN<|Zz<|aG ?_;refine bT (σ:=Nat) (fun i=>([(2,.ref 2 0 0 0),(3,.ref 3 0 0 0),(5,iv (i:Int))],[(3,bx 15 155 ((aU b).map .pv)),(2,bx 15 155 ((aU a).map .pv))])) (fun i=>i≤a.refs.length∧a.refs.take i=b.refs.take i) (fun i=>a.refs.length - i) 0 ⟨by omega,rfl⟩ ?_ ?_
 ·exact Wk
 rintro i ⟨hi,hp⟩;refine Sq<|Sr<|Dd aF<|Dd (aV eT)<|Dd (bM aH)<|Dd (fY aE)<|Dd dK<|Zz ?_;refine Cn ?_ ?_<;>intro hc2
 ·have hil:i < a.refs.length:=by have:=aNv hc2;omega
  obtain ⟨s,hs⟩:=aZ hil;obtain ⟨u,hu⟩:=aZ (show i < b.refs.length by omega);have hi1:=cP (f:=encStr) hs;have hi2:=cP (f:=encStr) hu;refine aD<|Sq<|aG<|Sq<|aO follows<|Cq (aV eT)<|Cq (bM aH)<|Cq aF<|Cq (by exact bW rfl cA rfl rfl (by omega) (by exact aOK _) hi1 rfl)<|Cq (jA isAgg9 (hi:=hi1))<|Cq (aV eT)<|Cq (bM aH)<|Cq aF<|Cq (by exact bW rfl cA rfl rfl (by omega) (by exact aOK _) hi2 rfl)<|Cq (jA isAgg9 (hi:=hi2))<|Cq JO<|bL<|Kr ?_;refine Cn ?_ ?_<;>intro hc3
  ·have hne:s≠u:=by have h:=hc3;intro e;subst e;simp at h
   rw [hyes false (by rw [decide_eq_false (aAK hs hu hne)];rfl)];exact Sr<|Dd aN<|Zz<|aC<|Rt<|Qq
  have heq:s=u:=by have h:=hc3;simpa using h
  refine aD<|Rg<|Dd aF<|Dd (by exact cI rfl rfl rfl (show IntKind.i64.wrap ((i:Int)+1)=((i+1:Nat):Int)by rw [pB (by omega) (by omega)];omega))<|Da ?_;exact⟨i+1,⟨by omega,yB hp hs hu heq⟩,by omega,Wk⟩
 have hge:i=a.refs.length:=by have:=aNw hc2;omega
 rw [hyes so (by rw [decide_eq_true (FW hl hge hp)];rfl)];exact bC<|Sr<|Dd (aV nD)<|Dd (by exact aL rfl cU sizeOf153 rfl rfl rfl rfl (by simp only [Zl,aU,bQ];rfl) rfl)<|Dd (aV nD)<|Dd (by exact aL rfl cU sizeOf153 rfl rfl rfl rfl (by simp only [Zl,aU,bQ];rfl) rfl)<|Dd (by exact aA rfl rfl call182 rfl (hso _))<|Dd aN<|Zz<|aC<|Rt<|Qq
def AA:List GEdit→List GEdit→Bool
 | [],[]=>true
 | a::l,b::m=>VM a b&&AA l m
 | _,_=>false
theorem CN:∀ {a b:List GEdit},AA a b=true↔a=b
 | [],[]=>by simp [AA]
 | a::l,b::m=>by rw [AA,aOI,FY,CN,List.cons.injEq]
 | [],_::_=>by simp [AA]
 | _::_,[]=>by simp [AA]
theorem VK {a b:List GEdit} (h:a≠b):AA a b=false:=by
 cases e:AA a b with
 | false=>rfl
 | true=>exact absurd (CN.1 e) h
theorem RN (a b:List GEdit) (H:aB) (ha:a.length < 4611686018427387904) (hb:b.length < 4611686018427387904) (hae:∀ e∈a,LM e) (hbe:∀ e∈b,LM e):aI Tryz.prog 92 [.pv (hU a),.pv (hU b)] H (fun r H'=>r=bv (AA a b)∧H'=H):=by
 refine Pu ?_;have hma:(a.map aU).length=a.length:=aNz _;have hmb:(b.map aU).length=b.length:=aNz _;refine Bd func92 rfl ntmps92<|Sr<|Dd aN<|Zz<|Sq<|Sr<|Dd aF<|Dd (fY cX)<|Dd aF<|Dd (fY cX)<|Dd AI<|Zz ?_;refine Cn ?_ ?_<;>intro hc1
 ·have hne:a≠b:=by have h:=hc1;intro e;subst e;simp at h
  rw [VK hne];exact Sr<|Dd aN<|Zz<|aC<|Rt<|Qq
 have hl:a.length=b.length:=by have h:=hc1;simp only [Bool.not_eq_false',aOG] at h;omega
 refine aD<|Sq<|Sr<|Dd aN<|Zz<|aG ?_;refine bT (σ:=Nat) (fun i=>([(0,.pv (hU a)),(1,.pv (hU b)),(5,iv (i:Int))],[])) (fun i=>i≤a.length∧a.take i=b.take i) (fun i=>a.length - i) 0 ⟨by omega,rfl⟩ ?_ ?_
 ·exact Wk
 rintro i ⟨hi,hp⟩;refine Sq<|Sr<|Dd aF<|Dd aF<|Dd (fY cX)<|Dd dK<|Zz ?_;refine Cn ?_ ?_<;>intro hc2
 ·have hil:i < a.length:=by have:=aNv hc2;omega
  obtain ⟨s,hs⟩:=aZ hil;obtain ⟨u,hu⟩:=aZ (show i < b.length by omega);have hi1:=cP (f:=aU) hs;have hi2:=cP (f:=aU) hu;have hsm:=fun H=>aBI s u H (hae s (aOJ hs)) (hbe u (aOJ hu));refine aD<|Sq<|aG<|Sq<|aO follows<|Cq aF<|Cq aF<|Cq (by exact bW rfl RD rfl rfl (by omega) (by exact aOK _) hi1 rfl)<|Cq (by exact dL rfl bZ aS rfl hi1 rfl rfl)<|Cq aF<|Cq aF<|Cq (by exact bW rfl RD rfl rfl (by omega) (by exact aOK _) hi2 rfl)<|Cq (by exact dL rfl bZ aS rfl hi2 rfl rfl)<|Cq (by exact aA rfl rfl call141 rfl (hsm _))<|Cq jS<|bL<|Kr ?_;refine Cn ?_ ?_<;>intro hc3
  ·have hne:s≠u:=by have h:=not_not hc3;intro e;rw [FY.2 e] at h;cases h
   rw [VK (aAK hs hu hne)];exact Sr<|Dd aN<|Zz<|aC<|Rt<|Qq
  have heq:s=u:=FY.1 (CG hc3);refine aD<|Rg<|Dd aF<|Dd (by exact cI rfl rfl rfl (show IntKind.i64.wrap ((i:Int)+1)=((i+1:Nat):Int)by rw [pB (by omega) (by omega)];omega))<|Da ?_;exact⟨i+1,⟨by omega,yB hp hs hu heq⟩,by omega,Wk⟩
 have hge:i=a.length:=by have:=aNw hc2;omega
 rw [CN.2 (FW hl hge hp)];exact bC<|Sr<|Dd aN<|Zz<|aC<|Rt<|Qq
def UE (a b:GRec):Bool:=(((((((((decide (a.kind=b.kind)&&decide (a.author=b.author))&&decide (a.number=b.number))&&decide (a.clock=b.clock))&&decide (a.branch=b.branch))&&decide (a.parents=b.parents))&&AA a.edits b.edits)&&decide (a.target=b.target))&&(a.yes == b.yes))&&decide (a.order=b.order))&&decide (a.from'=b.from')
structure PubEq (a b:GRec):Prop where
 ki:a.kind=b.kind
 au:a.author=b.author
 nu:a.number=b.number
 cl:a.clock=b.clock
 br:a.branch=b.branch
 pa:a.parents=b.parents
 ed:a.edits=b.edits
 ta:a.target=b.target
 ye:a.yes=b.yes
 od:a.order=b.order
 fr:a.from'=b.from'
theorem LC {a b:GRec}:UE a b=true↔PubEq a b:=by simp only [UE,aOI,aOG,CN,beq_iff_eq];exact⟨fun⟨⟨⟨⟨⟨⟨⟨⟨⟨⟨h1,h2⟩,h3⟩,h4⟩,h5⟩,h6⟩,h7⟩,h8⟩,h9⟩,h10⟩,h11⟩=>⟨h1,h2,h3,h4,h5,h6,h7,h8,h9,h10,h11⟩,fun⟨h1,h2,h3,h4,h5,h6,h7,h8,h9,h10,h11⟩=>⟨⟨⟨⟨⟨⟨⟨⟨⟨⟨h1,h2⟩,h3⟩,h4⟩,h5⟩,h6⟩,h7⟩,h8⟩,h9⟩,h10⟩,h11⟩⟩
def UP (r:GRec):Prop:=(r.parents.length < 4611686018427387904∧r.edits.length < 4611686018427387904∧∀ e∈r.edits,LM e)∧UN r.sl∧UN r.priv.sl∧r.priv.sources.length < 4611686018427387904∧r.priv.trace.length < 4611686018427387904
theorem FF {r:GRec} (h:jG r):UP r:=by obtain ⟨_,_,h1,h2,h3,_,_,h4,h5,h6⟩:=h;exact⟨⟨by have:=h1.1;omega,by have:=h2.1;omega,h2.2⟩,UM h3,UM h6,by have:=h4.1;omega,by omega⟩
theorem ET (a b:GRec) (H:aB) (ha:UP a) (hb:UP b):aI Tryz.prog 29 [av (cF a),av (cF b)] H (fun r H'=>r=bv (UE a b)∧H'=H):=by
 refine aI.pure ?_ (by simp [cF]) H;have hs1:=fun H=>uZ a.parents b.parents H ha.1.1 hb.1.1;have hs2:=fun H=>RN a.edits b.edits H ha.1.2.1 hb.1.2.1 ha.1.2.2 hb.1.2.2;have hX:UE a b=((((((((((decide (a.kind=b.kind)&&decide (a.author=b.author))&&decide (a.number=b.number))&&decide (a.clock=b.clock))&&decide (a.branch=b.branch))&&decide (a.parents=b.parents))&&AA a.edits b.edits)&&decide (a.target=b.target))&&(a.yes == b.yes))&&decide (a.order=b.order))&&decide (a.from'=b.from')):=rfl;obtain ⟨ee,hee⟩:∃ ee,ee=AA a.edits b.edits:=⟨_,rfl⟩;rw [← hee] at hs2 hX;clear hee;refine Bd func29 rfl ntmps29<|Sr<|Dd (by exact cH (id:=2) rfl rfl rfl rfl rfl)<|Dd (by exact cH (id:=3) rfl rfl rfl rfl rfl)<|Dd aN<|Zz<|Sq ?_;refine bA (t:=4) (n:=86) (X:=UE a b) ?_ ?_
 ·all_goals refine Dd (aV BM) ?_
  all_goals refine Dd (bM isAgg3)<|Dd (aV BM)<|Dd (bM isAgg3)<|Dd cT<|Dm ?_
  all_goals refine Sp 10 (fun h10=>?_) fun h10=>?_
  all_goals try contradiction
  all_goals first|refine Fo<|Fo<|Fo<|Fo<|Fo ?_|refine On (aV zG)<|On (bM isAgg3)<|On (aV zG)<|On (bM isAgg3)<|On cT ?_
  all_goals refine Dd cW<|Dm ?_
  all_goals refine Sp 17 (fun h17=>?_) fun h17=>?_
  all_goals try contradiction
  all_goals first|refine Fo<|Fo<|Fo<|Fo<|Fo ?_|refine On (aV qL)<|On (bM isAgg3)<|On (aV qL)<|On (bM isAgg3)<|On cT ?_
  all_goals refine Dd cW<|Dm ?_
  all_goals refine Sp 24 (fun h24=>?_) fun h24=>?_
  all_goals try contradiction
  all_goals first|refine Fo<|Fo<|Fo<|Fo<|Fo ?_|refine On (aV zF)<|On (bM isAgg3)<|On (aV zF)<|On (bM isAgg3)<|On cT ?_
  all_goals refine Dd cW<|Dm ?_
  all_goals refine Sp 31 (fun h31=>?_) fun h31=>?_
  all_goals try contradiction
  all_goals first|refine Fo<|Fo<|Fo<|Fo<|Fo ?_|refine On (aV zE)<|On (bM isAgg9)<|On (aV zE)<|On (bM isAgg9)<|On yJ ?_
  all_goals refine Dd cW<|Dm ?_
  all_goals refine Sp 38 (fun h38=>?_) fun h38=>?_
  all_goals try contradiction
  all_goals first|refine Fo<|Fo<|Fo<|Fo<|Fo ?_|refine On (aV oI)<|On (bM aH)<|On (aV oI)<|On (bM aH)<|On (by exact aA rfl rfl aFc rfl (hs1 _)) ?_
  all_goals refine Dd cW<|Dm ?_
  all_goals refine Sp 45 (fun h45=>?_) fun h45=>?_
  all_goals try contradiction
  all_goals first|refine Fo<|Fo<|Fo<|Fo<|Fo ?_|refine On (aV zD)<|On (bM kI)<|On (aV zD)<|On (bM kI)<|On (by exact aA rfl rfl call92 rfl (hs2 _)) ?_
  all_goals refine Dd cW<|Dm ?_
  all_goals refine Sp 52 (fun h52=>?_) fun h52=>?_
  all_goals try contradiction
  all_goals first|refine Fo<|Fo<|Fo<|Fo<|Fo ?_|refine On (aV rS)<|On (bM isAgg9)<|On (aV rS)<|On (bM isAgg9)<|On yJ ?_
  all_goals refine Dd cW<|Dm ?_
  all_goals refine Sp 59 (fun h59=>?_) fun h59=>?_
  all_goals try contradiction
  all_goals first|refine Fo<|Fo<|Fo<|Fo<|Fo ?_|refine On (aV BL)<|On (bM oC)<|On (aV BL)<|On (bM oC)<|On (by exact FC rfl dZ rfl rfl) ?_
  all_goals refine Dd cW<|Dm ?_
  all_goals refine Sp 66 (fun h66=>?_) fun h66=>?_
  all_goals try contradiction
  all_goals first|refine Fo<|Fo<|Fo<|Fo<|Fo ?_|refine On (aV uE)<|On (bM isAgg3)<|On (aV uE)<|On (bM isAgg3)<|On cT ?_
  all_goals refine Dd cW<|Dm ?_
  all_goals refine Sp 73 (fun h73=>?_) fun h73=>?_
  all_goals try contradiction
  all_goals first|refine Fo<|Fo<|Fo<|Fo<|Fo ?_|refine On (aV pT)<|On (bM isAgg9)<|On (aV pT)<|On (bM isAgg9)<|On yJ ?_
  all_goals refine Dd cW<|Da ?_
  all_goals(exact⟨⟨_,rfl,by first|(rw [hX,h10];rfl)|(rw [hX,h10,h17];rfl)|(rw [hX,h10,h17,h24];rfl)|(rw [hX,h10,h17,h24,h31];rfl)|(rw [hX,h10,h17,h24,h31,h38];rfl)|(rw [hX,h10,h17,h24,h31,h38,h45];rfl)|(rw [hX,h10,h17,h24,h31,h38,h45,h52];rfl)|(rw [hX,h10,h17,h24,h31,h38,h45,h52,h59];rfl)|(rw [hX,h10,h17,h24,h31,h38,h45,h52,h59,h66];rfl)|(rw [hX,h10,h17,h24,h31,h38,h45,h52,h59,h66,h73];rfl)⟩,rfl,rfl,rfl⟩)
 exact aC<|Rt<|Qq
def aDO (a b:GRec):Bool:=((UE a b&&RS a.priv b.priv)&&decide (a.sl=b.sl))&&decide (a.priv.sl=b.priv.sl)
theorem aDN {a b:GRec}:aDO a b=true↔a=b:=by
 simp only [aDO,RS,aOI,aOG,LC];constructor
 ·rintro⟨⟨⟨⟨h1,h2,h3,h4,h5,h6,h7,h8,h9,h10,h11⟩,⟨⟨q1,q2⟩,q3⟩,q4⟩,h12⟩,h13⟩;obtain ⟨a1,a2,a3,a4,a5,a6,a7,a8,a9,a10,a11,a12,b1,b2,b3,b4,b5⟩:=a;obtain ⟨c1,c2,c3,c4,c5,c6,c7,c8,c9,c10,c11,c12,d1,d2,d3,d4,d5⟩:=b;simp only at *;subst h1 h2 h3 h4 h5 h6 h7 h8 h9 h10 h11 q1 q2 q3 q4 h12 h13;rfl
 rintro rfl;exact⟨⟨⟨⟨rfl,rfl,rfl,rfl,rfl,rfl,rfl,rfl,rfl,rfl,rfl⟩,⟨⟨rfl,rfl⟩,rfl⟩,rfl⟩,rfl⟩,rfl⟩
theorem aBH (a b:GRec) (H:aB) (ha:UP a) (hb:UP b):aI Tryz.prog 21 [av (cF a),av (cF b)] H (fun r H'=>r=bv (aDO a b)∧H'=H):=by
 refine aI.pure ?_ (by simp [cF]) H;have hs1:=fun H=>ET a b H ha hb;have hs2:=fun H=>NL a.priv b.priv H ha.2.2.2.1 hb.2.2.2.1 ha.2.2.2.2;have hs3:=fun H=>K5 a.sl b.sl H ha.2.1 hb.2.1;have hs4:=fun H=>K5 a.priv.sl b.priv.sl H ha.2.2.1 hb.2.2.1;have hX:aDO a b=(((UE a b&&RS a.priv b.priv)&&decide (a.sl=b.sl))&&decide (a.priv.sl=b.priv.sl)):=rfl;obtain ⟨p1,hp1⟩:∃ p,p=UE a b:=⟨_,rfl⟩;obtain ⟨p2,hp2⟩:∃ p,p=RS a.priv b.priv:=⟨_,rfl⟩;rw [← hp1] at hs1 hX;rw [← hp2] at hs2 hX;clear hp1 hp2;refine Bd func21 rfl ntmps21<|Sr<|Dd (by exact cH (id:=2) rfl rfl rfl rfl rfl)<|Dd (by exact cH (id:=3) rfl rfl rfl rfl rfl)<|Dd aN<|Zz<|Sq ?_;refine bA (t:=4) (n:=30) (X:=aDO a b) ?_ ?_
 ·all_goals refine Dd (rQ bD aQ) ?_
  all_goals refine Dd (rQ bD aQ)<|Dd (by exact aA rfl rfl call29 rfl (hs1 _))<|Dm ?_
  all_goals refine Sp 8 (fun h8=>?_) fun h8=>?_
  all_goals try contradiction
  all_goals first|refine Fo<|Fo<|Fo<|Fo<|Fo ?_|refine On (aV fW)<|On (rQ mI sizeOf28)<|On (aV fW)<|On (rQ mI sizeOf28)<|On (by exact aA rfl rfl call30 rfl (hs2 _)) ?_
  all_goals refine Dd cW<|Dm ?_
  all_goals refine Sp 15 (fun h15=>?_) fun h15=>?_
  all_goals try contradiction
  all_goals first|refine Fo<|Fo<|Fo<|Fo<|Fo ?_|refine On (aV nA)<|On (rQ fM sizeOf25)<|On (aV nA)<|On (rQ fM sizeOf25)<|On (by exact aA rfl rfl call35 rfl (hs3 _)) ?_
  all_goals refine Dd cW<|Dm ?_
  all_goals refine Sp 22 (fun h22=>?_) fun h22=>?_
  all_goals try contradiction
  all_goals first|refine Fo<|Fo<|Fo<|Fo<|Fo<|Fo<|Fo ?_|refine On (aV fW)<|On (aV pU)<|On (rQ fM sizeOf25)<|On (aV fW)<|On (aV pU)<|On (rQ fM sizeOf25)<|On (by exact aA rfl rfl call35 rfl (hs4 _)) ?_
  all_goals refine Dd cW<|Da ?_
  all_goals(exact⟨⟨_,rfl,by first|(rw [hX,h8];rfl)|(rw [hX,h8,h15];rfl)|(rw [hX,h8,h15,h22];rfl)⟩,rfl,rfl,rfl⟩)
 exact aC<|Rt<|Qq
structure WRest where
 a:PV
 b:PV
 c:PV
 d:PV
 e:PV
def aBo (w:WRest) (ks:List ByteArray):List PV:=[w.a,aX ks,w.b,w.c,w.d,w.e]
def ckA (r:GRec) (ks:List ByteArray):Bool:=!dT r||decide (((ks.map encStr).length:Int)≤r.author)
def ckB (r:GRec) (key:ByteArray):Bool:=!decide (r.sl.idx=2*r.number - 2)||!xX key (nM r) r.sl.idx r.sl.sig r.sl.path
def ckC (r:GRec):Bool:=gS r.priv&&!uW r.priv.sl
def ckD (r:GRec) (key:ByteArray):Bool:=!gS r.priv&&(!decide (r.priv.sl.idx=2*r.number - 1)||!xX key (rP r) r.priv.sl.idx r.priv.sl.sig r.priv.sl.path)
def rV (r:GRec) (ks:List ByteArray):Int:=if ckA r ks=true then 1 else if ckB r (ks.getD r.author.toNat sNil)=true then 16 else if ckC r=true then 16 else if ckD r (ks.getD r.author.toNat sNil)=true then 16 else 0
theorem J9 (r:GRec) (w:WRest) (ks:List ByteArray) (hr:jG r) (hp:r.parents.length < 549755813888) (hk:N5 ks) (H:aB):aI Tryz.prog 22 [av (cF r),av (aBo w ks)] H (fun x H'=>x=iv (rV r ks)∧H'=H):=by
 refine aI.pure ?_ (by simp [cF,aBo]) H;have hkl:(ks.map encStr).length=ks.length:=aNz _;have hks:=hk.1;have hv:=fun H=>EG r hr hp H;have hid:=fun H=>MF r hr hp H;have hckA:ckA r ks=(!dT r||decide (((ks.map encStr).length:Int)≤r.author)):=rfl;rw [rV];refine Bd func22 rfl ntmps22<|Sr<|Dd (by exact cH (id:=2) rfl rfl rfl rfl rfl)<|Dd (by exact cH (id:=3) rfl rfl rfl rfl rfl)<|Dd aN<|Zz<|Sq<|Sq ?_;refine bA (t:=17) (n:=12) (X:=ckA r ks) ?_ ?_
 ·all_goals refine Dd (rQ bD aQ) ?_
  all_goals refine Dd (by exact aA rfl rfl GJ rfl (hv _))<|Dd jS<|Dm ?_
  all_goals refine Sp 10 (fun h10=>?_) fun h10=>?_
  all_goals try contradiction
  all_goals first|refine Fo<|Fo<|Fo<|Fo<|Fo<|Fo ?_|refine On (aV zG)<|On (bM isAgg3)<|On (aV aE7)<|On (bM aH)<|On (fY aE)<|On DT ?_
  all_goals refine Dd cW<|Zz ?_
  all_goals(exact⟨⟨_,rfl,by(rw [hckA,h10];rfl)⟩,rfl,rfl,rfl⟩)
 refine Cn ?_ ?_<;>intro hc1
 ·rw [aNy hc1];exact Sr<|Dd aN<|Zz<|aC<|Rt<|Qq
 have hA:=hc1;rw [aNx (by rw [hA];decide)];rw [hckA,aOV] at hA;have hb:=CG hA.1;have hau:=aNw hA.2;have hf:=lI hb;have hau0:=hf.au;have hnu:=hf.nu;have hme:=fun H=>PX r hr hp hb H;have hfs:=kZ hf.sl;have hfp:=kZ hf.psl;have i0:=hfs.i0;have i1:=hfs.i1;have q0:=hfp.i0;have q1:=hfp.i1;have hms:(rP r).size=16:=jU _;have his:=J5 r;have hix:(ks.map encStr)[r.author.toNat]?=some (encStr (ks.getD r.author.toNat sNil)):=by
  rw [aOT,List.getD_eq_getElem?_getD,aOE (by omega)];rfl
 obtain ⟨key,hkey⟩:∃ key,key=ks.getD r.author.toNat sNil:=⟨_,rfl⟩;rw [← hkey] at hix ⊢;have hve1:=fun H=>OQ key (nM r) r.sl.idx r.sl.sig r.sl.path H (by omega) (by omega) (by omega) (lZ hfs).2.1.1 (lZ hfs).2.2.1 (lZ hfs).2.1.2 (lZ hfs).2.2.2;have hve2:=fun H=>OQ key (rP r) r.priv.sl.idx r.priv.sl.sig r.priv.sl.path H (by omega) (by omega) (by omega) (lZ hfp).2.1.1 (lZ hfp).2.2.1 (lZ hfp).2.1.2 (lZ hfp).2.2.2;have hem:=fun H=>aA1 r.priv hr.2.2.2.2.2 H;have hze:=fun H=>aC7 r.priv.sl (lZ hfp) H;have hckB:ckB r key=(!decide (r.sl.idx=2*r.number - 2)||!xX key (nM r) r.sl.idx r.sl.sig r.sl.path):=rfl;have hckC:ckC r=(gS r.priv&&!uW r.priv.sl):=rfl;have hckD:ckD r key=(!gS r.priv&&(!decide (r.priv.sl.idx=2*r.number - 1)||!xX key (rP r) r.priv.sl.idx r.priv.sl.sig r.priv.sl.path)):=rfl;obtain ⟨v1,hv1⟩:∃ v1,v1=xX key (nM r) r.sl.idx r.sl.sig r.sl.path:=⟨_,rfl⟩;obtain ⟨v2,hv2⟩:∃ v2,v2=xX key (rP r) r.priv.sl.idx r.priv.sl.sig r.priv.sl.path:=⟨_,rfl⟩;obtain ⟨em,hemE⟩:∃ em,em=gS r.priv:=⟨_,rfl⟩;obtain ⟨ze,hzeE⟩:∃ ze,ze=uW r.priv.sl:=⟨_,rfl⟩;obtain ⟨i,hi⟩:∃ i,i=nM r:=⟨_,rfl⟩;obtain ⟨m,hm⟩:∃ m,m=rP r:=⟨_,rfl⟩;rw [← hv1] at hckB;rw [← hv2] at hckD;rw [← hemE] at hckC hckD;rw [← hzeE] at hckC;simp only [← hv1] at hve1;simp only [← hv2] at hve2;simp only [← hi] at hid hve1;simp only [← hm] at hme hve2;simp only [← hemE] at hem;simp only [← hzeE] at hze;clear hv1 hv2 hemE hzeE hi hm hkey;refine aD<|Sq<|aO follows<|Cr [3] (fun _ h=>fh aE7 h)<|Cr [3] (fun _ h=>lh aH h)<|Cr [2] (fun _ h=>fh zG h)<|Cr [2] (fun _ h=>lh isAgg3 h)<|Cr [] (fun H1 hH=>by exact bW rfl cA rfl rfl (by omega) (by exact aOK _) hix rfl)<|Cr [] (fun _ _=>(jA isAgg9 (hi:=hix)))<|Cr [2] (fun _ h=>fh fW h)<|Cr [2] (fun H1 hH=>by exact aL rfl mI sizeOf28 rfl ((hH _ rfl).trans rfl) rfl rfl rfl rfl)<|Cp [6] (fun H1 hH=>by exact bU (id:=6) rfl aIe rfl ((hH _ rfl).trans rfl))<|Cr [] (fun _ _=>aN)<|Cp [6] (fun H1 hH=>by exact cJ rfl sizeOf28 rfl rfl rfl rfl ((hH _ rfl).trans rfl) rfl rfl rfl)<|bL<|Kr<|Sq<|aG<|Sq ?_;refine mW (t:=26) (n:=18) (X:=ckB r key) ?_ ?_
 ·cases hg35:(!decide (r.sl.idx=2*r.number - 2):Bool)
  ·refine aO follows<|Cq (aV nA)<|Cq (aV nN)<|Cq (bM isAgg3)<|Cq (aV qL)<|Cq (bM isAgg3)<|Cq (by exact sG rfl rfl rfl (pB (by omega) (by omega)))<|Cq (by exact eQ rfl rfl rfl (pB (by omega) (by omega)))<|Cq AI<|Cq aF<|Nf aF<|Nf (rQ bD aQ)<|Nf (by exact aA rfl rfl AR rfl (hid _))<|Nf (aV nA)<|Nf (rQ fM sizeOf25)<|Nf (by exact aA rfl rfl call32 rfl (hve1 _))<|Nf jS<|Cq nS<|Cq aN<|bL<|Kr ?_;exact⟨rfl,⟨_,rfl,by(rw [hckB,hg35];rfl)⟩,rfl,rfl,rfl⟩
  refine aO follows<|Cq (aV nA)<|Cq (aV nN)<|Cq (bM isAgg3)<|Cq (aV qL)<|Cq (bM isAgg3)<|Cq (by exact sG rfl rfl rfl (pB (by omega) (by omega)))<|Cq (by exact eQ rfl rfl rfl (pB (by omega) (by omega)))<|Cq AI<|Cq aF<|Of<|Of<|Of<|Of<|Of<|Of<|Of<|Cq wX<|Cq aN<|bL<|Kr ?_;exact⟨rfl,⟨_,rfl,by(rw [hckB,hg35];rfl)⟩,rfl,rfl,rfl⟩
 refine Cn ?_ ?_<;>intro hc2
 ·rw [aNy hc2];exact Sr<|Dd aN<|Zz<|aC<|Rt<|Qq
 rw [aNx (by rw [hc2];decide)];refine Sq ?_;refine bA (t:=44) (n:=10) (X:=ckC r) ?_ ?_
 ·all_goals refine Dd (rQ mI sizeOf28) ?_
  all_goals refine Dd (by exact aA rfl rfl S8 rfl (hem _))<|Dm ?_
  all_goals refine Sp 47 (fun h47=>?_) fun h47=>?_
  all_goals try contradiction
  all_goals first|refine Fo<|Fo<|Fo<|Fo ?_|refine On (aV pU)<|On (rQ fM sizeOf25)<|On (by exact aA rfl rfl call84 rfl (hze _))<|On jS ?_
  all_goals refine Dd cW<|Da ?_
  all_goals(exact⟨⟨_,rfl,by(rw [hckC,h47];rfl)⟩,rfl,rfl,rfl⟩)
 refine Cn ?_ ?_<;>intro hc3
 ·rw [aNy hc3];exact Sr<|Dd aN<|Zz<|aC<|Rt<|Qq
 rw [aNx (by rw [hc3];decide)];refine Sq ?_;refine mW (t:=53) (n:=23) (X:=ckD r key) ?_ ?_
 ·cases hg57:(!em:Bool)
  ·refine aO follows<|Cq (rQ mI sizeOf28)<|Cq (by exact aA rfl rfl S8 rfl (hem _))<|Cq jS<|Cq aF<|Ot<|Ot<|Ot<|Ot<|Ot<|Ot<|Ot<|Ot<|Ot<|Ou<|Ou<|Ou<|Ou<|Ou<|Ou<|Ou<|Ot<|Cq nS<|Cq aN<|bL<|Kr ?_;exact⟨rfl,⟨_,rfl,by(rw [hckD,hg57];rfl)⟩,rfl,rfl,rfl⟩
  cases hg66:(!decide (r.priv.sl.idx=2*r.number - 1):Bool)
  ·refine aO follows<|Cq (rQ mI sizeOf28)<|Cq (by exact aA rfl rfl S8 rfl (hem _))<|Cq jS<|Cq aF<|Nt (aV pU)<|Nt (aV nN)<|Nt (bM isAgg3)<|Nt (aV qL)<|Nt (bM isAgg3)<|Nt (by exact sG rfl rfl rfl (pB (by omega) (by omega)))<|Nt (by exact eQ rfl rfl rfl (pB (by omega) (by omega)))<|Nt AI<|Nt aF<|Nf aF<|Nf (rQ bD aQ)<|Nf (by exact aA rfl rfl call85 rfl (hme _))<|Nf (aV pU)<|Nf (rQ fM sizeOf25)<|Nf (by exact aA rfl rfl call32 rfl (hve2 _))<|Nf jS<|Nt nS<|Cq wX<|Cq aN<|bL<|Kr ?_;exact⟨rfl,⟨_,rfl,by(rw [hckD,hg57,hg66];rfl)⟩,rfl,rfl,rfl⟩
  refine aO follows<|Cq (rQ mI sizeOf28)<|Cq (by exact aA rfl rfl S8 rfl (hem _))<|Cq jS<|Cq aF<|Nt (aV pU)<|Nt (aV nN)<|Nt (bM isAgg3)<|Nt (aV qL)<|Nt (bM isAgg3)<|Nt (by exact sG rfl rfl rfl (pB (by omega) (by omega)))<|Nt (by exact eQ rfl rfl rfl (pB (by omega) (by omega)))<|Nt AI<|Nt aF<|Of<|Of<|Of<|Of<|Of<|Of<|Of<|Nt wX<|Cq wX<|Cq aN<|bL<|Kr ?_;exact⟨rfl,⟨_,rfl,by(rw [hckD,hg57,hg66];rfl)⟩,rfl,rfl,rfl⟩
 refine Cn ?_ ?_<;>intro hc4
 ·rw [aNy hc4];exact Sr<|Dd aN<|Zz<|aC<|Rt<|Qq
 rw [aNx (by rw [hc4];decide)];exact aD<|Sr<|Dd aN<|Zz<|aC<|Rt<|Qq
def OG (l:List ByteArray):List PV:=[aX l]
def RJ (ls:List (List ByteArray)):PV:=.sl (ls.map OG)
def XA (l:List GRec):PV:=.sl (l.map cF)
def lsOk (l:List ByteArray):Bool:=decide (l.length≤30)&&l.all fun s=>decide (s.size≤300)
theorem M8 {α:Type} {l:List α} {p:α→Bool} (h:∀ j,j < l.length→∀ b,l[j]?=some b→p b=true):l.all p=true:=by rw [List.all_eq_true];intro b hb;obtain ⟨j,hj⟩:=aOU.1 hb;exact h j (aOD.1 hj).1 b hj
theorem S2 {α:Type} {l:List α} {p:α→Bool} {i:Nat} {b:α} (hb:l[i]?=some b) (h:p b=false):l.all p=false:=by rw [List.all_eq_false];exact⟨b,aOJ hb,by rw [h];decide⟩
theorem GM {α:Type} {l:List α} {p:α→Bool} {i:Nat} {x:α} (h:∀ j,j < i→∀ b,l[j]?=some b→p b=true) (hx:l[i]?=some x) (hp:p x=true):∀ j,j < i+1→∀ b,l[j]?=some b→p b=true:=by
 intro j hj b hb;by_cases e:j=i
 ·subst e;rw [hx] at hb;cases hb;exact hp
 exact h j (by omega) b hb
theorem PY (ls:List (List ByteArray)) (H:aB) (hl:ls.length < 1099511627776) (hs:∀ l∈ls,l.length < 1099511627776):aI Tryz.prog 111 [.pv (RJ ls)] H (fun r H'=>r=bv (ls.all lsOk)∧H'=H):=by
 refine Pu ?_;have hml:(ls.map OG).length=ls.length:=aNz _;refine Bd func111 rfl ntmps111<|Sr<|Dd aN<|Zz<|Sq<|Sr<|Dd aN<|Zz<|aG ?_;refine bT (σ:=Nat) (fun k=>([(0,.pv (RJ ls)),(3,iv (k:Int))],[])) (fun k=>k≤ls.length∧∀ j,j < k→∀ b,ls[j]?=some b→lsOk b=true) (fun k=>ls.length - k) 0 ⟨by omega,by omega⟩ ?_ ?_
 ·exact Wk
 rintro k ⟨hk,hno⟩;refine Sq<|Sr<|Dd aF<|Dd aF<|Dd (fY D7)<|Dd dK<|Zz ?_;refine Cn ?_ ?_<;>intro hc1
 ·have hlt:k < ls.length:=by have:=aNv hc1;omega
  obtain ⟨l,hl1⟩:=aZ hlt;have hi:=cP (f:=OG) hl1;have hll:=hs l (aOJ hl1);have hmm:(l.map encStr).length=l.length:=aNz _;have hnot:=fun h=>S2 (p:=lsOk) hl1 h;refine aD<|Sq<|aG<|Sq<|Sr<|Dd aF<|Dd aF<|Dd (by exact bW rfl ID rfl rfl (by omega) (by exact aOK _) hi rfl)<|Dd (jA aH (hi:=hi))<|Dd (fY aE)<|Dd jE<|Zz ?_;refine Cn ?_ ?_<;>intro hc2
  ·have hb:¬ l.length≤30:=by have:=aNv hc2;omega
   rw [hnot (by rw [lsOk,decide_eq_false hb];rfl)];exact Sr<|Dd aN<|Zz<|aC<|Rt<|Qq
  have hb:l.length≤30:=by have:=aNw hc2;omega
  refine aD<|Sr<|Dd aN<|Zz<|aG ?_;refine bT (σ:=Nat) (fun i=>([(0,.pv (RJ ls)),(3,iv (k:Int)),(4,iv (i:Int))],[])) (fun i=>i≤l.length∧∀ j,j < i→∀ b,l[j]?=some b→decide (b.size≤300)=true) (fun i=>l.length - i) 0 ⟨by omega,by omega⟩ ?_ ?_
  ·exact Wk
  rintro i ⟨hi',hno2⟩;refine Sq<|Sr<|Dd aF<|Dd aF<|Dd aF<|Dd (by exact bW rfl ID rfl rfl (by omega) (by exact aOK _) hi rfl)<|Dd (jA aH (hi:=hi))<|Dd (fY aE)<|Dd dK<|Zz ?_;refine Cn ?_ ?_<;>intro hc3
  ·have hlt2:i < l.length:=by have:=aNv hc3;omega
   obtain ⟨s,hs1⟩:=aZ hlt2;have hi2:=cP (f:=encStr) hs1;refine aD<|Sq<|aG<|Sr<|Dd aF<|Dd aF<|Dd (by exact bW rfl ID rfl rfl (by omega) (by exact aOK _) hi rfl)<|Dd (jA aH (hi:=hi))<|Dd aF<|Dd (by exact bW rfl cA rfl rfl (by omega) (by exact aOK _) hi2 rfl)<|Dd (jA isAgg9 (hi:=hi2))<|Dd (lH underlying9)<|Dd jE<|Zz ?_;refine Cn ?_ ?_<;>intro hc4
   ·have hb2:¬ s.size≤300:=by have:=aNv hc4;omega
    rw [hnot (by rw [lsOk,S2 (p:=fun s=>decide (s.size≤300)) hs1 (decide_eq_false hb2),Bool.and_false])];exact Sr<|Dd aN<|Zz<|aC<|Rt<|Qq
   have hb2:s.size≤300:=by have:=aNw hc4;omega
   refine aD<|Rg<|Dd aF<|Dd (by exact cI rfl rfl rfl (show IntKind.i64.wrap ((i:Int)+1)=((i+1:Nat):Int)by rw [pB (by omega) (by omega)];omega))<|Da ?_;exact⟨i+1,⟨by omega,GM (p:=fun s=>decide (s.size≤300)) hno2 hs1 (decide_eq_true hb2)⟩,by omega,Wk⟩
  have hge:i=l.length:=by have:=aNw hc3;omega
  subst hge;have hok:lsOk l=true:=by rw [lsOk,decide_eq_true hb,M8 hno2];rfl
  refine bC<|Rg<|Dd aF<|Dd (by exact cI rfl rfl rfl (show IntKind.i64.wrap ((k:Int)+1)=((k+1:Nat):Int)by rw [pB (by omega) (by omega)];omega))<|Da ?_;exact⟨k+1,⟨by omega,GM hno hl1 hok⟩,by omega,Wk⟩
 have hge:k=ls.length:=by have:=aNw hc1;omega
 subst hge;rw [M8 hno];exact bC<|Sr<|Dd aN<|Zz<|aC<|Rt<|Qq
def aE9 (r:GRec):Bool:=((!([r.parents,r.sl.sig,r.sl.path,r.priv.sources,r.priv.sl.sig,r.priv.sl.path].all lsOk)||!([[r.branch,r.target,r.from',r.priv.name,r.priv.reason]].all lsOk))||decide (210 < ((r.priv.trace.map gP).length:Int)))||!vZ r.edits 10
def YP (r:GRec):Bool:=!aE9 r
def QE (l:List GRec) (n:Int):Bool:=decide ((l.length:Int)≤n)&&l.all YP
theorem UO {r:GRec} (h:jG r):∀ l∈[r.parents,r.sl.sig,r.sl.path,r.priv.sources,r.priv.sl.sig,r.priv.sl.path],l.length < 1099511627776:=by
 obtain ⟨_,_,h1,_,h3,_,_,h4,_,h6⟩:=h;intro l hl;simp only [aOL,aOP,or_false] at hl;rcases hl with rfl|rfl|rfl|rfl|rfl|rfl
 ·exact h1.1
 ·exact h3.2.1.1
 ·exact h3.2.2.1
 ·exact h4.1
 ·exact h6.2.1.1
 exact h6.2.2.1
theorem aHR (l:List GRec) (n:Int) (H:aB) (hl:l.length < 1099511627776) (hr:∀ r∈l,jG r):aI Tryz.prog 43 [.pv (XA l),iv n] H (fun r H'=>r=bv (QE l n)∧H'=H):=by
 refine Pu ?_;have hml:(l.map cF).length=l.length:=aNz _;have hB:QE l n=(decide (((l.map cF).length:Int)≤n)&&l.all YP):=by rw [QE,hml]
 refine Bd func43 rfl ntmps43<|Sr<|Dd aN<|Zz<|Sq<|Sr<|Dd aN<|Zz<|aG ?_;refine bT (σ:=Nat) (fun k=>([(0,.pv (XA l)),(1,iv n),(5,iv (k:Int))],[])) (fun k=>k≤l.length∧∀ j,j < k→∀ b,l[j]?=some b→YP b=true) (fun k=>l.length - k) 0 ⟨by omega,by omega⟩ ?_ ?_
 ·exact Wk
 rintro k ⟨hk,hno⟩;refine Sq<|Sq ?_;refine bA (t:=17) (n:=11) (X:=decide ((k:Int) < ((l.map cF).length:Int))&&decide (((l.map cF).length:Int)≤n)) ?_ ?_
 ·all_goals refine Dd aF ?_
  all_goals refine Dd aF<|Dd (fY GH)<|Dd dK<|Dm ?_
  all_goals refine Sp 12 (fun h12=>?_) fun h12=>?_
  all_goals try contradiction
  all_goals first|refine Fo<|Fo<|Fo<|Fo ?_|refine On aF<|On (fY GH)<|On aF<|On MB ?_
  all_goals refine Dd cW<|Zz ?_
  all_goals(exact⟨⟨_,rfl,by(rw [h12];rfl)⟩,rfl,rfl,rfl⟩)
 refine Cn ?_ ?_<;>intro hc1
 ·have hh:=hc1;rw [aOI,aOG,aOG] at hh;have hlt:k < l.length:=by omega
  obtain ⟨r,hr1⟩:=aZ hlt;have hi:=cP (f:=cF) hr1;have hok:=hr r (aOJ hr1);have hnot:=fun h=>S2 (p:=YP) hr1 h;have hl1:=fun H=>PY [r.parents,r.sl.sig,r.sl.path,r.priv.sources,r.priv.sl.sig,r.priv.sl.path] H (show 6 < 1099511627776 by decide) (UO hok);have hl2:=fun H=>PY [[r.branch,r.target,r.from',r.priv.name,r.priv.reason]] H (show 1 < 1099511627776 by decide) (by intro l hl;rw [aOC] at hl;subst hl;exact(by decide:5 < 1099511627776));have hed:=fun H=>aHS r.edits 10 H (by have:=hok.2.2.2.1.1;omega) (fun e he=>⟨⟨(hok.2.2.2.1.2 e he).2.2.2.2.1,(hok.2.2.2.1.2 e he).2.2.2.1.1⟩,by have:=(hok.2.2.2.1.2 e he).2.1.1;omega⟩);have hX:aE9 r=(((!([r.parents,r.sl.sig,r.sl.path,r.priv.sources,r.priv.sl.sig,r.priv.sl.path].all lsOk)||!([[r.branch,r.target,r.from',r.priv.name,r.priv.reason]].all lsOk))||decide (210 < ((r.priv.trace.map gP).length:Int)))||!vZ r.edits 10):=rfl;obtain ⟨b1,hb1⟩:∃ b,b=[r.parents,r.sl.sig,r.sl.path,r.priv.sources,r.priv.sl.sig,r.priv.sl.path].all lsOk:=⟨_,rfl⟩;obtain ⟨b2,hb2⟩:∃ b,b=[[r.branch,r.target,r.from',r.priv.name,r.priv.reason]].all lsOk:=⟨_,rfl⟩;obtain ⟨b3,hb3⟩:∃ b,b=vZ r.edits 10:=⟨_,rfl⟩;rw [← hb1] at hl1 hX;rw [← hb2] at hl2 hX;rw [← hb3] at hed hX;clear hb1 hb2 hb3;refine aD<|Sq<|aG<|Sr<|Dd aF<|Dd aF<|Dd (by exact bW rfl aKt rfl rfl (by omega) (by exact aOK _) hi rfl)<|Dd (by exact dL rfl bD aQ rfl hi rfl rfl)<|Dd (by exact bU (id:=6) rfl NH rfl rfl)<|Uu (kQ aQ)<|Zz<|Sr<|Dd (aV fW)<|Dd (rQ mI sizeOf28)<|Dd (by exact bU (id:=7) rfl aIe rfl rfl)<|Uu (kQ sizeOf28)<|Zz<|Sq ?_;refine bA (t:=72) (n:=50) (X:=aE9 r) ?_ ?_
  ·all_goals refine Dd (aV oI) ?_
   all_goals refine Dd (bM aH)<|Dd (aV nA)<|Dd (aV jT)<|Dd (bM aH)<|Dd (aV nA)<|Dd (aV oJ)<|Dd (bM aH)<|Dd (aV BN)<|Dd (bM aH)<|Dd (aV pU)<|Dd (aV jT)<|Dd (bM aH)<|Dd (aV pU)<|Dd (aV oJ)<|Dd (bM aH)<|Dd (by exact aR [OG r.parents,OG r.sl.sig,OG r.sl.path,OG r.priv.sources,OG r.priv.sl.sig,OG r.priv.sl.path] rfl ID rfl rfl rfl rfl rfl (by intro r hr;simp only [aOL,aOP,or_false] at hr;rcases hr with rfl|rfl|rfl|rfl|rfl|rfl<;>rfl))<|Dd (by exact aA rfl rfl call111 rfl (hl1 _))<|Dd jS<|Dm ?_
   all_goals refine Sp 45 (fun h45=>?_) fun h45=>?_
   all_goals try contradiction
   all_goals first|refine Fo<|Fo<|Fo<|Fo<|Fo<|Fo<|Fo<|Fo<|Fo<|Fo ?_|refine On (aV zE)<|On (bM isAgg9)<|On (aV rS)<|On (bM isAgg9)<|On (aV pT)<|On (bM isAgg9)<|On (aV DX)<|On (bM isAgg9)<|On (aV DW)<|On (bM isAgg9) ?_
   all_goals first|refine Fo ?_|refine On (by exact aR [[.str r.branch],[.str r.target],[.str r.from'],[.str r.priv.name],[.str r.priv.reason]] rfl cA rfl rfl rfl rfl rfl (by intro r hr;simp only [aOL,aOP,or_false] at hr;rcases hr with rfl|rfl|rfl|rfl|rfl<;>rfl)) ?_
   all_goals first|refine Fo<|Fo<|Fo ?_|refine On (by exact aR [OG [r.branch,r.target,r.from',r.priv.name,r.priv.reason]] rfl ID rfl rfl rfl rfl rfl (by intro r hr;rw [aOC] at hr;subst hr;rfl))<|On (by exact aA rfl rfl call111 rfl (hl2 _))<|On jS ?_
   all_goals refine Dd cW<|Dm ?_
   all_goals refine Sp 61 (fun h61=>?_) fun h61=>?_
   all_goals try contradiction
   all_goals first|refine Fo<|Fo<|Fo<|Fo ?_|refine On (aV uF)<|On (bM kH)<|On (fY eR)<|On jE ?_
   all_goals refine Dd cW<|Dm ?_
   all_goals refine Sp 67 (fun h67=>?_) fun h67=>?_
   all_goals try contradiction
   all_goals first|refine Fo<|Fo<|Fo<|Fo ?_|refine On (aV zD)<|On (bM kI)<|On (by exact aA rfl rfl call112 rfl (hed _))<|On jS ?_
   all_goals refine Dd cW<|Zz ?_
   all_goals(exact⟨⟨_,rfl,by first|(rw [hX,h45];rfl)|(rw [hX,h45,h61];rfl)|(rw [hX,h45,h61,h67];rfl)⟩,rfl,rfl,rfl⟩)
  refine Cn ?_ ?_<;>intro hc2
  ·rw [hB,hnot (by rw [YP,hc2];rfl),Bool.and_false];exact Sr<|Dd aN<|Zz<|aC<|Rt<|Qq
  have hgo:YP r=true:=by rw [YP,hc2];rfl
  refine aD<|Rg<|Dd aF<|Dd (by exact cI rfl rfl rfl (show IntKind.i64.wrap ((k:Int)+1)=((k+1:Nat):Int)by rw [pB (by omega) (by omega)];omega))<|Da ?_;exact⟨k+1,⟨by omega,GM hno hr1 hgo⟩,by omega,Wk⟩
 have hh:=hc1;rw [Bool.and_eq_false_iff,aOH,aOH] at hh;have hres:QE l n=decide (((l.map cF).length:Int)≤n):=by
  rw [hB];rcases hh with hh|hh
  ·have hge:k=l.length:=by omega
   subst hge;rw [M8 hno,Bool.and_true]
  rw [decide_eq_false hh];rfl
 rw [hres];exact bC<|Sr<|Dd aF<|Dd (fY GH)<|Dd aF<|Dd MB<|Dd aN<|Zz<|aC<|Rt<|Qq
theorem YB (l:List GRec) (H:aB) (hl:l.length < 1099511627776) (hr:∀ r∈l,jG r):aI Tryz.prog 11 [.pv (XA l)] H (fun r H'=>r=bv (QE l 5)∧H'=H):=by refine Pu ?_;have hf:=fun H=>aHR l 5 H hl hr;exact Bd func11 rfl ntmps11<|Sr<|Dd aN<|Zz<|Sr<|Dd aF<|Dd (by exact aA rfl rfl call43 rfl (hf _))<|Dd aN<|Zz<|aC<|Rt<|Qq
theorem qF {r:GRec} {a b:GSeal} (h:dT r=true) (ha:kD a=true) (hb:kD b=true):dT (N7 r a b)=true:=by simp only [dT,aOI,aOS] at h ⊢;obtain ⟨⟨⟨⟨h1,h2⟩,h3⟩,h4⟩,h5⟩:=h;refine⟨⟨⟨⟨?_,h2⟩,h3⟩,h4⟩,h5⟩;simp only [v1G,aOV] at h1 ⊢;obtain ⟨⟨h1,_⟩,_⟩:=h1;exact⟨⟨h1,by show (!kD b)=false;rw [hb];rfl⟩,by show (!kD a)=false;rw [ha];rfl⟩
theorem CL:kD zS=true:=by decide
theorem YG {r:GRec} {a b:GSeal} (h:dT r=true) (ha:kD a=true) (hb:kD b=true):nM (N7 r a b)=nM r:=by rw [nM,nM,aNy (qF h ha hb),aNy h];rfl
theorem aGt {r:GRec} {a b:GSeal} (h:dT r=true) (ha:kD a=true) (hb:kD b=true):rP (N7 r a b)=rP r:=by rw [rP,rP,YG h ha hb];rfl
theorem xY {r:GRec} (h:dT r=true):dT (nH r)=true:=by
 simp only [dT,aOI,aOS] at h ⊢;obtain ⟨⟨⟨⟨h1,h2⟩,h3⟩,h4⟩,h5⟩:=h;refine⟨⟨⟨⟨?_,h2⟩,h3⟩,h4⟩,h5⟩;simp only [v1G,aOV] at h1 ⊢;obtain ⟨_,h8⟩:=h1;refine⟨?_,h8⟩;have e1:kD ⟨0,[],[]⟩=true:=by decide
 have e2:IK sNil=false:=by decide
 simp [nH,e1,e2]
theorem aHM {r:GRec} (h:dT r=true):nM (nH r)=nM r:=by rw [nM,nM,aNy (xY h),aNy h];rfl
theorem aLk {s:GSeal} (h:FSeal s) (hl:s.sig.length=18):kD s=true:=by have i0:=h.i0;have i1:=h.i1;have l2:=h.pl;rw [kD,aNz,aNz,decide_eq_true i0,decide_eq_true i1,decide_eq_true (by omega),decide_eq_true (by omega),List.all_eq_true.2 h.sa,List.all_eq_true.2 h.pa];simp
theorem lK {s m:ByteArray} {h i:Int} (h1:(xU s h i m).2=0):kD (xU s h i m).1=true:=by obtain ⟨f,e,_⟩:=tG h1;refine aLk f ?_;rw [e];exact K0 _ _ _
theorem Z0 {s m:ByteArray} {h i:Int} (h1:(xU s h i m).2=0):xX (tL s h.toNat) m (xU s h i m).1.idx (xU s h i m).1.sig (xU s h i m).1.path=true∧(xU s h i m).1.idx=i:=by
 obtain ⟨_,e,⟨h2,h3⟩,h4,h5⟩:=tG h1;rw [e];refine⟨?_,rfl⟩;obtain ⟨n,rfl⟩:∃ n:Nat,h=(n:Int):=⟨h.toNat,by omega⟩;obtain ⟨k,rfl⟩:∃ k:Nat,i=(k:Int):=⟨i.toNat,by omega⟩;rw [aOK] at h5 ⊢;rw [aOK];have h6:k < 2 ^ n:=by exact_mod_cast h5
 exact aCf s m (by omega) h6
theorem UU {r x:GRec} (h:zV r=(x,0)):x=r∧(pE r).2=0:=by
 rw [zV] at h
 split at h
 ·next hn=>exact absurd (congrArg Prod.snd h) hn
 next hn=>exact⟨(congrArg Prod.fst h).symm,by by_cases e:(pE r).2=0;exact e;exact absurd e hn⟩
structure Made (r x:GRec) (s:ByteArray) (h:Int):Prop where
 v0:dT (AT r)=true
 a0:(xU s h (2*r.number - 2) (nM (AT r))).2=0
 tx:(pE x).2=0
 e:(gS r.priv=true∧x=mk1 r (xU s h (2*r.number - 2) (nM (AT r))).1)∨(gS r.priv=false∧(xU s h (2*r.number - 1) (rP (AT r))).2=0∧x=N7 r (xU s h (2*r.number - 2) (nM (AT r))).1 (xU s h (2*r.number - 1) (rP (AT r))).1)
theorem aHB {r x:GRec} {s:ByteArray} {h:Int} (hm:FN r s h=(x,0)):Made r x s h:=by
 rw [FN] at hm
 split at hm
 ·cases hm
 next h1 =>
 split at hm
 ·next h2 =>
  have:=congrArg Prod.snd hm;exact absurd this h2
 next h2 =>
 have h2:(xU s h (2*r.number - 2) (nM (AT r))).2=0:=by
  by_cases e:(xU s h (2*r.number - 2) (nM (AT r))).2=0
  ·exact e
  exact absurd e h2
 split at hm
 ·next h3 =>
  obtain ⟨e1,e2⟩:=UU hm;exact⟨by simpa using h1,h2,e1▸e2,.inl ⟨h3,e1⟩⟩
 next h3 =>
 split at hm
 ·next h4 =>
  have:=congrArg Prod.snd hm;exact absurd this h4
 next h4 =>
 obtain ⟨e1,e2⟩:=UU hm;refine⟨by simpa using h1,h2,e1▸e2,.inr ⟨by simpa using h3,?_,e1⟩⟩;by_cases e:(xU s h (2*r.number - 1) (rP (AT r))).2=0
 ·exact e
 exact absurd e h4
theorem Made.valid {r x:GRec} {s:ByteArray} {h:Int} (hm:Made r x s h):dT x=true:=by
 rcases hm.e with⟨_,e⟩|⟨_,h2,e⟩
 ·rw [e];exact qF (r:=AT r) hm.v0 (lK hm.a0) CL
 rw [e];exact qF (r:=AT r) hm.v0 (lK hm.a0) (lK h2)
theorem Made.text {r x:GRec} {s:ByteArray} {h:Int} (hm:Made r x s h):pE x=(ofL (aM (pZ x)),0):=by
 have h1:=hm.tx;rw [pE,aNy hm.valid] at h1 ⊢
 split at h1
 ·cases h1
 next h2=>rw [aNx h2]
theorem Made.id {r x:GRec} {s:ByteArray} {h:Int} (hm:Made r x s h):nM x=nM (AT r):=by
 rcases hm.e with⟨_,e⟩|⟨_,h2,e⟩
 ·rw [e];exact YG (r:=AT r) hm.v0 (lK hm.a0) CL
 rw [e];exact YG (r:=AT r) hm.v0 (lK hm.a0) (lK h2)
theorem Made.ver {r x:GRec} {s:ByteArray} {h:Int} (hm:Made r x s h):xX (tL s h.toNat) (nM x) x.sl.idx x.sl.sig x.sl.path=true∧x.sl.idx=2*x.number - 2:=by
 rw [hm.id];have:=Z0 hm.a0;rcases hm.e with⟨_,e⟩|⟨_,h2,e⟩
 ·rw [e];exact this
 rw [e];exact this
theorem Made.check {r x:GRec} {s:ByteArray} {h:Int} (hm:Made r x s h) {ks:List ByteArray} (hk:ks[r.author.toNat]?=some (tL s h.toNat)):rV x ks=0:=by
 have hv:=hm.valid;have hf:=lI hv;have hau:=hf.au;obtain ⟨k1,k2⟩:=hm.ver;have ha:x.author=r.author:=by rcases hm.e with⟨_,e⟩|⟨_,_,e⟩<;>rw [e]<;>rfl
 have hlt:r.author.toNat < ks.length:=(aOD.1 hk).1;have hg:ks.getD x.author.toNat sNil=tL s h.toNat:=by rw [ha,List.getD_eq_getElem?_getD,hk];rfl
 rw [rV,hg];have hA:ckA x ks=false:=by rw [ckA,hv,aNz,decide_eq_false (by omega)];rfl
 have hB:ckB x (tL s h.toNat)=false:=by rw [ckB,k1,decide_eq_true k2];rfl
 rw [hA,hB];rcases hm.e with⟨he,e⟩|⟨he,h2,e⟩
 ·have hC:ckC x=false:=by rw [ckC,e];show (_&&!uW zS)=false;rw [show uW zS=true by decide];simp
  have hD:ckD x (tL s h.toNat)=false:=by rw [ckD,e];show (!gS (mk1 r zS).priv&&_)=false;rw [show gS (mk1 r zS).priv=gS r.priv from rfl,he];rfl
  rw [hC,hD];rfl
 have hC:ckC x=false:=by rw [ckC,e];show (gS (mk1 r zS).priv&&_)=false;rw [show gS (mk1 r zS).priv=gS r.priv from rfl,he];rfl
 have hD:ckD x (tL s h.toNat)=false:=by
  obtain ⟨q1,q2⟩:=Z0 h2;have hmm:rP x=rP (AT r):=by rw [e];exact aGt (r:=AT r) hm.v0 (lK hm.a0) (lK h2)
  have hp:x.priv.sl=(xU s h (2*r.number - 1) (rP (AT r))).1:=by rw [e];rfl
  have hn:x.number=r.number:=by rw [e];rfl
  rw [ckD,hmm,hp,q1,hn,decide_eq_true q2];simp
 rw [hC,hD];rfl
theorem Made.bare {r x:GRec} {s:ByteArray} {h:Int} (hm:Made r x s h) {ks:List ByteArray} (hk:ks[r.author.toNat]?=some (tL s h.toNat)):rV (nH x) ks=0:=by
 have hv:=hm.valid;have hf:=lI hv;have hau:=hf.au;obtain ⟨k1,k2⟩:=hm.ver;have ha:x.author=r.author:=by rcases hm.e with⟨_,e⟩|⟨_,_,e⟩<;>rw [e]<;>rfl
 have hlt:r.author.toNat < ks.length:=(aOD.1 hk).1;have hg:ks.getD x.author.toNat sNil=tL s h.toNat:=by rw [ha,List.getD_eq_getElem?_getD,hk];rfl
 rw [rV,show (nH x).author=x.author from rfl,hg];have hA:ckA (nH x) ks=false:=by rw [ckA,xY hv,aNz,show (nH x).author=x.author from rfl,decide_eq_false (by omega)];rfl
 have hB:ckB (nH x) (tL s h.toNat)=false:=by
  rw [ckB,aHM hv];show (!decide (x.sl.idx=2*x.number - 2)||!xX (tL s h.toNat) (nM x) x.sl.idx x.sl.sig x.sl.path)=false;rw [k1,decide_eq_true k2];rfl
 have hC:ckC (nH x)=false:=by rw [ckC];show (_&&!uW zS)=false;rw [show uW zS=true by decide];simp
 have hD:ckD (nH x) (tL s h.toNat)=false:=by rw [ckD];show (!gS ⟨sNil,sNil,[],[],⟨0,[],[]⟩⟩&&_)=false;rw [show gS ⟨sNil,sNil,[],[],⟨0,[],[]⟩⟩=true by decide];rfl
 rw [hA,hB,hC,hD];rfl
theorem Made.parse {r x:GRec} {s:ByteArray} {h:Int} (hm:Made r x s h):jM (aM (pZ x))=(x,0):=XO hm.text
def tI:ByteArray:=⟨#[115,101,99,114,101,116]⟩
def aLc:ByteArray:=⟨#[109,97,105,110]⟩
def aHr:ByteArray:=⟨#[65,110,110]⟩
def litH:ByteArray:=⟨#[54,58,114,101,99,111,114,100,49,58,53,49,58,49,49,58,50,49,58,53,52,58,109,97,105,110,49,58,48,48,58,48,58,49,58,48,49,58,48,48,58]⟩
def r0H:GRec:=⟨5,1,2,5,aLc,[],[],sNil,false,0,sNil,zS,⟨sNil,sNil,[],[],zS⟩⟩
def p0H:GRec:={r0H with priv:=⟨aHr,sNil,[],[(1,2)],zS⟩}
def sAH:GSeal:=(xU tI 2 2 (rT litH)).1
def sBH:GSeal:=(xU tI 2 3 (rP p0H)).1
def xH:GRec:=N7 p0H sAH sBH
def fxH:GRec:={xH with clock:=6}
def f0H:GRec:={p0H with clock:=6}
def xJ:ByteArray:=tL tI 2
theorem TK:dT r0H=true:=by kernel_rfl
theorem KF:dT p0H=true:=by kernel_rfl
theorem aCg:dT f0H=true:=by kernel_rfl
theorem aEE:(⟨(aM (gX r0H)).toArray⟩:ByteArray)=litH:=by kernel_rfl
theorem aLi:nM r0H=rT litH:=by rw [nM,aNy TK,AK,aEE]
theorem aIQ:nM p0H=rT litH:=by rw [nM,aNy KF];exact congrArg rT aEE
theorem K6:(xU tI 2 2 (rT litH)).2=0:=by rw [xU,aNx (by decide)]
theorem O5:(xU tI 2 3 (rP p0H)).2=0:=by rw [xU,aNx (by decide)]
theorem aIB {s:GSeal} (h:FSeal s):(∀ t∈fI (.z s.idx s.sig s.path),t.size≤24)∧(fI (.z s.idx s.sig s.path)).length≤29:=by
 have i0:=h.i0;have i1:=h.i1;have l1:=h.sl;have l2:=h.pl;constructor
 ·intro t ht;simp only [fI,aOL,List.mem_append] at ht;rcases ht with rfl|(rfl|ht)|(rfl|ht)
  ·exact Nat.le_trans (oH (by omega) (by omega)) (by decide)
  ·exact Nat.le_trans (oH (by omega) (by omega)) (by decide)
  ·exact Nat.le_trans (sN (h.sa t ht)) (by decide)
  ·exact Nat.le_trans (oH (by omega) (by omega)) (by decide)
  exact Nat.le_trans (sN (h.pa t ht)) (by decide)
 simp only [fI,aOB,aOA];omega
theorem aGd:(gX p0H).all (fun s=>decide (s.size≤24))=true:=by kernel_rfl
theorem aD1:(gX p0H).length=12:=by kernel_rfl
theorem aGX:((fI (.t aHr)++(fI (.t sNil)++(fI (.l [])++fI (.p [(1,2)]))))).all (fun s=>decide (s.size≤24))=true:=by kernel_rfl
theorem aDG:((fI (.t aHr)++(fI (.t sNil)++(fI (.l [])++fI (.p [(1,2)]))))).length=6:=by kernel_rfl
theorem KN {a b:GSeal} (ha:FSeal a) (hb:FSeal b):(aM (pZ (N7 p0H a b))).length≤20000:=by
 obtain ⟨a1,a2⟩:=aIB ha;obtain ⟨b1,b2⟩:=aIB hb;have he:pZ (N7 p0H a b)=gX p0H++(fI (.z a.idx a.sig a.path)++((fI (.t aHr)++(fI (.t sNil)++(fI (.l [])++fI (.p [(1,2)]))))++fI (.z b.idx b.sig b.path))):=by
  rw [pZ,vN,EP];simp only [List.flatMap_cons,List.flatMap_nil,List.append_nil,List.append_assoc];rfl
 have hl:=aDG;have hp:=aD1;rw [he];refine Nat.le_trans (yX (M:=24) (by decide) _ ?_) ?_
 ·intro s hs;rw [List.mem_append,List.mem_append,List.mem_append] at hs;rcases hs with hs|hs|hs|hs
  ·exact aNv (List.all_eq_true.1 aGd s hs)
  ·exact a1 s hs
  ·exact aNv (List.all_eq_true.1 aGX s hs)
  exact b1 s hs
 rw [aOA,aOA,aOA];omega
theorem aAM:FN p0H tI 2=(xH,0):=by
 have e0:AT p0H=p0H:=rfl;have e1:(2:Int)*p0H.number - 2=2:=rfl;have e2:(2:Int)*p0H.number - 1=3:=rfl;have e3:gS p0H.priv=false:=by decide
 obtain ⟨fa,_⟩:=tG K6;obtain ⟨fb,_⟩:=tG O5;rw [FN,e0,e1,e2,KF,e3,aIQ,aNx (by decide),aNx (fun h=>h K6),aNx (by decide),aNx (fun h=>h O5)];show zV xH=(xH,0);have hx:(pE xH).2=0:=by
  have hv:dT xH=true:=qF (r:=p0H) KF (lK K6) (lK O5);rw [pE,aNy hv,aNx (by have:=KN fa fb;show ¬ 20000 < (aM (pZ (N7 p0H sAH sBH))).length;exact Nat.not_lt.2 this)]
 rw [zV,aNx (fun h=>h hx)]
theorem LU:Made p0H xH tI 2:=aHB aAM
theorem aHA:FN r0H tI 1=(zR,1):=by
 have e0:AT r0H=r0H:=rfl;have e1:(2:Int)*r0H.number - 2=2:=rfl;have e2:(xU tI 1 2 (nM r0H))=(zS,1):=by rw [xU,aNy (by decide)]
 rw [FN,e0,e1,TK,aNx (by decide),e2,aNy (by decide)]
theorem aIl:pE xH=(ofL (aM (pZ xH)),0):=LU.text
theorem aGg:jM (aM (pZ xH))=(xH,0):=LU.parse
theorem aMz:nM xH=rT litH:=by rw [LU.id];exact aIQ
theorem aHi:rV xH [sNil,xJ]=0:=LU.check (by rfl)
theorem aKG:rV (nH xH) [sNil,xJ]=0:=LU.bare (by rfl)
theorem aHu:rV xH [xJ]=1:=by
 rw [rV,aNy];rw [ckA];have:decide ((([xJ]:List ByteArray).map encStr).length≤xH.author)=true:=by decide
 rw [this,Bool.or_true]
theorem ZL:dT fxH=true:=qF (r:=f0H) aCg (lK K6) (lK O5)
theorem aKm:xX (tL tI 2) (AK (gX f0H)) 2 (EN tI 2 (rT litH)) (mQ 2 (mB tI 2) 2)=false:=by kernel_rfl
theorem aE5:rV fxH [sNil,xJ]=16:=by
 rw [rV,aNx,aNy]
 ·have hid:nM fxH=AK (gX f0H):=by rw [nM,aNy ZL];rfl
  have hs:fxH.sl=⟨2,EN tI 2 (rT litH),mQ 2 (mB tI 2) 2⟩:=(tG K6).2.1;have hk:([sNil,xJ]:List ByteArray).getD fxH.author.toNat sNil=tL tI 2:=rfl;rw [hk,ckB,hid,hs];show (_||!xX (tL tI 2) (AK (gX f0H)) 2 (EN tI 2 (rT litH)) (mQ 2 (mB tI 2) 2))=true;rw [aKm];simp
 rw [ckA,ZL];decide
theorem aDr:jG r0H:=by refine⟨⟨⟨by decide,by decide⟩,⟨by decide,by decide⟩,⟨by decide,by decide⟩,⟨by decide,by decide⟩,⟨by decide,by decide⟩⟩,⟨by decide,by decide,by decide⟩,⟨by decide,by simp [r0H]⟩,⟨by decide,by simp [r0H]⟩,okZ,by decide,by decide,⟨by decide,by simp [r0H]⟩,by decide,okZ⟩
theorem aII:jG p0H:=by obtain ⟨a,b,c,d,e,_⟩:=aDr;exact⟨a,b,c,d,e,by decide,by decide,⟨by decide,by simp [p0H]⟩,by decide,okZ⟩
theorem UK:jG xH:=X2 aII (lZ (tG K6).1) (lZ (tG O5).1)
theorem aL5:jG fxH:=by obtain ⟨⟨a1,a2,a3,a4,a5⟩,b,c⟩:=UK;exact⟨⟨a1,a2,a3,⟨by decide,by decide⟩,a5⟩,b,c⟩
def w0H:WRest:=⟨.sl [],.sl [],.int .i64 0,.sl [],.sl []⟩
theorem aBd:xJ.size=16:=by kernel_rfl
theorem aDq:N5 [sNil,xJ]:=⟨by decide,by
 intro t ht;simp only [aOL,aOP,or_false] at ht;rcases ht with rfl|rfl
 ·decide
 rw [aBd];decide⟩
theorem aL4:N5 [xJ]:=⟨by decide,fun t ht=>aDq.2 t (List.mem_cons_of_mem _ ht)⟩
theorem aL6:jG (nH xH):=by obtain ⟨a,b,c,d,e,_⟩:=UK;exact⟨a,b,c,d,e,by decide,by decide,⟨by decide,by simp [nH]⟩,by decide,okZ⟩
theorem neZ {a:Int}:(!decide (a=a))=false:=by simp
theorem dF.val {P:Program} {N:Nat} {o:Oper} {E:cB} {H H':aB} {b b':Bool} (h:dF P N o E H (.pv (.bool b)) H') (e:b=b'):dF P N o E H (.pv (.bool b')) H':=e▸h
theorem aE1 (H:aB):aI Tryz.prog 10 [] H (fun r H'=>r=bv true∧H'=H):=by
 refine Pu ?_;have hSum:=fun H=>KU litH H (by decide);have hPub:=fun H=>W3 tI 2 H (by decide) (by decide);have hMk:∀ H,aI Tryz.prog 26 [av (cF p0H),sv tI,iv 2] H (fun x H'=>x=.tup [av (cF xH),iv 0]∧H'=H):=fun H=>by
  have:=aEA p0H tI 2 aII (by decide) (by decide) H;rw [aAM] at this;exact this
 have hMr:∀ H,aI Tryz.prog 26 [av (cF r0H),sv tI,iv 1] H (fun x H'=>x=.tup [av (cF zR),iv 1]∧H'=H):=fun H=>by
  have:=aEA r0H tI 1 aDr (by decide) (by decide) H;rw [aHA] at this;exact this
 have hTx:∀ H,aI Tryz.prog 13 [av (cF xH)] H (fun x H'=>x=.tup [sv (ofL (aM (pZ xH))),iv 0]∧H'=H):=fun H=>by
  have:=Q8 xH UK (by decide) H;rw [aIl] at this;exact this
 have hlen:(aM (pZ xH)).length < 1099511627776:=Nat.lt_of_le_of_lt (KN (tG K6).1 (tG O5).1) (by decide);have hPa:∀ H,aI Tryz.prog 15 [sv (ofL (aM (pZ xH)))] H (fun x H'=>x=.tup [av (cF xH),iv 0]∧H'=H):=fun H=>by
  have:=aD4 (aM (pZ xH)) hlen H;rw [aGg] at this;exact this
 have hI0:∀ H,aI Tryz.prog 19 [av (cF r0H)] H (fun x H'=>x=sv (rT litH)∧H'=H):=fun H=>by
  have:=MF r0H aDr (by decide) H;rw [aLi] at this;exact this
 have hIx:∀ H,aI Tryz.prog 19 [av (cF xH)] H (fun x H'=>x=sv (rT litH)∧H'=H):=fun H=>by
  have:=MF xH UK (by decide) H;rw [aMz] at this;exact this
 have hSa:∀ H,aI Tryz.prog 21 [av (cF xH),av (cF xH)] H (fun r H'=>r=bv true∧H'=H):=fun H=>by
  have:=aBH xH xH H (FF UK) (FF UK);rw [aDN.2 rfl] at this;exact this
 have hks:N5 [sNil,xJ]:=aDq;have hC1:∀ H,aI Tryz.prog 22 [av (cF xH),av (aBo w0H [sNil,xJ])] H (fun x H'=>x=iv 0∧H'=H):=fun H=>by
  have:=J9 xH w0H [sNil,xJ] UK (by decide) hks H;rw [aHi] at this;exact this
 have hBa:=fun H=>aHn xH H;have hC2:∀ H,aI Tryz.prog 22 [av (cF (nH xH)),av (aBo w0H [sNil,xJ])] H (fun x H'=>x=iv 0∧H'=H):=fun H=>by
  have:=J9 (nH xH) w0H [sNil,xJ] aL6 (by decide) hks H;rw [aKG] at this;exact this
 have hC3:∀ H,aI Tryz.prog 22 [av (cF fxH),av (aBo w0H [sNil,xJ])] H (fun x H'=>x=iv 16∧H'=H):=fun H=>by
  have:=J9 fxH w0H [sNil,xJ] aL5 (by decide) hks H;rw [aE5] at this;exact this
 have hC4:∀ H,aI Tryz.prog 22 [av (cF xH),av (aBo w0H [xJ])] H (fun x H'=>x=iv 1∧H'=H):=fun H=>by
  have:=J9 xH w0H [xJ] UK (by decide) aL4 H;rw [aHu] at this;exact this
 refine Bd func10 rfl ntmps10<|Sr<|Dd aN<|Zz<|Sr<|Dd (uQ WA)<|Dd (by exact bU (id:=1) rfl NH rfl rfl)<|Uu (kQ aQ)<|Zz<|Sr<|Dd (by exact aA rfl rfl AQ rfl (hSum _))<|Dd aN<|Zz<|Sr<|Dd (by exact aA rfl rfl call28 rfl (hPub _))<|Dd aF<|Dd fL<|Dd fL<|Dd aN<|Dd aN<|Zz<|Sr<|Dd aF<|Dd (by exact aR ([sNil,xJ].map encStr) rfl cA rfl rfl rfl rfl rfl (by intro r hr;simp only [List.map_cons,List.map_nil,aOL,aOP,or_false] at hr;rcases hr with rfl|rfl<;>rfl))<|Dd (uQ aLu)<|Dd (by exact bU (id:=5) rfl aM5 rfl rfl)<|Uu (kQ WN)<|Zz<|Sr<|Dd (by exact aL rfl bD aQ rfl rfl rfl rfl (by simp only [Zl,encStr];rfl) rfl)<|Dd (by exact bU (id:=6) rfl NH rfl rfl)<|Uu (kQ aQ)<|Zz<|Sr<|Dd (uQ VZ)<|Dd (by exact aR ([((1:Int),(2:Int))].map gP) rfl TU rfl rfl rfl rfl rfl (by intro r hr;simp only [List.map_cons,List.map_nil,aOL,aOP,or_false] at hr;subst hr;rfl)) ?_;refine Dd (uQ aKF)<|Dd (aV fW)<|Uu (by exact kT rfl sizeOf28 rfl rfl rfl rfl rfl rfl rfl (aOM rfl) rfl rfl)<|Zz<|Sr<|Dd (by exact aL rfl bD aQ rfl rfl rfl rfl (by simp only [Zl,encStr];rfl) rfl)<|Dd (by exact aA rfl rfl call26 rfl (hMk _))<|Dd aF<|Dd fL<|Dd fL<|Dd (by exact bU (id:=7) rfl NH rfl rfl)<|Uu (kQ aQ)<|Dd aN<|Zz<|Sr<|Dd (by exact aL rfl bD aQ rfl rfl rfl rfl (by simp only [Zl,encStr];rfl) rfl)<|Dd (by exact aA rfl rfl aNm rfl (hTx _))<|Dd aF<|Dd fL<|Dd fL<|Dd aN<|Dd aN<|Zz<|Sr<|Dd aF<|Dd (by exact aA rfl rfl call15 rfl (hPa _))<|Dd aF<|Dd fL<|Dd fL<|Dd (by exact bU (id:=11) rfl NH rfl rfl)<|Uu (kQ aQ)<|Dd aN<|Zz<|Sr<|Dd (by exact aL rfl bD aQ rfl rfl rfl rfl (by simp only [Zl,encStr];rfl) rfl) ?_;refine Dd (by exact bU (id:=13) rfl NH rfl rfl)<|Uu (kQ aQ)<|Zz<|Sr<|Dd (aV zF)<|Dd (bM isAgg3)<|Dd (by exact cI rfl rfl rfl (by rfl))<|Dd (aV zF)<|Uu (by exact bH rfl sizeOf3 rfl rfl rfl rfl rfl rfl (aOM rfl) rfl rfl)<|Zz<|Sr<|Dd (by exact aL rfl bD aQ rfl rfl rfl rfl (by simp only [Zl,encStr];rfl) rfl)<|Dd (by exact aA rfl rfl call26 rfl (hMr _))<|Dd aF<|Dd fL<|Dd fL<|Dd (by exact bU (id:=14) rfl NH rfl rfl)<|Uu (kQ aQ)<|Dd aN<|Zz<|Sq<|Sr<|Dd aF<|Dd (by exact dF.val (by exact CD rfl rfl rfl) (neZ))<|Dd aF<|On aF<|On (by exact dF.val (by exact CD rfl rfl rfl) (neZ))<|Dd cW<|Dd aF<|On aF<|On (by exact dF.val (by exact CD rfl rfl rfl) (neZ))<|Dd cW<|Dd aF<|On aF<|On (by exact dF.val (by exact CD rfl rfl rfl) (neZ)) ?_;refine Dd cW<|Dd aF<|On aF<|On (by exact dF.val (by exact CD rfl rfl rfl) (neZ))<|Dd cW<|Zz ?_;refine Cn ?_ ?_<;>intro hc1
 ·refine Sr<|Dd aN<|Zz<|aC<|Rt ?_;cases hc1
 refine aD<|Sq<|aO follows<|Cq (by exact aL rfl bD aQ rfl rfl rfl rfl (by simp only [Zl,encStr];rfl) rfl)<|Cq (by exact aA rfl rfl AR rfl (hI0 _))<|Cq aF<|Cq (by exact dF.val (by exact xA rfl rfl rfl) ((decide_eq_true rfl)))<|Cq aF<|Nt (by exact aL rfl bD aQ rfl rfl rfl rfl (by simp only [Zl,encStr];rfl) rfl)<|Nt (by exact aA rfl rfl AR rfl (hIx _))<|Nt aF<|Nt (by exact dF.val (by exact xA rfl rfl rfl) ((decide_eq_true rfl)))<|Cq cW<|Cq aF<|Nt (by exact aL rfl bD aQ rfl rfl rfl rfl (by simp only [Zl,encStr];rfl) rfl)<|Nt (by exact aL rfl bD aQ rfl rfl rfl rfl (by simp only [Zl,encStr];rfl) rfl)<|Nt (by exact aA rfl rfl call21 rfl (hSa _))<|Cq cW<|Cq aF<|Nt (by exact aL rfl bD aQ rfl rfl rfl rfl (by simp only [Zl,encStr];rfl) rfl) ?_;refine Nt (by exact aL rfl aNO WN rfl rfl rfl rfl (by simp only [Zl,encStr];rfl) rfl)<|Nt (by exact aA rfl rfl aFh rfl (hC1 _))<|Nt (by exact dF.val (by exact vF rfl rfl rfl) ((decide_eq_true rfl)))<|Cq cW<|Cq aF<|Nt (by exact aL rfl bD aQ rfl rfl rfl rfl (by simp only [Zl,encStr];rfl) rfl)<|Nt (by exact aA rfl rfl call24 rfl (hBa _))<|Nt (by exact aL rfl aNO WN rfl rfl rfl rfl (by simp only [Zl,encStr];rfl) rfl)<|Nt (by exact aA rfl rfl aFh rfl (hC2 _))<|Nt (by exact dF.val (by exact vF rfl rfl rfl) ((decide_eq_true rfl)))<|Cq cW<|Cq aF<|Nt (by exact aL rfl bD aQ rfl rfl rfl rfl (by simp only [Zl,encStr];rfl) rfl)<|Nt (by exact aL rfl aNO WN rfl rfl rfl rfl (by simp only [Zl,encStr];rfl) rfl) ?_;refine Nt (by exact aA rfl rfl aFh rfl (hC3 _))<|Nt (by exact dF.val (by exact vF rfl rfl rfl) ((decide_eq_true rfl)))<|Cq cW<|Cq aF<|Nt (by exact aL rfl bD aQ rfl rfl rfl rfl (by simp only [Zl,encStr];rfl) rfl)<|Nt aF<|Nt (by exact aR ([xJ].map encStr) rfl cA rfl rfl rfl rfl rfl (by intro r hr;simp only [List.map_cons,List.map_nil,aOL,aOP,or_false] at hr;subst hr;rfl))<|Nt (uQ aLu)<|Nt (by exact aA rfl rfl aFh rfl (hC4 _))<|Nt (by exact dF.val (by exact vF rfl rfl rfl) ((decide_eq_true rfl)))<|Cq cW<|Cq aF<|Nt (aV nA)<|Nt (aV nN)<|Nt (bM isAgg3)<|Nt (by exact dF.val (by exact vF rfl rfl rfl) ((decide_eq_true rfl)))<|Cq cW<|Cq aF<|Nt (aV fW)<|Nt (aV pU)<|Nt (aV nN)<|Nt (bM isAgg3)<|Nt (by exact dF.val (by exact vF rfl rfl rfl) ((decide_eq_true rfl))) ?_;exact Cq cW<|Cq aN<|bL<|Kr<|aC<|Rt<|Qq
section
def aIE (B:Nat) (l:List (Int×Int)):Prop:=l.length≤B∧∀ q,q∈l→NI q.1∧NI q.2
def Q9 (B:Nat) (s:GSeal):Prop:=NI s.idx∧DJ B s.sig∧DJ B s.path
def W2 (B:Nat) (p:GPriv):Prop:=p.name.size≤B∧p.reason.size≤B∧DJ B p.sources∧aIE B p.trace∧Q9 B p.sl
def ZR (B:Nat) (r:GRec):Prop:=(NI r.kind∧NI r.author∧NI r.number∧NI r.clock∧NI r.order)∧(r.branch.size≤B∧r.target.size≤B∧r.from'.size≤B)∧DJ B r.parents∧ZS B r.edits∧Q9 B r.sl∧W2 B r.priv
section
variable {B n:Nat} {ps:List PV}
theorem aLq (h:Sh Tryz.prog B (n+3) 26 ps):∃ l,ps=[rA l]∧aIE B l:=by
 obtain ⟨l,rfl,h1,h2⟩:=JR (f:=gP) (good:=fun q=>NI q.1∧NI q.2) eR h (fun r hr=>by
  obtain ⟨x,y,rfl,h1,h2⟩:=SP hr;exact⟨(x,y),rfl,h1,h2⟩)
 exact⟨l,rfl,h1,h2⟩
theorem aEj (h:Sh Tryz.prog B (n+3) 25 ps):∃ s,ps=jC s∧Q9 B s:=by obtain ⟨_,_,rfl,_,h1,_,_,rfl,_,h2,_,_,rfl,_,h3,rfl⟩:=qJ gH h;obtain ⟨i,rfl,q1⟩:=vU underlying3 h1;obtain ⟨a,rfl,q2⟩:=HQ h2;obtain ⟨b,rfl,q3⟩:=HQ h3;exact⟨⟨i,a,b⟩,rfl,q1,q2,q3⟩
theorem aJu (h:Sh Tryz.prog B (n+4) 28 ps):∃ p,ps=sR p∧W2 B p:=by obtain ⟨_,_,rfl,_,h1,_,_,rfl,_,h2,_,_,rfl,_,h3,_,_,rfl,_,h4,_,_,rfl,_,h5,rfl⟩:=qJ mH h;obtain ⟨a,rfl,q1⟩:=pH underlying9 h1;obtain ⟨b,rfl,q2⟩:=pH underlying9 h2;obtain ⟨c,rfl,q3⟩:=HQ h3;obtain ⟨d,rfl,q4⟩:=aLq h4;obtain ⟨s,rfl,q5⟩:=aEj h5;exact⟨⟨a,b,c,d,s⟩,rfl,q1,q2,q3,q4,q5⟩
theorem aIU (h:Sh Tryz.prog B (n+7) 30 ps):∃ r,ps=cF r∧ZR B r:=by obtain ⟨_,_,rfl,_,h1,_,_,rfl,_,h2,_,_,rfl,_,h3,_,_,rfl,_,h4,_,_,rfl,_,h5,_,_,rfl,_,h6,_,_,rfl,_,h7,_,_,rfl,_,h8,_,_,rfl,_,h9,_,_,rfl,_,h10,_,_,rfl,_,h11,_,_,rfl,_,h12,_,_,rfl,_,h13,rfl⟩:=qJ eA h;obtain ⟨a1,rfl,q1⟩:=vU underlying3 h1;obtain ⟨a2,rfl,q2⟩:=vU underlying3 h2;obtain ⟨a3,rfl,q3⟩:=vU underlying3 h3;obtain ⟨a4,rfl,q4⟩:=vU underlying3 h4;obtain ⟨a5,rfl,q5⟩:=pH underlying9 h5;obtain ⟨a6,rfl,q6⟩:=HQ h6;obtain ⟨a7,rfl,q7⟩:=aH3 h7;obtain ⟨a8,rfl,q8⟩:=pH underlying9 h8;obtain ⟨a9,rfl⟩:=aGJ dZ h9;obtain ⟨a10,rfl,q10⟩:=vU underlying3 h10;obtain ⟨a11,rfl,q11⟩:=pH underlying9 h11;obtain ⟨s,rfl,q12⟩:=aEj h12;obtain ⟨p,rfl,q13⟩:=aJu h13;exact⟨⟨a1,a2,a3,a4,a5,a6,a7,a8,a9,a10,a11,s,p⟩,rfl,⟨q1,q2,q3,q4,q10⟩,⟨q5,q8,q11⟩,q6,q7,q12,q13⟩
end
theorem PK {s:GSeal} (h:Q9 1048576 s):tP s:=⟨h.1.bd,⟨Nat.lt_of_le_of_lt h.2.1.1 (by decide),fun t ht=>Nat.lt_of_le_of_lt (h.2.1.2 t ht) (by decide)⟩,⟨Nat.lt_of_le_of_lt h.2.2.1 (by decide),fun t ht=>Nat.lt_of_le_of_lt (h.2.2.2 t ht) (by decide)⟩⟩
theorem aB3 {p:GPriv} (h:W2 1048576 p):X3 p:=⟨Nat.lt_of_le_of_lt h.1 (by decide),Nat.lt_of_le_of_lt h.2.1 (by decide),⟨Nat.lt_of_le_of_lt h.2.2.1.1 (by decide),fun t ht=>Nat.lt_of_le_of_lt (h.2.2.1.2 t ht) (by decide)⟩,Nat.lt_of_le_of_lt h.2.2.2.1.1 (by decide),PK h.2.2.2.2⟩
theorem UL {r:GRec} (h:ZR 1048576 r):jG r:=by obtain ⟨⟨h1,h2,h3,h4,h5⟩,⟨q1,q2,q3⟩,p,e,s,v⟩:=h;exact⟨⟨h1.bd,h2.bd,h3.bd,h4.bd,h5.bd⟩,⟨by omega,by omega,by omega⟩,⟨Nat.lt_of_le_of_lt p.1 (by decide),fun t ht=>Nat.lt_of_le_of_lt (p.2 t ht) (by decide)⟩,⟨Nat.lt_of_le_of_lt e.1 (by decide),fun x hx=>aJ0 (by decide) (e.2 x hx)⟩,PK s,aB3 v⟩
theorem aD7 {r:GRec} (h:ZR 1048576 r):r.parents.length < 549755813888:=Nat.lt_of_le_of_lt h.2.2.1.1 (by decide)
end
theorem Z8 {r:GRec} (h:ZR 1048576 r):∀ e∈r.edits,e.refs.length < 1099511627776:=fun e he=>Nat.lt_of_le_of_lt (h.2.2.2.1.2 e he).2.2.2.2.2.2.2.2.1.1 (by decide)
end Go.Proofs.YtiifmppaejpemaaGreatDoor
