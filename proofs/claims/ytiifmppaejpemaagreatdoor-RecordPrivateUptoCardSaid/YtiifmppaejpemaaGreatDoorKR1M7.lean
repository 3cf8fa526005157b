/-
  Parts of the proof: rules of an abstract program logic, contracts of functions, plain laws. Conditions: each theorem's own.
-/
import Derived.Test.YtiifmppaejpemaaGreatDoorKR1M6
import Derived.WideLaws
import Derived.Laws.Build
set_option linter.unusedVariables false
set_option linter.unusedSimpArgs false
set_option maxRecDepth 100000
set_option maxHeartbeats 8000000
namespace Go.Proofs
theorem tT:type_of% Tryz.call172:=Tryz.call172
theorem aDb:type_of% Tryz.call31:=Tryz.call31
theorem sA:type_of% Tryz.call46:=Tryz.call46
theorem aDa:type_of% Tryz.call75:=Tryz.call75
theorem xN:type_of% Tryz.call94:=Tryz.call94
theorem jI:type_of% Tryz.isAgg191:=Tryz.isAgg191
theorem TT:type_of% Tryz.isAgg196:=Tryz.isAgg196
theorem FH:type_of% Tryz.isAgg250:=Tryz.isAgg250
theorem jD:type_of% Tryz.isAgg26:=Tryz.isAgg26
theorem jC:type_of% Tryz.isAgg41:=Tryz.isAgg41
theorem AM:type_of% Tryz.isAgg77:=Tryz.isAgg77
theorem jW:type_of% Tryz.sizeOf191:=Tryz.sizeOf191
theorem B1:type_of% Tryz.sizeOf223:=Tryz.sizeOf223
theorem FG:type_of% Tryz.sizeOf77:=Tryz.sizeOf77
end Go.Proofs
namespace Go.Proofs.YtiifmppaejpemaaGreatDoor
open Go.Proofs.Tryz
open Go.Abs
def I9 (t:ByteArray):Bool:=!isJ t
theorem aHI (t:ByteArray) (ht:t.size < 1099511627776) (H:aA):aG Tryz.prog 95 [sv t] H (fun r H'=>r=bv (I9 t)∧H'=H):=by refine Pu ?_;exact Bd func95 rfl ntmps95<|Sr<|Dd aP<|Zz<|Sr<|Dd aI<|Dd (by exact aB rfl rfl aDb rfl (X3 t ht _))<|Dd lI<|Dd aP<|Zz<|aC<|Rt<|Qq
theorem N4 (l:List ByteArray) (q:ByteArray→Bool):((List.range l.length).any fun k=>match l[k]? with|some s=>q s|none=>false)=l.any q:=by
 rw [Bool.eq_iff_iff,List.any_eq_true,List.any_eq_true];constructor
 ·rintro⟨k,hk,h⟩;have hk:=List.mem_range.1 hk;rw [aLU hk] at h;exact⟨_,List.getElem_mem hk,h⟩
 rintro⟨s,hs,h⟩;obtain ⟨k,hk⟩:=aLa.1 hs;exact⟨k,List.mem_range.2 (aLT.1 hk).1,by rw [hk];exact h⟩
theorem aGA (l:List ByteArray) (hl:l.length < 1099511627776) (ht:∀ t∈l,t.size < 1099511627776) (H:aA):aG Tryz.prog 94 [.pv (aU l)] H (fun r H'=>r=bv (l.any I9)∧H'=H):=by
 refine Pu ?_;have hc:=oT (.pv (.fn 95)) l (fun k=>match l[k]? with|some s=>I9 s|none=>false) (fun _=>[]) (by omega) (fun k s hk=>by
  simp only [hk];exact cB.fn call95 (aHI s (ht s (aLZ hk)) []))
 rw [N4] at hc;exact Bd func94 rfl ntmps94<|Sr<|Dd aP<|Zz<|Sr<|Dd aI<|Dd (by exact aB rfl rfl QK rfl (hc))<|Dd aP<|Zz<|aC<|Rt<|Qq
def HQ (i:Int) (l p:List ByteArray):Bool:=((((!decide (((l.map encStr).length:Int)=18)||decide (8 < ((p.map encStr).length:Int)))||l.any I9)||p.any I9)||decide (i < 0))||decide (((2 ^ p.length:Nat):Int)≤i)
theorem DK (l:List ByteArray):l.any I9=!l.all isJ:=by
 induction l with
 | nil=>rfl
 | cons a r ih=>rw [List.any_cons,List.all_cons,ih,I9,Bool.not_and]
theorem aDl {key m:ByteArray} {i:Int} {l p:List ByteArray} (h:HQ i l p=true):vB key m i l p=false:=by
 rw [HQ,DK,DK,aLP,aLP] at h;cases hv:vB key m i l p with
 | false=>rfl
 | true =>
  rw [vB] at hv;simp only [aLY,aLW] at hv;obtain ⟨⟨⟨⟨⟨a1,a2⟩,a3⟩,a4⟩,a5,a6⟩,a7⟩:=hv;have a6':i < ((2 ^ p.length:Nat):Int):=by exact_mod_cast a6
  rw [a3,a4,decide_eq_true (show (l.length:Int)=18 by omega),decide_eq_false (show ¬ 8 < (p.length:Int)by omega),decide_eq_false (show ¬ i < 0 by omega),decide_eq_false (show ¬ ((2 ^ p.length:Nat):Int)≤i by omega)] at h;exact absurd h (by decide)
theorem aG2 {key m:ByteArray} {i:Int} {l p:List ByteArray} (h:HQ i l p=false):∃ q:Nat,i=(q:Int)∧q < 2 ^ p.length∧l.length=18∧p.length≤8∧(∀ t∈l,isJ t=true)∧(∀ t∈p,isJ t=true)∧vB key m i l p=decide (wY (xK (wZ m l)) p q=key):=by
 rw [HQ,DK,DK,aLP,aLP] at h;simp only [aLb,Bool.not_eq_false',aLX,aLW] at h;obtain ⟨⟨⟨⟨⟨a1,a2⟩,a3⟩,a4⟩,a5⟩,a6⟩:=h;obtain ⟨q,rfl⟩:∃ q:Nat,i=(q:Int):=⟨i.toNat,by omega⟩;have a1':l.length=18:=by omega
 have a2':p.length≤8:=by omega
 have a6':(q:Int) < ((2 ^ p.length:Nat):Int):=by omega
 refine⟨q,rfl,by omega,a1',a2',List.all_eq_true.1 a3,List.all_eq_true.1 a4,?_⟩;have a7:(q:Int) < 2 ^ p.length:=by exact_mod_cast a6'
 rw [vB,a3,a4,decide_eq_true (⟨a1',a2'⟩:l.length=18∧p.length≤8),decide_eq_true (⟨by omega,a7⟩:0≤(q:Int)∧(q:Int) < 2 ^ p.length),aL0];rfl
def X9 (m:ByteArray) (l:List ByteArray) (k:Nat):List ByteArray:=(List.range k).map fun k=>xR (l.getD k sNil) (15 - (DS m).getD k 0)
theorem aCg (m:ByteArray) (l:List ByteArray) (k:Nat):X9 m l (k+1)=X9 m l k++[xR (l.getD k sNil) (15 - (DS m).getD k 0)]:=by rw [X9,List.range_succ,List.map_append];rfl
theorem X8 (m:ByteArray) (l:List ByteArray) (k:Nat):(X9 m l k).length=k:=by simp [X9]
theorem PX {m:ByteArray} {l:List ByteArray} (h:l.length=18):X9 m l 18=wZ m l:=by
 apply List.ext_getElem?;intro k;rw [wZ,List.getElem?_zipWith,X9,aL9];by_cases hk:k < 18
 ·have h1:l[k]?=some (l.getD k sNil):=by
   rw [List.getD_eq_getElem?_getD,aLU (by omega)];rfl
  have h2:(DS m)[k]?=some ((DS m).getD k 0):=by
   rw [List.getD_eq_getElem?_getD,aLU (by rw [HH];exact hk)];rfl
  rw [List.getElem?_range hk,h1,h2];rfl
 rw [List.getElem?_eq_none (by simp;omega),List.getElem?_eq_none (by omega)];rfl
theorem aFh {a:Nat} (ha:a < 4611686018427387904):bits .and .i64 (a:Int) 1=((a % 2:Nat):Int):=by have h:=(bits_nat .i64 62 (by decide) (fun n h0 h1=>pO (by omega) (by omega)) a 1 ha (by decide)).1;rw [Nat.and_one_is_mod] at h;exact h
def vfE:bN:=[(5,.ref 5 0 0 0),(9,.ref 9 0 0 0)]
def vfK (i:Int) (l p:List ByteArray) (m:ByteArray) (L:List ByteArray):aA:=[(905,⟨L.length,1,9,dO L⟩),(9,bx 1 22 [.osl 905 L.length 0 L.length]),(961,JD m),(5,bx 3 25 [iv i,.pv (aU l),.pv (aU p)])]
theorem aDk (i:Int) (l p:List ByteArray) (m:ByteArray) (L:List ByteArray) (x:ByteArray):vfK i l p m (L++[x])=[(905,⟨L.length+1,1,9,dO (L++[x])⟩),(9,bx 1 22 [.osl 905 (L.length+1) 0 (L.length+1)]),(961,JD m),(5,bx 3 25 [iv i,.pv (aU l),.pv (aU p)])]:=by simp [vfK]
theorem LY (key m:ByteArray) (i:Int) (l p:List ByteArray) (H:aA) (hm:m.size < 1099511627776) (hi0 : -4611686018427387904≤i) (hi1:i < 4611686018427387904) (hl:l.length < 1099511627776) (hp:p.length < 1099511627776) (hls:∀ t∈l,t.size < 1099511627776) (hps:∀ t∈p,t.size < 1099511627776) :
  aG Tryz.prog 32 [sv key,sv m,.agg [iv i,.pv (aU l),.pv (aU p)]] H (fun r H'=>r=bv (vB key m i l p)∧H'=H):=by
 refine Pu ?_;have hml:(l.map encStr).length=l.length:=aLP _;have hmp:(p.map encStr).length=p.length:=aLP _;have hol:=fun H=>aGA l hl hls H;have hop:=fun H=>aGA p hp hps H;have hle8:decide (8 < ((p.map encStr).length:Int))=false→p.length≤8:=fun h=>by have:=aLM h;omega
 have hshl:p.length≤8→IntKind.i64.wrap (1*2 ^ (((p.map encStr).length:Int)).toNat)=((2 ^ p.length:Nat):Int):=fun h=>by rw [hmp];exact aEF h
 refine Bd func32 rfl ntmps32<|Sr<|Dd (by exact bZ (id:=5) rfl rfl rfl rfl rfl)<|Dd aP<|Zz<|Sr<|Dd (bB mI)<|Dd (bL aJ)<|Dd (fW aD)<|Dd aP<|Zz<|Sr<|Dd aP<|Zz<|Sq<|Sq ?_;refine oK (t:=49) (n:=32) (X:=HQ i l p) ?_ ?_
 ·cases hg22:(!decide (((l.map encStr).length:Int)=18):Bool)
  ·cases hg26:(decide (8 < ((p.map encStr).length:Int)):Bool)
   ·cases hg32:(l.any I9:Bool)
    ·cases hg38:(p.any I9:Bool)
     ·cases hg43:(decide (i < 0):Bool)
      ·refine aQ follows<|Cq (bB iK)<|Cq (bL aJ)<|Cq (fW aD)<|Cq yM<|Cq aI<|Nf aI<|Nf mU<|Cq wU<|Cq aI<|Nf aI<|Nf (bB iK)<|Nf (bL aJ)<|Nf (by exact bY rfl rfl rfl (cB.fn xN (hol _)))<|Cq wU<|Cq aI<|Nf aI<|Nf (bB mI)<|Nf (bL aJ)<|Nf (by exact bY rfl rfl rfl (cB.fn xN (hop _)))<|Cq wU<|Cq aI<|Nf (bB lS)<|Nf (bL isAgg3)<|Nf dI<|Cq wU<|Cq aI<|Nf (bB lS)<|Nf (bL isAgg3)<|Nf aI<|Nf (by exact CM rfl rfl rfl (by omega) (by have:=hle8 hg26;simp [IntKind.bits];omega) (hshl (hle8 hg26)))<|Nf JS<|Cq wU<|bJ<|Kr ?_;exact⟨rfl,⟨_,rfl,by(rw [HQ,hg22,hg26,hg32,hg38,hg43];rfl)⟩,rfl,rfl,rfl⟩
      refine aQ follows<|Cq (bB iK)<|Cq (bL aJ)<|Cq (fW aD)<|Cq yM<|Cq aI<|Nf aI<|Nf mU<|Cq wU<|Cq aI<|Nf aI<|Nf (bB iK)<|Nf (bL aJ)<|Nf (by exact bY rfl rfl rfl (cB.fn xN (hol _)))<|Cq wU<|Cq aI<|Nf aI<|Nf (bB mI)<|Nf (bL aJ)<|Nf (by exact bY rfl rfl rfl (cB.fn xN (hop _)))<|Cq wU<|Cq aI<|Nf (bB lS)<|Nf (bL isAgg3)<|Nf dI<|Cq wU<|Cq aI<|Of<|Of<|Of<|Of<|Of<|Cq KU<|bJ<|Kr ?_;exact⟨rfl,⟨_,rfl,by(rw [HQ,hg22,hg26,hg32,hg38,hg43];rfl)⟩,rfl,rfl,rfl⟩
     refine aQ follows<|Cq (bB iK)<|Cq (bL aJ)<|Cq (fW aD)<|Cq yM<|Cq aI<|Nf aI<|Nf mU<|Cq wU<|Cq aI<|Nf aI<|Nf (bB iK)<|Nf (bL aJ)<|Nf (by exact bY rfl rfl rfl (cB.fn xN (hol _)))<|Cq wU<|Cq aI<|Nf aI<|Nf (bB mI)<|Nf (bL aJ)<|Nf (by exact bY rfl rfl rfl (cB.fn xN (hop _)))<|Cq wU<|Cq aI<|Of<|Of<|Of<|Cq KU<|Cq aI<|Of<|Of<|Of<|Of<|Of<|Cq cL<|bJ<|Kr ?_;exact⟨rfl,⟨_,rfl,by(rw [HQ,hg22,hg26,hg32,hg38];rfl)⟩,rfl,rfl,rfl⟩
    refine aQ follows<|Cq (bB iK)<|Cq (bL aJ)<|Cq (fW aD)<|Cq yM<|Cq aI<|Nf aI<|Nf mU<|Cq wU<|Cq aI<|Nf aI<|Nf (bB iK)<|Nf (bL aJ)<|Nf (by exact bY rfl rfl rfl (cB.fn xN (hol _)))<|Cq wU<|Cq aI<|Of<|Of<|Of<|Of<|Cq KU<|Cq aI<|Of<|Of<|Of<|Cq cL<|Cq aI<|Of<|Of<|Of<|Of<|Of<|Cq cL<|bJ<|Kr ?_;exact⟨rfl,⟨_,rfl,by(rw [HQ,hg22,hg26,hg32];rfl)⟩,rfl,rfl,rfl⟩
   refine aQ follows<|Cq (bB iK)<|Cq (bL aJ)<|Cq (fW aD)<|Cq yM<|Cq aI<|Nf aI<|Nf mU<|Cq wU<|Cq aI<|Of<|Of<|Of<|Of<|Cq KU<|Cq aI<|Of<|Of<|Of<|Of<|Cq cL<|Cq aI<|Of<|Of<|Of<|Cq cL<|Cq aI<|Of<|Of<|Of<|Of<|Of<|Cq cL<|bJ<|Kr ?_;exact⟨rfl,⟨_,rfl,by(rw [HQ,hg22,hg26];rfl)⟩,rfl,rfl,rfl⟩
  refine aQ follows<|Cq (bB iK)<|Cq (bL aJ)<|Cq (fW aD)<|Cq yM<|Cq aI<|Of<|Of<|Cq KU<|Cq aI<|Of<|Of<|Of<|Of<|Cq cL<|Cq aI<|Of<|Of<|Of<|Of<|Cq cL<|Cq aI<|Of<|Of<|Of<|Cq cL<|Cq aI<|Of<|Of<|Of<|Of<|Of<|Cq cL<|bJ<|Kr ?_;exact⟨rfl,⟨_,rfl,by(rw [HQ,hg22];rfl)⟩,rfl,rfl,rfl⟩
 refine Cn ?_ ?_<;>intro hc1
 ·have hb:=hc1;rw [aDl hb];exact Sr<|Dd aP<|Zz<|aC<|Rt<|Qq
 have hb:=hc1;obtain ⟨q,rfl,hq,h18,h8,hlj,hpj,hv⟩:=aG2 (key:=key) (m:=m) hb;rw [hv];clear hv hb;have hp8:=qA h8;refine aE<|Sr<|Dd (by exact bE (id:=9) rfl aAp rfl rfl)<|Zz<|Sq<|Sr<|Dd aI<|Dd (by exact aB rfl rfl call96 rfl (NR m _ rfl))<|Zz<|aF ?_;refine fE.ent (E':=[(0,sv key),(5,.ref 5 0 0 0),(9,.ref 9 0 0 0),(51,.clo 149 [.ref 961 0 0 0])]) (H':=vfK q l p m []) ?_ ?_
 ·exact(cC.nz 905 1 9 rfl rfl ⟨⟨_,rfl,(by exact Nz.same (by(simp;done)))⟩,⟨_,rfl,(by exact Nz.same (by(simp;rfl)))⟩,⟨_,rfl,(by exact Nz.same (by(simp;rfl)))⟩,⟨_,rfl,(by exact Nz.same (by(simp;rfl)))⟩,trivial⟩ ⟨⟨_,rfl,rfl,rfl,rfl,(by exact .inr ⟨_,_,rfl,rfl,(by repeat(first|exact trivial|refine⟨(by exact Nz.own),?_⟩))⟩)⟩,⟨_,rfl,rfl,rfl,rfl,(by exact .inl ⟨rfl,(by exact uG _ _)⟩)⟩,⟨_,rfl,rfl,rfl,rfl,(by exact .inl ⟨rfl,(by(simp;done))⟩)⟩,trivial⟩ trivial)
 refine KA (id:=904) (p:=52) (p2:=53) vfE rfl call149 rfl rfl (by simp [vfE];exact⟨rfl,rfl⟩) ?_;intro x hx1 hx2 hx3 hx4 hx5 hx6;refine(NS m (.yld 904 0) (fun k=>(904,LR x vfE)::vfK q l p m (X9 m l k)) hm (fun k=>rfl) ?_).mono ?_
 ·intro k hk;have hd:=WA m _ (mV (d:=0) (by rw [HH];exact hk));have hfl:=X8 m l k;have hnx:=aCg m l k;have hix:(l.map encStr)[k]?=some (encStr (l.getD k sNil)):=by
   rw [aL9,List.getD_eq_getElem?_getD,aLU (by omega)];rfl
  have hsz:(l.getD k sNil).size < 1099511627776:=hls _ (mV (by omega));obtain ⟨u,hu⟩:∃ u,u=l.getD k sNil:=⟨_,rfl⟩;obtain ⟨d,hdd⟩:∃ d,d=(DS m).getD k 0:=⟨_,rfl⟩;rw [← hdd] at hd hnx ⊢;rw [← hu] at hnx hix hsz;have hch:=fun H=>P3 u (15 - d) H hsz (by omega);refine .inl ⟨904,0,rfl,?_⟩;refine WW [(5,.ref 5 0 0 0),(9,.ref 9 0 0 0),(10,iv (k:Int)),(11,iv (d:Int))] (vfK q l p m (X9 m l k)) hx1 hx2 hx3 hx4 hx5 hx6 rfl rfl rfl rfl rfl ?_ ?_
  ·refine Sr<|Dd aP<|Zz<|Rg<|Da ?_;exact(cC.wk (Ea<|Ea<|Eb<|Eb<|trivial) (Hc (jG (by intro p hp;simp only [vfE,aL1,aL5,or_false] at hp;rcases hp with rfl|rfl<;>(simp only [oU];rfl)))<|Hc (bV _ _)<|Ha<|Hc (uG _ _)<|Hb<|trivial) ⟨rfl,rfl,rfl,rfl,rfl,trivial⟩)
  rw [hnx,aDk];refine aF<|aQ follows<|Cr [9] (fun _ h=>lh aJ h)<|Cr [5] (fun _ h=>fh iK h)<|Cr [5] (fun _ h=>lh aJ h)<|Cr [] (fun _ _=>aI)<|Cr [] (fun H1 hH=>by exact bM rfl cO rfl rfl (by omega) (by exact aL0 _) hix rfl)<|Cr [] (fun _ _=>(pG isAgg9 (hi:=hix)))<|Cr [] (fun _ _=>aI)<|Cr [] (fun H1 hH=>by exact eB rfl rfl rfl (show IntKind.i64.wrap (15 - (d:Int))=((15 - d:Nat):Int)by rw [pO (by omega) (by omega)];omega))<|Cr [] (fun H1 hH=>by exact aB rfl rfl aKz rfl (hch _))<|Cr [] (fun H1 hH=>by exact aS [[.str (xR u (15 - d))]] rfl cO rfl rfl rfl rfl rfl (by intro r hr;rw [aLS] at hr;subst hr;rfl))<|Cp [905] (fun H1 hH=>by exact eK (ps:=[[.str (xR u (15 - d))]]) rfl cO TN rfl ((hH _ rfl).trans rfl) rfl rfl rfl (iR _) rfl (by intro r hr;rw [aLS] at hr;subst hr;rfl) (m:=1) rfl (by omega) rfl (kC (X9 m l k) (xR u (15 - d)))) ?_;refine Cp [9] (fun H1 hH=>by exact bQ rfl sizeOf22 rfl rfl rfl rfl ((hH _ rfl).trans rfl) rfl rfl rfl)<|bJ<|Kr ?_;exact⟨[(905,⟨(X9 m l k).length+1,1,9,dO (X9 m l k++[xR u (15 - d)])⟩),(9,bx 1 22 [.osl 905 ((X9 m l k).length+1) 0 ((X9 m l k).length+1)]),(961,JD m),(5,bx 3 25 [iv (q:Int),.pv (aU l),.pv (aU p)])],(cC.wk trivial (Hc (jG (by intro p hp;simp only [vfE,aL1,aL5,or_false] at hp;rcases hp with rfl|rfl<;>(simp only [oU];rfl)))<|Hc (bV _ _)<|Ha<|Hc (uG _ _)<|Hb<|trivial) ⟨rfl,rfl,rfl,rfl,rfl,trivial⟩),rfl,rfl⟩
 rintro r H' ⟨rfl,rfl⟩;refine⟨x,_,rfl,by rw [hx1];decide,rfl,fun z=>?_⟩;rw [hx2,PX h18];have hen:∀ t∈wZ m l,t.size≤16:=fun t ht=>by
  rw [← PX h18] at ht;obtain ⟨k,hk,rfl⟩:=List.mem_map.1 ht;exact Nat.le_of_eq (S7 (rJ (hlj _ (mV (by rw [h18];exact List.mem_range.1 hk)))) _)
 have hel:(wZ m l).length=18:=by rw [← PX h18,X8]
 have hof:∀ H,aG Tryz.prog 98 [.pv (aU (wZ m l))] H (fun r H'=>r=sv (xK (wZ m l))∧H'=H):=fun H=>R0 (wZ m l) H (by have h:=vZ (b:=16) (by decide) _ hen;rw [hel] at h;omega);obtain ⟨S,hS⟩:∃ S,S=wZ m l:=⟨_,rfl⟩;rw [← hS] at hof ⊢;have hal:(S.map encStr).length=S.length:=aLP _;refine fE.ent (cC.fzG (id:=905) (E':=[(0,sv key),(5,.ref 5 0 0 0),(9,.ref 9 0 0 0)]) (H':=[(9,bx 1 22 [.pv (aU S)]),(5,bx 3 25 [iv (q:Int),.pv (aU l),.pv (aU p)])]) (S.map encStr) rfl (fU _) ?_ rfl ?_ ?_) ?_
 ·intro p hp;simp only [aL1,aL5,or_false] at hp;rcases hp with rfl|rfl|rfl
  ·exact⟨_,rfl,.same (by simp)⟩
  ·exact⟨_,rfl,.same (by simp;rfl)⟩
  exact⟨_,rfl,.same (by simp;rfl)⟩
 ·refine⟨⟨_,rfl,rfl,rfl,rfl,nL rfl (cH (.osl ?_) nM)⟩,⟨_,rfl,rfl,rfl,rfl,fT (by simp)⟩,trivial⟩;rw [aL7,List.drop_zero,← hal,List.take_length]
 ·exact trivial
 refine Sr<|Dd (bL aJ)<|Dd (by exact aB rfl rfl QI rfl (hof _))<|Dd aP<|Zz<|Sq<|Sr<|Dd (bB mI)<|Dd (bL aJ)<|Dd (fW aD)<|Dd aI<|Zz<|aF ?_;have ha0:(xK S).size=16:=iL _;obtain ⟨a0,hA0⟩:∃ a0,a0=xK S:=⟨_,rfl⟩;rw [← hA0] at ha0 ⊢;refine jB (fun(k:Nat) (a:ByteArray)=>([(0,sv key),(5,.ref 5 0 0 0),(12,sv a),(68,.pv (aU p)),(69,iv ((p.map encStr).length:Int)),(70,iv (k:Int))],[(5,bx 3 25 [iv (q:Int),.pv (aU l),.pv (aU p)])])) (fun k a=>k≤p.length∧a.size=16∧wY a (p.drop k) (q / 2 ^ k)=wY a0 p q) (fun k a=>p.length - k) 0 a0 ⟨aL6 _,ha0,by rw [List.drop_zero,Nat.pow_zero,Nat.div_one]⟩ ?_ ?_
 ·exact Wk
 rintro k a ⟨hk,ha,hf⟩;refine Sr<|Dd dI<|Zz<|Sq ?_;refine Cn ?_ ?_<;>intro hc2
 ·have hlt:k < p.length:=by have:=aLL hc2;omega
  have hix:(p.map encStr)[k]?=some (encStr (p.getD k sNil)):=by
   rw [aL9,List.getD_eq_getElem?_getD,aLU hlt];rfl
  have hdr:p.drop k=p.getD k sNil::p.drop (k+1):=by
   rw [List.drop_eq_getElem_cons hlt,List.getD_eq_getElem?_getD,aLU hlt];rfl
  have hosz:(p.getD k sNil).size=16:=rJ (hpj _ (mV hlt));obtain ⟨o,ho⟩:∃ o,o=p.getD k sNil:=⟨_,rfl⟩;rw [← ho] at hix hdr hosz;have hqk:q / 2 ^ k < 4611686018427387904:=Nat.lt_of_le_of_lt (Nat.div_le_self _ _) (by omega);have hnd:=fun H=>XR a o (decide (((q / 2 ^ k % 2:Nat):Int)=1)) H (by omega) (by omega);have hbk:(decide (((q / 2 ^ k % 2:Nat):Int)=1)=true)=(q / 2 ^ k % 2=1):=by
   rw [aLW];exact propext ⟨fun h=>by omega,fun h=>by omega⟩
  simp only [hbk] at hnd;obtain ⟨b,hb⟩:∃ b,b=(if q / 2 ^ k % 2=1 then CX o a else CX a o):=⟨_,rfl⟩;have hbs:b.size=16:=by rw [hb];split<;>exact iL _
  have hf2:wY b (p.drop (k+1)) (q / 2 ^ (k+1))=wY a0 p q:=by
   rw [← hf,hdr,wY,← hb,Nat.pow_succ,Nat.div_div_eq_div_mul]
  rw [← hb] at hnd;have hnd2:∀ H,aG Tryz.prog 99 [sv a,sv o,bv (decide (((q / 2 ^ k % 2:Nat):Int)=1))] H (fun r H'=>r=sv b∧H'=H):=hnd;refine aE<|Sq<|aF<|Sr<|Dd aI<|Dd (by exact bM rfl cO rfl rfl (by omega) (by exact aL0 _) hix rfl)<|Dd (pG isAgg9 (hi:=hix))<|Dd aP<|Dd aP<|Zz<|Rg<|Dd aI<|Dd aI<|Dd (bB lS)<|Dd (bL isAgg3)<|Dd aI<|Dd (by exact GY rfl rfl rfl (by omega) (by simp [IntKind.bits];omega) (aEE q k (aL0 _)))<|Dd (by exact pE rfl (by simp) rfl rfl (aFh hqk))<|Dd dC<|Dd (by exact aB rfl rfl call99 rfl (hnd2 _))<|Dd aP<|Zz<|Rg<|Dd (by exact cA rfl rfl rfl (show IntKind.i64.wrap ((k:Int)+1)=((k+1:Nat):Int)by rw [pO (by omega) (by omega)];omega))<|Dd aI<|Zz ?_;exact⟨k+1,b,⟨by omega,hbs,hf2⟩,by omega,Wk⟩
 have hge:k=p.length:=by have:=aLM hc2;omega
 subst hge;rw [List.drop_length,wY] at hf;rw [← hf];exact bG<|Sr<|Dd aI<|Dd aI<|Dd AJ<|Dd aP<|Zz<|aC<|Rt<|Qq
end Go.Proofs.YtiifmppaejpemaaGreatDoor
namespace Go.Abs
open Go.Proofs
section
section
variable {P:Program} {N:Nat} {o:Oper} {E:bN} {H:aA} {t t':TypeId} {x:Operand}
theorem IW (ho:o.op=.binOp .neq t x (.const .nilIface) t') (ht:P.underlying t=some (.interface (P.methodsAt t))) (hx:aN E x=some (.pv EL)):cD P N o E H (.pv (.bool false)) H :=.of_run fun a w I ι _ he=>⟨.bool false,by
  have e1:a.eval x=.nilIface:=(aH he hx).sat_inv;have e2:a.eval (.const .nilIface)=.nilIface:=rfl;simp only [execOp,ho,e1,e2,eqGuard,Sem.run_bind,Sem.run_pure,Result.andThen_ok,run_neq_nil_nil _ _ ht,Bool.or_true,if_true,Bool.not_true,Bool.false_eq_true,if_false],.pv (.bool _)⟩
theorem A8 (ho:o.op=.binOp .neq t x (.const .nilIface) t') (ht:P.underlying t=some (.interface (P.methodsAt t))) (hx:aN E x=some (.pv aAJ)):cD P N o E H (.pv (.bool true)) H :=.of_run fun a w I ι _ he=>⟨.bool true,by
  obtain ⟨q,p,e1⟩:aGC (a.eval x):=(aH he hx).sat_inv;have e2:a.eval (.const .nilIface)=.nilIface:=rfl;simp only [execOp,ho,e1,e2,eqGuard,Sem.run_bind,Sem.run_pure,Result.andThen_ok,run_neq_held_nil _ _ _ _ ht];rfl,.pv (.bool _)⟩
end
end
section
section
variable {P:Program} {N:Nat} {o:Oper} {E:bN} {H:aA} {t t' it:TypeId} {x:Operand}
theorem VRel.ifc_inv {w:World} {I:Nat→Prop} {ι:dR} {v:Value} {p:PV} (h:VRel w I ι H v (.pv (.ifc t p))):∃ u,v=.iface t u∧PRep w I u p:=by
 cases h with
 | pv h=>cases h with
  | ifc _ u _ h=>exact⟨u,rfl,h⟩
theorem VRel.ifa_inv {w:World} {I:Nat→Prop} {ι:dR} {v:Value} {ps:List PV} (h:VRel w I ι H v (.pv (.ifa t ps))):∃ cs:Array Value,v=.iface t (.agg cs)∧cs.size=ps.length∧∀ (k:Nat) (c:Value) (p:PV),cs[k]?=some c→ps[k]?=some p→PRep w I c p:=by
 cases h with
 | pv h=>cases h with
  | ifa _ cs _ hl h=>exact⟨cs,rfl,hl,h⟩
theorem eC {p:PV} (ho:o.op=.makeInterface t x) (ht:P.concrete t=true) (hx:aN E x=some (.pv p)):cD P N o E H (.pv (.ifc t p)) H :=.of_run fun a w I ι _ he=>⟨.iface t (a.eval x),by simp [execOp,ho,run_makeInterface _ _ _ ht],.pv (.ifc _ _ _ (aH he hx).pv_inv)⟩
theorem CP {ps:List PV} (ho:o.op=.makeInterface t x) (ht:P.concrete t=true) (hx:aN E x=some (.agg (ps.map .pv))):cD P N o E H (.pv (.ifa t ps)) H :=.of_run fun a w I ι _ he=>⟨.iface t (a.eval x),by simp [execOp,ho,run_makeInterface _ _ _ ht],by
  have h:=aH he hx;generalize a.eval x=c at h;cases h with
  | @agg vs _ hl h1 hh =>
   refine .pv (.ifa _ _ _ (by simpa using hl) fun k c p hc hp=>?_);exact(hh k c (.pv p) hc (by rw [aL9,hp];rfl)).pv_inv⟩
theorem UJ {d:TypeDesc} {u:Value} (w:World) (hd:P.underlying t=some d) (hni:∀ ms,d≠.interface ms):(Instr.typeAssert (.iface t' u) it t true).run P w=if t'=t then .ok (.tuple #[u,.bool true]) w else((do pure (.tuple #[← zeroValue t,.bool false])):Sem Value).run P w:=by
 unfold Instr.typeAssert;rw [Sem.run_bind,run_underlying hd,Result.andThen_ok];cases d with
 | interface ms=>exact absurd rfl (hni ms)
 | _ =>
  simp only
  split
  ·rfl
  rfl
theorem zC (h:P.concrete t=true):∃ d,P.underlying t=some d∧∀ ms,d≠.interface ms:=by
 unfold Program.concrete at h;cases hd:P.underlying t with
 | none=>rw [hd] at h;cases h
 | some d =>
  refine⟨d,rfl,fun ms e=>?_⟩;rw [hd,e] at h;cases h
theorem rB {p:PV} (ho:o.op=.typeAssert x it t true) (ht:P.concrete t=true) (hx:aN E x=some (.pv (.ifc t p))):cD P N o E H (.tup [.pv p,.pv (.bool true)]) H:=by
 obtain ⟨d,hd,hni⟩:=zC ht;refine .of_run fun a w I ι _ he=>?_;obtain ⟨u,e1,h1⟩:=(aH he hx).ifc_inv;refine⟨.tuple #[u,.bool true],?_,?_⟩
 ·simp only [execOp,ho,e1];rw [Sem.run_bind,UJ w hd hni,aLO rfl];rfl
 exact .tup rfl (fun i v a hv ha=>by
  match i with
  | 0=>cases hv;cases ha;exact .pv h1
  | 1=>cases hv;cases ha;exact .pv (.bool _)
  | i+2=>simp at ha)
theorem IT {ps:List PV} (ho:o.op=.typeAssert x it t true) (ht:P.concrete t=true) (hx:aN E x=some (.pv (.ifa t ps))):cD P N o E H (.tup [.agg (ps.map .pv),.pv (.bool true)]) H:=by
 obtain ⟨d,hd,hni⟩:=zC ht;refine .of_run fun a w I ι _ he=>?_;obtain ⟨u,e1,hl,h1⟩:=(aH he hx).ifa_inv;refine⟨.tuple #[.agg u,.bool true],?_,?_⟩
 ·simp only [execOp,ho,e1];rw [Sem.run_bind,UJ w hd hni,aLO rfl];rfl
 have hk:∀ (k:Nat) (c:Value),u[k]?=some c→∃ p,ps[k]?=some p∧PRep w I c p:=fun k c hc=>by
  have hlt:k < ps.length:=by rw [← hl];exact(Array.getElem?_eq_some_iff.1 hc).1
  exact⟨ps[k],aLU hlt,h1 k c _ hc (aLU hlt)⟩
 exact .tup rfl (fun i v a hv ha=>by
  match i with
  | 0 =>
   cases hv;cases ha;refine .agg (by simpa using hl) (fun k c hc=>?_) (fun k c b hc hb=>?_)
   ·obtain ⟨p,_,hp⟩:=hk k c hc;exact hp.oneCell
   obtain ⟨p,hp1,hp⟩:=hk k c hc;rw [aL9,hp1] at hb;cases hb;exact .pv hp
  | 1=>cases hv;cases ha;exact .pv (.bool _)
  | i+2=>simp at ha)
theorem aFu {cells:List AV} (ho:o.op=.typeAssert x it t true) (ht:P.concrete t=true) (hZ:dM P t cells) (hne:t'≠t)
  (hx:∀ (a:Act) (w:World) (I:Nat→Prop) (ι:dR),gO w I ι H E a→∃ u,a.eval x=.iface t' u):cD P N o E H (.tup [.any,.pv (.bool false)]) H:=by
 obtain ⟨d,hd,hni⟩:=zC ht;obtain ⟨z,v0,hz,_,_⟩:=hZ;refine .of_run fun a w I ι _ he=>?_;obtain ⟨u,e1⟩:=hx a w I ι he;refine⟨.tuple #[z,.bool false],?_,?_⟩
 ·simp only [execOp,ho,e1];rw [Sem.run_bind,UJ w hd hni,aLN hne,Sem.run_bind,hz w];rfl
 exact .tup rfl (fun i v a hv ha=>by
  match i with
  | 0=>cases hv;cases ha;exact .any _
  | 1=>cases hv;cases ha;exact .pv (.bool _)
  | i+2=>simp at ha)
theorem iT {cells:List AV} {p:PV} (ho:o.op=.typeAssert x it t true) (ht:P.concrete t=true) (hZ:dM P t cells) (hne:Nat.beq t' t=false) (hx:aN E x=some (.pv (.ifc t' p))):cD P N o E H (.tup [.any,.pv (.bool false)]) H :=aFu ho ht hZ (fun e=>by subst e;rw [Nat.beq_refl] at hne;cases hne) (fun a w I ι he=>let ⟨u,e,_⟩:=(aH he hx).ifc_inv;⟨u,e⟩)
theorem vR {cells:List AV} {ps:List PV} (ho:o.op=.typeAssert x it t true) (ht:P.concrete t=true) (hZ:dM P t cells) (hne:Nat.beq t' t=false) (hx:aN E x=some (.pv (.ifa t' ps))):cD P N o E H (.tup [.any,.pv (.bool false)]) H :=aFu ho ht hZ (fun e=>by subst e;rw [Nat.beq_refl] at hne;cases hne) (fun a w I ι he=>let ⟨u,e,_⟩:=(aH he hx).ifa_inv;⟨_,e⟩)
end
end
section
section
variable {P:Program} {N:Nat} {o:Oper} {E:bN} {H:aA} {T T' t:TypeId} {x y:Operand}
theorem D6 {e e':TypeId} {ty:TypeId} {vs:Array Value} (w:World) (hT:P.underlying T=some (.slice e)) (hT':P.underlying T'=some (.slice e')):(Builtin.append_ #[T,T'] ty vs).run P w=(Builtin.append_ #[T,T] ty vs).run P w:=by
 unfold Builtin.append_;cases h0:vs[0]? with
 | none=>rfl
 | some s =>
  cases h1:vs[1]? with
  | none=>rfl
  | some u =>
   cases s<;>simp [Sem.run_bind,run_underlying hT,run_underlying hT']
theorem EH {e e':TypeId} {v:AV} {H2:aA} (ho:o.op=.call {callee:=.builtin .append,args:=#[x,y],argTypes:=#[T,T']}) (hT:P.underlying T=some (.slice e)) (hT':P.underlying T'=some (.slice e'))
  (h:cD P N {o with op:=.call {callee:=.builtin .append,args:=#[x,y],argTypes:=#[T,T]}} E H v H2):cD P N o E H v H2:=by
 intro a w I ι h1 h2 hr he K Q hk;have h3:=h a w I ι h1 h2 hr he K Q hk;unfold Oper.wpW execOp at h3 ⊢;simp only [ho,resolve,invoke,builtin,Sem.run_bind,Sem.run_pure,Result.andThen_ok,List.map_toArray,List.map_cons,List.map_nil,D6 w hT hT'] at h3 ⊢;exact h3
theorem YV {e e':TypeId} {id g n m k sz bytes:Nat} {ob:Ob} {ps:List (List PV)} {rows':List (List AV)} (ho:o.op=.call {callee:=.builtin .append,args:=#[x,y],argTypes:=#[T,T']}) (hT':P.underlying T'=some (.slice e')) (hS:dZ P T e sz) (hinf:EI P e sz bytes)
  (hx:aN E x=some (.osl id g 0 n)) (hH:H.get id=some ob) (hg:ob.g=g) (hosz:ob.sz=sz) (hty:ob.ty=e) (hn:ob.rows.length=n)
  (hy:aN E y=some (.pv (.sl ps))) (hrl:∀ r∈ps,r.length=sz) (hm:ps.length=m) (hbytes:(n+m)*bytes≤140737488355328) (hk:n+m=k) (hrows:ob.rows++ps.map (·.map AV.pv)=rows') :
  cD P N o E H (.osl id (g+1) 0 k) ((id,⟨g+1,sz,e,rows'⟩)::H) :=
 EH ho hS.1 hT' (eK rfl hS hinf hx hH hg hosz hty hn hy hrl hm hbytes hk hrows)
end
end
end Go.Abs
namespace Go.Proofs.YtiifmppaejpemaaGreatDoor
open Go.Proofs.Tryz
open Go.Abs
inductive IV where
 | n (x:Int)
 | t (s:ByteArray)
 | b (x:Bool)
 | l (ts:List ByteArray)
 | z (i:Int) (a b:List ByteArray)
 | p (ps:List (Int×Int))
def fM (q:Int×Int):List PV:=[.int .i64 q.1,.int .i64 q.2]
def oZ (l:List (Int×Int)):PV:=.sl (l.map fM)
def aK7:IV→PV
 | .n x=>.ifc 3 (.int .i64 x)
 | .t s=>.ifc 9 (.str s)
 | .b x=>.ifc 4 (.bool x)
 | .l ts=>.ifc 22 (aU ts)
 | .z i a b=>.ifa 25 [.int .i64 i,aU a,aU b]
 | .p ps=>.ifc 26 (oZ ps)
def tK (v:IV):List PV:=[aK7 v]
def fI:IV→List ByteArray
 | .n x=>[bK x]
 | .t s=>[s]
 | .b x=>[bK (if x then 1 else 0)]
 | .l ts=>bK (ts.length:Int)::ts
 | .z i a b=>bK i::((bK (a.length:Int)::a)++(bK (b.length:Int)::b))
 | .p ps=>bK (ps.length:Int)::ps.flatMap fun q=>[bK q.1,bK q.2]
def gI:IV→Nat
 | .n _=>1
 | .t _=>1
 | .b _=>1
 | .l _=>2
 | .z _ _ _=>5
 | .p ps=>1+2*ps.length
def rkI:IV→Nat
 | .n _=>0
 | .t _=>0
 | .b _=>1
 | .l _=>1
 | .z _ _ _=>2
 | .p _=>1
def oO (x:Int):Prop := -9223372036854775808≤x∧x≤9223372036854775807
def okI:IV→Prop
 | .n x=>oO x
 | .t _=>True
 | .b _=>True
 | .l ts=>ts.length < 1099511627776
 | .z i a b=>oO i∧a.length < 1099511627776∧b.length < 1099511627776
 | .p ps=>ps.length < 1099511627776∧∀ q∈ps,oO q.1∧oO q.2
def tJ (l:List IV):List ByteArray:=l.flatMap fI
def VU (l:List IV):Nat:=(l.map gI).sum
theorem aCe {l:List IV} {k:Nat} {v:IV} (h:l[k]?=some v):tJ (l.take (k+1))=tJ (l.take k)++fI v:=by rw [tJ,List.take_add_one,h,List.flatMap_append];simp [tJ]
theorem aC8 {l:List IV} {k:Nat} {v:IV} (h:l[k]?=some v):VU (l.take (k+1))=VU (l.take k)+gI v:=by rw [VU,List.take_add_one,h,List.map_append,List.sum_append];simp [VU]
theorem aH1 (l:List IV) (k:Nat):(tJ (l.take k)).length≤(tJ l).length:=by
 have h:tJ l=tJ (l.take k)++tJ (l.drop k):=by rw [tJ,tJ,tJ,← List.flatMap_append,List.take_append_drop]
 rw [h,aLQ];omega
def fH (g:Nat) (L:List ByteArray):aA:=[(971,⟨g,1,9,dO L⟩),(970,bx 1 77 [.osl 971 g 0 L.length])]
theorem aCf (g:Nat) (L:List ByteArray) (s:ByteArray):fH (g+1) (L++[s])=[(971,⟨g+1,1,9,dO (L++[s])⟩),(970,bx 1 77 [.osl 971 (g+1) 0 (L.length+1)])]:=by simp [fH]
theorem cF {P:Program} {t:TypeId} {d:TypeDesc} (h:P.underlying t=some d) (hd:(match d with|.interface _=>false|_=>true)=true):P.concrete t=true:=by unfold Program.concrete;rw [h];cases d<;>first|rfl|cases hd
theorem J0 (l:List IV):∀ r∈l.map tK,r.length=1:=fun r hr=>by
 obtain ⟨t,_,rfl⟩:=List.mem_map.1 hr;rfl
def aD2 (r:Nat):Prop:=∀ (l:List IV),(∀ v∈l,rkI v < r∧okI v)→∀ (g:Nat) (L:List ByteArray),l.length < 1099511627776→L.length+(tJ l).length < 1099511627776 →
 aG Tryz.prog 46 [.ref 970 0 0 0,.pv (.sl (l.map tK))] (fH g L) (fun r H'=>r=.tup []∧H'=fH (g+VU l) (L++tJ l))
def KM (ps:List (Int×Int)):List ByteArray:=ps.flatMap fun q=>[bK q.1,bK q.2]
theorem GX:∀ ps:List (Int×Int),(KM ps).length=2*ps.length
 | []=>rfl
 | q::r=>by
  have ih:=GX r;rw [show KM (q::r)=bK q.1::bK q.2::KM r from rfl,aLR,aLR,aLR,ih];omega
theorem aBc {ps:List (Int×Int)} {j:Nat} {q:Int×Int} (h:ps[j]?=some q):KM (ps.take (j+1))=KM (ps.take j)++tJ [.n q.1,.n q.2]:=by rw [KM,List.take_add_one,h,List.flatMap_append];rfl
theorem TH {args:List AV} {g g':Nat} {L L':List ByteArray} {H:aA} (h:aG Tryz.prog 46 args (fH g L) (fun r H'=>r=.tup []∧H'=fH g' L')) (hs:KQ H (fH g L)) (ha:∀ a∈args,Clo (fH g L) a) :
  aG Tryz.prog 46 args H (fun r H'=>r=.tup []∧H'=fH g' L'++H):=aG.frame h (KQ.sub hs) (cY.ofL ⟨(by exact bV _ _),(by(simp;rfl)),trivial⟩) ha (fun id h=>.inl (X1 h))
theorem TW (A ts:List ByteArray):dO A++(ts.map encStr).map (·.map AV.pv)=dO (A++ts):=by rw [← fU,dO,dO,dO,List.map_append]
theorem aDv (ts:List ByteArray):∀ r∈ts.map encStr,r.length=1:=fun r hr=>by
 obtain ⟨t,_,rfl⟩:=List.mem_map.1 hr;rfl
theorem aFL (g:Nat) (A B:List ByteArray):fH g (A++B)=[(971,⟨g,1,9,dO (A++B)⟩),(970,bx 1 77 [.osl 971 g 0 (A.length+B.length)])]:=by simp [fH]
theorem aDN (r:Nat) (ih:∀ q,q < r→aD2 q):aD2 r:=by
 intro l hl g L hll hLl;have hml:(l.map tK).length=l.length:=aLP _;have one:∀ (y:Int),oO y→1 < r→∀ (g':Nat) (L':List ByteArray),L'.length+1 < 1099511627776→aG Tryz.prog 46 [.ref 970 0 0 0,.pv (.sl [tK (.n y)])] (fH g' L') (fun r H'=>r=.tup []∧H'=fH (g'+1) (L'++[bK y])):=fun y hy h1 g' L' hs =>
  ih 1 h1 [.n y] (fun v hv=>by rw [aLS] at hv;subst hv;exact⟨by simp [rkI],hy⟩) g' L' (by simp) hs
 refine Bd func46 rfl ntmps46<|Sr<|Dd aI<|Dd (fW underlying136)<|Dd aI<|Zz<|aF ?_;refine bR (σ:=Nat) (fun k=>([(0,.ref 970 0 0 0),(14,.pv (.sl (l.map tK))),(15,iv ((l.map tK).length:Int)),(16,iv (k:Int))],fH (g+VU (l.take k)) (L++tJ (l.take k)))) (fun k=>k≤l.length) (fun k=>l.length - k) 0 (aL6 _) ?_ ?_
 ·simp only [tJ,VU,List.take_zero,List.flatMap_nil,List.map_nil,List.sum_nil,Nat.add_zero,List.append_nil];exact(cC.wk (Ea<|Eb<|Eb<|Eb<|trivial) (Hc (bV _ _)<|Ha<|trivial) ⟨rfl,rfl,trivial⟩)
 intro k hk;refine Sr<|Dd dI<|Zz<|Sq ?_;refine Cn ?_ ?_<;>intro hc1
 ·have hlt:k < l.length:=by have:=aLL hc1;omega
  obtain ⟨v,hv⟩:=bD hlt;obtain ⟨hrk,hok⟩:=hl v (aLZ hv);have hi:=cI (f:=tK) hv;have hfn:=aCe hv;have hgn:=aC8 hv;have hle:=aH1 l (k+1);rw [hfn] at hle;obtain ⟨L1,hL1⟩:∃ L1,L1=L++tJ (l.take k):=⟨_,rfl⟩;obtain ⟨g1,hg1⟩:∃ g1,g1=g+VU (l.take k):=⟨_,rfl⟩;have hL2:L++tJ (l.take (k+1))=L1++fI v:=by rw [hfn,hL1,List.append_assoc]
  have hg2:g+VU (l.take (k+1))=g1+gI v:=by rw [hgn,hg1,Nat.add_assoc]
  have hsz:L1.length+(fI v).length < 1099511627776:=by
   rw [aLQ] at hle;rw [hL1,aLQ];omega
  have hwk:IntKind.i64.wrap ((k:Int)+1)=((k+1:Nat):Int):=by rw [pO (by omega) (by omega)];omega
  rw [← hL1,← hg1];clear hfn hgn hle;cases v with
  | n x =>
   have hx:oO x:=hok;have hsz:L1.length+1 < 1099511627776:=hsz;refine aE<|Sq<|aF<|Sr<|Dd (by exact bM rfl sJ rfl rfl (by omega) (by exact aL0 _) hi rfl)<|Dd (pG pM (hi:=hi))<|Dd aP<|Zz<|Sr<|Dd aI<|Zz<|aF<|Sr<|Dd (by exact rB rfl (cF underlying3 rfl) rfl)<|Dd eS<|Dd eS<|Zz ?_;refine Cn ?_ ?_<;>intro hc2
   ·refine Sr<|Dd aP<|Zz<|aQ follows<|Cr [970] (fun _ _=>aI)<|Cr [970] (fun _ _=>aI)<|Cr [970] (fun H1 hH=>by exact eI rfl rfl ((hH _ rfl).trans rfl) rfl)<|Cr [970] (fun _ h=>lh AM h)<|Cr [] (fun _ _=>aI)<|Cr [] (fun H1 hH=>by exact aB rfl rfl mM rfl (qG x hx.1 hx.2 _))<|Cr [] (fun H1 hH=>by exact aS [[.str (bK x)]] rfl UD rfl rfl rfl rfl rfl (by intro r hr;rw [aLS] at hr;subst hr;rfl))<|Cp [971] (fun H1 hH=>by exact eK (ps:=[[.str (bK x)]]) rfl UD TN rfl ((hH _ rfl).trans rfl) rfl rfl rfl (iR _) rfl (by intro r hr;rw [aLS] at hr;subst hr;rfl) (m:=1) rfl (by omega) rfl (kC L1 (bK x)))<|Cr [970] (fun H1 hH=>by exact eI rfl rfl ((hH _ rfl).trans rfl) rfl)<|Cp [970] (fun H1 hH=>by exact bQ rfl FG rfl rfl rfl rfl ((hH _ rfl).trans rfl) rfl rfl rfl) ?_;refine bJ<|Kr<|Rg<|Dd (by exact cA rfl rfl rfl hwk)<|Dd aI<|Zz ?_;refine⟨k+1,by omega,by omega,?_⟩;dsimp only;rw [hL2,hg2,show fI (.n x)=[bK x] from rfl,show gI (.n x)=1 from rfl,aCf];exact(cC.wk (Ea<|Eb<|Eb<|Eb<|trivial) (Hc (bV _ _)<|Ha<|trivial) ⟨rfl,rfl,trivial⟩)
   cases hc2
  | t s =>
   have hsz:L1.length+1 < 1099511627776:=hsz;refine aE<|Sq<|aF<|Sr<|Dd (by exact bM rfl sJ rfl rfl (by omega) (by exact aL0 _) hi rfl)<|Dd (pG pM (hi:=hi))<|Dd aP<|Zz<|Sr<|Dd aI<|Zz<|aF<|Sr<|Dd (by exact iT rfl (cF underlying3 rfl) zo3 rfl rfl)<|Dd eS<|Dd eS<|Zz ?_;refine Cn ?_ ?_<;>intro hc3
   ·cases hc3
   refine Sr<|Dd (by exact rB rfl (cF underlying9 rfl) rfl)<|Dd eS<|Dd eS<|Zz ?_;refine Cn ?_ ?_<;>intro hc4
   ·refine Sr<|Dd aP<|Zz<|Rg<|Dd aI<|Dd aI<|Dd xJ<|Dd (bL AM)<|Dd aI<|Dd (by exact aS [[.str s]] rfl UD rfl rfl rfl rfl rfl (by intro r hr;rw [aLS] at hr;subst hr;rfl))<|Dd (by exact eK (ps:=[[.str s]]) rfl UD TN rfl rfl rfl rfl rfl (iR _) rfl (by intro r hr;rw [aLS] at hr;subst hr;rfl) (m:=1) rfl (by omega) rfl (kC L1 s))<|Dd xJ<|Uu (jK FG)<|Zz<|Rg<|Dd (by exact cA rfl rfl rfl hwk)<|Dd aI<|Zz ?_;refine⟨k+1,by omega,by omega,?_⟩;dsimp only;rw [hL2,hg2,show fI (.t s)=[s] from rfl,show gI (.t s)=1 from rfl,aCf];exact(cC.wk (Ea<|Eb<|Eb<|Eb<|trivial) (Hc (bV _ _)<|Ha<|trivial) ⟨rfl,rfl,trivial⟩)
   cases hc4
  | b x =>
   have h1r:1 < r:=hrk;have hsz:L1.length+1 < 1099511627776:=hsz;refine aE<|Sq<|aF<|Sr<|Dd (by exact bM rfl sJ rfl rfl (by omega) (by exact aL0 _) hi rfl)<|Dd (pG pM (hi:=hi))<|Dd aP<|Zz<|Sr<|Dd aI<|Zz<|aF<|Sr<|Dd (by exact iT rfl (cF underlying3 rfl) zo3 rfl rfl)<|Dd eS<|Dd eS<|Zz ?_;refine Cn ?_ ?_<;>intro hc5
   ·cases hc5
   refine Sr<|Dd (by exact iT rfl (cF underlying9 rfl) zo9 rfl rfl)<|Dd eS<|Dd eS<|Zz ?_;refine Cn ?_ ?_<;>intro hc6
   ·cases hc6
   refine Sr<|Dd (by exact rB rfl (cF dN rfl) rfl)<|Dd eS<|Dd eS<|Zz ?_;refine Cn ?_ ?_<;>intro hc7
   ·refine Sr<|Dd aP<|Zz<|Rg<|Dd aI<|Dd (by exact FU (id:=948) aCx rfl rfl)<|Uu (by exact FK (κ:=aCx) (.inr rfl) underlying137 dN rfl rfl rfl rfl rfl rfl rfl rfl)<|Dd aI<|Dd aI<|Dd (by exact IX (κ:=aCx) rfl underlying137 dN rfl rfl rfl rfl rfl zI (.inl rfl))<|Dd (by exact eC (p:=.int .i64 (if x then 1 else 0)) rfl (cF underlying3 rfl) (by cases x<;>rfl))<|Dd (by exact aS [tK (.n (if x then 1 else 0))] rfl sJ rfl rfl rfl rfl rfl (by intro r hr;rw [aLS] at hr;subst hr;rfl))<|Dd (by exact aB rfl rfl sA rfl (TH (one (if x then 1 else 0) (by cases x<;>exact⟨by decide,by decide⟩) h1r g1 L1 hsz) ⟨rfl,rfl,trivial⟩ (by simp;rfl)))<|Zz<|Rg<|Dd (by exact cA rfl rfl rfl hwk)<|Dd aI<|Zz ?_;refine⟨k+1,by omega,by omega,?_⟩;dsimp only;rw [hL2,hg2,show fI (.b x)=[bK (if x then 1 else 0)] from rfl,show gI (.b x)=1 from rfl];exact(cC.wk (Ea<|Eb<|Eb<|Eb<|trivial) (Hc (bV _ _)<|Ha<|trivial) ⟨rfl,rfl,trivial⟩)
   cases hc7
  | l ts =>
   have h1r:1 < r:=hrk;have hsz:L1.length+(ts.length+1) < 1099511627776:=hsz;have hmt:(ts.map encStr).length=ts.length:=aLP _;obtain ⟨y,hy⟩:∃ y,y=((ts.map encStr).length:Int):=⟨_,rfl⟩;have hyo:oO y:=⟨by omega,by omega⟩;have hfl:L1++fI (.l ts)=(L1++[bK y])++ts:=by rw [hy,hmt,List.append_assoc];rfl
   have hll1:(L1++[bK y]).length=L1.length+1:=by rw [aLQ];rfl
   refine aE<|Sq<|aF<|Sr<|Dd (by exact bM rfl sJ rfl rfl (by omega) (by exact aL0 _) hi rfl)<|Dd (pG pM (hi:=hi))<|Dd aP<|Zz<|Sr<|Dd aI<|Zz<|aF<|Sr<|Dd (by exact iT rfl (cF underlying3 rfl) zo3 rfl rfl)<|Dd eS<|Dd eS<|Zz ?_;refine Cn ?_ ?_<;>intro hc8
   ·cases hc8
   refine Sr<|Dd (by exact iT rfl (cF underlying9 rfl) zo9 rfl rfl)<|Dd eS<|Dd eS<|Zz ?_;refine Cn ?_ ?_<;>intro hc9
   ·cases hc9
   refine Sr<|Dd (by exact iT rfl (cF dN rfl) zo4 rfl rfl)<|Dd eS<|Dd eS<|Zz ?_;refine Cn ?_ ?_<;>intro hc10
   ·cases hc10
   refine Sr<|Dd (by exact rB rfl (cF aD rfl) rfl)<|Dd eS<|Dd eS<|Zz ?_;refine Cn ?_ ?_<;>intro hc11
   ·refine Sr<|Dd aP<|Zz<|Sr<|Dd aI<|Dd aI<|Dd (by exact cD.eqJ (jS rfl cO.1 rfl) (congrArg (fun n:Int=>AV.pv (.int .i64 n)) hy.symm))<|Dd (by exact eC (p:=.int .i64 y) rfl (cF underlying3 rfl) rfl)<|Dd (by exact aS [tK (.n y)] rfl sJ rfl rfl rfl rfl rfl (by intro r hr;rw [aLS] at hr;subst hr;rfl))<|Dd (by exact aB rfl rfl sA rfl (TH (one y hyo h1r g1 L1 (by omega)) ⟨rfl,rfl,trivial⟩ (by simp;rfl)))<|Zz<|Rg<|Dd aI<|Dd aI<|Dd xJ<|Dd (bL AM)<|Dd aI<|Dd (by exact YV (ps:=ts.map encStr) rfl aD UD TN rfl rfl rfl rfl rfl (iR _) rfl (aDv ts) (m:=ts.length) hmt (by rw [hll1];omega) rfl (TW (L1++[bK y]) ts))<|Dd xJ<|Uu (jK FG)<|Zz<|Rg<|Dd (by exact cA rfl rfl rfl hwk)<|Dd aI<|Zz ?_;refine⟨k+1,by omega,by omega,?_⟩;dsimp only;rw [hL2,hg2,hfl,show gI (.l ts)=2 from rfl,aFL (g1+2) (L1++[bK y]) ts];exact(cC.wk (Ea<|Eb<|Eb<|Eb<|trivial) (Hc (bV _ _)<|Ha<|trivial) ⟨rfl,rfl,trivial⟩)
   cases hc11
  | z i a b =>
   have h2r:2 < r:=hrk;obtain ⟨hio,hao,hbo⟩:oO i∧a.length < 1099511627776∧b.length < 1099511627776:=hok;have e3:tJ [.n i,.l a,.l b]=fI (.z i a b):=by simp [tJ,fI]
   have h3:=ih 2 h2r [.n i,.l a,.l b] (by
    intro v hv;simp only [aL1,aL5,or_false] at hv;rcases hv with rfl|rfl|rfl
    ·exact⟨by simp [rkI],hio⟩
    ·exact⟨by simp [rkI],hao⟩
    exact⟨by simp [rkI],hbo⟩) g1 L1 (by simp) (by rw [e3];exact hsz)
   rw [e3] at h3;refine aE<|Sq<|aF<|Sr<|Dd (by exact bM rfl sJ rfl rfl (by omega) (by exact aL0 _) hi rfl)<|Dd (pG pM (hi:=hi))<|Dd aP<|Zz<|Sr<|Dd aI<|Zz<|aF<|Sr<|Dd (by exact vR rfl (cF underlying3 rfl) zo3 rfl rfl)<|Dd eS<|Dd eS<|Zz ?_;refine Cn ?_ ?_<;>intro hc12
   ·cases hc12
   refine Sr<|Dd (by exact vR rfl (cF underlying9 rfl) zo9 rfl rfl)<|Dd eS<|Dd eS<|Zz ?_;refine Cn ?_ ?_<;>intro hc13
   ·cases hc13
   refine Sr<|Dd (by exact vR rfl (cF dN rfl) zo4 rfl rfl)<|Dd eS<|Dd eS<|Zz ?_;refine Cn ?_ ?_<;>intro hc14
   ·cases hc14
   refine Sr<|Dd (by exact vR rfl (cF aD rfl) aIK rfl rfl)<|Dd eS<|Dd eS<|Zz ?_;refine Cn ?_ ?_<;>intro hc15
   ·cases hc15
   refine Sr<|Dd (by exact IT (ps:=[.int .i64 i,aU a,aU b]) rfl (cF fC rfl) rfl)<|Dd eS<|Dd eS<|Zz ?_;refine Cn ?_ ?_<;>intro hc16
   ·refine Sr<|Dd (by exact bE (id:=10) rfl YS rfl rfl)<|Uu (jK sizeOf25)<|Zz<|Rg<|Dd aI<|Dd (bB lS)<|Dd (bL isAgg3)<|Dd (by exact eC (p:=.int .i64 i) rfl (cF underlying3 rfl) rfl)<|Dd (bB iK)<|Dd (bL aJ)<|Dd (by exact eC (p:=aU a) rfl (cF aD rfl) rfl)<|Dd (bB mI)<|Dd (bL aJ)<|Dd (by exact eC (p:=aU b) rfl (cF aD rfl) rfl)<|Dd (by exact aS [tK (.n i),tK (.l a),tK (.l b)] rfl sJ rfl rfl rfl rfl rfl (by intro r hr;simp only [aL1,aL5,or_false] at hr;rcases hr with rfl|rfl|rfl<;>rfl))<|Dd (by exact aB rfl rfl sA rfl (TH h3 ⟨rfl,rfl,trivial⟩ (by simp;rfl)))<|Zz<|Rg<|Dd (by exact cA rfl rfl rfl hwk)<|Dd aI<|Zz ?_;refine⟨k+1,by omega,by omega,?_⟩;dsimp only;rw [hL2,hg2];exact(cC.wk (Ea<|Eb<|Eb<|Eb<|trivial) (Hc (bV _ _)<|Ha<|trivial) ⟨rfl,rfl,trivial⟩)
   cases hc16
  | p ps =>
   have h1r:1 < r:=hrk;obtain ⟨hpl,hpo⟩:ps.length < 1099511627776∧∀ q∈ps,oO q.1∧oO q.2:=hok;have hfp:∀ j,KM (ps.take j)=(ps.take j).flatMap (fun q=>[bK q.1,bK q.2]):=fun _=>rfl;have hsz:L1.length+(1+2*ps.length) < 1099511627776:=by
    have:(fI (.p ps)).length=1+2*ps.length:=by rw [show fI (.p ps)=bK (ps.length:Int)::KM ps from rfl,aLR,GX];omega
    omega
   have hmt:(ps.map fM).length=ps.length:=aLP _;obtain ⟨y,hy⟩:∃ y,y=((ps.map fM).length:Int):=⟨_,rfl⟩;have hyo:oO y:=⟨by omega,by omega⟩;have hfl:L1++fI (.p ps)=(L1++[bK y])++KM ps:=by rw [hy,hmt,List.append_assoc];rfl
   refine aE<|Sq<|aF<|Sr<|Dd (by exact bM rfl sJ rfl rfl (by omega) (by exact aL0 _) hi rfl)<|Dd (pG pM (hi:=hi))<|Dd aP<|Zz<|Sr<|Dd aI<|Zz<|aF<|Sr<|Dd (by exact iT rfl (cF underlying3 rfl) zo3 rfl rfl)<|Dd eS<|Dd eS<|Zz ?_;refine Cn ?_ ?_<;>intro hc17
   ·cases hc17
   refine Sr<|Dd (by exact iT rfl (cF underlying9 rfl) zo9 rfl rfl)<|Dd eS<|Dd eS<|Zz ?_;refine Cn ?_ ?_<;>intro hc18
   ·cases hc18
   refine Sr<|Dd (by exact iT rfl (cF dN rfl) zo4 rfl rfl)<|Dd eS<|Dd eS<|Zz ?_;refine Cn ?_ ?_<;>intro hc19
   ·cases hc19
   refine Sr<|Dd (by exact iT rfl (cF aD rfl) aIK rfl rfl)<|Dd eS<|Dd eS<|Zz ?_;refine Cn ?_ ?_<;>intro hc20
   ·cases hc20
   refine Sr<|Dd (by exact iT rfl (cF fC rfl) YS rfl rfl)<|Dd eS<|Dd eS<|Zz ?_;refine Cn ?_ ?_<;>intro hc21
   ·cases hc21
   refine Sr<|Dd (by exact rB rfl (cF dP rfl) rfl)<|Dd eS<|Dd eS<|Zz ?_;refine Cn ?_ ?_<;>intro hc22
   ·refine Sr<|Dd aP<|Zz<|Sr<|Dd aI<|Dd aI<|Dd (by exact cD.eqJ (jS rfl Q7.1 rfl) (congrArg (fun n:Int=>AV.pv (.int .i64 n)) hy.symm))<|Dd (by exact eC (p:=.int .i64 y) rfl (cF underlying3 rfl) rfl)<|Dd (by exact aS [tK (.n y)] rfl sJ rfl rfl rfl rfl rfl (by intro r hr;rw [aLS] at hr;subst hr;rfl))<|Dd (by exact aB rfl rfl sA rfl (TH (one y hyo h1r g1 L1 (by omega)) ⟨rfl,rfl,trivial⟩ (by simp;rfl)))<|Zz<|Sr<|Dd aI<|Dd (fW dP)<|Dd aI<|Zz<|aF ?_;refine bR (σ:=Nat) (fun j=>([(0,.ref 970 0 0 0),(14,.pv (.sl (l.map tK))),(15,iv ((l.map tK).length:Int)),(16,iv (k:Int)),(95,.pv (oZ ps)),(96,iv ((ps.map fM).length:Int)),(97,iv (j:Int))],fH (g1+1+2*j) ((L1++[bK y])++KM (ps.take j)))) (fun j=>j≤ps.length) (fun j=>ps.length - j) 0 (aL6 _) ?_ ?_
    ·rw [show KM (ps.take 0)=[] from rfl,List.append_nil];exact(cC.wk (Ea<|Eb<|Eb<|Eb<|Eb<|Eb<|Eb<|trivial) (Hc (bV _ _)<|Ha<|trivial) ⟨rfl,rfl,trivial⟩)
    intro j hj;refine Sr<|Dd dI<|Zz<|Sq ?_;refine Cn ?_ ?_<;>intro hc23
    ·have hjl:j < ps.length:=by have:=aLL hc23;omega
     obtain ⟨q,hq⟩:=bD hjl;have hqi:=cI (f:=fM) hq;obtain ⟨hq1,hq2⟩:=hpo q (aLZ hq);have hnx:=aBc hq;have hln:(L1++[bK y]++KM (ps.take j)).length=L1.length+1+2*j:=by rw [aLQ,aLQ,GX,aL3];simp;omega
     have h2:=ih 1 h1r [.n q.1,.n q.2] (by
      intro v hv;simp only [aL1,aL5,or_false] at hv;rcases hv with rfl|rfl
      ·exact⟨by simp [rkI],hq1⟩
      exact⟨by simp [rkI],hq2⟩) (g1+1+2*j) (L1++[bK y]++KM (ps.take j)) (by simp) (by rw [hln];show L1.length+1+2*j+2 < _;omega)
     refine aE<|Sq<|aF<|Sr<|Dd (by exact bM rfl Q7 rfl rfl (by omega) (by exact aL0 _) hqi rfl)<|Dd (by exact cP rfl dQ sizeOf73 rfl hqi (by simp only [Zl,encStr];rfl) rfl)<|Dd (by exact bE (id:=13) rfl aIG rfl rfl)<|Uu (jK sizeOf73)<|Zz<|Rg<|Dd aI<|Dd (bB tH)<|Dd (bL isAgg3)<|Dd (by exact eC (p:=.int .i64 q.1) rfl (cF underlying3 rfl) rfl)<|Dd (bB tG)<|Dd (bL isAgg3)<|Dd (by exact eC (p:=.int .i64 q.2) rfl (cF underlying3 rfl) rfl)<|Dd (by exact aS [tK (.n q.1),tK (.n q.2)] rfl sJ rfl rfl rfl rfl rfl (by intro r hr;simp only [aL1,aL5,or_false] at hr;rcases hr with rfl|rfl<;>rfl))<|Dd (by exact aB rfl rfl sA rfl (TH h2 ⟨rfl,rfl,trivial⟩ (by simp;rfl)))<|Zz<|Rg<|Dd (by exact cA rfl rfl rfl (show IntKind.i64.wrap ((j:Int)+1)=((j+1:Nat):Int)by rw [pO (by omega) (by omega)];omega)) ?_;refine Dd aI<|Zz ?_;refine⟨j+1,by omega,by omega,?_⟩;dsimp only;rw [hnx,← List.append_assoc,show g1+1+2*(j+1)=g1+1+2*j+VU [.n q.1,.n q.2] from rfl];exact(cC.wk (Ea<|Eb<|Eb<|Eb<|Eb<|Eb<|Eb<|trivial) (Hc (bV _ _)<|Ha<|trivial) ⟨rfl,rfl,trivial⟩)
    have hjg:j=ps.length:=by have:=aLM hc23;omega
    subst hjg;rw [List.take_length];refine bG<|Rg<|Dd (by exact cA rfl rfl rfl hwk)<|Dd aI<|Zz ?_;refine⟨k+1,by omega,by omega,?_⟩;dsimp only;rw [hL2,hg2,hfl,show g1+gI (.p ps)=g1+1+2*ps.length from(Nat.add_assoc _ _ _).symm];exact(cC.wk (Ea<|Eb<|Eb<|Eb<|trivial) (Hc (bV _ _)<|Ha<|trivial) ⟨rfl,rfl,trivial⟩)
   cases hc22
 have hge:k=l.length:=by have:=aLM hc1;omega
 subst hge;rw [List.take_length];refine bG ?_;exact pK (.inl rfl) rfl Fin.refl ⟨rfl,rfl⟩
theorem aHn (r:Nat):aD2 r:=Nat.strongRecOn r (fun r ih=>aDN r ih)
theorem aI9 (v:IV):rkI v < 3:=by cases v<;>simp [rkI]
theorem WO (l:List IV) (hl:∀ v∈l,okI v) (g:Nat) (L:List ByteArray) (hll:l.length < 1099511627776) (hs:L.length+(tJ l).length < 1099511627776) :
  aG Tryz.prog 46 [.ref 970 0 0 0,.pv (.sl (l.map tK))] (fH g L) (fun r H'=>r=.tup []∧H'=fH (g+VU l) (L++tJ l)) :=
 aHn 3 l (fun v hv=>⟨aI9 v,hl v hv⟩) g L hll hs
structure GSeal where
 idx:Int
 sig:List ByteArray
 path:List ByteArray
 deriving DecidableEq
structure GPriv where
 name:ByteArray
 reason:ByteArray
 sources:List ByteArray
 trace:List (Int×Int)
 sl:GSeal
 deriving DecidableEq
structure GRec where
 kind:Int
 author:Int
 number:Int
 clock:Int
 branch:ByteArray
 parents:List ByteArray
 edits:List GEdit
 target:ByteArray
 yes:Bool
 order:Int
 from':ByteArray
 sl:GSeal
 priv:GPriv
def fA (s:GSeal):List PV:=[.int .i64 s.idx,aU s.sig,aU s.path]
def kR (p:GPriv):List PV:=[.str p.name,.str p.reason,aU p.sources,oZ p.trace,.int .i64 p.sl.idx,aU p.sl.sig,aU p.sl.path]
def bP (r:GRec):List PV:=[.int .i64 r.kind,.int .i64 r.author,.int .i64 r.number,.int .i64 r.clock,.str r.branch,aU r.parents,iN r.edits,.str r.target,.bool r.yes,.int .i64 r.order,.str r.from',.int .i64 r.sl.idx,aU r.sl.sig,aU r.sl.path,.str r.priv.name,.str r.priv.reason,aU r.priv.sources,oZ r.priv.trace,.int .i64 r.priv.sl.idx,aU r.priv.sl.sig,aU r.priv.sl.path]
def LH (l:List ByteArray):Prop:=l.length < 1099511627776∧∀ t∈l,t.size < 1099511627776
def pQ (s:GSeal):Prop:=oO s.idx∧LH s.sig∧LH s.path
def PA (p:GPriv):Prop:=p.name.size < 1099511627776∧p.reason.size < 1099511627776∧LH p.sources∧p.trace.length < 1099511627776∧pQ p.sl
def aGf (q:ByteArray→Bool) (l:List ByteArray) (k:Nat):Bool:=match l[k]? with|some s=>q s|none=>false
theorem aE3 (q:ByteArray→Bool) (l:List ByteArray):(List.range l.length).any (aGf q l)=l.any q:=N4 l q
theorem J4 (f:FuncId) (l:List ByteArray) (q:ByteArray→Bool) (hl:l.length < 1099511627776) (hf:∀ s∈l,cB Tryz.prog (.pv (.fn f)) [sv s] [] (fun r H'=>r=bv (q s)∧H'=[])) (H:aA) :
  aG Tryz.prog 66 [.pv (aU l),.pv (.fn f)] H (fun r H'=>r=bv (l.any q)∧H'=H):=by
 refine Pu ?_;have hc:=oT (.pv (.fn f)) l (aGf q l) (fun _=>[]) (by omega) (fun k s hk=>by
  rw [aGf,hk];exact hf s (aLZ hk))
 rw [aE3] at hc;exact hc
theorem aH3 (t:ByteArray) (ht:t.size < 1099511627776) (H:aA):aG Tryz.prog 128 [sv t] H (fun r H'=>r=bv (I9 t)∧H'=H):=by refine Pu ?_;exact Bd func128 rfl ntmps128<|Sr<|Dd aP<|Zz<|Sr<|Dd aI<|Dd (by exact aB rfl rfl aDb rfl (X3 t ht _))<|Dd lI<|Dd aP<|Zz<|aC<|Rt<|Qq
theorem E4 (l:List ByteArray) (hl:LH l) (H:aA):aG Tryz.prog 75 [.pv (aU l)] H (fun r H'=>r=bv (l.all isJ)∧H'=H):=by refine Pu ?_;have hc:=J4 128 l I9 hl.1 (fun s hs=>cB.fn call128 (aH3 s (hl.2 s hs) [])) [];rw [DK] at hc;refine Bd func75 rfl ntmps75<|Sr<|Dd aP<|Zz<|Sr<|Dd aI<|Dd (by exact aB rfl rfl QK rfl (hc))<|Dd lI<|Dd aP<|Zz<|aC<|Rt ?_;exact⟨by rw [Bool.not_not],rfl⟩
def sE (s:GSeal):Bool:=decide (s.idx=0)&&decide (((s.sig.map encStr).length:Int)+((s.path.map encStr).length:Int)=0)
theorem aAs (s:GSeal) (hs:pQ s) (H:aA):aG Tryz.prog 84 [av (fA s)] H (fun r H'=>r=bv (sE s)∧H'=H):=by
 refine Pu ?_;have h1:(s.sig.map encStr).length < 1099511627776:=by rw [aLP];exact hs.2.1.1
 have h2:(s.path.map encStr).length < 1099511627776:=by rw [aLP];exact hs.2.2.1
 refine Bd func84 rfl ntmps84<|Sr<|Dd (by exact bZ (id:=1) rfl rfl rfl rfl rfl)<|Dd aP<|Zz<|Sq ?_;refine bC (t:=2) (n:=15) (X:=sE s) ?_ ?_
 ·all_goals refine Dd (bB lS) ?_
  all_goals refine Dd (bL isAgg3)<|Dd dC<|Dm ?_
  all_goals refine Sp 6 (fun h6=>?_) fun h6=>?_
  all_goals try contradiction
  all_goals first|refine Fo<|Fo<|Fo<|Fo<|Fo<|Fo<|Fo<|Fo ?_|refine On (bB iK)<|On (bL aJ)<|On (fW aD)<|On (bB mI)<|On (bL aJ)<|On (fW aD)<|On (by exact cA rfl rfl rfl (pO (by omega) (by omega)))<|On dC ?_
  all_goals refine Dd cL<|Da ?_
  all_goals(exact⟨⟨_,rfl,by(rw [sE,h6];rfl)⟩,rfl,rfl,rfl⟩)
 exact aC<|Rt<|Qq
def iY (s:GSeal):Bool:=sE s||(((((decide (0≤s.idx)&&decide (s.idx < 256))&&decide (((s.sig.map encStr).length:Int)=18))&&decide (((s.path.map encStr).length:Int)≤8))&&s.sig.all isJ)&&s.path.all isJ)
theorem SI (s:GSeal) (hs:pQ s) (H:aA):aG Tryz.prog 70 [av (fA s)] H (fun r H'=>r=bv (iY s)∧H'=H):=by
 refine Pu ?_;have hz:=fun H=>aAs s hs H;have hd1:=fun H=>E4 s.sig hs.2.1 H;have hd2:=fun H=>E4 s.path hs.2.2 H;obtain ⟨zz,hzz⟩:∃ zz,zz=sE s:=⟨_,rfl⟩;rw [← hzz] at hz;refine Bd func70 rfl ntmps70<|Sr<|Dd (by exact bZ (id:=1) rfl rfl rfl rfl rfl)<|Dd aP<|Zz<|Sq ?_;refine bC (t:=2) (n:=41) (X:=iY s) ?_ ?_
 ·all_goals refine Dd (by exact aL rfl dX sizeOf25 rfl rfl rfl rfl (by simp only [Zl,encStr];rfl) rfl) ?_
  all_goals refine Dd (by exact aB rfl rfl call84 rfl (hz _))<|Dm ?_
  all_goals refine Sp 5 (fun h5=>?_) fun h5=>?_
  all_goals try contradiction
  all_goals first|refine Fo<|Fo<|Fo<|Fo ?_|refine On (bB lS)<|On (bL isAgg3)<|On JS<|On aI ?_
  all_goals(first|refine Sp 9 (fun h9=>?_) fun h9=>?_|refine wO (t:=9) rfl ?_)
  all_goals try contradiction
  all_goals first|refine Fo ?_|refine Fu ?_|refine On (bB lS) ?_
  all_goals first|refine Fo ?_|refine Fu ?_|refine On (bL isAgg3) ?_
  all_goals first|refine Fo ?_|refine Fu ?_|refine On dI ?_
  all_goals first|refine Fo<|Fo ?_|refine On cL<|On aI ?_
  all_goals(first|refine Sp 14 (fun h14=>?_) fun h14=>?_|refine wO (t:=14) rfl ?_)
  all_goals try contradiction
  all_goals first|refine Fo ?_|refine Fu ?_|refine On (bB iK) ?_
  all_goals first|refine Fo ?_|refine Fu ?_|refine On (bL aJ) ?_
  all_goals first|refine Fo ?_|refine Fu ?_|refine On (fW aD) ?_
  all_goals first|refine Fo ?_|refine Fu ?_|refine On dC ?_
  all_goals first|refine Fo<|Fo ?_|refine On cL<|On aI ?_
  all_goals(first|refine Sp 20 (fun h20=>?_) fun h20=>?_|refine wO (t:=20) rfl ?_)
  all_goals try contradiction
  all_goals first|refine Fo ?_|refine Fu ?_|refine On (bB mI) ?_
  all_goals first|refine Fo ?_|refine Fu ?_|refine On (bL aJ) ?_
  all_goals first|refine Fo ?_|refine Fu ?_|refine On (fW aD) ?_
  all_goals first|refine Fo ?_|refine Fu ?_|refine On TM ?_
  all_goals first|refine Fo<|Fo ?_|refine On cL<|On aI ?_
  all_goals(first|refine Sp 26 (fun h26=>?_) fun h26=>?_|refine wO (t:=26) rfl ?_)
  all_goals try contradiction
  all_goals first|refine Fo ?_|refine Fu ?_|refine On (bB iK) ?_
  all_goals first|refine Fo ?_|refine Fu ?_|refine On (bL aJ) ?_
  all_goals first|refine Fo ?_|refine Fu ?_|refine On (by exact aB rfl rfl aDa rfl (hd1 _)) ?_
  all_goals first|refine Fo<|Fo ?_|refine On cL<|On aI ?_
  all_goals(first|refine Sp 31 (fun h31=>?_) fun h31=>?_|refine wO (t:=31) rfl ?_)
  all_goals try contradiction
  all_goals first|refine Fo ?_|refine Fu ?_|refine On (bB mI) ?_
  all_goals first|refine Fo ?_|refine Fu ?_|refine On (bL aJ) ?_
  all_goals first|refine Fo ?_|refine Fu ?_|refine On (by exact aB rfl rfl aDa rfl (hd2 _)) ?_
  all_goals first|refine Fo ?_|refine On cL ?_
  all_goals refine Dd cL<|Da ?_
  all_goals(exact⟨⟨_,rfl,by first|(rw [iY,← hzz,h5];rfl)|(rw [iY,← hzz,h5,h9];rfl)|(rw [iY,← hzz,h5,h9,h14];rfl)|(rw [iY,← hzz,h5,h9,h14,h20];rfl)|(rw [iY,← hzz,h5,h9,h14,h20,h26];rfl)|(rw [iY,← hzz,h5,h9,h14,h20,h26,h31];rfl)⟩,rfl,rfl,rfl⟩)
 exact aC<|Rt<|Qq
def fO (p:GPriv):Bool:=decide (p.name++p.reason=sNil)&&decide (((p.sources.map encStr).length:Int)+((p.trace.map fM).length:Int)=0)
theorem YA (p:GPriv) (hp:PA p) (H:aA):aG Tryz.prog 83 [av (kR p)] H (fun r H'=>r=bv (fO p)∧H'=H):=by
 refine Pu ?_;obtain ⟨a1,a2,a3,a4,a5⟩:=hp;have h1:(p.sources.map encStr).length < 1099511627776:=by rw [aLP];exact a3.1
 have h2:(p.trace.map fM).length < 1099511627776:=by rw [aLP];exact a4
 have h3:(p.name++p.reason).size=p.name.size+p.reason.size:=ByteArray.size_append;refine Bd func83 rfl ntmps83<|Sr<|Dd (by exact bZ (id:=1) rfl rfl rfl rfl rfl)<|Dd aP<|Zz<|Sq ?_;refine bC (t:=2) (n:=18) (X:=fO p) ?_ ?_
 ·all_goals refine Dd (bB BN) ?_
  all_goals refine Dd (bL isAgg9)<|Dd (bB BM)<|Dd (bL isAgg9)<|Dd (by exact gP rfl rfl rfl (by omega) rfl)<|Dd AJ<|Dm ?_
  all_goals refine Sp 9 (fun h9=>?_) fun h9=>?_
  all_goals try contradiction
  all_goals first|refine Fo<|Fo<|Fo<|Fo<|Fo<|Fo<|Fo<|Fo ?_|refine On (bB yU)<|On (bL aJ)<|On (fW aD)<|On (bB rN)<|On (bL jD)<|On (fW dP)<|On (by exact cA rfl rfl rfl (pO (by omega) (by omega)))<|On dC ?_
  all_goals refine Dd cL<|Da ?_
  all_goals(exact⟨⟨_,rfl,by(rw [fO,h9];rfl)⟩,rfl,rfl,rfl⟩)
 exact aC<|Rt<|Qq
theorem HN (n a b:Int) (H:aA):aG Tryz.prog 64 [iv n,iv a,iv b] H (fun r H'=>r=bv (decide (a≤n)&&decide (n≤b))∧H'=H):=by
 refine Pu ?_;refine Bd func64 rfl ntmps64<|Sr<|Dd aP<|Zz<|Sq ?_;refine bC (t:=6) (n:=10) (X:=decide (a≤n)&&decide (n≤b)) ?_ ?_
 ·all_goals refine Dd aI ?_
  all_goals refine Dd aI<|Dd JS<|Dm ?_
  all_goals refine Sp 10 (fun h10=>?_) fun h10=>?_
  all_goals try contradiction
  all_goals first|refine Fo<|Fo<|Fo ?_|refine On aI<|On aI<|On TM ?_
  all_goals refine Dd cL<|Da ?_
  all_goals(exact⟨⟨_,rfl,by(rw [h10];rfl)⟩,rfl,rfl,rfl⟩)
 exact aC<|Rt<|Qq
def FY (s:ByteArray):Bool:=decide (200 < (s.size:Int))
theorem aHM (s:ByteArray) (H:aA):aG Tryz.prog 67 [sv s] H (fun r H'=>r=bv (FY s)∧H'=H):=by refine Pu ?_;exact Bd func67 rfl ntmps67<|Sr<|Dd aP<|Zz<|Sr<|Dd aI<|Dd (nV underlying9)<|Dd mU<|Dd aP<|Zz<|aC<|Rt<|Qq
theorem XD (l:List ByteArray) (hl:l.length < 1099511627776) (H:aA):aG Tryz.prog 65 [.pv (aU l)] H (fun r H'=>r=bv (!l.any FY)∧H'=H):=by refine Pu ?_;have hc:=J4 67 l FY hl (fun s hs=>cB.fn call67 (aHM s [])) [];exact Bd func65 rfl ntmps65<|Sr<|Dd aP<|Zz<|Sr<|Dd aI<|Dd (by exact aB rfl rfl QK rfl (hc))<|Dd lI<|Dd aP<|Zz<|aC<|Rt<|Qq
end Go.Proofs.YtiifmppaejpemaaGreatDoor
namespace Go.Abs
section
section
variable {P:Program} {N:Nat} {o:Oper} {E:bN} {H:aA} {S T t:TypeId} {x:Operand} {id g n m:Nat} {ob:Ob}
theorem A9 (ho:o.op=.convert S T x) (hS:P.underlying S=some .unsafePointer) (hT:P.underlying T=some (.pointer t)) (hi:(P.info? t).map (·.size)=some (n+1)) (hc:P.cellsOf ob.ty=m+1) (hx:aN E x=some (.ref id g 0 0)) (hH:H.get id=some ob) (hg:ob.g=g) (hne:ob.rows≠[]) (hsz:ob.sz=m+1) (hl:∀ c,liesAt P P.depth ob.ty (c+1) 0 t 1=true):cD P N o E H (.ref id g 0 0) H :=.of_run fun a w I ι hr he=>by
  have hv:=aH he hx;obtain ⟨b,cap,e1,e2,e3,e4⟩:=D7 hr hv hH hg hne;obtain ⟨j,h1,h2⟩:=uP hi;rw [e1] at hv;refine⟨_,?_,hv⟩;simp only [execOp,ho,e1];have hq:cap*ob.sz / P.cellsOf ob.ty=(cap - 1)+1:=by rw [hc,hsz,Nat.mul_div_cancel _ (by omega)];omega
  rw [Sem.run_bind,Lib.run_from_unsafe w ⟨b,0,none⟩ hS hT h1 e2 (by rw [hq];exact hl _)];rfl
end
end
end Go.Abs
namespace Go.Proofs.YtiifmppaejpemaaGreatDoor
open Go.Proofs.Tryz
open Go.Abs
theorem aJO (c:Nat):liesAt Tryz.prog Tryz.prog.depth 248 (c+1) 0 140 1=true:=by kernel_rfl
def BR (buf:AV) (u:Bool):Ob:=⟨0,2,248,[[TC u,buf]]⟩
def lU (g:Nat) (l:List UInt8) (u:Bool):aA:=[(2001,BR (.osl 2002 g 0 l.length) u),(2002,⟨g,1,5,eP l⟩)]
theorem J8 {H:aA} {g n:Nat} {u:Bool} (h1:(H.get 2001).isSome=true) (h2:(H.get 2002).isSome=true):∀ r∈(BR (.osl 2002 g 0 n) u).rows,∀ a∈r,Clo H a:=by
 intro r hr a ha;simp only [BR,aLS] at hr;subst hr;simp only [aL1,aL5,or_false] at ha;rcases ha with rfl|rfl
 ·cases u<;>simp [TC,h1]
 simp [h2]
theorem DF (buf:AV) (u:Bool) (K:aA):aG Tryz.prog 159 [.ref 2001 0 0 0] ((2001,BR buf u)::K) (fun r H'=>r=.tup []∧H'=(2001,BR buf true)::K):=by
 cases u with
 | false =>
  refine Bd aAe rfl TQ<|Sr<|Dd aI<|Dd xJ<|Dd (bB sS)<|Dd (bL xF)<|Dd (by exact FT rfl eT rfl rfl)<|Zz ?_;refine Cn ?_ ?_<;>intro hc1
  ·refine Rg<|Dd aI<|Dd aI<|Dd (by exact AR (n:=1) rfl eT BX (by kernel_rfl) rfl rfl rfl (by simp [BR]))<|Dd (by exact G5 rfl rfl func194 rfl rfl rfl rfl rfl (SJ (.ref 2001 0 0 0)))<|Dd (by exact A9 (n:=1) (m:=1) rfl BX eT (by kernel_rfl) (by kernel_rfl) rfl rfl rfl (by simp [BR]) rfl aJO)<|Dd xJ<|Dd (bB sS)<|Uu (by exact aZ rfl aHo rfl rfl rfl rfl rfl rfl (aL2 rfl) rfl rfl)<|Zz ?_;exact pK (.inl rfl) rfl (Fin.get' (H':=(2001,BR buf true)::K) (fun j=>sQ 2001 (BR buf true) (BR buf false) K j)) ⟨rfl,rfl⟩
  cases hc1
 | true =>
  refine Bd aAe rfl TQ<|Sr<|Dd aI<|Dd xJ<|Dd (bB sS)<|Dd (bL xF)<|Dd (by exact FS rfl eT rfl rfl rfl rfl)<|Zz ?_;refine Cn ?_ ?_<;>intro hc1
  ·cases hc1
  refine Sr<|Dd aI<|Dd xJ<|Dd (bB sS)<|Dd (bL xF)<|Dd aI<|Dd (by exact CO (n:=1) rfl eT (by kernel_rfl) rfl rfl rfl rfl)<|Zz ?_;refine Cn ?_ ?_<;>intro hc2
  ·cases hc2
  refine aE ?_;exact pK (.inl rfl) rfl Fin.refl ⟨rfl,rfl⟩
theorem S9 (g:Nat) (l m:List UInt8) {n:Nat} (h:m.length=n):lU (g+1) (l++m) true=[(2001,BR (.osl 2002 (g+1) 0 (l.length+n)) true),(2002,⟨g+1,1,5,eP (l++m)⟩)]:=by subst h;simp [lU]
theorem OA (g:Nat) (l:List UInt8) (u:Bool) (c:UInt8) (hl:l.length < 70368744177664):aG Tryz.prog 115 [.ref 2001 0 0 0,.pv (.int .u8 c.toNat)] (lU g l u) (fun r H'=>r=.pv EL∧H'=lU (g+1) (l++[c]) true):=by refine Bd func115 rfl ntmps115<|Sr<|Dd aP<|Zz<|Sr<|Dd aI<|Dd (by exact aB rfl rfl KJ rfl (DF _ u _))<|Zz<|Sr<|Dd aI<|Dd aI<|Dd xJ<|Dd (bB eV)<|Dd (bL cN)<|Dd aI<|Dd (by exact aS [[.int .u8 c.toNat]] rfl FQ rfl rfl rfl rfl rfl (by intro r hr;rw [aLS] at hr;subst hr;rfl))<|Dd (by exact eK (ps:=[[.int .u8 c.toNat]]) rfl FQ ei5 rfl rfl rfl rfl rfl (AD l) rfl (by intro r hr;rw [aLS] at hr;subst hr;rfl) (m:=1) rfl (by omega) rfl (AE l [c]))<|Dd xJ<|Dd (bB eV)<|Uu (by exact aZ rfl lW rfl rfl rfl rfl rfl rfl (aL2 rfl) rfl rfl)<|Zz<|Sr<|Dd aP<|Zz<|aC ?_;rw [S9 g l [c] (n:=1) rfl];refine dF (H':=[(2001,BR (.osl 2002 (g+1) 0 (l.length+1)) true),(2002,⟨g+1,1,5,eP (l++[c])⟩)]) (.inr rfl) rfl (aT rfl) (Fin.get' (fun j=>C5 (by decide) j)) ?_;exact Qq
theorem xU (g:Nat) (l:List UInt8) (u:Bool) (s:ByteArray) (hl:l.length+s.size < 70368744177664):aG Tryz.prog 114 [.ref 2001 0 0 0,sv s] (lU g l u) (fun r H'=>r=.tup [iv (s.size:Int),.pv EL]∧H'=lU (g+1) (l++s.data.toList) true):=by refine Bd func114 rfl ntmps114<|Sr<|Dd aP<|Dd aP<|Zz<|Sr<|Dd aI<|Dd (by exact aB rfl rfl KJ rfl (DF _ u _))<|Zz<|Sr<|Dd aI<|Dd aI<|Dd xJ<|Dd (bB eV)<|Dd (bL cN)<|Dd aI<|Dd (by exact B7 rfl FQ underlying9 ei5 WV rfl rfl rfl rfl rfl (AD l) rfl (by omega) rfl (AE l s.data.toList))<|Dd xJ<|Dd (bB eV)<|Uu (by exact aZ rfl lW rfl rfl rfl rfl rfl rfl (aL2 rfl) rfl rfl)<|Zz<|Sr<|Dd aI<|Dd (nV underlying9)<|Dd aP<|Dd aP<|Zz<|aC ?_;rw [S9 g l s.data.toList (n:=s.size) rfl];refine rT (H':=[(2001,BR (.osl 2002 (g+1) 0 (l.length+s.size)) true),(2002,⟨g+1,1,5,eP (l++s.data.toList)⟩)]) (.inr rfl) rfl (aT rfl) (aT rfl) (Fin.get' (fun j=>C5 (by decide) j)) ?_;exact Qq
def TB (g:Nat) (l:List UInt8) (u:Bool):aA:=[(2002,⟨g+1,1,5,[]⟩),(2001,BR (.osl 2002 g 0 l.length) u)]
theorem aG6 (g:Nat) (l:List UInt8) (u:Bool) (hl:l.length < 70368744177664):aG Tryz.prog 116 [.ref 2001 0 0 0] (lU g l u) (fun r H'=>r=sv ⟨l.toArray⟩∧H'=TB g l u):=by
 by_cases h0:l=[]
 ·subst h0;refine Bd aAg rfl TS<|Sr<|Dd aP<|Zz<|Sq<|aQ follows<|Cq aI<|Cq xJ<|Cq (bB eV)<|Cq (bL cN)<|Cq (by exact yF rfl rV rfl rfl rfl)<|Cq aI<|Cq xJ<|Cq (bB eV)<|Cq (bL cN)<|Cq (by exact dS rfl cE rfl rfl rfl)<|Cq (by exact sL rfl rfl rfl)<|Cq aP<|bJ<|Kr<|aC ?_;refine dF (H':=(TB g [] u)) (.inr rfl) rfl (aT rfl) (Fin.trans (Fin.deadO (id:=2002) (k:=g+1) (ob:=⟨g,1,5,eP []⟩) rfl (Nat.lt_succ_self g) Nat.zero_lt_one rfl rfl) (Fin.get' (fun j=>HE (by decide) j))) ?_;exact Qq
 have hpos:0 < l.length:=List.length_pos_iff.2 h0;refine Bd aAg rfl TS<|Sr<|Dd aP<|Zz<|Sq<|aQ follows<|Cr [2001] (fun _ _=>aI)<|Cr [2001] (fun H1 hH=>by exact eI rfl rfl ((hH _ rfl).trans rfl) rfl)<|Cr [2001] (fun _ h=>fh eV h)<|Cr [2001] (fun _ h=>lh cN h)<|Cr [2002] (fun H1 hH=>by exact AT rfl rfl ((hH _ rfl).trans rfl) rfl hpos)<|Cr [2001] (fun _ _=>aI)<|Cr [2001] (fun H1 hH=>by exact eI rfl rfl ((hH _ rfl).trans rfl) rfl)<|Cr [2001] (fun _ h=>fh eV h)<|Cr [2001] (fun _ h=>lh cN h)<|Cr [2002] (fun H1 hH=>by exact dS rfl cE rfl ((hH _ rfl).trans rfl) rfl)<|Cp [2001,2002] (fun H1 hH=>by exact uD (l:=l) rfl rV (by kernel_rfl) rfl rfl ((hH _ rfl).trans rfl) rfl rfl rfl rfl rfl hpos (by omega) rfl)<|Cr [] (fun _ _=>aP)<|bJ<|Kr<|aC ?_;refine dF (H':=(TB g l u)) (.inr rfl) rfl (aT rfl) (Fin.get' (fun j=>HE (by decide) j)) ?_;exact Qq
theorem aCP (g:Nat) (l:List UInt8) (u:Bool):aG Tryz.prog 172 [.ref 2001 0 0 0] (lU g l u) (fun r H'=>r=iv (l.length:Int)∧H'=lU g l u):=by refine Bd func172 rfl ntmps172<|Sr<|Dd aP<|Zz<|Sr<|Dd aI<|Dd xJ<|Dd (bB eV)<|Dd (bL cN)<|Dd (by exact dS rfl cE rfl rfl rfl)<|Dd aP<|Zz<|aC ?_;refine dF (H':=(lU g l u)) (.inr rfl) rfl (aT rfl) Fin.refl ?_;exact Qq
def ZM (l:List UInt8) (s:ByteArray):List UInt8:=if l=[] then s.data.toList else l++32::s.data.toList
theorem aIc (g:Nat) (l:List UInt8) (u:Bool) (s:ByteArray) (hl:l.length+s.size < 70368744177663):aG Tryz.prog 240 [.ref 2001 0 0 0,sv s] (lU g l u) (fun r H'=>r=.tup []∧H'=lU (if l=[] then g+1 else g+2) (ZM l s) true):=by
 have hB:=OA g l u 32 (by omega);have hL:=aCP g l u;rw [ZM];by_cases h0:l=[]
 ·subst h0;have hS:=xU g [] u s (by omega);rw [aLO rfl,aLO rfl];rw [List.nil_append] at hS;refine Bd func240 rfl ntmps240<|Sq<|Sr<|Dd aI<|Dd xJ<|Dd (bB lL)<|Dd (by exact aB rfl rfl tT rfl (hL))<|Dd mU<|Zz ?_;refine Cn ?_ ?_<;>intro hc1
  ·cases hc1
  refine aE<|Rg<|Dd aI<|Dd xJ<|Dd (bB lL)<|Dd aI<|Dd (by exact aB rfl rfl kV rfl (hS))<|Zz ?_;exact pK (H':=lU (g+1) s.data.toList true) (.inl rfl) rfl Fin.refl ⟨rfl,rfl⟩
 have hpos:0 < l.length:=List.length_pos_iff.2 h0;have hS:=xU (g+1) (l++[32]) true s (by rw [aLQ,List.length_singleton];omega);rw [aLN h0,aLN h0];rw [List.append_assoc] at hS;refine Bd func240 rfl ntmps240<|Sq<|Sr<|Dd aI<|Dd xJ<|Dd (bB lL)<|Dd (by exact aB rfl rfl tT rfl (hL))<|Dd mU<|Zz ?_;refine Cn ?_ ?_<;>intro hc1
 ·refine Rg<|Dd aI<|Dd xJ<|Dd (bB lL)<|Dd (by exact aB rfl rfl jE rfl (hB))<|Zz<|Rg<|Dd aI<|Dd xJ<|Dd (bB lL)<|Dd aI<|Dd (by exact aB rfl rfl kV rfl (hS))<|Zz ?_;exact pK (H':=lU (g+2) (l++32::s.data.toList) true) (.inl rfl) rfl Fin.refl ⟨rfl,rfl⟩
 have:=aLM hc1;omega
theorem aG5 {g:Nat} {l:List UInt8} {u:Bool} {K:aA}:Sub (lU g l u) (lU g l u++K):=by intro j o h;rw [eN,h]
theorem aJP {g g':Nat} {l l':List UInt8} {u u':Bool} {id:Nat} (h:(aA.get (lU g l u) id).isSome=true):(aA.get (lU g' l' u') id).isSome=true:=X1 h
theorem aJV {g g':Nat} {l l':List UInt8} {u u':Bool} {K:aA} (j:Nat):aA.get (lU g l u++(lU g' l' u'++K)) j=aA.get (lU g l u++K) j:=by show aA.get ((2001,_)::(2002,_)::(2001,_)::(2002,_)::K) j=aA.get ((2001,_)::(2002,_)::K) j;exact(C5 (by decide) j).symm
theorem aB9 (K:aA) (g:Nat) (l:List UInt8) (u:Bool) (s:ByteArray) (hl:l.length+s.size < 70368744177663):aG Tryz.prog 240 [.ref 2001 0 0 0,sv s] (lU g l u++K) (fun r H'=>r=.tup []∧H'=lU (if l=[] then g+1 else g+2) (ZM l s) true++K) :=(aG.frame (aIc g l u s hl) aG5 (cY.ofL ⟨(by exact J8 rfl rfl),(by exact dG _ _),trivial⟩) (by simp;rfl) (fun id h=>.inl (aJP h))).congrH fun j=>(aJV j).symm
theorem HA (K:aA) (g:Nat) (l:List UInt8) (u:Bool):aG Tryz.prog 172 [.ref 2001 0 0 0] (lU g l u++K) (fun r H'=>r=iv (l.length:Int)∧H'=lU g l u++K) :=(aG.frame (aCP g l u) aG5 (cY.ofL ⟨(by exact J8 rfl rfl),(by exact dG _ _),trivial⟩) (by simp;rfl) (fun id h=>.inl h)).congrH fun j=>(aJV j).symm
def yP (c:UInt8):Option UInt8:=if c=92 then some 92 else if c=34 then some 34 else if c=110 then some 10 else none
def mZ:List UInt8→Option (List UInt8×Nat)
 | []=>none
 | [c]=>if c=34 then some ([],1)else none
 | c::e::r=>if c=34 then some ([],1)else if c=10 then none else if c=92 then(yP e).bind fun b=>(mZ r).map fun p=>(b::p.1,p.2+2)else(mZ (e::r)).map fun p=>(c::p.1,p.2+1)
def wD (s:ByteArray):ByteArray×Int:=match mZ (s.data.toList.drop 1)with
 | some (d,n)=>(⟨d.toArray⟩,((n+1:Nat):Int))
 | none=>(sNil,0)
theorem HR {r:List UInt8}:mZ (34::r)=some ([],1):=by cases r<;>rfl
theorem Y1 {r:List UInt8}:mZ (10::r)=none:=by cases r<;>rfl
theorem GR {r:List UInt8} {e:UInt8}:mZ (92::e::r)=(yP e).bind fun b=>(mZ r).map fun p=>(b::p.1,p.2+2):=rfl
theorem HS {c:UInt8} {r:List UInt8} (h1:c≠34) (h2:c≠10) (h3:c≠92):mZ (c::r)=(mZ r).map fun p=>(c::p.1,p.2+1):=by
 cases r with
 | nil =>
  show (if c=34 then some ([],1)else none)=_;rw [aLN h1];rfl
 | cons e r=>rw [mZ,aLN h1,aLN h2,aLN h3]
def FM (o:Option (List UInt8×Nat)) (w:List UInt8) (i:Nat):ByteArray×Int:=match o with
 | some (d,n)=>(⟨(w++d).toArray⟩,((i+n:Nat):Int))
 | none=>(sNil,0)
theorem MA {o:Option (List UInt8×Nat)} {w:List UInt8} {b:UInt8} {i k:Nat}:FM (o.map fun p=>(b::p.1,p.2+k)) w i=FM o (w++[b]) (i+k):=by
 cases o with
 | none=>rfl
 | some p=>simp only [FM,Option.map_some,List.append_assoc,List.singleton_append];congr 2;omega
theorem SX {s:ByteArray} {i:Nat} (h:i < s.size):s.data.toList.drop i=BS s i::s.data.toList.drop (i+1):=by
 have hk:i < s.data.toList.length:=by simpa using h
 rw [List.drop_eq_getElem_cons hk,BS,aLU hk];rfl
theorem SW {s:ByteArray} {i:Nat} (h:s.size≤i):s.data.toList.drop i=[]:=List.drop_eq_nil_of_le (by simpa using h)
theorem aAZ {s:ByteArray} {i n:Nat} (hn:n < 256) {b:Bool} (h:decide (dU s i=(n:Int))=b):decide (BS s i=UInt8.ofNat n)=b:=by rw [← h,rP,HU hn]
theorem aBB (c:UInt8):(Lib.indexByte (⟨#[92,34,110]⟩:ByteArray).data.toList ((c.toNat:Int).toNat.toUInt8) = -1∧yP c=none)∨∃ k:Nat,k < 3∧Lib.indexByte (⟨#[92,34,110]⟩:ByteArray).data.toList ((c.toNat:Int).toNat.toUInt8)=(k:Int)∧yP c=some (BS ⟨#[92,34,10]⟩ k):=by
 have h0:((c.toNat:Int).toNat.toUInt8)=c:=by simp
 rw [h0];by_cases h1:c=92
 ·subst h1;exact .inr ⟨0,by decide,by decide,by decide⟩
 by_cases h2:c=34
 ·subst h2;exact .inr ⟨1,by decide,by decide,by decide⟩
 by_cases h3:c=110
 ·subst h3;exact .inr ⟨2,by decide,by decide,by decide⟩
 refine .inl ⟨?_,by rw [yP,aLN h1,aLN h2,aLN h3]⟩;have e1:((92:UInt8) == c)=false:=by simp [Ne.symm h1]
 have e2:((34:UInt8) == c)=false:=by simp [Ne.symm h2]
 have e3:((110:UInt8) == c)=false:=by simp [Ne.symm h3]
 simp only [Lib.indexByte,e1,e2,e3];rfl
theorem T0 (s:ByteArray) (H:aA) (hs:s.size < 1099511627776):aG Tryz.prog 244 [sv s] H (fun r H'=>r=.tup [sv (wD s).1,iv (wD s).2]∧H'=H):=by
 refine Pu ?_;have hG:wD s=FM (mZ (s.data.toList.drop 1)) [] 1:=by
  unfold wD FM;cases mZ (s.data.toList.drop 1)with
  | none=>rfl
  | some p =>
   show ((⟨p.1.toArray⟩:ByteArray),((p.2+1:Nat):Int))=((⟨([]++p.1).toArray⟩:ByteArray),((1+p.2:Nat):Int));rw [List.nil_append,Nat.add_comm]
 obtain ⟨res,hres⟩:∃ res,res=wD s:=⟨_,rfl⟩;rw [← hres] at hG ⊢;refine Bd func244 rfl ntmps244<|Sr<|Dd aP<|Dd aP<|Zz<|Sr<|Dd (by exact bE (id:=2001) rfl D0 rfl rfl)<|Zz<|Sq<|Sq ?_;refine fE.ent (E':=[(0,sv s),(4,.ref 2001 0 0 0)]) (H':=rY 0 [] false) (cC.bld0 ⟨⟨_,rfl,.same (by simp)⟩,⟨_,rfl,.same (by simp;rfl)⟩,trivial⟩) ?_;refine Rg<|Dd aP<|Zz<|aF ?_;refine N0 (fun(i g:Nat) (w:List UInt8) (u:Bool)=>([(0,sv s),(4,.ref 2001 0 0 0),(5,iv (i:Int))],rY g w u)) (fun i g w u=>w.length≤i∧i < 2199023255552∧res=FM (mZ (s.data.toList.drop i)) w i) (fun i g w u=>s.size+1 - i) 1 0 [] false ⟨aL6 _,by decide,hG⟩ ?_ ?_
 ·exact(cC.wk (Eb<|Ea<|Eb<|trivial) (Hc (eQ rfl rfl)<|Hc (dG _ _)<|trivial) trivial)
 rintro i g w u ⟨hwl,hib,hinv⟩;refine Sq<|Sr<|Dd aI<|Dd aI<|Dd (nV underlying9)<|Dd dI<|Zz ?_;refine Cn ?_ ?_<;>intro hc1
 ·have hlt:i < s.size:=by have:=aLL hc1;omega
  have hd:=SX hlt;refine aE<|Sq<|aF<|Sr<|Dd aI<|Dd aI<|Dd (by exact eH rfl underlying9 rfl rfl (by omega) (by exact aL0 _) (by omega) rfl)<|Dd aP<|Zz<|Sr<|Dd aI<|Zz<|aF<|Sr<|Dd dC<|Da ?_;refine Cn ?_ ?_<;>intro hc2
  ·have hb:BS s i=34:=aLL (aAZ (n:=34) (by decide) hc2);have hr:res=(⟨w.toArray⟩,((i+1:Nat):Int)):=by rw [hinv,hd,hb,HR,FM,List.append_nil]
   rw [hr];exact Sr<|Dd (by exact aB rfl rfl kU rfl (MH g w u (by omega)))<|Dd aI<|Dd pL<|Dd aP<|Dd aP<|Zz<|aC<|Ru<|Qq
  have hb34:BS s i≠34:=aLM (aAZ (n:=34) (by decide) hc2);refine Sr<|Dd dC<|Da ?_;refine Cn ?_ ?_<;>intro hc3
  ·have hb:BS s i=10:=aLL (aAZ (n:=10) (by decide) hc3);have hr:res=(sNil,0):=by rw [hinv,hd,hb,Y1,FM]
   rw [hr];exact Sr<|Dd aP<|Dd aP<|Zz<|aC<|Ru<|Qq
  have hb10:BS s i≠10:=aLM (aAZ (n:=10) (by decide) hc3);refine Sr<|Dd dC<|Da ?_;refine Cn ?_ ?_<;>intro hc4
  ·have hb:BS s i=92:=aLL (aAZ (n:=92) (by decide) hc4);refine Sr<|Dd aI<|Dd pL<|Dd aP<|Zz<|Sr<|Dd aP<|Zz<|Sq<|Sr<|Dd aI<|Dd aI<|Dd (nV underlying9)<|Dd dI<|Zz ?_;refine Cn ?_ ?_<;>intro hc5
   ·have hlt2:i+1 < s.size:=by have:=aLL hc5;omega
    have hd2:=SX hlt2;rcases aBB (BS s (i+1))with⟨x1,x2⟩|⟨q,hq,x1,x2⟩
    ·have hr:res=(sNil,0):=by rw [hinv,hd,hb,hd2,GR,x2];rfl
     have hneg:Lib.indexByte (⟨#[92,34,110]⟩:ByteArray).data.toList (dU s (i+1)).toNat.toUInt8 = -1:=x1;rw [hr];refine Rg<|Dd aI<|Dd aI<|Dd (by exact eH rfl underlying9 rfl rfl (by omega) (by exact aL0 _) (by omega) rfl)<|Dd (by exact aB rfl rfl tU rfl (mT _ _ _))<|Dd aP<|Zz<|Sq<|Sr<|Dd aI<|Dd dI<|Zz ?_;refine Cn ?_ ?_<;>intro hc6
     ·exact Sr<|Dd aP<|Dd aP<|Zz<|aC<|Ru<|Qq
     exact absurd (aLM hc6) (by rw [hneg];decide)
    have hpos:Lib.indexByte (⟨#[92,34,110]⟩:ByteArray).data.toList (dU s (i+1)).toNat.toUInt8=(q:Int):=x1;have hq3:q < (⟨#[92,34,10]⟩:ByteArray).size:=hq;refine Rg<|Dd aI<|Dd aI<|Dd (by exact eH rfl underlying9 rfl rfl (by omega) (by exact aL0 _) (by omega) rfl)<|Dd (by exact aB rfl rfl tU rfl (mT _ _ _))<|Dd aP<|Zz<|Sq<|Sr<|Dd aI<|Dd dI<|Zz ?_;refine Cn ?_ ?_<;>intro hc7
    ·exact absurd (aLL hc7) (by rw [hpos];omega)
    refine aE<|Rg<|Dd aI<|Dd (by exact eH rfl underlying9 rfl rfl (by rw [hpos];omega) (by rw [hpos];exact aL0 _) hq3 rfl)<|Dd (by exact aB rfl rfl jE rfl (gH g w u (BS ⟨#[92,34,10]⟩ q) (by omega)))<|Zz<|Rg<|Dd aI<|Dd pL<|Da ?_;refine⟨i+1+1,g+1,w++[BS ⟨#[92,34,10]⟩ q],true,⟨by rw [aLQ,List.length_singleton];omega,by omega,?_⟩,by omega,(cC.wk (Eb<|Ea<|Eb<|trivial) (Hc (eQ rfl rfl)<|Hc (dG _ _)<|trivial) trivial)⟩;rw [hinv,hd,hb,hd2,GR,x2];exact MA
   have hge:s.size≤i+1:=by have:=aLM hc5;omega
   have hr:res=(sNil,0):=by rw [hinv,hd,hb,SW hge];rfl
   rw [hr];refine aE<|Sq<|Sr<|Dd aI<|Dd dI<|Zz ?_;refine Cn ?_ ?_<;>intro hc8
   ·exact Sr<|Dd aP<|Dd aP<|Zz<|aC<|Ru<|Qq
   cases hc8
  have hb92:BS s i≠92:=aLM (aAZ (n:=92) (by decide) hc4);refine Rg<|Dd aI<|Dd (by exact aB rfl rfl jE rfl (gH g w u (BS s i) (by omega)))<|Zz<|Rg<|Dd aI<|Dd pL<|Da ?_;refine⟨i+1,g+1,w++[BS s i],true,⟨by rw [aLQ,List.length_singleton];omega,by omega,?_⟩,by omega,(cC.wk (Eb<|Ea<|Eb<|trivial) (Hc (eQ rfl rfl)<|Hc (dG _ _)<|trivial) trivial)⟩;rw [hinv,hd,HS hb34 hb10 hb92,MA]
 have hge:s.size≤i:=by have:=aLM hc1;omega
 have hr:res=(sNil,0):=by rw [hinv,SW hge];rfl
 rw [hr];exact bG<|Sr<|Dd aP<|Dd aP<|Zz<|aC<|Ru<|Qq
def qM (s:ByteArray) (i:Nat):Int:=if i < s.size then DG (dU s i)else 0
def tS (s:ByteArray):Ob:=bx 1 9 [sv s]
def tC:Ob:=bx 256 160 pV
def tA:Ob:=bx 1 250 [.clo 242 [.ref 921 0 0 0,.ref 923 0 0 0]]
theorem aHi (s:ByteArray) (i:Nat) (H:aA) (h1:H.get 921=some (tS s)) (h2:H.get 923=some tC) (hi:i < 4611686018427387904) (hs:s.size < 4611686018427387904) :
  aG Tryz.prog 242 [iv (i:Int),.ref 921 0 0 0,.ref 923 0 0 0] H (fun r H'=>r=.pv (.int .u8 (qM s i))∧H'=H):=by
 refine Bd func242 rfl ntmps242<|Sr<|Dd aP<|Zz<|Sq<|Sr<|Dd aI<|Dd (by exact aK rfl isAgg9 rfl h1 rfl rfl rfl)<|Dd (nV underlying9)<|Dd JS<|Zz ?_;refine Cn ?_ ?_<;>intro hc1
 ·have e:qM s i=0:=by rw [qM,aLN (by have:=aLL hc1;omega)]
  rw [e];refine Sr<|Dd aP<|Zz<|aC ?_;refine dF (H':=H) (.inr rfl) rfl (aT rfl) Fin.refl ?_;exact Qq
 have hlt:i < s.size:=by have:=aLM hc1;omega
 have e:qM s i=DG (dU s i):=by rw [qM,aLO hlt]
 rw [e];refine aE<|Sr<|Dd (by exact aK rfl isAgg9 rfl h1 rfl rfl rfl)<|Dd aI<|Dd (by exact eH rfl underlying9 rfl rfl (by omega) (by exact aL0 _) (by omega) rfl)<|Dd (by exact cZ (m:=(dU s i).toNat) (k2:=(dU s i).toNat) rfl eF bS rfl h2 rfl rfl (E9 s i) rfl (FA s i) (by omega))<|Dd (by exact aK rfl xM rfl h2 rfl rfl (aGH s i))<|Dd aP<|Zz<|aC ?_;refine dF (H':=H) (.inr rfl) rfl (aT rfl) Fin.refl ?_;exact Qq
theorem Q0 (s:ByteArray) (H:aA) (h1:H.get 921=none) (h2:H.get 923=none) (h3:H.get 924=none) (hc:cY H) :
  aG Tryz.prog 204 [sv s] H (fun r H'=>r=.clo 243 [.ref 921 0 0 0,.ref 924 0 0 0]∧H'=(924,tA)::(923,tC)::(921,tS s)::H):=by
 have h2':aA.get ((921,tS s)::H) 923=none:=h2;refine Bd func204 rfl ntmps204<|Sr<|Dd (by exact bZ (id:=921) rfl rfl rfl rfl h1)<|Dd aP<|Zz<|Sr<|Dd (by exact aB rfl rfl call127 rfl (NV _))<|Dd (by exact bE (id:=923) rfl WR rfl h2)<|Uu (by exact bQ rfl tO rfl rfl rfl rfl rfl rfl rfl (by simp))<|Zz<|Sr<|Dd (by exact eY rfl rfl)<|Dd (by exact bE (id:=924) rfl aIJ rfl h3)<|Uu (jK sizeOf250)<|Zz<|Sr<|Dd (by exact eY rfl rfl)<|Dd aP<|Zz<|aC ?_;refine dF (H':=((924,tA)::(923,tC)::(921,tS s)::H)) (.inr rfl) rfl (aT rfl) (Fin.get' (fun j=>by simp only [aA.get];cases Nat.beq 924 j<;>cases Nat.beq 923 j<;>rfl)) ?_;exact Qq
def sB (p:Nat→Bool):Nat→Nat→Nat
 | 0,i=>i
 | n+1,i=>if p i then sB p n (i+1)else i
theorem CE (p:Nat→Bool):∀ (n i:Nat),i≤sB p n i∧sB p n i≤i+n
 | 0,i=>⟨aLV _,aLV _⟩
 | n+1,i=>by
  rw [sB]
  split
  ·have:=CE p n (i+1);omega
  omega
theorem CG (p:Nat→Bool):∀ (n i:Nat),∀ j,i≤j→j < sB p n i→p j=true
 | 0,i,j,h1,h2=>by rw [sB] at h2;omega
 | n+1,i,j,h1,h2=>by
  rw [sB] at h2
  split at h2
  ·by_cases e:j=i
   ·subst e;assumption
   exact CG p n (i+1) j (by omega) h2
  omega
theorem uA (p:Nat→Bool):∀ (n i:Nat),sB p n i < i+n→p (sB p n i)=false
 | 0,i,h=>by rw [sB] at h;omega
 | n+1,i,h=>by
  rw [sB] at h ⊢
  split at h
  ·rename_i hp;rw [aLO hp];exact uA p n (i+1) (by omega)
  rename_i hp;rw [aLN hp];exact Bool.not_eq_true _▸hp
theorem CF (p:Nat→Bool) {n i j:Nat} (h1:i≤j) (h2:j≤i+n) (h3:∀ k,i≤k→k < j→p k=true) (h4:p j=false∨j=i+n):sB p n i=j:=by
 obtain ⟨l1,l2⟩:=CE p n i;rcases Nat.lt_trichotomy (sB p n i) j with h|h|h
 ·have:=uA p n i (by omega);rw [h3 _ l1 h] at this;cases this
 ·exact h
 have:=CG p n i j h1 h;rcases h4 with h4|h4
 ·rw [h4] at this;cases this
 omega
def IS (s:ByteArray) (j:Nat):Bool:=decide (j < s.size)&&!decide (dU s j=10)
def yE (s:ByteArray) (j:Nat):Bool:=decide (qM s j=3)||decide (qM s j=4)||decide (qM s j=5)
def ZR (s:ByteArray) (j:Nat):Bool:=decide (qM s j=4)
def PI (s:ByteArray) (i:Nat):Nat:=sB (IS s) (s.size - i) i
def GP (s:ByteArray) (i:Nat):Nat:=sB (yE s) (s.size - i) i
def PZ (s:ByteArray) (i:Nat):Nat:=sB (ZR s) (s.size - i) i
structure GFound where
 kind:Int
 text:ByteArray
 pos:Nat
 err:Int
def DB (f:GFound):List PV:=[.int .i64 f.kind,.str f.text,.int .i64 f.pos,.int .i64 f.err]
def rD (i:Nat):GFound:=⟨0,sNil,i,3⟩
def BH (s:ByteArray) (i j:Nat):GFound:=⟨1,s.extract i j,i,if 24 < j - i then 2 else 0⟩
def JU (s:ByteArray) (i j:Nat):GFound:=⟨2,s.extract i j,i,if decide (7 < j - i)||decide (qM s j=3)||decide (qM s j=5)then 4 else 0⟩
def LN (s:ByteArray) (i:Nat):GFound×Nat:=if 0 < (wD (s.extract i s.size)).2 then(⟨3,(wD (s.extract i s.size)).1,i,0⟩,i+(wD (s.extract i s.size)).2.toNat)else(rD i,i)
def gS (s:ByteArray) (i:Nat):Option GFound×Nat :=if qM s i=1 then(none,i+1)else if qM s i=2 then(none,PI s i)else if qM s i=3 then(some (BH s i (GP s i)),GP s i)
 else if qM s i=4 then(some (JU s i (PZ s i)),PZ s i)else if qM s i=7 then(some (LN s i).1,(LN s i).2)
 else if qM s i=6 then(some ⟨4,s.extract i (i+1),i,0⟩,i+1)else(some (rD i),i)
def lF (s:ByteArray):Nat→Nat→List GFound
 | 0,_=>[]
 | n+1,i=>if i < s.size then(match gS s i with
  | (none,j)=>lF s n j
  | (some f,j)=>f::(if f.err=0 then lF s n j else[]))else[]
theorem HT:∀ (l:List UInt8) (p:List UInt8×Nat),mZ l=some p→p.2≤l.length
 | [],p,h=>by cases h
 | [c],p,h=>by
  rw [mZ] at h
  split at h
  ·cases h;exact aLV _
  cases h
 | c :: e :: r, p, h => by
  rw [mZ] at h
  split at h
  ·cases h;exact Nat.le_add_left _ _
  split at h
  ·cases h
  split at h
  ·cases hg:yP e with
   | none=>rw [hg] at h;cases h
   | some b =>
    rw [hg] at h;cases hu:mZ r with
    | none=>rw [hu] at h;cases h
    | some q =>
     rw [hu] at h;cases h;have:=HT r q hu;show q.2+2≤r.length+1+1;omega
  cases hu:mZ (e::r)with
  | none=>rw [hu] at h;cases h
  | some q =>
   rw [hu] at h;cases h;have:=HT (e::r) q hu;show q.2+1≤r.length+1+1;rw [aLR] at this;omega
theorem SH (s:ByteArray):0≤(wD s).2∧(wD s).2≤s.size:=by
 have hl:s.data.toList.length=s.size:=by simp
 unfold wD;cases hu:mZ (s.data.toList.drop 1)with
 | none=>exact⟨Int.le_refl _,Int.natCast_nonneg _⟩
 | some p =>
  have:=HT _ p hu;rw [aL4,hl] at this;refine⟨Int.natCast_nonneg _,?_⟩;show ((p.2+1:Nat):Int)≤_;have h0:0 < s.size:=by
   cases h0:s.data.toList with
   | nil=>rw [h0] at hu;cases hu
   | cons a l=>rw [h0] at hl;rw [← hl];exact Nat.succ_pos _
  omega
theorem N2 (s:ByteArray) (i:Nat) (h:qM s i≠0):i < s.size:=by
 by_cases e:i < s.size
 ·exact e
 exact absurd (aLN e) h
def tF (f:GFound):Ob:=bx 4 223 ((DB f).map .pv)
theorem sV (H:aA) (f:GFound):∀ r∈(tF f).rows,∀ a∈r,Clo H a:=by intro r hr a ha;simp only [tF,bx,aLS] at hr;subst hr;obtain ⟨p,_,rfl⟩:=List.mem_map.1 ha;simp
theorem SD {α:Type} {l m:List α} {k:Nat} {d:α} (h:l.drop k=d::m):l[k]?=some d∧l.drop (k+1)=m:=by
 refine⟨?_,?_⟩
 ·have:=congrArg (·[0]?) h
  simpa using this
 rw [← List.drop_drop,h];rfl
theorem aDx {s:ByteArray} {i j:Nat} {f:GFound} (h:gS s i=(some f,j)) (he:f.err=0) (hi:i < s.size):i < j∧j≤s.size:=by
 have hfirst:∀ (p:Nat→Bool),p i=true→i < sB p (s.size - i) i∧sB p (s.size - i) i≤s.size:=fun p hp=>by
  obtain ⟨l1,l2⟩:=CE p (s.size - i) i;refine⟨?_,by omega⟩;rcases Nat.lt_or_ge i (sB p (s.size - i) i)with h|h
  ·exact h
  have h3:=uA p (s.size - i) i (by omega);rw [show sB p (s.size - i) i=i by omega,hp] at h3;cases h3
 unfold gS at h
 split at h
 ·cases h
 split at h
 ·cases h
 split at h
 ·rename_i e3;cases h;exact hfirst _ (by rw [yE,e3];rfl)
 split at h
 ·rename_i e4;cases h;exact hfirst _ (by rw [ZR,e4];rfl)
 split at h
 ·have hul:=SH (s.extract i s.size);have hexs:(s.extract i s.size).size≤s.size - i:=by rw [ByteArray.size_extract];omega
  unfold LN at h
  split at h
  ·rename_i hpos;cases h;show i < i+(wD (s.extract i s.size)).2.toNat∧i+(wD (s.extract i s.size)).2.toNat≤s.size;omega
  cases h;cases he
 split at h
 ·cases h;exact⟨Nat.lt_succ_self _,hi⟩
 cases h;cases he
theorem ltD {i n:Nat} (h:decide ((i:Int) < (n:Int))=true):i < n:=by have:=aLL h;omega
theorem D4 (s:ByteArray) (fv:AV) (Hs:Nat→aA) (cont:Nat→Bool) (m:Nat) (hs:s.size < 1099511627776) (h1:∀ k,(Hs k).get 921=some (tS s)) (h2:∀ k,(Hs k).get 923=some tC) (h3:∀ k,(Hs k).get 924=some tA) (h6:∀ k,(Hs k).get 926=none) (hcl:∀ k,cY (Hs k)) (hf:∀ k,Clo (Hs k) fv)
  (hm:m≤(lF s (s.size+1) 0).length) (hall:∀ k,k+1 < m→cont k=true) (hend:m=(lF s (s.size+1) 0).length∨(0 < m∧cont (m - 1)=false))
  (hy:∀ k d,(lF s (s.size+1) 0)[k]?=some d→k < m→cB Tryz.prog fv [.agg ((DB d).map .pv)] ((926,tF d)::Hs k) (fun r H'=>r=bv (cont k)∧H'=(926,tF d)::Hs (k+1))) :
  aG Tryz.prog 243 [fv,.ref 921 0 0 0,.ref 924 0 0 0] (Hs 0) (fun r H'=>r=.tup []∧H'=Hs m):=by
 obtain ⟨ds,hds⟩:∃ ds,ds=lF s (s.size+1) 0:=⟨_,rfl⟩;rw [← hds] at hy hm hend;have hat:∀ (k i:Nat) (f:GFound),i≤s.size+1→cB Tryz.prog (.clo 242 [.ref 921 0 0 0,.ref 923 0 0 0]) [iv (i:Int)] ((926,tF f)::Hs k) (fun r H'=>r=.pv (.int .u8 (qM s i))∧H'=(926,tF f)::Hs k):=fun k i f hi =>
  cB.clo call242 (aHi s i ((926,tF f)::Hs k) (h1 k) (h2 k) (by omega) (by omega))
 have hfree:∀ (G0:aA) (k i:Nat) (E:bN) (o:Ob),G0=Hs 0→E.get 0=some fv→E.get 1=some (.ref 921 0 0 0)→E.get 2=some (.ref 924 0 0 0)→E.get 4=some (iv (i:Int)) →
   cC G0 E ((926,o)::Hs k) [(0,fv),(1,.ref 921 0 0 0),(2,.ref 924 0 0 0),(4,iv (i:Int))] (Hs k):=fun G0 k i E o hG q0 q1 q2 q4=>by
  subst hG;exact cC.front (K:=Hs k) [(926,o)] [] ⟨⟨_,q0,rfl⟩,hf k,⟨_,q1,rfl⟩,(by rw [oU];show ((Hs k).get 921).isSome=true;rw [h1];rfl),⟨_,q2,rfl⟩,(by rw [oU];show ((Hs k).get 924).isSome=true;rw [h3];rfl),⟨_,q4,rfl⟩,(by simp),trivial⟩ (by simp [h6]) (by simp) (by simp) (hcl k) (by simp [h6])
 refine Bd func243 rfl ntmps243<|aA2<|Sr<|Dd aP<|Zz<|Sq<|aA3<|aF ?_;refine jB (fun(i k:Nat)=>([(0,fv),(1,.ref 921 0 0 0),(2,.ref 924 0 0 0),(4,iv (i:Int))],Hs k)) (fun i k=>i≤s.size∧k≤m∧(k=0∨cont (k - 1)=true)∧∃ n,s.size - i < n∧ds.drop k=lF s n i) (fun i k=>s.size - i) 0 0 ⟨aL6 _,aL6 _,.inl rfl,s.size+1,Nat.lt_succ_self _,by rw [List.drop_zero,hds]⟩ ?_ ?_
 ·exact E0
 rintro i k ⟨hi,hkm,hkc,n,hn,hinv⟩;refine Sq<|Sr<|Dd aI<|Dd (by exact aK rfl isAgg9 rfl (h1 k) rfl rfl rfl)<|Dd (nV underlying9)<|Dd dI<|Zz ?_;refine Cn ?_ ?_<;>intro hc1
 ·have hlt:i < s.size:=by have:=aLL hc1;omega
  obtain ⟨n,rfl⟩:∃ n',n=n'+1:=⟨n - 1,by omega⟩;rw [lF,aLO hlt] at hinv;refine aE<|aF<|Sr<|Dd aI<|Dd aP<|Zz<|Sr<|Dd aI<|Dd (uS aGL)<|Dd (uS aJ8)<|Dd (by exact bE (id:=926) rfl aAr rfl (h6 k))<|Uu (jK B1)<|Zz ?_;refine BT (fun(a:GFound×Nat)=>([(0,fv),(1,.ref 921 0 0 0),(2,.ref 924 0 0 0),(4,iv (a.2:Int)),(6,.ref 926 0 0 0)],(926,tF a.1)::Hs k)) (fun a=>gS s i=(some a.1,a.2)) ?_ ?_
  ·refine Sq ?_;refine fE.ent (E':=[(0,fv),(1,.ref 921 0 0 0),(2,.ref 924 0 0 0),(4,iv (i:Int)),(5,iv (i:Int)),(6,.ref 926 0 0 0)]) (H':=(926,tF (rD i))::Hs k) (cC.get' ⟨⟨_,rfl,rfl⟩,⟨_,rfl,rfl⟩,⟨_,rfl,rfl⟩,⟨_,rfl,rfl⟩,⟨_,rfl,rfl⟩,⟨_,rfl,rfl⟩,trivial⟩ (fun j=>sQ 926 (tF (rD i)) _ (Hs k) j)) ?_;refine Rg<|Dd (by exact aK rfl FH rfl (h3 k) rfl rfl rfl)<|Dd aI<|Dd (by exact bY rfl rfl rfl (hat k i (rD i) (by omega)))<|Zz<|aF<|Sr<|Dd dC<|Da ?_;refine Cn ?_ ?_<;>intro hc2
   ·have e1:qM s i=1:=aLL hc2;have hst:gS s i=(none,i+1):=by rw [gS,aLO e1]
    rw [hst] at hinv;refine Sr<|Dd aI<|Dd pL<|Dd aP<|Zz<|bG ?_;exact⟨i+1,k,⟨by omega,hkm,hkc,n,by omega,hinv⟩,by omega,hfree _ _ _ _ _ rfl rfl rfl rfl rfl⟩
   have n1:qM s i≠1:=aLM hc2;refine Sr<|Dd dC<|Da ?_;refine Cn ?_ ?_<;>intro hc3
   ·have e2:qM s i=2:=aLL hc3;have hst:gS s i=(none,PI s i):=by rw [gS,aLN n1,aLO e2]
    rw [hst] at hinv;refine Sq<|aF ?_;refine bR (σ:=Nat) (fun j=>([(0,fv),(1,.ref 921 0 0 0),(2,.ref 924 0 0 0),(4,iv (j:Int))],(926,tF (rD i))::Hs k)) (fun j=>i≤j∧j≤s.size∧∀ q,i≤q→q < j→IS s q=true) (fun j=>s.size - j) i ⟨aLV _,hi,fun q h1 h2=>by omega⟩ ?_ ?_
    ·exact E0
    rintro j ⟨hij,hj,hpre⟩;refine Sq<|Sq ?_;refine bC (t:=37) (n:=11) (X:=IS s j) ?_ ?_
    ·all_goals refine Dd aI ?_
     all_goals refine Dd (by exact aK rfl isAgg9 rfl (h1 k) rfl rfl rfl)<|Dd (nV underlying9)<|Dd dI<|Dm ?_
     all_goals refine Sp 32 (fun h32=>?_) fun h32=>?_
     all_goals try contradiction
     all_goals first|refine Fo<|Fo<|Fo<|Fo ?_|refine On (by exact aK rfl isAgg9 rfl (h1 k) rfl rfl rfl)<|On aI<|On (by exact eH rfl underlying9 rfl rfl (by omega) (by exact aL0 _) (ltD h32) rfl)<|On yM ?_
     all_goals refine Dd cL<|Zz ?_
     all_goals(exact⟨⟨_,rfl,by first|(simp_all [IS];done)|(simp_all [IS];omega)⟩,rfl,rfl,rfl⟩)
    refine Cn ?_ ?_<;>intro hc4
    ·have hjs:j < s.size:=by
      have h:=hc4;rw [IS,aLY,aLW] at h;exact h.1
     refine aE<|aF<|Rg<|Dd aI<|Dd pL<|Da ?_;exact⟨j+1,⟨by omega,by omega,fun q q1 q2=>by
      by_cases e:q=j
      ·subst e;exact hc4
      exact hpre q q1 (by omega)⟩,by omega,E0⟩
    have hle:PI s i=j:=CF _ hij (by omega) hpre (.inl hc4);have hgt:i < j:=by
     rcases Nat.lt_or_ge i j with h|h
     ·exact h
     have hji:j=i:=by omega
     subst hji;rw [IS,decide_eq_true hlt,Bool.true_and,Bool.not_eq_false',aLW] at hc4;rw [qM,aLO hlt,hc4] at e2;exact absurd e2 (by decide)
    rw [hle] at hinv;refine bG<|bG ?_;exact⟨j,k,⟨hj,hkm,hkc,n,by omega,hinv⟩,by omega,hfree _ _ _ _ _ rfl rfl rfl rfl rfl⟩
   have n2:qM s i≠2:=aLM hc3;refine Sr<|Dd dC<|Da ?_;refine Cn ?_ ?_<;>intro hc5
   ·have e3:qM s i=3:=aLL hc5;refine Sq<|Sr<|Dd (by exact aK rfl FH rfl (h3 k) rfl rfl rfl)<|Dd aI<|Dd (by exact bY rfl rfl rfl (hat k i (rD i) (by omega)))<|Dd aP<|Zz<|aF ?_;refine bR (σ:=Nat) (fun j=>([(0,fv),(1,.ref 921 0 0 0),(2,.ref 924 0 0 0),(4,iv (j:Int)),(5,iv (i:Int)),(6,.ref 926 0 0 0),(7,.pv (.int .u8 (qM s j)))],(926,tF (rD i))::Hs k)) (fun j=>i≤j∧j≤s.size∧∀ q,i≤q→q < j→yE s q=true) (fun j=>s.size - j) i ⟨aLV _,hi,fun q h1 h2=>by omega⟩ ?_ ?_
    ·exact E0
    rintro j ⟨hij,hj,hpre⟩;refine Sq<|Sq ?_;refine bC (t:=54) (n:=12) (X:=yE s j) ?_ ?_
    ·all_goals refine Dd aI ?_
     all_goals refine Dd dC<|Dm ?_
     all_goals refine Sp 47 (fun h47=>?_) fun h47=>?_
     all_goals try contradiction
     all_goals first|refine Fo<|Fo ?_|refine On aI<|On dC ?_
     all_goals refine Dd cL<|Dm ?_
     all_goals refine Sp 51 (fun h51=>?_) fun h51=>?_
     all_goals try contradiction
     all_goals first|refine Fo<|Fo ?_|refine On aI<|On dC ?_
     all_goals refine Dd cL<|Zz ?_
     all_goals(exact⟨⟨_,rfl,by(simp only [yE, *];rfl)⟩,rfl,rfl,rfl⟩)
    refine Cn ?_ ?_<;>intro hc6
    ·have hjs:j < s.size:=N2 s j (fun e=>by rw [yE,e] at hc6;cases hc6);refine aE<|Sq<|aF<|Rg<|Dd aI<|Dd pL<|Dd aP<|Zz<|Rg<|Dd (by exact aK rfl FH rfl (h3 k) rfl rfl rfl)<|Dd aI<|Dd (by exact bY rfl rfl rfl (hat k (j+1) (rD i) (by omega)))<|Da ?_;exact⟨j+1,⟨by omega,by omega,fun q q1 q2=>by
      by_cases e:q=j
      ·subst e;exact hc6
      exact hpre q q1 (by omega)⟩,by omega,E0⟩
    have hle:GP s i=j:=CF _ hij (by omega) hpre (.inl hc6);have hst:gS s i=(some (BH s i j),j):=by rw [gS,aLN n1,aLN n2,aLO e3,hle]
    refine bG<|Sq<|aQ follows<|Cr [921] (fun H1 hH=>by exact aK rfl isAgg9 rfl ((hH _ rfl).trans (h1 k)) rfl rfl rfl)<|Cr [] (fun _ _=>aI)<|Cr [] (fun _ _=>aI)<|Cr [] (fun H1 hH=>by exact cJ (l:=i) (h:=j) rfl underlying9 rfl rfl rfl (by omega) (by omega) rfl)<|Cr [926] (fun _ h=>fh kO h)<|Cr [926] (fun _ h=>fh C9 h)<|Cp [926] (fun H1 hH=>by exact aZ rfl sizeOf3 rfl rfl rfl ((hH _ rfl).trans rfl) rfl rfl (aL2 rfl) rfl rfl)<|Cr [926] (fun _ h=>fh kO h)<|Cr [926] (fun _ h=>fh jU h)<|Cp [926] (fun H1 hH=>by exact aZ rfl sizeOf9 rfl rfl rfl ((hH _ rfl).trans rfl) rfl rfl (aL2 rfl) rfl rfl)<|Cr [926] (fun _ h=>fh nO h)<|Cp [926] (fun H1 hH=>by exact aZ rfl sizeOf41 rfl rfl rfl ((hH _ rfl).trans rfl) rfl rfl (aL2 rfl) rfl rfl) ?_;refine bJ<|Kr<|Sr<|Dd aI<|Dd aI<|Dd (by exact eB rfl rfl rfl (show IntKind.i64.wrap ((j:Int) - (i:Int))=((j - i:Nat):Int)by rw [IntKind.wrap_i64];omega))<|Dd mU<|Zz ?_;refine Cn ?_ ?_<;>intro hc7
    ·have hE:BH s i j=⟨1,s.extract i j,i,2⟩:=by rw [BH,aLO (by have:=aLL hc7;omega)]
     rw [hE] at hst;refine Rg<|Dd (bB nO)<|Uu (by exact aZ rfl sizeOf41 rfl rfl rfl rfl rfl rfl (aL2 rfl) rfl rfl)<|Zz ?_;exact⟨(⟨1,s.extract i j,i,2⟩,j),hst,cC.get' ⟨⟨_,rfl,rfl⟩,⟨_,rfl,rfl⟩,⟨_,rfl,rfl⟩,⟨_,rfl,rfl⟩,⟨_,rfl,rfl⟩,trivial⟩ (fun q=>uR [_,_,_,_] (by simp) q)⟩
    have hE:BH s i j=⟨1,s.extract i j,i,0⟩:=by rw [BH,aLN (by have:=aLM hc7;omega)]
    rw [hE] at hst;refine aE ?_;exact⟨(⟨1,s.extract i j,i,0⟩,j),hst,cC.get' ⟨⟨_,rfl,rfl⟩,⟨_,rfl,rfl⟩,⟨_,rfl,rfl⟩,⟨_,rfl,rfl⟩,⟨_,rfl,rfl⟩,trivial⟩ (fun q=>uR [_,_,_] (by simp) q)⟩
   have n3:qM s i≠3:=aLM hc5;refine Sr<|Dd dC<|Da ?_;refine Cn ?_ ?_<;>intro hc8
   ·have e4:qM s i=4:=aLL hc8;refine Sq<|aF ?_;refine bR (σ:=Nat) (fun j=>([(0,fv),(1,.ref 921 0 0 0),(2,.ref 924 0 0 0),(4,iv (j:Int)),(5,iv (i:Int)),(6,.ref 926 0 0 0)],(926,tF (rD i))::Hs k)) (fun j=>i≤j∧j≤s.size∧∀ q,i≤q→q < j→ZR s q=true) (fun j=>s.size - j) i ⟨aLV _,hi,fun q h1 h2=>by omega⟩ ?_ ?_
    ·exact E0
    rintro j ⟨hij,hj,hpre⟩;refine Sq<|Sr<|Dd (by exact aK rfl FH rfl (h3 k) rfl rfl rfl)<|Dd aI<|Dd (by exact bY rfl rfl rfl (hat k j (rD i) (by omega)))<|Dd dC<|Zz ?_;refine Cn ?_ ?_<;>intro hc9
    ·have hjs:j < s.size:=N2 s j (fun e=>by rw [e] at hc9;cases hc9);refine aE<|aF<|Rg<|Dd aI<|Dd pL<|Da ?_;exact⟨j+1,⟨by omega,by omega,fun q q1 q2=>by
      by_cases e:q=j
      ·subst e;exact hc9
      exact hpre q q1 (by omega)⟩,by omega,E0⟩
    have hle:PZ s i=j:=CF _ hij (by omega) hpre (.inl hc9);have hst:gS s i=(some (JU s i j),j):=by rw [gS,aLN n1,aLN n2,aLN n3,aLO e4,hle]
    refine bG<|Sq<|aQ follows<|Cr [921] (fun H1 hH=>by exact aK rfl isAgg9 rfl ((hH _ rfl).trans (h1 k)) rfl rfl rfl)<|Cr [] (fun _ _=>aI)<|Cr [] (fun _ _=>aI)<|Cr [] (fun H1 hH=>by exact cJ (l:=i) (h:=j) rfl underlying9 rfl rfl rfl (by omega) (by omega) rfl)<|Cr [926] (fun _ h=>fh kO h)<|Cr [926] (fun _ h=>fh C9 h)<|Cp [926] (fun H1 hH=>by exact aZ rfl sizeOf3 rfl rfl rfl ((hH _ rfl).trans rfl) rfl rfl (aL2 rfl) rfl rfl)<|Cr [926] (fun _ h=>fh kO h)<|Cr [926] (fun _ h=>fh jU h)<|Cp [926] (fun H1 hH=>by exact aZ rfl sizeOf9 rfl rfl rfl ((hH _ rfl).trans rfl) rfl rfl (aL2 rfl) rfl rfl)<|Cr [926] (fun _ h=>fh nO h)<|Cp [926] (fun H1 hH=>by exact aZ rfl sizeOf41 rfl rfl rfl ((hH _ rfl).trans rfl) rfl rfl (aL2 rfl) rfl rfl) ?_;refine bJ<|Kr<|Sq ?_;refine fE.ent (E':=[(0,fv),(1,.ref 921 0 0 0),(2,.ref 924 0 0 0),(4,iv (j:Int)),(5,iv (i:Int)),(6,.ref 926 0 0 0)]) (H':=(926,tF ⟨2,s.extract i j,i,0⟩)::Hs k) (cC.get' ⟨⟨_,rfl,rfl⟩,⟨_,rfl,rfl⟩,⟨_,rfl,rfl⟩,⟨_,rfl,rfl⟩,⟨_,rfl,rfl⟩,⟨_,rfl,rfl⟩,trivial⟩ (fun q=>uR [_,_,_] (by simp) q)) ?_;have h7:decide (7 < ((j - i:Nat):Int))=decide (7 < j - i):=by rw [Bool.eq_iff_iff,aLW,aLW];omega
    refine Rg<|Dd (by exact aK rfl FH rfl (h3 k) rfl rfl rfl)<|Dd aI<|Dd (by exact bY rfl rfl rfl (hat k j ⟨2,s.extract i j,i,0⟩ (by omega)))<|Dd aP<|Zz<|Sq ?_;refine bC (t:=105) (n:=14) (X:=decide (7 < ((j - i:Nat):Int))||decide (qM s j=3)||decide (qM s j=5)) ?_ ?_
    ·all_goals refine Dd aI ?_
     all_goals refine Dd aI<|Dd (by exact eB rfl rfl rfl (show IntKind.i64.wrap ((j:Int) - (i:Int))=((j - i:Nat):Int)by rw [IntKind.wrap_i64];omega))<|Dd mU<|Dm ?_
     all_goals refine Sp 98 (fun h98=>?_) fun h98=>?_
     all_goals try contradiction
     all_goals first|refine Fo<|Fo ?_|refine On aI<|On dC ?_
     all_goals refine Dd cL<|Dm ?_
     all_goals refine Sp 102 (fun h102=>?_) fun h102=>?_
     all_goals try contradiction
     all_goals first|refine Fo<|Fo ?_|refine On aI<|On dC ?_
     all_goals refine Dd cL<|Zz ?_
     all_goals(exact⟨⟨_,rfl,by first|(simp_all [yE];done)|(simp_all;omega)⟩,rfl,rfl,rfl⟩)
    refine Cn ?_ ?_<;>intro hc10
    ·have hE:JU s i j=⟨2,s.extract i j,i,4⟩:=by rw [JU,← h7,hc10];rfl
     rw [hE] at hst;refine Rg<|Dd (bB nO)<|Uu (by exact aZ rfl sizeOf41 rfl rfl rfl rfl rfl rfl (aL2 rfl) rfl rfl)<|Zz ?_;exact⟨(⟨2,s.extract i j,i,4⟩,j),hst,cC.get' ⟨⟨_,rfl,rfl⟩,⟨_,rfl,rfl⟩,⟨_,rfl,rfl⟩,⟨_,rfl,rfl⟩,⟨_,rfl,rfl⟩,trivial⟩ (fun q=>uR [_] (by simp) q)⟩
    have hE:JU s i j=⟨2,s.extract i j,i,0⟩:=by rw [JU,← h7,hc10];rfl
    rw [hE] at hst;refine aE ?_;exact⟨(⟨2,s.extract i j,i,0⟩,j),hst,E0⟩
   have n4:qM s i≠4:=aLM hc8;refine Sr<|Dd dC<|Da ?_;refine Cn ?_ ?_<;>intro hc11
   ·have e7:qM s i=7:=aLL hc11;have hst:gS s i=(some (LN s i).1,(LN s i).2):=by rw [gS,aLN n1,aLN n2,aLN n3,aLN n4,aLO e7]
    have hexs:(s.extract i s.size).size≤s.size - i:=by rw [ByteArray.size_extract];omega
    have hun:=fun H=>T0 (s.extract i s.size) H (by omega);have hul:=SH (s.extract i s.size);obtain ⟨u,hu⟩:∃ u,u=wD (s.extract i s.size):=⟨_,rfl⟩;have hgs:LN s i=if 0 < u.2 then(⟨3,u.1,i,0⟩,i+u.2.toNat)else(rD i,i):=by rw [LN,← hu]
    rw [← hu] at hun hul;obtain ⟨ut,un⟩:=u;simp only at hun hul hgs;refine Sr<|Dd (by exact aK rfl isAgg9 rfl (h1 k) rfl rfl rfl)<|Dd aI<|Dd (by exact cJ (l:=i) (h:=s.size) rfl underlying9 rfl rfl rfl (by omega) (by omega) rfl)<|Dd (by exact aB rfl rfl call244 rfl (hun _))<|Dd aI<|Dd eS<|Dd eS<|Dd aP<|Dd aP<|Zz<|Sq<|Sr<|Dd aI<|Dd mU<|Zz ?_;refine Cn ?_ ?_<;>intro hc12
    ·rw [hgs,aLO (aLL hc12)] at hst;refine Rg<|Dd aI<|Dd (bB kO)<|Dd (bB C9)<|Uu (by exact aZ rfl sizeOf3 rfl rfl rfl rfl rfl rfl (aL2 rfl) rfl rfl)<|Dd (bB kO)<|Dd (bB jU)<|Uu (by exact aZ rfl sizeOf9 rfl rfl rfl rfl rfl rfl (aL2 rfl) rfl rfl)<|Dd (bB nO)<|Uu (by exact aZ rfl sizeOf41 rfl rfl rfl rfl rfl rfl (aL2 rfl) rfl rfl)<|Zz<|Rg<|Dd aI<|Dd aI<|Dd (by exact cA rfl rfl rfl (show IntKind.i64.wrap ((i:Int)+un)=((i+un.toNat:Nat):Int)by rw [IntKind.wrap_i64];omega))<|Da ?_;exact⟨(⟨3,ut,i,0⟩,i+un.toNat),hst,cC.get' ⟨⟨_,rfl,rfl⟩,⟨_,rfl,rfl⟩,⟨_,rfl,rfl⟩,⟨_,rfl,rfl⟩,⟨_,rfl,rfl⟩,trivial⟩ (fun q=>uR [_,_,_] (by simp) q)⟩
    have hu0:=aLM hc12;rw [hgs,aLN hu0] at hst;have e0:i+un.toNat=i:=by omega
    refine aE<|Rg<|Dd aI<|Dd aI<|Dd (by exact cA rfl rfl rfl (show IntKind.i64.wrap ((i:Int)+un)=((i+un.toNat:Nat):Int)by rw [IntKind.wrap_i64];omega))<|Da ?_;rw [e0];exact⟨(rD i,i),hst,E0⟩
   have n7:qM s i≠7:=aLM hc11;refine Sr<|Dd dC<|Da ?_;refine Cn ?_ ?_<;>intro hc13
   ·have e6:qM s i=6:=aLL hc13;have hst:gS s i=(some ⟨4,s.extract i (i+1),i,0⟩,i+1):=by rw [gS,aLN n1,aLN n2,aLN n3,aLN n4,aLN n7,aLO e6]
    refine Sr<|Dd aI<|Dd pL<|Dd aP<|Zz<|aQ follows<|Cr [921] (fun H1 hH=>by exact aK rfl isAgg9 rfl ((hH _ rfl).trans (h1 k)) rfl rfl rfl)<|Cr [] (fun _ _=>aI)<|Cr [] (fun _ _=>aI)<|Cr [] (fun H1 hH=>by exact cJ (l:=i) (h:=(i+1)) rfl underlying9 rfl rfl rfl (by omega) (by omega) rfl)<|Cr [926] (fun _ h=>fh kO h)<|Cr [926] (fun _ h=>fh C9 h)<|Cp [926] (fun H1 hH=>by exact aZ rfl sizeOf3 rfl rfl rfl ((hH _ rfl).trans rfl) rfl rfl (aL2 rfl) rfl rfl)<|Cr [926] (fun _ h=>fh kO h)<|Cr [926] (fun _ h=>fh jU h)<|Cp [926] (fun H1 hH=>by exact aZ rfl sizeOf9 rfl rfl rfl ((hH _ rfl).trans rfl) rfl rfl (aL2 rfl) rfl rfl)<|Cr [926] (fun _ h=>fh nO h)<|Cp [926] (fun H1 hH=>by exact aZ rfl sizeOf41 rfl rfl rfl ((hH _ rfl).trans rfl) rfl rfl (aL2 rfl) rfl rfl) ?_;refine bJ<|Kr ?_;exact⟨(⟨4,s.extract i (i+1),i,0⟩,i+1),hst,cC.get' ⟨⟨_,rfl,rfl⟩,⟨_,rfl,rfl⟩,⟨_,rfl,rfl⟩,⟨_,rfl,rfl⟩,⟨_,rfl,rfl⟩,trivial⟩ (fun q=>uR [_,_,_] (by simp) q)⟩
   have n6:qM s i≠6:=aLM hc13;have hst:gS s i=(some (rD i),i):=by rw [gS,aLN n1,aLN n2,aLN n3,aLN n4,aLN n7,aLN n6]
   refine aE ?_;exact⟨(rD i,i),hst,E0⟩
  rintro⟨f,j⟩ hst;rw [hst] at hinv;simp only at hinv hst;obtain ⟨hk1,hk2⟩:=SD hinv;have hkl:=(aLT.1 hk1).1;have hkm2:k < m:=by
   rcases Nat.lt_or_ge k m with h|h
   ·exact h
   have hkem:k=m:=Nat.le_antisymm hkm h;subst hkem;rcases hend with h|⟨h,h'⟩
   ·omega
   rcases hkc with h2|h2
   ·omega
   rw [h2] at h';cases h'
  have hstop:ds.length=k+1∨cont k=false→k+1=m:=fun h=>by
   rcases h with h|h
   ·omega
   rcases Nat.lt_or_ge (k+1) m with h3|h3
   ·rw [hall k h3] at h;cases h
   omega
  have hyk:=hy k f hk1 hkm2;cases hck:cont k with
  | false =>
   have hkk:=hstop (.inr hck);rw [hck] at hyk;refine Sr<|Dd aI<|Dd (pN isAgg223 B1)<|Dd (by exact bY rfl rfl rfl (hyk))<|Dd lI<|Dd aI<|Fo<|Fo<|Fo<|Dd cL<|Zz ?_;refine Cn ?_ ?_<;>intro hc14
   ·refine aC ?_;rw [← hkk];exact pK (H':=Hs (k+1)) (.inr rfl) rfl (Fin.pops' [(926,tF f)] (by simp) (hcl _) (by simp [h6]) (by simp [h6])) ⟨rfl,rfl⟩
   cases hc14
  | true =>
   rw [hck] at hyk;refine Sr<|Dd aI<|Dd (pN isAgg223 B1)<|Dd (by exact bY rfl rfl rfl (hyk))<|Dd lI<|Dd aI<|On (bB nO)<|On (bL jC)<|On yM<|Dd cL<|Zz ?_;refine Cn ?_ ?_<;>intro hc15
   ·have hne:f.err≠0:=by
     have h:=hc15
     simpa using h
    rw [aLN hne] at hk2;have hkk:=hstop (.inl (by have:=List.drop_eq_nil_iff.1 hk2;omega));refine aC ?_;rw [← hkk];exact pK (H':=Hs (k+1)) (.inr rfl) rfl (Fin.pops' [(926,tF f)] (by simp) (hcl _) (by simp [h6]) (by simp [h6])) ⟨rfl,rfl⟩
   have he0:f.err=0:=by
    have h:=hc15
    simpa using h
   obtain ⟨g1,g2⟩:=aDx hst he0 hlt;rw [aLO he0] at hk2;refine aE ?_;exact⟨j,k+1,⟨g2,hkm2,.inr hck,n,by omega,hk2⟩,by omega,hfree _ _ _ _ _ rfl rfl rfl rfl rfl⟩
 have hge:s.size≤i:=by have:=aLM hc1;omega
 have hnil:lF s n i=[]:=by
  cases n with
  | zero=>rfl
  | succ n=>rw [lF,aLN (by omega)]
 rw [hnil] at hinv;have hkd:=List.drop_eq_nil_iff.1 hinv;have hkk:k=m:=by omega
 refine bG ?_;rw [← hkk];exact pK (H':=Hs k) (.inl rfl) rfl Fin.refl ⟨rfl,rfl⟩
def dL (f:GFound):List PV:=[.int .i64 f.kind,.str f.text,.int .i64 f.pos]
def OK (l:List GFound):PV:=.sl (l.map dL)
def iS (l:List GFound):List (List AV):=l.map fun f=>(dL f).map AV.pv
theorem vD (l:List GFound):(iS l).length=l.length:=aLP _
theorem A3 (l:List GFound) (f:GFound):iS l++[(dL f).map AV.pv]=iS (l++[f]):=by rw [iS,iS,List.map_append];rfl
theorem bW (H:aA) (l:List GFound):∀ r∈iS l,∀ a∈r,Clo H a:=by intro r hr a ha;obtain ⟨d,_,rfl⟩:=List.mem_map.1 hr;obtain ⟨p,_,rfl⟩:=List.mem_map.1 ha;simp
theorem nC {H:aA} (h1:(H.get 921).isSome=true) (h2:(H.get 923).isSome=true):∀ r∈tA.rows,∀ a∈r,Clo H a:=by intro r hr a ha;simp only [tA,bx,aLS] at hr;subst hr;rw [aLS] at ha;subst ha;simp [h1,h2]
theorem nB (H:aA) (s:ByteArray):∀ r∈(tS s).rows,∀ a∈r,Clo H a:=by intro r hr a ha;simp only [tS,bx,aLS] at hr;subst hr;rw [aLS] at ha;subst ha;simp
def kH:List GFound→List GFound→List GFound×Int×Int
 | acc,[]=>(acc,0,0)
 | acc,f::r=>if f.err≠0 then([],f.err,f.pos)else if acc.length=5000 then([],2,f.pos)else kH (acc++[f]) r
def gN (s:ByteArray):List GFound×Int×Int:=if 20000 < s.size then([],2,-1)else kH [] (lF s (s.size+1) 0)
def nI (ds:List GFound) (k:Nat):Bool:=match ds[k]? with
 | some f=>decide (f.err=0)&&!decide (k=5000)
 | none=>true
theorem EQ {ds:List GFound}:∀ {k:Nat},k≤ds.length→(∀ j,j < k→nI ds j=true)→kH [] ds=kH (ds.take k) (ds.drop k)
 | 0,_,_=>rfl
 | k+1,hk,h=>by
  rw [EQ (Nat.le_of_succ_le hk) (fun j hj=>h j (by omega))];have hd:ds.drop k=ds[k]::ds.drop (k+1):=List.drop_eq_getElem_cons hk;have hok:=h k (Nat.lt_succ_self k);rw [nI,aLU hk] at hok;simp only [aLY,aLW,aL8,aLX] at hok;have htl:(ds.take k).length=k:=by rw [aL3];omega
  rw [hd,kH,aLN (fun h=>h hok.1),aLN (by rw [htl];exact hok.2),List.take_add_one,aLU hk];rfl
theorem xW (s:ByteArray):∀ (n i:Nat),(lF s n i).length≤n
 | 0,_=>aL6 _
 | n+1,i=>by
  rw [lF]
  split
  ·split
   ·exact Nat.le_succ_of_le (xW s n _)
   rw [aLR]
   split
   ·exact Nat.succ_le_succ (xW s n _)
   exact Nat.succ_le_succ (aL6 _)
  exact aL6 _
def kL (s:ByteArray) (L:List GFound) (a:AV) (e p:Int):aA:=[(905,⟨L.length,3,196,iS L⟩),(5,bx 1 191 [.osl 905 L.length 0 L.length]),(924,tA),(923,tC),(921,tS s),(4,bx 1 3 [iv p]),(3,bx 1 41 [iv e]),(2,bx 1 191 [a])]
theorem aCW (s:ByteArray) (L:List GFound) (f:GFound) (a:AV) (e p:Int):kL s (L++[f]) a e p=[(905,⟨L.length+1,3,196,iS (L++[f])⟩),(5,bx 1 191 [.osl 905 (L.length+1) 0 (L.length+1)]),(924,tA),(923,tC),(921,tS s),(4,bx 1 3 [iv p]),(3,bx 1 41 [iv e]),(2,bx 1 191 [a])]:=by simp [kL]
def pH:bN:=[(2,.ref 2 0 0 0),(3,.ref 3 0 0 0),(4,.ref 4 0 0 0),(5,.ref 5 0 0 0)]
theorem CW {ds:List GFound} {k:Nat} {f:GFound} (h:ds[k]?=some f):nI ds k=(decide (f.err=0)&&!decide (k=5000)):=by rw [nI,h]
theorem aGB (s:ByteArray) (H:aA) (hs:s.size < 1099511627776):aG Tryz.prog 167 [sv s] H (fun r H'=>r=.tup [.pv (OK (gN s).1),iv (gN s).2.1,iv (gN s).2.2]∧H'=H):=by
 refine Pu ?_;refine Bd func167 rfl ntmps167<|Sr<|Dd (by exact bE (id:=2) rfl aFq rfl rfl)<|Dd (by exact bE (id:=3) rfl aGX rfl rfl)<|Dd (by exact bE (id:=4) rfl zo3 rfl rfl)<|Zz<|Sq<|Sr<|Dd aI<|Dd (nV underlying9)<|Dd mU<|Zz ?_;refine Cn ?_ ?_<;>intro hc1
 ·have e:gN s=([],2,-1):=by rw [gN,aLO (by have:=aLL hc1;omega)]
  rw [e];refine Sr<|Uu (jK jW)<|Uu (jK sizeOf41)<|Uu (jK sizeOf3)<|Zz<|aC ?_;refine xE (H':=[]) (.inr rfl) rfl (eW rfl jI rfl rfl rfl rfl) (eW rfl jC rfl rfl rfl rfl) (eW rfl isAgg3 rfl rfl rfl rfl) (Fin.wk (by simp) trivial trivial) ?_;exact Qq
 have hsz:¬ 20000 < s.size:=by have:=aLM hc1;omega
 obtain ⟨ds,hds⟩:∃ ds,ds=lF s (s.size+1) 0:=⟨_,rfl⟩;have hg:gN s=kH [] ds:=by rw [gN,aLN hsz,hds]
 refine aE<|Sr<|Dd (by exact bE (id:=5) rfl aAq rfl rfl)<|Zz<|Sq<|Sr<|Dd aI<|Dd (by exact aB rfl rfl call204 rfl (Q0 s _ rfl rfl rfl (cY.ofL ⟨(by(simp;done)),(by(simp;done)),(by(simp;done)),(by(simp;done)),trivial⟩)))<|Zz<|aF ?_;refine fE.ent (E':=[(2,.ref 2 0 0 0),(3,.ref 3 0 0 0),(4,.ref 4 0 0 0),(5,.ref 5 0 0 0),(11,.clo 243 [.ref 921 0 0 0,.ref 924 0 0 0])]) (H':=[(905,⟨0,3,196,[]⟩),(5,bx 1 191 [.osl 905 0 0 0]),(924,tA),(923,tC),(921,tS s),(4,bx 1 3 [iv 0]),(3,bx 1 41 [iv 0]),(2,bx 1 191 [.pv (.sl [])])]) ?_ ?_
 ·exact(cC.nz 905 3 196 rfl rfl ⟨⟨_,rfl,(by exact Nz.same (by(simp;rfl)))⟩,⟨_,rfl,(by exact Nz.same (by(simp;rfl)))⟩,⟨_,rfl,(by exact Nz.same (by(simp;rfl)))⟩,⟨_,rfl,(by exact Nz.same (by(simp;rfl)))⟩,⟨_,rfl,(by exact Nz.same (by(simp;exact⟨rfl,rfl⟩)))⟩,trivial⟩ ⟨⟨_,rfl,rfl,rfl,rfl,(by exact .inr ⟨_,_,rfl,rfl,(by repeat(first|exact trivial|refine⟨(by exact Nz.own),?_⟩))⟩)⟩,⟨_,rfl,rfl,rfl,rfl,(by exact .inl ⟨rfl,(by exact nC rfl rfl)⟩)⟩,⟨_,rfl,rfl,rfl,rfl,(by exact .inl ⟨rfl,(by exact gA _)⟩)⟩,⟨_,rfl,rfl,rfl,rfl,(by exact .inl ⟨rfl,(by exact nB _ _)⟩)⟩,⟨_,rfl,rfl,rfl,rfl,(by exact .inl ⟨rfl,(by(simp;done))⟩)⟩,⟨_,rfl,rfl,rfl,rfl,(by exact .inl ⟨rfl,(by(simp;done))⟩)⟩,⟨_,rfl,rfl,rfl,rfl,(by exact .inl ⟨rfl,(by(simp;done))⟩)⟩,trivial⟩ trivial)
 have hdl:ds.length≤s.size+1:=by rw [hds];exact xW s _ _
 obtain ⟨j,hj⟩:∃ j,j=sB (nI ds) ds.length 0:=⟨_,rfl⟩;have hj1:j≤ds.length:=by have:=(CE (nI ds) ds.length 0).2;omega
 have hj2:∀ k,k < j→nI ds k=true:=fun k hk=>CG (nI ds) ds.length 0 k (aL6 _) (by rw [← hj];exact hk);have hj3:j < ds.length→nI ds j=false:=fun h=>by have:=uA (nI ds) ds.length 0 (by omega);rwa [← hj] at this
 have hrun:=EQ hj1 hj2;refine AF (id:=904) (p:=12) pH rfl call243 rfl rfl (by simp [pH];exact⟨rfl,rfl,rfl,rfl⟩) ?_;intro x hx1 hx2 hx3 hx4 hx5 hx6;have hround:∀ (k:Nat) (d:GFound),ds[k]?=some d→k≤j →
   cB Tryz.prog (.yld 904 0) [.agg ((DB d).map .pv)] ((904,LR x pH)::(926,tF d)::kL s (ds.take k) (.pv (.sl [])) 0 0) (fun r H'=>r=bv (nI ds k)∧H'=(if nI ds k then(904,LR x pH)::(926,tF d)::kL s (ds.take (k+1)) (.pv (.sl [])) 0 0 else(904,LR (left x .ret) pH)::(926,tF d)::kL s (ds.take k) (.pv (.sl [])) (if d.err≠0 then d.err else 2) d.pos)):=by
  intro k d hd hkj;have hok:=CW hd;have hkl:k < ds.length:=(aLT.1 hd).1;have htl:(ds.take k).length=k:=by rw [aL3];omega
  have hnx:ds.take (k+1)=ds.take k++[d]:=by rw [List.take_add_one,hd];rfl
  refine .inl ⟨904,0,rfl,?_⟩;refine N7 [(2,.ref 2 0 0 0),(3,.ref 3 0 0 0),(4,.ref 4 0 0 0),(5,.ref 5 0 0 0),(6,.ref 907 0 0 0)] ((907,tF d)::(926,tF d)::kL s (ds.take k) (.pv (.sl [])) 0 0) hx1 hx2 hx3 hx4 hx5 hx6 rfl rfl rfl ?_ ?_
  ·refine Rg<|Dd (by exact bE (id:=907) rfl aAr rfl rfl)<|Uu (jK B1)<|Zz ?_;exact(cC.wk (Ea<|Ea<|Ea<|Ea<|Ea<|trivial) (Hc (jG (by simp [pH];exact⟨rfl,rfl,rfl,rfl⟩))<|Hc (sV _ _)<|Hc (sV _ _)<|Hc (bW _ _)<|Ha<|Hc (nC rfl rfl)<|Hc (gA _)<|Hc (nB _ _)<|Hb<|Hb<|Hb<|trivial) ⟨rfl,rfl,rfl,rfl,rfl,rfl,rfl,rfl,rfl,rfl,trivial⟩)
  refine aF<|Sq<|aF<|Sr<|Dd (bB nO)<|Dd (bL jC)<|Dd yM<|Da ?_;refine Cn ?_ ?_<;>intro hc2
  ·have he:d.err≠0:=by have h:=hc2;rw [aL8,aLX] at h;exact h
   have h0:nI ds k=false:=by rw [hok,decide_eq_false he];rfl
   rw [h0,aLN (by decide),aLO he];refine Sq<|aQ follows<|Cr [907] (fun _ h=>fh nO h)<|Cr [907] (fun _ h=>lh jC h)<|Cr [907] (fun _ h=>fh kO h)<|Cr [907] (fun _ h=>fh HG h)<|Cr [907] (fun _ h=>lh isAgg3 h)<|Cp [2] (fun H1 hH=>by exact bQ rfl jW rfl rfl rfl rfl ((hH _ rfl).trans rfl) rfl rfl rfl)<|Cp [3] (fun H1 hH=>by exact bQ rfl sizeOf41 rfl rfl rfl rfl ((hH _ rfl).trans rfl) rfl rfl rfl)<|Cp [4] (fun H1 hH=>by exact bQ rfl sizeOf3 rfl rfl rfl rfl ((hH _ rfl).trans rfl) rfl rfl rfl)<|bJ<|Kr<|aC ?_;exact⟨(926,tF d)::kL s (ds.take k) (.pv (.sl [])) d.err d.pos,(cC.wk trivial (Hc (jG (by simp [pH];exact⟨rfl,rfl,rfl,rfl⟩))<|Hc (sV _ _)<|Hc (bW _ _)<|Ha<|Hc (nC rfl rfl)<|Hc (gA _)<|Hc (nB _ _)<|Hb<|Hb<|Hb<|trivial) ⟨rfl,rfl,rfl,rfl,rfl,rfl,rfl,rfl,rfl,rfl,trivial⟩),rfl,rfl⟩
  have he:d.err=0:=by have h:=hc2;rw [Bool.not_eq_false',aLW] at h;exact h
  refine Sr<|Dd (bL jI)<|Dd (by exact dS rfl fP rfl rfl rfl)<|Dd dC<|Da ?_;refine Cn ?_ ?_<;>intro hc3
  ·have hk5:k=5000:=by have:=aLL hc3;omega
   have h0:nI ds k=false:=by rw [hok,decide_eq_true he,decide_eq_true hk5];rfl
   rw [h0,aLN (by decide),aLN (fun h=>h he)];refine Sq<|aQ follows<|Cr [907] (fun _ h=>fh kO h)<|Cr [907] (fun _ h=>fh HG h)<|Cr [907] (fun _ h=>lh isAgg3 h)<|Cp [2] (fun H1 hH=>by exact bQ rfl jW rfl rfl rfl rfl ((hH _ rfl).trans rfl) rfl rfl rfl)<|Cp [3] (fun H1 hH=>by exact bQ rfl sizeOf41 rfl rfl rfl rfl ((hH _ rfl).trans rfl) rfl rfl rfl)<|Cp [4] (fun H1 hH=>by exact bQ rfl sizeOf3 rfl rfl rfl rfl ((hH _ rfl).trans rfl) rfl rfl rfl)<|bJ<|Kr<|aC ?_;exact⟨(926,tF d)::kL s (ds.take k) (.pv (.sl [])) 2 d.pos,(cC.wk trivial (Hc (jG (by simp [pH];exact⟨rfl,rfl,rfl,rfl⟩))<|Hc (sV _ _)<|Hc (bW _ _)<|Ha<|Hc (nC rfl rfl)<|Hc (gA _)<|Hc (nB _ _)<|Hb<|Hb<|Hb<|trivial) ⟨rfl,rfl,rfl,rfl,rfl,rfl,rfl,rfl,rfl,rfl,trivial⟩),rfl,rfl⟩
  have hk5:¬ k=5000:=by have:=aLM hc3;omega
  have h0:nI ds k=true:=by rw [hok,decide_eq_true he,decide_eq_false hk5];rfl
  rw [h0,aLO rfl,hnx,aCW];refine aE<|Rg<|Dd (bL jI)<|Dd (bB kO)<|Dd (pN TT sizeOf196)<|Dd (by exact aS [dL d] rfl lN rfl rfl rfl rfl rfl (by intro r hr;rw [aLS] at hr;subst hr;rfl))<|Dd (by exact eK (ps:=[dL d]) rfl lN aCi rfl rfl rfl rfl rfl (vD _) rfl (by intro r hr;rw [aLS] at hr;subst hr;rfl) (m:=1) rfl (by omega) rfl (A3 (ds.take k) d))<|Uu (jK jW)<|Zz ?_;exact⟨(926,tF d)::[(905,⟨(ds.take k).length+1,3,196,iS (ds.take k++[d])⟩),(5,bx 1 191 [.osl 905 ((ds.take k).length+1) 0 ((ds.take k).length+1)]),(924,tA),(923,tC),(921,tS s),(4,bx 1 3 [iv 0]),(3,bx 1 41 [iv 0]),(2,bx 1 191 [.pv (.sl [])])],(cC.wk trivial (Hc (jG (by simp [pH];exact⟨rfl,rfl,rfl,rfl⟩))<|Hc (sV _ _)<|Hc (bW _ _)<|Ha<|Hc (nC rfl rfl)<|Hc (gA _)<|Hc (nB _ _)<|Hb<|Hb<|Hb<|trivial) ⟨rfl,rfl,rfl,rfl,rfl,rfl,rfl,rfl,rfl,rfl,trivial⟩),rfl,rfl⟩
 rcases Nat.lt_or_ge j ds.length with hlt|hge
 ·obtain ⟨f,hf⟩:=bD hlt;have hbad:=hj3 hlt;have hdj:ds.drop j=f::ds.drop (j+1):=by
   rw [List.drop_eq_getElem_cons hlt];rw [aLU hlt] at hf;cases hf;rfl
  have hres:gN s=([],(if f.err≠0 then f.err else 2),(f.pos:Int)):=by
   rw [hg,hrun,hdj,kH]
   split
   ·rfl
   rename_i he;have he0:f.err=0:=by
    by_cases h:f.err=0
    ·exact h
    exact absurd h he
   rw [CW hf,decide_eq_true he0,Bool.true_and,Bool.not_eq_false',aLW] at hbad;rw [aLO (by rw [aL3];omega)]
  rw [hres];refine(D4 s (.yld 904 0) (fun k=>if k≤j then(904,LR x pH)::kL s (ds.take k) (.pv (.sl [])) 0 0 else(904,LR (left x .ret) pH)::kL s (ds.take j) (.pv (.sl [])) (if f.err≠0 then f.err else 2) f.pos) (nI ds) (j+1) hs (fun k=>?_) (fun k=>?_) (fun k=>?_) (fun k=>?_) (fun k=>?_) (fun k=>?_) (by rw [← hds];exact hlt) (fun k hk=>hj2 k (by omega)) (.inr ⟨Nat.succ_pos _,by rw [Nat.add_sub_cancel];exact hbad⟩) ?_).mono ?_
  ·split<;>rfl
  ·split<;>rfl
  ·split<;>rfl
  ·split<;>rfl
  ·split
   ·exact(cY.ofL ⟨(by exact jG (by simp [pH];exact⟨rfl,rfl,rfl,rfl⟩)),(by exact bW _ _),(by(simp;rfl)),(by exact nC rfl rfl),(by exact gA _),(by exact nB _ _),(by(simp;done)),(by(simp;done)),(by(simp;done)),trivial⟩)
   exact(cY.ofL ⟨(by exact jG (by simp [pH];exact⟨rfl,rfl,rfl,rfl⟩)),(by exact bW _ _),(by(simp;rfl)),(by exact nC rfl rfl),(by exact gA _),(by exact nB _ _),(by(simp;done)),(by(simp;done)),(by(simp;done)),trivial⟩)
  ·split<;>(simp;rfl)
  ·rw [← hds];intro k d hd hk;have hr:=hround k d hd (by omega);rw [aLO (by omega)];by_cases hkj:k=j
   ·subst hkj;rw [hf] at hd;cases hd;rw [hbad,aLN (by decide)] at hr;rw [aLN (by omega),hbad];exact cB.congrG hr (fun j=>lZ (by decide) j) (fun j=>lZ (by decide) j)
   have hok:=hj2 k (by omega);rw [hok,aLO rfl] at hr;rw [aLO (by omega),hok];exact cB.congrG hr (fun j=>lZ (by decide) j) (fun j=>lZ (by decide) j)
  rintro r H' ⟨rfl,rfl⟩;rw [aLN (by omega)];refine⟨left x .ret,_,rfl,by simp [left],rfl,fun z=>?_⟩;show FJ _ _ _ _ _ _ _;refine xE (H':=[]) (.inr rfl) rfl (eW rfl jI rfl rfl rfl rfl) (eW rfl jC rfl rfl rfl rfl) (eW rfl isAgg3 rfl rfl rfl rfl) (Fin.wk (by simp) trivial trivial) ?_;exact Qq
 have hje:j=ds.length:=Nat.le_antisymm hj1 hge;rw [hje,List.take_length,List.drop_length] at hrun;rw [hg,hrun,kH];refine(D4 s (.yld 904 0) (fun k=>(904,LR x pH)::kL s (ds.take k) (.pv (.sl [])) 0 0) (nI ds) ds.length hs (fun k=>rfl) (fun k=>rfl) (fun k=>rfl) (fun k=>rfl) (fun k=>(cY.ofL ⟨(by exact jG (by simp [pH];exact⟨rfl,rfl,rfl,rfl⟩)),(by exact bW _ _),(by(simp;rfl)),(by exact nC rfl rfl),(by exact gA _),(by exact nB _ _),(by(simp;done)),(by(simp;done)),(by(simp;done)),trivial⟩)) (fun k=>by simp;rfl) (by rw [← hds];exact aLV _) (fun k hk=>hj2 k (by omega)) (.inl (by rw [← hds])) ?_).mono ?_
 ·rw [← hds];intro k d hd hk;have hr:=hround k d hd (by omega);have hok:=hj2 k (by omega);rw [hok,aLO rfl] at hr;rw [hok];exact cB.congrG hr (fun j=>lZ (by decide) j) (fun j=>lZ (by decide) j)
 rintro r H' ⟨rfl,rfl⟩;rw [List.take_length];refine⟨x,_,rfl,by rw [hx1];decide,rfl,fun z=>?_⟩;rw [hx2];refine Sr<|Dd (bL jI)<|Uu (jK jW)<|Uu (jK sizeOf41)<|Uu (jK sizeOf3)<|Zz<|aC ?_;refine xE (H':=[]) (.inr rfl) rfl (eW rfl jI rfl rfl rfl rfl) (eW rfl jC rfl rfl rfl rfl) (eW rfl isAgg3 rfl rfl rfl rfl) (Fin.fz (r':=.tup [.pv (OK ds),iv 0,iv 0]) (id:=905) (ob:=⟨ds.length,3,196,iS ds⟩) (ds.map dL) rfl (by rw [List.map_map];rfl) (.tup rfl (cH (.osl (qs:=ds.map dL) (by rw [aL7,List.drop_zero];exact List.take_of_length_le (Nat.le_of_eq (aLP dL)))) (cH (.same (by simp)) (cH (.same (by simp)) nM)))) rfl trivial trivial) ?_;exact Qq
def vF:List GFound→Option (List GTag)
 | []=>some []
 | a::_::c::r=>(vF r).map fun l=>⟨a.text,c.text⟩::l
 | _=>none
def MG (l:List GFound) (k:Nat):GTag:=⟨((l[3*k]?).map GFound.text).getD sNil,((l[3*k+2]?).map GFound.text).getD sNil⟩
def dK (l:List GFound) (k:Nat):List GTag:=(List.range k).map (MG l)
theorem yV (l:List GFound) (k:Nat):dK l (k+1)=dK l k++[MG l k]:=by rw [dK,List.range_succ,List.map_append];rfl
theorem AX (l:List GFound) (k:Nat):(dK l k).length=k:=by rw [dK,aLP,List.length_range]
def pZ (l:List GTag):List (List AV):=l.map fun t=>(bF t).map AV.pv
theorem HV (l:List GTag):(pZ l).length=l.length:=aLP _
theorem HW (l:List GTag) (t:GTag):pZ l++[(bF t).map AV.pv]=pZ (l++[t]):=by rw [pZ,pZ,List.map_append];rfl
theorem jO (H:aA) (l:List GTag):∀ r∈pZ l,∀ a∈r,Clo H a:=by intro r hr a ha;obtain ⟨d,_,rfl⟩:=List.mem_map.1 hr;obtain ⟨p,_,rfl⟩:=List.mem_map.1 ha;simp
theorem JK:∀ (r acc:List GFound),(kH acc r).1.length≤acc.length+r.length
 | [],acc=>aLV _
 | f::r,acc=>by
  rw [kH]
  split
  ·exact aL6 _
  split
  ·exact aL6 _
  have:=JK r (acc++[f]);rw [aLQ,List.length_singleton] at this;rw [aLR];omega
theorem C2 (s:ByteArray) (h:s.size < 1099511627776):(gN s).1.length < 549755813888:=by
 unfold gN
 split
 ·decide
 have h1:=JK (lF s (s.size+1) 0) [];have h2:=xW s (s.size+1) 0;rw [List.length_nil] at h1;omega
theorem bA (s:ByteArray):s.data.toList.length=s.size:=by simp
theorem zD {a b:ByteArray} (h:a.data.toList=b.data.toList):a=b:=by cases a with|mk a=>cases b with|mk b=>cases a;cases b;simp at h;rw [h]
theorem nR (s:ByteArray) (i j:Nat):(s.extract i j).data.toList=(s.data.toList.drop i).take (j - i):=by rw [ByteArray.data_extract,Array.toList_extract,List.extract_eq_take_drop]
theorem uT {s:ByteArray} {i:Nat} {c:UInt8} {r:List UInt8} (h:s.data.toList.drop i=c::r):i < s.size∧dU s i=(c.toNat:Int)∧s.data.toList.drop (i+1)=r:=by obtain ⟨h1,h2⟩:=SD h;refine⟨by rw [← bA];exact(aLT.1 h1).1,by rw [dU,h1];rfl,h2⟩
theorem BU {s:ByteArray} {i:Nat} {c:UInt8} {r:List UInt8} (h:s.data.toList.drop i=c::r):qM s i=DG (c.toNat:Int):=by obtain ⟨h1,h2,_⟩:=uT h;rw [qM,aLO h1,h2]
theorem YI {s:ByteArray} {i:Nat} (h:s.data.toList.drop i=[]):qM s i=0:=by have:=List.drop_eq_nil_iff.1 h;rw [bA] at this;rw [qM,aLN (by omega)]
theorem gU {s:ByteArray} {i:Nat} {w r:List UInt8} (h:s.data.toList.drop i=w++r):s.data.toList.drop (i+w.length)=r:=by rw [← List.drop_drop,h,List.drop_left]
theorem YC {s:ByteArray} {i k:Nat} {w r:List UInt8} {c:UInt8} (h:s.data.toList.drop i=w++r) (hk:w[k]?=some c):s.data.toList.drop (i+k)=c::((w.drop (k+1))++r):=by
 have hlt:=(aLT.1 hk).1;have e:w=w.take k++c::w.drop (k+1):=by
  conv=>lhs;rw [← List.take_append_drop k w]
  rw [List.drop_eq_getElem_cons hlt,(aLT.1 hk).2]
 have h2:s.data.toList.drop i=w.take k++(c::w.drop (k+1)++r):=by
  rw [h];exact(congrArg (·++r) e).trans (List.append_assoc _ _ _)
 have h3:=gU h2;rw [aL3,Nat.min_eq_left (by omega)] at h3;exact h3
theorem yX {s:ByteArray} {i:Nat} {w r:List UInt8} (h:s.data.toList.drop i=w++r):s.extract i (i+w.length)=⟨w.toArray⟩:=by refine zD ?_;rw [nR,h,Nat.add_sub_cancel_left,List.take_left]
theorem yW {s:ByteArray} {i:Nat}:(s.extract i s.size).data.toList=s.data.toList.drop i:=by rw [nR];exact List.take_of_length_le (by rw [aL4,bA];exact aLV _)
theorem vV {k:ByteArray} (h:bI k=true):0 < k.size∧k.size≤24∧DG (dU k 0)=3∧∀ j,j < k.size→(DG (dU k j)=3∨DG (dU k j)=4∨DG (dU k j)=5):=by
 rw [bI,aLY,aLY,aL8,aL8,List.any_eq_false,aLX,aLW] at h;obtain ⟨h1,h2,h3⟩:=h;have hpos:0 < k.size:=by
  rcases Nat.eq_zero_or_pos k.size with e|e
  ·refine absurd (zD ?_) h2;rw [← bA] at e;rw [List.length_eq_zero_iff.1 e]
  exact e
 have hb:∀ j,j < k.size→TA k j=false:=fun j hj=>by
  have:=h1 j (List.mem_range.2 hj)
  simpa using this
 refine⟨hpos,by omega,?_,fun j hj=>?_⟩
 ·have:=hb 0 hpos
  simpa [TA] using this
 have:=hb j hj;rw [TA] at this;by_cases e1:DG (dU k j)=3
 ·exact .inl e1
 by_cases e2:DG (dU k j)=4
 ·exact .inr (.inl e2)
 by_cases e3:DG (dU k j)=5
 ·exact .inr (.inr e3)
 simp [e1,e2,e3] at this
theorem aEu {k:ByteArray} {j:Nat} (h:j < k.size):∃ c,k.data.toList[j]?=some c∧dU k j=(c.toNat:Int):=by rw [← bA] at h;exact⟨_,aLU h,by rw [dU,aLU h];rfl⟩
theorem Y5 {s k:ByteArray} {i:Nat} {r:List UInt8} (h:s.data.toList.drop i=k.data.toList++r) (hk:bI k=true) (hr:∀ c r',r=c::r'→DG (c.toNat:Int)≠3∧DG (c.toNat:Int)≠4∧DG (c.toNat:Int)≠5) :
  gS s i=(some ⟨1,k,i,0⟩,i+k.size):=by
 obtain ⟨hpos,hle,h0,hall⟩:=vV hk;have hat:∀ j,j < k.size→qM s (i+j)=DG (dU k j):=fun j hj=>by
  obtain ⟨c,hc,e⟩:=aEu hj;rw [BU (YC h hc),e]
 have hlen:i+k.size≤s.size:=by
  have:=congrArg List.length h;rw [aL4,aLQ,bA,bA] at this;omega
 have ha0:qM s i=3:=by
  have:=hat 0 hpos;rw [Nat.add_zero,h0] at this;exact this
 have hend:GP s i=i+k.size:=by
  refine CF (yE s) (by omega) (by omega) (fun j h1 h2=>?_) ?_
  ·have:=hat (j - i) (by omega);rw [show i+(j - i)=j by omega] at this;rw [yE,this];rcases hall (j - i) (by omega)with e|e|e<;>rw [e]<;>rfl
  left;have hd:=gU h;rw [bA] at hd;cases r with
  | nil=>rw [yE,YI hd];rfl
  | cons c r' =>
   obtain ⟨e1,e2,e3⟩:=hr c r' rfl;rw [yE,BU hd,decide_eq_false e1,decide_eq_false e2,decide_eq_false e3];rfl
 have hex:=yX h;rw [bA] at hex;have hkk:(⟨k.data.toList.toArray⟩:ByteArray)=k:=zD (by simp);rw [gS,aLN (by rw [ha0];decide),aLN (by rw [ha0];decide),aLO ha0,hend,BH,hex,hkk,aLN (by omega)]
theorem aDw {s:ByteArray} {i:Nat} {r:List UInt8} (h:s.data.toList.drop i=32::r):gS s i=(none,i+1):=by
 have ha:qM s i=1:=by rw [BU h];rfl
 rw [gS,aLO ha]
theorem QY:∀ (v r:List UInt8),mZ (v.flatMap nK++34::r)=some (v,(v.flatMap nK).length+1)
 | [],r=>HR
 | b::v,r=>by
  have ih:=QY v r;rw [List.flatMap_cons,List.append_assoc,aLQ];by_cases h1:b=10
  ·have e:nK b=[92,110]:=by rw [nK,aLO h1]
   rw [e];show mZ (92::110::(v.flatMap nK++34::r))=_;rw [GR,ih,h1];show some (10::v,_)=some (10::v,_);congr 2;show (v.flatMap nK).length+1+2=2+_+1;omega
  by_cases h2:b=34∨b=92
  ·have e:nK b=[92,b]:=by rw [nK,aLN h1,aLO h2]
   have hu:yP b=some b:=by
    rcases h2 with e|e<;>subst e<;>rfl
   rw [e];show mZ (92::b::(v.flatMap nK++34::r))=_;rw [GR,ih,hu];show some (b::v,_)=some (b::v,_);congr 2;show (v.flatMap nK).length+1+2=2+_+1;omega
  have e:nK b=[b]:=by rw [nK,aLN h1,aLN h2]
  have h3:b≠34∧b≠92:=⟨fun e=>h2 (.inl e),fun e=>h2 (.inr e)⟩;rw [e];show mZ (b::(v.flatMap nK++34::r))=_;rw [HS h3.1 h1 h3.2,ih];show some (b::v,_)=some (b::v,_);congr 2;show (v.flatMap nK).length+1+1=1+_+1;omega
theorem Q4 {s v:ByteArray} {i:Nat} {r:List UInt8} (h:s.data.toList.drop i=dT v.data.toList++r):gS s i=(some ⟨3,v,i,0⟩,i+(dT v.data.toList).length):=by
 have h':s.data.toList.drop i=34::(v.data.toList.flatMap nK++34::r):=by rw [h,dT];simp
 have ha:qM s i=7:=by rw [BU h'];rfl
 have hu:wD (s.extract i s.size)=(v,(((v.data.toList.flatMap nK).length+1+1:Nat):Int)):=by
  rw [wD,yW,h',List.drop_succ_cons,List.drop_zero,QY]
 have hs:LN s i=(⟨3,v,i,0⟩,i+(dT v.data.toList).length):=by
  rw [LN,hu,aLO (by show (0:Int) < ((_:Nat):Int);omega)];congr 1;show i+_=i+_;congr 1;rw [aL0,dT,aLR,aLQ,List.length_singleton]
 rw [gS,aLN (by rw [ha];decide),aLN (by rw [ha];decide),aLN (by rw [ha];decide),aLN (by rw [ha];decide),aLO ha,hs]
def M9 (t:GTag):List UInt8:=t.key.data.toList++61::dT t.val.data.toList
theorem M8 (t:GTag):(iX t).data.toList=M9 t:=by rw [iX,M9];simp
def pF (l:List GTag):List UInt8:=l.flatMap fun t=>32::M9 t
def TJ (T:List GFound) (l:List GTag):Prop:=vF T=some l∧(∀ f,f∈T→f.err=0)∧T.length=3*l.length
theorem TJ.cons {T:List GFound} {l:List GTag} {a b c:GFound} (h:TJ T l) (ha:a.err=0) (hb:b.err=0) (hc:c.err=0):TJ (a::b::c::T) (⟨a.text,c.text⟩::l):=by
 obtain ⟨h1,h2,h3⟩:=h;refine⟨by rw [vF,h1];rfl,fun f hf=>?_,by rw [aLR,aLR,aLR,aLR,h3];omega⟩;rcases aL1.1 hf with rfl|hf
 ·exact ha
 rcases aL1.1 hf with rfl|hf
 ·exact hb
 rcases aL1.1 hf with rfl|hf
 ·exact hc
 exact h2 f hf
theorem Y2 (t:GTag) (l:List GTag):(F6 (t::l)).data.toList=M9 t++pF l:=by show cG [32] (bs ((t::l).map iX))=_;rw [bs,List.map_map,List.map_cons,cG];show (iX t).data.toList++_=_;rw [M8,pF,List.flatMap_map];congr 1;congr 1;funext x;show [32]++(iX x).data.toList=_;rw [M8];rfl
theorem ER:∀ (T acc:List GFound),(∀ f,f∈T→f.err=0)→acc.length+T.length≤5000→kH acc T=(acc++T,0,0)
 | [],acc,_,_=>by rw [kH,List.append_nil]
 | f::T,acc,h,hl=>by
  rw [aLR] at hl;rw [kH,aLN (fun e=>e (h f List.mem_cons_self)),aLN (by omega),ER T (acc++[f]) (fun g hg=>h g (List.mem_cons_of_mem _ hg)) (by rw [aLQ,List.length_singleton];omega),List.append_assoc];rfl
end Go.Proofs.YtiifmppaejpemaaGreatDoor
