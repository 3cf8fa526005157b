/-
  Parts of the proof: rules of an abstract program logic, contracts of functions, plain laws. Conditions: each theorem's own.
-/
import Derived.Test.YtiifmppaejpemaaGreatDoorKR4M6
import Derived.WideLaws
import Derived.Laws.Build
set_option linter.unusedVariables false
set_option linter.unusedSimpArgs false
set_option maxRecDepth 100000
set_option maxHeartbeats 8000000
namespace Go.Proofs
theorem tX:type_of% Tryz.call172:=Tryz.call172
theorem aLG:type_of% Tryz.call31:=Tryz.call31
theorem sE:type_of% Tryz.call46:=Tryz.call46
theorem aDe:type_of% Tryz.call75:=Tryz.call75
theorem xT:type_of% Tryz.call94:=Tryz.call94
theorem jI:type_of% Tryz.isAgg191:=Tryz.isAgg191
theorem TW:type_of% Tryz.isAgg196:=Tryz.isAgg196
theorem FJ:type_of% Tryz.isAgg250:=Tryz.isAgg250
theorem jD:type_of% Tryz.isAgg26:=Tryz.isAgg26
theorem jC:type_of% Tryz.isAgg41:=Tryz.isAgg41
theorem AT:type_of% Tryz.isAgg77:=Tryz.isAgg77
theorem jW:type_of% Tryz.sizeOf191:=Tryz.sizeOf191
theorem B7:type_of% Tryz.sizeOf223:=Tryz.sizeOf223
theorem FI:type_of% Tryz.sizeOf77:=Tryz.sizeOf77
end Go.Proofs
namespace Go.Proofs.YtiifmppaejpemaaGreatDoor
open Go.Proofs.Tryz
open Go.Abs
def I9 (t:ByteArray):Bool:=!isJ t
theorem aHN (t:ByteArray) (ht:t.size < 1099511627776) (H:aB):aH Tryz.prog 95 [sv t] H (fun r H'=>r=bv (I9 t)∧H'=H):=by refine Pu ?_;exact Bd func95 rfl ntmps95<|Sr<|Dd aP<|Zz<|Sr<|Dd aF<|Dd (by exact aA rfl rfl aLG rfl (aC3 t ht _))<|Dd lI<|Dd aP<|Zz<|aC<|Rt<|Qq
theorem N4 (l:List ByteArray) (q:ByteArray→Bool):((List.range l.length).any fun k=>match l[k]? with|some s=>q s|none=>false)=l.any q:=by
 rw [Bool.eq_iff_iff,List.any_eq_true,List.any_eq_true];constructor
 ·rintro⟨k,hk,h⟩;have hk:=List.mem_range.1 hk;rw [aLY hk] at h;exact⟨_,List.getElem_mem hk,h⟩
 rintro⟨s,hs,h⟩;obtain ⟨k,hk⟩:=aLe.1 hs;exact⟨k,List.mem_range.2 (aLX.1 hk).1,by rw [hk];exact h⟩
theorem aGE (l:List ByteArray) (hl:l.length < 1099511627776) (ht:∀ t∈l,t.size < 1099511627776) (H:aB):aH Tryz.prog 94 [.pv (aU l)] H (fun r H'=>r=bv (l.any I9)∧H'=H):=by
 refine Pu ?_;have hc:=oU (.pv (.fn 95)) l (fun k=>match l[k]? with|some s=>I9 s|none=>false) (fun _=>[]) (by omega) (fun k s hk=>by
  simp only [hk];exact cC.fn call95 (aHN s (ht s (aL3 hk)) []))
 rw [N4] at hc;exact Bd func94 rfl ntmps94<|Sr<|Dd aP<|Zz<|Sr<|Dd aF<|Dd (by exact aA rfl rfl QG rfl (hc))<|Dd aP<|Zz<|aC<|Rt<|Qq
def HQ (i:Int) (l p:List ByteArray):Bool:=((((!decide (((l.map encStr).length:Int)=18)||decide (8 < ((p.map encStr).length:Int)))||l.any I9)||p.any I9)||decide (i < 0))||decide (((2 ^ p.length:Nat):Int)≤i)
theorem DO (l:List ByteArray):l.any I9=!l.all isJ:=by
 induction l with
 | nil=>rfl
 | cons a r ih=>rw [List.any_cons,List.all_cons,ih,I9,Bool.not_and]
theorem aDp {key m:ByteArray} {i:Int} {l p:List ByteArray} (h:HQ i l p=true):vG key m i l p=false:=by
 rw [HQ,DO,DO,aLT,aLT] at h;cases hv:vG key m i l p with
 | false=>rfl
 | true =>
  rw [vG] at hv;simp only [aL2,aL0] at hv;obtain ⟨⟨⟨⟨⟨a1,a2⟩,a3⟩,a4⟩,a5,a6⟩,a7⟩:=hv;have a6':i < ((2 ^ p.length:Nat):Int):=by exact_mod_cast a6
  rw [a3,a4,decide_eq_true (show (l.length:Int)=18 by omega),decide_eq_false (show ¬ 8 < (p.length:Int)by omega),decide_eq_false (show ¬ i < 0 by omega),decide_eq_false (show ¬ ((2 ^ p.length:Nat):Int)≤i by omega)] at h;exact absurd h (by decide)
theorem aG7 {key m:ByteArray} {i:Int} {l p:List ByteArray} (h:HQ i l p=false):∃ q:Nat,i=(q:Int)∧q < 2 ^ p.length∧l.length=18∧p.length≤8∧(∀ t∈l,isJ t=true)∧(∀ t∈p,isJ t=true)∧vG key m i l p=decide (xE (zF (xF m l)) p q=key):=by
 rw [HQ,DO,DO,aLT,aLT] at h;simp only [aLf,Bool.not_eq_false',aL1,aL0] at h;obtain ⟨⟨⟨⟨⟨a1,a2⟩,a3⟩,a4⟩,a5⟩,a6⟩:=h;obtain ⟨q,rfl⟩:∃ q:Nat,i=(q:Int):=⟨i.toNat,by omega⟩;have a1':l.length=18:=by omega
 have a2':p.length≤8:=by omega
 have a6':(q:Int) < ((2 ^ p.length:Nat):Int):=by omega
 refine⟨q,rfl,by omega,a1',a2',List.all_eq_true.1 a3,List.all_eq_true.1 a4,?_⟩;have a7:(q:Int) < 2 ^ p.length:=by exact_mod_cast a6'
 rw [vG,a3,a4,decide_eq_true (⟨a1',a2'⟩:l.length=18∧p.length≤8),decide_eq_true (⟨by omega,a7⟩:0≤(q:Int)∧(q:Int) < 2 ^ p.length),aL4];rfl
def YA (m:ByteArray) (l:List ByteArray) (k:Nat):List ByteArray:=(List.range k).map fun k=>xX (l.getD k sNil) (15 - (DW m).getD k 0)
theorem aCk (m:ByteArray) (l:List ByteArray) (k:Nat):YA m l (k+1)=YA m l k++[xX (l.getD k sNil) (15 - (DW m).getD k 0)]:=by rw [YA,List.range_succ,List.map_append];rfl
theorem X9 (m:ByteArray) (l:List ByteArray) (k:Nat):(YA m l k).length=k:=by simp [YA]
theorem PT {m:ByteArray} {l:List ByteArray} (h:l.length=18):YA m l 18=xF m l:=by
 apply List.ext_getElem?;intro k;rw [xF,List.getElem?_zipWith,YA,aLd];by_cases hk:k < 18
 ·have h1:l[k]?=some (l.getD k sNil):=by
   rw [List.getD_eq_getElem?_getD,aLY (by omega)];rfl
  have h2:(DW m)[k]?=some ((DW m).getD k 0):=by
   rw [List.getD_eq_getElem?_getD,aLY (by rw [HH];exact hk)];rfl
  rw [List.getElem?_range hk,h1,h2];rfl
 rw [List.getElem?_eq_none (by simp;omega),List.getElem?_eq_none (by omega)];rfl
theorem aFm {a:Nat} (ha:a < 4611686018427387904):bits .and .i64 (a:Int) 1=((a % 2:Nat):Int):=by have h:=(bits_nat .i64 62 (by decide) (fun n h0 h1=>pO (by omega) (by omega)) a 1 ha (by decide)).1;rw [Nat.and_one_is_mod] at h;exact h
def vfE:bO:=[(5,.ref 5 0 0 0),(9,.ref 9 0 0 0)]
def vfK (i:Int) (l p:List ByteArray) (m:ByteArray) (L:List ByteArray):aB:=[(905,⟨L.length,1,9,dO L⟩),(9,bx 1 22 [.osl 905 L.length 0 L.length]),(961,JD m),(5,bx 3 25 [iv i,.pv (aU l),.pv (aU p)])]
theorem aDo (i:Int) (l p:List ByteArray) (m:ByteArray) (L:List ByteArray) (x:ByteArray):vfK i l p m (L++[x])=[(905,⟨L.length+1,1,9,dO (L++[x])⟩),(9,bx 1 22 [.osl 905 (L.length+1) 0 (L.length+1)]),(961,JD m),(5,bx 3 25 [iv i,.pv (aU l),.pv (aU p)])]:=by simp [vfK]
theorem LY (key m:ByteArray) (i:Int) (l p:List ByteArray) (H:aB) (hm:m.size < 1099511627776) (hi0 : -4611686018427387904≤i) (hi1:i < 4611686018427387904) (hl:l.length < 1099511627776) (hp:p.length < 1099511627776) (hls:∀ t∈l,t.size < 1099511627776) (hps:∀ t∈p,t.size < 1099511627776) :
  aH Tryz.prog 32 [sv key,sv m,.agg [iv i,.pv (aU l),.pv (aU p)]] H (fun r H'=>r=bv (vG key m i l p)∧H'=H):=by
 refine Pu ?_;have hml:(l.map encStr).length=l.length:=aLT _;have hmp:(p.map encStr).length=p.length:=aLT _;have hol:=fun H=>aGE l hl hls H;have hop:=fun H=>aGE p hp hps H;have hle8:decide (8 < ((p.map encStr).length:Int))=false→p.length≤8:=fun h=>by have:=aLQ h;omega
 have hshl:p.length≤8→IntKind.i64.wrap (1*2 ^ (((p.map encStr).length:Int)).toNat)=((2 ^ p.length:Nat):Int):=fun h=>by rw [hmp];exact aEJ h
 refine Bd func32 rfl ntmps32<|Sr<|Dd (by exact bZ (id:=5) rfl rfl rfl rfl rfl)<|Dd aP<|Zz<|Sr<|Dd (bB mK)<|Dd (bK aJ)<|Dd (fY aD)<|Dd aP<|Zz<|Sr<|Dd aP<|Zz<|Sq<|Sq ?_;refine oI (t:=49) (n:=32) (X:=HQ i l p) ?_ ?_
 ·cases hg22:(!decide (((l.map encStr).length:Int)=18):Bool)
  ·cases hg26:(decide (8 < ((p.map encStr).length:Int)):Bool)
   ·cases hg32:(l.any I9:Bool)
    ·cases hg38:(p.any I9:Bool)
     ·cases hg43:(decide (i < 0):Bool)
      ·refine aQ follows<|Cq (bB iL)<|Cq (bK aJ)<|Cq (fY aD)<|Cq uL<|Cq aF<|Nf aF<|Nf mI<|Cq xA<|Cq aF<|Nf aF<|Nf (bB iL)<|Nf (bK aJ)<|Nf (by exact bY rfl rfl rfl (cC.fn xT (hol _)))<|Cq xA<|Cq aF<|Nf aF<|Nf (bB mK)<|Nf (bK aJ)<|Nf (by exact bY rfl rfl rfl (cC.fn xT (hop _)))<|Cq xA<|Cq aF<|Nf (bB lS)<|Nf (bK isAgg3)<|Nf dK<|Cq xA<|Cq aF<|Nf (bB lS)<|Nf (bK isAgg3)<|Nf aF<|Nf (by exact CS rfl rfl rfl (by omega) (by have:=hle8 hg26;simp [IntKind.bits];omega) (hshl (hle8 hg26)))<|Nf JR<|Cq xA<|bJ<|Kr ?_;exact⟨rfl,⟨_,rfl,by(rw [HQ,hg22,hg26,hg32,hg38,hg43];rfl)⟩,rfl,rfl,rfl⟩
      refine aQ follows<|Cq (bB iL)<|Cq (bK aJ)<|Cq (fY aD)<|Cq uL<|Cq aF<|Nf aF<|Nf mI<|Cq xA<|Cq aF<|Nf aF<|Nf (bB iL)<|Nf (bK aJ)<|Nf (by exact bY rfl rfl rfl (cC.fn xT (hol _)))<|Cq xA<|Cq aF<|Nf aF<|Nf (bB mK)<|Nf (bK aJ)<|Nf (by exact bY rfl rfl rfl (cC.fn xT (hop _)))<|Cq xA<|Cq aF<|Nf (bB lS)<|Nf (bK isAgg3)<|Nf dK<|Cq xA<|Cq aF<|Of<|Of<|Of<|Of<|Of<|Cq KU<|bJ<|Kr ?_;exact⟨rfl,⟨_,rfl,by(rw [HQ,hg22,hg26,hg32,hg38,hg43];rfl)⟩,rfl,rfl,rfl⟩
     refine aQ follows<|Cq (bB iL)<|Cq (bK aJ)<|Cq (fY aD)<|Cq uL<|Cq aF<|Nf aF<|Nf mI<|Cq xA<|Cq aF<|Nf aF<|Nf (bB iL)<|Nf (bK aJ)<|Nf (by exact bY rfl rfl rfl (cC.fn xT (hol _)))<|Cq xA<|Cq aF<|Nf aF<|Nf (bB mK)<|Nf (bK aJ)<|Nf (by exact bY rfl rfl rfl (cC.fn xT (hop _)))<|Cq xA<|Cq aF<|Of<|Of<|Of<|Cq KU<|Cq aF<|Of<|Of<|Of<|Of<|Of<|Cq cE<|bJ<|Kr ?_;exact⟨rfl,⟨_,rfl,by(rw [HQ,hg22,hg26,hg32,hg38];rfl)⟩,rfl,rfl,rfl⟩
    refine aQ follows<|Cq (bB iL)<|Cq (bK aJ)<|Cq (fY aD)<|Cq uL<|Cq aF<|Nf aF<|Nf mI<|Cq xA<|Cq aF<|Nf aF<|Nf (bB iL)<|Nf (bK aJ)<|Nf (by exact bY rfl rfl rfl (cC.fn xT (hol _)))<|Cq xA<|Cq aF<|Of<|Of<|Of<|Of<|Cq KU<|Cq aF<|Of<|Of<|Of<|Cq cE<|Cq aF<|Of<|Of<|Of<|Of<|Of<|Cq cE<|bJ<|Kr ?_;exact⟨rfl,⟨_,rfl,by(rw [HQ,hg22,hg26,hg32];rfl)⟩,rfl,rfl,rfl⟩
   refine aQ follows<|Cq (bB iL)<|Cq (bK aJ)<|Cq (fY aD)<|Cq uL<|Cq aF<|Nf aF<|Nf mI<|Cq xA<|Cq aF<|Of<|Of<|Of<|Of<|Cq KU<|Cq aF<|Of<|Of<|Of<|Of<|Cq cE<|Cq aF<|Of<|Of<|Of<|Cq cE<|Cq aF<|Of<|Of<|Of<|Of<|Of<|Cq cE<|bJ<|Kr ?_;exact⟨rfl,⟨_,rfl,by(rw [HQ,hg22,hg26];rfl)⟩,rfl,rfl,rfl⟩
  refine aQ follows<|Cq (bB iL)<|Cq (bK aJ)<|Cq (fY aD)<|Cq uL<|Cq aF<|Of<|Of<|Cq KU<|Cq aF<|Of<|Of<|Of<|Of<|Cq cE<|Cq aF<|Of<|Of<|Of<|Of<|Cq cE<|Cq aF<|Of<|Of<|Of<|Cq cE<|Cq aF<|Of<|Of<|Of<|Of<|Of<|Cq cE<|bJ<|Kr ?_;exact⟨rfl,⟨_,rfl,by(rw [HQ,hg22];rfl)⟩,rfl,rfl,rfl⟩
 refine Cn ?_ ?_<;>intro hc1
 ·have hb:=hc1;rw [aDp hb];exact Sr<|Dd aP<|Zz<|aC<|Rt<|Qq
 have hb:=hc1;obtain ⟨q,rfl,hq,h18,h8,hlj,hpj,hv⟩:=aG7 (key:=key) (m:=m) hb;rw [hv];clear hv hb;have hp8:=qC h8;refine aE<|Sr<|Dd (by exact bC (id:=9) rfl aAs rfl rfl)<|Zz<|Sq<|Sr<|Dd aF<|Dd (by exact aA rfl rfl call96 rfl (NR m _ rfl))<|Zz<|aG ?_;refine fE.ent (E':=[(0,sv key),(5,.ref 5 0 0 0),(9,.ref 9 0 0 0),(51,.clo 149 [.ref 961 0 0 0])]) (H':=vfK q l p m []) ?_ ?_
 ·exact(cD.nz 905 1 9 rfl rfl ⟨⟨_,rfl,(by exact Nz.same (by(simp;done)))⟩,⟨_,rfl,(by exact Nz.same (by(simp;rfl)))⟩,⟨_,rfl,(by exact Nz.same (by(simp;rfl)))⟩,⟨_,rfl,(by exact Nz.same (by(simp;rfl)))⟩,trivial⟩ ⟨⟨_,rfl,rfl,rfl,rfl,(by exact .inr ⟨_,_,rfl,rfl,(by repeat(first|exact trivial|refine⟨(by exact Nz.own),?_⟩))⟩)⟩,⟨_,rfl,rfl,rfl,rfl,(by exact .inl ⟨rfl,(by exact uM _ _)⟩)⟩,⟨_,rfl,rfl,rfl,rfl,(by exact .inl ⟨rfl,(by(simp;done))⟩)⟩,trivial⟩ trivial)
 refine J9 (id:=904) (p:=52) (p2:=53) vfE rfl call149 rfl rfl (by simp [vfE];exact⟨rfl,rfl⟩) ?_;intro x hx1 hx2 hx3 hx4 hx5 hx6;refine(NS m (.yld 904 0) (fun k=>(904,LR x vfE)::vfK q l p m (YA m l k)) hm (fun k=>rfl) ?_).mono ?_
 ·intro k hk;have hd:=WE m _ (mW (d:=0) (by rw [HH];exact hk));have hfl:=X9 m l k;have hnx:=aCk m l k;have hix:(l.map encStr)[k]?=some (encStr (l.getD k sNil)):=by
   rw [aLd,List.getD_eq_getElem?_getD,aLY (by omega)];rfl
  have hsz:(l.getD k sNil).size < 1099511627776:=hls _ (mW (by omega));obtain ⟨u,hu⟩:∃ u,u=l.getD k sNil:=⟨_,rfl⟩;obtain ⟨d,hdd⟩:∃ d,d=(DW m).getD k 0:=⟨_,rfl⟩;rw [← hdd] at hd hnx ⊢;rw [← hu] at hnx hix hsz;have hch:=fun H=>P0 u (15 - d) H hsz (by omega);refine .inl ⟨904,0,rfl,?_⟩;refine WZ [(5,.ref 5 0 0 0),(9,.ref 9 0 0 0),(10,iv (k:Int)),(11,iv (d:Int))] (vfK q l p m (YA m l k)) hx1 hx2 hx3 hx4 hx5 hx6 rfl rfl rfl rfl rfl ?_ ?_
  ·refine Sr<|Dd aP<|Zz<|Rg<|Da ?_;exact(cD.wk (Ea<|Ea<|Eb<|Eb<|trivial) (Hc (jG (by intro p hp;simp only [vfE,aL5,aL9,or_false] at hp;rcases hp with rfl|rfl<;>(simp only [oV];rfl)))<|Hc (bV _ _)<|Ha<|Hc (uM _ _)<|Hb<|trivial) ⟨rfl,rfl,rfl,rfl,rfl,trivial⟩)
  rw [hnx,aDo];refine aG<|aQ follows<|Cr [9] (fun _ h=>lh aJ h)<|Cr [5] (fun _ h=>fh iL h)<|Cr [5] (fun _ h=>lh aJ h)<|Cr [] (fun _ _=>aF)<|Cr [] (fun H1 hH=>by exact bN rfl cP rfl rfl (by omega) (by exact aL4 _) hix rfl)<|Cr [] (fun _ _=>(pH isAgg9 (hi:=hix)))<|Cr [] (fun _ _=>aF)<|Cr [] (fun H1 hH=>by exact eB rfl rfl rfl (show IntKind.i64.wrap (15 - (d:Int))=((15 - d:Nat):Int)by rw [pO (by omega) (by omega)];omega))<|Cr [] (fun H1 hH=>by exact aA rfl rfl aLF rfl (hch _))<|Cr [] (fun H1 hH=>by exact aS [[.str (xX u (15 - d))]] rfl cP rfl rfl rfl rfl rfl (by intro r hr;rw [aLW] at hr;subst hr;rfl))<|Cp [905] (fun H1 hH=>by exact eK (ps:=[[.str (xX u (15 - d))]]) rfl cP TQ rfl ((hH _ rfl).trans rfl) rfl rfl rfl (iR _) rfl (by intro r hr;rw [aLW] at hr;subst hr;rfl) (m:=1) rfl (by omega) rfl (kC (YA m l k) (xX u (15 - d)))) ?_;refine Cp [9] (fun H1 hH=>by exact bT rfl sizeOf22 rfl rfl rfl rfl ((hH _ rfl).trans rfl) rfl rfl rfl)<|bJ<|Kr ?_;exact⟨[(905,⟨(YA m l k).length+1,1,9,dO (YA m l k++[xX u (15 - d)])⟩),(9,bx 1 22 [.osl 905 ((YA m l k).length+1) 0 ((YA m l k).length+1)]),(961,JD m),(5,bx 3 25 [iv (q:Int),.pv (aU l),.pv (aU p)])],(cD.wk trivial (Hc (jG (by intro p hp;simp only [vfE,aL5,aL9,or_false] at hp;rcases hp with rfl|rfl<;>(simp only [oV];rfl)))<|Hc (bV _ _)<|Ha<|Hc (uM _ _)<|Hb<|trivial) ⟨rfl,rfl,rfl,rfl,rfl,trivial⟩),rfl,rfl⟩
 rintro r H' ⟨rfl,rfl⟩;refine⟨x,_,rfl,by rw [hx1];decide,rfl,fun z=>?_⟩;rw [hx2,PT h18];have hen:∀ t∈xF m l,t.size≤16:=fun t ht=>by
  rw [← PT h18] at ht;obtain ⟨k,hk,rfl⟩:=List.mem_map.1 ht;exact Nat.le_of_eq (TA (rN (hlj _ (mW (by rw [h18];exact List.mem_range.1 hk)))) _)
 have hel:(xF m l).length=18:=by rw [← PT h18,X9]
 have hof:∀ H,aH Tryz.prog 98 [.pv (aU (xF m l))] H (fun r H'=>r=sv (zF (xF m l))∧H'=H):=fun H=>R2 (xF m l) H (by have h:=wF (b:=16) (by decide) _ hen;rw [hel] at h;omega);obtain ⟨S,hS⟩:∃ S,S=xF m l:=⟨_,rfl⟩;rw [← hS] at hof ⊢;have hal:(S.map encStr).length=S.length:=aLT _;refine fE.ent (cD.fzG (id:=905) (E':=[(0,sv key),(5,.ref 5 0 0 0),(9,.ref 9 0 0 0)]) (H':=[(9,bx 1 22 [.pv (aU S)]),(5,bx 3 25 [iv (q:Int),.pv (aU l),.pv (aU p)])]) (S.map encStr) rfl (fW _) ?_ rfl ?_ ?_) ?_
 ·intro p hp;simp only [aL5,aL9,or_false] at hp;rcases hp with rfl|rfl|rfl
  ·exact⟨_,rfl,.same (by simp)⟩
  ·exact⟨_,rfl,.same (by simp;rfl)⟩
  exact⟨_,rfl,.same (by simp;rfl)⟩
 ·refine⟨⟨_,rfl,rfl,rfl,rfl,nK rfl (cI (.osl ?_) nL)⟩,⟨_,rfl,rfl,rfl,rfl,fV (by simp)⟩,trivial⟩;rw [aLb,List.drop_zero,← hal,List.take_length]
 ·exact trivial
 refine Sr<|Dd (bK aJ)<|Dd (by exact aA rfl rfl QE rfl (hof _))<|Dd aP<|Zz<|Sq<|Sr<|Dd (bB mK)<|Dd (bK aJ)<|Dd (fY aD)<|Dd aF<|Zz<|aG ?_;have ha0:(zF S).size=16:=iM _;obtain ⟨a0,hA0⟩:∃ a0,a0=zF S:=⟨_,rfl⟩;rw [← hA0] at ha0 ⊢;refine jB (fun(k:Nat) (a:ByteArray)=>([(0,sv key),(5,.ref 5 0 0 0),(12,sv a),(68,.pv (aU p)),(69,iv ((p.map encStr).length:Int)),(70,iv (k:Int))],[(5,bx 3 25 [iv (q:Int),.pv (aU l),.pv (aU p)])])) (fun k a=>k≤p.length∧a.size=16∧xE a (p.drop k) (q / 2 ^ k)=xE a0 p q) (fun k a=>p.length - k) 0 a0 ⟨aLa _,ha0,by rw [List.drop_zero,Nat.pow_zero,Nat.div_one]⟩ ?_ ?_
 ·exact Wk
 rintro k a ⟨hk,ha,hf⟩;refine Sr<|Dd dK<|Zz<|Sq ?_;refine Cn ?_ ?_<;>intro hc2
 ·have hlt:k < p.length:=by have:=aLP hc2;omega
  have hix:(p.map encStr)[k]?=some (encStr (p.getD k sNil)):=by
   rw [aLd,List.getD_eq_getElem?_getD,aLY hlt];rfl
  have hdr:p.drop k=p.getD k sNil::p.drop (k+1):=by
   rw [List.drop_eq_getElem_cons hlt,List.getD_eq_getElem?_getD,aLY hlt];rfl
  have hosz:(p.getD k sNil).size=16:=rN (hpj _ (mW hlt));obtain ⟨o,ho⟩:∃ o,o=p.getD k sNil:=⟨_,rfl⟩;rw [← ho] at hix hdr hosz;have hqk:q / 2 ^ k < 4611686018427387904:=Nat.lt_of_le_of_lt (Nat.div_le_self _ _) (by omega);have hnd:=fun H=>XU a o (decide (((q / 2 ^ k % 2:Nat):Int)=1)) H (by omega) (by omega);have hbk:(decide (((q / 2 ^ k % 2:Nat):Int)=1)=true)=(q / 2 ^ k % 2=1):=by
   rw [aL0];exact propext ⟨fun h=>by omega,fun h=>by omega⟩
  simp only [hbk] at hnd;obtain ⟨b,hb⟩:∃ b,b=(if q / 2 ^ k % 2=1 then C2 o a else C2 a o):=⟨_,rfl⟩;have hbs:b.size=16:=by rw [hb];split<;>exact iM _
  have hf2:xE b (p.drop (k+1)) (q / 2 ^ (k+1))=xE a0 p q:=by
   rw [← hf,hdr,xE,← hb,Nat.pow_succ,Nat.div_div_eq_div_mul]
  rw [← hb] at hnd;have hnd2:∀ H,aH Tryz.prog 99 [sv a,sv o,bv (decide (((q / 2 ^ k % 2:Nat):Int)=1))] H (fun r H'=>r=sv b∧H'=H):=hnd;refine aE<|Sq<|aG<|Sr<|Dd aF<|Dd (by exact bN rfl cP rfl rfl (by omega) (by exact aL4 _) hix rfl)<|Dd (pH isAgg9 (hi:=hix))<|Dd aP<|Dd aP<|Zz<|Rg<|Dd aF<|Dd aF<|Dd (bB lS)<|Dd (bK isAgg3)<|Dd aF<|Dd (by exact GY rfl rfl rfl (by omega) (by simp [IntKind.bits];omega) (aEI q k (aL4 _)))<|Dd (by exact pF rfl (by simp) rfl rfl (aFm hqk))<|Dd cY<|Dd (by exact aA rfl rfl call99 rfl (hnd2 _))<|Dd aP<|Zz<|Rg<|Dd (by exact cA rfl rfl rfl (show IntKind.i64.wrap ((k:Int)+1)=((k+1:Nat):Int)by rw [pO (by omega) (by omega)];omega))<|Dd aF<|Zz ?_;exact⟨k+1,b,⟨by omega,hbs,hf2⟩,by omega,Wk⟩
 have hge:k=p.length:=by have:=aLQ hc2;omega
 subst hge;rw [List.drop_length,xE] at hf;rw [← hf];exact bG<|Sr<|Dd aF<|Dd aF<|Dd zZ<|Dd aP<|Zz<|aC<|Rt<|Qq
end Go.Proofs.YtiifmppaejpemaaGreatDoor
namespace Go.Abs
open Go.Proofs
section
section
variable {P:Program} {N:Nat} {o:Oper} {E:bO} {H:aB} {t t':TypeId} {x:Operand}
theorem IX (ho:o.op=.binOp .neq t x (.const .nilIface) t') (ht:P.underlying t=some (.interface (P.methodsAt t))) (hx:aN E x=some (.pv EN)):cB P N o E H (.pv (.bool false)) H :=.of_run fun a w I ι _ he=>⟨.bool false,by
  have e1:a.eval x=.nilIface:=(aI he hx).sat_inv;have e2:a.eval (.const .nilIface)=.nilIface:=rfl;simp only [execOp,ho,e1,e2,eqGuard,Sem.run_bind,Sem.run_pure,Result.andThen_ok,run_neq_nil_nil _ _ ht,Bool.or_true,if_true,Bool.not_true,Bool.false_eq_true,if_false],.pv (.bool _)⟩
theorem BF (ho:o.op=.binOp .neq t x (.const .nilIface) t') (ht:P.underlying t=some (.interface (P.methodsAt t))) (hx:aN E x=some (.pv aAM)):cB P N o E H (.pv (.bool true)) H :=.of_run fun a w I ι _ he=>⟨.bool true,by
  obtain ⟨q,p,e1⟩:aGG (a.eval x):=(aI he hx).sat_inv;have e2:a.eval (.const .nilIface)=.nilIface:=rfl;simp only [execOp,ho,e1,e2,eqGuard,Sem.run_bind,Sem.run_pure,Result.andThen_ok,run_neq_held_nil _ _ _ _ ht];rfl,.pv (.bool _)⟩
end
end
section
section
variable {P:Program} {N:Nat} {o:Oper} {E:bO} {H:aB} {t t' it:TypeId} {x:Operand}
theorem VRel.ifc_inv {w:World} {I:Nat→Prop} {ι:dR} {v:Value} {p:PV} (h:VRel w I ι H v (.pv (.ifc t p))):∃ u,v=.iface t u∧PRep w I u p:=by
 cases h with
 | pv h=>cases h with
  | ifc _ u _ h=>exact⟨u,rfl,h⟩
theorem VRel.ifa_inv {w:World} {I:Nat→Prop} {ι:dR} {v:Value} {ps:List PV} (h:VRel w I ι H v (.pv (.ifa t ps))):∃ cs:Array Value,v=.iface t (.agg cs)∧cs.size=ps.length∧∀ (k:Nat) (c:Value) (p:PV),cs[k]?=some c→ps[k]?=some p→PRep w I c p:=by
 cases h with
 | pv h=>cases h with
  | ifa _ cs _ hl h=>exact⟨cs,rfl,hl,h⟩
theorem eC {p:PV} (ho:o.op=.makeInterface t x) (ht:P.concrete t=true) (hx:aN E x=some (.pv p)):cB P N o E H (.pv (.ifc t p)) H :=.of_run fun a w I ι _ he=>⟨.iface t (a.eval x),by simp [execOp,ho,run_makeInterface _ _ _ ht],.pv (.ifc _ _ _ (aI he hx).pv_inv)⟩
theorem CU {ps:List PV} (ho:o.op=.makeInterface t x) (ht:P.concrete t=true) (hx:aN E x=some (.agg (ps.map .pv))):cB P N o E H (.pv (.ifa t ps)) H :=.of_run fun a w I ι _ he=>⟨.iface t (a.eval x),by simp [execOp,ho,run_makeInterface _ _ _ ht],by
  have h:=aI he hx;generalize a.eval x=c at h;cases h with
  | @agg vs _ hl h1 hh =>
   refine .pv (.ifa _ _ _ (by simpa using hl) fun k c p hc hp=>?_);exact(hh k c (.pv p) hc (by rw [aLd,hp];rfl)).pv_inv⟩
theorem UN {d:TypeDesc} {u:Value} (w:World) (hd:P.underlying t=some d) (hni:∀ ms,d≠.interface ms):(Instr.typeAssert (.iface t' u) it t true).run P w=if t'=t then .ok (.tuple #[u,.bool true]) w else((do pure (.tuple #[← zeroValue t,.bool false])):Sem Value).run P w:=by
 unfold Instr.typeAssert;rw [Sem.run_bind,run_underlying hd,Result.andThen_ok];cases d with
 | interface ms=>exact absurd rfl (hni ms)
 | _ =>
  simp only
  split
  ·rfl
  rfl
theorem zJ (h:P.concrete t=true):∃ d,P.underlying t=some d∧∀ ms,d≠.interface ms:=by
 unfold Program.concrete at h;cases hd:P.underlying t with
 | none=>rw [hd] at h;cases h
 | some d =>
  refine⟨d,rfl,fun ms e=>?_⟩;rw [hd,e] at h;cases h
theorem rD {p:PV} (ho:o.op=.typeAssert x it t true) (ht:P.concrete t=true) (hx:aN E x=some (.pv (.ifc t p))):cB P N o E H (.tup [.pv p,.pv (.bool true)]) H:=by
 obtain ⟨d,hd,hni⟩:=zJ ht;refine .of_run fun a w I ι _ he=>?_;obtain ⟨u,e1,h1⟩:=(aI he hx).ifc_inv;refine⟨.tuple #[u,.bool true],?_,?_⟩
 ·simp only [execOp,ho,e1];rw [Sem.run_bind,UN w hd hni,aLS rfl];rfl
 exact .tup rfl (fun i v a hv ha=>by
  match i with
  | 0=>cases hv;cases ha;exact .pv h1
  | 1=>cases hv;cases ha;exact .pv (.bool _)
  | i+2=>simp at ha)
theorem IW {ps:List PV} (ho:o.op=.typeAssert x it t true) (ht:P.concrete t=true) (hx:aN E x=some (.pv (.ifa t ps))):cB P N o E H (.tup [.agg (ps.map .pv),.pv (.bool true)]) H:=by
 obtain ⟨d,hd,hni⟩:=zJ ht;refine .of_run fun a w I ι _ he=>?_;obtain ⟨u,e1,hl,h1⟩:=(aI he hx).ifa_inv;refine⟨.tuple #[.agg u,.bool true],?_,?_⟩
 ·simp only [execOp,ho,e1];rw [Sem.run_bind,UN w hd hni,aLS rfl];rfl
 have hk:∀ (k:Nat) (c:Value),u[k]?=some c→∃ p,ps[k]?=some p∧PRep w I c p:=fun k c hc=>by
  have hlt:k < ps.length:=by rw [← hl];exact(Array.getElem?_eq_some_iff.1 hc).1
  exact⟨ps[k],aLY hlt,h1 k c _ hc (aLY hlt)⟩
 exact .tup rfl (fun i v a hv ha=>by
  match i with
  | 0 =>
   cases hv;cases ha;refine .agg (by simpa using hl) (fun k c hc=>?_) (fun k c b hc hb=>?_)
   ·obtain ⟨p,_,hp⟩:=hk k c hc;exact hp.oneCell
   obtain ⟨p,hp1,hp⟩:=hk k c hc;rw [aLd,hp1] at hb;cases hb;exact .pv hp
  | 1=>cases hv;cases ha;exact .pv (.bool _)
  | i+2=>simp at ha)
theorem aFz {cells:List AV} (ho:o.op=.typeAssert x it t true) (ht:P.concrete t=true) (hZ:dN P t cells) (hne:t'≠t)
  (hx:∀ (a:Act) (w:World) (I:Nat→Prop) (ι:dR),gQ w I ι H E a→∃ u,a.eval x=.iface t' u):cB P N o E H (.tup [.any,.pv (.bool false)]) H:=by
 obtain ⟨d,hd,hni⟩:=zJ ht;obtain ⟨z,v0,hz,_,_⟩:=hZ;refine .of_run fun a w I ι _ he=>?_;obtain ⟨u,e1⟩:=hx a w I ι he;refine⟨.tuple #[z,.bool false],?_,?_⟩
 ·simp only [execOp,ho,e1];rw [Sem.run_bind,UN w hd hni,aLR hne,Sem.run_bind,hz w];rfl
 exact .tup rfl (fun i v a hv ha=>by
  match i with
  | 0=>cases hv;cases ha;exact .any _
  | 1=>cases hv;cases ha;exact .pv (.bool _)
  | i+2=>simp at ha)
theorem iT {cells:List AV} {p:PV} (ho:o.op=.typeAssert x it t true) (ht:P.concrete t=true) (hZ:dN P t cells) (hne:Nat.beq t' t=false) (hx:aN E x=some (.pv (.ifc t' p))):cB P N o E H (.tup [.any,.pv (.bool false)]) H :=aFz ho ht hZ (fun e=>by subst e;rw [Nat.beq_refl] at hne;cases hne) (fun a w I ι he=>let ⟨u,e,_⟩:=(aI he hx).ifc_inv;⟨u,e⟩)
theorem vX {cells:List AV} {ps:List PV} (ho:o.op=.typeAssert x it t true) (ht:P.concrete t=true) (hZ:dN P t cells) (hne:Nat.beq t' t=false) (hx:aN E x=some (.pv (.ifa t' ps))):cB P N o E H (.tup [.any,.pv (.bool false)]) H :=aFz ho ht hZ (fun e=>by subst e;rw [Nat.beq_refl] at hne;cases hne) (fun a w I ι he=>let ⟨u,e,_⟩:=(aI he hx).ifa_inv;⟨_,e⟩)
end
end
section
section
variable {P:Program} {N:Nat} {o:Oper} {E:bO} {H:aB} {T T' t:TypeId} {x y:Operand}
theorem D9 {e e':TypeId} {ty:TypeId} {vs:Array Value} (w:World) (hT:P.underlying T=some (.slice e)) (hT':P.underlying T'=some (.slice e')):(Builtin.append_ #[T,T'] ty vs).run P w=(Builtin.append_ #[T,T] ty vs).run P w:=by
 unfold Builtin.append_;cases h0:vs[0]? with
 | none=>rfl
 | some s =>
  cases h1:vs[1]? with
  | none=>rfl
  | some u =>
   cases s<;>simp [Sem.run_bind,run_underlying hT,run_underlying hT']
theorem EL {e e':TypeId} {v:AV} {H2:aB} (ho:o.op=.call {callee:=.builtin .append,args:=#[x,y],argTypes:=#[T,T']}) (hT:P.underlying T=some (.slice e)) (hT':P.underlying T'=some (.slice e'))
  (h:cB P N {o with op:=.call {callee:=.builtin .append,args:=#[x,y],argTypes:=#[T,T]}} E H v H2):cB P N o E H v H2:=by
 intro a w I ι h1 h2 hr he K Q hk;have h3:=h a w I ι h1 h2 hr he K Q hk;unfold Oper.wpW execOp at h3 ⊢;simp only [ho,resolve,invoke,builtin,Sem.run_bind,Sem.run_pure,Result.andThen_ok,List.map_toArray,List.map_cons,List.map_nil,D9 w hT hT'] at h3 ⊢;exact h3
theorem YW {e e':TypeId} {id g n m k sz bytes:Nat} {ob:Ob} {ps:List (List PV)} {rows':List (List AV)} (ho:o.op=.call {callee:=.builtin .append,args:=#[x,y],argTypes:=#[T,T']}) (hT':P.underlying T'=some (.slice e')) (hS:dZ P T e sz) (hinf:EI P e sz bytes)
  (hx:aN E x=some (.osl id g 0 n)) (hH:H.get id=some ob) (hg:ob.g=g) (hosz:ob.sz=sz) (hty:ob.ty=e) (hn:ob.rows.length=n)
  (hy:aN E y=some (.pv (.sl ps))) (hrl:∀ r∈ps,r.length=sz) (hm:ps.length=m) (hbytes:(n+m)*bytes≤140737488355328) (hk:n+m=k) (hrows:ob.rows++ps.map (·.map AV.pv)=rows') :
  cB P N o E H (.osl id (g+1) 0 k) ((id,⟨g+1,sz,e,rows'⟩)::H) :=
 EL ho hS.1 hT' (eK rfl hS hinf hx hH hg hosz hty hn hy hrl hm hbytes hk hrows)
end
end
end Go.Abs
namespace Go.Proofs.YtiifmppaejpemaaGreatDoor
open Go.Proofs.Tryz
open Go.Abs
inductive IV where
 | n (x:Int)
 | t (s:ByteArray)
 | b (x:Bool)
 | l (ts:List ByteArray)
 | z (i:Int) (a b:List ByteArray)
 | p (ps:List (Int×Int))
def fM (q:Int×Int):List PV:=[.int .i64 q.1,.int .i64 q.2]
def pA (l:List (Int×Int)):PV:=.sl (l.map fM)
def aKe:IV→PV
 | .n x=>.ifc 3 (.int .i64 x)
 | .t s=>.ifc 9 (.str s)
 | .b x=>.ifc 4 (.bool x)
 | .l ts=>.ifc 22 (aU ts)
 | .z i a b=>.ifa 25 [.int .i64 i,aU a,aU b]
 | .p ps=>.ifc 26 (pA ps)
def tO (v:IV):List PV:=[aKe v]
def fI:IV→List ByteArray
 | .n x=>[bL x]
 | .t s=>[s]
 | .b x=>[bL (if x then 1 else 0)]
 | .l ts=>bL (ts.length:Int)::ts
 | .z i a b=>bL i::((bL (a.length:Int)::a)++(bL (b.length:Int)::b))
 | .p ps=>bL (ps.length:Int)::ps.flatMap fun q=>[bL q.1,bL q.2]
def gI:IV→Nat
 | .n _=>1
 | .t _=>1
 | .b _=>1
 | .l _=>2
 | .z _ _ _=>5
 | .p ps=>1+2*ps.length
def rkI:IV→Nat
 | .n _=>0
 | .t _=>0
 | .b _=>1
 | .l _=>1
 | .z _ _ _=>2
 | .p _=>1
def oP (x:Int):Prop := -9223372036854775808≤x∧x≤9223372036854775807
def okI:IV→Prop
 | .n x=>oP x
 | .t _=>True
 | .b _=>True
 | .l ts=>ts.length < 1099511627776
 | .z i a b=>oP i∧a.length < 1099511627776∧b.length < 1099511627776
 | .p ps=>ps.length < 1099511627776∧∀ q∈ps,oP q.1∧oP q.2
def tN (l:List IV):List ByteArray:=l.flatMap fI
def VY (l:List IV):Nat:=(l.map gI).sum
theorem aCi {l:List IV} {k:Nat} {v:IV} (h:l[k]?=some v):tN (l.take (k+1))=tN (l.take k)++fI v:=by rw [tN,List.take_add_one,h,List.flatMap_append];simp [tN]
theorem aCc {l:List IV} {k:Nat} {v:IV} (h:l[k]?=some v):VY (l.take (k+1))=VY (l.take k)+gI v:=by rw [VY,List.take_add_one,h,List.map_append,List.sum_append];simp [VY]
theorem aH7 (l:List IV) (k:Nat):(tN (l.take k)).length≤(tN l).length:=by
 have h:tN l=tN (l.take k)++tN (l.drop k):=by rw [tN,tN,tN,← List.flatMap_append,List.take_append_drop]
 rw [h,aLU];omega
def fH (g:Nat) (L:List ByteArray):aB:=[(971,⟨g,1,9,dO L⟩),(970,bx 1 77 [.osl 971 g 0 L.length])]
theorem aCj (g:Nat) (L:List ByteArray) (s:ByteArray):fH (g+1) (L++[s])=[(971,⟨g+1,1,9,dO (L++[s])⟩),(970,bx 1 77 [.osl 971 (g+1) 0 (L.length+1)])]:=by simp [fH]
theorem cG {P:Program} {t:TypeId} {d:TypeDesc} (h:P.underlying t=some d) (hd:(match d with|.interface _=>false|_=>true)=true):P.concrete t=true:=by unfold Program.concrete;rw [h];cases d<;>first|rfl|cases hd
theorem JZ (l:List IV):∀ r∈l.map tO,r.length=1:=fun r hr=>by
 obtain ⟨t,_,rfl⟩:=List.mem_map.1 hr;rfl
def aD6 (r:Nat):Prop:=∀ (l:List IV),(∀ v∈l,rkI v < r∧okI v)→∀ (g:Nat) (L:List ByteArray),l.length < 1099511627776→L.length+(tN l).length < 1099511627776 →
 aH Tryz.prog 46 [.ref 970 0 0 0,.pv (.sl (l.map tO))] (fH g L) (fun r H'=>r=.tup []∧H'=fH (g+VY l) (L++tN l))
def KL (ps:List (Int×Int)):List ByteArray:=ps.flatMap fun q=>[bL q.1,bL q.2]
theorem GX:∀ ps:List (Int×Int),(KL ps).length=2*ps.length
 | []=>rfl
 | q::r=>by
  have ih:=GX r;rw [show KL (q::r)=bL q.1::bL q.2::KL r from rfl,aLV,aLV,aLV,ih];omega
theorem aBf {ps:List (Int×Int)} {j:Nat} {q:Int×Int} (h:ps[j]?=some q):KL (ps.take (j+1))=KL (ps.take j)++tN [.n q.1,.n q.2]:=by rw [KL,List.take_add_one,h,List.flatMap_append];rfl
theorem TK {args:List AV} {g g':Nat} {L L':List ByteArray} {H:aB} (h:aH Tryz.prog 46 args (fH g L) (fun r H'=>r=.tup []∧H'=fH g' L')) (hs:KP H (fH g L)) (ha:∀ a∈args,Clo (fH g L) a) :
  aH Tryz.prog 46 args H (fun r H'=>r=.tup []∧H'=fH g' L'++H):=aH.frame h (KP.sub hs) (cZ.ofL ⟨(by exact bV _ _),(by(simp;rfl)),trivial⟩) ha (fun id h=>.inl (X4 h))
theorem T0 (A ts:List ByteArray):dO A++(ts.map encStr).map (·.map AV.pv)=dO (A++ts):=by rw [← fW,dO,dO,dO,List.map_append]
theorem aDz (ts:List ByteArray):∀ r∈ts.map encStr,r.length=1:=fun r hr=>by
 obtain ⟨t,_,rfl⟩:=List.mem_map.1 hr;rfl
theorem aFP (g:Nat) (A B:List ByteArray):fH g (A++B)=[(971,⟨g,1,9,dO (A++B)⟩),(970,bx 1 77 [.osl 971 g 0 (A.length+B.length)])]:=by simp [fH]
theorem aDR (r:Nat) (ih:∀ q,q < r→aD6 q):aD6 r:=by
 intro l hl g L hll hLl;have hml:(l.map tO).length=l.length:=aLT _;have one:∀ (y:Int),oP y→1 < r→∀ (g':Nat) (L':List ByteArray),L'.length+1 < 1099511627776→aH Tryz.prog 46 [.ref 970 0 0 0,.pv (.sl [tO (.n y)])] (fH g' L') (fun r H'=>r=.tup []∧H'=fH (g'+1) (L'++[bL y])):=fun y hy h1 g' L' hs =>
  ih 1 h1 [.n y] (fun v hv=>by rw [aLW] at hv;subst hv;exact⟨by simp [rkI],hy⟩) g' L' (by simp) hs
 refine Bd func46 rfl ntmps46<|Sr<|Dd aF<|Dd (fY underlying136)<|Dd aF<|Zz<|aG ?_;refine bQ (σ:=Nat) (fun k=>([(0,.ref 970 0 0 0),(14,.pv (.sl (l.map tO))),(15,iv ((l.map tO).length:Int)),(16,iv (k:Int))],fH (g+VY (l.take k)) (L++tN (l.take k)))) (fun k=>k≤l.length) (fun k=>l.length - k) 0 (aLa _) ?_ ?_
 ·simp only [tN,VY,List.take_zero,List.flatMap_nil,List.map_nil,List.sum_nil,Nat.add_zero,List.append_nil];exact(cD.wk (Ea<|Eb<|Eb<|Eb<|trivial) (Hc (bV _ _)<|Ha<|trivial) ⟨rfl,rfl,trivial⟩)
 intro k hk;refine Sr<|Dd dK<|Zz<|Sq ?_;refine Cn ?_ ?_<;>intro hc1
 ·have hlt:k < l.length:=by have:=aLP hc1;omega
  obtain ⟨v,hv⟩:=bE hlt;obtain ⟨hrk,hok⟩:=hl v (aL3 hv);have hi:=cJ (f:=tO) hv;have hfn:=aCi hv;have hgn:=aCc hv;have hle:=aH7 l (k+1);rw [hfn] at hle;obtain ⟨L1,hL1⟩:∃ L1,L1=L++tN (l.take k):=⟨_,rfl⟩;obtain ⟨g1,hg1⟩:∃ g1,g1=g+VY (l.take k):=⟨_,rfl⟩;have hL2:L++tN (l.take (k+1))=L1++fI v:=by rw [hfn,hL1,List.append_assoc]
  have hg2:g+VY (l.take (k+1))=g1+gI v:=by rw [hgn,hg1,Nat.add_assoc]
  have hsz:L1.length+(fI v).length < 1099511627776:=by
   rw [aLU] at hle;rw [hL1,aLU];omega
  have hwk:IntKind.i64.wrap ((k:Int)+1)=((k+1:Nat):Int):=by rw [pO (by omega) (by omega)];omega
  rw [← hL1,← hg1];clear hfn hgn hle;cases v with
  | n x =>
   have hx:oP x:=hok;have hsz:L1.length+1 < 1099511627776:=hsz;refine aE<|Sq<|aG<|Sr<|Dd (by exact bN rfl sN rfl rfl (by omega) (by exact aL4 _) hi rfl)<|Dd (pH pN (hi:=hi))<|Dd aP<|Zz<|Sr<|Dd aF<|Zz<|aG<|Sr<|Dd (by exact rD rfl (cG underlying3 rfl) rfl)<|Dd dV<|Dd dV<|Zz ?_;refine Cn ?_ ?_<;>intro hc2
   ·refine Sr<|Dd aP<|Zz<|aQ follows<|Cr [970] (fun _ _=>aF)<|Cr [970] (fun _ _=>aF)<|Cr [970] (fun H1 hH=>by exact eJ rfl rfl ((hH _ rfl).trans rfl) rfl)<|Cr [970] (fun _ h=>lh AT h)<|Cr [] (fun _ _=>aF)<|Cr [] (fun H1 hH=>by exact aA rfl rfl mO rfl (qH x hx.1 hx.2 _))<|Cr [] (fun H1 hH=>by exact aS [[.str (bL x)]] rfl UH rfl rfl rfl rfl rfl (by intro r hr;rw [aLW] at hr;subst hr;rfl))<|Cp [971] (fun H1 hH=>by exact eK (ps:=[[.str (bL x)]]) rfl UH TQ rfl ((hH _ rfl).trans rfl) rfl rfl rfl (iR _) rfl (by intro r hr;rw [aLW] at hr;subst hr;rfl) (m:=1) rfl (by omega) rfl (kC L1 (bL x)))<|Cr [970] (fun H1 hH=>by exact eJ rfl rfl ((hH _ rfl).trans rfl) rfl)<|Cp [970] (fun H1 hH=>by exact bT rfl FI rfl rfl rfl rfl ((hH _ rfl).trans rfl) rfl rfl rfl) ?_;refine bJ<|Kr<|Rg<|Dd (by exact cA rfl rfl rfl hwk)<|Dd aF<|Zz ?_;refine⟨k+1,by omega,by omega,?_⟩;dsimp only;rw [hL2,hg2,show fI (.n x)=[bL x] from rfl,show gI (.n x)=1 from rfl,aCj];exact(cD.wk (Ea<|Eb<|Eb<|Eb<|trivial) (Hc (bV _ _)<|Ha<|trivial) ⟨rfl,rfl,trivial⟩)
   cases hc2
  | t s =>
   have hsz:L1.length+1 < 1099511627776:=hsz;refine aE<|Sq<|aG<|Sr<|Dd (by exact bN rfl sN rfl rfl (by omega) (by exact aL4 _) hi rfl)<|Dd (pH pN (hi:=hi))<|Dd aP<|Zz<|Sr<|Dd aF<|Zz<|aG<|Sr<|Dd (by exact iT rfl (cG underlying3 rfl) zo3 rfl rfl)<|Dd dV<|Dd dV<|Zz ?_;refine Cn ?_ ?_<;>intro hc3
   ·cases hc3
   refine Sr<|Dd (by exact rD rfl (cG underlying9 rfl) rfl)<|Dd dV<|Dd dV<|Zz ?_;refine Cn ?_ ?_<;>intro hc4
   ·refine Sr<|Dd aP<|Zz<|Rg<|Dd aF<|Dd aF<|Dd xQ<|Dd (bK AT)<|Dd aF<|Dd (by exact aS [[.str s]] rfl UH rfl rfl rfl rfl rfl (by intro r hr;rw [aLW] at hr;subst hr;rfl))<|Dd (by exact eK (ps:=[[.str s]]) rfl UH TQ rfl rfl rfl rfl rfl (iR _) rfl (by intro r hr;rw [aLW] at hr;subst hr;rfl) (m:=1) rfl (by omega) rfl (kC L1 s))<|Dd xQ<|Uu (iH FI)<|Zz<|Rg<|Dd (by exact cA rfl rfl rfl hwk)<|Dd aF<|Zz ?_;refine⟨k+1,by omega,by omega,?_⟩;dsimp only;rw [hL2,hg2,show fI (.t s)=[s] from rfl,show gI (.t s)=1 from rfl,aCj];exact(cD.wk (Ea<|Eb<|Eb<|Eb<|trivial) (Hc (bV _ _)<|Ha<|trivial) ⟨rfl,rfl,trivial⟩)
   cases hc4
  | b x =>
   have h1r:1 < r:=hrk;have hsz:L1.length+1 < 1099511627776:=hsz;refine aE<|Sq<|aG<|Sr<|Dd (by exact bN rfl sN rfl rfl (by omega) (by exact aL4 _) hi rfl)<|Dd (pH pN (hi:=hi))<|Dd aP<|Zz<|Sr<|Dd aF<|Zz<|aG<|Sr<|Dd (by exact iT rfl (cG underlying3 rfl) zo3 rfl rfl)<|Dd dV<|Dd dV<|Zz ?_;refine Cn ?_ ?_<;>intro hc5
   ·cases hc5
   refine Sr<|Dd (by exact iT rfl (cG underlying9 rfl) zo9 rfl rfl)<|Dd dV<|Dd dV<|Zz ?_;refine Cn ?_ ?_<;>intro hc6
   ·cases hc6
   refine Sr<|Dd (by exact rD rfl (cG cL rfl) rfl)<|Dd dV<|Dd dV<|Zz ?_;refine Cn ?_ ?_<;>intro hc7
   ·refine Sr<|Dd aP<|Zz<|Rg<|Dd aF<|Dd (by exact FW (id:=948) aDB rfl rfl)<|Uu (by exact FM (κ:=aDB) (.inr rfl) underlying137 cL rfl rfl rfl rfl rfl rfl rfl rfl)<|Dd aF<|Dd aF<|Dd (by exact IY (κ:=aDB) rfl underlying137 cL rfl rfl rfl rfl rfl zP (.inl rfl))<|Dd (by exact eC (p:=.int .i64 (if x then 1 else 0)) rfl (cG underlying3 rfl) (by cases x<;>rfl))<|Dd (by exact aS [tO (.n (if x then 1 else 0))] rfl sN rfl rfl rfl rfl rfl (by intro r hr;rw [aLW] at hr;subst hr;rfl))<|Dd (by exact aA rfl rfl sE rfl (TK (one (if x then 1 else 0) (by cases x<;>exact⟨by decide,by decide⟩) h1r g1 L1 hsz) ⟨rfl,rfl,trivial⟩ (by simp;rfl)))<|Zz<|Rg<|Dd (by exact cA rfl rfl rfl hwk)<|Dd aF<|Zz ?_;refine⟨k+1,by omega,by omega,?_⟩;dsimp only;rw [hL2,hg2,show fI (.b x)=[bL (if x then 1 else 0)] from rfl,show gI (.b x)=1 from rfl];exact(cD.wk (Ea<|Eb<|Eb<|Eb<|trivial) (Hc (bV _ _)<|Ha<|trivial) ⟨rfl,rfl,trivial⟩)
   cases hc7
  | l ts =>
   have h1r:1 < r:=hrk;have hsz:L1.length+(ts.length+1) < 1099511627776:=hsz;have hmt:(ts.map encStr).length=ts.length:=aLT _;obtain ⟨y,hy⟩:∃ y,y=((ts.map encStr).length:Int):=⟨_,rfl⟩;have hyo:oP y:=⟨by omega,by omega⟩;have hfl:L1++fI (.l ts)=(L1++[bL y])++ts:=by rw [hy,hmt,List.append_assoc];rfl
   have hll1:(L1++[bL y]).length=L1.length+1:=by rw [aLU];rfl
   refine aE<|Sq<|aG<|Sr<|Dd (by exact bN rfl sN rfl rfl (by omega) (by exact aL4 _) hi rfl)<|Dd (pH pN (hi:=hi))<|Dd aP<|Zz<|Sr<|Dd aF<|Zz<|aG<|Sr<|Dd (by exact iT rfl (cG underlying3 rfl) zo3 rfl rfl)<|Dd dV<|Dd dV<|Zz ?_;refine Cn ?_ ?_<;>intro hc8
   ·cases hc8
   refine Sr<|Dd (by exact iT rfl (cG underlying9 rfl) zo9 rfl rfl)<|Dd dV<|Dd dV<|Zz ?_;refine Cn ?_ ?_<;>intro hc9
   ·cases hc9
   refine Sr<|Dd (by exact iT rfl (cG cL rfl) zo4 rfl rfl)<|Dd dV<|Dd dV<|Zz ?_;refine Cn ?_ ?_<;>intro hc10
   ·cases hc10
   refine Sr<|Dd (by exact rD rfl (cG aD rfl) rfl)<|Dd dV<|Dd dV<|Zz ?_;refine Cn ?_ ?_<;>intro hc11
   ·refine Sr<|Dd aP<|Zz<|Sr<|Dd aF<|Dd aF<|Dd (by exact cB.eqJ (jR rfl cP.1 rfl) (congrArg (fun n:Int=>AV.pv (.int .i64 n)) hy.symm))<|Dd (by exact eC (p:=.int .i64 y) rfl (cG underlying3 rfl) rfl)<|Dd (by exact aS [tO (.n y)] rfl sN rfl rfl rfl rfl rfl (by intro r hr;rw [aLW] at hr;subst hr;rfl))<|Dd (by exact aA rfl rfl sE rfl (TK (one y hyo h1r g1 L1 (by omega)) ⟨rfl,rfl,trivial⟩ (by simp;rfl)))<|Zz<|Rg<|Dd aF<|Dd aF<|Dd xQ<|Dd (bK AT)<|Dd aF<|Dd (by exact YW (ps:=ts.map encStr) rfl aD UH TQ rfl rfl rfl rfl rfl (iR _) rfl (aDz ts) (m:=ts.length) hmt (by rw [hll1];omega) rfl (T0 (L1++[bL y]) ts))<|Dd xQ<|Uu (iH FI)<|Zz<|Rg<|Dd (by exact cA rfl rfl rfl hwk)<|Dd aF<|Zz ?_;refine⟨k+1,by omega,by omega,?_⟩;dsimp only;rw [hL2,hg2,hfl,show gI (.l ts)=2 from rfl,aFP (g1+2) (L1++[bL y]) ts];exact(cD.wk (Ea<|Eb<|Eb<|Eb<|trivial) (Hc (bV _ _)<|Ha<|trivial) ⟨rfl,rfl,trivial⟩)
   cases hc11
  | z i a b =>
   have h2r:2 < r:=hrk;obtain ⟨hio,hao,hbo⟩:oP i∧a.length < 1099511627776∧b.length < 1099511627776:=hok;have e3:tN [.n i,.l a,.l b]=fI (.z i a b):=by simp [tN,fI]
   have h3:=ih 2 h2r [.n i,.l a,.l b] (by
    intro v hv;simp only [aL5,aL9,or_false] at hv;rcases hv with rfl|rfl|rfl
    ·exact⟨by simp [rkI],hio⟩
    ·exact⟨by simp [rkI],hao⟩
    exact⟨by simp [rkI],hbo⟩) g1 L1 (by simp) (by rw [e3];exact hsz)
   rw [e3] at h3;refine aE<|Sq<|aG<|Sr<|Dd (by exact bN rfl sN rfl rfl (by omega) (by exact aL4 _) hi rfl)<|Dd (pH pN (hi:=hi))<|Dd aP<|Zz<|Sr<|Dd aF<|Zz<|aG<|Sr<|Dd (by exact vX rfl (cG underlying3 rfl) zo3 rfl rfl)<|Dd dV<|Dd dV<|Zz ?_;refine Cn ?_ ?_<;>intro hc12
   ·cases hc12
   refine Sr<|Dd (by exact vX rfl (cG underlying9 rfl) zo9 rfl rfl)<|Dd dV<|Dd dV<|Zz ?_;refine Cn ?_ ?_<;>intro hc13
   ·cases hc13
   refine Sr<|Dd (by exact vX rfl (cG cL rfl) zo4 rfl rfl)<|Dd dV<|Dd dV<|Zz ?_;refine Cn ?_ ?_<;>intro hc14
   ·cases hc14
   refine Sr<|Dd (by exact vX rfl (cG aD rfl) aIR rfl rfl)<|Dd dV<|Dd dV<|Zz ?_;refine Cn ?_ ?_<;>intro hc15
   ·cases hc15
   refine Sr<|Dd (by exact IW (ps:=[.int .i64 i,aU a,aU b]) rfl (cG fC rfl) rfl)<|Dd dV<|Dd dV<|Zz ?_;refine Cn ?_ ?_<;>intro hc16
   ·refine Sr<|Dd (by exact bC (id:=10) rfl YT rfl rfl)<|Uu (iH sizeOf25)<|Zz<|Rg<|Dd aF<|Dd (bB lS)<|Dd (bK isAgg3)<|Dd (by exact eC (p:=.int .i64 i) rfl (cG underlying3 rfl) rfl)<|Dd (bB iL)<|Dd (bK aJ)<|Dd (by exact eC (p:=aU a) rfl (cG aD rfl) rfl)<|Dd (bB mK)<|Dd (bK aJ)<|Dd (by exact eC (p:=aU b) rfl (cG aD rfl) rfl)<|Dd (by exact aS [tO (.n i),tO (.l a),tO (.l b)] rfl sN rfl rfl rfl rfl rfl (by intro r hr;simp only [aL5,aL9,or_false] at hr;rcases hr with rfl|rfl|rfl<;>rfl))<|Dd (by exact aA rfl rfl sE rfl (TK h3 ⟨rfl,rfl,trivial⟩ (by simp;rfl)))<|Zz<|Rg<|Dd (by exact cA rfl rfl rfl hwk)<|Dd aF<|Zz ?_;refine⟨k+1,by omega,by omega,?_⟩;dsimp only;rw [hL2,hg2];exact(cD.wk (Ea<|Eb<|Eb<|Eb<|trivial) (Hc (bV _ _)<|Ha<|trivial) ⟨rfl,rfl,trivial⟩)
   cases hc16
  | p ps =>
   have h1r:1 < r:=hrk;obtain ⟨hpl,hpo⟩:ps.length < 1099511627776∧∀ q∈ps,oP q.1∧oP q.2:=hok;have hfp:∀ j,KL (ps.take j)=(ps.take j).flatMap (fun q=>[bL q.1,bL q.2]):=fun _=>rfl;have hsz:L1.length+(1+2*ps.length) < 1099511627776:=by
    have:(fI (.p ps)).length=1+2*ps.length:=by rw [show fI (.p ps)=bL (ps.length:Int)::KL ps from rfl,aLV,GX];omega
    omega
   have hmt:(ps.map fM).length=ps.length:=aLT _;obtain ⟨y,hy⟩:∃ y,y=((ps.map fM).length:Int):=⟨_,rfl⟩;have hyo:oP y:=⟨by omega,by omega⟩;have hfl:L1++fI (.p ps)=(L1++[bL y])++KL ps:=by rw [hy,hmt,List.append_assoc];rfl
   refine aE<|Sq<|aG<|Sr<|Dd (by exact bN rfl sN rfl rfl (by omega) (by exact aL4 _) hi rfl)<|Dd (pH pN (hi:=hi))<|Dd aP<|Zz<|Sr<|Dd aF<|Zz<|aG<|Sr<|Dd (by exact iT rfl (cG underlying3 rfl) zo3 rfl rfl)<|Dd dV<|Dd dV<|Zz ?_;refine Cn ?_ ?_<;>intro hc17
   ·cases hc17
   refine Sr<|Dd (by exact iT rfl (cG underlying9 rfl) zo9 rfl rfl)<|Dd dV<|Dd dV<|Zz ?_;refine Cn ?_ ?_<;>intro hc18
   ·cases hc18
   refine Sr<|Dd (by exact iT rfl (cG cL rfl) zo4 rfl rfl)<|Dd dV<|Dd dV<|Zz ?_;refine Cn ?_ ?_<;>intro hc19
   ·cases hc19
   refine Sr<|Dd (by exact iT rfl (cG aD rfl) aIR rfl rfl)<|Dd dV<|Dd dV<|Zz ?_;refine Cn ?_ ?_<;>intro hc20
   ·cases hc20
   refine Sr<|Dd (by exact iT rfl (cG fC rfl) YT rfl rfl)<|Dd dV<|Dd dV<|Zz ?_;refine Cn ?_ ?_<;>intro hc21
   ·cases hc21
   refine Sr<|Dd (by exact rD rfl (cG dP rfl) rfl)<|Dd dV<|Dd dV<|Zz ?_;refine Cn ?_ ?_<;>intro hc22
   ·refine Sr<|Dd aP<|Zz<|Sr<|Dd aF<|Dd aF<|Dd (by exact cB.eqJ (jR rfl Q5.1 rfl) (congrArg (fun n:Int=>AV.pv (.int .i64 n)) hy.symm))<|Dd (by exact eC (p:=.int .i64 y) rfl (cG underlying3 rfl) rfl)<|Dd (by exact aS [tO (.n y)] rfl sN rfl rfl rfl rfl rfl (by intro r hr;rw [aLW] at hr;subst hr;rfl))<|Dd (by exact aA rfl rfl sE rfl (TK (one y hyo h1r g1 L1 (by omega)) ⟨rfl,rfl,trivial⟩ (by simp;rfl)))<|Zz<|Sr<|Dd aF<|Dd (fY dP)<|Dd aF<|Zz<|aG ?_;refine bQ (σ:=Nat) (fun j=>([(0,.ref 970 0 0 0),(14,.pv (.sl (l.map tO))),(15,iv ((l.map tO).length:Int)),(16,iv (k:Int)),(95,.pv (pA ps)),(96,iv ((ps.map fM).length:Int)),(97,iv (j:Int))],fH (g1+1+2*j) ((L1++[bL y])++KL (ps.take j)))) (fun j=>j≤ps.length) (fun j=>ps.length - j) 0 (aLa _) ?_ ?_
    ·rw [show KL (ps.take 0)=[] from rfl,List.append_nil];exact(cD.wk (Ea<|Eb<|Eb<|Eb<|Eb<|Eb<|Eb<|trivial) (Hc (bV _ _)<|Ha<|trivial) ⟨rfl,rfl,trivial⟩)
    intro j hj;refine Sr<|Dd dK<|Zz<|Sq ?_;refine Cn ?_ ?_<;>intro hc23
    ·have hjl:j < ps.length:=by have:=aLP hc23;omega
     obtain ⟨q,hq⟩:=bE hjl;have hqi:=cJ (f:=fM) hq;obtain ⟨hq1,hq2⟩:=hpo q (aL3 hq);have hnx:=aBf hq;have hln:(L1++[bL y]++KL (ps.take j)).length=L1.length+1+2*j:=by rw [aLU,aLU,GX,aL7];simp;omega
     have h2:=ih 1 h1r [.n q.1,.n q.2] (by
      intro v hv;simp only [aL5,aL9,or_false] at hv;rcases hv with rfl|rfl
      ·exact⟨by simp [rkI],hq1⟩
      exact⟨by simp [rkI],hq2⟩) (g1+1+2*j) (L1++[bL y]++KL (ps.take j)) (by simp) (by rw [hln];show L1.length+1+2*j+2 < _;omega)
     refine aE<|Sq<|aG<|Sr<|Dd (by exact bN rfl Q5 rfl rfl (by omega) (by exact aL4 _) hqi rfl)<|Dd (by exact cQ rfl dQ sizeOf73 rfl hqi (by simp only [Zl,encStr];rfl) rfl)<|Dd (by exact bC (id:=13) rfl aIN rfl rfl)<|Uu (iH sizeOf73)<|Zz<|Rg<|Dd aF<|Dd (bB tK)<|Dd (bK isAgg3)<|Dd (by exact eC (p:=.int .i64 q.1) rfl (cG underlying3 rfl) rfl)<|Dd (bB tJ)<|Dd (bK isAgg3)<|Dd (by exact eC (p:=.int .i64 q.2) rfl (cG underlying3 rfl) rfl)<|Dd (by exact aS [tO (.n q.1),tO (.n q.2)] rfl sN rfl rfl rfl rfl rfl (by intro r hr;simp only [aL5,aL9,or_false] at hr;rcases hr with rfl|rfl<;>rfl))<|Dd (by exact aA rfl rfl sE rfl (TK h2 ⟨rfl,rfl,trivial⟩ (by simp;rfl)))<|Zz<|Rg<|Dd (by exact cA rfl rfl rfl (show IntKind.i64.wrap ((j:Int)+1)=((j+1:Nat):Int)by rw [pO (by omega) (by omega)];omega)) ?_;refine Dd aF<|Zz ?_;refine⟨j+1,by omega,by omega,?_⟩;dsimp only;rw [hnx,← List.append_assoc,show g1+1+2*(j+1)=g1+1+2*j+VY [.n q.1,.n q.2] from rfl];exact(cD.wk (Ea<|Eb<|Eb<|Eb<|Eb<|Eb<|Eb<|trivial) (Hc (bV _ _)<|Ha<|trivial) ⟨rfl,rfl,trivial⟩)
    have hjg:j=ps.length:=by have:=aLQ hc23;omega
    subst hjg;rw [List.take_length];refine bG<|Rg<|Dd (by exact cA rfl rfl rfl hwk)<|Dd aF<|Zz ?_;refine⟨k+1,by omega,by omega,?_⟩;dsimp only;rw [hL2,hg2,hfl,show g1+gI (.p ps)=g1+1+2*ps.length from(Nat.add_assoc _ _ _).symm];exact(cD.wk (Ea<|Eb<|Eb<|Eb<|trivial) (Hc (bV _ _)<|Ha<|trivial) ⟨rfl,rfl,trivial⟩)
   cases hc22
 have hge:k=l.length:=by have:=aLQ hc1;omega
 subst hge;rw [List.take_length];refine bG ?_;exact pL (.inl rfl) rfl Fin.refl ⟨rfl,rfl⟩
theorem aHu (r:Nat):aD6 r:=Nat.strongRecOn r (fun r ih=>aDR r ih)
theorem aIg (v:IV):rkI v < 3:=by cases v<;>simp [rkI]
theorem WR (l:List IV) (hl:∀ v∈l,okI v) (g:Nat) (L:List ByteArray) (hll:l.length < 1099511627776) (hs:L.length+(tN l).length < 1099511627776) :
  aH Tryz.prog 46 [.ref 970 0 0 0,.pv (.sl (l.map tO))] (fH g L) (fun r H'=>r=.tup []∧H'=fH (g+VY l) (L++tN l)) :=
 aHu 3 l (fun v hv=>⟨aIg v,hl v hv⟩) g L hll hs
structure GSeal where
 idx:Int
 sig:List ByteArray
 path:List ByteArray
 deriving DecidableEq
structure GPriv where
 name:ByteArray
 reason:ByteArray
 sources:List ByteArray
 trace:List (Int×Int)
 sl:GSeal
 deriving DecidableEq
structure GRec where
 kind:Int
 author:Int
 number:Int
 clock:Int
 branch:ByteArray
 parents:List ByteArray
 edits:List GEdit
 target:ByteArray
 yes:Bool
 order:Int
 from':ByteArray
 sl:GSeal
 priv:GPriv
def iB (s:GSeal):List PV:=[.int .i64 s.idx,aU s.sig,aU s.path]
def qM (p:GPriv):List PV:=[.str p.name,.str p.reason,aU p.sources,pA p.trace,.int .i64 p.sl.idx,aU p.sl.sig,aU p.sl.path]
def bM (r:GRec):List PV:=[.int .i64 r.kind,.int .i64 r.author,.int .i64 r.number,.int .i64 r.clock,.str r.branch,aU r.parents,iO r.edits,.str r.target,.bool r.yes,.int .i64 r.order,.str r.from',.int .i64 r.sl.idx,aU r.sl.sig,aU r.sl.path,.str r.priv.name,.str r.priv.reason,aU r.priv.sources,pA r.priv.trace,.int .i64 r.priv.sl.idx,aU r.priv.sl.sig,aU r.priv.sl.path]
def LH (l:List ByteArray):Prop:=l.length < 1099511627776∧∀ t∈l,t.size < 1099511627776
def rI (s:GSeal):Prop:=oP s.idx∧LH s.sig∧LH s.path
def VC (p:GPriv):Prop:=p.name.size < 1099511627776∧p.reason.size < 1099511627776∧LH p.sources∧p.trace.length < 1099511627776∧rI p.sl
def aGk (q:ByteArray→Bool) (l:List ByteArray) (k:Nat):Bool:=match l[k]? with|some s=>q s|none=>false
theorem aE7 (q:ByteArray→Bool) (l:List ByteArray):(List.range l.length).any (aGk q l)=l.any q:=N4 l q
theorem J3 (f:FuncId) (l:List ByteArray) (q:ByteArray→Bool) (hl:l.length < 1099511627776) (hf:∀ s∈l,cC Tryz.prog (.pv (.fn f)) [sv s] [] (fun r H'=>r=bv (q s)∧H'=[])) (H:aB) :
  aH Tryz.prog 66 [.pv (aU l),.pv (.fn f)] H (fun r H'=>r=bv (l.any q)∧H'=H):=by
 refine Pu ?_;have hc:=oU (.pv (.fn f)) l (aGk q l) (fun _=>[]) (by omega) (fun k s hk=>by
  rw [aGk,hk];exact hf s (aL3 hk))
 rw [aE7] at hc;exact hc
theorem aH9 (t:ByteArray) (ht:t.size < 1099511627776) (H:aB):aH Tryz.prog 128 [sv t] H (fun r H'=>r=bv (I9 t)∧H'=H):=by refine Pu ?_;exact Bd func128 rfl ntmps128<|Sr<|Dd aP<|Zz<|Sr<|Dd aF<|Dd (by exact aA rfl rfl aLG rfl (aC3 t ht _))<|Dd lI<|Dd aP<|Zz<|aC<|Rt<|Qq
theorem E6 (l:List ByteArray) (hl:LH l) (H:aB):aH Tryz.prog 75 [.pv (aU l)] H (fun r H'=>r=bv (l.all isJ)∧H'=H):=by refine Pu ?_;have hc:=J3 128 l I9 hl.1 (fun s hs=>cC.fn call128 (aH9 s (hl.2 s hs) [])) [];rw [DO] at hc;refine Bd func75 rfl ntmps75<|Sr<|Dd aP<|Zz<|Sr<|Dd aF<|Dd (by exact aA rfl rfl QG rfl (hc))<|Dd lI<|Dd aP<|Zz<|aC<|Rt ?_;exact⟨by rw [Bool.not_not],rfl⟩
def sI (s:GSeal):Bool:=decide (s.idx=0)&&decide (((s.sig.map encStr).length:Int)+((s.path.map encStr).length:Int)=0)
theorem aAv (s:GSeal) (hs:rI s) (H:aB):aH Tryz.prog 84 [av (iB s)] H (fun r H'=>r=bv (sI s)∧H'=H):=by
 refine Pu ?_;have h1:(s.sig.map encStr).length < 1099511627776:=by rw [aLT];exact hs.2.1.1
 have h2:(s.path.map encStr).length < 1099511627776:=by rw [aLT];exact hs.2.2.1
 refine Bd func84 rfl ntmps84<|Sr<|Dd (by exact bZ (id:=1) rfl rfl rfl rfl rfl)<|Dd aP<|Zz<|Sq ?_;refine bD (t:=2) (n:=15) (X:=sI s) ?_ ?_
 ·all_goals refine Dd (bB lS) ?_
  all_goals refine Dd (bK isAgg3)<|Dd cY<|Dm ?_
  all_goals refine Sp 6 (fun h6=>?_) fun h6=>?_
  all_goals try contradiction
  all_goals first|refine Fo<|Fo<|Fo<|Fo<|Fo<|Fo<|Fo<|Fo ?_|refine On (bB iL)<|On (bK aJ)<|On (fY aD)<|On (bB mK)<|On (bK aJ)<|On (fY aD)<|On (by exact cA rfl rfl rfl (pO (by omega) (by omega)))<|On cY ?_
  all_goals refine Dd cE<|Da ?_
  all_goals(exact⟨⟨_,rfl,by(rw [sI,h6];rfl)⟩,rfl,rfl,rfl⟩)
 exact aC<|Rt<|Qq
def iY (s:GSeal):Bool:=sI s||(((((decide (0≤s.idx)&&decide (s.idx < 256))&&decide (((s.sig.map encStr).length:Int)=18))&&decide (((s.path.map encStr).length:Int)≤8))&&s.sig.all isJ)&&s.path.all isJ)
theorem SL (s:GSeal) (hs:rI s) (H:aB):aH Tryz.prog 70 [av (iB s)] H (fun r H'=>r=bv (iY s)∧H'=H):=by
 refine Pu ?_;have hz:=fun H=>aAv s hs H;have hd1:=fun H=>E6 s.sig hs.2.1 H;have hd2:=fun H=>E6 s.path hs.2.2 H;obtain ⟨zz,hzz⟩:∃ zz,zz=sI s:=⟨_,rfl⟩;rw [← hzz] at hz;refine Bd func70 rfl ntmps70<|Sr<|Dd (by exact bZ (id:=1) rfl rfl rfl rfl rfl)<|Dd aP<|Zz<|Sq ?_;refine bD (t:=2) (n:=41) (X:=iY s) ?_ ?_
 ·all_goals refine Dd (by exact aM rfl eM sizeOf25 rfl rfl rfl rfl (by simp only [Zl,encStr];rfl) rfl) ?_
  all_goals refine Dd (by exact aA rfl rfl call84 rfl (hz _))<|Dm ?_
  all_goals refine Sp 5 (fun h5=>?_) fun h5=>?_
  all_goals try contradiction
  all_goals first|refine Fo<|Fo<|Fo<|Fo ?_|refine On (bB lS)<|On (bK isAgg3)<|On JR<|On aF ?_
  all_goals(first|refine Sp 9 (fun h9=>?_) fun h9=>?_|refine wU (t:=9) rfl ?_)
  all_goals try contradiction
  all_goals first|refine Fo ?_|refine Fu ?_|refine On (bB lS) ?_
  all_goals first|refine Fo ?_|refine Fu ?_|refine On (bK isAgg3) ?_
  all_goals first|refine Fo ?_|refine Fu ?_|refine On dK ?_
  all_goals first|refine Fo<|Fo ?_|refine On cE<|On aF ?_
  all_goals(first|refine Sp 14 (fun h14=>?_) fun h14=>?_|refine wU (t:=14) rfl ?_)
  all_goals try contradiction
  all_goals first|refine Fo ?_|refine Fu ?_|refine On (bB iL) ?_
  all_goals first|refine Fo ?_|refine Fu ?_|refine On (bK aJ) ?_
  all_goals first|refine Fo ?_|refine Fu ?_|refine On (fY aD) ?_
  all_goals first|refine Fo ?_|refine Fu ?_|refine On cY ?_
  all_goals first|refine Fo<|Fo ?_|refine On cE<|On aF ?_
  all_goals(first|refine Sp 20 (fun h20=>?_) fun h20=>?_|refine wU (t:=20) rfl ?_)
  all_goals try contradiction
  all_goals first|refine Fo ?_|refine Fu ?_|refine On (bB mK) ?_
  all_goals first|refine Fo ?_|refine Fu ?_|refine On (bK aJ) ?_
  all_goals first|refine Fo ?_|refine Fu ?_|refine On (fY aD) ?_
  all_goals first|refine Fo ?_|refine Fu ?_|refine On TP ?_
  all_goals first|refine Fo<|Fo ?_|refine On cE<|On aF ?_
  all_goals(first|refine Sp 26 (fun h26=>?_) fun h26=>?_|refine wU (t:=26) rfl ?_)
  all_goals try contradiction
  all_goals first|refine Fo ?_|refine Fu ?_|refine On (bB iL) ?_
  all_goals first|refine Fo ?_|refine Fu ?_|refine On (bK aJ) ?_
  all_goals first|refine Fo ?_|refine Fu ?_|refine On (by exact aA rfl rfl aDe rfl (hd1 _)) ?_
  all_goals first|refine Fo<|Fo ?_|refine On cE<|On aF ?_
  all_goals(first|refine Sp 31 (fun h31=>?_) fun h31=>?_|refine wU (t:=31) rfl ?_)
  all_goals try contradiction
  all_goals first|refine Fo ?_|refine Fu ?_|refine On (bB mK) ?_
  all_goals first|refine Fo ?_|refine Fu ?_|refine On (bK aJ) ?_
  all_goals first|refine Fo ?_|refine Fu ?_|refine On (by exact aA rfl rfl aDe rfl (hd2 _)) ?_
  all_goals first|refine Fo ?_|refine On cE ?_
  all_goals refine Dd cE<|Da ?_
  all_goals(exact⟨⟨_,rfl,by first|(rw [iY,← hzz,h5];rfl)|(rw [iY,← hzz,h5,h9];rfl)|(rw [iY,← hzz,h5,h9,h14];rfl)|(rw [iY,← hzz,h5,h9,h14,h20];rfl)|(rw [iY,← hzz,h5,h9,h14,h20,h26];rfl)|(rw [iY,← hzz,h5,h9,h14,h20,h26,h31];rfl)⟩,rfl,rfl,rfl⟩)
 exact aC<|Rt<|Qq
def fO (p:GPriv):Bool:=decide (p.name++p.reason=sNil)&&decide (((p.sources.map encStr).length:Int)+((p.trace.map fM).length:Int)=0)
theorem YB (p:GPriv) (hp:VC p) (H:aB):aH Tryz.prog 83 [av (qM p)] H (fun r H'=>r=bv (fO p)∧H'=H):=by
 refine Pu ?_;obtain ⟨a1,a2,a3,a4,a5⟩:=hp;have h1:(p.sources.map encStr).length < 1099511627776:=by rw [aLT];exact a3.1
 have h2:(p.trace.map fM).length < 1099511627776:=by rw [aLT];exact a4
 have h3:(p.name++p.reason).size=p.name.size+p.reason.size:=ByteArray.size_append;refine Bd func83 rfl ntmps83<|Sr<|Dd (by exact bZ (id:=1) rfl rfl rfl rfl rfl)<|Dd aP<|Zz<|Sq ?_;refine bD (t:=2) (n:=18) (X:=fO p) ?_ ?_
 ·all_goals refine Dd (bB BT) ?_
  all_goals refine Dd (bK isAgg9)<|Dd (bB BS)<|Dd (bK isAgg9)<|Dd (by exact gR rfl rfl rfl (by omega) rfl)<|Dd zZ<|Dm ?_
  all_goals refine Sp 9 (fun h9=>?_) fun h9=>?_
  all_goals try contradiction
  all_goals first|refine Fo<|Fo<|Fo<|Fo<|Fo<|Fo<|Fo<|Fo ?_|refine On (bB zA)<|On (bK aJ)<|On (fY aD)<|On (bB rQ)<|On (bK jD)<|On (fY dP)<|On (by exact cA rfl rfl rfl (pO (by omega) (by omega)))<|On cY ?_
  all_goals refine Dd cE<|Da ?_
  all_goals(exact⟨⟨_,rfl,by(rw [fO,h9];rfl)⟩,rfl,rfl,rfl⟩)
 exact aC<|Rt<|Qq
theorem HN (n a b:Int) (H:aB):aH Tryz.prog 64 [iv n,iv a,iv b] H (fun r H'=>r=bv (decide (a≤n)&&decide (n≤b))∧H'=H):=by
 refine Pu ?_;refine Bd func64 rfl ntmps64<|Sr<|Dd aP<|Zz<|Sq ?_;refine bD (t:=6) (n:=10) (X:=decide (a≤n)&&decide (n≤b)) ?_ ?_
 ·all_goals refine Dd aF ?_
  all_goals refine Dd aF<|Dd JR<|Dm ?_
  all_goals refine Sp 10 (fun h10=>?_) fun h10=>?_
  all_goals try contradiction
  all_goals first|refine Fo<|Fo<|Fo ?_|refine On aF<|On aF<|On TP ?_
  all_goals refine Dd cE<|Da ?_
  all_goals(exact⟨⟨_,rfl,by(rw [h10];rfl)⟩,rfl,rfl,rfl⟩)
 exact aC<|Rt<|Qq
def F0 (s:ByteArray):Bool:=decide (200 < (s.size:Int))
theorem aHS (s:ByteArray) (H:aB):aH Tryz.prog 67 [sv s] H (fun r H'=>r=bv (F0 s)∧H'=H):=by refine Pu ?_;exact Bd func67 rfl ntmps67<|Sr<|Dd aP<|Zz<|Sr<|Dd aF<|Dd (nT underlying9)<|Dd mI<|Dd aP<|Zz<|aC<|Rt<|Qq
theorem XG (l:List ByteArray) (hl:l.length < 1099511627776) (H:aB):aH Tryz.prog 65 [.pv (aU l)] H (fun r H'=>r=bv (!l.any F0)∧H'=H):=by refine Pu ?_;have hc:=J3 67 l F0 hl (fun s hs=>cC.fn call67 (aHS s [])) [];exact Bd func65 rfl ntmps65<|Sr<|Dd aP<|Zz<|Sr<|Dd aF<|Dd (by exact aA rfl rfl QG rfl (hc))<|Dd lI<|Dd aP<|Zz<|aC<|Rt<|Qq
end Go.Proofs.YtiifmppaejpemaaGreatDoor
namespace Go.Abs
section
section
variable {P:Program} {N:Nat} {o:Oper} {E:bO} {H:aB} {S T t:TypeId} {x:Operand} {id g n m:Nat} {ob:Ob}
theorem BG (ho:o.op=.convert S T x) (hS:P.underlying S=some .unsafePointer) (hT:P.underlying T=some (.pointer t)) (hi:(P.info? t).map (·.size)=some (n+1)) (hc:P.cellsOf ob.ty=m+1) (hx:aN E x=some (.ref id g 0 0)) (hH:H.get id=some ob) (hg:ob.g=g) (hne:ob.rows≠[]) (hsz:ob.sz=m+1) (hl:∀ c,liesAt P P.depth ob.ty (c+1) 0 t 1=true):cB P N o E H (.ref id g 0 0) H :=.of_run fun a w I ι hr he=>by
  have hv:=aI he hx;obtain ⟨b,cap,e1,e2,e3,e4⟩:=EA hr hv hH hg hne;obtain ⟨j,h1,h2⟩:=uU hi;rw [e1] at hv;refine⟨_,?_,hv⟩;simp only [execOp,ho,e1];have hq:cap*ob.sz / P.cellsOf ob.ty=(cap - 1)+1:=by rw [hc,hsz,Nat.mul_div_cancel _ (by omega)];omega
  rw [Sem.run_bind,Lib.run_from_unsafe w ⟨b,0,none⟩ hS hT h1 e2 (by rw [hq];exact hl _)];rfl
end
end
end Go.Abs
namespace Go.Proofs.YtiifmppaejpemaaGreatDoor
open Go.Proofs.Tryz
open Go.Abs
theorem aJU (c:Nat):liesAt Tryz.prog Tryz.prog.depth 248 (c+1) 0 140 1=true:=by kernel_rfl
def BX (buf:AV) (u:Bool):Ob:=⟨0,2,248,[[TF u,buf]]⟩
def lU (g:Nat) (l:List UInt8) (u:Bool):aB:=[(2001,BX (.osl 2002 g 0 l.length) u),(2002,⟨g,1,5,eQ l⟩)]
theorem J7 {H:aB} {g n:Nat} {u:Bool} (h1:(H.get 2001).isSome=true) (h2:(H.get 2002).isSome=true):∀ r∈(BX (.osl 2002 g 0 n) u).rows,∀ a∈r,Clo H a:=by
 intro r hr a ha;simp only [BX,aLW] at hr;subst hr;simp only [aL5,aL9,or_false] at ha;rcases ha with rfl|rfl
 ·cases u<;>simp [TF,h1]
 simp [h2]
theorem DJ (buf:AV) (u:Bool) (K:aB):aH Tryz.prog 159 [.ref 2001 0 0 0] ((2001,BX buf u)::K) (fun r H'=>r=.tup []∧H'=(2001,BX buf true)::K):=by
 cases u with
 | false =>
  refine Bd aAh rfl TT<|Sr<|Dd aF<|Dd xQ<|Dd (bB sV)<|Dd (bK xM)<|Dd (by exact FV rfl eT rfl rfl)<|Zz ?_;refine Cn ?_ ?_<;>intro hc1
  ·refine Rg<|Dd aF<|Dd aF<|Dd (by exact AZ (n:=1) rfl eT B3 (by kernel_rfl) rfl rfl rfl (by simp [BX]))<|Dd (by exact G5 rfl rfl func194 rfl rfl rfl rfl rfl (SM (.ref 2001 0 0 0)))<|Dd (by exact BG (n:=1) (m:=1) rfl B3 eT (by kernel_rfl) (by kernel_rfl) rfl rfl rfl (by simp [BX]) rfl aJU)<|Dd xQ<|Dd (bB sV)<|Uu (by exact bA rfl aHv rfl rfl rfl rfl rfl rfl (aL6 rfl) rfl rfl)<|Zz ?_;exact pL (.inl rfl) rfl (Fin.get' (H':=(2001,BX buf true)::K) (fun j=>sT 2001 (BX buf true) (BX buf false) K j)) ⟨rfl,rfl⟩
  cases hc1
 | true =>
  refine Bd aAh rfl TT<|Sr<|Dd aF<|Dd xQ<|Dd (bB sV)<|Dd (bK xM)<|Dd (by exact FU rfl eT rfl rfl rfl rfl)<|Zz ?_;refine Cn ?_ ?_<;>intro hc1
  ·cases hc1
  refine Sr<|Dd aF<|Dd xQ<|Dd (bB sV)<|Dd (bK xM)<|Dd aF<|Dd (by exact CT (n:=1) rfl eT (by kernel_rfl) rfl rfl rfl rfl)<|Zz ?_;refine Cn ?_ ?_<;>intro hc2
  ·cases hc2
  refine aE ?_;exact pL (.inl rfl) rfl Fin.refl ⟨rfl,rfl⟩
theorem TC (g:Nat) (l m:List UInt8) {n:Nat} (h:m.length=n):lU (g+1) (l++m) true=[(2001,BX (.osl 2002 (g+1) 0 (l.length+n)) true),(2002,⟨g+1,1,5,eQ (l++m)⟩)]:=by subst h;simp [lU]
theorem OA (g:Nat) (l:List UInt8) (u:Bool) (c:UInt8) (hl:l.length < 70368744177664):aH Tryz.prog 115 [.ref 2001 0 0 0,.pv (.int .u8 c.toNat)] (lU g l u) (fun r H'=>r=.pv EN∧H'=lU (g+1) (l++[c]) true):=by refine Bd func115 rfl ntmps115<|Sr<|Dd aP<|Zz<|Sr<|Dd aF<|Dd (by exact aA rfl rfl KI rfl (DJ _ u _))<|Zz<|Sr<|Dd aF<|Dd aF<|Dd xQ<|Dd (bB eW)<|Dd (bK cO)<|Dd aF<|Dd (by exact aS [[.int .u8 c.toNat]] rfl FS rfl rfl rfl rfl rfl (by intro r hr;rw [aLW] at hr;subst hr;rfl))<|Dd (by exact eK (ps:=[[.int .u8 c.toNat]]) rfl FS ei5 rfl rfl rfl rfl rfl (AM l) rfl (by intro r hr;rw [aLW] at hr;subst hr;rfl) (m:=1) rfl (by omega) rfl (AN l [c]))<|Dd xQ<|Dd (bB eW)<|Uu (by exact bA rfl lW rfl rfl rfl rfl rfl rfl (aL6 rfl) rfl rfl)<|Zz<|Sr<|Dd aP<|Zz<|aC ?_;rw [TC g l [c] (n:=1) rfl];refine dF (H':=[(2001,BX (.osl 2002 (g+1) 0 (l.length+1)) true),(2002,⟨g+1,1,5,eQ (l++[c])⟩)]) (.inr rfl) rfl (aT rfl) (Fin.get' (fun j=>C9 (by decide) j)) ?_;exact Qq
theorem yA (g:Nat) (l:List UInt8) (u:Bool) (s:ByteArray) (hl:l.length+s.size < 70368744177664):aH Tryz.prog 114 [.ref 2001 0 0 0,sv s] (lU g l u) (fun r H'=>r=.tup [iv (s.size:Int),.pv EN]∧H'=lU (g+1) (l++s.data.toList) true):=by refine Bd func114 rfl ntmps114<|Sr<|Dd aP<|Dd aP<|Zz<|Sr<|Dd aF<|Dd (by exact aA rfl rfl KI rfl (DJ _ u _))<|Zz<|Sr<|Dd aF<|Dd aF<|Dd xQ<|Dd (bB eW)<|Dd (bK cO)<|Dd aF<|Dd (by exact CC rfl FS underlying9 ei5 WY rfl rfl rfl rfl rfl (AM l) rfl (by omega) rfl (AN l s.data.toList))<|Dd xQ<|Dd (bB eW)<|Uu (by exact bA rfl lW rfl rfl rfl rfl rfl rfl (aL6 rfl) rfl rfl)<|Zz<|Sr<|Dd aF<|Dd (nT underlying9)<|Dd aP<|Dd aP<|Zz<|aC ?_;rw [TC g l s.data.toList (n:=s.size) rfl];refine rW (H':=[(2001,BX (.osl 2002 (g+1) 0 (l.length+s.size)) true),(2002,⟨g+1,1,5,eQ (l++s.data.toList)⟩)]) (.inr rfl) rfl (aT rfl) (aT rfl) (Fin.get' (fun j=>C9 (by decide) j)) ?_;exact Qq
def TE (g:Nat) (l:List UInt8) (u:Bool):aB:=[(2002,⟨g+1,1,5,[]⟩),(2001,BX (.osl 2002 g 0 l.length) u)]
theorem aGb (g:Nat) (l:List UInt8) (u:Bool) (hl:l.length < 70368744177664):aH Tryz.prog 116 [.ref 2001 0 0 0] (lU g l u) (fun r H'=>r=sv ⟨l.toArray⟩∧H'=TE g l u):=by
 by_cases h0:l=[]
 ·subst h0;refine Bd aAj rfl TV<|Sr<|Dd aP<|Zz<|Sq<|aQ follows<|Cq aF<|Cq xQ<|Cq (bB eW)<|Cq (bK cO)<|Cq (by exact yL rfl rY rfl rfl rfl)<|Cq aF<|Cq xQ<|Cq (bB eW)<|Cq (bK cO)<|Cq (by exact dS rfl cF rfl rfl rfl)<|Cq (by exact sP rfl rfl rfl)<|Cq aP<|bJ<|Kr<|aC ?_;refine dF (H':=(TE g [] u)) (.inr rfl) rfl (aT rfl) (Fin.trans (Fin.deadO (id:=2002) (k:=g+1) (ob:=⟨g,1,5,eQ []⟩) rfl (Nat.lt_succ_self g) Nat.zero_lt_one rfl rfl) (Fin.get' (fun j=>HE (by decide) j))) ?_;exact Qq
 have hpos:0 < l.length:=List.length_pos_iff.2 h0;refine Bd aAj rfl TV<|Sr<|Dd aP<|Zz<|Sq<|aQ follows<|Cr [2001] (fun _ _=>aF)<|Cr [2001] (fun H1 hH=>by exact eJ rfl rfl ((hH _ rfl).trans rfl) rfl)<|Cr [2001] (fun _ h=>fh eW h)<|Cr [2001] (fun _ h=>lh cO h)<|Cr [2002] (fun H1 hH=>by exact A1 rfl rfl ((hH _ rfl).trans rfl) rfl hpos)<|Cr [2001] (fun _ _=>aF)<|Cr [2001] (fun H1 hH=>by exact eJ rfl rfl ((hH _ rfl).trans rfl) rfl)<|Cr [2001] (fun _ h=>fh eW h)<|Cr [2001] (fun _ h=>lh cO h)<|Cr [2002] (fun H1 hH=>by exact dS rfl cF rfl ((hH _ rfl).trans rfl) rfl)<|Cp [2001,2002] (fun H1 hH=>by exact uH (l:=l) rfl rY (by kernel_rfl) rfl rfl ((hH _ rfl).trans rfl) rfl rfl rfl rfl rfl hpos (by omega) rfl)<|Cr [] (fun _ _=>aP)<|bJ<|Kr<|aC ?_;refine dF (H':=(TE g l u)) (.inr rfl) rfl (aT rfl) (Fin.get' (fun j=>HE (by decide) j)) ?_;exact Qq
theorem aCS (g:Nat) (l:List UInt8) (u:Bool):aH Tryz.prog 172 [.ref 2001 0 0 0] (lU g l u) (fun r H'=>r=iv (l.length:Int)∧H'=lU g l u):=by refine Bd func172 rfl ntmps172<|Sr<|Dd aP<|Zz<|Sr<|Dd aF<|Dd xQ<|Dd (bB eW)<|Dd (bK cO)<|Dd (by exact dS rfl cF rfl rfl rfl)<|Dd aP<|Zz<|aC ?_;refine dF (H':=(lU g l u)) (.inr rfl) rfl (aT rfl) Fin.refl ?_;exact Qq
def ZO (l:List UInt8) (s:ByteArray):List UInt8:=if l=[] then s.data.toList else l++32::s.data.toList
theorem aIj (g:Nat) (l:List UInt8) (u:Bool) (s:ByteArray) (hl:l.length+s.size < 70368744177663):aH Tryz.prog 240 [.ref 2001 0 0 0,sv s] (lU g l u) (fun r H'=>r=.tup []∧H'=lU (if l=[] then g+1 else g+2) (ZO l s) true):=by
 have hB:=OA g l u 32 (by omega);have hL:=aCS g l u;rw [ZO];by_cases h0:l=[]
 ·subst h0;have hS:=yA g [] u s (by omega);rw [aLS rfl,aLS rfl];rw [List.nil_append] at hS;refine Bd func240 rfl ntmps240<|Sq<|Sr<|Dd aF<|Dd xQ<|Dd (bB lL)<|Dd (by exact aA rfl rfl tX rfl (hL))<|Dd mI<|Zz ?_;refine Cn ?_ ?_<;>intro hc1
  ·cases hc1
  refine aE<|Rg<|Dd aF<|Dd xQ<|Dd (bB lL)<|Dd aF<|Dd (by exact aA rfl rfl kV rfl (hS))<|Zz ?_;exact pL (H':=lU (g+1) s.data.toList true) (.inl rfl) rfl Fin.refl ⟨rfl,rfl⟩
 have hpos:0 < l.length:=List.length_pos_iff.2 h0;have hS:=yA (g+1) (l++[32]) true s (by rw [aLU,List.length_singleton];omega);rw [aLR h0,aLR h0];rw [List.append_assoc] at hS;refine Bd func240 rfl ntmps240<|Sq<|Sr<|Dd aF<|Dd xQ<|Dd (bB lL)<|Dd (by exact aA rfl rfl tX rfl (hL))<|Dd mI<|Zz ?_;refine Cn ?_ ?_<;>intro hc1
 ·refine Rg<|Dd aF<|Dd xQ<|Dd (bB lL)<|Dd (by exact aA rfl rfl jE rfl (hB))<|Zz<|Rg<|Dd aF<|Dd xQ<|Dd (bB lL)<|Dd aF<|Dd (by exact aA rfl rfl kV rfl (hS))<|Zz ?_;exact pL (H':=lU (g+2) (l++32::s.data.toList) true) (.inl rfl) rfl Fin.refl ⟨rfl,rfl⟩
 have:=aLQ hc1;omega
theorem aGa {g:Nat} {l:List UInt8} {u:Bool} {K:aB}:Sub (lU g l u) (lU g l u++K):=by intro j o h;rw [eO,h]
theorem aJV {g g':Nat} {l l':List UInt8} {u u':Bool} {id:Nat} (h:(aB.get (lU g l u) id).isSome=true):(aB.get (lU g' l' u') id).isSome=true:=X4 h
theorem aJ0 {g g':Nat} {l l':List UInt8} {u u':Bool} {K:aB} (j:Nat):aB.get (lU g l u++(lU g' l' u'++K)) j=aB.get (lU g l u++K) j:=by show aB.get ((2001,_)::(2002,_)::(2001,_)::(2002,_)::K) j=aB.get ((2001,_)::(2002,_)::K) j;exact(C9 (by decide) j).symm
theorem aBc (K:aB) (g:Nat) (l:List UInt8) (u:Bool) (s:ByteArray) (hl:l.length+s.size < 70368744177663):aH Tryz.prog 240 [.ref 2001 0 0 0,sv s] (lU g l u++K) (fun r H'=>r=.tup []∧H'=lU (if l=[] then g+1 else g+2) (ZO l s) true++K) :=(aH.frame (aIj g l u s hl) aGa (cZ.ofL ⟨(by exact J7 rfl rfl),(by exact dG _ _),trivial⟩) (by simp;rfl) (fun id h=>.inl (aJV h))).congrH fun j=>(aJ0 j).symm
theorem HA (K:aB) (g:Nat) (l:List UInt8) (u:Bool):aH Tryz.prog 172 [.ref 2001 0 0 0] (lU g l u++K) (fun r H'=>r=iv (l.length:Int)∧H'=lU g l u++K) :=(aH.frame (aCS g l u) aGa (cZ.ofL ⟨(by exact J7 rfl rfl),(by exact dG _ _),trivial⟩) (by simp;rfl) (fun id h=>.inl h)).congrH fun j=>(aJ0 j).symm
def yV (c:UInt8):Option UInt8:=if c=92 then some 92 else if c=34 then some 34 else if c=110 then some 10 else none
def nA:List UInt8→Option (List UInt8×Nat)
 | []=>none
 | [c]=>if c=34 then some ([],1)else none
 | c::e::r=>if c=34 then some ([],1)else if c=10 then none else if c=92 then(yV e).bind fun b=>(nA r).map fun p=>(b::p.1,p.2+2)else(nA (e::r)).map fun p=>(c::p.1,p.2+1)
def wJ (s:ByteArray):ByteArray×Int:=match nA (s.data.toList.drop 1)with
 | some (d,n)=>(⟨d.toArray⟩,((n+1:Nat):Int))
 | none=>(sNil,0)
theorem HR {r:List UInt8}:nA (34::r)=some ([],1):=by cases r<;>rfl
theorem Y2 {r:List UInt8}:nA (10::r)=none:=by cases r<;>rfl
theorem GR {r:List UInt8} {e:UInt8}:nA (92::e::r)=(yV e).bind fun b=>(nA r).map fun p=>(b::p.1,p.2+2):=rfl
theorem HS {c:UInt8} {r:List UInt8} (h1:c≠34) (h2:c≠10) (h3:c≠92):nA (c::r)=(nA r).map fun p=>(c::p.1,p.2+1):=by
 cases r with
 | nil =>
  show (if c=34 then some ([],1)else none)=_;rw [aLR h1];rfl
 | cons e r=>rw [nA,aLR h1,aLR h2,aLR h3]
def FO (o:Option (List UInt8×Nat)) (w:List UInt8) (i:Nat):ByteArray×Int:=match o with
 | some (d,n)=>(⟨(w++d).toArray⟩,((i+n:Nat):Int))
 | none=>(sNil,0)
theorem MA {o:Option (List UInt8×Nat)} {w:List UInt8} {b:UInt8} {i k:Nat}:FO (o.map fun p=>(b::p.1,p.2+k)) w i=FO o (w++[b]) (i+k):=by
 cases o with
 | none=>rfl
 | some p=>simp only [FO,Option.map_some,List.append_assoc,List.singleton_append];congr 2;omega
theorem S0 {s:ByteArray} {i:Nat} (h:i < s.size):s.data.toList.drop i=BY s i::s.data.toList.drop (i+1):=by
 have hk:i < s.data.toList.length:=by simpa using h
 rw [List.drop_eq_getElem_cons hk,BY,aLY hk];rfl
theorem SZ {s:ByteArray} {i:Nat} (h:s.size≤i):s.data.toList.drop i=[]:=List.drop_eq_nil_of_le (by simpa using h)
theorem aA2 {s:ByteArray} {i n:Nat} (hn:n < 256) {b:Bool} (h:decide (dU s i=(n:Int))=b):decide (BY s i=UInt8.ofNat n)=b:=by rw [← h,rS,HU hn]
theorem aBE (c:UInt8):(Lib.indexByte (⟨#[92,34,110]⟩:ByteArray).data.toList ((c.toNat:Int).toNat.toUInt8) = -1∧yV c=none)∨∃ k:Nat,k < 3∧Lib.indexByte (⟨#[92,34,110]⟩:ByteArray).data.toList ((c.toNat:Int).toNat.toUInt8)=(k:Int)∧yV c=some (BY ⟨#[92,34,10]⟩ k):=by
 have h0:((c.toNat:Int).toNat.toUInt8)=c:=by simp
 rw [h0];by_cases h1:c=92
 ·subst h1;exact .inr ⟨0,by decide,by decide,by decide⟩
 by_cases h2:c=34
 ·subst h2;exact .inr ⟨1,by decide,by decide,by decide⟩
 by_cases h3:c=110
 ·subst h3;exact .inr ⟨2,by decide,by decide,by decide⟩
 refine .inl ⟨?_,by rw [yV,aLR h1,aLR h2,aLR h3]⟩;have e1:((92:UInt8) == c)=false:=by simp [Ne.symm h1]
 have e2:((34:UInt8) == c)=false:=by simp [Ne.symm h2]
 have e3:((110:UInt8) == c)=false:=by simp [Ne.symm h3]
 simp only [Lib.indexByte,e1,e2,e3];rfl
theorem T4 (s:ByteArray) (H:aB) (hs:s.size < 1099511627776):aH Tryz.prog 244 [sv s] H (fun r H'=>r=.tup [sv (wJ s).1,iv (wJ s).2]∧H'=H):=by
 refine Pu ?_;have hG:wJ s=FO (nA (s.data.toList.drop 1)) [] 1:=by
  unfold wJ FO;cases nA (s.data.toList.drop 1)with
  | none=>rfl
  | some p =>
   show ((⟨p.1.toArray⟩:ByteArray),((p.2+1:Nat):Int))=((⟨([]++p.1).toArray⟩:ByteArray),((1+p.2:Nat):Int));rw [List.nil_append,Nat.add_comm]
 obtain ⟨res,hres⟩:∃ res,res=wJ s:=⟨_,rfl⟩;rw [← hres] at hG ⊢;refine Bd func244 rfl ntmps244<|Sr<|Dd aP<|Dd aP<|Zz<|Sr<|Dd (by exact bC (id:=2001) rfl D3 rfl rfl)<|Zz<|Sq<|Sq ?_;refine fE.ent (E':=[(0,sv s),(4,.ref 2001 0 0 0)]) (H':=sC 0 [] false) (cD.bld0 ⟨⟨_,rfl,.same (by simp)⟩,⟨_,rfl,.same (by simp;rfl)⟩,trivial⟩) ?_;refine Rg<|Dd aP<|Zz<|aG ?_;refine N0 (fun(i g:Nat) (w:List UInt8) (u:Bool)=>([(0,sv s),(4,.ref 2001 0 0 0),(5,iv (i:Int))],sC g w u)) (fun i g w u=>w.length≤i∧i < 2199023255552∧res=FO (nA (s.data.toList.drop i)) w i) (fun i g w u=>s.size+1 - i) 1 0 [] false ⟨aLa _,by decide,hG⟩ ?_ ?_
 ·exact(cD.wk (Eb<|Ea<|Eb<|trivial) (Hc (eR rfl rfl)<|Hc (dG _ _)<|trivial) trivial)
 rintro i g w u ⟨hwl,hib,hinv⟩;refine Sq<|Sr<|Dd aF<|Dd aF<|Dd (nT underlying9)<|Dd dK<|Zz ?_;refine Cn ?_ ?_<;>intro hc1
 ·have hlt:i < s.size:=by have:=aLP hc1;omega
  have hd:=S0 hlt;refine aE<|Sq<|aG<|Sr<|Dd aF<|Dd aF<|Dd (by exact eI rfl underlying9 rfl rfl (by omega) (by exact aL4 _) (by omega) rfl)<|Dd aP<|Zz<|Sr<|Dd aF<|Zz<|aG<|Sr<|Dd cY<|Da ?_;refine Cn ?_ ?_<;>intro hc2
  ·have hb:BY s i=34:=aLP (aA2 (n:=34) (by decide) hc2);have hr:res=(⟨w.toArray⟩,((i+1:Nat):Int)):=by rw [hinv,hd,hb,HR,FO,List.append_nil]
   rw [hr];exact Sr<|Dd (by exact aA rfl rfl kU rfl (MH g w u (by omega)))<|Dd aF<|Dd pM<|Dd aP<|Dd aP<|Zz<|aC<|Ru<|Qq
  have hb34:BY s i≠34:=aLQ (aA2 (n:=34) (by decide) hc2);refine Sr<|Dd cY<|Da ?_;refine Cn ?_ ?_<;>intro hc3
  ·have hb:BY s i=10:=aLP (aA2 (n:=10) (by decide) hc3);have hr:res=(sNil,0):=by rw [hinv,hd,hb,Y2,FO]
   rw [hr];exact Sr<|Dd aP<|Dd aP<|Zz<|aC<|Ru<|Qq
  have hb10:BY s i≠10:=aLQ (aA2 (n:=10) (by decide) hc3);refine Sr<|Dd cY<|Da ?_;refine Cn ?_ ?_<;>intro hc4
  ·have hb:BY s i=92:=aLP (aA2 (n:=92) (by decide) hc4);refine Sr<|Dd aF<|Dd pM<|Dd aP<|Zz<|Sr<|Dd aP<|Zz<|Sq<|Sr<|Dd aF<|Dd aF<|Dd (nT underlying9)<|Dd dK<|Zz ?_;refine Cn ?_ ?_<;>intro hc5
   ·have hlt2:i+1 < s.size:=by have:=aLP hc5;omega
    have hd2:=S0 hlt2;rcases aBE (BY s (i+1))with⟨x1,x2⟩|⟨q,hq,x1,x2⟩
    ·have hr:res=(sNil,0):=by rw [hinv,hd,hb,hd2,GR,x2];rfl
     have hneg:Lib.indexByte (⟨#[92,34,110]⟩:ByteArray).data.toList (dU s (i+1)).toNat.toUInt8 = -1:=x1;rw [hr];refine Rg<|Dd aF<|Dd aF<|Dd (by exact eI rfl underlying9 rfl rfl (by omega) (by exact aL4 _) (by omega) rfl)<|Dd (by exact aA rfl rfl tY rfl (mV _ _ _))<|Dd aP<|Zz<|Sq<|Sr<|Dd aF<|Dd dK<|Zz ?_;refine Cn ?_ ?_<;>intro hc6
     ·exact Sr<|Dd aP<|Dd aP<|Zz<|aC<|Ru<|Qq
     exact absurd (aLQ hc6) (by rw [hneg];decide)
    have hpos:Lib.indexByte (⟨#[92,34,110]⟩:ByteArray).data.toList (dU s (i+1)).toNat.toUInt8=(q:Int):=x1;have hq3:q < (⟨#[92,34,10]⟩:ByteArray).size:=hq;refine Rg<|Dd aF<|Dd aF<|Dd (by exact eI rfl underlying9 rfl rfl (by omega) (by exact aL4 _) (by omega) rfl)<|Dd (by exact aA rfl rfl tY rfl (mV _ _ _))<|Dd aP<|Zz<|Sq<|Sr<|Dd aF<|Dd dK<|Zz ?_;refine Cn ?_ ?_<;>intro hc7
    ·exact absurd (aLP hc7) (by rw [hpos];omega)
    refine aE<|Rg<|Dd aF<|Dd (by exact eI rfl underlying9 rfl rfl (by rw [hpos];omega) (by rw [hpos];exact aL4 _) hq3 rfl)<|Dd (by exact aA rfl rfl jE rfl (gK g w u (BY ⟨#[92,34,10]⟩ q) (by omega)))<|Zz<|Rg<|Dd aF<|Dd pM<|Da ?_;refine⟨i+1+1,g+1,w++[BY ⟨#[92,34,10]⟩ q],true,⟨by rw [aLU,List.length_singleton];omega,by omega,?_⟩,by omega,(cD.wk (Eb<|Ea<|Eb<|trivial) (Hc (eR rfl rfl)<|Hc (dG _ _)<|trivial) trivial)⟩;rw [hinv,hd,hb,hd2,GR,x2];exact MA
   have hge:s.size≤i+1:=by have:=aLQ hc5;omega
   have hr:res=(sNil,0):=by rw [hinv,hd,hb,SZ hge];rfl
   rw [hr];refine aE<|Sq<|Sr<|Dd aF<|Dd dK<|Zz ?_;refine Cn ?_ ?_<;>intro hc8
   ·exact Sr<|Dd aP<|Dd aP<|Zz<|aC<|Ru<|Qq
   cases hc8
  have hb92:BY s i≠92:=aLQ (aA2 (n:=92) (by decide) hc4);refine Rg<|Dd aF<|Dd (by exact aA rfl rfl jE rfl (gK g w u (BY s i) (by omega)))<|Zz<|Rg<|Dd aF<|Dd pM<|Da ?_;refine⟨i+1,g+1,w++[BY s i],true,⟨by rw [aLU,List.length_singleton];omega,by omega,?_⟩,by omega,(cD.wk (Eb<|Ea<|Eb<|trivial) (Hc (eR rfl rfl)<|Hc (dG _ _)<|trivial) trivial)⟩;rw [hinv,hd,HS hb34 hb10 hb92,MA]
 have hge:s.size≤i:=by have:=aLQ hc1;omega
 have hr:res=(sNil,0):=by rw [hinv,SZ hge];rfl
 rw [hr];exact bG<|Sr<|Dd aP<|Dd aP<|Zz<|aC<|Ru<|Qq
def qO (s:ByteArray) (i:Nat):Int:=if i < s.size then DK (dU s i)else 0
def tS (s:ByteArray):Ob:=bx 1 9 [sv s]
def tC:Ob:=bx 256 160 pV
def tA:Ob:=bx 1 250 [.clo 242 [.ref 921 0 0 0,.ref 923 0 0 0]]
theorem aHp (s:ByteArray) (i:Nat) (H:aB) (h1:H.get 921=some (tS s)) (h2:H.get 923=some tC) (hi:i < 4611686018427387904) (hs:s.size < 4611686018427387904) :
  aH Tryz.prog 242 [iv (i:Int),.ref 921 0 0 0,.ref 923 0 0 0] H (fun r H'=>r=.pv (.int .u8 (qO s i))∧H'=H):=by
 refine Bd func242 rfl ntmps242<|Sr<|Dd aP<|Zz<|Sq<|Sr<|Dd aF<|Dd (by exact aK rfl isAgg9 rfl h1 rfl rfl rfl)<|Dd (nT underlying9)<|Dd JR<|Zz ?_;refine Cn ?_ ?_<;>intro hc1
 ·have e:qO s i=0:=by rw [qO,aLR (by have:=aLP hc1;omega)]
  rw [e];refine Sr<|Dd aP<|Zz<|aC ?_;refine dF (H':=H) (.inr rfl) rfl (aT rfl) Fin.refl ?_;exact Qq
 have hlt:i < s.size:=by have:=aLQ hc1;omega
 have e:qO s i=DK (dU s i):=by rw [qO,aLS hlt]
 rw [e];refine aE<|Sr<|Dd (by exact aK rfl isAgg9 rfl h1 rfl rfl rfl)<|Dd aF<|Dd (by exact eI rfl underlying9 rfl rfl (by omega) (by exact aL4 _) (by omega) rfl)<|Dd (by exact dA (m:=(dU s i).toNat) (k2:=(dU s i).toNat) rfl eG bR rfl h2 rfl rfl (FB s i) rfl (FC s i) (by omega))<|Dd (by exact aK rfl xS rfl h2 rfl rfl (aGM s i))<|Dd aP<|Zz<|aC ?_;refine dF (H':=H) (.inr rfl) rfl (aT rfl) Fin.refl ?_;exact Qq
theorem QX (s:ByteArray) (H:aB) (h1:H.get 921=none) (h2:H.get 923=none) (h3:H.get 924=none) (hc:cZ H) :
  aH Tryz.prog 204 [sv s] H (fun r H'=>r=.clo 243 [.ref 921 0 0 0,.ref 924 0 0 0]∧H'=(924,tA)::(923,tC)::(921,tS s)::H):=by
 have h2':aB.get ((921,tS s)::H) 923=none:=h2;refine Bd func204 rfl ntmps204<|Sr<|Dd (by exact bZ (id:=921) rfl rfl rfl rfl h1)<|Dd aP<|Zz<|Sr<|Dd (by exact aA rfl rfl call127 rfl (NV _))<|Dd (by exact bC (id:=923) rfl WU rfl h2)<|Uu (by exact bT rfl tT rfl rfl rfl rfl rfl rfl rfl (by simp))<|Zz<|Sr<|Dd (by exact eZ rfl rfl)<|Dd (by exact bC (id:=924) rfl aIQ rfl h3)<|Uu (iH sizeOf250)<|Zz<|Sr<|Dd (by exact eZ rfl rfl)<|Dd aP<|Zz<|aC ?_;refine dF (H':=((924,tA)::(923,tC)::(921,tS s)::H)) (.inr rfl) rfl (aT rfl) (Fin.get' (fun j=>by simp only [aB.get];cases Nat.beq 924 j<;>cases Nat.beq 923 j<;>rfl)) ?_;exact Qq
def sF (p:Nat→Bool):Nat→Nat→Nat
 | 0,i=>i
 | n+1,i=>if p i then sF p n (i+1)else i
theorem CJ (p:Nat→Bool):∀ (n i:Nat),i≤sF p n i∧sF p n i≤i+n
 | 0,i=>⟨aLZ _,aLZ _⟩
 | n+1,i=>by
  rw [sF]
  split
  ·have:=CJ p n (i+1);omega
  omega
theorem CL (p:Nat→Bool):∀ (n i:Nat),∀ j,i≤j→j < sF p n i→p j=true
 | 0,i,j,h1,h2=>by rw [sF] at h2;omega
 | n+1,i,j,h1,h2=>by
  rw [sF] at h2
  split at h2
  ·by_cases e:j=i
   ·subst e;assumption
   exact CL p n (i+1) j (by omega) h2
  omega
theorem uE (p:Nat→Bool):∀ (n i:Nat),sF p n i < i+n→p (sF p n i)=false
 | 0,i,h=>by rw [sF] at h;omega
 | n+1,i,h=>by
  rw [sF] at h ⊢
  split at h
  ·rename_i hp;rw [aLS hp];exact uE p n (i+1) (by omega)
  rename_i hp;rw [aLR hp];exact Bool.not_eq_true _▸hp
theorem CK (p:Nat→Bool) {n i j:Nat} (h1:i≤j) (h2:j≤i+n) (h3:∀ k,i≤k→k < j→p k=true) (h4:p j=false∨j=i+n):sF p n i=j:=by
 obtain ⟨l1,l2⟩:=CJ p n i;rcases Nat.lt_trichotomy (sF p n i) j with h|h|h
 ·have:=uE p n i (by omega);rw [h3 _ l1 h] at this;cases this
 ·exact h
 have:=CL p n i j h1 h;rcases h4 with h4|h4
 ·rw [h4] at this;cases this
 omega
def IU (s:ByteArray) (j:Nat):Bool:=decide (j < s.size)&&!decide (dU s j=10)
def yK (s:ByteArray) (j:Nat):Bool:=decide (qO s j=3)||decide (qO s j=4)||decide (qO s j=5)
def ZT (s:ByteArray) (j:Nat):Bool:=decide (qO s j=4)
def PD (s:ByteArray) (i:Nat):Nat:=sF (IU s) (s.size - i) i
def GP (s:ByteArray) (i:Nat):Nat:=sF (yK s) (s.size - i) i
def PW (s:ByteArray) (i:Nat):Nat:=sF (ZT s) (s.size - i) i
structure GFound where
 kind:Int
 text:ByteArray
 pos:Nat
 err:Int
def DG (f:GFound):List PV:=[.int .i64 f.kind,.str f.text,.int .i64 f.pos,.int .i64 f.err]
def rJ (i:Nat):GFound:=⟨0,sNil,i,3⟩
def BN (s:ByteArray) (i j:Nat):GFound:=⟨1,s.extract i j,i,if 24 < j - i then 2 else 0⟩
def JT (s:ByteArray) (i j:Nat):GFound:=⟨2,s.extract i j,i,if decide (7 < j - i)||decide (qO s j=3)||decide (qO s j=5)then 4 else 0⟩
def LN (s:ByteArray) (i:Nat):GFound×Nat:=if 0 < (wJ (s.extract i s.size)).2 then(⟨3,(wJ (s.extract i s.size)).1,i,0⟩,i+(wJ (s.extract i s.size)).2.toNat)else(rJ i,i)
def gT (s:ByteArray) (i:Nat):Option GFound×Nat :=if qO s i=1 then(none,i+1)else if qO s i=2 then(none,PD s i)else if qO s i=3 then(some (BN s i (GP s i)),GP s i)
 else if qO s i=4 then(some (JT s i (PW s i)),PW s i)else if qO s i=7 then(some (LN s i).1,(LN s i).2)
 else if qO s i=6 then(some ⟨4,s.extract i (i+1),i,0⟩,i+1)else(some (rJ i),i)
def lE (s:ByteArray):Nat→Nat→List GFound
 | 0,_=>[]
 | n+1,i=>if i < s.size then(match gT s i with
  | (none,j)=>lE s n j
  | (some f,j)=>f::(if f.err=0 then lE s n j else[]))else[]
theorem HT:∀ (l:List UInt8) (p:List UInt8×Nat),nA l=some p→p.2≤l.length
 | [],p,h=>by cases h
 | [c],p,h=>by
  rw [nA] at h
  split at h
  ·cases h;exact aLZ _
  cases h
 | c :: e :: r, p, h => by
  rw [nA] at h
  split at h
  ·cases h;exact Nat.le_add_left _ _
  split at h
  ·cases h
  split at h
  ·cases hg:yV e with
   | none=>rw [hg] at h;cases h
   | some b =>
    rw [hg] at h;cases hu:nA r with
    | none=>rw [hu] at h;cases h
    | some q =>
     rw [hu] at h;cases h;have:=HT r q hu;show q.2+2≤r.length+1+1;omega
  cases hu:nA (e::r)with
  | none=>rw [hu] at h;cases h
  | some q =>
   rw [hu] at h;cases h;have:=HT (e::r) q hu;show q.2+1≤r.length+1+1;rw [aLV] at this;omega
theorem SK (s:ByteArray):0≤(wJ s).2∧(wJ s).2≤s.size:=by
 have hl:s.data.toList.length=s.size:=by simp
 unfold wJ;cases hu:nA (s.data.toList.drop 1)with
 | none=>exact⟨Int.le_refl _,Int.natCast_nonneg _⟩
 | some p =>
  have:=HT _ p hu;rw [aL8,hl] at this;refine⟨Int.natCast_nonneg _,?_⟩;show ((p.2+1:Nat):Int)≤_;have h0:0 < s.size:=by
   cases h0:s.data.toList with
   | nil=>rw [h0] at hu;cases hu
   | cons a l=>rw [h0] at hl;rw [← hl];exact Nat.succ_pos _
  omega
theorem N2 (s:ByteArray) (i:Nat) (h:qO s i≠0):i < s.size:=by
 by_cases e:i < s.size
 ·exact e
 exact absurd (aLR e) h
def tF (f:GFound):Ob:=bx 4 223 ((DG f).map .pv)
theorem sY (H:aB) (f:GFound):∀ r∈(tF f).rows,∀ a∈r,Clo H a:=by intro r hr a ha;simp only [tF,bx,aLW] at hr;subst hr;obtain ⟨p,_,rfl⟩:=List.mem_map.1 ha;simp
theorem SG {α:Type} {l m:List α} {k:Nat} {d:α} (h:l.drop k=d::m):l[k]?=some d∧l.drop (k+1)=m:=by
 refine⟨?_,?_⟩
 ·have:=congrArg (·[0]?) h
  simpa using this
 rw [← List.drop_drop,h];rfl
theorem aEB {s:ByteArray} {i j:Nat} {f:GFound} (h:gT s i=(some f,j)) (he:f.err=0) (hi:i < s.size):i < j∧j≤s.size:=by
 have hfirst:∀ (p:Nat→Bool),p i=true→i < sF p (s.size - i) i∧sF p (s.size - i) i≤s.size:=fun p hp=>by
  obtain ⟨l1,l2⟩:=CJ p (s.size - i) i;refine⟨?_,by omega⟩;rcases Nat.lt_or_ge i (sF p (s.size - i) i)with h|h
  ·exact h
  have h3:=uE p (s.size - i) i (by omega);rw [show sF p (s.size - i) i=i by omega,hp] at h3;cases h3
 unfold gT at h
 split at h
 ·cases h
 split at h
 ·cases h
 split at h
 ·rename_i e3;cases h;exact hfirst _ (by rw [yK,e3];rfl)
 split at h
 ·rename_i e4;cases h;exact hfirst _ (by rw [ZT,e4];rfl)
 split at h
 ·have hul:=SK (s.extract i s.size);have hexs:(s.extract i s.size).size≤s.size - i:=by rw [ByteArray.size_extract];omega
  unfold LN at h
  split at h
  ·rename_i hpos;cases h;show i < i+(wJ (s.extract i s.size)).2.toNat∧i+(wJ (s.extract i s.size)).2.toNat≤s.size;omega
  cases h;cases he
 split at h
 ·cases h;exact⟨Nat.lt_succ_self _,hi⟩
 cases h;cases he
theorem ltD {i n:Nat} (h:decide ((i:Int) < (n:Int))=true):i < n:=by have:=aLP h;omega
theorem D7 (s:ByteArray) (fv:AV) (Hs:Nat→aB) (cont:Nat→Bool) (m:Nat) (hs:s.size < 1099511627776) (h1:∀ k,(Hs k).get 921=some (tS s)) (h2:∀ k,(Hs k).get 923=some tC) (h3:∀ k,(Hs k).get 924=some tA) (h6:∀ k,(Hs k).get 926=none) (hcl:∀ k,cZ (Hs k)) (hf:∀ k,Clo (Hs k) fv)
  (hm:m≤(lE s (s.size+1) 0).length) (hall:∀ k,k+1 < m→cont k=true) (hend:m=(lE s (s.size+1) 0).length∨(0 < m∧cont (m - 1)=false))
  (hy:∀ k d,(lE s (s.size+1) 0)[k]?=some d→k < m→cC Tryz.prog fv [.agg ((DG d).map .pv)] ((926,tF d)::Hs k) (fun r H'=>r=bv (cont k)∧H'=(926,tF d)::Hs (k+1))) :
  aH Tryz.prog 243 [fv,.ref 921 0 0 0,.ref 924 0 0 0] (Hs 0) (fun r H'=>r=.tup []∧H'=Hs m):=by
 obtain ⟨ds,hds⟩:∃ ds,ds=lE s (s.size+1) 0:=⟨_,rfl⟩;rw [← hds] at hy hm hend;have hat:∀ (k i:Nat) (f:GFound),i≤s.size+1→cC Tryz.prog (.clo 242 [.ref 921 0 0 0,.ref 923 0 0 0]) [iv (i:Int)] ((926,tF f)::Hs k) (fun r H'=>r=.pv (.int .u8 (qO s i))∧H'=(926,tF f)::Hs k):=fun k i f hi =>
  cC.clo call242 (aHp s i ((926,tF f)::Hs k) (h1 k) (h2 k) (by omega) (by omega))
 have hfree:∀ (G0:aB) (k i:Nat) (E:bO) (o:Ob),G0=Hs 0→E.get 0=some fv→E.get 1=some (.ref 921 0 0 0)→E.get 2=some (.ref 924 0 0 0)→E.get 4=some (iv (i:Int)) →
   cD G0 E ((926,o)::Hs k) [(0,fv),(1,.ref 921 0 0 0),(2,.ref 924 0 0 0),(4,iv (i:Int))] (Hs k):=fun G0 k i E o hG q0 q1 q2 q4=>by
  subst hG;exact cD.front (K:=Hs k) [(926,o)] [] ⟨⟨_,q0,rfl⟩,hf k,⟨_,q1,rfl⟩,(by rw [oV];show ((Hs k).get 921).isSome=true;rw [h1];rfl),⟨_,q2,rfl⟩,(by rw [oV];show ((Hs k).get 924).isSome=true;rw [h3];rfl),⟨_,q4,rfl⟩,(by simp),trivial⟩ (by simp [h6]) (by simp) (by simp) (hcl k) (by simp [h6])
 refine Bd func243 rfl ntmps243<|aA5<|Sr<|Dd aP<|Zz<|Sq<|aA6<|aG ?_;refine jB (fun(i k:Nat)=>([(0,fv),(1,.ref 921 0 0 0),(2,.ref 924 0 0 0),(4,iv (i:Int))],Hs k)) (fun i k=>i≤s.size∧k≤m∧(k=0∨cont (k - 1)=true)∧∃ n,s.size - i < n∧ds.drop k=lE s n i) (fun i k=>s.size - i) 0 0 ⟨aLa _,aLa _,.inl rfl,s.size+1,Nat.lt_succ_self _,by rw [List.drop_zero,hds]⟩ ?_ ?_
 ·exact E0
 rintro i k ⟨hi,hkm,hkc,n,hn,hinv⟩;refine Sq<|Sr<|Dd aF<|Dd (by exact aK rfl isAgg9 rfl (h1 k) rfl rfl rfl)<|Dd (nT underlying9)<|Dd dK<|Zz ?_;refine Cn ?_ ?_<;>intro hc1
 ·have hlt:i < s.size:=by have:=aLP hc1;omega
  obtain ⟨n,rfl⟩:∃ n',n=n'+1:=⟨n - 1,by omega⟩;rw [lE,aLS hlt] at hinv;refine aE<|aG<|Sr<|Dd aF<|Dd aP<|Zz<|Sr<|Dd aF<|Dd (uX aGQ)<|Dd (uX aJd)<|Dd (by exact bC (id:=926) rfl aAu rfl (h6 k))<|Uu (iH B7)<|Zz ?_;refine BZ (fun(a:GFound×Nat)=>([(0,fv),(1,.ref 921 0 0 0),(2,.ref 924 0 0 0),(4,iv (a.2:Int)),(6,.ref 926 0 0 0)],(926,tF a.1)::Hs k)) (fun a=>gT s i=(some a.1,a.2)) ?_ ?_
  ·refine Sq ?_;refine fE.ent (E':=[(0,fv),(1,.ref 921 0 0 0),(2,.ref 924 0 0 0),(4,iv (i:Int)),(5,iv (i:Int)),(6,.ref 926 0 0 0)]) (H':=(926,tF (rJ i))::Hs k) (cD.get' ⟨⟨_,rfl,rfl⟩,⟨_,rfl,rfl⟩,⟨_,rfl,rfl⟩,⟨_,rfl,rfl⟩,⟨_,rfl,rfl⟩,⟨_,rfl,rfl⟩,trivial⟩ (fun j=>sT 926 (tF (rJ i)) _ (Hs k) j)) ?_;refine Rg<|Dd (by exact aK rfl FJ rfl (h3 k) rfl rfl rfl)<|Dd aF<|Dd (by exact bY rfl rfl rfl (hat k i (rJ i) (by omega)))<|Zz<|aG<|Sr<|Dd cY<|Da ?_;refine Cn ?_ ?_<;>intro hc2
   ·have e1:qO s i=1:=aLP hc2;have hst:gT s i=(none,i+1):=by rw [gT,aLS e1]
    rw [hst] at hinv;refine Sr<|Dd aF<|Dd pM<|Dd aP<|Zz<|bG ?_;exact⟨i+1,k,⟨by omega,hkm,hkc,n,by omega,hinv⟩,by omega,hfree _ _ _ _ _ rfl rfl rfl rfl rfl⟩
   have n1:qO s i≠1:=aLQ hc2;refine Sr<|Dd cY<|Da ?_;refine Cn ?_ ?_<;>intro hc3
   ·have e2:qO s i=2:=aLP hc3;have hst:gT s i=(none,PD s i):=by rw [gT,aLR n1,aLS e2]
    rw [hst] at hinv;refine Sq<|aG ?_;refine bQ (σ:=Nat) (fun j=>([(0,fv),(1,.ref 921 0 0 0),(2,.ref 924 0 0 0),(4,iv (j:Int))],(926,tF (rJ i))::Hs k)) (fun j=>i≤j∧j≤s.size∧∀ q,i≤q→q < j→IU s q=true) (fun j=>s.size - j) i ⟨aLZ _,hi,fun q h1 h2=>by omega⟩ ?_ ?_
    ·exact E0
    rintro j ⟨hij,hj,hpre⟩;refine Sq<|Sq ?_;refine bD (t:=37) (n:=11) (X:=IU s j) ?_ ?_
    ·all_goals refine Dd aF ?_
     all_goals refine Dd (by exact aK rfl isAgg9 rfl (h1 k) rfl rfl rfl)<|Dd (nT underlying9)<|Dd dK<|Dm ?_
     all_goals refine Sp 32 (fun h32=>?_) fun h32=>?_
     all_goals try contradiction
     all_goals first|refine Fo<|Fo<|Fo<|Fo ?_|refine On (by exact aK rfl isAgg9 rfl (h1 k) rfl rfl rfl)<|On aF<|On (by exact eI rfl underlying9 rfl rfl (by omega) (by exact aL4 _) (ltD h32) rfl)<|On uL ?_
     all_goals refine Dd cE<|Zz ?_
     all_goals(exact⟨⟨_,rfl,by first|(simp_all [IU];done)|(simp_all [IU];omega)⟩,rfl,rfl,rfl⟩)
    refine Cn ?_ ?_<;>intro hc4
    ·have hjs:j < s.size:=by
      have h:=hc4;rw [IU,aL2,aL0] at h;exact h.1
     refine aE<|aG<|Rg<|Dd aF<|Dd pM<|Da ?_;exact⟨j+1,⟨by omega,by omega,fun q q1 q2=>by
      by_cases e:q=j
      ·subst e;exact hc4
      exact hpre q q1 (by omega)⟩,by omega,E0⟩
    have hle:PD s i=j:=CK _ hij (by omega) hpre (.inl hc4);have hgt:i < j:=by
     rcases Nat.lt_or_ge i j with h|h
     ·exact h
     have hji:j=i:=by omega
     subst hji;rw [IU,decide_eq_true hlt,Bool.true_and,Bool.not_eq_false',aL0] at hc4;rw [qO,aLS hlt,hc4] at e2;exact absurd e2 (by decide)
    rw [hle] at hinv;refine bG<|bG ?_;exact⟨j,k,⟨hj,hkm,hkc,n,by omega,hinv⟩,by omega,hfree _ _ _ _ _ rfl rfl rfl rfl rfl⟩
   have n2:qO s i≠2:=aLQ hc3;refine Sr<|Dd cY<|Da ?_;refine Cn ?_ ?_<;>intro hc5
   ·have e3:qO s i=3:=aLP hc5;refine Sq<|Sr<|Dd (by exact aK rfl FJ rfl (h3 k) rfl rfl rfl)<|Dd aF<|Dd (by exact bY rfl rfl rfl (hat k i (rJ i) (by omega)))<|Dd aP<|Zz<|aG ?_;refine bQ (σ:=Nat) (fun j=>([(0,fv),(1,.ref 921 0 0 0),(2,.ref 924 0 0 0),(4,iv (j:Int)),(5,iv (i:Int)),(6,.ref 926 0 0 0),(7,.pv (.int .u8 (qO s j)))],(926,tF (rJ i))::Hs k)) (fun j=>i≤j∧j≤s.size∧∀ q,i≤q→q < j→yK s q=true) (fun j=>s.size - j) i ⟨aLZ _,hi,fun q h1 h2=>by omega⟩ ?_ ?_
    ·exact E0
    rintro j ⟨hij,hj,hpre⟩;refine Sq<|Sq ?_;refine bD (t:=54) (n:=12) (X:=yK s j) ?_ ?_
    ·all_goals refine Dd aF ?_
     all_goals refine Dd cY<|Dm ?_
     all_goals refine Sp 47 (fun h47=>?_) fun h47=>?_
     all_goals try contradiction
     all_goals first|refine Fo<|Fo ?_|refine On aF<|On cY ?_
     all_goals refine Dd cE<|Dm ?_
     all_goals refine Sp 51 (fun h51=>?_) fun h51=>?_
     all_goals try contradiction
     all_goals first|refine Fo<|Fo ?_|refine On aF<|On cY ?_
     all_goals refine Dd cE<|Zz ?_
     all_goals(exact⟨⟨_,rfl,by(simp only [yK, *];rfl)⟩,rfl,rfl,rfl⟩)
    refine Cn ?_ ?_<;>intro hc6
    ·have hjs:j < s.size:=N2 s j (fun e=>by rw [yK,e] at hc6;cases hc6);refine aE<|Sq<|aG<|Rg<|Dd aF<|Dd pM<|Dd aP<|Zz<|Rg<|Dd (by exact aK rfl FJ rfl (h3 k) rfl rfl rfl)<|Dd aF<|Dd (by exact bY rfl rfl rfl (hat k (j+1) (rJ i) (by omega)))<|Da ?_;exact⟨j+1,⟨by omega,by omega,fun q q1 q2=>by
      by_cases e:q=j
      ·subst e;exact hc6
      exact hpre q q1 (by omega)⟩,by omega,E0⟩
    have hle:GP s i=j:=CK _ hij (by omega) hpre (.inl hc6);have hst:gT s i=(some (BN s i j),j):=by rw [gT,aLR n1,aLR n2,aLS e3,hle]
    refine bG<|Sq<|aQ follows<|Cr [921] (fun H1 hH=>by exact aK rfl isAgg9 rfl ((hH _ rfl).trans (h1 k)) rfl rfl rfl)<|Cr [] (fun _ _=>aF)<|Cr [] (fun _ _=>aF)<|Cr [] (fun H1 hH=>by exact cK (l:=i) (h:=j) rfl underlying9 rfl rfl rfl (by omega) (by omega) rfl)<|Cr [926] (fun _ h=>fh kO h)<|Cr [926] (fun _ h=>fh DE h)<|Cp [926] (fun H1 hH=>by exact bA rfl sizeOf3 rfl rfl rfl ((hH _ rfl).trans rfl) rfl rfl (aL6 rfl) rfl rfl)<|Cr [926] (fun _ h=>fh kO h)<|Cr [926] (fun _ h=>fh jU h)<|Cp [926] (fun H1 hH=>by exact bA rfl sizeOf9 rfl rfl rfl ((hH _ rfl).trans rfl) rfl rfl (aL6 rfl) rfl rfl)<|Cr [926] (fun _ h=>fh nN h)<|Cp [926] (fun H1 hH=>by exact bA rfl sizeOf41 rfl rfl rfl ((hH _ rfl).trans rfl) rfl rfl (aL6 rfl) rfl rfl) ?_;refine bJ<|Kr<|Sr<|Dd aF<|Dd aF<|Dd (by exact eB rfl rfl rfl (show IntKind.i64.wrap ((j:Int) - (i:Int))=((j - i:Nat):Int)by rw [IntKind.wrap_i64];omega))<|Dd mI<|Zz ?_;refine Cn ?_ ?_<;>intro hc7
    ·have hE:BN s i j=⟨1,s.extract i j,i,2⟩:=by rw [BN,aLS (by have:=aLP hc7;omega)]
     rw [hE] at hst;refine Rg<|Dd (bB nN)<|Uu (by exact bA rfl sizeOf41 rfl rfl rfl rfl rfl rfl (aL6 rfl) rfl rfl)<|Zz ?_;exact⟨(⟨1,s.extract i j,i,2⟩,j),hst,cD.get' ⟨⟨_,rfl,rfl⟩,⟨_,rfl,rfl⟩,⟨_,rfl,rfl⟩,⟨_,rfl,rfl⟩,⟨_,rfl,rfl⟩,trivial⟩ (fun q=>uW [_,_,_,_] (by simp) q)⟩
    have hE:BN s i j=⟨1,s.extract i j,i,0⟩:=by rw [BN,aLR (by have:=aLQ hc7;omega)]
    rw [hE] at hst;refine aE ?_;exact⟨(⟨1,s.extract i j,i,0⟩,j),hst,cD.get' ⟨⟨_,rfl,rfl⟩,⟨_,rfl,rfl⟩,⟨_,rfl,rfl⟩,⟨_,rfl,rfl⟩,⟨_,rfl,rfl⟩,trivial⟩ (fun q=>uW [_,_,_] (by simp) q)⟩
   have n3:qO s i≠3:=aLQ hc5;refine Sr<|Dd cY<|Da ?_;refine Cn ?_ ?_<;>intro hc8
   ·have e4:qO s i=4:=aLP hc8;refine Sq<|aG ?_;refine bQ (σ:=Nat) (fun j=>([(0,fv),(1,.ref 921 0 0 0),(2,.ref 924 0 0 0),(4,iv (j:Int)),(5,iv (i:Int)),(6,.ref 926 0 0 0)],(926,tF (rJ i))::Hs k)) (fun j=>i≤j∧j≤s.size∧∀ q,i≤q→q < j→ZT s q=true) (fun j=>s.size - j) i ⟨aLZ _,hi,fun q h1 h2=>by omega⟩ ?_ ?_
    ·exact E0
    rintro j ⟨hij,hj,hpre⟩;refine Sq<|Sr<|Dd (by exact aK rfl FJ rfl (h3 k) rfl rfl rfl)<|Dd aF<|Dd (by exact bY rfl rfl rfl (hat k j (rJ i) (by omega)))<|Dd cY<|Zz ?_;refine Cn ?_ ?_<;>intro hc9
    ·have hjs:j < s.size:=N2 s j (fun e=>by rw [e] at hc9;cases hc9);refine aE<|aG<|Rg<|Dd aF<|Dd pM<|Da ?_;exact⟨j+1,⟨by omega,by omega,fun q q1 q2=>by
      by_cases e:q=j
      ·subst e;exact hc9
      exact hpre q q1 (by omega)⟩,by omega,E0⟩
    have hle:PW s i=j:=CK _ hij (by omega) hpre (.inl hc9);have hst:gT s i=(some (JT s i j),j):=by rw [gT,aLR n1,aLR n2,aLR n3,aLS e4,hle]
    refine bG<|Sq<|aQ follows<|Cr [921] (fun H1 hH=>by exact aK rfl isAgg9 rfl ((hH _ rfl).trans (h1 k)) rfl rfl rfl)<|Cr [] (fun _ _=>aF)<|Cr [] (fun _ _=>aF)<|Cr [] (fun H1 hH=>by exact cK (l:=i) (h:=j) rfl underlying9 rfl rfl rfl (by omega) (by omega) rfl)<|Cr [926] (fun _ h=>fh kO h)<|Cr [926] (fun _ h=>fh DE h)<|Cp [926] (fun H1 hH=>by exact bA rfl sizeOf3 rfl rfl rfl ((hH _ rfl).trans rfl) rfl rfl (aL6 rfl) rfl rfl)<|Cr [926] (fun _ h=>fh kO h)<|Cr [926] (fun _ h=>fh jU h)<|Cp [926] (fun H1 hH=>by exact bA rfl sizeOf9 rfl rfl rfl ((hH _ rfl).trans rfl) rfl rfl (aL6 rfl) rfl rfl)<|Cr [926] (fun _ h=>fh nN h)<|Cp [926] (fun H1 hH=>by exact bA rfl sizeOf41 rfl rfl rfl ((hH _ rfl).trans rfl) rfl rfl (aL6 rfl) rfl rfl) ?_;refine bJ<|Kr<|Sq ?_;refine fE.ent (E':=[(0,fv),(1,.ref 921 0 0 0),(2,.ref 924 0 0 0),(4,iv (j:Int)),(5,iv (i:Int)),(6,.ref 926 0 0 0)]) (H':=(926,tF ⟨2,s.extract i j,i,0⟩)::Hs k) (cD.get' ⟨⟨_,rfl,rfl⟩,⟨_,rfl,rfl⟩,⟨_,rfl,rfl⟩,⟨_,rfl,rfl⟩,⟨_,rfl,rfl⟩,⟨_,rfl,rfl⟩,trivial⟩ (fun q=>uW [_,_,_] (by simp) q)) ?_;have h7:decide (7 < ((j - i:Nat):Int))=decide (7 < j - i):=by rw [Bool.eq_iff_iff,aL0,aL0];omega
    refine Rg<|Dd (by exact aK rfl FJ rfl (h3 k) rfl rfl rfl)<|Dd aF<|Dd (by exact bY rfl rfl rfl (hat k j ⟨2,s.extract i j,i,0⟩ (by omega)))<|Dd aP<|Zz<|Sq ?_;refine bD (t:=105) (n:=14) (X:=decide (7 < ((j - i:Nat):Int))||decide (qO s j=3)||decide (qO s j=5)) ?_ ?_
    ·all_goals refine Dd aF ?_
     all_goals refine Dd aF<|Dd (by exact eB rfl rfl rfl (show IntKind.i64.wrap ((j:Int) - (i:Int))=((j - i:Nat):Int)by rw [IntKind.wrap_i64];omega))<|Dd mI<|Dm ?_
     all_goals refine Sp 98 (fun h98=>?_) fun h98=>?_
     all_goals try contradiction
     all_goals first|refine Fo<|Fo ?_|refine On aF<|On cY ?_
     all_goals refine Dd cE<|Dm ?_
     all_goals refine Sp 102 (fun h102=>?_) fun h102=>?_
     all_goals try contradiction
     all_goals first|refine Fo<|Fo ?_|refine On aF<|On cY ?_
     all_goals refine Dd cE<|Zz ?_
     all_goals(exact⟨⟨_,rfl,by first|(simp_all [yK];done)|(simp_all;omega)⟩,rfl,rfl,rfl⟩)
    refine Cn ?_ ?_<;>intro hc10
    ·have hE:JT s i j=⟨2,s.extract i j,i,4⟩:=by rw [JT,← h7,hc10];rfl
     rw [hE] at hst;refine Rg<|Dd (bB nN)<|Uu (by exact bA rfl sizeOf41 rfl rfl rfl rfl rfl rfl (aL6 rfl) rfl rfl)<|Zz ?_;exact⟨(⟨2,s.extract i j,i,4⟩,j),hst,cD.get' ⟨⟨_,rfl,rfl⟩,⟨_,rfl,rfl⟩,⟨_,rfl,rfl⟩,⟨_,rfl,rfl⟩,⟨_,rfl,rfl⟩,trivial⟩ (fun q=>uW [_] (by simp) q)⟩
    have hE:JT s i j=⟨2,s.extract i j,i,0⟩:=by rw [JT,← h7,hc10];rfl
    rw [hE] at hst;refine aE ?_;exact⟨(⟨2,s.extract i j,i,0⟩,j),hst,E0⟩
   have n4:qO s i≠4:=aLQ hc8;refine Sr<|Dd cY<|Da ?_;refine Cn ?_ ?_<;>intro hc11
   ·have e7:qO s i=7:=aLP hc11;have hst:gT s i=(some (LN s i).1,(LN s i).2):=by rw [gT,aLR n1,aLR n2,aLR n3,aLR n4,aLS e7]
    have hexs:(s.extract i s.size).size≤s.size - i:=by rw [ByteArray.size_extract];omega
    have hun:=fun H=>T4 (s.extract i s.size) H (by omega);have hul:=SK (s.extract i s.size);obtain ⟨u,hu⟩:∃ u,u=wJ (s.extract i s.size):=⟨_,rfl⟩;have hgs:LN s i=if 0 < u.2 then(⟨3,u.1,i,0⟩,i+u.2.toNat)else(rJ i,i):=by rw [LN,← hu]
    rw [← hu] at hun hul;obtain ⟨ut,un⟩:=u;simp only at hun hul hgs;refine Sr<|Dd (by exact aK rfl isAgg9 rfl (h1 k) rfl rfl rfl)<|Dd aF<|Dd (by exact cK (l:=i) (h:=s.size) rfl underlying9 rfl rfl rfl (by omega) (by omega) rfl)<|Dd (by exact aA rfl rfl call244 rfl (hun _))<|Dd aF<|Dd dV<|Dd dV<|Dd aP<|Dd aP<|Zz<|Sq<|Sr<|Dd aF<|Dd mI<|Zz ?_;refine Cn ?_ ?_<;>intro hc12
    ·rw [hgs,aLS (aLP hc12)] at hst;refine Rg<|Dd aF<|Dd (bB kO)<|Dd (bB DE)<|Uu (by exact bA rfl sizeOf3 rfl rfl rfl rfl rfl rfl (aL6 rfl) rfl rfl)<|Dd (bB kO)<|Dd (bB jU)<|Uu (by exact bA rfl sizeOf9 rfl rfl rfl rfl rfl rfl (aL6 rfl) rfl rfl)<|Dd (bB nN)<|Uu (by exact bA rfl sizeOf41 rfl rfl rfl rfl rfl rfl (aL6 rfl) rfl rfl)<|Zz<|Rg<|Dd aF<|Dd aF<|Dd (by exact cA rfl rfl rfl (show IntKind.i64.wrap ((i:Int)+un)=((i+un.toNat:Nat):Int)by rw [IntKind.wrap_i64];omega))<|Da ?_;exact⟨(⟨3,ut,i,0⟩,i+un.toNat),hst,cD.get' ⟨⟨_,rfl,rfl⟩,⟨_,rfl,rfl⟩,⟨_,rfl,rfl⟩,⟨_,rfl,rfl⟩,⟨_,rfl,rfl⟩,trivial⟩ (fun q=>uW [_,_,_] (by simp) q)⟩
    have hu0:=aLQ hc12;rw [hgs,aLR hu0] at hst;have e0:i+un.toNat=i:=by omega
    refine aE<|Rg<|Dd aF<|Dd aF<|Dd (by exact cA rfl rfl rfl (show IntKind.i64.wrap ((i:Int)+un)=((i+un.toNat:Nat):Int)by rw [IntKind.wrap_i64];omega))<|Da ?_;rw [e0];exact⟨(rJ i,i),hst,E0⟩
   have n7:qO s i≠7:=aLQ hc11;refine Sr<|Dd cY<|Da ?_;refine Cn ?_ ?_<;>intro hc13
   ·have e6:qO s i=6:=aLP hc13;have hst:gT s i=(some ⟨4,s.extract i (i+1),i,0⟩,i+1):=by rw [gT,aLR n1,aLR n2,aLR n3,aLR n4,aLR n7,aLS e6]
    refine Sr<|Dd aF<|Dd pM<|Dd aP<|Zz<|aQ follows<|Cr [921] (fun H1 hH=>by exact aK rfl isAgg9 rfl ((hH _ rfl).trans (h1 k)) rfl rfl rfl)<|Cr [] (fun _ _=>aF)<|Cr [] (fun _ _=>aF)<|Cr [] (fun H1 hH=>by exact cK (l:=i) (h:=(i+1)) rfl underlying9 rfl rfl rfl (by omega) (by omega) rfl)<|Cr [926] (fun _ h=>fh kO h)<|Cr [926] (fun _ h=>fh DE h)<|Cp [926] (fun H1 hH=>by exact bA rfl sizeOf3 rfl rfl rfl ((hH _ rfl).trans rfl) rfl rfl (aL6 rfl) rfl rfl)<|Cr [926] (fun _ h=>fh kO h)<|Cr [926] (fun _ h=>fh jU h)<|Cp [926] (fun H1 hH=>by exact bA rfl sizeOf9 rfl rfl rfl ((hH _ rfl).trans rfl) rfl rfl (aL6 rfl) rfl rfl)<|Cr [926] (fun _ h=>fh nN h)<|Cp [926] (fun H1 hH=>by exact bA rfl sizeOf41 rfl rfl rfl ((hH _ rfl).trans rfl) rfl rfl (aL6 rfl) rfl rfl) ?_;refine bJ<|Kr ?_;exact⟨(⟨4,s.extract i (i+1),i,0⟩,i+1),hst,cD.get' ⟨⟨_,rfl,rfl⟩,⟨_,rfl,rfl⟩,⟨_,rfl,rfl⟩,⟨_,rfl,rfl⟩,⟨_,rfl,rfl⟩,trivial⟩ (fun q=>uW [_,_,_] (by simp) q)⟩
   have n6:qO s i≠6:=aLQ hc13;have hst:gT s i=(some (rJ i),i):=by rw [gT,aLR n1,aLR n2,aLR n3,aLR n4,aLR n7,aLR n6]
   refine aE ?_;exact⟨(rJ i,i),hst,E0⟩
  rintro⟨f,j⟩ hst;rw [hst] at hinv;simp only at hinv hst;obtain ⟨hk1,hk2⟩:=SG hinv;have hkl:=(aLX.1 hk1).1;have hkm2:k < m:=by
   rcases Nat.lt_or_ge k m with h|h
   ·exact h
   have hkem:k=m:=Nat.le_antisymm hkm h;subst hkem;rcases hend with h|⟨h,h'⟩
   ·omega
   rcases hkc with h2|h2
   ·omega
   rw [h2] at h';cases h'
  have hstop:ds.length=k+1∨cont k=false→k+1=m:=fun h=>by
   rcases h with h|h
   ·omega
   rcases Nat.lt_or_ge (k+1) m with h3|h3
   ·rw [hall k h3] at h;cases h
   omega
  have hyk:=hy k f hk1 hkm2;cases hck:cont k with
  | false =>
   have hkk:=hstop (.inr hck);rw [hck] at hyk;refine Sr<|Dd aF<|Dd (pZ isAgg223 B7)<|Dd (by exact bY rfl rfl rfl (hyk))<|Dd lI<|Dd aF<|Fo<|Fo<|Fo<|Dd cE<|Zz ?_;refine Cn ?_ ?_<;>intro hc14
   ·refine aC ?_;rw [← hkk];exact pL (H':=Hs (k+1)) (.inr rfl) rfl (Fin.pops' [(926,tF f)] (by simp) (hcl _) (by simp [h6]) (by simp [h6])) ⟨rfl,rfl⟩
   cases hc14
  | true =>
   rw [hck] at hyk;refine Sr<|Dd aF<|Dd (pZ isAgg223 B7)<|Dd (by exact bY rfl rfl rfl (hyk))<|Dd lI<|Dd aF<|On (bB nN)<|On (bK jC)<|On uL<|Dd cE<|Zz ?_;refine Cn ?_ ?_<;>intro hc15
   ·have hne:f.err≠0:=by
     have h:=hc15
     simpa using h
    rw [aLR hne] at hk2;have hkk:=hstop (.inl (by have:=List.drop_eq_nil_iff.1 hk2;omega));refine aC ?_;rw [← hkk];exact pL (H':=Hs (k+1)) (.inr rfl) rfl (Fin.pops' [(926,tF f)] (by simp) (hcl _) (by simp [h6]) (by simp [h6])) ⟨rfl,rfl⟩
   have he0:f.err=0:=by
    have h:=hc15
    simpa using h
   obtain ⟨g1,g2⟩:=aEB hst he0 hlt;rw [aLS he0] at hk2;refine aE ?_;exact⟨j,k+1,⟨g2,hkm2,.inr hck,n,by omega,hk2⟩,by omega,hfree _ _ _ _ _ rfl rfl rfl rfl rfl⟩
 have hge:s.size≤i:=by have:=aLQ hc1;omega
 have hnil:lE s n i=[]:=by
  cases n with
  | zero=>rfl
  | succ n=>rw [lE,aLR (by omega)]
 rw [hnil] at hinv;have hkd:=List.drop_eq_nil_iff.1 hinv;have hkk:k=m:=by omega
 refine bG ?_;rw [← hkk];exact pL (H':=Hs k) (.inl rfl) rfl Fin.refl ⟨rfl,rfl⟩
def dM (f:GFound):List PV:=[.int .i64 f.kind,.str f.text,.int .i64 f.pos]
def OJ (l:List GFound):PV:=.sl (l.map dM)
def iS (l:List GFound):List (List AV):=l.map fun f=>(dM f).map AV.pv
theorem vJ (l:List GFound):(iS l).length=l.length:=aLT _
theorem BA (l:List GFound) (f:GFound):iS l++[(dM f).map AV.pv]=iS (l++[f]):=by rw [iS,iS,List.map_append];rfl
theorem bW (H:aB) (l:List GFound):∀ r∈iS l,∀ a∈r,Clo H a:=by intro r hr a ha;obtain ⟨d,_,rfl⟩:=List.mem_map.1 hr;obtain ⟨p,_,rfl⟩:=List.mem_map.1 ha;simp
theorem nC {H:aB} (h1:(H.get 921).isSome=true) (h2:(H.get 923).isSome=true):∀ r∈tA.rows,∀ a∈r,Clo H a:=by intro r hr a ha;simp only [tA,bx,aLW] at hr;subst hr;rw [aLW] at ha;subst ha;simp [h1,h2]
theorem nB (H:aB) (s:ByteArray):∀ r∈(tS s).rows,∀ a∈r,Clo H a:=by intro r hr a ha;simp only [tS,bx,aLW] at hr;subst hr;rw [aLW] at ha;subst ha;simp
def kH:List GFound→List GFound→List GFound×Int×Int
 | acc,[]=>(acc,0,0)
 | acc,f::r=>if f.err≠0 then([],f.err,f.pos)else if acc.length=5000 then([],2,f.pos)else kH (acc++[f]) r
def gP (s:ByteArray):List GFound×Int×Int:=if 20000 < s.size then([],2,-1)else kH [] (lE s (s.size+1) 0)
def nH (ds:List GFound) (k:Nat):Bool:=match ds[k]? with
 | some f=>decide (f.err=0)&&!decide (k=5000)
 | none=>true
theorem ES {ds:List GFound}:∀ {k:Nat},k≤ds.length→(∀ j,j < k→nH ds j=true)→kH [] ds=kH (ds.take k) (ds.drop k)
 | 0,_,_=>rfl
 | k+1,hk,h=>by
  rw [ES (Nat.le_of_succ_le hk) (fun j hj=>h j (by omega))];have hd:ds.drop k=ds[k]::ds.drop (k+1):=List.drop_eq_getElem_cons hk;have hok:=h k (Nat.lt_succ_self k);rw [nH,aLY hk] at hok;simp only [aL2,aL0,aLc,aL1] at hok;have htl:(ds.take k).length=k:=by rw [aL7];omega
  rw [hd,kH,aLR (fun h=>h hok.1),aLR (by rw [htl];exact hok.2),List.take_add_one,aLY hk];rfl
theorem yC (s:ByteArray):∀ (n i:Nat),(lE s n i).length≤n
 | 0,_=>aLa _
 | n+1,i=>by
  rw [lE]
  split
  ·split
   ·exact Nat.le_succ_of_le (yC s n _)
   rw [aLV]
   split
   ·exact Nat.succ_le_succ (yC s n _)
   exact Nat.succ_le_succ (aLa _)
  exact aLa _
def kL (s:ByteArray) (L:List GFound) (a:AV) (e p:Int):aB:=[(905,⟨L.length,3,196,iS L⟩),(5,bx 1 191 [.osl 905 L.length 0 L.length]),(924,tA),(923,tC),(921,tS s),(4,bx 1 3 [iv p]),(3,bx 1 41 [iv e]),(2,bx 1 191 [a])]
theorem aCZ (s:ByteArray) (L:List GFound) (f:GFound) (a:AV) (e p:Int):kL s (L++[f]) a e p=[(905,⟨L.length+1,3,196,iS (L++[f])⟩),(5,bx 1 191 [.osl 905 (L.length+1) 0 (L.length+1)]),(924,tA),(923,tC),(921,tS s),(4,bx 1 3 [iv p]),(3,bx 1 41 [iv e]),(2,bx 1 191 [a])]:=by simp [kL]
def pI:bO:=[(2,.ref 2 0 0 0),(3,.ref 3 0 0 0),(4,.ref 4 0 0 0),(5,.ref 5 0 0 0)]
theorem C1 {ds:List GFound} {k:Nat} {f:GFound} (h:ds[k]?=some f):nH ds k=(decide (f.err=0)&&!decide (k=5000)):=by rw [nH,h]
theorem aGF (s:ByteArray) (H:aB) (hs:s.size < 1099511627776):aH Tryz.prog 167 [sv s] H (fun r H'=>r=.tup [.pv (OJ (gP s).1),iv (gP s).2.1,iv (gP s).2.2]∧H'=H):=by
 refine Pu ?_;refine Bd func167 rfl ntmps167<|Sr<|Dd (by exact bC (id:=2) rfl aFv rfl rfl)<|Dd (by exact bC (id:=3) rfl aG2 rfl rfl)<|Dd (by exact bC (id:=4) rfl zo3 rfl rfl)<|Zz<|Sq<|Sr<|Dd aF<|Dd (nT underlying9)<|Dd mI<|Zz ?_;refine Cn ?_ ?_<;>intro hc1
 ·have e:gP s=([],2,-1):=by rw [gP,aLS (by have:=aLP hc1;omega)]
  rw [e];refine Sr<|Uu (iH jW)<|Uu (iH sizeOf41)<|Uu (iH sizeOf3)<|Zz<|aC ?_;refine xL (H':=[]) (.inr rfl) rfl (eX rfl jI rfl rfl rfl rfl) (eX rfl jC rfl rfl rfl rfl) (eX rfl isAgg3 rfl rfl rfl rfl) (Fin.wk (by simp) trivial trivial) ?_;exact Qq
 have hsz:¬ 20000 < s.size:=by have:=aLQ hc1;omega
 obtain ⟨ds,hds⟩:∃ ds,ds=lE s (s.size+1) 0:=⟨_,rfl⟩;have hg:gP s=kH [] ds:=by rw [gP,aLR hsz,hds]
 refine aE<|Sr<|Dd (by exact bC (id:=5) rfl aAt rfl rfl)<|Zz<|Sq<|Sr<|Dd aF<|Dd (by exact aA rfl rfl call204 rfl (QX s _ rfl rfl rfl (cZ.ofL ⟨(by(simp;done)),(by(simp;done)),(by(simp;done)),(by(simp;done)),trivial⟩)))<|Zz<|aG ?_;refine fE.ent (E':=[(2,.ref 2 0 0 0),(3,.ref 3 0 0 0),(4,.ref 4 0 0 0),(5,.ref 5 0 0 0),(11,.clo 243 [.ref 921 0 0 0,.ref 924 0 0 0])]) (H':=[(905,⟨0,3,196,[]⟩),(5,bx 1 191 [.osl 905 0 0 0]),(924,tA),(923,tC),(921,tS s),(4,bx 1 3 [iv 0]),(3,bx 1 41 [iv 0]),(2,bx 1 191 [.pv (.sl [])])]) ?_ ?_
 ·exact(cD.nz 905 3 196 rfl rfl ⟨⟨_,rfl,(by exact Nz.same (by(simp;rfl)))⟩,⟨_,rfl,(by exact Nz.same (by(simp;rfl)))⟩,⟨_,rfl,(by exact Nz.same (by(simp;rfl)))⟩,⟨_,rfl,(by exact Nz.same (by(simp;rfl)))⟩,⟨_,rfl,(by exact Nz.same (by(simp;exact⟨rfl,rfl⟩)))⟩,trivial⟩ ⟨⟨_,rfl,rfl,rfl,rfl,(by exact .inr ⟨_,_,rfl,rfl,(by repeat(first|exact trivial|refine⟨(by exact Nz.own),?_⟩))⟩)⟩,⟨_,rfl,rfl,rfl,rfl,(by exact .inl ⟨rfl,(by exact nC rfl rfl)⟩)⟩,⟨_,rfl,rfl,rfl,rfl,(by exact .inl ⟨rfl,(by exact gB _)⟩)⟩,⟨_,rfl,rfl,rfl,rfl,(by exact .inl ⟨rfl,(by exact nB _ _)⟩)⟩,⟨_,rfl,rfl,rfl,rfl,(by exact .inl ⟨rfl,(by(simp;done))⟩)⟩,⟨_,rfl,rfl,rfl,rfl,(by exact .inl ⟨rfl,(by(simp;done))⟩)⟩,⟨_,rfl,rfl,rfl,rfl,(by exact .inl ⟨rfl,(by(simp;done))⟩)⟩,trivial⟩ trivial)
 have hdl:ds.length≤s.size+1:=by rw [hds];exact yC s _ _
 obtain ⟨j,hj⟩:∃ j,j=sF (nH ds) ds.length 0:=⟨_,rfl⟩;have hj1:j≤ds.length:=by have:=(CJ (nH ds) ds.length 0).2;omega
 have hj2:∀ k,k < j→nH ds k=true:=fun k hk=>CL (nH ds) ds.length 0 k (aLa _) (by rw [← hj];exact hk);have hj3:j < ds.length→nH ds j=false:=fun h=>by have:=uE (nH ds) ds.length 0 (by omega);rwa [← hj] at this
 have hrun:=ES hj1 hj2;refine AO (id:=904) (p:=12) pI rfl call243 rfl rfl (by simp [pI];exact⟨rfl,rfl,rfl,rfl⟩) ?_;intro x hx1 hx2 hx3 hx4 hx5 hx6;have hround:∀ (k:Nat) (d:GFound),ds[k]?=some d→k≤j →
   cC Tryz.prog (.yld 904 0) [.agg ((DG d).map .pv)] ((904,LR x pI)::(926,tF d)::kL s (ds.take k) (.pv (.sl [])) 0 0) (fun r H'=>r=bv (nH ds k)∧H'=(if nH ds k then(904,LR x pI)::(926,tF d)::kL s (ds.take (k+1)) (.pv (.sl [])) 0 0 else(904,LR (left x .ret) pI)::(926,tF d)::kL s (ds.take k) (.pv (.sl [])) (if d.err≠0 then d.err else 2) d.pos)):=by
  intro k d hd hkj;have hok:=C1 hd;have hkl:k < ds.length:=(aLX.1 hd).1;have htl:(ds.take k).length=k:=by rw [aL7];omega
  have hnx:ds.take (k+1)=ds.take k++[d]:=by rw [List.take_add_one,hd];rfl
  refine .inl ⟨904,0,rfl,?_⟩;refine N7 [(2,.ref 2 0 0 0),(3,.ref 3 0 0 0),(4,.ref 4 0 0 0),(5,.ref 5 0 0 0),(6,.ref 907 0 0 0)] ((907,tF d)::(926,tF d)::kL s (ds.take k) (.pv (.sl [])) 0 0) hx1 hx2 hx3 hx4 hx5 hx6 rfl rfl rfl ?_ ?_
  ·refine Rg<|Dd (by exact bC (id:=907) rfl aAu rfl rfl)<|Uu (iH B7)<|Zz ?_;exact(cD.wk (Ea<|Ea<|Ea<|Ea<|Ea<|trivial) (Hc (jG (by simp [pI];exact⟨rfl,rfl,rfl,rfl⟩))<|Hc (sY _ _)<|Hc (sY _ _)<|Hc (bW _ _)<|Ha<|Hc (nC rfl rfl)<|Hc (gB _)<|Hc (nB _ _)<|Hb<|Hb<|Hb<|trivial) ⟨rfl,rfl,rfl,rfl,rfl,rfl,rfl,rfl,rfl,rfl,trivial⟩)
  refine aG<|Sq<|aG<|Sr<|Dd (bB nN)<|Dd (bK jC)<|Dd uL<|Da ?_;refine Cn ?_ ?_<;>intro hc2
  ·have he:d.err≠0:=by have h:=hc2;rw [aLc,aL1] at h;exact h
   have h0:nH ds k=false:=by rw [hok,decide_eq_false he];rfl
   rw [h0,aLR (by decide),aLS he];refine Sq<|aQ follows<|Cr [907] (fun _ h=>fh nN h)<|Cr [907] (fun _ h=>lh jC h)<|Cr [907] (fun _ h=>fh kO h)<|Cr [907] (fun _ h=>fh HG h)<|Cr [907] (fun _ h=>lh isAgg3 h)<|Cp [2] (fun H1 hH=>by exact bT rfl jW rfl rfl rfl rfl ((hH _ rfl).trans rfl) rfl rfl rfl)<|Cp [3] (fun H1 hH=>by exact bT rfl sizeOf41 rfl rfl rfl rfl ((hH _ rfl).trans rfl) rfl rfl rfl)<|Cp [4] (fun H1 hH=>by exact bT rfl sizeOf3 rfl rfl rfl rfl ((hH _ rfl).trans rfl) rfl rfl rfl)<|bJ<|Kr<|aC ?_;exact⟨(926,tF d)::kL s (ds.take k) (.pv (.sl [])) d.err d.pos,(cD.wk trivial (Hc (jG (by simp [pI];exact⟨rfl,rfl,rfl,rfl⟩))<|Hc (sY _ _)<|Hc (bW _ _)<|Ha<|Hc (nC rfl rfl)<|Hc (gB _)<|Hc (nB _ _)<|Hb<|Hb<|Hb<|trivial) ⟨rfl,rfl,rfl,rfl,rfl,rfl,rfl,rfl,rfl,rfl,trivial⟩),rfl,rfl⟩
  have he:d.err=0:=by have h:=hc2;rw [Bool.not_eq_false',aL0] at h;exact h
  refine Sr<|Dd (bK jI)<|Dd (by exact dS rfl fP rfl rfl rfl)<|Dd cY<|Da ?_;refine Cn ?_ ?_<;>intro hc3
  ·have hk5:k=5000:=by have:=aLP hc3;omega
   have h0:nH ds k=false:=by rw [hok,decide_eq_true he,decide_eq_true hk5];rfl
   rw [h0,aLR (by decide),aLR (fun h=>h he)];refine Sq<|aQ follows<|Cr [907] (fun _ h=>fh kO h)<|Cr [907] (fun _ h=>fh HG h)<|Cr [907] (fun _ h=>lh isAgg3 h)<|Cp [2] (fun H1 hH=>by exact bT rfl jW rfl rfl rfl rfl ((hH _ rfl).trans rfl) rfl rfl rfl)<|Cp [3] (fun H1 hH=>by exact bT rfl sizeOf41 rfl rfl rfl rfl ((hH _ rfl).trans rfl) rfl rfl rfl)<|Cp [4] (fun H1 hH=>by exact bT rfl sizeOf3 rfl rfl rfl rfl ((hH _ rfl).trans rfl) rfl rfl rfl)<|bJ<|Kr<|aC ?_;exact⟨(926,tF d)::kL s (ds.take k) (.pv (.sl [])) 2 d.pos,(cD.wk trivial (Hc (jG (by simp [pI];exact⟨rfl,rfl,rfl,rfl⟩))<|Hc (sY _ _)<|Hc (bW _ _)<|Ha<|Hc (nC rfl rfl)<|Hc (gB _)<|Hc (nB _ _)<|Hb<|Hb<|Hb<|trivial) ⟨rfl,rfl,rfl,rfl,rfl,rfl,rfl,rfl,rfl,rfl,trivial⟩),rfl,rfl⟩
  have hk5:¬ k=5000:=by have:=aLQ hc3;omega
  have h0:nH ds k=true:=by rw [hok,decide_eq_true he,decide_eq_false hk5];rfl
  rw [h0,aLS rfl,hnx,aCZ];refine aE<|Rg<|Dd (bK jI)<|Dd (bB kO)<|Dd (pZ TW sizeOf196)<|Dd (by exact aS [dM d] rfl lN rfl rfl rfl rfl rfl (by intro r hr;rw [aLW] at hr;subst hr;rfl))<|Dd (by exact eK (ps:=[dM d]) rfl lN aCm rfl rfl rfl rfl rfl (vJ _) rfl (by intro r hr;rw [aLW] at hr;subst hr;rfl) (m:=1) rfl (by omega) rfl (BA (ds.take k) d))<|Uu (iH jW)<|Zz ?_;exact⟨(926,tF d)::[(905,⟨(ds.take k).length+1,3,196,iS (ds.take k++[d])⟩),(5,bx 1 191 [.osl 905 ((ds.take k).length+1) 0 ((ds.take k).length+1)]),(924,tA),(923,tC),(921,tS s),(4,bx 1 3 [iv 0]),(3,bx 1 41 [iv 0]),(2,bx 1 191 [.pv (.sl [])])],(cD.wk trivial (Hc (jG (by simp [pI];exact⟨rfl,rfl,rfl,rfl⟩))<|Hc (sY _ _)<|Hc (bW _ _)<|Ha<|Hc (nC rfl rfl)<|Hc (gB _)<|Hc (nB _ _)<|Hb<|Hb<|Hb<|trivial) ⟨rfl,rfl,rfl,rfl,rfl,rfl,rfl,rfl,rfl,rfl,trivial⟩),rfl,rfl⟩
 rcases Nat.lt_or_ge j ds.length with hlt|hge
 ·obtain ⟨f,hf⟩:=bE hlt;have hbad:=hj3 hlt;have hdj:ds.drop j=f::ds.drop (j+1):=by
   rw [List.drop_eq_getElem_cons hlt];rw [aLY hlt] at hf;cases hf;rfl
  have hres:gP s=([],(if f.err≠0 then f.err else 2),(f.pos:Int)):=by
   rw [hg,hrun,hdj,kH]
   split
   ·rfl
   rename_i he;have he0:f.err=0:=by
    by_cases h:f.err=0
    ·exact h
    exact absurd h he
   rw [C1 hf,decide_eq_true he0,Bool.true_and,Bool.not_eq_false',aL0] at hbad;rw [aLS (by rw [aL7];omega)]
  rw [hres];refine(D7 s (.yld 904 0) (fun k=>if k≤j then(904,LR x pI)::kL s (ds.take k) (.pv (.sl [])) 0 0 else(904,LR (left x .ret) pI)::kL s (ds.take j) (.pv (.sl [])) (if f.err≠0 then f.err else 2) f.pos) (nH ds) (j+1) hs (fun k=>?_) (fun k=>?_) (fun k=>?_) (fun k=>?_) (fun k=>?_) (fun k=>?_) (by rw [← hds];exact hlt) (fun k hk=>hj2 k (by omega)) (.inr ⟨Nat.succ_pos _,by rw [Nat.add_sub_cancel];exact hbad⟩) ?_).mono ?_
  ·split<;>rfl
  ·split<;>rfl
  ·split<;>rfl
  ·split<;>rfl
  ·split
   ·exact(cZ.ofL ⟨(by exact jG (by simp [pI];exact⟨rfl,rfl,rfl,rfl⟩)),(by exact bW _ _),(by(simp;rfl)),(by exact nC rfl rfl),(by exact gB _),(by exact nB _ _),(by(simp;done)),(by(simp;done)),(by(simp;done)),trivial⟩)
   exact(cZ.ofL ⟨(by exact jG (by simp [pI];exact⟨rfl,rfl,rfl,rfl⟩)),(by exact bW _ _),(by(simp;rfl)),(by exact nC rfl rfl),(by exact gB _),(by exact nB _ _),(by(simp;done)),(by(simp;done)),(by(simp;done)),trivial⟩)
  ·split<;>(simp;rfl)
  ·rw [← hds];intro k d hd hk;have hr:=hround k d hd (by omega);rw [aLS (by omega)];by_cases hkj:k=j
   ·subst hkj;rw [hf] at hd;cases hd;rw [hbad,aLR (by decide)] at hr;rw [aLR (by omega),hbad];exact cC.congrG hr (fun j=>mA (by decide) j) (fun j=>mA (by decide) j)
   have hok:=hj2 k (by omega);rw [hok,aLS rfl] at hr;rw [aLS (by omega),hok];exact cC.congrG hr (fun j=>mA (by decide) j) (fun j=>mA (by decide) j)
  rintro r H' ⟨rfl,rfl⟩;rw [aLR (by omega)];refine⟨left x .ret,_,rfl,by simp [left],rfl,fun z=>?_⟩;show FL _ _ _ _ _ _ _;refine xL (H':=[]) (.inr rfl) rfl (eX rfl jI rfl rfl rfl rfl) (eX rfl jC rfl rfl rfl rfl) (eX rfl isAgg3 rfl rfl rfl rfl) (Fin.wk (by simp) trivial trivial) ?_;exact Qq
 have hje:j=ds.length:=Nat.le_antisymm hj1 hge;rw [hje,List.take_length,List.drop_length] at hrun;rw [hg,hrun,kH];refine(D7 s (.yld 904 0) (fun k=>(904,LR x pI)::kL s (ds.take k) (.pv (.sl [])) 0 0) (nH ds) ds.length hs (fun k=>rfl) (fun k=>rfl) (fun k=>rfl) (fun k=>rfl) (fun k=>(cZ.ofL ⟨(by exact jG (by simp [pI];exact⟨rfl,rfl,rfl,rfl⟩)),(by exact bW _ _),(by(simp;rfl)),(by exact nC rfl rfl),(by exact gB _),(by exact nB _ _),(by(simp;done)),(by(simp;done)),(by(simp;done)),trivial⟩)) (fun k=>by simp;rfl) (by rw [← hds];exact aLZ _) (fun k hk=>hj2 k (by omega)) (.inl (by rw [← hds])) ?_).mono ?_
 ·rw [← hds];intro k d hd hk;have hr:=hround k d hd (by omega);have hok:=hj2 k (by omega);rw [hok,aLS rfl] at hr;rw [hok];exact cC.congrG hr (fun j=>mA (by decide) j) (fun j=>mA (by decide) j)
 rintro r H' ⟨rfl,rfl⟩;rw [List.take_length];refine⟨x,_,rfl,by rw [hx1];decide,rfl,fun z=>?_⟩;rw [hx2];refine Sr<|Dd (bK jI)<|Uu (iH jW)<|Uu (iH sizeOf41)<|Uu (iH sizeOf3)<|Zz<|aC ?_;refine xL (H':=[]) (.inr rfl) rfl (eX rfl jI rfl rfl rfl rfl) (eX rfl jC rfl rfl rfl rfl) (eX rfl isAgg3 rfl rfl rfl rfl) (Fin.fz (r':=.tup [.pv (OJ ds),iv 0,iv 0]) (id:=905) (ob:=⟨ds.length,3,196,iS ds⟩) (ds.map dM) rfl (by rw [List.map_map];rfl) (.tup rfl (cI (.osl (qs:=ds.map dM) (by rw [aLb,List.drop_zero];exact List.take_of_length_le (Nat.le_of_eq (aLT dM)))) (cI (.same (by simp)) (cI (.same (by simp)) nL)))) rfl trivial trivial) ?_;exact Qq
def vL:List GFound→Option (List GTag)
 | []=>some []
 | a::_::c::r=>(vL r).map fun l=>⟨a.text,c.text⟩::l
 | _=>none
def MG (l:List GFound) (k:Nat):GTag:=⟨((l[3*k]?).map GFound.text).getD sNil,((l[3*k+2]?).map GFound.text).getD sNil⟩
def dL (l:List GFound) (k:Nat):List GTag:=(List.range k).map (MG l)
theorem zB (l:List GFound) (k:Nat):dL l (k+1)=dL l k++[MG l k]:=by rw [dL,List.range_succ,List.map_append];rfl
theorem A4 (l:List GFound) (k:Nat):(dL l k).length=k:=by rw [dL,aLT,List.length_range]
def qB (l:List GTag):List (List AV):=l.map fun t=>(bF t).map AV.pv
theorem HV (l:List GTag):(qB l).length=l.length:=aLT _
theorem HW (l:List GTag) (t:GTag):qB l++[(bF t).map AV.pv]=qB (l++[t]):=by rw [qB,qB,List.map_append];rfl
theorem jN (H:aB) (l:List GTag):∀ r∈qB l,∀ a∈r,Clo H a:=by intro r hr a ha;obtain ⟨d,_,rfl⟩:=List.mem_map.1 hr;obtain ⟨p,_,rfl⟩:=List.mem_map.1 ha;simp
theorem JK:∀ (r acc:List GFound),(kH acc r).1.length≤acc.length+r.length
 | [],acc=>aLZ _
 | f::r,acc=>by
  rw [kH]
  split
  ·exact aLa _
  split
  ·exact aLa _
  have:=JK r (acc++[f]);rw [aLU,List.length_singleton] at this;rw [aLV];omega
theorem C7 (s:ByteArray) (h:s.size < 1099511627776):(gP s).1.length < 549755813888:=by
 unfold gP
 split
 ·decide
 have h1:=JK (lE s (s.size+1) 0) [];have h2:=yC s (s.size+1) 0;rw [List.length_nil] at h1;omega
theorem aY (s:ByteArray):s.data.toList.length=s.size:=by simp
theorem zK {a b:ByteArray} (h:a.data.toList=b.data.toList):a=b:=by cases a with|mk a=>cases b with|mk b=>cases a;cases b;simp at h;rw [h]
theorem nQ (s:ByteArray) (i j:Nat):(s.extract i j).data.toList=(s.data.toList.drop i).take (j - i):=by rw [ByteArray.data_extract,Array.toList_extract,List.extract_eq_take_drop]
theorem uY {s:ByteArray} {i:Nat} {c:UInt8} {r:List UInt8} (h:s.data.toList.drop i=c::r):i < s.size∧dU s i=(c.toNat:Int)∧s.data.toList.drop (i+1)=r:=by obtain ⟨h1,h2⟩:=SG h;refine⟨by rw [← aY];exact(aLX.1 h1).1,by rw [dU,h1];rfl,h2⟩
theorem B0 {s:ByteArray} {i:Nat} {c:UInt8} {r:List UInt8} (h:s.data.toList.drop i=c::r):qO s i=DK (c.toNat:Int):=by obtain ⟨h1,h2,_⟩:=uY h;rw [qO,aLS h1,h2]
theorem YJ {s:ByteArray} {i:Nat} (h:s.data.toList.drop i=[]):qO s i=0:=by have:=List.drop_eq_nil_iff.1 h;rw [aY] at this;rw [qO,aLR (by omega)]
theorem gV {s:ByteArray} {i:Nat} {w r:List UInt8} (h:s.data.toList.drop i=w++r):s.data.toList.drop (i+w.length)=r:=by rw [← List.drop_drop,h,List.drop_left]
theorem YD {s:ByteArray} {i k:Nat} {w r:List UInt8} {c:UInt8} (h:s.data.toList.drop i=w++r) (hk:w[k]?=some c):s.data.toList.drop (i+k)=c::((w.drop (k+1))++r):=by
 have hlt:=(aLX.1 hk).1;have e:w=w.take k++c::w.drop (k+1):=by
  conv=>lhs;rw [← List.take_append_drop k w]
  rw [List.drop_eq_getElem_cons hlt,(aLX.1 hk).2]
 have h2:s.data.toList.drop i=w.take k++(c::w.drop (k+1)++r):=by
  rw [h];exact(congrArg (·++r) e).trans (List.append_assoc _ _ _)
 have h3:=gV h2;rw [aL7,Nat.min_eq_left (by omega)] at h3;exact h3
theorem zD {s:ByteArray} {i:Nat} {w r:List UInt8} (h:s.data.toList.drop i=w++r):s.extract i (i+w.length)=⟨w.toArray⟩:=by refine zK ?_;rw [nQ,h,Nat.add_sub_cancel_left,List.take_left]
theorem zC {s:ByteArray} {i:Nat}:(s.extract i s.size).data.toList=s.data.toList.drop i:=by rw [nQ];exact List.take_of_length_le (by rw [aL8,aY];exact aLZ _)
theorem wB {k:ByteArray} (h:bI k=true):0 < k.size∧k.size≤24∧DK (dU k 0)=3∧∀ j,j < k.size→(DK (dU k j)=3∨DK (dU k j)=4∨DK (dU k j)=5):=by
 rw [bI,aL2,aL2,aLc,aLc,List.any_eq_false,aL1,aL0] at h;obtain ⟨h1,h2,h3⟩:=h;have hpos:0 < k.size:=by
  rcases Nat.eq_zero_or_pos k.size with e|e
  ·refine absurd (zK ?_) h2;rw [← aY] at e;rw [List.length_eq_zero_iff.1 e]
  exact e
 have hb:∀ j,j < k.size→TD k j=false:=fun j hj=>by
  have:=h1 j (List.mem_range.2 hj)
  simpa using this
 refine⟨hpos,by omega,?_,fun j hj=>?_⟩
 ·have:=hb 0 hpos
  simpa [TD] using this
 have:=hb j hj;rw [TD] at this;by_cases e1:DK (dU k j)=3
 ·exact .inl e1
 by_cases e2:DK (dU k j)=4
 ·exact .inr (.inl e2)
 by_cases e3:DK (dU k j)=5
 ·exact .inr (.inr e3)
 simp [e1,e2,e3] at this
theorem aEy {k:ByteArray} {j:Nat} (h:j < k.size):∃ c,k.data.toList[j]?=some c∧dU k j=(c.toNat:Int):=by rw [← aY] at h;exact⟨_,aLY h,by rw [dU,aLY h];rfl⟩
theorem Y7 {s k:ByteArray} {i:Nat} {r:List UInt8} (h:s.data.toList.drop i=k.data.toList++r) (hk:bI k=true) (hr:∀ c r',r=c::r'→DK (c.toNat:Int)≠3∧DK (c.toNat:Int)≠4∧DK (c.toNat:Int)≠5) :
  gT s i=(some ⟨1,k,i,0⟩,i+k.size):=by
 obtain ⟨hpos,hle,h0,hall⟩:=wB hk;have hat:∀ j,j < k.size→qO s (i+j)=DK (dU k j):=fun j hj=>by
  obtain ⟨c,hc,e⟩:=aEy hj;rw [B0 (YD h hc),e]
 have hlen:i+k.size≤s.size:=by
  have:=congrArg List.length h;rw [aL8,aLU,aY,aY] at this;omega
 have ha0:qO s i=3:=by
  have:=hat 0 hpos;rw [Nat.add_zero,h0] at this;exact this
 have hend:GP s i=i+k.size:=by
  refine CK (yK s) (by omega) (by omega) (fun j h1 h2=>?_) ?_
  ·have:=hat (j - i) (by omega);rw [show i+(j - i)=j by omega] at this;rw [yK,this];rcases hall (j - i) (by omega)with e|e|e<;>rw [e]<;>rfl
  left;have hd:=gV h;rw [aY] at hd;cases r with
  | nil=>rw [yK,YJ hd];rfl
  | cons c r' =>
   obtain ⟨e1,e2,e3⟩:=hr c r' rfl;rw [yK,B0 hd,decide_eq_false e1,decide_eq_false e2,decide_eq_false e3];rfl
 have hex:=zD h;rw [aY] at hex;have hkk:(⟨k.data.toList.toArray⟩:ByteArray)=k:=zK (by simp);rw [gT,aLR (by rw [ha0];decide),aLR (by rw [ha0];decide),aLS ha0,hend,BN,hex,hkk,aLR (by omega)]
theorem aEA {s:ByteArray} {i:Nat} {r:List UInt8} (h:s.data.toList.drop i=32::r):gT s i=(none,i+1):=by
 have ha:qO s i=1:=by rw [B0 h];rfl
 rw [gT,aLS ha]
theorem QV:∀ (v r:List UInt8),nA (v.flatMap nJ++34::r)=some (v,(v.flatMap nJ).length+1)
 | [],r=>HR
 | b::v,r=>by
  have ih:=QV v r;rw [List.flatMap_cons,List.append_assoc,aLU];by_cases h1:b=10
  ·have e:nJ b=[92,110]:=by rw [nJ,aLS h1]
   rw [e];show nA (92::110::(v.flatMap nJ++34::r))=_;rw [GR,ih,h1];show some (10::v,_)=some (10::v,_);congr 2;show (v.flatMap nJ).length+1+2=2+_+1;omega
  by_cases h2:b=34∨b=92
  ·have e:nJ b=[92,b]:=by rw [nJ,aLR h1,aLS h2]
   have hu:yV b=some b:=by
    rcases h2 with e|e<;>subst e<;>rfl
   rw [e];show nA (92::b::(v.flatMap nJ++34::r))=_;rw [GR,ih,hu];show some (b::v,_)=some (b::v,_);congr 2;show (v.flatMap nJ).length+1+2=2+_+1;omega
  have e:nJ b=[b]:=by rw [nJ,aLR h1,aLR h2]
  have h3:b≠34∧b≠92:=⟨fun e=>h2 (.inl e),fun e=>h2 (.inr e)⟩;rw [e];show nA (b::(v.flatMap nJ++34::r))=_;rw [HS h3.1 h1 h3.2,ih];show some (b::v,_)=some (b::v,_);congr 2;show (v.flatMap nJ).length+1+1=1+_+1;omega
theorem Q2 {s v:ByteArray} {i:Nat} {r:List UInt8} (h:s.data.toList.drop i=dT v.data.toList++r):gT s i=(some ⟨3,v,i,0⟩,i+(dT v.data.toList).length):=by
 have h':s.data.toList.drop i=34::(v.data.toList.flatMap nJ++34::r):=by rw [h,dT];simp
 have ha:qO s i=7:=by rw [B0 h'];rfl
 have hu:wJ (s.extract i s.size)=(v,(((v.data.toList.flatMap nJ).length+1+1:Nat):Int)):=by
  rw [wJ,zC,h',List.drop_succ_cons,List.drop_zero,QV]
 have hs:LN s i=(⟨3,v,i,0⟩,i+(dT v.data.toList).length):=by
  rw [LN,hu,aLS (by show (0:Int) < ((_:Nat):Int);omega)];congr 1;show i+_=i+_;congr 1;rw [aL4,dT,aLV,aLU,List.length_singleton]
 rw [gT,aLR (by rw [ha];decide),aLR (by rw [ha];decide),aLR (by rw [ha];decide),aLR (by rw [ha];decide),aLS ha,hs]
def M9 (t:GTag):List UInt8:=t.key.data.toList++61::dT t.val.data.toList
theorem M8 (t:GTag):(iX t).data.toList=M9 t:=by rw [iX,M9];simp
def pG (l:List GTag):List UInt8:=l.flatMap fun t=>32::M9 t
def TM (T:List GFound) (l:List GTag):Prop:=vL T=some l∧(∀ f,f∈T→f.err=0)∧T.length=3*l.length
theorem TM.cons {T:List GFound} {l:List GTag} {a b c:GFound} (h:TM T l) (ha:a.err=0) (hb:b.err=0) (hc:c.err=0):TM (a::b::c::T) (⟨a.text,c.text⟩::l):=by
 obtain ⟨h1,h2,h3⟩:=h;refine⟨by rw [vL,h1];rfl,fun f hf=>?_,by rw [aLV,aLV,aLV,aLV,h3];omega⟩;rcases aL5.1 hf with rfl|hf
 ·exact ha
 rcases aL5.1 hf with rfl|hf
 ·exact hb
 rcases aL5.1 hf with rfl|hf
 ·exact hc
 exact h2 f hf
theorem Y4 (t:GTag) (l:List GTag):(F7 (t::l)).data.toList=M9 t++pG l:=by show cH [32] (bs ((t::l).map iX))=_;rw [bs,List.map_map,List.map_cons,cH];show (iX t).data.toList++_=_;rw [M8,pG,List.flatMap_map];congr 1;congr 1;funext x;show [32]++(iX x).data.toList=_;rw [M8];rfl
theorem ET:∀ (T acc:List GFound),(∀ f,f∈T→f.err=0)→acc.length+T.length≤5000→kH acc T=(acc++T,0,0)
 | [],acc,_,_=>by rw [kH,List.append_nil]
 | f::T,acc,h,hl=>by
  rw [aLV] at hl;rw [kH,aLR (fun e=>e (h f List.mem_cons_self)),aLR (by omega),ET T (acc++[f]) (fun g hg=>h g (List.mem_cons_of_mem _ hg)) (by rw [aLU,List.length_singleton];omega),List.append_assoc];rfl
end Go.Proofs.YtiifmppaejpemaaGreatDoor
