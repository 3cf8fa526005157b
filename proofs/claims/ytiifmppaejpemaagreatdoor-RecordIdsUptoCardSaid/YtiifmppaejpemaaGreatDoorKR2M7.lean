/-
  Parts of the proof: rules of an abstract program logic, contracts of functions, plain laws. Conditions: each theorem's own.
-/
import Derived.Test.YtiifmppaejpemaaGreatDoorKR2M6
import Derived.WideLaws
import Derived.Laws.Build
set_option linter.unusedVariables false
set_option linter.unusedSimpArgs false
set_option maxRecDepth 100000
set_option maxHeartbeats 8000000
namespace Go.Proofs
theorem wJ:type_of% Tryz.call172:=Tryz.call172
theorem aFg:type_of% Tryz.call31:=Tryz.call31
theorem uS:type_of% Tryz.call46:=Tryz.call46
theorem aFd:type_of% Tryz.call75:=Tryz.call75
theorem AO:type_of% Tryz.call94:=Tryz.call94
theorem kO:type_of% Tryz.isAgg191:=Tryz.isAgg191
theorem WS:type_of% Tryz.isAgg196:=Tryz.isAgg196
theorem H4:type_of% Tryz.isAgg250:=Tryz.isAgg250
theorem kH:type_of% Tryz.isAgg26:=Tryz.isAgg26
theorem kG:type_of% Tryz.isAgg41:=Tryz.isAgg41
theorem CY:type_of% Tryz.isAgg77:=Tryz.isAgg77
theorem lF:type_of% Tryz.sizeOf191:=Tryz.sizeOf191
theorem D9:type_of% Tryz.sizeOf223:=Tryz.sizeOf223
theorem HZ:type_of% Tryz.sizeOf77:=Tryz.sizeOf77
end Go.Proofs
namespace Go.Proofs.YtiifmppaejpemaaGreatDoor
open Go.Proofs.Tryz
open Go.Abs
def LN (t:ByteArray):Bool:=!isJ t
theorem aJ2 (t:ByteArray) (ht:t.size < 1099511627776) (H:aB):aI Tryz.prog 95 [sv t] H (fun r H'=>r=bv (LN t)∧H'=H):=by refine Pu ?_;exact Bd func95 rfl ntmps95<|Sr<|Dd aN<|Zz<|Sr<|Dd aF<|Dd (by exact aA rfl rfl aFg rfl (aAW t ht _))<|Dd jS<|Dd aN<|Zz<|aC<|Rt<|Qq
theorem QX (l:List ByteArray) (q:ByteArray→Bool):((List.range l.length).any fun k=>match l[k]? with|some s=>q s|none=>false)=l.any q:=by
 rw [Bool.eq_iff_iff,List.any_eq_true,List.any_eq_true];constructor
 ·rintro⟨k,hk,h⟩;have hk:=List.mem_range.1 hk;rw [aOE hk] at h;exact⟨_,List.getElem_mem hk,h⟩
 rintro⟨s,hs,h⟩;obtain ⟨k,hk⟩:=aOU.1 hs;exact⟨k,List.mem_range.2 (aOD.1 hk).1,by rw [hk];exact h⟩
theorem aIK (l:List ByteArray) (hl:l.length < 1099511627776) (ht:∀ t∈l,t.size < 1099511627776) (H:aB):aI Tryz.prog 94 [.pv (aX l)] H (fun r H'=>r=bv (l.any LN)∧H'=H):=by
 refine Pu ?_;have hc:=qV (.pv (.fn 95)) l (fun k=>match l[k]? with|some s=>LN s|none=>false) (fun _=>[]) (by omega) (fun k s hk=>by
  simp only [hk];exact dD.fn call95 (aJ2 s (ht s (aOJ hk)) []))
 rw [QX] at hc;exact Bd func94 rfl ntmps94<|Sr<|Dd aN<|Zz<|Sr<|Dd aF<|Dd (by exact aA rfl rfl S9 rfl (hc))<|Dd aN<|Zz<|aC<|Rt<|Qq
def KG (i:Int) (l p:List ByteArray):Bool:=((((!decide (((l.map encStr).length:Int)=18)||decide (8 < ((p.map encStr).length:Int)))||l.any LN)||p.any LN)||decide (i < 0))||decide (((2 ^ p.length:Nat):Int)≤i)
theorem F6 (l:List ByteArray):l.any LN=!l.all isJ:=by
 induction l with
 | nil=>rfl
 | cons a r ih=>rw [List.any_cons,List.all_cons,ih,LN,Bool.not_and]
theorem aFq {key m:ByteArray} {i:Int} {l p:List ByteArray} (h:KG i l p=true):xX key m i l p=false:=by
 rw [KG,F6,F6,aNz,aNz] at h;cases hv:xX key m i l p with
 | false=>rfl
 | true =>
  rw [xX] at hv;simp only [aOI,aOG] at hv;obtain ⟨⟨⟨⟨⟨a1,a2⟩,a3⟩,a4⟩,a5,a6⟩,a7⟩:=hv;have a6':i < ((2 ^ p.length:Nat):Int):=by exact_mod_cast a6
  rw [a3,a4,decide_eq_true (show (l.length:Int)=18 by omega),decide_eq_false (show ¬ 8 < (p.length:Int)by omega),decide_eq_false (show ¬ i < 0 by omega),decide_eq_false (show ¬ ((2 ^ p.length:Nat):Int)≤i by omega)] at h;exact absurd h (by decide)
theorem aIh {key m:ByteArray} {i:Int} {l p:List ByteArray} (h:KG i l p=false):∃ q:Nat,i=(q:Int)∧q < 2 ^ p.length∧l.length=18∧p.length≤8∧(∀ t∈l,isJ t=true)∧(∀ t∈p,isJ t=true)∧xX key m i l p=decide (zY (AK (zZ m l)) p q=key):=by
 rw [KG,F6,F6,aNz,aNz] at h;simp only [aOV,Bool.not_eq_false',aOH,aOG] at h;obtain ⟨⟨⟨⟨⟨a1,a2⟩,a3⟩,a4⟩,a5⟩,a6⟩:=h;obtain ⟨q,rfl⟩:∃ q:Nat,i=(q:Int):=⟨i.toNat,by omega⟩;have a1':l.length=18:=by omega
 have a2':p.length≤8:=by omega
 have a6':(q:Int) < ((2 ^ p.length:Nat):Int):=by omega
 refine⟨q,rfl,by omega,a1',a2',List.all_eq_true.1 a3,List.all_eq_true.1 a4,?_⟩;have a7:(q:Int) < 2 ^ p.length:=by exact_mod_cast a6'
 rw [xX,a3,a4,decide_eq_true (⟨a1',a2'⟩:l.length=18∧p.length≤8),decide_eq_true (⟨by omega,a7⟩:0≤(q:Int)∧(q:Int) < 2 ^ p.length),aOK];rfl
def evP (m:ByteArray) (l:List ByteArray) (k:Nat):List ByteArray:=(List.range k).map fun k=>AU (l.getD k sNil) (15 - (GD m).getD k 0)
theorem aEc (m:ByteArray) (l:List ByteArray) (k:Nat):evP m l (k+1)=evP m l k++[AU (l.getD k sNil) (15 - (GD m).getD k 0)]:=by rw [evP,List.range_succ,List.map_append];rfl
theorem aAZ (m:ByteArray) (l:List ByteArray) (k:Nat):(evP m l k).length=k:=by simp [evP]
theorem SL {m:ByteArray} {l:List ByteArray} (h:l.length=18):evP m l 18=zZ m l:=by
 apply List.ext_getElem?;intro k;rw [zZ,List.getElem?_zipWith,evP,aOT];by_cases hk:k < 18
 ·have h1:l[k]?=some (l.getD k sNil):=by
   rw [List.getD_eq_getElem?_getD,aOE (by omega)];rfl
  have h2:(GD m)[k]?=some ((GD m).getD k 0):=by
   rw [List.getD_eq_getElem?_getD,aOE (by rw [J8];exact hk)];rfl
  rw [List.getElem?_range hk,h1,h2];rfl
 rw [List.getElem?_eq_none (by simp;omega),List.getElem?_eq_none (by omega)];rfl
theorem aHs {a:Nat} (ha:a < 4611686018427387904):bits .and .i64 (a:Int) 1=((a % 2:Nat):Int):=by have h:=(bits_nat .i64 62 (by decide) (fun n h0 h1=>pB (by omega) (by omega)) a 1 ha (by decide)).1;rw [Nat.and_one_is_mod] at h;exact h
def vfE:cB:=[(5,.ref 5 0 0 0),(9,.ref 9 0 0 0)]
def vfK (i:Int) (l p:List ByteArray) (m:ByteArray) (L:List ByteArray):aB:=[(905,⟨L.length,1,9,dS L⟩),(9,bx 1 22 [.osl 905 L.length 0 L.length]),(961,LS m),(5,bx 3 25 [iv i,.pv (aX l),.pv (aX p)])]
theorem aFp (i:Int) (l p:List ByteArray) (m:ByteArray) (L:List ByteArray) (x:ByteArray):vfK i l p m (L++[x])=[(905,⟨L.length+1,1,9,dS (L++[x])⟩),(9,bx 1 22 [.osl 905 (L.length+1) 0 (L.length+1)]),(961,LS m),(5,bx 3 25 [iv i,.pv (aX l),.pv (aX p)])]:=by simp [vfK]
theorem OQ (key m:ByteArray) (i:Int) (l p:List ByteArray) (H:aB) (hm:m.size < 1099511627776) (hi0 : -4611686018427387904≤i) (hi1:i < 4611686018427387904) (hl:l.length < 1099511627776) (hp:p.length < 1099511627776) (hls:∀ t∈l,t.size < 1099511627776) (hps:∀ t∈p,t.size < 1099511627776) :
  aI Tryz.prog 32 [sv key,sv m,.agg [iv i,.pv (aX l),.pv (aX p)]] H (fun r H'=>r=bv (xX key m i l p)∧H'=H):=by
 refine Pu ?_;have hml:(l.map encStr).length=l.length:=aNz _;have hmp:(p.map encStr).length=p.length:=aNz _;have hol:=fun H=>aIK l hl hls H;have hop:=fun H=>aIK p hp hps H;have hle8:decide (8 < ((p.map encStr).length:Int))=false→p.length≤8:=fun h=>by have:=aNw h;omega
 have hshl:p.length≤8→IntKind.i64.wrap (1*2 ^ (((p.map encStr).length:Int)).toNat)=((2 ^ p.length:Nat):Int):=fun h=>by rw [hmp];exact aGI h
 refine Bd func32 rfl ntmps32<|Sr<|Dd (by exact cH (id:=5) rfl rfl rfl rfl rfl)<|Dd aN<|Zz<|Sr<|Dd (aV oJ)<|Dd (bM aH)<|Dd (fY aE)<|Dd aN<|Zz<|Sr<|Dd aN<|Zz<|Sq<|Sq ?_;refine mW (t:=49) (n:=32) (X:=KG i l p) ?_ ?_
 ·cases hg22:(!decide (((l.map encStr).length:Int)=18):Bool)
  ·cases hg26:(decide (8 < ((p.map encStr).length:Int)):Bool)
   ·cases hg32:(l.any LN:Bool)
    ·cases hg38:(p.any LN:Bool)
     ·cases hg43:(decide (i < 0):Bool)
      ·refine aO follows<|Cq (aV jT)<|Cq (bM aH)<|Cq (fY aE)<|Cq AI<|Cq aF<|Nf aF<|Nf jE<|Cq nS<|Cq aF<|Nf aF<|Nf (aV jT)<|Nf (bM aH)<|Nf (by exact cR rfl rfl rfl (dD.fn AO (hol _)))<|Cq nS<|Cq aF<|Nf aF<|Nf (aV oJ)<|Nf (bM aH)<|Nf (by exact cR rfl rfl rfl (dD.fn AO (hop _)))<|Cq nS<|Cq aF<|Nf (aV nN)<|Nf (bM isAgg3)<|Nf dK<|Cq nS<|Cq aF<|Nf (aV nN)<|Nf (bM isAgg3)<|Nf aF<|Nf (by exact E5 rfl rfl rfl (by omega) (by have:=hle8 hg26;simp [IntKind.bits];omega) (hshl (hle8 hg26)))<|Nf DT<|Cq nS<|bL<|Kr ?_;exact⟨rfl,⟨_,rfl,by(rw [KG,hg22,hg26,hg32,hg38,hg43];rfl)⟩,rfl,rfl,rfl⟩
      refine aO follows<|Cq (aV jT)<|Cq (bM aH)<|Cq (fY aE)<|Cq AI<|Cq aF<|Nf aF<|Nf jE<|Cq nS<|Cq aF<|Nf aF<|Nf (aV jT)<|Nf (bM aH)<|Nf (by exact cR rfl rfl rfl (dD.fn AO (hol _)))<|Cq nS<|Cq aF<|Nf aF<|Nf (aV oJ)<|Nf (bM aH)<|Nf (by exact cR rfl rfl rfl (dD.fn AO (hop _)))<|Cq nS<|Cq aF<|Nf (aV nN)<|Nf (bM isAgg3)<|Nf dK<|Cq nS<|Cq aF<|Of<|Of<|Of<|Of<|Of<|Cq wX<|bL<|Kr ?_;exact⟨rfl,⟨_,rfl,by(rw [KG,hg22,hg26,hg32,hg38,hg43];rfl)⟩,rfl,rfl,rfl⟩
     refine aO follows<|Cq (aV jT)<|Cq (bM aH)<|Cq (fY aE)<|Cq AI<|Cq aF<|Nf aF<|Nf jE<|Cq nS<|Cq aF<|Nf aF<|Nf (aV jT)<|Nf (bM aH)<|Nf (by exact cR rfl rfl rfl (dD.fn AO (hol _)))<|Cq nS<|Cq aF<|Nf aF<|Nf (aV oJ)<|Nf (bM aH)<|Nf (by exact cR rfl rfl rfl (dD.fn AO (hop _)))<|Cq nS<|Cq aF<|Of<|Of<|Of<|Cq wX<|Cq aF<|Of<|Of<|Of<|Of<|Of<|Cq cW<|bL<|Kr ?_;exact⟨rfl,⟨_,rfl,by(rw [KG,hg22,hg26,hg32,hg38];rfl)⟩,rfl,rfl,rfl⟩
    refine aO follows<|Cq (aV jT)<|Cq (bM aH)<|Cq (fY aE)<|Cq AI<|Cq aF<|Nf aF<|Nf jE<|Cq nS<|Cq aF<|Nf aF<|Nf (aV jT)<|Nf (bM aH)<|Nf (by exact cR rfl rfl rfl (dD.fn AO (hol _)))<|Cq nS<|Cq aF<|Of<|Of<|Of<|Of<|Cq wX<|Cq aF<|Of<|Of<|Of<|Cq cW<|Cq aF<|Of<|Of<|Of<|Of<|Of<|Cq cW<|bL<|Kr ?_;exact⟨rfl,⟨_,rfl,by(rw [KG,hg22,hg26,hg32];rfl)⟩,rfl,rfl,rfl⟩
   refine aO follows<|Cq (aV jT)<|Cq (bM aH)<|Cq (fY aE)<|Cq AI<|Cq aF<|Nf aF<|Nf jE<|Cq nS<|Cq aF<|Of<|Of<|Of<|Of<|Cq wX<|Cq aF<|Of<|Of<|Of<|Of<|Cq cW<|Cq aF<|Of<|Of<|Of<|Cq cW<|Cq aF<|Of<|Of<|Of<|Of<|Of<|Cq cW<|bL<|Kr ?_;exact⟨rfl,⟨_,rfl,by(rw [KG,hg22,hg26];rfl)⟩,rfl,rfl,rfl⟩
  refine aO follows<|Cq (aV jT)<|Cq (bM aH)<|Cq (fY aE)<|Cq AI<|Cq aF<|Of<|Of<|Cq wX<|Cq aF<|Of<|Of<|Of<|Of<|Cq cW<|Cq aF<|Of<|Of<|Of<|Of<|Cq cW<|Cq aF<|Of<|Of<|Of<|Cq cW<|Cq aF<|Of<|Of<|Of<|Of<|Of<|Cq cW<|bL<|Kr ?_;exact⟨rfl,⟨_,rfl,by(rw [KG,hg22];rfl)⟩,rfl,rfl,rfl⟩
 refine Cn ?_ ?_<;>intro hc1
 ·have hb:=hc1;rw [aFq hb];exact Sr<|Dd aN<|Zz<|aC<|Rt<|Qq
 have hb:=hc1;obtain ⟨q,rfl,hq,h18,h8,hlj,hpj,hv⟩:=aIh (key:=key) (m:=m) hb;rw [hv];clear hv hb;have hp8:=sF h8;refine aD<|Sr<|Dd (by exact bU (id:=9) rfl aC4 rfl rfl)<|Zz<|Sq<|Sr<|Dd aF<|Dd (by exact aA rfl rfl call96 rfl (QI m _ rfl))<|Zz<|aG ?_;refine gK.ent (E':=[(0,sv key),(5,.ref 5 0 0 0),(9,.ref 9 0 0 0),(51,.clo 149 [.ref 961 0 0 0])]) (H':=vfK q l p m []) ?_ ?_
 ·exact(cY.nz 905 1 9 rfl rfl ⟨⟨_,rfl,(by exact Nz.same (by(simp;done)))⟩,⟨_,rfl,(by exact Nz.same (by(simp;rfl)))⟩,⟨_,rfl,(by exact Nz.same (by(simp;rfl)))⟩,⟨_,rfl,(by exact Nz.same (by(simp;rfl)))⟩,trivial⟩ ⟨⟨_,rfl,rfl,rfl,rfl,(by exact .inr ⟨_,_,rfl,rfl,(by repeat(first|exact trivial|refine⟨(by exact Nz.own),?_⟩))⟩)⟩,⟨_,rfl,rfl,rfl,rfl,(by exact .inl ⟨rfl,(by exact xD _ _)⟩)⟩,⟨_,rfl,rfl,rfl,rfl,(by exact .inl ⟨rfl,(by(simp;done))⟩)⟩,trivial⟩ trivial)
 refine M2 (id:=904) (p:=52) (p2:=53) vfE rfl call149 rfl rfl (by simp [vfE];exact⟨rfl,rfl⟩) ?_;intro x hx1 hx2 hx3 hx4 hx5 hx6;refine(QJ m (.yld 904 0) (fun k=>(904,LR x vfE)::vfK q l p m (evP m l k)) hm (fun k=>rfl) ?_).mono ?_
 ·intro k hk;have hd:=YT m _ (oY (d:=0) (by rw [J8];exact hk));have hfl:=aAZ m l k;have hnx:=aEc m l k;have hix:(l.map encStr)[k]?=some (encStr (l.getD k sNil)):=by
   rw [aOT,List.getD_eq_getElem?_getD,aOE (by omega)];rfl
  have hsz:(l.getD k sNil).size < 1099511627776:=hls _ (oY (by omega));obtain ⟨u,hu⟩:∃ u,u=l.getD k sNil:=⟨_,rfl⟩;obtain ⟨d,hdd⟩:∃ d,d=(GD m).getD k 0:=⟨_,rfl⟩;rw [← hdd] at hd hnx ⊢;rw [← hu] at hnx hix hsz;have hch:=fun H=>SS u (15 - d) H hsz (by omega);refine .inl ⟨904,0,rfl,?_⟩;refine ZD [(5,.ref 5 0 0 0),(9,.ref 9 0 0 0),(10,iv (k:Int)),(11,iv (d:Int))] (vfK q l p m (evP m l k)) hx1 hx2 hx3 hx4 hx5 hx6 rfl rfl rfl rfl rfl ?_ ?_
  ·refine Sr<|Dd aN<|Zz<|Rg<|Da ?_;exact(cY.wk (Ea<|Ea<|Eb<|Eb<|trivial) (Hc (kM (by intro p hp;simp only [vfE,aOL,aOP,or_false] at hp;rcases hp with rfl|rfl<;>(simp only [qW];rfl)))<|Hc (cL _ _)<|Ha<|Hc (xD _ _)<|Hb<|trivial) ⟨rfl,rfl,rfl,rfl,rfl,trivial⟩)
  rw [hnx,aFp];refine aG<|aO follows<|Cr [9] (fun _ h=>lh aH h)<|Cr [5] (fun _ h=>fh jT h)<|Cr [5] (fun _ h=>lh aH h)<|Cr [] (fun _ _=>aF)<|Cr [] (fun H1 hH=>by exact bW rfl cA rfl rfl (by omega) (by exact aOK _) hix rfl)<|Cr [] (fun _ _=>(jA isAgg9 (hi:=hix)))<|Cr [] (fun _ _=>aF)<|Cr [] (fun H1 hH=>by exact eQ rfl rfl rfl (show IntKind.i64.wrap (15 - (d:Int))=((15 - d:Nat):Int)by rw [pB (by omega) (by omega)];omega))<|Cr [] (fun H1 hH=>by exact aA rfl rfl aNl rfl (hch _))<|Cr [] (fun H1 hH=>by exact aR [[.str (AU u (15 - d))]] rfl cA rfl rfl rfl rfl rfl (by intro r hr;rw [aOC] at hr;subst hr;rfl))<|Cp [905] (fun H1 hH=>by exact dH (ps:=[[.str (AU u (15 - d))]]) rfl cA EC rfl ((hH _ rfl).trans rfl) rfl rfl rfl (jY _) rfl (by intro r hr;rw [aOC] at hr;subst hr;rfl) (m:=1) rfl (by omega) rfl (lO (evP m l k) (AU u (15 - d)))) ?_;refine Cp [9] (fun H1 hH=>by exact cJ rfl sizeOf22 rfl rfl rfl rfl ((hH _ rfl).trans rfl) rfl rfl rfl)<|bL<|Kr ?_;exact⟨[(905,⟨(evP m l k).length+1,1,9,dS (evP m l k++[AU u (15 - d)])⟩),(9,bx 1 22 [.osl 905 ((evP m l k).length+1) 0 ((evP m l k).length+1)]),(961,LS m),(5,bx 3 25 [iv (q:Int),.pv (aX l),.pv (aX p)])],(cY.wk trivial (Hc (kM (by intro p hp;simp only [vfE,aOL,aOP,or_false] at hp;rcases hp with rfl|rfl<;>(simp only [qW];rfl)))<|Hc (cL _ _)<|Ha<|Hc (xD _ _)<|Hb<|trivial) ⟨rfl,rfl,rfl,rfl,rfl,trivial⟩),rfl,rfl⟩
 rintro r H' ⟨rfl,rfl⟩;refine⟨x,_,rfl,by rw [hx1];decide,rfl,fun z=>?_⟩;rw [hx2,SL h18];have hen:∀ t∈zZ m l,t.size≤16:=fun t ht=>by
  rw [← SL h18] at ht;obtain ⟨k,hk,rfl⟩:=List.mem_map.1 ht;exact Nat.le_of_eq (VY (uA (hlj _ (oY (by rw [h18];exact List.mem_range.1 hk)))) _)
 have hel:(zZ m l).length=18:=by rw [← SL h18,aAZ]
 have hof:∀ H,aI Tryz.prog 98 [.pv (aX (zZ m l))] H (fun r H'=>r=sv (AK (zZ m l))∧H'=H):=fun H=>UR (zZ m l) H (by have h:=yW (b:=16) (by decide) _ hen;rw [hel] at h;omega);obtain ⟨S,hS⟩:∃ S,S=zZ m l:=⟨_,rfl⟩;rw [← hS] at hof ⊢;have hal:(S.map encStr).length=S.length:=aNz _;refine gK.ent (cY.fzG (id:=905) (E':=[(0,sv key),(5,.ref 5 0 0 0),(9,.ref 9 0 0 0)]) (H':=[(9,bx 1 22 [.pv (aX S)]),(5,bx 3 25 [iv (q:Int),.pv (aX l),.pv (aX p)])]) (S.map encStr) rfl (fN _) ?_ rfl ?_ ?_) ?_
 ·intro p hp;simp only [aOL,aOP,or_false] at hp;rcases hp with rfl|rfl|rfl
  ·exact⟨_,rfl,.same (by simp)⟩
  ·exact⟨_,rfl,.same (by simp;rfl)⟩
  exact⟨_,rfl,.same (by simp;rfl)⟩
 ·refine⟨⟨_,rfl,rfl,rfl,rfl,pP rfl (dN (.osl ?_) pQ)⟩,⟨_,rfl,rfl,rfl,rfl,gZ (by simp)⟩,trivial⟩;rw [aOR,List.drop_zero,← hal,List.take_length]
 ·exact trivial
 refine Sr<|Dd (bM aH)<|Dd (by exact aA rfl rfl S7 rfl (hof _))<|Dd aN<|Zz<|Sq<|Sr<|Dd (aV oJ)<|Dd (bM aH)<|Dd (fY aE)<|Dd aF<|Zz<|aG ?_;have ha0:(AK S).size=16:=jU _;obtain ⟨a0,hA0⟩:∃ a0,a0=AK S:=⟨_,rfl⟩;rw [← hA0] at ha0 ⊢;refine jI (fun(k:Nat) (a:ByteArray)=>([(0,sv key),(5,.ref 5 0 0 0),(12,sv a),(68,.pv (aX p)),(69,iv ((p.map encStr).length:Int)),(70,iv (k:Int))],[(5,bx 3 25 [iv (q:Int),.pv (aX l),.pv (aX p)])])) (fun k a=>k≤p.length∧a.size=16∧zY a (p.drop k) (q / 2 ^ k)=zY a0 p q) (fun k a=>p.length - k) 0 a0 ⟨aOQ _,ha0,by rw [List.drop_zero,Nat.pow_zero,Nat.div_one]⟩ ?_ ?_
 ·exact Wk
 rintro k a ⟨hk,ha,hf⟩;refine Sr<|Dd dK<|Zz<|Sq ?_;refine Cn ?_ ?_<;>intro hc2
 ·have hlt:k < p.length:=by have:=aNv hc2;omega
  have hix:(p.map encStr)[k]?=some (encStr (p.getD k sNil)):=by
   rw [aOT,List.getD_eq_getElem?_getD,aOE hlt];rfl
  have hdr:p.drop k=p.getD k sNil::p.drop (k+1):=by
   rw [List.drop_eq_getElem_cons hlt,List.getD_eq_getElem?_getD,aOE hlt];rfl
  have hosz:(p.getD k sNil).size=16:=uA (hpj _ (oY hlt));obtain ⟨o,ho⟩:∃ o,o=p.getD k sNil:=⟨_,rfl⟩;rw [← ho] at hix hdr hosz;have hqk:q / 2 ^ k < 4611686018427387904:=Nat.lt_of_le_of_lt (Nat.div_le_self _ _) (by omega);have hnd:=fun H=>aAI a o (decide (((q / 2 ^ k % 2:Nat):Int)=1)) H (by omega) (by omega);have hbk:(decide (((q / 2 ^ k % 2:Nat):Int)=1)=true)=(q / 2 ^ k % 2=1):=by
   rw [aOG];exact propext ⟨fun h=>by omega,fun h=>by omega⟩
  simp only [hbk] at hnd;obtain ⟨b,hb⟩:∃ b,b=(if q / 2 ^ k % 2=1 then FH o a else FH a o):=⟨_,rfl⟩;have hbs:b.size=16:=by rw [hb];split<;>exact jU _
  have hf2:zY b (p.drop (k+1)) (q / 2 ^ (k+1))=zY a0 p q:=by
   rw [← hf,hdr,zY,← hb,Nat.pow_succ,Nat.div_div_eq_div_mul]
  rw [← hb] at hnd;have hnd2:∀ H,aI Tryz.prog 99 [sv a,sv o,bv (decide (((q / 2 ^ k % 2:Nat):Int)=1))] H (fun r H'=>r=sv b∧H'=H):=hnd;refine aD<|Sq<|aG<|Sr<|Dd aF<|Dd (by exact bW rfl cA rfl rfl (by omega) (by exact aOK _) hix rfl)<|Dd (jA isAgg9 (hi:=hix))<|Dd aN<|Dd aN<|Zz<|Rg<|Dd aF<|Dd aF<|Dd (aV nN)<|Dd (bM isAgg3)<|Dd aF<|Dd (by exact JU rfl rfl rfl (by omega) (by simp [IntKind.bits];omega) (aGH q k (aOK _)))<|Dd (by exact rF rfl (by simp) rfl rfl (aHs hqk))<|Dd cT<|Dd (by exact aA rfl rfl call99 rfl (hnd2 _))<|Dd aN<|Zz<|Rg<|Dd (by exact cI rfl rfl rfl (show IntKind.i64.wrap ((k:Int)+1)=((k+1:Nat):Int)by rw [pB (by omega) (by omega)];omega))<|Dd aF<|Zz ?_;exact⟨k+1,b,⟨by omega,hbs,hf2⟩,by omega,Wk⟩
 have hge:k=p.length:=by have:=aNw hc2;omega
 subst hge;rw [List.drop_length,zY] at hf;rw [← hf];exact bC<|Sr<|Dd aF<|Dd aF<|Dd yJ<|Dd aN<|Zz<|aC<|Rt<|Qq
end Go.Proofs.YtiifmppaejpemaaGreatDoor
namespace Go.Abs
open Go.Proofs
section
section
variable {P:Program} {N:Nat} {o:Oper} {E:cB} {H:aB} {t t':TypeId} {x:Operand}
theorem LH (ho:o.op=.binOp .neq t x (.const .nilIface) t') (ht:P.underlying t=some (.interface (P.methodsAt t))) (hx:aP E x=some (.pv G8)):dF P N o E H (.pv (.bool false)) H :=.of_run fun a w I ι _ he=>⟨.bool false,by
  have e1:a.eval x=.nilIface:=(aJ he hx).sat_inv;have e2:a.eval (.const .nilIface)=.nilIface:=rfl;simp only [execOp,ho,e1,e2,eqGuard,Sem.run_bind,Sem.run_pure,Result.andThen_ok,run_neq_nil_nil _ _ ht,Bool.or_true,if_true,Bool.not_true,Bool.false_eq_true,if_false],.pv (.bool _)⟩
theorem DM (ho:o.op=.binOp .neq t x (.const .nilIface) t') (ht:P.underlying t=some (.interface (P.methodsAt t))) (hx:aP E x=some (.pv aBm)):dF P N o E H (.pv (.bool true)) H :=.of_run fun a w I ι _ he=>⟨.bool true,by
  obtain ⟨q,p,e1⟩:aIP (a.eval x):=(aJ he hx).sat_inv;have e2:a.eval (.const .nilIface)=.nilIface:=rfl;simp only [execOp,ho,e1,e2,eqGuard,Sem.run_bind,Sem.run_pure,Result.andThen_ok,run_neq_held_nil _ _ _ _ ht];rfl,.pv (.bool _)⟩
end
end
section
section
variable {P:Program} {N:Nat} {o:Oper} {E:cB} {H:aB} {t t' it:TypeId} {x:Operand}
theorem VRel.ifc_inv {w:World} {I:Nat→Prop} {ι:eS} {v:Value} {p:PV} (h:VRel w I ι H v (.pv (.ifc t p))):∃ u,v=.iface t u∧PRep w I u p:=by
 cases h with
 | pv h=>cases h with
  | ifc _ u _ h=>exact⟨u,rfl,h⟩
theorem VRel.ifa_inv {w:World} {I:Nat→Prop} {ι:eS} {v:Value} {ps:List PV} (h:VRel w I ι H v (.pv (.ifa t ps))):∃ cs:Array Value,v=.iface t (.agg cs)∧cs.size=ps.length∧∀ (k:Nat) (c:Value) (p:PV),cs[k]?=some c→ps[k]?=some p→PRep w I c p:=by
 cases h with
 | pv h=>cases h with
  | ifa _ cs _ hl h=>exact⟨cs,rfl,hl,h⟩
theorem fB {p:PV} (ho:o.op=.makeInterface t x) (ht:P.concrete t=true) (hx:aP E x=some (.pv p)):dF P N o E H (.pv (.ifc t p)) H :=.of_run fun a w I ι _ he=>⟨.iface t (a.eval x),by simp [execOp,ho,run_makeInterface _ _ _ ht],.pv (.ifc _ _ _ (aJ he hx).pv_inv)⟩
theorem E7 {ps:List PV} (ho:o.op=.makeInterface t x) (ht:P.concrete t=true) (hx:aP E x=some (.agg (ps.map .pv))):dF P N o E H (.pv (.ifa t ps)) H :=.of_run fun a w I ι _ he=>⟨.iface t (a.eval x),by simp [execOp,ho,run_makeInterface _ _ _ ht],by
  have h:=aJ he hx;generalize a.eval x=c at h;cases h with
  | @agg vs _ hl h1 hh =>
   refine .pv (.ifa _ _ _ (by simpa using hl) fun k c p hc hp=>?_);exact(hh k c (.pv p) hc (by rw [aOT,hp];rfl)).pv_inv⟩
theorem XC {d:TypeDesc} {u:Value} (w:World) (hd:P.underlying t=some d) (hni:∀ ms,d≠.interface ms):(Instr.typeAssert (.iface t' u) it t true).run P w=if t'=t then .ok (.tuple #[u,.bool true]) w else((do pure (.tuple #[← zeroValue t,.bool false])):Sem Value).run P w:=by
 unfold Instr.typeAssert;rw [Sem.run_bind,run_underlying hd,Result.andThen_ok];cases d with
 | interface ms=>exact absurd rfl (hni ms)
 | _ =>
  simp only
  split
  ·rfl
  rfl
theorem BW (h:P.concrete t=true):∃ d,P.underlying t=some d∧∀ ms,d≠.interface ms:=by
 unfold Program.concrete at h;cases hd:P.underlying t with
 | none=>rw [hd] at h;cases h
 | some d =>
  refine⟨d,rfl,fun ms e=>?_⟩;rw [hd,e] at h;cases h
theorem tN {p:PV} (ho:o.op=.typeAssert x it t true) (ht:P.concrete t=true) (hx:aP E x=some (.pv (.ifc t p))):dF P N o E H (.tup [.pv p,.pv (.bool true)]) H:=by
 obtain ⟨d,hd,hni⟩:=BW ht;refine .of_run fun a w I ι _ he=>?_;obtain ⟨u,e1,h1⟩:=(aJ he hx).ifc_inv;refine⟨.tuple #[u,.bool true],?_,?_⟩
 ·simp only [execOp,ho,e1];rw [Sem.run_bind,XC w hd hni,aNy rfl];rfl
 exact .tup rfl (fun i v a hv ha=>by
  match i with
  | 0=>cases hv;cases ha;exact .pv h1
  | 1=>cases hv;cases ha;exact .pv (.bool _)
  | i+2=>simp at ha)
theorem LG {ps:List PV} (ho:o.op=.typeAssert x it t true) (ht:P.concrete t=true) (hx:aP E x=some (.pv (.ifa t ps))):dF P N o E H (.tup [.agg (ps.map .pv),.pv (.bool true)]) H:=by
 obtain ⟨d,hd,hni⟩:=BW ht;refine .of_run fun a w I ι _ he=>?_;obtain ⟨u,e1,hl,h1⟩:=(aJ he hx).ifa_inv;refine⟨.tuple #[.agg u,.bool true],?_,?_⟩
 ·simp only [execOp,ho,e1];rw [Sem.run_bind,XC w hd hni,aNy rfl];rfl
 have hk:∀ (k:Nat) (c:Value),u[k]?=some c→∃ p,ps[k]?=some p∧PRep w I c p:=fun k c hc=>by
  have hlt:k < ps.length:=by rw [← hl];exact(Array.getElem?_eq_some_iff.1 hc).1
  exact⟨ps[k],aOE hlt,h1 k c _ hc (aOE hlt)⟩
 exact .tup rfl (fun i v a hv ha=>by
  match i with
  | 0 =>
   cases hv;cases ha;refine .agg (by simpa using hl) (fun k c hc=>?_) (fun k c b hc hb=>?_)
   ·obtain ⟨p,_,hp⟩:=hk k c hc;exact hp.oneCell
   obtain ⟨p,hp1,hp⟩:=hk k c hc;rw [aOT,hp1] at hb;cases hb;exact .pv hp
  | 1=>cases hv;cases ha;exact .pv (.bool _)
  | i+2=>simp at ha)
theorem aID {cells:List AV} (ho:o.op=.typeAssert x it t true) (ht:P.concrete t=true) (hZ:eM P t cells) (hne:t'≠t)
  (hx:∀ (a:Act) (w:World) (I:Nat→Prop) (ι:eS),iO w I ι H E a→∃ u,a.eval x=.iface t' u):dF P N o E H (.tup [.any,.pv (.bool false)]) H:=by
 obtain ⟨d,hd,hni⟩:=BW ht;obtain ⟨z,v0,hz,_,_⟩:=hZ;refine .of_run fun a w I ι _ he=>?_;obtain ⟨u,e1⟩:=hx a w I ι he;refine⟨.tuple #[z,.bool false],?_,?_⟩
 ·simp only [execOp,ho,e1];rw [Sem.run_bind,XC w hd hni,aNx hne,Sem.run_bind,hz w];rfl
 exact .tup rfl (fun i v a hv ha=>by
  match i with
  | 0=>cases hv;cases ha;exact .any _
  | 1=>cases hv;cases ha;exact .pv (.bool _)
  | i+2=>simp at ha)
theorem kA {cells:List AV} {p:PV} (ho:o.op=.typeAssert x it t true) (ht:P.concrete t=true) (hZ:eM P t cells) (hne:Nat.beq t' t=false) (hx:aP E x=some (.pv (.ifc t' p))):dF P N o E H (.tup [.any,.pv (.bool false)]) H :=aID ho ht hZ (fun e=>by subst e;rw [Nat.beq_refl] at hne;cases hne) (fun a w I ι he=>let ⟨u,e,_⟩:=(aJ he hx).ifc_inv;⟨u,e⟩)
theorem yP {cells:List AV} {ps:List PV} (ho:o.op=.typeAssert x it t true) (ht:P.concrete t=true) (hZ:eM P t cells) (hne:Nat.beq t' t=false) (hx:aP E x=some (.pv (.ifa t' ps))):dF P N o E H (.tup [.any,.pv (.bool false)]) H :=aID ho ht hZ (fun e=>by subst e;rw [Nat.beq_refl] at hne;cases hne) (fun a w I ι he=>let ⟨u,e,_⟩:=(aJ he hx).ifa_inv;⟨_,e⟩)
end
end
section
section
variable {P:Program} {N:Nat} {o:Oper} {E:cB} {H:aB} {T T' t:TypeId} {x y:Operand}
theorem GP {e e':TypeId} {ty:TypeId} {vs:Array Value} (w:World) (hT:P.underlying T=some (.slice e)) (hT':P.underlying T'=some (.slice e')):(Builtin.append_ #[T,T'] ty vs).run P w=(Builtin.append_ #[T,T] ty vs).run P w:=by
 unfold Builtin.append_;cases h0:vs[0]? with
 | none=>rfl
 | some s =>
  cases h1:vs[1]? with
  | none=>rfl
  | some u =>
   cases s<;>simp [Sem.run_bind,run_underlying hT,run_underlying hT']
theorem G4 {e e':TypeId} {v:AV} {H2:aB} (ho:o.op=.call {callee:=.builtin .append,args:=#[x,y],argTypes:=#[T,T']}) (hT:P.underlying T=some (.slice e)) (hT':P.underlying T'=some (.slice e'))
  (h:dF P N {o with op:=.call {callee:=.builtin .append,args:=#[x,y],argTypes:=#[T,T]}} E H v H2):dF P N o E H v H2:=by
 intro a w I ι h1 h2 hr he K Q hk;have h3:=h a w I ι h1 h2 hr he K Q hk;unfold Oper.wpW execOp at h3 ⊢;simp only [ho,resolve,invoke,builtin,Sem.run_bind,Sem.run_pure,Result.andThen_ok,List.map_toArray,List.map_cons,List.map_nil,GP w hT hT'] at h3 ⊢;exact h3
theorem aAm {e e':TypeId} {id g n m k sz bytes:Nat} {ob:Ob} {ps:List (List PV)} {rows':List (List AV)} (ho:o.op=.call {callee:=.builtin .append,args:=#[x,y],argTypes:=#[T,T']}) (hT':P.underlying T'=some (.slice e')) (hS:eY P T e sz) (hinf:EI P e sz bytes)
  (hx:aP E x=some (.osl id g 0 n)) (hH:H.get id=some ob) (hg:ob.g=g) (hosz:ob.sz=sz) (hty:ob.ty=e) (hn:ob.rows.length=n)
  (hy:aP E y=some (.pv (.sl ps))) (hrl:∀ r∈ps,r.length=sz) (hm:ps.length=m) (hbytes:(n+m)*bytes≤140737488355328) (hk:n+m=k) (hrows:ob.rows++ps.map (·.map AV.pv)=rows') :
  dF P N o E H (.osl id (g+1) 0 k) ((id,⟨g+1,sz,e,rows'⟩)::H) :=
 G4 ho hS.1 hT' (dH rfl hS hinf hx hH hg hosz hty hn hy hrl hm hbytes hk hrows)
end
end
end Go.Abs
namespace Go.Proofs.YtiifmppaejpemaaGreatDoor
open Go.Proofs.Tryz
open Go.Abs
inductive IV where
 | n (x:Int)
 | t (s:ByteArray)
 | b (x:Bool)
 | l (ts:List ByteArray)
 | z (i:Int) (a b:List ByteArray)
 | p (ps:List (Int×Int))
def gP (q:Int×Int):List PV:=[.int .i64 q.1,.int .i64 q.2]
def rA (l:List (Int×Int)):PV:=.sl (l.map gP)
def aND:IV→PV
 | .n x=>.ifc 3 (.int .i64 x)
 | .t s=>.ifc 9 (.str s)
 | .b x=>.ifc 4 (.bool x)
 | .l ts=>.ifc 22 (aX ts)
 | .z i a b=>.ifa 25 [.int .i64 i,aX a,aX b]
 | .p ps=>.ifc 26 (rA ps)
def wA (v:IV):List PV:=[aND v]
def fI:IV→List ByteArray
 | .n x=>[aT x]
 | .t s=>[s]
 | .b x=>[aT (if x then 1 else 0)]
 | .l ts=>aT (ts.length:Int)::ts
 | .z i a b=>aT i::((aT (a.length:Int)::a)++(aT (b.length:Int)::b))
 | .p ps=>aT (ps.length:Int)::ps.flatMap fun q=>[aT q.1,aT q.2]
def gI:IV→Nat
 | .n _=>1
 | .t _=>1
 | .b _=>1
 | .l _=>2
 | .z _ _ _=>5
 | .p ps=>1+2*ps.length
def rkI:IV→Nat
 | .n _=>0
 | .t _=>0
 | .b _=>1
 | .l _=>1
 | .z _ _ _=>2
 | .p _=>1
def qT (x:Int):Prop := -9223372036854775808≤x∧x≤9223372036854775807
def okI:IV→Prop
 | .n x=>qT x
 | .t _=>True
 | .b _=>True
 | .l ts=>ts.length < 1099511627776
 | .z i a b=>qT i∧a.length < 1099511627776∧b.length < 1099511627776
 | .p ps=>ps.length < 1099511627776∧∀ q∈ps,qT q.1∧qT q.2
def vN (l:List IV):List ByteArray:=l.flatMap fI
def YN (l:List IV):Nat:=(l.map gI).sum
theorem aEa {l:List IV} {k:Nat} {v:IV} (h:l[k]?=some v):vN (l.take (k+1))=vN (l.take k)++fI v:=by rw [vN,List.take_add_one,h,List.flatMap_append];simp [vN]
theorem aE4 {l:List IV} {k:Nat} {v:IV} (h:l[k]?=some v):YN (l.take (k+1))=YN (l.take k)+gI v:=by rw [YN,List.take_add_one,h,List.map_append,List.sum_append];simp [YN]
theorem aJn (l:List IV) (k:Nat):(vN (l.take k)).length≤(vN l).length:=by
 have h:vN l=vN (l.take k)++vN (l.drop k):=by rw [vN,vN,vN,← List.flatMap_append,List.take_append_drop]
 rw [h,aOA];omega
def fH (g:Nat) (L:List ByteArray):aB:=[(971,⟨g,1,9,dS L⟩),(970,bx 1 77 [.osl 971 g 0 L.length])]
theorem aEb (g:Nat) (L:List ByteArray) (s:ByteArray):fH (g+1) (L++[s])=[(971,⟨g+1,1,9,dS (L++[s])⟩),(970,bx 1 77 [.osl 971 (g+1) 0 (L.length+1)])]:=by simp [fH]
theorem dM {P:Program} {t:TypeId} {d:TypeDesc} (h:P.underlying t=some d) (hd:(match d with|.interface _=>false|_=>true)=true):P.concrete t=true:=by unfold Program.concrete;rw [h];cases d<;>first|rfl|cases hd
theorem MS (l:List IV):∀ r∈l.map wA,r.length=1:=fun r hr=>by
 obtain ⟨t,_,rfl⟩:=List.mem_map.1 hr;rfl
def aF5 (r:Nat):Prop:=∀ (l:List IV),(∀ v∈l,rkI v < r∧okI v)→∀ (g:Nat) (L:List ByteArray),l.length < 1099511627776→L.length+(vN l).length < 1099511627776 →
 aI Tryz.prog 46 [.ref 970 0 0 0,.pv (.sl (l.map wA))] (fH g L) (fun r H'=>r=.tup []∧H'=fH (g+YN l) (L++vN l))
def NG (ps:List (Int×Int)):List ByteArray:=ps.flatMap fun q=>[aT q.1,aT q.2]
theorem JT:∀ ps:List (Int×Int),(NG ps).length=2*ps.length
 | []=>rfl
 | q::r=>by
  have ih:=JT r;rw [show NG (q::r)=aT q.1::aT q.2::NG r from rfl,aOB,aOB,aOB,ih];omega
theorem aD2 {ps:List (Int×Int)} {j:Nat} {q:Int×Int} (h:ps[j]?=some q):NG (ps.take (j+1))=NG (ps.take j)++vN [.n q.1,.n q.2]:=by rw [NG,List.take_add_one,h,List.flatMap_append];rfl
theorem WI {args:List AV} {g g':Nat} {L L':List ByteArray} {H:aB} (h:aI Tryz.prog 46 args (fH g L) (fun r H'=>r=.tup []∧H'=fH g' L')) (hs:NJ H (fH g L)) (ha:∀ a∈args,Clo (fH g L) a) :
  aI Tryz.prog 46 args H (fun r H'=>r=.tup []∧H'=fH g' L'++H):=aI.frame h (NJ.sub hs) (eG.ofL ⟨(by exact cL _ _),(by(simp;rfl)),trivial⟩) ha (fun id h=>.inl (aAT h))
theorem qE (A ts:List ByteArray):dS A++(ts.map encStr).map (·.map AV.pv)=dS (A++ts):=by rw [← fN,dS,dS,dS,List.map_append]
theorem aGA (ts:List ByteArray):∀ r∈ts.map encStr,r.length=1:=fun r hr=>by
 obtain ⟨t,_,rfl⟩:=List.mem_map.1 hr;rfl
theorem aHU (g:Nat) (A B:List ByteArray):fH g (A++B)=[(971,⟨g,1,9,dS (A++B)⟩),(970,bx 1 77 [.osl 971 g 0 (A.length+B.length)])]:=by simp [fH]
theorem aFQ (r:Nat) (ih:∀ q,q < r→aF5 q):aF5 r:=by
 intro l hl g L hll hLl;have hml:(l.map wA).length=l.length:=aNz _;have one:∀ (y:Int),qT y→1 < r→∀ (g':Nat) (L':List ByteArray),L'.length+1 < 1099511627776→aI Tryz.prog 46 [.ref 970 0 0 0,.pv (.sl [wA (.n y)])] (fH g' L') (fun r H'=>r=.tup []∧H'=fH (g'+1) (L'++[aT y])):=fun y hy h1 g' L' hs =>
  ih 1 h1 [.n y] (fun v hv=>by rw [aOC] at hv;subst hv;exact⟨by simp [rkI],hy⟩) g' L' (by simp) hs
 refine Bd func46 rfl ntmps46<|Sr<|Dd aF<|Dd (fY underlying136)<|Dd aF<|Zz<|aG ?_;refine bT (σ:=Nat) (fun k=>([(0,.ref 970 0 0 0),(14,.pv (.sl (l.map wA))),(15,iv ((l.map wA).length:Int)),(16,iv (k:Int))],fH (g+YN (l.take k)) (L++vN (l.take k)))) (fun k=>k≤l.length) (fun k=>l.length - k) 0 (aOQ _) ?_ ?_
 ·simp only [vN,YN,List.take_zero,List.flatMap_nil,List.map_nil,List.sum_nil,Nat.add_zero,List.append_nil];exact(cY.wk (Ea<|Eb<|Eb<|Eb<|trivial) (Hc (cL _ _)<|Ha<|trivial) ⟨rfl,rfl,trivial⟩)
 intro k hk;refine Sr<|Dd dK<|Zz<|Sq ?_;refine Cn ?_ ?_<;>intro hc1
 ·have hlt:k < l.length:=by have:=aNv hc1;omega
  obtain ⟨v,hv⟩:=aZ hlt;obtain ⟨hrk,hok⟩:=hl v (aOJ hv);have hi:=cP (f:=wA) hv;have hfn:=aEa hv;have hgn:=aE4 hv;have hle:=aJn l (k+1);rw [hfn] at hle;obtain ⟨L1,hL1⟩:∃ L1,L1=L++vN (l.take k):=⟨_,rfl⟩;obtain ⟨g1,hg1⟩:∃ g1,g1=g+YN (l.take k):=⟨_,rfl⟩;have hL2:L++vN (l.take (k+1))=L1++fI v:=by rw [hfn,hL1,List.append_assoc]
  have hg2:g+YN (l.take (k+1))=g1+gI v:=by rw [hgn,hg1,Nat.add_assoc]
  have hsz:L1.length+(fI v).length < 1099511627776:=by
   rw [aOA] at hle;rw [hL1,aOA];omega
  have hwk:IntKind.i64.wrap ((k:Int)+1)=((k+1:Nat):Int):=by rw [pB (by omega) (by omega)];omega
  rw [← hL1,← hg1];clear hfn hgn hle;cases v with
  | n x =>
   have hx:qT x:=hok;have hsz:L1.length+1 < 1099511627776:=hsz;refine aD<|Sq<|aG<|Sr<|Dd (by exact bW rfl vB rfl rfl (by omega) (by exact aOK _) hi rfl)<|Dd (jA rM (hi:=hi))<|Dd aN<|Zz<|Sr<|Dd aF<|Zz<|aG<|Sr<|Dd (by exact tN rfl (dM underlying3 rfl) rfl)<|Dd fL<|Dd fL<|Zz ?_;refine Cn ?_ ?_<;>intro hc2
   ·refine Sr<|Dd aN<|Zz<|aO follows<|Cr [970] (fun _ _=>aF)<|Cr [970] (fun _ _=>aF)<|Cr [970] (fun H1 hH=>by exact fF rfl rfl ((hH _ rfl).trans rfl) rfl)<|Cr [970] (fun _ h=>lh CY h)<|Cr [] (fun _ _=>aF)<|Cr [] (fun H1 hH=>by exact aA rfl rfl oO rfl (sM x hx.1 hx.2 _))<|Cr [] (fun H1 hH=>by exact aR [[.str (aT x)]] rfl W9 rfl rfl rfl rfl rfl (by intro r hr;rw [aOC] at hr;subst hr;rfl))<|Cp [971] (fun H1 hH=>by exact dH (ps:=[[.str (aT x)]]) rfl W9 EC rfl ((hH _ rfl).trans rfl) rfl rfl rfl (jY _) rfl (by intro r hr;rw [aOC] at hr;subst hr;rfl) (m:=1) rfl (by omega) rfl (lO L1 (aT x)))<|Cr [970] (fun H1 hH=>by exact fF rfl rfl ((hH _ rfl).trans rfl) rfl)<|Cp [970] (fun H1 hH=>by exact cJ rfl HZ rfl rfl rfl rfl ((hH _ rfl).trans rfl) rfl rfl rfl) ?_;refine bL<|Kr<|Rg<|Dd (by exact cI rfl rfl rfl hwk)<|Dd aF<|Zz ?_;refine⟨k+1,by omega,by omega,?_⟩;dsimp only;rw [hL2,hg2,show fI (.n x)=[aT x] from rfl,show gI (.n x)=1 from rfl,aEb];exact(cY.wk (Ea<|Eb<|Eb<|Eb<|trivial) (Hc (cL _ _)<|Ha<|trivial) ⟨rfl,rfl,trivial⟩)
   cases hc2
  | t s =>
   have hsz:L1.length+1 < 1099511627776:=hsz;refine aD<|Sq<|aG<|Sr<|Dd (by exact bW rfl vB rfl rfl (by omega) (by exact aOK _) hi rfl)<|Dd (jA rM (hi:=hi))<|Dd aN<|Zz<|Sr<|Dd aF<|Zz<|aG<|Sr<|Dd (by exact kA rfl (dM underlying3 rfl) zo3 rfl rfl)<|Dd fL<|Dd fL<|Zz ?_;refine Cn ?_ ?_<;>intro hc3
   ·cases hc3
   refine Sr<|Dd (by exact tN rfl (dM underlying9 rfl) rfl)<|Dd fL<|Dd fL<|Zz ?_;refine Cn ?_ ?_<;>intro hc4
   ·refine Sr<|Dd aN<|Zz<|Rg<|Dd aF<|Dd aF<|Dd AJ<|Dd (bM CY)<|Dd aF<|Dd (by exact aR [[.str s]] rfl W9 rfl rfl rfl rfl rfl (by intro r hr;rw [aOC] at hr;subst hr;rfl))<|Dd (by exact dH (ps:=[[.str s]]) rfl W9 EC rfl rfl rfl rfl rfl (jY _) rfl (by intro r hr;rw [aOC] at hr;subst hr;rfl) (m:=1) rfl (by omega) rfl (lO L1 s))<|Dd AJ<|Uu (kQ HZ)<|Zz<|Rg<|Dd (by exact cI rfl rfl rfl hwk)<|Dd aF<|Zz ?_;refine⟨k+1,by omega,by omega,?_⟩;dsimp only;rw [hL2,hg2,show fI (.t s)=[s] from rfl,show gI (.t s)=1 from rfl,aEb];exact(cY.wk (Ea<|Eb<|Eb<|Eb<|trivial) (Hc (cL _ _)<|Ha<|trivial) ⟨rfl,rfl,trivial⟩)
   cases hc4
  | b x =>
   have h1r:1 < r:=hrk;have hsz:L1.length+1 < 1099511627776:=hsz;refine aD<|Sq<|aG<|Sr<|Dd (by exact bW rfl vB rfl rfl (by omega) (by exact aOK _) hi rfl)<|Dd (jA rM (hi:=hi))<|Dd aN<|Zz<|Sr<|Dd aF<|Zz<|aG<|Sr<|Dd (by exact kA rfl (dM underlying3 rfl) zo3 rfl rfl)<|Dd fL<|Dd fL<|Zz ?_;refine Cn ?_ ?_<;>intro hc5
   ·cases hc5
   refine Sr<|Dd (by exact kA rfl (dM underlying9 rfl) zo9 rfl rfl)<|Dd fL<|Dd fL<|Zz ?_;refine Cn ?_ ?_<;>intro hc6
   ·cases hc6
   refine Sr<|Dd (by exact tN rfl (dM dZ rfl) rfl)<|Dd fL<|Dd fL<|Zz ?_;refine Cn ?_ ?_<;>intro hc7
   ·refine Sr<|Dd aN<|Zz<|Rg<|Dd aF<|Dd (by exact A9 (id:=948) aEt rfl rfl)<|Uu (by exact H9 (κ:=aEt) (.inr rfl) underlying137 dZ rfl rfl rfl rfl rfl rfl rfl rfl)<|Dd aF<|Dd aF<|Dd (by exact LI (κ:=aEt) rfl underlying137 dZ rfl rfl rfl rfl rfl B3 (.inl rfl))<|Dd (by exact fB (p:=.int .i64 (if x then 1 else 0)) rfl (dM underlying3 rfl) (by cases x<;>rfl))<|Dd (by exact aR [wA (.n (if x then 1 else 0))] rfl vB rfl rfl rfl rfl rfl (by intro r hr;rw [aOC] at hr;subst hr;rfl))<|Dd (by exact aA rfl rfl uS rfl (WI (one (if x then 1 else 0) (by cases x<;>exact⟨by decide,by decide⟩) h1r g1 L1 hsz) ⟨rfl,rfl,trivial⟩ (by simp;rfl)))<|Zz<|Rg<|Dd (by exact cI rfl rfl rfl hwk)<|Dd aF<|Zz ?_;refine⟨k+1,by omega,by omega,?_⟩;dsimp only;rw [hL2,hg2,show fI (.b x)=[aT (if x then 1 else 0)] from rfl,show gI (.b x)=1 from rfl];exact(cY.wk (Ea<|Eb<|Eb<|Eb<|trivial) (Hc (cL _ _)<|Ha<|trivial) ⟨rfl,rfl,trivial⟩)
   cases hc7
  | l ts =>
   have h1r:1 < r:=hrk;have hsz:L1.length+(ts.length+1) < 1099511627776:=hsz;have hmt:(ts.map encStr).length=ts.length:=aNz _;obtain ⟨y,hy⟩:∃ y,y=((ts.map encStr).length:Int):=⟨_,rfl⟩;have hyo:qT y:=⟨by omega,by omega⟩;have hfl:L1++fI (.l ts)=(L1++[aT y])++ts:=by rw [hy,hmt,List.append_assoc];rfl
   have hll1:(L1++[aT y]).length=L1.length+1:=by rw [aOA];rfl
   refine aD<|Sq<|aG<|Sr<|Dd (by exact bW rfl vB rfl rfl (by omega) (by exact aOK _) hi rfl)<|Dd (jA rM (hi:=hi))<|Dd aN<|Zz<|Sr<|Dd aF<|Zz<|aG<|Sr<|Dd (by exact kA rfl (dM underlying3 rfl) zo3 rfl rfl)<|Dd fL<|Dd fL<|Zz ?_;refine Cn ?_ ?_<;>intro hc8
   ·cases hc8
   refine Sr<|Dd (by exact kA rfl (dM underlying9 rfl) zo9 rfl rfl)<|Dd fL<|Dd fL<|Zz ?_;refine Cn ?_ ?_<;>intro hc9
   ·cases hc9
   refine Sr<|Dd (by exact kA rfl (dM dZ rfl) zo4 rfl rfl)<|Dd fL<|Dd fL<|Zz ?_;refine Cn ?_ ?_<;>intro hc10
   ·cases hc10
   refine Sr<|Dd (by exact tN rfl (dM aE rfl) rfl)<|Dd fL<|Dd fL<|Zz ?_;refine Cn ?_ ?_<;>intro hc11
   ·refine Sr<|Dd aN<|Zz<|Sr<|Dd aF<|Dd aF<|Dd (by exact dF.eqJ (kY rfl cA.1 rfl) (congrArg (fun n:Int=>AV.pv (.int .i64 n)) hy.symm))<|Dd (by exact fB (p:=.int .i64 y) rfl (dM underlying3 rfl) rfl)<|Dd (by exact aR [wA (.n y)] rfl vB rfl rfl rfl rfl rfl (by intro r hr;rw [aOC] at hr;subst hr;rfl))<|Dd (by exact aA rfl rfl uS rfl (WI (one y hyo h1r g1 L1 (by omega)) ⟨rfl,rfl,trivial⟩ (by simp;rfl)))<|Zz<|Rg<|Dd aF<|Dd aF<|Dd AJ<|Dd (bM CY)<|Dd aF<|Dd (by exact aAm (ps:=ts.map encStr) rfl aE W9 EC rfl rfl rfl rfl rfl (jY _) rfl (aGA ts) (m:=ts.length) hmt (by rw [hll1];omega) rfl (qE (L1++[aT y]) ts))<|Dd AJ<|Uu (kQ HZ)<|Zz<|Rg<|Dd (by exact cI rfl rfl rfl hwk)<|Dd aF<|Zz ?_;refine⟨k+1,by omega,by omega,?_⟩;dsimp only;rw [hL2,hg2,hfl,show gI (.l ts)=2 from rfl,aHU (g1+2) (L1++[aT y]) ts];exact(cY.wk (Ea<|Eb<|Eb<|Eb<|trivial) (Hc (cL _ _)<|Ha<|trivial) ⟨rfl,rfl,trivial⟩)
   cases hc11
  | z i a b =>
   have h2r:2 < r:=hrk;obtain ⟨hio,hao,hbo⟩:qT i∧a.length < 1099511627776∧b.length < 1099511627776:=hok;have e3:vN [.n i,.l a,.l b]=fI (.z i a b):=by simp [vN,fI]
   have h3:=ih 2 h2r [.n i,.l a,.l b] (by
    intro v hv;simp only [aOL,aOP,or_false] at hv;rcases hv with rfl|rfl|rfl
    ·exact⟨by simp [rkI],hio⟩
    ·exact⟨by simp [rkI],hao⟩
    exact⟨by simp [rkI],hbo⟩) g1 L1 (by simp) (by rw [e3];exact hsz)
   rw [e3] at h3;refine aD<|Sq<|aG<|Sr<|Dd (by exact bW rfl vB rfl rfl (by omega) (by exact aOK _) hi rfl)<|Dd (jA rM (hi:=hi))<|Dd aN<|Zz<|Sr<|Dd aF<|Zz<|aG<|Sr<|Dd (by exact yP rfl (dM underlying3 rfl) zo3 rfl rfl)<|Dd fL<|Dd fL<|Zz ?_;refine Cn ?_ ?_<;>intro hc12
   ·cases hc12
   refine Sr<|Dd (by exact yP rfl (dM underlying9 rfl) zo9 rfl rfl)<|Dd fL<|Dd fL<|Zz ?_;refine Cn ?_ ?_<;>intro hc13
   ·cases hc13
   refine Sr<|Dd (by exact yP rfl (dM dZ rfl) zo4 rfl rfl)<|Dd fL<|Dd fL<|Zz ?_;refine Cn ?_ ?_<;>intro hc14
   ·cases hc14
   refine Sr<|Dd (by exact yP rfl (dM aE rfl) aK8 rfl rfl)<|Dd fL<|Dd fL<|Zz ?_;refine Cn ?_ ?_<;>intro hc15
   ·cases hc15
   refine Sr<|Dd (by exact LG (ps:=[.int .i64 i,aX a,aX b]) rfl (dM gH rfl) rfl)<|Dd fL<|Dd fL<|Zz ?_;refine Cn ?_ ?_<;>intro hc16
   ·refine Sr<|Dd (by exact bU (id:=10) rfl aAk rfl rfl)<|Uu (kQ sizeOf25)<|Zz<|Rg<|Dd aF<|Dd (aV nN)<|Dd (bM isAgg3)<|Dd (by exact fB (p:=.int .i64 i) rfl (dM underlying3 rfl) rfl)<|Dd (aV jT)<|Dd (bM aH)<|Dd (by exact fB (p:=aX a) rfl (dM aE rfl) rfl)<|Dd (aV oJ)<|Dd (bM aH)<|Dd (by exact fB (p:=aX b) rfl (dM aE rfl) rfl)<|Dd (by exact aR [wA (.n i),wA (.l a),wA (.l b)] rfl vB rfl rfl rfl rfl rfl (by intro r hr;simp only [aOL,aOP,or_false] at hr;rcases hr with rfl|rfl|rfl<;>rfl))<|Dd (by exact aA rfl rfl uS rfl (WI h3 ⟨rfl,rfl,trivial⟩ (by simp;rfl)))<|Zz<|Rg<|Dd (by exact cI rfl rfl rfl hwk)<|Dd aF<|Zz ?_;refine⟨k+1,by omega,by omega,?_⟩;dsimp only;rw [hL2,hg2];exact(cY.wk (Ea<|Eb<|Eb<|Eb<|trivial) (Hc (cL _ _)<|Ha<|trivial) ⟨rfl,rfl,trivial⟩)
   cases hc16
  | p ps =>
   have h1r:1 < r:=hrk;obtain ⟨hpl,hpo⟩:ps.length < 1099511627776∧∀ q∈ps,qT q.1∧qT q.2:=hok;have hfp:∀ j,NG (ps.take j)=(ps.take j).flatMap (fun q=>[aT q.1,aT q.2]):=fun _=>rfl;have hsz:L1.length+(1+2*ps.length) < 1099511627776:=by
    have:(fI (.p ps)).length=1+2*ps.length:=by rw [show fI (.p ps)=aT (ps.length:Int)::NG ps from rfl,aOB,JT];omega
    omega
   have hmt:(ps.map gP).length=ps.length:=aNz _;obtain ⟨y,hy⟩:∃ y,y=((ps.map gP).length:Int):=⟨_,rfl⟩;have hyo:qT y:=⟨by omega,by omega⟩;have hfl:L1++fI (.p ps)=(L1++[aT y])++NG ps:=by rw [hy,hmt,List.append_assoc];rfl
   refine aD<|Sq<|aG<|Sr<|Dd (by exact bW rfl vB rfl rfl (by omega) (by exact aOK _) hi rfl)<|Dd (jA rM (hi:=hi))<|Dd aN<|Zz<|Sr<|Dd aF<|Zz<|aG<|Sr<|Dd (by exact kA rfl (dM underlying3 rfl) zo3 rfl rfl)<|Dd fL<|Dd fL<|Zz ?_;refine Cn ?_ ?_<;>intro hc17
   ·cases hc17
   refine Sr<|Dd (by exact kA rfl (dM underlying9 rfl) zo9 rfl rfl)<|Dd fL<|Dd fL<|Zz ?_;refine Cn ?_ ?_<;>intro hc18
   ·cases hc18
   refine Sr<|Dd (by exact kA rfl (dM dZ rfl) zo4 rfl rfl)<|Dd fL<|Dd fL<|Zz ?_;refine Cn ?_ ?_<;>intro hc19
   ·cases hc19
   refine Sr<|Dd (by exact kA rfl (dM aE rfl) aK8 rfl rfl)<|Dd fL<|Dd fL<|Zz ?_;refine Cn ?_ ?_<;>intro hc20
   ·cases hc20
   refine Sr<|Dd (by exact kA rfl (dM gH rfl) aAk rfl rfl)<|Dd fL<|Dd fL<|Zz ?_;refine Cn ?_ ?_<;>intro hc21
   ·cases hc21
   refine Sr<|Dd (by exact tN rfl (dM eR rfl) rfl)<|Dd fL<|Dd fL<|Zz ?_;refine Cn ?_ ?_<;>intro hc22
   ·refine Sr<|Dd aN<|Zz<|Sr<|Dd aF<|Dd aF<|Dd (by exact dF.eqJ (kY rfl TU.1 rfl) (congrArg (fun n:Int=>AV.pv (.int .i64 n)) hy.symm))<|Dd (by exact fB (p:=.int .i64 y) rfl (dM underlying3 rfl) rfl)<|Dd (by exact aR [wA (.n y)] rfl vB rfl rfl rfl rfl rfl (by intro r hr;rw [aOC] at hr;subst hr;rfl))<|Dd (by exact aA rfl rfl uS rfl (WI (one y hyo h1r g1 L1 (by omega)) ⟨rfl,rfl,trivial⟩ (by simp;rfl)))<|Zz<|Sr<|Dd aF<|Dd (fY eR)<|Dd aF<|Zz<|aG ?_;refine bT (σ:=Nat) (fun j=>([(0,.ref 970 0 0 0),(14,.pv (.sl (l.map wA))),(15,iv ((l.map wA).length:Int)),(16,iv (k:Int)),(95,.pv (rA ps)),(96,iv ((ps.map gP).length:Int)),(97,iv (j:Int))],fH (g1+1+2*j) ((L1++[aT y])++NG (ps.take j)))) (fun j=>j≤ps.length) (fun j=>ps.length - j) 0 (aOQ _) ?_ ?_
    ·rw [show NG (ps.take 0)=[] from rfl,List.append_nil];exact(cY.wk (Ea<|Eb<|Eb<|Eb<|Eb<|Eb<|Eb<|trivial) (Hc (cL _ _)<|Ha<|trivial) ⟨rfl,rfl,trivial⟩)
    intro j hj;refine Sr<|Dd dK<|Zz<|Sq ?_;refine Cn ?_ ?_<;>intro hc23
    ·have hjl:j < ps.length:=by have:=aNv hc23;omega
     obtain ⟨q,hq⟩:=aZ hjl;have hqi:=cP (f:=gP) hq;obtain ⟨hq1,hq2⟩:=hpo q (aOJ hq);have hnx:=aD2 hq;have hln:(L1++[aT y]++NG (ps.take j)).length=L1.length+1+2*j:=by rw [aOA,aOA,JT,aON];simp;omega
     have h2:=ih 1 h1r [.n q.1,.n q.2] (by
      intro v hv;simp only [aOL,aOP,or_false] at hv;rcases hv with rfl|rfl
      ·exact⟨by simp [rkI],hq1⟩
      exact⟨by simp [rkI],hq2⟩) (g1+1+2*j) (L1++[aT y]++NG (ps.take j)) (by simp) (by rw [hln];show L1.length+1+2*j+2 < _;omega)
     refine aD<|Sq<|aG<|Sr<|Dd (by exact bW rfl TU rfl rfl (by omega) (by exact aOK _) hqi rfl)<|Dd (by exact dL rfl dQ sizeOf73 rfl hqi (by simp only [Zl,encStr];rfl) rfl)<|Dd (by exact bU (id:=13) rfl aK4 rfl rfl)<|Uu (kQ sizeOf73)<|Zz<|Rg<|Dd aF<|Dd (aV pS)<|Dd (bM isAgg3)<|Dd (by exact fB (p:=.int .i64 q.1) rfl (dM underlying3 rfl) rfl)<|Dd (aV pR)<|Dd (bM isAgg3)<|Dd (by exact fB (p:=.int .i64 q.2) rfl (dM underlying3 rfl) rfl)<|Dd (by exact aR [wA (.n q.1),wA (.n q.2)] rfl vB rfl rfl rfl rfl rfl (by intro r hr;simp only [aOL,aOP,or_false] at hr;rcases hr with rfl|rfl<;>rfl))<|Dd (by exact aA rfl rfl uS rfl (WI h2 ⟨rfl,rfl,trivial⟩ (by simp;rfl)))<|Zz<|Rg<|Dd (by exact cI rfl rfl rfl (show IntKind.i64.wrap ((j:Int)+1)=((j+1:Nat):Int)by rw [pB (by omega) (by omega)];omega)) ?_;refine Dd aF<|Zz ?_;refine⟨j+1,by omega,by omega,?_⟩;dsimp only;rw [hnx,← List.append_assoc,show g1+1+2*(j+1)=g1+1+2*j+YN [.n q.1,.n q.2] from rfl];exact(cY.wk (Ea<|Eb<|Eb<|Eb<|Eb<|Eb<|Eb<|trivial) (Hc (cL _ _)<|Ha<|trivial) ⟨rfl,rfl,trivial⟩)
    have hjg:j=ps.length:=by have:=aNw hc23;omega
    subst hjg;rw [List.take_length];refine bC<|Rg<|Dd (by exact cI rfl rfl rfl hwk)<|Dd aF<|Zz ?_;refine⟨k+1,by omega,by omega,?_⟩;dsimp only;rw [hL2,hg2,hfl,show g1+gI (.p ps)=g1+1+2*ps.length from(Nat.add_assoc _ _ _).symm];exact(cY.wk (Ea<|Eb<|Eb<|Eb<|trivial) (Hc (cL _ _)<|Ha<|trivial) ⟨rfl,rfl,trivial⟩)
   cases hc22
 have hge:k=l.length:=by have:=aNw hc1;omega
 subst hge;rw [List.take_length];refine bC ?_;exact rL (.inl rfl) rfl Fin.refl ⟨rfl,rfl⟩
theorem aKL (r:Nat):aF5 r:=Nat.strongRecOn r (fun r ih=>aFQ r ih)
theorem aKy (v:IV):rkI v < 3:=by cases v<;>simp [rkI]
theorem Y7 (l:List IV) (hl:∀ v∈l,okI v) (g:Nat) (L:List ByteArray) (hll:l.length < 1099511627776) (hs:L.length+(vN l).length < 1099511627776) :
  aI Tryz.prog 46 [.ref 970 0 0 0,.pv (.sl (l.map wA))] (fH g L) (fun r H'=>r=.tup []∧H'=fH (g+YN l) (L++vN l)) :=
 aKL 3 l (fun v hv=>⟨aKy v,hl v hv⟩) g L hll hs
structure GSeal where
 idx:Int
 sig:List ByteArray
 path:List ByteArray
 deriving DecidableEq
structure GPriv where
 name:ByteArray
 reason:ByteArray
 sources:List ByteArray
 trace:List (Int×Int)
 sl:GSeal
 deriving DecidableEq
structure GRec where
 kind:Int
 author:Int
 number:Int
 clock:Int
 branch:ByteArray
 parents:List ByteArray
 edits:List GEdit
 target:ByteArray
 yes:Bool
 order:Int
 from':ByteArray
 sl:GSeal
 priv:GPriv
def jC (s:GSeal):List PV:=[.int .i64 s.idx,aX s.sig,aX s.path]
def sR (p:GPriv):List PV:=[.str p.name,.str p.reason,aX p.sources,rA p.trace,.int .i64 p.sl.idx,aX p.sl.sig,aX p.sl.path]
def cF (r:GRec):List PV:=[.int .i64 r.kind,.int .i64 r.author,.int .i64 r.number,.int .i64 r.clock,.str r.branch,aX r.parents,hU r.edits,.str r.target,.bool r.yes,.int .i64 r.order,.str r.from',.int .i64 r.sl.idx,aX r.sl.sig,aX r.sl.path,.str r.priv.name,.str r.priv.reason,aX r.priv.sources,rA r.priv.trace,.int .i64 r.priv.sl.idx,aX r.priv.sl.sig,aX r.priv.sl.path]
def N5 (l:List ByteArray):Prop:=l.length < 1099511627776∧∀ t∈l,t.size < 1099511627776
def tP (s:GSeal):Prop:=qT s.idx∧N5 s.sig∧N5 s.path
def X3 (p:GPriv):Prop:=p.name.size < 1099511627776∧p.reason.size < 1099511627776∧N5 p.sources∧p.trace.length < 1099511627776∧tP p.sl
def aJA (q:ByteArray→Bool) (l:List ByteArray) (k:Nat):Bool:=match l[k]? with|some s=>q s|none=>false
theorem aG8 (q:ByteArray→Bool) (l:List ByteArray):(List.range l.length).any (aJA q l)=l.any q:=QX l q
theorem MW (f:FuncId) (l:List ByteArray) (q:ByteArray→Bool) (hl:l.length < 1099511627776) (hf:∀ s∈l,dD Tryz.prog (.pv (.fn f)) [sv s] [] (fun r H'=>r=bv (q s)∧H'=[])) (H:aB) :
  aI Tryz.prog 66 [.pv (aX l),.pv (.fn f)] H (fun r H'=>r=bv (l.any q)∧H'=H):=by
 refine Pu ?_;have hc:=qV (.pv (.fn f)) l (aJA q l) (fun _=>[]) (by omega) (fun k s hk=>by
  rw [aJA,hk];exact hf s (aOJ hk))
 rw [aG8] at hc;exact hc
theorem aJq (t:ByteArray) (ht:t.size < 1099511627776) (H:aB):aI Tryz.prog 128 [sv t] H (fun r H'=>r=bv (LN t)∧H'=H):=by refine Pu ?_;exact Bd func128 rfl ntmps128<|Sr<|Dd aN<|Zz<|Sr<|Dd aF<|Dd (by exact aA rfl rfl aFg rfl (aAW t ht _))<|Dd jS<|Dd aN<|Zz<|aC<|Rt<|Qq
theorem HP (l:List ByteArray) (hl:N5 l) (H:aB):aI Tryz.prog 75 [.pv (aX l)] H (fun r H'=>r=bv (l.all isJ)∧H'=H):=by refine Pu ?_;have hc:=MW 128 l LN hl.1 (fun s hs=>dD.fn call128 (aJq s (hl.2 s hs) [])) [];rw [F6] at hc;refine Bd func75 rfl ntmps75<|Sr<|Dd aN<|Zz<|Sr<|Dd aF<|Dd (by exact aA rfl rfl S9 rfl (hc))<|Dd jS<|Dd aN<|Zz<|aC<|Rt ?_;exact⟨by rw [Bool.not_not],rfl⟩
def uW (s:GSeal):Bool:=decide (s.idx=0)&&decide (((s.sig.map encStr).length:Int)+((s.path.map encStr).length:Int)=0)
theorem aC7 (s:GSeal) (hs:tP s) (H:aB):aI Tryz.prog 84 [av (jC s)] H (fun r H'=>r=bv (uW s)∧H'=H):=by
 refine Pu ?_;have h1:(s.sig.map encStr).length < 1099511627776:=by rw [aNz];exact hs.2.1.1
 have h2:(s.path.map encStr).length < 1099511627776:=by rw [aNz];exact hs.2.2.1
 refine Bd func84 rfl ntmps84<|Sr<|Dd (by exact cH (id:=1) rfl rfl rfl rfl rfl)<|Dd aN<|Zz<|Sq ?_;refine bA (t:=2) (n:=15) (X:=uW s) ?_ ?_
 ·all_goals refine Dd (aV nN) ?_
  all_goals refine Dd (bM isAgg3)<|Dd cT<|Dm ?_
  all_goals refine Sp 6 (fun h6=>?_) fun h6=>?_
  all_goals try contradiction
  all_goals first|refine Fo<|Fo<|Fo<|Fo<|Fo<|Fo<|Fo<|Fo ?_|refine On (aV jT)<|On (bM aH)<|On (fY aE)<|On (aV oJ)<|On (bM aH)<|On (fY aE)<|On (by exact cI rfl rfl rfl (pB (by omega) (by omega)))<|On cT ?_
  all_goals refine Dd cW<|Da ?_
  all_goals(exact⟨⟨_,rfl,by(rw [uW,h6];rfl)⟩,rfl,rfl,rfl⟩)
 exact aC<|Rt<|Qq
def kD (s:GSeal):Bool:=uW s||(((((decide (0≤s.idx)&&decide (s.idx < 256))&&decide (((s.sig.map encStr).length:Int)=18))&&decide (((s.path.map encStr).length:Int)≤8))&&s.sig.all isJ)&&s.path.all isJ)
theorem U9 (s:GSeal) (hs:tP s) (H:aB):aI Tryz.prog 70 [av (jC s)] H (fun r H'=>r=bv (kD s)∧H'=H):=by
 refine Pu ?_;have hz:=fun H=>aC7 s hs H;have hd1:=fun H=>HP s.sig hs.2.1 H;have hd2:=fun H=>HP s.path hs.2.2 H;obtain ⟨zz,hzz⟩:∃ zz,zz=uW s:=⟨_,rfl⟩;rw [← hzz] at hz;refine Bd func70 rfl ntmps70<|Sr<|Dd (by exact cH (id:=1) rfl rfl rfl rfl rfl)<|Dd aN<|Zz<|Sq ?_;refine bA (t:=2) (n:=41) (X:=kD s) ?_ ?_
 ·all_goals refine Dd (by exact aL rfl fM sizeOf25 rfl rfl rfl rfl (by simp only [Zl,encStr];rfl) rfl) ?_
  all_goals refine Dd (by exact aA rfl rfl call84 rfl (hz _))<|Dm ?_
  all_goals refine Sp 5 (fun h5=>?_) fun h5=>?_
  all_goals try contradiction
  all_goals first|refine Fo<|Fo<|Fo<|Fo ?_|refine On (aV nN)<|On (bM isAgg3)<|On DT<|On aF ?_
  all_goals(first|refine Sp 9 (fun h9=>?_) fun h9=>?_|refine rX (t:=9) rfl ?_)
  all_goals try contradiction
  all_goals first|refine Fo ?_|refine Fu ?_|refine On (aV nN) ?_
  all_goals first|refine Fo ?_|refine Fu ?_|refine On (bM isAgg3) ?_
  all_goals first|refine Fo ?_|refine Fu ?_|refine On dK ?_
  all_goals first|refine Fo<|Fo ?_|refine On cW<|On aF ?_
  all_goals(first|refine Sp 14 (fun h14=>?_) fun h14=>?_|refine rX (t:=14) rfl ?_)
  all_goals try contradiction
  all_goals first|refine Fo ?_|refine Fu ?_|refine On (aV jT) ?_
  all_goals first|refine Fo ?_|refine Fu ?_|refine On (bM aH) ?_
  all_goals first|refine Fo ?_|refine Fu ?_|refine On (fY aE) ?_
  all_goals first|refine Fo ?_|refine Fu ?_|refine On cT ?_
  all_goals first|refine Fo<|Fo ?_|refine On cW<|On aF ?_
  all_goals(first|refine Sp 20 (fun h20=>?_) fun h20=>?_|refine rX (t:=20) rfl ?_)
  all_goals try contradiction
  all_goals first|refine Fo ?_|refine Fu ?_|refine On (aV oJ) ?_
  all_goals first|refine Fo ?_|refine Fu ?_|refine On (bM aH) ?_
  all_goals first|refine Fo ?_|refine Fu ?_|refine On (fY aE) ?_
  all_goals first|refine Fo ?_|refine Fu ?_|refine On MB ?_
  all_goals first|refine Fo<|Fo ?_|refine On cW<|On aF ?_
  all_goals(first|refine Sp 26 (fun h26=>?_) fun h26=>?_|refine rX (t:=26) rfl ?_)
  all_goals try contradiction
  all_goals first|refine Fo ?_|refine Fu ?_|refine On (aV jT) ?_
  all_goals first|refine Fo ?_|refine Fu ?_|refine On (bM aH) ?_
  all_goals first|refine Fo ?_|refine Fu ?_|refine On (by exact aA rfl rfl aFd rfl (hd1 _)) ?_
  all_goals first|refine Fo<|Fo ?_|refine On cW<|On aF ?_
  all_goals(first|refine Sp 31 (fun h31=>?_) fun h31=>?_|refine rX (t:=31) rfl ?_)
  all_goals try contradiction
  all_goals first|refine Fo ?_|refine Fu ?_|refine On (aV oJ) ?_
  all_goals first|refine Fo ?_|refine Fu ?_|refine On (bM aH) ?_
  all_goals first|refine Fo ?_|refine Fu ?_|refine On (by exact aA rfl rfl aFd rfl (hd2 _)) ?_
  all_goals first|refine Fo ?_|refine On cW ?_
  all_goals refine Dd cW<|Da ?_
  all_goals(exact⟨⟨_,rfl,by first|(rw [kD,← hzz,h5];rfl)|(rw [kD,← hzz,h5,h9];rfl)|(rw [kD,← hzz,h5,h9,h14];rfl)|(rw [kD,← hzz,h5,h9,h14,h20];rfl)|(rw [kD,← hzz,h5,h9,h14,h20,h26];rfl)|(rw [kD,← hzz,h5,h9,h14,h20,h26,h31];rfl)⟩,rfl,rfl,rfl⟩)
 exact aC<|Rt<|Qq
def gS (p:GPriv):Bool:=decide (p.name++p.reason=sNil)&&decide (((p.sources.map encStr).length:Int)+((p.trace.map gP).length:Int)=0)
theorem aA1 (p:GPriv) (hp:X3 p) (H:aB):aI Tryz.prog 83 [av (sR p)] H (fun r H'=>r=bv (gS p)∧H'=H):=by
 refine Pu ?_;obtain ⟨a1,a2,a3,a4,a5⟩:=hp;have h1:(p.sources.map encStr).length < 1099511627776:=by rw [aNz];exact a3.1
 have h2:(p.trace.map gP).length < 1099511627776:=by rw [aNz];exact a4
 have h3:(p.name++p.reason).size=p.name.size+p.reason.size:=ByteArray.size_append;refine Bd func83 rfl ntmps83<|Sr<|Dd (by exact cH (id:=1) rfl rfl rfl rfl rfl)<|Dd aN<|Zz<|Sq ?_;refine bA (t:=2) (n:=18) (X:=gS p) ?_ ?_
 ·all_goals refine Dd (aV DX) ?_
  all_goals refine Dd (bM isAgg9)<|Dd (aV DW)<|Dd (bM isAgg9)<|Dd (by exact cD rfl rfl rfl (by omega) rfl)<|Dd yJ<|Dm ?_
  all_goals refine Sp 9 (fun h9=>?_) fun h9=>?_
  all_goals try contradiction
  all_goals first|refine Fo<|Fo<|Fo<|Fo<|Fo<|Fo<|Fo<|Fo ?_|refine On (aV BN)<|On (bM aH)<|On (fY aE)<|On (aV uF)<|On (bM kH)<|On (fY eR)<|On (by exact cI rfl rfl rfl (pB (by omega) (by omega)))<|On cT ?_
  all_goals refine Dd cW<|Da ?_
  all_goals(exact⟨⟨_,rfl,by(rw [gS,h9];rfl)⟩,rfl,rfl,rfl⟩)
 exact aC<|Rt<|Qq
theorem KE (n a b:Int) (H:aB):aI Tryz.prog 64 [iv n,iv a,iv b] H (fun r H'=>r=bv (decide (a≤n)&&decide (n≤b))∧H'=H):=by
 refine Pu ?_;refine Bd func64 rfl ntmps64<|Sr<|Dd aN<|Zz<|Sq ?_;refine bA (t:=6) (n:=10) (X:=decide (a≤n)&&decide (n≤b)) ?_ ?_
 ·all_goals refine Dd aF ?_
  all_goals refine Dd aF<|Dd DT<|Dm ?_
  all_goals refine Sp 10 (fun h10=>?_) fun h10=>?_
  all_goals try contradiction
  all_goals first|refine Fo<|Fo<|Fo ?_|refine On aF<|On aF<|On MB ?_
  all_goals refine Dd cW<|Da ?_
  all_goals(exact⟨⟨_,rfl,by(rw [h10];rfl)⟩,rfl,rfl,rfl⟩)
 exact aC<|Rt<|Qq
def IK (s:ByteArray):Bool:=decide (200 < (s.size:Int))
theorem aJ6 (s:ByteArray) (H:aB):aI Tryz.prog 67 [sv s] H (fun r H'=>r=bv (IK s)∧H'=H):=by refine Pu ?_;exact Bd func67 rfl ntmps67<|Sr<|Dd aN<|Zz<|Sr<|Dd aF<|Dd (lH underlying9)<|Dd jE<|Dd aN<|Zz<|aC<|Rt<|Qq
theorem ZZ (l:List ByteArray) (hl:l.length < 1099511627776) (H:aB):aI Tryz.prog 65 [.pv (aX l)] H (fun r H'=>r=bv (!l.any IK)∧H'=H):=by refine Pu ?_;have hc:=MW 67 l IK hl (fun s hs=>dD.fn call67 (aJ6 s [])) [];exact Bd func65 rfl ntmps65<|Sr<|Dd aN<|Zz<|Sr<|Dd aF<|Dd (by exact aA rfl rfl S9 rfl (hc))<|Dd jS<|Dd aN<|Zz<|aC<|Rt<|Qq
end Go.Proofs.YtiifmppaejpemaaGreatDoor
namespace Go.Abs
section
section
variable {P:Program} {N:Nat} {o:Oper} {E:cB} {H:aB} {S T t:TypeId} {x:Operand} {id g n m:Nat} {ob:Ob}
theorem DN (ho:o.op=.convert S T x) (hS:P.underlying S=some .unsafePointer) (hT:P.underlying T=some (.pointer t)) (hi:(P.info? t).map (·.size)=some (n+1)) (hc:P.cellsOf ob.ty=m+1) (hx:aP E x=some (.ref id g 0 0)) (hH:H.get id=some ob) (hg:ob.g=g) (hne:ob.rows≠[]) (hsz:ob.sz=m+1) (hl:∀ c,liesAt P P.depth ob.ty (c+1) 0 t 1=true):dF P N o E H (.ref id g 0 0) H :=.of_run fun a w I ι hr he=>by
  have hv:=aJ he hx;obtain ⟨b,cap,e1,e2,e3,e4⟩:=GQ hr hv hH hg hne;obtain ⟨j,h1,h2⟩:=xL hi;rw [e1] at hv;refine⟨_,?_,hv⟩;simp only [execOp,ho,e1];have hq:cap*ob.sz / P.cellsOf ob.ty=(cap - 1)+1:=by rw [hc,hsz,Nat.mul_div_cancel _ (by omega)];omega
  rw [Sem.run_bind,Lib.run_from_unsafe w ⟨b,0,none⟩ hS hT h1 e2 (by rw [hq];exact hl _)];rfl
end
end
end Go.Abs
namespace Go.Proofs.YtiifmppaejpemaaGreatDoor
open Go.Proofs.Tryz
open Go.Abs
theorem aLd (c:Nat):liesAt Tryz.prog Tryz.prog.depth 248 (c+1) 0 140 1=true:=by kernel_rfl
def D1 (buf:AV) (u:Bool):Ob:=⟨0,2,248,[[WD u,buf]]⟩
def nP (g:Nat) (l:List UInt8) (u:Bool):aB:=[(2001,D1 (.osl 2002 g 0 l.length) u),(2002,⟨g,1,5,eN l⟩)]
theorem M0 {H:aB} {g n:Nat} {u:Bool} (h1:(H.get 2001).isSome=true) (h2:(H.get 2002).isSome=true):∀ r∈(D1 (.osl 2002 g 0 n) u).rows,∀ a∈r,Clo H a:=by
 intro r hr a ha;simp only [D1,aOC] at hr;subst hr;simp only [aOL,aOP,or_false] at ha;rcases ha with rfl|rfl
 ·cases u<;>simp [WD,h1]
 simp [h2]
theorem F1 (buf:AV) (u:Bool) (K:aB):aI Tryz.prog 159 [.ref 2001 0 0 0] ((2001,D1 buf u)::K) (fun r H'=>r=.tup []∧H'=(2001,D1 buf true)::K):=by
 cases u with
 | false =>
  refine Bd aCS rfl WP<|Sr<|Dd aF<|Dd AJ<|Dd (aV vM)<|Dd (bM AF)<|Dd (by exact IG rfl fU rfl rfl)<|Zz ?_;refine Cn ?_ ?_<;>intro hc1
  ·refine Rg<|Dd aF<|Dd aF<|Dd (by exact C6 (n:=1) rfl fU D5 (by kernel_rfl) rfl rfl rfl (by simp [D1]))<|Dd (by exact JY rfl rfl func194 rfl rfl rfl rfl rfl (VB (.ref 2001 0 0 0)))<|Dd (by exact DN (n:=1) (m:=1) rfl D5 fU (by kernel_rfl) (by kernel_rfl) rfl rfl rfl (by simp [D1]) rfl aLd)<|Dd AJ<|Dd (aV vM)<|Uu (by exact bH rfl aKM rfl rfl rfl rfl rfl rfl (aOM rfl) rfl rfl)<|Zz ?_;exact rL (.inl rfl) rfl (Fin.get' (H':=(2001,D1 buf true)::K) (fun j=>vL 2001 (D1 buf true) (D1 buf false) K j)) ⟨rfl,rfl⟩
  cases hc1
 | true =>
  refine Bd aCS rfl WP<|Sr<|Dd aF<|Dd AJ<|Dd (aV vM)<|Dd (bM AF)<|Dd (by exact IF rfl fU rfl rfl rfl rfl)<|Zz ?_;refine Cn ?_ ?_<;>intro hc1
  ·cases hc1
  refine Sr<|Dd aF<|Dd AJ<|Dd (aV vM)<|Dd (bM AF)<|Dd aF<|Dd (by exact E6 (n:=1) rfl fU (by kernel_rfl) rfl rfl rfl rfl)<|Zz ?_;refine Cn ?_ ?_<;>intro hc2
  ·cases hc2
  refine aD ?_;exact rL (.inl rfl) rfl Fin.refl ⟨rfl,rfl⟩
theorem WB (g:Nat) (l m:List UInt8) {n:Nat} (h:m.length=n):nP (g+1) (l++m) true=[(2001,D1 (.osl 2002 (g+1) 0 (l.length+n)) true),(2002,⟨g+1,1,5,eN (l++m)⟩)]:=by subst h;simp [nP]
theorem Q3 (g:Nat) (l:List UInt8) (u:Bool) (c:UInt8) (hl:l.length < 70368744177664):aI Tryz.prog 115 [.ref 2001 0 0 0,.pv (.int .u8 c.toNat)] (nP g l u) (fun r H'=>r=.pv G8∧H'=nP (g+1) (l++[c]) true):=by refine Bd func115 rfl ntmps115<|Sr<|Dd aN<|Zz<|Sr<|Dd aF<|Dd (by exact aA rfl rfl NC rfl (F1 _ u _))<|Zz<|Sr<|Dd aF<|Dd aF<|Dd AJ<|Dd (aV fX)<|Dd (bM dR)<|Dd aF<|Dd (by exact aR [[.int .u8 c.toNat]] rfl wR rfl rfl rfl rfl rfl (by intro r hr;rw [aOC] at hr;subst hr;rfl))<|Dd (by exact dH (ps:=[[.int .u8 c.toNat]]) rfl wR ei5 rfl rfl rfl rfl rfl (oZ l) rfl (by intro r hr;rw [aOC] at hr;subst hr;rfl) (m:=1) rfl (by omega) rfl (qP l [c]))<|Dd AJ<|Dd (aV fX)<|Uu (by exact bH rfl nR rfl rfl rfl rfl rfl rfl (aOM rfl) rfl rfl)<|Zz<|Sr<|Dd aN<|Zz<|aC ?_;rw [WB g l [c] (n:=1) rfl];refine dY (H':=[(2001,D1 (.osl 2002 (g+1) 0 (l.length+1)) true),(2002,⟨g+1,1,5,eN (l++[c])⟩)]) (.inr rfl) rfl (aY rfl) (Fin.get' (fun j=>FS (by decide) j)) ?_;exact Qq
theorem AY (g:Nat) (l:List UInt8) (u:Bool) (s:ByteArray) (hl:l.length+s.size < 70368744177664):aI Tryz.prog 114 [.ref 2001 0 0 0,sv s] (nP g l u) (fun r H'=>r=.tup [iv (s.size:Int),.pv G8]∧H'=nP (g+1) (l++s.data.toList) true):=by refine Bd func114 rfl ntmps114<|Sr<|Dd aN<|Dd aN<|Zz<|Sr<|Dd aF<|Dd (by exact aA rfl rfl NC rfl (F1 _ u _))<|Zz<|Sr<|Dd aF<|Dd aF<|Dd AJ<|Dd (aV fX)<|Dd (bM dR)<|Dd aF<|Dd (by exact sC rfl wR underlying9 ei5 JG rfl rfl rfl rfl rfl (oZ l) rfl (by omega) rfl (qP l s.data.toList))<|Dd AJ<|Dd (aV fX)<|Uu (by exact bH rfl nR rfl rfl rfl rfl rfl rfl (aOM rfl) rfl rfl)<|Zz<|Sr<|Dd aF<|Dd (lH underlying9)<|Dd aN<|Dd aN<|Zz<|aC ?_;rw [WB g l s.data.toList (n:=s.size) rfl];refine uM (H':=[(2001,D1 (.osl 2002 (g+1) 0 (l.length+s.size)) true),(2002,⟨g+1,1,5,eN (l++s.data.toList)⟩)]) (.inr rfl) rfl (aY rfl) (aY rfl) (Fin.get' (fun j=>FS (by decide) j)) ?_;exact Qq
def WC (g:Nat) (l:List UInt8) (u:Bool):aB:=[(2002,⟨g+1,1,5,[]⟩),(2001,D1 (.osl 2002 g 0 l.length) u)]
theorem aIn (g:Nat) (l:List UInt8) (u:Bool) (hl:l.length < 70368744177664):aI Tryz.prog 116 [.ref 2001 0 0 0] (nP g l u) (fun r H'=>r=sv ⟨l.toArray⟩∧H'=WC g l u):=by
 by_cases h0:l=[]
 ·subst h0;refine Bd aCU rfl WR<|Sr<|Dd aN<|Zz<|Sq<|aO follows<|Cq aF<|Cq AJ<|Cq (aV fX)<|Cq (bM dR)<|Cq (by exact A7 rfl uO rfl rfl rfl)<|Cq aF<|Cq AJ<|Cq (aV fX)<|Cq (bM dR)<|Cq (by exact eE rfl dC rfl rfl rfl)<|Cq (by exact vE rfl rfl rfl)<|Cq aN<|bL<|Kr<|aC ?_;refine dY (H':=(WC g [] u)) (.inr rfl) rfl (aY rfl) (Fin.trans (Fin.deadO (id:=2002) (k:=g+1) (ob:=⟨g,1,5,eN []⟩) rfl (Nat.lt_succ_self g) Nat.zero_lt_one rfl rfl) (Fin.get' (fun j=>J6 (by decide) j))) ?_;exact Qq
 have hpos:0 < l.length:=List.length_pos_iff.2 h0;refine Bd aCU rfl WR<|Sr<|Dd aN<|Zz<|Sq<|aO follows<|Cr [2001] (fun _ _=>aF)<|Cr [2001] (fun H1 hH=>by exact fF rfl rfl ((hH _ rfl).trans rfl) rfl)<|Cr [2001] (fun _ h=>fh fX h)<|Cr [2001] (fun _ h=>lh dR h)<|Cr [2002] (fun H1 hH=>by exact C8 rfl rfl ((hH _ rfl).trans rfl) rfl hpos)<|Cr [2001] (fun _ _=>aF)<|Cr [2001] (fun H1 hH=>by exact fF rfl rfl ((hH _ rfl).trans rfl) rfl)<|Cr [2001] (fun _ h=>fh fX h)<|Cr [2001] (fun _ h=>lh dR h)<|Cr [2002] (fun H1 hH=>by exact eE rfl dC rfl ((hH _ rfl).trans rfl) rfl)<|Cp [2001,2002] (fun H1 hH=>by exact wZ (l:=l) rfl uO (by kernel_rfl) rfl rfl ((hH _ rfl).trans rfl) rfl rfl rfl rfl rfl hpos (by omega) rfl)<|Cr [] (fun _ _=>aN)<|bL<|Kr<|aC ?_;refine dY (H':=(WC g l u)) (.inr rfl) rfl (aY rfl) (Fin.get' (fun j=>J6 (by decide) j)) ?_;exact Qq
theorem aEJ (g:Nat) (l:List UInt8) (u:Bool):aI Tryz.prog 172 [.ref 2001 0 0 0] (nP g l u) (fun r H'=>r=iv (l.length:Int)∧H'=nP g l u):=by refine Bd func172 rfl ntmps172<|Sr<|Dd aN<|Zz<|Sr<|Dd aF<|Dd AJ<|Dd (aV fX)<|Dd (bM dR)<|Dd (by exact eE rfl dC rfl rfl rfl)<|Dd aN<|Zz<|aC ?_;refine dY (H':=(nP g l u)) (.inr rfl) rfl (aY rfl) Fin.refl ?_;exact Qq
def aBQ (l:List UInt8) (s:ByteArray):List UInt8:=if l=[] then s.data.toList else l++32::s.data.toList
theorem aLB (g:Nat) (l:List UInt8) (u:Bool) (s:ByteArray) (hl:l.length+s.size < 70368744177663):aI Tryz.prog 240 [.ref 2001 0 0 0,sv s] (nP g l u) (fun r H'=>r=.tup []∧H'=nP (if l=[] then g+1 else g+2) (aBQ l s) true):=by
 have hB:=Q3 g l u 32 (by omega);have hL:=aEJ g l u;rw [aBQ];by_cases h0:l=[]
 ·subst h0;have hS:=AY g [] u s (by omega);rw [aNy rfl,aNy rfl];rw [List.nil_append] at hS;refine Bd func240 rfl ntmps240<|Sq<|Sr<|Dd aF<|Dd AJ<|Dd (aV nB)<|Dd (by exact aA rfl rfl wJ rfl (hL))<|Dd jE<|Zz ?_;refine Cn ?_ ?_<;>intro hc1
  ·cases hc1
  refine aD<|Rg<|Dd aF<|Dd AJ<|Dd (aV nB)<|Dd aF<|Dd (by exact aA rfl rfl mK rfl (hS))<|Zz ?_;exact rL (H':=nP (g+1) s.data.toList true) (.inl rfl) rfl Fin.refl ⟨rfl,rfl⟩
 have hpos:0 < l.length:=List.length_pos_iff.2 h0;have hS:=AY (g+1) (l++[32]) true s (by rw [aOA,List.length_singleton];omega);rw [aNx h0,aNx h0];rw [List.append_assoc] at hS;refine Bd func240 rfl ntmps240<|Sq<|Sr<|Dd aF<|Dd AJ<|Dd (aV nB)<|Dd (by exact aA rfl rfl wJ rfl (hL))<|Dd jE<|Zz ?_;refine Cn ?_ ?_<;>intro hc1
 ·refine Rg<|Dd aF<|Dd AJ<|Dd (aV nB)<|Dd (by exact aA rfl rfl kJ rfl (hB))<|Zz<|Rg<|Dd aF<|Dd AJ<|Dd (aV nB)<|Dd aF<|Dd (by exact aA rfl rfl mK rfl (hS))<|Zz ?_;exact rL (H':=nP (g+2) (l++32::s.data.toList) true) (.inl rfl) rfl Fin.refl ⟨rfl,rfl⟩
 have:=aNw hc1;omega
theorem aIm {g:Nat} {l:List UInt8} {u:Bool} {K:aB}:Sub (nP g l u) (nP g l u++K):=by intro j o h;rw [fP,h]
theorem aLe {g g':Nat} {l l':List UInt8} {u u':Bool} {id:Nat} (h:(aB.get (nP g l u) id).isSome=true):(aB.get (nP g' l' u') id).isSome=true:=aAT h
theorem aLj {g g':Nat} {l l':List UInt8} {u u':Bool} {K:aB} (j:Nat):aB.get (nP g l u++(nP g' l' u'++K)) j=aB.get (nP g l u++K) j:=by show aB.get ((2001,_)::(2002,_)::(2001,_)::(2002,_)::K) j=aB.get ((2001,_)::(2002,_)::K) j;exact(FS (by decide) j).symm
theorem aDY (K:aB) (g:Nat) (l:List UInt8) (u:Bool) (s:ByteArray) (hl:l.length+s.size < 70368744177663):aI Tryz.prog 240 [.ref 2001 0 0 0,sv s] (nP g l u++K) (fun r H'=>r=.tup []∧H'=nP (if l=[] then g+1 else g+2) (aBQ l s) true++K) :=(aI.frame (aLB g l u s hl) aIm (eG.ofL ⟨(by exact M0 rfl rfl),(by exact eK _ _),trivial⟩) (by simp;rfl) (fun id h=>.inl (aLe h))).congrH fun j=>(aLj j).symm
theorem J3 (K:aB) (g:Nat) (l:List UInt8) (u:Bool):aI Tryz.prog 172 [.ref 2001 0 0 0] (nP g l u++K) (fun r H'=>r=iv (l.length:Int)∧H'=nP g l u++K) :=(aI.frame (aEJ g l u) aIm (eG.ofL ⟨(by exact M0 rfl rfl),(by exact eK _ _),trivial⟩) (by simp;rfl) (fun id h=>.inl h)).congrH fun j=>(aLj j).symm
def BI (c:UInt8):Option UInt8:=if c=92 then some 92 else if c=34 then some 34 else if c=110 then some 10 else none
def pD:List UInt8→Option (List UInt8×Nat)
 | []=>none
 | [c]=>if c=34 then some ([],1)else none
 | c::e::r=>if c=34 then some ([],1)else if c=10 then none else if c=92 then(BI e).bind fun b=>(pD r).map fun p=>(b::p.1,p.2+2)else(pD (e::r)).map fun p=>(c::p.1,p.2+1)
def zB (s:ByteArray):ByteArray×Int:=match pD (s.data.toList.drop 1)with
 | some (d,n)=>(⟨d.toArray⟩,((n+1:Nat):Int))
 | none=>(sNil,0)
theorem KH {r:List UInt8}:pD (34::r)=some ([],1):=by cases r<;>rfl
theorem aAt {r:List UInt8}:pD (10::r)=none:=by cases r<;>rfl
theorem JK {r:List UInt8} {e:UInt8}:pD (92::e::r)=(BI e).bind fun b=>(pD r).map fun p=>(b::p.1,p.2+2):=rfl
theorem KI {c:UInt8} {r:List UInt8} (h1:c≠34) (h2:c≠10) (h3:c≠92):pD (c::r)=(pD r).map fun p=>(c::p.1,p.2+1):=by
 cases r with
 | nil =>
  show (if c=34 then some ([],1)else none)=_;rw [aNx h1];rfl
 | cons e r=>rw [pD,aNx h1,aNx h2,aNx h3]
def IA (o:Option (List UInt8×Nat)) (w:List UInt8) (i:Nat):ByteArray×Int:=match o with
 | some (d,n)=>(⟨(w++d).toArray⟩,((i+n:Nat):Int))
 | none=>(sNil,0)
theorem OS {o:Option (List UInt8×Nat)} {w:List UInt8} {b:UInt8} {i k:Nat}:IA (o.map fun p=>(b::p.1,p.2+k)) w i=IA o (w++[b]) (i+k):=by
 cases o with
 | none=>rfl
 | some p=>simp only [IA,Option.map_some,List.append_assoc,List.singleton_append];congr 2;omega
theorem FZ {s:ByteArray} {i:Nat} (h:i < s.size):s.data.toList.drop i=vP s i::s.data.toList.drop (i+1):=by
 have hk:i < s.data.toList.length:=by simpa using h
 rw [List.drop_eq_getElem_cons hk,vP,aOE hk];rfl
theorem VO {s:ByteArray} {i:Nat} (h:s.size≤i):s.data.toList.drop i=[]:=List.drop_eq_nil_of_le (by simpa using h)
theorem JD {s:ByteArray} {i n:Nat} (hn:n < 256) {b:Bool} (h:decide (dB s i=(n:Int))=b):decide (vP s i=UInt8.ofNat n)=b:=by rw [← h,uH,KK hn]
theorem aCj (c:UInt8):(Lib.indexByte (⟨#[92,34,110]⟩:ByteArray).data.toList ((c.toNat:Int).toNat.toUInt8) = -1∧BI c=none)∨∃ k:Nat,k < 3∧Lib.indexByte (⟨#[92,34,110]⟩:ByteArray).data.toList ((c.toNat:Int).toNat.toUInt8)=(k:Int)∧BI c=some (vP ⟨#[92,34,10]⟩ k):=by
 have h0:((c.toNat:Int).toNat.toUInt8)=c:=by simp
 rw [h0];by_cases h1:c=92
 ·subst h1;exact .inr ⟨0,by decide,by decide,by decide⟩
 by_cases h2:c=34
 ·subst h2;exact .inr ⟨1,by decide,by decide,by decide⟩
 by_cases h3:c=110
 ·subst h3;exact .inr ⟨2,by decide,by decide,by decide⟩
 refine .inl ⟨?_,by rw [BI,aNx h1,aNx h2,aNx h3]⟩;have e1:((92:UInt8) == c)=false:=by simp [Ne.symm h1]
 have e2:((34:UInt8) == c)=false:=by simp [Ne.symm h2]
 have e3:((110:UInt8) == c)=false:=by simp [Ne.symm h3]
 simp only [Lib.indexByte,e1,e2,e3];rfl
theorem WX (s:ByteArray) (H:aB) (hs:s.size < 1099511627776):aI Tryz.prog 244 [sv s] H (fun r H'=>r=.tup [sv (zB s).1,iv (zB s).2]∧H'=H):=by
 refine Pu ?_;have hG:zB s=IA (pD (s.data.toList.drop 1)) [] 1:=by
  unfold zB IA;cases pD (s.data.toList.drop 1)with
  | none=>rfl
  | some p =>
   show ((⟨p.1.toArray⟩:ByteArray),((p.2+1:Nat):Int))=((⟨([]++p.1).toArray⟩:ByteArray),((1+p.2:Nat):Int));rw [List.nil_append,Nat.add_comm]
 obtain ⟨res,hres⟩:∃ res,res=zB s:=⟨_,rfl⟩;rw [← hres] at hG ⊢;refine Bd func244 rfl ntmps244<|Sr<|Dd aN<|Dd aN<|Zz<|Sr<|Dd (by exact bU (id:=2001) rfl GL rfl rfl)<|Zz<|Sq<|Sq ?_;refine gK.ent (E':=[(0,sv s),(4,.ref 2001 0 0 0)]) (H':=uR 0 [] false) (cY.bld0 ⟨⟨_,rfl,.same (by simp)⟩,⟨_,rfl,.same (by simp;rfl)⟩,trivial⟩) ?_;refine Rg<|Dd aN<|Zz<|aG ?_;refine QU (fun(i g:Nat) (w:List UInt8) (u:Bool)=>([(0,sv s),(4,.ref 2001 0 0 0),(5,iv (i:Int))],uR g w u)) (fun i g w u=>w.length≤i∧i < 2199023255552∧res=IA (pD (s.data.toList.drop i)) w i) (fun i g w u=>s.size+1 - i) 1 0 [] false ⟨aOQ _,by decide,hG⟩ ?_ ?_
 ·exact(cY.wk (Eb<|Ea<|Eb<|trivial) (Hc (fS rfl rfl)<|Hc (eK _ _)<|trivial) trivial)
 rintro i g w u ⟨hwl,hib,hinv⟩;refine Sq<|Sr<|Dd aF<|Dd aF<|Dd (lH underlying9)<|Dd dK<|Zz ?_;refine Cn ?_ ?_<;>intro hc1
 ·have hlt:i < s.size:=by have:=aNv hc1;omega
  have hd:=FZ hlt;refine aD<|Sq<|aG<|Sr<|Dd aF<|Dd aF<|Dd (by exact dV rfl underlying9 rfl rfl (by omega) (by exact aOK _) (by omega) rfl)<|Dd aN<|Zz<|Sr<|Dd aF<|Zz<|aG<|Sr<|Dd cT<|Da ?_;refine Cn ?_ ?_<;>intro hc2
  ·have hb:vP s i=34:=aNv (JD (n:=34) (by decide) hc2);have hr:res=(⟨w.toArray⟩,((i+1:Nat):Int)):=by rw [hinv,hd,hb,KH,IA,List.append_nil]
   rw [hr];exact Sr<|Dd (by exact aA rfl rfl mJ rfl (O0 g w u (by omega)))<|Dd aF<|Dd lR<|Dd aN<|Dd aN<|Zz<|aC<|Ru<|Qq
  have hb34:vP s i≠34:=aNw (JD (n:=34) (by decide) hc2);refine Sr<|Dd cT<|Da ?_;refine Cn ?_ ?_<;>intro hc3
  ·have hb:vP s i=10:=aNv (JD (n:=10) (by decide) hc3);have hr:res=(sNil,0):=by rw [hinv,hd,hb,aAt,IA]
   rw [hr];exact Sr<|Dd aN<|Dd aN<|Zz<|aC<|Ru<|Qq
  have hb10:vP s i≠10:=aNw (JD (n:=10) (by decide) hc3);refine Sr<|Dd cT<|Da ?_;refine Cn ?_ ?_<;>intro hc4
  ·have hb:vP s i=92:=aNv (JD (n:=92) (by decide) hc4);refine Sr<|Dd aF<|Dd lR<|Dd aN<|Zz<|Sr<|Dd aN<|Zz<|Sq<|Sr<|Dd aF<|Dd aF<|Dd (lH underlying9)<|Dd dK<|Zz ?_;refine Cn ?_ ?_<;>intro hc5
   ·have hlt2:i+1 < s.size:=by have:=aNv hc5;omega
    have hd2:=FZ hlt2;rcases aCj (vP s (i+1))with⟨x1,x2⟩|⟨q,hq,x1,x2⟩
    ·have hr:res=(sNil,0):=by rw [hinv,hd,hb,hd2,JK,x2];rfl
     have hneg:Lib.indexByte (⟨#[92,34,110]⟩:ByteArray).data.toList (dB s (i+1)).toNat.toUInt8 = -1:=x1;rw [hr];refine Rg<|Dd aF<|Dd aF<|Dd (by exact dV rfl underlying9 rfl rfl (by omega) (by exact aOK _) (by omega) rfl)<|Dd (by exact aA rfl rfl wL rfl (oX _ _ _))<|Dd aN<|Zz<|Sq<|Sr<|Dd aF<|Dd dK<|Zz ?_;refine Cn ?_ ?_<;>intro hc6
     ·exact Sr<|Dd aN<|Dd aN<|Zz<|aC<|Ru<|Qq
     exact absurd (aNw hc6) (by rw [hneg];decide)
    have hpos:Lib.indexByte (⟨#[92,34,110]⟩:ByteArray).data.toList (dB s (i+1)).toNat.toUInt8=(q:Int):=x1;have hq3:q < (⟨#[92,34,10]⟩:ByteArray).size:=hq;refine Rg<|Dd aF<|Dd aF<|Dd (by exact dV rfl underlying9 rfl rfl (by omega) (by exact aOK _) (by omega) rfl)<|Dd (by exact aA rfl rfl wL rfl (oX _ _ _))<|Dd aN<|Zz<|Sq<|Sr<|Dd aF<|Dd dK<|Zz ?_;refine Cn ?_ ?_<;>intro hc7
    ·exact absurd (aNv hc7) (by rw [hpos];omega)
    refine aD<|Rg<|Dd aF<|Dd (by exact dV rfl underlying9 rfl rfl (by rw [hpos];omega) (by rw [hpos];exact aOK _) hq3 rfl)<|Dd (by exact aA rfl rfl kJ rfl (iI g w u (vP ⟨#[92,34,10]⟩ q) (by omega)))<|Zz<|Rg<|Dd aF<|Dd lR<|Da ?_;refine⟨i+1+1,g+1,w++[vP ⟨#[92,34,10]⟩ q],true,⟨by rw [aOA,List.length_singleton];omega,by omega,?_⟩,by omega,(cY.wk (Eb<|Ea<|Eb<|trivial) (Hc (fS rfl rfl)<|Hc (eK _ _)<|trivial) trivial)⟩;rw [hinv,hd,hb,hd2,JK,x2];exact OS
   have hge:s.size≤i+1:=by have:=aNw hc5;omega
   have hr:res=(sNil,0):=by rw [hinv,hd,hb,VO hge];rfl
   rw [hr];refine aD<|Sq<|Sr<|Dd aF<|Dd dK<|Zz ?_;refine Cn ?_ ?_<;>intro hc8
   ·exact Sr<|Dd aN<|Dd aN<|Zz<|aC<|Ru<|Qq
   cases hc8
  have hb92:vP s i≠92:=aNw (JD (n:=92) (by decide) hc4);refine Rg<|Dd aF<|Dd (by exact aA rfl rfl kJ rfl (iI g w u (vP s i) (by omega)))<|Zz<|Rg<|Dd aF<|Dd lR<|Da ?_;refine⟨i+1,g+1,w++[vP s i],true,⟨by rw [aOA,List.length_singleton];omega,by omega,?_⟩,by omega,(cY.wk (Eb<|Ea<|Eb<|trivial) (Hc (fS rfl rfl)<|Hc (eK _ _)<|trivial) trivial)⟩;rw [hinv,hd,KI hb34 hb10 hb92,OS]
 have hge:s.size≤i:=by have:=aNw hc1;omega
 have hr:res=(sNil,0):=by rw [hinv,VO hge];rfl
 rw [hr];exact bC<|Sr<|Dd aN<|Dd aN<|Zz<|aC<|Ru<|Qq
def sT (s:ByteArray) (i:Nat):Int:=if i < s.size then BX (dB s i)else 0
def tS (s:ByteArray):Ob:=bx 1 9 [sv s]
def tC:Ob:=bx 256 160 rU
def tA:Ob:=bx 1 250 [.clo 242 [.ref 921 0 0 0,.ref 923 0 0 0]]
theorem aKI (s:ByteArray) (i:Nat) (H:aB) (h1:H.get 921=some (tS s)) (h2:H.get 923=some tC) (hi:i < 4611686018427387904) (hs:s.size < 4611686018427387904) :
  aI Tryz.prog 242 [iv (i:Int),.ref 921 0 0 0,.ref 923 0 0 0] H (fun r H'=>r=.pv (.int .u8 (sT s i))∧H'=H):=by
 refine Bd func242 rfl ntmps242<|Sr<|Dd aN<|Zz<|Sq<|Sr<|Dd aF<|Dd (by exact aK rfl isAgg9 rfl h1 rfl rfl rfl)<|Dd (lH underlying9)<|Dd DT<|Zz ?_;refine Cn ?_ ?_<;>intro hc1
 ·have e:sT s i=0:=by rw [sT,aNx (by have:=aNv hc1;omega)]
  rw [e];refine Sr<|Dd aN<|Zz<|aC ?_;refine dY (H':=H) (.inr rfl) rfl (aY rfl) Fin.refl ?_;exact Qq
 have hlt:i < s.size:=by have:=aNw hc1;omega
 have e:sT s i=BX (dB s i):=by rw [sT,aNy hlt]
 rw [e];refine aD<|Sr<|Dd (by exact aK rfl isAgg9 rfl h1 rfl rfl rfl)<|Dd aF<|Dd (by exact dV rfl underlying9 rfl rfl (by omega) (by exact aOK _) (by omega) rfl)<|Dd (by exact eH (m:=(dB s i).toNat) (k2:=(dB s i).toNat) rfl fD cG rfl h2 rfl rfl (CP s i) rfl (CQ s i) (by omega))<|Dd (by exact aK rfl AN rfl h2 rfl rfl (aIV s i))<|Dd aN<|Zz<|aC ?_;refine dY (H':=H) (.inr rfl) rfl (aY rfl) Fin.refl ?_;exact Qq
theorem TN (s:ByteArray) (H:aB) (h1:H.get 921=none) (h2:H.get 923=none) (h3:H.get 924=none) (hc:eG H) :
  aI Tryz.prog 204 [sv s] H (fun r H'=>r=.clo 243 [.ref 921 0 0 0,.ref 924 0 0 0]∧H'=(924,tA)::(923,tC)::(921,tS s)::H):=by
 have h2':aB.get ((921,tS s)::H) 923=none:=h2;refine Bd func204 rfl ntmps204<|Sr<|Dd (by exact cH (id:=921) rfl rfl rfl rfl h1)<|Dd aN<|Zz<|Sr<|Dd (by exact aA rfl rfl call127 rfl (QO _))<|Dd (by exact bU (id:=923) rfl ZA rfl h2)<|Uu (by exact cJ rfl wE rfl rfl rfl rfl rfl rfl rfl (by simp))<|Zz<|Sr<|Dd (by exact gC rfl rfl)<|Dd (by exact bU (id:=924) rfl aK7 rfl h3)<|Uu (kQ sizeOf250)<|Zz<|Sr<|Dd (by exact gC rfl rfl)<|Dd aN<|Zz<|aC ?_;refine dY (H':=((924,tA)::(923,tC)::(921,tS s)::H)) (.inr rfl) rfl (aY rfl) (Fin.get' (fun j=>by simp only [aB.get];cases Nat.beq 924 j<;>cases Nat.beq 923 j<;>rfl)) ?_;exact Qq
def uT (p:Nat→Bool):Nat→Nat→Nat
 | 0,i=>i
 | n+1,i=>if p i then uT p n (i+1)else i
theorem EQ (p:Nat→Bool):∀ (n i:Nat),i≤uT p n i∧uT p n i≤i+n
 | 0,i=>⟨aOF _,aOF _⟩
 | n+1,i=>by
  rw [uT]
  split
  ·have:=EQ p n (i+1);omega
  omega
theorem ES (p:Nat→Bool):∀ (n i:Nat),∀ j,i≤j→j < uT p n i→p j=true
 | 0,i,j,h1,h2=>by rw [uT] at h2;omega
 | n+1,i,j,h1,h2=>by
  rw [uT] at h2
  split at h2
  ·by_cases e:j=i
   ·subst e;assumption
   exact ES p n (i+1) j (by omega) h2
  omega
theorem wT (p:Nat→Bool):∀ (n i:Nat),uT p n i < i+n→p (uT p n i)=false
 | 0,i,h=>by rw [uT] at h;omega
 | n+1,i,h=>by
  rw [uT] at h ⊢
  split at h
  ·rename_i hp;rw [aNy hp];exact wT p n (i+1) (by omega)
  rename_i hp;rw [aNx hp];exact Bool.not_eq_true _▸hp
theorem ER (p:Nat→Bool) {n i j:Nat} (h1:i≤j) (h2:j≤i+n) (h3:∀ k,i≤k→k < j→p k=true) (h4:p j=false∨j=i+n):uT p n i=j:=by
 obtain ⟨l1,l2⟩:=EQ p n i;rcases Nat.lt_trichotomy (uT p n i) j with h|h|h
 ·have:=wT p n i (by omega);rw [h3 _ l1 h] at this;cases this
 ·exact h
 have:=ES p n i j h1 h;rcases h4 with h4|h4
 ·rw [h4] at this;cases this
 omega
def LF (s:ByteArray) (j:Nat):Bool:=decide (j < s.size)&&!decide (dB s j=10)
def A6 (s:ByteArray) (j:Nat):Bool:=decide (sT s j=3)||decide (sT s j=4)||decide (sT s j=5)
def aBW (s:ByteArray) (j:Nat):Bool:=decide (sT s j=4)
def SB (s:ByteArray) (i:Nat):Nat:=uT (LF s) (s.size - i) i
def JI (s:ByteArray) (i:Nat):Nat:=uT (A6 s) (s.size - i) i
def SN (s:ByteArray) (i:Nat):Nat:=uT (aBW s) (s.size - i) i
structure GFound where
 kind:Int
 text:ByteArray
 pos:Nat
 err:Int
def FX (f:GFound):List PV:=[.int .i64 f.kind,.str f.text,.int .i64 f.pos,.int .i64 f.err]
def tR (i:Nat):GFound:=⟨0,sNil,i,3⟩
def DU (s:ByteArray) (i j:Nat):GFound:=⟨1,s.extract i j,i,if 24 < j - i then 2 else 0⟩
def MK (s:ByteArray) (i j:Nat):GFound:=⟨2,s.extract i j,i,if decide (7 < j - i)||decide (sT s j=3)||decide (sT s j=5)then 4 else 0⟩
def OB (s:ByteArray) (i:Nat):GFound×Nat:=if 0 < (zB (s.extract i s.size)).2 then(⟨3,(zB (s.extract i s.size)).1,i,0⟩,i+(zB (s.extract i s.size)).2.toNat)else(tR i,i)
def iP (s:ByteArray) (i:Nat):Option GFound×Nat :=if sT s i=1 then(none,i+1)else if sT s i=2 then(none,SB s i)else if sT s i=3 then(some (DU s i (JI s i)),JI s i)
 else if sT s i=4 then(some (MK s i (SN s i)),SN s i)else if sT s i=7 then(some (OB s i).1,(OB s i).2)
 else if sT s i=6 then(some ⟨4,s.extract i (i+1),i,0⟩,i+1)else(some (tR i),i)
def mT (s:ByteArray):Nat→Nat→List GFound
 | 0,_=>[]
 | n+1,i=>if i < s.size then(match iP s i with
  | (none,j)=>mT s n j
  | (some f,j)=>f::(if f.err=0 then mT s n j else[]))else[]
theorem KJ:∀ (l:List UInt8) (p:List UInt8×Nat),pD l=some p→p.2≤l.length
 | [],p,h=>by cases h
 | [c],p,h=>by
  rw [pD] at h
  split at h
  ·cases h;exact aOF _
  cases h
 | c :: e :: r, p, h => by
  rw [pD] at h
  split at h
  ·cases h;exact Nat.le_add_left _ _
  split at h
  ·cases h
  split at h
  ·cases hg:BI e with
   | none=>rw [hg] at h;cases h
   | some b =>
    rw [hg] at h;cases hu:pD r with
    | none=>rw [hu] at h;cases h
    | some q =>
     rw [hu] at h;cases h;have:=KJ r q hu;show q.2+2≤r.length+1+1;omega
  cases hu:pD (e::r)with
  | none=>rw [hu] at h;cases h
  | some q =>
   rw [hu] at h;cases h;have:=KJ (e::r) q hu;show q.2+1≤r.length+1+1;rw [aOB] at this;omega
theorem U6 (s:ByteArray):0≤(zB s).2∧(zB s).2≤s.size:=by
 have hl:s.data.toList.length=s.size:=by simp
 unfold zB;cases hu:pD (s.data.toList.drop 1)with
 | none=>exact⟨Int.le_refl _,Int.natCast_nonneg _⟩
 | some p =>
  have:=KJ _ p hu;rw [aOO,hl] at this;refine⟨Int.natCast_nonneg _,?_⟩;show ((p.2+1:Nat):Int)≤_;have h0:0 < s.size:=by
   cases h0:s.data.toList with
   | nil=>rw [h0] at hu;cases hu
   | cons a l=>rw [h0] at hl;rw [← hl];exact Nat.succ_pos _
  omega
theorem QV (s:ByteArray) (i:Nat) (h:sT s i≠0):i < s.size:=by
 by_cases e:i < s.size
 ·exact e
 exact absurd (aNx e) h
def tF (f:GFound):Ob:=bx 4 223 ((FX f).map .pv)
theorem vS (H:aB) (f:GFound):∀ r∈(tF f).rows,∀ a∈r,Clo H a:=by intro r hr a ha;simp only [tF,bx,aOC] at hr;subst hr;obtain ⟨p,_,rfl⟩:=List.mem_map.1 ha;simp
theorem MG {α:Type} {l m:List α} {k:Nat} {d:α} (h:l.drop k=d::m):l[k]?=some d∧l.drop (k+1)=m:=by
 refine⟨?_,?_⟩
 ·have:=congrArg (·[0]?) h
  simpa using this
 rw [← List.drop_drop,h];rfl
theorem aGC {s:ByteArray} {i j:Nat} {f:GFound} (h:iP s i=(some f,j)) (he:f.err=0) (hi:i < s.size):i < j∧j≤s.size:=by
 have hfirst:∀ (p:Nat→Bool),p i=true→i < uT p (s.size - i) i∧uT p (s.size - i) i≤s.size:=fun p hp=>by
  obtain ⟨l1,l2⟩:=EQ p (s.size - i) i;refine⟨?_,by omega⟩;rcases Nat.lt_or_ge i (uT p (s.size - i) i)with h|h
  ·exact h
  have h3:=wT p (s.size - i) i (by omega);rw [show uT p (s.size - i) i=i by omega,hp] at h3;cases h3
 unfold iP at h
 split at h
 ·cases h
 split at h
 ·cases h
 split at h
 ·rename_i e3;cases h;exact hfirst _ (by rw [A6,e3];rfl)
 split at h
 ·rename_i e4;cases h;exact hfirst _ (by rw [aBW,e4];rfl)
 split at h
 ·have hul:=U6 (s.extract i s.size);have hexs:(s.extract i s.size).size≤s.size - i:=by rw [ByteArray.size_extract];omega
  unfold OB at h
  split at h
  ·rename_i hpos;cases h;show i < i+(zB (s.extract i s.size)).2.toNat∧i+(zB (s.extract i s.size)).2.toNat≤s.size;omega
  cases h;cases he
 split at h
 ·cases h;exact⟨Nat.lt_succ_self _,hi⟩
 cases h;cases he
theorem ltD {i n:Nat} (h:decide ((i:Int) < (n:Int))=true):i < n:=by have:=aNv h;omega
theorem GO (s:ByteArray) (fv:AV) (Hs:Nat→aB) (cont:Nat→Bool) (m:Nat) (hs:s.size < 1099511627776) (h1:∀ k,(Hs k).get 921=some (tS s)) (h2:∀ k,(Hs k).get 923=some tC) (h3:∀ k,(Hs k).get 924=some tA) (h6:∀ k,(Hs k).get 926=none) (hcl:∀ k,eG (Hs k)) (hf:∀ k,Clo (Hs k) fv)
  (hm:m≤(mT s (s.size+1) 0).length) (hall:∀ k,k+1 < m→cont k=true) (hend:m=(mT s (s.size+1) 0).length∨(0 < m∧cont (m - 1)=false))
  (hy:∀ k d,(mT s (s.size+1) 0)[k]?=some d→k < m→dD Tryz.prog fv [.agg ((FX d).map .pv)] ((926,tF d)::Hs k) (fun r H'=>r=bv (cont k)∧H'=(926,tF d)::Hs (k+1))) :
  aI Tryz.prog 243 [fv,.ref 921 0 0 0,.ref 924 0 0 0] (Hs 0) (fun r H'=>r=.tup []∧H'=Hs m):=by
 obtain ⟨ds,hds⟩:∃ ds,ds=mT s (s.size+1) 0:=⟨_,rfl⟩;rw [← hds] at hy hm hend;have hat:∀ (k i:Nat) (f:GFound),i≤s.size+1→dD Tryz.prog (.clo 242 [.ref 921 0 0 0,.ref 923 0 0 0]) [iv (i:Int)] ((926,tF f)::Hs k) (fun r H'=>r=.pv (.int .u8 (sT s i))∧H'=(926,tF f)::Hs k):=fun k i f hi =>
  dD.clo call242 (aKI s i ((926,tF f)::Hs k) (h1 k) (h2 k) (by omega) (by omega))
 have hfree:∀ (G0:aB) (k i:Nat) (E:cB) (o:Ob),G0=Hs 0→E.get 0=some fv→E.get 1=some (.ref 921 0 0 0)→E.get 2=some (.ref 924 0 0 0)→E.get 4=some (iv (i:Int)) →
   cY G0 E ((926,o)::Hs k) [(0,fv),(1,.ref 921 0 0 0),(2,.ref 924 0 0 0),(4,iv (i:Int))] (Hs k):=fun G0 k i E o hG q0 q1 q2 q4=>by
  subst hG;exact cY.front (K:=Hs k) [(926,o)] [] ⟨⟨_,q0,rfl⟩,hf k,⟨_,q1,rfl⟩,(by rw [qW];show ((Hs k).get 921).isSome=true;rw [h1];rfl),⟨_,q2,rfl⟩,(by rw [qW];show ((Hs k).get 924).isSome=true;rw [h3];rfl),⟨_,q4,rfl⟩,(by simp),trivial⟩ (by simp [h6]) (by simp) (by simp) (hcl k) (by simp [h6])
 refine Bd func243 rfl ntmps243<|aCH<|Sr<|Dd aN<|Zz<|Sq<|aCI<|aG ?_;refine jI (fun(i k:Nat)=>([(0,fv),(1,.ref 921 0 0 0),(2,.ref 924 0 0 0),(4,iv (i:Int))],Hs k)) (fun i k=>i≤s.size∧k≤m∧(k=0∨cont (k - 1)=true)∧∃ n,s.size - i < n∧ds.drop k=mT s n i) (fun i k=>s.size - i) 0 0 ⟨aOQ _,aOQ _,.inl rfl,s.size+1,Nat.lt_succ_self _,by rw [List.drop_zero,hds]⟩ ?_ ?_
 ·exact E0
 rintro i k ⟨hi,hkm,hkc,n,hn,hinv⟩;refine Sq<|Sr<|Dd aF<|Dd (by exact aK rfl isAgg9 rfl (h1 k) rfl rfl rfl)<|Dd (lH underlying9)<|Dd dK<|Zz ?_;refine Cn ?_ ?_<;>intro hc1
 ·have hlt:i < s.size:=by have:=aNv hc1;omega
  obtain ⟨n,rfl⟩:∃ n',n=n'+1:=⟨n - 1,by omega⟩;rw [mT,aNy hlt] at hinv;refine aD<|aG<|Sr<|Dd aF<|Dd aN<|Zz<|Sr<|Dd aF<|Dd (uQ aIZ)<|Dd (uQ aLv)<|Dd (by exact bU (id:=926) rfl aC6 rfl (h6 k))<|Uu (kQ D9)<|Zz ?_;refine gT (fun(a:GFound×Nat)=>([(0,fv),(1,.ref 921 0 0 0),(2,.ref 924 0 0 0),(4,iv (a.2:Int)),(6,.ref 926 0 0 0)],(926,tF a.1)::Hs k)) (fun a=>iP s i=(some a.1,a.2)) ?_ ?_
  ·refine Sq ?_;refine gK.ent (E':=[(0,fv),(1,.ref 921 0 0 0),(2,.ref 924 0 0 0),(4,iv (i:Int)),(5,iv (i:Int)),(6,.ref 926 0 0 0)]) (H':=(926,tF (tR i))::Hs k) (cY.get' ⟨⟨_,rfl,rfl⟩,⟨_,rfl,rfl⟩,⟨_,rfl,rfl⟩,⟨_,rfl,rfl⟩,⟨_,rfl,rfl⟩,⟨_,rfl,rfl⟩,trivial⟩ (fun j=>vL 926 (tF (tR i)) _ (Hs k) j)) ?_;refine Rg<|Dd (by exact aK rfl H4 rfl (h3 k) rfl rfl rfl)<|Dd aF<|Dd (by exact cR rfl rfl rfl (hat k i (tR i) (by omega)))<|Zz<|aG<|Sr<|Dd cT<|Da ?_;refine Cn ?_ ?_<;>intro hc2
   ·have e1:sT s i=1:=aNv hc2;have hst:iP s i=(none,i+1):=by rw [iP,aNy e1]
    rw [hst] at hinv;refine Sr<|Dd aF<|Dd lR<|Dd aN<|Zz<|bC ?_;exact⟨i+1,k,⟨by omega,hkm,hkc,n,by omega,hinv⟩,by omega,hfree _ _ _ _ _ rfl rfl rfl rfl rfl⟩
   have n1:sT s i≠1:=aNw hc2;refine Sr<|Dd cT<|Da ?_;refine Cn ?_ ?_<;>intro hc3
   ·have e2:sT s i=2:=aNv hc3;have hst:iP s i=(none,SB s i):=by rw [iP,aNx n1,aNy e2]
    rw [hst] at hinv;refine Sq<|aG ?_;refine bT (σ:=Nat) (fun j=>([(0,fv),(1,.ref 921 0 0 0),(2,.ref 924 0 0 0),(4,iv (j:Int))],(926,tF (tR i))::Hs k)) (fun j=>i≤j∧j≤s.size∧∀ q,i≤q→q < j→LF s q=true) (fun j=>s.size - j) i ⟨aOF _,hi,fun q h1 h2=>by omega⟩ ?_ ?_
    ·exact E0
    rintro j ⟨hij,hj,hpre⟩;refine Sq<|Sq ?_;refine bA (t:=37) (n:=11) (X:=LF s j) ?_ ?_
    ·all_goals refine Dd aF ?_
     all_goals refine Dd (by exact aK rfl isAgg9 rfl (h1 k) rfl rfl rfl)<|Dd (lH underlying9)<|Dd dK<|Dm ?_
     all_goals refine Sp 32 (fun h32=>?_) fun h32=>?_
     all_goals try contradiction
     all_goals first|refine Fo<|Fo<|Fo<|Fo ?_|refine On (by exact aK rfl isAgg9 rfl (h1 k) rfl rfl rfl)<|On aF<|On (by exact dV rfl underlying9 rfl rfl (by omega) (by exact aOK _) (ltD h32) rfl)<|On AI ?_
     all_goals refine Dd cW<|Zz ?_
     all_goals(exact⟨⟨_,rfl,by first|(simp_all [LF];done)|(simp_all [LF];omega)⟩,rfl,rfl,rfl⟩)
    refine Cn ?_ ?_<;>intro hc4
    ·have hjs:j < s.size:=by
      have h:=hc4;rw [LF,aOI,aOG] at h;exact h.1
     refine aD<|aG<|Rg<|Dd aF<|Dd lR<|Da ?_;exact⟨j+1,⟨by omega,by omega,fun q q1 q2=>by
      by_cases e:q=j
      ·subst e;exact hc4
      exact hpre q q1 (by omega)⟩,by omega,E0⟩
    have hle:SB s i=j:=ER _ hij (by omega) hpre (.inl hc4);have hgt:i < j:=by
     rcases Nat.lt_or_ge i j with h|h
     ·exact h
     have hji:j=i:=by omega
     subst hji;rw [LF,decide_eq_true hlt,Bool.true_and,Bool.not_eq_false',aOG] at hc4;rw [sT,aNy hlt,hc4] at e2;exact absurd e2 (by decide)
    rw [hle] at hinv;refine bC<|bC ?_;exact⟨j,k,⟨hj,hkm,hkc,n,by omega,hinv⟩,by omega,hfree _ _ _ _ _ rfl rfl rfl rfl rfl⟩
   have n2:sT s i≠2:=aNw hc3;refine Sr<|Dd cT<|Da ?_;refine Cn ?_ ?_<;>intro hc5
   ·have e3:sT s i=3:=aNv hc5;refine Sq<|Sr<|Dd (by exact aK rfl H4 rfl (h3 k) rfl rfl rfl)<|Dd aF<|Dd (by exact cR rfl rfl rfl (hat k i (tR i) (by omega)))<|Dd aN<|Zz<|aG ?_;refine bT (σ:=Nat) (fun j=>([(0,fv),(1,.ref 921 0 0 0),(2,.ref 924 0 0 0),(4,iv (j:Int)),(5,iv (i:Int)),(6,.ref 926 0 0 0),(7,.pv (.int .u8 (sT s j)))],(926,tF (tR i))::Hs k)) (fun j=>i≤j∧j≤s.size∧∀ q,i≤q→q < j→A6 s q=true) (fun j=>s.size - j) i ⟨aOF _,hi,fun q h1 h2=>by omega⟩ ?_ ?_
    ·exact E0
    rintro j ⟨hij,hj,hpre⟩;refine Sq<|Sq ?_;refine bA (t:=54) (n:=12) (X:=A6 s j) ?_ ?_
    ·all_goals refine Dd aF ?_
     all_goals refine Dd cT<|Dm ?_
     all_goals refine Sp 47 (fun h47=>?_) fun h47=>?_
     all_goals try contradiction
     all_goals first|refine Fo<|Fo ?_|refine On aF<|On cT ?_
     all_goals refine Dd cW<|Dm ?_
     all_goals refine Sp 51 (fun h51=>?_) fun h51=>?_
     all_goals try contradiction
     all_goals first|refine Fo<|Fo ?_|refine On aF<|On cT ?_
     all_goals refine Dd cW<|Zz ?_
     all_goals(exact⟨⟨_,rfl,by(simp only [A6, *];rfl)⟩,rfl,rfl,rfl⟩)
    refine Cn ?_ ?_<;>intro hc6
    ·have hjs:j < s.size:=QV s j (fun e=>by rw [A6,e] at hc6;cases hc6);refine aD<|Sq<|aG<|Rg<|Dd aF<|Dd lR<|Dd aN<|Zz<|Rg<|Dd (by exact aK rfl H4 rfl (h3 k) rfl rfl rfl)<|Dd aF<|Dd (by exact cR rfl rfl rfl (hat k (j+1) (tR i) (by omega)))<|Da ?_;exact⟨j+1,⟨by omega,by omega,fun q q1 q2=>by
      by_cases e:q=j
      ·subst e;exact hc6
      exact hpre q q1 (by omega)⟩,by omega,E0⟩
    have hle:JI s i=j:=ER _ hij (by omega) hpre (.inl hc6);have hst:iP s i=(some (DU s i j),j):=by rw [iP,aNx n1,aNx n2,aNy e3,hle]
    refine bC<|Sq<|aO follows<|Cr [921] (fun H1 hH=>by exact aK rfl isAgg9 rfl ((hH _ rfl).trans (h1 k)) rfl rfl rfl)<|Cr [] (fun _ _=>aF)<|Cr [] (fun _ _=>aF)<|Cr [] (fun H1 hH=>by exact cO (l:=i) (h:=j) rfl underlying9 rfl rfl rfl (by omega) (by omega) rfl)<|Cr [926] (fun _ h=>fh mD h)<|Cr [926] (fun _ h=>fh FV h)<|Cp [926] (fun H1 hH=>by exact bH rfl sizeOf3 rfl rfl rfl ((hH _ rfl).trans rfl) rfl rfl (aOM rfl) rfl rfl)<|Cr [926] (fun _ h=>fh mD h)<|Cr [926] (fun _ h=>fh lA h)<|Cp [926] (fun H1 hH=>by exact bH rfl sizeOf9 rfl rfl rfl ((hH _ rfl).trans rfl) rfl rfl (aOM rfl) rfl rfl)<|Cr [926] (fun _ h=>fh pV h)<|Cp [926] (fun H1 hH=>by exact bH rfl sizeOf41 rfl rfl rfl ((hH _ rfl).trans rfl) rfl rfl (aOM rfl) rfl rfl) ?_;refine bL<|Kr<|Sr<|Dd aF<|Dd aF<|Dd (by exact eQ rfl rfl rfl (show IntKind.i64.wrap ((j:Int) - (i:Int))=((j - i:Nat):Int)by rw [IntKind.wrap_i64];omega))<|Dd jE<|Zz ?_;refine Cn ?_ ?_<;>intro hc7
    ·have hE:DU s i j=⟨1,s.extract i j,i,2⟩:=by rw [DU,aNy (by have:=aNv hc7;omega)]
     rw [hE] at hst;refine Rg<|Dd (aV pV)<|Uu (by exact bH rfl sizeOf41 rfl rfl rfl rfl rfl rfl (aOM rfl) rfl rfl)<|Zz ?_;exact⟨(⟨1,s.extract i j,i,2⟩,j),hst,cY.get' ⟨⟨_,rfl,rfl⟩,⟨_,rfl,rfl⟩,⟨_,rfl,rfl⟩,⟨_,rfl,rfl⟩,⟨_,rfl,rfl⟩,trivial⟩ (fun q=>xN [_,_,_,_] (by simp) q)⟩
    have hE:DU s i j=⟨1,s.extract i j,i,0⟩:=by rw [DU,aNx (by have:=aNw hc7;omega)]
    rw [hE] at hst;refine aD ?_;exact⟨(⟨1,s.extract i j,i,0⟩,j),hst,cY.get' ⟨⟨_,rfl,rfl⟩,⟨_,rfl,rfl⟩,⟨_,rfl,rfl⟩,⟨_,rfl,rfl⟩,⟨_,rfl,rfl⟩,trivial⟩ (fun q=>xN [_,_,_] (by simp) q)⟩
   have n3:sT s i≠3:=aNw hc5;refine Sr<|Dd cT<|Da ?_;refine Cn ?_ ?_<;>intro hc8
   ·have e4:sT s i=4:=aNv hc8;refine Sq<|aG ?_;refine bT (σ:=Nat) (fun j=>([(0,fv),(1,.ref 921 0 0 0),(2,.ref 924 0 0 0),(4,iv (j:Int)),(5,iv (i:Int)),(6,.ref 926 0 0 0)],(926,tF (tR i))::Hs k)) (fun j=>i≤j∧j≤s.size∧∀ q,i≤q→q < j→aBW s q=true) (fun j=>s.size - j) i ⟨aOF _,hi,fun q h1 h2=>by omega⟩ ?_ ?_
    ·exact E0
    rintro j ⟨hij,hj,hpre⟩;refine Sq<|Sr<|Dd (by exact aK rfl H4 rfl (h3 k) rfl rfl rfl)<|Dd aF<|Dd (by exact cR rfl rfl rfl (hat k j (tR i) (by omega)))<|Dd cT<|Zz ?_;refine Cn ?_ ?_<;>intro hc9
    ·have hjs:j < s.size:=QV s j (fun e=>by rw [e] at hc9;cases hc9);refine aD<|aG<|Rg<|Dd aF<|Dd lR<|Da ?_;exact⟨j+1,⟨by omega,by omega,fun q q1 q2=>by
      by_cases e:q=j
      ·subst e;exact hc9
      exact hpre q q1 (by omega)⟩,by omega,E0⟩
    have hle:SN s i=j:=ER _ hij (by omega) hpre (.inl hc9);have hst:iP s i=(some (MK s i j),j):=by rw [iP,aNx n1,aNx n2,aNx n3,aNy e4,hle]
    refine bC<|Sq<|aO follows<|Cr [921] (fun H1 hH=>by exact aK rfl isAgg9 rfl ((hH _ rfl).trans (h1 k)) rfl rfl rfl)<|Cr [] (fun _ _=>aF)<|Cr [] (fun _ _=>aF)<|Cr [] (fun H1 hH=>by exact cO (l:=i) (h:=j) rfl underlying9 rfl rfl rfl (by omega) (by omega) rfl)<|Cr [926] (fun _ h=>fh mD h)<|Cr [926] (fun _ h=>fh FV h)<|Cp [926] (fun H1 hH=>by exact bH rfl sizeOf3 rfl rfl rfl ((hH _ rfl).trans rfl) rfl rfl (aOM rfl) rfl rfl)<|Cr [926] (fun _ h=>fh mD h)<|Cr [926] (fun _ h=>fh lA h)<|Cp [926] (fun H1 hH=>by exact bH rfl sizeOf9 rfl rfl rfl ((hH _ rfl).trans rfl) rfl rfl (aOM rfl) rfl rfl)<|Cr [926] (fun _ h=>fh pV h)<|Cp [926] (fun H1 hH=>by exact bH rfl sizeOf41 rfl rfl rfl ((hH _ rfl).trans rfl) rfl rfl (aOM rfl) rfl rfl) ?_;refine bL<|Kr<|Sq ?_;refine gK.ent (E':=[(0,fv),(1,.ref 921 0 0 0),(2,.ref 924 0 0 0),(4,iv (j:Int)),(5,iv (i:Int)),(6,.ref 926 0 0 0)]) (H':=(926,tF ⟨2,s.extract i j,i,0⟩)::Hs k) (cY.get' ⟨⟨_,rfl,rfl⟩,⟨_,rfl,rfl⟩,⟨_,rfl,rfl⟩,⟨_,rfl,rfl⟩,⟨_,rfl,rfl⟩,⟨_,rfl,rfl⟩,trivial⟩ (fun q=>xN [_,_,_] (by simp) q)) ?_;have h7:decide (7 < ((j - i:Nat):Int))=decide (7 < j - i):=by rw [Bool.eq_iff_iff,aOG,aOG];omega
    refine Rg<|Dd (by exact aK rfl H4 rfl (h3 k) rfl rfl rfl)<|Dd aF<|Dd (by exact cR rfl rfl rfl (hat k j ⟨2,s.extract i j,i,0⟩ (by omega)))<|Dd aN<|Zz<|Sq ?_;refine bA (t:=105) (n:=14) (X:=decide (7 < ((j - i:Nat):Int))||decide (sT s j=3)||decide (sT s j=5)) ?_ ?_
    ·all_goals refine Dd aF ?_
     all_goals refine Dd aF<|Dd (by exact eQ rfl rfl rfl (show IntKind.i64.wrap ((j:Int) - (i:Int))=((j - i:Nat):Int)by rw [IntKind.wrap_i64];omega))<|Dd jE<|Dm ?_
     all_goals refine Sp 98 (fun h98=>?_) fun h98=>?_
     all_goals try contradiction
     all_goals first|refine Fo<|Fo ?_|refine On aF<|On cT ?_
     all_goals refine Dd cW<|Dm ?_
     all_goals refine Sp 102 (fun h102=>?_) fun h102=>?_
     all_goals try contradiction
     all_goals first|refine Fo<|Fo ?_|refine On aF<|On cT ?_
     all_goals refine Dd cW<|Zz ?_
     all_goals(exact⟨⟨_,rfl,by first|(simp_all [A6];done)|(simp_all;omega)⟩,rfl,rfl,rfl⟩)
    refine Cn ?_ ?_<;>intro hc10
    ·have hE:MK s i j=⟨2,s.extract i j,i,4⟩:=by rw [MK,← h7,hc10];rfl
     rw [hE] at hst;refine Rg<|Dd (aV pV)<|Uu (by exact bH rfl sizeOf41 rfl rfl rfl rfl rfl rfl (aOM rfl) rfl rfl)<|Zz ?_;exact⟨(⟨2,s.extract i j,i,4⟩,j),hst,cY.get' ⟨⟨_,rfl,rfl⟩,⟨_,rfl,rfl⟩,⟨_,rfl,rfl⟩,⟨_,rfl,rfl⟩,⟨_,rfl,rfl⟩,trivial⟩ (fun q=>xN [_] (by simp) q)⟩
    have hE:MK s i j=⟨2,s.extract i j,i,0⟩:=by rw [MK,← h7,hc10];rfl
    rw [hE] at hst;refine aD ?_;exact⟨(⟨2,s.extract i j,i,0⟩,j),hst,E0⟩
   have n4:sT s i≠4:=aNw hc8;refine Sr<|Dd cT<|Da ?_;refine Cn ?_ ?_<;>intro hc11
   ·have e7:sT s i=7:=aNv hc11;have hst:iP s i=(some (OB s i).1,(OB s i).2):=by rw [iP,aNx n1,aNx n2,aNx n3,aNx n4,aNy e7]
    have hexs:(s.extract i s.size).size≤s.size - i:=by rw [ByteArray.size_extract];omega
    have hun:=fun H=>WX (s.extract i s.size) H (by omega);have hul:=U6 (s.extract i s.size);obtain ⟨u,hu⟩:∃ u,u=zB (s.extract i s.size):=⟨_,rfl⟩;have hgs:OB s i=if 0 < u.2 then(⟨3,u.1,i,0⟩,i+u.2.toNat)else(tR i,i):=by rw [OB,← hu]
    rw [← hu] at hun hul;obtain ⟨ut,un⟩:=u;simp only at hun hul hgs;refine Sr<|Dd (by exact aK rfl isAgg9 rfl (h1 k) rfl rfl rfl)<|Dd aF<|Dd (by exact cO (l:=i) (h:=s.size) rfl underlying9 rfl rfl rfl (by omega) (by omega) rfl)<|Dd (by exact aA rfl rfl call244 rfl (hun _))<|Dd aF<|Dd fL<|Dd fL<|Dd aN<|Dd aN<|Zz<|Sq<|Sr<|Dd aF<|Dd jE<|Zz ?_;refine Cn ?_ ?_<;>intro hc12
    ·rw [hgs,aNy (aNv hc12)] at hst;refine Rg<|Dd aF<|Dd (aV mD)<|Dd (aV FV)<|Uu (by exact bH rfl sizeOf3 rfl rfl rfl rfl rfl rfl (aOM rfl) rfl rfl)<|Dd (aV mD)<|Dd (aV lA)<|Uu (by exact bH rfl sizeOf9 rfl rfl rfl rfl rfl rfl (aOM rfl) rfl rfl)<|Dd (aV pV)<|Uu (by exact bH rfl sizeOf41 rfl rfl rfl rfl rfl rfl (aOM rfl) rfl rfl)<|Zz<|Rg<|Dd aF<|Dd aF<|Dd (by exact cI rfl rfl rfl (show IntKind.i64.wrap ((i:Int)+un)=((i+un.toNat:Nat):Int)by rw [IntKind.wrap_i64];omega))<|Da ?_;exact⟨(⟨3,ut,i,0⟩,i+un.toNat),hst,cY.get' ⟨⟨_,rfl,rfl⟩,⟨_,rfl,rfl⟩,⟨_,rfl,rfl⟩,⟨_,rfl,rfl⟩,⟨_,rfl,rfl⟩,trivial⟩ (fun q=>xN [_,_,_] (by simp) q)⟩
    have hu0:=aNw hc12;rw [hgs,aNx hu0] at hst;have e0:i+un.toNat=i:=by omega
    refine aD<|Rg<|Dd aF<|Dd aF<|Dd (by exact cI rfl rfl rfl (show IntKind.i64.wrap ((i:Int)+un)=((i+un.toNat:Nat):Int)by rw [IntKind.wrap_i64];omega))<|Da ?_;rw [e0];exact⟨(tR i,i),hst,E0⟩
   have n7:sT s i≠7:=aNw hc11;refine Sr<|Dd cT<|Da ?_;refine Cn ?_ ?_<;>intro hc13
   ·have e6:sT s i=6:=aNv hc13;have hst:iP s i=(some ⟨4,s.extract i (i+1),i,0⟩,i+1):=by rw [iP,aNx n1,aNx n2,aNx n3,aNx n4,aNx n7,aNy e6]
    refine Sr<|Dd aF<|Dd lR<|Dd aN<|Zz<|aO follows<|Cr [921] (fun H1 hH=>by exact aK rfl isAgg9 rfl ((hH _ rfl).trans (h1 k)) rfl rfl rfl)<|Cr [] (fun _ _=>aF)<|Cr [] (fun _ _=>aF)<|Cr [] (fun H1 hH=>by exact cO (l:=i) (h:=(i+1)) rfl underlying9 rfl rfl rfl (by omega) (by omega) rfl)<|Cr [926] (fun _ h=>fh mD h)<|Cr [926] (fun _ h=>fh FV h)<|Cp [926] (fun H1 hH=>by exact bH rfl sizeOf3 rfl rfl rfl ((hH _ rfl).trans rfl) rfl rfl (aOM rfl) rfl rfl)<|Cr [926] (fun _ h=>fh mD h)<|Cr [926] (fun _ h=>fh lA h)<|Cp [926] (fun H1 hH=>by exact bH rfl sizeOf9 rfl rfl rfl ((hH _ rfl).trans rfl) rfl rfl (aOM rfl) rfl rfl)<|Cr [926] (fun _ h=>fh pV h)<|Cp [926] (fun H1 hH=>by exact bH rfl sizeOf41 rfl rfl rfl ((hH _ rfl).trans rfl) rfl rfl (aOM rfl) rfl rfl) ?_;refine bL<|Kr ?_;exact⟨(⟨4,s.extract i (i+1),i,0⟩,i+1),hst,cY.get' ⟨⟨_,rfl,rfl⟩,⟨_,rfl,rfl⟩,⟨_,rfl,rfl⟩,⟨_,rfl,rfl⟩,⟨_,rfl,rfl⟩,trivial⟩ (fun q=>xN [_,_,_] (by simp) q)⟩
   have n6:sT s i≠6:=aNw hc13;have hst:iP s i=(some (tR i),i):=by rw [iP,aNx n1,aNx n2,aNx n3,aNx n4,aNx n7,aNx n6]
   refine aD ?_;exact⟨(tR i,i),hst,E0⟩
  rintro⟨f,j⟩ hst;rw [hst] at hinv;simp only at hinv hst;obtain ⟨hk1,hk2⟩:=MG hinv;have hkl:=(aOD.1 hk1).1;have hkm2:k < m:=by
   rcases Nat.lt_or_ge k m with h|h
   ·exact h
   have hkem:k=m:=Nat.le_antisymm hkm h;subst hkem;rcases hend with h|⟨h,h'⟩
   ·omega
   rcases hkc with h2|h2
   ·omega
   rw [h2] at h';cases h'
  have hstop:ds.length=k+1∨cont k=false→k+1=m:=fun h=>by
   rcases h with h|h
   ·omega
   rcases Nat.lt_or_ge (k+1) m with h3|h3
   ·rw [hall k h3] at h;cases h
   omega
  have hyk:=hy k f hk1 hkm2;cases hck:cont k with
  | false =>
   have hkk:=hstop (.inr hck);rw [hck] at hyk;refine Sr<|Dd aF<|Dd (rQ isAgg223 D9)<|Dd (by exact cR rfl rfl rfl (hyk))<|Dd jS<|Dd aF<|Fo<|Fo<|Fo<|Dd cW<|Zz ?_;refine Cn ?_ ?_<;>intro hc14
   ·refine aC ?_;rw [← hkk];exact rL (H':=Hs (k+1)) (.inr rfl) rfl (Fin.pops' [(926,tF f)] (by simp) (hcl _) (by simp [h6]) (by simp [h6])) ⟨rfl,rfl⟩
   cases hc14
  | true =>
   rw [hck] at hyk;refine Sr<|Dd aF<|Dd (rQ isAgg223 D9)<|Dd (by exact cR rfl rfl rfl (hyk))<|Dd jS<|Dd aF<|On (aV pV)<|On (bM kG)<|On AI<|Dd cW<|Zz ?_;refine Cn ?_ ?_<;>intro hc15
   ·have hne:f.err≠0:=by
     have h:=hc15
     simpa using h
    rw [aNx hne] at hk2;have hkk:=hstop (.inl (by have:=List.drop_eq_nil_iff.1 hk2;omega));refine aC ?_;rw [← hkk];exact rL (H':=Hs (k+1)) (.inr rfl) rfl (Fin.pops' [(926,tF f)] (by simp) (hcl _) (by simp [h6]) (by simp [h6])) ⟨rfl,rfl⟩
   have he0:f.err=0:=by
    have h:=hc15
    simpa using h
   obtain ⟨g1,g2⟩:=aGC hst he0 hlt;rw [aNy he0] at hk2;refine aD ?_;exact⟨j,k+1,⟨g2,hkm2,.inr hck,n,by omega,hk2⟩,by omega,hfree _ _ _ _ _ rfl rfl rfl rfl rfl⟩
 have hge:s.size≤i:=by have:=aNw hc1;omega
 have hnil:mT s n i=[]:=by
  cases n with
  | zero=>rfl
  | succ n=>rw [mT,aNx (by omega)]
 rw [hnil] at hinv;have hkd:=List.drop_eq_nil_iff.1 hinv;have hkk:k=m:=by omega
 refine bC ?_;rw [← hkk];exact rL (H':=Hs k) (.inl rfl) rfl Fin.refl ⟨rfl,rfl⟩
def eP (f:GFound):List PV:=[.int .i64 f.kind,.str f.text,.int .i64 f.pos]
def RG (l:List GFound):PV:=.sl (l.map eP)
def jZ (l:List GFound):List (List AV):=l.map fun f=>(eP f).map AV.pv
theorem yA (l:List GFound):(jZ l).length=l.length:=aNz _
theorem DI (l:List GFound) (f:GFound):jZ l++[(eP f).map AV.pv]=jZ (l++[f]):=by rw [jZ,jZ,List.map_append];rfl
theorem cN (H:aB) (l:List GFound):∀ r∈jZ l,∀ a∈r,Clo H a:=by intro r hr a ha;obtain ⟨d,_,rfl⟩:=List.mem_map.1 hr;obtain ⟨p,_,rfl⟩:=List.mem_map.1 ha;simp
theorem pG {H:aB} (h1:(H.get 921).isSome=true) (h2:(H.get 923).isSome=true):∀ r∈tA.rows,∀ a∈r,Clo H a:=by intro r hr a ha;simp only [tA,bx,aOC] at hr;subst hr;rw [aOC] at ha;subst ha;simp [h1,h2]
theorem pF (H:aB) (s:ByteArray):∀ r∈(tS s).rows,∀ a∈r,Clo H a:=by intro r hr a ha;simp only [tS,bx,aOC] at hr;subst hr;rw [aOC] at ha;subst ha;simp
def lU:List GFound→List GFound→List GFound×Int×Int
 | acc,[]=>(acc,0,0)
 | acc,f::r=>if f.err≠0 then([],f.err,f.pos)else if acc.length=5000 then([],2,f.pos)else lU (acc++[f]) r
def iN (s:ByteArray):List GFound×Int×Int:=if 20000 < s.size then([],2,-1)else lU [] (mT s (s.size+1) 0)
def pL (ds:List GFound) (k:Nat):Bool:=match ds[k]? with
 | some f=>decide (f.err=0)&&!decide (k=5000)
 | none=>true
theorem HE {ds:List GFound}:∀ {k:Nat},k≤ds.length→(∀ j,j < k→pL ds j=true)→lU [] ds=lU (ds.take k) (ds.drop k)
 | 0,_,_=>rfl
 | k+1,hk,h=>by
  rw [HE (Nat.le_of_succ_le hk) (fun j hj=>h j (by omega))];have hd:ds.drop k=ds[k]::ds.drop (k+1):=List.drop_eq_getElem_cons hk;have hok:=h k (Nat.lt_succ_self k);rw [pL,aOE hk] at hok;simp only [aOI,aOG,aOS,aOH] at hok;have htl:(ds.take k).length=k:=by rw [aON];omega
  rw [hd,lU,aNx (fun h=>h hok.1),aNx (by rw [htl];exact hok.2),List.take_add_one,aOE hk];rfl
theorem A0 (s:ByteArray):∀ (n i:Nat),(mT s n i).length≤n
 | 0,_=>aOQ _
 | n+1,i=>by
  rw [mT]
  split
  ·split
   ·exact Nat.le_succ_of_le (A0 s n _)
   rw [aOB]
   split
   ·exact Nat.succ_le_succ (A0 s n _)
   exact Nat.succ_le_succ (aOQ _)
  exact aOQ _
def kL (s:ByteArray) (L:List GFound) (a:AV) (e p:Int):aB:=[(905,⟨L.length,3,196,jZ L⟩),(5,bx 1 191 [.osl 905 L.length 0 L.length]),(924,tA),(923,tC),(921,tS s),(4,bx 1 3 [iv p]),(3,bx 1 41 [iv e]),(2,bx 1 191 [a])]
theorem aEQ (s:ByteArray) (L:List GFound) (f:GFound) (a:AV) (e p:Int):kL s (L++[f]) a e p=[(905,⟨L.length+1,3,196,jZ (L++[f])⟩),(5,bx 1 191 [.osl 905 (L.length+1) 0 (L.length+1)]),(924,tA),(923,tC),(921,tS s),(4,bx 1 3 [iv p]),(3,bx 1 41 [iv e]),(2,bx 1 191 [a])]:=by simp [kL]
def rG:cB:=[(2,.ref 2 0 0 0),(3,.ref 3 0 0 0),(4,.ref 4 0 0 0),(5,.ref 5 0 0 0)]
theorem FG {ds:List GFound} {k:Nat} {f:GFound} (h:ds[k]?=some f):pL ds k=(decide (f.err=0)&&!decide (k=5000)):=by rw [pL,h]
theorem aIN (s:ByteArray) (H:aB) (hs:s.size < 1099511627776):aI Tryz.prog 167 [sv s] H (fun r H'=>r=.tup [.pv (RG (iN s).1),iv (iN s).2.1,iv (iN s).2.2]∧H'=H):=by
 refine Pu ?_;refine Bd func167 rfl ntmps167<|Sr<|Dd (by exact bU (id:=2) rfl aIA rfl rfl)<|Dd (by exact bU (id:=3) rfl aIc rfl rfl)<|Dd (by exact bU (id:=4) rfl zo3 rfl rfl)<|Zz<|Sq<|Sr<|Dd aF<|Dd (lH underlying9)<|Dd jE<|Zz ?_;refine Cn ?_ ?_<;>intro hc1
 ·have e:iN s=([],2,-1):=by rw [iN,aNy (by have:=aNv hc1;omega)]
  rw [e];refine Sr<|Uu (kQ lF)<|Uu (kQ sizeOf41)<|Uu (kQ sizeOf3)<|Zz<|aC ?_;refine AE (H':=[]) (.inr rfl) rfl (gA rfl kO rfl rfl rfl rfl) (gA rfl kG rfl rfl rfl rfl) (gA rfl isAgg3 rfl rfl rfl rfl) (Fin.wk (by simp) trivial trivial) ?_;exact Qq
 have hsz:¬ 20000 < s.size:=by have:=aNw hc1;omega
 obtain ⟨ds,hds⟩:∃ ds,ds=mT s (s.size+1) 0:=⟨_,rfl⟩;have hg:iN s=lU [] ds:=by rw [iN,aNx hsz,hds]
 refine aD<|Sr<|Dd (by exact bU (id:=5) rfl aC5 rfl rfl)<|Zz<|Sq<|Sr<|Dd aF<|Dd (by exact aA rfl rfl call204 rfl (TN s _ rfl rfl rfl (eG.ofL ⟨(by(simp;done)),(by(simp;done)),(by(simp;done)),(by(simp;done)),trivial⟩)))<|Zz<|aG ?_;refine gK.ent (E':=[(2,.ref 2 0 0 0),(3,.ref 3 0 0 0),(4,.ref 4 0 0 0),(5,.ref 5 0 0 0),(11,.clo 243 [.ref 921 0 0 0,.ref 924 0 0 0])]) (H':=[(905,⟨0,3,196,[]⟩),(5,bx 1 191 [.osl 905 0 0 0]),(924,tA),(923,tC),(921,tS s),(4,bx 1 3 [iv 0]),(3,bx 1 41 [iv 0]),(2,bx 1 191 [.pv (.sl [])])]) ?_ ?_
 ·exact(cY.nz 905 3 196 rfl rfl ⟨⟨_,rfl,(by exact Nz.same (by(simp;rfl)))⟩,⟨_,rfl,(by exact Nz.same (by(simp;rfl)))⟩,⟨_,rfl,(by exact Nz.same (by(simp;rfl)))⟩,⟨_,rfl,(by exact Nz.same (by(simp;rfl)))⟩,⟨_,rfl,(by exact Nz.same (by(simp;exact⟨rfl,rfl⟩)))⟩,trivial⟩ ⟨⟨_,rfl,rfl,rfl,rfl,(by exact .inr ⟨_,_,rfl,rfl,(by repeat(first|exact trivial|refine⟨(by exact Nz.own),?_⟩))⟩)⟩,⟨_,rfl,rfl,rfl,rfl,(by exact .inl ⟨rfl,(by exact pG rfl rfl)⟩)⟩,⟨_,rfl,rfl,rfl,rfl,(by exact .inl ⟨rfl,(by exact iD _)⟩)⟩,⟨_,rfl,rfl,rfl,rfl,(by exact .inl ⟨rfl,(by exact pF _ _)⟩)⟩,⟨_,rfl,rfl,rfl,rfl,(by exact .inl ⟨rfl,(by(simp;done))⟩)⟩,⟨_,rfl,rfl,rfl,rfl,(by exact .inl ⟨rfl,(by(simp;done))⟩)⟩,⟨_,rfl,rfl,rfl,rfl,(by exact .inl ⟨rfl,(by(simp;done))⟩)⟩,trivial⟩ trivial)
 have hdl:ds.length≤s.size+1:=by rw [hds];exact A0 s _ _
 obtain ⟨j,hj⟩:∃ j,j=uT (pL ds) ds.length 0:=⟨_,rfl⟩;have hj1:j≤ds.length:=by have:=(EQ (pL ds) ds.length 0).2;omega
 have hj2:∀ k,k < j→pL ds k=true:=fun k hk=>ES (pL ds) ds.length 0 k (aOQ _) (by rw [← hj];exact hk);have hj3:j < ds.length→pL ds j=false:=fun h=>by have:=wT (pL ds) ds.length 0 (by omega);rwa [← hj] at this
 have hrun:=HE hj1 hj2;refine CR (id:=904) (p:=12) rG rfl call243 rfl rfl (by simp [rG];exact⟨rfl,rfl,rfl,rfl⟩) ?_;intro x hx1 hx2 hx3 hx4 hx5 hx6;have hround:∀ (k:Nat) (d:GFound),ds[k]?=some d→k≤j →
   dD Tryz.prog (.yld 904 0) [.agg ((FX d).map .pv)] ((904,LR x rG)::(926,tF d)::kL s (ds.take k) (.pv (.sl [])) 0 0) (fun r H'=>r=bv (pL ds k)∧H'=(if pL ds k then(904,LR x rG)::(926,tF d)::kL s (ds.take (k+1)) (.pv (.sl [])) 0 0 else(904,LR (left x .ret) rG)::(926,tF d)::kL s (ds.take k) (.pv (.sl [])) (if d.err≠0 then d.err else 2) d.pos)):=by
  intro k d hd hkj;have hok:=FG hd;have hkl:k < ds.length:=(aOD.1 hd).1;have htl:(ds.take k).length=k:=by rw [aON];omega
  have hnx:ds.take (k+1)=ds.take k++[d]:=by rw [List.take_add_one,hd];rfl
  refine .inl ⟨904,0,rfl,?_⟩;refine Q1 [(2,.ref 2 0 0 0),(3,.ref 3 0 0 0),(4,.ref 4 0 0 0),(5,.ref 5 0 0 0),(6,.ref 907 0 0 0)] ((907,tF d)::(926,tF d)::kL s (ds.take k) (.pv (.sl [])) 0 0) hx1 hx2 hx3 hx4 hx5 hx6 rfl rfl rfl ?_ ?_
  ·refine Rg<|Dd (by exact bU (id:=907) rfl aC6 rfl rfl)<|Uu (kQ D9)<|Zz ?_;exact(cY.wk (Ea<|Ea<|Ea<|Ea<|Ea<|trivial) (Hc (kM (by simp [rG];exact⟨rfl,rfl,rfl,rfl⟩))<|Hc (vS _ _)<|Hc (vS _ _)<|Hc (cN _ _)<|Ha<|Hc (pG rfl rfl)<|Hc (iD _)<|Hc (pF _ _)<|Hb<|Hb<|Hb<|trivial) ⟨rfl,rfl,rfl,rfl,rfl,rfl,rfl,rfl,rfl,rfl,trivial⟩)
  refine aG<|Sq<|aG<|Sr<|Dd (aV pV)<|Dd (bM kG)<|Dd AI<|Da ?_;refine Cn ?_ ?_<;>intro hc2
  ·have he:d.err≠0:=by have h:=hc2;rw [aOS,aOH] at h;exact h
   have h0:pL ds k=false:=by rw [hok,decide_eq_false he];rfl
   rw [h0,aNx (by decide),aNy he];refine Sq<|aO follows<|Cr [907] (fun _ h=>fh pV h)<|Cr [907] (fun _ h=>lh kG h)<|Cr [907] (fun _ h=>fh mD h)<|Cr [907] (fun _ h=>fh J7 h)<|Cr [907] (fun _ h=>lh isAgg3 h)<|Cp [2] (fun H1 hH=>by exact cJ rfl lF rfl rfl rfl rfl ((hH _ rfl).trans rfl) rfl rfl rfl)<|Cp [3] (fun H1 hH=>by exact cJ rfl sizeOf41 rfl rfl rfl rfl ((hH _ rfl).trans rfl) rfl rfl rfl)<|Cp [4] (fun H1 hH=>by exact cJ rfl sizeOf3 rfl rfl rfl rfl ((hH _ rfl).trans rfl) rfl rfl rfl)<|bL<|Kr<|aC ?_;exact⟨(926,tF d)::kL s (ds.take k) (.pv (.sl [])) d.err d.pos,(cY.wk trivial (Hc (kM (by simp [rG];exact⟨rfl,rfl,rfl,rfl⟩))<|Hc (vS _ _)<|Hc (cN _ _)<|Ha<|Hc (pG rfl rfl)<|Hc (iD _)<|Hc (pF _ _)<|Hb<|Hb<|Hb<|trivial) ⟨rfl,rfl,rfl,rfl,rfl,rfl,rfl,rfl,rfl,rfl,trivial⟩),rfl,rfl⟩
  have he:d.err=0:=by have h:=hc2;rw [Bool.not_eq_false',aOG] at h;exact h
  refine Sr<|Dd (bM kO)<|Dd (by exact eE rfl gU rfl rfl rfl)<|Dd cT<|Da ?_;refine Cn ?_ ?_<;>intro hc3
  ·have hk5:k=5000:=by have:=aNv hc3;omega
   have h0:pL ds k=false:=by rw [hok,decide_eq_true he,decide_eq_true hk5];rfl
   rw [h0,aNx (by decide),aNx (fun h=>h he)];refine Sq<|aO follows<|Cr [907] (fun _ h=>fh mD h)<|Cr [907] (fun _ h=>fh J7 h)<|Cr [907] (fun _ h=>lh isAgg3 h)<|Cp [2] (fun H1 hH=>by exact cJ rfl lF rfl rfl rfl rfl ((hH _ rfl).trans rfl) rfl rfl rfl)<|Cp [3] (fun H1 hH=>by exact cJ rfl sizeOf41 rfl rfl rfl rfl ((hH _ rfl).trans rfl) rfl rfl rfl)<|Cp [4] (fun H1 hH=>by exact cJ rfl sizeOf3 rfl rfl rfl rfl ((hH _ rfl).trans rfl) rfl rfl rfl)<|bL<|Kr<|aC ?_;exact⟨(926,tF d)::kL s (ds.take k) (.pv (.sl [])) 2 d.pos,(cY.wk trivial (Hc (kM (by simp [rG];exact⟨rfl,rfl,rfl,rfl⟩))<|Hc (vS _ _)<|Hc (cN _ _)<|Ha<|Hc (pG rfl rfl)<|Hc (iD _)<|Hc (pF _ _)<|Hb<|Hb<|Hb<|trivial) ⟨rfl,rfl,rfl,rfl,rfl,rfl,rfl,rfl,rfl,rfl,trivial⟩),rfl,rfl⟩
  have hk5:¬ k=5000:=by have:=aNw hc3;omega
  have h0:pL ds k=true:=by rw [hok,decide_eq_true he,decide_eq_false hk5];rfl
  rw [h0,aNy rfl,hnx,aEQ];refine aD<|Rg<|Dd (bM kO)<|Dd (aV mD)<|Dd (rQ WS sizeOf196)<|Dd (by exact aR [eP d] rfl nG rfl rfl rfl rfl rfl (by intro r hr;rw [aOC] at hr;subst hr;rfl))<|Dd (by exact dH (ps:=[eP d]) rfl nG aEe rfl rfl rfl rfl rfl (yA _) rfl (by intro r hr;rw [aOC] at hr;subst hr;rfl) (m:=1) rfl (by omega) rfl (DI (ds.take k) d))<|Uu (kQ lF)<|Zz ?_;exact⟨(926,tF d)::[(905,⟨(ds.take k).length+1,3,196,jZ (ds.take k++[d])⟩),(5,bx 1 191 [.osl 905 ((ds.take k).length+1) 0 ((ds.take k).length+1)]),(924,tA),(923,tC),(921,tS s),(4,bx 1 3 [iv 0]),(3,bx 1 41 [iv 0]),(2,bx 1 191 [.pv (.sl [])])],(cY.wk trivial (Hc (kM (by simp [rG];exact⟨rfl,rfl,rfl,rfl⟩))<|Hc (vS _ _)<|Hc (cN _ _)<|Ha<|Hc (pG rfl rfl)<|Hc (iD _)<|Hc (pF _ _)<|Hb<|Hb<|Hb<|trivial) ⟨rfl,rfl,rfl,rfl,rfl,rfl,rfl,rfl,rfl,rfl,trivial⟩),rfl,rfl⟩
 rcases Nat.lt_or_ge j ds.length with hlt|hge
 ·obtain ⟨f,hf⟩:=aZ hlt;have hbad:=hj3 hlt;have hdj:ds.drop j=f::ds.drop (j+1):=by
   rw [List.drop_eq_getElem_cons hlt];rw [aOE hlt] at hf;cases hf;rfl
  have hres:iN s=([],(if f.err≠0 then f.err else 2),(f.pos:Int)):=by
   rw [hg,hrun,hdj,lU]
   split
   ·rfl
   rename_i he;have he0:f.err=0:=by
    by_cases h:f.err=0
    ·exact h
    exact absurd h he
   rw [FG hf,decide_eq_true he0,Bool.true_and,Bool.not_eq_false',aOG] at hbad;rw [aNy (by rw [aON];omega)]
  rw [hres];refine(GO s (.yld 904 0) (fun k=>if k≤j then(904,LR x rG)::kL s (ds.take k) (.pv (.sl [])) 0 0 else(904,LR (left x .ret) rG)::kL s (ds.take j) (.pv (.sl [])) (if f.err≠0 then f.err else 2) f.pos) (pL ds) (j+1) hs (fun k=>?_) (fun k=>?_) (fun k=>?_) (fun k=>?_) (fun k=>?_) (fun k=>?_) (by rw [← hds];exact hlt) (fun k hk=>hj2 k (by omega)) (.inr ⟨Nat.succ_pos _,by rw [Nat.add_sub_cancel];exact hbad⟩) ?_).mono ?_
  ·split<;>rfl
  ·split<;>rfl
  ·split<;>rfl
  ·split<;>rfl
  ·split
   ·exact(eG.ofL ⟨(by exact kM (by simp [rG];exact⟨rfl,rfl,rfl,rfl⟩)),(by exact cN _ _),(by(simp;rfl)),(by exact pG rfl rfl),(by exact iD _),(by exact pF _ _),(by(simp;done)),(by(simp;done)),(by(simp;done)),trivial⟩)
   exact(eG.ofL ⟨(by exact kM (by simp [rG];exact⟨rfl,rfl,rfl,rfl⟩)),(by exact cN _ _),(by(simp;rfl)),(by exact pG rfl rfl),(by exact iD _),(by exact pF _ _),(by(simp;done)),(by(simp;done)),(by(simp;done)),trivial⟩)
  ·split<;>(simp;rfl)
  ·rw [← hds];intro k d hd hk;have hr:=hround k d hd (by omega);rw [aNy (by omega)];by_cases hkj:k=j
   ·subst hkj;rw [hf] at hd;cases hd;rw [hbad,aNx (by decide)] at hr;rw [aNx (by omega),hbad];exact dD.congrG hr (fun j=>nX (by decide) j) (fun j=>nX (by decide) j)
   have hok:=hj2 k (by omega);rw [hok,aNy rfl] at hr;rw [aNy (by omega),hok];exact dD.congrG hr (fun j=>nX (by decide) j) (fun j=>nX (by decide) j)
  rintro r H' ⟨rfl,rfl⟩;rw [aNx (by omega)];refine⟨left x .ret,_,rfl,by simp [left],rfl,fun z=>?_⟩;show H8 _ _ _ _ _ _ _;refine AE (H':=[]) (.inr rfl) rfl (gA rfl kO rfl rfl rfl rfl) (gA rfl kG rfl rfl rfl rfl) (gA rfl isAgg3 rfl rfl rfl rfl) (Fin.wk (by simp) trivial trivial) ?_;exact Qq
 have hje:j=ds.length:=Nat.le_antisymm hj1 hge;rw [hje,List.take_length,List.drop_length] at hrun;rw [hg,hrun,lU];refine(GO s (.yld 904 0) (fun k=>(904,LR x rG)::kL s (ds.take k) (.pv (.sl [])) 0 0) (pL ds) ds.length hs (fun k=>rfl) (fun k=>rfl) (fun k=>rfl) (fun k=>rfl) (fun k=>(eG.ofL ⟨(by exact kM (by simp [rG];exact⟨rfl,rfl,rfl,rfl⟩)),(by exact cN _ _),(by(simp;rfl)),(by exact pG rfl rfl),(by exact iD _),(by exact pF _ _),(by(simp;done)),(by(simp;done)),(by(simp;done)),trivial⟩)) (fun k=>by simp;rfl) (by rw [← hds];exact aOF _) (fun k hk=>hj2 k (by omega)) (.inl (by rw [← hds])) ?_).mono ?_
 ·rw [← hds];intro k d hd hk;have hr:=hround k d hd (by omega);have hok:=hj2 k (by omega);rw [hok,aNy rfl] at hr;rw [hok];exact dD.congrG hr (fun j=>nX (by decide) j) (fun j=>nX (by decide) j)
 rintro r H' ⟨rfl,rfl⟩;rw [List.take_length];refine⟨x,_,rfl,by rw [hx1];decide,rfl,fun z=>?_⟩;rw [hx2];refine Sr<|Dd (bM kO)<|Uu (kQ lF)<|Uu (kQ sizeOf41)<|Uu (kQ sizeOf3)<|Zz<|aC ?_;refine AE (H':=[]) (.inr rfl) rfl (gA rfl kO rfl rfl rfl rfl) (gA rfl kG rfl rfl rfl rfl) (gA rfl isAgg3 rfl rfl rfl rfl) (Fin.fz (r':=.tup [.pv (RG ds),iv 0,iv 0]) (id:=905) (ob:=⟨ds.length,3,196,jZ ds⟩) (ds.map eP) rfl (by rw [List.map_map];rfl) (.tup rfl (dN (.osl (qs:=ds.map eP) (by rw [aOR,List.drop_zero];exact List.take_of_length_le (Nat.le_of_eq (aNz eP)))) (dN (.same (by simp)) (dN (.same (by simp)) pQ)))) rfl trivial trivial) ?_;exact Qq
def yD:List GFound→Option (List GTag)
 | []=>some []
 | a::_::c::r=>(yD r).map fun l=>⟨a.text,c.text⟩::l
 | _=>none
def OZ (l:List GFound) (k:Nat):GTag:=⟨((l[3*k]?).map GFound.text).getD sNil,((l[3*k+2]?).map GFound.text).getD sNil⟩
def eO (l:List GFound) (k:Nat):List GTag:=(List.range k).map (OZ l)
theorem BP (l:List GFound) (k:Nat):eO l (k+1)=eO l k++[OZ l k]:=by rw [eO,List.range_succ,List.map_append];rfl
theorem DB (l:List GFound) (k:Nat):(eO l k).length=k:=by rw [eO,aNz,List.length_range]
def sD (l:List GTag):List (List AV):=l.map fun t=>(bJ t).map AV.pv
theorem KL (l:List GTag):(sD l).length=l.length:=aNz _
theorem KM (l:List GTag) (t:GTag):sD l++[(bJ t).map AV.pv]=sD (l++[t]):=by rw [sD,sD,List.map_append];rfl
theorem kU (H:aB) (l:List GTag):∀ r∈sD l,∀ a∈r,Clo H a:=by intro r hr a ha;obtain ⟨d,_,rfl⟩:=List.mem_map.1 hr;obtain ⟨p,_,rfl⟩:=List.mem_map.1 ha;simp
theorem MA:∀ (r acc:List GFound),(lU acc r).1.length≤acc.length+r.length
 | [],acc=>aOF _
 | f::r,acc=>by
  rw [lU]
  split
  ·exact aOQ _
  split
  ·exact aOQ _
  have:=MA r (acc++[f]);rw [aOA,List.length_singleton] at this;rw [aOB];omega
theorem FO (s:ByteArray) (h:s.size < 1099511627776):(iN s).1.length < 549755813888:=by
 unfold iN
 split
 ·decide
 have h1:=MA (mT s (s.size+1) 0) [];have h2:=A0 s (s.size+1) 0;rw [List.length_nil] at h1;omega
theorem aW (s:ByteArray):s.data.toList.length=s.size:=by simp
theorem rW {a b:ByteArray} (h:a.data.toList=b.data.toList):a=b:=by cases a with|mk a=>cases b with|mk b=>cases a;cases b;simp at h;rw [h]
theorem jP (s:ByteArray) (i j:Nat):(s.extract i j).data.toList=(s.data.toList.drop i).take (j - i):=by rw [ByteArray.data_extract,Array.toList_extract,List.extract_eq_take_drop]
theorem xP {s:ByteArray} {i:Nat} {c:UInt8} {r:List UInt8} (h:s.data.toList.drop i=c::r):i < s.size∧dB s i=(c.toNat:Int)∧s.data.toList.drop (i+1)=r:=by obtain ⟨h1,h2⟩:=MG h;refine⟨by rw [← aW];exact(aOD.1 h1).1,by rw [dB,h1];rfl,h2⟩
theorem D2 {s:ByteArray} {i:Nat} {c:UInt8} {r:List UInt8} (h:s.data.toList.drop i=c::r):sT s i=BX (c.toNat:Int):=by obtain ⟨h1,h2,_⟩:=xP h;rw [sT,aNy h1,h2]
theorem aAa {s:ByteArray} {i:Nat} (h:s.data.toList.drop i=[]):sT s i=0:=by have:=List.drop_eq_nil_iff.1 h;rw [aW] at this;rw [sT,aNx (by omega)]
theorem iS {s:ByteArray} {i:Nat} {w r:List UInt8} (h:s.data.toList.drop i=w++r):s.data.toList.drop (i+w.length)=r:=by rw [← List.drop_drop,h,List.drop_left]
theorem aA3 {s:ByteArray} {i k:Nat} {w r:List UInt8} {c:UInt8} (h:s.data.toList.drop i=w++r) (hk:w[k]?=some c):s.data.toList.drop (i+k)=c::((w.drop (k+1))++r):=by
 have hlt:=(aOD.1 hk).1;have e:w=w.take k++c::w.drop (k+1):=by
  conv=>lhs;rw [← List.take_append_drop k w]
  rw [List.drop_eq_getElem_cons hlt,(aOD.1 hk).2]
 have h2:s.data.toList.drop i=w.take k++(c::w.drop (k+1)++r):=by
  rw [h];exact(congrArg (·++r) e).trans (List.append_assoc _ _ _)
 have h3:=iS h2;rw [aON,Nat.min_eq_left (by omega)] at h3;exact h3
theorem BR {s:ByteArray} {i:Nat} {w r:List UInt8} (h:s.data.toList.drop i=w++r):s.extract i (i+w.length)=⟨w.toArray⟩:=by refine rW ?_;rw [jP,h,Nat.add_sub_cancel_left,List.take_left]
theorem BQ {s:ByteArray} {i:Nat}:(s.extract i s.size).data.toList=s.data.toList.drop i:=by rw [jP];exact List.take_of_length_le (by rw [aOO,aW];exact aOF _)
theorem yS {k:ByteArray} (h:bP k=true):0 < k.size∧k.size≤24∧BX (dB k 0)=3∧∀ j,j < k.size→(BX (dB k j)=3∨BX (dB k j)=4∨BX (dB k j)=5):=by
 rw [bP,aOI,aOI,aOS,aOS,List.any_eq_false,aOH,aOG] at h;obtain ⟨h1,h2,h3⟩:=h;have hpos:0 < k.size:=by
  rcases Nat.eq_zero_or_pos k.size with e|e
  ·refine absurd (rW ?_) h2;rw [← aW] at e;rw [List.length_eq_zero_iff.1 e]
  exact e
 have hb:∀ j,j < k.size→OK k j=false:=fun j hj=>by
  have:=h1 j (List.mem_range.2 hj)
  simpa using this
 refine⟨hpos,by omega,?_,fun j hj=>?_⟩
 ·have:=hb 0 hpos
  simpa [OK] using this
 have:=hb j hj;rw [OK] at this;by_cases e1:BX (dB k j)=3
 ·exact .inl e1
 by_cases e2:BX (dB k j)=4
 ·exact .inr (.inl e2)
 by_cases e3:BX (dB k j)=5
 ·exact .inr (.inr e3)
 simp [e1,e2,e3] at this
theorem aHC {k:ByteArray} {j:Nat} (h:j < k.size):∃ c,k.data.toList[j]?=some c∧dB k j=(c.toNat:Int):=by rw [← aW] at h;exact⟨_,aOE h,by rw [dB,aOE h];rfl⟩
theorem aAx {s k:ByteArray} {i:Nat} {r:List UInt8} (h:s.data.toList.drop i=k.data.toList++r) (hk:bP k=true) (hr:∀ c r',r=c::r'→BX (c.toNat:Int)≠3∧BX (c.toNat:Int)≠4∧BX (c.toNat:Int)≠5) :
  iP s i=(some ⟨1,k,i,0⟩,i+k.size):=by
 obtain ⟨hpos,hle,h0,hall⟩:=yS hk;have hat:∀ j,j < k.size→sT s (i+j)=BX (dB k j):=fun j hj=>by
  obtain ⟨c,hc,e⟩:=aHC hj;rw [D2 (aA3 h hc),e]
 have hlen:i+k.size≤s.size:=by
  have:=congrArg List.length h;rw [aOO,aOA,aW,aW] at this;omega
 have ha0:sT s i=3:=by
  have:=hat 0 hpos;rw [Nat.add_zero,h0] at this;exact this
 have hend:JI s i=i+k.size:=by
  refine ER (A6 s) (by omega) (by omega) (fun j h1 h2=>?_) ?_
  ·have:=hat (j - i) (by omega);rw [show i+(j - i)=j by omega] at this;rw [A6,this];rcases hall (j - i) (by omega)with e|e|e<;>rw [e]<;>rfl
  left;have hd:=iS h;rw [aW] at hd;cases r with
  | nil=>rw [A6,aAa hd];rfl
  | cons c r' =>
   obtain ⟨e1,e2,e3⟩:=hr c r' rfl;rw [A6,D2 hd,decide_eq_false e1,decide_eq_false e2,decide_eq_false e3];rfl
 have hex:=BR h;rw [aW] at hex;have hkk:(⟨k.data.toList.toArray⟩:ByteArray)=k:=rW (by simp);rw [iP,aNx (by rw [ha0];decide),aNx (by rw [ha0];decide),aNy ha0,hend,DU,hex,hkk,aNx (by omega)]
theorem aGB {s:ByteArray} {i:Nat} {r:List UInt8} (h:s.data.toList.drop i=32::r):iP s i=(none,i+1):=by
 have ha:sT s i=1:=by rw [D2 h];rfl
 rw [iP,aNy ha]
theorem TL:∀ (v r:List UInt8),pD (v.flatMap mV++34::r)=some (v,(v.flatMap mV).length+1)
 | [],r=>KH
 | b::v,r=>by
  have ih:=TL v r;rw [List.flatMap_cons,List.append_assoc,aOA];by_cases h1:b=10
  ·have e:mV b=[92,110]:=by rw [mV,aNy h1]
   rw [e];show pD (92::110::(v.flatMap mV++34::r))=_;rw [JK,ih,h1];show some (10::v,_)=some (10::v,_);congr 2;show (v.flatMap mV).length+1+2=2+_+1;omega
  by_cases h2:b=34∨b=92
  ·have e:mV b=[92,b]:=by rw [mV,aNx h1,aNy h2]
   have hu:BI b=some b:=by
    rcases h2 with e|e<;>subst e<;>rfl
   rw [e];show pD (92::b::(v.flatMap mV++34::r))=_;rw [JK,ih,hu];show some (b::v,_)=some (b::v,_);congr 2;show (v.flatMap mV).length+1+2=2+_+1;omega
  have e:mV b=[b]:=by rw [mV,aNx h1,aNx h2]
  have h3:b≠34∧b≠92:=⟨fun e=>h2 (.inl e),fun e=>h2 (.inr e)⟩;rw [e];show pD (b::(v.flatMap mV++34::r))=_;rw [KI h3.1 h1 h3.2,ih];show some (b::v,_)=some (b::v,_);congr 2;show (v.flatMap mV).length+1+1=1+_+1;omega
theorem TR {s v:ByteArray} {i:Nat} {r:List UInt8} (h:s.data.toList.drop i=eC v.data.toList++r):iP s i=(some ⟨3,v,i,0⟩,i+(eC v.data.toList).length):=by
 have h':s.data.toList.drop i=34::(v.data.toList.flatMap mV++34::r):=by rw [h,eC];simp
 have ha:sT s i=7:=by rw [D2 h'];rfl
 have hu:zB (s.extract i s.size)=(v,(((v.data.toList.flatMap mV).length+1+1:Nat):Int)):=by
  rw [zB,BQ,h',List.drop_succ_cons,List.drop_zero,TL]
 have hs:OB s i=(⟨3,v,i,0⟩,i+(eC v.data.toList).length):=by
  rw [OB,hu,aNy (by show (0:Int) < ((_:Nat):Int);omega)];congr 1;show i+_=i+_;congr 1;rw [aOK,eC,aOB,aOA,List.length_singleton]
 rw [iP,aNx (by rw [ha];decide),aNx (by rw [ha];decide),aNx (by rw [ha];decide),aNx (by rw [ha];decide),aNy ha,hs]
def P1 (t:GTag):List UInt8:=t.key.data.toList++61::eC t.val.data.toList
theorem HD (t:GTag):(gE t).data.toList=P1 t:=by rw [gE,P1];simp
def nV (l:List GTag):List UInt8:=l.flatMap fun t=>32::P1 t
def WK (T:List GFound) (l:List GTag):Prop:=yD T=some l∧(∀ f,f∈T→f.err=0)∧T.length=3*l.length
theorem WK.cons {T:List GFound} {l:List GTag} {a b c:GFound} (h:WK T l) (ha:a.err=0) (hb:b.err=0) (hc:c.err=0):WK (a::b::c::T) (⟨a.text,c.text⟩::l):=by
 obtain ⟨h1,h2,h3⟩:=h;refine⟨by rw [yD,h1];rfl,fun f hf=>?_,by rw [aOB,aOB,aOB,aOB,h3];omega⟩;rcases aOL.1 hf with rfl|hf
 ·exact ha
 rcases aOL.1 hf with rfl|hf
 ·exact hb
 rcases aOL.1 hf with rfl|hf
 ·exact hc
 exact h2 f hf
theorem OX (t:GTag) (l:List GTag):(IQ (t::l)).data.toList=P1 t++nV l:=by show bS [32] (bs ((t::l).map gE))=_;rw [bs,List.map_map,List.map_cons,bS];show (gE t).data.toList++_=_;rw [HD,nV,List.flatMap_map];congr 1;congr 1;funext x;show [32]++(gE x).data.toList=_;rw [HD];rfl
theorem HF:∀ (T acc:List GFound),(∀ f,f∈T→f.err=0)→acc.length+T.length≤5000→lU acc T=(acc++T,0,0)
 | [],acc,_,_=>by rw [lU,List.append_nil]
 | f::T,acc,h,hl=>by
  rw [aOB] at hl;rw [lU,aNx (fun e=>e (h f List.mem_cons_self)),aNx (by omega),HF T (acc++[f]) (fun g hg=>h g (List.mem_cons_of_mem _ hg)) (by rw [aOA,List.length_singleton];omega),List.append_assoc];rfl
end Go.Proofs.YtiifmppaejpemaaGreatDoor
