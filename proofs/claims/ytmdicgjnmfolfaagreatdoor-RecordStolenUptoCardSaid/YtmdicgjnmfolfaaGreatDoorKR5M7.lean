/-
  Parts of the proof: rules of an abstract program logic, contracts of functions, plain laws. Conditions: each theorem's own.
-/
import Derived.Test.YtmdicgjnmfolfaaGreatDoorKR5M6
import Derived.WideLaws
import Derived.Laws.Build
set_option linter.unusedVariables false
set_option linter.unusedSimpArgs false
set_option maxRecDepth 100000
set_option maxHeartbeats 8000000
namespace Go.Proofs
open Tryz
theorem vU:type_of% call162:=call162
theorem uD:type_of% call40:=call40
theorem aFc:type_of% call71:=call71
theorem aNf:type_of% call73:=call73
theorem zP:type_of% call90:=call90
theorem jY:type_of% isAgg182:=isAgg182
theorem WU:type_of% isAgg187:=isAgg187
theorem HC:type_of% isAgg247:=isAgg247
theorem jT:type_of% isAgg26:=isAgg26
theorem jS:type_of% isAgg41:=isAgg41
theorem B6:type_of% isAgg72:=isAgg72
theorem kP:type_of% sizeOf182:=sizeOf182
theorem DM:type_of% sizeOf218:=sizeOf218
theorem HA:type_of% sizeOf72:=sizeOf72
end Go.Proofs
namespace Go.Proofs.YtmdicgjnmfolfaaGreatDoor
open Go.Proofs.Tryz
open Go.Abs
variable{key m:ByteArray}{i:Int}{l p:List ByteArray}
def KW(t:ByteArray):Bool:=!isJ t
theorem aJ0(t:ByteArray)(ht:t.size<1099511627776)(H:aB):aH Tryz.prog 91 [sv t] H (fun r H'=>r=bv (KW t)/\H'=H):=by refine Pu ?_;exact Bd func91 rfl ntmps91<|Sr<|Dd aM<|Zz<|Sr<|Dd aG<|Dd (by exact aA rfl rfl aNf rfl (aEV t ht _))<|Dd mT<|Dd aM<|Zz<|aE<|Rt<|Qq
theorem QM(l:List ByteArray)(q:ByteArray->Bool):((List.range l.length).any fun k=>match l[k]? with|some s=>q s|none=>false)=l.any q:=by
 rw[Bool.eq_iff_iff,List.any_eq_true,List.any_eq_true];constructor
 ·rintro⟨k,hk,h⟩;have hk:=List.mem_range.1 hk;rw[aOA hk]at h;exact⟨_,List.getElem_mem hk,h⟩
 rintro⟨s,hs,h⟩;obtain ⟨k,hk⟩:=aOQ.1 hs;exact⟨k,List.mem_range.2 (aNz.1 hk).1,by rw[hk];exact h⟩
theorem aIJ(l:List ByteArray)(hl:l.length<1099511627776)(ht:∀t∈l,t.size<1099511627776)(H:aB):aH Tryz.prog 90 [.pv (aS l)] H (fun r H'=>r=bv (l.any KW)/\H'=H):=by
 refine Pu ?_;have hc:=qD (.pv (.fn 91)) l (fun k=>match l[k]? with|some s=>KW s|none=>false) (fun _=>[]) (by omega) (fun k s hk=>by
  simp only[hk];exact cK.fn call91 (aJ0 s (ht s (aOF hk)) []))
 rw[QM]at hc;exact Bd func90 rfl ntmps90<|Sr<|Dd aM<|Zz<|Sr<|Dd aG<|Dd (by exact aA rfl rfl S2 rfl (hc))<|Dd aM<|Zz<|aE<|Rt<|Qq
def JP(i:Int)(l p:List ByteArray):Bool:=((((!decide (((l.map encStr).length:Int)=18)||decide (8<((p.map encStr).length:Int)))||l.any KW)||p.any KW)||decide (i<0))||decide (((2 ^ p.length:Nat):Int)<=i)
theorem FF(l:List ByteArray):l.any KW=!l.all isJ:=by
 induction l with
 |nil=>rfl
 |cons a r ih=>rw[List.any_cons,List.all_cons,ih,KW,Bool.not_and]
theorem aFn(h:JP i l p=true):sQ key m i l p=false:=by
 rw[JP,FF,FF,aNv,aNv]at h;cases hv:sQ key m i l p with
 |false=>rfl
 |true =>
  rw[sQ]at hv;simp only[aOE,aOC]at hv;obtain ⟨⟨⟨⟨⟨a1,a2⟩,a3⟩,a4⟩,a5,a6⟩,a7⟩:=hv;have a6':i<((2 ^ p.length:Nat):Int):=by exact_mod_cast a6
  rw[a3,a4,decide_eq_true (show (l.length:Int)=18 by omega),decide_eq_false (show ¬ 8<(p.length:Int)by omega),decide_eq_false (show ¬ i<0 by omega),decide_eq_false (show ¬ ((2 ^ p.length:Nat):Int)<=i by omega)]at h;exact absurd h (by decide)
theorem aId(h:JP i l p=false):∃q:Nat,i=(q:Int)/\q<2 ^ p.length/\l.length=18/\p.length<=8/\(∀t∈l,isJ t=true)/\(∀t∈p,isJ t=true)/\sQ key m i l p=decide (gX (pB (iQ m l)) p q=key):=by
 rw[JP,FF,FF,aNv,aNv]at h;simp only[aOR,Bool.not_eq_false',aOD,aOC]at h;obtain ⟨⟨⟨⟨⟨a1,a2⟩,a3⟩,a4⟩,a5⟩,a6⟩:=h;obtain ⟨q,rfl⟩:∃q:Nat,i=(q:Int):=⟨i.toNat,by omega⟩;have a1':l.length=18:=by omega
 have a2':p.length<=8:=by omega
 have a6':(q:Int)<((2 ^ p.length:Nat):Int):=by omega
 refine⟨q,rfl,by omega,a1',a2',List.all_eq_true.1 a3,List.all_eq_true.1 a4,?_⟩;have a7:(q:Int)<2 ^ p.length:=by exact_mod_cast a6'
 rw[sQ,a3,a4,decide_eq_true (⟨a1',a2'⟩:l.length=18/\p.length<=8),decide_eq_true (⟨by omega,a7⟩:0<=(q:Int)/\(q:Int)<2 ^ p.length),aOG];rfl
def evP(m:ByteArray)(l:List ByteArray)(k:Nat):List ByteArray:=(List.range k).map fun k=>mY (l.getD k sNil) (15 - (wU m).getD k 0)
theorem aEd(m:ByteArray)(l:List ByteArray)(k:Nat):evP m l (k+1)=evP m l k++[mY (l.getD k sNil) (15 - (wU m).getD k 0)]:=by rw[evP,List.range_succ,List.map_append];rfl
theorem aAY(m:ByteArray)(l:List ByteArray)(k:Nat):(evP m l k).length=k:=by simp[evP]
theorem SD(h:l.length=18):evP m l 18=iQ m l:=by
 apply List.ext_getElem?;intro k;rw[iQ,List.getElem?_zipWith,evP,aOP];by_cases hk:k<18
 ·have h1:l[k]?=some (l.getD k sNil):=by
   rw[List.getD_eq_getElem?_getD,aOA (by omega)];rfl
  have h2:(wU m)[k]?=some ((wU m).getD k 0):=by
   rw[List.getD_eq_getElem?_getD,aOA (by rw[sC];exact hk)];rfl
  rw[List.getElem?_range hk,h1,h2];rfl
 rw[List.getElem?_eq_none (by simp;omega),List.getElem?_eq_none (by omega)];rfl
theorem aHq{a:Nat}(ha:a<4611686018427387904):bits .and .i64 (a:Int) 1=((a % 2:Nat):Int):=by have h:=(bits_nat .i64 62 (by decide) (fun n h0 h1=>iY (by omega) (by omega)) a 1 ha (by decide)).1;rw[Nat.and_one_is_mod]at h;exact h
def vfE:bS:=[(5,.ref 5 0 0 0),(9,.ref 9 0 0 0)]
def vfK(i:Int)(l p:List ByteArray)(m:ByteArray)(L:List ByteArray):aB:=[(905,⟨L.length,1,9,bP L⟩),(9,bx 1 22 [.osl 905 L.length 0 L.length]),(961,K0 m),(5,bx 3 25 [iv i,.pv (aS l),.pv (aS p)])]
theorem aFm(i:Int)(l p:List ByteArray)(m:ByteArray)(L:List ByteArray)(x:ByteArray):vfK i l p m (L++[x])=[(905,⟨L.length+1,1,9,bP (L++[x])⟩),(9,bx 1 22 [.osl 905 (L.length+1) 0 (L.length+1)]),(961,K0 m),(5,bx 3 25 [iv i,.pv (aS l),.pv (aS p)])]:=by simp[vfK]
theorem OB(key m:ByteArray)(i:Int)(l p:List ByteArray)(H:aB)(hm:m.size<1099511627776)(hi0 : -4611686018427387904<=i)(hi1:i<4611686018427387904)(hl:l.length<1099511627776)(hp:p.length<1099511627776)(hls:∀t∈l,t.size<1099511627776)(hps:∀t∈p,t.size<1099511627776):
  aH Tryz.prog 28 [sv key,sv m,.agg [iv i,.pv (aS l),.pv (aS p)]] H (fun r H'=>r=bv (sQ key m i l p)/\H'=H):=by
 refine Pu ?_;have hml:(l.map encStr).length=l.length:=aNv _;have hmp:(p.map encStr).length=p.length:=aNv _;have hol:=fun H=>aIJ l hl hls H;have hop:=fun H=>aIJ p hp hps H;have hle8:decide (8<((p.map encStr).length:Int))=false->p.length<=8:=fun h=>by have:=aNs h;omega
 have hshl:p.length<=8->IntKind.i64.wrap (1*2 ^ (((p.map encStr).length:Int)).toNat)=((2 ^ p.length:Nat):Int):=fun h=>by rw[hmp];exact aGG h
 refine Bd func28 rfl ntmps28<|Sr<|Dd (by exact cE (id:=5) rfl rfl rfl rfl rfl)<|Dd aM<|Zz<|Sr<|Dd (bE lF)<|Dd (bQ aJ)<|Dd (fZ aC)<|Dd aM<|Zz<|Sr<|Dd aM<|Zz<|Sq<|Sq ?_;refine pS (t:=49) (n:=32) (X:=JP i l p) ?_ ?_
 ·cases hg22:(!decide (((l.map encStr).length:Int)=18):Bool)
  ·cases hg26:(decide (8<((p.map encStr).length:Int)):Bool)
   ·cases hg32:(l.any KW:Bool)
    ·cases hg38:(p.any KW:Bool)
     ·cases hg43:(decide (i<0):Bool)
      ·refine aP follows<|Cq (bE iG)<|Cq (bQ aJ)<|Cq (fZ aC)<|Cq zW<|Cq aG<|Nf aG<|Nf mN<|Cq zA<|Cq aG<|Nf aG<|Nf (bE iG)<|Nf (bQ aJ)<|Nf (by exact cC rfl rfl rfl (cK.fn zP (hol _)))<|Cq zA<|Cq aG<|Nf aG<|Nf (bE lF)<|Nf (bQ aJ)<|Nf (by exact cC rfl rfl rfl (cK.fn zP (hop _)))<|Cq zA<|Cq aG<|Nf (bE mD)<|Nf (bQ isAgg3)<|Nf cP<|Cq zA<|Cq aG<|Nf (bE mD)<|Nf (bQ isAgg3)<|Nf aG<|Nf (by exact D7 rfl rfl rfl (by omega) (by have:=hle8 hg26;simp[IntKind.bits];omega) (hshl (hle8 hg26)))<|Nf LN<|Cq zA<|bK<|Kr ?_;exact⟨rfl,⟨_,rfl,by(rw[JP,hg22,hg26,hg32,hg38,hg43];rfl)⟩,rfl,rfl,rfl⟩
      refine aP follows<|Cq (bE iG)<|Cq (bQ aJ)<|Cq (fZ aC)<|Cq zW<|Cq aG<|Nf aG<|Nf mN<|Cq zA<|Cq aG<|Nf aG<|Nf (bE iG)<|Nf (bQ aJ)<|Nf (by exact cC rfl rfl rfl (cK.fn zP (hol _)))<|Cq zA<|Cq aG<|Nf aG<|Nf (bE lF)<|Nf (bQ aJ)<|Nf (by exact cC rfl rfl rfl (cK.fn zP (hop _)))<|Cq zA<|Cq aG<|Nf (bE mD)<|Nf (bQ isAgg3)<|Nf cP<|Cq zA<|Cq aG<|Of<|Of<|Of<|Of<|Of<|Cq NE<|bK<|Kr ?_;exact⟨rfl,⟨_,rfl,by(rw[JP,hg22,hg26,hg32,hg38,hg43];rfl)⟩,rfl,rfl,rfl⟩
     refine aP follows<|Cq (bE iG)<|Cq (bQ aJ)<|Cq (fZ aC)<|Cq zW<|Cq aG<|Nf aG<|Nf mN<|Cq zA<|Cq aG<|Nf aG<|Nf (bE iG)<|Nf (bQ aJ)<|Nf (by exact cC rfl rfl rfl (cK.fn zP (hol _)))<|Cq zA<|Cq aG<|Nf aG<|Nf (bE lF)<|Nf (bQ aJ)<|Nf (by exact cC rfl rfl rfl (cK.fn zP (hop _)))<|Cq zA<|Cq aG<|Of<|Of<|Of<|Cq NE<|Cq aG<|Of<|Of<|Of<|Of<|Of<|Cq cN<|bK<|Kr ?_;exact⟨rfl,⟨_,rfl,by(rw[JP,hg22,hg26,hg32,hg38];rfl)⟩,rfl,rfl,rfl⟩
    refine aP follows<|Cq (bE iG)<|Cq (bQ aJ)<|Cq (fZ aC)<|Cq zW<|Cq aG<|Nf aG<|Nf mN<|Cq zA<|Cq aG<|Nf aG<|Nf (bE iG)<|Nf (bQ aJ)<|Nf (by exact cC rfl rfl rfl (cK.fn zP (hol _)))<|Cq zA<|Cq aG<|Of<|Of<|Of<|Of<|Cq NE<|Cq aG<|Of<|Of<|Of<|Cq cN<|Cq aG<|Of<|Of<|Of<|Of<|Of<|Cq cN<|bK<|Kr ?_;exact⟨rfl,⟨_,rfl,by(rw[JP,hg22,hg26,hg32];rfl)⟩,rfl,rfl,rfl⟩
   refine aP follows<|Cq (bE iG)<|Cq (bQ aJ)<|Cq (fZ aC)<|Cq zW<|Cq aG<|Nf aG<|Nf mN<|Cq zA<|Cq aG<|Of<|Of<|Of<|Of<|Cq NE<|Cq aG<|Of<|Of<|Of<|Of<|Cq cN<|Cq aG<|Of<|Of<|Of<|Cq cN<|Cq aG<|Of<|Of<|Of<|Of<|Of<|Cq cN<|bK<|Kr ?_;exact⟨rfl,⟨_,rfl,by(rw[JP,hg22,hg26];rfl)⟩,rfl,rfl,rfl⟩
  refine aP follows<|Cq (bE iG)<|Cq (bQ aJ)<|Cq (fZ aC)<|Cq zW<|Cq aG<|Of<|Of<|Cq NE<|Cq aG<|Of<|Of<|Of<|Of<|Cq cN<|Cq aG<|Of<|Of<|Of<|Of<|Cq cN<|Cq aG<|Of<|Of<|Of<|Cq cN<|Cq aG<|Of<|Of<|Of<|Of<|Of<|Cq cN<|bK<|Kr ?_;exact⟨rfl,⟨_,rfl,by(rw[JP,hg22];rfl)⟩,rfl,rfl,rfl⟩
 refine Cn ?_ ?_<;>intro hc1
 ·have hb:=hc1;rw[aFn hb];exact Sr<|Dd aM<|Zz<|aE<|Rt<|Qq
 have hb:=hc1;obtain ⟨q,rfl,hq,h18,h8,hlj,hpj,hv⟩:=aId (key:=key) (m:=m) hb;rw[hv];clear hv hb;have hp8:=nE h8;refine aF<|Sr<|Dd (by exact bM (id:=9) rfl aC9 rfl rfl)<|Zz<|Sq<|Sr<|Dd aG<|Dd (by exact aA rfl rfl call92 rfl (P6 m _ rfl))<|Zz<|aD ?_;refine fL.ent (E':=[(0,sv key),(5,.ref 5 0 0 0),(9,.ref 9 0 0 0),(51,.clo 139 [.ref 961 0 0 0])]) (H':=vfK q l p m []) ?_ ?_
 ·exact(cD.nz 905 1 9 rfl rfl ⟨⟨_,rfl,(by exact Nz.same (by(simp;done)))⟩,⟨_,rfl,(by exact Nz.same (by(simp;rfl)))⟩,⟨_,rfl,(by exact Nz.same (by(simp;rfl)))⟩,⟨_,rfl,(by exact Nz.same (by(simp;rfl)))⟩,trivial⟩ ⟨⟨_,rfl,rfl,rfl,rfl,(by exact .inr ⟨_,_,rfl,rfl,(by repeat(first|exact trivial|refine⟨(by exact Nz.own),?_⟩))⟩)⟩,⟨_,rfl,rfl,rfl,rfl,(by exact .inl ⟨rfl,(by exact wH _ _)⟩)⟩,⟨_,rfl,rfl,rfl,rfl,(by exact .inl ⟨rfl,(by(simp;done))⟩)⟩,trivial⟩ trivial)
 refine MO (id:=904) (p:=52) (p2:=53) vfE rfl call139 rfl rfl (by simp[vfE];exact⟨rfl,rfl⟩) ?_;intro x hx1 hx2 hx3 hx4 hx5 hx6;refine(P7 m (.yld 904 0) (fun k=>(904,LR x vfE)::vfK q l p m (evP m l k)) hm (fun k=>rfl) ?_).mono ?_
 ·intro k hk;have hd:=MD m _ (oD (d:=0) (by rw[sC];exact hk));have hfl:=aAY m l k;have hnx:=aEd m l k;have hix:(l.map encStr)[k]?=some (encStr (l.getD k sNil)):=by
   rw[aOP,List.getD_eq_getElem?_getD,aOA (by omega)];rfl
  have hsz:(l.getD k sNil).size<1099511627776:=hls _ (oD (by omega));obtain ⟨u,hu⟩:∃u,u=l.getD k sNil:=⟨_,rfl⟩;obtain ⟨d,hdd⟩:∃d,d=(wU m).getD k 0:=⟨_,rfl⟩;rw[<-hdd]at hd hnx |-;rw[<-hu]at hnx hix hsz;have hch:=fun H=>SL u (15 - d) H hsz (by omega);refine .inl ⟨904,0,rfl,?_⟩;refine ZM [(5,.ref 5 0 0 0),(9,.ref 9 0 0 0),(10,iv (k:Int)),(11,iv (d:Int))] (vfK q l p m (evP m l k)) hx1 hx2 hx3 hx4 hx5 hx6 rfl rfl rfl rfl rfl ?_ ?_
  ·refine Sr<|Dd aM<|Zz<|Rg<|Da ?_;exact(cD.wk (Ea<|Ea<|Eb<|Eb<|trivial) (Hc (jW (by intro p hp;simp only[vfE,aOH,aOL,or_false]at hp;rcases hp with rfl|rfl<;>(simp only[qE];rfl)))<|Hc (aU _ _)<|Ha<|Hc (wH _ _)<|Hb<|trivial) ⟨rfl,rfl,rfl,rfl,rfl,trivial⟩)
  rw[hnx,aFm];refine aD<|aP follows<|Cr [9] (fun _ h=>lh aJ h)<|Cr [5] (fun _ h=>fh iG h)<|Cr [5] (fun _ h=>lh aJ h)<|Cr [] (fun _ _=>aG)<|Cr [] (fun H1 hH=>by exact aT rfl bT rfl rfl (by omega) (by exact aOG _) hix rfl)<|Cr [] (fun _ _=>(kS isAgg9 (hi:=hix)))<|Cr [] (fun _ _=>aG)<|Cr [] (fun H1 hH=>by exact dN rfl rfl rfl (show IntKind.i64.wrap (15 - (d:Int))=((15 - d:Nat):Int)by rw[iY (by omega) (by omega)];omega))<|Cr [] (fun H1 hH=>by exact aA rfl rfl aNe rfl (hch _))<|Cr [] (fun H1 hH=>by exact aQ [[.str (mY u (15 - d))]] rfl bT rfl rfl rfl rfl rfl (by intro r hr;rw[aNy]at hr;subst hr;rfl))<|Cp [905] (fun H1 hH=>by exact cF (ps:=[[.str (mY u (15 - d))]]) rfl bT CH rfl ((hH _ rfl).trans rfl) rfl rfl rfl (cT _) rfl (by intro r hr;rw[aNy]at hr;subst hr;rfl) (m:=1) rfl (by omega) rfl (kX (evP m l k) (mY u (15 - d)))) ?_;refine Cp [9] (fun H1 hH=>by exact bX rfl sizeOf22 rfl rfl rfl rfl ((hH _ rfl).trans rfl) rfl rfl rfl)<|bK<|Kr ?_;exact⟨[(905,⟨(evP m l k).length+1,1,9,bP (evP m l k++[mY u (15 - d)])⟩),(9,bx 1 22 [.osl 905 ((evP m l k).length+1) 0 ((evP m l k).length+1)]),(961,K0 m),(5,bx 3 25 [iv (q:Int),.pv (aS l),.pv (aS p)])],(cD.wk trivial (Hc (jW (by intro p hp;simp only[vfE,aOH,aOL,or_false]at hp;rcases hp with rfl|rfl<;>(simp only[qE];rfl)))<|Hc (aU _ _)<|Ha<|Hc (wH _ _)<|Hb<|trivial) ⟨rfl,rfl,rfl,rfl,rfl,trivial⟩),rfl,rfl⟩
 rintro r H' ⟨rfl,rfl⟩;refine⟨x,_,rfl,by rw[hx1];decide,rfl,fun z=>?_⟩;rw[hx2,SD h18];have hen:∀t∈iQ m l,t.size<=16:=fun t ht=>by
  rw[<-SD h18]at ht;obtain ⟨k,hk,rfl⟩:=List.mem_map.1 ht;exact Nat.le_of_eq (FB (jN (hlj _ (oD (by rw[h18];exact List.mem_range.1 hk)))) _)
 have hel:(iQ m l).length=18:=by rw[<-SD h18,aAY]
 have hof:∀H,aH Tryz.prog 94 [.pv (aS (iQ m l))] H (fun r H'=>r=sv (pB (iQ m l))/\H'=H):=fun H=>UP (iQ m l) H (by have h:=yE (b:=16) (by decide) _ hen;rw[hel]at h;omega);obtain ⟨S,hS⟩:∃S,S=iQ m l:=⟨_,rfl⟩;rw[<-hS]at hof |-;have hal:(S.map encStr).length=S.length:=aNv _;refine fL.ent (cD.fzG (id:=905) (E':=[(0,sv key),(5,.ref 5 0 0 0),(9,.ref 9 0 0 0)]) (H':=[(9,bx 1 22 [.pv (aS S)]),(5,bx 3 25 [iv (q:Int),.pv (aS l),.pv (aS p)])]) (S.map encStr) rfl (dR _) ?_ rfl ?_ ?_) ?_
 ·intro p hp;simp only[aOH,aOL,or_false]at hp;rcases hp with rfl|rfl|rfl
  ·exact⟨_,rfl,.same (by simp)⟩
  ·exact⟨_,rfl,.same (by simp;rfl)⟩
  exact⟨_,rfl,.same (by simp;rfl)⟩
 ·refine⟨⟨_,rfl,rfl,rfl,rfl,nG rfl (cG (.osl ?_) nO)⟩,⟨_,rfl,rfl,rfl,rfl,eJ (by simp)⟩,trivial⟩;rw[aON,List.drop_zero,<-hal,List.take_length]
 ·exact trivial
 refine Sr<|Dd (bQ aJ)<|Dd (by exact aA rfl rfl S0 rfl (hof _))<|Dd aM<|Zz<|Sq<|Sr<|Dd (bE lF)<|Dd (bQ aJ)<|Dd (fZ aC)<|Dd aG<|Zz<|aD ?_;have ha0:(pB S).size=16:=eR _;obtain ⟨a0,hA0⟩:∃a0,a0=pB S:=⟨_,rfl⟩;rw[<-hA0]at ha0 |-;refine iA (fun(k:Nat) (a:ByteArray)=>([(0,sv key),(5,.ref 5 0 0 0),(12,sv a),(68,.pv (aS p)),(69,iv ((p.map encStr).length:Int)),(70,iv (k:Int))],[(5,bx 3 25 [iv (q:Int),.pv (aS l),.pv (aS p)])])) (fun k a=>k<=p.length/\a.size=16/\gX a (p.drop k) (q / 2 ^ k)=gX a0 p q) (fun k a=>p.length - k) 0 a0 ⟨aOM _,ha0,by rw[List.drop_zero,Nat.pow_zero,Nat.div_one]⟩ ?_ ?_
 ·exact Wk
 rintro k a ⟨hk,ha,hf⟩;refine Sr<|Dd cP<|Zz<|Sq ?_;refine Cn ?_ ?_<;>intro hc2
 ·have hlt:k<p.length:=by have:=aNr hc2;omega
  have hix:(p.map encStr)[k]?=some (encStr (p.getD k sNil)):=by
   rw[aOP,List.getD_eq_getElem?_getD,aOA hlt];rfl
  have hdr:p.drop k=p.getD k sNil::p.drop (k+1):=by
   rw[List.drop_eq_getElem_cons hlt,List.getD_eq_getElem?_getD,aOA hlt];rfl
  have hosz:(p.getD k sNil).size=16:=jN (hpj _ (oD hlt));obtain ⟨o,ho⟩:∃o,o=p.getD k sNil:=⟨_,rfl⟩;rw[<-ho]at hix hdr hosz;have hqk:q / 2 ^ k<4611686018427387904:=Nat.lt_of_le_of_lt (Nat.div_le_self _ _) (by omega);have hnd:=fun H=>aAK a o (decide (((q / 2 ^ k % 2:Nat):Int)=1)) H (by omega) (by omega);have hbk:(decide (((q / 2 ^ k % 2:Nat):Int)=1)=true)=(q / 2 ^ k % 2=1):=by
   rw[aOC];exact propext ⟨fun h=>by omega,fun h=>by omega⟩
  simp only[hbk]at hnd;obtain ⟨b,hb⟩:∃b,b=(if q / 2 ^ k % 2=1 then jD o a else jD a o):=⟨_,rfl⟩;have hbs:b.size=16:=by rw[hb];split<;>exact eR _
  have hf2:gX b (p.drop (k+1)) (q / 2 ^ (k+1))=gX a0 p q:=by
   rw[<-hf,hdr,gX,<-hb,Nat.pow_succ,Nat.div_div_eq_div_mul]
  rw[<-hb]at hnd;have hnd2:∀H,aH Tryz.prog 95 [sv a,sv o,bv (decide (((q / 2 ^ k % 2:Nat):Int)=1))] H (fun r H'=>r=sv b/\H'=H):=hnd;refine aF<|Sq<|aD<|Sr<|Dd aG<|Dd (by exact aT rfl bT rfl rfl (by omega) (by exact aOG _) hix rfl)<|Dd (kS isAgg9 (hi:=hix))<|Dd aM<|Dd aM<|Zz<|Rg<|Dd aG<|Dd aG<|Dd (bE mD)<|Dd (bQ isAgg3)<|Dd aG<|Dd (by exact BI rfl rfl rfl (by omega) (by simp[IntKind.bits];omega) (aBI q k (aOG _)))<|Dd (by exact kU rfl (by simp) rfl rfl (aHq hqk))<|Dd dK<|Dd (by exact aA rfl rfl call95 rfl (hnd2 _))<|Dd aM<|Zz<|Rg<|Dd (by exact bG rfl rfl rfl (show IntKind.i64.wrap ((k:Int)+1)=((k+1:Nat):Int)by rw[iY (by omega) (by omega)];omega))<|Dd aG<|Zz ?_;exact⟨k+1,b,⟨by omega,hbs,hf2⟩,by omega,Wk⟩
 have hge:k=p.length:=by have:=aNs hc2;omega
 subst hge;rw[List.drop_length,gX]at hf;rw[<-hf];exact aY<|Sr<|Dd aG<|Dd aG<|Dd B3<|Dd aM<|Zz<|aE<|Rt<|Qq
end Go.Proofs.YtmdicgjnmfolfaaGreatDoor
namespace Go.Abs
open Go.Proofs
variable{w:World}{I:Nat->Prop}{ι:dX}{v:Value}{p:PV}{ps:List PV}{cells:List AV}{e e':TypeId}
section
section
variable{P:Program}{N:Nat}{o:Oper}{E:bS}{H:aB}{t t':TypeId}{x:Operand}
theorem KP(ho:o.op=.binOp .neq t x (.const .nilIface) t')(ht:P.underlying t=some (.interface (P.methodsAt t)))(hx:aO E x=some (.pv GB)):cH P N o E H (.pv (.bool false)) H :=.of_run fun a w I ι _ he=>⟨.bool false,by
  have e1:a.eval x=.nilIface:=(aI he hx).sat_inv;have e2:a.eval (.const .nilIface)=.nilIface:=rfl;simp only[execOp,ho,e1,e2,eqGuard,Sem.run_bind,Sem.run_pure,Result.andThen_ok,run_neq_nil_nil _ _ ht,Bool.or_true,if_true,Bool.not_true,Bool.false_eq_true,if_false],.pv (.bool _)⟩
theorem CT(ho:o.op=.binOp .neq t x (.const .nilIface) t')(ht:P.underlying t=some (.interface (P.methodsAt t)))(hx:aO E x=some (.pv aBs)):cH P N o E H (.pv (.bool true)) H :=.of_run fun a w I ι _ he=>⟨.bool true,by
  obtain ⟨q,p,e1⟩:aIN (a.eval x):=(aI he hx).sat_inv;have e2:a.eval (.const .nilIface)=.nilIface:=rfl;simp only[execOp,ho,e1,e2,eqGuard,Sem.run_bind,Sem.run_pure,Result.andThen_ok,run_neq_held_nil _ _ _ _ ht];rfl,.pv (.bool _)⟩
end
end
section
section
variable{P:Program}{N:Nat}{o:Oper}{E:bS}{H:aB}{t t' it:TypeId}{x:Operand}
theorem VRel.ifc_inv(h:VRel w I ι H v (.pv (.ifc t p))):∃u,v=.iface t u/\PRep w I u p:=by
 cases h with
 |pv h=>cases h with
  |ifc _ u _ h=>exact⟨u,rfl,h⟩
theorem VRel.ifa_inv(h:VRel w I ι H v (.pv (.ifa t ps))):∃cs:Array Value,v=.iface t (.agg cs)/\cs.size=ps.length/\∀(k:Nat) (c:Value) (p:PV),cs[k]?=some c->ps[k]?=some p->PRep w I c p:=by
 cases h with
 |pv h=>cases h with
  |ifa _ cs _ hl h=>exact⟨cs,rfl,hl,h⟩
theorem eM(ho:o.op=.makeInterface t x)(ht:P.concrete t=true)(hx:aO E x=some (.pv p)):cH P N o E H (.pv (.ifc t p)) H :=.of_run fun a w I ι _ he=>⟨.iface t (a.eval x),by simp[execOp,ho,run_makeInterface _ _ _ ht],.pv (.ifc _ _ _ (aI he hx).pv_inv)⟩
theorem D9(ho:o.op=.makeInterface t x)(ht:P.concrete t=true)(hx:aO E x=some (.agg (ps.map .pv))):cH P N o E H (.pv (.ifa t ps)) H :=.of_run fun a w I ι _ he=>⟨.iface t (a.eval x),by simp[execOp,ho,run_makeInterface _ _ _ ht],by
  have h:=aI he hx;generalize a.eval x=c at h;cases h with
  | @agg vs _ hl h1 hh =>
   refine .pv (.ifa _ _ _ (by simpa using hl) fun k c p hc hp=>?_);exact(hh k c (.pv p) hc (by rw[aOP,hp];rfl)).pv_inv⟩
theorem XI{d:TypeDesc}{u:Value}(w:World)(hd:P.underlying t=some d)(hni:∀ms,d≠.interface ms):(Instr.typeAssert (.iface t' u) it t true).run P w=if t'=t then .ok (.tuple #[u,.bool true]) w else((do pure (.tuple #[<-zeroValue t,.bool false])):Sem Value).run P w:=by
 unfold Instr.typeAssert;rw[Sem.run_bind,run_underlying hd,Result.andThen_ok];cases d with
 |interface ms=>exact absurd rfl (hni ms)
 |_ =>
  simp only
  split
  ·rfl
  rfl
theorem A7(h:P.concrete t=true):∃d,P.underlying t=some d/\∀ms,d≠.interface ms:=by
 unfold Program.concrete at h;cases hd:P.underlying t with
 |none=>rw[hd]at h;cases h
 |some d =>
  refine⟨d,rfl,fun ms e=>?_⟩;rw[hd,e]at h;cases h
theorem tB(ho:o.op=.typeAssert x it t true)(ht:P.concrete t=true)(hx:aO E x=some (.pv (.ifc t p))):cH P N o E H (.tup [.pv p,.pv (.bool true)]) H:=by
 obtain ⟨d,hd,hni⟩:=A7 ht;refine .of_run fun a w I ι _ he=>?_;obtain ⟨u,e1,h1⟩:=(aI he hx).ifc_inv;refine⟨.tuple #[u,.bool true],?_,?_⟩
 ·simp only[execOp,ho,e1];rw[Sem.run_bind,XI w hd hni,aNu rfl];rfl
 exact .tup rfl (fun i v a hv ha=>by
  match i with
  |0=>cases hv;cases ha;exact .pv h1
  |1=>cases hv;cases ha;exact .pv (.bool _)
  |i+2=>simp at ha)
theorem KN(ho:o.op=.typeAssert x it t true)(ht:P.concrete t=true)(hx:aO E x=some (.pv (.ifa t ps))):cH P N o E H (.tup [.agg (ps.map .pv),.pv (.bool true)]) H:=by
 obtain ⟨d,hd,hni⟩:=A7 ht;refine .of_run fun a w I ι _ he=>?_;obtain ⟨u,e1,hl,h1⟩:=(aI he hx).ifa_inv;refine⟨.tuple #[.agg u,.bool true],?_,?_⟩
 ·simp only[execOp,ho,e1];rw[Sem.run_bind,XI w hd hni,aNu rfl];rfl
 have hk:∀(k:Nat) (c:Value),u[k]?=some c->∃p,ps[k]?=some p/\PRep w I c p:=fun k c hc=>by
  have hlt:k<ps.length:=by rw[<-hl];exact(Array.getElem?_eq_some_iff.1 hc).1
  exact⟨ps[k],aOA hlt,h1 k c _ hc (aOA hlt)⟩
 exact .tup rfl (fun i v a hv ha=>by
  match i with
  |0 =>
   cases hv;cases ha;refine .agg (by simpa using hl) (fun k c hc=>?_) (fun k c b hc hb=>?_)
   ·obtain ⟨p,_,hp⟩:=hk k c hc;exact hp.oneCell
   obtain ⟨p,hp1,hp⟩:=hk k c hc;rw[aOP,hp1]at hb;cases hb;exact .pv hp
  |1=>cases hv;cases ha;exact .pv (.bool _)
  |i+2=>simp at ha)
theorem aIC(ho:o.op=.typeAssert x it t true)(ht:P.concrete t=true)(hZ:dM P t cells)(hne:t'≠t)
  (hx:∀(a:Act) (w:World) (I:Nat->Prop) (ι:dX),iB w I ι H E a->∃u,a.eval x=.iface t' u):cH P N o E H (.tup [.any,.pv (.bool false)]) H:=by
 obtain ⟨d,hd,hni⟩:=A7 ht;obtain ⟨z,v0,hz,_,_⟩:=hZ;refine .of_run fun a w I ι _ he=>?_;obtain ⟨u,e1⟩:=hx a w I ι he;refine⟨.tuple #[z,.bool false],?_,?_⟩
 ·simp only[execOp,ho,e1];rw[Sem.run_bind,XI w hd hni,aNt hne,Sem.run_bind,hz w];rfl
 exact .tup rfl (fun i v a hv ha=>by
  match i with
  |0=>cases hv;cases ha;exact .any _
  |1=>cases hv;cases ha;exact .pv (.bool _)
  |i+2=>simp at ha)
theorem jK(ho:o.op=.typeAssert x it t true)(ht:P.concrete t=true)(hZ:dM P t cells)(hne:Nat.beq t' t=false)(hx:aO E x=some (.pv (.ifc t' p))):cH P N o E H (.tup [.any,.pv (.bool false)]) H :=aIC ho ht hZ (fun e=>by subst e;rw[Nat.beq_refl]at hne;cases hne) (fun a w I ι he=>let ⟨u,e,_⟩:=(aI he hx).ifc_inv;⟨u,e⟩)
theorem xS(ho:o.op=.typeAssert x it t true)(ht:P.concrete t=true)(hZ:dM P t cells)(hne:Nat.beq t' t=false)(hx:aO E x=some (.pv (.ifa t' ps))):cH P N o E H (.tup [.any,.pv (.bool false)]) H :=aIC ho ht hZ (fun e=>by subst e;rw[Nat.beq_refl]at hne;cases hne) (fun a w I ι he=>let ⟨u,e,_⟩:=(aI he hx).ifa_inv;⟨_,e⟩)
end
end
section
section
variable{P:Program}{N:Nat}{o:Oper}{E:bS}{H:aB}{T T' t:TypeId}{x y:Operand}
theorem F0{ty:TypeId}{vs:Array Value}(w:World)(hT:P.underlying T=some (.slice e))(hT':P.underlying T'=some (.slice e')):(Builtin.append_ #[T,T'] ty vs).run P w=(Builtin.append_ #[T,T] ty vs).run P w:=by
 unfold Builtin.append_;cases h0:vs[0]? with
 |none=>rfl
 | some s =>
  cases h1:vs[1]? with
  |none=>rfl
  |some u =>
   cases s<;>simp[Sem.run_bind,run_underlying hT,run_underlying hT']
theorem F8{v:AV}{H2:aB}(ho:o.op=.call {callee:=.builtin .append,args:=#[x,y],argTypes:=#[T,T']})(hT:P.underlying T=some (.slice e))(hT':P.underlying T'=some (.slice e'))
  (h:cH P N {o with op:=.call {callee:=.builtin .append,args:=#[x,y],argTypes:=#[T,T]}} E H v H2):cH P N o E H v H2:=by
 intro a w I ι h1 h2 hr he K Q hk;have h3:=h a w I ι h1 h2 hr he K Q hk;unfold Oper.wpW execOp at h3 |-;simp only[ho,resolve,invoke,builtin,Sem.run_bind,Sem.run_pure,Result.andThen_ok,List.map_toArray,List.map_cons,List.map_nil,F0 w hT hT']at h3 |-;exact h3
theorem aAp{id g n m k sz bytes:Nat}{ob:Ob}{ps:List (List PV)}{rows':List (List AV)}(ho:o.op=.call {callee:=.builtin .append,args:=#[x,y],argTypes:=#[T,T']})(hT':P.underlying T'=some (.slice e'))(hS:eG P T e sz)(hinf:EI P e sz bytes)
  (hx:aO E x=some (.osl id g 0 n)) (hH:H.get id=some ob) (hg:ob.g=g) (hosz:ob.sz=sz) (hty:ob.ty=e) (hn:ob.rows.length=n)
  (hy:aO E y=some (.pv (.sl ps))) (hrl:∀r∈ps,r.length=sz) (hm:ps.length=m) (hbytes:(n+m)*bytes<=140737488355328) (hk:n+m=k) (hrows:ob.rows++ps.map (·.map AV.pv)=rows') :
  cH P N o E H (.osl id (g+1) 0 k) ((id,⟨g+1,sz,e,rows'⟩)::H) :=
 F8 ho hS.1 hT' (cF rfl hS hinf hx hH hg hosz hty hn hy hrl hm hbytes hk hrows)
end
end
end Go.Abs
namespace Go.Proofs.YtmdicgjnmfolfaaGreatDoor
open Go.Proofs.Tryz
open Go.Abs
variable{k:Nat}
inductive IV where
 |n (x:Int)
 |t (s:ByteArray)
 |b (x:Bool)
 |l (ts:List ByteArray)
 |z (i:Int) (a b:List ByteArray)
 |p (ps:List (Int×Int))
variable{l:List IV}{v:IV}
def gB(q:Int×Int):List PV:=[.int .i64 q.1,.int .i64 q.2]
def qJ(l:List (Int×Int)):PV:=.sl (l.map gB)
def aNC:IV->PV
 |.n x=>.ifc 3 (.int .i64 x)
 |.t s=>.ifc 9 (.str s)
 |.b x=>.ifc 4 (.bool x)
 |.l ts=>.ifc 22 (aS ts)
 |.z i a b=>.ifa 25 [.int .i64 i,aS a,aS b]
 |.p ps=>.ifc 26 (qJ ps)
def vL(v:IV):List PV:=[aNC v]
def fI:IV->List ByteArray
 |.n x=>[bI x]
 |.t s=>[s]
 |.b x=>[bI (if x then 1 else 0)]
 |.l ts=>bI (ts.length:Int)::ts
 |.z i a b=>bI i::((bI (a.length:Int)::a)++(bI (b.length:Int)::b))
 |.p ps=>bI (ps.length:Int)::ps.flatMap fun q=>[bI q.1,bI q.2]
def gI:IV->Nat
 |.n _=>1
 |.t _=>1
 |.b _=>1
 |.l _=>2
 |.z _ _ _=>5
 |.p ps=>1+2*ps.length
def rkI:IV->Nat
 |.n _=>0
 |.t _=>0
 |.b _=>1
 |.l _=>1
 |.z _ _ _=>2
 |.p _=>1
def pZ(x:Int):Prop := -9223372036854775808<=x/\x<=9223372036854775807
def okI:IV->Prop
 |.n x=>pZ x
 |.t _=>True
 |.b _=>True
 |.l ts=>ts.length<1099511627776
 |.z i a b=>pZ i/\a.length<1099511627776/\b.length<1099511627776
 |.p ps=>ps.length<1099511627776/\∀q∈ps,pZ q.1/\pZ q.2
def vK(l:List IV):List ByteArray:=l.flatMap fI
def YW(l:List IV):Nat:=(l.map gI).sum
theorem aEb(h:l[k]?=some v):vK (l.take (k+1))=vK (l.take k)++fI v:=by rw[vK,List.take_add_one,h,List.flatMap_append];simp[vK]
theorem aE6(h:l[k]?=some v):YW (l.take (k+1))=YW (l.take k)+gI v:=by rw[YW,List.take_add_one,h,List.map_append,List.sum_append];simp[YW]
theorem aJl(l:List IV)(k:Nat):(vK (l.take k)).length<=(vK l).length:=by
 have h:vK l=vK (l.take k)++vK (l.drop k):=by rw[vK,vK,vK,<-List.flatMap_append,List.take_append_drop]
 rw[h,aNw];omega
def fH(g:Nat)(L:List ByteArray):aB:=[(971,⟨g,1,9,bP L⟩),(970,bx 1 72 [.osl 971 g 0 L.length])]
theorem aEc(g:Nat)(L:List ByteArray)(s:ByteArray):fH (g+1) (L++[s])=[(971,⟨g+1,1,9,bP (L++[s])⟩),(970,bx 1 72 [.osl 971 (g+1) 0 (L.length+1)])]:=by simp[fH]
theorem cL{P:Program}{t:TypeId}{d:TypeDesc}(h:P.underlying t=some d)(hd:(match d with|.interface _=>false|_=>true)=true):P.concrete t=true:=by unfold Program.concrete;rw[h];cases d<;>first|rfl|cases hd
theorem LZ(l:List IV):∀r∈l.map vL,r.length=1:=fun r hr=>by
 obtain ⟨t,_,rfl⟩:=List.mem_map.1 hr;rfl
def aF3(r:Nat):Prop:=∀(l:List IV),(∀v∈l,rkI v<r/\okI v)->∀(g:Nat) (L:List ByteArray),l.length<1099511627776->L.length+(vK l).length<1099511627776 ->
 aH Tryz.prog 40 [.ref 970 0 0 0,.pv (.sl (l.map vL))] (fH g L) (fun r H'=>r=.tup []/\H'=fH (g+YW l) (L++vK l))
def M5(ps:List (Int×Int)):List ByteArray:=ps.flatMap fun q=>[bI q.1,bI q.2]
theorem IU:∀ps:List (Int×Int),(M5 ps).length=2*ps.length
 | []=>rfl
 |q::r=>by
  have ih:=IU r;rw[show M5 (q::r)=bI q.1::bI q.2::M5 r from rfl,aNx,aNx,aNx,ih];omega
theorem aD5{ps:List (Int×Int)}{j:Nat}{q:Int×Int}(h:ps[j]?=some q):M5 (ps.take (j+1))=M5 (ps.take j)++vK [.n q.1,.n q.2]:=by rw[M5,List.take_add_one,h,List.flatMap_append];rfl
theorem WL{args:List AV}{g g':Nat}{L L':List ByteArray}{H:aB}(h:aH Tryz.prog 40 args (fH g L) (fun r H'=>r=.tup []/\H'=fH g' L'))(hs:NA H (fH g L))(ha:∀a∈args,Clo (fH g L) a):
  aH Tryz.prog 40 args H (fun r H'=>r=.tup []/\H'=fH g' L'++H):=aH.frame h (NA.sub hs) (dF.ofL ⟨(by exact aU _ _),(by(simp;rfl)),trivial⟩) ha (fun id h=>.inl (aAT h))
theorem eN(A ts:List ByteArray):bP A++(ts.map encStr).map (·.map AV.pv)=bP (A++ts):=by rw[<-dR,bP,bP,bP,List.map_append]
theorem aFx(ts:List ByteArray):∀r∈ts.map encStr,r.length=1:=fun r hr=>by
 obtain ⟨t,_,rfl⟩:=List.mem_map.1 hr;rfl
theorem aHT(g:Nat)(A B:List ByteArray):fH g (A++B)=[(971,⟨g,1,9,bP (A++B)⟩),(970,bx 1 72 [.osl 971 g 0 (A.length+B.length)])]:=by simp[fH]
theorem aFN(r:Nat)(ih:∀q,q<r->aF3 q):aF3 r:=by
 intro l hl g L hll hLl;have hml:(l.map vL).length=l.length:=aNv _;have one:∀(y:Int),pZ y->1<r->∀(g':Nat) (L':List ByteArray),L'.length+1<1099511627776->aH Tryz.prog 40 [.ref 970 0 0 0,.pv (.sl [vL (.n y)])] (fH g' L') (fun r H'=>r=.tup []/\H'=fH (g'+1) (L'++[bI y])):=fun y hy h1 g' L' hs =>
  ih 1 h1 [.n y] (fun v hv=>by rw[aNy]at hv;subst hv;exact⟨by simp[rkI],hy⟩) g' L' (by simp) hs
 refine Bd func40 rfl ntmps40<|Sr<|Dd aG<|Dd (fZ underlying133)<|Dd aG<|Zz<|aD ?_;refine bL (σ:=Nat) (fun k=>([(0,.ref 970 0 0 0),(14,.pv (.sl (l.map vL))),(15,iv ((l.map vL).length:Int)),(16,iv (k:Int))],fH (g+YW (l.take k)) (L++vK (l.take k)))) (fun k=>k<=l.length) (fun k=>l.length - k) 0 (aOM _) ?_ ?_
 ·simp only[vK,YW,List.take_zero,List.flatMap_nil,List.map_nil,List.sum_nil,Nat.add_zero,List.append_nil];exact(cD.wk (Ea<|Eb<|Eb<|Eb<|trivial) (Hc (aU _ _)<|Ha<|trivial) ⟨rfl,rfl,trivial⟩)
 intro k hk;refine Sr<|Dd cP<|Zz<|Sq ?_;refine Cn ?_ ?_<;>intro hc1
 ·have hlt:k<l.length:=by have:=aNr hc1;omega
  obtain ⟨v,hv⟩:=aV hlt;obtain ⟨hrk,hok⟩:=hl v (aOF hv);have hi:=cA (f:=vL) hv;have hfn:=aEb hv;have hgn:=aE6 hv;have hle:=aJl l (k+1);rw[hfn]at hle;obtain ⟨L1,hL1⟩:∃L1,L1=L++vK (l.take k):=⟨_,rfl⟩;obtain ⟨g1,hg1⟩:∃g1,g1=g+YW (l.take k):=⟨_,rfl⟩;have hL2:L++vK (l.take (k+1))=L1++fI v:=by rw[hfn,hL1,List.append_assoc]
  have hg2:g+YW (l.take (k+1))=g1+gI v:=by rw[hgn,hg1,Nat.add_assoc]
  have hsz:L1.length+(fI v).length<1099511627776:=by
   rw[aNw]at hle;rw[hL1,aNw];omega
  have hwk:IntKind.i64.wrap ((k:Int)+1)=((k+1:Nat):Int):=by rw[iY (by omega) (by omega)];omega
  rw[<-hL1,<-hg1];clear hfn hgn hle;cases v with
  |n x =>
   have hx:pZ x:=hok;have hsz:L1.length+1<1099511627776:=hsz;refine aF<|Sq<|aD<|Sr<|Dd (by exact aT rfl uM rfl rfl (by omega) (by exact aOG _) hi rfl)<|Dd (kS qW (hi:=hi))<|Dd aM<|Zz<|Sr<|Dd aG<|Zz<|aD<|Sr<|Dd (by exact tB rfl (cL underlying3 rfl) rfl)<|Dd eZ<|Dd eZ<|Zz ?_;refine Cn ?_ ?_<;>intro hc2
   ·refine Sr<|Dd aM<|Zz<|aP follows<|Cr [970] (fun _ _=>aG)<|Cr [970] (fun _ _=>aG)<|Cr [970] (fun H1 hH=>by exact eU rfl rfl ((hH _ rfl).trans rfl) rfl)<|Cr [970] (fun _ h=>lh B6 h)<|Cr [] (fun _ _=>aG)<|Cr [] (fun H1 hH=>by exact aA rfl rfl nU rfl (rX x hx.1 hx.2 _))<|Cr [] (fun H1 hH=>by exact aQ [[.str (bI x)]] rfl XC rfl rfl rfl rfl rfl (by intro r hr;rw[aNy]at hr;subst hr;rfl))<|Cp [971] (fun H1 hH=>by exact cF (ps:=[[.str (bI x)]]) rfl XC CH rfl ((hH _ rfl).trans rfl) rfl rfl rfl (cT _) rfl (by intro r hr;rw[aNy]at hr;subst hr;rfl) (m:=1) rfl (by omega) rfl (kX L1 (bI x)))<|Cr [970] (fun H1 hH=>by exact eU rfl rfl ((hH _ rfl).trans rfl) rfl)<|Cp [970] (fun H1 hH=>by exact bX rfl HA rfl rfl rfl rfl ((hH _ rfl).trans rfl) rfl rfl rfl) ?_;refine bK<|Kr<|Rg<|Dd (by exact bG rfl rfl rfl hwk)<|Dd aG<|Zz ?_;refine⟨k+1,by omega,by omega,?_⟩;dsimp only;rw[hL2,hg2,show fI (.n x)=[bI x]from rfl,show gI (.n x)=1 from rfl,aEc];exact(cD.wk (Ea<|Eb<|Eb<|Eb<|trivial) (Hc (aU _ _)<|Ha<|trivial) ⟨rfl,rfl,trivial⟩)
   cases hc2
  |t s =>
   have hsz:L1.length+1<1099511627776:=hsz;refine aF<|Sq<|aD<|Sr<|Dd (by exact aT rfl uM rfl rfl (by omega) (by exact aOG _) hi rfl)<|Dd (kS qW (hi:=hi))<|Dd aM<|Zz<|Sr<|Dd aG<|Zz<|aD<|Sr<|Dd (by exact jK rfl (cL underlying3 rfl) zo3 rfl rfl)<|Dd eZ<|Dd eZ<|Zz ?_;refine Cn ?_ ?_<;>intro hc3
   ·cases hc3
   refine Sr<|Dd (by exact tB rfl (cL underlying9 rfl) rfl)<|Dd eZ<|Dd eZ<|Zz ?_;refine Cn ?_ ?_<;>intro hc4
   ·refine Sr<|Dd aM<|Zz<|Rg<|Dd aG<|Dd aG<|Dd zN<|Dd (bQ B6)<|Dd aG<|Dd (by exact aQ [[.str s]] rfl XC rfl rfl rfl rfl rfl (by intro r hr;rw[aNy]at hr;subst hr;rfl))<|Dd (by exact cF (ps:=[[.str s]]) rfl XC CH rfl rfl rfl rfl rfl (cT _) rfl (by intro r hr;rw[aNy]at hr;subst hr;rfl) (m:=1) rfl (by omega) rfl (kX L1 s))<|Dd zN<|Uu (kG HA)<|Zz<|Rg<|Dd (by exact bG rfl rfl rfl hwk)<|Dd aG<|Zz ?_;refine⟨k+1,by omega,by omega,?_⟩;dsimp only;rw[hL2,hg2,show fI (.t s)=[s]from rfl,show gI (.t s)=1 from rfl,aEc];exact(cD.wk (Ea<|Eb<|Eb<|Eb<|trivial) (Hc (aU _ _)<|Ha<|trivial) ⟨rfl,rfl,trivial⟩)
   cases hc4
  |b x =>
   have h1r:1<r:=hrk;have hsz:L1.length+1<1099511627776:=hsz;refine aF<|Sq<|aD<|Sr<|Dd (by exact aT rfl uM rfl rfl (by omega) (by exact aOG _) hi rfl)<|Dd (kS qW (hi:=hi))<|Dd aM<|Zz<|Sr<|Dd aG<|Zz<|aD<|Sr<|Dd (by exact jK rfl (cL underlying3 rfl) zo3 rfl rfl)<|Dd eZ<|Dd eZ<|Zz ?_;refine Cn ?_ ?_<;>intro hc5
   ·cases hc5
   refine Sr<|Dd (by exact jK rfl (cL underlying9 rfl) zo9 rfl rfl)<|Dd eZ<|Dd eZ<|Zz ?_;refine Cn ?_ ?_<;>intro hc6
   ·cases hc6
   refine Sr<|Dd (by exact tB rfl (cL dV rfl) rfl)<|Dd eZ<|Dd eZ<|Zz ?_;refine Cn ?_ ?_<;>intro hc7
   ·refine Sr<|Dd aM<|Zz<|Rg<|Dd aG<|Dd (by exact HN (id:=948) aEx rfl rfl)<|Uu (by exact HF (κ:=aEx) (.inr rfl) underlying134 dV rfl rfl rfl rfl rfl rfl rfl rfl)<|Dd aG<|Dd aG<|Dd (by exact KQ (κ:=aEx) rfl underlying134 dV rfl rfl rfl rfl rfl sP (.inl rfl))<|Dd (by exact eM (p:=.int .i64 (if x then 1 else 0)) rfl (cL underlying3 rfl) (by cases x<;>rfl))<|Dd (by exact aQ [vL (.n (if x then 1 else 0))] rfl uM rfl rfl rfl rfl rfl (by intro r hr;rw[aNy]at hr;subst hr;rfl))<|Dd (by exact aA rfl rfl uD rfl (WL (one (if x then 1 else 0) (by cases x<;>exact⟨by decide,by decide⟩) h1r g1 L1 hsz) ⟨rfl,rfl,trivial⟩ (by simp;rfl)))<|Zz<|Rg<|Dd (by exact bG rfl rfl rfl hwk)<|Dd aG<|Zz ?_;refine⟨k+1,by omega,by omega,?_⟩;dsimp only;rw[hL2,hg2,show fI (.b x)=[bI (if x then 1 else 0)]from rfl,show gI (.b x)=1 from rfl];exact(cD.wk (Ea<|Eb<|Eb<|Eb<|trivial) (Hc (aU _ _)<|Ha<|trivial) ⟨rfl,rfl,trivial⟩)
   cases hc7
  |l ts =>
   have h1r:1<r:=hrk;have hsz:L1.length+(ts.length+1)<1099511627776:=hsz;have hmt:(ts.map encStr).length=ts.length:=aNv _;obtain ⟨y,hy⟩:∃y,y=((ts.map encStr).length:Int):=⟨_,rfl⟩;have hyo:pZ y:=⟨by omega,by omega⟩;have hfl:L1++fI (.l ts)=(L1++[bI y])++ts:=by rw[hy,hmt,List.append_assoc];rfl
   have hll1:(L1++[bI y]).length=L1.length+1:=by rw[aNw];rfl
   refine aF<|Sq<|aD<|Sr<|Dd (by exact aT rfl uM rfl rfl (by omega) (by exact aOG _) hi rfl)<|Dd (kS qW (hi:=hi))<|Dd aM<|Zz<|Sr<|Dd aG<|Zz<|aD<|Sr<|Dd (by exact jK rfl (cL underlying3 rfl) zo3 rfl rfl)<|Dd eZ<|Dd eZ<|Zz ?_;refine Cn ?_ ?_<;>intro hc8
   ·cases hc8
   refine Sr<|Dd (by exact jK rfl (cL underlying9 rfl) zo9 rfl rfl)<|Dd eZ<|Dd eZ<|Zz ?_;refine Cn ?_ ?_<;>intro hc9
   ·cases hc9
   refine Sr<|Dd (by exact jK rfl (cL dV rfl) zo4 rfl rfl)<|Dd eZ<|Dd eZ<|Zz ?_;refine Cn ?_ ?_<;>intro hc10
   ·cases hc10
   refine Sr<|Dd (by exact tB rfl (cL aC rfl) rfl)<|Dd eZ<|Dd eZ<|Zz ?_;refine Cn ?_ ?_<;>intro hc11
   ·refine Sr<|Dd aM<|Zz<|Sr<|Dd aG<|Dd aG<|Dd (by exact cH.eqJ (kJ rfl bT.1 rfl) (congrArg (fun n:Int=>AV.pv (.int .i64 n)) hy.symm))<|Dd (by exact eM (p:=.int .i64 y) rfl (cL underlying3 rfl) rfl)<|Dd (by exact aQ [vL (.n y)] rfl uM rfl rfl rfl rfl rfl (by intro r hr;rw[aNy]at hr;subst hr;rfl))<|Dd (by exact aA rfl rfl uD rfl (WL (one y hyo h1r g1 L1 (by omega)) ⟨rfl,rfl,trivial⟩ (by simp;rfl)))<|Zz<|Rg<|Dd aG<|Dd aG<|Dd zN<|Dd (bQ B6)<|Dd aG<|Dd (by exact aAp (ps:=ts.map encStr) rfl aC XC CH rfl rfl rfl rfl rfl (cT _) rfl (aFx ts) (m:=ts.length) hmt (by rw[hll1];omega) rfl (eN (L1++[bI y]) ts))<|Dd zN<|Uu (kG HA)<|Zz<|Rg<|Dd (by exact bG rfl rfl rfl hwk)<|Dd aG<|Zz ?_;refine⟨k+1,by omega,by omega,?_⟩;dsimp only;rw[hL2,hg2,hfl,show gI (.l ts)=2 from rfl,aHT (g1+2) (L1++[bI y]) ts];exact(cD.wk (Ea<|Eb<|Eb<|Eb<|trivial) (Hc (aU _ _)<|Ha<|trivial) ⟨rfl,rfl,trivial⟩)
   cases hc11
  | z i a b =>
   have h2r:2<r:=hrk;obtain ⟨hio,hao,hbo⟩:pZ i/\a.length<1099511627776/\b.length<1099511627776:=hok;have e3:vK [.n i,.l a,.l b]=fI (.z i a b):=by simp[vK,fI]
   have h3:=ih 2 h2r [.n i,.l a,.l b] (by
    intro v hv;simp only[aOH,aOL,or_false]at hv;rcases hv with rfl|rfl|rfl
    ·exact⟨by simp[rkI],hio⟩
    ·exact⟨by simp[rkI],hao⟩
    exact⟨by simp[rkI],hbo⟩) g1 L1 (by simp) (by rw[e3];exact hsz)
   rw[e3]at h3;refine aF<|Sq<|aD<|Sr<|Dd (by exact aT rfl uM rfl rfl (by omega) (by exact aOG _) hi rfl)<|Dd (kS qW (hi:=hi))<|Dd aM<|Zz<|Sr<|Dd aG<|Zz<|aD<|Sr<|Dd (by exact xS rfl (cL underlying3 rfl) zo3 rfl rfl)<|Dd eZ<|Dd eZ<|Zz ?_;refine Cn ?_ ?_<;>intro hc12
   ·cases hc12
   refine Sr<|Dd (by exact xS rfl (cL underlying9 rfl) zo9 rfl rfl)<|Dd eZ<|Dd eZ<|Zz ?_;refine Cn ?_ ?_<;>intro hc13
   ·cases hc13
   refine Sr<|Dd (by exact xS rfl (cL dV rfl) zo4 rfl rfl)<|Dd eZ<|Dd eZ<|Zz ?_;refine Cn ?_ ?_<;>intro hc14
   ·cases hc14
   refine Sr<|Dd (by exact xS rfl (cL aC rfl) aK9 rfl rfl)<|Dd eZ<|Dd eZ<|Zz ?_;refine Cn ?_ ?_<;>intro hc15
   ·cases hc15
   refine Sr<|Dd (by exact KN (ps:=[.int .i64 i,aS a,aS b]) rfl (cL fT rfl) rfl)<|Dd eZ<|Dd eZ<|Zz ?_;refine Cn ?_ ?_<;>intro hc16
   ·refine Sr<|Dd (by exact bM (id:=10) rfl WW rfl rfl)<|Uu (kG sizeOf25)<|Zz<|Rg<|Dd aG<|Dd (bE mD)<|Dd (bQ isAgg3)<|Dd (by exact eM (p:=.int .i64 i) rfl (cL underlying3 rfl) rfl)<|Dd (bE iG)<|Dd (bQ aJ)<|Dd (by exact eM (p:=aS a) rfl (cL aC rfl) rfl)<|Dd (bE lF)<|Dd (bQ aJ)<|Dd (by exact eM (p:=aS b) rfl (cL aC rfl) rfl)<|Dd (by exact aQ [vL (.n i),vL (.l a),vL (.l b)] rfl uM rfl rfl rfl rfl rfl (by intro r hr;simp only[aOH,aOL,or_false]at hr;rcases hr with rfl|rfl|rfl<;>rfl))<|Dd (by exact aA rfl rfl uD rfl (WL h3 ⟨rfl,rfl,trivial⟩ (by simp;rfl)))<|Zz<|Rg<|Dd (by exact bG rfl rfl rfl hwk)<|Dd aG<|Zz ?_;refine⟨k+1,by omega,by omega,?_⟩;dsimp only;rw[hL2,hg2];exact(cD.wk (Ea<|Eb<|Eb<|Eb<|trivial) (Hc (aU _ _)<|Ha<|trivial) ⟨rfl,rfl,trivial⟩)
   cases hc16
  | p ps =>
   have h1r:1<r:=hrk;obtain ⟨hpl,hpo⟩:ps.length<1099511627776/\∀q∈ps,pZ q.1/\pZ q.2:=hok;have hfp:∀j,M5 (ps.take j)=(ps.take j).flatMap (fun q=>[bI q.1,bI q.2]):=fun _=>rfl;have hsz:L1.length+(1+2*ps.length)<1099511627776:=by
    have:(fI (.p ps)).length=1+2*ps.length:=by rw[show fI (.p ps)=bI (ps.length:Int)::M5 ps from rfl,aNx,IU];omega
    omega
   have hmt:(ps.map gB).length=ps.length:=aNv _;obtain ⟨y,hy⟩:∃y,y=((ps.map gB).length:Int):=⟨_,rfl⟩;have hyo:pZ y:=⟨by omega,by omega⟩;have hfl:L1++fI (.p ps)=(L1++[bI y])++M5 ps:=by rw[hy,hmt,List.append_assoc];rfl
   refine aF<|Sq<|aD<|Sr<|Dd (by exact aT rfl uM rfl rfl (by omega) (by exact aOG _) hi rfl)<|Dd (kS qW (hi:=hi))<|Dd aM<|Zz<|Sr<|Dd aG<|Zz<|aD<|Sr<|Dd (by exact jK rfl (cL underlying3 rfl) zo3 rfl rfl)<|Dd eZ<|Dd eZ<|Zz ?_;refine Cn ?_ ?_<;>intro hc17
   ·cases hc17
   refine Sr<|Dd (by exact jK rfl (cL underlying9 rfl) zo9 rfl rfl)<|Dd eZ<|Dd eZ<|Zz ?_;refine Cn ?_ ?_<;>intro hc18
   ·cases hc18
   refine Sr<|Dd (by exact jK rfl (cL dV rfl) zo4 rfl rfl)<|Dd eZ<|Dd eZ<|Zz ?_;refine Cn ?_ ?_<;>intro hc19
   ·cases hc19
   refine Sr<|Dd (by exact jK rfl (cL aC rfl) aK9 rfl rfl)<|Dd eZ<|Dd eZ<|Zz ?_;refine Cn ?_ ?_<;>intro hc20
   ·cases hc20
   refine Sr<|Dd (by exact jK rfl (cL fT rfl) WW rfl rfl)<|Dd eZ<|Dd eZ<|Zz ?_;refine Cn ?_ ?_<;>intro hc21
   ·cases hc21
   refine Sr<|Dd (by exact tB rfl (cL dY rfl) rfl)<|Dd eZ<|Dd eZ<|Zz ?_;refine Cn ?_ ?_<;>intro hc22
   ·refine Sr<|Dd aM<|Zz<|Sr<|Dd aG<|Dd aG<|Dd (by exact cH.eqJ (kJ rfl TT.1 rfl) (congrArg (fun n:Int=>AV.pv (.int .i64 n)) hy.symm))<|Dd (by exact eM (p:=.int .i64 y) rfl (cL underlying3 rfl) rfl)<|Dd (by exact aQ [vL (.n y)] rfl uM rfl rfl rfl rfl rfl (by intro r hr;rw[aNy]at hr;subst hr;rfl))<|Dd (by exact aA rfl rfl uD rfl (WL (one y hyo h1r g1 L1 (by omega)) ⟨rfl,rfl,trivial⟩ (by simp;rfl)))<|Zz<|Sr<|Dd aG<|Dd (fZ dY)<|Dd aG<|Zz<|aD ?_;refine bL (σ:=Nat) (fun j=>([(0,.ref 970 0 0 0),(14,.pv (.sl (l.map vL))),(15,iv ((l.map vL).length:Int)),(16,iv (k:Int)),(95,.pv (qJ ps)),(96,iv ((ps.map gB).length:Int)),(97,iv (j:Int))],fH (g1+1+2*j) ((L1++[bI y])++M5 (ps.take j)))) (fun j=>j<=ps.length) (fun j=>ps.length - j) 0 (aOM _) ?_ ?_
    ·rw[show M5 (ps.take 0)=[]from rfl,List.append_nil];exact(cD.wk (Ea<|Eb<|Eb<|Eb<|Eb<|Eb<|Eb<|trivial) (Hc (aU _ _)<|Ha<|trivial) ⟨rfl,rfl,trivial⟩)
    intro j hj;refine Sr<|Dd cP<|Zz<|Sq ?_;refine Cn ?_ ?_<;>intro hc23
    ·have hjl:j<ps.length:=by have:=aNr hc23;omega
     obtain ⟨q,hq⟩:=aV hjl;have hqi:=cA (f:=gB) hq;obtain ⟨hq1,hq2⟩:=hpo q (aOF hq);have hnx:=aD5 hq;have hln:(L1++[bI y]++M5 (ps.take j)).length=L1.length+1+2*j:=by rw[aNw,aNw,IU,aOJ];simp;omega
     have h2:=ih 1 h1r [.n q.1,.n q.2] (by
      intro v hv;simp only[aOH,aOL,or_false]at hv;rcases hv with rfl|rfl
      ·exact⟨by simp[rkI],hq1⟩
      exact⟨by simp[rkI],hq2⟩) (g1+1+2*j) (L1++[bI y]++M5 (ps.take j)) (by simp) (by rw[hln];show L1.length+1+2*j+2<_;omega)
     refine aF<|Sq<|aD<|Sr<|Dd (by exact aT rfl TT rfl rfl (by omega) (by exact aOG _) hqi rfl)<|Dd (by exact cU rfl dZ sizeOf68 rfl hqi (by simp only[Zl,encStr];rfl) rfl)<|Dd (by exact bM (id:=13) rfl aK5 rfl rfl)<|Uu (kG sizeOf68)<|Zz<|Rg<|Dd aG<|Dd (bE vI)<|Dd (bQ isAgg3)<|Dd (by exact eM (p:=.int .i64 q.1) rfl (cL underlying3 rfl) rfl)<|Dd (bE vG)<|Dd (bQ isAgg3)<|Dd (by exact eM (p:=.int .i64 q.2) rfl (cL underlying3 rfl) rfl)<|Dd (by exact aQ [vL (.n q.1),vL (.n q.2)] rfl uM rfl rfl rfl rfl rfl (by intro r hr;simp only[aOH,aOL,or_false]at hr;rcases hr with rfl|rfl<;>rfl))<|Dd (by exact aA rfl rfl uD rfl (WL h2 ⟨rfl,rfl,trivial⟩ (by simp;rfl)))<|Zz<|Rg<|Dd (by exact bG rfl rfl rfl (show IntKind.i64.wrap ((j:Int)+1)=((j+1:Nat):Int)by rw[iY (by omega) (by omega)];omega)) ?_;refine Dd aG<|Zz ?_;refine⟨j+1,by omega,by omega,?_⟩;dsimp only;rw[hnx,<-List.append_assoc,show g1+1+2*(j+1)=g1+1+2*j+YW [.n q.1,.n q.2]from rfl];exact(cD.wk (Ea<|Eb<|Eb<|Eb<|Eb<|Eb<|Eb<|trivial) (Hc (aU _ _)<|Ha<|trivial) ⟨rfl,rfl,trivial⟩)
    have hjg:j=ps.length:=by have:=aNs hc23;omega
    subst hjg;rw[List.take_length];refine aY<|Rg<|Dd (by exact bG rfl rfl rfl hwk)<|Dd aG<|Zz ?_;refine⟨k+1,by omega,by omega,?_⟩;dsimp only;rw[hL2,hg2,hfl,show g1+gI (.p ps)=g1+1+2*ps.length from(Nat.add_assoc _ _ _).symm];exact(cD.wk (Ea<|Eb<|Eb<|Eb<|trivial) (Hc (aU _ _)<|Ha<|trivial) ⟨rfl,rfl,trivial⟩)
   cases hc22
 have hge:k=l.length:=by have:=aNs hc1;omega
 subst hge;rw[List.take_length];refine aY ?_;exact qU (.inl rfl) rfl Fin.refl ⟨rfl,rfl⟩
theorem aKK(r:Nat):aF3 r:=Nat.strongRecOn r (fun r ih=>aFN r ih)
theorem aKy(v:IV):rkI v<3:=by cases v<;>simp[rkI]
theorem ZF(l:List IV)(hl:∀v∈l,okI v)(g:Nat)(L:List ByteArray)(hll:l.length<1099511627776)(hs:L.length+(vK l).length<1099511627776):
  aH Tryz.prog 40 [.ref 970 0 0 0,.pv (.sl (l.map vL))] (fH g L) (fun r H'=>r=.tup []/\H'=fH (g+YW l) (L++vK l)) :=
 aKK 3 l (fun v hv=>⟨aKy v,hl v hv⟩) g L hll hs
structure GSeal where
 idx:Int
 sig:List ByteArray
 path:List ByteArray
 deriving DecidableEq
structure GPriv where
 name:ByteArray
 reason:ByteArray
 sources:List ByteArray
 trace:List (Int×Int)
 sl:GSeal
 deriving DecidableEq
structure GRec where
 kind:Int
 author:Int
 number:Int
 clock:Int
 branch:ByteArray
 parents:List ByteArray
 edits:List GEdit
 target:ByteArray
 yes:Bool
 order:Int
 from':ByteArray
 sl:GSeal
 priv:GPriv
def gG(s:GSeal):List PV:=[.int .i64 s.idx,aS s.sig,aS s.path]
def sB(p:GPriv):List PV:=[.str p.name,.str p.reason,aS p.sources,qJ p.trace,.int .i64 p.sl.idx,aS p.sl.sig,aS p.sl.path]
def bU(r:GRec):List PV:=[.int .i64 r.kind,.int .i64 r.author,.int .i64 r.number,.int .i64 r.clock,.str r.branch,aS r.parents,jF r.edits,.str r.target,.bool r.yes,.int .i64 r.order,.str r.from',.int .i64 r.sl.idx,aS r.sl.sig,aS r.sl.path,.str r.priv.name,.str r.priv.reason,aS r.priv.sources,qJ r.priv.trace,.int .i64 r.priv.sl.idx,aS r.priv.sl.sig,aS r.priv.sl.path]
def KV(l:List ByteArray):Prop:=l.length<1099511627776/\∀t∈l,t.size<1099511627776
def qY(s:GSeal):Prop:=pZ s.idx/\KV s.sig/\KV s.path
def YA(p:GPriv):Prop:=p.name.size<1099511627776/\p.reason.size<1099511627776/\KV p.sources/\p.trace.length<1099511627776/\qY p.sl
def aIx(q:ByteArray->Bool)(l:List ByteArray)(k:Nat):Bool:=match l[k]? with|some s=>q s|none=>false
theorem aG4(q:ByteArray->Bool)(l:List ByteArray):(List.range l.length).any (aIx q l)=l.any q:=QM l q
theorem MG(f:FuncId)(l:List ByteArray)(q:ByteArray->Bool)(hl:l.length<1099511627776)(hf:∀s∈l,cK Tryz.prog (.pv (.fn f)) [sv s] [] (fun r H'=>r=bv (q s)/\H'=[]))(H:aB):
  aH Tryz.prog 62 [.pv (aS l),.pv (.fn f)] H (fun r H'=>r=bv (l.any q)/\H'=H):=by
 refine Pu ?_;have hc:=qD (.pv (.fn f)) l (aIx q l) (fun _=>[]) (by omega) (fun k s hk=>by
  rw[aIx,hk];exact hf s (aOF hk))
 rw[aG4]at hc;exact hc
theorem aJo(t:ByteArray)(ht:t.size<1099511627776)(H:aB):aH Tryz.prog 124 [sv t] H (fun r H'=>r=bv (KW t)/\H'=H):=by refine Pu ?_;exact Bd func124 rfl ntmps124<|Sr<|Dd aM<|Zz<|Sr<|Dd aG<|Dd (by exact aA rfl rfl aNf rfl (aEV t ht _))<|Dd mT<|Dd aM<|Zz<|aE<|Rt<|Qq
theorem GU(l:List ByteArray)(hl:KV l)(H:aB):aH Tryz.prog 71 [.pv (aS l)] H (fun r H'=>r=bv (l.all isJ)/\H'=H):=by refine Pu ?_;have hc:=MG 124 l KW hl.1 (fun s hs=>cK.fn call124 (aJo s (hl.2 s hs) [])) [];rw[FF]at hc;refine Bd func71 rfl ntmps71<|Sr<|Dd aM<|Zz<|Sr<|Dd aG<|Dd (by exact aA rfl rfl S2 rfl (hc))<|Dd mT<|Dd aM<|Zz<|aE<|Rt ?_;exact⟨by rw[Bool.not_not],rfl⟩
def uG(s:GSeal):Bool:=decide (s.idx=0)&&decide (((s.sig.map encStr).length:Int)+((s.path.map encStr).length:Int)=0)
theorem aCc(s:GSeal)(hs:qY s)(H:aB):aH Tryz.prog 81 [av (gG s)] H (fun r H'=>r=bv (uG s)/\H'=H):=by
 refine Pu ?_;have h1:(s.sig.map encStr).length<1099511627776:=by rw[aNv];exact hs.2.1.1
 have h2:(s.path.map encStr).length<1099511627776:=by rw[aNv];exact hs.2.2.1
 refine Bd func81 rfl ntmps81<|Sr<|Dd (by exact cE (id:=1) rfl rfl rfl rfl rfl)<|Dd aM<|Zz<|Sq ?_;refine bF (t:=2) (n:=15) (X:=uG s) ?_ ?_
 ·all_goals refine Dd (bE mD) ?_
  all_goals refine Dd (bQ isAgg3)<|Dd dK<|Dm ?_
  all_goals refine Sp 6 (fun h6=>?_) fun h6=>?_
  all_goals try contradiction
  all_goals first|refine Fo<|Fo<|Fo<|Fo<|Fo<|Fo<|Fo<|Fo ?_|refine On (bE iG)<|On (bQ aJ)<|On (fZ aC)<|On (bE lF)<|On (bQ aJ)<|On (fZ aC)<|On (by exact bG rfl rfl rfl (iY (by omega) (by omega)))<|On dK ?_
  all_goals refine Dd cN<|Da ?_
  all_goals(exact⟨⟨_,rfl,by(rw[uG,h6];rfl)⟩,rfl,rfl,rfl⟩)
 exact aE<|Rt<|Qq
def jQ(s:GSeal):Bool:=uG s||(((((decide (0<=s.idx)&&decide (s.idx<256))&&decide (((s.sig.map encStr).length:Int)=18))&&decide (((s.path.map encStr).length:Int)<=8))&&s.sig.all isJ)&&s.path.all isJ)
theorem VB(s:GSeal)(hs:qY s)(H:aB):aH Tryz.prog 66 [av (gG s)] H (fun r H'=>r=bv (jQ s)/\H'=H):=by
 refine Pu ?_;have hz:=fun H=>aCc s hs H;have hd1:=fun H=>GU s.sig hs.2.1 H;have hd2:=fun H=>GU s.path hs.2.2 H;obtain ⟨zz,hzz⟩:∃zz,zz=uG s:=⟨_,rfl⟩;rw[<-hzz]at hz;refine Bd func66 rfl ntmps66<|Sr<|Dd (by exact cE (id:=1) rfl rfl rfl rfl rfl)<|Dd aM<|Zz<|Sq ?_;refine bF (t:=2) (n:=41) (X:=jQ s) ?_ ?_
 ·all_goals refine Dd (by exact aN rfl eA sizeOf25 rfl rfl rfl rfl (by simp only[Zl,encStr];rfl) rfl) ?_
  all_goals refine Dd (by exact aA rfl rfl call81 rfl (hz _))<|Dm ?_
  all_goals refine Sp 5 (fun h5=>?_) fun h5=>?_
  all_goals try contradiction
  all_goals first|refine Fo<|Fo<|Fo<|Fo ?_|refine On (bE mD)<|On (bQ isAgg3)<|On LN<|On aG ?_
  all_goals(first|refine Sp 9 (fun h9=>?_) fun h9=>?_|refine yT (t:=9) rfl ?_)
  all_goals try contradiction
  all_goals first|refine Fo ?_|refine Fu ?_|refine On (bE mD) ?_
  all_goals first|refine Fo ?_|refine Fu ?_|refine On (bQ isAgg3) ?_
  all_goals first|refine Fo ?_|refine Fu ?_|refine On cP ?_
  all_goals first|refine Fo<|Fo ?_|refine On cN<|On aG ?_
  all_goals(first|refine Sp 14 (fun h14=>?_) fun h14=>?_|refine yT (t:=14) rfl ?_)
  all_goals try contradiction
  all_goals first|refine Fo ?_|refine Fu ?_|refine On (bE iG) ?_
  all_goals first|refine Fo ?_|refine Fu ?_|refine On (bQ aJ) ?_
  all_goals first|refine Fo ?_|refine Fu ?_|refine On (fZ aC) ?_
  all_goals first|refine Fo ?_|refine Fu ?_|refine On dK ?_
  all_goals first|refine Fo<|Fo ?_|refine On cN<|On aG ?_
  all_goals(first|refine Sp 20 (fun h20=>?_) fun h20=>?_|refine yT (t:=20) rfl ?_)
  all_goals try contradiction
  all_goals first|refine Fo ?_|refine Fu ?_|refine On (bE lF) ?_
  all_goals first|refine Fo ?_|refine Fu ?_|refine On (bQ aJ) ?_
  all_goals first|refine Fo ?_|refine Fu ?_|refine On (fZ aC) ?_
  all_goals first|refine Fo ?_|refine Fu ?_|refine On TA ?_
  all_goals first|refine Fo<|Fo ?_|refine On cN<|On aG ?_
  all_goals(first|refine Sp 26 (fun h26=>?_) fun h26=>?_|refine yT (t:=26) rfl ?_)
  all_goals try contradiction
  all_goals first|refine Fo ?_|refine Fu ?_|refine On (bE iG) ?_
  all_goals first|refine Fo ?_|refine Fu ?_|refine On (bQ aJ) ?_
  all_goals first|refine Fo ?_|refine Fu ?_|refine On (by exact aA rfl rfl aFc rfl (hd1 _)) ?_
  all_goals first|refine Fo<|Fo ?_|refine On cN<|On aG ?_
  all_goals(first|refine Sp 31 (fun h31=>?_) fun h31=>?_|refine yT (t:=31) rfl ?_)
  all_goals try contradiction
  all_goals first|refine Fo ?_|refine Fu ?_|refine On (bE lF) ?_
  all_goals first|refine Fo ?_|refine Fu ?_|refine On (bQ aJ) ?_
  all_goals first|refine Fo ?_|refine Fu ?_|refine On (by exact aA rfl rfl aFc rfl (hd2 _)) ?_
  all_goals first|refine Fo ?_|refine On cN ?_
  all_goals refine Dd cN<|Da ?_
  all_goals(exact⟨⟨_,rfl,by first|(rw[jQ,<-hzz,h5];rfl)|(rw[jQ,<-hzz,h5,h9];rfl)|(rw[jQ,<-hzz,h5,h9,h14];rfl)|(rw[jQ,<-hzz,h5,h9,h14,h20];rfl)|(rw[jQ,<-hzz,h5,h9,h14,h20,h26];rfl)|(rw[jQ,<-hzz,h5,h9,h14,h20,h26,h31];rfl)⟩,rfl,rfl,rfl⟩)
 exact aE<|Rt<|Qq
def gD(p:GPriv):Bool:=decide (p.name++p.reason=sNil)&&decide (((p.sources.map encStr).length:Int)+((p.trace.map gB).length:Int)=0)
theorem aA1(p:GPriv)(hp:YA p)(H:aB):aH Tryz.prog 80 [av (sB p)] H (fun r H'=>r=bv (gD p)/\H'=H):=by
 refine Pu ?_;obtain ⟨a1,a2,a3,a4,a5⟩:=hp;have h1:(p.sources.map encStr).length<1099511627776:=by rw[aNv];exact a3.1
 have h2:(p.trace.map gB).length<1099511627776:=by rw[aNv];exact a4
 have h3:(p.name++p.reason).size=p.name.size+p.reason.size:=ByteArray.size_append;refine Bd func80 rfl ntmps80<|Sr<|Dd (by exact cE (id:=1) rfl rfl rfl rfl rfl)<|Dd aM<|Zz<|Sq ?_;refine bF (t:=2) (n:=18) (X:=gD p) ?_ ?_
 ·all_goals refine Dd (bE C7) ?_
  all_goals refine Dd (bQ isAgg9)<|Dd (bE C6)<|Dd (bQ isAgg9)<|Dd (by exact gJ rfl rfl rfl (by omega) rfl)<|Dd B3<|Dm ?_
  all_goals refine Sp 9 (fun h9=>?_) fun h9=>?_
  all_goals try contradiction
  all_goals first|refine Fo<|Fo<|Fo<|Fo<|Fo<|Fo<|Fo<|Fo ?_|refine On (bE A0)<|On (bQ aJ)<|On (fZ aC)<|On (bE tP)<|On (bQ jT)<|On (fZ dY)<|On (by exact bG rfl rfl rfl (iY (by omega) (by omega)))<|On dK ?_
  all_goals refine Dd cN<|Da ?_
  all_goals(exact⟨⟨_,rfl,by(rw[gD,h9];rfl)⟩,rfl,rfl,rfl⟩)
 exact aE<|Rt<|Qq
theorem JM(n a b:Int)(H:aB):aH Tryz.prog 60 [iv n,iv a,iv b] H (fun r H'=>r=bv (decide (a<=n)&&decide (n<=b))/\H'=H):=by
 refine Pu ?_;refine Bd func60 rfl ntmps60<|Sr<|Dd aM<|Zz<|Sq ?_;refine bF (t:=6) (n:=10) (X:=decide (a<=n)&&decide (n<=b)) ?_ ?_
 ·all_goals refine Dd aG ?_
  all_goals refine Dd aG<|Dd LN<|Dm ?_
  all_goals refine Sp 10 (fun h10=>?_) fun h10=>?_
  all_goals try contradiction
  all_goals first|refine Fo<|Fo<|Fo ?_|refine On aG<|On aG<|On TA ?_
  all_goals refine Dd cN<|Da ?_
  all_goals(exact⟨⟨_,rfl,by(rw[h10];rfl)⟩,rfl,rfl,rfl⟩)
 exact aE<|Rt<|Qq
def HQ(s:ByteArray):Bool:=decide (200<(s.size:Int))
theorem aJ4(s:ByteArray)(H:aB):aH Tryz.prog 63 [sv s] H (fun r H'=>r=bv (HQ s)/\H'=H):=by refine Pu ?_;exact Bd func63 rfl ntmps63<|Sr<|Dd aM<|Zz<|Sr<|Dd aG<|Dd (nF underlying9)<|Dd mN<|Dd aM<|Zz<|aE<|Rt<|Qq
theorem Z5(l:List ByteArray)(hl:l.length<1099511627776)(H:aB):aH Tryz.prog 61 [.pv (aS l)] H (fun r H'=>r=bv (!l.any HQ)/\H'=H):=by refine Pu ?_;have hc:=MG 63 l HQ hl (fun s hs=>cK.fn call63 (aJ4 s [])) [];exact Bd func61 rfl ntmps61<|Sr<|Dd aM<|Zz<|Sr<|Dd aG<|Dd (by exact aA rfl rfl S2 rfl (hc))<|Dd mT<|Dd aM<|Zz<|aE<|Rt<|Qq
end Go.Proofs.YtmdicgjnmfolfaaGreatDoor
namespace Go.Abs
section
section
variable{P:Program}{N:Nat}{o:Oper}{E:bS}{H:aB}{S T t:TypeId}{x:Operand}{id g n m:Nat}{ob:Ob}
theorem CU(ho:o.op=.convert S T x)(hS:P.underlying S=some .unsafePointer)(hT:P.underlying T=some (.pointer t))(hi:(P.info? t).map (·.size)=some (n+1))(hc:P.cellsOf ob.ty=m+1)(hx:aO E x=some (.ref id g 0 0))(hH:H.get id=some ob)(hg:ob.g=g)(hne:ob.rows≠[])(hsz:ob.sz=m+1)(hl:∀c,liesAt P P.depth ob.ty (c+1) 0 t 1=true):cH P N o E H (.ref id g 0 0) H :=.of_run fun a w I ι hr he=>by
  have hv:=aI he hx;obtain ⟨b,cap,e1,e2,e3,e4⟩:=F1 hr hv hH hg hne;obtain ⟨j,h1,h2⟩:=wQ hi;rw[e1]at hv;refine⟨_,?_,hv⟩;simp only[execOp,ho,e1];have hq:cap*ob.sz / P.cellsOf ob.ty=(cap - 1)+1:=by rw[hc,hsz,Nat.mul_div_cancel _ (by omega)];omega
  rw[Sem.run_bind,Lib.run_from_unsafe w ⟨b,0,none⟩ hS hT h1 e2 (by rw[hq];exact hl _)];rfl
end
end
end Go.Abs
namespace Go.Proofs.YtmdicgjnmfolfaaGreatDoor
open Go.Proofs.Tryz
open Go.Abs
variable{H K:aB}{g n g' i k j:Nat}{u u':Bool}{l l' r w:List UInt8}{c:UInt8}{s:ByteArray}
theorem aLc(c:Nat):liesAt Tryz.prog Tryz.prog.depth 245 (c+1) 0 137 1=true:=by kernel_rfl
def DB(buf:AV)(u:Bool):Ob:=⟨0,2,245,[[WG u,buf]]⟩
def mV(g:Nat)(l:List UInt8)(u:Bool):aB:=[(2001,DB (.osl 2002 g 0 l.length) u),(2002,⟨g,1,5,dQ l⟩)]
theorem MM(h1:(H.get 2001).isSome=true)(h2:(H.get 2002).isSome=true):∀r∈(DB (.osl 2002 g 0 n) u).rows,∀a∈r,Clo H a:=by
 intro r hr a ha;simp only[DB,aNy]at hr;subst hr;simp only[aOH,aOL,or_false]at ha;rcases ha with rfl|rfl
 ·cases u<;>simp[WG,h1]
 simp[h2]
theorem E8(buf:AV)(u:Bool)(K:aB):aH Tryz.prog 147 [.ref 2001 0 0 0] ((2001,DB buf u)::K) (fun r H'=>r=.tup []/\H'=(2001,DB buf true)::K):=by
 cases u with
 |false =>
  refine Bd aCW rfl WR<|Sr<|Dd aG<|Dd zN<|Dd (bE uX)<|Dd (bQ zJ)<|Dd (by exact HM rfl fE rfl rfl)<|Zz ?_;refine Cn ?_ ?_<;>intro hc1
  ·refine Rg<|Dd aG<|Dd aG<|Dd (by exact CA (n:=1) rfl fE DI (by kernel_rfl) rfl rfl rfl (by simp[DB]))<|Dd (by exact IZ rfl rfl func182 rfl rfl rfl rfl rfl (VC (.ref 2001 0 0 0)))<|Dd (by exact CU (n:=1) (m:=1) rfl DI fE (by kernel_rfl) (by kernel_rfl) rfl rfl rfl (by simp[DB]) rfl aLc)<|Dd zN<|Dd (bE uX)<|Uu (by exact bD rfl aKL rfl rfl rfl rfl rfl rfl (aOI rfl) rfl rfl)<|Zz ?_;exact qU (.inl rfl) rfl (Fin.get' (H':=(2001,DB buf true)::K) (fun j=>uV 2001 (DB buf true) (DB buf false) K j)) ⟨rfl,rfl⟩
  cases hc1
 |true =>
  refine Bd aCW rfl WR<|Sr<|Dd aG<|Dd zN<|Dd (bE uX)<|Dd (bQ zJ)<|Dd (by exact HL rfl fE rfl rfl rfl rfl)<|Zz ?_;refine Cn ?_ ?_<;>intro hc1
  ·cases hc1
  refine Sr<|Dd aG<|Dd zN<|Dd (bE uX)<|Dd (bQ zJ)<|Dd aG<|Dd (by exact D8 (n:=1) rfl fE (by kernel_rfl) rfl rfl rfl rfl)<|Zz ?_;refine Cn ?_ ?_<;>intro hc2
  ·cases hc2
  refine aF ?_;exact qU (.inl rfl) rfl Fin.refl ⟨rfl,rfl⟩
theorem WD(g:Nat)(l m:List UInt8)(h:m.length=n):mV (g+1) (l++m) true=[(2001,DB (.osl 2002 (g+1) 0 (l.length+n)) true),(2002,⟨g+1,1,5,dQ (l++m)⟩)]:=by subst h;simp[mV]
theorem QT(g:Nat)(l:List UInt8)(u:Bool)(c:UInt8)(hl:l.length<70368744177664):aH Tryz.prog 110 [.ref 2001 0 0 0,.pv (.int .u8 c.toNat)] (mV g l u) (fun r H'=>r=.pv GB/\H'=mV (g+1) (l++[c]) true):=by refine Bd func110 rfl ntmps110<|Sr<|Dd aM<|Zz<|Sr<|Dd aG<|Dd (by exact aA rfl rfl MY rfl (E8 _ u _))<|Zz<|Sr<|Dd aG<|Dd aG<|Dd zN<|Dd (bE fK)<|Dd (bQ cS)<|Dd aG<|Dd (by exact aQ [[.int .u8 c.toNat]] rfl wA rfl rfl rfl rfl rfl (by intro r hr;rw[aNy]at hr;subst hr;rfl))<|Dd (by exact cF (ps:=[[.int .u8 c.toNat]]) rfl wA ei5 rfl rfl rfl rfl rfl (oF l) rfl (by intro r hr;rw[aNy]at hr;subst hr;rfl) (m:=1) rfl (by omega) rfl (pR l [c]))<|Dd zN<|Dd (bE fK)<|Uu (by exact bD rfl mX rfl rfl rfl rfl rfl rfl (aOI rfl) rfl rfl)<|Zz<|Sr<|Dd aM<|Zz<|aE ?_;rw[WD g l [c] (n:=1) rfl];refine dC (H':=[(2001,DB (.osl 2002 (g+1) 0 (l.length+1)) true),(2002,⟨g+1,1,5,dQ (l++[c])⟩)]) (.inr rfl) rfl (aW rfl) (Fin.get' (fun j=>ET (by decide) j)) ?_;exact Qq
theorem AB(g:Nat)(l:List UInt8)(u:Bool)(s:ByteArray)(hl:l.length+s.size<70368744177664):aH Tryz.prog 109 [.ref 2001 0 0 0,sv s] (mV g l u) (fun r H'=>r=.tup [iv (s.size:Int),.pv GB]/\H'=mV (g+1) (l++s.data.toList) true):=by refine Bd func109 rfl ntmps109<|Sr<|Dd aM<|Dd aM<|Zz<|Sr<|Dd aG<|Dd (by exact aA rfl rfl MY rfl (E8 _ u _))<|Zz<|Sr<|Dd aG<|Dd aG<|Dd zN<|Dd (bE fK)<|Dd (bQ cS)<|Dd aG<|Dd (by exact rN rfl wA underlying9 ei5 IJ rfl rfl rfl rfl rfl (oF l) rfl (by omega) rfl (pR l s.data.toList))<|Dd zN<|Dd (bE fK)<|Uu (by exact bD rfl mX rfl rfl rfl rfl rfl rfl (aOI rfl) rfl rfl)<|Zz<|Sr<|Dd aG<|Dd (nF underlying9)<|Dd aM<|Dd aM<|Zz<|aE ?_;rw[WD g l s.data.toList (n:=s.size) rfl];refine tX (H':=[(2001,DB (.osl 2002 (g+1) 0 (l.length+s.size)) true),(2002,⟨g+1,1,5,dQ (l++s.data.toList)⟩)]) (.inr rfl) rfl (aW rfl) (aW rfl) (Fin.get' (fun j=>ET (by decide) j)) ?_;exact Qq
def WF(g:Nat)(l:List UInt8)(u:Bool):aB:=[(2002,⟨g+1,1,5,[]⟩),(2001,DB (.osl 2002 g 0 l.length) u)]
theorem aIk(g:Nat)(l:List UInt8)(u:Bool)(hl:l.length<70368744177664):aH Tryz.prog 111 [.ref 2001 0 0 0] (mV g l u) (fun r H'=>r=sv ⟨l.toArray⟩/\H'=WF g l u):=by
 by_cases h0:l=[]
 ·subst h0;refine Bd aCY rfl WT<|Sr<|Dd aM<|Zz<|Sq<|aP follows<|Cq aG<|Cq zN<|Cq (bE fK)<|Cq (bQ cS)<|Cq (by exact AK rfl tZ rfl rfl rfl)<|Cq aG<|Cq zN<|Cq (bE fK)<|Cq (bQ cS)<|Cq (by exact eB rfl cJ rfl rfl rfl)<|Cq (by exact uO rfl rfl rfl)<|Cq aM<|bK<|Kr<|aE ?_;refine dC (H':=(WF g [] u)) (.inr rfl) rfl (aW rfl) (Fin.trans (Fin.deadO (id:=2002) (k:=g+1) (ob:=⟨g,1,5,dQ []⟩) rfl (Nat.lt_succ_self g) Nat.zero_lt_one rfl rfl) (Fin.get' (fun j=>JD (by decide) j))) ?_;exact Qq
 have hpos:0<l.length:=List.length_pos_iff.2 h0;refine Bd aCY rfl WT<|Sr<|Dd aM<|Zz<|Sq<|aP follows<|Cr [2001] (fun _ _=>aG)<|Cr [2001] (fun H1 hH=>by exact eU rfl rfl ((hH _ rfl).trans rfl) rfl)<|Cr [2001] (fun _ h=>fh fK h)<|Cr [2001] (fun _ h=>lh cS h)<|Cr [2002] (fun H1 hH=>by exact CC rfl rfl ((hH _ rfl).trans rfl) rfl hpos)<|Cr [2001] (fun _ _=>aG)<|Cr [2001] (fun H1 hH=>by exact eU rfl rfl ((hH _ rfl).trans rfl) rfl)<|Cr [2001] (fun _ h=>fh fK h)<|Cr [2001] (fun _ h=>lh cS h)<|Cr [2002] (fun H1 hH=>by exact eB rfl cJ rfl ((hH _ rfl).trans rfl) rfl)<|Cp [2001,2002] (fun H1 hH=>by exact wE (l:=l) rfl tZ (by kernel_rfl) rfl rfl ((hH _ rfl).trans rfl) rfl rfl rfl rfl rfl hpos (by omega) rfl)<|Cr [] (fun _ _=>aM)<|bK<|Kr<|aE ?_;refine dC (H':=(WF g l u)) (.inr rfl) rfl (aW rfl) (Fin.get' (fun j=>JD (by decide) j)) ?_;exact Qq
theorem aEJ(g:Nat)(l:List UInt8)(u:Bool):aH Tryz.prog 162 [.ref 2001 0 0 0] (mV g l u) (fun r H'=>r=iv (l.length:Int)/\H'=mV g l u):=by refine Bd func162 rfl ntmps162<|Sr<|Dd aM<|Zz<|Sr<|Dd aG<|Dd zN<|Dd (bE fK)<|Dd (bQ cS)<|Dd (by exact eB rfl cJ rfl rfl rfl)<|Dd aM<|Zz<|aE ?_;refine dC (H':=(mV g l u)) (.inr rfl) rfl (aW rfl) Fin.refl ?_;exact Qq
def aBW(l:List UInt8)(s:ByteArray):List UInt8:=if l=[]then s.data.toList else l++32::s.data.toList
theorem aLB(g:Nat)(l:List UInt8)(u:Bool)(s:ByteArray)(hl:l.length+s.size<70368744177663):aH Tryz.prog 234 [.ref 2001 0 0 0,sv s] (mV g l u) (fun r H'=>r=.tup []/\H'=mV (if l=[]then g+1 else g+2) (aBW l s) true):=by
 have hB:=QT g l u 32 (by omega);have hL:=aEJ g l u;rw[aBW];by_cases h0:l=[]
 ·subst h0;have hS:=AB g [] u s (by omega);rw[aNu rfl,aNu rfl];rw[List.nil_append]at hS;refine Bd func234 rfl ntmps234<|Sq<|Sr<|Dd aG<|Dd zN<|Dd (bE mJ)<|Dd (by exact aA rfl rfl vU rfl (hL))<|Dd mN<|Zz ?_;refine Cn ?_ ?_<;>intro hc1
  ·cases hc1
  refine aF<|Rg<|Dd aG<|Dd zN<|Dd (bE mJ)<|Dd aG<|Dd (by exact aA rfl rfl lQ rfl (hS))<|Zz ?_;exact qU (H':=mV (g+1) s.data.toList true) (.inl rfl) rfl Fin.refl ⟨rfl,rfl⟩
 have hpos:0<l.length:=List.length_pos_iff.2 h0;have hS:=AB (g+1) (l++[32]) true s (by rw[aNw,List.length_singleton];omega);rw[aNt h0,aNt h0];rw[List.append_assoc]at hS;refine Bd func234 rfl ntmps234<|Sq<|Sr<|Dd aG<|Dd zN<|Dd (bE mJ)<|Dd (by exact aA rfl rfl vU rfl (hL))<|Dd mN<|Zz ?_;refine Cn ?_ ?_<;>intro hc1
 ·refine Rg<|Dd aG<|Dd zN<|Dd (bE mJ)<|Dd (by exact aA rfl rfl jU rfl (hB))<|Zz<|Rg<|Dd aG<|Dd zN<|Dd (bE mJ)<|Dd aG<|Dd (by exact aA rfl rfl lQ rfl (hS))<|Zz ?_;exact qU (H':=mV (g+2) (l++32::s.data.toList) true) (.inl rfl) rfl Fin.refl ⟨rfl,rfl⟩
 have:=aNs hc1;omega
theorem aIj:Sub (mV g l u) (mV g l u++K):=by intro j o h;rw[eX,h]
theorem aLd{id:Nat}(h:(aB.get (mV g l u) id).isSome=true):(aB.get (mV g' l' u') id).isSome=true:=aAT h
theorem aLi(j:Nat):aB.get (mV g l u++(mV g' l' u'++K)) j=aB.get (mV g l u++K) j:=by show aB.get ((2001,_)::(2002,_)::(2001,_)::(2002,_)::K) j=aB.get ((2001,_)::(2002,_)::K) j;exact(ET (by decide) j).symm
theorem aD2(K:aB)(g:Nat)(l:List UInt8)(u:Bool)(s:ByteArray)(hl:l.length+s.size<70368744177663):aH Tryz.prog 234 [.ref 2001 0 0 0,sv s] (mV g l u++K) (fun r H'=>r=.tup []/\H'=mV (if l=[]then g+1 else g+2) (aBW l s) true++K) :=(aH.frame (aLB g l u s hl) aIj (dF.ofL ⟨(by exact MM rfl rfl),(by exact dO _ _),trivial⟩) (by simp;rfl) (fun id h=>.inl (aLd h))).congrH fun j=>(aLi j).symm
theorem I9(K:aB)(g:Nat)(l:List UInt8)(u:Bool):aH Tryz.prog 162 [.ref 2001 0 0 0] (mV g l u++K) (fun r H'=>r=iv (l.length:Int)/\H'=mV g l u++K) :=(aH.frame (aEJ g l u) aIj (dF.ofL ⟨(by exact MM rfl rfl),(by exact dO _ _),trivial⟩) (by simp;rfl) (fun id h=>.inl h)).congrH fun j=>(aLi j).symm
def AU(c:UInt8):Option UInt8:=if c=92 then some 92 else if c=34 then some 34 else if c=110 then some 10 else none
def oJ:List UInt8->Option (List UInt8×Nat)
 | []=>none
 | [c]=>if c=34 then some ([],1)else none
 |c::e::r=>if c=34 then some ([],1)else if c=10 then none else if c=92 then(AU e).bind fun b=>(oJ r).map fun p=>(b::p.1,p.2+2)else(oJ (e::r)).map fun p=>(c::p.1,p.2+1)
def yI(s:ByteArray):ByteArray×Int:=match oJ (s.data.toList.drop 1)with
 |some (d,n)=>(⟨d.toArray⟩,((n+1:Nat):Int))
 |none=>(sNil,0)
theorem JQ:oJ (34::r)=some ([],1):=by cases r<;>rfl
theorem aAv:oJ (10::r)=none:=by cases r<;>rfl
theorem IP{e:UInt8}:oJ (92::e::r)=(AU e).bind fun b=>(oJ r).map fun p=>(b::p.1,p.2+2):=rfl
theorem JR(h1:c≠34)(h2:c≠10)(h3:c≠92):oJ (c::r)=(oJ r).map fun p=>(c::p.1,p.2+1):=by
 cases r with
 |nil =>
  show (if c=34 then some ([],1)else none)=_;rw[aNt h1];rfl
 |cons e r=>rw[oJ,aNt h1,aNt h2,aNt h3]
def HG(o:Option (List UInt8×Nat))(w:List UInt8)(i:Nat):ByteArray×Int:=match o with
 |some (d,n)=>(⟨(w++d).toArray⟩,((i+n:Nat):Int))
 |none=>(sNil,0)
theorem OE{o:Option (List UInt8×Nat)}{b:UInt8}:HG (o.map fun p=>(b::p.1,p.2+k)) w i=HG o (w++[b]) (i+k):=by
 cases o with
 |none=>rfl
 |some p=>simp only[HG,Option.map_some,List.append_assoc,List.singleton_append];congr 2;omega
theorem VQ(h:i<s.size):s.data.toList.drop i=DD s i::s.data.toList.drop (i+1):=by
 have hk:i<s.data.toList.length:=by simpa using h
 rw[List.drop_eq_getElem_cons hk,DD,aOA hk];rfl
theorem VP(h:s.size<=i):s.data.toList.drop i=[]:=List.drop_eq_nil_of_le (by simpa using h)
theorem aCH(hn:n<256){b:Bool}(h:decide (cZ s i=(n:Int))=b):decide (DD s i=UInt8.ofNat n)=b:=by rw[<-h,tT,JT hn]
theorem aCl(c:UInt8):(Lib.indexByte (⟨#[92,34,110]⟩:ByteArray).data.toList ((c.toNat:Int).toNat.toUInt8) = -1/\AU c=none)\/∃k:Nat,k<3/\Lib.indexByte (⟨#[92,34,110]⟩:ByteArray).data.toList ((c.toNat:Int).toNat.toUInt8)=(k:Int)/\AU c=some (DD ⟨#[92,34,10]⟩ k):=by
 have h0:((c.toNat:Int).toNat.toUInt8)=c:=by simp
 rw[h0];by_cases h1:c=92
 ·subst h1;exact .inr ⟨0,by decide,by decide,by decide⟩
 by_cases h2:c=34
 ·subst h2;exact .inr ⟨1,by decide,by decide,by decide⟩
 by_cases h3:c=110
 ·subst h3;exact .inr ⟨2,by decide,by decide,by decide⟩
 refine .inl ⟨?_,by rw[AU,aNt h1,aNt h2,aNt h3]⟩;have e1:((92:UInt8) == c)=false:=by simp[Ne.symm h1]
 have e2:((34:UInt8) == c)=false:=by simp[Ne.symm h2]
 have e3:((110:UInt8) == c)=false:=by simp[Ne.symm h3]
 simp only[Lib.indexByte,e1,e2,e3];rfl
theorem W0(s:ByteArray)(H:aB)(hs:s.size<1099511627776):aH Tryz.prog 238 [sv s] H (fun r H'=>r=.tup [sv (yI s).1,iv (yI s).2]/\H'=H):=by
 refine Pu ?_;have hG:yI s=HG (oJ (s.data.toList.drop 1)) [] 1:=by
  unfold yI HG;cases oJ (s.data.toList.drop 1)with
  |none=>rfl
  |some p =>
   show ((⟨p.1.toArray⟩:ByteArray),((p.2+1:Nat):Int))=((⟨([]++p.1).toArray⟩:ByteArray),((1+p.2:Nat):Int));rw[List.nil_append,Nat.add_comm]
 obtain ⟨res,hres⟩:∃res,res=yI s:=⟨_,rfl⟩;rw[<-hres]at hG |-;refine Bd func238 rfl ntmps238<|Sr<|Dd aM<|Dd aM<|Zz<|Sr<|Dd (by exact bM (id:=2001) rfl FU rfl rfl)<|Zz<|Sq<|Sq ?_;refine fL.ent (E':=[(0,sv s),(4,.ref 2001 0 0 0)]) (H':=uB 0 [] false) (cD.bld0 ⟨⟨_,rfl,.same (by simp)⟩,⟨_,rfl,.same (by simp;rfl)⟩,trivial⟩) ?_;refine Rg<|Dd aM<|Zz<|aD ?_;refine BY (fun(i g:Nat) (w:List UInt8) (u:Bool)=>([(0,sv s),(4,.ref 2001 0 0 0),(5,iv (i:Int))],uB g w u)) (fun i g w u=>w.length<=i/\i<2199023255552/\res=HG (oJ (s.data.toList.drop i)) w i) (fun i g w u=>s.size+1 - i) 1 0 [] false ⟨aOM _,by decide,hG⟩ ?_ ?_
 ·exact(cD.wk (Eb<|Ea<|Eb<|trivial) (Hc (fB rfl rfl)<|Hc (dO _ _)<|trivial) trivial)
 rintro i g w u ⟨hwl,hib,hinv⟩;refine Sq<|Sr<|Dd aG<|Dd aG<|Dd (nF underlying9)<|Dd cP<|Zz ?_;refine Cn ?_ ?_<;>intro hc1
 ·have hlt:i<s.size:=by have:=aNr hc1;omega
  have hd:=VQ hlt;refine aF<|Sq<|aD<|Sr<|Dd aG<|Dd aG<|Dd (by exact dW rfl underlying9 rfl rfl (by omega) (by exact aOG _) (by omega) rfl)<|Dd aM<|Zz<|Sr<|Dd aG<|Zz<|aD<|Sr<|Dd dK<|Da ?_;refine Cn ?_ ?_<;>intro hc2
  ·have hb:DD s i=34:=aNr (aCH (n:=34) (by decide) hc2);have hr:res=(⟨w.toArray⟩,((i+1:Nat):Int)):=by rw[hinv,hd,hb,JQ,HG,List.append_nil]
   rw[hr];exact Sr<|Dd (by exact aA rfl rfl lP rfl (OL g w u (by omega)))<|Dd aG<|Dd qV<|Dd aM<|Dd aM<|Zz<|aE<|Ru<|Qq
  have hb34:DD s i≠34:=aNs (aCH (n:=34) (by decide) hc2);refine Sr<|Dd dK<|Da ?_;refine Cn ?_ ?_<;>intro hc3
  ·have hb:DD s i=10:=aNr (aCH (n:=10) (by decide) hc3);have hr:res=(sNil,0):=by rw[hinv,hd,hb,aAv,HG]
   rw[hr];exact Sr<|Dd aM<|Dd aM<|Zz<|aE<|Ru<|Qq
  have hb10:DD s i≠10:=aNs (aCH (n:=10) (by decide) hc3);refine Sr<|Dd dK<|Da ?_;refine Cn ?_ ?_<;>intro hc4
  ·have hb:DD s i=92:=aNr (aCH (n:=92) (by decide) hc4);refine Sr<|Dd aG<|Dd qV<|Dd aM<|Zz<|Sr<|Dd aM<|Zz<|Sq<|Sr<|Dd aG<|Dd aG<|Dd (nF underlying9)<|Dd cP<|Zz ?_;refine Cn ?_ ?_<;>intro hc5
   ·have hlt2:i+1<s.size:=by have:=aNr hc5;omega
    have hd2:=VQ hlt2;rcases aCl (DD s (i+1))with⟨x1,x2⟩|⟨q,hq,x1,x2⟩
    ·have hr:res=(sNil,0):=by rw[hinv,hd,hb,hd2,IP,x2];rfl
     have hneg:Lib.indexByte (⟨#[92,34,110]⟩:ByteArray).data.toList (cZ s (i+1)).toNat.toUInt8 = -1:=x1;rw[hr];refine Rg<|Dd aG<|Dd aG<|Dd (by exact dW rfl underlying9 rfl rfl (by omega) (by exact aOG _) (by omega) rfl)<|Dd (by exact aA rfl rfl vV rfl (oC _ _ _))<|Dd aM<|Zz<|Sq<|Sr<|Dd aG<|Dd cP<|Zz ?_;refine Cn ?_ ?_<;>intro hc6
     ·exact Sr<|Dd aM<|Dd aM<|Zz<|aE<|Ru<|Qq
     exact absurd (aNs hc6) (by rw[hneg];decide)
    have hpos:Lib.indexByte (⟨#[92,34,110]⟩:ByteArray).data.toList (cZ s (i+1)).toNat.toUInt8=(q:Int):=x1;have hq3:q<(⟨#[92,34,10]⟩:ByteArray).size:=hq;refine Rg<|Dd aG<|Dd aG<|Dd (by exact dW rfl underlying9 rfl rfl (by omega) (by exact aOG _) (by omega) rfl)<|Dd (by exact aA rfl rfl vV rfl (oC _ _ _))<|Dd aM<|Zz<|Sq<|Sr<|Dd aG<|Dd cP<|Zz ?_;refine Cn ?_ ?_<;>intro hc7
    ·exact absurd (aNr hc7) (by rw[hpos];omega)
    refine aF<|Rg<|Dd aG<|Dd (by exact dW rfl underlying9 rfl rfl (by rw[hpos];omega) (by rw[hpos];exact aOG _) hq3 rfl)<|Dd (by exact aA rfl rfl jU rfl (gU g w u (DD ⟨#[92,34,10]⟩ q) (by omega)))<|Zz<|Rg<|Dd aG<|Dd qV<|Da ?_;refine⟨i+1+1,g+1,w++[DD ⟨#[92,34,10]⟩ q],true,⟨by rw[aNw,List.length_singleton];omega,by omega,?_⟩,by omega,(cD.wk (Eb<|Ea<|Eb<|trivial) (Hc (fB rfl rfl)<|Hc (dO _ _)<|trivial) trivial)⟩;rw[hinv,hd,hb,hd2,IP,x2];exact OE
   have hge:s.size<=i+1:=by have:=aNs hc5;omega
   have hr:res=(sNil,0):=by rw[hinv,hd,hb,VP hge];rfl
   rw[hr];refine aF<|Sq<|Sr<|Dd aG<|Dd cP<|Zz ?_;refine Cn ?_ ?_<;>intro hc8
   ·exact Sr<|Dd aM<|Dd aM<|Zz<|aE<|Ru<|Qq
   cases hc8
  have hb92:DD s i≠92:=aNs (aCH (n:=92) (by decide) hc4);refine Rg<|Dd aG<|Dd (by exact aA rfl rfl jU rfl (gU g w u (DD s i) (by omega)))<|Zz<|Rg<|Dd aG<|Dd qV<|Da ?_;refine⟨i+1,g+1,w++[DD s i],true,⟨by rw[aNw,List.length_singleton];omega,by omega,?_⟩,by omega,(cD.wk (Eb<|Ea<|Eb<|trivial) (Hc (fB rfl rfl)<|Hc (dO _ _)<|trivial) trivial)⟩;rw[hinv,hd,JR hb34 hb10 hb92,OE]
 have hge:s.size<=i:=by have:=aNs hc1;omega
 have hr:res=(sNil,0):=by rw[hinv,VP hge];rfl
 rw[hr];exact aY<|Sr<|Dd aM<|Dd aM<|Zz<|aE<|Ru<|Qq
def sE(s:ByteArray)(i:Nat):Int:=if i<s.size then E9 (cZ s i)else 0
def tS(s:ByteArray):Ob:=bx 1 9 [sv s]
def tC:Ob:=bx 256 158 rF
def tA:Ob:=bx 1 247 [.clo 236 [.ref 921 0 0 0,.ref 923 0 0 0]]
theorem aKF(s:ByteArray)(i:Nat)(H:aB)(h1:H.get 921=some (tS s))(h2:H.get 923=some tC)(hi:i<4611686018427387904)(hs:s.size<4611686018427387904):
  aH Tryz.prog 236 [iv (i:Int),.ref 921 0 0 0,.ref 923 0 0 0] H (fun r H'=>r=.pv (.int .u8 (sE s i))/\H'=H):=by
 refine Bd func236 rfl ntmps236<|Sr<|Dd aM<|Zz<|Sq<|Sr<|Dd aG<|Dd (by exact aK rfl isAgg9 rfl h1 rfl rfl rfl)<|Dd (nF underlying9)<|Dd LN<|Zz ?_;refine Cn ?_ ?_<;>intro hc1
 ·have e:sE s i=0:=by rw[sE,aNt (by have:=aNr hc1;omega)]
  rw[e];refine Sr<|Dd aM<|Zz<|aE ?_;refine dC (H':=H) (.inr rfl) rfl (aW rfl) Fin.refl ?_;exact Qq
 have hlt:i<s.size:=by have:=aNs hc1;omega
 have e:sE s i=E9 (cZ s i):=by rw[sE,aNu hlt]
 rw[e];refine aF<|Sr<|Dd (by exact aK rfl isAgg9 rfl h1 rfl rfl rfl)<|Dd aG<|Dd (by exact dW rfl underlying9 rfl rfl (by omega) (by exact aOG _) (by omega) rfl)<|Dd (by exact dG (m:=(cZ s i).toNat) (k2:=(cZ s i).toNat) rfl eS bV rfl h2 rfl rfl (G3 s i) rfl (G4 s i) (by omega))<|Dd (by exact aK rfl zO rfl h2 rfl rfl (aIT s i))<|Dd aM<|Zz<|aE ?_;refine dC (H':=H) (.inr rfl) rfl (aW rfl) Fin.refl ?_;exact Qq
theorem TL(s:ByteArray)(H:aB)(h1:H.get 921=none)(h2:H.get 923=none)(h3:H.get 924=none)(hc:dF H):
  aH Tryz.prog 197 [sv s] H (fun r H'=>r=.clo 237 [.ref 921 0 0 0,.ref 924 0 0 0]/\H'=(924,tA)::(923,tC)::(921,tS s)::H):=by
 have h2':aB.get ((921,tS s)::H) 923=none:=h2;refine Bd func197 rfl ntmps197<|Sr<|Dd (by exact cE (id:=921) rfl rfl rfl rfl h1)<|Dd aM<|Zz<|Sr<|Dd (by exact aA rfl rfl call123 rfl (QD _))<|Dd (by exact bM (id:=923) rfl ZI rfl h2)<|Uu (by exact bX rfl vQ rfl rfl rfl rfl rfl rfl rfl (by simp))<|Zz<|Sr<|Dd (by exact fO rfl rfl)<|Dd (by exact bM (id:=924) rfl aK8 rfl h3)<|Uu (kG sizeOf247)<|Zz<|Sr<|Dd (by exact fO rfl rfl)<|Dd aM<|Zz<|aE ?_;refine dC (H':=((924,tA)::(923,tC)::(921,tS s)::H)) (.inr rfl) rfl (aW rfl) (Fin.get' (fun j=>by simp only[aB.get];cases Nat.beq 924 j<;>cases Nat.beq 923 j<;>rfl)) ?_;exact Qq
def uE(p:Nat->Bool):Nat->Nat->Nat
 |0,i=>i
 |n+1,i=>if p i then uE p n (i+1)else i
theorem DZ(p:Nat->Bool):∀(n i:Nat),i<=uE p n i/\uE p n i<=i+n
 |0,i=>⟨aOB _,aOB _⟩
 |n+1,i=>by
  rw[uE]
  split
  ·have:=DZ p n (i+1);omega
  omega
theorem D1(p:Nat->Bool):∀(n i:Nat),∀j,i<=j->j<uE p n i->p j=true
 |0,i,j,h1,h2=>by rw[uE]at h2;omega
 | n+1,i,j,h1,h2=>by
  rw[uE]at h2
  split at h2
  ·by_cases e:j=i
   ·subst e;assumption
   exact D1 p n (i+1) j (by omega) h2
  omega
theorem wB(p:Nat->Bool):∀(n i:Nat),uE p n i<i+n->p (uE p n i)=false
 |0,i,h=>by rw[uE]at h;omega
 |n+1,i,h=>by
  rw[uE]at h |-
  split at h
  ·rename_i hp;rw[aNu hp];exact wB p n (i+1) (by omega)
  rename_i hp;rw[aNt hp];exact Bool.not_eq_true _▸hp
theorem D0(p:Nat->Bool)(h1:i<=j)(h2:j<=i+n)(h3:∀k,i<=k->k<j->p k=true)(h4:p j=false\/j=i+n):uE p n i=j:=by
 obtain ⟨l1,l2⟩:=DZ p n i;rcases Nat.lt_trichotomy (uE p n i) j with h|h|h
 ·have:=wB p n i (by omega);rw[h3 _ l1 h]at this;cases this
 ·exact h
 have:=D1 p n i j h1 h;rcases h4 with h4|h4
 ·rw[h4]at this;cases this
 omega
def KM(s:ByteArray)(j:Nat):Bool:=decide (j<s.size)&&!decide (cZ s j=10)
def AJ(s:ByteArray)(j:Nat):Bool:=decide (sE s j=3)||decide (sE s j=4)||decide (sE s j=5)
def aB1(s:ByteArray)(j:Nat):Bool:=decide (sE s j=4)
def R1(s:ByteArray)(i:Nat):Nat:=uE (KM s) (s.size - i) i
def IM(s:ByteArray)(i:Nat):Nat:=uE (AJ s) (s.size - i) i
def SG(s:ByteArray)(i:Nat):Nat:=uE (aB1 s) (s.size - i) i
structure GFound where
 kind:Int
 text:ByteArray
 pos:Nat
 err:Int
variable{f:GFound}
def E5(f:GFound):List PV:=[.int .i64 f.kind,.str f.text,.int .i64 f.pos,.int .i64 f.err]
def tH(i:Nat):GFound:=⟨0,sNil,i,3⟩
def C0(s:ByteArray)(i j:Nat):GFound:=⟨1,s.extract i j,i,if 24<j - i then 2 else 0⟩
def LP(s:ByteArray)(i j:Nat):GFound:=⟨2,s.extract i j,i,if decide (7<j - i)||decide (sE s j=3)||decide (sE s j=5)then 4 else 0⟩
def N0(s:ByteArray)(i:Nat):GFound×Nat:=if 0<(yI (s.extract i s.size)).2 then(⟨3,(yI (s.extract i s.size)).1,i,0⟩,i+(yI (s.extract i s.size)).2.toNat)else(tH i,i)
def iE(s:ByteArray)(i:Nat):Option GFound×Nat :=if sE s i=1 then(none,i+1)else if sE s i=2 then(none,R1 s i)else if sE s i=3 then(some (C0 s i (IM s i)),IM s i)
 else if sE s i=4 then(some (LP s i (SG s i)),SG s i)else if sE s i=7 then(some (N0 s i).1,(N0 s i).2)
 else if sE s i=6 then(some ⟨4,s.extract i (i+1),i,0⟩,i+1)else(some (tH i),i)
def mC(s:ByteArray):Nat->Nat->List GFound
 |0,_=>[]
 |n+1,i=>if i<s.size then(match iE s i with
  |(none,j)=>mC s n j
  |(some f,j)=>f::(if f.err=0 then mC s n j else[]))else[]
theorem JS:∀(l:List UInt8) (p:List UInt8×Nat),oJ l=some p->p.2<=l.length
 | [],p,h=>by cases h
 | [c],p,h=>by
  rw[oJ]at h
  split at h
  ·cases h;exact aOB _
  cases h
 | c :: e :: r, p, h => by
  rw[oJ]at h
  split at h
  ·cases h;exact Nat.le_add_left _ _
  split at h
  ·cases h
  split at h
  ·cases hg:AU e with
   |none=>rw[hg]at h;cases h
   | some b =>
    rw[hg]at h;cases hu:oJ r with
    |none=>rw[hu]at h;cases h
    |some q =>
     rw[hu]at h;cases h;have:=JS r q hu;show q.2+2<=r.length+1+1;omega
  cases hu:oJ (e::r)with
  |none=>rw[hu]at h;cases h
  |some q =>
   rw[hu]at h;cases h;have:=JS (e::r) q hu;show q.2+1<=r.length+1+1;rw[aNx]at this;omega
theorem VA(s:ByteArray):0<=(yI s).2/\(yI s).2<=s.size:=by
 have hl:s.data.toList.length=s.size:=by simp
 unfold yI;cases hu:oJ (s.data.toList.drop 1)with
 |none=>exact⟨Int.le_refl _,Int.natCast_nonneg _⟩
 | some p =>
  have:=JS _ p hu;rw[aOK,hl]at this;refine⟨Int.natCast_nonneg _,?_⟩;show ((p.2+1:Nat):Int)<=_;have h0:0<s.size:=by
   cases h0:s.data.toList with
   |nil=>rw[h0]at hu;cases hu
   |cons a l=>rw[h0]at hl;rw[<-hl];exact Nat.succ_pos _
  omega
theorem QK(s:ByteArray)(i:Nat)(h:sE s i≠0):i<s.size:=by
 by_cases e:i<s.size
 ·exact e
 exact absurd (aNt e) h
def tF(f:GFound):Ob:=bx 4 218 ((E5 f).map .pv)
theorem vA(H:aB)(f:GFound):∀r∈(tF f).rows,∀a∈r,Clo H a:=by intro r hr a ha;simp only[tF,bx,aNy]at hr;subst hr;obtain ⟨p,_,rfl⟩:=List.mem_map.1 ha;simp
theorem U6{α:Type}{l m:List α}{d:α}(h:l.drop k=d::m):l[k]?=some d/\l.drop (k+1)=m:=by
 refine⟨?_,?_⟩
 ·have:=congrArg (·[0]?) h
  simpa using this
 rw[<-List.drop_drop,h];rfl
theorem aFz(h:iE s i=(some f,j))(he:f.err=0)(hi:i<s.size):i<j/\j<=s.size:=by
 have hfirst:∀(p:Nat->Bool),p i=true->i<uE p (s.size - i) i/\uE p (s.size - i) i<=s.size:=fun p hp=>by
  obtain ⟨l1,l2⟩:=DZ p (s.size - i) i;refine⟨?_,by omega⟩;rcases Nat.lt_or_ge i (uE p (s.size - i) i)with h|h
  ·exact h
  have h3:=wB p (s.size - i) i (by omega);rw[show uE p (s.size - i) i=i by omega,hp]at h3;cases h3
 unfold iE at h
 split at h
 ·cases h
 split at h
 ·cases h
 split at h
 ·rename_i e3;cases h;exact hfirst _ (by rw[AJ,e3];rfl)
 split at h
 ·rename_i e4;cases h;exact hfirst _ (by rw[aB1,e4];rfl)
 split at h
 ·have hul:=VA (s.extract i s.size);have hexs:(s.extract i s.size).size<=s.size - i:=by rw[ByteArray.size_extract];omega
  unfold N0 at h
  split at h
  ·rename_i hpos;cases h;show i<i+(yI (s.extract i s.size)).2.toNat/\i+(yI (s.extract i s.size)).2.toNat<=s.size;omega
  cases h;cases he
 split at h
 ·cases h;exact⟨Nat.lt_succ_self _,hi⟩
 cases h;cases he
theorem ltD(h:decide ((i:Int)<(n:Int))=true):i<n:=by have:=aNr h;omega
theorem FY(s:ByteArray)(fv:AV)(Hs:Nat->aB)(cont:Nat->Bool)(m:Nat)(hs:s.size<1099511627776)(h1:∀k,(Hs k).get 921=some (tS s))(h2:∀k,(Hs k).get 923=some tC)(h3:∀k,(Hs k).get 924=some tA)(h6:∀k,(Hs k).get 926=none)(hcl:∀k,dF (Hs k))(hf:∀k,Clo (Hs k) fv)
  (hm:m<=(mC s (s.size+1) 0).length) (hall:∀k,k+1<m->cont k=true) (hend:m=(mC s (s.size+1) 0).length\/(0<m/\cont (m - 1)=false))
  (hy:∀k d,(mC s (s.size+1) 0)[k]?=some d->k<m->cK Tryz.prog fv [.agg ((E5 d).map .pv)] ((926,tF d)::Hs k) (fun r H'=>r=bv (cont k)/\H'=(926,tF d)::Hs (k+1))) :
  aH Tryz.prog 237 [fv,.ref 921 0 0 0,.ref 924 0 0 0] (Hs 0) (fun r H'=>r=.tup []/\H'=Hs m):=by
 obtain ⟨ds,hds⟩:∃ds,ds=mC s (s.size+1) 0:=⟨_,rfl⟩;rw[<-hds]at hy hm hend;have hat:∀(k i:Nat) (f:GFound),i<=s.size+1->cK Tryz.prog (.clo 236 [.ref 921 0 0 0,.ref 923 0 0 0]) [iv (i:Int)] ((926,tF f)::Hs k) (fun r H'=>r=.pv (.int .u8 (sE s i))/\H'=(926,tF f)::Hs k):=fun k i f hi =>
  cK.clo call236 (aKF s i ((926,tF f)::Hs k) (h1 k) (h2 k) (by omega) (by omega))
 have hfree:∀(G0:aB) (k i:Nat) (E:bS) (o:Ob),G0=Hs 0->E.get 0=some fv->E.get 1=some (.ref 921 0 0 0)->E.get 2=some (.ref 924 0 0 0)->E.get 4=some (iv (i:Int)) ->
   cD G0 E ((926,o)::Hs k) [(0,fv),(1,.ref 921 0 0 0),(2,.ref 924 0 0 0),(4,iv (i:Int))] (Hs k):=fun G0 k i E o hG q0 q1 q2 q4=>by
  subst hG;exact cD.front (K:=Hs k) [(926,o)] [] ⟨⟨_,q0,rfl⟩,hf k,⟨_,q1,rfl⟩,(by rw[qE];show ((Hs k).get 921).isSome=true;rw[h1];rfl),⟨_,q2,rfl⟩,(by rw[qE];show ((Hs k).get 924).isSome=true;rw[h3];rfl),⟨_,q4,rfl⟩,(by simp),trivial⟩ (by simp[h6]) (by simp) (by simp) (hcl k) (by simp[h6])
 refine Bd func237 rfl ntmps237<|aCK<|Sr<|Dd aM<|Zz<|Sq<|aCL<|aD ?_;refine iA (fun(i k:Nat)=>([(0,fv),(1,.ref 921 0 0 0),(2,.ref 924 0 0 0),(4,iv (i:Int))],Hs k)) (fun i k=>i<=s.size/\k<=m/\(k=0\/cont (k - 1)=true)/\∃n,s.size - i<n/\ds.drop k=mC s n i) (fun i k=>s.size - i) 0 0 ⟨aOM _,aOM _,.inl rfl,s.size+1,Nat.lt_succ_self _,by rw[List.drop_zero,hds]⟩ ?_ ?_
 ·exact E0
 rintro i k ⟨hi,hkm,hkc,n,hn,hinv⟩;refine Sq<|Sr<|Dd aG<|Dd (by exact aK rfl isAgg9 rfl (h1 k) rfl rfl rfl)<|Dd (nF underlying9)<|Dd cP<|Zz ?_;refine Cn ?_ ?_<;>intro hc1
 ·have hlt:i<s.size:=by have:=aNr hc1;omega
  obtain ⟨n,rfl⟩:∃n',n=n'+1:=⟨n - 1,by omega⟩;rw[mC,aNu hlt]at hinv;refine aF<|aD<|Sr<|Dd aG<|Dd aM<|Zz<|Sr<|Dd aG<|Dd (wV aIW)<|Dd (wV aLw)<|Dd (by exact bM (id:=926) rfl aCb rfl (h6 k))<|Uu (kG DM)<|Zz ?_;refine DE (fun(a:GFound×Nat)=>([(0,fv),(1,.ref 921 0 0 0),(2,.ref 924 0 0 0),(4,iv (a.2:Int)),(6,.ref 926 0 0 0)],(926,tF a.1)::Hs k)) (fun a=>iE s i=(some a.1,a.2)) ?_ ?_
  ·refine Sq ?_;refine fL.ent (E':=[(0,fv),(1,.ref 921 0 0 0),(2,.ref 924 0 0 0),(4,iv (i:Int)),(5,iv (i:Int)),(6,.ref 926 0 0 0)]) (H':=(926,tF (tH i))::Hs k) (cD.get' ⟨⟨_,rfl,rfl⟩,⟨_,rfl,rfl⟩,⟨_,rfl,rfl⟩,⟨_,rfl,rfl⟩,⟨_,rfl,rfl⟩,⟨_,rfl,rfl⟩,trivial⟩ (fun j=>uV 926 (tF (tH i)) _ (Hs k) j)) ?_;refine Rg<|Dd (by exact aK rfl HC rfl (h3 k) rfl rfl rfl)<|Dd aG<|Dd (by exact cC rfl rfl rfl (hat k i (tH i) (by omega)))<|Zz<|aD<|Sr<|Dd dK<|Da ?_;refine Cn ?_ ?_<;>intro hc2
   ·have e1:sE s i=1:=aNr hc2;have hst:iE s i=(none,i+1):=by rw[iE,aNu e1]
    rw[hst]at hinv;refine Sr<|Dd aG<|Dd qV<|Dd aM<|Zz<|aY ?_;exact⟨i+1,k,⟨by omega,hkm,hkc,n,by omega,hinv⟩,by omega,hfree _ _ _ _ _ rfl rfl rfl rfl rfl⟩
   have n1:sE s i≠1:=aNs hc2;refine Sr<|Dd dK<|Da ?_;refine Cn ?_ ?_<;>intro hc3
   ·have e2:sE s i=2:=aNr hc3;have hst:iE s i=(none,R1 s i):=by rw[iE,aNt n1,aNu e2]
    rw[hst]at hinv;refine Sq<|aD ?_;refine bL (σ:=Nat) (fun j=>([(0,fv),(1,.ref 921 0 0 0),(2,.ref 924 0 0 0),(4,iv (j:Int))],(926,tF (tH i))::Hs k)) (fun j=>i<=j/\j<=s.size/\∀q,i<=q->q<j->KM s q=true) (fun j=>s.size - j) i ⟨aOB _,hi,fun q h1 h2=>by omega⟩ ?_ ?_
    ·exact E0
    rintro j ⟨hij,hj,hpre⟩;refine Sq<|Sq ?_;refine bF (t:=37) (n:=11) (X:=KM s j) ?_ ?_
    ·all_goals refine Dd aG ?_
     all_goals refine Dd (by exact aK rfl isAgg9 rfl (h1 k) rfl rfl rfl)<|Dd (nF underlying9)<|Dd cP<|Dm ?_
     all_goals refine Sp 32 (fun h32=>?_) fun h32=>?_
     all_goals try contradiction
     all_goals first|refine Fo<|Fo<|Fo<|Fo ?_|refine On (by exact aK rfl isAgg9 rfl (h1 k) rfl rfl rfl)<|On aG<|On (by exact dW rfl underlying9 rfl rfl (by omega) (by exact aOG _) (ltD h32) rfl)<|On zW ?_
     all_goals refine Dd cN<|Zz ?_
     all_goals(exact⟨⟨_,rfl,by first|(simp_all[KM];done)|(simp_all[KM];omega)⟩,rfl,rfl,rfl⟩)
    refine Cn ?_ ?_<;>intro hc4
    ·have hjs:j<s.size:=by
      have h:=hc4;rw[KM,aOE,aOC]at h;exact h.1
     refine aF<|aD<|Rg<|Dd aG<|Dd qV<|Da ?_;exact⟨j+1,⟨by omega,by omega,fun q q1 q2=>by
      by_cases e:q=j
      ·subst e;exact hc4
      exact hpre q q1 (by omega)⟩,by omega,E0⟩
    have hle:R1 s i=j:=D0 _ hij (by omega) hpre (.inl hc4);have hgt:i<j:=by
     rcases Nat.lt_or_ge i j with h|h
     ·exact h
     have hji:j=i:=by omega
     subst hji;rw[KM,decide_eq_true hlt,Bool.true_and,Bool.not_eq_false',aOC]at hc4;rw[sE,aNu hlt,hc4]at e2;exact absurd e2 (by decide)
    rw[hle]at hinv;refine aY<|aY ?_;exact⟨j,k,⟨hj,hkm,hkc,n,by omega,hinv⟩,by omega,hfree _ _ _ _ _ rfl rfl rfl rfl rfl⟩
   have n2:sE s i≠2:=aNs hc3;refine Sr<|Dd dK<|Da ?_;refine Cn ?_ ?_<;>intro hc5
   ·have e3:sE s i=3:=aNr hc5;refine Sq<|Sr<|Dd (by exact aK rfl HC rfl (h3 k) rfl rfl rfl)<|Dd aG<|Dd (by exact cC rfl rfl rfl (hat k i (tH i) (by omega)))<|Dd aM<|Zz<|aD ?_;refine bL (σ:=Nat) (fun j=>([(0,fv),(1,.ref 921 0 0 0),(2,.ref 924 0 0 0),(4,iv (j:Int)),(5,iv (i:Int)),(6,.ref 926 0 0 0),(7,.pv (.int .u8 (sE s j)))],(926,tF (tH i))::Hs k)) (fun j=>i<=j/\j<=s.size/\∀q,i<=q->q<j->AJ s q=true) (fun j=>s.size - j) i ⟨aOB _,hi,fun q h1 h2=>by omega⟩ ?_ ?_
    ·exact E0
    rintro j ⟨hij,hj,hpre⟩;refine Sq<|Sq ?_;refine bF (t:=54) (n:=12) (X:=AJ s j) ?_ ?_
    ·all_goals refine Dd aG ?_
     all_goals refine Dd dK<|Dm ?_
     all_goals refine Sp 47 (fun h47=>?_) fun h47=>?_
     all_goals try contradiction
     all_goals first|refine Fo<|Fo ?_|refine On aG<|On dK ?_
     all_goals refine Dd cN<|Dm ?_
     all_goals refine Sp 51 (fun h51=>?_) fun h51=>?_
     all_goals try contradiction
     all_goals first|refine Fo<|Fo ?_|refine On aG<|On dK ?_
     all_goals refine Dd cN<|Zz ?_
     all_goals(exact⟨⟨_,rfl,by(simp only[AJ, *];rfl)⟩,rfl,rfl,rfl⟩)
    refine Cn ?_ ?_<;>intro hc6
    ·have hjs:j<s.size:=QK s j (fun e=>by rw[AJ,e]at hc6;cases hc6);refine aF<|Sq<|aD<|Rg<|Dd aG<|Dd qV<|Dd aM<|Zz<|Rg<|Dd (by exact aK rfl HC rfl (h3 k) rfl rfl rfl)<|Dd aG<|Dd (by exact cC rfl rfl rfl (hat k (j+1) (tH i) (by omega)))<|Da ?_;exact⟨j+1,⟨by omega,by omega,fun q q1 q2=>by
      by_cases e:q=j
      ·subst e;exact hc6
      exact hpre q q1 (by omega)⟩,by omega,E0⟩
    have hle:IM s i=j:=D0 _ hij (by omega) hpre (.inl hc6);have hst:iE s i=(some (C0 s i j),j):=by rw[iE,aNt n1,aNt n2,aNu e3,hle]
    refine aY<|Sq<|aP follows<|Cr [921] (fun H1 hH=>by exact aK rfl isAgg9 rfl ((hH _ rfl).trans (h1 k)) rfl rfl rfl)<|Cr [] (fun _ _=>aG)<|Cr [] (fun _ _=>aG)<|Cr [] (fun H1 hH=>by exact cI (l:=i) (h:=j) rfl underlying9 rfl rfl rfl (by omega) (by omega) rfl)<|Cr [926] (fun _ h=>fh lJ h)<|Cr [926] (fun _ h=>fh EY h)<|Cp [926] (fun H1 hH=>by exact bD rfl sizeOf3 rfl rfl rfl ((hH _ rfl).trans rfl) rfl rfl (aOI rfl) rfl rfl)<|Cr [926] (fun _ h=>fh lJ h)<|Cr [926] (fun _ h=>fh kN h)<|Cp [926] (fun H1 hH=>by exact bD rfl sizeOf9 rfl rfl rfl ((hH _ rfl).trans rfl) rfl rfl (aOI rfl) rfl rfl)<|Cr [926] (fun _ h=>fh oW h)<|Cp [926] (fun H1 hH=>by exact bD rfl sizeOf41 rfl rfl rfl ((hH _ rfl).trans rfl) rfl rfl (aOI rfl) rfl rfl) ?_;refine bK<|Kr<|Sr<|Dd aG<|Dd aG<|Dd (by exact dN rfl rfl rfl (show IntKind.i64.wrap ((j:Int) - (i:Int))=((j - i:Nat):Int)by rw[IntKind.wrap_i64];omega))<|Dd mN<|Zz ?_;refine Cn ?_ ?_<;>intro hc7
    ·have hE:C0 s i j=⟨1,s.extract i j,i,2⟩:=by rw[C0,aNu (by have:=aNr hc7;omega)]
     rw[hE]at hst;refine Rg<|Dd (bE oW)<|Uu (by exact bD rfl sizeOf41 rfl rfl rfl rfl rfl rfl (aOI rfl) rfl rfl)<|Zz ?_;exact⟨(⟨1,s.extract i j,i,2⟩,j),hst,cD.get' ⟨⟨_,rfl,rfl⟩,⟨_,rfl,rfl⟩,⟨_,rfl,rfl⟩,⟨_,rfl,rfl⟩,⟨_,rfl,rfl⟩,trivial⟩ (fun q=>wS [_,_,_,_] (by simp) q)⟩
    have hE:C0 s i j=⟨1,s.extract i j,i,0⟩:=by rw[C0,aNt (by have:=aNs hc7;omega)]
    rw[hE]at hst;refine aF ?_;exact⟨(⟨1,s.extract i j,i,0⟩,j),hst,cD.get' ⟨⟨_,rfl,rfl⟩,⟨_,rfl,rfl⟩,⟨_,rfl,rfl⟩,⟨_,rfl,rfl⟩,⟨_,rfl,rfl⟩,trivial⟩ (fun q=>wS [_,_,_] (by simp) q)⟩
   have n3:sE s i≠3:=aNs hc5;refine Sr<|Dd dK<|Da ?_;refine Cn ?_ ?_<;>intro hc8
   ·have e4:sE s i=4:=aNr hc8;refine Sq<|aD ?_;refine bL (σ:=Nat) (fun j=>([(0,fv),(1,.ref 921 0 0 0),(2,.ref 924 0 0 0),(4,iv (j:Int)),(5,iv (i:Int)),(6,.ref 926 0 0 0)],(926,tF (tH i))::Hs k)) (fun j=>i<=j/\j<=s.size/\∀q,i<=q->q<j->aB1 s q=true) (fun j=>s.size - j) i ⟨aOB _,hi,fun q h1 h2=>by omega⟩ ?_ ?_
    ·exact E0
    rintro j ⟨hij,hj,hpre⟩;refine Sq<|Sr<|Dd (by exact aK rfl HC rfl (h3 k) rfl rfl rfl)<|Dd aG<|Dd (by exact cC rfl rfl rfl (hat k j (tH i) (by omega)))<|Dd dK<|Zz ?_;refine Cn ?_ ?_<;>intro hc9
    ·have hjs:j<s.size:=QK s j (fun e=>by rw[e]at hc9;cases hc9);refine aF<|aD<|Rg<|Dd aG<|Dd qV<|Da ?_;exact⟨j+1,⟨by omega,by omega,fun q q1 q2=>by
      by_cases e:q=j
      ·subst e;exact hc9
      exact hpre q q1 (by omega)⟩,by omega,E0⟩
    have hle:SG s i=j:=D0 _ hij (by omega) hpre (.inl hc9);have hst:iE s i=(some (LP s i j),j):=by rw[iE,aNt n1,aNt n2,aNt n3,aNu e4,hle]
    refine aY<|Sq<|aP follows<|Cr [921] (fun H1 hH=>by exact aK rfl isAgg9 rfl ((hH _ rfl).trans (h1 k)) rfl rfl rfl)<|Cr [] (fun _ _=>aG)<|Cr [] (fun _ _=>aG)<|Cr [] (fun H1 hH=>by exact cI (l:=i) (h:=j) rfl underlying9 rfl rfl rfl (by omega) (by omega) rfl)<|Cr [926] (fun _ h=>fh lJ h)<|Cr [926] (fun _ h=>fh EY h)<|Cp [926] (fun H1 hH=>by exact bD rfl sizeOf3 rfl rfl rfl ((hH _ rfl).trans rfl) rfl rfl (aOI rfl) rfl rfl)<|Cr [926] (fun _ h=>fh lJ h)<|Cr [926] (fun _ h=>fh kN h)<|Cp [926] (fun H1 hH=>by exact bD rfl sizeOf9 rfl rfl rfl ((hH _ rfl).trans rfl) rfl rfl (aOI rfl) rfl rfl)<|Cr [926] (fun _ h=>fh oW h)<|Cp [926] (fun H1 hH=>by exact bD rfl sizeOf41 rfl rfl rfl ((hH _ rfl).trans rfl) rfl rfl (aOI rfl) rfl rfl) ?_;refine bK<|Kr<|Sq ?_;refine fL.ent (E':=[(0,fv),(1,.ref 921 0 0 0),(2,.ref 924 0 0 0),(4,iv (j:Int)),(5,iv (i:Int)),(6,.ref 926 0 0 0)]) (H':=(926,tF ⟨2,s.extract i j,i,0⟩)::Hs k) (cD.get' ⟨⟨_,rfl,rfl⟩,⟨_,rfl,rfl⟩,⟨_,rfl,rfl⟩,⟨_,rfl,rfl⟩,⟨_,rfl,rfl⟩,⟨_,rfl,rfl⟩,trivial⟩ (fun q=>wS [_,_,_] (by simp) q)) ?_;have h7:decide (7<((j - i:Nat):Int))=decide (7<j - i):=by rw[Bool.eq_iff_iff,aOC,aOC];omega
    refine Rg<|Dd (by exact aK rfl HC rfl (h3 k) rfl rfl rfl)<|Dd aG<|Dd (by exact cC rfl rfl rfl (hat k j ⟨2,s.extract i j,i,0⟩ (by omega)))<|Dd aM<|Zz<|Sq ?_;refine bF (t:=105) (n:=14) (X:=decide (7<((j - i:Nat):Int))||decide (sE s j=3)||decide (sE s j=5)) ?_ ?_
    ·all_goals refine Dd aG ?_
     all_goals refine Dd aG<|Dd (by exact dN rfl rfl rfl (show IntKind.i64.wrap ((j:Int) - (i:Int))=((j - i:Nat):Int)by rw[IntKind.wrap_i64];omega))<|Dd mN<|Dm ?_
     all_goals refine Sp 98 (fun h98=>?_) fun h98=>?_
     all_goals try contradiction
     all_goals first|refine Fo<|Fo ?_|refine On aG<|On dK ?_
     all_goals refine Dd cN<|Dm ?_
     all_goals refine Sp 102 (fun h102=>?_) fun h102=>?_
     all_goals try contradiction
     all_goals first|refine Fo<|Fo ?_|refine On aG<|On dK ?_
     all_goals refine Dd cN<|Zz ?_
     all_goals(exact⟨⟨_,rfl,by first|(simp_all[AJ];done)|(simp_all;omega)⟩,rfl,rfl,rfl⟩)
    refine Cn ?_ ?_<;>intro hc10
    ·have hE:LP s i j=⟨2,s.extract i j,i,4⟩:=by rw[LP,<-h7,hc10];rfl
     rw[hE]at hst;refine Rg<|Dd (bE oW)<|Uu (by exact bD rfl sizeOf41 rfl rfl rfl rfl rfl rfl (aOI rfl) rfl rfl)<|Zz ?_;exact⟨(⟨2,s.extract i j,i,4⟩,j),hst,cD.get' ⟨⟨_,rfl,rfl⟩,⟨_,rfl,rfl⟩,⟨_,rfl,rfl⟩,⟨_,rfl,rfl⟩,⟨_,rfl,rfl⟩,trivial⟩ (fun q=>wS [_] (by simp) q)⟩
    have hE:LP s i j=⟨2,s.extract i j,i,0⟩:=by rw[LP,<-h7,hc10];rfl
    rw[hE]at hst;refine aF ?_;exact⟨(⟨2,s.extract i j,i,0⟩,j),hst,E0⟩
   have n4:sE s i≠4:=aNs hc8;refine Sr<|Dd dK<|Da ?_;refine Cn ?_ ?_<;>intro hc11
   ·have e7:sE s i=7:=aNr hc11;have hst:iE s i=(some (N0 s i).1,(N0 s i).2):=by rw[iE,aNt n1,aNt n2,aNt n3,aNt n4,aNu e7]
    have hexs:(s.extract i s.size).size<=s.size - i:=by rw[ByteArray.size_extract];omega
    have hun:=fun H=>W0 (s.extract i s.size) H (by omega);have hul:=VA (s.extract i s.size);obtain ⟨u,hu⟩:∃u,u=yI (s.extract i s.size):=⟨_,rfl⟩;have hgs:N0 s i=if 0<u.2 then(⟨3,u.1,i,0⟩,i+u.2.toNat)else(tH i,i):=by rw[N0,<-hu]
    rw[<-hu]at hun hul;obtain ⟨ut,un⟩:=u;simp only at hun hul hgs;refine Sr<|Dd (by exact aK rfl isAgg9 rfl (h1 k) rfl rfl rfl)<|Dd aG<|Dd (by exact cI (l:=i) (h:=s.size) rfl underlying9 rfl rfl rfl (by omega) (by omega) rfl)<|Dd (by exact aA rfl rfl call238 rfl (hun _))<|Dd aG<|Dd eZ<|Dd eZ<|Dd aM<|Dd aM<|Zz<|Sq<|Sr<|Dd aG<|Dd mN<|Zz ?_;refine Cn ?_ ?_<;>intro hc12
    ·rw[hgs,aNu (aNr hc12)]at hst;refine Rg<|Dd aG<|Dd (bE lJ)<|Dd (bE EY)<|Uu (by exact bD rfl sizeOf3 rfl rfl rfl rfl rfl rfl (aOI rfl) rfl rfl)<|Dd (bE lJ)<|Dd (bE kN)<|Uu (by exact bD rfl sizeOf9 rfl rfl rfl rfl rfl rfl (aOI rfl) rfl rfl)<|Dd (bE oW)<|Uu (by exact bD rfl sizeOf41 rfl rfl rfl rfl rfl rfl (aOI rfl) rfl rfl)<|Zz<|Rg<|Dd aG<|Dd aG<|Dd (by exact bG rfl rfl rfl (show IntKind.i64.wrap ((i:Int)+un)=((i+un.toNat:Nat):Int)by rw[IntKind.wrap_i64];omega))<|Da ?_;exact⟨(⟨3,ut,i,0⟩,i+un.toNat),hst,cD.get' ⟨⟨_,rfl,rfl⟩,⟨_,rfl,rfl⟩,⟨_,rfl,rfl⟩,⟨_,rfl,rfl⟩,⟨_,rfl,rfl⟩,trivial⟩ (fun q=>wS [_,_,_] (by simp) q)⟩
    have hu0:=aNs hc12;rw[hgs,aNt hu0]at hst;have e0:i+un.toNat=i:=by omega
    refine aF<|Rg<|Dd aG<|Dd aG<|Dd (by exact bG rfl rfl rfl (show IntKind.i64.wrap ((i:Int)+un)=((i+un.toNat:Nat):Int)by rw[IntKind.wrap_i64];omega))<|Da ?_;rw[e0];exact⟨(tH i,i),hst,E0⟩
   have n7:sE s i≠7:=aNs hc11;refine Sr<|Dd dK<|Da ?_;refine Cn ?_ ?_<;>intro hc13
   ·have e6:sE s i=6:=aNr hc13;have hst:iE s i=(some ⟨4,s.extract i (i+1),i,0⟩,i+1):=by rw[iE,aNt n1,aNt n2,aNt n3,aNt n4,aNt n7,aNu e6]
    refine Sr<|Dd aG<|Dd qV<|Dd aM<|Zz<|aP follows<|Cr [921] (fun H1 hH=>by exact aK rfl isAgg9 rfl ((hH _ rfl).trans (h1 k)) rfl rfl rfl)<|Cr [] (fun _ _=>aG)<|Cr [] (fun _ _=>aG)<|Cr [] (fun H1 hH=>by exact cI (l:=i) (h:=(i+1)) rfl underlying9 rfl rfl rfl (by omega) (by omega) rfl)<|Cr [926] (fun _ h=>fh lJ h)<|Cr [926] (fun _ h=>fh EY h)<|Cp [926] (fun H1 hH=>by exact bD rfl sizeOf3 rfl rfl rfl ((hH _ rfl).trans rfl) rfl rfl (aOI rfl) rfl rfl)<|Cr [926] (fun _ h=>fh lJ h)<|Cr [926] (fun _ h=>fh kN h)<|Cp [926] (fun H1 hH=>by exact bD rfl sizeOf9 rfl rfl rfl ((hH _ rfl).trans rfl) rfl rfl (aOI rfl) rfl rfl)<|Cr [926] (fun _ h=>fh oW h)<|Cp [926] (fun H1 hH=>by exact bD rfl sizeOf41 rfl rfl rfl ((hH _ rfl).trans rfl) rfl rfl (aOI rfl) rfl rfl) ?_;refine bK<|Kr ?_;exact⟨(⟨4,s.extract i (i+1),i,0⟩,i+1),hst,cD.get' ⟨⟨_,rfl,rfl⟩,⟨_,rfl,rfl⟩,⟨_,rfl,rfl⟩,⟨_,rfl,rfl⟩,⟨_,rfl,rfl⟩,trivial⟩ (fun q=>wS [_,_,_] (by simp) q)⟩
   have n6:sE s i≠6:=aNs hc13;have hst:iE s i=(some (tH i),i):=by rw[iE,aNt n1,aNt n2,aNt n3,aNt n4,aNt n7,aNt n6]
   refine aF ?_;exact⟨(tH i,i),hst,E0⟩
  rintro⟨f,j⟩ hst;rw[hst]at hinv;simp only at hinv hst;obtain ⟨hk1,hk2⟩:=U6 hinv;have hkl:=(aNz.1 hk1).1;have hkm2:k<m:=by
   rcases Nat.lt_or_ge k m with h|h
   ·exact h
   have hkem:k=m:=Nat.le_antisymm hkm h;subst hkem;rcases hend with h|⟨h,h'⟩
   ·omega
   rcases hkc with h2|h2
   ·omega
   rw[h2]at h';cases h'
  have hstop:ds.length=k+1\/cont k=false->k+1=m:=fun h=>by
   rcases h with h|h
   ·omega
   rcases Nat.lt_or_ge (k+1) m with h3|h3
   ·rw[hall k h3]at h;cases h
   omega
  have hyk:=hy k f hk1 hkm2;cases hck:cont k with
  |false =>
   have hkk:=hstop (.inr hck);rw[hck]at hyk;refine Sr<|Dd aG<|Dd (rC isAgg218 DM)<|Dd (by exact cC rfl rfl rfl (hyk))<|Dd mT<|Dd aG<|Fo<|Fo<|Fo<|Dd cN<|Zz ?_;refine Cn ?_ ?_<;>intro hc14
   ·refine aE ?_;rw[<-hkk];exact qU (H':=Hs (k+1)) (.inr rfl) rfl (Fin.pops' [(926,tF f)] (by simp) (hcl _) (by simp[h6]) (by simp[h6])) ⟨rfl,rfl⟩
   cases hc14
  | true =>
   rw[hck]at hyk;refine Sr<|Dd aG<|Dd (rC isAgg218 DM)<|Dd (by exact cC rfl rfl rfl (hyk))<|Dd mT<|Dd aG<|On (bE oW)<|On (bQ jS)<|On zW<|Dd cN<|Zz ?_;refine Cn ?_ ?_<;>intro hc15
   ·have hne:f.err≠0:=by
     have h:=hc15
     simpa using h
    rw[aNt hne]at hk2;have hkk:=hstop (.inl (by have:=List.drop_eq_nil_iff.1 hk2;omega));refine aE ?_;rw[<-hkk];exact qU (H':=Hs (k+1)) (.inr rfl) rfl (Fin.pops' [(926,tF f)] (by simp) (hcl _) (by simp[h6]) (by simp[h6])) ⟨rfl,rfl⟩
   have he0:f.err=0:=by
    have h:=hc15
    simpa using h
   obtain ⟨g1,g2⟩:=aFz hst he0 hlt;rw[aNu he0]at hk2;refine aF ?_;exact⟨j,k+1,⟨g2,hkm2,.inr hck,n,by omega,hk2⟩,by omega,hfree _ _ _ _ _ rfl rfl rfl rfl rfl⟩
 have hge:s.size<=i:=by have:=aNs hc1;omega
 have hnil:mC s n i=[]:=by
  cases n with
  |zero=>rfl
  |succ n=>rw[mC,aNt (by omega)]
 rw[hnil]at hinv;have hkd:=List.drop_eq_nil_iff.1 hinv;have hkk:k=m:=by omega
 refine aY ?_;rw[<-hkk];exact qU (H':=Hs k) (.inl rfl) rfl Fin.refl ⟨rfl,rfl⟩
def dT(f:GFound):List PV:=[.int .i64 f.kind,.str f.text,.int .i64 f.pos]
def Q2(l:List GFound):PV:=.sl (l.map dT)
def jI(l:List GFound):List (List AV):=l.map fun f=>(dT f).map AV.pv
theorem xE(l:List GFound):(jI l).length=l.length:=aNv _
theorem CN(l:List GFound)(f:GFound):jI l++[(dT f).map AV.pv]=jI (l++[f]):=by rw[jI,jI,List.map_append];rfl
theorem bZ(H:aB)(l:List GFound):∀r∈jI l,∀a∈r,Clo H a:=by intro r hr a ha;obtain ⟨d,_,rfl⟩:=List.mem_map.1 hr;obtain ⟨p,_,rfl⟩:=List.mem_map.1 ha;simp
theorem oM(h1:(H.get 921).isSome=true)(h2:(H.get 923).isSome=true):∀r∈tA.rows,∀a∈r,Clo H a:=by intro r hr a ha;simp only[tA,bx,aNy]at hr;subst hr;rw[aNy]at ha;subst ha;simp[h1,h2]
theorem oL(H:aB)(s:ByteArray):∀r∈(tS s).rows,∀a∈r,Clo H a:=by intro r hr a ha;simp only[tS,bx,aNy]at hr;subst hr;rw[aNy]at ha;subst ha;simp
def lD:List GFound->List GFound->List GFound×Int×Int
 |acc,[]=>(acc,0,0)
 |acc,f::r=>if f.err≠0 then([],f.err,f.pos)else if acc.length=5000 then([],2,f.pos)else lD (acc++[f]) r
def hY(s:ByteArray):List GFound×Int×Int:=if 20000<s.size then([],2,-1)else lD [] (mC s (s.size+1) 0)
def oS(ds:List GFound)(k:Nat):Bool:=match ds[k]? with
 |some f=>decide (f.err=0)&&!decide (k=5000)
 |none=>true
theorem GH{ds:List GFound}:∀ {k:Nat},k<=ds.length->(∀j,j<k->oS ds j=true)->lD [] ds=lD (ds.take k) (ds.drop k)
 |0,_,_=>rfl
 |k+1,hk,h=>by
  rw[GH (Nat.le_of_succ_le hk) (fun j hj=>h j (by omega))];have hd:ds.drop k=ds[k]::ds.drop (k+1):=List.drop_eq_getElem_cons hk;have hok:=h k (Nat.lt_succ_self k);rw[oS,aOA hk]at hok;simp only[aOE,aOC,aOO,aOD]at hok;have htl:(ds.take k).length=k:=by rw[aOJ];omega
  rw[hd,lD,aNt (fun h=>h hok.1),aNt (by rw[htl];exact hok.2),List.take_add_one,aOA hk];rfl
theorem AD(s:ByteArray):∀(n i:Nat),(mC s n i).length<=n
 |0,_=>aOM _
 | n+1,i=>by
  rw[mC]
  split
  ·split
   ·exact Nat.le_succ_of_le (AD s n _)
   rw[aNx]
   split
   ·exact Nat.succ_le_succ (AD s n _)
   exact Nat.succ_le_succ (aOM _)
  exact aOM _
def kL(s:ByteArray)(L:List GFound)(a:AV)(e p:Int):aB:=[(905,⟨L.length,3,187,jI L⟩),(5,bx 1 182 [.osl 905 L.length 0 L.length]),(924,tA),(923,tC),(921,tS s),(4,bx 1 3 [iv p]),(3,bx 1 41 [iv e]),(2,bx 1 182 [a])]
theorem aER(s:ByteArray)(L:List GFound)(f:GFound)(a:AV)(e p:Int):kL s (L++[f]) a e p=[(905,⟨L.length+1,3,187,jI (L++[f])⟩),(5,bx 1 182 [.osl 905 (L.length+1) 0 (L.length+1)]),(924,tA),(923,tC),(921,tS s),(4,bx 1 3 [iv p]),(3,bx 1 41 [iv e]),(2,bx 1 182 [a])]:=by simp[kL]
def qP:bS:=[(2,.ref 2 0 0 0),(3,.ref 3 0 0 0),(4,.ref 4 0 0 0),(5,.ref 5 0 0 0)]
theorem EJ{ds:List GFound}(h:ds[k]?=some f):oS ds k=(decide (f.err=0)&&!decide (k=5000)):=by rw[oS,h]
theorem aIL(s:ByteArray)(H:aB)(hs:s.size<1099511627776):aH Tryz.prog 157 [sv s] H (fun r H'=>r=.tup [.pv (Q2 (hY s).1),iv (hY s).2.1,iv (hY s).2.2]/\H'=H):=by
 refine Pu ?_;refine Bd func157 rfl ntmps157<|Sr<|Dd (by exact bM (id:=2) rfl aHz rfl rfl)<|Dd (by exact bM (id:=3) rfl aI8 rfl rfl)<|Dd (by exact bM (id:=4) rfl zo3 rfl rfl)<|Zz<|Sq<|Sr<|Dd aG<|Dd (nF underlying9)<|Dd mN<|Zz ?_;refine Cn ?_ ?_<;>intro hc1
 ·have e:hY s=([],2,-1):=by rw[hY,aNu (by have:=aNr hc1;omega)]
  rw[e];refine Sr<|Uu (kG kP)<|Uu (kG sizeOf41)<|Uu (kG sizeOf3)<|Zz<|aE ?_;refine zI (H':=[]) (.inr rfl) rfl (fM rfl jY rfl rfl rfl rfl) (fM rfl jS rfl rfl rfl rfl) (fM rfl isAgg3 rfl rfl rfl rfl) (Fin.wk (by simp) trivial trivial) ?_;exact Qq
 have hsz:¬ 20000<s.size:=by have:=aNs hc1;omega
 obtain ⟨ds,hds⟩:∃ds,ds=mC s (s.size+1) 0:=⟨_,rfl⟩;have hg:hY s=lD [] ds:=by rw[hY,aNt hsz,hds]
 refine aF<|Sr<|Dd (by exact bM (id:=5) rfl aCa rfl rfl)<|Zz<|Sq<|Sr<|Dd aG<|Dd (by exact aA rfl rfl call197 rfl (TL s _ rfl rfl rfl (dF.ofL ⟨(by(simp;done)),(by(simp;done)),(by(simp;done)),(by(simp;done)),trivial⟩)))<|Zz<|aD ?_;refine fL.ent (E':=[(2,.ref 2 0 0 0),(3,.ref 3 0 0 0),(4,.ref 4 0 0 0),(5,.ref 5 0 0 0),(11,.clo 237 [.ref 921 0 0 0,.ref 924 0 0 0])]) (H':=[(905,⟨0,3,187,[]⟩),(5,bx 1 182 [.osl 905 0 0 0]),(924,tA),(923,tC),(921,tS s),(4,bx 1 3 [iv 0]),(3,bx 1 41 [iv 0]),(2,bx 1 182 [.pv (.sl [])])]) ?_ ?_
 ·exact(cD.nz 905 3 187 rfl rfl ⟨⟨_,rfl,(by exact Nz.same (by(simp;rfl)))⟩,⟨_,rfl,(by exact Nz.same (by(simp;rfl)))⟩,⟨_,rfl,(by exact Nz.same (by(simp;rfl)))⟩,⟨_,rfl,(by exact Nz.same (by(simp;rfl)))⟩,⟨_,rfl,(by exact Nz.same (by(simp;exact⟨rfl,rfl⟩)))⟩,trivial⟩ ⟨⟨_,rfl,rfl,rfl,rfl,(by exact .inr ⟨_,_,rfl,rfl,(by repeat(first|exact trivial|refine⟨(by exact Nz.own),?_⟩))⟩)⟩,⟨_,rfl,rfl,rfl,rfl,(by exact .inl ⟨rfl,(by exact oM rfl rfl)⟩)⟩,⟨_,rfl,rfl,rfl,rfl,(by exact .inl ⟨rfl,(by exact gN _)⟩)⟩,⟨_,rfl,rfl,rfl,rfl,(by exact .inl ⟨rfl,(by exact oL _ _)⟩)⟩,⟨_,rfl,rfl,rfl,rfl,(by exact .inl ⟨rfl,(by(simp;done))⟩)⟩,⟨_,rfl,rfl,rfl,rfl,(by exact .inl ⟨rfl,(by(simp;done))⟩)⟩,⟨_,rfl,rfl,rfl,rfl,(by exact .inl ⟨rfl,(by(simp;done))⟩)⟩,trivial⟩ trivial)
 have hdl:ds.length<=s.size+1:=by rw[hds];exact AD s _ _
 obtain ⟨j,hj⟩:∃j,j=uE (oS ds) ds.length 0:=⟨_,rfl⟩;have hj1:j<=ds.length:=by have:=(DZ (oS ds) ds.length 0).2;omega
 have hj2:∀k,k<j->oS ds k=true:=fun k hk=>D1 (oS ds) ds.length 0 k (aOM _) (by rw[<-hj];exact hk);have hj3:j<ds.length->oS ds j=false:=fun h=>by have:=wB (oS ds) ds.length 0 (by omega);rwa [<-hj]at this
 have hrun:=GH hj1 hj2;refine BX (id:=904) (p:=12) qP rfl call237 rfl rfl (by simp[qP];exact⟨rfl,rfl,rfl,rfl⟩) ?_;intro x hx1 hx2 hx3 hx4 hx5 hx6;have hround:∀(k:Nat) (d:GFound),ds[k]?=some d->k<=j ->
   cK Tryz.prog (.yld 904 0) [.agg ((E5 d).map .pv)] ((904,LR x qP)::(926,tF d)::kL s (ds.take k) (.pv (.sl [])) 0 0) (fun r H'=>r=bv (oS ds k)/\H'=(if oS ds k then(904,LR x qP)::(926,tF d)::kL s (ds.take (k+1)) (.pv (.sl [])) 0 0 else(904,LR (left x .ret) qP)::(926,tF d)::kL s (ds.take k) (.pv (.sl [])) (if d.err≠0 then d.err else 2) d.pos)):=by
  intro k d hd hkj;have hok:=EJ hd;have hkl:k<ds.length:=(aNz.1 hd).1;have htl:(ds.take k).length=k:=by rw[aOJ];omega
  have hnx:ds.take (k+1)=ds.take k++[d]:=by rw[List.take_add_one,hd];rfl
  refine .inl ⟨904,0,rfl,?_⟩;refine QR [(2,.ref 2 0 0 0),(3,.ref 3 0 0 0),(4,.ref 4 0 0 0),(5,.ref 5 0 0 0),(6,.ref 907 0 0 0)] ((907,tF d)::(926,tF d)::kL s (ds.take k) (.pv (.sl [])) 0 0) hx1 hx2 hx3 hx4 hx5 hx6 rfl rfl rfl ?_ ?_
  ·refine Rg<|Dd (by exact bM (id:=907) rfl aCb rfl rfl)<|Uu (kG DM)<|Zz ?_;exact(cD.wk (Ea<|Ea<|Ea<|Ea<|Ea<|trivial) (Hc (jW (by simp[qP];exact⟨rfl,rfl,rfl,rfl⟩))<|Hc (vA _ _)<|Hc (vA _ _)<|Hc (bZ _ _)<|Ha<|Hc (oM rfl rfl)<|Hc (gN _)<|Hc (oL _ _)<|Hb<|Hb<|Hb<|trivial) ⟨rfl,rfl,rfl,rfl,rfl,rfl,rfl,rfl,rfl,rfl,trivial⟩)
  refine aD<|Sq<|aD<|Sr<|Dd (bE oW)<|Dd (bQ jS)<|Dd zW<|Da ?_;refine Cn ?_ ?_<;>intro hc2
  ·have he:d.err≠0:=by have h:=hc2;rw[aOO,aOD]at h;exact h
   have h0:oS ds k=false:=by rw[hok,decide_eq_false he];rfl
   rw[h0,aNt (by decide),aNu he];refine Sq<|aP follows<|Cr [907] (fun _ h=>fh oW h)<|Cr [907] (fun _ h=>lh jS h)<|Cr [907] (fun _ h=>fh lJ h)<|Cr [907] (fun _ h=>fh JF h)<|Cr [907] (fun _ h=>lh isAgg3 h)<|Cp [2] (fun H1 hH=>by exact bX rfl kP rfl rfl rfl rfl ((hH _ rfl).trans rfl) rfl rfl rfl)<|Cp [3] (fun H1 hH=>by exact bX rfl sizeOf41 rfl rfl rfl rfl ((hH _ rfl).trans rfl) rfl rfl rfl)<|Cp [4] (fun H1 hH=>by exact bX rfl sizeOf3 rfl rfl rfl rfl ((hH _ rfl).trans rfl) rfl rfl rfl)<|bK<|Kr<|aE ?_;exact⟨(926,tF d)::kL s (ds.take k) (.pv (.sl [])) d.err d.pos,(cD.wk trivial (Hc (jW (by simp[qP];exact⟨rfl,rfl,rfl,rfl⟩))<|Hc (vA _ _)<|Hc (bZ _ _)<|Ha<|Hc (oM rfl rfl)<|Hc (gN _)<|Hc (oL _ _)<|Hb<|Hb<|Hb<|trivial) ⟨rfl,rfl,rfl,rfl,rfl,rfl,rfl,rfl,rfl,rfl,trivial⟩),rfl,rfl⟩
  have he:d.err=0:=by have h:=hc2;rw[Bool.not_eq_false',aOC]at h;exact h
  refine Sr<|Dd (bQ jY)<|Dd (by exact eB rfl gE rfl rfl rfl)<|Dd dK<|Da ?_;refine Cn ?_ ?_<;>intro hc3
  ·have hk5:k=5000:=by have:=aNr hc3;omega
   have h0:oS ds k=false:=by rw[hok,decide_eq_true he,decide_eq_true hk5];rfl
   rw[h0,aNt (by decide),aNt (fun h=>h he)];refine Sq<|aP follows<|Cr [907] (fun _ h=>fh lJ h)<|Cr [907] (fun _ h=>fh JF h)<|Cr [907] (fun _ h=>lh isAgg3 h)<|Cp [2] (fun H1 hH=>by exact bX rfl kP rfl rfl rfl rfl ((hH _ rfl).trans rfl) rfl rfl rfl)<|Cp [3] (fun H1 hH=>by exact bX rfl sizeOf41 rfl rfl rfl rfl ((hH _ rfl).trans rfl) rfl rfl rfl)<|Cp [4] (fun H1 hH=>by exact bX rfl sizeOf3 rfl rfl rfl rfl ((hH _ rfl).trans rfl) rfl rfl rfl)<|bK<|Kr<|aE ?_;exact⟨(926,tF d)::kL s (ds.take k) (.pv (.sl [])) 2 d.pos,(cD.wk trivial (Hc (jW (by simp[qP];exact⟨rfl,rfl,rfl,rfl⟩))<|Hc (vA _ _)<|Hc (bZ _ _)<|Ha<|Hc (oM rfl rfl)<|Hc (gN _)<|Hc (oL _ _)<|Hb<|Hb<|Hb<|trivial) ⟨rfl,rfl,rfl,rfl,rfl,rfl,rfl,rfl,rfl,rfl,trivial⟩),rfl,rfl⟩
  have hk5:¬ k=5000:=by have:=aNs hc3;omega
  have h0:oS ds k=true:=by rw[hok,decide_eq_true he,decide_eq_false hk5];rfl
  rw[h0,aNu rfl,hnx,aER];refine aF<|Rg<|Dd (bQ jY)<|Dd (bE lJ)<|Dd (rC WU sizeOf187)<|Dd (by exact aQ [dT d] rfl mM rfl rfl rfl rfl rfl (by intro r hr;rw[aNy]at hr;subst hr;rfl))<|Dd (by exact cF (ps:=[dT d]) rfl mM aEg rfl rfl rfl rfl rfl (xE _) rfl (by intro r hr;rw[aNy]at hr;subst hr;rfl) (m:=1) rfl (by omega) rfl (CN (ds.take k) d))<|Uu (kG kP)<|Zz ?_;exact⟨(926,tF d)::[(905,⟨(ds.take k).length+1,3,187,jI (ds.take k++[d])⟩),(5,bx 1 182 [.osl 905 ((ds.take k).length+1) 0 ((ds.take k).length+1)]),(924,tA),(923,tC),(921,tS s),(4,bx 1 3 [iv 0]),(3,bx 1 41 [iv 0]),(2,bx 1 182 [.pv (.sl [])])],(cD.wk trivial (Hc (jW (by simp[qP];exact⟨rfl,rfl,rfl,rfl⟩))<|Hc (vA _ _)<|Hc (bZ _ _)<|Ha<|Hc (oM rfl rfl)<|Hc (gN _)<|Hc (oL _ _)<|Hb<|Hb<|Hb<|trivial) ⟨rfl,rfl,rfl,rfl,rfl,rfl,rfl,rfl,rfl,rfl,trivial⟩),rfl,rfl⟩
 rcases Nat.lt_or_ge j ds.length with hlt|hge
 ·obtain ⟨f,hf⟩:=aV hlt;have hbad:=hj3 hlt;have hdj:ds.drop j=f::ds.drop (j+1):=by
   rw[List.drop_eq_getElem_cons hlt];rw[aOA hlt]at hf;cases hf;rfl
  have hres:hY s=([],(if f.err≠0 then f.err else 2),(f.pos:Int)):=by
   rw[hg,hrun,hdj,lD]
   split
   ·rfl
   rename_i he;have he0:f.err=0:=by
    by_cases h:f.err=0
    ·exact h
    exact absurd h he
   rw[EJ hf,decide_eq_true he0,Bool.true_and,Bool.not_eq_false',aOC]at hbad;rw[aNu (by rw[aOJ];omega)]
  rw[hres];refine(FY s (.yld 904 0) (fun k=>if k<=j then(904,LR x qP)::kL s (ds.take k) (.pv (.sl [])) 0 0 else(904,LR (left x .ret) qP)::kL s (ds.take j) (.pv (.sl [])) (if f.err≠0 then f.err else 2) f.pos) (oS ds) (j+1) hs (fun k=>?_) (fun k=>?_) (fun k=>?_) (fun k=>?_) (fun k=>?_) (fun k=>?_) (by rw[<-hds];exact hlt) (fun k hk=>hj2 k (by omega)) (.inr ⟨Nat.succ_pos _,by rw[Nat.add_sub_cancel];exact hbad⟩) ?_).mono ?_
  ·split<;>rfl
  ·split<;>rfl
  ·split<;>rfl
  ·split<;>rfl
  ·split
   ·exact(dF.ofL ⟨(by exact jW (by simp[qP];exact⟨rfl,rfl,rfl,rfl⟩)),(by exact bZ _ _),(by(simp;rfl)),(by exact oM rfl rfl),(by exact gN _),(by exact oL _ _),(by(simp;done)),(by(simp;done)),(by(simp;done)),trivial⟩)
   exact(dF.ofL ⟨(by exact jW (by simp[qP];exact⟨rfl,rfl,rfl,rfl⟩)),(by exact bZ _ _),(by(simp;rfl)),(by exact oM rfl rfl),(by exact gN _),(by exact oL _ _),(by(simp;done)),(by(simp;done)),(by(simp;done)),trivial⟩)
  ·split<;>(simp;rfl)
  ·rw[<-hds];intro k d hd hk;have hr:=hround k d hd (by omega);rw[aNu (by omega)];by_cases hkj:k=j
   ·subst hkj;rw[hf]at hd;cases hd;rw[hbad,aNt (by decide)]at hr;rw[aNt (by omega),hbad];exact cK.congrG hr (fun j=>nB (by decide) j) (fun j=>nB (by decide) j)
   have hok:=hj2 k (by omega);rw[hok,aNu rfl]at hr;rw[aNu (by omega),hok];exact cK.congrG hr (fun j=>nB (by decide) j) (fun j=>nB (by decide) j)
  rintro r H' ⟨rfl,rfl⟩;rw[aNt (by omega)];refine⟨left x .ret,_,rfl,by simp[left],rfl,fun z=>?_⟩;show HE _ _ _ _ _ _ _;refine zI (H':=[]) (.inr rfl) rfl (fM rfl jY rfl rfl rfl rfl) (fM rfl jS rfl rfl rfl rfl) (fM rfl isAgg3 rfl rfl rfl rfl) (Fin.wk (by simp) trivial trivial) ?_;exact Qq
 have hje:j=ds.length:=Nat.le_antisymm hj1 hge;rw[hje,List.take_length,List.drop_length]at hrun;rw[hg,hrun,lD];refine(FY s (.yld 904 0) (fun k=>(904,LR x qP)::kL s (ds.take k) (.pv (.sl [])) 0 0) (oS ds) ds.length hs (fun k=>rfl) (fun k=>rfl) (fun k=>rfl) (fun k=>rfl) (fun k=>(dF.ofL ⟨(by exact jW (by simp[qP];exact⟨rfl,rfl,rfl,rfl⟩)),(by exact bZ _ _),(by(simp;rfl)),(by exact oM rfl rfl),(by exact gN _),(by exact oL _ _),(by(simp;done)),(by(simp;done)),(by(simp;done)),trivial⟩)) (fun k=>by simp;rfl) (by rw[<-hds];exact aOB _) (fun k hk=>hj2 k (by omega)) (.inl (by rw[<-hds])) ?_).mono ?_
 ·rw[<-hds];intro k d hd hk;have hr:=hround k d hd (by omega);have hok:=hj2 k (by omega);rw[hok,aNu rfl]at hr;rw[hok];exact cK.congrG hr (fun j=>nB (by decide) j) (fun j=>nB (by decide) j)
 rintro r H' ⟨rfl,rfl⟩;rw[List.take_length];refine⟨x,_,rfl,by rw[hx1];decide,rfl,fun z=>?_⟩;rw[hx2];refine Sr<|Dd (bQ jY)<|Uu (kG kP)<|Uu (kG sizeOf41)<|Uu (kG sizeOf3)<|Zz<|aE ?_;refine zI (H':=[]) (.inr rfl) rfl (fM rfl jY rfl rfl rfl rfl) (fM rfl jS rfl rfl rfl rfl) (fM rfl isAgg3 rfl rfl rfl rfl) (Fin.fz (r':=.tup [.pv (Q2 ds),iv 0,iv 0]) (id:=905) (ob:=⟨ds.length,3,187,jI ds⟩) (ds.map dT) rfl (by rw[List.map_map];rfl) (.tup rfl (cG (.osl (qs:=ds.map dT) (by rw[aON,List.drop_zero];exact List.take_of_length_le (Nat.le_of_eq (aNv dT)))) (cG (.same (by simp)) (cG (.same (by simp)) nO)))) rfl trivial trivial) ?_;exact Qq
def xG:List GFound->Option (List GTag)
 | []=>some []
 |a::_::c::r=>(xG r).map fun l=>⟨a.text,c.text⟩::l
 |_=>none
def OK(l:List GFound)(k:Nat):GTag:=⟨((l[3*k]?).map GFound.text).getD sNil,((l[3*k+2]?).map GFound.text).getD sNil⟩
def dS(l:List GFound)(k:Nat):List GTag:=(List.range k).map (OK l)
theorem A1(l:List GFound)(k:Nat):dS l (k+1)=dS l k++[OK l k]:=by rw[dS,List.range_succ,List.map_append];rfl
theorem CF(l:List GFound)(k:Nat):(dS l k).length=k:=by rw[dS,aNv,List.length_range]
def rP(l:List GTag):List (List AV):=l.map fun t=>(bJ t).map AV.pv
theorem JU(l:List GTag):(rP l).length=l.length:=aNv _
theorem JV(l:List GTag)(t:GTag):rP l++[(bJ t).map AV.pv]=rP (l++[t]):=by rw[rP,rP,List.map_append];rfl
theorem kE(H:aB)(l:List GTag):∀r∈rP l,∀a∈r,Clo H a:=by intro r hr a ha;obtain ⟨d,_,rfl⟩:=List.mem_map.1 hr;obtain ⟨p,_,rfl⟩:=List.mem_map.1 ha;simp
theorem LB:∀(r acc:List GFound),(lD acc r).1.length<=acc.length+r.length
 | [],acc=>aOB _
 |f::r,acc=>by
  rw[lD]
  split
  ·exact aOM _
  split
  ·exact aOM _
  have:=LB r (acc++[f]);rw[aNw,List.length_singleton]at this;rw[aNx];omega
theorem EO(s:ByteArray)(h:s.size<1099511627776):(hY s).1.length<549755813888:=by
 unfold hY
 split
 ·decide
 have h1:=LB (mC s (s.size+1) 0) [];have h2:=AD s (s.size+1) 0;rw[List.length_nil]at h1;omega
theorem bB(s:ByteArray):s.data.toList.length=s.size:=by simp
theorem rG{a b:ByteArray}(h:a.data.toList=b.data.toList):a=b:=by cases a with|mk a=>cases b with|mk b=>cases a;cases b;simp at h;rw[h]
theorem iX(s:ByteArray)(i j:Nat):(s.extract i j).data.toList=(s.data.toList.drop i).take (j - i):=by rw[ByteArray.data_extract,Array.toList_extract,List.extract_eq_take_drop]
theorem wW(h:s.data.toList.drop i=c::r):i<s.size/\cZ s i=(c.toNat:Int)/\s.data.toList.drop (i+1)=r:=by obtain ⟨h1,h2⟩:=U6 h;refine⟨by rw[<-bB];exact(aNz.1 h1).1,by rw[cZ,h1];rfl,h2⟩
theorem DF(h:s.data.toList.drop i=c::r):sE s i=E9 (c.toNat:Int):=by obtain ⟨h1,h2,_⟩:=wW h;rw[sE,aNu h1,h2]
theorem aAd(h:s.data.toList.drop i=[]):sE s i=0:=by have:=List.drop_eq_nil_iff.1 h;rw[bB]at this;rw[sE,aNt (by omega)]
theorem iH(h:s.data.toList.drop i=w++r):s.data.toList.drop (i+w.length)=r:=by rw[<-List.drop_drop,h,List.drop_left]
theorem aA3(h:s.data.toList.drop i=w++r)(hk:w[k]?=some c):s.data.toList.drop (i+k)=c::((w.drop (k+1))++r):=by
 have hlt:=(aNz.1 hk).1;have e:w=w.take k++c::w.drop (k+1):=by
  conv=>lhs;rw[<-List.take_append_drop k w]
  rw[List.drop_eq_getElem_cons hlt,(aNz.1 hk).2]
 have h2:s.data.toList.drop i=w.take k++(c::w.drop (k+1)++r):=by
  rw[h];exact(congrArg (·++r) e).trans (List.append_assoc _ _ _)
 have h3:=iH h2;rw[aOJ,Nat.min_eq_left (by omega)]at h3;exact h3
theorem A3(h:s.data.toList.drop i=w++r):s.extract i (i+w.length)=⟨w.toArray⟩:=by refine rG ?_;rw[iX,h,Nat.add_sub_cancel_left,List.take_left]
theorem A2:(s.extract i s.size).data.toList=s.data.toList.drop i:=by rw[iX];exact List.take_of_length_le (by rw[aOK,bB];exact aOB _)
theorem xZ{k:ByteArray}(h:bO k=true):0<k.size/\k.size<=24/\E9 (cZ k 0)=3/\∀j,j<k.size->(E9 (cZ k j)=3\/E9 (cZ k j)=4\/E9 (cZ k j)=5):=by
 rw[bO,aOE,aOE,aOO,aOO,List.any_eq_false,aOD,aOC]at h;obtain ⟨h1,h2,h3⟩:=h;have hpos:0<k.size:=by
  rcases Nat.eq_zero_or_pos k.size with e|e
  ·refine absurd (rG ?_) h2;rw[<-bB]at e;rw[List.length_eq_zero_iff.1 e]
  exact e
 have hb:∀j,j<k.size->WE k j=false:=fun j hj=>by
  have:=h1 j (List.mem_range.2 hj)
  simpa using this
 refine⟨hpos,by omega,?_,fun j hj=>?_⟩
 ·have:=hb 0 hpos
  simpa[WE]using this
 have:=hb j hj;rw[WE]at this;by_cases e1:E9 (cZ k j)=3
 ·exact .inl e1
 by_cases e2:E9 (cZ k j)=4
 ·exact .inr (.inl e2)
 by_cases e3:E9 (cZ k j)=5
 ·exact .inr (.inr e3)
 simp[e1,e2,e3]at this
theorem aGz{k:ByteArray}(h:j<k.size):∃c,k.data.toList[j]?=some c/\cZ k j=(c.toNat:Int):=by rw[<-bB]at h;exact⟨_,aOA h,by rw[cZ,aOA h];rfl⟩
theorem aBA{k:ByteArray}(h:s.data.toList.drop i=k.data.toList++r)(hk:bO k=true)(hr:∀c r',r=c::r'->E9 (c.toNat:Int)≠3/\E9 (c.toNat:Int)≠4/\E9 (c.toNat:Int)≠5):
  iE s i=(some ⟨1,k,i,0⟩,i+k.size):=by
 obtain ⟨hpos,hle,h0,hall⟩:=xZ hk;have hat:∀j,j<k.size->sE s (i+j)=E9 (cZ k j):=fun j hj=>by
  obtain ⟨c,hc,e⟩:=aGz hj;rw[DF (aA3 h hc),e]
 have hlen:i+k.size<=s.size:=by
  have:=congrArg List.length h;rw[aOK,aNw,bB,bB]at this;omega
 have ha0:sE s i=3:=by
  have:=hat 0 hpos;rw[Nat.add_zero,h0]at this;exact this
 have hend:IM s i=i+k.size:=by
  refine D0 (AJ s) (by omega) (by omega) (fun j h1 h2=>?_) ?_
  ·have:=hat (j - i) (by omega);rw[show i+(j - i)=j by omega]at this;rw[AJ,this];rcases hall (j - i) (by omega)with e|e|e<;>rw[e]<;>rfl
  left;have hd:=iH h;rw[bB]at hd;cases r with
  |nil=>rw[AJ,aAd hd];rfl
  |cons c r' =>
   obtain ⟨e1,e2,e3⟩:=hr c r' rfl;rw[AJ,DF hd,decide_eq_false e1,decide_eq_false e2,decide_eq_false e3];rfl
 have hex:=A3 h;rw[bB]at hex;have hkk:(⟨k.data.toList.toArray⟩:ByteArray)=k:=rG (by simp);rw[iE,aNt (by rw[ha0];decide),aNt (by rw[ha0];decide),aNu ha0,hend,C0,hex,hkk,aNt (by omega)]
theorem aFy(h:s.data.toList.drop i=32::r):iE s i=(none,i+1):=by
 have ha:sE s i=1:=by rw[DF h];rfl
 rw[iE,aNu ha]
theorem TJ:∀(v r:List UInt8),oJ (v.flatMap oU++34::r)=some (v,(v.flatMap oU).length+1)
 | [],r=>JQ
 | b::v,r=>by
  have ih:=TJ v r;rw[List.flatMap_cons,List.append_assoc,aNw];by_cases h1:b=10
  ·have e:oU b=[92,110]:=by rw[oU,aNu h1]
   rw[e];show oJ (92::110::(v.flatMap oU++34::r))=_;rw[IP,ih,h1];show some (10::v,_)=some (10::v,_);congr 2;show (v.flatMap oU).length+1+2=2+_+1;omega
  by_cases h2:b=34\/b=92
  ·have e:oU b=[92,b]:=by rw[oU,aNt h1,aNu h2]
   have hu:AU b=some b:=by
    rcases h2 with e|e<;>subst e<;>rfl
   rw[e];show oJ (92::b::(v.flatMap oU++34::r))=_;rw[IP,ih,hu];show some (b::v,_)=some (b::v,_);congr 2;show (v.flatMap oU).length+1+2=2+_+1;omega
  have e:oU b=[b]:=by rw[oU,aNt h1,aNt h2]
  have h3:b≠34/\b≠92:=⟨fun e=>h2 (.inl e),fun e=>h2 (.inr e)⟩;rw[e];show oJ (b::(v.flatMap oU++34::r))=_;rw[JR h3.1 h1 h3.2,ih];show some (b::v,_)=some (b::v,_);congr 2;show (v.flatMap oU).length+1+1=1+_+1;omega
theorem TP{v:ByteArray}(h:s.data.toList.drop i=eC v.data.toList++r):iE s i=(some ⟨3,v,i,0⟩,i+(eC v.data.toList).length):=by
 have h':s.data.toList.drop i=34::(v.data.toList.flatMap oU++34::r):=by rw[h,eC];simp
 have ha:sE s i=7:=by rw[DF h'];rfl
 have hu:yI (s.extract i s.size)=(v,(((v.data.toList.flatMap oU).length+1+1:Nat):Int)):=by
  rw[yI,A2,h',List.drop_succ_cons,List.drop_zero,TJ]
 have hs:N0 s i=(⟨3,v,i,0⟩,i+(eC v.data.toList).length):=by
  rw[N0,hu,aNu (by show (0:Int)<((_:Nat):Int);omega)];congr 1;show i+_=i+_;congr 1;rw[aOG,eC,aNx,aNw,List.length_singleton]
 rw[iE,aNt (by rw[ha];decide),aNt (by rw[ha];decide),aNt (by rw[ha];decide),aNt (by rw[ha];decide),aNu ha,hs]
def PJ(t:GTag):List UInt8:=t.key.data.toList++61::eC t.val.data.toList
theorem PI(t:GTag):(jP t).data.toList=PJ t:=by rw[jP,PJ];simp
def qO(l:List GTag):List UInt8:=l.flatMap fun t=>32::PJ t
def WN(T:List GFound)(l:List GTag):Prop:=xG T=some l/\(∀f,f∈T->f.err=0)/\T.length=3*l.length
theorem WN.cons{T:List GFound}{l:List GTag}{a b c:GFound}(h:WN T l)(ha:a.err=0)(hb:b.err=0)(hc:c.err=0):WN (a::b::c::T) (⟨a.text,c.text⟩::l):=by
 obtain ⟨h1,h2,h3⟩:=h;refine⟨by rw[xG,h1];rfl,fun f hf=>?_,by rw[aNx,aNx,aNx,aNx,h3];omega⟩;rcases aOH.1 hf with rfl|hf
 ·exact ha
 rcases aOH.1 hf with rfl|hf
 ·exact hb
 rcases aOH.1 hf with rfl|hf
 ·exact hc
 exact h2 f hf
theorem aAw(t:GTag)(l:List GTag):(HV (t::l)).data.toList=PJ t++qO l:=by show cM [32] (bs ((t::l).map jP))=_;rw[bs,List.map_map,List.map_cons,cM];show (jP t).data.toList++_=_;rw[PI,qO,List.flatMap_map];congr 1;congr 1;funext x;show [32]++(jP x).data.toList=_;rw[PI];rfl
theorem GI:∀(T acc:List GFound),(∀f,f∈T->f.err=0)->acc.length+T.length<=5000->lD acc T=(acc++T,0,0)
 | [],acc,_,_=>by rw[lD,List.append_nil]
 |f::T,acc,h,hl=>by
  rw[aNx]at hl;rw[lD,aNt (fun e=>e (h f List.mem_cons_self)),aNt (by omega),GI T (acc++[f]) (fun g hg=>h g (List.mem_cons_of_mem _ hg)) (by rw[aNw,List.length_singleton];omega),List.append_assoc];rfl
end Go.Proofs.YtmdicgjnmfolfaaGreatDoor
