/-
  Parts of the proof: rules of an abstract program logic, contracts of functions, plain laws. Conditions: each theorem's own.
-/
import Derived.Test.YtlnfjkdacimblaaGreatDoorKW6M8
import Derived.Below
import Derived.Shelf.Strconv.ErrVarAll
import Derived.Shelf.Strconv.AtoiAll
import Derived.Shelf.LaysC
import Derived.Ground.NamesProg
import Derived.WideLaws
set_option linter.unusedVariables false
set_option linter.unusedSimpArgs false
set_option maxRecDepth 100000
set_option maxHeartbeats 8000000
namespace Go.Proofs
theorem uB:type_of% Tryz.call121:=Tryz.call121
theorem JC:type_of% Tryz.call134:=Tryz.call134
theorem aCY:type_of% Tryz.call15:=Tryz.call15
theorem aCU:type_of% Tryz.call68:=Tryz.call68
theorem aI9:type_of% Tryz.call83:=Tryz.call83
theorem aI4:type_of% Tryz.func82:=Tryz.func82
theorem aHy:type_of% Tryz.ntmps82:=Tryz.ntmps82
theorem CY:type_of% Tryz.underlying65:=Tryz.underlying65
end Go.Proofs
namespace Go.Proofs.YtlnfjkdacimblaaGreatDoor
open Go.Proofs.Tryz
open Go.Abs
abbrev oB (o:GObj):aE:=[(1,bx 6 49 ((aG o).map .pv))]
theorem aDE {l:List UInt8} (h:l≠[]) (s:ByteArray):WK l s=l++32::s.data.toList:=by rw [WK,aIp h]
theorem aHe (K:aE) (s:ByteArray) (hl:s.size < 70368744177663):aH Tryz.prog 121 [.ref 2001 0 0 0,sv s] (mL 0 [] false++K) (fun r H'=>r=.tup []∧H'=mL 1 s.data.toList true++K):=by
 have h:=aAP K 0 [] false s (by rw [List.length_nil];omega)
 rwa [aIq rfl,show WK [] s=s.data.toList from rfl] at h
theorem WL (K:aE) (g:Nat) (l:List UInt8) (s:ByteArray) (h0:l≠[]) (hl:l.length+s.size < 70368744177663):aH Tryz.prog 121 [.ref 2001 0 0 0,sv s] (mL g l true++K) (fun r H'=>r=.tup []∧H'=mL (g+2) (l++32::s.data.toList) true++K):=by
 have h:=aAP K g l true s hl
 rwa [aIp h0,aDE h0] at h
theorem FU (K:aE) (g:Nat) (l:List UInt8) (u:Bool) (hl:l.length < 70368744177664):aH Tryz.prog 35 [.ref 2001 0 0 0] (mL g l u++K) (fun r H'=>r=sv ⟨l.toArray⟩∧H'=Q6 g l u++(mL g l u++K)) :=aH.frame (aFA g l u hl) aEz (dF.ofL ⟨(by exact I8 rfl rfl),(by exact fH _ _),trivial⟩) (by simp;rfl) (fun id h=>.inl (by
  simp only [Q6,mL,aE.get] at h ⊢;cases e1:Nat.beq 2001 id with
  | true=>rfl
  | false =>
   cases e2:Nat.beq 2002 id with
   | true=>rfl
   | false=>rw [e1,e2] at h;cases h))
theorem LD {o:GObj} (hg:iC o=true) (h:0 < o.tags.length∧(gY o.tags).2≠0):eB o=(aP,(gY o.tags).2):=by rw [eB,aIq hg,aIq h]
theorem yQ {o:GObj} {L:List UInt8} (hg:iC o=true) (h:¬ (0 < o.tags.length∧(gY o.tags).2≠0)) (hL:m7 o=L) (h2:20000 < L.length):eB o=(aP,2):=by
 have hs:(o9 o).size=L.length:=by rw [← hL,← bC];rfl
 rw [eB,aIq hg,aIp h,aIq (by rw [hs];exact h2)]
theorem yR {o:GObj} {L:List UInt8} (hg:iC o=true) (h:¬ (0 < o.tags.length∧(gY o.tags).2≠0)) (hL:m7 o=L) (h2:¬ 20000 < L.length):eB o=(⟨L.toArray⟩,0):=by
 have hs:(o9 o).size=L.length:=by rw [← hL,← bC];rfl
 rw [eB,aIq hg,aIp h,aIp (by rw [hs];exact h2),o9,hL]
theorem rG {l:List GTag} (h0:0 < l.length) (h:(gY l).2=0):32::(gY l).1.data.toList=jF l∧(gY l).1.size≤20000:=by
 rw [gY] at h ⊢;by_cases h1:nM l=true
 ·rw [aIq h1] at h ⊢;by_cases h2:20000 < (EY l).size
  ·rw [aIq h2] at h;cases h
  rw [aIp h2];refine⟨?_,by show (EY l).size≤_;omega⟩;cases l with
  | nil=>exact absurd h0 (Nat.lt_irrefl 0)
  | cons t l =>
   show 32::(EY (t::l)).data.toList=_;rw [KO];simp [jF]
 rw [aIp h1] at h;cases h
theorem y4:∀ l:List ByteArray,(l.flatMap fun k=>32::k.data.toList).length=l.length+dH l
 | []=>rfl
 | k::l=>by
  have ih:=y4 l;rw [List.flatMap_cons,aIs,aIt,aIt,ih,bC,dH,dH,List.map_cons,List.sum_cons];omega
theorem fC (l:List ByteArray):(bS [32] (bs l)).length≤l.length+dH l:=by
 cases l with
 | nil=>exact aJI _
 | cons k l =>
  rw [r9,aIs,y4,bC,aIt,dH,dH,List.map_cons,List.sum_cons];omega
theorem LC (o:GObj) (H:aE) (ho:DO o):aH Tryz.prog 67 [av (aG o)] H (fun r H'=>r=.tup [sv (eB o).1,iv (eB o).2]∧H'=H):=by
 refine Pu ?_;refine Bd func67 rfl ntmps67<|Sr<|Dd (by exact cE (id:=1) rfl rfl rfl rfl rfl)<|Dd aO<|Dd aO<|Zz<|Sq<|Sr<|Dd (qZ aY sizeOf49)<|Dd (by exact aA rfl rfl aCS rfl (vU o _ ho))<|Dd jU<|Zz ?_;refine Cn ?_ ?_<;>intro hc1
 ·have hg:iC o=false:=by rw [← aJK];exact hc1
  have e:eB o=(aP,1):=by rw [eB,aIp (by rw [hg];decide)]
  rw [e];exact Sr<|Dd aO<|Dd aO<|Zz<|aC<|Ru<|Qq
 have hg:iC o=true:=by rw [← Bool.not_eq_false'];exact hc1
 obtain ⟨hr,ht,htg,hid,_⟩:=k7 hg;obtain ⟨hx,hy,hn,hz⟩:=Q9 hg;have hw:=(uE (yU hg)).1;have hws:=dK hw;have his:=dK hid;have hwp:=(vW hw).1;have hw0:(dW o.kind).data.toList≠[]:=fun e=>by have:=congrArg List.length e;rw [bC,List.length_nil] at this;omega
 refine aB<|Sr<|Dd (by exact bJ (id:=2001) rfl aEn rfl rfl)<|Zz<|Sq ?_;refine iB.ent (E':=[(1,.ref 1 0 0 0),(2,sv aP),(3,iv 0),(4,.ref 2001 0 0 0)]) (H':=[(2002,⟨0,1,5,[]⟩),(2001,A3 (.osl 2002 0 0 0) false),(1,bx 6 49 ((aG o).map .pv))]) (cY.nz 2002 1 5 rfl rfl ⟨⟨_,rfl,(by exact Nz.same (by(simp;rfl)))⟩,⟨_,rfl,(by exact Nz.same (by(simp;done)))⟩,⟨_,rfl,(by exact Nz.same (by(simp;done)))⟩,⟨_,rfl,(by exact Nz.same (by(simp;rfl)))⟩,trivial⟩ ⟨⟨_,rfl,rfl,rfl,rfl,(by exact .inr ⟨_,_,rfl,rfl,(by repeat(first|exact trivial|refine⟨(by first|exact Nz.own|exact Nz.same (by(simp;done))),?_⟩))⟩)⟩,⟨_,rfl,rfl,rfl,rfl,(by exact .inl ⟨rfl,(by(simp;done))⟩)⟩,trivial⟩ trivial) ?_;refine iB.ent (E':=[(1,.ref 1 0 0 0),(2,sv aP),(3,iv 0),(4,.ref 2001 0 0 0)]) (H':=mL 0 [] false++oB o) (cY.get (fun _=>rfl) (fun j=>mR (by decide) j)) ?_;refine Rg<|Dd (bH dT)<|Dd (cA isAgg3)<|Dd (by exact aA rfl rfl uA rfl (zV o.kind _))<|Dd (by exact aA rfl rfl uB rfl (aHe (oB o) (dW o.kind) (by omega)))<|Zz<|Sr<|Dd (bH eK)<|Dd (cA isAgg9)<|Dd (by exact aA rfl rfl uB rfl (WL (oB o) 1 (dW o.kind).data.toList o.id hw0 (by rw [bC];omega)))<|Zz<|Sq<|Sq ?_;obtain ⟨L1,hL1⟩:∃ L,L=(dW o.kind).data.toList++32::o.id.data.toList:=⟨_,rfl⟩;have hn1:L1≠[]:=by rw [hL1];simp
 have hl1:L1.length≤49:=by rw [hL1,aIs,aIt,bC,bC];omega
 rw [← hL1];by_cases hk:o.kind=1
 ·have six:(cR o.x).size≤7:=by rw [← bC];show (Lib.itoa o.x).length≤7;rw [iG _ hx.1];exact eM (by omega) (by decide)
  have siy:(cR o.y).size≤7:=by rw [← bC];show (Lib.itoa o.y).length≤7;rw [iG _ hy.1];exact eM (by omega) (by decide)
  obtain ⟨L2,hL2⟩:∃ L,L=L1++32::(cR o.x).data.toList:=⟨_,rfl⟩;have hn2:L2≠[]:=by rw [hL2];simp
  have hl2:L2.length≤57:=by rw [hL2,aIs,aIt,bC];omega
  have p2:=WL (oB o) (1+2) L1 (cR o.x) hn1 (by omega);rw [← hL2] at p2;obtain ⟨L3,hL3⟩:∃ L,L=L2++32::(cR o.y).data.toList:=⟨_,rfl⟩;have hn3:L3≠[]:=by rw [hL3];simp
  have hl3:L3.length≤200000:=by rw [hL3,aIs,aIt,bC];omega
  have p3:=WL (oB o) (1+2+2) L2 (cR o.y) hn2 (by omega);rw [← hL3] at p3;have hH:jP o=L3:=by
   rw [jP,aIq hk,hL3,hL2,hL1];show _=(_++32::Lib.itoa o.x)++32::Lib.itoa o.y;simp
  refine Rg<|Dd (bH dT)<|Dd (cA isAgg3)<|Dd cI<|Zz ?_;refine Cn ?_ ?_<;>intro hc2
  ·refine Sr<|Dd (bH kE)<|Dd (bH qL)<|Dd (cA isAgg3)<|Dd (by exact aA rfl rfl aCU rfl (GA o.x (by omega) (by omega) _))<|Dd (by exact aA rfl rfl uB rfl (p2))<|Zz<|Rg<|Dd (bH kE)<|Dd (bH qK)<|Dd (cA isAgg3)<|Dd (by exact aA rfl rfl aCU rfl (GA o.y (by omega) (by omega) _))<|Dd (by exact aA rfl rfl uB rfl (p3))<|Zz<|Sq<|Sr<|Dd (bH e9)<|Dd (cA cU)<|Dd (fK cK)<|Dd kC<|Zz ?_;refine Cn ?_ ?_<;>intro hc3
   ·have htp:0 < o.tags.length:=by have:=aIn hc3;rw [aIr] at this;omega
    refine Sr<|Dd (bH e9)<|Dd (cA cU)<|Dd (by exact aA rfl rfl call123 rfl (KN o.tags _ ho.2.1))<|Dd aD<|Dd eZ<|Dd eZ<|Dd aO<|Dd aO<|Zz<|Sq<|Sr<|Dd aD<|Dd tU<|Zz ?_;refine Cn ?_ ?_<;>intro hc4
    ·have hte:(gY o.tags).2≠0:=by have hq:=hc4;rw [aJK,aIz] at hq;exact hq
     rw [LD hg ⟨htp,hte⟩];exact Sr<|Dd aD<|Dd aO<|Dd aO<|Zz<|aC<|Ru<|Qq
    have hte:(gY o.tags).2=0:=by have hq:=hc4;rw [Bool.not_eq_false',aIy] at hq;exact hq
    have hlen2:(L3++32::(gY o.tags).1.data.toList).length≤300000:=by have:=hl3;have:=(rG htp hte).2;rw [aIs,aIt,bC];omega
    have hLL:m7 o=L3++32::(gY o.tags).1.data.toList:=by rw [(rG htp hte).1,m7,hH]
    refine aB<|Rg<|Dd aD<|Dd (by exact aA rfl rfl uB rfl (WL (oB o) (1+2+2+2) L3 (gY o.tags).1 hn3 (by have:=hl3;have:=(rG htp hte).2;omega)))<|Zz<|Sq<|Sr<|Dd (bH mC)<|Dd (by exact aA rfl rfl wZ rfl (F9 (oB o) ((1+2+2+2)+2) (L3++32::(gY o.tags).1.data.toList) true))<|Dd kC<|Zz ?_;refine Cn ?_ ?_<;>intro hc5
    ·have hlong:=aIn hc5;rw [yQ hg (fun h=>h.2 hte) hLL (by omega)];exact Sr<|Dd aO<|Dd aO<|Zz<|aC<|Ru<|Qq
    have hlong:=aIo hc5;rw [yR hg (fun h=>h.2 hte) hLL (by omega)];exact aB<|Sr<|Dd (bH mC)<|Dd (by exact aA rfl rfl sM rfl (FU (oB o) ((1+2+2+2)+2) (L3++32::(gY o.tags).1.data.toList) true (by have:=hlen2;omega)))<|Dd aO<|Dd aO<|Zz<|aC<|Ru<|Qq
   have htp:¬ 0 < o.tags.length:=by have:=aIo hc3;rw [aIr] at this;omega
   have hLL:m7 o=L3:=by rw [m7,hH,List.length_eq_zero_iff.1 (by omega:o.tags.length=0)];exact List.append_nil _
   refine aB<|Sq<|Sr<|Dd (bH mC)<|Dd (by exact aA rfl rfl wZ rfl (F9 (oB o) (1+2+2+2) L3 true))<|Dd kC<|Zz ?_;refine Cn ?_ ?_<;>intro hc6
   ·have hlong:=aIn hc6;rw [yQ hg (fun h=>htp h.1) hLL (by omega)];exact Sr<|Dd aO<|Dd aO<|Zz<|aC<|Ru<|Qq
   have hlong:=aIo hc6;rw [yR hg (fun h=>htp h.1) hLL (by omega)];exact aB<|Sr<|Dd (bH mC)<|Dd (by exact aA rfl rfl sM rfl (FU (oB o) (1+2+2+2) L3 true (by have:=hl3;omega)))<|Dd aO<|Dd aO<|Zz<|aC<|Ru<|Qq
  exact absurd hk (aIo hc2)
 have hsz:dH o.refs≤24*o.refs.length:=lQ (fun s hs=>dK (oX hg s hs));have hjl:=fC o.refs;obtain ⟨J,hJ⟩:∃ J:ByteArray,J=⟨(bS [32] (bs o.refs)).toArray⟩:=⟨_,rfl⟩;have hj:∀ H,aH Tryz.prog 71 [.pv (cS o.refs),sv ⟨#[32]⟩] H (fun x H'=>x=sv J∧H'=H):=fun H=>by
  rw [hJ];exact rB o.refs ⟨#[32]⟩ H (by decide) (by show 1*_+_+_ < _;omega)
 have hJl:J.data.toList=bS [32] (bs o.refs):=by rw [hJ]
 obtain ⟨L3,hL3⟩:∃ L,L=L1++32::((⟨#[40]⟩:ByteArray)++J++⟨#[41]⟩).data.toList:=⟨_,rfl⟩;have hQ:((⟨#[40]⟩:ByteArray)++J++⟨#[41]⟩).data.toList=40::(bS [32] (bs o.refs)++[41]):=by rw [← hJl];simp
 have hQs:((⟨#[40]⟩:ByteArray)++J++⟨#[41]⟩).size≤60000:=by rw [← bC,hQ,aIt,aIs,List.length_singleton];omega
 have hJs:J.size≤52000:=by rw [← bC,hJl];omega
 have h40:(⟨#[40]⟩:ByteArray).size=1:=rfl;have h41:(⟨#[41]⟩:ByteArray).size=1:=rfl;have hAs:((⟨#[40]⟩:ByteArray)++J).size=1+J.size:=by rw [ByteArray.size_append,h40]
 have hn3:L3≠[]:=by rw [hL3];simp
 have hl3:L3.length≤200000:=by rw [hL3,aIs,aIt,bC];omega
 have p3:=WL (oB o) (1+2) L1 ((⟨#[40]⟩:ByteArray)++J++⟨#[41]⟩) hn1 (by omega);rw [← hL3] at p3;have hH:jP o=L3:=by
  rw [jP,aIp hk,hL3,hL1,hQ];simp
 refine Rg<|Dd (bH dT)<|Dd (cA isAgg3)<|Dd cI<|Zz ?_;refine Cn ?_ ?_<;>intro hc7
 ·exact absurd (aIn hc7) hk
 refine Rg<|Dd (bH dP)<|Dd (cA aV)<|Dd (by exact aA rfl rfl pL rfl (hj _))<|Dd (by exact cP rfl rfl rfl (by omega) rfl)<|Dd (by exact cP rfl rfl rfl (by omega) rfl)<|Dd (by exact aA rfl rfl uB rfl (p3))<|Zz<|Sq<|Sr<|Dd (bH e9)<|Dd (cA cU)<|Dd (fK cK)<|Dd kC<|Zz ?_;refine Cn ?_ ?_<;>intro hc8
 ·have htp:0 < o.tags.length:=by have:=aIn hc8;rw [aIr] at this;omega
  refine Sr<|Dd (bH e9)<|Dd (cA cU)<|Dd (by exact aA rfl rfl call123 rfl (KN o.tags _ ho.2.1))<|Dd aD<|Dd eZ<|Dd eZ<|Dd aO<|Dd aO<|Zz<|Sq<|Sr<|Dd aD<|Dd tU<|Zz ?_;refine Cn ?_ ?_<;>intro hc9
  ·have hte:(gY o.tags).2≠0:=by have hq:=hc9;rw [aJK,aIz] at hq;exact hq
   rw [LD hg ⟨htp,hte⟩];exact Sr<|Dd aD<|Dd aO<|Dd aO<|Zz<|aC<|Ru<|Qq
  have hte:(gY o.tags).2=0:=by have hq:=hc9;rw [Bool.not_eq_false',aIy] at hq;exact hq
  have hlen2:(L3++32::(gY o.tags).1.data.toList).length≤300000:=by have:=hl3;have:=(rG htp hte).2;rw [aIs,aIt,bC];omega
  have hLL:m7 o=L3++32::(gY o.tags).1.data.toList:=by rw [(rG htp hte).1,m7,hH]
  refine aB<|Rg<|Dd aD<|Dd (by exact aA rfl rfl uB rfl (WL (oB o) (1+2+2) L3 (gY o.tags).1 hn3 (by have:=hl3;have:=(rG htp hte).2;omega)))<|Zz<|Sq<|Sr<|Dd (bH mC)<|Dd (by exact aA rfl rfl wZ rfl (F9 (oB o) ((1+2+2)+2) (L3++32::(gY o.tags).1.data.toList) true))<|Dd kC<|Zz ?_;refine Cn ?_ ?_<;>intro hc10
  ·have hlong:=aIn hc10;rw [yQ hg (fun h=>h.2 hte) hLL (by omega)];exact Sr<|Dd aO<|Dd aO<|Zz<|aC<|Ru<|Qq
  have hlong:=aIo hc10;rw [yR hg (fun h=>h.2 hte) hLL (by omega)];exact aB<|Sr<|Dd (bH mC)<|Dd (by exact aA rfl rfl sM rfl (FU (oB o) ((1+2+2)+2) (L3++32::(gY o.tags).1.data.toList) true (by have:=hlen2;omega)))<|Dd aO<|Dd aO<|Zz<|aC<|Ru<|Qq
 have htp:¬ 0 < o.tags.length:=by have:=aIo hc8;rw [aIr] at this;omega
 have hLL:m7 o=L3:=by rw [m7,hH,List.length_eq_zero_iff.1 (by omega:o.tags.length=0)];exact List.append_nil _
 refine aB<|Sq<|Sr<|Dd (bH mC)<|Dd (by exact aA rfl rfl wZ rfl (F9 (oB o) (1+2+2) L3 true))<|Dd kC<|Zz ?_;refine Cn ?_ ?_<;>intro hc11
 ·have hlong:=aIn hc11;rw [yQ hg (fun h=>htp h.1) hLL (by omega)];exact Sr<|Dd aO<|Dd aO<|Zz<|aC<|Ru<|Qq
 have hlong:=aIo hc11;rw [yR hg (fun h=>htp h.1) hLL (by omega)];exact aB<|Sr<|Dd (bH mC)<|Dd (by exact aA rfl rfl sM rfl (FU (oB o) (1+2+2) L3 true (by have:=hl3;omega)))<|Dd aO<|Dd aO<|Zz<|aC<|Ru<|Qq
theorem i6:∀ {l:List (List UInt8)} {w:List UInt8},(32:UInt8)∉w→(∀ x∈l,(32:UInt8)∉x)→dO 32 (bS [32] (w::l))=w::l
 | [],w,h,_=>by rw [bS,List.flatMap_nil,List.append_nil];exact nH h
 | a::l,w,h,hl=>by
  have e:bS [32] (w::a::l)=w++32::bS [32] (a::l):=by rw [bS,List.flatMap_cons,bS];simp
  rw [e,gR h,i6 (hl a List.mem_cons_self) fun x hx=>hl x (List.mem_cons_of_mem _ hx)]
theorem H6:∀ l:List UInt8,bS [32] (dO 32 l)=l
 | []=>rfl
 | b::l=>by
  have ih:=H6 l;have hp:=m0 32 l;rw [dO];cases e:dO 32 l with
  | nil=>rw [e] at hp;exact absurd hp (Nat.lt_irrefl 0)
  | cons x r =>
   rw [e,bS] at ih;by_cases h:b=32
   ·rw [aIq h,bS,List.flatMap_cons,List.nil_append,List.append_assoc,ih,h];rfl
   rw [aIp h,bS,List.headD_cons,List.tail_cons,List.cons_append,ih]
theorem LF {x:Int} (h:0≤x) (h2:x < 1000000000000000000):J0 (Lib.itoa x)=x:=by rw [J0,CR h h2]
theorem aBd (l:List ByteArray):(bs l).map ofL=l:=by rw [bs,List.map_map];exact(List.map_congr_left fun s _=>iF s).trans (List.map_id _)
theorem IO:∀ l:List UInt8,(l.flatMap lW).length≤2*l.length
 | []=>aIx _
 | b::l=>by
  have ih:=IO l;have h:(lW b).length≤2:=by
   rw [lW]
   split
   ·exact aIx _
   split
   ·exact aIx _
   exact Nat.le_succ _
  rw [List.flatMap_cons,aIs,aIt];omega
theorem W1 {v:ByteArray} (hv:v.size≤200):(eP (ofL (dE v.data.toList))).1=[⟨3,v,0,0⟩]:=by
 have h0:(ofL (dE v.data.toList)).data.toList.drop 0=dE v.data.toList++[]:=by rw [eI,List.append_nil];rfl
 have hl:(dE v.data.toList).length≤402:=by
  have:=IO v.data.toList;rw [bC] at this;rw [dE,aIt,aIs,List.length_singleton];omega
 have hq:0 < (dE v.data.toList).length:=by rw [dE,aIt];omega
 have hT:=wI (BJ h0) rfl (m8 h0 hq) hq (all_nil (eS h0));rw [eP,aIp (by rw [dL];omega),hT _ (by rw [dL,List.append_nil];exact Nat.le_succ _),uS _ [] (by intro f hf;rw [aIu] at hf;subst hf;rfl) (by simp)];rfl
theorem v6 {w:List UInt8} {r:List (List UInt8)}:(w::r).headD []=w:=rfl
theorem DH {e:GEdit} (hv:dA e=true) (he:fA e=0):i8 (eA e)=e∧(10:UInt8)∉eA e:=by
 obtain ⟨⟨o1,o7⟩,hok,hx⟩:=nB.1 hv;rw [fA] at he;by_cases p1:e.op=1
 ·rw [aIq p1] at he;obtain ⟨hg,ht,_⟩:=F6 he;have hp:=SE he;rw [vB,aIq p1,p1] at hx;rw [eA,aIq p1];constructor
  ·rw [i8,gR (by decide),v6,xG,aIq rfl];show (⟨1,aP,aP,aP,0,0,aP,aP,[],(pQ (ofL (eB e.obj).1.data.toList)).1⟩:GEdit)=e;rw [iF,hp];exact hx
  rw [ht];intro h;rcases List.mem_append.1 h with h|h
  ·revert h;decide
  rcases aJD.1 h with h|h
  ·revert h;decide
  exact aF3 hg h
 rw [lU,aIp p1,aJA] at hok;obtain ⟨hid,hok⟩:=hok;have i1:=j3 hid;rw [eA,aIp p1];by_cases p2:e.op=2
 ·rw [aIq p2] at hok;have hxy:(0≤e.x∧e.x < 1048576)∧0≤e.y∧e.y < 1048576:=by
   rw [onP] at hok;simp only [aJA,aIy] at hok;omega
  rw [vB,aIp p1,aIq p2,p2] at hx;rw [fL,aIq p2];have n1:=yW hxy.1.1;have n2:=yW hxy.2.1;refine⟨?_,r8 (by decide) ?_⟩
  ·rw [i8,i6 (by decide) (by intro w hw;simp only [aJD,aJH,or_false] at hw;rcases hw with rfl|rfl|rfl;all_goals first|exact i1.1|exact n1.1|exact n2.1),v6,xG,aIp (by decide),aIq ⟨rfl,rfl⟩];show (⟨2,ofL e.id.data.toList,aP,aP,J0 (Lib.itoa e.x),J0 (Lib.itoa e.y),aP,aP,[],zObj⟩:GEdit)=e;rw [iF,LF hxy.1.1 (by omega),LF hxy.2.1 (by omega)];exact hx
  intro w hw;simp only [aJD,aJH,or_false] at hw;rcases hw with rfl|rfl|rfl|rfl;all_goals first|exact(by decide)|exact i1.2|exact n1.2|exact n2.2
 by_cases p3:e.op=3
 ·rw [aIp p2,aIq p3,aJA,aIy] at hok;have k1:=j3 hok.1;rw [vB,aIp p1,aIp p2,aIq p3,p3] at hx;rw [fL,aIp p2,aIq p3];refine⟨?_,r8 (by decide) ?_⟩
  ·have hj:bS [32] [uG,e.id.data.toList,e.key.data.toList,dE e.val.data.toList]=uG++32::(e.id.data.toList++32::(e.key.data.toList++32::dE e.val.data.toList)):=by simp [bS]
   have hs:=m0 32 (dE e.val.data.toList);rw [hj,i8,gR (by decide),gR i1.1,gR k1.1,v6,xG,aIp (by decide),aIp (fun h=>absurd h.1 (by decide)),aIq ⟨rfl,by simp only [aIt];omega⟩];show (match (eP (ofL (bS [32] (dO 32 (dE e.val.data.toList))))).1 with
    | [f]=>(⟨3,ofL e.id.data.toList,aP,aP,0,0,ofL e.key.data.toList,f.text,[],zObj⟩:GEdit)
    | _=>E5)=e
   rw [H6,W1 (by omega),iF,iF];exact hx
  intro w hw;simp only [aJD,aJH,or_false] at hw;rcases hw with rfl|rfl|rfl|rfl;all_goals first|exact(by decide)|exact i1.2|exact k1.2|exact PB _
 by_cases p4:e.op=4
 ·rw [aIp p2,aIp p3,aIq p4,aJA,aJA,List.all_eq_true] at hok;have hr:=hok.2;rw [vB,aIp p1,aIp p2,aIp p3,aIq p4,p4] at hx;rw [fL,aIp p2,aIp p3,aIq p4];have hb:∀ (b:UInt8),(b=32∨b=10)→∀ w∈bs e.refs,b∉w:=by
   intro b hb w hw;obtain ⟨s,hs,rfl⟩:=List.mem_map.1 hw;have:=j3 (hr s hs);rcases hb with rfl|rfl;all_goals first|exact this.1|exact this.2
  refine⟨?_,r8 (by decide) ?_⟩
  ·rw [i8,i6 (by decide) (by intro w hw;rcases aJD.1 hw with rfl|hw;all_goals first|exact i1.1|exact hb 32 (.inl rfl) w hw),v6,xG,aIp (by decide),aIp (fun h=>absurd h.1 (by decide)),aIp (fun h=>absurd h.1 (by decide)),aIq ⟨rfl,by simp only [aIt];omega⟩];show (⟨4,ofL e.id.data.toList,aP,aP,0,0,aP,aP,(bs e.refs).map ofL,zObj⟩:GEdit)=e;rw [iF,aBd];exact hx
  intro w hw;rcases aJD.1 hw with rfl|hw
  ·decide
  rcases aJD.1 hw with rfl|hw;all_goals first|exact i1.2|exact hb 10 (.inr rfl) w hw
 by_cases p5:e.op=5
 ·rw [vB,aIp p1,aIp p2,aIp p3,aIp p4,aIq p5,p5] at hx;rw [fL,aIp p2,aIp p3,aIp p4,aIq p5];refine⟨?_,r8 (by decide) ?_⟩
  ·rw [i8,i6 (by decide) (by intro w hw;rw [aIu] at hw;subst hw;exact i1.1),v6,xG,aIp (by decide),aIp (fun h=>absurd h.1 (by decide)),aIp (fun h=>absurd h.1 (by decide)),aIp (fun h=>absurd h.1 (by decide)),aIq ⟨rfl,rfl⟩];show (⟨5,ofL e.id.data.toList,aP,aP,0,0,aP,aP,[],zObj⟩:GEdit)=e;rw [iF];exact hx
  intro w hw;simp only [aJD,aJH,or_false] at hw;rcases hw with rfl|rfl;all_goals first|exact(by decide)|exact i1.2
 by_cases p6:e.op=6
 ·rw [aIp p2,aIp p3,aIp p4,aIp p5,aIq p6,aJA] at hok;have k1:=j3 hok.1;have k2:=j3 hok.2;rw [vB,aIp p1,aIp p2,aIp p3,aIp p4,aIp p5,aIq p6,p6] at hx;rw [fL,aIp p2,aIp p3,aIp p4,aIp p5,aIq p6];refine⟨?_,r8 (by decide) ?_⟩
  ·rw [i8,i6 (by decide) (by intro w hw;simp only [aJD,aJH,or_false] at hw;rcases hw with rfl|rfl|rfl;all_goals first|exact i1.1|exact k1.1|exact k2.1),v6,xG,aIp (by decide),aIp (fun h=>absurd h.1 (by decide)),aIp (fun h=>absurd h.1 (by decide)),aIp (fun h=>absurd h.1 (by decide)),aIp (fun h=>absurd h.1 (by decide)),aIq ⟨rfl,rfl⟩];show (⟨6,ofL e.id.data.toList,ofL e.other.data.toList,ofL e.node.data.toList,0,0,aP,aP,[],zObj⟩:GEdit)=e;rw [iF,iF,iF];exact hx
  intro w hw;simp only [aJD,aJH,or_false] at hw;rcases hw with rfl|rfl|rfl|rfl;all_goals first|exact(by decide)|exact i1.2|exact k1.2|exact k2.2
 have p7:e.op=7:=by omega
 rw [aIp p2,aIp p3,aIp p4,aIp p5,aIp p6] at hok;have k2:=j3 hok;rw [vB,aIp p1,aIp p2,aIp p3,aIp p4,aIp p5,aIp p6,p7] at hx;rw [fL,aIp p2,aIp p3,aIp p4,aIp p5,aIp p6];refine⟨?_,r8 (by decide) ?_⟩
 ·rw [i8,i6 (by decide) (by intro w hw;simp only [aJD,aJH,or_false] at hw;rcases hw with rfl|rfl;all_goals first|exact i1.1|exact k2.1),v6,xG,aIp (by decide),aIp (fun h=>absurd h.1 (by decide)),aIp (fun h=>absurd h.1 (by decide)),aIp (fun h=>absurd h.1 (by decide)),aIp (fun h=>absurd h.1 (by decide)),aIp (fun h=>absurd h.1 (by decide)),aIq ⟨rfl,rfl⟩];show (⟨7,ofL e.id.data.toList,ofL e.other.data.toList,aP,0,0,aP,aP,[],zObj⟩:GEdit)=e;rw [iF,iF];exact hx
 intro w hw;simp only [aJD,aJH,or_false] at hw;rcases hw with rfl|rfl|rfl;all_goals first|exact(by decide)|exact i1.2|exact k2.2
theorem ZC (w:List UInt8):Lib.trimSuffix (w++[10]) [10]=w:=by rw [Lib.trimSuffix,Lib.hasSuffix,aIq (List.isSuffixOf_iff_suffix.2 ⟨w,rfl⟩)];simp
theorem ZD (s:ByteArray):xB s=ofL (Lib.trimSuffix s.data.toList [10]):=by
 have hz:=szY s;rw [xB];cases h:wC s with
 | true =>
  rw [wC,aJA,aIy,aIy] at h;obtain ⟨h1,h2⟩:=h;have h3:s.data.toList.drop (s.size - 1)=[10]:=by
   have:=congrArg (fun x=>x.data.toList) h2;rw [exL] at this;refine Eq.trans ?_ (show sNl.data.toList=[10] from rfl);rw [← this];exact(List.take_of_length_le (by rw [aJG];omega)).symm
  have h4:s.data.toList=s.data.toList.take (s.size - 1)++[10]:=by rw [← h3,List.take_append_drop]
  refine S4 ?_;rw [aIq rfl,exL,eI,h4,ZC,List.drop_zero,Nat.sub_zero,← h4]
 | false =>
  rw [aIp (by decide),Lib.trimSuffix,aIp,iF];intro hp;obtain ⟨w,hw⟩:=List.isSuffixOf_iff_suffix.1 (show ([10]:List UInt8).isSuffixOf s.data.toList=true from hp);have hl:s.size=w.length+1:=by rw [← hz,← hw,aIs,List.length_singleton]
  have:wC s=true:=by
   rw [wC,aJA,aIy,aIy];refine⟨by omega,S4 ?_⟩;rw [exL,← hw,show s.size - 1=w.length by omega,List.drop_left];exact List.take_of_length_le (by rw [List.length_singleton];omega)
  rw [h] at this;cases this
theorem aDz (s:ByteArray):∃ b,QT s=.tup [sv (ofL ((dO 32 s.data.toList).headD [])),sv (ofL (s.data.toList.drop (((dO 32 s.data.toList).headD []).length+1))),bv b]:=by
 rw [QT];by_cases h:Lib.indexByte s.data.toList 32 = -1
 ·refine⟨false,?_⟩;rw [aIq h,nH (vZ.1 h),List.headD_cons,List.drop_eq_nil_of_le (Nat.le_succ _),iF];rfl
 obtain ⟨w,r,e1,e2,e3⟩:=xQ h;refine⟨true,?_⟩;obtain ⟨a1,a2⟩:=aAd e1;have hd:s.data.toList.drop (w.length+1)=r:=by
  rw [e1,show w++32::r=(w++[32])++r by simp,show w.length+1=(w++[(32:UInt8)]).length by simp,List.drop_left]
 have hsp:(dO 32 s.data.toList).headD []=w:=by rw [e1,gR e2];rfl
 rw [aIp h,hsp,hd,e3,aJC,a1,show s.extract (w.length+1) s.size=ofL r from S4 (by rw [a2,eI])];rfl
theorem V2 (s:ByteArray) (i:Nat) (h:i < (cN s).length):(cN s)[i]?=some (ofL ((dO 32 s.data.toList).getD i [])):=by rw [cN,aIr] at h;rw [cN,aJL,aIw h,List.getD_eq_getElem?_getD,aIw h];rfl
theorem V1 (s:ByteArray):(cN s).length=(dO 32 s.data.toList).length:=aIr _
theorem oG {a b:List UInt8}:ofL a=ofL b↔a=b:=⟨fun h=>by rw [← eI a,h,eI],fun h=>by rw [h]⟩
theorem iW (l:List ByteArray):∀ r∈l.map encStr,r.length=1:=fun r hr=>by
 obtain ⟨s,_,rfl⟩:=List.mem_map.1 hr;rfl
theorem cL (s:ByteArray) (l:List ByteArray):dH (s::l)=s.size+dH l:=by rw [dH,dH,List.map_cons,List.sum_cons]
theorem r7 {e:GEdit} {ws:List ByteArray} (h1:e.op≠1) (h:bs ws=fL e):(⟨(bS [32] (bs ws)).toArray⟩:ByteArray)++⟨#[10]⟩=ofL (eA e++[10]):=S4 (by
 rw [eI,eA,aIp h1,← h];simp)
theorem aDD {e:GEdit} (h1:e.op=1):(⟨#[112,117,116,32]⟩:ByteArray)++(eB e.obj).1++⟨#[10]⟩=ofL (eA e++[10]):=S4 (by
 rw [eI,eA,aIq h1];simp [wPut])
theorem DQ {o:GObj}:(eB o).1.size≤20000:=by
 rw [eB]
 split
 ·split
  ·exact aJI _
  split
  ·exact aJI _
  show (o9 o).size≤_;omega
 exact aJI _
theorem aF6 (e:GEdit) (H:aE) (he:tQ e) (hv:dA e=true):aH Tryz.prog 32 [av (aJ e)] H (fun r H'=>r=.tup [sv (ofL (eA e++[10])),iv (fA e)]∧H'=H):=by
 refine Pu ?_;obtain ⟨⟨o1,o2⟩,o3,o4⟩:=nB.1 hv;rw [lU] at o3;have hval:=wA hv;have hs0:dH []=0:=rfl;refine Bd func32 rfl ntmps32<|Sr<|Dd (by exact cE (id:=1) rfl rfl rfl rfl rfl)<|Dd aO<|Dd aO<|Zz<|Sr<|Dd aO<|Zz<|Sq<|Sr<|Dd (bH fG)<|Dd (cA isAgg3)<|Zz<|aF<|Sr<|Dd cI<|Da ?_;refine Cn ?_ ?_<;>intro hc1
 ·have h1:e.op=1:=aIn hc1;have hos:=DQ (o:=e.obj);have h4:(⟨#[112,117,116,32]⟩:ByteArray).size=4:=rfl;have h10:(⟨#[10]⟩:ByteArray).size=1:=rfl;have h4s:((⟨#[112,117,116,32]⟩:ByteArray)++(eB e.obj).1).size=4+(eB e.obj).1.size:=by rw [ByteArray.size_append];rfl
  refine Sr<|Dd (bH iR)<|Dd (qZ aY sizeOf49)<|Dd (by exact aA rfl rfl call67 rfl (LC e.obj _ he.2.2))<|Dd aD<|Dd eZ<|Dd eZ<|Dd aO<|Dd aO<|Zz<|Sr<|Dd aD<|Dd (by exact cP rfl rfl rfl (by omega) rfl)<|Dd (by exact cP rfl rfl rfl (by omega) rfl)<|Dd aD<|Dd aO<|Dd aO<|Zz<|aC<|Ru ?_;rw [aDD h1,show fA e=(eB e.obj).2 from aIq h1];exact Qq
 have h1:e.op≠1:=aIo hc1;rw [aIp h1,aJA] at o3;obtain ⟨o5,o6⟩:=o3;have hid:=dK o5;refine Sr<|Dd cI<|Da ?_;refine Cn ?_ ?_<;>intro hc2
 ·have h2:e.op=2:=aIn hc2;rw [aIq h2,onP,aJA,aIy,aIy] at o6;have hx:0≤e.x∧e.x < 1048576:=by omega
  have hy:0≤e.y∧e.y < 1048576:=by omega
  have six:(cR e.x).size≤7:=by rw [← bC];show (Lib.itoa e.x).length≤7;rw [iG _ hx.1];exact eM (by omega) (by decide)
  have siy:(cR e.y).size≤7:=by rw [← bC];show (Lib.itoa e.y).length≤7;rw [iG _ hy.1];exact eM (by omega) (by decide)
  have hw0:(⟨#[109,111,118,101]⟩:ByteArray).size=4:=rfl;refine aU follows<|Cq (bH eX)<|Cq (cA isAgg9)<|Cq (bH iS)<|Cq (bH qL)<|Cq (cA isAgg3)<|Cq (by exact aA rfl rfl aCU rfl (GA e.x (by omega) (by omega) _))<|Cq (bH iS)<|Cq (bH qK)<|Cq (cA isAgg3)<|Cq (by exact aA rfl rfl aCU rfl (GA e.y (by omega) (by omega) _))<|Cq (by exact aT (([⟨#[109,111,118,101]⟩,e.id,cR e.x,cR e.y]:List ByteArray).map encStr) rfl cC rfl rfl rfl rfl rfl (iW _))<|Cq aO<|bM<|Kr<|Sr<|Dm ?_;have hw:bs [⟨#[109,111,118,101]⟩,e.id,cR e.x,cR e.y]=fL e:=by
   rw [fL]
   (rw [aIq h2];rfl)
  have hne:e.op≠1:=by omega
  have hj:∀ H,aH Tryz.prog 71 [.pv (cS [⟨#[109,111,118,101]⟩,e.id,cR e.x,cR e.y]),sv ⟨#[32]⟩] H (fun x H'=>x=sv ⟨(bS [32] (bs [⟨#[109,111,118,101]⟩,e.id,cR e.x,cR e.y])).toArray⟩∧H'=H):=fun H=>rB [⟨#[109,111,118,101]⟩,e.id,cR e.x,cR e.y] ⟨#[32]⟩ H (by decide) (by show 1*_+_+_ < _;simp only [cL,aIt,List.length_nil];omega);have hjs:(⟨(bS [32] (bs [⟨#[109,111,118,101]⟩,e.id,cR e.x,cR e.y])).toArray⟩:ByteArray).size≤70000:=by
   show (bS [32] (bs [⟨#[109,111,118,101]⟩,e.id,cR e.x,cR e.y])).length≤_;have:=fC [⟨#[109,111,118,101]⟩,e.id,cR e.x,cR e.y];simp only [cL,aIt,List.length_nil] at this;omega
  have h10:(⟨#[10]⟩:ByteArray).size=1:=rfl;refine Dd (by exact aA rfl rfl pL rfl (hj _))<|Dd (by exact cP rfl rfl rfl (by omega) rfl)<|Dd aO<|Dd aO<|Zz<|aC<|Ru ?_;rw [r7 hne hw,show fA e=0 from aIp hne];exact Qq
 have h2:e.op≠2:=aIo hc2;rw [aIp h2] at o6;refine Sr<|Dd cI<|Da ?_;refine Cn ?_ ?_<;>intro hc3
 ·have h3:e.op=3:=aIn hc3;rw [aIq h3,aJA,aIy] at o6;have hks:=dK o6.1;have hq:=m6 e.val;have hw0:(⟨#[116,97,103]⟩:ByteArray).size=3:=rfl;refine aU follows<|Cq (bH eX)<|Cq (cA isAgg9)<|Cq (bH lA)<|Cq (cA isAgg9)<|Cq (bH lX)<|Cq (cA isAgg9)<|Cq (by exact aA rfl rfl call69 rfl (UC e.val _ (by omega)))<|Cq (by exact aT (([⟨#[116,97,103]⟩,e.id,e.key,⟨(dE e.val.data.toList).toArray⟩]:List ByteArray).map encStr) rfl cC rfl rfl rfl rfl rfl (iW _))<|Cq aO<|bM<|Kr<|Sr<|Dm ?_;have hw:bs [⟨#[116,97,103]⟩,e.id,e.key,⟨(dE e.val.data.toList).toArray⟩]=fL e:=by
   rw [fL]
   (rw [aIp h2,aIq h3];rfl)
  have hne:e.op≠1:=by omega
  have hj:∀ H,aH Tryz.prog 71 [.pv (cS [⟨#[116,97,103]⟩,e.id,e.key,⟨(dE e.val.data.toList).toArray⟩]),sv ⟨#[32]⟩] H (fun x H'=>x=sv ⟨(bS [32] (bs [⟨#[116,97,103]⟩,e.id,e.key,⟨(dE e.val.data.toList).toArray⟩])).toArray⟩∧H'=H):=fun H=>rB [⟨#[116,97,103]⟩,e.id,e.key,⟨(dE e.val.data.toList).toArray⟩] ⟨#[32]⟩ H (by decide) (by show 1*_+_+_ < _;simp only [cL,aIt,List.length_nil];omega);have hjs:(⟨(bS [32] (bs [⟨#[116,97,103]⟩,e.id,e.key,⟨(dE e.val.data.toList).toArray⟩])).toArray⟩:ByteArray).size≤70000:=by
   show (bS [32] (bs [⟨#[116,97,103]⟩,e.id,e.key,⟨(dE e.val.data.toList).toArray⟩])).length≤_;have:=fC [⟨#[116,97,103]⟩,e.id,e.key,⟨(dE e.val.data.toList).toArray⟩];simp only [cL,aIt,List.length_nil] at this;omega
  have h10:(⟨#[10]⟩:ByteArray).size=1:=rfl;refine Dd (by exact aA rfl rfl pL rfl (hj _))<|Dd (by exact cP rfl rfl rfl (by omega) rfl)<|Dd aO<|Dd aO<|Zz<|aC<|Ru ?_;rw [r7 hne hw,show fA e=0 from aIp hne];exact Qq
 have h3:e.op≠3:=aIo hc3;rw [aIp h3] at o6;refine Sr<|Dd cI<|Da ?_;refine Cn ?_ ?_<;>intro hc4
 ·have h4:e.op=4:=aIn hc4;rw [aIq h4,aJA,aJA,aIy,aIy,List.all_eq_true] at o6;obtain ⟨⟨r1,r2⟩,r3⟩:=o6;have hrs:dH e.refs≤24*e.refs.length:=lQ (fun s hs=>dK (r3 s hs));have hw0:(⟨#[114,101,102,115]⟩:ByteArray).size=4:=rfl;have hfl:(([[⟨#[114,101,102,115]⟩,e.id],e.refs]:List (List ByteArray)).flatten).length < 1099511627776:=by simp;omega
  refine Rg<|Dd (bH eX)<|Dd (cA isAgg9)<|Dd (by exact aT (([⟨#[114,101,102,115]⟩,e.id]:List ByteArray).map encStr) rfl cC rfl rfl rfl rfl rfl (iW _))<|Dd (bH gA)<|Dd (cA aV)<|Dd (by exact aT (([[⟨#[114,101,102,115]⟩,e.id],e.refs]:List (List ByteArray)).map (fun l=>[.sl (l.map encStr)])) rfl ZX rfl rfl rfl rfl rfl (by simp))<|Dd (by exact aA rfl rfl call70 rfl (EC [[⟨#[114,101,102,115]⟩,e.id],e.refs] _ (by show 2 < _;omega) hfl))<|Dd aO<|Zz<|Sr<|Dm ?_;rw [show ([[⟨#[114,101,102,115]⟩,e.id],e.refs]:List (List ByteArray)).flatten=⟨#[114,101,102,115]⟩::e.id::e.refs by simp];have hw:bs (⟨#[114,101,102,115]⟩::e.id::e.refs)=fL e:=by
   rw [fL]
   (rw [aIp h2,aIp h3,aIq h4];rfl)
  have hne:e.op≠1:=by omega
  have hj:∀ H,aH Tryz.prog 71 [.pv (cS (⟨#[114,101,102,115]⟩::e.id::e.refs)),sv ⟨#[32]⟩] H (fun x H'=>x=sv ⟨(bS [32] (bs (⟨#[114,101,102,115]⟩::e.id::e.refs))).toArray⟩∧H'=H):=fun H=>rB (⟨#[114,101,102,115]⟩::e.id::e.refs) ⟨#[32]⟩ H (by decide) (by show 1*_+_+_ < _;simp only [cL,aIt,List.length_nil];omega);have hjs:(⟨(bS [32] (bs (⟨#[114,101,102,115]⟩::e.id::e.refs))).toArray⟩:ByteArray).size≤70000:=by
   show (bS [32] (bs (⟨#[114,101,102,115]⟩::e.id::e.refs))).length≤_;have:=fC (⟨#[114,101,102,115]⟩::e.id::e.refs);simp only [cL,aIt,List.length_nil] at this;omega
  have h10:(⟨#[10]⟩:ByteArray).size=1:=rfl;refine Dd (by exact aA rfl rfl pL rfl (hj _))<|Dd (by exact cP rfl rfl rfl (by omega) rfl)<|Dd aO<|Dd aO<|Zz<|aC<|Ru ?_;rw [r7 hne hw,show fA e=0 from aIp hne];exact Qq
 have h4:e.op≠4:=aIo hc4;rw [aIp h4] at o6;refine Sr<|Dd cI<|Da ?_;refine Cn ?_ ?_<;>intro hc5
 ·have h5:e.op=5:=aIn hc5;have hw0:(⟨#[100,114,111,112]⟩:ByteArray).size=4:=rfl;refine Rg<|Dd (bH eX)<|Dd (cA isAgg9)<|Dd (by exact aT (([⟨#[100,114,111,112]⟩,e.id]:List ByteArray).map encStr) rfl cC rfl rfl rfl rfl rfl (iW _))<|Dd aO<|Zz<|Sr<|Dm ?_;have hw:bs [⟨#[100,114,111,112]⟩,e.id]=fL e:=by
   rw [fL]
   (rw [aIp h2,aIp h3,aIp h4,aIq h5];rfl)
  have hne:e.op≠1:=by omega
  have hj:∀ H,aH Tryz.prog 71 [.pv (cS [⟨#[100,114,111,112]⟩,e.id]),sv ⟨#[32]⟩] H (fun x H'=>x=sv ⟨(bS [32] (bs [⟨#[100,114,111,112]⟩,e.id])).toArray⟩∧H'=H):=fun H=>rB [⟨#[100,114,111,112]⟩,e.id] ⟨#[32]⟩ H (by decide) (by show 1*_+_+_ < _;simp only [cL,aIt,List.length_nil];omega);have hjs:(⟨(bS [32] (bs [⟨#[100,114,111,112]⟩,e.id])).toArray⟩:ByteArray).size≤70000:=by
   show (bS [32] (bs [⟨#[100,114,111,112]⟩,e.id])).length≤_;have:=fC [⟨#[100,114,111,112]⟩,e.id];simp only [cL,aIt,List.length_nil] at this;omega
  have h10:(⟨#[10]⟩:ByteArray).size=1:=rfl;refine Dd (by exact aA rfl rfl pL rfl (hj _))<|Dd (by exact cP rfl rfl rfl (by omega) rfl)<|Dd aO<|Dd aO<|Zz<|aC<|Ru ?_;rw [r7 hne hw,show fA e=0 from aIp hne];exact Qq
 have h5:e.op≠5:=aIo hc5;rw [aIp h5] at o6;refine Sr<|Dd cI<|Da ?_;refine Cn ?_ ?_<;>intro hc6
 ·have h6:e.op=6:=aIn hc6;rw [aIq h6,aJA] at o6;have hns:=dK o6.1;have hos:=dK o6.2;have hw0:(⟨#[115,112,108,105,116]⟩:ByteArray).size=5:=rfl;refine Rg<|Dd (bH eX)<|Dd (cA isAgg9)<|Dd (bH lY)<|Dd (cA isAgg9)<|Dd (bH fR)<|Dd (cA isAgg9)<|Dd (by exact aT (([⟨#[115,112,108,105,116]⟩,e.id,e.node,e.other]:List ByteArray).map encStr) rfl cC rfl rfl rfl rfl rfl (iW _))<|Dd aO<|Zz<|Sr<|Dm ?_;have hw:bs [⟨#[115,112,108,105,116]⟩,e.id,e.node,e.other]=fL e:=by
   rw [fL]
   (rw [aIp h2,aIp h3,aIp h4,aIp h5,aIq h6];rfl)
  have hne:e.op≠1:=by omega
  have hj:∀ H,aH Tryz.prog 71 [.pv (cS [⟨#[115,112,108,105,116]⟩,e.id,e.node,e.other]),sv ⟨#[32]⟩] H (fun x H'=>x=sv ⟨(bS [32] (bs [⟨#[115,112,108,105,116]⟩,e.id,e.node,e.other])).toArray⟩∧H'=H):=fun H=>rB [⟨#[115,112,108,105,116]⟩,e.id,e.node,e.other] ⟨#[32]⟩ H (by decide) (by show 1*_+_+_ < _;simp only [cL,aIt,List.length_nil];omega);have hjs:(⟨(bS [32] (bs [⟨#[115,112,108,105,116]⟩,e.id,e.node,e.other])).toArray⟩:ByteArray).size≤70000:=by
   show (bS [32] (bs [⟨#[115,112,108,105,116]⟩,e.id,e.node,e.other])).length≤_;have:=fC [⟨#[115,112,108,105,116]⟩,e.id,e.node,e.other];simp only [cL,aIt,List.length_nil] at this;omega
  have h10:(⟨#[10]⟩:ByteArray).size=1:=rfl;refine Dd (by exact aA rfl rfl pL rfl (hj _))<|Dd (by exact cP rfl rfl rfl (by omega) rfl)<|Dd aO<|Dd aO<|Zz<|aC<|Ru ?_;rw [r7 hne hw,show fA e=0 from aIp hne];exact Qq
 have h6:e.op≠6:=aIo hc6;rw [aIp h6] at o6;have hos:=dK o6;have hw0:(⟨#[106,111,105,110]⟩:ByteArray).size=4:=rfl;refine Rg<|Dd (bH eX)<|Dd (cA isAgg9)<|Dd (bH fR)<|Dd (cA isAgg9)<|Dd (by exact aT (([⟨#[106,111,105,110]⟩,e.id,e.other]:List ByteArray).map encStr) rfl cC rfl rfl rfl rfl rfl (iW _))<|Dd aO<|Zz<|Sr<|Dm ?_;have hw:bs [⟨#[106,111,105,110]⟩,e.id,e.other]=fL e:=by
  rw [fL]
  (rw [aIp h2,aIp h3,aIp h4,aIp h5,aIp h6];rfl)
 have hne:e.op≠1:=by omega
 have hj:∀ H,aH Tryz.prog 71 [.pv (cS [⟨#[106,111,105,110]⟩,e.id,e.other]),sv ⟨#[32]⟩] H (fun x H'=>x=sv ⟨(bS [32] (bs [⟨#[106,111,105,110]⟩,e.id,e.other])).toArray⟩∧H'=H):=fun H=>rB [⟨#[106,111,105,110]⟩,e.id,e.other] ⟨#[32]⟩ H (by decide) (by show 1*_+_+_ < _;simp only [cL,aIt,List.length_nil];omega);have hjs:(⟨(bS [32] (bs [⟨#[106,111,105,110]⟩,e.id,e.other])).toArray⟩:ByteArray).size≤70000:=by
  show (bS [32] (bs [⟨#[106,111,105,110]⟩,e.id,e.other])).length≤_;have:=fC [⟨#[106,111,105,110]⟩,e.id,e.other];simp only [cL,aIt,List.length_nil] at this;omega
 have h10:(⟨#[10]⟩:ByteArray).size=1:=rfl;refine Dd (by exact aA rfl rfl pL rfl (hj _))<|Dd (by exact cP rfl rfl rfl (by omega) rfl)<|Dd aO<|Dd aO<|Zz<|aC<|Ru ?_;rw [r7 hne hw,show fA e=0 from aIp hne];exact Qq
theorem GQ:∀ {l:List GEdit} {acc:List UInt8},(nF acc l).2=0→(∀ e∈l,fA e=0)∧nF acc l=(acc++l.flatMap fun e=>eA e++[10],0)∧(acc.length≤20000→(nF acc l).1.length≤20000)
 | [],acc,_=>⟨(fun e h=>by cases h),by rw [nF,List.flatMap_nil,List.append_nil],fun h=>h⟩
 | e::l,acc,h=>by
  rw [nF] at h ⊢;by_cases h1:fA e≠0∨20000 < (acc++(eA e++[10])).length
  ·rw [aIq h1] at h;cases h
  rw [aIp h1] at h ⊢;rw [not_or,Classical.not_not] at h1;obtain ⟨i1,i2,i3⟩:=GQ h;refine⟨fun x hx=>?_,by rw [i2,List.flatMap_cons,List.append_assoc],fun _=>i3 (by omega)⟩;rcases aJD.1 hx with rfl|hx
  ·exact h1.1
  exact i1 x hx
theorem AS {l:List GEdit} (h:eW l=true):l≠[]∧∀ e∈l,dA e=true:=by
 rw [eW,aJA,aJA,aIy,aJK,List.any_eq_false] at h;refine⟨fun e=>by rw [e] at h;exact absurd h.1.1 (by decide),fun e he=>?_⟩;have:=h.2 e he
 simpa using this
theorem aC7 (w:List UInt8):Lib.trimSuffix (w++[10]) [10]=w:=by rw [Lib.trimSuffix,Lib.hasSuffix,aIq (List.isSuffixOf_iff_suffix.2 ⟨w,rfl⟩)];simp
theorem PF {l:List GEdit} (h:(eJ l).2=0):jC (eJ l).1=(l,0):=by
 have hc:eW l=true:=by
  rw [eJ] at h
  split at h
  ·assumption
  cases h
 obtain ⟨hne,hv⟩:=AS hc;rw [eJ,aIq hc] at h;obtain ⟨h1,h2,h3⟩:=GQ h;rw [List.nil_append] at h2;have h4:=h3 (aJI _);have ht:eJ l=(ofL (l.flatMap fun e=>eA e++[10]),0):=by rw [eJ,aIq hc,h2]
 have hsz:(ofL (l.flatMap fun e=>eA e++[10])).size≤20000:=by rw [dL];rw [h2] at h4;exact h4
 have hl:(kB (ofL (l.flatMap fun e=>eA e++[10])).data.toList).map (fun s=>i8 (Lib.trimSuffix s [10]))=l:=by
  have hj:=zM (ls:=l.map eA) (fun w hw=>by
   obtain ⟨e,he,rfl⟩:=List.mem_map.1 hw;exact(DH (hv e he) (h1 e he)).2)
  rw [List.flatMap_map] at hj;rw [eI,hj,List.map_map,List.map_map];refine(List.map_congr_left fun e he=>?_).trans (List.map_id l);show i8 (Lib.trimSuffix (eA e++[10]) [10])=e;rw [aC7];exact(DH (hv e he) (h1 e he)).1
 rw [ht,jC,aIp (by show ¬ 20000 < (ofL (l.flatMap fun e=>eA e++[10])).size;omega)];show (if eJ ((kB (ofL (l.flatMap fun e=>eA e++[10])).data.toList).map fun s=>i8 (Lib.trimSuffix s [10]))=(ofL (l.flatMap fun e=>eA e++[10]),0)then((kB (ofL (l.flatMap fun e=>eA e++[10])).data.toList).map (fun s=>i8 (Lib.trimSuffix s [10])),(0:Int))else([],5))=(l,0);rw [hl,aIq ht]
theorem aFb (g:Nat) (l:List UInt8) (u:Bool):aH Tryz.prog 34 [.ref 2001 0 0 0] (uC g l u) (fun r H'=>r=iv (l.length:Int)∧H'=uC g l u):=by refine Bd func34 rfl ntmps34<|Sr<|Dd aO<|Zz<|Sr<|Dd aD<|Dd pY<|Dd (bH iQ)<|Dd (cA d9)<|Dd (by exact dV rfl eE rfl rfl rfl)<|Dd aO<|Zz<|aC ?_;refine cZ (H':=(uC g l u)) (.inr rfl) rfl (aN rfl) Fin.refl ?_;exact Qq
abbrev aBg (l:List UInt8) (g:Nat) (u:Bool):Ob:=tY (.osl 2002 g 0 l.length) u
abbrev aBf (l:List UInt8) (g:Nat):Ob:=⟨g,1,5,fT l⟩
theorem aGf {g g':Nat} {l l':List UInt8} {u u':Bool} {id:Nat} (h:(aE.get (uC g l u) id).isSome=true):(aE.get (uC g' l' u') id).isSome=true:=aAz h
theorem aGe {g:Nat} {l:List UInt8} {u u':Bool} {id:Nat} (h:(aE.get (X1 g l u) id).isSome=true):(aE.get (uC g l u) id).isSome=true:=by
 simp only [X1,uC,aE.get] at h ⊢;cases e1:Nat.beq 2001 id with
 | true=>rfl
 | false =>
  cases e2:Nat.beq 2002 id with
  | true=>rfl
  | false=>rw [e1,e2] at h;cases h
theorem aGX {H:aE} {g:Nat} {l:List UInt8} {u:Bool} (s:ByteArray) (h1:H.get 2001=some (aBg l g u)) (h2:H.get 2002=some (aBf l g)) (hl:l.length+s.size < 70368744177664):aH Tryz.prog 33 [.ref 2001 0 0 0,sv s] H (fun r H'=>r=.tup [iv (s.size:Int),.pv J1]∧H'=uC (g+1) (l++s.data.toList) true++H) :=aH.frame (mO g l u s hl) (Sub.of2 h1 h2) (dF.ofL ⟨(by exact iA rfl rfl),(by exact fH _ _),trivial⟩) (by simp;rfl) (fun id h=>.inl (aGf h))
theorem aFa {H:aE} {g:Nat} {l:List UInt8} {u:Bool} (h1:H.get 2001=some (aBg l g u)) (h2:H.get 2002=some (aBf l g)):aH Tryz.prog 34 [.ref 2001 0 0 0] H (fun r H'=>r=iv (l.length:Int)∧H'=H) :=aH.frameS (aFb g l u) (Sub.of2 h1 h2) (dF.ofL ⟨(by exact iA rfl rfl),(by exact fH _ _),trivial⟩) (by simp;rfl)
theorem aFB {H:aE} {g:Nat} {l:List UInt8} {u:Bool} (h1:H.get 2001=some (aBg l g u)) (h2:H.get 2002=some (aBf l g)) (hl:l.length < 70368744177664):aH Tryz.prog 35 [.ref 2001 0 0 0] H (fun r H'=>r=sv ⟨l.toArray⟩∧H'=X1 g l u++H) :=aH.frame (TX g l u hl) (Sub.of2 h1 h2) (dF.ofL ⟨(by exact iA rfl rfl),(by exact fH _ _),trivial⟩) (by simp;rfl) (fun id h=>.inl (aGe (u':=u) h))
def uK:Nat→Bool
 | 0=>false
 | _+1=>true
def mE (l:List GEdit) (k:Nat):List UInt8:=(l.take k).flatMap fun e=>eA e++[10]
theorem L9 {l:List GEdit} {k:Nat} {e:GEdit} (h:l[k]?=some e):mE l (k+1)=mE l k++(eA e++[10]):=by rw [mE,List.take_add_one,h,List.flatMap_append];simp [mE]
theorem LM {e:GEdit} (he:dA e=true):(eA e).length≤100000:=by
 obtain ⟨⟨o1,o2⟩,o3,o4⟩:=nB.1 he;rw [lU] at o3;have hval:=wA he;by_cases h1:e.op=1
 ·rw [eA,aIq h1,aIs,aIt,bC];have:=DQ (o:=e.obj);show 3+_≤_;omega
 rw [aIp h1,aJA] at o3;obtain ⟨o5,o6⟩:=o3;have hid:=dK o5;have key:∀ ws:List ByteArray,bs ws=fL e→ws.length+dH ws≤100000→(eA e).length≤100000:=fun ws h h2=>by
  rw [eA,aIp h1,← h];exact Nat.le_trans (fC ws) h2
 by_cases h2:e.op=2
 ·rw [aIq h2,onP,aJA,aIy,aIy] at o6;have six:(cR e.x).size≤7:=by rw [← bC];show (Lib.itoa e.x).length≤7;rw [iG _ (by omega)];exact eM (by omega) (by decide)
  have siy:(cR e.y).size≤7:=by rw [← bC];show (Lib.itoa e.y).length≤7;rw [iG _ (by omega)];exact eM (by omega) (by decide)
  have hw0:(⟨#[109,111,118,101]⟩:ByteArray).size=4:=rfl;exact key [⟨#[109,111,118,101]⟩,e.id,cR e.x,cR e.y] (by rw [fL,aIq h2];rfl) (by simp only [cL,aIt,List.length_nil,show dH []=0 from rfl];omega)
 rw [aIp h2] at o6;by_cases h3:e.op=3
 ·rw [aIq h3,aJA] at o6;have hks:=dK o6.1;have hq:=m6 e.val;have hw0:(⟨#[116,97,103]⟩:ByteArray).size=3:=rfl;exact key [⟨#[116,97,103]⟩,e.id,e.key,⟨(dE e.val.data.toList).toArray⟩] (by rw [fL,aIp h2,aIq h3];rfl) (by simp only [cL,aIt,List.length_nil,show dH []=0 from rfl];omega)
 rw [aIp h3] at o6;by_cases h4:e.op=4
 ·rw [aIq h4,aJA,aJA,aIy,aIy,List.all_eq_true] at o6;obtain ⟨⟨r1,r2⟩,r3⟩:=o6;have hrs:dH e.refs≤24*e.refs.length:=lQ (fun s hs=>dK (r3 s hs));have hw0:(⟨#[114,101,102,115]⟩:ByteArray).size=4:=rfl;exact key (⟨#[114,101,102,115]⟩::e.id::e.refs) (by rw [fL,aIp h2,aIp h3,aIq h4];rfl) (by simp only [cL,aIt];omega)
 rw [aIp h4] at o6;by_cases h5:e.op=5
 ·have hw0:(⟨#[100,114,111,112]⟩:ByteArray).size=4:=rfl;exact key [⟨#[100,114,111,112]⟩,e.id] (by rw [fL,aIp h2,aIp h3,aIp h4,aIq h5];rfl) (by simp only [cL,aIt,List.length_nil,show dH []=0 from rfl];omega)
 rw [aIp h5] at o6;by_cases h6:e.op=6
 ·rw [aIq h6,aJA] at o6;have hns:=dK o6.1;have hos:=dK o6.2;have hw0:(⟨#[115,112,108,105,116]⟩:ByteArray).size=5:=rfl;exact key [⟨#[115,112,108,105,116]⟩,e.id,e.node,e.other] (by rw [fL,aIp h2,aIp h3,aIp h4,aIp h5,aIq h6];rfl) (by simp only [cL,aIt,List.length_nil,show dH []=0 from rfl];omega)
 rw [aIp h6] at o6;have hos:=dK o6;have hw0:(⟨#[106,111,105,110]⟩:ByteArray).size=4:=rfl;exact key [⟨#[106,111,105,110]⟩,e.id,e.other] (by rw [fL,aIp h2,aIp h3,aIp h4,aIp h5,aIp h6];rfl) (by simp only [cL,aIt,List.length_nil,show dH []=0 from rfl];omega)
theorem FT (l:List GEdit) (H:aE) (hl:l.length < 4611686018427387904) (he:∀ e∈l,tQ e):aH Tryz.prog 11 [.pv (cD l)] H (fun r H'=>r=.tup [sv (eJ l).1,iv (eJ l).2]∧H'=H):=by
 refine Pu ?_;have hml:(l.map aJ).length=l.length:=aIr _;refine Bd func11 rfl ntmps11<|Sr<|Dd aO<|Dd aO<|Zz<|Sq<|Sr<|Dd aD<|Dd (by exact aA rfl rfl aCY rfl (pT l _ hl he))<|Dd jU<|Zz ?_;refine Cn ?_ ?_<;>intro hc1
 ·have hg:eW l=false:=by have h:=hc1;rwa [aJK] at h
  rw [show eJ l=(aP,1)by rw [eJ,hg];rfl];exact Sr<|Dd aO<|Dd aO<|Zz<|aC<|Ru<|Qq
 have hg:eW l=true:=by have h:=hc1;rwa [Bool.not_eq_false'] at h
 have hv:=(AS hg).2;have hT:eJ l=(ofL (nF [] l).1,(nF [] l).2):=by rw [eJ,aIq hg]
 refine aB<|Sr<|Dd (by exact bJ (id:=2001) rfl TM rfl rfl)<|Zz<|Sq<|Sq ?_;refine iB.ent (E':=[(0,.pv (cD l)),(4,.ref 2001 0 0 0)]) (H':=[(2002,⟨0,1,5,[]⟩),(2001,tY (.osl 2002 0 0 0) false)]) (cY.nz 2002 1 5 rfl rfl ⟨⟨_,rfl,(by exact Nz.same (by(simp;done)))⟩,⟨_,rfl,(by exact Nz.same (by(simp;rfl)))⟩,trivial⟩ ⟨⟨_,rfl,rfl,rfl,rfl,(by exact .inr ⟨_,_,rfl,rfl,(by repeat(first|exact trivial|refine⟨(by first|exact Nz.own|exact Nz.same (by(simp;done))),?_⟩))⟩)⟩,trivial⟩ trivial) ?_;refine Rg<|Dd aD<|Dd (fK cB)<|Dd aD<|Zz<|aF ?_;refine bG (σ:=Nat) (fun k=>([(4,.ref 2001 0 0 0),(12,.pv (cD l)),(13,iv ((l.map aJ).length:Int)),(14,iv (k:Int))],[(2001,aBg (mE l k) k (uK k)),(2002,aBf (mE l k) k)])) (fun k=>k≤l.length∧nF [] l=nF (mE l k) (l.drop k)∧(mE l k).length≤20000) (fun k=>l.length - k) 0 ⟨aJI _,rfl,aJI _⟩ ?_ ?_
 ·exact(cY.wk (Ea<|Eb<|Eb<|Eb<|trivial) (Hc (iA rfl rfl)<|Hc (fH _ _)<|trivial) trivial)
 rintro k ⟨hk,hF,hA⟩;refine Sr<|Dd dD<|Zz<|Sq ?_;refine Cn ?_ ?_<;>intro hc2
 ·have hlt:k < l.length:=by have:=aIn hc2;omega
  obtain ⟨e,hke⟩:=aX hlt;have hi:=bZ (f:=aJ) hke;have hem:=aJB hke;have hnx:=L9 hke;have hYl:=LM (hv e hem);have hdr:l.drop k=e::l.drop (k+1):=by
   rw [List.drop_eq_getElem_cons hlt];rw [aIw hlt] at hke;cases hke;rfl
  rw [hdr,nF] at hF;have hsz:(ofL (eA e++[10])).size=(eA e).length+1:=by rw [dL,aIs];rfl
  have hbl:uC (k+1) (mE l k++(ofL (eA e++[10])).data.toList) true=uC (k+1) (mE l (k+1)) true:=by rw [eI,hnx]
  have hnl:(mE l (k+1)).length=(mE l k).length+((eA e).length+1):=by rw [hnx,aIs,aIs];rfl
  have hw:∀ H,H.get 2001=some (aBg (mE l k) k (uK k))→H.get 2002=some (aBf (mE l k) k)→aH Tryz.prog 33 [.ref 2001 0 0 0,sv (ofL (eA e++[10]))] H (fun r H'=>r=.tup [iv ((ofL (eA e++[10])).size:Int),.pv J1]∧H'=uC (k+1) (mE l (k+1)) true++H):=fun H h1 h2=>by
   have:=aGX (H:=H) (ofL (eA e++[10])) h1 h2 (by omega)
   rwa [hbl] at this
  refine aB<|Sq<|aF<|Sr<|Dd (e8 lK)<|Dd (by exact bQ rfl bA aL rfl (by omega) rfl rfl)<|Dd (by exact bJ (id:=6) rfl BA rfl rfl)<|Uu (fP aL)<|Zz<|Sr<|Dd (qZ bA aL)<|Dd (by exact aA rfl rfl call32 rfl (aF6 e _ (he e hem) (hv e hem)))<|Dd aD<|Dd eZ<|Dd eZ<|Dd aO<|Dd aO<|Zz<|Sr<|Dd aD<|Dd (by exact aA rfl rfl w5 rfl (hw _ rfl rfl))<|Zz<|Sq ?_;refine bD (t:=30) (n:=7) (X:=!decide (fA e=0)||decide ((20000:Int) < ((mE l (k+1)).length:Int))) ?_ ?_
  ·all_goals refine Dd aD ?_
   all_goals refine Dd tU<|Dm ?_
   all_goals refine Sp 27 (fun h27=>?_) fun h27=>?_
   all_goals try contradiction
   all_goals first|refine Fo<|Fo ?_|refine On (by exact aA rfl rfl wZ rfl (aFa (l:=mE l (k+1)) (g:=k+1) (u:=true) rfl rfl))<|On kC ?_
   all_goals refine Dd dI<|Zz ?_
   all_goals(exact⟨⟨_,rfl,by(simp only [*,Zo];done)⟩,rfl,rfl,rfl⟩)
  refine Cn ?_ ?_<;>intro hc3
  ·have hbad:fA e≠0∨20000 < (mE l k++(eA e++[10])).length:=by have h:=hc3;rw [← hnx];simp only [Bool.or_eq_true,aJK,aIz,aIy] at h;omega
   rw [aIq hbad] at hF;rw [hT,hF];exact Sr<|Dd aO<|Dd aO<|Zz<|aC<|Ru<|Qq
  have hfine:¬ (fA e≠0∨20000 < (mE l k++(eA e++[10])).length):=by have h:=hc3;rw [← hnx];simp only [aJN,Bool.not_eq_false',aIz,aIy] at h;omega
  rw [aIp hfine,← hnx] at hF;rw [← hnx] at hfine;refine aB<|Rg<|Dd eL<|Dd aD<|Zz ?_;exact⟨k+1,⟨hlt,hF,by omega⟩,by omega,(cY.wk (Ea<|Eb<|Eb<|Eb<|trivial) (Hc (iA rfl rfl)<|Hc (fH _ _)<|trivial) trivial)⟩
 have hge:k=l.length:=by have:=aIo hc2;omega
 subst hge;rw [List.drop_length,nF] at hF;rw [hT,hF];exact aZ<|Sr<|Dd (by exact aA rfl rfl sM rfl (aFB (l:=mE l l.length) (g:=l.length) (u:=uK l.length) rfl rfl (by omega)))<|Dd aO<|Dd aO<|Zz<|aC<|Ru<|Qq
theorem aF9 (s:ByteArray) (hs:s.size < 1099511627776) (hok:(eP s).2.1=0):aH Tryz.prog 83 [sv s] [] (fun r H'=>r=.tup [.osl 905 (eP s).1.length 0 (eP s).1.length,iv 0,iv (eP s).2.2]∧H'=[(905,⟨(eP s).1.length,3,137,jH (eP s).1⟩)]):=by
 refine Bd func83 rfl ntmps83<|Sr<|Dd (by exact bJ (id:=2) rfl aER rfl rfl)<|Dd (by exact bJ (id:=3) rfl aGT rfl rfl)<|Dd (by exact bJ (id:=4) rfl zo3 rfl rfl)<|Zz<|Sq<|Sr<|Dd aD<|Dd (jJ underlying9)<|Dd kC<|Zz ?_;refine Cn ?_ ?_<;>intro hc1
 ·have e:eP s=([],2,-1):=by rw [eP,aIq (by have:=aIn hc1;omega)]
  rw [e] at hok;exact absurd hok (by decide)
 have hsz:¬ 20000 < s.size:=by have:=aIo hc1;omega
 obtain ⟨ds,hds⟩:∃ ds,ds=iH s (s.size+1) 0:=⟨_,rfl⟩;have hg:eP s=iN [] ds:=by rw [eP,aIp hsz,hds]
 refine aB<|Sr<|Dd (by exact bJ (id:=5) rfl YQ rfl rfl)<|Zz<|Sq<|Sr<|Dd aD<|Dd (by exact aA rfl rfl call135 rfl (OS s _ rfl rfl rfl (dF.ofL ⟨(by(simp;done)),(by(simp;done)),(by(simp;done)),(by(simp;done)),trivial⟩)))<|Zz<|aF ?_;refine iB.ent (E':=[(2,.ref 2 0 0 0),(3,.ref 3 0 0 0),(4,.ref 4 0 0 0),(5,.ref 5 0 0 0),(11,.clo 185 [.ref 921 0 0 0,.ref 924 0 0 0])]) (H':=[(905,⟨0,3,137,[]⟩),(5,bx 1 133 [.osl 905 0 0 0]),(924,tA),(923,tC),(921,tS s),(4,bx 1 3 [iv 0]),(3,bx 1 25 [iv 0]),(2,bx 1 133 [.pv (.sl [])])]) ?_ ?_
 ·exact(cY.nz 905 3 137 rfl rfl ⟨⟨_,rfl,(by exact Nz.same (by(simp;rfl)))⟩,⟨_,rfl,(by exact Nz.same (by(simp;rfl)))⟩,⟨_,rfl,(by exact Nz.same (by(simp;rfl)))⟩,⟨_,rfl,(by exact Nz.same (by(simp;rfl)))⟩,⟨_,rfl,(by exact Nz.same (by(simp;exact⟨rfl,rfl⟩)))⟩,trivial⟩ ⟨⟨_,rfl,rfl,rfl,rfl,(by exact .inr ⟨_,_,rfl,rfl,(by repeat(first|exact trivial|refine⟨(by exact Nz.own),?_⟩))⟩)⟩,⟨_,rfl,rfl,rfl,rfl,(by exact .inl ⟨rfl,(by exact nW rfl rfl)⟩)⟩,⟨_,rfl,rfl,rfl,rfl,(by exact .inl ⟨rfl,(by exact iJ _)⟩)⟩,⟨_,rfl,rfl,rfl,rfl,(by exact .inl ⟨rfl,(by exact nV _ _)⟩)⟩,⟨_,rfl,rfl,rfl,rfl,(by exact .inl ⟨rfl,(by(simp;done))⟩)⟩,⟨_,rfl,rfl,rfl,rfl,(by exact .inl ⟨rfl,(by(simp;done))⟩)⟩,⟨_,rfl,rfl,rfl,rfl,(by exact .inl ⟨rfl,(by(simp;done))⟩)⟩,trivial⟩ trivial)
 have hdl:ds.length≤s.size+1:=by rw [hds];exact uJ s _ _
 obtain ⟨j,hj⟩:∃ j,j=qX (oF ds) ds.length 0:=⟨_,rfl⟩;have hj1:j≤ds.length:=by have:=(yJ (oF ds) ds.length 0).2;omega
 have hj2:∀ k,k < j→oF ds k=true:=fun k hk=>BL (oF ds) ds.length 0 k (aJI _) (by rw [← hj];exact hk);have hj3:j < ds.length→oF ds j=false:=fun h=>by have:=rI (oF ds) ds.length 0 (by omega);rwa [← hj] at this
 have hrun:=DX hj1 hj2;refine rN (id:=904) (p:=12) pZ rfl call185 rfl rfl (by simp [pZ];exact⟨rfl,rfl,rfl,rfl⟩) ?_;intro x hx1 hx2 hx3 hx4 hx5 hx6;have hround:∀ (k:Nat) (d:GFound),ds[k]?=some d→k≤j →
   dN Tryz.prog (.yld 904 0) [.agg ((CK d).map .pv)] ((904,LR x pZ)::(926,tF d)::kL s (ds.take k) (.pv (.sl [])) 0 0) (fun r H'=>r=bv (oF ds k)∧H'=(if oF ds k then(904,LR x pZ)::(926,tF d)::kL s (ds.take (k+1)) (.pv (.sl [])) 0 0 else(904,LR (left x .ret) pZ)::(926,tF d)::kL s (ds.take k) (.pv (.sl [])) (if d.err≠0 then d.err else 2) d.pos)):=by
  intro k d hd hkj;have hok:=B1 hd;have hkl:k < ds.length:=(aIv.1 hd).1;have htl:(ds.take k).length=k:=by rw [aJF];omega
  have hnx:ds.take (k+1)=ds.take k++[d]:=by rw [List.take_add_one,hd];rfl
  refine .inl ⟨904,0,rfl,?_⟩;refine C3 [(2,.ref 2 0 0 0),(3,.ref 3 0 0 0),(4,.ref 4 0 0 0),(5,.ref 5 0 0 0),(6,.ref 907 0 0 0)] ((907,tF d)::(926,tF d)::kL s (ds.take k) (.pv (.sl [])) 0 0) hx1 hx2 hx3 hx4 hx5 hx6 rfl rfl rfl ?_ ?_
  ·refine Rg<|Dd (by exact bJ (id:=907) rfl YR rfl rfl)<|Uu (fP A9)<|Zz ?_;exact(cY.wk (Ea<|Ea<|Ea<|Ea<|Ea<|trivial) (Hc (gG (by simp [pZ];exact⟨rfl,rfl,rfl,rfl⟩))<|Hc (tM _ _)<|Hc (tM _ _)<|Hc (cX _ _)<|Ha<|Hc (nW rfl rfl)<|Hc (iJ _)<|Hc (nV _ _)<|Hb<|Hb<|Hb<|trivial) ⟨rfl,rfl,rfl,rfl,rfl,rfl,rfl,rfl,rfl,rfl,trivial⟩)
  refine aF<|Sq<|aF<|Sr<|Dd (bH oL)<|Dd (cA kK)<|Dd tU<|Da ?_;refine Cn ?_ ?_<;>intro hc2
  ·have he:d.err≠0:=by have h:=hc2;rw [aJK,aIz] at h;exact h
   have h0:oF ds k=false:=by rw [hok,decide_eq_false he];rfl
   rw [h0,aIp (by decide),aIq he];refine Sq<|aU follows<|Cr [907] (fun _ h=>fh oL h)<|Cr [907] (fun _ h=>lh kK h)<|Cr [907] (fun _ h=>fh lF h)<|Cr [907] (fun _ h=>fh GD h)<|Cr [907] (fun _ h=>lh isAgg3 h)<|Cp [2] (fun H1 hH=>by exact cV rfl kX rfl rfl rfl rfl ((hH _ rfl).trans rfl) rfl rfl rfl)<|Cp [3] (fun H1 hH=>by exact cV rfl sizeOf25 rfl rfl rfl rfl ((hH _ rfl).trans rfl) rfl rfl rfl)<|Cp [4] (fun H1 hH=>by exact cV rfl sizeOf3 rfl rfl rfl rfl ((hH _ rfl).trans rfl) rfl rfl rfl)<|bM<|Kr<|aC ?_;exact⟨(926,tF d)::kL s (ds.take k) (.pv (.sl [])) d.err d.pos,(cY.wk trivial (Hc (gG (by simp [pZ];exact⟨rfl,rfl,rfl,rfl⟩))<|Hc (tM _ _)<|Hc (cX _ _)<|Ha<|Hc (nW rfl rfl)<|Hc (iJ _)<|Hc (nV _ _)<|Hb<|Hb<|Hb<|trivial) ⟨rfl,rfl,rfl,rfl,rfl,rfl,rfl,rfl,rfl,rfl,trivial⟩),rfl,rfl⟩
  have he:d.err=0:=by have h:=hc2;rw [Bool.not_eq_false',aIy] at h;exact h
  refine Sr<|Dd (cA kN)<|Dd (by exact dV rfl cT rfl rfl rfl)<|Dd cI<|Da ?_;refine Cn ?_ ?_<;>intro hc3
  ·have hk5:k=5000:=by have:=aIn hc3;omega
   have h0:oF ds k=false:=by rw [hok,decide_eq_true he,decide_eq_true hk5];rfl
   rw [h0,aIp (by decide),aIp (fun h=>h he)];refine Sq<|aU follows<|Cr [907] (fun _ h=>fh lF h)<|Cr [907] (fun _ h=>fh GD h)<|Cr [907] (fun _ h=>lh isAgg3 h)<|Cp [2] (fun H1 hH=>by exact cV rfl kX rfl rfl rfl rfl ((hH _ rfl).trans rfl) rfl rfl rfl)<|Cp [3] (fun H1 hH=>by exact cV rfl sizeOf25 rfl rfl rfl rfl ((hH _ rfl).trans rfl) rfl rfl rfl)<|Cp [4] (fun H1 hH=>by exact cV rfl sizeOf3 rfl rfl rfl rfl ((hH _ rfl).trans rfl) rfl rfl rfl)<|bM<|Kr<|aC ?_;exact⟨(926,tF d)::kL s (ds.take k) (.pv (.sl [])) 2 d.pos,(cY.wk trivial (Hc (gG (by simp [pZ];exact⟨rfl,rfl,rfl,rfl⟩))<|Hc (tM _ _)<|Hc (cX _ _)<|Ha<|Hc (nW rfl rfl)<|Hc (iJ _)<|Hc (nV _ _)<|Hb<|Hb<|Hb<|trivial) ⟨rfl,rfl,rfl,rfl,rfl,rfl,rfl,rfl,rfl,rfl,trivial⟩),rfl,rfl⟩
  have hk5:¬ k=5000:=by have:=aIo hc3;omega
  have h0:oF ds k=true:=by rw [hok,decide_eq_true he,decide_eq_false hk5];rfl
  rw [h0,aIq rfl,hnx,aBC];refine aB<|Rg<|Dd (cA kN)<|Dd (bH lF)<|Dd (qZ gO sizeOf137)<|Dd (by exact aT [encTok d] rfl fZ rfl rfl rfl rfl rfl (by intro r hr;rw [aIu] at hr;subst hr;rfl))<|Dd (by exact c6 (ps:=[encTok d]) rfl fZ U6 rfl rfl rfl rfl rfl (rR _) rfl (by intro r hr;rw [aIu] at hr;subst hr;rfl) (m:=1) rfl (by omega) rfl (vJ (ds.take k) d))<|Uu (fP kX)<|Zz ?_;exact⟨(926,tF d)::[(905,⟨(ds.take k).length+1,3,137,jH (ds.take k++[d])⟩),(5,bx 1 133 [.osl 905 ((ds.take k).length+1) 0 ((ds.take k).length+1)]),(924,tA),(923,tC),(921,tS s),(4,bx 1 3 [iv 0]),(3,bx 1 25 [iv 0]),(2,bx 1 133 [.pv (.sl [])])],(cY.wk trivial (Hc (gG (by simp [pZ];exact⟨rfl,rfl,rfl,rfl⟩))<|Hc (tM _ _)<|Hc (cX _ _)<|Ha<|Hc (nW rfl rfl)<|Hc (iJ _)<|Hc (nV _ _)<|Hb<|Hb<|Hb<|trivial) ⟨rfl,rfl,rfl,rfl,rfl,rfl,rfl,rfl,rfl,rfl,trivial⟩),rfl,rfl⟩
 rcases Nat.lt_or_ge j ds.length with hlt|hge
 ·obtain ⟨f,hf⟩:=aX hlt;have hbad:=hj3 hlt;have hdj:ds.drop j=f::ds.drop (j+1):=by
   rw [List.drop_eq_getElem_cons hlt];rw [aIw hlt] at hf;cases hf;rfl
  have hres:eP s=([],(if f.err≠0 then f.err else 2),(f.pos:Int)):=by
   rw [hg,hrun,hdj,iN]
   split
   ·rfl
   rename_i he;have he0:f.err=0:=by
    by_cases h:f.err=0
    ·exact h
    exact absurd h he
   rw [B1 hf,decide_eq_true he0,Bool.true_and,Bool.not_eq_false',aIy] at hbad;rw [aIq (by rw [aJF];omega)]
  rw [hres] at hok;have hok:(if f.err≠0 then f.err else 2)=0:=hok
  split at hok
  ·next h=>exact absurd hok h
  exact absurd hok (by decide)
 have hje:j=ds.length:=Nat.le_antisymm hj1 hge;rw [hje,List.take_length,List.drop_length] at hrun;rw [hg,hrun,iN];refine(DA s (.yld 904 0) (fun k=>(904,LR x pZ)::kL s (ds.take k) (.pv (.sl [])) 0 0) (oF ds) ds.length hs (fun k=>rfl) (fun k=>rfl) (fun k=>rfl) (fun k=>rfl) (fun k=>(dF.ofL ⟨(by exact gG (by simp [pZ];exact⟨rfl,rfl,rfl,rfl⟩)),(by exact cX _ _),(by(simp;rfl)),(by exact nW rfl rfl),(by exact iJ _),(by exact nV _ _),(by(simp;done)),(by(simp;done)),(by(simp;done)),trivial⟩)) (fun k=>by simp;rfl) (by rw [← hds];exact aIx _) (fun k hk=>hj2 k (by omega)) (.inl (by rw [← hds])) ?_).mono ?_
 ·rw [← hds];intro k d hd hk;have hr:=hround k d hd (by omega);have hok:=hj2 k (by omega);rw [hok,aIq rfl] at hr;rw [hok];exact dN.congrG hr (fun j=>mR (by decide) j) (fun j=>mR (by decide) j)
 rintro r H' ⟨rfl,rfl⟩;rw [List.take_length];refine⟨x,_,rfl,by rw [hx1];decide,rfl,fun z=>?_⟩;rw [hx2];refine Sr<|Dd (cA kN)<|Uu (fP kX)<|Uu (fP sizeOf25)<|Uu (fP sizeOf3)<|Zz<|aC ?_;refine jX (H':=[(905,⟨ds.length,3,137,jH ds⟩)]) (.inr rfl) rfl (iE rfl kN rfl rfl rfl rfl) (iE rfl kK rfl rfl rfl rfl) (iE rfl isAgg3 rfl rfl rfl rfl) (Fin.wk (by(simp;rfl)) (Hc (cX _ _)<|trivial) trivial) ?_;exact Qq
theorem aF8 (s:ByteArray) (H:aE) (hs:s.size < 1099511627776) (hok:(eP s).2.1=0) (hH:H.get 905=none):aH Tryz.prog 83 [sv s] H (fun r H'=>r=.tup [.osl 905 (eP s).1.length 0 (eP s).1.length,iv 0,iv (eP s).2.2]∧H'=(905,⟨(eP s).1.length,3,137,jH (eP s).1⟩)::H) :=aH.frame (aF9 s hs hok) (fun _ _ h=>by cases h) (fun _ _ h=>by cases h) (by simp) (fun id h=>.inr (by
  by_cases e:id=905
  ·rw [e];exact hH
  rw [get_cons_other _ _ e] at h;cases h))
end Go.Proofs.YtlnfjkdacimblaaGreatDoor
namespace Go.Abs
open Go.RowKit
theorem Rel.below {I:Nat→Prop} {ι:fF} {H:aE} {w w':World} (hb:Below w.heap.size w w') (hr:Rel I ι H w):Rel I ι H w'∧Step I ι H w I ι H w':=by
 have hk:∀ b,b < w.heap.size→w'.heap[b]?=w.heap[b]?:=hb.block;have hst:Step I ι H w I ι H w':=by
  refine⟨hb.os,hb.tape,hb.output,hb.size,fun a ha _=>?_,fun _ h=>h,fun _ h=>.inl h,fun _ h=>.inl h,fun b hb _=>hk b hb,fun _ o h=>⟨o,h,aIx _,fun _=>⟨rfl,rfl,fun _=>aIx _⟩⟩⟩;unfold World.frozen?;rw [hk _ ha]
 refine⟨⟨fun b h=>?_,fun j o hj=>?_,hr.inj,hst.glob hr⟩,hst⟩
 ·have:=hr.imm b h;have:=hb.size;omega
 exact(hr.obj j o hj).keep rfl (fun b c _ hb=>⟨hk b hb,fun h=>h⟩) (fun r _ a _ v hv=>hv.mono hr hst)
end Go.Abs
namespace Go.Abs
open Go.Proofs
def aE6 (v:Value):Prop:=∃ t p,v=.iface t p
abbrev aB0:PV:=.sat aE6
def qS (s:ByteArray):Int×PV:=match Lib.atoiAll s.data.toList with
 | .ok v=>(v,J1)
 | .range=>(Lib.atoiSat s.data.toList,aB0)
 | _=>(0,aB0)
theorem atoi_c {P:Program} {ρ:Shelf.Ren} (L:LaysC.n172 P ρ) {G1 G2:Nat} (hg1:(G1,GV.face)∈NP) (hn1:P.globalNamed "strconv.ErrSyntax" = some G1) (hg2:(G2,GV.face)∈NP) (hn2:P.globalNamed "strconv.ErrRange" = some G2) (s:ByteArray) (hs:s.size < 1099511627776) (H:aE) :
  aH P (ρ.f 172) [.pv (.str s)] H (fun r H'=>r=.tup [.pv (.int .i64 (qS s).1),.pv (qS s).2]∧H'=H):=by
 intro I ι w vs hr hvl hv;obtain ⟨v,rfl⟩:∃ v,vs=#[v]:=by
  match vs,hvl with
  | ⟨[v]⟩,_=>exact⟨v,rfl⟩
 have e1:=(hv 0 v _ rfl rfl).str_inv;subst e1;have hvar:∀ (name:String) (G:Nat),(G,GV.face)∈NP→P.globalNamed name=some G→∃ t p,w.var? P name=some #[.iface t p]:=fun name G hg hn=>by
  obtain ⟨_,cs,t,f,h2,q,p,h3⟩:=hr.glob _ hg;subst h3;exact⟨q,p,by simp only [World.var?,hn,Option.bind_some,h2]⟩
 have fin:∀ (n:Int) (x:Value) (a:PV) (w':World),RowKit.Below w.heap.size w w'→(∀ I H,VRel w' I ι H x (.pv a))→∃ r H' I' ι' v',(Ending.returned (.tuple #[.int .i64 n,x]))=.returned v'∧(r=.tup [.pv (.int .i64 n),.pv a]∧H'=H)∧VRel w' I' ι' H' v' r∧Rel I' ι' H' w'∧Step I ι H w I' ι' H' w':=fun n x a w' hb hx=>by
  obtain ⟨k1,k2⟩:=Rel.below hb hr;refine⟨_,_,I,ι,_,rfl,⟨rfl,rfl⟩,.tup rfl fun i v b h1 h2=>?_,k1,k2⟩
  match i,h1,h2 with
  | 0,h1,h2=>cases h1;cases h2;exact .pv (.int _ _)
  | 1,h1,h2=>cases h1;cases h2;exact hx _ _
  | i+2,h1,h2=>simp at h1
 rw [qS];cases h:Lib.atoiAll s.data.toList with
 | ok n =>
  refine(Any.strconv_Atoi_ok L s (by omega) n h w).mono ?_;rintro e w' ⟨rfl,hw⟩;have hb:RowKit.Below w.heap.size w w':=by
   rcases hw with rfl|⟨t,rfl⟩
   ·exact RowKit.Below.refl _ _
   exact Lib.bytesWorld_below w _ t
  exact fin n .nilIface J1 w' hb (fun _ _=>.pv (.sat rfl rfl))
 | range =>
  obtain ⟨t,p,hq⟩:=hvar _ G2 hg2 hn2;refine(Any.strconv_Atoi_range_var L s (by omega) h t p w hq).mono ?_;rintro e w' ⟨N,rfl,_,_,hb⟩;exact fin _ _ aB0 w' hb (fun _ _=>.pv (.sat rfl ⟨_,_,rfl⟩))
 | _ =>
  obtain ⟨t,p,hq⟩:=hvar _ G1 hg1 hn1;refine(Any.strconv_Atoi_syntax_var L s (by omega) h t p w hq).mono ?_;rintro e w' ⟨N,rfl,_,_,hb⟩;exact fin 0 _ aB0 w' hb (fun _ _=>.pv (.sat rfl ⟨_,_,rfl⟩))
end Go.Abs
section
namespace Go.Proofs
open Go.RowKit Go.Sort Go.Shelf
def aIi:Go.Shelf.Ren:=⟨fun|172=>134|244=>181|245=>182|247=>231|279=>232|280=>233|281=>234|282=>235|287=>254|316=>255|171=>68|205=>256|321=>263|322=>264|243=>124|246=>172|283=>220|284=>221|285=>222|286=>223|129=>201|317=>248|318=>249|319=>250|320=>251|337=>261|338=>262|n=>n,fun|9=>9|3=>3|75=>65|76=>66|4=>4|5=>5|167=>257|37=>52|0=>0|85=>258|2=>2|168=>260|53=>235|175=>277|46=>186|210=>280|127=>123|145=>292|143=>290|21=>21|171=>250|173=>252|212=>272|51=>233|20=>20|213=>273|232=>294|233=>295|80=>69|n=>n,fun|15=>2|16=>3|17=>1|18=>6|19=>7|n=>n⟩
theorem aIm:Go.Proofs.LaysC.n172 Tryz.prog aIi:={
  mixed:=by kernel_rfl
  f129:=Tryz.func201.trans (congrArg some (by kernel_rfl))
  f171:=Tryz.func68.trans (congrArg some (by kernel_rfl))
  f172:=Tryz.func134.trans (congrArg some (by kernel_rfl))
  f205:=Tryz.func256.trans (congrArg some (by kernel_rfl))
  f243:=Tryz.func124.trans (congrArg some (by kernel_rfl))
  f244:=Tryz.func181.trans (congrArg some (by kernel_rfl))
  f245:=Tryz.func182.trans (congrArg some (by kernel_rfl))
  f246:=Tryz.func172.trans (congrArg some (by kernel_rfl))
  f247:=Tryz.func231.trans (congrArg some (by kernel_rfl))
  f279:=Tryz.func232.trans (congrArg some (by kernel_rfl))
  f280:=Tryz.func233.trans (congrArg some (by kernel_rfl))
  f281:=Tryz.func234.trans (congrArg some (by kernel_rfl))
  f282:=Tryz.func235.trans (congrArg some (by kernel_rfl))
  f283:=Tryz.func220.trans (congrArg some (by kernel_rfl))
  f284:=Tryz.func221.trans (congrArg some (by kernel_rfl))
  f285:=Tryz.func222.trans (congrArg some (by kernel_rfl))
  f286:=Tryz.func223.trans (congrArg some (by kernel_rfl))
  f287:=Tryz.func254.trans (congrArg some (by kernel_rfl))
  f316:=Tryz.func255.trans (congrArg some (by kernel_rfl))
  f317:=Tryz.func248.trans (congrArg some (by kernel_rfl))
  f318:=Tryz.func249.trans (congrArg some (by kernel_rfl))
  f319:=Tryz.func250.trans (congrArg some (by kernel_rfl))
  f320:=Tryz.func251.trans (congrArg some (by kernel_rfl))
  f321:=Tryz.func263.trans (congrArg some (by kernel_rfl))
  f322:=Tryz.func264.trans (congrArg some (by kernel_rfl))
  f337:=Tryz.func261.trans (congrArg some (by kernel_rfl))
  f338:=Tryz.func262.trans (congrArg some (by kernel_rfl))
  t0:=aCD
  a0:=aI3
  z0:=aHx
  v0:=aEM
  t2:=Tryz.underlying2
  a2:=Tryz.isAgg2
  z2:=Tryz.sizeOf2
  v2:=Tryz.zeroValue2
  t3:=Tryz.underlying3
  a3:=Tryz.isAgg3
  z3:=Tryz.sizeOf3
  v3:=eC
  t4:=FO
  a4:=N6
  z4:=aHw
  v4:=gP
  t5:=qG
  a5:=N5
  z5:=dY
  v5:=JM
  t9:=Tryz.underlying9
  a9:=Tryz.isAgg9
  z9:=Tryz.sizeOf9
  v9:=rO
  t20:=Tryz.underlying20
  a20:=Tryz.isAgg20
  z20:=Tryz.sizeOf20
  v20:=Tryz.zeroValue20
  t21:=Tryz.underlying21
  a21:=Tryz.isAgg21
  z21:=Tryz.sizeOf21
  v21:=Tryz.zeroValue21
  t37:=eE
  a37:=d9
  z37:=nP
  v37:=Tryz.zeroValue52
  t46:=sK
  a46:=aHO
  z46:=aGE
  v46:=YA
  t51:=TH
  a51:=aHN
  z51:=aGD
  v51:=X9
  t53:=TG
  a53:=aHM
  z53:=aGC
  v53:=X8
  t75:=CY
  a75:=Tryz.isAgg65
  z75:=Tryz.sizeOf65
  v75:=Tryz.zeroValue65
  t76:=Tryz.underlying66
  a76:=Tryz.isAgg66
  z76:=Tryz.sizeOf66
  v76:=Tryz.zeroValue66
  t85:=Tryz.underlying258
  a85:=Tryz.isAgg258
  z85:=Tryz.sizeOf258
  v85:=Tryz.zeroValue258
  t127:=sL
  a127:=Tryz.isAgg123
  z127:=Tryz.sizeOf123
  v127:=Tryz.zeroValue123
  t143:=Tryz.underlying290
  a143:=Tryz.isAgg290
  z143:=Tryz.sizeOf290
  v143:=Tryz.zeroValue290
  t145:=Tryz.underlying292
  a145:=Tryz.isAgg292
  z145:=Tryz.sizeOf292
  v145:=Tryz.zeroValue292
  t167:=Tryz.underlying257
  a167:=Tryz.isAgg257
  z167:=Tryz.sizeOf257
  v167:=Tryz.zeroValue257
  t168:=Tryz.underlying260
  a168:=Tryz.isAgg260
  z168:=Tryz.sizeOf260
  v168:=Tryz.zeroValue260
  t171:=Tryz.underlying250
  a171:=Tryz.isAgg250
  z171:=Tryz.sizeOf250
  v171:=Tryz.zeroValue250
  t173:=Tryz.underlying252
  a173:=Tryz.isAgg252
  z173:=Tryz.sizeOf252
  v173:=Tryz.zeroValue252
  t175:=Tryz.underlying277
  a175:=Tryz.isAgg277
  z175:=Tryz.sizeOf277
  v175:=Tryz.zeroValue277
  t210:=Tryz.underlying280
  a210:=Tryz.isAgg280
  z210:=Tryz.sizeOf280
  v210:=Tryz.zeroValue280
  t212:=Tryz.underlying272
  a212:=Tryz.isAgg272
  z212:=Tryz.sizeOf272
  v212:=Tryz.zeroValue272
  t213:=Tryz.underlying273
  a213:=Tryz.isAgg273
  z213:=Tryz.sizeOf273
  t232:=Tryz.underlying294
  a232:=Tryz.isAgg294
  z232:=Tryz.sizeOf294
  v232:=Tryz.zeroValue294
  t233:=Tryz.underlying295
  a233:=Tryz.isAgg295
  z233:=Tryz.sizeOf295
  v233:=Tryz.zeroValue295
  g15:=by kernel_rfl
  g16:=by kernel_rfl
  g17:=by kernel_rfl
  g18:=by kernel_rfl
  g19:=by kernel_rfl
  t80:=Tryz.underlying69
  a80:=Tryz.isAgg69
  z80:=Tryz.sizeOf69
  v80:=Tryz.zeroValue69
  i0:=by kernel_rfl
  i2:=by kernel_rfl
  i3:=by kernel_rfl
  i4:=by kernel_rfl
  i5:=by kernel_rfl
  i9:=by kernel_rfl
  i20:=by kernel_rfl
  i21:=by kernel_rfl
  i37:=by kernel_rfl
  i46:=by kernel_rfl
  i51:=by kernel_rfl
  i53:=by kernel_rfl
  i75:=by kernel_rfl
  i76:=by kernel_rfl
  i80:=by kernel_rfl
  i85:=by kernel_rfl
  i127:=by kernel_rfl
  i143:=by kernel_rfl
  i145:=by kernel_rfl
  i167:=by kernel_rfl
  i168:=by kernel_rfl
  i171:=by kernel_rfl
  i173:=by kernel_rfl
  i175:=by kernel_rfl
  i210:=by kernel_rfl
  i212:=by kernel_rfl
  i232:=by kernel_rfl
  i233:=by kernel_rfl
  m15:=by kernel_rfl
  m16:=by kernel_rfl
  m17:=by kernel_rfl
  m18:=by kernel_rfl
  m19:=by kernel_rfl
  c0:=by kernel_rfl
  c2:=by kernel_rfl
  c3:=by kernel_rfl
  c4:=by kernel_rfl
  c5:=by kernel_rfl
  c9:=by kernel_rfl
  c20:=by kernel_rfl
  c21:=by kernel_rfl
  c37:=by kernel_rfl
  c46:=by kernel_rfl
  c51:=by kernel_rfl
  c53:=by kernel_rfl
  c75:=by kernel_rfl
  c76:=by kernel_rfl
  c80:=by kernel_rfl
  c85:=by kernel_rfl
  c127:=by kernel_rfl
  c143:=by kernel_rfl
  c145:=by kernel_rfl
  c167:=by kernel_rfl
  c168:=by kernel_rfl
  c171:=by kernel_rfl
  c173:=by kernel_rfl
  c175:=by kernel_rfl
  c210:=by kernel_rfl
  c212:=by kernel_rfl
  c213:=by kernel_rfl
  c232:=by kernel_rfl
  c233:=by kernel_rfl}
end Go.Proofs
namespace Go.Proofs.YtlnfjkdacimblaaGreatDoor
open Go.Proofs.Tryz
open Go.Abs
theorem N2 (s:ByteArray) (hs:s.size < 1099511627776) (H:aE):aH Tryz.prog 134 [sv s] H (fun r H'=>r=.tup [iv (qS s).1,.pv (qS s).2]∧H'=H) :=Go.Abs.atoi_c aIm (G1:=2) (G2:=3) (by unfold NP;exact .tail _ (.tail _ (.head _))) (by kernel_rfl) (by unfold NP;exact .tail _ (.head _)) (by kernel_rfl) s hs H
end Go.Proofs.YtlnfjkdacimblaaGreatDoor
end
namespace Go.Proofs.YtlnfjkdacimblaaGreatDoor
open Go.Proofs.Tryz
open Go.Abs
theorem pU {α:Type} (f:α→List PV) (l:List α):l.map (fun e=>(f e).map AV.pv)=(l.map f).map (·.map .pv):=by rw [List.map_map];rfl
theorem gQ {α:Type} (f:α→List PV) (l:List α):((l.map f).take (0+l.length)).drop 0=l.map f:=by rw [aJJ,List.drop_zero];exact List.take_of_length_le (by rw [aIr];exact aIx _)
theorem W8 (f:GFound) (H:aE):aH Tryz.prog 180 [av (encTok f)] H (fun r H'=>r=bv (iO f)∧H'=H):=by
 refine Pu ?_;refine Bd func180 rfl ntmps180<|Sr<|Dd (by exact cE (id:=1) rfl rfl rfl rfl rfl)<|Dd aO<|Zz<|Sq ?_;refine bD (t:=2) (n:=10) (X:=iO f) ?_ ?_
 ·all_goals refine Dd (bH f7) ?_
  all_goals refine Dd (cA isAgg9)<|Dd sQ<|Dm ?_
  all_goals refine Sp 6 (fun h6=>?_) fun h6=>?_
  all_goals try contradiction
  all_goals first|refine Fo<|Fo<|Fo ?_|refine On (bH pR)<|On (cA isAgg3)<|On cI ?_
  all_goals refine Dd dI<|Da ?_
  all_goals(exact⟨⟨_,rfl,by(simp only [iO, *];rfl)⟩,rfl,rfl,rfl⟩)
 exact aC<|Rt<|Qq
theorem D2 (l:List GFound) (H:aE) (hl:l.length < 4611686018427387904) :
  aH Tryz.prog 179 [.pv (vO l),.pv (.fn 180)] H (fun r H'=>r=iv (jY iO l)∧H'=H):=by
 refine Pu ?_;have hml:(l.map encTok).length=l.length:=aIr _;refine Bd func179 rfl ntmps179<|Sr<|Dd aO<|Zz<|Sq<|Sr<|Dd aD<|Dd (fK cT)<|Dd aD<|Zz<|aF ?_;refine bG (σ:=Nat) (fun k=>([(0,.pv (vO l)),(1,.pv (.fn 180)),(7,iv ((l.map encTok).length:Int)),(8,iv (k:Int))],[])) (fun k=>k≤l.length∧∀ j,j < k→∀ b,l[j]?=some b→iO b=false) (fun k=>l.length - k) 0 ⟨by omega,by omega⟩ ?_ ?_
 ·exact E0
 rintro k ⟨hk,hno⟩;refine Sr<|Dd dD<|Zz<|Sq ?_;refine Cn ?_ ?_<;>intro hc1
 ·have hlt:k < l.length:=by have:=aIn hc1;omega
  obtain ⟨o,ho⟩:=aX hlt;have hi:=bZ (f:=encTok) ho;refine aB<|Sq<|aF<|Sr<|Dd aD<|Dd aO<|Zz<|Sr<|Dd aD<|Dd aD<|Dd aD<|Dd (e8 fZ)<|Dd (by exact bQ rfl gO sizeOf137 rfl (by omega) (by simp only [Zl,aQ,aG,encStr,encInt,encTok];rfl) rfl)<|Dd (by exact eT rfl rfl rfl (dN.fn call180 (W8 o _)))<|Zz ?_;refine Cn ?_ ?_<;>intro hc2
  ·refine Sr<|Dd aD<|Dd aO<|Zz<|aC<|Rt ?_;exact⟨by rw [jY,pE hno ho hc2],rfl⟩
  refine aB<|Rg<|Dd eL<|Dd aD<|Zz ?_;exact⟨k+1,⟨by omega,j7 hno ho hc2⟩,by omega,E0⟩
 have hge:k=l.length:=by have:=aIo hc1;omega
 subst hge;refine aZ<|Sr<|Dd aO<|Zz<|aC<|Rt ?_;exact⟨by rw [jY,pF hno],rfl⟩
def BT (T:List GFound) (k:Nat):List GFound:=T++List.replicate k AM
theorem BS (T:List GFound) (k:Nat):(BT T k).length=T.length+k:=by rw [BT,aIs,List.length_replicate]
theorem aAR (T:List GFound) (k:Nat):jH (BT T k)++[(encTok AM).map AV.pv]=jH (BT T (k+1)):=by rw [vJ,BT,BT,List.replicate_succ',List.append_assoc]
def kF (s:ByteArray):Nat→Int
 | 0=>0
 | j+1=>if dW ((j+1:Nat):Int)=s then((j+1:Nat):Int)else kF s j
theorem UW (s:ByteArray):kF s 5=uT s:=by simp only [kF,uT,eq_comm (a:=s)];rfl
theorem GS:∀ l:List GFound,mP l=eQ l (l.length / 3)
 | []=>by simp [mP,eQ]
 | [a]=>by simp [mP,eQ]
 | [a,b]=>by simp [mP,eQ]
 | a::b::c::r=>by
  rw [mP,GS r];have h1:(a::b::c::r).length=r.length+3:=rfl;rw [h1,Nat.add_div_right _ (by decide),eQ,eQ,List.range_succ_eq_map,List.map_cons,List.map_map];rfl
theorem aBr (s:ByteArray):atV s=(qS s).1:=by rw [atV,qS];cases h:Lib.atoiAll s.data.toList<;>rfl
abbrev oR (id:ByteArray) (k x y:Int) (n m:Nat):Ob:=bx 6 49 [sv id,iv k,iv x,iv y,.osl 906 n 0 n,.osl 907 m 0 m]
def OA (L:List GFound):Ob:=⟨L.length,3,137,jH L⟩
def rH (L:List GFound) (id:ByteArray) (k x y:Int) (R:List ByteArray) (G:List GTag):aE:=[(907,⟨G.length,2,117,mV G⟩),(906,⟨R.length,1,9,nU R⟩),(3,oR id k x y R.length G.length),(905,OA L),(2,bx 6 49 ((aG zObj).map .pv))]
abbrev rE (L:List GFound):dG:=[(0,.osl 905 L.length 0 L.length),(2,.ref 2 0 0 0),(3,.ref 3 0 0 0)]
theorem aHc (L:List GFound) (id:ByteArray) (k x y:Int) (R:List ByteArray) (s:ByteArray) (G:List GTag):rH L id k x y (R++[s]) G=[(907,⟨G.length,2,117,mV G⟩),(906,⟨R.length+1,1,9,nU (R++[s])⟩),(3,oR id k x y (R.length+1) G.length),(905,OA L),(2,bx 6 49 ((aG zObj).map .pv))]:=by simp [rH]
theorem aG4 (L:List GFound) (id:ByteArray) (k x y:Int) (R:List ByteArray) (t:GTag) (G:List GTag):rH L id k x y R (G++[t])=[(907,⟨G.length+1,2,117,mV (G++[t])⟩),(906,⟨R.length,1,9,nU R⟩),(3,oR id k x y R.length (G.length+1)),(905,OA L),(2,bx 6 49 ((aG zObj).map .pv))]:=by simp [rH]
theorem vI {L:List GFound} {i:Nat} {f:GFound} (h:L[i]?=some f):(jH L)[i]?=some [iv f.kind,sv f.text,iv (f.pos:Int)]:=by rw [jH,aJL,h];rfl
theorem aFL (T:List GFound) (hl:T.length < 549755813888) (hsz:∀ f∈pV T,f.text.size < 1099511627776):aH Tryz.prog 133 [.osl 905 T.length 0 T.length] [(905,OA T)] (fun r H'=>r=av (aG (k9 T))∧H'=[(905,OA (pV T))]):=by
 refine Bd func133 rfl ntmps133<|Sr<|Dd (by exact bJ (id:=2) rfl qU rfl rfl)<|Zz<|Sq<|aF ?_;refine bG (σ:=Nat) (fun k=>([(0,.osl 905 (BT T k).length 0 (BT T k).length),(2,.ref 2 0 0 0)],[(905,OA (BT T k)),(2,bx 6 49 ((aG zObj).map .pv))])) (fun k=>k≤4 - T.length) (fun k=>4 - T.length - k) 0 (aJI _) ?_ ?_
 ·rw [show BT T 0=T by simp [BT]];exact(cY.wk (Ea<|Ea<|trivial) (Hc (cX _ _)<|Hb<|trivial) ⟨rfl,trivial⟩)
 rintro k hk;have hpl:=BS T k;unfold OA;refine Sq<|Sr<|Dd aD<|Dd (by exact dV rfl cT rfl rfl rfl)<|Dd dD<|Zz ?_;refine Cn ?_ ?_<;>intro hc1
 ·have hlt:T.length+k < 4:=by have:=aIn hc1;rw [hpl] at this;omega
  refine aB<|aF<|Rg<|Dd aD<|Dd (jG zQ)<|Dd (by exact aT [encTok AM] rfl fZ rfl rfl rfl rfl rfl (by intro r hr;rw [aIu] at hr;subst hr;rfl))<|Dd (by exact c6 (ps:=[encTok AM]) rfl fZ U6 rfl rfl rfl rfl rfl (rR _) rfl (by intro r hr;rw [aIu] at hr;subst hr;rfl) (m:=1) rfl (by omega) rfl (aAR T k))<|Da ?_;refine⟨k+1,by omega,by omega,?_⟩;rw [show (BT T (k+1)).length=(BT T k).length+1 by rw [BS,BS];omega];exact(cY.wk (Ea<|Ea<|trivial) (Hc (cX _ _)<|Hb<|trivial) ⟨rfl,trivial⟩)
 have hge:4≤T.length+k:=by have:=aIo hc1;rw [hpl] at this;omega
 obtain rfl:k=4 - T.length:=by omega
 obtain ⟨L,hL⟩:∃ L,L=BT T (4 - T.length):=⟨_,rfl⟩;have hLp:pV T=L:=by rw [hL];rfl
 have hLl:4≤L.length∧L.length < 549755813893:=by rw [hL,BS];omega
 rw [hLp] at hsz;rw [hLp,← hL];clear hpl;obtain ⟨t0,ht0⟩:=aX (show 0 < L.length by omega);obtain ⟨t1,ht1⟩:=aX (show 1 < L.length by omega);obtain ⟨t2,ht2⟩:=aX (show 2 < L.length by omega);obtain ⟨t3,ht3⟩:=aX (show 3 < L.length by omega);have hr0:=vI ht0;have hr1:=vI ht1;have hr2:=vI ht2;have hr3:=vI ht3;have hd:∀ {i:Nat} {f:GFound},L[i]?=some f→L.getD i AM=f:=fun {i f} h=>by rw [List.getD_eq_getElem?_getD,h];rfl
 have hR:=k9.eq_1 T;rw [hLp,hd ht0,hd ht1,hd ht2,hd ht3] at hR;refine aZ<|Sr<|Dd aD<|Dd (by exact cG rfl fZ rfl rfl rfl rfl rfl (by omega) (by exact aJC _) (show 1 < L.length by omega) rfl)<|Dd (bH f7)<|Dd (by exact aR rfl isAgg9 rfl rfl rfl hr1 rfl)<|Dd (jG aEd)<|Dd (by exact bJ (id:=3) rfl aEQ rfl rfl)<|Uu (fP sizeOf49)<|Zz<|Sq<|Sq ?_;refine iB.ent (E':=rE L) (H':=[(906,⟨0,1,9,[]⟩),(3,bx 6 49 [sv t1.text,iv 0,iv 0,iv 0,.osl 906 0 0 0,.pv .nils]),(905,OA L),(2,bx 6 49 ((aG zObj).map .pv))]) (cY.nz 906 1 9 rfl rfl ⟨⟨_,rfl,(by exact Nz.same (by(simp;rfl)))⟩,⟨_,rfl,(by exact Nz.same (by(simp;rfl)))⟩,⟨_,rfl,(by exact Nz.same (by(simp;rfl)))⟩,trivial⟩ ⟨⟨_,rfl,rfl,rfl,rfl,(by exact .inr ⟨_,_,rfl,rfl,(by repeat(first|exact trivial|refine⟨(by first|exact Nz.own|exact Nz.same (by(simp;done))),?_⟩))⟩)⟩,⟨_,rfl,rfl,rfl,rfl,(by exact .inl ⟨rfl,(by exact cX _ _)⟩)⟩,⟨_,rfl,rfl,rfl,rfl,(by exact .inl ⟨rfl,(by(simp;done))⟩)⟩,trivial⟩ ⟨rfl,trivial⟩) ?_;refine iB.ent (E':=rE L) (H':=rH L t1.text 0 0 0 [] []) (cY.nz 907 2 117 rfl rfl ⟨⟨_,rfl,(by exact Nz.same (by(simp;rfl)))⟩,⟨_,rfl,(by exact Nz.same (by(simp;rfl)))⟩,⟨_,rfl,(by exact Nz.same (by(simp;rfl)))⟩,trivial⟩ ⟨⟨_,rfl,rfl,rfl,rfl,(by exact .inl ⟨rfl,(by exact fB _ _)⟩)⟩,⟨_,rfl,rfl,rfl,rfl,(by exact .inr ⟨_,_,rfl,rfl,(by repeat(first|exact trivial|refine⟨(by first|exact Nz.own|exact Nz.same (by first|(simp;done)|(simp;rfl))),?_⟩))⟩)⟩,⟨_,rfl,rfl,rfl,rfl,(by exact .inl ⟨rfl,(by exact cX _ _)⟩)⟩,⟨_,rfl,rfl,rfl,rfl,(by exact .inl ⟨rfl,(by(simp;done))⟩)⟩,trivial⟩ ⟨rfl,trivial⟩) ?_;refine Rg<|Dd aO<|Zz<|aF ?_;refine bG (σ:=Nat) (fun j=>(rE L++[(4,iv ((j+1:Nat):Int))],rH L t1.text (kF t0.text j) 0 0 [] [])) (fun j=>j≤5) (fun j=>5 - j) 0 (aJI _) ?_ ?_
 ·exact(cY.wk (Ea<|Ea<|Ea<|Eb<|trivial) (Hc (iZ _ _)<|Hc (fB _ _)<|Hc (by(simp;exact⟨rfl,rfl⟩))<|Hc (cX _ _)<|Hb<|trivial) ⟨rfl,trivial⟩)
 rintro j hj;refine Sq<|Sr<|Dd aD<|Dd JK<|Zz ?_;refine Cn ?_ ?_<;>intro hc2
 ·have hj5:j < 5:=by have:=aIn hc2;omega
  refine aB<|Sq<|aF<|Sq<|aU follows<|Cq aD<|Cq (by exact aA rfl rfl uA rfl (zV ((j+1:Nat):Int) _))<|Cq aD<|Cq (by exact cG rfl fZ rfl rfl rfl rfl rfl (by omega) (by exact aJC _) (show 0 < L.length by omega) rfl)<|Cq (bH f7)<|Cq (by exact aR rfl isAgg9 rfl rfl rfl hr0 rfl)<|Cq sQ<|bM<|Kr ?_;refine Cn ?_ ?_<;>intro hc3
  ·have hw:dW ((j+1:Nat):Int)=t0.text:=aIn hc3;refine Rg<|Dd aD<|Dd (bH dT)<|Uu (by exact bW rfl sizeOf3 rfl rfl rfl rfl rfl rfl (by simp only [aIt,List.length_nil];omega) (by simp only [Zl,aQ,aG,encStr,encInt,encTok];rfl) (by simp only [Zl,aQ,aG,encStr,encInt,encTok];rfl))<|Zz<|Rg<|Dd aD<|Dd eL<|Da ?_;refine⟨j+1,by omega,by omega,?_⟩;rw [show kF t0.text (j+1)=((j+1:Nat):Int)by rw [kF,aIq hw]];exact(cY.wk (Ea<|Ea<|Ea<|Eb<|trivial) (Hc (iZ _ _)<|Hc (fB _ _)<|Hc (by(simp;exact⟨rfl,rfl⟩))<|Hc (cX _ _)<|Hb<|trivial) ⟨rfl,trivial⟩)
  have hw:dW ((j+1:Nat):Int)≠t0.text:=aIo hc3;refine aB<|Rg<|Dd aD<|Dd eL<|Da ?_;refine⟨j+1,by omega,by omega,?_⟩;rw [show kF t0.text (j+1)=kF t0.text j by rw [kF,aIp hw]];exact(cY.wk (Ea<|Ea<|Ea<|Eb<|trivial) (Hc (iZ _ _)<|Hc (fB _ _)<|Hc (by(simp;exact⟨rfl,rfl⟩))<|Hc (cX _ _)<|Hb<|trivial) ⟨rfl,trivial⟩)
 have hj5:j=5:=by have:=aIo hc2;omega
 subst hj5;rw [UW];obtain ⟨kd,hkd⟩:∃ kd,kd=uT t0.text:=⟨_,rfl⟩;rw [← hkd] at hR ⊢;have htk:(jH L).length=L.length:=rR L;refine aZ<|Sr<|Dd aD<|Dd (by exact jK (l:=4) (h:=L.length) rfl fZ rfl rfl rfl rfl rfl rfl (by omega) (by omega) rfl rfl)<|Dd aO<|Zz<|Sq<|Sr<|Dd (bH dT)<|Dd (cA isAgg3)<|Dd cI<|Zz ?_;refine Cn ?_ ?_<;>intro hc4
 ·have hk1:kd=1:=aIn hc4;have hR2:k9 T=⟨t1.text,1,atV t2.text,atV t3.text,[],mP (L.drop 4)⟩:=by rw [hR,aIq hk1]
  subst hk1;refine Sr<|Dd aD<|Dd (by exact cG rfl fZ rfl rfl rfl rfl rfl (by omega) (by exact aJC _) (show 2 < L.length by omega) rfl)<|Dd (bH f7)<|Dd (by exact aR rfl isAgg9 rfl rfl rfl hr2 rfl)<|Dd (by exact aA rfl rfl JC rfl (N2 t2.text (hsz _ (aJB ht2)) _))<|Dd aD<|Dd eZ<|Dd eZ<|Dd (bH kE)<|Dd (bH qL)<|Uu (by exact bW rfl sizeOf3 rfl rfl rfl rfl rfl rfl (by simp only [aIt,List.length_nil];omega) (by simp only [Zl,aQ,aG,encStr,encInt,encTok];rfl) (by simp only [Zl,aQ,aG,encStr,encInt,encTok];rfl))<|Zz<|Rg<|Dd aD<|Dd (by exact cG rfl fZ rfl rfl rfl rfl rfl (by omega) (by exact aJC _) (show 3 < L.length by omega) rfl)<|Dd (bH f7)<|Dd (by exact aR rfl isAgg9 rfl rfl rfl hr3 rfl)<|Dd (by exact aA rfl rfl JC rfl (N2 t3.text (hsz _ (aJB ht3)) _)) ?_;refine Dd aD<|Dd eZ<|Dd eZ<|Dd (bH kE)<|Dd (bH qK)<|Uu (by exact bW rfl sizeOf3 rfl rfl rfl rfl rfl rfl (by simp only [aIt,List.length_nil];omega) (by simp only [Zl,aQ,aG,encStr,encInt,encTok];rfl) (by simp only [Zl,aQ,aG,encStr,encInt,encTok];rfl))<|Zz<|Sq<|aF ?_;obtain ⟨D,hD⟩:∃ D,D=L.drop 4:=⟨_,rfl⟩;have hDl:D.length=L.length - 4:=by rw [hD,aJG]
  refine bG (σ:=Nat) (fun j=>(rE L++[(5,.osl 905 L.length (4+3*j) (L.length - 4 - 3*j))],rH L t1.text 1 (qS t2.text).1 (qS t3.text).1 ([]:List ByteArray) (eQ D j))) (fun j=>3*j≤D.length) (fun j=>D.length - 3*j) 0 (aJI _) ?_ ?_
  ·exact(cY.wk (Ea<|Ea<|Ea<|Ea<|trivial) (Hc (iZ _ _)<|Hc (fB _ _)<|Hc (by(simp;exact⟨rfl,rfl⟩))<|Hc (cX _ _)<|Hb<|trivial) ⟨rfl,trivial⟩)
  rintro j hj;have hnx:=xX D j;have hfl:=zO D j;refine Sq<|Sr<|Dd aD<|Dd (by exact dV rfl cT rfl rfl rfl)<|Dd kC<|Zz ?_;refine Cn ?_ ?_<;>intro hc5
  ·have hlt:3*j+2 < D.length:=by have:=aIn hc5;omega
   obtain ⟨f0,hf0⟩:∃ f,L[4+3*j]?=some f:=aX (by omega);obtain ⟨f2,hf2⟩:∃ f,L[4+3*j+2]?=some f:=aX (by omega);have hr0:=vI hf0;have hr2:=vI hf2;have hta:KQ D j=⟨f0.text,f2.text⟩:=by
    rw [KQ,hD,List.getElem?_drop,List.getElem?_drop,hf0,show 4+(3*j+2)=4+3*j+2 from rfl,hf2];rfl
   refine aB<|Sq<|aF<|aU follows<|Cs (fun _ h=>fh e9 h)<|Cs (fun _ h=>lh cU h)<|Cs (fun _ _=>aD)<|Cs (fun H1 hH=>by exact cG rfl fZ rfl ((hH _ rfl).trans rfl) rfl rfl rfl (by omega) (by exact aJC _) (show 0 < L.length - 4 - 3*j by omega) rfl)<|Cs (fun _ h=>fh f7 h)<|Cs (fun H1 hH=>by exact aR rfl isAgg9 rfl ((hH _ rfl).trans rfl) rfl hr0 rfl)<|Cs (fun _ _=>aD)<|Cs (fun H1 hH=>by exact cG rfl fZ rfl ((hH _ rfl).trans rfl) rfl rfl rfl (by omega) (by exact aJC _) (show 2 < L.length - 4 - 3*j by omega) rfl)<|Cs (fun _ h=>fh f7 h)<|Cs (fun H1 hH=>by exact aR rfl isAgg9 rfl ((hH _ rfl).trans rfl) rfl hr2 rfl)<|Cs (fun _ _=>(jG aBe))<|Cs (fun H1 hH=>by exact aT [aQ ⟨f0.text,f2.text⟩] rfl lJ rfl rfl rfl rfl rfl (by intro r hr;rw [aIu] at hr;subst hr;rfl)) ?_;refine bT (r:=⟨_,none,[_]⟩) (DStep.plain rfl (fun H1 hH=>by exact c6 (ps:=[aQ ⟨f0.text,f2.text⟩]) rfl lJ aB2 rfl ((hH _ rfl).trans rfl) rfl rfl rfl (zY _) rfl (by intro r hr;rw [aIu] at hr;subst hr;rfl) (m:=1) rfl (by omega) rfl (zZ (eQ D j) ⟨f0.text,f2.text⟩))) rfl ?_;refine Cs (fun _ h=>fh e9 h) ?_;refine bT (r:=⟨_,none,[_]⟩) (DStep.plain rfl (fun H1 hH=>by exact(by exact bW rfl sizeOf47 rfl rfl rfl ((hH _ rfl).trans rfl) rfl rfl (by simp only [aIt,List.length_nil];omega) (by simp only [Zl,aQ,aG,encStr,encInt,encTok];rfl) (by simp only [Zl,aQ,aG,encStr,encInt,encTok];rfl)))) rfl ?_;refine bM<|Kr<|Rg<|Dd aD<|Dd (by exact jK (l:=3) (h:=(L.length - 4 - 3*j)) rfl fZ rfl rfl rfl rfl rfl rfl (by omega) (by omega) rfl rfl)<|Da ?_;refine⟨j+1,by omega,by omega,?_⟩;dsimp only;rw [hnx,hta,aG4];exact(cY.wk (Ea<|Ea<|Ea<|Ea<|trivial) (Hc (iZ _ _)<|Hc (fB _ _)<|Hc (by(simp;exact⟨rfl,rfl⟩))<|Hc (cX _ _)<|Hb<|trivial) ⟨rfl,trivial⟩)
  have hge:D.length < 3*j+3:=by have:=aIo hc5;omega
  have hdj:D.length / 3=j:=by omega
  have hG:mP D=eQ D j:=by rw [GS,hdj]
  refine aZ<|Sq ?_;refine iB.ent (cY.fzG (id:=907) (E':=rE L) (H':=[(906,⟨(([]:List ByteArray)).length,1,9,nU (([]:List ByteArray))⟩),(3,bx 6 49 [sv (t1.text),iv (1),iv ((qS t2.text).1),iv ((qS t3.text).1),.osl 906 (([]:List ByteArray)).length 0 (([]:List ByteArray)).length,.pv (iL (eQ D j))]),(905,OA L),(2,bx 6 49 ((aG zObj).map .pv))]) ((eQ D j).map aQ) rfl (pU aQ _) ?_ rfl ?_ ?_) ?_
  ·intro p hp;simp only [aJD,aJH,or_false] at hp;rcases hp with rfl|rfl|rfl<;>exact⟨_,rfl,.same (by simp;rfl)⟩
  ·exact⟨⟨_,rfl,rfl,rfl,rfl,iI (fB _ _)⟩,⟨_,rfl,rfl,rfl,rfl,tE rfl (dC (.same (by simp)) (dC (.same (by simp)) (dC (.same (by simp)) (dC (.same (by simp)) (dC (.same (by simp;rfl)) (dC (.osl (gQ aQ _)) oK))))))⟩,⟨_,rfl,rfl,rfl,rfl,iI (cX _ _)⟩,⟨_,rfl,rfl,rfl,rfl,iI (by simp)⟩,trivial⟩
  ·exact⟨rfl,trivial⟩
  refine iB.ent (cY.fzG (id:=906) (E':=rE L) (H':=[(3,bx 6 49 [sv (t1.text),iv (1),iv ((qS t2.text).1),iv ((qS t3.text).1),.pv (cS (([]:List ByteArray))),.pv (iL (eQ D j))]),(905,OA L),(2,bx 6 49 ((aG zObj).map .pv))]) ((([]:List ByteArray)).map encStr) rfl (rF _) ?_ rfl ?_ ?_) ?_
  ·intro p hp;simp only [aJD,aJH,or_false] at hp;rcases hp with rfl|rfl|rfl<;>exact⟨_,rfl,.same (by simp;rfl)⟩
  ·exact⟨⟨_,rfl,rfl,rfl,rfl,tE rfl (dC (.same (by simp)) (dC (.same (by simp)) (dC (.same (by simp)) (dC (.same (by simp)) (dC (.osl (gQ encStr _)) (dC (.same (by simp)) oK))))))⟩,⟨_,rfl,rfl,rfl,rfl,iI (cX _ _)⟩,⟨_,rfl,rfl,rfl,rfl,iI (by simp)⟩,trivial⟩
  ·exact⟨rfl,trivial⟩
  refine Rg<|Dd (by exact aI rfl aY sizeOf49 rfl rfl rfl rfl (by simp only [Zl,aQ,aG,encStr,encInt,encTok];rfl) rfl)<|Uu (fP sizeOf49)<|Zz<|aC ?_;refine cZ (H':=[(905,OA L)]) (.inr rfl) rfl (k8 rfl aY sizeOf49 rfl rfl rfl (by simp only [Zl,aQ,aG,encStr,encInt,encTok];rfl) rfl) (Fin.wk (by(simp;done)) (Hc (cX _ _)<|trivial) ⟨rfl,trivial⟩) ?_;refine⟨?_,rfl⟩;rw [(show k9 T=⟨t1.text,1,(qS t2.text).1,(qS t3.text).1,[],mP (L.drop 4)⟩by rw [hR2,aBr,aBr]),← hD,hG];rfl
 have hk1:kd≠1:=aIo hc4;rw [aIp hk1] at hR;have hIx:=D2 L [] (by omega);have hIr:∀ H,H.get 905=some (OA L)→aH Tryz.prog 179 [.osl 905 L.length 0 L.length,.pv (.fn 180)] H (fun r H'=>r=iv (jY iO L)∧H'=H):=fun H hH =>
  RO.calls (RO.lend (id:=905) (H1:=[]) (L.map encTok) (RO.of hIx rfl) hH (pU encTok L) rfl
   (dC (.osl (gQ encTok L)) (dC (.same (by simp)) oK)) (fun _ _ h=>by cases h) (fun _ _ h=>by cases h) rfl)
 refine Sr<|Dd aD<|Dd (by exact aA rfl rfl call179 rfl (hIr _ rfl))<|Dd aO<|Zz<|Sq<|Sr<|Dd aD<|Dd dD<|Zz ?_;refine Cn ?_ ?_<;>intro hc6
 ·have hlo:jY iO L < 3:=aIn hc6;rw [aIq hlo] at hR;rw [hR];refine Sr<|Dd (jG CO)<|Uu (fP sizeOf49)<|Zz<|aC ?_;refine cZ (H':=[(905,OA L)]) (.inr rfl) rfl (k8 rfl aY sizeOf49 rfl rfl rfl (by simp only [Zl,aQ,aG,encStr,encInt,encTok];rfl) rfl) (Fin.wk (by(simp;done)) (Hc (cX _ _)<|trivial) ⟨rfl,trivial⟩) ?_;exact Qq
 have hlo:¬ jY iO L < 3:=aIo hc6;rw [aIp hlo] at hR;obtain ⟨q,hq,hqL⟩:∃ q:Nat,jY iO L=(q:Int)∧q < L.length:=by
  rcases sB iO L with⟨e1,_⟩|⟨q,o,e1,e2,_⟩
  ·rw [e1] at hlo;exact absurd (by decide) hlo
  exact⟨q,e1,(aIv.1 e2).1⟩
 rw [hq] at hR hlo ⊢;rw [aJC] at hR;have hq3:3≤q:=by omega
 obtain ⟨M,hM⟩:∃ M,M=(L.take q).drop 3:=⟨_,rfl⟩;have hMl:M.length=q - 3:=by rw [hM,aJG,aJF];omega
 rw [← hM] at hR;refine aB<|Sq<|Sr<|Dd aD<|Dd aD<|Dd (by exact jK (l:=3) (h:=q) rfl fZ rfl rfl rfl rfl rfl rfl (by omega) (by omega) rfl rfl)<|Dd (by exact dV rfl cT rfl rfl rfl)<|Dd aD<|Zz<|aF ?_;refine bG (σ:=Nat) (fun i=>(rE L++[(5,.osl 905 L.length 4 (L.length - 4)),(6,iv (q:Int)),(66,.osl 905 L.length 3 (q - 3)),(67,iv ((q - 3:Nat):Int)),(68,iv (i:Int))],rH L t1.text kd 0 0 ((M.take i).map GFound.text) [])) (fun i=>i≤M.length) (fun i=>M.length - i) 0 (aJI _) ?_ ?_
 ·exact(cY.wk (Ea<|Ea<|Ea<|Ea<|Eb<|Ea<|Eb<|Eb<|trivial) (Hc (iZ _ _)<|Hc (fB _ _)<|Hc (by(simp;exact⟨rfl,rfl⟩))<|Hc (cX _ _)<|Hb<|trivial) ⟨rfl,trivial⟩)
 rintro i hi;refine Sr<|Dd dD<|Zz<|Sq ?_;refine Cn ?_ ?_<;>intro hc7
 ·have hiq:i < q - 3:=by have:=aIn hc7;omega
  obtain ⟨f,hf⟩:=aX (show i < M.length by omega);have hfL:L[3+i]?=some f:=by
   rw [hM,List.getElem?_drop,List.getElem?_take_of_lt (by omega)] at hf;exact hf
  have hrf:=vI hfL;have hMt:(M.take (i+1)).map GFound.text=(M.take i).map GFound.text++[f.text]:=by rw [List.take_add_one,hf,List.map_append];rfl
  have hRl:((M.take i).map GFound.text).length=i:=by rw [aIr,aJF];omega
  refine aB<|Sq<|aF<|Sr<|Dd (by exact cG rfl fZ rfl rfl rfl rfl rfl (by omega) (by exact aJC _) (by omega) rfl)<|Dd (by exact aI rfl gO sizeOf137 rfl rfl rfl hrf (by simp only [Zl,aQ,aG,encStr,encInt,encTok];rfl) rfl)<|Dd (by exact bJ (id:=8) rfl TQ rfl rfl)<|Uu (fP sizeOf137)<|Zz<|Rg<|Dd (bH dP)<|Dd (cA aV)<|Dd (bH f7)<|Dd (cA isAgg9)<|Dd (by exact aT [encStr f.text] rfl cC rfl rfl rfl rfl rfl (by intro r hr;rw [aIu] at hr;subst hr;rfl))<|Dd (by exact c6 (ps:=[encStr f.text]) rfl cC E4 rfl rfl rfl rfl rfl (C5 _) rfl (by intro r hr;rw [aIu] at hr;subst hr;rfl) (m:=1) rfl (by omega) rfl (C6 ((M.take i).map GFound.text) f.text))<|Dd (bH dP)<|Uu (by exact bW rfl sizeOf46 rfl rfl rfl rfl rfl rfl (by simp only [aIt,List.length_nil];omega) (by simp only [Zl,aQ,aG,encStr,encInt,encTok];rfl) (by simp only [Zl,aQ,aG,encStr,encInt,encTok];rfl)) ?_;refine Zz<|Rg<|Dd eL<|Dd aD<|Zz ?_;refine⟨i+1,by omega,by omega,?_⟩;dsimp only;rw [hMt,aHc];exact(cY.wk (Ea<|Ea<|Ea<|Ea<|Eb<|Ea<|Eb<|Eb<|trivial) (Hc (iZ _ _)<|Hc (fB _ _)<|Hc (by(simp;exact⟨rfl,rfl⟩))<|Hc (cX _ _)<|Hb<|trivial) ⟨rfl,trivial⟩)
 have hiq:i=q - 3:=by have:=aIo hc7;omega
 have hMi:M.take i=M:=List.take_of_length_le (by omega);rw [hMi];refine aZ<|Rg<|Dd aD<|Dd aD<|Dd (by exact iM rfl rfl rfl (show IntKind.i64.wrap ((q:Int)+1)=((q+1:Nat):Int)by rw [IntKind.wrap_i64];omega))<|Dd (by exact jK (l:=(q+1)) (h:=L.length) rfl fZ rfl rfl rfl rfl rfl rfl (by omega) (by omega) rfl rfl)<|Dd aO<|Zz<|Sq<|aF ?_;rw [← aJJ (q+1)] at hR;obtain ⟨D,hD⟩:∃ D,D=L.drop (0+(q+1)):=⟨_,rfl⟩;have hDl:D.length=L.length - (0+(q+1)):=by rw [hD,aJG]
 refine bG (σ:=Nat) (fun j=>(rE L++[(5,.osl 905 L.length ((0+(q+1))+3*j) (L.length - (q+1) - 3*j))],rH L t1.text kd 0 0 (M.map GFound.text) (eQ D j))) (fun j=>3*j≤D.length) (fun j=>D.length - 3*j) 0 (aJI _) ?_ ?_
 ·exact(cY.wk (Ea<|Ea<|Ea<|Ea<|trivial) (Hc (iZ _ _)<|Hc (fB _ _)<|Hc (by(simp;exact⟨rfl,rfl⟩))<|Hc (cX _ _)<|Hb<|trivial) ⟨rfl,trivial⟩)
 rintro j hj;have hnx:=xX D j;have hfl:=zO D j;refine Sq<|Sr<|Dd aD<|Dd (by exact dV rfl cT rfl rfl rfl)<|Dd kC<|Zz ?_;refine Cn ?_ ?_<;>intro hc8
 ·have hlt:3*j+2 < D.length:=by have:=aIn hc8;omega
  obtain ⟨f0,hf0⟩:∃ f,L[(0+(q+1))+3*j]?=some f:=aX (by omega);obtain ⟨f2,hf2⟩:∃ f,L[(0+(q+1))+3*j+2]?=some f:=aX (by omega);have hr0:=vI hf0;have hr2:=vI hf2;have hta:KQ D j=⟨f0.text,f2.text⟩:=by
   rw [KQ,hD,List.getElem?_drop,List.getElem?_drop,hf0,show (0+(q+1))+(3*j+2)=(0+(q+1))+3*j+2 from rfl,hf2];rfl
  refine aB<|Sq<|aF<|aU follows<|Cs (fun _ h=>fh e9 h)<|Cs (fun _ h=>lh cU h)<|Cs (fun _ _=>aD)<|Cs (fun H1 hH=>by exact cG rfl fZ rfl ((hH _ rfl).trans rfl) rfl rfl rfl (by omega) (by exact aJC _) (show 0 < L.length - (q+1) - 3*j by omega) rfl)<|Cs (fun _ h=>fh f7 h)<|Cs (fun H1 hH=>by exact aR rfl isAgg9 rfl ((hH _ rfl).trans rfl) rfl hr0 rfl)<|Cs (fun _ _=>aD)<|Cs (fun H1 hH=>by exact cG rfl fZ rfl ((hH _ rfl).trans rfl) rfl rfl rfl (by omega) (by exact aJC _) (show 2 < L.length - (q+1) - 3*j by omega) rfl)<|Cs (fun _ h=>fh f7 h)<|Cs (fun H1 hH=>by exact aR rfl isAgg9 rfl ((hH _ rfl).trans rfl) rfl hr2 rfl)<|Cs (fun _ _=>(jG aBe))<|Cs (fun H1 hH=>by exact aT [aQ ⟨f0.text,f2.text⟩] rfl lJ rfl rfl rfl rfl rfl (by intro r hr;rw [aIu] at hr;subst hr;rfl)) ?_;refine bT (r:=⟨_,none,[_]⟩) (DStep.plain rfl (fun H1 hH=>by exact c6 (ps:=[aQ ⟨f0.text,f2.text⟩]) rfl lJ aB2 rfl ((hH _ rfl).trans rfl) rfl rfl rfl (zY _) rfl (by intro r hr;rw [aIu] at hr;subst hr;rfl) (m:=1) rfl (by omega) rfl (zZ (eQ D j) ⟨f0.text,f2.text⟩))) rfl ?_;refine Cs (fun _ h=>fh e9 h) ?_;refine bT (r:=⟨_,none,[_]⟩) (DStep.plain rfl (fun H1 hH=>by exact(by exact bW rfl sizeOf47 rfl rfl rfl ((hH _ rfl).trans rfl) rfl rfl (by simp only [aIt,List.length_nil];omega) (by simp only [Zl,aQ,aG,encStr,encInt,encTok];rfl) (by simp only [Zl,aQ,aG,encStr,encInt,encTok];rfl)))) rfl ?_;refine bM<|Kr<|Rg<|Dd aD<|Dd (by exact jK (l:=3) (h:=(L.length - (q+1) - 3*j)) rfl fZ rfl rfl rfl rfl rfl rfl (by omega) (by omega) rfl rfl)<|Da ?_;refine⟨j+1,by omega,by omega,?_⟩;dsimp only;rw [hnx,hta,aG4];exact(cY.wk (Ea<|Ea<|Ea<|Ea<|trivial) (Hc (iZ _ _)<|Hc (fB _ _)<|Hc (by(simp;exact⟨rfl,rfl⟩))<|Hc (cX _ _)<|Hb<|trivial) ⟨rfl,trivial⟩)
 have hge:D.length < 3*j+3:=by have:=aIo hc8;omega
 have hdj:D.length / 3=j:=by omega
 have hG:mP D=eQ D j:=by rw [GS,hdj]
 refine aZ<|Sq ?_;refine iB.ent (cY.fzG (id:=907) (E':=rE L) (H':=[(906,⟨((M.map GFound.text)).length,1,9,nU ((M.map GFound.text))⟩),(3,bx 6 49 [sv (t1.text),iv (kd),iv (0),iv (0),.osl 906 ((M.map GFound.text)).length 0 ((M.map GFound.text)).length,.pv (iL (eQ D j))]),(905,OA L),(2,bx 6 49 ((aG zObj).map .pv))]) ((eQ D j).map aQ) rfl (pU aQ _) ?_ rfl ?_ ?_) ?_
 ·intro p hp;simp only [aJD,aJH,or_false] at hp;rcases hp with rfl|rfl|rfl<;>exact⟨_,rfl,.same (by simp;rfl)⟩
 ·exact⟨⟨_,rfl,rfl,rfl,rfl,iI (fB _ _)⟩,⟨_,rfl,rfl,rfl,rfl,tE rfl (dC (.same (by simp)) (dC (.same (by simp)) (dC (.same (by simp)) (dC (.same (by simp)) (dC (.same (by simp;rfl)) (dC (.osl (gQ aQ _)) oK))))))⟩,⟨_,rfl,rfl,rfl,rfl,iI (cX _ _)⟩,⟨_,rfl,rfl,rfl,rfl,iI (by simp)⟩,trivial⟩
 ·exact⟨rfl,trivial⟩
 refine iB.ent (cY.fzG (id:=906) (E':=rE L) (H':=[(3,bx 6 49 [sv (t1.text),iv (kd),iv (0),iv (0),.pv (cS ((M.map GFound.text))),.pv (iL (eQ D j))]),(905,OA L),(2,bx 6 49 ((aG zObj).map .pv))]) (((M.map GFound.text)).map encStr) rfl (rF _) ?_ rfl ?_ ?_) ?_
 ·intro p hp;simp only [aJD,aJH,or_false] at hp;rcases hp with rfl|rfl|rfl<;>exact⟨_,rfl,.same (by simp;rfl)⟩
 ·exact⟨⟨_,rfl,rfl,rfl,rfl,tE rfl (dC (.same (by simp)) (dC (.same (by simp)) (dC (.same (by simp)) (dC (.same (by simp)) (dC (.osl (gQ encStr _)) (dC (.same (by simp)) oK))))))⟩,⟨_,rfl,rfl,rfl,rfl,iI (cX _ _)⟩,⟨_,rfl,rfl,rfl,rfl,iI (by simp)⟩,trivial⟩
 ·exact⟨rfl,trivial⟩
 refine Rg<|Dd (by exact aI rfl aY sizeOf49 rfl rfl rfl rfl (by simp only [Zl,aQ,aG,encStr,encInt,encTok];rfl) rfl)<|Uu (fP sizeOf49)<|Zz<|aC ?_;refine cZ (H':=[(905,OA L)]) (.inr rfl) rfl (k8 rfl aY sizeOf49 rfl rfl rfl (by simp only [Zl,aQ,aG,encStr,encInt,encTok];rfl) rfl) (Fin.wk (by(simp;done)) (Hc (cX _ _)<|trivial) ⟨rfl,trivial⟩) ?_;refine⟨?_,rfl⟩;rw [hR,← hD,hG];rfl
end Go.Proofs.YtlnfjkdacimblaaGreatDoor
namespace Go.Abs
open Go.Proofs
section
section
variable {P:Program} {N:Nat} {o:Oper} {E:dG} {H:aE} {t t':TypeId} {x:Operand}
theorem SG (ho:o.op=.binOp .neq t x (.const .nilIface) t') (ht:P.underlying t=some (.interface (P.methodsAt t))) (hx:aW E x=some (.pv J1)):dQ P N o E H (.pv (.bool false)) H :=.of_run fun a w I ι _ he=>⟨.bool false,by
  have e1:a.eval x=.nilIface:=(aM he hx).sat_inv;have e2:a.eval (.const .nilIface)=.nilIface:=rfl;simp only [execOp,ho,e1,e2,eqGuard,Sem.run_bind,Sem.run_pure,Result.andThen_ok,run_neq_nil_nil _ _ ht,Bool.or_true,if_true,Bool.not_true,Bool.false_eq_true,if_false],.pv (.bool _)⟩
theorem HK (ho:o.op=.binOp .neq t x (.const .nilIface) t') (ht:P.underlying t=some (.interface (P.methodsAt t))) (hx:aW E x=some (.pv aB0)):dQ P N o E H (.pv (.bool true)) H :=.of_run fun a w I ι _ he=>⟨.bool true,by
  obtain ⟨q,p,e1⟩:aE6 (a.eval x):=(aM he hx).sat_inv;have e2:a.eval (.const .nilIface)=.nilIface:=rfl;simp only [execOp,ho,e1,e2,eqGuard,Sem.run_bind,Sem.run_pure,Result.andThen_ok,run_neq_held_nil _ _ _ _ ht];rfl,.pv (.bool _)⟩
end
end
end Go.Abs
namespace Go.Proofs.YtlnfjkdacimblaaGreatDoor
open Go.Proofs.Tryz
open Go.Abs
theorem PS (s:ByteArray) (H:aE) (hs:s.size < 1099511627776):aH Tryz.prog 82 [sv s] H (fun r H'=>r=iv (J0 s.data.toList)∧H'=H):=by
 refine Pu ?_;have hA:=N2 s hs;unfold qS at hA;unfold J0;cases h:Lib.atoiAll s.data.toList with
 | ok v =>
  simp only [h] at hA;refine Bd aI4 rfl aHy<|Sr<|Dd aO<|Zz<|Sr<|Dd aD<|Dd (by exact aA rfl rfl JC rfl (hA _))<|Dd aD<|Dd eZ<|Dd eZ<|Dd aO<|Dd aO<|Zz<|Sq<|Sr<|Dd aD<|Dd (by exact SG rfl CY rfl)<|Zz ?_;refine Cn ?_ ?_<;>intro hc1
  ·cases hc1
  exact aB<|Sr<|Dd aD<|Dd aO<|Zz<|aC<|Rt<|Qq
 | range =>
  simp only [h] at hA;refine Bd aI4 rfl aHy<|Sr<|Dd aO<|Zz<|Sr<|Dd aD<|Dd (by exact aA rfl rfl JC rfl (hA _))<|Dd aD<|Dd eZ<|Dd eZ<|Dd aO<|Dd aO<|Zz<|Sq<|Sr<|Dd aD<|Dd (by exact HK rfl CY rfl)<|Zz ?_;refine Cn ?_ ?_<;>intro hc1
  ·exact Sr<|Dd aO<|Zz<|aC<|Rt<|Qq
  cases hc1
 | _ =>
  simp only [h] at hA;refine Bd aI4 rfl aHy<|Sr<|Dd aO<|Zz<|Sr<|Dd aD<|Dd (by exact aA rfl rfl JC rfl (hA _))<|Dd aD<|Dd eZ<|Dd eZ<|Dd aO<|Dd aO<|Zz<|Sq<|Sr<|Dd aD<|Dd (by exact HK rfl CY rfl)<|Zz ?_;refine Cn ?_ ?_<;>intro hc1
  ·exact Sr<|Dd aO<|Zz<|aC<|Rt<|Qq
  cases hc1
theorem C8:∀ (l:List UInt8) (p:List UInt8×Nat),kP l=some p→p.1.length≤l.length
 | [],p,h=>by cases h
 | [c],p,h=>by
  rw [kP] at h
  split at h
  ·cases h;exact aJI _
  cases h
 | c :: e :: r, p, h => by
  rw [kP] at h
  split at h
  ·cases h;exact aJI _
  split at h
  ·cases h
  split at h
  ·cases hg:nA e with
   | none=>rw [hg] at h;cases h
   | some b =>
    rw [hg] at h;cases hu:kP r with
    | none=>rw [hu] at h;cases h
    | some q =>
     rw [hu] at h;cases h;have:=C8 r q hu;show q.1.length+1≤r.length+1+1;omega
  cases hu:kP (e::r)with
  | none=>rw [hu] at h;cases h
  | some q =>
   rw [hu] at h;cases h;have:=C8 (e::r) q hu;show q.1.length+1≤r.length+1+1;rw [aIt] at this;omega
theorem fD (s:ByteArray) (i j:Nat):(s.extract i j).size≤s.size:=by rw [← bC,kV,aJF,aJG,bC];omega
theorem VQ (s:ByteArray):(sC s).1.size≤s.size:=by
 rw [sC];cases h:kP (s.data.toList.drop 1)with
 | none=>exact aJI _
 | some p =>
  have:=C8 _ _ h;rw [aJG,bC] at this;show (⟨p.1.toArray⟩:ByteArray).size≤_;rw [← bC];show p.1.length≤_;omega
theorem RT {s:ByteArray} {i:Nat} {f:GFound} {j:Nat} (h:eF s i=(some f,j)):f.text.size≤s.size:=by
 rw [eF] at h
 split at h
 ·cases h
 split at h
 ·cases h
 split at h
 ·cases h;exact fD _ _ _
 split at h
 ·cases h;exact fD _ _ _
 split at h
 ·cases h;rw [xS]
  split
  ·have h1:=VQ (s.extract i s.size);have h2:=fD s i s.size;show (sC (s.extract i s.size)).1.size≤_;omega
  exact aJI _
 split at h
 ·cases h;exact fD _ _ _
 cases h;exact aJI _
theorem zX (s:ByteArray):∀ (n i:Nat) (f:GFound),f∈iH s n i→f.text.size≤s.size
 | 0,_,_,h=>by cases h
 | n+1,i,f,h=>by
  rw [iH] at h
  split at h
  ·split at h
   ·exact zX s n _ f h
   rename_i g j hg;rcases aJD.1 h with rfl|h
   ·exact RT hg
   split at h
   ·exact zX s n _ f h
   cases h
  cases h
theorem O2:∀ (ds acc:List GFound) (f:GFound),f∈(iN acc ds).1→f∈acc∨f∈ds
 | [],acc,f,h=>.inl h
 | d::ds,acc,f,h=>by
  rw [iN] at h
  split at h
  ·cases h
  split at h
  ·cases h
  rcases O2 ds _ f h with h|h
  ·rcases List.mem_append.1 h with h|h
   ·exact .inl h
   rw [aIu] at h;subst h;exact .inr List.mem_cons_self
  exact .inr (List.mem_cons_of_mem _ h)
theorem yT (s:ByteArray) (f:GFound) (h:f∈(eP s).1):f.text.size≤s.size:=by
 rw [eP] at h
 split at h
 ·cases h
 rcases O2 _ _ f h with h|h
 ·cases h
 exact zX s _ _ f h
theorem PH {T:List GFound} {n:Nat} (h:∀ f∈T,f.text.size≤n):∀ f∈pV T,f.text.size≤n:=fun f hf=>by
 rw [pV] at hf;rcases List.mem_append.1 hf with h1|h1
 ·exact h f h1
 rw [(List.mem_replicate.1 h1).2];exact aJI _
theorem KK:∀ (T:List GFound) (n:Nat),(∀ f∈T,f.text.size≤n)→(mP T).length≤T.length∧∀ t∈mP T,t.key.size≤n∧t.val.size≤n
 | [],n,_=>by simp [mP]
 | [a],n,_=>by simp [mP]
 | [a,b],n,_=>by simp [mP]
 | a::b::c::r,n,h=>by
  obtain ⟨i1,i2⟩:=KK r n fun f hf=>h f (by simp [hf]);rw [mP];refine⟨by simp only [aIt];omega,fun t ht=>?_⟩;rcases aJD.1 ht with rfl|ht
  ·exact⟨h a (by simp),h c (by simp)⟩
  exact i2 t ht
theorem aAS (T:List GFound):(pV T).length≤T.length+4:=by rw [pV,aIs,List.length_replicate];omega
theorem aAD {T:List GFound} {n:Nat} (h:∀ f∈T,f.text.size≤n) (hn:n < 4611686018427387904) (hl:T.length < 549755813888):DO (k9 T):=by
 have hp:=PH h;have hpl:=aAS T;have hg:∀ i,((pV T).getD i AM).text.size≤n:=fun i=>by
  rw [List.getD_eq_getElem?_getD];cases e:(pV T)[i]? with
  | none=>exact aJI _
  | some f=>exact hp f (aJB e)
 have ht:∀ k,rW (mP ((pV T).drop k)):=fun k=>by
  obtain ⟨a,b⟩:=KK ((pV T).drop k) n fun f hf=>hp f (List.mem_of_mem_drop hf);rw [aJG] at a;exact⟨by omega,fun t htt=>by have:=b t htt;omega⟩
 rw [k9]
 split
 ·exact⟨Nat.lt_of_le_of_lt (hg 1) hn,ht _,by show 0 < _;omega,fun s hs=>by cases hs⟩
 split
 ·exact⟨by decide,⟨by decide,fun t h=>by cases h⟩,by decide,fun s hs=>by cases hs⟩
 refine⟨Nat.lt_of_le_of_lt (hg 1) hn,ht _,?_,fun s hs=>?_⟩
 ·show (List.map _ _).length < _;rw [aIr,aJG,aJF];omega
 obtain ⟨f,hf,rfl⟩:=List.mem_map.1 hs;have:=hp f (List.mem_of_mem_take (List.mem_of_mem_drop hf));omega
theorem mY (c:UInt8):∀ {l w:List UInt8},w∈dO c l→w.length≤l.length
 | [],w,h=>by
  rw [dO,aIu] at h;rw [h];exact aIx _
 | b::l,w,h=>by
  have hp:=m0 c l;rw [dO] at h;cases e:dO c l with
  | nil=>rw [e] at hp;exact absurd hp (Nat.lt_irrefl 0)
  | cons x r =>
   have ih:∀ y∈x::r,y.length≤l.length:=fun y hy=>mY c (by rw [e];exact hy);rw [e] at h;rw [aIt]
   split at h
   ·rcases aJD.1 h with rfl|h
    ·exact aJI _
    exact Nat.le_succ_of_le (ih w h)
   rcases aJD.1 h with rfl|h
   ·exact Nat.succ_le_succ (ih _ List.mem_cons_self)
   exact Nat.le_succ_of_le (ih w (List.mem_cons_of_mem _ h))
theorem K7 {s:ByteArray} (hs:s.size < 1099511627776):DO (k9 (eP s).1):=aAD (fun f hf=>yT s f hf) (by omega) (rA s hs)
theorem AX (l:List ByteArray):∀ r∈l.map encStr,r.length=1:=fun r hr=>by
 obtain ⟨s,_,rfl⟩:=List.mem_map.1 hr;rfl
theorem tI {p q:Prop} [Decidable p] [Decidable q] (h:(decide p&&decide q)=true):p∧q:=by simpa using h
theorem tJ {p q:Prop} [Decidable p] [Decidable q] (h:(decide p&&decide q)=false):¬ (p∧q):=by intro h2;simp [h2] at h
theorem aCd {H:aE} {id:Nat} {o:Ob} (h:H.get id=some o):Sub [(id,o)] H:=fun j x hx=>by
 by_cases e:j=id
 ·subst e;rw [get_cons_same] at hx;cases hx;exact h
 rw [get_cons_other _ _ e] at hx;cases hx
theorem aA1 {id j:Nat} {a b:Ob} (h:(aE.get [(id,a)] j).isSome=true):(aE.get [(id,b)] j).isSome=true:=by
 by_cases e:j=id
 ·subst e;rw [get_cons_same];rfl
 rw [get_cons_other _ _ e] at h;cases h
theorem SK (s:ByteArray) (H:aE) (hs:s.size < 1099511627776):aH Tryz.prog 81 [sv s] H (fun r H'=>r=.tup [av (aG (pQ s).1),iv (pQ s).2]∧H'=H):=by
 refine Pu ?_;have hlen:=rA s hs;have hsz:=PH (yT s);have hoo:=K7 hs;rw [pQ];refine Bd func81 rfl ntmps81<|Sr<|Dd (by exact bJ (id:=2) rfl qU rfl rfl)<|Dd aO<|Zz<|Sq<|Sr<|Dd aD<|Dd (jJ underlying9)<|Dd kC<|Zz ?_;refine Cn ?_ ?_<;>intro hc1
 ·have h2:20000 < s.size:=by have:=aIn hc1;omega
  rw [aIq h2];refine Sr<|Dd (jG CO)<|Uu (fP sizeOf49)<|Dd aO<|Zz<|aC ?_;refine iD (H':=[]) (.inr rfl) rfl (nZ aY sizeOf49) (aN rfl) (Fin.wk (r:=.tup [av (aG zObj),iv 2]) (by simp) trivial trivial) ?_;exact Qq
 have h2:¬ 20000 < s.size:=by have:=aIo hc1;omega
 rw [aIp h2];by_cases he:(eP s).2.1=0
 ·have hlo:=fun H h=>aF8 s H hs he h;obtain ⟨T,hT⟩:∃ T,T=(eP s).1:=⟨_,rfl⟩;rw [← hT] at hlen hsz hoo ⊢;simp only [← hT] at hlo;have hrd:∀ H,H.get 905=some (OA T)→aH Tryz.prog 133 [.osl 905 T.length 0 T.length] H (fun r H'=>r=av (aG (k9 T))∧H'=[(905,OA (pV T))]++H):=fun H hH =>
   aH.frame (aFL T hlen (fun f hf=>Nat.lt_of_le_of_lt (hsz f hf) hs)) (aCd hH) (dF.ofL ⟨cX _ _,trivial⟩) (by intro a ha;rw [aIu] at ha;subst ha;simp [aE.get]) (fun id h=>.inl (aA1 h))
  obtain ⟨o,ho⟩:∃ o,o=k9 T:=⟨_,rfl⟩;rw [← ho] at hrd hoo ⊢;refine aB<|Sr<|Dd aD<|Dd (by exact aA rfl rfl aI9 rfl (hlo _ rfl))<|Dd aD<|Dd eZ<|Dd eZ<|Dd eZ<|Dd aO<|Dd aO<|Dd aO<|Zz<|Sq<|Sr<|Dd aD<|Dd cI<|Zz ?_;refine Cn ?_ ?_<;>intro hc2
  ·refine Sr<|Dd aD<|Dd (by exact aA rfl rfl call133 rfl (hrd _ rfl))<|Dd (by exact bJ (id:=7) rfl qU rfl rfl)<|Uu (fP sizeOf49)<|Zz<|Sr<|Dd (qZ aY sizeOf49)<|Dd (by exact aA rfl rfl call67 rfl (LC o _ hoo))<|Dd aD<|Dd eZ<|Dd eZ<|Dd aO<|Dd aO<|Zz<|Sq ?_;refine bD (t:=35) (n:=8) (X:=decide ((eB o).2=0)&&decide ((eB o).1=s)) ?_ ?_
   ·all_goals refine Dd aD ?_
    all_goals refine Dd cI<|Dm ?_
    all_goals refine Sp 31 (fun h31=>?_) fun h31=>?_
    all_goals try contradiction
    all_goals first|refine Fo<|Fo<|Fo ?_|refine On aD<|On aD<|On sQ ?_
    all_goals refine Dd dI<|Zz ?_
    all_goals(exact⟨⟨_,rfl,by(simp_all;done)⟩,rfl,rfl,rfl⟩)
   refine Cn ?_ ?_<;>intro hc3
   ·have hq:=tI hc3;rw [aIq ⟨he,Prod.ext hq.2 hq.1⟩];refine Sr<|Dd (qZ aY sizeOf49)<|Uu (fP sizeOf49)<|Dd aO<|Zz<|aC ?_;refine iD (H':=[]) (.inr rfl) rfl (nZ aY sizeOf49) (aN rfl) (Fin.wk (r:=.tup [av (aG o),iv 0]) (by simp) trivial trivial) ?_;exact Qq
   have hq:=tJ hc3;rw [aIp (fun h=>hq ⟨congrArg Prod.snd h.2,congrArg Prod.fst h.2⟩)];refine aB<|Sr<|Dd (jG CO)<|Uu (fP sizeOf49)<|Dd aO<|Zz<|aC ?_;refine iD (H':=[]) (.inr rfl) rfl (nZ aY sizeOf49) (aN rfl) (Fin.wk (r:=.tup [av (aG zObj),iv 5]) (by simp) trivial trivial) ?_;exact Qq
  exact absurd rfl (aIo hc2)
 refine aB<|Sr<|Dd aD<|Dd (by exact aA rfl rfl aI9 rfl (aE5 s _ hs))<|Dd aD<|Dd eZ<|Dd eZ<|Dd eZ<|Dd aO<|Dd aO<|Dd aO<|Zz<|Sq<|Sr<|Dd aD<|Dd cI<|Zz ?_;refine Cn ?_ ?_<;>intro hc4
 ·exact absurd (aIn hc4) he
 refine aB<|Sr<|Dd (jG CO)<|Uu (fP sizeOf49)<|Dd aO<|Zz<|aC ?_;rw [aIp (fun h=>he h.1)];refine iD (H':=[]) (.inr rfl) rfl (nZ aY sizeOf49) (aN rfl) (Fin.wk (r:=.tup [av (aG zObj),iv 5]) (by simp) trivial trivial) ?_;exact Qq
theorem aCx (s:ByteArray) (H:aE) (hs:s.size≤20000):aH Tryz.prog 38 [sv s] H (fun r H'=>r=av (aJ (i8 s.data.toList))∧H'=H):=by
 refine Pu ?_;have hsz:=bC s;obtain ⟨W,hW⟩:∃ W,W=dO 32 s.data.toList:=⟨_,rfl⟩;obtain ⟨w0,hw0⟩:∃ w,w=W.headD []:=⟨_,rfl⟩;obtain ⟨rs,hrs⟩:∃ r,r=s.data.toList.drop (w0.length+1):=⟨_,rfl⟩;have hrl:rs.length≤s.size:=by rw [hrs,aJG,hsz];omega
 have hg:i8 s.data.toList=xG W w0 rs:=by rw [i8,← hW,← hw0,← hrs]
 have hC:∃ b,∀ H,aH Tryz.prog 80 [sv s,sv sSp] H (fun r H'=>r=.tup [sv (ofL w0),sv (ofL rs),bv b]∧H'=H):=by
  obtain ⟨b,hb⟩:=aDz s;rw [← hW,← hw0,← hrs] at hb;exact⟨b,fun H=>by rw [← hb];exact aGx s H (by omega)⟩
 obtain ⟨b,hC⟩:=hC;have hSl:(cN s).length=W.length:=by rw [V1,hW]
 have hml:((cN s).map encStr).length=W.length:=by rw [aIr,hSl]
 have hSg:∀ i,i < W.length→((cN s).map encStr)[i]?=some [.str (ofL (W.getD i []))]:=fun i hi=>by
  rw [hW];exact bZ (f:=encStr) (V2 s i (by rw [hSl];exact hi))
 have hWs:∀ i,(ofL (W.getD i [])).size≤s.size:=fun i=>by
  rw [dL,List.getD_eq_getElem?_getD];cases e:W[i]? with
  | none=>exact aJI _
  | some w =>
   have:=mY 32 (l:=s.data.toList) (w:=w) (by rw [← hW];exact aJB e);rw [hsz] at this;exact this
 have hWl:W.length≤s.size+1:=by
  rw [hW,rS];have:=List.count_le_length (l:=s.data.toList) (a:=32);omega
 have hjl:((cN s).drop 3).length≤20001:=by rw [aJG,hSl];omega
 have hjs:dH ((cN s).drop 3)≤20000*((cN s).drop 3).length:=lQ (fun w hw=>by
  have hw2:=List.mem_of_mem_drop hw;rw [cN,← hW] at hw2;obtain ⟨x,hx,rfl⟩:=List.mem_map.1 hw2;have:=mY 32 (l:=s.data.toList) (w:=x) (by rw [← hW];exact hx);show (ofL x).size≤_;rw [dL];omega)
 rw [hg,xG];refine Bd func38 rfl ntmps38<|Sr<|Dd (by exact bJ (id:=2) rfl BA rfl rfl)<|Zz<|Sr<|Dd aD<|Dd (by exact aA rfl rfl call79 rfl (V3 s _ (by omega)))<|Dd aO<|Zz<|Sr<|Dd aD<|Dd (by exact aA rfl rfl call80 rfl (hC _))<|Dd aD<|Dd eZ<|Dd eZ<|Dd eZ<|Dd aO<|Dd aO<|Dd aO<|Zz<|Sq<|aF<|Sr<|Dd aD<|Dd sQ<|Da ?_;refine Cn ?_ ?_<;>intro hc1
 ·have h1:w0=wPut:=oG.1 (aIn hc1);rw [aIq h1];refine Sr<|Dd aD<|Dd (by exact aA rfl rfl call81 rfl (SK (ofL rs) _ (by rw [dL];omega)))<|Dd aD<|Dd eZ<|Dd eZ<|Dd (by exact bJ (id:=7) rfl qU rfl rfl)<|Uu (fP sizeOf49)<|Dd aO<|Zz<|Sr<|Dd (qZ aY sizeOf49)<|Dd (jG pI)<|Uu (fP aL)<|Zz<|aC ?_;refine cZ (H':=[]) (.inr rfl) rfl (nZ bA aL) (Fin.wk (r:=av (aJ ⟨1,aP,aP,aP,0,0,aP,aP,[],(pQ (ofL rs)).1⟩)) (by simp) trivial trivial) ?_;exact Qq
 have h1:¬ w0=wPut:=fun e=>aIo hc1 (oG.2 e);rw [aIp h1];refine Sq ?_;refine bD (t:=30) (n:=9) (X:=decide (ofL w0=⟨#[109,111,118,101]⟩)&&decide ((((cN s).map encStr).length:Int)=4)) ?_ ?_
 ·all_goals refine Dd aD ?_
  all_goals refine Dd sQ<|Dm ?_
  all_goals refine Sp 33 (fun h33=>?_) fun h33=>?_
  all_goals try contradiction
  all_goals first|refine Fo<|Fo<|Fo ?_|refine On aD<|On (fK aK)<|On cI ?_
  all_goals refine Dd dI<|Da ?_
  all_goals(exact⟨⟨_,rfl,by(simp_all;done)⟩,rfl,rfl,rfl⟩)
 refine Cn ?_ ?_<;>intro hc2
 ·have h2:ofL w0=ofL BD∧_:=tI hc2;rw [oG,hml] at h2;rw [aIq ⟨h2.1,by omega⟩];have i1:=hSg 1 (by omega);have i2:=hSg 2 (by omega);have i3:=hSg 3 (by omega);have s2:=hWs 2;have s3:=hWs 3;refine Sq<|aU follows<|Cr [] (fun _ _=>aD)<|Cr [] (fun _ _=>(e8 cC))<|Cr [] (fun _ _=>(fM isAgg9))<|Cr [] (fun _ _=>aD)<|Cr [] (fun _ _=>(e8 cC))<|Cr [] (fun _ _=>(fM isAgg9))<|Cr [] (fun H1 hH=>by exact aA rfl rfl call82 rfl (PS (ofL (W.getD 2 [])) _ (by omega)))<|Cr [] (fun _ _=>aD)<|Cr [] (fun _ _=>(e8 cC))<|Cr [] (fun _ _=>(fM isAgg9))<|Cr [] (fun H1 hH=>by exact aA rfl rfl call82 rfl (PS (ofL (W.getD 3 [])) _ (by omega)))<|Cr [] (fun _ _=>(jG J9))<|Cr [] (fun _ _=>(jG pI))<|Cp [2] (fun H1 hH=>by exact cV rfl aL rfl rfl rfl rfl ((hH _ rfl).trans rfl) rfl rfl rfl)<|bM<|Kr<|aC ?_;refine cZ (H':=[]) (.inr rfl) rfl (nZ bA aL) (Fin.wk (r:=av (aJ ⟨2,ofL (W.getD 1 []),aP,aP,J0 (W.getD 2 []),J0 (W.getD 3 []),aP,aP,[],zObj⟩)) (by simp) trivial trivial) ?_;exact Qq
 have h2:¬ (ofL w0=ofL BD∧_):=tJ hc2;rw [oG,hml] at h2;rw [aIp (fun h=>h2 ⟨h.1,by omega⟩)];refine Sq ?_;refine bD (t:=51) (n:=9) (X:=decide (ofL w0=⟨#[116,97,103]⟩)&&decide ((3:Int) < (((cN s).map encStr).length:Int))) ?_ ?_
 ·all_goals refine Dd aD ?_
  all_goals refine Dd sQ<|Dm ?_
  all_goals refine Sp 54 (fun h54=>?_) fun h54=>?_
  all_goals try contradiction
  all_goals first|refine Fo<|Fo<|Fo ?_|refine On aD<|On (fK aK)<|On kC ?_
  all_goals refine Dd dI<|Da ?_
  all_goals(exact⟨⟨_,rfl,by(simp_all;done)⟩,rfl,rfl,rfl⟩)
 refine Cn ?_ ?_<;>intro hc3
 ·have h3:ofL w0=ofL uG∧_:=tI hc3;rw [oG,hml] at h3;rw [aIq ⟨h3.1,by omega⟩];have i1:=hSg 1 (by omega);have i2:=hSg 2 (by omega);have hJe:bs ((cN s).drop 3)=W.drop 3:=by
   rw [bs,cN,← hW,List.map_drop,List.map_map];congr 1;exact(List.map_congr_left fun x _=>eI x).trans (List.map_id _)
  have hj:∀ H,aH Tryz.prog 71 [.pv (cS ((cN s).drop 3)),sv ⟨#[32]⟩] H (fun x H'=>x=sv (ofL (bS [32] (W.drop 3)))∧H'=H):=fun H=>by
   have:=rB ((cN s).drop 3) ⟨#[32]⟩ H (by decide) (by show 1*_+_+_ < _;omega);rw [hJe] at this;exact this
  have hJs:(ofL (bS [32] (W.drop 3))).size < 1099511627776:=by
   have:=fC ((cN s).drop 3);rw [hJe] at this;rw [dL];omega
  obtain ⟨J,hJ⟩:∃ J,J=ofL (bS [32] (W.drop 3)):=⟨_,rfl⟩;rw [← hJ] at hJs ⊢;simp only [← hJ] at hj;have htl:((eP J).1.map encTok).length=(eP J).1.length:=aIr _;refine Sr<|Dd aD<|Dd (by exact iY (l:=3) (h:=((cN s).map encStr).length) (rows':=((cN s).drop 3).map encStr) rfl cC rfl (AX _) rfl rfl (by omega) (aIx _) (by rw [List.take_length];exact List.map_drop.symm))<|Dd (by exact aA rfl rfl pL rfl (hj _))<|Dd (by exact aA rfl rfl aI9 rfl (aE5 J _ hJs))<|Dd aD<|Dd eZ<|Dd eZ<|Dd eZ<|Dd aO<|Dd aO<|Dd aO<|Zz<|Sr<|Dd aD<|Dd (fK cT)<|Dd cI<|Zz ?_;refine Cn ?_ ?_<;>intro hc4
  ·have h4:(eP J).1.length=1:=by have:=aIn hc4;omega
   obtain ⟨f,hf⟩:=List.length_eq_one_iff.1 h4;rw [hf];have hf0:([f].map encTok)[0]?=some [.int .i64 f.kind,.str f.text,.int .i64 f.pos]:=rfl;refine Sq<|aU follows<|Cr [] (fun _ _=>aD)<|Cr [] (fun _ _=>(e8 cC))<|Cr [] (fun _ _=>(fM isAgg9))<|Cr [] (fun _ _=>aD)<|Cr [] (fun _ _=>(e8 cC))<|Cr [] (fun _ _=>(fM isAgg9))<|Cr [] (fun _ _=>aD)<|Cr [] (fun _ _=>(e8 fZ))<|Cr [] (fun _ _=>(wB f7))<|Cr [] (fun _ _=>(fM isAgg9))<|Cr [] (fun _ _=>(jG pI))<|Cp [2] (fun H1 hH=>by exact cV rfl aL rfl rfl rfl rfl ((hH _ rfl).trans rfl) rfl rfl rfl)<|bM<|Kr<|aC ?_;refine cZ (H':=[]) (.inr rfl) rfl (nZ bA aL) (Fin.wk (r:=av (aJ ⟨3,ofL (W.getD 1 []),aP,aP,0,0,ofL (W.getD 2 []),f.text,[],zObj⟩)) (by simp) trivial trivial) ?_;exact Qq
  have h4:(eP J).1.length≠1:=by have:=aIo hc4;omega
  split
  ·next f hf=>rw [hf] at h4;exact absurd rfl h4
  refine aB<|Sr<|Dd (jG pI)<|Uu (fP aL)<|Zz<|aC ?_;refine cZ (H':=[]) (.inr rfl) rfl (nZ bA aL) (Fin.wk (r:=av (aJ E5)) (by simp) trivial trivial) ?_;exact Qq
 have h3:¬ (ofL w0=ofL uG∧_):=tJ hc3;rw [oG,hml] at h3;rw [aIp (fun h=>h3 ⟨h.1,by omega⟩)];refine Sq ?_;refine bD (t:=81) (n:=9) (X:=decide (ofL w0=⟨#[114,101,102,115]⟩)&&decide ((1:Int) < (((cN s).map encStr).length:Int))) ?_ ?_
 ·all_goals refine Dd aD ?_
  all_goals refine Dd sQ<|Dm ?_
  all_goals refine Sp 84 (fun h84=>?_) fun h84=>?_
  all_goals try contradiction
  all_goals first|refine Fo<|Fo<|Fo ?_|refine On aD<|On (fK aK)<|On kC ?_
  all_goals refine Dd dI<|Da ?_
  all_goals(exact⟨⟨_,rfl,by(simp_all;done)⟩,rfl,rfl,rfl⟩)
 refine Cn ?_ ?_<;>intro hc5
 ·have h4:ofL w0=ofL BC∧_:=tI hc5;rw [oG,hml] at h4;rw [aIq ⟨h4.1,by omega⟩];have i1:=hSg 1 (by omega);refine Sq<|aU follows<|Cr [] (fun _ _=>aD)<|Cr [] (fun _ _=>(e8 cC))<|Cr [] (fun _ _=>(fM isAgg9))<|Cr [] (fun _ _=>aD)<|Cr [] (fun H1 hH=>by exact iY (l:=2) (h:=((cN s).map encStr).length) (rows':=((W.drop 2).map ofL).map encStr) rfl cC rfl (AX _) rfl rfl (by omega) (aIx _) (by rw [List.take_length,cN,← hW,List.map_drop,List.map_drop];rfl))<|Cr [] (fun _ _=>(jG pI))<|Cp [2] (fun H1 hH=>by exact cV rfl aL rfl rfl rfl rfl ((hH _ rfl).trans rfl) rfl rfl rfl)<|bM<|Kr<|aC ?_;refine cZ (H':=[]) (.inr rfl) rfl (nZ bA aL) (Fin.wk (r:=av (aJ ⟨4,ofL (W.getD 1 []),aP,aP,0,0,aP,aP,(W.drop 2).map ofL,zObj⟩)) (by simp) trivial trivial) ?_;exact Qq
 have h4:¬ (ofL w0=ofL BC∧_):=tJ hc5;rw [oG,hml] at h4;rw [aIp (fun h=>h4 ⟨h.1,by omega⟩)];refine Sq ?_;refine bD (t:=95) (n:=9) (X:=decide (ofL w0=⟨#[100,114,111,112]⟩)&&decide ((((cN s).map encStr).length:Int)=2)) ?_ ?_
 ·all_goals refine Dd aD ?_
  all_goals refine Dd sQ<|Dm ?_
  all_goals refine Sp 98 (fun h98=>?_) fun h98=>?_
  all_goals try contradiction
  all_goals first|refine Fo<|Fo<|Fo ?_|refine On aD<|On (fK aK)<|On cI ?_
  all_goals refine Dd dI<|Da ?_
  all_goals(exact⟨⟨_,rfl,by(simp_all;done)⟩,rfl,rfl,rfl⟩)
 refine Cn ?_ ?_<;>intro hc6
 ·have h5:ofL w0=ofL BF∧_:=tI hc6;rw [oG,hml] at h5;rw [aIq ⟨h5.1,by omega⟩];have i1:=hSg 1 (by omega);refine Sr<|Dd aD<|Dd (e8 cC)<|Dd (fM isAgg9)<|Dd (jG pI)<|Uu (fP aL)<|Zz<|aC ?_;refine cZ (H':=[]) (.inr rfl) rfl (nZ bA aL) (Fin.wk (r:=av (aJ ⟨5,ofL (W.getD 1 []),aP,aP,0,0,aP,aP,[],zObj⟩)) (by simp) trivial trivial) ?_;exact Qq
 have h5:¬ (ofL w0=ofL BF∧_):=tJ hc6;rw [oG,hml] at h5;rw [aIp (fun h=>h5 ⟨h.1,by omega⟩)];refine Sq ?_;refine bD (t:=107) (n:=9) (X:=decide (ofL w0=⟨#[115,112,108,105,116]⟩)&&decide ((((cN s).map encStr).length:Int)=4)) ?_ ?_
 ·all_goals refine Dd aD ?_
  all_goals refine Dd sQ<|Dm ?_
  all_goals refine Sp 110 (fun h110=>?_) fun h110=>?_
  all_goals try contradiction
  all_goals first|refine Fo<|Fo<|Fo ?_|refine On aD<|On (fK aK)<|On cI ?_
  all_goals refine Dd dI<|Da ?_
  all_goals(exact⟨⟨_,rfl,by(simp_all;done)⟩,rfl,rfl,rfl⟩)
 refine Cn ?_ ?_<;>intro hc7
 ·have h6:ofL w0=ofL vD∧_:=tI hc7;rw [oG,hml] at h6;rw [aIq ⟨h6.1,by omega⟩];have i1:=hSg 1 (by omega);have i2:=hSg 2 (by omega);have i3:=hSg 3 (by omega);refine Sq<|aU follows<|Cr [] (fun _ _=>aD)<|Cr [] (fun _ _=>(e8 cC))<|Cr [] (fun _ _=>(fM isAgg9))<|Cr [] (fun _ _=>aD)<|Cr [] (fun _ _=>(e8 cC))<|Cr [] (fun _ _=>(fM isAgg9))<|Cr [] (fun _ _=>aD)<|Cr [] (fun _ _=>(e8 cC))<|Cr [] (fun _ _=>(fM isAgg9))<|Cr [] (fun _ _=>(jG pI))<|Cp [2] (fun H1 hH=>by exact cV rfl aL rfl rfl rfl rfl ((hH _ rfl).trans rfl) rfl rfl rfl)<|bM<|Kr<|aC ?_;refine cZ (H':=[]) (.inr rfl) rfl (nZ bA aL) (Fin.wk (r:=av (aJ ⟨6,ofL (W.getD 1 []),ofL (W.getD 3 []),ofL (W.getD 2 []),0,0,aP,aP,[],zObj⟩)) (by simp) trivial trivial) ?_;exact Qq
 have h6:¬ (ofL w0=ofL vD∧_):=tJ hc7;rw [oG,hml] at h6;rw [aIp (fun h=>h6 ⟨h.1,by omega⟩)];refine Sq ?_;refine bD (t:=125) (n:=9) (X:=decide (ofL w0=⟨#[106,111,105,110]⟩)&&decide ((((cN s).map encStr).length:Int)=3)) ?_ ?_
 ·all_goals refine Dd aD ?_
  all_goals refine Dd sQ<|Dm ?_
  all_goals refine Sp 128 (fun h128=>?_) fun h128=>?_
  all_goals try contradiction
  all_goals first|refine Fo<|Fo<|Fo ?_|refine On aD<|On (fK aK)<|On cI ?_
  all_goals refine Dd dI<|Da ?_
  all_goals(exact⟨⟨_,rfl,by(simp_all;done)⟩,rfl,rfl,rfl⟩)
 refine Cn ?_ ?_<;>intro hc8
 ·have h7:ofL w0=ofL BE∧_:=tI hc8;rw [oG,hml] at h7;rw [aIq ⟨h7.1,by omega⟩];have i1:=hSg 1 (by omega);have i2:=hSg 2 (by omega);refine Sq<|aU follows<|Cr [] (fun _ _=>aD)<|Cr [] (fun _ _=>(e8 cC))<|Cr [] (fun _ _=>(fM isAgg9))<|Cr [] (fun _ _=>aD)<|Cr [] (fun _ _=>(e8 cC))<|Cr [] (fun _ _=>(fM isAgg9))<|Cr [] (fun _ _=>(jG pI))<|Cp [2] (fun H1 hH=>by exact cV rfl aL rfl rfl rfl rfl ((hH _ rfl).trans rfl) rfl rfl rfl)<|bM<|Kr<|aC ?_;refine cZ (H':=[]) (.inr rfl) rfl (nZ bA aL) (Fin.wk (r:=av (aJ ⟨7,ofL (W.getD 1 []),ofL (W.getD 2 []),aP,0,0,aP,aP,[],zObj⟩)) (by simp) trivial trivial) ?_;exact Qq
 have h7:¬ (ofL w0=ofL BE∧_):=tJ hc8;rw [oG,hml] at h7;rw [aIp (fun h=>h7 ⟨h.1,by omega⟩)];refine aB<|Sr<|Dd (jG pI)<|Uu (fP aL)<|Zz<|aC ?_;refine cZ (H':=[]) (.inr rfl) rfl (nZ bA aL) (Fin.wk (r:=av (aJ E5)) (by simp) trivial trivial) ?_;exact Qq
end Go.Proofs.YtlnfjkdacimblaaGreatDoor
