/-
  Parts of the proof: rules of an abstract program logic, contracts of functions, plain laws. Conditions: each theorem's own.
-/
import Derived.Test.YtmdicgjnmfolfaaGreatDoorKR5M4
import Derived.Laws.Bits64b
import Derived.Lib.AppendStr
import Derived.Lib.UnsafeStr
import Derived.Lib.MakeNoZero
import Derived.Lib.Builder
import Derived.Lib.Overlaps
import Derived.WalkSpells
import Derived.Lib.SliceRun
set_option linter.unusedVariables false
set_option linter.unusedSimpArgs false
set_option maxRecDepth 100000
set_option maxHeartbeats 8000000
namespace Go.Proofs
open Tryz
theorem MY:type_of% call147:=call147
theorem aCY:type_of% func111:=func111
theorem aCW:type_of% func147:=func147
theorem zJ:type_of% isAgg135:=isAgg135
theorem WT:type_of% ntmps111:=ntmps111
theorem WR:type_of% ntmps147:=ntmps147
theorem fE:type_of% underlying135:=underlying135
theorem tZ:type_of% underlying174:=underlying174
theorem DI:type_of% underlying201:=underlying201
end Go.Proofs
namespace Go.Proofs.YtmdicgjnmfolfaaGreatDoor
open Go.Proofs.Tryz
open Go.Abs
variable{l:List UInt8}{st i n a:Nat}{H:aB}
def rI(l:List UInt8):Nat:=l.foldl (fun n b=>n*256+b.toNat) 0
def jJ(l:List UInt8):List UInt8:=l.take 8++List.replicate (8 - l.length) 0
theorem UF(l:List UInt8):(jJ l).length=8:=by rw[jJ,aNw,aOJ,List.length_replicate];omega
theorem QN(l:List UInt8)(b:UInt8):rI (l++[b])=rI l*256+b.toNat:=by rw[rI,List.foldl_append];rfl
theorem aAh(l:List UInt8):rI l<256 ^ l.length:=by
 suffices h:∀(l:List UInt8) (n:Nat),l.foldl (fun n b=>n*256+b.toNat) n<(n+1)*256 ^ l.length by
  have:=h l 0;rw[aON,Nat.one_mul]at this;exact this
 intro l
 induction l with
 |nil=>intro n;simp
 |cons b r ih =>
  intro n;have h1:=ih (n*256+b.toNat);have h2:b.toNat<256:=b.toNat_lt;refine Nat.lt_of_lt_of_le h1 ?_;rw[aNx,Nat.pow_succ,Nat.mul_comm (256 ^ r.length) 256,<-Nat.mul_assoc];exact Nat.mul_le_mul_right _ (by omega)
theorem MW(h:l.length<=8):rI l<18446744073709551616:=by refine Nat.lt_of_lt_of_le (aAh l) ?_;exact Nat.le_trans (Nat.pow_le_pow_right (by decide) h) (by decide)
theorem WM(h:l.length<=7):rI l<72057594037927936:=by refine Nat.lt_of_lt_of_le (aAh l) ?_;exact Nat.le_trans (Nat.pow_le_pow_right (by decide) h) (by decide)
def MC:Nat->List UInt8->Nat
 |s,a::b::c::d::e::f::g::h::r=>MC (IE (s ^^^ rI [a,b,c,d,e,f,g,h])) r
 |s,l=>IE (s ^^^ rI (jJ l))
theorem P8(s:Nat)(h:8<=l.length):MC s l=MC (IE (s ^^^ rI (jJ (l.take 8)))) (l.drop 8):=by
 match l,h with
 |a::b::c::d::e::f::g::h::r,_=>rfl
theorem P9(s:Nat)(h:l.length<8):MC s l=IE (s ^^^ rI (jJ l)):=by
 match l,h with
 | [],_=>rfl
 | [a],_=>rfl
 | [a,b],_=>rfl
 | [a,b,c],_=>rfl
 | [a,b,c,d],_=>rfl
 | [a,b,c,d,e],_=>rfl
 | [a,b,c,d,e,f],_=>rfl
 | [a,b,c,d,e,f,g],_=>rfl
 |_::_::_::_::_::_::_::_::r,h=>simp only[aNx]at h;omega
def FN(st j:Nat):Nat:=st / 2 ^ (60 - 4*j) % 16
def tN(st:Nat):List UInt8:=(List.range 16).map fun j=>UInt8.ofNat (nM (FN st j)).toNat
def qZ(st i:Nat):List AV:=(List.range 16).map fun j=>.pv (.int .u8 (if j<i then nM (FN st j)else 0))
theorem xW(st i:Nat):(qZ st i).length=16:=by simp[qZ]
theorem KY{j:Nat}(h:j<16):(qZ st i)[j]?=some (.pv (.int .u8 (if j<i then nM (FN st j)else 0))):=by rw[qZ,aOP,List.getElem?_range h];rfl
theorem YC(h:i<16):(qZ st i).set i (.pv (.int .u8 (nM (FN st i))))=qZ st (i+1):=by
 apply List.ext_getElem?;intro j;by_cases hj:j<16
 ·rw[KY hj];by_cases e:i=j
  ·subst e;rw[List.getElem?_set_self (by rw[xW];exact h),aNu (Nat.lt_succ_self _)]
  rw[List.getElem?_set_ne e,KY hj];by_cases h1:j<i
  ·rw[aNu h1,aNu (by omega)]
  rw[aNt h1,aNt (by omega)]
 rw[List.getElem?_eq_none (by rw[List.length_set,xW];omega),List.getElem?_eq_none (by rw[xW];omega)]
theorem aDv:∀a∈qZ st i,Clo H a:=by intro a ha;obtain ⟨j,_,rfl⟩:=List.mem_map.1 ha;exact .pv _
theorem aFB:∀a∈iJ l,Clo H a:=by intro a ha;obtain ⟨j,_,rfl⟩:=List.mem_map.1 ha;exact .pv _
theorem G5{T:Nat}{l:List AV}(h:∀a∈l,Clo H a):∀r∈(bx n T l).rows,∀a∈r,Clo H a:=by intro r hr a ha;rw[bx,aNy]at hr;subst hr;exact h a ha
theorem xY(st j:Nat):FN st j<16:=Nat.mod_lt _ (by decide)
theorem aAW(h:n<16):0<=nM n/\nM n<256:=by
 unfold nM
 split<;>omega
theorem YD(st:Nat):qZ st 16=iJ (tN st):=by rw[qZ,iJ,tN,List.map_map];refine List.map_congr_left fun j hj=>?_;have hj':=List.mem_range.1 hj;have hb:=aAW (xY st j);simp only[Function.comp];rw[aNu hj',UInt8.toNat_ofNat'];have h2:(nM (FN st j)).toNat % 2 ^ 8=(nM (FN st j)).toNat:=Nat.mod_eq_of_lt (by omega);rw[h2,Int.toNat_of_nonneg hb.1]
def N5(n:Nat):Nat:=1181783497276652981 ^^^ n
def fA(s:ByteArray):ByteArray:=⟨(tN (MC (N5 s.size) s.data.toList)).toArray⟩
theorem aA5(h:n<18446744073709551616):N5 n<18446744073709551616:=zZ (by decide) h
theorem orN{b:Nat}(ha:a<72057594037927936)(hb:b<256):bits .or .u64 ((a*256:Nat):Int) (b:Int)=((a*256+b:Nat):Int):=by rw[bits_or_u64_nat _ _ (by omega) (by omega)];have h:=Nat.two_pow_add_eq_or_of_lt (i:=8) (b:=b) (by omega) a;rw[Nat.mul_comm]at h;rw[show a*256=a*2 ^ 8 from rfl,h]
theorem aMa(h:a<72057594037927936):IntKind.u64.wrap ((a:Int)*2 ^ ((8:Int)).toNat)=((a*256:Nat):Int):=by show IntKind.u64.wrap ((a:Int)*256)=_;rw[IntKind.wrap_u64];omega
theorem TG(h:n<18446744073709551616):IntKind.u64.wrap (n:Int)=(n:Int):=by rw[IntKind.wrap_u64];omega
theorem aCv(s:ByteArray)(st:Nat)(hst:st<18446744073709551616):aH Tryz.prog 103 [sv s,.ref 903 0 0 0] [(903,bx 1 122 [uv st])] (fun r H'=>r=.tup []/\H'=[(903,bx 1 122 [uv (IE (st ^^^ rI (jJ s.data.toList)))])]):=by
 have hp:(List.replicate 8 (AV.pv (.int .u8 0)))=iJ (List.replicate 8 0):=by rw[iJ,List.map_replicate];rfl
 have hm:min s.size 8<=8:=by omega
 have hsl:s.data.toList.length=s.size:=by simp
 have hcell:iJ (s.data.toList.take (min s.size 8))++(List.replicate 8 (AV.pv (.int .u8 0))).drop (min s.size 8)=iJ (jJ s.data.toList):=by
  rw[hp,iJ,iJ,<-List.map_drop,<-List.map_append,List.drop_replicate,iJ,jJ,hsl];congr 2
  ·by_cases h:s.size<=8
   ·rw[Nat.min_eq_left h,List.take_of_length_le (by omega),List.take_of_length_le (by omega)]
   rw[Nat.min_eq_right (by omega)]
  congr 1;omega
 refine Bd func103 rfl ntmps103<|Sr<|Dd (by exact bM (id:=3) rfl aKb rfl rfl)<|Zz<|Sq<|Rg ?_;refine FI (id:=3) rfl rfl rfl rfl underlying123 bV rfl rfl rfl ?_;refine aFI rfl rfl rfl (by decide) rfl rfl ?_;refine SR rfl rfl rfl rfl cJ bV rfl (by decide) rfl rfl ?_;refine Zz<|Sr<|Dd aM<|Zz<|Sq<|Sr<|Dd aG<|Zz<|aD ?_;refine bL (σ:=Nat) (fun i=>([(0,sv s),(1,.ref 903 0 0 0),(3,.ref 3 0 0 0),(4,uv (rI ((jJ s.data.toList).take i))),(9,iv (i:Int))],[(3,bx 8 123 (iJ (jJ s.data.toList))),(903,bx 1 122 [uv st])])) (fun i=>i<=8) (fun i=>8 - i) 0 (aOM _) ?_ ?_
 ·rw[<-hcell];refine cD.wk (Eb<|Ea<|Ea<|Eb<|Eb<|trivial) (Hc ?_<|Hb<|trivial) ⟨rfl,trivial⟩;rw[hcell];exact G5 aFB
 intro i hi;have hpl:=UF s.data.toList;have hti:((jJ s.data.toList).take i).length<=8:=by rw[aOJ];omega
 refine Sr<|Dd cP<|Zz<|Sq ?_;refine Cn ?_ ?_<;>intro hc1
 ·have hlt:i<8:=by have:=aNr hc1;omega
  obtain ⟨b,hb⟩:∃b,(jJ s.data.toList)[i]?=some b:=⟨_,aOA (by omega)⟩;have hb2:(iJ (jJ s.data.toList))[i]?=some (.pv (.int .u8 (b.toNat:Int))):=by rw[iJ,aOP,hb];rfl
  have ht7:((jJ s.data.toList).take i).length<=7:=by rw[aOJ];omega
  have ha:=WM ht7;have hb3:=b.toNat_lt;refine aF<|Sq<|aD<|Sr<|Dd aG<|Dd aM<|Zz<|Rg<|Dd aG<|Dd (by exact D7 rfl rfl rfl (by decide) (by decide) (aMa ha))<|Dd aG<|Dd (by exact dG rfl underlying123 bV rfl rfl rfl rfl (by omega) (by exact aOG _) (by omega) rfl)<|Dd (by exact aK rfl zO rfl rfl rfl rfl (by rw[aON,Nat.mul_one];exact hb2))<|Dd (by exact fP rfl dU iL rfl (TG (by omega)))<|Dd (by exact kU rfl (by simp) rfl rfl (orN ha (by omega)))<|Dd aM<|Zz<|Rg<|Dd qV<|Dd aG<|Zz ?_;refine⟨i+1,by omega,by omega,?_⟩;have e:rI ((jJ s.data.toList).take (i+1))=rI ((jJ s.data.toList).take i)*256+b.toNat:=by rw[List.take_add_one,hb,Option.toList_some,QN]
  rw[e];exact(cD.wk (Eb<|Ea<|Ea<|Eb<|Eb<|trivial) (Hc (G5 aFB)<|Hb<|trivial) ⟨rfl,trivial⟩)
 have hge:i=8:=by have:=aNs hc1;omega
 subst hge;have e:(jJ s.data.toList).take 8=jJ s.data.toList:=List.take_of_length_le (by omega);rw[e];refine aY<|Rg<|Dd (bQ HD)<|Dd aG<|Dd (by exact kU rfl (by simp) rfl rfl (bits_xor_u64_nat st _ hst (MW (Nat.le_of_eq hpl))))<|Dd (by exact aA rfl rfl call104 rfl (aLa _ (zZ hst (MW (Nat.le_of_eq hpl))) _))<|Uu (kG DN)<|Zz ?_;exact qU (H':=[(903,bx 1 122 [uv (IE (st ^^^ rI (jJ s.data.toList)))])]) (.inl rfl) rfl (Fin.wk (by simp) (Hb<|trivial) ⟨rfl,trivial⟩) ⟨rfl,rfl⟩
theorem VD(s:ByteArray)(i j:Nat):(s.extract i j).data.toList=(s.data.toList.drop i).take (j - i):=by rw[ByteArray.data_extract,Array.toList_extract,List.extract_eq_take_drop]
theorem dAt(st i:Nat):(iI 16)[0+FN st i*1]?=some (.pv (.int .u8 (nM (FN st i)))):=by rw[aON,Nat.mul_one,C8 (xY st i),aNu (xY st i)]
theorem aNK(ha:a<18446744073709551616):bits .and .u64 (a:Int) 15=((a % 16:Nat):Int):=by have h:=bits_and_u64_nat a 15 ha (by decide);rw[Nat.and_two_pow_sub_one_eq_mod a 4]at h;exact h
theorem TN(s:ByteArray)(H:aB)(hs:s.size<4611686018427387904):aH Tryz.prog 36 [sv s] H (fun r H'=>r=sv (fA s)/\H'=H):=by
 refine Pu ?_;have hd0:N5 s.size<18446744073709551616:=aA5 (by omega);have hsl:s.data.toList.length=s.size:=by simp
 refine Bd func36 rfl ntmps36<|Sr<|Dd aM<|Zz<|Sr<|Dd aG<|Dd (nF underlying9)<|Dd (by exact fP rfl underlying3 iL rfl (TG (by omega)))<|Dd (by exact kU rfl (by simp) rfl rfl (bits_xor_u64_nat 1181783497276652981 s.size (by decide) (by omega)))<|Dd (by exact bM (id:=903) rfl aKc rfl rfl)<|Uu (kG DN)<|Zz<|Sr<|Dd (by exact fO rfl rfl)<|Dd aM<|Zz<|Sq<|aD ?_;refine iA (fun(x:ByteArray) (st:Nat)=>([(0,sv x),(3,.ref 903 0 0 0),(4,.clo 103 [.ref 903 0 0 0])],[(903,bx 1 122 [uv st])])) (fun x st=>st<18446744073709551616/\x.size<=s.size/\MC st x.data.toList=MC (N5 s.size) s.data.toList) (fun x st=>x.size) s (N5 s.size) ⟨hd0,aOB _,rfl⟩ ?_ ?_
 ·exact Wk
 rintro x st ⟨hst,hx,hD⟩;have hxl:x.data.toList.length=x.size:=by simp
 refine Sq<|Sr<|Dd aG<|Dd (nF underlying9)<|Dd LN<|Zz ?_;refine Cn ?_ ?_<;>intro hc1
 ·have h8:8<=x.size:=by have:=aNr hc1;omega
  refine aF<|Sq<|aD<|Rg<|Dd aG<|Dd aG<|Dd (by exact cI (l:=0) (h:=8) rfl underlying9 rfl rfl rfl (by omega) (by omega) rfl)<|Dd (by exact cC rfl rfl rfl (cK.clo call103 (aCv (x.extract 0 8) st hst)))<|Zz<|Rg<|Dd aG<|Dd (by exact cI (l:=8) (h:=x.size) rfl underlying9 rfl rfl rfl (by omega) (by omega) rfl)<|Da ?_;refine⟨x.extract 8 x.size,IE (st ^^^ rI (jJ (x.extract 0 8).data.toList)),⟨RX _,by rw[ByteArray.size_extract];omega,?_⟩,by rw[ByteArray.size_extract];omega,Wk⟩;rw[<-hD,P8 st (by omega:8<=x.data.toList.length),VD,VD,List.drop_zero,List.take_of_length_le (l:=x.data.toList.drop 8) (by rw[aOK];omega)]
 have h8:x.size<8:=by have:=aNs hc1;omega
 have hL:=P9 st (by omega:x.data.toList.length<8);obtain ⟨S,hS⟩:∃S,S=IE (st ^^^ rI (jJ x.data.toList)):=⟨_,rfl⟩;have hSl:S<18446744073709551616:=by rw[hS];exact RX _
 have hres:fA s=⟨(tN S).toArray⟩:=by rw[fA,<-hD,hL,hS]
 rw[hres];refine aY<|Sr<|Dd aG<|Dd aG<|Dd (by exact cC rfl rfl rfl (cK.clo call103 (aCv x st hst)))<|Zz<|Sr<|Dd (by exact aA rfl rfl call105 rfl (aEj _))<|Dd (by exact bM (id:=5) rfl ZL rfl rfl)<|Uu (kG SY)<|Zz<|Sr<|Dd (by exact bM (id:=6) rfl ZL rfl rfl)<|Zz<|Sq<|Sr<|Dd aG<|Zz<|aD ?_;rw[<-hS];refine bL (σ:=Nat) (fun i=>([(3,.ref 903 0 0 0),(5,.ref 5 0 0 0),(6,.ref 6 0 0 0),(26,iv (i:Int))],[(6,bx 16 128 (qZ S i)),(5,bx 16 128 (iI 16)),(903,bx 1 122 [uv S])])) (fun i=>i<=16) (fun i=>16 - i) 0 (aOM _) ?_ ?_
 ·exact(cD.wk (Ea<|Ea<|Ea<|Eb<|trivial) (Hc (G5 aDv)<|Hc (G5 Y4)<|Hb<|trivial) trivial)
 intro i hi;refine Sr<|Dd cP<|Zz<|Sq ?_;refine Cn ?_ ?_<;>intro hc2
 ·have hlt:i<16:=by have:=aNr hc2;omega
  refine aF<|Sq<|aD<|Sr<|Dd aG<|Dd aM<|Zz<|Rg<|Dd aG<|Dd (bQ HD)<|Dd aG<|Dd (by exact lH rfl rfl rfl (by exact iY (by omega) (by omega)))<|Dd (by exact dN rfl rfl rfl (by exact iY (by omega) (by omega)))<|Dd (by exact BI rfl rfl rfl (by omega) (by simp[IntKind.bits];omega) (aBI S (60 - 4*i) (by omega)))<|Dd (by exact kU rfl (by simp) rfl rfl (aNK (tQ _ hSl)))<|Dd (by exact dG rfl uA bV rfl rfl rfl rfl (by omega) (aOG _) (xY S i) rfl)<|Dd (by exact aK rfl zO rfl rfl rfl rfl (dAt S i))<|Dd (by exact dG rfl uA bV rfl rfl rfl rfl (by omega) (by exact aOG _) (by omega) rfl)<|Uu (by exact bD rfl bV rfl rfl rfl rfl rfl rfl (by rw[xW];omega) (show (qZ S i).set (0+i*1) (.pv (.int .u8 (nM (FN S i))))=qZ S (i+1)by rw[aON,Nat.mul_one];exact YC hlt) rfl) ?_;refine Zz<|Rg<|Dd qV<|Dd aG<|Zz ?_;exact⟨i+1,by omega,by omega,(cD.wk (Ea<|Ea<|Ea<|Eb<|trivial) (Hc (G5 aDv)<|Hc (G5 Y4)<|Hb<|trivial) trivial)⟩
 have hge:i=16:=by have:=aNs hc2;omega
 subst hge;refine aY<|Sq<|Rg ?_;refine FI (id:=6) rfl rfl rfl rfl uA bV rfl rfl rfl ?_;refine aHr (bs:=tN S) rfl rfl rfl rfl cJ dU underlying9 (by rw[<-YD];rfl) (by decide) rfl ?_;exact Dd aM<|Zz<|aE<|Rt<|Qq
end Go.Proofs.YtmdicgjnmfolfaaGreatDoor
namespace Go.Abs
variable{w:World}{I:Nat->Prop}{ι:dX}{H H' G0 K H1 K1:aB}{v:Value}{a r0:AV}{id g b j p N:Nat}{ob:Ob}{ps:List (List PV)}{E E0:bS}{x y:Go.Loop}{P:Program}{assign body:Code}{args:List AV}
def aKM(H' H:aB):Prop:=∀j o',H'.get j=some o'->∃o,H.get j=some o/\o'.g=o.g/\o'.sz=o.sz/\o'.rows.length=o.rows.length
theorem VRel.restrictG(hs:aKM H' H)(h:VRel w I ι H v a):Clo H' a->VRel w I ι H' v a:=by
 induction h with
 |any v=>exact fun _=>.any v
 |pv h=>exact fun _=>.pv h
 | ref o h1 h2 h3 h4 =>
  intro hc;cases hc with
  |ref hc =>
   obtain ⟨o',ho'⟩:=Option.isSome_iff_exists.1 hc;obtain ⟨o2,e1,e2,e3,e4⟩:=hs _ _ ho';rw[h1]at e1;cases e1;exact .ref o' ho' (by omega) h3 (fun hg=>by rw[e3];exact h4 (by omega))
 |pad b off cap sz h1 h2 h3 cs h4 h5 h6=>exact fun _=>.pad b off cap sz h1 h2 h3 cs h4 h5 h6
 | osl o h1 h2 h3 h4 =>
  intro hc;cases hc with
  |osl hc =>
   obtain ⟨o',ho'⟩:=Option.isSome_iff_exists.1 hc;obtain ⟨o2,e1,e2,e3,e4⟩:=hs _ _ ho';rw[h1]at e1;cases e1;exact .osl o' ho' (by omega) h3 (fun hg=>by rw[e3,e4];exact h4 (by omega))
 |clo hl h ih =>
  intro hc;cases hc with|clo hc=>exact .clo hl fun i v a hv ha=>ih i v a hv ha (hc a (aOF ha))
 |bnd hl h ih =>
  intro hc;cases hc with|bnd hc=>exact .bnd hl fun i v a hv ha=>ih i v a hv ha (hc a (aOF ha))
 |agg hl h1 h ih =>
  intro hc;cases hc with|agg hc=>exact .agg hl h1 fun i v a hv ha=>ih i v a hv ha (hc a (aOF ha))
 |tup hl h ih =>
  intro hc;cases hc with|tup hc=>exact .tup hl fun i v a hv ha=>ih i v a hv ha (hc a (aOF ha))
 | mp o h1 h2 h3 h4 =>
  intro hc;cases hc with
  |mp hc =>
   obtain ⟨o',ho'⟩:=Option.isSome_iff_exists.1 hc;obtain ⟨o2,e1,e2,e3,e4⟩:=hs _ _ ho';rw[h1]at e1;cases e1;exact .mp o' ho' (by omega) h3 (fun hg=>by rw[e3];exact h4 (by omega))
 | it o h1 h2 h3 h4 =>
  intro hc;cases hc with
  |it hc =>
   obtain ⟨o',ho'⟩:=Option.isSome_iff_exists.1 hc;obtain ⟨o2,e1,e2,e3,e4⟩:=hs _ _ ho';rw[h1]at e1;cases e1;exact .it o' ho' (by omega) h3 (fun hg=>by rw[e3];exact h4 (by omega))
 | yld o h1 h2 h3 h4 =>
  intro hc;cases hc with
  |yld hc =>
   obtain ⟨o',ho'⟩:=Option.isSome_iff_exists.1 hc;obtain ⟨o2,e1,e2,e3,e4⟩:=hs _ _ ho';rw[h1]at e1;cases e1;exact .yld o' ho' (by omega) h3 (fun hg=>by rw[e3];exact h4 (by omega))
 | osc o h1 h2 h3 h4 =>
  intro hc;cases hc with
  |osc hc =>
   obtain ⟨o',ho'⟩:=Option.isSome_iff_exists.1 hc;obtain ⟨o2,e1,e2,e3,e4⟩:=hs _ _ ho';rw[h1]at e1;cases e1;exact .osc o' ho' (by omega) h3 (fun hg=>by rw[e3];exact h4 (by omega))
theorem VRel.freezeG(hr:Rel I ι H w)(hs:aKM H' H)(hH:H.get id=some ob)(hps:ob.rows=ps.map (·.map .pv)){a':AV}(hf:Fz H' id ob.g ps a a'):
  ∀ {v:Value},VRel w I ι H v a->VRel w (mL I ι id) ι H' v a':=by
 induction hf with
 |same h=>exact fun hv=>(hv.restrictG hs h).mono' (fun _ _=>rfl) (fun _ h=>.inl h) (fun _ o h=>⟨o,h,aOB _,fun _=>⟨rfl,rfl,fun _=>aOB _⟩⟩)
 |osl hq =>
  intro v hv;subst hq;exact .pv (AW hr hH hps hv)
 | agg hl h ih =>
  intro v hv;cases hv with
  |agg h1 h2 h3 =>
   refine .agg (h1.trans hl) h2 fun i u a' hu ha'=>?_;have hi:=(aNz.1 ha').1;exact ih i _ a' (aOA (by omega)) ha' (h3 i u _ hu (aOA (by omega)))
 | tup hl h ih =>
  intro v hv;cases hv with
  |tup h1 h3 =>
   refine .tup (h1.trans hl) fun i u a' hu ha'=>?_;have hi:=(aNz.1 ha').1;exact ih i _ a' (aOA (by omega)) ha' (h3 i u _ hu (aOA (by omega)))
def M4(H':aB)(id g:Nat)(ps:List (List PV))(rows rows':List (List AV)):Prop :=rows'.length=rows.length/\∀(i:Nat) (r':List AV),rows'[i]?=some r'->∃r,rows[i]?=some r/\r.length=r'.length/\∀(k:Nat) (a a':AV),r[k]?=some a->r'[k]?=some a'->Fz H' id g ps a a'
theorem eJ{rows:List (List AV)}(h:∀r∈rows,∀a∈r,Clo H' a):M4 H' id g ps rows rows :=⟨rfl,fun i r hi=>⟨r,hi,rfl,fun k a a' h1 h2=>by rw[h1]at h2;cases h2;exact .same (h r (aOF hi) a (aOF h1))⟩⟩
theorem nG{r r':List AV}(hl:r.length=r'.length)(h:∀(k:Nat) (a a':AV),r[k]?=some a->r'[k]?=some a'->Fz H' id g ps a a'):M4 H' id g ps [r] [r'] :=⟨rfl,fun i x hi=>by
  match i,hi with
  |0,hi=>cases hi;exact⟨r,rfl,hl,h⟩⟩
def FOk(H H':aB)(id g:Nat)(ps:List (List PV)):aB->Prop
 | []=>True
 |(j,o')::r=>(∃o,H.get j=some o/\o'.g=o.g/\o'.sz=o.sz/\o'.ty=o.ty/\M4 H' id g ps o.rows o'.rows)/\FOk H H' id g ps r
theorem FOk.spec{L:aB}(h:FOk H H' id g ps L):∀p∈L,∃o,H.get p.1=some o/\p.2.g=o.g/\p.2.sz=o.sz/\p.2.ty=o.ty/\M4 H' id g ps o.rows p.2.rows:=by
 induction L with
 |nil=>simp
 |cons x r ih =>
  obtain ⟨t,v⟩:=x;obtain ⟨h1,h2⟩:=h;intro p hp;rcases aOH.1 hp with e|e
  ·subst e;exact h1
  exact ih h2 p e
theorem cD.fzG{E':bS}(ps:List (List PV))(hH:H.get id=some ob)(hps:ob.rows=ps.map (·.map .pv))(hE:∀p∈E',∃v0,E.get p.1=some v0/\Fz H' id ob.g ps v0 p.2)(hno:H'.get id=none)
    (hF:FOk H H' id ob.g ps H') (hk:KOk H' H G0):cD G0 E H E' H':=by
  intro G hG N a w hs;obtain ⟨I,ι,hr,hst,he⟩:=hs.rel;subst hG;have hf:∀j o',H'.get j=some o'->∃o,H.get j=some o/\o'.g=o.g/\o'.sz=o.sz/\o'.ty=o.ty/\M4 H' id ob.g ps o.rows o'.rows:=fun j o' hj=>hF.spec _ (cV hj);have hsub:aKM H' H:=fun j o' hj=>by
    obtain ⟨o,e1,e2,e3,_,e5⟩:=hf j o' hj;exact⟨o,e1,e2,e3,e5.1⟩
  have hown:∀b,H9 ι H' b->H9 ι H b:=fun b ⟨j,o',c,h1,h2⟩=>by
    obtain ⟨o,e1,_⟩:=hf j o' h1;exact⟨j,o,c,e1,h2⟩
  have hrel:Rel (mL I ι id) ι H' w:=by
    refine⟨fun b hb=>?_,fun j o' hj=>?_,fun j j' o o' b c c' h1 h2=>?_,hr.glob.mono (fun _ _=>rfl) (fun _ h=>.inl h)⟩
    · rcases hb with hb|⟨cap,hb⟩
      · exact hr.imm b hb
      · exact hr.lt ⟨id,ob,cap,hH,hb⟩
    · obtain ⟨o,e1,e2,e3,e4,e5,e6⟩:=hf j o' hj
      refine(hr.obj j o e1).keepG e3 e4 e5 (T7 e5.symm (fun i r' hi=>by
        obtain ⟨r,z1,z2,z3⟩:=e6 i r' hi;exact⟨r,z1,z2,fun k a a' h1 h2 y ts e=>(z3 k a a' h1 h2).raw e⟩)) rfl (fun b' cap' q1 _=>⟨rfl,fun q3=>?_⟩) (fun i r' hi=>?_)
      · rintro(h|⟨cap,h⟩)
        · exact q3 h
        · have:j=id:=hr.inj j id o ob b' cap' cap e1 hH q1 h
          rw[this,hno]at hj;cases hj
      · obtain ⟨r,z1,z2,z3⟩:=e6 i r' hi
        exact⟨r,z1,z2,fun k a a' h1 h2 v hv=>VRel.freezeG hr hsub hH hps (z3 k a a' h1 h2) hv⟩
    · obtain ⟨p,e1,_⟩:=hf j o h1
      obtain ⟨p',e1',_⟩:=hf j' o' h2;exact hr.inj j j' p p' b c c' e1 e1'
  have hstep:Step G.I G.ι G.H G.w (mL I ι id) ι H' w :=
    { os := hst.os, tape := hst.tape, output := hst.output, size := hst.size, froz := hst.froz, keep := hst.keep
      imm:=fun b hb=>.inl (hst.imm b hb)
      immNew:=fun b hb=>by
        rcases hb with hb|⟨cap,hb⟩
        · exact hst.immNew b hb
        · rcases hst.own b ⟨id,ob,cap,hH,hb⟩with h1|h1
          · exact .inr (.inl h1)
          · exact .inr (.inr h1)
      own:=fun b hb=>hst.own b (hown b hb)
      objs:=fun j o ho=>by
        obtain ⟨o',h1,h2⟩:=hst.objs j o ho;exact⟨o',(hk.kept j (by simp[ho])).trans h1,h2⟩}
  refine⟨hs.defers,hs.size,_,ι,hrel,hstep,fun t v ht=>?_⟩;obtain ⟨v0,h1,h2⟩:=hE _ (fR ht);obtain ⟨c,hc,hv⟩:=he t v0 h1;exact⟨c,hc,VRel.freezeG hr hsub hH hps h2 hv⟩
section
def LR(x:Go.Loop)(E0:bS):Ob:=⟨0,0,0,[[.raw x (E0.map (·.1))],E0.map (·.2)]⟩
section
theorem aDR(hr:Rel I ι H w)(hH:H.get id=some (LR x E0))(hv:VRel w I ι H v (.yld id 0)):
  ∃b,ι id=some (b,2)/\v=.func (.yield b) #[] #[]/\w.heap[b]?=some (.loop x)/\¬ I b/\∀(i t:Nat) (a:AV),(E0.map (·.1))[i]?=some t->(E0.map (·.2))[i]?=some a->∃c,x.tmps[t]?=some c/\VRel w I ι H c a:=by
 cases hv with
 |yld o h1 h2 h3 h4 =>
  rw[hH]at h1;cases h1;obtain ⟨_,b,e1,e2⟩:=h4 rfl;obtain ⟨_,b',y,k1,k2,k3,k4⟩:=(hr.obj id _ hH).rec rfl e1;rw[e1]at k1;cases k1;obtain ⟨q1,q2⟩:=k4 x _ _ rfl;subst q1;exact⟨b,e1,e2,k2,k3,q2⟩
theorem Rel.setRec(hr:Rel I ι H w)(hH:H.get id=some (LR x E0))(hι:ι id=some (b,2))(hy:y.tmps=x.tmps)
  (h1:H'.get id=some (LR y E0)) (h2:∀j,j≠id->H'.get j=H.get j):Rel I ι H' (w.putObj b (.loop y))/\Step I ι H w I ι H' (w.putObj b (.loop y)):=by
 obtain ⟨_,b',z,k1,k2,k3,k4⟩:=(hr.obj id _ hH).rec rfl hι;rw[hι]at k1;cases k1;obtain ⟨q1,q2⟩:=k4 x _ _ rfl;subst q1;have hlt:=(Array.getElem?_eq_some_iff.1 k2).1;have hown:∀c,H9 ι H' c->H9 ι H c:=fun c ⟨j,o,cap,ho,hc⟩=>by
  by_cases e:j=id
  ·subst e;exact⟨j,_,cap,hH,hc⟩
  exact⟨j,o,cap,(h2 j e).symm.trans ho,hc⟩
 have hst:Step I ι H w I ι H' (w.putObj b (.loop y)):=by
  refine⟨rfl,rfl,rfl,by rw[World.putObj_size];exact aOB _,fun a ha _=>?_,fun _ h=>h,fun _ h=>.inl h,fun c hc=>.inl (hown c hc),fun c hc hn=>?_,fun j o hj=>?_⟩
  ·unfold World.frozen?;by_cases e:a.block=b
   ·rw[e,World.putObj_heap_same hlt,k2]
   rw[World.putObj_heap_other e]
  ·exact World.putObj_heap_other fun e=>hn ⟨id,_,2,hH,by rw[e];exact hι⟩
  by_cases e:j=id
  ·subst e;rw[hH]at hj;cases hj;exact⟨_,h1,aOB _,fun _=>⟨rfl,rfl,fun h=>by cases h⟩⟩
  exact⟨o,(h2 j e).trans hj,aOB _,fun _=>⟨rfl,rfl,fun _=>aOB _⟩⟩
 refine⟨⟨fun c hc=>by rw[World.putObj_size];exact hr.imm c hc,fun j o hj=>?_,fun j j' o o' c d d' hj hj' hc hc'=>?_,hst.glob hr⟩,hst⟩
 ·by_cases e:j=id
  ·subst e;rw[h1]at hj;cases hj;refine .inr (.inr (.inr ⟨rfl,b,y,hι,World.putObj_heap_same hlt,k3,fun z ts r hz=>?_⟩));simp only[LR,List.cons.injEq,AV.raw.injEq,and_true]at hz;obtain ⟨⟨rfl,rfl⟩,rfl⟩:=hz;refine⟨rfl,fun i t a ht ha=>?_⟩;obtain ⟨c,c1,c2⟩:=q2 i t a ht ha;exact⟨c,by rw[hy];exact c1,c2.mono hr hst⟩
  rw[h2 j e]at hj;exact(hr.obj j o hj).keep rfl (fun c d hc _=>⟨World.putObj_heap_other (fun hb=>e (hr.inj j id o _ c d 2 hj hH hc (by rw[hb];exact hι))),fun h=>h⟩) (fun r _ a _ v hv=>hv.mono hr hst)
 have key:∀j o,H'.get j=some o->∃o,H.get j=some o:=fun j o hj=>by
  by_cases e:j=id
  ·subst e;exact⟨_,hH⟩
  exact⟨o,(h2 j e).symm.trans hj⟩
 obtain ⟨q,hq⟩:=key j o hj;obtain ⟨q',hq'⟩:=key j' o' hj';exact hr.inj j j' q q' c d d' hq hq' hc hc'
theorem Rel.push(o:Obj)(hr:Rel I ι H w):Rel I ι H (w.alloc o)/\Step I ι H w I ι H (w.alloc o):=by
 have hk:∀b,b<w.heap.size->(w.alloc o).heap[b]?=w.heap[b]?:=fun b hb=>by
  show (w.heap.push o)[b]?=_;rw[Array.getElem?_push,aNt (Nat.ne_of_lt hb)]
 have hst:Step I ι H w I ι H (w.alloc o):=by
  refine⟨rfl,rfl,rfl,by rw[World.size_alloc];omega,fun a ha _=>?_,fun _ h=>h,fun _ h=>.inl h,fun _ h=>.inl h,fun b hb _=>hk b hb,fun _ o h=>⟨o,h,aOB _,fun _=>⟨rfl,rfl,fun _=>aOB _⟩⟩⟩;unfold World.frozen?;rw[hk _ ha]
 refine⟨⟨fun b hb=>by have:=hr.imm b hb;rw[World.size_alloc];omega,fun j o hj=>?_,hr.inj,hst.glob hr⟩,hst⟩;exact(hr.obj j o hj).keep rfl (fun b c _ hb=>⟨hk b hb,fun h=>h⟩) (fun r _ a _ v hv=>hv.mono hr hst)
end
def busy(x:Go.Loop):Go.Loop:={x with state:=.busy}
def left(x:Go.Loop)(c:Code):Go.Loop:={x with state:=.done,pending:=some c}
def aFW(H0:aB)(id:Nat)(x:Go.Loop)(E0:bS)(Q:AV->aB->Prop):Exit->bS->aB->Prop
 |.normal,E,H=>∃K,cD H0 E H [] ((id,LR (busy x) E0)::K)/\Q (.pv (.bool true)) ((id,LR x E0)::K)
 |.ret,E,H=>∃K,cD H0 E H [] ((id,LR (busy x) E0)::K)/\Q (.pv (.bool false)) ((id,LR (left x .ret) E0)::K)
 |.exit j,E,H=>∃K,cD H0 E H [] ((id,LR (busy x) E0)::K)/\Q (.pv (.bool false)) ((id,LR (left x (.exit j)) E0)::K)
 |_,_,_=>False
theorem pK{G:Entry}(hst:Step G.I G.ι G.H G.w I ι H w)(hG:G.H.get id=some (LR x E0))(hι:G.ι id=some (b,2))(hH:H.get id=some (LR y E0)):ι id=some (b,2):=by obtain ⟨o',e1,_,e3⟩:=hst.objs id _ hG;rw[hH]at e1;cases e1;exact(e3 rfl).1.trans hι
theorem qL(hr:Rel I ι H w)(hH:H.get id=some (LR x E0))(hι:ι id=some (b,2)):w.heap[b]?=some (.loop x):=by obtain ⟨_,b',z,k1,k2,k3,k4⟩:=(hr.obj id _ hH).rec rfl hι;rw[hι]at k1;cases k1;obtain ⟨q1,_⟩:=k4 x _ _ rfl;subst q1;exact k2
theorem eY(id:Nat)(o:Ob)(K:aB):aB.get ((id,o)::K) id=some o:=by simp[aB.get,kW]
theorem wR(o o':Ob)(K:aB)(h:j≠id):aB.get ((id,o)::K) j=aB.get ((id,o')::K) j:=by simp[aB.get,jC (Ne.symm h)]
theorem QR{Q:AV->aB->Prop}(E2:bS)(K2:aB)(hx1:x.state=.ready)(hx2:x.pending=none)(hp:x.params=#[p])(hN:x.tmps.size=N)(hxa:x.assign=assign)(hxb:x.body=body)(hpN:Nat.blt p N=true)
  (hok:gK assign=true) (hok2:gK body=true)
  (h1:fL P ((id,LR x E0)::K) N assign (xA (fun E1 H1=>cD ((id,LR x E0)::K) E1 H1 E2 ((id,LR x E0)::K2)) (fun _ _ _=>False)) ((p,a)::E0) ((id,LR x E0)::K))
  (h2:fL P ((id,LR x E0)::K) N body (aFW ((id,LR x E0)::K) id x E0 Q) E2 ((id,LR (busy x) E0)::K2)):DH P id 0 [a] ((id,LR x E0)::K) Q:=by
 subst hxa hxb;have hpN:p<N:=by simpa[Nat.blt_eq]using hpN
 intro I ι w vs v hr hv hl hvs;obtain ⟨b,e1,e2,e3,e4,e5⟩:=aDR hr (eY _ _ _) hv;obtain ⟨u,rfl⟩:∃u,vs=#[u]:=by
  match vs,hl with
  |⟨[u]⟩,_=>exact⟨u,rfl⟩
 have hu:=hvs 0 u a rfl rfl;refine⟨b,x.fn,_,x.assign,x.body,e2,run_yield e3 (by rw[hp];rfl),?_⟩;refine roundIn_of_wpIn (F:=Fence.wide) trivial ?_;have hG:(⟨I,ι,(id,LR x E0)::K,w,[]⟩:Entry).H=(id,LR x E0)::K:=rfl;have hst:St ⟨I,ι,(id,LR x E0)::K,w,[]⟩ N ((p,a)::E0) ((id,LR x E0)::K) {tmps:=(x.params.zip #[u]).foldl (fun tmps (t,a)=>tmps.setIfInBounds t a) x.tmps,defers:=[]} w:=by
  have ht:(x.params.zip #[u]).foldl (fun tmps (t,a)=>tmps.setIfInBounds t a) x.tmps=x.tmps.setIfInBounds p u:=by rw[hp];simp
  rw[ht];refine⟨pF.nil _ _ _,by simp[hN],I,ι,hr,Step.refl _ _ _ _,fun t y hy=>?_⟩;by_cases e:p=t
  ·subst e;rw[bS.get_cons_same]at hy;cases hy;exact⟨u,by simp[hN,hpN],hu⟩
  rw[bS.get_cons_other _ _ e]at hy;obtain ⟨i,hi⟩:=aOQ.1 (fR hy);obtain ⟨c,c1,c2⟩:=e5 i t y (by rw[aOP,hi];rfl) (by rw[aOP,hi];rfl);exact⟨c,by show (x.tmps.setIfInBounds p u)[t]?=some c;rw[Array.getElem?_setIfInBounds_ne e];exact c1,c2⟩
 refine wpIn_mono (h1 _ hG _ w hst (some b) (.inr hok)) ?_;rintro e a1 w1 ⟨E1,H1,q,hs1⟩;cases e with
 | normal =>
  have hs2:=q _ hG N a1 w1 hs1;obtain ⟨I1,ι1,hr1,hst1,he1⟩:=hs2.rel;have hι1:=pK hst1 (eY _ _ _) e1 (eY _ _ _);have hb1:=qL hr1 (eY _ _ _) hι1;obtain ⟨k1,k2⟩:=hr1.setRec (y:=busy x) (H':=(id,LR (busy x) E0)::K2) (eY _ _ _) hι1 rfl (eY _ _ _) (fun j hj=>wR _ _ _ hj);refine⟨_,run_beginRound hb1 hx1,?_⟩;have hs3:St ⟨I,ι,(id,LR x E0)::K,w,[]⟩ N E2 ((id,LR (busy x) E0)::K2) a1 (w1.putObj b (.loop (busy x))) :=
   ⟨hs2.defers.step hr1 k2,hs2.size,I1,ι1,k1,hst1.trans k2,fun t y hy=>let ⟨c,c1,c2⟩:=he1 t y hy;⟨c,c1,c2.mono hr1 k2⟩⟩
  refine wpIn_mono (h2 _ hG a1 _ hs3 (some b) (.inr hok2)) ?_;rintro e a2 w3 ⟨E3,H3,q3,hs4⟩;have fin:∀(jump:Option Code) (y:Go.Loop) (K3:aB),y={busy x with state:=if jump.isNone then .ready else .done,pending:=jump}->cD ((id,LR x E0)::K) E3 H3 [] ((id,LR (busy x) E0)::K3)->Q (.pv (.bool jump.isNone)) ((id,LR y E0)::K3) ->
    ∃v w',(Instr.endRound b jump).run P w3=.ok v w'/\∃r H' I' ι' v',Ending.returned v=.returned v'/\Q r H'/\VRel w' I' ι' H' v' r/\Rel I' ι' H' w'/\Step I ι ((id,LR x E0)::K) w I' ι' H' w':=by
   intro jump y K3 hy hent hQ;have hs5:=hent _ hG N a2 w3 hs4;obtain ⟨I5,ι5,hr5,hst5,_⟩:=hs5.rel;have hι5:=pK hst5 (eY _ _ _) e1 (eY _ _ _);have hb5:=qL hr5 (eY _ _ _) hι5;obtain ⟨z1,z2⟩:=hr5.setRec (y:=y) (H':=(id,LR y E0)::K3) (eY _ _ _) hι5 (by rw[hy]) (eY _ _ _) (fun j hj=>wR _ _ _ hj);refine⟨_,_,run_endRound jump hb5,_,_,I5,ι5,_,rfl,hQ,.pv (.bool _),?_,?_⟩
   ·rw[<-hy];exact z1
   rw[<-hy];exact hst5.trans z2
  cases e with
  |normal =>
   obtain ⟨K3,hent,hQ⟩:=q3;refine fin none x K3 ?_ hent hQ;obtain ⟨st,pe,fn,tm,pa,ax,bo,de⟩:=x;simp only at hx1 hx2;subst hx1 hx2;rfl
  |ret =>
   obtain ⟨K3,hent,hQ⟩:=q3;exact fin (some .ret) (left x .ret) K3 rfl hent hQ
  |exit j =>
   obtain ⟨K3,hent,hQ⟩:=q3;exact fin (some (.exit j)) (left x (.exit j)) K3 rfl hent hQ
  |goto l=>exact q3.elim
  |panic ch=>exact q3.elim
  |outgrown=>exact q3.elim
 |exit j=>exact q.elim
 |goto l=>exact q.elim
 |ret=>exact q.elim
 |panic ch=>exact q.elim
 |outgrown=>exact q.elim
def aFZ(Q:Exit->bS->aB->Prop)(E:bS)(H:aB):Option Code->Prop
 |none=>Q .normal E H
 |some .ret=>Q .ret E H
 |some (.exit j)=>Q (.exit j) E H
 |_=>False
theorem BX{f:Nat}{caps:List AV}{g:Operand}{ps:Array Tmp}{Q:Exit->bS->aB->Prop}(E0:bS)(hg:aO E g=some (.clo f caps))(hc:∀(args:Array Value) (w:World),(callFunc f args).run P w=.ok (.enter f args) w)
  (hps:ps=#[p]) (hid:H.get id=none) (hE0:∀q∈E0,E.get q.1=some q.2)
  (h:∀x:Go.Loop,x.state=.ready->x.pending=none->x.params=#[p]->x.tmps.size=N->x.assign=assign->x.body=body ->
   aH P f (.yld id 0::caps) ((id,LR x E0)::H) (fun r H'=>∃(y:Go.Loop) (K:aB),y.tmps=x.tmps/\y.state≠.busy/\H'=(id,LR y E0)::K/\∀z:Go.Loop,aFZ Q E ((id,LR z E0)::K) y.pending)) :
  fL P G0 N (.rangeFunc g ps assign body) Q E H:=by
 intro G hG a w hs ro hro;obtain rfl:ro=none:=hro.resolve_right (fun h=>by cases h);obtain ⟨I,ι,hr,hst,he⟩:=hs.rel;refine wpIn_rangeFunc (F:=RF none) ?_;intro fn _;have hgv:=aI he hg;generalize hfc:a.eval g=fc at hgv;cases hgv with
 | @clo _ us _ hl hh =>
  obtain ⟨x,hx⟩:∃x:Go.Loop,x={state:=.ready,pending:=none,fn,tmps:=a.tmps,params:=ps,assign,body,defers:=w.heap.size}:=⟨_,rfl⟩;obtain ⟨a1,a2⟩:=hr.push (.deferred (some []));obtain ⟨wd,hwd⟩:∃wd,wd=w.alloc (.deferred (some [])):=⟨_,rfl⟩;rw[<-hwd]at a1 a2;have hwds:wd.heap.size=w.heap.size+1:=by rw[hwd,World.size_alloc]
  have hDd:wd.heap[w.heap.size]?=some (.deferred (some [])):=by rw[hwd];exact World.alloc_heap_new w _
  have hidH:aB.get ((id,LR x E0)::H) id=some (LR x E0):=eY _ _ _;obtain ⟨b1,b2⟩:=a1.placeX (id:=id) (cap:=2) (x:=.loop x) (w':=wd.alloc (.loop x)) (H':=(id,LR x E0)::H) (ob':=LR x E0) rfl rfl rfl rfl (fun o ho=>by rw[hid]at ho;cases ho)
   (fun hnew hI hmono=>.inr (.inr (.inr ⟨rfl,_,x,by simp,hnew,hI,fun y ts r hy=>by
    simp only[LR,List.cons.injEq,AV.raw.injEq,and_true]at hy;obtain ⟨⟨rfl,rfl⟩,rfl⟩:=hy;refine⟨rfl,fun i t v ht hv=>?_⟩;rw[aOP]at ht hv;obtain ⟨q,hq,rfl⟩:=Option.map_eq_some_iff.1 ht;rw[hq]at hv;cases hv;obtain ⟨c,c1,c2⟩:=he q.1 q.2 (hE0 q (aOF hq));exact⟨c,by rw[hx];exact c1,hmono _ _ (c2.mono hr a2)⟩⟩)))
   hidH (fun j hj=>by simp[aB.get,jC (Ne.symm hj)])
  obtain ⟨w1,hw1⟩:∃w1,w1=wd.alloc (.loop x):=⟨_,rfl⟩;rw[<-hw1]at b1 b2;obtain ⟨ι1,hι1⟩:∃ι1:dX,ι1=fun j=>if j=id then some (wd.heap.size,2)else ι j:=⟨_,rfl⟩
  rw[<-hι1]at b1 b2;have hιid:ι1 id=some (w.heap.size+1,2):=by rw[hι1,hwds];simp
  have hL1:=qL b1 hidH hιid;have hD1:w1.heap[w.heap.size]?=some (.deferred (some [])):=by
   rw[b2.keep _ (by rw[hwds];omega) (wD a1 hDd)];exact hDd
  have hcall:=h x (by rw[hx]) (by rw[hx]) (by rw[hx,hps]) (by rw[hx];exact hs.size) (by rw[hx]) (by rw[hx]) I ι1 w1 (#[.func (.yield (w.heap.size+1)) #[] #[]]++us) b1 (by simp[hl];omega) (fun i v c hv hc'=>by
   cases i with
   |zero =>
    rw[Array.getElem?_append_left (by simp)]at hv;simp at hv hc';subst hv hc';exact .yld (LR x E0) hidH (aOB _) rfl (fun _=>⟨rfl,_,hιid,rfl⟩)
   |succ i =>
    rw[Array.getElem?_append_right (by simp)]at hv;simp only[List.getElem?_cons_succ]at hc';have:=hh i v c (by simpa using hv) hc';exact(this.mono hr a2).mono a1 b2)
  refine⟨w.heap.size+1,[mark w.heap.size],w1,{target:=.fn (.func f) us,args:=#[.func (.yield (w.heap.size+1)) #[] #[]]},w1,f,#[.func (.yield (w.heap.size+1)) #[] #[]]++us,w1,?_,?_,fun _ _=>trivial,?_,(fun q=>by cases q),?_⟩
  ·rw[hw1,hwd,hx];exact run_enterLoop_outer _ _ _ _ _
  ·simp only[resolve,hfc];simp[go_sem]
  ·simp[invoke,go_sem,hc]
  refine((callsIn_wide (n:=0)).2 hcall).mono ?_;rintro e w3 ⟨r,H',I3,ι3,v3,rfl,⟨y,K,hy1,hy2,rfl,hq⟩,_,hr3,hst3⟩;have hι3:=pK (G:=⟨I,ι1,(id,LR x E0)::H,w1,[]⟩) hst3 hidH hιid (eY _ _ _);have hb3:=qL hr3 (eY _ _ _) hι3;obtain ⟨z,hz⟩:∃z:Go.Loop,z={y with state:=.exhausted}:=⟨_,rfl⟩;obtain ⟨z1,z2⟩:=hr3.setRec (y:=z) (H':=(id,LR z E0)::K) (eY _ _ _) hι3 (by rw[hz]) (eY _ _ _) (fun j hj=>wR _ _ _ hj);obtain ⟨w4,hw4⟩:∃w4,w4=w3.putObj (w.heap.size+1) (.loop z):=⟨_,rfl⟩;rw[<-hw4]at z1 z2;refine⟨y.pending,w4,by rw[hw4,hz];exact run_endLoop hb3 hy2,?_⟩;have hall:Step I ι H w I3 ι3 ((id,LR z E0)::K) w4:=((a2.trans b2).trans hst3).trans z2;have hD4:w4.heap[w.heap.size]?=some (.deferred (some [])):=by
   rw[(hst3.trans z2).keep _ (Array.getElem?_eq_some_iff.1 hD1).1 (wD b1 hD1)];exact hD1
  have hs4:St G N E ((id,LR z E0)::K) {a with defers:=[mark w.heap.size]++a.defers} w4:=by
   refine⟨?_,hs.size,I3,ι3,z1,hst.trans hall,fun t v hv=>let ⟨c,c1,c2⟩:=he t v hv;⟨c,c1,c2.mono hr hall⟩⟩;obtain ⟨Ds,d1,d2,d3⟩:=hs.defers.step hr hall;refine⟨w.heap.size::Ds,by rw[d1];rfl,List.nodup_cons.2 ⟨fun hmem=>?_,d2⟩,fun D hD=>?_⟩
   ·have hold:∀D∈Ds,D<w.heap.size:=by
     obtain ⟨Ds',d1',_,d3'⟩:=hs.defers;have he:Ds'=Ds:=by
      have h0:Ds'.map mark=Ds.map mark:=List.append_cancel_right (d1'.symm.trans d1);have hinj:∀(l l':List Nat),l.map mark=l'.map mark->l=l':=by
       intro l
       induction l with
       |nil=>intro l' h;cases l' with
        |nil=>rfl
        |cons _ _=>cases h
       | cons D l ih=>intro l' h;cases l' with
        |nil=>cases h
        |cons D' l' =>
         simp only[List.map_cons,List.cons.injEq,mark,Deferred.mk.injEq,Target.collected.injEq,and_true]at h;rw[h.1,ih l' h.2]
      exact hinj _ _ h0
     subst he;exact fun D hD=>(Array.getElem?_eq_some_iff.1 (d3' D hD).2).1
    exact Nat.lt_irrefl _ (hold _ hmem)
   rcases aOH.1 hD with rfl|hD
   ·exact⟨hst.size,hD4⟩
   exact d3 D hD
  have hq':=hq z;generalize y.pending=pend at hq' |-
  match pend,hq' with
  |none,hq'=>exact⟨E,_,hq',hs4⟩
  |some .ret,hq'=>exact wpIn_ret ⟨E,_,hq',hs4⟩
  |some (.exit j),hq'=>exact wpIn_exit ⟨E,_,hq',hs4⟩
end
theorem aH.congrG{f:FuncId}(h:aH P f args H1 (fun r X=>r=r0/\X=K1))(he:∀j,H1.get j=H.get j)(hk:∀j,K.get j=K1.get j):aH P f args H (fun r X=>r=r0/\X=K):=by intro I ι w vs hr hl hv;obtain ⟨p1,p2⟩:=hr.congr he;refine(h I ι w vs p1 hl (fun i v a h1 h2=>(hv i v a h1 h2).mono hr p2)).mono ?_;rintro e w' ⟨r,H',I',ι',v,rfl,⟨rfl,rfl⟩,k1,k2,k3⟩;obtain ⟨q1,q2⟩:=k2.congr hk;exact⟨r,K,I',ι',v,rfl,⟨rfl,rfl⟩,k1.mono k2 q2,q1,(p2.trans k3).trans q2⟩
theorem DH.congrG(h:DH P id g args H1 (fun r X=>r=r0/\X=K1))(he:∀j,H1.get j=H.get j)(hk:∀j,K.get j=K1.get j):DH P id g args H (fun r X=>r=r0/\X=K):=by intro I ι w vs v hr hvy hl hv;obtain ⟨p1,p2⟩:=hr.congr he;obtain ⟨l,f,tmps,assign,body,e1,e2,e3⟩:=h I ι w vs v p1 (hvy.mono hr p2) hl (fun i v a h1 h2=>(hv i v a h1 h2).mono hr p2);refine⟨l,f,tmps,assign,body,e1,e2,e3.mono ?_⟩;rintro e w' ⟨r,H',I',ι',v,rfl,⟨rfl,rfl⟩,k1,k2,k3⟩;obtain ⟨q1,q2⟩:=k2.congr hk;exact⟨r,K,I',ι',v,rfl,⟨rfl,rfl⟩,k1.mono k2 q2,q1,(p2.trans k3).trans q2⟩
theorem cK.congrG{fv:AV}(h:cK P fv args H1 (fun r X=>r=r0/\X=K1))(he:∀j,H1.get j=H.get j)(hk:∀j,K.get j=K1.get j):cK P fv args H (fun r X=>r=r0/\X=K):=by
 rcases h with⟨id,g,e,h⟩|⟨F,caps,e,hc,h⟩
 ·exact .inl ⟨id,g,e,h.congrG he hk⟩
 exact .inr ⟨F,caps,e,hc,h.congrG he hk⟩
theorem nB{i:Nat}{a b:Ob}(h:i≠j)(k:Nat):aB.get ((i,a)::(j,b)::K) k=aB.get ((j,b)::(i,a)::K) k:=by
 simp only[aB.get];cases e1:Nat.beq i k with
 |true =>
  have:=Nat.eq_of_beq_eq_true e1;subst this;rw[jC (Ne.symm h)];rfl
 |false=>cases e2:Nat.beq j k<;>rfl
end Go.Abs
namespace Go.Abs
open Go.Lib
variable{w:World}{I:Nat->Prop}{ι:dX}{e T2 D S:TypeId}{id g n k t i b cap l off len c len2 h sz ty:Nat}{ob:Ob}{s:ByteArray}{H2 H H' G0:aB}{rows' rows rows2:List (List AV)}{f F:FuncId}{args row:List AV}{P:Program}{v:Value}{lo hi:Option Operand}{at_:Array TypeId}{r0:AV}
section
section
variable{N:Nat}{o:Oper}{E:bS}{T S:TypeId}{x y:Operand}
theorem xJ(s:ByteArray):pC w I ι H 1 (strCells s) (dQ s.data.toList):=by
 intro i r hi k a hk;rw[dQ,aOP]at hi;obtain ⟨b,hb,rfl⟩:=Option.map_eq_some_iff.1 hi;cases k with
 |zero =>
  cases hk;exact⟨.int .u8 b.toNat,by rw[strCells,Nat.mul_one,Nat.add_zero,aOP,hb];rfl,rfl,.pv (.int _ _)⟩
 |succ k=>simp at hk
theorem KT(ho:o.op=.call {callee:=.builtin .append,args:=#[x,y],argTypes:=#[T,S]})(hT:P.underlying T=some (.slice e))(hS:P.underlying S=some .string)(hinf:WO P e 1 1)(hz0:∀i,P.info? e=some i->i.zero=some (.int .u8 0))
  (hx:aO E x=some (.osl id g 0 n)) (hH:H.get id=some ob) (hg:ob.g=g) (hosz:ob.sz=1) (hty:ob.ty=e) (hn:ob.rows.length=n)
  (hy:aO E y=some (.pv (.str s))) (hmax:n+s.size<=140737488355328)
  (hH2:H.set id ⟨g+1,1,e,ob.rows++dQ s.data.toList⟩=H2):cH P N o E H (.osl id (g+1) 0 (n+s.size)) H2:=by
 intro a w I ι _ _ hr he K Q hk;obtain ⟨i,z,hi,hz,hsize,hby,hzs,hsz0⟩:=hinf;have hzi:=hz0 i hi;subst hg hty hn hH2;have hlen2:(dQ s.data.toList).length=s.size:=by simp[dQ]
 have hml:ob.rows.length+s.size<=maxLen:=by simp only[maxLen];omega
 have h1:(H.set id ⟨ob.g+1,1,ob.ty,ob.rows++dQ s.data.toList⟩).get id=some ⟨ob.g+1,1,ob.ty,ob.rows++dQ s.data.toList⟩:=aB.get_set_same _ _ _;have h2:∀j,j≠id->(H.set id ⟨ob.g+1,1,ob.ty,ob.rows++dQ s.data.toList⟩).get j=H.get j:=fun j hj=>aB.get_set_other _ _ hj;have hpos:0<ob.sz:=mR (aI he hx) hH rfl;have p2:=((hr.obj id ob hH).cells hpos).2.1;rw[hosz]at p2;have hrl:∀r∈ob.rows++dQ s.data.toList,r.length=1:=fun r hr'=>by
  rcases List.mem_append.1 hr' with h|h
  ·exact p2 r h
  obtain ⟨b,_,rfl⟩:=List.mem_map.1 h;rfl
 have hys:=(aI he hy).str_inv;have fin:∀(v':Value) (w':World) (ι':dX),(Builtin.append_ #[T,S] o.type #[a.eval x,.string s]).run P w=.ok v' w'->VRel w' I ι' (H.set id ⟨ob.g+1,1,ob.ty,ob.rows++dQ s.data.toList⟩) v' (.osl id (ob.g+1) 0 (ob.rows.length+s.size)) ->
   Rel I ι' (H.set id ⟨ob.g+1,1,ob.ty,ob.rows++dQ s.data.toList⟩) w'->Step I ι H w I ι' (H.set id ⟨ob.g+1,1,ob.ty,ob.rows++dQ s.data.toList⟩) w'->o.wpW P a w K Q:=by
  intro v' w' ι' hrun k1 k2 k3;unfold Oper.wpW execOp;simp only[ho,resolve,invoke,builtin,Sem.run_bind,Sem.run_pure,Result.andThen_ok,List.map_toArray,List.map_cons,List.map_nil,hys,hrun];exact hk v' w' I ι' _ _ ⟨rfl,rfl⟩ k1 k2 k3
 have hvx:=aI he hx;obtain ⟨_,hcase⟩:=hU hvx hH rfl;rcases hcase with⟨b,cap,oo,c1,c2,c3⟩|⟨c1,c2,_,c4⟩
 ·obtain ⟨p1,_,⟨b',cap',cs,e1,e2,e3,e4,e5,e5',e6⟩|⟨e1,_⟩⟩:=(hr.obj id ob hH).cells hpos
  ·rw [c1] at e1;cases e1;rw [hosz] at e4 e6;have hoo:oo=0:=by rw [c3 (by omega)];simp
   subst hoo;rw[Nat.sub_zero]at c2;have olds:pC w I ι H 1 (cs.toList.take (ob.rows.length*1)) ob.rows:=by
    intro i' r hi' k a' hk';obtain ⟨u,q1,q2,q3⟩:=e6 i' r hi' k a' hk';have hk2:k<1:=by rw[<-p2 r (aOF hi')];exact(aNz.1 hk').1
    have hi2:i'<ob.rows.length:=(aNz.1 hi').1;exact⟨u,by rw[List.getElem?_take,aNu (by omega)];simpa using q1,q2,q3⟩
   have holen:(cs.toList.take (ob.rows.length*1)).length=ob.rows.length*1:=by simp;omega
   have hslen:(strCells s).length=s.size:=strCells_length s;by_cases hroom:ob.rows.length+s.size<=cap
   ·have hrun:=run_append_room_string (P:=P) w T S o.type ob.ty i hT hS hi hsize b ob.rows.length cap cs e2 s hroom (by omega);obtain ⟨k2,k3⟩:=Rel.update (H':=H.set id ⟨ob.g+1,1,ob.ty,ob.rows++dQ s.data.toList⟩) (ob':=⟨ob.g+1,1,ob.ty,ob.rows++dQ s.data.toList⟩)
     (cs':=(cs.toList.take ob.rows.length++strCells s++cs.toList.drop (ob.rows.length+s.size)).toArray) hr hH c1 e2 (by simp) hosz.symm rfl (fun e=>by simp at e) (by
      simp only[List.size_toArray,aNw,aOJ,aOK,Array.length_toList,hslen,hosz];omega) (by simp only[aNw,hlen2];exact hroom) (by rw[hosz];exact hrl) (fun i' r hi' k a' hk'=>by
       have:=pC.app (l3:=cs.toList.drop (ob.rows.length+s.size)) olds holen (xJ (H:=H) s) i' r hi' k a' hk';rw[hosz]
       simpa[List.append_assoc]using this) h1 h2
    exact fin _ _ ι (by rw[c2];exact hrun) (.osl _ h1 (aOB _) rfl fun _=>⟨Nat.zero_lt_one,by simp[hlen2],.inl ⟨b,cap,0,c1,by simp,fun _=>by simp⟩⟩) k2 k3
   have holds:∀j v,(cs.toList.take ob.rows.length)[j]?=some v->w.cell? ((⟨b,0,none⟩:Addr).add j)=some v:=by
    intro j v hv;rw[Addr.add_lit,aON,cell_of_row w b _ cs ob.ty (0,0) e2];rw[List.getElem?_take]at hv
    split at hv
    ·simpa using hv
    cases hv
   have hrun:=run_append_grow_string (P:=P) w T S o.type ob.ty i (.int .u8 0) hT hS hi hzi ⟨b,0,none⟩ ob.rows.length cap _ (by rw[hsize];simpa using holen) holds s (by omega) (by omega) (growslice_fits (by omega) (by rw[hby];omega));have hge:=grownCap_ge w (ob.rows.length+s.size) cap ob.ty;have hcm:=grownCap_le_maxLen w (ob.rows.length+s.size) cap ob.ty hml;have hz1:(Value.int IntKind.u8 0).cells.size=1:=rfl;obtain ⟨k2,k3⟩:=Rel.place (H':=H.set id ⟨ob.g+1,1,ob.ty,ob.rows++dQ s.data.toList⟩) (id:=id) (cap:=grownCap w (ob.rows.length+s.size) cap ob.ty) (ob':=⟨ob.g+1,1,ob.ty,ob.rows++dQ s.data.toList⟩)
    (cs':=(cs.toList.take ob.rows.length).toArray++(strCells s).toArray++Builtin.zeroCells (Value.int .u8 0).cells (grownCap w (ob.rows.length+s.size) cap ob.ty - (ob.rows.length+s.size)))
    (w':=w.drew.alloc (.cells ((cs.toList.take ob.rows.length).toArray++(strCells s).toArray++Builtin.zeroCells (Value.int .u8 0).cells (grownCap w (ob.rows.length+s.size) cap ob.ty - (ob.rows.length+s.size))) ob.ty)) hr rfl rfl rfl rfl
    (fun o' ho'=>by rw[hH]at ho';cases ho';simp) Nat.zero_lt_one (by
     simp only[Array.size_append,List.size_toArray,size_zeroCells,hz1,hslen,aOJ,Array.length_toList];omega) (by simp only[aNw,hlen2];exact hge) hcm hrl (fun i' r hi' k a' hk'=>by
      obtain ⟨u,q1,q2,q3⟩:=pC.app (l3:=(Builtin.zeroCells (Value.int .u8 0).cells (grownCap w (ob.rows.length+s.size) cap ob.ty - (ob.rows.length+s.size))).toList) olds holen (xJ (H:=H) s) i' r hi' k a' hk';refine⟨u,?_,q2,q3⟩;rw[<-Array.getElem?_toList]
      simpa[List.append_assoc]using q1) h1 h2
   exact fin _ _ _ (by rw[c2];exact hrun) (.osl _ h1 (aOB _) rfl fun _=>⟨Nat.zero_lt_one,by simp[hlen2],.inl ⟨w.heap.size,_,0,by simp;rfl,by simp,fun _=>by simp⟩⟩) k2 k3
  rw[c1]at e1;cases e1
 have hnil:ob.rows=[]:=List.eq_nil_of_length_eq_zero c4;by_cases h0:s.size=0
 ·have hb0:dQ s.data.toList=[]:=List.eq_nil_of_length_eq_zero (by rw[hlen2];exact h0);have hrun:(Builtin.append_ #[T,S] o.type #[.slice none 0 0,.string s]).run P w=.ok (.slice none 0 0) w:=by
   have hf:=run_firstCells_string (P:=P) w 1 s;rw[h0]at hf;simp[Builtin.append_,run_underlying hT,run_underlying hS,sizeOf,typeInfo,hi,hsize,Builtin.lenOf,h0,hf]
  obtain ⟨k2,k3⟩:=Rel.tick (H':=H.set id ⟨ob.g+1,1,ob.ty,ob.rows++dQ s.data.toList⟩) (ob':=⟨ob.g+1,1,ob.ty,ob.rows++dQ s.data.toList⟩) hr hH (by simp) hosz.symm rfl (by simp[hb0]) h1 h2;exact fin _ _ ι (by rw[c2];exact hrun) (.osl _ h1 (aOB _) rfl fun _=>⟨Nat.zero_lt_one,by simp[hlen2],.inr ⟨c1,rfl,rfl,by simp[hnil,h0]⟩⟩) k2 k3
 have hr0:=run_append_nil_string (P:=P) w T S o.type ob.ty i (.int .u8 0) hT hS hi hzi s (by omega) (by omega) (by rw[hby];omega);have hslen:(strCells s).length=s.size:=strCells_length s;have e1:(s.data.map fun b=>Value.int .u8 b.toNat)=(strCells s).toArray:=by
  apply Array.ext';simp[strCells]
 rw[e1]at hr0;have hml0:s.size<=maxLen:=by omega
 have hge:=grownCap_ge w s.size 0 ob.ty;have hcm:=grownCap_le_maxLen w s.size 0 ob.ty hml0;have hz1:(Value.int IntKind.u8 0).cells.size=1:=rfl;obtain ⟨k2,k3⟩:=Rel.place (H':=H.set id ⟨ob.g+1,1,ob.ty,ob.rows++dQ s.data.toList⟩) (id:=id) (cap:=grownCap w s.size 0 ob.ty) (ob':=⟨ob.g+1,1,ob.ty,ob.rows++dQ s.data.toList⟩)
  (cs':=(strCells s).toArray++Builtin.zeroCells (Value.int .u8 0).cells (grownCap w s.size 0 ob.ty - s.size))
  (w':=w.drew.alloc (.cells ((strCells s).toArray++Builtin.zeroCells (Value.int .u8 0).cells (grownCap w s.size 0 ob.ty - s.size)) ob.ty)) hr rfl rfl rfl rfl
  (fun o' ho'=>by rw[hH]at ho';cases ho';simp) Nat.zero_lt_one (by
   simp only[Array.size_append,List.size_toArray,size_zeroCells,hz1,hslen];omega) (by simp only[aNw,hlen2,hnil,List.length_nil,aON];exact hge) hcm hrl (fun i' r hi' k a' hk'=>by
    simp only[hnil,List.nil_append]at hi';obtain ⟨u,q1,q2,q3⟩:=xJ (w:=w) (I:=I) (ι:=ι) (H:=H) s i' r hi' k a' hk';have hlt:=(aNz.1 q1).1;refine⟨u,?_,q2,q3⟩;rw[Array.getElem?_append_left (by simpa using hlt)]
    simpa using q1) h1 h2
 exact fin _ _ _ (by rw[c2];exact hr0) (.osl _ h1 (aOB _) rfl fun _=>⟨Nat.zero_lt_one,by simp[hlen2],.inl ⟨w.heap.size,_,0,by simp;rfl,by simp[hnil],fun _=>by simp⟩⟩) k2 k3
theorem rN(ho:o.op=.call {callee:=.builtin .append,args:=#[x,y],argTypes:=#[T,S]})(hSl:eG P T e 1)(hS:P.underlying S=some .string)(hinf:EI P e 1 1)(hz0:∀i,P.info? e=some i->i.zero=some (.int .u8 0))
  (hx:aO E x=some (.osl id g 0 n)) (hH:H.get id=some ob) (hg:ob.g=g) (hosz:ob.sz=1) (hty:ob.ty=e) (hn:ob.rows.length=n)
  (hy:aO E y=some (.pv (.str s))) (hmax:n+s.size<=140737488355328) (hk:n+s.size=k) (hrows:ob.rows++dQ s.data.toList=rows') :
  cH P N o E H (.osl id (g+1) 0 k) ((id,⟨g+1,1,e,rows'⟩)::H):=by
 subst hk hrows;exact cH.congr (KT ho hSl.1 hS hinf.1 hz0 hx hH hg hosz hty hn hy hmax rfl) (fun j=>sX _ _ _ j)
end
end
section
section
def ES(ob:Ob):Ob:=⟨ob.g+1,ob.sz,ob.ty,[]⟩
def qT(ι:dX)(id:Nat):dX:=fun x=>if x=id then none else ι x
theorem Step.dead(hH:H.get id=some ob):Step I ι H w (mL I ι id) (qT ι id) ((id,ES ob)::H) w where
 os:=rfl
 tape:=rfl
 output:=rfl
 size:=aOB _
 froz:=fun _ _ _=>rfl
 imm:=fun _ h=>.inl h
 immNew:=fun b hb=>by
  rcases hb with hb|⟨cap,hb⟩
  ·exact .inl hb
  exact .inr (.inl ⟨id,ob,cap,hH,hb⟩)
 own:=fun b hb=>by
  obtain ⟨j,o,cap,hj,hi⟩:=hb;by_cases e:j=id
  ·rw[qT,aNu e]at hi;cases hi
  rw[qT,aNt e]at hi;rw[get_cons_other _ _ e]at hj;exact .inl ⟨j,o,cap,hj,hi⟩
 keep:=fun _ _ _=>rfl
 objs:=fun j o hj=>by
  by_cases e:j=id
  ·subst e;rw[hH]at hj;cases hj;exact⟨ES ob,get_cons_same _ _ _,Nat.le_succ _,fun h=>absurd h (by simp[ES])⟩
  exact⟨o,by rw[get_cons_other _ _ e];exact hj,aOB _,fun _=>⟨aNt e,rfl,fun _=>aOB _⟩⟩
theorem Rel.dead(hr:Rel I ι H w)(hH:H.get id=some ob)(hsz:0<ob.sz):Rel (mL I ι id) (qT ι id) ((id,ES ob)::H) w:=by
 have hst:=Step.dead (w:=w) (I:=I) (ι:=ι) hH;refine⟨fun b hb=>?_,fun j o hj=>?_,fun j j' o o' b c c' hj hj' hi hi'=>?_,hr.glob.mono (fun _ _=>rfl) (fun _ h=>.inl h)⟩
 ·rcases hb with hb|⟨cap,hb⟩
  ·exact hr.imm b hb
  exact hr.lt ⟨id,ob,cap,hH,hb⟩
 ·by_cases e:j=id
  ·subst e;rw[get_cons_same]at hj;cases hj;exact .inl ⟨hsz,by simp[ES],.inr ⟨aNu rfl,rfl⟩⟩
  rw[get_cons_other _ _ e]at hj;refine(hr.obj j o hj).keep (aNt e) (fun b cap e1 _=>⟨rfl,fun h=>?_⟩) (fun r _ a _ v hv=>hv.mono hr hst);rintro(hb|⟨cap',hb⟩)
  ·exact h hb
  exact e (hr.inj j id o ob b cap cap' hj hH e1 hb)
 have n1:j≠id:=fun e=>by rw[qT,aNu e]at hi;cases hi
 have n2:j'≠id:=fun e=>by rw[qT,aNu e]at hi';cases hi'
 rw[qT,aNt n1]at hi;rw[qT,aNt n2]at hi';rw[get_cons_other _ _ n1]at hj;rw[get_cons_other _ _ n2]at hj';exact hr.inj j j' o o' b c c' hj hj' hi hi'
theorem aH.retire{args':List AV}{Q:AV->aB->Prop}(ps:List (List PV))(h:aH P f args' ((id,ES ob)::H) Q)(hH:H.get id=some ob)(hsz:Nat.blt 0 ob.sz=true)(hps:ob.rows=ps.map (·.map .pv))
  (hl:args.length=args'.length) (hz:∀(i:Nat) (a a':AV),args[i]?=some a->args'[i]?=some a'->a=a'\/∃off len,a=.osl id ob.g off len/\a'=.pv (.sl ((ps.take (off+len)).drop off))):aH P f args H Q:=by
 intro I ι w vs hr hlen hv;have hst:=Step.dead (w:=w) (I:=I) (ι:=ι) hH;refine(h _ _ w vs (hr.dead hH (by simpa[Nat.blt_eq]using hsz)) (by omega) ?_).mono ?_
 ·intro i v a' hi ha';have hlt:i<args.length:=by
   have:=(aNz.1 ha').1;omega
  have hva:=hv i v _ hi (aOA hlt);rcases hz i _ a' (aOA hlt) ha' with e|⟨off,len,e1,e2⟩
  ·rw[e]at hva;exact hva.mono hr hst
  rw[e1]at hva;rw[e2];exact .pv (AW hr hH hps hva)
 rintro e w' ⟨r,H',I',ι',v,rfl,q,k1,k2,k3⟩;exact⟨r,H',I',ι',v,rfl,q,k1,k2,hst.trans k3⟩
end
end
section
def aET(v:Value):Prop:=∃p,v=.pointer p
theorem UW{s:Nat}(hc:P.cellsOf e=s+1)(count:Nat)(hn:1<=count):liesAt P P.depth e count 0 e 1=true:=by have hd:P.depth=(2*(P.types.size+Made.depth)+1)+1:=rfl;rw[hd];simp only[liesAt,Bool.or_eq_true];left;rw[hd];simp[rowAt,hc,hn,sameLayout]
theorem F1(hr:Rel I ι H w)(h:VRel w I ι H v (.ref id g 0 0))(hH:H.get id=some ob)(hg:ob.g=g)(hne:ob.rows≠[]):
  ∃b cap,v=.pointer (some ⟨b,0,none⟩)/\w.shape? b=some (ob.ty,cap*ob.sz)/\0<cap/\0<ob.sz:=by
 obtain ⟨b,cap,e1,e2⟩:=mG h hH hg;have hz:=KG h hH hg;obtain ⟨_,_,⟨b',cap',cs,f1,f2,f3,f4,f5,_⟩|⟨f1,_⟩⟩:=(hr.obj id ob hH).cells hz
 ·rw[e1]at f1;cases f1;refine⟨b,cap,by rw[e2];simp,by simp[World.shape?,f2,f4],?_,hz⟩;have:0<ob.rows.length:=List.length_pos_iff.2 hne;omega
 rw[e1]at f1;cases f1
theorem VRel.sat_inv{p:Value->Prop}(h:VRel w I ι H v (.pv (.sat p))):p v:=by
 have:=h.pv_inv;cases this with
 |sat h1 h2=>exact h2
section
variable{N:Nat}{o:Oper}{E:bS}{S T t t' e:TypeId}{x y:Operand}
theorem wQ{t:TypeId}(h:(P.info? t).map (·.size)=some n):∃j,P.info? t=some j/\j.size=n:=by
 cases hi:P.info? t with
 |none=>rw[hi]at h;cases h
 |some j=>rw[hi]at h;exact⟨j,rfl,Option.some.inj h⟩
theorem CA(ho:o.op=.convert S T x)(hS:P.underlying S=some (.pointer t))(hT:P.underlying T=some .unsafePointer)(hi:(P.info? t).map (·.size)=some (n+1))(hx:aO E x=some (.ref id g 0 0))(hH:H.get id=some ob)(hg:ob.g=g)(hne:ob.rows≠[]):cH P N o E H (.ref id g 0 0) H :=.of_run fun a w I ι hr he=>by
  have hv:=aI he hx;obtain ⟨b,cap,e1,e2,e3,e4⟩:=F1 hr hv hH hg hne;obtain ⟨j,h1,h2⟩:=wQ hi;rw[e1]at hv;have hpos:0<cap*ob.sz:=Nat.mul_pos e3 e4;refine⟨_,?_,hv⟩;simp only[execOp,ho,e1];rw[Sem.run_bind,Lib.run_to_unsafe w ⟨b,0,none⟩ hS hT h1 (by omega) e2 hpos];rfl
theorem ID(ho:o.op=.convert S T x)(hS:P.underlying S=some .unsafePointer)(hT:P.underlying T=some (.pointer t))(hi:(P.info? t).map (·.size)=some (n+1))(hx:aO E x=some (.ref id g 0 0))(hH:H.get id=some ob)(hg:ob.g=g)(hne:ob.rows≠[])(hty:ob.ty=t)(hsz:ob.sz=n+1):cH P N o E H (.ref id g 0 0) H :=.of_run fun a w I ι hr he=>by
  have hv:=aI he hx;obtain ⟨b,cap,e1,e2,e3,e4⟩:=F1 hr hv hH hg hne;obtain ⟨j,h1,h2⟩:=wQ hi;rw[e1]at hv;have hc:P.cellsOf t=n+1:=by simp[Program.cellsOf,h1,h2]
  refine⟨_,?_,hv⟩;simp only[execOp,ho,e1];rw[hty]at e2;rw[Sem.run_bind,Lib.run_from_unsafe w ⟨b,0,none⟩ hS hT h1 e2 (UW hc _ (by rw[hc,hsz,Nat.mul_div_cancel _ (by omega)];exact e3))];rfl
theorem D8(ho:o.op=.binOp .neq t x y t')(ht:P.underlying t=some (.pointer e))(hi:(P.info? e).map (·.size)=some (n+1))(hx:aO E x=some (.ref id g i k))(hy:aO E y=some (.ref id g i k))(hH:H.get id=some ob)(hg:ob.g=g):cH P N o E H (.pv (.bool false)) H :=.of_run fun a w I ι _ he=>⟨.bool false,by
  obtain ⟨b,cap,q1,e1⟩:=mG (aI he hx) hH hg;obtain ⟨b',cap',q2,e2⟩:=mG (aI he hy) hH hg;rw[q1]at q2;cases q2;obtain ⟨j,h1,h2⟩:=wQ hi;simp only[execOp,ho,e1,e2,eqGuard_at_pointer,Sem.run_bind,Sem.run_pure,Result.andThen_ok,Lib.run_neq_ptr_same w _ ht h1],.pv (.bool _)⟩
theorem VC(v:AV):aHw P Extern.AbiNoEscape.same H [v] v:=by
 intro w I ι cs hl h;obtain ⟨l⟩:=cs
 match l,hl with
 | [u],_=>exact⟨u,rfl,h 0 u v rfl rfl⟩
theorem CC(ho:o.op=.call {callee:=.builtin .unsafeSliceData,args:=#[x],argTypes:=#[T]})(hx:aO E x=some (.osl id g 0 n))(hH:H.get id=some ob)(hg:ob.g=g)(hn:0<n):cH P N o E H (.ref id g 0 0) H :=.of_run fun a w I ι hr he=>by
  have hv:=aI he hx;have hz:=mR hv hH hg;obtain ⟨hl,⟨b,cap,oo,e1,e2,e3⟩|⟨_,_,_,e4⟩⟩:=hU hv hH hg
  ·obtain ⟨_,_,⟨b',cap',cs,f1,f2,f3,f4,f5,_⟩|⟨f1,_⟩⟩:=(hr.obj id ob hH).cells hz
   ·rw[e1]at f1;cases f1;obtain rfl:oo=0:=by rw[e3 (.inr rfl)];simp
    refine⟨.pointer (some ⟨b,0,none⟩),?_,.ref ob hH (Nat.le_of_eq hg.symm) rfl fun _=>⟨hz,b,cap,e1,by simp⟩⟩;have hc:cap≠0:=by omega
    simp[execOp,ho,resolve,invoke,builtin,e2,Lib.run_unsafeSliceData_row w _ _ _ _ _ hc]
   rw[e1]at f1;cases f1
  omega
theorem AK(ho:o.op=.call {callee:=.builtin .unsafeSliceData,args:=#[x],argTypes:=#[T]})(hp:P.underlying o.type=some (.pointer e))(hx:aO E x=some (.osl id g 0 0))(hH:H.get id=some ob)(hg:ob.g=g):cH P N o E H (.pv (.sat aET)) H:=by
 intro a w I ι _ _ hr he K Q hk;have hv:=aI he hx;have hz:=mR hv hH hg;have fin:∀(c:Value) (w':World),(Builtin.unsafeSliceData_ #[T] o.type #[a.eval x]).run P w=.ok c w'->aET c->Rel I ι H w'->Step I ι H w I ι H w'->o.wpW P a w K Q:=fun c w' hrun hc k1 k2=>by
  have hone:c.oneCell'=true:=by obtain ⟨p,rfl⟩:=hc;rfl
  unfold Oper.wpW;have:(execOp a.eval o).run P w=.ok (.value c) w':=by
   simp[execOp,ho,resolve,invoke,builtin,hrun]
  rw[this];exact hk c w' I ι _ H ⟨rfl,rfl⟩ (.pv (.sat hone hc)) k1 k2
 obtain ⟨hl,⟨b,cap,oo,e1,e2,e3⟩|⟨_,e2,_,e4⟩⟩:=hU hv hH hg
 ·by_cases hc:cap=0
  ·obtain ⟨_,_,⟨b',cap',cs,f1,f2,f3,f4,f5,_⟩|⟨f1,_⟩⟩:=(hr.obj id ob hH).cells hz
   ·rw[e1]at f1;cases f1;obtain ⟨k1,k2⟩:=hr.push (.view ⟨b,oo,none⟩ e);refine fin (.pointer (some ⟨w.heap.size,0,none⟩)) _ ?_ ⟨_,rfl⟩ k1 k2;rw[e2,hc];exact Lib.run_unsafeSliceData_zero w #[T] o.type e hp ⟨b,oo,none⟩ 0 (ob.ty,cs.size) (by simp[World.shape?,f2])
   rw[e1]at f1;cases f1
  refine fin (.pointer (some ⟨b,oo,none⟩)) _ ?_ ⟨_,rfl⟩ hr (Step.refl _ _ _ _);rw[e2];exact Lib.run_unsafeSliceData_row w #[T] o.type ⟨b,oo,none⟩ 0 _ (by omega)
 refine fin (.pointer none) _ ?_ ⟨_,rfl⟩ hr (Step.refl _ _ _ _);rw[e2];exact Lib.run_unsafeSliceData_nil w #[T] o.type 0 0
theorem uO(ho:o.op=.call {callee:=.builtin .unsafeString,args:=#[x,y],argTypes:=#[T,T2]})(hx:aO E x=some (.pv (.sat aET)))(hy:aO E y=some (.pv (.int .i64 0))):cH P N o E H (.pv (.str ⟨#[]⟩)) H :=.of_run fun a w I ι hr he=>by
  have h2:=(aI he hy).int_inv;have h1:=(aI he hx).sat_inv;obtain ⟨p,hp⟩:=h1;refine⟨_,?_,.pv (.str _)⟩;simp[execOp,ho,resolve,invoke,builtin,hp,h2,Lib.run_unsafeString_none w T T2 o.type p];rfl
theorem Rel.lost{w':World}(hr:Rel I ι H w)(hH:H.get id=some ob)(hz:0<ob.sz)(hι:ι id=some (b,cap))(hos:w'.os=w.os)(htape:w'.tape=w.tape)(hout:w'.output=w.output)(hsize:w'.heap.size=w.heap.size)
  (hw:∀c,c≠b->w'.heap[c]?=w.heap[c]?):Rel I (qT ι id) ((id,ES ob)::H) w'/\Step I ι H w I (qT ι id) ((id,ES ob)::H) w':=by
 have hown:H9 ι H b:=⟨id,ob,cap,hH,hι⟩;have hst:Step I ι H w I (qT ι id) ((id,ES ob)::H) w':=by
  refine⟨hos,htape,hout,by omega,fun a _ hn=>?_,fun _ h=>h,fun _ h=>.inl h,fun c hc=>?_,fun c _ hn=>hw c (fun e=>hn (e▸hown)),fun j o hj=>?_⟩
  ·unfold World.frozen?;rw[hw a.block (fun e=>hn (by rw[e];exact hown))]
  ·obtain ⟨j,o,cp,hj,hi⟩:=hc;by_cases e:j=id
   ·rw[qT,aNu e]at hi;cases hi
   rw[qT,aNt e]at hi;rw[get_cons_other _ _ e]at hj;exact .inl ⟨j,o,cp,hj,hi⟩
  by_cases e:j=id
  ·subst e;rw[hH]at hj;cases hj;exact⟨ES ob,get_cons_same _ _ _,Nat.le_succ _,fun h=>absurd h (by simp[ES])⟩
  exact⟨o,by rw[get_cons_other _ _ e];exact hj,aOB _,fun _=>⟨aNt e,rfl,fun _=>aOB _⟩⟩
 refine⟨⟨fun c hc=>by rw[hsize];exact hr.imm c hc,fun j o hj=>?_,fun j j' o o' c d d' hj hj' hi hi'=>?_,hst.glob hr⟩,hst⟩
 ·by_cases e:j=id
  ·subst e;rw[get_cons_same]at hj;cases hj;exact .inl ⟨hz,by simp[ES],.inr ⟨aNu rfl,rfl⟩⟩
  rw[get_cons_other _ _ e]at hj;exact(hr.obj j o hj).keep (aNt e) (fun c d e1 _=>⟨hw c (fun hc=>e (hr.inj j id o ob b d cap hj hH (by rw[<-hc];exact e1) hι)),fun h=>h⟩) (fun r _ a _ v hv=>hv.mono hr hst)
 have n1:j≠id:=fun e=>by rw[qT,aNu e]at hi;cases hi
 have n2:j'≠id:=fun e=>by rw[qT,aNu e]at hi';cases hi'
 rw[qT,aNt n1]at hi;rw[qT,aNt n2]at hi';rw[get_cons_other _ _ n1]at hj;rw[get_cons_other _ _ n2]at hj';exact hr.inj j j' o o' c d d' hj hj' hi hi'
theorem wE{l:List UInt8}(ho:o.op=.call {callee:=.builtin .unsafeString,args:=#[x,y],argTypes:=#[T,T2]})(hT:P.underlying T=some (.pointer e))(hi:(P.info? e).map (·.size)=some 1)(hx:aO E x=some (.ref id g 0 0))(hy:aO E y=some (.pv (.int .i64 n)))
  (hH:H.get id=some ob) (hg:ob.g=g) (hsz:ob.sz=1) (hty:ob.ty=e) (hrows:ob.rows=dQ l) (hl:l.length=n) (hn:0<n) (hn2:n<=9223372036854775807) (hs:(⟨l.toArray⟩:ByteArray)=s):cH P N o E H (.pv (.str s)) ((id,ES ob)::H):=by
 subst hs hl;intro a w I ι _ _ hr he K Q hk;have hv:=aI he hx;obtain ⟨b,cap,e1,e2⟩:=mG hv hH hg;have h2:=(aI he hy).int_inv;obtain ⟨j,h3,h4⟩:=wQ hi;have hc:P.cellsOf e=1:=by simp[Program.cellsOf,h3,h4]
 have hlen:ob.rows.length=l.length:=by rw[hrows];simp[dQ]
 obtain ⟨_,_,⟨b',cap',cs,f1,f2,f3,f4,f5,_,f6⟩|⟨f1,_⟩⟩:=(hr.obj id ob hH).cells (by omega)
 ·rw[e1]at f1;cases f1;rw[hsz,Nat.mul_one]at f4;have hcell:∀j x,l[j]?=some x->w.cell? ((⟨b,0,none⟩:Addr).add j)=some (.int .u8 x.toNat):=fun j x hj=>by
   obtain ⟨v,q1,_,q3⟩:=f6 j [.pv (.int .u8 x.toNat)] (by rw[hrows,dQ,aOP,hj];rfl) 0 _ rfl;rw[hsz,Nat.mul_one,Nat.add_zero,q3.int_inv]at q1;rw[Addr.add_lit,aON,cell_of_row w b _ cs ob.ty (0,0) f2];exact q1
  have hrun:=Lib.run_unsafeString_row (P:=P) w T T2 o.type e hT hc b cs.size (by rw[<-hty];simp[World.shape?,f2]) l (fun h0=>by rw[h0]at hn;exact Nat.lt_irrefl _ hn) (by omega) hn2 hcell;have hw:∀c,c≠b->(w.freeze ⟨b,0,none⟩ l.length).heap[c]?=w.heap[c]?:=fun c hcb=>by
   unfold World.freeze
   split
   ·rfl
   simp only[Array.getElem?_modify];rw[aNt (fun h=>hcb h.symm)]
  obtain ⟨k1,k2⟩:=hr.lost (w':=w.freeze ⟨b,0,none⟩ l.length) hH (by omega) e1 (by unfold World.freeze;split<;>rfl) (by unfold World.freeze;split<;>rfl) (by unfold World.freeze;split<;>rfl) (by unfold World.freeze;split<;>simp) hw;unfold Oper.wpW;have:(execOp a.eval o).run P w=.ok (.value (.string ⟨l.toArray⟩)) (w.freeze ⟨b,0,none⟩ l.length):=by
   rw[hsz]at e2;simp[execOp,ho,resolve,invoke,builtin,e2,h2,hrun]
  rw[this];exact hk _ _ I (qT ι id) _ _ ⟨rfl,rfl⟩ (.pv (.str _)) k1 k2
 rw[e1]at f1;cases f1
end
end
section
theorem oA(h:VRel w I ι H v (.osc id g off len c))(hH:H.get id=some ob)(hg:ob.g=g):
  0<ob.sz/\len<=c/\((∃b oo,ι id=some (b,off+c)/\v=.slice (some ⟨b,oo,none⟩) len c/\(0<c\/off=0->oo=off*ob.sz))\/(ι id=none/\v=.slice none 0 0/\off=0/\len=0/\c=0)):=by
 cases h with
 |osc o' h1 h2 _ h3 =>
  rw[hH]at h1;cases h1;exact h3 hg
theorem aAG(hr:Rel I ι H w)(h:VRel w I ι H v (.osl id g off len))(hH:H.get id=some ob)(hg:ob.g=g):
  ∃c,len<=c/\c<=maxLen/\VRel w I ι H v (.osc id g off len c):=by
 have hz:=mR h hH hg;obtain ⟨h1,⟨b,cap,oo,h2,h3,h4⟩|⟨h2,h3,h4,h5⟩⟩:=hU h hH hg
 ·obtain ⟨_,_,⟨b',cap',cs,e1,e2,e3,e4,e5,e6,e7⟩|⟨e1,_⟩⟩:=(hr.obj id ob hH).cells hz
  ·rw[h2]at e1;cases e1;refine⟨cap - off,by omega,by omega,?_⟩;subst h3;refine .osc ob hH (by omega) rfl fun _=>⟨hz,by omega,.inl ⟨b,oo,?_,rfl,fun hh=>h4 (by omega)⟩⟩;rw[h2];congr 2;omega
  rw[h2]at e1;cases e1
 subst h3 h4 h5;exact⟨0,aOB _,aOM _,.osc ob hH (by omega) rfl fun _=>⟨hz,aOB _,.inr ⟨h2,rfl,rfl,rfl,rfl⟩⟩⟩
theorem aGg(h:VRel w I ι H v (.osc id g off len c))(hH:H.get id=some ob)(hg:ob.g=g)(hl:off+len<=ob.rows.length):
  VRel w I ι H v (.osl id g off len):=by
 obtain ⟨hz,h1,⟨b,oo,h2,h3,h4⟩|⟨h2,h3,h4,h5,h6⟩⟩:=oA h hH hg
 ·subst h3;refine .osl ob hH (by omega) rfl fun _=>⟨hz,hl,.inl ⟨b,off+c,oo,h2,?_,fun hh=>h4 (by omega)⟩⟩;congr 1;omega
 subst h3 h4 h5;exact .osl ob hH (by omega) rfl fun _=>⟨hz,hl,.inr ⟨h2,rfl,rfl,rfl⟩⟩
section
variable{N:Nat}{Q:Exit->bS->aB->Prop}{E:bS}{code:Code}
theorem aCJ(hx:E.get t=some (.osc id g off n c))(hH:H.get id=some ob)(hg:ob.g=g)(hl:off+n<=ob.rows.length)(h:fL P G0 N code Q ((t,.osl id g off n)::E) H):fL P G0 N code Q E H:=by
 intro G hG a w hs;obtain ⟨I,ι,hr,hst,he⟩:=hs.rel;obtain ⟨v,hv,hvr⟩:=he t _ hx;refine h G hG a w ⟨hs.defers,hs.size,I,ι,hr,hst,fun u x hu=>?_⟩;by_cases e:t=u
 ·subst e;rw[bS.get_cons_same]at hu;cases hu;exact⟨v,hv,aGg hvr hH hg hl⟩
 rw[bS.get_cons_other _ _ e]at hu;exact he u x hu
end
section
variable{N:Nat}{o:Oper}{E:bS}{T:TypeId}{x y:Operand}
theorem AO(ho:o.op=.call {callee:=.builtin .cap,args:=#[x],argTypes:=#[T]})(ht:P.underlying T=some (.slice e))(hx:aO E x=some (.osc id g off len c))(hH:H.get id=some ob)(hg:ob.g=g):cH P N o E H (.pv (.int .i64 c)) H :=.of_run fun a w I ι _ he=>⟨.int .i64 c,by
  obtain ⟨_,_,⟨b,oo,_,e1,_⟩|⟨_,e1,_,_,e2⟩⟩:=oA (aI he hx) hH hg
  ·simp[execOp,ho,resolve,invoke,builtin,e1,Builtin.cap_,run_underlying ht,goInt]
  simp[execOp,ho,resolve,invoke,builtin,e1,e2,Builtin.cap_,run_underlying ht,goInt],.pv (.int _ _)⟩
theorem AN(ho:o.op=.call {callee:=.builtin .len,args:=#[x],argTypes:=#[T]})(ht:P.underlying T=some (.slice e))(hx:aO E x=some (.osc id g off len c))(hH:H.get id=some ob)(hg:ob.g=g):cH P N o E H (.pv (.int .i64 len)) H :=.of_run fun a w I ι _ he=>⟨.int .i64 len,by
  obtain ⟨_,_,⟨b,oo,_,e1,_⟩|⟨_,e1,_,e2,_⟩⟩:=oA (aI he hx) hH hg
  ·simp[execOp,ho,resolve,invoke,builtin,e1,Builtin.len_,run_underlying ht,goInt]
  simp[execOp,ho,resolve,invoke,builtin,e1,e2,Builtin.len_,run_underlying ht,goInt],.pv (.int _ _)⟩
theorem TE{off2 c2:Nat}(ho:o.op=.slice T x lo hi none)(hS:eG P T e sz)(hx:aO E x=some (.osc id g off len c))
  (hH:H.get id=some ob) (hg:ob.g=g) (hsz:ob.sz=sz) (hlo:bnd E lo 0=some (l:Int)) (hhi:bnd E hi len=some (h:Int)) (h1:l<=h) (h2:h<=c) (ho2:off+l=off2) (hl2:h - l=len2) (hc2:c - l=c2):cH P N o E H (.osc id g off2 len2 c2) H :=
 .of_run fun a w I ι hr he=>by
  have hv:=aI he hx;obtain ⟨hz,hle,hcase⟩:=oA hv hH hg;have hT:=hS.1;have hs:=hS.2.1;have hTe:P.elem T=e:=by simp[Program.elem,hT]
  have hT':P.underlying T=some (.slice (P.elem T)):=by rw[hTe,hT]
  subst ho2 hl2 hc2 hsz;rcases hcase with⟨b,oo,h3,h4,h5⟩|⟨h3,h4,h5,h6,h7⟩
  ·have hb:=kH (P:=P) (b:=true) (len:=len) (cap:=c) he hlo hhi h1 h2;have hrun:=run_slice_any (P:=P) w T (some ⟨b,oo,none⟩) len c hT' (lo.map a.eval) (hi.map a.eval) none;refine⟨.slice (some ⟨b,if c=l then oo else oo+l*ob.sz,none⟩) (h - l) (c - l),?_,.osc ob hH (by omega) rfl fun _=>⟨hz,by omega,.inl ⟨b,_,?_,rfl,fun hlt=>?_⟩⟩⟩
   ·simp only[execOp,ho,h4];simp only[run_sliceAt_slice w T _ _ _ _ hT',Sem.run_bind,hrun,Option.map_none,hb,hTe,hs,sliced,Result.andThen_ok,Sem.run_pure];by_cases ec:c=l
    ·simp[ec]
    simp[ec,Addr.add_lit]
   ·rw[h3];congr 2;omega
   by_cases ec:off+l=0
   ·have e0:off=0:=by omega
    have e1:l=0:=by omega
    subst e0 e1;rw[h5 (by omega)];simp
   rw[aNt (by omega),h5 (by omega),Nat.add_mul]
  subst h5 h6 h7;have hh:h=0:=by omega
  have hl:l=0:=by omega
  subst hh hl;have hb:=kH (P:=P) (b:=true) (len:=0) (cap:=0) he hlo hhi h1 (by simp);have hrun:=run_slice_any (P:=P) w T none 0 0 hT' (lo.map a.eval) (hi.map a.eval) none;refine⟨.slice none 0 0,?_,.osc ob hH (by omega) rfl fun _=>⟨hz,by omega,.inr ⟨h3,rfl,rfl,rfl,rfl⟩⟩⟩;simp only[execOp,ho,h4];simp[run_sliceAt_slice w T _ _ _ _ hT',hrun,hb,hTe,hs,sliced]
def aKN(w:World)(I:Nat->Prop)(ι:dX)(H:aB)(sz:Nat)(v:Value)(len:Nat)(rows:List (List AV)):Prop :=(∃a c news,v=.slice (some a) len c/\rows.length<=len/\news.length=rows.length*sz/\(∀j u,news[j]?=some u->w.cell? (a.add j)=some u)/\(∀u∈news,u.oneCell'=true)/\pC w I ι H sz news rows) \/
 (v=.slice none 0 0/\len=0/\rows=[])
theorem pC.take{l:List Value}(h:pC w I ι H sz l rows)(hl:∀r∈rows,r.length=sz)(k:Nat):pC w I ι H sz (l.take (k*sz)) (rows.take k):=by
 intro i r hi j a hj;rw[List.getElem?_take]at hi
 split at hi
 ·obtain ⟨u,q1,q2,q3⟩:=h i r hi j a hj;have hjs:j<sz:=by rw[<-hl r (aOF hi)];exact(aNz.1 hj).1
  refine⟨u,?_,q2,q3⟩;rw[List.getElem?_take,aNu]
  ·exact q1
  have:(i+1)*sz<=k*sz:=Nat.mul_le_mul_right _ (by omega);rw[Nat.add_mul]at this;omega
 cases hi
theorem pC.drop{l:List Value}(h:pC w I ι H sz l rows)(k:Nat):pC w I ι H sz (l.drop (k*sz)) (rows.drop k):=by intro i r hi j a hj;rw[List.getElem?_drop]at hi;obtain ⟨u,q1,q2,q3⟩:=h _ r hi j a hj;refine⟨u,?_,q2,q3⟩;rw[List.getElem?_drop];rw[Nat.add_mul]at q1;rw[<-Nat.add_assoc];exact q1
theorem aCy(hr:Rel I ι H w)(h:VRel w I ι H v (.osc id g off len c))(hH:H.get id=some ob)(hg:ob.g=g)(hsz:ob.sz=sz)(k:Nat)(hk:k<=len)(hk2:off+k<=ob.rows.length):
  aKN w I ι H sz v len ((ob.rows.drop off).take k):=by
 obtain ⟨hz,h1,⟨b,oo,h2,h3,h4⟩|⟨h2,h3,h4,h5,h6⟩⟩:=oA h hH hg
 ·have hv:VRel w I ι H (.slice (some ⟨b,oo,none⟩) k c) (.osl id g off k) :=
   .osl ob hH (by omega) rfl fun _=>⟨hz,hk2,.inl ⟨b,off+c,oo,h2,by congr 1;omega,fun hh=>h4 (by omega)⟩⟩
  have hlen:((ob.rows.drop off).take k).length=k:=by rw[aOJ,aOK];omega
  rcases Z1 hr hv hH hg hsz with⟨a,c',news,s1,s2,s3,s4,s5⟩|⟨s1,s2⟩
  ·injection s1 with q1 q2 q3;injection q1 with q1;subst q1;exact .inl ⟨_,c,news,h3,by omega,s2,s3,s4,s5⟩
  cases s1
 subst h4 h5;have:k=0:=by omega
 subst this;exact .inr ⟨h3,rfl,by simp⟩
theorem Rel.write{g2:Nat}{cs:Array Value}{news:List Value}(hr:Rel I ι H w)(hH:H.get id=some ob)(hι:ι id=some (b,cap))(hb:w.heap[b]?=some (.cells cs ob.ty (0,0)))
  (hn:news.length=rows2.length*ob.sz) (hl:pC w I ι H ob.sz news rows2) (hl2:∀r∈rows2,r.length=ob.sz) (ho:off<=ob.rows.length) (hc:off+rows2.length<=cap) (hg2:ob.g<=g2)
  (h1:H'.get id=some ⟨g2,ob.sz,ob.ty,ob.rows.take off++(rows2++ob.rows.drop (off+rows2.length))⟩) (h2:∀j,j≠id->H'.get j=H.get j) :
  Rel I ι H' (w.setRow b (cs.toList.take (off*ob.sz)++news++cs.toList.drop (off*ob.sz+news.length)).toArray)/\Step I ι H w I ι H' (w.setRow b (cs.toList.take (off*ob.sz)++news++cs.toList.drop (off*ob.sz+news.length)).toArray):=by
 obtain ⟨p1,p2,⟨b',cap',cs',e1,e2,e3,e4,e5,e5',e6⟩|⟨e1,_⟩⟩:=(hr.obj id ob hH).cells ((hr.obj id ob hH).pos hι hb)
 ·rw[hι]at e1;cases e1;rw[hb]at e2;cases e2;have hall:pC w I ι H ob.sz cs.toList ob.rows:=fun i r hi k a hk=>by
   obtain ⟨v,q1,q2,q3⟩:=e6 i r hi k a hk;exact⟨v,by simpa using q1,q2,q3⟩
  have hoc:off<=cap:=by omega
  have hlt:(cs.toList.take (off*ob.sz)).length=(ob.rows.take off).length*ob.sz:=by
   have:off*ob.sz<=cap*ob.sz:=Nat.mul_le_mul_right _ hoc;rw[aOJ,aOJ,Array.length_toList,e4,Nat.min_eq_left this,Nat.min_eq_left ho]
  have hnl:off*ob.sz+news.length=(off+rows2.length)*ob.sz:=by rw[hn,Nat.add_mul]
  have htail:pC w I ι H ob.sz (news++(cs.toList.drop (off*ob.sz+news.length)++[])) (rows2++ob.rows.drop (off+rows2.length)):=by
   refine pC.app hl hn ?_;rw[hnl];exact hall.drop _
  rw[List.append_nil]at htail;have hfin:=pC.app (l3:=[]) (hall.take p2 off) hlt htail;rw[List.append_nil]at hfin;have hsize:(cs.toList.take (off*ob.sz)++news++cs.toList.drop (off*ob.sz+news.length)).toArray.size=cap*ob.sz:=by
   have:(off+rows2.length)*ob.sz<=cap*ob.sz:=Nat.mul_le_mul_right _ hc;simp only[List.size_toArray,aNw,aOJ,aOK,Array.length_toList,e4];omega
  refine Rel.update (ob':=⟨g2,ob.sz,ob.ty,ob.rows.take off++(rows2++ob.rows.drop (off+rows2.length))⟩) hr hH hι hb hg2 rfl rfl (fun _=>?_) hsize ?_ (fun r hr'=>?_) (fun i r hi k a hk=>?_) h1 h2
  ·simp only[aNw,aOJ,aOK];omega
  ·simp only[aNw,aOJ,aOK];omega
  ·rcases List.mem_append.1 hr' with h|h
   ·exact p2 r (List.mem_of_mem_take h)
   rcases List.mem_append.1 h with h|h
   ·exact hl2 r h
   exact p2 r (List.mem_of_mem_drop h)
  obtain ⟨u,q1,q2,q3⟩:=hfin i r hi k a hk;refine⟨u,?_,q2,q3⟩;rw[List.getElem?_toArray,List.append_assoc];exact q1
 rw[hι]at e1;cases e1
theorem OA(h:n=0):rows.take off++([]++rows.drop (off+n))=rows:=by subst h;simp
theorem aDm(ho:o.op=.call {callee:=.builtin .copy,args:=#[x,y],argTypes:=#[D,S]})(hS:eG P D e sz)
  (hd:∀(a:Act) (w:World) (I:Nat->Prop) (ι:dX),Rel I ι H w->iB w I ι H E a->∃c,VRel w I ι H (a.eval x) (.osc id g off len c)) (hH:H.get id=some ob) (hg:ob.g=g) (hsz:ob.sz=sz) (hoff:off<=ob.rows.length)
  (hsrc:∀(a:Act) (w:World) (I:Nat->Prop) (ι:dX),Rel I ι H w->iB w I ι H E a->aKN w I ι H sz (a.eval y) len2 rows2) (hrl2:∀r∈rows2,r.length=sz) (hn:rows2.length=n) (hmin:min len2 len=n)
  (hH2:∀j,H2.get j=(H.set id ⟨g,sz,ob.ty,ob.rows.take off++(rows2++ob.rows.drop (off+n))⟩).get j):cH P N o E H (.pv (.int .i64 n)) H2:=by
 intro a w I ι _ _ hr he K Q hk;obtain ⟨c,hv⟩:=hd a w I ι hr he;obtain ⟨hz,h1,hcase⟩:=oA hv hH hg;have hmin':Nat.min len2 len=n:=hmin;have hs:=hS.2.1;have hD:=hS.1;subst hg hsz;have hpure:n=0->(∀j,H2.get j=H.get j):=fun h0 j=>by
  rw[hH2 j];have hr0:rows2=[]:=List.eq_nil_of_length_eq_zero (by omega);subst hr0;rw[OA h0];by_cases e:j=id
  ·subst e;rw[aB.get_set_same,hH]
  exact aB.get_set_other _ _ e
 have hfirst:∀news:List Value,∀ad c',a.eval y=.slice (some ad) len2 c'->news.length=n*ob.sz->(∀j u,news[j]?=some u->w.cell? (ad.add j)=some u)->(Builtin.firstCells ob.sz n (a.eval y)).run P w=.ok news.toArray w:=fun news ad c' e1 e2 e3=>by
  rw[e1];exact run_firstCells_some (P:=P) w ob.sz n ad len2 c' news e2 e3
 rcases hcase with⟨b,oo,c1,c2,c3⟩|⟨c1,c2,c3,c4,c5⟩
 ·by_cases hn0:n=0
  ·obtain ⟨k2,k3⟩:=hr.congr (hpure hn0);have hrun:(execOp a.eval o).run P w=.ok (.value (.int .i64 ((0:Nat):Int))) w:=by
    unfold execOp;have hfc:(Builtin.firstCells ob.sz n (a.eval y)).run P w=.ok #[] w:=by
     rcases hsrc a w I ι hr he with⟨ad,c',news,s1,s2,s3,s4,s5,s6⟩|⟨s1,s2,s3⟩
     ·have:=hfirst news ad c' s1 (by rw[s3,hn]) s4;have hnn:news=[]:=List.eq_nil_of_length_eq_zero (by rw[s3,hn,hn0];simp);rw[this,hnn]
     rw[s1];exact run_firstCells_none (P:=P) (w:=w) ob.sz n 0 0
    have hlen:(Builtin.lenOf (a.eval y)).run P w=.ok len2 w:=by
     rcases hsrc a w I ι hr he with⟨ad,c',news,s1,s2,s3,s4,s5,s6⟩|⟨s1,s2,s3⟩
     ·rw[s1];rfl
     rw[s1,s2];rfl
    simp only[ho,resolve,invoke,builtin,Sem.run_bind,Sem.run_pure,Result.andThen_ok,List.map_toArray,List.map_cons,List.map_nil,c2,Builtin.copy_,run_underlying hD,hs];simp only[List.getElem?_toArray,List.getElem?_cons_zero,List.getElem?_cons_succ,run_underlying hD,Sem.run_bind,Sem.run_pure,Result.andThen_ok,hs,hlen,hmin',hfc];simp[storeCells,goInt,hn0]
   unfold Oper.wpW;rw[hrun];subst hn0;exact hk _ _ I ι _ _ ⟨rfl,rfl⟩ (.pv (.int _ _)) k2 k3
  obtain ⟨p1,p2,⟨b',cap',cs,e1,e2,e3,e4,e5,e5',e6⟩|⟨e1,_⟩⟩:=(hr.obj id ob hH).cells hz
  ·rw[c1]at e1;cases e1;have hoo:=c3 (by omega);subst hoo;rcases hsrc a w I ι hr he with⟨ad,c',news,s1,s2,s3,s4,s5,s6⟩|⟨s1,s2,s3⟩
   ·have hnl:news.length=n*ob.sz:=by rw[s3,hn]
    have hfc:=hfirst news ad c' s1 hnl s4;have hfit:off*ob.sz+0+news.length<=cs.size:=by
     rw[e4,hnl,Nat.add_zero,<-Nat.add_mul];exact Nat.mul_le_mul_right _ (by omega)
    have hst:=run_storeCells_at P b (off*ob.sz) ob.ty news 0 cs w e2 hfit s5;simp only[Nat.add_zero]at hst;obtain ⟨k2,k3⟩:=Rel.write (H':=H2) (off:=off) (g2:=ob.g) hr hH c1 e2 s3 s6 hrl2 hoff (by omega) (aOB _) (by rw[hH2,aB.get_set_same,hn]) (fun j hj=>by rw[hH2,aB.get_set_other _ _ hj]);unfold Oper.wpW execOp;simp only[ho,resolve,invoke,builtin,Sem.run_bind,Sem.run_pure,Result.andThen_ok,List.map_toArray,List.map_cons,List.map_nil,c2,Builtin.copy_,run_underlying hD,hs];have hlen:(Builtin.lenOf (a.eval y)).run P w=.ok len2 w:=by rw[s1];rfl
    simp only[List.getElem?_toArray,List.getElem?_cons_zero,List.getElem?_cons_succ,run_underlying hD,Sem.run_bind,Sem.run_pure,Result.andThen_ok,hs,hlen,hmin',hfc,hst];exact hk _ _ I ι _ _ ⟨rfl,rfl⟩ (.pv (.int _ _)) k2 k3
   omega
  rw[c1]at e1;cases e1
 have hn0:n=0:=by omega
 obtain ⟨k2,k3⟩:=hr.congr (hpure hn0);have hrun:(execOp a.eval o).run P w=.ok (.value (.int .i64 ((0:Nat):Int))) w:=by
  unfold execOp;have hfc:(Builtin.firstCells ob.sz n (a.eval y)).run P w=.ok #[] w:=by
   rcases hsrc a w I ι hr he with⟨ad,c',news,s1,s2,s3,s4,s5,s6⟩|⟨s1,s2,s3⟩
   ·have:=hfirst news ad c' s1 (by rw[s3,hn]) s4;have hnn:news=[]:=List.eq_nil_of_length_eq_zero (by rw[s3,hn,hn0];simp);rw[this,hnn]
   rw[s1];exact run_firstCells_none (P:=P) (w:=w) ob.sz n 0 0
  have hlen:(Builtin.lenOf (a.eval y)).run P w=.ok len2 w:=by
   rcases hsrc a w I ι hr he with⟨ad,c',news,s1,s2,s3,s4,s5,s6⟩|⟨s1,s2,s3⟩
   ·rw[s1];rfl
   rw[s1,s2];rfl
  rw[c4]at hmin';simp only[ho,resolve,invoke,builtin,Sem.run_bind,Sem.run_pure,Result.andThen_ok,List.map_toArray,List.map_cons,List.map_nil,c2,Builtin.copy_,run_underlying hD,hs];simp only[List.getElem?_toArray,List.getElem?_cons_zero,List.getElem?_cons_succ,run_underlying hD,Sem.run_bind,Sem.run_pure,Result.andThen_ok,hs,hlen,hmin',hfc];simp[storeCells,goInt,hn0]
 unfold Oper.wpW;rw[hrun];subst hn0;exact hk _ _ I ι _ _ ⟨rfl,rfl⟩ (.pv (.int _ _)) k2 k3
end
end
section
section
variable{N:Nat}{o:Oper}{E:bS}{T:TypeId}{x y:Operand}
theorem pD(t tn ty e:TypeId)(i:TypeInfo)(z:Value)(k kn:IntKind)(ht:P.underlying t=some (.slice e))(htn:P.underlying tn=some (.int kn))(hi:P.info? e=some i)(hz:i.zero=some z)
  (b:Option Addr) (sLen sCap:Nat) (olds:List Value) (hf:∀w:World,(∀a:Addr,w.cell? a=w.cell? a)->True) (hfo:(Builtin.firstCells i.size sLen (.slice b sLen sCap)).run P w.drew=.ok olds.toArray w.drew)
  (n:Nat) (h0:0<n) (hs:0<i.size) (hg:sCap<sLen+n) (h63:((sLen+n:Nat):Int)<=9223372036854775807) (hfit:Builtin.nextslicecap (sLen+n) sCap*i.bytes<=281474976710656) (h48:n*i.bytes<=281474976710656) :
  (Builtin.append_ #[t,tn] ty #[.slice b sLen sCap,.int k n]).run P w =
   .ok (.slice (some ⟨w.heap.size,0,none⟩) (sLen+n) (grownCap w (sLen+n) sCap e))
    (w.drew.alloc (.cells (olds.toArray++Builtin.zeroCells z.cells n++Builtin.zeroCells z.cells (grownCap w (sLen+n) sCap e - (sLen+n))) e)):=by
 have hn:¬ (sLen+n<=sCap):=by omega
 have hw:IntKind.i64.wrap (n:Int)=n:=by rw[IntKind.wrap_i64];omega
 have h63':¬ (9223372036854775807<((sLen:Int)+(n:Int))):=by omega
 have h48':¬ (281474976710656<Builtin.nextslicecap (sLen+n) sCap*i.bytes):=by omega
 have h48i:¬ (281474976710656<(n:Int)*(i.bytes:Int)):=by
  rw[<-Int.natCast_mul];omega
 have hneg:¬ ((n:Int)<0):=by omega
 have hn0:n≠0:=by omega
 have hns:¬ (n*i.size=0):=Nat.mul_ne_zero hn0 (by omega);simp[Builtin.append_,run_underlying ht,run_underlying htn,sizeOf,typeInfo,zeroValue,hi,hz,asInt,asIntOf,hw,hn,hn0,hneg,hns,h63',h48',h48i,Question.forced,hfo,newRow,grownCap]
theorem aAn{z:Value}(hcr:wZ w I ι H z.cells row)(hrow:row.length=sz)(hzs:z.cells.size=sz)(hsz:0<sz)(n:Nat):
  (Builtin.zeroCells z.cells n).toList.length=n*sz/\(∀u∈(Builtin.zeroCells z.cells n).toList,u.oneCell'=true)/\pC w I ι H sz (Builtin.zeroCells z.cells n).toList (List.replicate n row):=by
 have hget:∀j,j<n*sz->∃hk:j % sz<z.cells.size,(Builtin.zeroCells z.cells n).toList[j]?=some (z.cells[j % sz]):=by
  intro j hj;have hk:j % sz<z.cells.size:=by rw[hzs];exact Nat.mod_lt _ hsz
  refine⟨hk,?_⟩;rw[Array.getElem?_toList];simp only[Builtin.zeroCells,Array.getElem?_map];rw[Array.getElem?_range,hzs,aNu hj];simp only[Option.map_some];rw[getElem!_pos z.cells (j % sz) hk]
 have hzl:(Builtin.zeroCells z.cells n).toList.length=n*sz:=by rw[Array.length_toList,size_zeroCells,hzs]
 refine⟨hzl,?_,?_⟩
 ·intro u hu;obtain ⟨j,hj⟩:=aOQ.1 hu;have hjl:j<n*sz:=by
   have:=(aNz.1 hj).1;rw[hzl]at this;exact this
  obtain ⟨hk,e⟩:=hget j hjl;rw[e]at hj;cases hj;have hkr:j % sz<row.length:=by rw[hrow];exact Nat.mod_lt _ hsz
  obtain ⟨u,q1,q2,_⟩:=hcr.2 _ _ (aOA hkr);rw[Array.getElem?_eq_getElem hk]at q1;cases q1;exact q2
 intro i r hi k av hk;rw[List.getElem?_replicate]at hi
 split at hi
 ·cases hi;rename_i hlt;have hks:k<sz:=by rw[<-hrow];exact(aNz.1 hk).1
  have hfit:i*sz+k<n*sz:=by
   have:(i+1)*sz<=n*sz:=Nat.mul_le_mul_right _ hlt;rw[Nat.add_mul]at this;omega
  obtain ⟨hk2,e⟩:=hget _ hfit;obtain ⟨u,q1,q2,q3⟩:=hcr.2 k av hk;refine⟨u,?_,q2,q3⟩;rw[e];rw[Array.getElem?_eq_getElem (by rw[hzs];exact hks)]at q1;cases q1;congr 2;exact BR hks
 cases hi
theorem JL{tn:TypeId}{m bytes id2:Nat}{kk kn:IntKind}{q:Int}(ho:o.op=.call {callee:=.builtin .append,args:=#[x,y],argTypes:=#[T,tn]})(hS:eG P T e sz)(htn:P.underlying tn=some (.int kn))(hinf:EI P e sz bytes)(hZ:dM P e row)(hrow:row.length=sz)
  (hx:aO E x=some (.osc id g 0 n c)) (hH:H.get id=some ob) (hg:ob.g=g) (hosz:ob.sz=sz) (hon:n<=ob.rows.length)
  (hy:aO E y=some (.pv (.int kk q))) (hq:q=(m:Int)) (hm0:0<m) (hroom:c<n+m) (hk:n+m=k) (hbytes:(n+m)*bytes<=140737488355328) (hid:H.get id2=none)
  (hrows:ob.rows.take n++List.replicate m row=rows'):cH P N o E H (.osl id2 0 0 k) ((id2,⟨0,sz,e,rows'⟩)::H):=by
 intro a w I ι _ _ hr he K Q hkk;have hmax:=TV hinf.2 hbytes;obtain ⟨⟨i,z,hi,hz,hsize,hby,hzs,hsz0⟩,_⟩:=hinf;obtain ⟨z',zv,z1,z2,z3⟩:=hZ;have ezz:z'=z:=by
  have:=z1 w;simp[zeroValue,typeInfo,hi,hz]at this;exact this.symm
 subst ezz hg hosz hk hrows hq;have hml:n+m<=maxLen:=by simp only[maxLen];omega
 have hv:=aI he hx;have hvy:=(aI he hy).int_inv;obtain ⟨hzp,h1,hcase⟩:=oA hv hH rfl;have hT:=hS.1;have p2:=((hr.obj id ob hH).cells hzp).2.1;have hcr:=wZ.of_cells (ZV.rel (w:=w) (I:=I) (ι:=ι) (H:=H) z2) z3;obtain ⟨zl,_,zr⟩:=aAn hcr hrow hzs hzp m;have hrl:∀r∈ob.rows.take n++List.replicate m row,r.length=ob.sz:=fun r hr'=>by
  rcases List.mem_append.1 hr' with h|h
  ·exact p2 r (List.mem_of_mem_take h)
  rw[(List.mem_replicate.1 h).2];exact hrow
 have g1:aB.get ((id2,(⟨0,ob.sz,e,ob.rows.take n++List.replicate m row⟩:Ob))::H) id2=some ⟨0,ob.sz,e,ob.rows.take n++List.replicate m row⟩:=get_cons_same _ _ _;have g2:∀j,j≠id2->aB.get ((id2,(⟨0,ob.sz,e,ob.rows.take n++List.replicate m row⟩:Ob))::H) j=H.get j:=fun j hj=>get_cons_other _ _ hj;have hrln:(ob.rows.take n++List.replicate m row).length=n+m:=by rw[aNw,aOJ,List.length_replicate];omega
 have hge:=grownCap_ge w (n+m) c e;have hcm:=grownCap_le_maxLen w (n+m) c e hml;have hfin:∀(olds:List Value),olds.length=n*ob.sz->pC w I ι H ob.sz olds (ob.rows.take n) ->
   (Builtin.append_ #[T,tn] o.type #[a.eval x,a.eval y]).run P w=.ok (.slice (some ⟨w.heap.size,0,none⟩) (n+m) (grownCap w (n+m) c e)) (w.drew.alloc (.cells (olds.toArray++Builtin.zeroCells z'.cells m++Builtin.zeroCells z'.cells (grownCap w (n+m) c e - (n+m))) e))->o.wpW P a w K Q:=by
  intro olds q1 q2 hrun;obtain ⟨k2,k3⟩:=Rel.place (H':=(id2,⟨0,ob.sz,e,ob.rows.take n++List.replicate m row⟩)::H) (id:=id2) (cap:=grownCap w (n+m) c e) (ob':=⟨0,ob.sz,e,ob.rows.take n++List.replicate m row⟩)
   (cs':=olds.toArray++Builtin.zeroCells z'.cells m++Builtin.zeroCells z'.cells (grownCap w (n+m) c e - (n+m)))
   (w':=w.drew.alloc (.cells (olds.toArray++Builtin.zeroCells z'.cells m++Builtin.zeroCells z'.cells (grownCap w (n+m) c e - (n+m))) e)) hr rfl rfl rfl rfl
   (fun o' ho'=>by rw[hid]at ho';cases ho') hzp (by
    simp only[Array.size_append,List.size_toArray,size_zeroCells,hzs,q1,<-Nat.add_mul];congr 1;omega) (by rw[hrln];exact hge) hcm hrl (fun i' r hi' k' a' hk'=>by
     obtain ⟨u,t1,t2,t3⟩:=pC.app (l3:=(Builtin.zeroCells z'.cells (grownCap w (n+m) c e - (n+m))).toList) q2 (by rw[q1,aOJ,Nat.min_eq_left hon]) zr i' r hi' k' a' hk';refine⟨u,?_,t2,t3⟩;rw[<-Array.getElem?_toList]
     simpa[List.append_assoc]using t1) g1 g2
  unfold Oper.wpW execOp;simp only[ho,resolve,invoke,builtin,Sem.run_bind,Sem.run_pure,Result.andThen_ok,List.map_toArray,List.map_cons,List.map_nil,hrun];exact hkk _ _ I _ _ _ ⟨rfl,rfl⟩ (.osl _ g1 (aOB _) rfl fun _=>⟨hzp,by rw[hrln];omega,.inl ⟨w.heap.size,_,0,by simp;rfl,by simp,fun _=>by simp⟩⟩) k2 k3
 have hfit:Builtin.nextslicecap (n+m) c*i.bytes<=281474976710656:=growslice_fits (by omega) (by rw[hby];exact hbytes);have hm48:m*i.bytes<=281474976710656:=by
  have:m*i.bytes<=(n+m)*i.bytes:=Nat.mul_le_mul_right _ (by omega);rw[hby]at this |-;omega
 rcases hcase with⟨b,oo,c1,c2,c3⟩|⟨c1,c2,c3,c4,c5⟩
 ·have hoo:oo=0:=by rw[c3 (.inr rfl)];simp
  subst hoo;have hsn:=aCy hr (show VRel w I ι H (.slice (some ⟨b,0,none⟩) n c) (.osc id ob.g 0 n c)by rw[<-c2];exact hv) hH rfl rfl n (aOB _) (by omega);rw[List.drop_zero]at hsn;rcases hsn with⟨ad0,c0,olds,t1,t2,t3,t4,t5,t6⟩|⟨t1,_⟩
  ·injection t1 with q1 q2 q3;injection q1 with q1;subst q1;have hol:olds.length=n*ob.sz:=by rw[t3,aOJ,Nat.min_eq_left hon]
   have hfo:=run_firstCells_some (P:=P) w.drew i.size n ⟨b,0,none⟩ n c olds (by rw[hsize];exact hol) (by simpa using t4);have hrun:=pD (P:=P) (w:=w) T tn o.type e i z' kk kn hT htn hi hz (some ⟨b,0,none⟩) n c olds (fun _ _=>trivial) hfo m hm0 (by rw[hsize];exact hzp) (by omega) (by omega) hfit hm48;exact hfin olds hol t6 (by rw[c2,hvy];exact hrun)
  cases t1
 subst c4 c5;have hfo:=run_firstCells_none (P:=P) (w:=w.drew) i.size 0 0 0;have hrun:=pD (P:=P) (w:=w) T tn o.type e i z' kk kn hT htn hi hz none 0 0 [] (fun _ _=>trivial) hfo m hm0 (by rw[hsize];exact hzp) (by omega) (by omega) hfit hm48;exact hfin [] (by simp) (by intro i r hi';simp at hi') (by rw[c2,hvy];exact hrun)
theorem aB4(ho:o.op=.call {callee:=.builtin .clear,args:=#[x],argTypes:=#[T]})(hS:eG P T e sz)(hZ:dM P e row)(hrow:row.length=sz)
  (hx:aO E x=some (.osc id g off len c)) (hH:H.get id=some ob) (hg:ob.g=g) (hosz:ob.sz=sz) (hoff:off<=ob.rows.length) (hrows:ob.rows.take off++(List.replicate len row++ob.rows.drop (off+len))=rows') :
  cH P N o E H .any ((id,⟨g,sz,ob.ty,rows'⟩)::H):=by
 intro a w I ι _ _ hr he K Q hkk;obtain ⟨z,zv,z1,z2,z3⟩:=hZ;subst hg hosz hrows;have hv:=aI he hx;obtain ⟨hzp,h1,hcase⟩:=oA hv hH rfl;have hT:=hS.1;have hcr:=wZ.of_cells (ZV.rel (w:=w) (I:=I) (ι:=ι) (H:=H) z2) z3;have hzs:z.cells.size=ob.sz:=by rw[<-hrow];exact hcr.1
 have hnone:len=0->(execOp a.eval o).run P w=.ok (.value (.tuple #[])) w->o.wpW P a w K Q:=by
  intro h0 hrun;obtain ⟨k2,k3⟩:=hr.congr (H':=(id,⟨ob.g,ob.sz,ob.ty,ob.rows.take off++(List.replicate len row++ob.rows.drop (off+len))⟩)::H) (fun j=>by
   subst h0;rw[List.replicate_zero,OA rfl];by_cases e:j=id
   ·subst e;rw[get_cons_same,hH]
   exact get_cons_other _ _ e)
  unfold Oper.wpW;rw[hrun];exact hkk _ _ I ι _ _ ⟨rfl,rfl⟩ (.any _) k2 k3
 rcases hcase with⟨b,oo,c1,c2,c3⟩|⟨c1,c2,c3,c4,c5⟩
 ·by_cases h0:len=0
  ·refine hnone h0 ?_;unfold execOp;simp only[ho,resolve,invoke,builtin,Sem.run_bind,Sem.run_pure,Result.andThen_ok,List.map_toArray,List.map_cons,List.map_nil,c2,h0,Builtin.clear_];simp[run_underlying hT]
  obtain ⟨p1,p2,⟨b',cap',cs,e1,e2,e3,e4,e5,e5',e6⟩|⟨e1,_⟩⟩:=(hr.obj id ob hH).cells hzp
  ·rw [c1] at e1;cases e1;have hoo:=c3 (by omega);subst hoo;have hzl:(Builtin.zeroCells z.cells len).toList.length=(List.replicate len row).length*ob.sz:=by
    rw[Array.length_toList,size_zeroCells,hzs,List.length_replicate]
   have hget:∀j,j<len*ob.sz->∃hk:j % ob.sz<z.cells.size,(Builtin.zeroCells z.cells len).toList[j]?=some (z.cells[j % ob.sz]):=by
    intro j hj;have hk:j % ob.sz<z.cells.size:=by rw[hzs];exact Nat.mod_lt _ hzp
    refine⟨hk,?_⟩;rw[Array.getElem?_toList];simp only[Builtin.zeroCells,Array.getElem?_map];rw[Array.getElem?_range,hzs,aNu hj];simp only[Option.map_some];rw[getElem!_pos z.cells (j % ob.sz) hk]
   have hone:∀u∈(Builtin.zeroCells z.cells len).toList,u.oneCell'=true:=by
    intro u hu;obtain ⟨j,hj⟩:=aOQ.1 hu;have hjl:j<len*ob.sz:=by
     have:=(aNz.1 hj).1;rw[hzl,List.length_replicate]at this;exact this
    obtain ⟨hk,e⟩:=hget j hjl;rw[e]at hj;cases hj;have hkr:j % ob.sz<row.length:=by rw[hrow];exact Nat.mod_lt _ hzp
    obtain ⟨u,q1,q2,_⟩:=hcr.2 _ _ (aOA hkr);rw[Array.getElem?_eq_getElem hk]at q1;cases q1;exact q2
   have hlr:pC w I ι H ob.sz (Builtin.zeroCells z.cells len).toList (List.replicate len row):=by
    intro i r hi k av hk;rw[List.getElem?_replicate]at hi
    split at hi
    ·cases hi;rename_i hlt;have hks:k<ob.sz:=by rw[<-hrow];exact(aNz.1 hk).1
     have hfit:i*ob.sz+k<len*ob.sz:=by
      have:(i+1)*ob.sz<=len*ob.sz:=Nat.mul_le_mul_right _ hlt;rw[Nat.add_mul]at this;omega
     obtain ⟨hk2,e⟩:=hget _ hfit;obtain ⟨u,q1,q2,q3⟩:=hcr.2 k av hk;refine⟨u,?_,q2,q3⟩;rw[e];rw[Array.getElem?_eq_getElem (by rw[hzs];exact hks)]at q1;cases q1;congr 2;exact BR hks
    cases hi
   have hfit:off*ob.sz+0+(Builtin.zeroCells z.cells len).toList.length<=cs.size:=by
    rw[e4,hzl,List.length_replicate,Nat.add_zero,<-Nat.add_mul];exact Nat.mul_le_mul_right _ (by omega)
   have hst:=run_storeCells_at P b (off*ob.sz) ob.ty (Builtin.zeroCells z.cells len).toList 0 cs w e2 hfit hone;simp only[Nat.add_zero]at hst;obtain ⟨k2,k3⟩:=Rel.write (H':=(id,⟨ob.g,ob.sz,ob.ty,ob.rows.take off++(List.replicate len row++ob.rows.drop (off+len))⟩)::H) (off:=off) (g2:=ob.g) hr hH c1 e2 hzl hlr (fun r hr'=>by rw[(List.mem_replicate.1 hr').2];exact hrow) hoff (by rw[List.length_replicate];omega) (aOB _) (by rw[get_cons_same,List.length_replicate]) (fun j hj=>get_cons_other _ _ hj);unfold Oper.wpW execOp;simp only[ho,resolve,invoke,builtin,Sem.run_bind,Sem.run_pure,Result.andThen_ok,List.map_toArray,List.map_cons,List.map_nil,c2,Builtin.clear_];obtain ⟨n',hn'⟩:∃n',len=n'+1:=⟨len - 1,by omega⟩;subst hn';simp only[List.getElem?_toArray,List.getElem?_cons_zero,run_underlying hT,Sem.run_bind,Sem.run_pure,Result.andThen_ok,z1,hst];exact hkk _ _ I ι _ _ ⟨rfl,rfl⟩ (.any _) k2 k3
  rw[c1]at e1;cases e1
 refine hnone c4 ?_;unfold execOp;simp only[ho,resolve,invoke,builtin,Sem.run_bind,Sem.run_pure,Result.andThen_ok,List.map_toArray,List.map_cons,List.map_nil,c2,Builtin.clear_];simp[run_underlying hT]
end
end
section
section
variable{N:Nat}{o:Oper}{E:bS}{T t t':TypeId}{x y:Operand}
theorem XK(w:World)(h:P.underlying t=some (.slice e))(a:Option Addr)(n c n' c':Nat):(binOp .eql t (.slice a n c) (.slice none n' c')).run P w=.ok (.bool a.isNone) w:=by simp only[binOp];cases a<;>simp[Op.equal,Op.maxDepth,Lib.run_equalIn_slice_nil w 9999 t e _ n c n' c' h]
theorem X2{rows:List (List PV)}(ho:o.op=.binOp .eql t x (.const (.slice none 0 0)) t')(ht:P.underlying t=some (.slice e))(hx:aO E x=some (.pv (.sl rows))):ZH P N o E H (fun r H'=>H'=H/\∃b,r=.pv (.bool b)/\(b=true->rows=[])):=by
 intro a w I ι _ _ hr he K Q hk;have hv:=(aI he hx).pv_inv;have e2:a.eval (.const (.slice none 0 0))=.slice none 0 0:=rfl;obtain ⟨b,n,c,e1,h1⟩:∃(b:Option Addr) (n c:Nat),a.eval x=.slice b n c/\(b.isNone=true->rows=[]):=by
  generalize a.eval x=v at hv;cases hv with
  |nilsl=>exact⟨none,0,0,rfl,fun _=>rfl⟩
  |empsl a=>exact⟨some a,0,0,rfl,fun h=>by cases h⟩
  |sl b off cap sz _ cs h1 h2 h3 h4 h5 h6=>exact⟨_,_,cap,rfl,fun h=>by cases h⟩
 unfold Oper.wpW;have hrun:(execOp a.eval o).run P w=.ok (.value (.bool b.isNone)) w:=by
  simp only[execOp,ho,e1,e2,eqGuard_at_slice,Sem.run_bind,Sem.run_pure,Result.andThen_ok,XK _ ht]
 rw[hrun];exact hk _ _ I ι _ _ ⟨rfl,_,rfl,h1⟩ (.pv (.bool _)) hr (Step.refl _ _ _ _)
def aI1(E:bS)(H:aB)(sz:Nat)(y:Operand)(len:Nat)(rows:List (List AV)):Prop :=∀(a:Act) (w:World) (I:Nat->Prop) (ι:dX),Rel I ι H w->iB w I ι H E a->aKN w I ι H sz (a.eval y) len rows
def aI3(E:bS)(H:aB)(x:Operand)(id g off len:Nat):Prop :=∀(a:Act) (w:World) (I:Nat->Prop) (ι:dX),Rel I ι H w->iB w I ι H E a->∃c,VRel w I ι H (a.eval x) (.osc id g off len c)
theorem Y0(hx:aO E x=some (.osl id g off len))(hH:H.get id=some ob)(hg:ob.g=g):aI3 E H x id g off len:=fun a w I ι hr he =>
 let ⟨c,_,_,h⟩:=aAG hr (aI he hx) hH hg
 ⟨c,h⟩
theorem aIb(ho:o.op=.call {callee:=.builtin .copy,args:=#[x,y],argTypes:=#[D,S]})(hS:eG P D e sz)
  (hd:aI3 E H x id g off len) (hH:H.get id=some ob) (hg:ob.g=g) (hsz:ob.sz=sz) (hoff:off<=ob.rows.length)
  (hsrc:aI1 E H sz y len2 rows2) (hrl2:∀r∈rows2,r.length=sz) (hn:rows2.length=n) (hmin:min len2 len=n)
  (hrows:ob.rows.take off++(rows2++ob.rows.drop (off+n))=rows'):cH P N o E H (.pv (.int .i64 n)) ((id,⟨g,sz,ob.ty,rows'⟩)::H):=by
 subst hrows;exact aDm ho hS hd hH hg hsz hoff hsrc hrl2 hn hmin (fun j=>sX _ _ _ j)
end
def U9(ob:Ob)(k:Nat):Ob:=⟨k,ob.sz,ob.ty,[]⟩
theorem Step.deadK(hH:H.get id=some ob)(hk:ob.g<k):Step I ι H w (mL I ι id) (qT ι id) ((id,U9 ob k)::H) w where
 os:=rfl
 tape:=rfl
 output:=rfl
 size:=aOB _
 froz:=fun _ _ _=>rfl
 imm:=fun _ h=>.inl h
 immNew:=fun b hb=>by
  rcases hb with hb|⟨cap,hb⟩
  ·exact .inl hb
  exact .inr (.inl ⟨id,ob,cap,hH,hb⟩)
 own:=fun b hb=>by
  obtain ⟨j,o,cap,hj,hi⟩:=hb;by_cases e:j=id
  ·rw[qT,aNu e]at hi;cases hi
  rw[qT,aNt e]at hi;rw[get_cons_other _ _ e]at hj;exact .inl ⟨j,o,cap,hj,hi⟩
 keep:=fun _ _ _=>rfl
 objs:=fun j o hj=>by
  by_cases e:j=id
  ·subst e;rw[hH]at hj;cases hj;exact⟨U9 ob k,get_cons_same _ _ _,Nat.le_of_lt hk,fun h=>absurd h (by simp only[U9];omega)⟩
  exact⟨o,by rw[get_cons_other _ _ e];exact hj,aOB _,fun _=>⟨aNt e,rfl,fun _=>aOB _⟩⟩
theorem Rel.deadK(hr:Rel I ι H w)(hH:H.get id=some ob)(hk:ob.g<k)(hsz:0<ob.sz):Rel (mL I ι id) (qT ι id) ((id,U9 ob k)::H) w:=by
 have hst:=Step.deadK (w:=w) (I:=I) (ι:=ι) hH hk;refine⟨fun b hb=>?_,fun j o hj=>?_,fun j j' o o' b c c' hj hj' hi hi'=>?_,hr.glob.mono (fun _ _=>rfl) (fun _ h=>.inl h)⟩
 ·rcases hb with hb|⟨cap,hb⟩
  ·exact hr.imm b hb
  exact hr.lt ⟨id,ob,cap,hH,hb⟩
 ·by_cases e:j=id
  ·subst e;rw[get_cons_same]at hj;cases hj;exact .inl ⟨hsz,by simp[U9],.inr ⟨aNu rfl,rfl⟩⟩
  rw[get_cons_other _ _ e]at hj;refine(hr.obj j o hj).keep (aNt e) (fun b cap e1 _=>⟨rfl,fun h=>?_⟩) (fun r _ a _ v hv=>hv.mono hr hst);rintro(hb|⟨cap',hb⟩)
  ·exact h hb
  exact e (hr.inj j id o ob b cap cap' hj hH e1 hb)
 have n1:j≠id:=fun e=>by rw[qT,aNu e]at hi;cases hi
 have n2:j'≠id:=fun e=>by rw[qT,aNu e]at hi';cases hi'
 rw[qT,aNt n1]at hi;rw[qT,aNt n2]at hi';rw[get_cons_other _ _ n1]at hj;rw[get_cons_other _ _ n2]at hj';exact hr.inj j j' o o' b c c' hj hj' hi hi'
theorem Fin.deadO{r:AV}(hH:H.get id=some ob)(hk:ob.g<k)(hsz:0<ob.sz)(hs:ob.sz=sz)(ht:ob.ty=ty):Fin G0 H r ((id,⟨k,sz,ty,[]⟩)::H) r:=by intro G hG I ι w v h1 h2 h3;subst hs ht;exact⟨_,_,h1.deadK hH hk hsz,h2.trans (Step.deadK hH hk),h3.mono h1 (Step.deadK hH hk)⟩
theorem Fin.bump(hH:H.get id=some ob)(hg:ob.g=g)(hk:g<k)(hs:ob.sz=sz)(ht:ob.ty=ty)(hr:ob.rows=rows):Fin G0 H (.osl id g off n) ((id,⟨k,sz,ty,rows⟩)::H) (.osl id k off n):=by
 intro G hG I ι w v h1 h2 h3;subst hg hs ht hr;obtain ⟨k2,k3⟩:=Rel.tick (H':=(id,⟨k,ob.sz,ob.ty,ob.rows⟩)::H) (ob':=⟨k,ob.sz,ob.ty,ob.rows⟩) h1 hH hk rfl rfl rfl (get_cons_same _ _ _) (fun j hj=>get_cons_other _ _ hj);refine⟨I,ι,k2,h2.trans k3,?_⟩;obtain ⟨q1,q2⟩:=hU h3 hH rfl;have hz:=mR h3 hH rfl;have hone:v.oneCell'=true:=by
  rcases q2 with⟨b,cap,oo,_,e,_⟩|⟨_,e,_⟩<;>subst e<;>rfl
 exact .osl _ (get_cons_same _ _ _) (aOB _) hone fun _=>⟨hz,q1,q2⟩
end
section
section
variable{N:Nat}{Q:Exit->bS->aB->Prop}{E:bS}{code:Code}
theorem WH{ty:TypeId}(hx:E.get t=some (.pv .nils))(hid:H.get id=none)(hsz:Nat.blt 0 sz=true)(h:fL P G0 N code Q ((t,.osc id 0 0 0 0)::E) ((id,⟨0,sz,ty,[]⟩)::H)):fL P G0 N code Q E H:=by
 intro G hG a w hs;obtain ⟨I,ι,hr,hst,he⟩:=hs.rel;obtain ⟨v,hv,hvr⟩:=he t _ hx;have hz:0<sz:=by simpa[Nat.blt_eq]using hsz
 obtain ⟨k1,k2⟩:=Rel.adopt (sz:=sz) (ty:=ty) hr hid hz;have hvn:v=.slice none 0 0:=by
  have:=hvr.pv_inv;cases this;rfl
 subst hvn;refine h G hG a w ⟨hs.defers,hs.size,I,_,k1,hst.trans k2,fun u x hu=>?_⟩;by_cases e:t=u
 ·subst e;rw[bS.get_cons_same]at hu;cases hu;exact⟨_,hv,.osc ⟨0,sz,ty,[]⟩ (get_cons_same _ _ _) (aOB _) rfl fun _=>⟨hz,aOB _,.inr ⟨by simp,rfl,rfl,rfl,rfl⟩⟩⟩
 rw[bS.get_cons_other _ _ e]at hu;obtain ⟨c,h1,h2⟩:=he u x hu;exact⟨c,h1,h2.mono hr k2⟩
end
section
variable{N:Nat}{o:Oper}{E:bS}{T:TypeId}{x y:Operand}{Q:AV->aB->Prop}
theorem RR{f y:Operand}{v:AV}(ho:o.op=.call {callee:=.value f,args:=#[.const (.slice none 0 0),y],argTypes:=at_})(hf:aO E f=some (.pv (.fn F)))
  (hc:∀(args:Array Value) (w:World),(callFunc F args).run P w=.ok (.enter F args) w) (hv:aO E y=some v) (h:aH P F [.pv .nils,v] H Q):ZH P N o E H Q:=by
 intro a w I ι _ _ hr he K QQ hk;have hfv:=(aI he hf).fn_inv;unfold Oper.wpW execOp;simp only[ho,resolve,hfv,Deferred.ofValue,Sem.run_bind,Sem.run_pure,Result.andThen_ok,invoke,hc,Oper.uponW_enter];refine(h I ι w _ hr (by simp) (fun i u b hu hb=>?_)).mono ?_
 ·match i with
  |0=>simp[Act.eval]at hu hb;subst hu hb;exact .pv .nils
  |1=>simp at hu hb;subst hu hb;exact aI he hv
  |i+2=>simp at hb
 rintro e w' ⟨r,H',I',ι',v,rfl,hq,k1,k2,k3⟩;exact hk v w' I' ι' r H' hq k1 k2 k3
end
theorem Rel.cut(hr:Rel I ι H w)(hH:H.get id=some ob)(hg:ob.g<k)(hz:0<ob.sz)
  (h1:H'.get id=some ⟨k,ob.sz,ob.ty,ob.rows.take n⟩) (h2:∀j,j≠id->H'.get j=H.get j):Rel I ι H' w/\Step I ι H w I ι H' w:=by
 have hst:Step I ι H w I ι H' w:=by
  refine⟨rfl,rfl,rfl,aOB _,fun a _ _=>rfl,fun _ h=>h,fun _ h=>.inl h,?_,fun _ _ _=>rfl,?_⟩
  ·rintro x ⟨j,o,c,hj,hc⟩;by_cases e:j=id
   ·subst e;exact .inl ⟨j,ob,c,hH,hc⟩
   exact .inl ⟨j,o,c,(h2 j e).symm.trans hj,hc⟩
  intro j o hj;by_cases e:j=id
  ·subst e;rw[hH]at hj;cases hj;exact⟨_,h1,Nat.le_of_lt hg,fun e=>absurd e (by simp only;omega)⟩
  exact⟨o,(h2 j e).trans hj,aOB _,fun _=>⟨rfl,rfl,fun _=>aOB _⟩⟩
 refine⟨⟨hr.imm,?_,?_,hst.glob hr⟩,hst⟩
 ·intro j o hj;by_cases e:j=id
  ·subst e;rw[h1]at hj;cases hj;obtain ⟨p1,p2,⟨b,cap,cs,e1,e2,e3,e4,e5,e5',e6⟩|⟨e1,e2⟩⟩:=(hr.obj j ob hH).cells hz
   ·refine .inl ⟨p1,fun r hr'=>p2 r (List.mem_of_mem_take hr'),.inl ⟨b,cap,cs,e1,e2,e3,e4,?_,e5',fun i r hi q a hq=>?_⟩⟩
    ·simp only[aOJ];omega
    simp only[List.getElem?_take]at hi
    split at hi
    ·obtain ⟨v,q1,q2,q3⟩:=e6 i r hi q a hq;exact⟨v,q1,q2,q3.mono hr hst⟩
    cases hi
   exact .inl ⟨p1,fun r hr'=>p2 r (List.mem_of_mem_take hr'),.inr ⟨e1,by simp only[e2,List.take_nil]⟩⟩
  rw[h2 j e]at hj;exact(hr.obj j o hj).keep rfl (fun x c _ _=>⟨rfl,fun h=>h⟩) (fun r _ a _ v hv=>hv.mono hr hst)
 intro j j' o o' x c c' hj hj' hc hc';have key:∀j o,H'.get j=some o->∃o,H.get j=some o:=by
  intro j o hj;by_cases e:j=id
  ·exact⟨ob,e▸hH⟩
  exact⟨o,(h2 j e).symm.trans hj⟩
 obtain ⟨q,hq⟩:=key j o hj;obtain ⟨q',hq'⟩:=key j' o' hj';exact hr.inj j j' q q' x c c' hq hq' hc hc'
theorem Fin.trunc(hH:H.get id=some ob)(hg:ob.g=g)(hk:g<k)(hs:ob.sz=sz)(ht:ob.ty=ty)(hr:ob.rows.take n=rows):Fin G0 H (.osl id g 0 n) ((id,⟨k,sz,ty,rows⟩)::H) (.osl id k 0 n):=by
 intro G hG I ι w v h1 h2 h3;subst hg hs ht hr;have hz:=mR h3 hH rfl;obtain ⟨q1,q2⟩:=hU h3 hH rfl;obtain ⟨k2,k3⟩:=Rel.cut (H':=(id,⟨k,ob.sz,ob.ty,ob.rows.take n⟩)::H) h1 hH hk hz (get_cons_same _ _ _) (fun j hj=>get_cons_other _ _ hj);refine⟨I,ι,k2,h2.trans k3,?_⟩;have hone:v.oneCell'=true:=by
  rcases q2 with⟨b,cap,oo,_,e,_⟩|⟨_,e,_⟩<;>subst e<;>rfl
 exact .osl _ (get_cons_same _ _ _) (aOB _) hone fun _=>⟨hz,by simp only[aOJ];omega,q2⟩
theorem aH.congrH{H1:aB}(h:aH P f args H (fun r H'=>r=r0/\H'=H1))(he:∀j,H2.get j=H1.get j):aH P f args H (fun r H'=>r=r0/\H'=H2):=by intro I ι w vs hr hl hv;refine(h I ι w vs hr hl hv).mono ?_;rintro e w' ⟨r,H',I',ι',v,rfl,⟨rfl,rfl⟩,k1,k2,k3⟩;obtain ⟨q1,q2⟩:=k2.congr he;exact⟨r,H2,I',ι',v,rfl,⟨rfl,rfl⟩,k1.mono k2 q2,q1,k3.trans q2⟩
theorem aH.frameS{H0:aB}(h:aH P f args H0 (fun r H'=>r=r0/\H'=H0))(hs:Sub H0 H)(hc:dF H0)(ha:∀a∈args,Clo H0 a):aH P f args H (fun r H'=>r=r0/\H'=H):=by
 refine(aH.frame h hs hc ha (fun id hi=>.inl hi)).congrH fun j=>?_;rw[eX];cases e:H0.get j with
 |some o=>exact hs j o e
 |none=>rfl
theorem Sub.of2{j:Nat}{a b:Ob}(h1:H.get i=some a)(h2:H.get j=some b):Sub [(i,a),(j,b)] H:=by
 intro id o ho;simp only[aB.get]at ho;cases e1:Nat.beq i id with
 |true =>
  rw[e1]at ho;have:=Nat.eq_of_beq_eq_true e1;subst this;cases ho;exact h1
 | false =>
  rw[e1]at ho;cases e2:Nat.beq j id with
  |true =>
   rw[e2]at ho;have:=Nat.eq_of_beq_eq_true e2;subst this;cases ho;exact h2
  |false=>rw[e2]at ho;cases ho
end
section
theorem KZ(h:VRel w I ι H v (.pv .nils)):v=.slice none 0 0:=by have:=h.pv_inv;cases this;rfl
section
variable{N:Nat}{o:Oper}{E:bS}{S T t t' e:TypeId}{x y:Operand}
theorem EC(ho:o.op=.call {callee:=.builtin .cap,args:=#[x],argTypes:=#[T]})(ht:P.underlying T=some (.slice e))(hx:aO E x=some (.pv .nils)):cH P N o E H (.pv (.int .i64 0)) H :=.of_run fun a w I ι _ he=>⟨.int .i64 0,by
  have e1:=KZ (aI he hx);simp[execOp,ho,resolve,invoke,builtin,e1,Builtin.cap_,run_underlying ht,goInt],.pv (.int _ _)⟩
theorem EA(ho:o.op=.call {callee:=.builtin .len,args:=#[x],argTypes:=#[T]})(ht:P.underlying T=some (.slice e))(hx:aO E x=some (.pv .nils)):cH P N o E H (.pv (.int .i64 0)) H :=.of_run fun a w I ι _ he=>⟨.int .i64 0,by
  have e1:=KZ (aI he hx);simp[execOp,ho,resolve,invoke,builtin,e1,Builtin.len_,run_underlying ht,goInt],.pv (.int _ _)⟩
theorem TS(hy:aO E y=some (.pv .nils)):aI1 E H sz y 0 []:=fun a w I ι hr he=>.inr ⟨KZ (aI he hy),rfl,rfl⟩
theorem TF(ho:o.op=.slice T x lo hi none)(hS:eG P T e sz)(hx:aO E x=some (.osl id g 0 len))
  (hH:H.get id=some ob) (hg:ob.g=g) (hsz:ob.sz=sz) (hlo:bnd E lo 0=some ((0:Nat):Int)) (hhi:bnd E hi len=some (h:Int)) (h2:h<=len) (hk:g+1=k) (hrows:ob.rows.take h=rows'):cH P N o E H (.osl id k 0 h) ((id,⟨k,sz,ob.ty,rows'⟩)::H):=by
 subst hk hrows hsz;intro a w I ι h1 h1' hr he K Q hkk;refine CB ho hS.1 hS.2.1 hx hH hg rfl hlo hhi (aOM _) h2 rfl (Nat.sub_zero h) a w I ι h1 h1' hr he K Q ?_;rintro c w' I' ι' r H' ⟨rfl,rfl⟩ hv hr' hst;have hz:=mR hv hH hg;obtain ⟨q1,q2⟩:=hU hv hH hg;obtain ⟨k2,k3⟩:=Rel.cut (k:=g+1) (n:=h) (H':=(id,⟨g+1,ob.sz,ob.ty,ob.rows.take h⟩)::H') hr' hH (by omega) hz (get_cons_same _ _ _) (fun j hj=>get_cons_other _ _ hj);have hone:c.oneCell'=true:=by
  rcases q2 with⟨b,cap,oo,_,e,_⟩|⟨_,e,_⟩<;>subst e<;>rfl
 exact hkk c w' I' ι' _ _ ⟨rfl,rfl⟩ (.osl _ (get_cons_same _ _ _) (aOB _) hone fun _=>⟨hz,by simp only[aOJ];omega,q2⟩) k2 (hst.trans k3)
theorem MB:∀(n t:Nat) (acc:Array Value),(∀v∈acc.toList,v.oneCell'=true)->∀v∈(Extern.BytealgMakeNoZero.digits n t acc).toList,v.oneCell'=true
 |0,_,_,h=>h
 |n+1,t,acc,h=>by
  rw[Extern.BytealgMakeNoZero.digits];refine MB n _ _ fun v hv=>?_;rw[Array.toList_push,List.mem_append,aNy]at hv;rcases hv with hv|rfl
  ·exact h v hv
  rfl
theorem XJ(w:World)(ps:Array TypeId)(t e:TypeId)(ht:P.underlying t=some (.slice e))(n:Nat)(hn:n<=281474976710656):
  ∃cs:Array Value,(Extern.BytealgMakeNoZero.makeNoZero ps #[t] #[.int .i64 n]).run P w=.ok (.slice (some ⟨w.heap.size,0,none⟩) n cs.size) (w.drew.drew.alloc (.cells cs e))/\n<=cs.size/\(n<=maxLen->cs.size<=maxLen)/\∀v∈cs.toList,v.oneCell'=true:=by
 have hdef:Extern.BytealgMakeNoZero.makeNoZero ps #[t] #[.int .i64 n] =
   (do
    let .slice elem <-underlying t|stuck "bytealg.MakeNoZero: slice type expected"
    if(n:Int)<0||(n:Int) > 2 ^ 48 then runtimePanic (.error "makeslice: len out of range")
    let cap <-choose (.appendCap (n:Int).toNat 0 elem)
    askRoom cap
    let bytes <-choose (.extern "internal/bytealg.MakeNoZero.bytes" 0)
    let a <-newRow elem (Extern.BytealgMakeNoZero.digits cap bytes #[])
    pure (.slice (some a) (n:Int).toNat cap)):=rfl
 refine⟨Extern.BytealgMakeNoZero.digits (grownCap w n 0 e) ((Question.extern "internal/bytealg.MakeNoZero.bytes" 0).cut (w.tape (w.drawn+1) (.extern "internal/bytealg.MakeNoZero.bytes" 0))) #[],?_,?_,?_,?_⟩
 ·rw[hdef];have h1:¬ (n:Int)<0:=by omega
  have h2:¬ (281474976710656:Int)<(n:Int):=by omega
  simp[run_underlying ht,h1,h2,Question.forced,newRow,Lib.size_digits,grownCap]
 ·rw[Lib.size_digits]
  simpa using grownCap_ge w n 0 e
 ·intro hm;rw[Lib.size_digits]
  simpa using grownCap_le_maxLen w n 0 e hm
 exact MB _ _ _ (by simp)
theorem X4{f:Operand}{fn:Func}{ps:Array TypeId}{m:Int}(ho:o.op=.call {callee:=.value f,args:=#[x],argTypes:=at_})(hf:aO E f=some (.pv (.fn F)))(hF:P.funcs[F]?=some fn)(hname:(fn.name == "runtime.NumGoroutine")=false)
  (hb:fn.body.isNone=true) (hn:Extern.findNext fn=none) (he:Extern.find fn=some (Extern.BytealgMakeNoZero.makeNoZero ps #[t])) (ht:P.underlying t=some (.slice e)) (hx:aO E x=some (.pv (.int .i64 m))) (hm:m=(n:Int)) (hml:n<=140737488355328) (hid:H.get id=none) :
  cH P N o E H (.osl id 0 0 n) ((id,⟨0,1,e,List.replicate n [.any]⟩)::H):=by
 subst hm;intro a w I ι _ _ hr hE K Q hk;have hfv:=(aI hE hf).fn_inv;have hxv:=(aI hE hx).int_inv;obtain ⟨cs,e1,e2,e3,e4⟩:=XJ (P:=P) w ps t e ht n (by omega);have hrd:=Rel.drawn (w':=w.drew.drew) hr rfl rfl rfl rfl;obtain ⟨d1,d2⟩:=hrd;obtain ⟨k1,k2⟩:=Rel.place (H':=(id,⟨0,1,e,List.replicate n [.any]⟩)::H) (id:=id) (cap:=cs.size) (ob':=⟨0,1,e,List.replicate n [.any]⟩) (cs':=cs) (w':=w.drew.drew.alloc (.cells cs e)) d1 rfl rfl rfl rfl
  (fun o' ho'=>by rw[hid]at ho';cases ho') Nat.zero_lt_one (by simp) (by simpa using e2) (e3 (Nat.le_trans hml (by decide))) (fun r hr'=>by obtain ⟨_,rfl⟩:=List.mem_replicate.1 hr';rfl) (fun i r hi k b hk'=>by
   rw[List.getElem?_replicate]at hi
   split at hi
   ·cases hi;cases k with
    |zero =>
     cases hk';have hlt:i*1+0<cs.size:=by omega
     exact⟨cs[i*1+0],Array.getElem?_eq_getElem hlt,e4 _ (Array.getElem_mem_toList hlt),.any _⟩
    |succ k=>simp at hk'
   cases hi) (get_cons_same _ _ _) (fun j hj=>get_cons_other _ _ hj)
 unfold Oper.wpW;have hrun:(execOp a.eval o).run P w=.ok (.value (.slice (some ⟨w.heap.size,0,none⟩) n cs.size)) (w.drew.drew.alloc (.cells cs e)):=by
  unfold execOp;simp only[ho,resolve,hfv,Deferred.ofValue,Sem.run_bind,Sem.run_pure,Result.andThen_ok,invoke,Array.empty_append,Array.append_empty,run_callFunc_extern hF hname hb hn he];simp[hxv,e1]
 rw[hrun];exact hk _ _ I _ _ _ ⟨rfl,rfl⟩ (.osl ⟨0,1,e,List.replicate n [.any]⟩ (get_cons_same _ _ _) (aOB _) rfl fun _=>⟨Nat.zero_lt_one,by simp,.inl ⟨w.heap.size,cs.size,0,by simp,by simp,fun _=>by simp⟩⟩) k1 (d2.trans k2)
theorem aCe{lo hi mx:Operand}{rows rows':List (List PV)}(ho:o.op=.slice T x (some lo) (some hi) (some mx))(hS:eG P T e sz)(hx:aO E x=some (.pv (.sl rows)))(hrows:∀r∈rows,r.length=sz)
  (hlo:aO E lo=some (.pv (.int .i64 l))) (hhi:aO E hi=some (.pv (.int .i64 h))) (hmx:aO E mx=some (.pv (.int .i64 h))) (h1:l<=h) (h2:h<=rows.length) (hne:rows≠[]) (hr:(rows.take h).drop l=rows'):cH P N o E H (.pv (.sl rows')) H:=by
 subst hr;exact .of_run fun a w I ι _ he=>by
  have hv:=(aI he hx).pv_inv;have e0:=(aI he hlo).int_inv;have e1:=(aI he hhi).int_inv;have e2:=(aI he hmx).int_inv;generalize hc:a.eval x=c at hv;have hT:=hS.1;have hs:=hS.2.1;have hTe:P.elem T=e:=by simp[Program.elem,hT]
  have hT':P.underlying T=some (.slice (P.elem T)):=by rw[hTe,hT]
  cases hv with
  |nilsl=>exact absurd rfl hne
  |empsl a0=>exact absurd rfl hne
  | sl b off cap sz' _ cs hI hsz hlen hcap hcc hpp =>
   have hsz':sz'=sz:=by
    obtain ⟨r,rs,e⟩:=List.exists_cons_of_ne_nil hne;have hm:r∈rows:=by rw[e];simp
    rw[<-hlen r hm,hrows r hm]
   subst hsz';have hb:(Instr.sliceBounds true rows.length cap (some (.int .i64 l)) (some (.int .i64 h)) (some (.int .i64 h))).run P w=.ok (l,h,h) w:=by
    have hsb:∀(n y:Nat) (c:BoundsCode),n<=y->(Instr.sliceBound (.int .i64 n) y c).run P w=.ok n w:=fun n y c hn=>by
     have:=run_sliceBound (P:=P) w .i64 n y c (by omega) (by omega)
     simpa using this
    simp[Instr.sliceBounds,hsb _ _ _ h1,hsb _ _ _ (aOB h),hsb h cap _ (by omega)]
   have htl:(rows.take h).length=h:=by rw[aOJ];omega
   have hget:∀(i:Nat) (r:List PV),(rows.take h)[i]?=some r->rows[i]?=some r:=fun i r hr=>by
    rw[List.getElem?_take]at hr
    split at hr
    ·exact hr
    cases hr
   have hcut:=PRep.cut (w:=w) (I:=I) (b:=b) (off:=off) (cap:=h) (l:=l) (h:=h) (rows:=rows.take h) (cs:=cs) hI hsz (fun r hr=>hlen r (List.mem_of_mem_take hr)) (by rw[htl];exact aOB _)
    (fun i r hr k p hk=>hcc i r (hget i r hr) k p hk) (fun i r hr k p hk=>hpp i r (hget i r hr) k p hk) h1 (by rw[htl];exact aOB _)
   rw[List.take_take,Nat.min_self]at hcut;refine⟨_,?_,.pv hcut⟩;simp only[execOp,ho,hc];have:=run_slice_any (P:=P) w T (some ⟨b,off,none⟩) rows.length cap hT' (some (.int .i64 l)) (some (.int .i64 h)) (some (.int .i64 h));simp only[Option.map_some,run_sliceAt_slice w T _ _ _ _ hT',e0,e1,e2,Sem.run_bind,this,hb,hTe,hs,sliced,Result.andThen_ok,Sem.run_pure];by_cases ec:h=l<;>simp[ec]
end
end
end Go.Abs
namespace Go.Proofs.YtmdicgjnmfolfaaGreatDoor
open Go.Proofs.Tryz
open Go.Abs
variable{n i j:Nat}{a b a':Ob}{K:aB}
def WG(u:Bool):AV:=if u then .ref 2001 0 0 0 else .pv .nilp
def vO(buf:AV)(u:Bool):Ob:=⟨0,2,137,[[WG u,buf]]⟩
def uB(g:Nat)(l:List UInt8)(u:Bool):aB:=[(2001,vO (.osl 2002 g 0 l.length) u),(2002,⟨g,1,5,dQ l⟩)]
theorem oF(l:List UInt8):(dQ l).length=l.length:=by simp[dQ]
theorem dO(H:aB)(l:List UInt8):∀r∈dQ l,∀a∈r,Clo H a:=by intro r hr a ha;obtain ⟨b,_,rfl⟩:=List.mem_map.1 hr;rw[aNy]at ha;subst ha;simp
theorem pR(l m:List UInt8):dQ l++dQ m=dQ (l++m):=by simp[dQ]
theorem fB{H:aB}{g:Nat}{u:Bool}(h1:(H.get 2001).isSome=true)(h2:(H.get 2002).isSome=true):∀r∈(vO (.osl 2002 g 0 n) u).rows,∀a∈r,Clo H a:=by
 intro r hr a ha;simp only[vO,aNy]at hr;subst hr;simp only[aOH,aOL,or_false]at ha;rcases ha with rfl|rfl
 ·cases u<;>simp[WG,h1]
 simp[h2]
theorem A6(buf:AV)(u:Bool)(K:aB):aH Tryz.prog 147 [.ref 2001 0 0 0] ((2001,vO buf u)::K) (fun r H'=>r=.tup []/\H'=(2001,vO buf true)::K):=by
 cases u with
 |false =>
  refine Bd aCW rfl WR<|Sr<|Dd aG<|Dd zN<|Dd (bE uX)<|Dd (bQ zJ)<|Dd (by exact HM rfl fE rfl rfl)<|Zz ?_;refine Cn ?_ ?_<;>intro hc1
  ·refine Rg<|Dd aG<|Dd aG<|Dd (by exact CA (n:=1) rfl fE DI (by kernel_rfl) rfl rfl rfl (by simp[vO]))<|Dd (by exact IZ rfl rfl func182 rfl rfl rfl rfl rfl (VC (.ref 2001 0 0 0)))<|Dd (by exact ID (n:=1) rfl DI fE (by kernel_rfl) rfl rfl rfl (by simp[vO]) rfl rfl)<|Dd zN<|Dd (bE uX)<|Uu (by exact bD rfl aKL rfl rfl rfl rfl rfl rfl (aOI rfl) rfl rfl)<|Zz ?_;exact qU (.inl rfl) rfl (Fin.get' (H':=(2001,vO buf true)::K) (fun j=>uV 2001 (vO buf true) (vO buf false) K j)) ⟨rfl,rfl⟩
  cases hc1
 |true =>
  refine Bd aCW rfl WR<|Sr<|Dd aG<|Dd zN<|Dd (bE uX)<|Dd (bQ zJ)<|Dd (by exact HL rfl fE rfl rfl rfl rfl)<|Zz ?_;refine Cn ?_ ?_<;>intro hc1
  ·cases hc1
  refine Sr<|Dd aG<|Dd zN<|Dd (bE uX)<|Dd (bQ zJ)<|Dd aG<|Dd (by exact D8 (n:=1) rfl fE (by kernel_rfl) rfl rfl rfl rfl)<|Zz ?_;refine Cn ?_ ?_<;>intro hc2
  ·cases hc2
  refine aF ?_;exact qU (.inl rfl) rfl Fin.refl ⟨rfl,rfl⟩
theorem ET{b':Ob}(h:i≠j)(k:Nat):aB.get ((i,a)::(j,b)::K) k=aB.get ((i,a)::(j,b)::(i,a')::(j,b')::K) k:=by
 simp only[aB.get];cases e1:Nat.beq i k with
 |true=>rfl
 |false=>cases e2:Nat.beq j k<;>simp
theorem IJ:∀i,Tryz.prog.info? 5=some i->i.zero=some (.int .u8 0):=fun i hi=>by
 have h:(Tryz.prog.info? 5).map (·.zero)=some (some (.int .u8 0)):=by kernel_rfl
 rw[hi]at h;exact Option.some.inj h
theorem aAb(g:Nat)(l m:List UInt8)(h:m.length=n):uB (g+1) (l++m) true=[(2001,vO (.osl 2002 (g+1) 0 (l.length+n)) true),(2002,⟨g+1,1,5,dQ (l++m)⟩)]:=by subst h;simp[uB]
theorem gU(g:Nat)(l:List UInt8)(u:Bool)(c:UInt8)(hl:l.length<70368744177664):aH Tryz.prog 110 [.ref 2001 0 0 0,.pv (.int .u8 c.toNat)] (uB g l u) (fun r H'=>r=.pv GB/\H'=uB (g+1) (l++[c]) true):=by refine Bd func110 rfl ntmps110<|Sr<|Dd aM<|Zz<|Sr<|Dd aG<|Dd (by exact aA rfl rfl MY rfl (A6 _ u _))<|Zz<|Sr<|Dd aG<|Dd aG<|Dd zN<|Dd (bE fK)<|Dd (bQ cS)<|Dd aG<|Dd (by exact aQ [[.int .u8 c.toNat]] rfl wA rfl rfl rfl rfl rfl (by intro r hr;rw[aNy]at hr;subst hr;rfl))<|Dd (by exact cF (ps:=[[.int .u8 c.toNat]]) rfl wA ei5 rfl rfl rfl rfl rfl (oF l) rfl (by intro r hr;rw[aNy]at hr;subst hr;rfl) (m:=1) rfl (by omega) rfl (pR l [c]))<|Dd zN<|Dd (bE fK)<|Uu (by exact bD rfl mX rfl rfl rfl rfl rfl rfl (aOI rfl) rfl rfl)<|Zz<|Sr<|Dd aM<|Zz<|aE ?_;rw[aAb g l [c] (n:=1) rfl];refine dC (H':=[(2001,vO (.osl 2002 (g+1) 0 (l.length+1)) true),(2002,⟨g+1,1,5,dQ (l++[c])⟩)]) (.inr rfl) rfl (aW rfl) (Fin.get' (fun j=>ET (by decide) j)) ?_;exact Qq
theorem gT(g:Nat)(l:List UInt8)(u:Bool)(s:ByteArray)(hl:l.length+s.size<70368744177664):aH Tryz.prog 109 [.ref 2001 0 0 0,sv s] (uB g l u) (fun r H'=>r=.tup [iv (s.size:Int),.pv GB]/\H'=uB (g+1) (l++s.data.toList) true):=by refine Bd func109 rfl ntmps109<|Sr<|Dd aM<|Dd aM<|Zz<|Sr<|Dd aG<|Dd (by exact aA rfl rfl MY rfl (A6 _ u _))<|Zz<|Sr<|Dd aG<|Dd aG<|Dd zN<|Dd (bE fK)<|Dd (bQ cS)<|Dd aG<|Dd (by exact rN rfl wA underlying9 ei5 IJ rfl rfl rfl rfl rfl (oF l) rfl (by omega) rfl (pR l s.data.toList))<|Dd zN<|Dd (bE fK)<|Uu (by exact bD rfl mX rfl rfl rfl rfl rfl rfl (aOI rfl) rfl rfl)<|Zz<|Sr<|Dd aG<|Dd (nF underlying9)<|Dd aM<|Dd aM<|Zz<|aE ?_;rw[aAb g l s.data.toList (n:=s.size) rfl];refine tX (H':=[(2001,vO (.osl 2002 (g+1) 0 (l.length+s.size)) true),(2002,⟨g+1,1,5,dQ (l++s.data.toList)⟩)]) (.inr rfl) rfl (aW rfl) (aW rfl) (Fin.get' (fun j=>ET (by decide) j)) ?_;exact Qq
def aCI(g:Nat)(l:List UInt8)(u:Bool):aB:=[(2002,⟨g+1,1,5,[]⟩),(2001,vO (.osl 2002 g 0 l.length) u)]
theorem JD(h:i≠j)(k:Nat):aB.get ((i,a)::(j,b)::K) k=aB.get ((i,a)::(j,b)::(i,a')::K) k:=by
 simp only[aB.get];cases e1:Nat.beq i k with
 |true=>rfl
 |false=>cases e2:Nat.beq j k<;>simp
theorem OL(g:Nat)(l:List UInt8)(u:Bool)(hl:l.length<70368744177664):aH Tryz.prog 111 [.ref 2001 0 0 0] (uB g l u) (fun r H'=>r=sv ⟨l.toArray⟩/\H'=aCI g l u):=by
 by_cases h0:l=[]
 ·subst h0;refine Bd aCY rfl WT<|Sr<|Dd aM<|Zz<|Sq<|aP follows<|Cq aG<|Cq zN<|Cq (bE fK)<|Cq (bQ cS)<|Cq (by exact AK rfl tZ rfl rfl rfl)<|Cq aG<|Cq zN<|Cq (bE fK)<|Cq (bQ cS)<|Cq (by exact eB rfl cJ rfl rfl rfl)<|Cq (by exact uO rfl rfl rfl)<|Cq aM<|bK<|Kr<|aE ?_;refine dC (H':=(aCI g [] u)) (.inr rfl) rfl (aW rfl) (Fin.trans (Fin.deadO (id:=2002) (k:=g+1) (ob:=⟨g,1,5,dQ []⟩) rfl (Nat.lt_succ_self g) Nat.zero_lt_one rfl rfl) (Fin.get' (fun j=>JD (by decide) j))) ?_;exact Qq
 have hpos:0<l.length:=List.length_pos_iff.2 h0;refine Bd aCY rfl WT<|Sr<|Dd aM<|Zz<|Sq<|aP follows<|Cr [2001] (fun _ _=>aG)<|Cr [2001] (fun H1 hH=>by exact eU rfl rfl ((hH _ rfl).trans rfl) rfl)<|Cr [2001] (fun _ h=>fh fK h)<|Cr [2001] (fun _ h=>lh cS h)<|Cr [2002] (fun H1 hH=>by exact CC rfl rfl ((hH _ rfl).trans rfl) rfl hpos)<|Cr [2001] (fun _ _=>aG)<|Cr [2001] (fun H1 hH=>by exact eU rfl rfl ((hH _ rfl).trans rfl) rfl)<|Cr [2001] (fun _ h=>fh fK h)<|Cr [2001] (fun _ h=>lh cS h)<|Cr [2002] (fun H1 hH=>by exact eB rfl cJ rfl ((hH _ rfl).trans rfl) rfl)<|Cp [2001,2002] (fun H1 hH=>by exact wE (l:=l) rfl tZ (by kernel_rfl) rfl rfl ((hH _ rfl).trans rfl) rfl rfl rfl rfl rfl hpos (by omega) rfl)<|Cr [] (fun _ _=>aM)<|bK<|Kr<|aE ?_;refine dC (H':=(aCI g l u)) (.inr rfl) rfl (aW rfl) (Fin.get' (fun j=>JD (by decide) j)) ?_;exact Qq
def Y9:aB:=[(2001,vO (.pv .nils) false)]
theorem aJj(m n:Nat)(hn:m=n)(hl:n<70368744177664):aH Tryz.prog 239 [.ref 2001 0 0 0,iv (n:Int)] [(2001,vO (.pv .nils) true)] (fun r H'=>r=.tup []/\H'=uB 1 [] true):=by refine Bd func239 rfl ntmps239<|Sq<|aP follows<|Cr [2001] (fun _ _=>aG)<|Cr [2001] (fun H1 hH=>by exact eU rfl rfl ((hH _ rfl).trans rfl) rfl)<|Cr [2001] (fun _ h=>fh fK h)<|Cr [2001] (fun _ h=>lh cS h)<|Cr [] (fun H1 hH=>by exact EC rfl cJ rfl)<|Cr [] (fun H1 hH=>by exact lH rfl rfl rfl (by exact iY (by omega) (by omega)))<|Cr [] (fun _ _=>aG)<|Cr [] (fun H1 hH=>by exact bG rfl rfl rfl (show IntKind.i64.wrap (0+(n:Int))=(n:Int)by rw[IntKind.wrap_i64];omega))<|Cp [2002] (fun H1 hH=>by exact X4 (id:=2002) (n:=n) rfl rfl func266 (by decide) rfl rfl rfl cJ rfl rfl (by omega) ((hH _ rfl).trans rfl))<|Cr [2001] (fun _ _=>aG)<|Cr [2001] (fun H1 hH=>by exact eU rfl rfl ((hH _ rfl).trans rfl) rfl)<|Cr [2001] (fun _ h=>fh fK h)<|Cr [2001] (fun _ h=>lh cS h) ?_;refine Cr [] (fun H1 hH=>by exact EA rfl cJ rfl)<|Cp [2002] (fun H1 hH=>by exact TF (h:=0) (k:=1) (rows':=[]) rfl wA rfl ((hH _ rfl).trans rfl) rfl rfl rfl rfl (aOM _) rfl rfl)<|Cr [] (fun _ _=>aM)<|bK<|Kr<|Sr<|Dd aG<|Dd aG<|Dd zN<|Dd (bE fK)<|Dd (bQ cS)<|Dd (by exact aIb (rows':=[]) rfl wA (Y0 rfl rfl rfl) rfl rfl rfl (aOM _) (TS rfl) (by simp) rfl rfl rfl)<|Zz<|Rg<|Dd aG<|Dd aG<|Dd zN<|Dd (bE fK)<|Uu (by exact bD rfl mX rfl rfl rfl rfl rfl rfl (aOI rfl) rfl rfl)<|Zz ?_;exact qU (H':=uB 1 [] true) (.inl rfl) rfl (Fin.wk (by(simp;done)) (Hc (fB rfl rfl)<|Hc (dO _ _)<|trivial) ⟨rfl,trivial⟩) ⟨rfl,rfl⟩
theorem aHM(n:Nat)(h0:0<n)(hl:n<70368744177664):aH Tryz.prog 198 [.ref 2001 0 0 0,iv (n:Int)] Y9 (fun r H'=>r=.tup []/\H'=uB 1 [] true):=by
 refine Bd func198 rfl ntmps198<|Sr<|Dd aG<|Dd (by exact aA rfl rfl MY rfl (A6 _ false _))<|Zz<|Sq<|Sr<|Dd aG<|Dd cP<|Zz ?_;refine Cn ?_ ?_<;>intro hc1
 ·exact absurd (aNr hc1) (by omega)
 refine aF<|Sq<|aP follows<|Cq aG<|Cq zN<|Cq (bE fK)<|Cq (bQ cS)<|Cq (by exact EC rfl cJ rfl)<|Cq aG<|Cq zN<|Cq (bE fK)<|Cq (bQ cS)<|Cq (by exact EA rfl cJ rfl)<|Cq (by exact dN rfl rfl rfl (by exact iY (by omega) (by omega)))<|Cq aG<|Cq cP<|bK<|Kr ?_;refine Cn ?_ ?_<;>intro hc2
 ·refine Rg<|Dd aG<|Dd aG<|Dd (by exact aA rfl rfl call239 rfl (aJj n n rfl hl))<|Zz ?_;exact qU (H':=uB 1 [] true) (.inl rfl) rfl (Fin.wk (by(simp;done)) (Hc (fB rfl rfl)<|Hc (dO _ _)<|trivial) ⟨rfl,trivial⟩) ⟨rfl,rfl⟩
 exact absurd (aNs hc2) (by omega)
end Go.Proofs.YtmdicgjnmfolfaaGreatDoor
