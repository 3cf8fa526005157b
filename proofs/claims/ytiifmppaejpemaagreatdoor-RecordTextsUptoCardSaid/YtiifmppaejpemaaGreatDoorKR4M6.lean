/-
  Parts of the proof: rules of an abstract program logic, contracts of functions, plain laws. Conditions: each theorem's own.
-/
import Derived.Test.YtiifmppaejpemaaGreatDoorKR4M5
import Derived.Lib.ItoaLen
import Derived.Laws.BitsLemmas
import Derived.Below
import Derived.Shelf.Strconv.ErrVarAll
import Derived.Shelf.Strconv.AtoiAll
import Derived.Shelf.LaysC
import Derived.Shelf.Strings.SlTrimAscii
import Derived.Shelf.Lays
import Derived.Ground.NamesProg
set_option linter.unusedVariables false
set_option linter.unusedSimpArgs false
set_option maxRecDepth 100000
set_option maxHeartbeats 8000000
namespace Go.Proofs
theorem mO:type_of% Tryz.call113:=Tryz.call113
theorem kV:type_of% Tryz.call114:=Tryz.call114
theorem jE:type_of% Tryz.call115:=Tryz.call115
theorem kU:type_of% Tryz.call116:=Tryz.call116
theorem mN:type_of% Tryz.call168:=Tryz.call168
theorem QH:type_of% Tryz.call42:=Tryz.call42
theorem aLF:type_of% Tryz.call97:=Tryz.call97
theorem QE:type_of% Tryz.call98:=Tryz.call98
theorem aKo:type_of% Tryz.func168:=Tryz.func168
theorem eM:type_of% Tryz.isAgg25:=Tryz.isAgg25
theorem aJj:type_of% Tryz.ntmps168:=Tryz.ntmps168
end Go.Proofs
namespace Go.Proofs.YtiifmppaejpemaaGreatDoor
open Go.Proofs.Tryz
open Go.Abs
def BY (s:ByteArray) (k:Nat):UInt8:=(s.data.toList[k]?).getD 0
theorem rS (s:ByteArray) (k:Nat):dU s k=((BY s k).toNat:Int):=rfl
def nJ (b:UInt8):List UInt8:=if b=10 then[92,110] else if b=34∨b=92 then[92,b] else[b]
def dT (l:List UInt8):List UInt8:=34::(l.flatMap nJ++[34])
theorem aFR (b:UInt8):(nJ b).length≤2:=by
 unfold nJ
 split
 ·exact aLZ _
 split
 ·exact aLZ _
 exact Nat.le_succ _
theorem SO (l:List UInt8):(l.flatMap nJ).length≤2*l.length:=by
 induction l with
 | nil=>exact aLa _
 | cons b l ih =>
  rw [List.flatMap_cons,aLU,aLV];have:=aFR b;omega
theorem aBK {s:ByteArray} {k:Nat} (h:k < s.size):s.data.toList.take (k+1)=s.data.toList.take k++[BY s k]:=by
 have hk:k < s.data.toList.length:=by simpa using h
 rw [List.take_add_one,aLY hk,BY,aLY hk];rfl
theorem HU {b:UInt8} {n:Nat} (hn:n < 256):decide ((b.toNat:Int)=(n:Int))=decide (b=UInt8.ofNat n):=by
 rw [Bool.eq_iff_iff,aL0,aL0];constructor
 ·intro h;have:b.toNat=n:=by omega
  apply UInt8.toNat.inj;rw [this,UInt8.toNat_ofNat'];omega
 intro h;rw [h,UInt8.toNat_ofNat'];omega
theorem cD.bld0 {E E':bO} (hE:NzE E [(2002,⟨0,1,5,[]⟩),(2001,tQ (.osl 2002 0 0 0) false)] 2002 E'):cD [] E WL E' (sC 0 [] false):=by refine(cD.nz (G0:=[]) (H:=WL) (H':=[(2001,tQ (.osl 2002 0 0 0) false)]) 2002 1 5 rfl rfl hE ⟨⟨tQ (.pv .nils) false,rfl,rfl,rfl,rfl,.inr ⟨_,_,rfl,rfl,⟨.same (by simp [TF]),⟨.own,trivial⟩⟩⟩⟩,trivial⟩ trivial).trans ?_;exact cD.get (fun _=>rfl) (fun j=>mA (by decide) j)
def nD (s:ByteArray) (k:Nat):List UInt8:=34::(s.data.toList.take k).flatMap nJ
theorem aB8 {s:ByteArray} {k:Nat} (hs:s.size < 17592186044416):(nD s k).length < 70368744170000:=by
 have:=SO (s.data.toList.take k);rw [aL7] at this;have h2:s.data.toList.length=s.size:=by simp
 rw [nD,aLV];omega
theorem ZM {s:ByteArray} {k:Nat} (h:k < s.size):nD s (k+1)=nD s k++nJ (BY s k):=by rw [nD,nD,aBK h,List.flatMap_append];simp
theorem XN (s:ByteArray) (H:aB) (hs:s.size < 17592186044416):aH Tryz.prog 210 [sv s] H (fun r H'=>r=sv ⟨(dT s.data.toList).toArray⟩∧H'=H):=by
 refine Pu ?_;have hsl:s.data.toList.length=s.size:=by simp
 refine Bd func210 rfl ntmps210<|Sr<|Dd aP<|Zz<|Sr<|Dd (by exact bC (id:=2001) rfl D3 rfl rfl)<|Zz<|Sq ?_;refine fE.ent (E':=[(0,sv s),(3,.ref 2001 0 0 0)]) (H':=sC 0 [] false) (cD.bld0 ⟨⟨_,rfl,.same (by simp)⟩,⟨_,rfl,.same (by simp;rfl)⟩,trivial⟩) ?_;refine Rg<|Dd (by exact aA rfl rfl jE rfl (gK 0 [] false 34 (by decide)))<|Zz<|Sq<|Sr<|Dd aF<|Dd (nT underlying9)<|Dd aF<|Zz<|aG ?_;refine jB (fun(k g:Nat)=>([(0,sv s),(3,.ref 2001 0 0 0),(8,iv (s.size:Int)),(9,iv (k:Int))],sC g (nD s k) true)) (fun k g=>k≤s.size) (fun k g=>s.size - k) 0 1 (aLa _) ?_ ?_
 ·exact(cD.wk (Eb<|Ea<|Eb<|Eb<|trivial) (Hc (eR rfl rfl)<|Hc (dG _ _)<|trivial) trivial)
 intro k g hk;have hL:=aB8 (k:=k) hs;refine Sr<|Dd dK<|Zz<|Sq ?_;refine Cn ?_ ?_<;>intro hc1
 ·have hlt:k < s.size:=by have:=aLP hc1;omega
  have hnext:=ZM hlt;refine aE<|Sq<|aG<|Sr<|Dd aF<|Dd aP<|Zz<|Sr<|Dd aF<|Dd aF<|Dd (by exact eI rfl underlying9 rfl rfl (by omega) (by exact aL4 _) (by omega) rfl)<|Dd aP<|Zz<|Sr<|Dd aF<|Zz<|aG<|Sr<|Dd cY<|Da ?_;refine Cn ?_ ?_<;>intro hc2
  ·have hb:BY s k=10:=by
    have h:=hc2;rw [rS,show (10:Int)=((10:Nat):Int)by rfl,HU (by decide)] at h;exact aLP h
   have hE:sC (g+1) (nD s (k+1)) true=sC (g+1) (nD s k++(⟨#[92,110]⟩:ByteArray).data.toList) true:=by rw [hnext,hb];rfl
   refine Rg<|Dd (by exact aA rfl rfl kV rfl (gJ g (nD s k) true ⟨#[92,110]⟩ (by show _+2 < _;omega)))<|Zz<|Rg<|Dd pM<|Dd aF<|Zz ?_;refine⟨k+1,g+1,by omega,by omega,?_⟩;show cD _ _ _ _ (sC (g+1) (nD s (k+1)) true);rw [hE];exact(cD.wk (Eb<|Ea<|Eb<|Eb<|trivial) (Hc (eR rfl rfl)<|Hc (dG _ _)<|trivial) trivial)
  have hb10:¬ BY s k=10:=by
   have h:=hc2;rw [rS,show (10:Int)=((10:Nat):Int)by rfl,HU (by decide)] at h;exact aLQ h
  refine Sq<|Sr<|Dd cY<|Da ?_;refine Cn ?_ ?_<;>intro hc3
  ·have hb:BY s k=34:=by
    have h:=hc3;rw [rS,show (34:Int)=((34:Nat):Int)by rfl,HU (by decide)] at h;exact aLP h
   have hE:sC (g+1+1) (nD s (k+1)) true=sC (g+1+1) (nD s k++[92]++[BY s k]) true:=by rw [hnext,hb];simp [nJ]
   refine aE ?_;refine Cn ?_ ?_<;>intro hc4
   ·refine Sr<|Dd (by exact aA rfl rfl jE rfl (gK g (nD s k) true 92 (by omega)))<|Zz<|Rg<|Dd aF<|Dd (by exact aA rfl rfl jE rfl (gK (g+1) (nD s k++[92]) true (BY s k) (by rw [aLU,List.length_singleton];omega)))<|Zz<|Rg<|Dd pM<|Dd aF<|Zz ?_;refine⟨k+1,g+1+1,by omega,by omega,?_⟩;show cD _ _ _ _ (sC (g+1+1) (nD s (k+1)) true);rw [hE];exact(cD.wk (Eb<|Ea<|Eb<|Eb<|trivial) (Hc (eR rfl rfl)<|Hc (dG _ _)<|trivial) trivial)
   exact absurd (hc3.symm.trans hc4) (by decide)
  have hb34:¬ BY s k=34:=by
   have h:=hc3;rw [rS,show (34:Int)=((34:Nat):Int)by rfl,HU (by decide)] at h;exact aLQ h
  refine Rg<|Dd cY<|Da ?_;refine Cn ?_ ?_<;>intro hc5
  ·have hb:BY s k=92:=by
    have h:=hc5;rw [rS,show (92:Int)=((92:Nat):Int)by rfl,HU (by decide)] at h;exact aLP h
   have hE:sC (g+1+1) (nD s (k+1)) true=sC (g+1+1) (nD s k++[92]++[BY s k]) true:=by rw [hnext,hb];simp [nJ]
   refine Sr<|Dd (by exact aA rfl rfl jE rfl (gK g (nD s k) true 92 (by omega)))<|Zz<|Rg<|Dd aF<|Dd (by exact aA rfl rfl jE rfl (gK (g+1) (nD s k++[92]) true (BY s k) (by rw [aLU,List.length_singleton];omega)))<|Zz<|Rg<|Dd pM<|Dd aF<|Zz ?_;refine⟨k+1,g+1+1,by omega,by omega,?_⟩;show cD _ _ _ _ (sC (g+1+1) (nD s (k+1)) true);rw [hE];exact(cD.wk (Eb<|Ea<|Eb<|Eb<|trivial) (Hc (eR rfl rfl)<|Hc (dG _ _)<|trivial) trivial)
  have hb92:¬ BY s k=92:=by
   have h:=hc5;rw [rS,show (92:Int)=((92:Nat):Int)by rfl,HU (by decide)] at h;exact aLQ h
  have hE:sC (g+1) (nD s (k+1)) true=sC (g+1) (nD s k++[BY s k]) true:=by rw [hnext,nJ,aLR hb10,aLR (fun h=>h.elim hb34 hb92)]
  refine Rg<|Dd aF<|Dd (by exact aA rfl rfl jE rfl (gK g (nD s k) true (BY s k) (by omega)))<|Zz<|Rg<|Dd pM<|Dd aF<|Zz ?_;refine⟨k+1,g+1,by omega,by omega,?_⟩;show cD _ _ _ _ (sC (g+1) (nD s (k+1)) true);rw [hE];exact(cD.wk (Eb<|Ea<|Eb<|Eb<|trivial) (Hc (eR rfl rfl)<|Hc (dG _ _)<|trivial) trivial)
 have hge:k=s.size:=by have:=aLQ hc1;omega
 refine bG<|Sr<|Dd (by exact aA rfl rfl jE rfl (gK g (nD s k) true 34 (by omega)))<|Zz<|Sr<|Dd (by exact aA rfl rfl kU rfl (MH (g+1) (nD s k++[34]) true (by rw [aLU,List.length_singleton];omega)))<|Dd aP<|Zz<|aC ?_;have hres:(⟨(nD s k++[34]).toArray⟩:ByteArray)=⟨(dT s.data.toList).toArray⟩:=by
  rw [nD,dT,hge,List.take_of_length_le (by omega)];rfl
 rw [← hres];exact Rt Qq
def cH (sep:List UInt8):List (List UInt8)→List UInt8
 | []=>[]
 | x::l=>x++l.flatMap (fun y=>sep++y)
def bs (l:List ByteArray):List (List UInt8):=l.map fun s=>s.data.toList
def cV (l:List ByteArray):Nat:=(l.map ByteArray.size).sum
theorem UL {l:List ByteArray} {k:Nat} {s:ByteArray} (h:l[k]?=some s):cV (l.take (k+1))=cV (l.take k)+s.size:=by rw [List.take_add_one,h,cV,cV,List.map_append,List.sum_append];simp
theorem IH (l:List ByteArray) (k:Nat):cV (l.take k)≤cV l:=by
 have h:cV l=cV (l.take k)+cV (l.drop k):=by
  rw [cV,cV,cV,← List.sum_append,← List.map_append,List.take_append_drop]
 omega
theorem SA (sep:List UInt8):∀ l:List ByteArray,((bs l).flatMap (fun y=>sep++y)).length=sep.length*l.length+cV l
 | []=>by simp [bs,cV]
 | s::l=>by
  have ih:=SA sep l;show (((s.data.toList)::bs l).flatMap (fun y=>sep++y)).length=_;rw [List.flatMap_cons,aLU,ih,aLU,aLV,Nat.mul_add,cV,cV,List.map_cons,List.sum_cons];have h2:s.data.toList.length=s.size:=by simp
  omega
def EV (sep x:ByteArray) (l:List ByteArray) (k:Nat):List UInt8:=x.data.toList++(bs (l.take k)).flatMap (fun y=>sep.data.toList++y)
theorem aAE {sep x s:ByteArray} {l:List ByteArray} {k:Nat} (h:l[k]?=some s):EV sep x l (k+1)=EV sep x l k++(sep.data.toList++s.data.toList):=by rw [EV,EV,List.take_add_one,h,bs,List.map_append,List.flatMap_append];simp [bs]
theorem aBX {l:List ByteArray} {s:ByteArray} (h:s∈l):s.size≤cV l:=by
 induction l with
 | nil=>cases h
 | cons a l ih =>
  rw [cV,List.map_cons,List.sum_cons];rcases aL5.1 h with rfl|h
  ·exact Nat.le_add_right _ _
  exact Nat.le_trans (ih h) (Nat.le_add_left _ _)
theorem SB {sep x:ByteArray} {l:List ByteArray} {k:Nat} (hk:k≤l.length):(EV sep x l k).length≤x.size+sep.size*l.length+cV l:=by
 rw [EV,aLU,SA,aL7,Nat.min_eq_left hk];have h1:=IH l k;have h2:sep.data.toList.length=sep.size:=by simp
 have h3:x.data.toList.length=x.size:=by simp
 have h4:sep.size*k≤sep.size*l.length:=Nat.mul_le_mul_left _ hk;rw [h2];omega
theorem qF (l:List ByteArray) (sep:ByteArray) (H:aB) (h0:0 < sep.size) (hl:sep.size*l.length+cV l+l.length < 17592186044416):aH Tryz.prog 168 [.pv (aU l),sv sep] H (fun r H'=>r=sv ⟨(cH sep.data.toList (bs l)).toArray⟩∧H'=H):=by
 refine Pu ?_;have hml:(l.map encStr).length=l.length:=aLT _;rcases l with _|⟨x,_|⟨y,l⟩⟩
 ·refine Bd aKo rfl aJj<|Sr<|Dd aP<|Zz<|Sq<|Sr<|Dd aF<|Dd (fY aD)<|Zz<|aG<|Sr<|Dd cY<|Da ?_;refine Cn ?_ ?_<;>intro hc1
  ·exact Sr<|Dd aP<|Zz<|aC<|Rt<|Qq
  cases hc1
 ·refine Bd aKo rfl aJj<|Sr<|Dd aP<|Zz<|Sq<|Sr<|Dd aF<|Dd (fY aD)<|Zz<|aG<|Sr<|Dd cY<|Da ?_;refine Cn ?_ ?_<;>intro hc1
  ·cases hc1
  refine Sr<|Dd cY<|Da ?_;refine Cn ?_ ?_<;>intro hc2
  ·refine Sr<|Dd aF<|Dd (by exact bN rfl cP rfl rfl (by omega) (by exact aL4 _) rfl rfl)<|Dd (pH isAgg9 (hi:=rfl))<|Dd aP<|Zz<|aC ?_;have hx:x=⟨(cH sep.data.toList (bs [x])).toArray⟩:=by simp [cH,bs]
   rw [← hx];exact Rt Qq
  cases hc2
 have hll:((x::y::l).map encStr).length=l.length+2:=by rw [hml];rfl
 have hn2:(x::y::l).length=l.length+2:=rfl;rw [hn2] at hl;have hmul:sep.size*(l.length+2)=sep.size*(l.length+1)+sep.size:=by rw [← Nat.mul_succ]
 obtain ⟨M,hMT⟩:∃ M,M=sep.size*(l.length+1):=⟨_,rfl⟩;rw [← hMT] at hmul;rw [hmul] at hl;have hdiv:sep.size+1≤9223372036854775807 / (l.length+1):=by
  rw [Nat.le_div_iff_mul_le (Nat.succ_pos _),Nat.add_mul,← hMT];omega
 have hdl:9223372036854775807 / (l.length+1)≤9223372036854775807:=Nat.div_le_self _ _;have hMp:0 < M:=by rw [hMT];exact Nat.mul_pos h0 (Nat.succ_pos _)
 have hsz:∀ k,cV ((x::y::l).take k)≤cV (x::y::l):=IH _;refine Bd aKo rfl aJj<|Sr<|Dd aP<|Zz<|Sq<|Sr<|Dd aF<|Dd (fY aD)<|Zz<|aG<|Sr<|Dd cY<|Da ?_;refine Cn ?_ ?_<;>intro hc1
 ·exact absurd (aLP hc1) (by rw [hll];omega)
 refine Sr<|Dd cY<|Da ?_;refine Cn ?_ ?_<;>intro hc2
 ·exact absurd (aLP hc2) (by rw [hll];omega)
 refine aE<|Sr<|Dd aP<|Zz<|Sq<|Sr<|Dd aF<|Dd (nT underlying9)<|Dd mI<|Zz ?_;refine Cn ?_ ?_<;>intro hc3
 ·refine Sq<|Sr<|Dd aF<|Dd (nT underlying9)<|Dd aF<|Dd (fY aD)<|Dd (by exact eB rfl rfl rfl (show IntKind.i64.wrap ((((x::y::l).map encStr).length:Int) - 1)=((l.length+1:Nat):Int)by rw [IntKind.wrap_i64,hll];omega))<|Dd (by exact O6 (r:=((9223372036854775807 / (l.length+1):Nat):Int)) rfl rfl rfl (by omega) (by rw [show (9223372036854775807:Int)=((9223372036854775807:Nat):Int)by rfl,← Int.ofNat_tdiv,IntKind.wrap_i64];omega))<|Dd JR<|Zz ?_;refine Cn ?_ ?_<;>intro hc4
  ·exact absurd (aLP hc4) (by omega)
  refine aE<|Rg<|Dd aF<|Dd aF<|Dd (nT underlying9)<|Dd aF<|Dd (fY aD)<|Dd (by exact eB rfl rfl rfl (show IntKind.i64.wrap ((((x::y::l).map encStr).length:Int) - 1)=((l.length+1:Nat):Int)by rw [IntKind.wrap_i64,hll];omega))<|Dd (by exact qD rfl rfl rfl (show IntKind.i64.wrap ((sep.size:Int)*((l.length+1:Nat):Int))=(M:Int)by rw [← Int.natCast_mul,← hMT,IntKind.wrap_i64];omega))<|Dd (by exact cA rfl rfl rfl (show IntKind.i64.wrap (0+(M:Int))=(M:Int)by rw [IntKind.wrap_i64];omega))<|Dd aP<|Zz<|Sq<|Sr<|Dd aF<|Dd (fY aD)<|Dd aF<|Zz<|aG ?_;refine bQ (σ:=Nat) (fun k=>([(0,.pv (aU (x::y::l))),(1,sv sep),(5,iv ((M+cV ((x::y::l).take k):Nat):Int)),(39,.pv (aU (x::y::l))),(40,iv (((x::y::l).map encStr).length:Int)),(41,iv (k:Int))],[])) (fun k=>k≤l.length+2) (fun k=>l.length+2 - k) 0 (aLa _) ?_ ?_
  ·exact Wk
  intro k hk;refine Sr<|Dd dK<|Zz<|Sq ?_;refine Cn ?_ ?_<;>intro hc5
  ·have hlt:k < l.length+2:=by have:=aLP hc5;omega
   obtain ⟨s,hs⟩:=bE (show k < (x::y::l).length by omega);have hi:=cJ (f:=encStr) hs;have hst:=UL hs;have h1:=hsz (k+1);refine aE<|Sq<|aG<|Sr<|Dd (by exact bN rfl cP rfl rfl (by omega) (by exact aL4 _) hi rfl)<|Dd (pH isAgg9 (hi:=hi))<|Dd aP<|Zz<|Sq<|Sr<|Dd aF<|Dd (nT underlying9)<|Dd aF<|Dd (by exact eB rfl rfl rfl (show IntKind.i64.wrap (9223372036854775807 - ((M+cV ((x::y::l).take k):Nat):Int))=9223372036854775807 - ((M+cV ((x::y::l).take k):Nat):Int)by rw [IntKind.wrap_i64];omega))<|Dd mI<|Zz ?_;refine Cn ?_ ?_<;>intro hc6
   ·exact absurd (aLP hc6) (by omega)
   refine aE<|Rg<|Dd aF<|Dd aF<|Dd (nT underlying9)<|Dd (by exact cA rfl rfl rfl (show IntKind.i64.wrap (((M+cV ((x::y::l).take k):Nat):Int)+(s.size:Int))=((M+cV ((x::y::l).take (k+1)):Nat):Int)by rw [IntKind.wrap_i64,hst];omega))<|Dd aP<|Zz<|Rg<|Dd pM<|Dd aF<|Zz ?_;exact⟨k+1,by omega,by omega,Wk⟩
  have hge:k=l.length+2:=by have:=aLQ hc5;omega
  have hall:cV ((x::y::l).take k)=cV (x::y::l):=by rw [hge,← hn2,List.take_length]
  have h2:=hsz k;refine bG<|Sr<|Dd (by exact bC (id:=2001) rfl D3 rfl rfl)<|Zz<|Sr<|Dd aF<|Dd (by exact aA rfl rfl call205 rfl (aFJ (M+cV ((x::y::l).take k)) (by omega) (by omega)))<|Zz<|Sr<|Dd aF<|Dd (by exact bN rfl cP rfl rfl (by omega) (by exact aL4 _) rfl rfl)<|Dd (pH isAgg9 (hi:=rfl))<|Dd (by exact aA rfl rfl kV rfl (gJ 1 [] true x (by show 0+_ < _;have:=IH (x::y::l) 1;simp [cV] at this hl;omega)))<|Zz<|Sq<|Sr<|Dd aF<|Dd (by exact vF (l:=1) (h:=((x::y::l).map encStr).length) (rows':=(y::l).map encStr) rfl cP rfl (sz:=1) (by intro r hr;obtain ⟨q,_,rfl⟩:=List.mem_map.1 hr;rfl) rfl rfl (by rw [hll];omega) (aLZ _) (by rw [List.take_length];rfl))<|Dd (fY aD)<|Dd aF<|Zz<|aG ?_;have hyl:((y::l).map encStr).length=l.length+1:=by rw [aLT];rfl
  refine jB (fun(q g:Nat)=>([(1,sv sep),(8,.ref 2001 0 0 0),(63,.pv (aU (y::l))),(64,iv (((y::l).map encStr).length:Int)),(65,iv (q:Int))],sC g (EV sep x (y::l) q) true)) (fun q g=>q≤l.length+1) (fun q g=>l.length+1 - q) 0 2 (aLa _) ?_ ?_
  ·show cD _ _ _ _ (sC (1+1) ([]++x.data.toList++[]) true);rw [List.append_nil];exact(cD.wk (Eb<|Ea<|Eb<|Eb<|Eb<|trivial) (Hc (eR rfl rfl)<|Hc (dG _ _)<|trivial) trivial)
  intro q g hq;refine Sr<|Dd dK<|Zz<|Sq ?_;refine Cn ?_ ?_<;>intro hc7
  ·have hlt:q < l.length+1:=by have:=aLP hc7;omega
   obtain ⟨s,hs⟩:=bE (show q < (y::l).length by rw [aLV];exact hlt);have hi:=cJ (f:=encStr) hs;have hpl:=SB (sep:=sep) (x:=x) (l:=y::l) (k:=q) (Nat.le_of_lt hlt);have hnx:=aAE (sep:=sep) (x:=x) hs;have hss:=aBX (aL3 hs);have hxs:x.size+cV (y::l)=cV (x::y::l):=by simp [cV]
   have hll2:(y::l).length=l.length+1:=rfl;rw [hll2,← hMT] at hpl;refine aE<|Sq<|aG<|Sr<|Dd (by exact bN rfl cP rfl rfl (by omega) (by exact aL4 _) hi rfl)<|Dd (pH isAgg9 (hi:=hi))<|Dd aP<|Zz<|Sr<|Dd aF<|Dd (by exact aA rfl rfl kV rfl (gJ g (EV sep x (y::l) q) true sep (by omega)))<|Zz<|Rg<|Dd aF<|Dd (by exact aA rfl rfl kV rfl (gJ (g+1) (EV sep x (y::l) q++sep.data.toList) true s (by rw [aLU];show _+sep.size+_ < _;omega)))<|Zz<|Rg<|Dd pM<|Dd aF<|Zz ?_;refine⟨q+1,g+1+1,by omega,by omega,?_⟩;show cD _ _ _ _ (sC (g+1+1) (EV sep x (y::l) (q+1)) true);rw [hnx,← List.append_assoc];exact(cD.wk (Eb<|Ea<|Eb<|Eb<|Eb<|trivial) (Hc (eR rfl rfl)<|Hc (dG _ _)<|trivial) trivial)
  have hge2:q=l.length+1:=by have:=aLQ hc7;omega
  have hpl:=SB (sep:=sep) (x:=x) (l:=y::l) hq;have hll2:(y::l).length=l.length+1:=rfl;have hxs:x.size+cV (y::l)=cV (x::y::l):=by simp [cV]
  rw [hll2,← hMT] at hpl;refine bG<|Sr<|Dd (by exact aA rfl rfl kU rfl (MH g (EV sep x (y::l) q) true (by omega)))<|Dd aP<|Zz<|aC ?_;have hres:(⟨(EV sep x (y::l) q).toArray⟩:ByteArray)=⟨(cH sep.data.toList (bs (x::y::l))).toArray⟩:=by
   rw [EV,hge2,← hll2,List.take_length];rfl
  rw [← hres];exact Rt Qq
 exact absurd (aLQ hc3) (by omega)
def asc {α:Type} (f:α→ByteArray) (l:List α):Prop:=l.Pairwise (fun a b=>CA (f a) (f b)=true)
theorem aFj {α:Type} {f:α→ByteArray} {l:List α} (h:asc f l) {i j:Nat} {a b:α} (hij:i < j) (ha:l[i]?=some a) (hb:l[j]?=some b):CA (f a) (f b)=true:=by
 obtain ⟨i1,i2⟩:=aLX.1 ha;obtain ⟨j1,j2⟩:=aLX.1 hb;have:=List.pairwise_iff_getElem.1 h i j i1 j1 hij
 rwa [i2,j2] at this
abbrev pvR (ps:List (List PV)):List (List AV):=ps.map (·.map .pv)
theorem aE8 (ps:List (List PV)):(pvR ps).length=ps.length:=aLT _
theorem J5 {last:ByteArray} {t:GTag}:FE last t=false↔bI t.key=true∧CA last t.key=true∧t.val≠sNil∧t.val.size≤200:=by
 simp only [FE,aLf,Bool.not_eq_false',aEF,aL1];constructor
 ·rintro⟨⟨⟨h1,h2⟩,h3⟩,h4⟩;exact⟨h1,h2,h3,by omega⟩
 rintro⟨h1,h2,h3,h4⟩;exact⟨⟨⟨h1,h2⟩,h3⟩,by omega⟩
theorem aED {s:ByteArray} (h:s≠sNil):CA sNil s=true:=by
 cases e:CA sNil s with
 | true=>rfl
 | false=>exact absurd (XE (aEE s) e) h
theorem AI {l:List GTag}:xD l=true↔(∀ t,t∈l→bI t.key=true∧t.val≠sNil∧t.val.size≤200)∧asc GTag.key l∧l.length≤60:=by
 have hlen:decide ((l.length:Int)≤60)=decide (l.length≤60):=by
  rw [Bool.eq_iff_iff,aL0,aL0];omega
 rw [xD,hlen,aL2,aLc,List.any_eq_false,aL0];constructor
 ·rintro⟨h,hn⟩;have hb:∀ k t,l[k]?=some t→bI t.key=true∧CA (fB GTag.key l k) t.key=true∧t.val≠sNil∧t.val.size≤200:=fun k t hk=>by
   have h1:=h k (List.mem_range.2 (aLX.1 hk).1);rw [NZ,hk] at h1;simp only [Bool.not_eq_true] at h1;exact J5.1 h1
  refine⟨fun t ht=>?_,?_,hn⟩
  ·obtain ⟨k,hk⟩:=aLe.1 ht;obtain ⟨a,_,b,c⟩:=hb k t hk;exact⟨a,b,c⟩
  have key:∀ (d i:Nat) (a b:GTag),l[i]?=some a→l[i+d+1]?=some b→CA a.key b.key=true:=by
   intro d
   induction d with
   | zero =>
    intro i a b ha hb';have:=(hb (i+1) b hb').2.1;rw [fB,ha] at this;exact this
   | succ d ih =>
    intro i a b ha hb';have hlt:i+d+1 < l.length:=by have:=(aLX.1 hb').1;omega
    obtain ⟨x,hx⟩:=bE hlt;have h2:=(hb (i+(d+1)+1) b hb').2.1;rw [fB,show i+(d+1)=i+d+1 by omega,hx] at h2;exact MJ (ih i a x ha hx) h2
  rw [asc,List.pairwise_iff_getElem];intro i j hi hj hij;exact key (j - i - 1) i _ _ (aLY hi) (by rw [show i+(j - i - 1)+1=j by omega];exact aLY hj)
 rintro⟨h1,h2,h3⟩;refine⟨fun k hk=>?_,h3⟩;have hlt:=List.mem_range.1 hk;rw [NZ,aLY hlt];simp only [Bool.not_eq_true];obtain ⟨a,b,c⟩:=h1 _ (List.getElem_mem hlt);refine J5.2 ⟨a,?_,b,c⟩;cases k with
 | zero =>
  have:l[0].key≠sNil:=aCb a;exact aED this
 | succ k =>
  rw [fB,aLY (show k < l.length by omega)];exact aFj h2 (Nat.lt_succ_self k) (aLY (by omega)) (aLY hlt)
theorem Fin.slice0 {H1:aB} {id g n:Nat} {ob:Ob} (ps:List (List PV)) (hH:H1.get id=some ob) (hg:ob.g=g) (hps:ob.rows=ps.map (·.map .pv)) (hn:ps.length=n) :
  Fin [] H1 (.osl id g 0 n) [] (.pv (.sl ps)):=by
 subst hg hn;exact Fin.fz (id:=id) (ob:=ob) ps hH hps (.osl (by rw [aLb,List.drop_zero,List.take_length])) rfl trivial trivial
theorem OR (l:List ByteArray):∀ r∈l.map encStr,r.length=1:=fun r hr=>by
 obtain ⟨t,_,rfl⟩:=List.mem_map.1 hr;rfl
theorem JQ (n:Nat) (H:aB) (h4:H.get 904=none) (h5:H.get 905=none) (hc:cZ H) (hn:n < 1099511627776) :
  aH Tryz.prog 249 [.pv .nils,iv (n:Int)] H (fun r H'=>r=.osl 905 1 0 0∧H'=(905,⟨1,1,9,[]⟩)::H):=by
 refine Bd func249 rfl ntmps249 ?_;by_cases h0:n=0
 ·subst h0;refine TG (t:=0) (id:=905) (sz:=1) (ty:=9) rfl h5 rfl ?_;refine Sr<|Dd aP<|Zz<|Sq<|Sr<|Dd aF<|Dd dK<|Zz ?_;refine Cn ?_ ?_<;>intro hc1
  ·have h:=aLP hc1;omega
  refine aE<|Sq<|Sr<|Dd aF<|Dd aF<|Dd (by exact yO rfl aD rfl rfl rfl)<|Dd aF<|Dd (by exact yN rfl aD rfl rfl rfl)<|Dd (by exact eB rfl rfl rfl (by exact pO (by omega) (by omega)))<|Dd (by exact eB rfl rfl rfl (by exact pO (by omega) (by omega)))<|Dd aP<|Zz<|Sr<|Dd aF<|Dd mI<|Zz ?_;refine Cn ?_ ?_<;>intro hc2
  ·have h:=aLP hc2;omega
  refine aE<|Sq ?_;refine aA4 (t:=0) rfl rfl rfl (by decide) ?_;refine Rg<|Dd aF<|Dd aP<|Zz<|aC ?_;refine dF (H':=((905,⟨1,1,9,[]⟩)::H)) (.inr rfl) rfl (aT rfl) ((Fin.bump (g:=0) (k:=1) rfl rfl (by decide) rfl rfl rfl).trans (Fin.get' (fun j=>sT _ _ _ _ j))) ?_;exact Qq
 refine TG (t:=0) (id:=904) (sz:=1) (ty:=9) rfl h4 rfl ?_;have h5':aB.get ((904,(⟨0,1,9,[]⟩:Ob))::H) 905=none:=h5;refine Sr<|Dd aP<|Zz<|Sq<|Sr<|Dd aF<|Dd dK<|Zz ?_;refine Cn ?_ ?_<;>intro hc3
 ·have h:=aLP hc3;omega
 refine aE<|Sq<|Sr<|Dd aF<|Dd aF<|Dd (by exact yO rfl aD rfl rfl rfl)<|Dd aF<|Dd (by exact yN rfl aD rfl rfl rfl)<|Dd (by exact eB rfl rfl rfl (by exact pO (by omega) (by omega)))<|Dd (by exact eB rfl rfl rfl (by exact pO (by omega) (by omega)))<|Dd aP<|Zz<|Sr<|Dd aF<|Dd mI<|Zz ?_;refine Cn ?_ ?_<;>intro hc4
 ·refine Rg<|Dd aF<|Dd aF<|Dd (by exact yO rfl aD rfl rfl rfl)<|Dd (by exact QR (l:=0) (h:=0) rfl cP rfl rfl rfl rfl rfl rfl (aLZ _) (aLZ _) rfl rfl rfl)<|Dd aF<|Dd (by exact HM (id2:=905) (m:=n) rfl cP underlying3 TQ zo9 rfl rfl rfl rfl rfl (aLZ _) rfl (by omega) (by omega) (by omega) (aLb _) (by omega) h5' rfl)<|Dd aF<|Dd (by exact yN rfl aD rfl rfl rfl)<|Dd (by exact gH (l:=0) (h:=0) rfl cP rfl rfl rfl rfl rfl rfl (aLZ _) (by omega) rfl rfl)<|Dd aP<|Zz<|Sr<|Dd aF<|Dd aP<|Zz<|aC ?_;refine dF (H':=((905,⟨1,1,9,[]⟩)::H)) (.inr rfl) rfl (aT rfl) ((Fin.trunc (g:=0) (k:=1) (sz:=1) (ty:=9) (rows:=[]) rfl rfl (by decide) rfl rfl (List.take_zero)).trans (Fin.front' [_,_,_] [(905,⟨1,1,9,[]⟩)] (by simp;rfl) (by simp [h4,h5]) (by simp [aB.get]) (by simp) hc (by simp [h4,h5]))) ?_;exact Qq
 have h:=aLQ hc4;omega
theorem E8 (ls:List (List ByteArray)) (H:aB) (hls:ls.length < 1099511627776) (hb:ls.flatten.length < 1099511627776) :
  aH Tryz.prog 211 [.pv (.sl (ls.map (fun l=>[.sl (l.map encStr)])))] H (fun r H'=>r=.pv (.sl (ls.flatten.map encStr))∧H'=H):=by
 refine Pu ?_;have hml:(ls.map (fun l=>[PV.sl (l.map encStr)])).length=ls.length:=aLT _;have hpre:∀ k,((ls.take k).flatten).length≤ls.flatten.length:=fun k=>by
  conv=>rhs;rw [← List.take_append_drop k ls,List.flatten_append,aLU]
  omega
 have hst:∀ k l,ls[k]?=some l→(ls.take (k+1)).flatten=(ls.take k).flatten++l:=fun k l h=>by
  rw [List.take_add_one,h,List.flatten_append];simp
 refine Bd func211 rfl ntmps211<|Sr<|Dd aP<|Zz<|Sr<|Dd aP<|Zz<|Sq<|Sr<|Dd aF<|Dd (fY B5)<|Dd aF<|Zz<|aG ?_;refine bQ (σ:=Nat) (fun k=>([(0,.pv (.sl (ls.map (fun l=>[.sl (l.map encStr)])))),(3,iv (((ls.take k).flatten).length:Int)),(9,.pv (.sl (ls.map (fun l=>[.sl (l.map encStr)])))),(10,iv ((ls.map (fun l=>[PV.sl (l.map encStr)])).length:Int)),(11,iv (k:Int))],[])) (fun k=>k≤ls.length) (fun k=>ls.length - k) 0 (by omega) ?_ ?_
 ·exact E0
 intro k hk;refine Sr<|Dd dK<|Zz<|Sq ?_;refine Cn ?_ ?_<;>intro hc1
 ·have hlt:k < ls.length:=by have:=aLP hc1;omega
  obtain ⟨l,hl⟩:=bE hlt;have hi:=cJ (f:=fun l=>[PV.sl (l.map encStr)]) hl;have hml2:(l.map encStr).length=l.length:=aLT _;have h1:=hst k l hl;have h2:=hpre (k+1);have h3:((ls.take (k+1)).flatten).length=((ls.take k).flatten).length+l.length:=by rw [h1,aLU]
  have hw:IntKind.i64.wrap ((((ls.take k).flatten).length:Int)+((l.map encStr).length:Int))=(((ls.take (k+1)).flatten).length:Int):=by rw [IntKind.wrap_i64,hml2,h3];omega
  refine aE<|Sq<|aG<|Sr<|Dd (xZ FR)<|Dd (pH aJ)<|Dd aP<|Zz<|Sr<|Dd aF<|Dd aF<|Dd (fY aD)<|Dd (by exact cA rfl rfl rfl hw)<|Dd aP<|Zz<|Sr<|Dd aF<|Dd dK<|Zz ?_;refine Cn ?_ ?_<;>intro hc2
  ·have h:=aLP hc2;omega
  refine aE<|Rg<|Dd pM<|Dd aF<|Zz ?_;exact⟨k+1,by omega,by omega,E0⟩
 have hge:k=ls.length:=by have:=aLQ hc1;omega
 subst hge;rw [List.take_length];refine bG<|Sr<|Dd aF<|Dd (by exact O3 rfl rfl call249 rfl (JQ ls.flatten.length [] rfl rfl (cZ.of (by simp)) hb))<|Dd aP<|Zz<|Sq<|Sr<|Dd aF<|Dd (fY B5)<|Dd aF<|Zz<|aG ?_;refine jB (fun(k:Nat) (g:Nat)=>([(6,.osl 905 g 0 ((ls.take k).flatten.map encStr).length),(25,.pv (.sl (ls.map (fun l=>[.sl (l.map encStr)])))),(26,iv ((ls.map (fun l=>[PV.sl (l.map encStr)])).length:Int)),(27,iv (k:Int))],[(905,⟨g,1,9,pvR ((ls.take k).flatten.map encStr)⟩)])) (fun k g=>k≤ls.length) (fun k g=>ls.length - k) 0 1 (by omega) ?_ ?_
 ·exact E0
 intro k g hk;refine Sr<|Dd dK<|Zz<|Sq ?_;refine Cn ?_ ?_<;>intro hc3
 ·have hlt:k < ls.length:=by have:=aLP hc3;omega
  obtain ⟨l,hl⟩:=bE hlt;have hi:=cJ (f:=fun l=>[PV.sl (l.map encStr)]) hl;have hml2:(l.map encStr).length=l.length:=aLT _;have hml3:((ls.take k).flatten.map encStr).length=((ls.take k).flatten).length:=aLT _;have h1:=hst k l hl;have h2:=hpre (k+1);have h3:((ls.take (k+1)).flatten).length=((ls.take k).flatten).length+l.length:=by rw [h1,aLU]
  refine aE<|Sq<|aG<|Sr<|Dd (xZ FR)<|Dd (pH aJ)<|Dd aP<|Zz<|Rg<|Dd aF<|Dd aF<|Dd (by exact eK rfl cP TQ rfl rfl rfl rfl rfl (aE8 _) rfl (OR l) rfl (by omega) (by rw [h1,List.map_append,aLU]:((ls.take k).flatten.map encStr).length+(l.map encStr).length=((ls.take (k+1)).flatten.map encStr).length) (by rw [h1,List.map_append,pvR,pvR,List.map_append]:pvR ((ls.take k).flatten.map encStr)++(l.map encStr).map (·.map .pv)=pvR ((ls.take (k+1)).flatten.map encStr)))<|Dd aP<|Zz<|Rg<|Dd pM<|Dd aF<|Zz ?_;exact⟨k+1,g+1,by omega,by omega,cD.dup ⟨⟨_,rfl,rfl⟩,⟨_,rfl,rfl⟩,⟨_,rfl,rfl⟩,⟨_,rfl,rfl⟩,trivial⟩⟩
 have hge:k=ls.length:=by have:=aLQ hc3;omega
 subst hge;rw [List.take_length];refine bG<|Sr<|Dd aF<|Dd aP<|Zz<|aC ?_;refine dF (H':=[]) (.inr rfl) rfl (aT rfl) (Fin.slice0 (id:=905) (ls.flatten.map encStr) rfl rfl rfl rfl) ?_;exact Qq
theorem JS {o:GObj} (h:mJ o=true):o.refs.length≤2000∧o.tags.length≤60∧xD o.tags=true∧bI o.id=true∧(o.kind=2→2≤o.refs.length):=by rw [mJ,aL2,aLc,NH,tI] at h;have h1:=h.1;simp only [aLf,Bool.not_eq_false',aL1] at h1;obtain ⟨⟨⟨⟨a1,a2⟩,a3⟩,a4⟩,a5⟩:=h1;refine⟨by omega,(AI.1 a3).2.2,a3,a2,fun hk=>?_⟩;rw [hk,show BP 2=2 from rfl] at a4;omega
theorem wL {e:GEdit}:fJ e=true↔(1≤e.op∧e.op≤7)∧uI e=true∧GH e=e:=by rw [fJ,aL2,aL2,aL2,aL0,aL0,VW]
theorem JU {e:GEdit} (h:fJ e=true):e.val.size≤200:=by
 obtain ⟨_,h2,h3⟩:=wL.1 h;have hv:(GH e).val=e.val:=by rw [h3]
 by_cases e3:e.op=3
 ·rw [uI,aLR (by omega),aLR (by omega),aLS e3,aL2,aL2,aL0] at h2;omega
 have:e.val=sNil:=by
  rw [← hv,GH]
  repeat' split
  all_goals rfl
 rw [this];decide
theorem aAK {o:GObj} (h:mJ o=true):1≤o.kind∧o.kind≤5:=by
 rw [mJ,aL2,aLc,NH,tI] at h;have h1:=h.1;simp only [aLf,aL1] at h1;have hw:=h1.1.1.1.1;unfold fQ at hw;by_cases a:o.kind=1
 ·omega
 by_cases b:o.kind=2
 ·omega
 by_cases c:o.kind=3
 ·omega
 by_cases d:o.kind=4
 ·omega
 by_cases f:o.kind=5
 ·omega
 rw [aLR a,aLR b,aLR c,aLR d,aLR f] at hw;exact absurd rfl hw
def lP (s:ByteArray):ByteArray:=bL (s.size:Int)++⟨#[58]⟩++s
def aO (l:List ByteArray):List UInt8:=l.flatMap fun s=>(lP s).data.toList
def zF (l:List ByteArray):ByteArray:=pU ⟨(aO l).toArray⟩
theorem mH {n:Int} (h0 : -9223372036854775808≤n) (h1:n≤9223372036854775807):(bL n).size≤21:=by
 have:=Lib.itoa_length_le n h0 h1;show (Lib.itoa n).toArray.size≤21
 simpa using this
theorem mS (s:ByteArray):(lP s).size=(bL (s.size:Int)).size+1+s.size:=by rw [lP,ByteArray.size_append,ByteArray.size_append];rfl
theorem qG (l:List ByteArray) (s:ByteArray):aO (l++[s])=aO l++(lP s).data.toList:=by rw [aO,aO,List.flatMap_append,List.flatMap_cons,List.flatMap_nil,List.append_nil]
theorem wH:∀ (l:List ByteArray) (k:Nat),(aO (l.take k)).length≤(aO l).length:=fun l k=>by
 have h:aO l=aO (l.take k)++aO (l.drop k):=by rw [aO,aO,aO,← List.flatMap_append,List.take_append_drop]
 rw [h,aLU];omega
theorem zX {α:Type} {l:List α} {k:Nat} {a:α} (h:l[k]?=some a):l.take (k+1)=l.take k++[a]:=by rw [List.take_add_one,h,Option.toList_some]
theorem kX (s:ByteArray):s.data.toList.length=s.size:=by simp
theorem yU:∀ l:List ByteArray,l.length≤(aO l).length
 | []=>aLZ _
 | s::r=>by
  have ih:=yU r;have h:aO (s::r)=(lP s).data.toList++aO r:=by rw [aO,List.flatMap_cons];rfl
  rw [h,aLU,aLV,kX,mS];omega
theorem aCO (l:List ByteArray) (H:aB) (hl:(aO l).length < 35184372088832):aH Tryz.prog 133 [.pv (aU l)] H (fun r H'=>r=sv (zF l)∧H'=H):=by
 refine Pu ?_;have hml:(l.map encStr).length=l.length:=aLT _;have hll:=yU l;refine Bd func133 rfl ntmps133<|Sr<|Dd aP<|Zz<|Sr<|Dd (by exact bC (id:=2001) rfl D3 rfl rfl)<|Zz<|Sq<|Sq ?_;refine fE.ent (E':=[(0,.pv (aU l)),(3,.ref 2001 0 0 0)]) (H':=sC 0 [] false) (cD.bld0 ⟨⟨_,rfl,.same (by simp)⟩,⟨_,rfl,.same (by simp;rfl)⟩,trivial⟩) ?_;refine Rg<|Dd aF<|Dd (fY aD)<|Dd aF<|Zz<|aG ?_;refine N1 (fun(k g:Nat) (u:Bool)=>([(3,.ref 2001 0 0 0),(6,.pv (aU l)),(7,iv ((l.map encStr).length:Int)),(8,iv (k:Int))],sC g (aO (l.take k)) u)) (fun k g u=>k≤l.length) (fun k g u=>l.length - k) 0 0 false (aLa _) ?_ ?_
 ·exact(cD.wk (Ea<|Eb<|Eb<|Eb<|trivial) (Hc (eR rfl rfl)<|Hc (dG _ _)<|trivial) trivial)
 intro k g u hk;have hle:=wH l k;refine Sr<|Dd dK<|Zz<|Sq ?_;refine Cn ?_ ?_<;>intro hc1
 ·have hlt:k < l.length:=by have:=aLP hc1;omega
  obtain ⟨s,hs⟩:=bE hlt;have hi:=cJ (f:=encStr) hs;have hle2:=wH l (k+1);rw [zX hs,qG,aLU,kX,mS] at hle2;have hsz:s.size < 35184372088832:=by omega
  refine aE<|Sq<|aG<|Sr<|Dd (xZ cP)<|Dd (pH isAgg9)<|Dd aP<|Zz<|Rg<|Dd aF<|Dd (nT underlying9)<|Dd (by exact aA rfl rfl mO rfl (qH (s.size:Int) (by omega) (by omega) _))<|Dd (by exact gR rfl rfl rfl (by have:(⟨#[58]⟩:ByteArray).size=1:=rfl;omega) rfl)<|Dd aF<|Dd (by exact gR rfl rfl rfl (by rw [ByteArray.size_append];have:(⟨#[58]⟩:ByteArray).size=1:=rfl;omega) rfl)<|Dd (by exact aA rfl rfl kV rfl (gJ g (aO (l.take k)) u (lP s) (by rw [mS];omega)))<|Zz<|Rg<|Dd pM<|Dd aF<|Zz ?_;refine⟨k+1,g+1,true,by omega,by omega,?_⟩;rw [zX hs,qG];exact(cD.wk (Ea<|Eb<|Eb<|Eb<|trivial) (Hc (eR rfl rfl)<|Hc (dG _ _)<|trivial) trivial)
 have hge:k=l.length:=by have:=aLQ hc1;omega
 subst hge;rw [List.take_length];exact bG<|Sr<|Dd (by exact aA rfl rfl kU rfl (MH g (aO l) u (by omega)))<|Dd (by exact aA rfl rfl QH rfl (Q0 ⟨(aO l).toArray⟩ _ (by show (aO l).toArray.size < _;rw [List.size_toArray];omega)))<|Dd aP<|Zz<|aC<|Rt<|Qq
theorem iM (s:ByteArray):(pU s).size=16:=by show (LM _).toArray.size=16;simp [LM]
def xX:ByteArray→Nat→ByteArray
 | t,0=>t
 | t,n+1=>xX (pU t) n
theorem P1:∀ (a b:Nat) (t:ByteArray),xX (xX t a) b=xX t (a+b)
 | 0,b,t=>by rw [aLb];rfl
 | a+1,b,t=>by
  rw [show a+1+b=(a+b)+1 by omega];exact P1 a b (pU t)
theorem DL (t:ByteArray) (n:Nat):xX t (n+1)=pU (xX t n):=by rw [← P1 n 1 t];rfl
theorem TA {t:ByteArray} (h:t.size=16):∀ n,(xX t n).size=16
 | 0=>h
 | n+1=>by rw [DL,iM]
def Y8 (m:ByteArray):Nat:=S2 (aAU m.size) m.data.toList
def dJ (m:ByteArray):List Nat:=(List.range 16).map (M4 (Y8 m))
def yG (m:ByteArray):Nat:=((dJ m).map (15 - ·)).sum
def DW (m:ByteArray):List Nat:=dJ m++[yG m / 16,yG m % 16]
theorem zH (m:ByteArray):(dJ m).length=16:=by simp [dJ]
theorem HH (m:ByteArray):(DW m).length=18:=by simp [DW,dJ]
theorem IA:∀ l:List Nat,(l.map (15 - ·)).sum≤15*l.length
 | []=>aLZ _
 | a::r=>by
  have:=IA r;simp only [List.map_cons,List.sum_cons,aLV];omega
theorem RE (m:ByteArray):yG m≤240:=by have:=IA (dJ m);rw [zH] at this;exact this
theorem WE (m:ByteArray):∀ d∈DW m,d < 16:=by
 intro d hd;rcases List.mem_append.1 hd with h|h
 ·obtain ⟨j,_,rfl⟩:=List.mem_map.1 h;exact yS _ _
 have:=RE m;simp only [aL5,aL9,or_false] at h;rcases h with rfl|rfl<;>omega
def FY:ByteArray:=⟨#[110,111,100,101]⟩
def jO (s:ByteArray) (i k:Nat):ByteArray:=zF [s,bL (i:Int),bL (k:Int)]
def F9 (s:ByteArray) (i:Nat):List ByteArray:=(List.range 18).map fun k=>xX (jO s i k) 15
def PJ (s:ByteArray) (i:Nat):ByteArray:=zF (F9 s i)
def kM (s:ByteArray) (h:Nat):List ByteArray:=(List.range (2 ^ h)).map (PJ s)
def C2 (a b:ByteArray):ByteArray:=zF [FY,a,b]
def OE:List ByteArray→List ByteArray
 | a::b::r=>C2 a b::OE r
 | _=>[]
def MN:Nat→List ByteArray→ByteArray
 | 0,l=>l.headD sNil
 | h+1,l=>MN h (OE l)
def kZ:Nat→List ByteArray→Nat→List ByteArray
 | 0,_,_=>[]
 | h+1,l,i=>l.getD (i ^^^ 1) sNil::kZ h (OE l) (i / 2)
def rC (s:ByteArray) (h:Nat):ByteArray:=MN h (kM s h)
def CG (s:ByteArray) (i:Nat) (m:ByteArray):List ByteArray:=(List.range 18).map fun k=>xX (jO s i k) ((DW m).getD k 0)
def xE:ByteArray→List ByteArray→Nat→ByteArray
 | at',[],_=>at'
 | at',o::r,i=>xE (if i % 2=1 then C2 o at' else C2 at' o) r (i / 2)
def xF (m:ByteArray) (l:List ByteArray):List ByteArray:=List.zipWith (fun s d=>xX s (15 - d)) l (DW m)
def SF (b:UInt8):Bool:=(48≤b&&b≤57)||(97≤b&&b≤102)
def isJ (t:ByteArray):Bool:=decide (t.size=16)&&t.data.toList.all SF
def vG (key m:ByteArray) (i:Int) (l p:List ByteArray):Bool :=decide (l.length=18∧p.length≤8)&&l.all isJ&&p.all isJ&&decide (0≤i∧i < 2 ^ p.length)&&decide (xE (zF (xF m l)) p i.toNat=key)
theorem zV:∀ (n:Nat) (l:List ByteArray),l.length=2*n→(OE l).length=n
 | 0,[],_=>rfl
 | n+1,a::b::r,h=>by
  have:=zV n r (by simp only [aLV] at h;omega);rw [OE,aLV,this]
 | n+1,[a],h=>by simp only [aLV,List.length_nil] at h;omega
 | n+1,[],h=>by simp at h
 | 0,a::r,h=>by simp at h
theorem OD:∀ (n:Nat) (l:List ByteArray) (k:Nat),l.length=2*n→k < n→(OE l).getD k sNil=C2 (l.getD (2*k) sNil) (l.getD (2*k+1) sNil)
 | 0,l,k,_,hk=>by omega
 | n+1,[],k,h,_=>by simp at h
 | n+1,[a],k,h,_=>by simp only [aLV,List.length_nil] at h;omega
 | n+1,a::b::r,0,h,_=>rfl
 | n+1,a::b::r,k+1,h,hk=>by
  have ih:=OD n r k (by simp only [aLV] at h;omega) (by omega);rw [OE,show 2*(k+1)=2*k+1+1 by omega,List.getD_cons_succ,ih,List.getD_cons_succ,List.getD_cons_succ,List.getD_cons_succ,List.getD_cons_succ]
theorem N8 (i:Nat):i ^^^ 1=if i % 2=1 then i - 1 else i+1:=by
 have h2:(i ^^^ 1) / 2=i / 2:=by
  rw [Nat.xor_div_two];simp
 have h3:(i ^^^ 1) % 2=(i % 2) ^^^ 1:=by
  have:=Nat.xor_mod_two_pow (a:=i) (b:=1) (n:=1)
  simpa using this
 have h4:(i ^^^ 1) % 2=1 - i % 2:=by
  rw [h3];have:i % 2=0∨i % 2=1:=by omega
  rcases this with h|h<;>rw [h]<;>rfl
 split
 ·omega
 omega
theorem NI:∀ (h:Nat) (l:List ByteArray) (i:Nat),l.length=2 ^ h→i < 2 ^ h→xE (l.getD i sNil) (kZ h l i) i=MN h l
 | 0,l,i,hl,hi=>by
  have:i=0:=by simpa using hi
  subst this;rw [kZ,xE,MN];cases l<;>rfl
 | h+1,l,i,hl,hi=>by
  have hl2:l.length=2*2 ^ h:=by rw [hl,Nat.pow_succ,Nat.mul_comm]
  have hi2:i / 2 < 2 ^ h:=by rw [Nat.pow_succ] at hi;omega
  have ih:=NI h (OE l) (i / 2) (zV _ _ hl2) hi2;rw [kZ,xE,MN,← ih,OD _ _ _ hl2 hi2,N8];congr 1
  split
  ·next h1 =>
   rw [show 2*(i / 2)=i - 1 by omega,show i - 1+1=i by omega]
  next h1 =>
  rw [show 2*(i / 2)=i by omega]
theorem EG:∀ (h:Nat) (l:List ByteArray) (i:Nat),(kZ h l i).length=h
 | 0,_,_=>rfl
 | h+1,l,i=>by rw [kZ,aLV,EG h]
theorem uR (s:ByteArray) (h:Nat):(kM s h).length=2 ^ h:=by simp [kM]
theorem aAC (s:ByteArray) {h i:Nat} (hi:i < 2 ^ h):(kM s h).getD i sNil=PJ s i:=by rw [List.getD_eq_getElem?_getD,kM,aLd,List.getElem?_range hi];rfl
theorem mW {α:Type} {l:List α} {k:Nat} {d:α} (h:k < l.length):l.getD k d∈l:=by rw [List.getD_eq_getElem?_getD,aLY h];exact List.getElem_mem h
theorem aCl (s:ByteArray) (i:Nat) (m:ByteArray):xF m (CG s i m)=F9 s i:=by
 apply List.ext_getElem?;intro k;rw [xF,List.getElem?_zipWith,CG,F9,aLd,aLd];by_cases hk:k < 18
 ·have hk2:k < (DW m).length:=by rw [HH];exact hk
  have hlt:=WE m _ (mW (d:=0) hk2);have h4:(DW m)[k]?=some ((DW m).getD k 0):=by
   rw [List.getD_eq_getElem?_getD,aLY hk2];rfl
  rw [List.getElem?_range hk,h4];show some (xX (xX (jO s i k) ((DW m).getD k 0)) (15 - (DW m).getD k 0))=some (xX (jO s i k) 15);rw [P1,show (DW m).getD k 0+(15 - (DW m).getD k 0)=15 by omega]
 rw [List.getElem?_eq_none (by simp;omega)];rfl
theorem aC7 {n:Nat} (h:n < 16):SF (UInt8.ofNat (sH n).toNat)=true:=by revert h;revert n;decide
theorem HD (s:ByteArray):isJ (pU s)=true:=by rw [isJ,aL2,aL0];refine⟨iM s,?_⟩;rw [List.all_eq_true];intro b hb;obtain ⟨j,_,rfl⟩:=List.mem_map.1 (show b∈(List.range 16).map _ from by simpa [pU,LM] using hb);exact aC7 (yS _ _)
theorem aH2 {t:ByteArray} (h:isJ t=true):∀ n,isJ (xX t n)=true
 | 0=>h
 | n+1=>by rw [DL];exact HD _
theorem rN {t:ByteArray} (h:isJ t=true):t.size=16:=by rw [isJ,aL2,aL0] at h;exact h.1
theorem Q8 (s:ByteArray) (i:Nat) (m:ByteArray):∀ t∈CG s i m,isJ t=true:=by intro t ht;obtain ⟨k,_,rfl⟩:=List.mem_map.1 ht;exact aH2 (HD _) _
theorem II (s:ByteArray) (i:Nat) (m:ByteArray):(CG s i m).length=18:=by simp [CG]
theorem GQ:∀ (n:Nat) (l:List ByteArray),l.length≤n→∀ t∈OE l,isJ t=true
 | _,[],_,t,ht=>by simp [OE] at ht
 | _,[a],_,t,ht=>by simp [OE] at ht
 | 0,a::b::r,h,t,ht=>by simp at h
 | n+1,a::b::r,h,t,ht=>by
  rw [OE] at ht;rcases aL5.1 ht with rfl|ht
  ·exact HD _
  exact GQ n r (by simp only [aLV] at h;omega) t ht
theorem EH:∀ (h:Nat) (l:List ByteArray) (i:Nat),l.length=2 ^ h→i < 2 ^ h→(∀ t∈l,isJ t=true)→∀ t∈kZ h l i,isJ t=true
 | 0,_,_,_,_,_,t,ht=>by simp [kZ] at ht
 | h+1,l,i,hl,hi,ha,t,ht=>by
  have hl2:l.length=2*2 ^ h:=by rw [hl,Nat.pow_succ,Nat.mul_comm]
  rw [kZ] at ht;rcases aL5.1 ht with rfl|ht
  ·refine ha _ (mW ?_);rw [N8];rw [Nat.pow_succ] at hi
   split<;>omega
  exact EH h (OE l) (i / 2) (zV _ _ hl2) (by rw [Nat.pow_succ] at hi;omega) (GQ _ _ (aLZ _)) t ht
theorem AF (s:ByteArray) (h:Nat):∀ t∈kM s h,isJ t=true:=by intro t ht;obtain ⟨k,_,rfl⟩:=List.mem_map.1 ht;exact HD _
theorem aBA (s m:ByteArray) {h i:Nat} (hh:h≤8) (hi:i < 2 ^ h):vG (rC s h) m (i:Int) (CG s i m) (kZ h (kM s h) i)=true:=by
 have h1:=NI h (kM s h) i (uR s h) hi;rw [aAC s hi,PJ,← aCl s i m] at h1;rw [vG,EG,II,List.all_eq_true.2 (Q8 s i m),List.all_eq_true.2 (EH h _ i (uR s h) hi (AF s h)),aL4,h1];have hi2:(i:Int) < 2 ^ h:=by exact_mod_cast hi
 simp [hh,rC,hi2]
def dO (l:List ByteArray):List (List AV):=l.map fun s=>[.pv (.str s)]
theorem iR (l:List ByteArray):(dO l).length=l.length:=aLT _
theorem kC (l:List ByteArray) (s:ByteArray):dO l++[[.pv (.str s)]]=dO (l++[s]):=by rw [dO,dO,List.map_append];rfl
theorem bV (H:aB) (l:List ByteArray):∀ r∈dO l,∀ a∈r,Clo H a:=by intro r hr a ha;obtain ⟨b,_,rfl⟩:=List.mem_map.1 hr;rw [aLW] at ha;subst ha;simp
theorem fW (l:List ByteArray):dO l=(l.map encStr).map (·.map .pv):=by rw [List.map_map];rfl
def iX (t:GTag):ByteArray:=t.key++⟨#[61]⟩++⟨(dT t.val.data.toList).toArray⟩
def wK (L:List ByteArray):aB:=[(903,⟨L.length,1,9,dO L⟩),(4,bx 1 22 [.osl 903 L.length 0 L.length])]
theorem aG6 (L:List ByteArray) (s:ByteArray):wK (L++[s])=[(903,⟨L.length+1,1,9,dO (L++[s])⟩),(4,bx 1 22 [.osl 903 (L.length+1) 0 (L.length+1)])]:=by simp [wK]
theorem vU (s:ByteArray):(⟨(dT s.data.toList).toArray⟩:ByteArray).size≤2*s.size+2:=by
 show (dT s.data.toList).length≤_;have:=SO s.data.toList;have h:s.data.toList.length=s.size:=by simp
 rw [dT,aLV,aLU,List.length_singleton];omega
theorem X4 {i j:Nat} {a b a' b':Ob} {id:Nat} (h:(aB.get [(i,a),(j,b)] id).isSome=true):(aB.get [(i,a'),(j,b')] id).isSome=true:=by
 simp only [aB.get] at h ⊢;cases e1:Nat.beq i id with
 | true=>rfl
 | false =>
  rw [e1] at h;cases e2:Nat.beq j id with
  | true=>rfl
  | false=>rw [e2] at h;exact h
theorem aDx (t:GTag) (L:List ByteArray) (hk:t.key.size < 1099511627776) (hv:t.val.size < 1099511627776) (hL:L.length < 1099511627776) :
  aH Tryz.prog 269 [av (bF t),.ref 4 0 0 0] (wK L) (fun r H'=>r=.tup []∧H'=wK (L++[iX t])):=by
 rw [aG6];have hq:=vU t.val;have h61:(⟨#[61]⟩:ByteArray).size=1:=rfl;have hks:(t.key++⟨#[61]⟩:ByteArray).size=t.key.size+1:=by rw [ByteArray.size_append];rfl
 refine Bd func269 rfl ntmps269<|Sr<|Dd (by exact bZ (id:=2) rfl rfl rfl rfl rfl)<|Zz<|aQ follows<|Cr [4] (fun _ h=>lh aJ h)<|Cr [2] (fun _ h=>fh DD h)<|Cr [2] (fun _ h=>lh isAgg9 h)<|Cr [] (fun H1 hH=>by exact gR rfl rfl rfl (by omega) rfl)<|Cr [2] (fun _ h=>fh HF h)<|Cr [2] (fun _ h=>lh isAgg9 h)<|Cr [] (fun H1 hH=>by exact aA rfl rfl call210 rfl (XN t.val _ (by omega)))<|Cr [] (fun H1 hH=>by exact gR rfl rfl rfl (by omega) rfl)<|Cr [] (fun H1 hH=>by exact aS [[.str (iX t)]] rfl cP rfl rfl rfl rfl rfl (by intro r hr;rw [aLW] at hr;subst hr;rfl))<|Cp [903] (fun H1 hH=>by exact eK (ps:=[[.str (iX t)]]) rfl cP TQ rfl ((hH _ rfl).trans rfl) rfl rfl rfl (iR L) rfl (by intro r hr;rw [aLW] at hr;subst hr;rfl) (m:=1) rfl (by omega) rfl (kC L (iX t))) ?_;refine Cp [4] (fun H1 hH=>by exact bT rfl sizeOf22 rfl rfl rfl rfl ((hH _ rfl).trans rfl) rfl rfl rfl)<|bJ<|Kr ?_;exact pL (H':=[(903,⟨L.length+1,1,9,dO (L++[iX t])⟩),(4,bx 1 22 [.osl 903 (L.length+1) 0 (L.length+1)])]) (.inl rfl) rfl (Fin.wk (by(simp;done)) (Hc (bV _ _)<|Ha<|trivial) ⟨rfl,rfl,trivial⟩) ⟨rfl,rfl⟩
def F7 (l:List GTag):ByteArray:=⟨(cH [32] (bs (l.map iX))).toArray⟩
def gA (l:List GTag):ByteArray×Int:=if xD l then(if 20000 < (F7 l).size then(sNil,2)else(F7 l,0))else(sNil,1)
theorem Z7 {t:GTag} (hk:t.key.size≤24) (hv:t.val.size≤200):(iX t).size≤427:=by have hq:=vU t.val;have h61:(⟨#[61]⟩:ByteArray).size=1:=rfl;rw [iX,ByteArray.size_append,ByteArray.size_append,h61];omega
theorem eF {s:ByteArray} (h:bI s=true):s.size≤24:=by rw [bI,aL2,aL2,aL0] at h;omega
theorem pB {l:List ByteArray} {n:Nat} (h:∀ s,s∈l→s.size≤n):cV l≤n*l.length:=by
 induction l with
 | nil=>exact aLa _
 | cons a l ih =>
  rw [cV,List.map_cons,List.sum_cons,aLV,Nat.mul_succ];have h1:=h a List.mem_cons_self;have h2:=ih (fun s hs=>h s (List.mem_cons_of_mem _ hs));rw [cV] at h2;omega
theorem aJY {L:List ByteArray} {K:aB} {r:ByteArray} (h:aH Tryz.prog 168 [.pv (aU L),sv ⟨#[32]⟩] [] (fun x H'=>x=sv r∧H'=[])):aH Tryz.prog 168 [.osl 903 L.length 0 L.length,sv ⟨#[32]⟩] ((903,⟨L.length,1,9,dO L⟩)::K) (fun x H'=>x=sv r∧H'=(903,⟨L.length,1,9,dO L⟩)::K):=by
 exact RO.calls (RO.lend (id:=903) (H1:=[]) (L.map encStr) (RO.of h rfl) (get_cons_same _ _ _) (fW L) rfl
  (cI (.osl (by rw [aLb,List.drop_zero,List.take_of_length_le (by rw [aLT];exact aLZ _)])) (cI (.same (by simp)) nL)) (fun _ _ h=>by cases h) (fun _ _ h=>by cases h) rfl)
theorem ME (l:List GTag) (H:aB) (hl:I7 l):aH Tryz.prog 241 [.pv (qY l)] H (fun r H'=>r=.tup [sv (gA l).1,iv (gA l).2]∧H'=H):=by
 refine Pu ?_;have hml:(l.map bF).length=l.length:=aLT _;refine Bd func241 rfl ntmps241<|Sr<|Dd aP<|Dd aP<|Zz<|Sq<|Sr<|Dd aF<|Dd (by exact aA rfl rfl aAk rfl (vM l _ hl))<|Dd lI<|Zz ?_;refine Cn ?_ ?_<;>intro hc1
 ·have hg:xD l=false:=by rw [← aLc];exact hc1
  have e:gA l=(sNil,1):=by rw [gA,aLR (by rw [hg];decide)]
  rw [e];exact Sr<|Dd aP<|Dd aP<|Zz<|aC<|Ru<|Qq
 have hg:xD l=true:=by rw [← Bool.not_eq_false'];exact hc1
 obtain ⟨g1,g2,g3⟩:=AI.1 hg;refine aE<|Sr<|Dd (by exact bC (id:=4) rfl aAs rfl rfl)<|Zz<|Sr<|Dd (by exact eZ rfl rfl)<|Dd aP<|Zz<|Sq<|Sq ?_;refine fE.ent (E':=[(0,.pv (qY l)),(4,.ref 4 0 0 0),(5,.clo 269 [.ref 4 0 0 0])]) (H':=wK []) (cD.nz 903 1 9 rfl rfl ⟨⟨_,rfl,(by exact Nz.same (by(simp;done)))⟩,⟨_,rfl,(by exact Nz.same (by(simp;rfl)))⟩,⟨_,rfl,(by exact Nz.same (by(simp;rfl)))⟩,trivial⟩ ⟨⟨_,rfl,rfl,rfl,rfl,(by exact .inr ⟨_,_,rfl,rfl,(by repeat(first|exact trivial|refine⟨(by exact Nz.own),?_⟩))⟩)⟩,trivial⟩ trivial) ?_;refine Rg<|Dd aF<|Dd (fY cM)<|Dd aF<|Zz<|aG ?_;refine bQ (σ:=Nat) (fun k=>([(4,.ref 4 0 0 0),(5,.clo 269 [.ref 4 0 0 0]),(13,.pv (qY l)),(14,iv ((l.map bF).length:Int)),(15,iv (k:Int))],wK ((l.take k).map iX))) (fun k=>k≤l.length) (fun k=>l.length - k) 0 (aLa _) ?_ ?_
 ·exact(cD.wk (Ea<|Ea<|Eb<|Eb<|Eb<|trivial) (Hc (bV _ _)<|Ha<|trivial) trivial)
 intro k hk;refine Sr<|Dd dK<|Zz<|Sq ?_;refine Cn ?_ ?_<;>intro hc2
 ·have hlt:k < l.length:=by have:=aLP hc2;omega
  obtain ⟨t,ht⟩:=bE hlt;have hi:=cJ (f:=bF) ht;obtain ⟨b1,b2,b3⟩:=g1 t (aL3 ht);have b4:=eF b1;have hLl:((l.take k).map iX).length < 1099511627776:=by rw [aLT,aL7];omega
  have hnx:(l.take (k+1)).map iX=(l.take k).map iX++[iX t]:=by rw [List.take_add_one,ht,List.map_append];rfl
  refine aE<|Sq<|aG<|Sr<|Dd (by exact bN rfl wY rfl rfl (by omega) (by exact aL4 _) hi rfl)<|Dd (by exact cQ rfl qQ iC rfl hi (by simp only [Zl,bF];rfl) rfl)<|Dd (by exact bC (id:=7) rfl aFu rfl rfl)<|Uu (iH iC)<|Zz<|Rg<|Dd aF<|Dd (pZ qQ iC)<|Dd (by exact bY rfl rfl rfl (cC.clo call269 (aH.frame (aDx t ((l.take k).map iX) (by omega) (by omega) hLl) (KP.sub ⟨rfl,rfl,trivial⟩) (cZ.ofL ⟨(by exact bV _ _),(by(simp;rfl)),trivial⟩) (by simp;rfl) (fun id h=>.inl (X4 h)))))<|Zz<|Rg<|Dd pM<|Dd aF<|Zz ?_;refine⟨k+1,by omega,by omega,?_⟩;show cD _ _ _ _ (wK ((l.take (k+1)).map iX));rw [hnx];exact(cD.wk (Ea<|Ea<|Eb<|Eb<|Eb<|trivial) (Hc (bV _ _)<|Ha<|trivial) trivial)
 have hge:k=l.length:=by have:=aLQ hc2;omega
 subst hge;have hsb:cV (l.map iX)≤427*l.length:=by
  have:=pB (l:=l.map iX) (n:=427) (fun s hs=>by
   obtain ⟨t,ht,rfl⟩:=List.mem_map.1 hs;obtain ⟨b1,b2,b3⟩:=g1 t ht;exact Z7 (eF b1) b3)
  rwa [aLT] at this
 have hj:aH Tryz.prog 168 [.pv (aU (l.map iX)),sv ⟨#[32]⟩] [] (fun x H'=>x=sv (F7 l)∧H'=[]):=qF (l.map iX) ⟨#[32]⟩ [] (by decide) (by rw [aLT];show 1*_+_+_ < _;omega);have hj2:=aJY (L:=l.map iX) (K:=[(4,bx 1 22 [.osl 903 (l.map iX).length 0 (l.map iX).length])]) hj;rw [List.take_length];refine bG<|Sr<|Dd (bK aJ)<|Dd (by exact aA rfl rfl mN rfl (hj2))<|Dd aP<|Zz<|Sq<|Sr<|Dd aF<|Dd (nT underlying9)<|Dd mI<|Zz ?_;refine Cn ?_ ?_<;>intro hc3
 ·have e:gA l=(sNil,2):=by
   rw [gA,aLS hg,aLS (by have:=aLP hc3;omega)]
  rw [e];exact Sr<|Dd aP<|Dd aP<|Zz<|aC<|Ru<|Qq
 have e:gA l=(F7 l,0):=by
  rw [gA,aLS hg,aLR (by have:=aLQ hc3;omega)]
 rw [e];exact aE<|Sr<|Dd aF<|Dd aP<|Dd aP<|Zz<|aC<|Ru<|Qq
theorem aAY {t:ByteArray} (h:t.size < 1099511627776):∀ n,(xX t n).size < 1099511627776
 | 0=>h
 | n+1=>by rw [DL,iM];decide
theorem P0 (t:ByteArray) (n:Nat) (H:aB) (ht:t.size < 1099511627776) (hn:n < 1000):aH Tryz.prog 97 [sv t,iv (n:Int)] H (fun r H'=>r=sv (xX t n)∧H'=H):=by
 refine Pu ?_;refine Bd func97 rfl ntmps97<|Sr<|Dd aP<|Zz<|Sq<|Sr<|Dd aF<|Dd aF<|Zz<|aG ?_;refine bQ (σ:=Nat) (fun k=>([(0,sv (xX t k)),(5,iv (n:Int)),(6,iv (k:Int))],[])) (fun k=>k≤n) (fun k=>n - k) 0 (aLa _) ?_ ?_
 ·exact Wk
 intro k hk;have hsum:=fun H=>Q0 (xX t k) H (by have:=aAY ht k;omega);rw [← DL] at hsum;refine Sr<|Dd dK<|Zz<|Sq ?_;refine Cn ?_ ?_<;>intro hc1
 ·have hlt:k < n:=by have:=aLP hc1;omega
  refine aE<|Sq<|aG<|Rg<|Dd aF<|Dd (by exact aA rfl rfl QH rfl (hsum _))<|Dd aP<|Zz<|Rg<|Dd (by exact cA rfl rfl rfl (show IntKind.i64.wrap ((k:Int)+1)=((k+1:Nat):Int)by rw [pO (by omega) (by omega)];omega))<|Dd aF<|Zz ?_;exact⟨k+1,by omega,by omega,Wk⟩
 have hge:k=n:=by have:=aLQ hc1;omega
 subst hge;exact bG<|Sr<|Dd aF<|Dd aP<|Zz<|aC<|Rt<|Qq
theorem R2 (l:List ByteArray) (H:aB) (hl:(aO l).length < 35184372088832):aH Tryz.prog 98 [.pv (aU l)] H (fun r H'=>r=sv (zF l)∧H'=H):=by refine Pu ?_;exact Bd func98 rfl ntmps98<|Sr<|Dd aP<|Zz<|Sr<|Dd aF<|Dd (by exact aA rfl rfl call133 rfl (aCO l _ hl))<|Dd aP<|Zz<|aC<|Rt<|Qq
theorem X5 (a b c:ByteArray):(aO [a,b,c]).length=(lP a).size+(lP b).size+(lP c).size:=by simp [aO,kX];omega
theorem BL (n:Nat) (h:n < 1099511627776):(bL (n:Int)).size≤21:=mH (by omega) (by omega)
theorem kY {s:ByteArray} (h:s.size < 1099511627776):(lP s).size≤s.size+22:=by have:=BL s.size h;rw [mS];omega
theorem XC (s:ByteArray) (i k:Nat) (H:aB) (hs:s.size < 1099511627776) (hi:i < 1099511627776) (hk:k < 1099511627776):aH Tryz.prog 100 [sv s,iv (i:Int),iv (k:Int)] H (fun r H'=>r=sv (jO s i k)∧H'=H):=by
 refine Pu ?_;have h1:=BL i hi;have h2:=BL k hk;have hj:(aO [s,bL (i:Int),bL (k:Int)]).length < 35184372088832:=by
  have e1:=kY hs;have e2:=kY (s:=bL (i:Int)) (by omega);have e3:=kY (s:=bL (k:Int)) (by omega);rw [X5];omega
 exact Bd func100 rfl ntmps100<|Sr<|Dd aP<|Zz<|Sr<|Dd aF<|Dd aF<|Dd (by exact aA rfl rfl mO rfl (qH (i:Int) (by omega) (by omega) _))<|Dd aF<|Dd (by exact aA rfl rfl mO rfl (qH (k:Int) (by omega) (by omega) _))<|Dd (by exact aS [[.str s],[.str (bL (i:Int))],[.str (bL (k:Int))]] rfl cP rfl rfl rfl rfl rfl (by intro r hr;simp only [aL5,aL9,or_false] at hr;rcases hr with rfl|rfl|rfl<;>rfl))<|Dd (by exact aA rfl rfl QE rfl (R2 [s,bL (i:Int),bL (k:Int)] _ hj))<|Dd aP<|Zz<|aC<|Rt<|Qq
theorem XU (a b:ByteArray) (back:Bool) (H:aB) (ha:a.size < 1099511627776) (hb:b.size < 1099511627776):aH Tryz.prog 99 [sv a,sv b,bv back] H (fun r H'=>r=sv (if back=true then C2 b a else C2 a b)∧H'=H):=by
 refine Pu ?_;have hj:∀ x y:ByteArray,x.size < 1099511627776→y.size < 1099511627776→(aO [FY,x,y]).length < 35184372088832:=by
  intro x y hx hy;have e1:=kY (s:=FY) (by decide);have e2:=kY hx;have e3:=kY hy;have e4:FY.size=4:=rfl;rw [X5];omega
 refine Bd func99 rfl ntmps99<|Sr<|Dd aP<|Zz<|Sq<|Sr<|Dd aF<|Zz ?_;refine Cn ?_ ?_<;>intro hc1
 ·subst hc1;exact Rg<|Dd aF<|Dd aF<|Dd aP<|Dd aP<|Zz<|Sr<|Dd aF<|Dd aF<|Dd (by exact aS [[.str FY],[.str b],[.str a]] rfl cP rfl rfl rfl rfl rfl (by intro r hr;simp only [aL5,aL9,or_false] at hr;rcases hr with rfl|rfl|rfl<;>rfl))<|Dd (by exact aA rfl rfl QE rfl (R2 [FY,b,a] _ (hj b a hb ha)))<|Dd aP<|Zz<|aC<|Rt<|Qq
 subst hc1;exact aE<|Sr<|Dd aF<|Dd aF<|Dd (by exact aS [[.str FY],[.str a],[.str b]] rfl cP rfl rfl rfl rfl rfl (by intro r hr;simp only [aL5,aL9,or_false] at hr;rcases hr with rfl|rfl|rfl<;>rfl))<|Dd (by exact aA rfl rfl QE rfl (R2 [FY,a,b] _ (hj a b ha hb)))<|Dd aP<|Zz<|aC<|Rt<|Qq
def NQ (s:ByteArray) (i k:Nat):List ByteArray:=(List.range k).map fun k=>xX (jO s i k) 15
theorem WB (s:ByteArray) (i k:Nat):NQ s i (k+1)=NQ s i k++[xX (jO s i k) 15]:=by rw [NQ,List.range_succ,List.map_append];rfl
theorem NP (s:ByteArray) (i k:Nat):(NQ s i k).length=k:=by simp [NQ]
theorem yD (s:ByteArray) (i k:Nat):(jO s i k).size=16:=iM _
theorem wF {b:Nat} (hb:b < 1099511627776):∀ (l:List ByteArray),(∀ s∈l,s.size≤b)→(aO l).length≤(b+22)*l.length
 | [],_=>aLZ _
 | s::r,h=>by
  have ih:=wF hb r (fun x hx=>h x (List.mem_cons_of_mem _ hx));have hs:=h s List.mem_cons_self;have e:aO (s::r)=(lP s).data.toList++aO r:=by rw [aO,List.flatMap_cons];rfl
  have h2:=kY (s:=s) (by omega);rw [e,aLU,aLV,kX,Nat.mul_add,Nat.mul_one];omega
theorem aAX (t:ByteArray) (H:aB) (ht:t.size < 1099511627776):aH Tryz.prog 97 [sv t,iv 15] H (fun r H'=>r=sv (xX t 15)∧H'=H):=P0 t 15 H ht (by decide)
theorem aH1 (s:ByteArray) (i:Nat) (H:aB) (hs:s.size < 1099511627776) (hi:i < 1099511627776):aH Tryz.prog 139 [sv s,iv (i:Int)] H (fun r H'=>r=sv (PJ s i)∧H'=H):=by
 refine Pu ?_;refine Bd func139 rfl ntmps139<|Sr<|Dd aP<|Zz<|Sr<|Dd (by exact nG (id:=905) (sz:=1) (ty:=9) rfl rfl rfl)<|Zz<|Sq<|Sr<|Dd aF<|Zz<|aG ?_;refine bQ (σ:=Nat) (fun k=>([(0,sv s),(1,iv (i:Int)),(5,.osl 905 k 0 k),(7,iv (k:Int))],[(905,⟨k,1,9,dO (NQ s i k)⟩)])) (fun k=>k≤18) (fun k=>18 - k) 0 (aLa _) ?_ ?_
 ·exact(cD.wk (Eb<|Eb<|Ea<|Eb<|trivial) (Hc (bV _ _)<|trivial) trivial)
 intro k hk;have hln:=NP s i k;have hnx:=WB s i k;refine Sr<|Dd dK<|Zz<|Sq ?_;refine Cn ?_ ?_<;>intro hc1
 ·have hlt:k < 18:=by have:=aLP hc1;omega
  refine aE<|Sq<|aG<|Sr<|Dd aF<|Dd aP<|Zz<|Rg<|Dd aF<|Dd aF<|Dd aF<|Dd aF<|Dd (by exact aA rfl rfl call100 rfl (XC s i k _ hs hi (by omega)))<|Dd (by exact aA rfl rfl aLF rfl (aAX (jO s i k) _ (by rw [yD];decide)))<|Dd (by exact aS [[.str (xX (jO s i k) 15)]] rfl cP rfl rfl rfl rfl rfl (by intro r hr;rw [aLW] at hr;subst hr;rfl))<|Dd (by exact eK (ps:=[[.str (xX (jO s i k) 15)]]) rfl cP TQ rfl rfl rfl rfl rfl (by rw [iR,hln]) rfl (by intro r hr;rw [aLW] at hr;subst hr;rfl) (m:=1) rfl (by omega) rfl (kC _ (xX (jO s i k) 15)))<|Dd aP<|Zz<|Rg<|Dd (by exact cA rfl rfl rfl (show IntKind.i64.wrap ((k:Int)+1)=((k+1:Nat):Int)by rw [pO (by omega) (by omega)];omega))<|Dd aF<|Zz ?_;refine⟨k+1,by omega,by omega,?_⟩;dsimp only;rw [hnx];exact(cD.wk (Eb<|Eb<|Ea<|Eb<|trivial) (Hc (bV _ _)<|trivial) trivial)
 have hge:k=18:=by have:=aLQ hc1;omega
 subst hge;refine bG<|Sq ?_;refine fE.ent (cD.fz (id:=905) (E':=[(5,.pv (aU (F9 s i)))]) (H':=[]) ((F9 s i).map encStr) rfl (fW _)
  (by intro p hp;simp only [aL5,aL9,or_false] at hp;subst hp;exact⟨_,rfl,.osl (by rw [aLb,List.drop_zero];rfl)⟩) rfl trivial trivial) ?_
 exact Rg<|Dd aF<|Dd (by exact aA rfl rfl QE rfl (R2 (F9 s i) _ (by have h:=wF (b:=16) (by decide) (F9 s i) (fun x hx=>by obtain ⟨k,_,rfl⟩:=List.mem_map.1 hx;exact Nat.le_of_eq (TA (yD s i k) 15));rw [show (F9 s i).length=18 from NP s i 18] at h;omega)))<|Dd aP<|Zz<|aC<|Rt<|Qq
end Go.Proofs.YtiifmppaejpemaaGreatDoor
namespace Go.Abs
theorem WZ {P:Program} {id p p2 N:Nat} {x:Go.Loop} {assign body:Code} {E0:bO} {a a2:AV} {K:aB} {Q:AV→aB→Prop} (E2:bO) (K2:aB) (hx1:x.state=.ready) (hx2:x.pending=none) (hp:x.params=#[p,p2]) (hN:x.tmps.size=N) (hxa:x.assign=assign) (hxb:x.body=body) (hpN:Nat.blt p N=true) (hpN2:Nat.blt p2 N=true) (hpp:Nat.beq p p2=false)
  (hok:fX assign=true) (hok2:fX body=true)
  (h1:fE P ((id,LR x E0)::K) N assign (vC (fun E1 H1=>cD ((id,LR x E0)::K) E1 H1 E2 ((id,LR x E0)::K2)) (fun _ _ _=>False)) ((p2,a2)::(p,a)::E0) ((id,LR x E0)::K))
  (h2:fE P ((id,LR x E0)::K) N body (aD0 ((id,LR x E0)::K) id x E0 Q) E2 ((id,LR (busy x) E0)::K2)):B2 P id 0 [a,a2] ((id,LR x E0)::K) Q:=by
 subst hxa hxb;have hpN:p < N:=by simpa [Nat.blt_eq] using hpN
 have hpN2:p2 < N:=by simpa [Nat.blt_eq] using hpN2
 have hpp:p≠p2:=fun e=>by subst e;rw [kB] at hpp;cases hpp
 intro I ι w vs v hr hv hl hvs;obtain ⟨b,e1,e2,e3,e4,e5⟩:=aB5 hr (eP _ _ _) hv;obtain ⟨u,u2,rfl⟩:∃ u u2,vs=#[u,u2]:=by
  match vs,hl with
  | ⟨[u,u2]⟩,_=>exact⟨u,u2,rfl⟩
 have hu:=hvs 0 u a rfl rfl;have hu2:=hvs 1 u2 a2 rfl rfl;refine⟨b,x.fn,_,x.assign,x.body,e2,run_yield e3 (by rw [hp];rfl),?_⟩;refine roundIn_of_wpIn (F:=Fence.wide) trivial ?_;have hG:(⟨I,ι,(id,LR x E0)::K,w,[]⟩:Entry).H=(id,LR x E0)::K:=rfl;have hst:St ⟨I,ι,(id,LR x E0)::K,w,[]⟩ N ((p2,a2)::(p,a)::E0) ((id,LR x E0)::K) {tmps:=(x.params.zip #[u,u2]).foldl (fun tmps (t,a)=>tmps.setIfInBounds t a) x.tmps,defers:=[]} w:=by
  have ht:(x.params.zip #[u,u2]).foldl (fun tmps (t,a)=>tmps.setIfInBounds t a) x.tmps=(x.tmps.setIfInBounds p u).setIfInBounds p2 u2:=by rw [hp];simp
  rw [ht];refine⟨nY.nil _ _ _,by simp [hN],I,ι,hr,Step.refl _ _ _ _,fun t y hy=>?_⟩;by_cases e2:p2=t
  ·subst e2;rw [bO.get_cons_same] at hy;cases hy;exact⟨u2,by simp [hN,hpN2],hu2⟩
  rw [bO.get_cons_other _ _ e2] at hy;by_cases e:p=t
  ·subst e;rw [bO.get_cons_same] at hy;cases hy;exact⟨u,by show ((x.tmps.setIfInBounds p u).setIfInBounds p2 u2)[p]?=some u;rw [Array.getElem?_setIfInBounds_ne e2];simp [hN,hpN],hu⟩
  rw [bO.get_cons_other _ _ e] at hy;obtain ⟨i,hi⟩:=aLe.1 (fA hy);obtain ⟨c,c1,c2⟩:=e5 i t y (by rw [aLd,hi];rfl) (by rw [aLd,hi];rfl);exact⟨c,by show ((x.tmps.setIfInBounds p u).setIfInBounds p2 u2)[t]?=some c;rw [Array.getElem?_setIfInBounds_ne e2,Array.getElem?_setIfInBounds_ne e];exact c1,c2⟩
 refine wpIn_mono (h1 _ hG _ w hst (some b) (.inr hok)) ?_;rintro e a1 w1 ⟨E1,H1,q,hs1⟩;cases e with
 | normal =>
  have hs2:=q _ hG N a1 w1 hs1;obtain ⟨I1,ι1,hr1,hst1,he1⟩:=hs2.rel;have hι1:=oC hst1 (eP _ _ _) e1 (eP _ _ _);have hb1:=pC hr1 (eP _ _ _) hι1;obtain ⟨k1,k2⟩:=hr1.setRec (y:=busy x) (H':=(id,LR (busy x) E0)::K2) (eP _ _ _) hι1 rfl (eP _ _ _) (fun j hj=>uV _ _ _ hj);refine⟨_,run_beginRound hb1 hx1,?_⟩;have hs3:St ⟨I,ι,(id,LR x E0)::K,w,[]⟩ N E2 ((id,LR (busy x) E0)::K2) a1 (w1.putObj b (.loop (busy x))) :=
   ⟨hs2.defers.step hr1 k2,hs2.size,I1,ι1,k1,hst1.trans k2,fun t y hy=>let ⟨c,c1,c2⟩:=he1 t y hy;⟨c,c1,c2.mono hr1 k2⟩⟩
  refine wpIn_mono (h2 _ hG a1 _ hs3 (some b) (.inr hok2)) ?_;rintro e a2 w3 ⟨E3,H3,q3,hs4⟩;have fin:∀ (jump:Option Code) (y:Go.Loop) (K3:aB),y={busy x with state:=if jump.isNone then .ready else .done,pending:=jump}→cD ((id,LR x E0)::K) E3 H3 [] ((id,LR (busy x) E0)::K3)→Q (.pv (.bool jump.isNone)) ((id,LR y E0)::K3) →
    ∃ v w',(Instr.endRound b jump).run P w3=.ok v w'∧∃ r H' I' ι' v',Ending.returned v=.returned v'∧Q r H'∧VRel w' I' ι' H' v' r∧Rel I' ι' H' w'∧Step I ι ((id,LR x E0)::K) w I' ι' H' w':=by
   intro jump y K3 hy hent hQ;have hs5:=hent _ hG N a2 w3 hs4;obtain ⟨I5,ι5,hr5,hst5,_⟩:=hs5.rel;have hι5:=oC hst5 (eP _ _ _) e1 (eP _ _ _);have hb5:=pC hr5 (eP _ _ _) hι5;obtain ⟨z1,z2⟩:=hr5.setRec (y:=y) (H':=(id,LR y E0)::K3) (eP _ _ _) hι5 (by rw [hy]) (eP _ _ _) (fun j hj=>uV _ _ _ hj);refine⟨_,_,run_endRound jump hb5,_,_,I5,ι5,_,rfl,hQ,.pv (.bool _),?_,?_⟩
   ·rw [← hy];exact z1
   rw [← hy];exact hst5.trans z2
  cases e with
  | normal =>
   obtain ⟨K3,hent,hQ⟩:=q3;refine fin none x K3 ?_ hent hQ;obtain ⟨st,pe,fn,tm,pa,ax,bo,de⟩:=x;simp only at hx1 hx2;subst hx1 hx2;rfl
  | ret =>
   obtain ⟨K3,hent,hQ⟩:=q3;exact fin (some .ret) (left x .ret) K3 rfl hent hQ
  | exit j =>
   obtain ⟨K3,hent,hQ⟩:=q3;exact fin (some (.exit j)) (left x (.exit j)) K3 rfl hent hQ
  | goto l=>exact q3.elim
  | panic ch=>exact q3.elim
  | outgrown=>exact q3.elim
 | exit j=>exact q.elim
 | goto l=>exact q.elim
 | ret=>exact q.elim
 | panic ch=>exact q.elim
 | outgrown=>exact q.elim
theorem J9 {P:Program} {G0:aB} {N f id p p2:Nat} {caps:List AV} {g:Operand} {ps:Array Tmp} {assign body:Code} {Q:Exit→bO→aB→Prop} {E:bO} {H:aB} (E0:bO) (hg:aN E g=some (.clo f caps)) (hc:∀ (args:Array Value) (w:World),(callFunc f args).run P w=.ok (.enter f args) w)
  (hps:ps=#[p,p2]) (hid:H.get id=none) (hE0:∀ q∈E0,E.get q.1=some q.2)
  (h:∀ x:Go.Loop,x.state=.ready→x.pending=none→x.params=#[p,p2]→x.tmps.size=N→x.assign=assign→x.body=body →
   aH P f (.yld id 0::caps) ((id,LR x E0)::H) (fun r H'=>∃ (y:Go.Loop) (K:aB),y.tmps=x.tmps∧y.state≠.busy∧H'=(id,LR y E0)::K∧∀ z:Go.Loop,aD3 Q E ((id,LR z E0)::K) y.pending)) :
  fE P G0 N (.rangeFunc g ps assign body) Q E H:=by
 intro G hG a w hs ro hro;obtain rfl:ro=none:=hro.resolve_right (fun h=>by cases h);obtain ⟨I,ι,hr,hst,he⟩:=hs.rel;refine wpIn_rangeFunc (F:=RF none) ?_;intro fn _;have hgv:=aI he hg;generalize hfc:a.eval g=fc at hgv;cases hgv with
 | @clo _ us _ hl hh =>
  obtain ⟨x,hx⟩:∃ x:Go.Loop,x={state:=.ready,pending:=none,fn,tmps:=a.tmps,params:=ps,assign,body,defers:=w.heap.size}:=⟨_,rfl⟩;obtain ⟨a1,a2⟩:=hr.push (.deferred (some []));obtain ⟨wd,hwd⟩:∃ wd,wd=w.alloc (.deferred (some [])):=⟨_,rfl⟩;rw [← hwd] at a1 a2;have hwds:wd.heap.size=w.heap.size+1:=by rw [hwd,World.size_alloc]
  have hDd:wd.heap[w.heap.size]?=some (.deferred (some [])):=by rw [hwd];exact World.alloc_heap_new w _
  have hidH:aB.get ((id,LR x E0)::H) id=some (LR x E0):=eP _ _ _;obtain ⟨b1,b2⟩:=a1.placeX (id:=id) (cap:=2) (x:=.loop x) (w':=wd.alloc (.loop x)) (H':=(id,LR x E0)::H) (ob':=LR x E0) rfl rfl rfl rfl (fun o ho=>by rw [hid] at ho;cases ho)
   (fun hnew hI hmono=>.inr (.inr (.inr ⟨rfl,_,x,by simp,hnew,hI,fun y ts r hy=>by
    simp only [LR,List.cons.injEq,AV.raw.injEq,and_true] at hy;obtain ⟨⟨rfl,rfl⟩,rfl⟩:=hy;refine⟨rfl,fun i t v ht hv=>?_⟩;rw [aLd] at ht hv;obtain ⟨q,hq,rfl⟩:=Option.map_eq_some_iff.1 ht;rw [hq] at hv;cases hv;obtain ⟨c,c1,c2⟩:=he q.1 q.2 (hE0 q (aL3 hq));exact⟨c,by rw [hx];exact c1,hmono _ _ (c2.mono hr a2)⟩⟩)))
   hidH (fun j hj=>by simp [aB.get,jA (Ne.symm hj)])
  obtain ⟨w1,hw1⟩:∃ w1,w1=wd.alloc (.loop x):=⟨_,rfl⟩;rw [← hw1] at b1 b2;obtain ⟨ι1,hι1⟩:∃ ι1:dR,ι1=fun j=>if j=id then some (wd.heap.size,2)else ι j:=⟨_,rfl⟩
  rw [← hι1] at b1 b2;have hιid:ι1 id=some (w.heap.size+1,2):=by rw [hι1,hwds];simp
  have hL1:=pC b1 hidH hιid;have hD1:w1.heap[w.heap.size]?=some (.deferred (some [])):=by
   rw [b2.keep _ (by rw [hwds];omega) (uG a1 hDd)];exact hDd
  have hcall:=h x (by rw [hx]) (by rw [hx]) (by rw [hx,hps]) (by rw [hx];exact hs.size) (by rw [hx]) (by rw [hx]) I ι1 w1 (#[.func (.yield (w.heap.size+1)) #[] #[]]++us) b1 (by simp [hl];omega) (fun i v c hv hc'=>by
   cases i with
   | zero =>
    rw [Array.getElem?_append_left (by simp)] at hv;simp at hv hc';subst hv hc';exact .yld (LR x E0) hidH (aLZ _) rfl (fun _=>⟨rfl,_,hιid,rfl⟩)
   | succ i =>
    rw [Array.getElem?_append_right (by simp)] at hv;simp only [List.getElem?_cons_succ] at hc';have:=hh i v c (by simpa using hv) hc';exact(this.mono hr a2).mono a1 b2)
  refine⟨w.heap.size+1,[mark w.heap.size],w1,{target:=.fn (.func f) us,args:=#[.func (.yield (w.heap.size+1)) #[] #[]]},w1,f,#[.func (.yield (w.heap.size+1)) #[] #[]]++us,w1,?_,?_,fun _ _=>trivial,?_,(fun q=>by cases q),?_⟩
  ·rw [hw1,hwd,hx];exact run_enterLoop_outer _ _ _ _ _
  ·simp only [resolve,hfc];simp [go_sem]
  ·simp [invoke,go_sem,hc]
  refine((callsIn_wide (n:=0)).2 hcall).mono ?_;rintro e w3 ⟨r,H',I3,ι3,v3,rfl,⟨y,K,hy1,hy2,rfl,hq⟩,_,hr3,hst3⟩;have hι3:=oC (G:=⟨I,ι1,(id,LR x E0)::H,w1,[]⟩) hst3 hidH hιid (eP _ _ _);have hb3:=pC hr3 (eP _ _ _) hι3;obtain ⟨z,hz⟩:∃ z:Go.Loop,z={y with state:=.exhausted}:=⟨_,rfl⟩;obtain ⟨z1,z2⟩:=hr3.setRec (y:=z) (H':=(id,LR z E0)::K) (eP _ _ _) hι3 (by rw [hz]) (eP _ _ _) (fun j hj=>uV _ _ _ hj);obtain ⟨w4,hw4⟩:∃ w4,w4=w3.putObj (w.heap.size+1) (.loop z):=⟨_,rfl⟩;rw [← hw4] at z1 z2;refine⟨y.pending,w4,by rw [hw4,hz];exact run_endLoop hb3 hy2,?_⟩;have hall:Step I ι H w I3 ι3 ((id,LR z E0)::K) w4:=((a2.trans b2).trans hst3).trans z2;have hD4:w4.heap[w.heap.size]?=some (.deferred (some [])):=by
   rw [(hst3.trans z2).keep _ (Array.getElem?_eq_some_iff.1 hD1).1 (uG b1 hD1)];exact hD1
  have hs4:St G N E ((id,LR z E0)::K) {a with defers:=[mark w.heap.size]++a.defers} w4:=by
   refine⟨?_,hs.size,I3,ι3,z1,hst.trans hall,fun t v hv=>let ⟨c,c1,c2⟩:=he t v hv;⟨c,c1,c2.mono hr hall⟩⟩;obtain ⟨Ds,d1,d2,d3⟩:=hs.defers.step hr hall;refine⟨w.heap.size::Ds,by rw [d1];rfl,List.nodup_cons.2 ⟨fun hmem=>?_,d2⟩,fun D hD=>?_⟩
   ·have hold:∀ D∈Ds,D < w.heap.size:=by
     obtain ⟨Ds',d1',_,d3'⟩:=hs.defers;have he:Ds'=Ds:=by
      have h0:Ds'.map mark=Ds.map mark:=List.append_cancel_right (d1'.symm.trans d1);have hinj:∀ (l l':List Nat),l.map mark=l'.map mark→l=l':=by
       intro l
       induction l with
       | nil=>intro l' h;cases l' with
        | nil=>rfl
        | cons _ _=>cases h
       | cons D l ih=>intro l' h;cases l' with
        | nil=>cases h
        | cons D' l' =>
         simp only [List.map_cons,List.cons.injEq,mark,Deferred.mk.injEq,Target.collected.injEq,and_true] at h;rw [h.1,ih l' h.2]
      exact hinj _ _ h0
     subst he;exact fun D hD=>(Array.getElem?_eq_some_iff.1 (d3' D hD).2).1
    exact Nat.lt_irrefl _ (hold _ hmem)
   rcases aL5.1 hD with rfl|hD
   ·exact⟨hst.size,hD4⟩
   exact d3 D hD
  have hq':=hq z;generalize y.pending=pend at hq' ⊢
  match pend,hq' with
  | none,hq'=>exact⟨E,_,hq',hs4⟩
  | some .ret,hq'=>exact wpIn_ret ⟨E,_,hq',hs4⟩
  | some (.exit j),hq'=>exact wpIn_exit ⟨E,_,hq',hs4⟩
end Go.Abs
namespace Go.Proofs.YtiifmppaejpemaaGreatDoor
open Go.Proofs.Tryz
open Go.Abs
theorem mX (l:List ByteArray):∀ r∈l.map encStr,r.length=1:=fun r hr=>by
 obtain ⟨t,_,rfl⟩:=List.mem_map.1 hr;rfl
def cSZ (l:List ByteArray):Ob:=bx 1 22 [.pv (aU l)]
def cNZ:Ob:=bx 1 3 [iv 2]
theorem aCx (l:List ByteArray) (H:aB) (h1:H.get 931=none) (h2:H.get 932=none) :
  aH Tryz.prog 140 [.pv (aU l),iv 2] H (fun r H'=>r=.clo 181 [.ref 931 0 0 0,.ref 932 0 0 0]∧H'=(932,cNZ)::(931,cSZ l)::H):=by
 have h2':aB.get ((931,cSZ l)::H) 932=none:=h2;refine Bd func140 rfl ntmps140<|Sr<|Dd (by exact bZ (id:=931) rfl rfl rfl rfl h1)<|Dd (by exact bZ (id:=932) rfl rfl rfl rfl h2')<|Dd aP<|Zz<|Sq<|Sr<|Dd (bK isAgg3)<|Dd dK<|Zz ?_;refine Cn ?_ ?_<;>intro hc1
 ·cases hc1
 refine aE<|Sr<|Dd (by exact eZ rfl rfl)<|Dd aP<|Zz<|aC ?_;refine dF (H':=((932,cNZ)::(931,cSZ l)::H)) (.inr rfl) rfl (aT rfl) Fin.refl ?_;exact Qq
def yJ (l:List ByteArray) (k:Nat):List ByteArray:=(l.drop (2*k)).take 2
theorem ZS (l:List ByteArray) (k:Nat):((l.map encStr).drop (2*k)).take 2=(yJ l k).map encStr:=by rw [yJ,List.map_take,List.map_drop]
theorem aEt {n:Nat} (h:2≤n):min (2:Int) (n:Int)=2:=Int.min_eq_left (by omega)
theorem aAW (l:List ByteArray) (fv:AV) (Hs:Nat→aB) (m:Nat) (hl:l.length=2*m) (hm:m < 1099511627776) (h1:∀ k,(Hs k).get 931=some (cSZ l)) (h2:∀ k,(Hs k).get 932=some cNZ)
  (hy:∀ k,k < m→cC Tryz.prog fv [.pv (aU (yJ l k))] (Hs k) (fun r H'=>r=bv true∧H'=Hs (k+1))) :
  aH Tryz.prog 181 [fv,.ref 931 0 0 0,.ref 932 0 0 0] (Hs 0) (fun r H'=>r=.tup []∧H'=Hs m):=by
 have hml:(l.map encStr).length=l.length:=aLT _;refine Bd func181 rfl ntmps181<|Sr<|Dd aP<|Zz<|aG ?_;refine bQ (σ:=Nat) (fun k=>([(0,fv),(1,.ref 931 0 0 0),(2,.ref 932 0 0 0),(4,iv ((2*k:Nat):Int))],Hs k)) (fun k=>k≤m) (fun k=>m - k) 0 (aLa _) ?_ ?_
 ·exact E0
 rintro k hkm;refine Sq<|Sr<|Dd aF<|Dd (by exact aK rfl aJ rfl (h1 k) rfl rfl rfl)<|Dd (fY aD)<|Dd dK<|Zz ?_;refine Cn ?_ ?_<;>intro hc1
 ·have hlt:2*k < l.length:=by have:=aLP hc1;omega
  have hkm2:k < m:=by omega
  have hyk:=hy k hkm2;have hdl:((l.map encStr).drop (2*k)).length=l.length - 2*k:=by rw [aL8,hml]
  refine aE<|Sq<|aG<|Sq<|aQ follows<|Cq (by exact aK rfl isAgg3 rfl (h2 k) rfl rfl rfl)<|Cq (by exact aK rfl aJ rfl (h1 k) rfl rfl rfl)<|Cq aF<|Cq (by exact vF (l:=2*k) (h:=(l.map encStr).length) (rows':=(l.map encStr).drop (2*k)) rfl cP rfl (mX l) rfl rfl (by omega) (aLZ _) (by rw [List.take_length]))<|Cq (fY aD)<|Cq (by exact GZ (r:=2) rfl rfl rfl (by rw [hdl];exact aEt (by omega)))<|Cq aP<|bJ<|Kr<|Sr<|Dd aF<|Dd (by exact aK rfl aJ rfl (h1 k) rfl rfl rfl)<|Dd aF<|Dd aF<|Dd aF<|Dd (by exact cA rfl rfl rfl (show IntKind.i64.wrap (((2*k:Nat):Int)+2)=((2*k+2:Nat):Int)by rw [IntKind.wrap_i64];omega))<|Dd aF<|Dd aF<|Dd (by exact cA rfl rfl rfl (show IntKind.i64.wrap (((2*k:Nat):Int)+2)=((2*k+2:Nat):Int)by rw [IntKind.wrap_i64];omega)) ?_;refine Dd (by exact aAx (l:=2*k) (h:=2*k+2) (rows':=(yJ l k).map encStr) rfl cP rfl (mX l) rfl rfl rfl (by omega) (by omega) (by intro h;rw [List.map_eq_nil_iff] at h;rw [h] at hlt;exact absurd hlt (Nat.not_lt_zero _)) (by rw [← ZS,List.drop_take];congr 1;omega))<|Dd (by exact bY rfl rfl rfl (hyk))<|Dd lI<|Zz ?_;refine Cn ?_ ?_<;>intro hc2
  ·cases hc2
  refine aE<|Rg<|Dd aF<|Dd (by exact aK rfl isAgg3 rfl (h2 (k+1)) rfl rfl rfl)<|Dd (by exact cA rfl rfl rfl (show IntKind.i64.wrap (((2*k:Nat):Int)+2)=((2*(k+1):Nat):Int)by rw [IntKind.wrap_i64];omega))<|Da ?_;exact⟨k+1,hkm2,by omega,E0⟩
 have hge:l.length≤2*k:=by have:=aLQ hc1;omega
 have hkk:k=m:=by omega
 refine bG ?_;rw [← hkk];exact pL (H':=Hs k) (.inl rfl) rfl Fin.refl ⟨rfl,rfl⟩
end Go.Proofs.YtiifmppaejpemaaGreatDoor
namespace Go.Abs
theorem BZ {P:Program} {G0:aB} {N:Nat} {Q:Exit→bO→aB→Prop} {E:bO} {H:aB} {x y:Code} {α:Type} (S:α→bO×aB) (J:α→Prop)
  (h:fE P G0 N x (vC (fun E1 H1=>∃ a,J a∧cD G0 E1 H1 (S a).1 (S a).2) Q) E H) (h':∀ a,J a→fE P G0 N y Q (S a).1 (S a).2):fE P G0 N (.seq x y) Q E H :=
 DN (h.mono fun e E1 H1 q=>by
  cases e with
  | normal =>
   obtain ⟨a,ha,he⟩:=q;exact fE.ent he (h' a ha)
  | _=>exact q)
theorem uW {i:Nat} {o:Ob} {K:aB}:∀ (D:aB),(∀ p∈D,p.1=i)→∀ j,aB.get ((i,o)::K) j=aB.get ((i,o)::(D++K)) j:=by
 intro D hD j;by_cases e:i=j
 ·subst e;simp [aB.get,kB]
 have h:aB.get D j=none:=by
  cases hg:aB.get D j with
  | none=>rfl
  | some x=>exact absurd (hD _ (cR hg)).symm e
 rw [get_cons_other _ _ (Ne.symm e),get_cons_other _ _ (Ne.symm e),eO,h]
theorem jG {H:aB} {x:Go.Loop} {E0:bO} (h:∀ p∈E0,Clo H p.2):∀ r∈(LR x E0).rows,∀ a∈r,Clo H a:=by
 intro r hr a ha;simp only [LR,aL5,aL9,or_false] at hr;rcases hr with rfl|rfl
 ·rw [aLW] at ha;subst ha;simp
 obtain ⟨p,hp,rfl⟩:=List.mem_map.1 ha;exact h p hp
end Go.Abs
namespace Go.Proofs.YtiifmppaejpemaaGreatDoor
open Go.Proofs.Tryz
open Go.Abs
theorem UY {W:List ByteArray} {j:Nat} (h:2*j+2≤W.length):((yJ W j).map encStr)[0]?=some (encStr (W.getD (2*j) sNil))∧((yJ W j).map encStr)[1]?=some (encStr (W.getD (2*j+1) sNil)):=by
 have h0:(yJ W j)[0]?=some (W.getD (2*j) sNil):=by
  rw [yJ,List.getElem?_take_of_lt (by decide),List.getElem?_drop,Nat.add_zero,List.getD_eq_getElem?_getD,aLY (by omega)];rfl
 have h1:(yJ W j)[1]?=some (W.getD (2*j+1) sNil):=by
  rw [yJ,List.getElem?_take_of_lt (by decide),List.getElem?_drop,List.getD_eq_getElem?_getD,aLY (by omega)];rfl
 exact⟨by rw [aLd,h0];rfl,by rw [aLd,h1];rfl⟩
def upA (l:List ByteArray) (j:Nat):ByteArray:=C2 (l.getD (2*j) sNil) (l.getD (2*j+1) sNil)
def W8 (l:List ByteArray) (k:Nat):List ByteArray:=(List.range k).map (upA l)
theorem aBD (l:List ByteArray) (k:Nat):W8 l (k+1)=W8 l k++[upA l k]:=by rw [W8,List.range_succ,List.map_append];rfl
theorem W7 (l:List ByteArray) (k:Nat):(W8 l k).length=k:=by simp [W8]
theorem aDt {l:List ByteArray} {m:Nat} (h:l.length=2*m):W8 l m=OE l:=by
 apply List.ext_getElem?;intro k;have hl:=zV m l h;by_cases hk:k < m
 ·have:=OD m l k h hk;rw [List.getD_eq_getElem?_getD,aLY (by omega)] at this;rw [W8,aLd,List.getElem?_range hk,aLY (by omega)];exact congrArg some this.symm
 rw [List.getElem?_eq_none (by rw [W7];omega),List.getElem?_eq_none (by omega)]
def upK (l L:List ByteArray):aB:=[(905,⟨L.length,1,9,dO L⟩),(3,bx 1 22 [.osl 905 L.length 0 L.length]),(932,cNZ),(931,cSZ l)]
theorem aDu (l L:List ByteArray) (s:ByteArray):upK l (L++[s])=[(905,⟨L.length+1,1,9,dO (L++[s])⟩),(3,bx 1 22 [.osl 905 (L.length+1) 0 (L.length+1)]),(932,cNZ),(931,cSZ l)]:=by simp [upK]
def upE:bO:=[(3,.ref 3 0 0 0)]
theorem P2 (H:aB) (l:List ByteArray):∀ r∈(cSZ l).rows,∀ a∈r,Clo H a:=by intro r hr a ha;simp only [cSZ,bx,aLW] at hr;subst hr;rw [aLW] at ha;subst ha;simp
theorem P3 (H:aB):∀ r∈cNZ.rows,∀ a∈r,Clo H a:=by intro r hr a ha;simp only [cNZ,bx,aLW] at hr;subst hr;rw [aLW] at ha;subst ha;simp
theorem YO (l:List ByteArray) (m:Nat) (H:aB) (hl:l.length=2*m) (hm:m < 1099511627776) (hs:∀ s∈l,s.size=16):aH Tryz.prog 90 [.pv (aU l)] H (fun r H'=>r=.pv (aU (OE l))∧H'=H):=by
 refine Pu ?_;refine Bd func90 rfl ntmps90<|Sr<|Dd aP<|Zz<|Sr<|Dd (by exact bC (id:=3) rfl aAs rfl rfl)<|Zz<|Sq<|Sr<|Dd aF<|Dd (by exact aA rfl rfl call140 rfl (aCx l _ rfl rfl))<|Zz<|aG ?_;refine fE.ent (E':=[(3,.ref 3 0 0 0),(6,.clo 181 [.ref 931 0 0 0,.ref 932 0 0 0])]) (H':=upK l []) ?_ ?_
 ·exact(cD.nz 905 1 9 rfl rfl ⟨⟨_,rfl,(by exact Nz.same (by(simp;rfl)))⟩,⟨_,rfl,(by exact Nz.same (by(simp;exact⟨rfl,rfl⟩)))⟩,trivial⟩ ⟨⟨_,rfl,rfl,rfl,rfl,(by exact .inr ⟨_,_,rfl,rfl,(by repeat(first|exact trivial|refine⟨(by exact Nz.own),?_⟩))⟩)⟩,⟨_,rfl,rfl,rfl,rfl,(by exact .inl ⟨rfl,(by exact P3 _)⟩)⟩,⟨_,rfl,rfl,rfl,rfl,(by exact .inl ⟨rfl,(by exact P2 _ _)⟩)⟩,trivial⟩ trivial)
 refine AO (id:=904) (p:=7) upE rfl call181 rfl rfl (by simp [upE];rfl) ?_;intro x hx1 hx2 hx3 hx4 hx5 hx6;refine(aAW l (.yld 904 0) (fun k=>(904,LR x upE)::upK l (W8 l k)) m hl hm (fun k=>rfl) (fun k=>rfl) ?_).mono ?_
 ·intro k hk;have hn:∀ j,j < l.length→(l.getD j sNil).size < 1099511627776:=fun j hj=>by rw [hs _ (mW hj)];decide
  have hnd:=fun H=>XU (l.getD (2*k) sNil) (l.getD (2*k+1) sNil) false H (hn _ (by omega)) (hn _ (by omega));simp only [Bool.false_eq_true,if_false] at hnd;obtain ⟨p0,p1⟩:=UY (W:=l) (j:=k) (by omega);have hfl:=W7 l k;refine .inl ⟨904,0,rfl,?_⟩;refine N7 [(3,.ref 3 0 0 0),(4,.pv (aU (yJ l k)))] (upK l (W8 l k)) hx1 hx2 hx3 hx4 hx5 hx6 rfl rfl rfl ?_ ?_
  ·refine Rg<|Da ?_;exact(cD.wk (Ea<|Eb<|trivial) (Hc (jG (by intro p hp;simp only [upE,aL5,aL9,or_false] at hp;subst hp;simp only [oV];rfl))<|Hc (bV _ _)<|Ha<|Hc (P3 _)<|Hc (P2 _ _)<|trivial) ⟨rfl,rfl,rfl,rfl,rfl,trivial⟩)
  rw [aBD,aDu];refine aG<|aQ follows<|Cr [3] (fun _ h=>lh aJ h)<|Cr [] (fun _ _=>aF)<|Cr [] (fun H1 hH=>by exact bN rfl cP rfl rfl (by omega) (by exact aL4 _) p0 rfl)<|Cr [] (fun _ _=>(pH isAgg9 (hi:=p0)))<|Cr [] (fun _ _=>aF)<|Cr [] (fun H1 hH=>by exact bN rfl cP rfl rfl (by omega) (by exact aL4 _) p1 rfl)<|Cr [] (fun _ _=>(pH isAgg9 (hi:=p1)))<|Cr [] (fun H1 hH=>by exact aA rfl rfl call99 rfl (hnd _))<|Cr [] (fun H1 hH=>by exact aS [[.str (upA l k)]] rfl cP rfl rfl rfl rfl rfl (by intro r hr;rw [aLW] at hr;subst hr;rfl))<|Cp [905] (fun H1 hH=>by exact eK (ps:=[[.str (upA l k)]]) rfl cP TQ rfl ((hH _ rfl).trans rfl) rfl rfl rfl (iR _) rfl (by intro r hr;rw [aLW] at hr;subst hr;rfl) (m:=1) rfl (by omega) rfl (kC (W8 l k) (upA l k))) ?_;refine Cp [3] (fun H1 hH=>by exact bT rfl sizeOf22 rfl rfl rfl rfl ((hH _ rfl).trans rfl) rfl rfl rfl)<|bJ<|Kr ?_;exact⟨[(905,⟨(W8 l k).length+1,1,9,dO (W8 l k++[upA l k])⟩),(3,bx 1 22 [.osl 905 ((W8 l k).length+1) 0 ((W8 l k).length+1)]),(932,cNZ),(931,cSZ l)],(cD.wk trivial (Hc (jG (by intro p hp;simp only [upE,aL5,aL9,or_false] at hp;subst hp;simp only [oV];rfl))<|Hc (bV _ _)<|Ha<|Hc (P3 _)<|Hc (P2 _ _)<|trivial) ⟨rfl,rfl,rfl,rfl,rfl,trivial⟩),rfl,rfl⟩
 rintro r H' ⟨rfl,rfl⟩;refine⟨x,_,rfl,by rw [hx1];decide,rfl,fun z=>?_⟩;rw [hx2,aDt hl];obtain ⟨out,hout⟩:∃ out,out=OE l:=⟨_,rfl⟩;rw [← hout];have hol:(out.map encStr).length=out.length:=aLT _;refine fE.ent (cD.fzG (id:=905) (E':=[(3,.ref 3 0 0 0)]) (H':=[(3,bx 1 22 [.pv (aU out)])]) (out.map encStr) rfl (fW _) ?_ rfl ?_ ?_) ?_
 ·intro p hp;simp only [aL5,aL9,or_false] at hp;rcases hp with rfl;exact⟨_,rfl,.same (by simp;rfl)⟩
 ·refine⟨⟨_,rfl,rfl,rfl,rfl,nK rfl (cI (.osl ?_) nL)⟩,trivial⟩;rw [aLb,List.drop_zero,← hol,List.take_length]
 ·exact trivial
 exact Sr<|Dd (bK aJ)<|Dd aP<|Zz<|aC<|Rt<|Qq
def PI (s:ByteArray) (n k:Nat):List ByteArray:=(List.range n).map fun j=>if j < k then PJ s j else sNil
theorem C8 (s:ByteArray) (n k:Nat):(PI s n k).length=n:=by simp [PI]
theorem PH (s:ByteArray) {n k j:Nat} (h:j < n):(PI s n k)[j]?=some (if j < k then PJ s j else sNil):=by rw [PI,aLd,List.getElem?_range h];rfl
theorem aFE (s:ByteArray) {n k:Nat} (h:k < n):(PI s n k).set k (PJ s k)=PI s n (k+1):=by
 apply List.ext_getElem?;intro j;by_cases hj:j < n
 ·rw [PH s hj];by_cases e:k=j
  ·subst e;rw [List.getElem?_set_self (by rw [C8];exact h),aLS (Nat.lt_succ_self _)]
  rw [List.getElem?_set_ne e,PH s hj];by_cases h1:j < k
  ·rw [aLS h1,aLS (by omega)]
  rw [aLR h1,aLR (by omega)]
 rw [List.getElem?_eq_none (by rw [List.length_set,C8];omega),List.getElem?_eq_none (by rw [C8];omega)]
theorem aCW (s:ByteArray) (n:Nat):PI s n 0=List.replicate n sNil:=by rw [PI];simp only [Nat.not_lt_zero,if_false];rw [List.map_const',List.length_range]
theorem aFF (s:ByteArray) (h:Nat):PI s (2 ^ h) (2 ^ h)=kM s h:=by rw [PI,kM];refine List.map_congr_left fun j hj=>?_;rw [aLS (List.mem_range.1 hj)]
theorem YZ (n:Nat):dO (List.replicate n sNil)=List.replicate n [sv sNil]:=by rw [dO,List.map_replicate]
theorem YY (l:List ByteArray) (k:Nat) (x:ByteArray):(dO l).set k [sv x]=dO (l.set k x):=by rw [dO,dO,List.map_set]
theorem qC {h:Nat} (hh:h≤8):2 ^ h≤256:=Nat.pow_le_pow_right (by decide) hh
theorem aEJ {h:Nat} (hh:h≤8):IntKind.i64.wrap (1*2 ^ ((h:Int)).toNat)=((2 ^ h:Nat):Int):=by have:=qC hh;rw [aL4,Int.one_mul,show (2:Int) ^ h=((2 ^ h:Nat):Int)by exact_mod_cast rfl];generalize 2 ^ h=n at this ⊢;rw [pO (by omega) (by omega)]
theorem X3 (s:ByteArray) (h:Nat) (H:aB) (hs:s.size < 1099511627776) (hh:h≤8):aH Tryz.prog 89 [sv s,iv (h:Int)] H (fun r H'=>r=.pv (aU (kM s h))∧H'=H):=by
 refine Pu ?_;have hp:=qC hh;have hz:=YZ (2 ^ h);rw [← aCW s] at hz;rw [← aFF];obtain ⟨n,hn⟩:∃ n,n=2 ^ h:=⟨_,rfl⟩;have hsh:=aEJ hh;rw [← hn] at hp hz hsh ⊢;refine Bd func89 rfl ntmps89<|Sr<|Dd aP<|Zz<|Sr<|Dd aF<|Dd (by exact CS rfl rfl rfl (by omega) (by simp [IntKind.bits];omega) hsh)<|Dd (by exact FN (id:=905) rfl cP TQ zo9 rfl rfl rfl (by omega) (by omega) (aL4 _) (aL4 _) (by omega) rfl)<|Dd aP<|Zz<|Sq<|Sr<|Dd aF<|Dd (by exact dS rfl aD rfl rfl rfl)<|Dd aF<|Zz<|aG ?_;refine bQ (σ:=Nat) (fun k=>([(0,sv s),(5,.osl 905 0 0 n),(11,iv (n:Int)),(12,iv (k:Int))],[(905,⟨0,1,9,dO (PI s n k)⟩)])) (fun k=>k≤n) (fun k=>n - k) 0 (aLa _) ?_ ?_
 ·rw [hz];exact Wk
 intro k hk;have hln:=C8 s n k;refine Sr<|Dd dK<|Zz<|Sq ?_;refine Cn ?_ ?_<;>intro hc1
 ·have hlt:k < n:=by have:=aLP hc1;omega
  have hrow:(dO (PI s n k))[k]?=some [sv sNil]:=by
   rw [dO,aLd,PH s hlt,aLR (Nat.lt_irrefl _)];rfl
  have hset:(dO (PI s n k)).set k [sv (PJ s k)]=dO (PI s n (k+1)):=by rw [YY,aFE s hlt]
  refine aE<|Sq<|aG<|Sr<|Dd aF<|Dd aP<|Zz<|Rg<|Dd aF<|Dd aF<|Dd aF<|Dd aF<|Dd (by exact aA rfl rfl call139 rfl (aH1 s k _ hs (by omega)))<|Dd (by exact dI rfl cP rfl rfl rfl rfl rfl (by omega) (by exact aL4 _) (by omega) rfl)<|Uu (by exact bA (r:=[sv sNil]) (r':=[sv (PJ s k)]) (rows':=dO (PI s n (k+1))) rfl sizeOf9 rfl rfl rfl rfl rfl (by rw [aLb];exact hrow) (by simp) rfl (by rw [aLb];exact hset))<|Zz<|Rg<|Dd (by exact cA rfl rfl rfl (show IntKind.i64.wrap ((k:Int)+1)=((k+1:Nat):Int)by rw [pO (by omega) (by omega)];omega))<|Dd aF<|Zz ?_;exact⟨k+1,by omega,by omega,(cD.wk (Eb<|Ea<|Eb<|Eb<|trivial) (Hc (bV _ _)<|trivial) trivial)⟩
 have hge:k=n:=by have:=aLQ hc1;omega
 subst hge;have htk:((PI s k k).map encStr).take k=(PI s k k).map encStr:=List.take_of_length_le (by rw [aLT,C8];exact aLZ _);refine bG<|Sr<|Dd aF<|Dd aP<|Zz<|aC ?_;refine dF (H':=[]) (.inr rfl) rfl (aT rfl) (Fin.fz (r':=.pv (aU (PI s k k))) (id:=905) ((PI s k k).map encStr) rfl (fW _) (.osl (by rw [aLb,List.drop_zero,htk])) rfl trivial trivial) ?_;exact Qq
theorem UB (s:ByteArray) (h:Nat) (H:aB) (hs:s.size < 1099511627776) (hh:h≤8):aH Tryz.prog 28 [sv s,iv (h:Int)] H (fun r H'=>r=.tup [sv (rC s h),iv 0]∧H'=H):=by
 refine Pu ?_;refine Bd func28 rfl ntmps28<|Sr<|Dd aP<|Dd aP<|Zz<|Sq<|Sq ?_;refine bD (t:=12) (n:=7) (X:=decide ((h:Int) < 0)||decide (8 < (h:Int))) ?_ ?_
 ·all_goals refine Dd aF ?_
  all_goals refine Dd dK<|Dm ?_
  all_goals refine Sp 9 (fun h9=>?_) fun h9=>?_
  all_goals try contradiction
  all_goals refine On aF<|On mI<|Dd cE<|Zz ?_
  all_goals(exact⟨⟨_,rfl,by rfl⟩,rfl,rfl,rfl⟩)
 refine Cn ?_ ?_<;>intro hc1
 ·have hb:=hc1;exact absurd (by simpa using hb) (show ¬ ((h:Int) < 0∨8 < (h:Int))by omega)
 refine aE<|Sr<|Dd aF<|Dd aF<|Dd (by exact aA rfl rfl call89 rfl (X3 s h _ hs hh))<|Dd aP<|Zz<|Sq<|aG ?_;refine jB (fun(j:Nat) (l:List ByteArray)=>([(6,.pv (aU l))],[])) (fun j l=>l.length=2 ^ j∧MN j l=rC s h∧(∀ t∈l,t.size=16)∧j≤8) (fun j l=>j) h (kM s h) ⟨uR s h,rfl,fun t ht=>rN (AF s h t ht),hh⟩ ?_ ?_
 ·exact Wk
 rintro j l ⟨hl,hr,hz,hj⟩;have hml:(l.map encStr).length=l.length:=aLT _;have hp:=qC hj;refine Sq<|Sr<|Dd aF<|Dd (fY aD)<|Dd mI<|Zz ?_;refine Cn ?_ ?_<;>intro hc2
 ·have hlt:1 < l.length:=by have:=aLP hc2;omega
  obtain ⟨i,rfl⟩:∃ i,j=i+1:=by
   cases j with
   | zero=>rw [hl] at hlt;exact absurd hlt (by decide)
   | succ i=>exact⟨i,rfl⟩
  have hl2:l.length=2*2 ^ i:=by rw [hl,Nat.pow_succ,Nat.mul_comm]
  have hpi:=qC (h:=i) (by omega);refine aE<|aG<|Rg<|Dd aF<|Dd (by exact aA rfl rfl call90 rfl (YO l (2 ^ i) _ hl2 (by omega) hz))<|Da ?_;exact⟨i,OE l,⟨zV _ _ hl2,hr,fun t ht=>rN (GQ _ _ (aLZ _) t ht),by omega⟩,by omega,Wk⟩
 have hge:l.length≤1:=by have:=aLQ hc2;omega
 have hj0:j=0:=by
  cases j with
  | zero=>rfl
  | succ i =>
   have:2 ^ (i+1)=2*2 ^ i:=by rw [Nat.pow_succ,Nat.mul_comm]
   have:0 < 2 ^ i:=Nat.two_pow_pos i;omega
 subst hj0;obtain ⟨a,rfl⟩:∃ a,l=[a]:=List.length_eq_one_iff.1 hl;have ha:a=rC s h:=hr;subst ha;have hi:([rC s h].map encStr)[0]?=some (encStr (rC s h)):=rfl;exact bG<|Sr<|Dd aF<|Dd (by exact bN rfl cP rfl rfl (by omega) (by exact aL4 _) hi rfl)<|Dd (pH isAgg9 (hi:=hi))<|Dd aP<|Dd aP<|Zz<|aC<|Ru<|Qq
abbrev HXJ:ByteArray:=⟨#[48,49,50,51,52,53,54,55,56,57,97,98,99,100,101,102]⟩
theorem aC6 {n:Nat} (h:n < 16):Lib.indexByte HXJ.data.toList (sH n).toNat.toUInt8=(n:Int):=by revert h;revert n;decide
theorem WI (m:ByteArray) {k:Nat} (hk:k < 16):dU (pU m) k=sH (M4 (Y8 m) k):=by have hb:=X7 (yS (Y8 m) k);have e:(pU m).data.toList=LM (Y8 m):=rfl;rw [dU,e,LM,aLd,List.getElem?_range hk];show ((UInt8.ofNat (sH (M4 (Y8 m) k)).toNat).toNat:Int)=_;rw [UInt8.toNat_ofNat',Nat.mod_eq_of_lt (by omega),Int.toNat_of_nonneg hb.1]
theorem aCs (m:ByteArray) {k:Nat} (hk:k < 16):(dJ m)[k]?=some (M4 (Y8 m) k):=by rw [dJ,aLd,List.getElem?_range hk];rfl
theorem aFW (m:ByteArray) {k:Nat} (hk:k < 16):(DW m).getD k 0=M4 (Y8 m) k:=by rw [List.getD_eq_getElem?_getD,DW,List.getElem?_append_left (by rw [zH];exact hk),aCs m hk];rfl
theorem aHb (m:ByteArray):(DW m).getD 16 0=yG m / 16:=by rw [List.getD_eq_getElem?_getD,DW,List.getElem?_append_right (by rw [zH];exact aLZ _),zH];rfl
theorem aHa (m:ByteArray):(DW m).getD 17 0=yG m % 16:=by rw [List.getD_eq_getElem?_getD,DW,List.getElem?_append_right (by rw [zH];decide),zH];rfl
def AW (m:ByteArray) (k:Nat):Nat:=(((dJ m).take k).map (15 - ·)).sum
theorem UQ (m:ByteArray) {k:Nat} (hk:k < 16):AW m (k+1)=AW m k+(15 - M4 (Y8 m) k):=by rw [AW,List.take_add_one,aCs m hk,List.map_append,List.sum_append];rfl
theorem aB4 (m:ByteArray) (k:Nat):AW m k≤240:=by
 have h:=IA ((dJ m).take k);have h2:((dJ m).take k).length≤16:=by rw [aL7,zH];omega
 rw [AW];omega
theorem ZI (m:ByteArray):AW m 16=yG m:=by rw [AW,List.take_of_length_le (by rw [zH];exact aLZ _),yG]
def JD (m:ByteArray):Ob:=bx 1 9 [sv m]
theorem NR (m:ByteArray) (H:aB) (h1:H.get 961=none):aH Tryz.prog 96 [sv m] H (fun r H'=>r=.clo 149 [.ref 961 0 0 0]∧H'=(961,JD m)::H):=by refine Bd func96 rfl ntmps96<|Sr<|Dd (by exact bZ (id:=961) rfl rfl rfl rfl h1)<|Dd aP<|Zz<|Sr<|Dd (by exact eZ rfl rfl)<|Dd aP<|Zz<|aC ?_;refine dF (H':=((961,JD m)::H)) (.inr rfl) rfl (aT rfl) Fin.refl ?_;exact Qq
theorem NS (m:ByteArray) (fv:AV) (Hs:Nat→aB) (hm:m.size < 1099511627776) (h1:∀ k,(Hs k).get 961=some (JD m))
  (hy:∀ k:Nat,k < 18→cC Tryz.prog fv [iv (k:Int),iv (((DW m).getD k 0:Nat):Int)] (Hs k) (fun r H'=>r=bv true∧H'=Hs (k+1))) :
  aH Tryz.prog 149 [fv,.ref 961 0 0 0] (Hs 0) (fun r H'=>r=.tup []∧H'=Hs 18):=by
 have hsz:=iM m;have hsum:=fun H=>Q0 m H (by omega);have y16:=hy 16 (by decide);have y17:=hy 17 (by decide);have hle:=RE m;rw [aHb] at y16;rw [aHa] at y17;refine Bd func149 rfl ntmps149<|Sr<|Dd aP<|Zz<|Sr<|Dd (by exact aK rfl isAgg9 rfl (h1 0) rfl rfl rfl)<|Dd (by exact aA rfl rfl QH rfl (hsum _))<|Dd aP<|Zz<|Sq<|Sr<|Dd aF<|Dd (nT underlying9)<|Dd aF<|Zz<|aG ?_;refine bQ (σ:=Nat) (fun k=>([(0,fv),(1,.ref 961 0 0 0),(3,iv (AW m k:Int)),(4,sv (pU m)),(10,iv 16),(11,iv (k:Int))],Hs k)) (fun k=>k≤16) (fun k=>16 - k) 0 (aLa _) ?_ ?_
 ·rw [hsz];exact E0
 intro k hk;have hyk:=fun(h:k < 16)=>hy k (by omega);refine Sr<|Dd dK<|Zz<|Sq ?_;refine Cn ?_ ?_<;>intro hc1
 ·have hlt:k < 16:=by have:=aLP hc1;omega
  have hyk:=hyk hlt;rw [aFW m hlt] at hyk;have hnl:=yS (Y8 m) k;have hr1:=aB4 m k;have hr2:=UQ m hlt;have hib:=fun H=>mV HXJ (sH (M4 (Y8 m) k)) H;rw [aC6 hnl] at hib;refine aE<|Sq<|aG<|Sr<|Dd aF<|Dd aP<|Zz<|Sr<|Dd aF<|Dd aF<|Dd (by exact eI rfl underlying9 rfl rfl (by omega) (aL4 _) (by omega) (WI m hlt))<|Dd (by exact aA rfl rfl tY rfl (hib _))<|Dd aP<|Zz<|Sr<|Dd aF<|Dd aF<|Dd (by exact eB rfl rfl rfl (show IntKind.i64.wrap (15 - (M4 (Y8 m) k:Int))=((15 - M4 (Y8 m) k:Nat):Int)by rw [pO (by omega) (by omega)];omega))<|Dd (by exact cA rfl rfl rfl (show IntKind.i64.wrap ((AW m k:Int)+((15 - M4 (Y8 m) k:Nat):Int))=(AW m (k+1):Int)by rw [pO (by omega) (by omega)];omega))<|Dd aP<|Zz<|Sr<|Dd aF<|Dd aF<|Dd aF<|Dd (by exact bY rfl rfl rfl (hyk))<|Dd lI<|Zz ?_;refine Cn ?_ ?_<;>intro hc2
  ·cases hc2
  refine aE<|Rg<|Dd (by exact cA rfl rfl rfl (show IntKind.i64.wrap ((k:Int)+1)=((k+1:Nat):Int)by rw [pO (by omega) (by omega)];omega))<|Dd aF<|Zz ?_;exact⟨k+1,by omega,by omega,E0⟩
 have hge:k=16:=by have:=aLQ hc1;omega
 subst hge;rw [ZI];refine bG<|Sr<|Dd aF<|Dd aF<|Dd (by exact O6 rfl rfl rfl (by decide) (show IntKind.i64.wrap (((yG m:Nat):Int).tdiv 16)=((yG m / 16:Nat):Int)by rw [Int.tdiv_eq_ediv_of_nonneg (by omega),pO (by omega) (by omega)];omega))<|Dd (by exact bY rfl rfl rfl (y16))<|Zz ?_;refine Cn ?_ ?_<;>intro hc3
 ·refine Rg<|Dd aF<|Dd aF<|Dd (by exact aEi rfl rfl rfl (by decide) (show ((yG m:Nat):Int).tmod 16=((yG m % 16:Nat):Int)by rw [Int.tmod_eq_emod_of_nonneg (by omega)];omega))<|Dd (by exact bY rfl rfl rfl (y17))<|Zz ?_;exact pL (H':=Hs 18) (.inl rfl) rfl Fin.refl ⟨rfl,rfl⟩
 cases hc3
theorem aDj {a b:Nat} (ha:a < 4611686018427387904) (hb:b < 4611686018427387904):bits .xor .i64 (a:Int) (b:Int)=((a ^^^ b:Nat):Int):=by have h:=Nat.xor_lt_two_pow (n:=62) ha hb;have ha':a % 2 ^ IntKind.i64.bits=a:=Nat.mod_eq_of_lt (Nat.lt_of_lt_of_le ha (by decide));have hb':b % 2 ^ IntKind.i64.bits=b:=Nat.mod_eq_of_lt (Nat.lt_of_lt_of_le hb (by decide));simp only [bits,BitVec.ofInt_natCast,BitVec.toNat_xor,BitVec.toNat_ofNat,ha',hb'];rw [pO (by omega) (by omega)]
theorem aFX {p:Prop} [Decidable p] (h:¬ p):AV.pv (.bool (decide p))=bv false:=by rw [decide_eq_false h]
def ZG (s:ByteArray) (i:Nat) (m:ByteArray) (k:Nat):List ByteArray:=(List.range k).map fun k=>xX (jO s i k) ((DW m).getD k 0)
theorem aBY (s:ByteArray) (i:Nat) (m:ByteArray) (k:Nat):ZG s i m (k+1)=ZG s i m k++[xX (jO s i k) ((DW m).getD k 0)]:=by rw [ZG,List.range_succ,List.map_append];rfl
theorem aEL (s:ByteArray) (i:Nat) (m:ByteArray) (k:Nat):(ZG s i m k).length=k:=by simp [ZG]
theorem cB.eqJ {P:Program} {N:Nat} {o:Oper} {E:bO} {H H2:aB} {v v':AV} (h:cB P N o E H v H2) (e:v=v'):cB P N o E H v' H2:=e▸h
def sgE:bO:=[(4,.ref 4 0 0 0),(6,.ref 6 0 0 0),(10,.ref 10 0 0 0)]
def sgT (s:ByteArray) (i:Nat):aB:=[(8,bx 3 25 [iv 0,.pv (.sl []),.pv (.sl [])]),(6,bx 1 3 [iv (i:Int)]),(4,bx 1 9 [sv s])]
def sgK (s:ByteArray) (i:Nat) (m:ByteArray) (L:List ByteArray):aB:=[(905,⟨L.length,1,9,dO L⟩),(10,bx 3 25 [iv (i:Int),.osl 905 L.length 0 L.length,.pv .nils]),(961,JD m),(8,bx 3 25 [iv 0,.pv (.sl []),.pv (.sl [])]),(6,bx 1 3 [iv (i:Int)]),(4,bx 1 9 [sv s])]
theorem aEM (s:ByteArray) (i:Nat) (m:ByteArray) (L:List ByteArray) (x:ByteArray):sgK s i m (L++[x])=[(905,⟨L.length+1,1,9,dO (L++[x])⟩),(10,bx 3 25 [iv (i:Int),.osl 905 (L.length+1) 0 (L.length+1),.pv .nils]),(961,JD m),(8,bx 3 25 [iv 0,.pv (.sl []),.pv (.sl [])]),(6,bx 1 3 [iv (i:Int)]),(4,bx 1 9 [sv s])]:=by simp [sgK]
theorem uM (H:aB) (m:ByteArray):∀ r∈(JD m).rows,∀ a∈r,Clo H a:=by intro r hr a ha;simp only [JD,bx,aLW] at hr;subst hr;rw [aLW] at ha;subst ha;simp
theorem aEH (s m:ByteArray) (h i:Nat) (H:aB) (hs:s.size < 1099511627776) (hm:m.size < 1099511627776) (hh:h≤8) (hi:i < 2 ^ h) :
  aH Tryz.prog 36 [sv s,iv (h:Int),iv (i:Int),sv m] H (fun r H'=>r=.tup [.agg [iv (i:Int),.pv (aU (CG s i m)),.pv (aU (kZ h (kM s h) i))],iv 0]∧H'=H):=by
 refine Pu ?_;have hp:=qC hh;have hsh:=aEJ hh;have hkeys:=fun H=>X3 s h H hs hh;have hkl:=uR s h;have hpath:∀ L,L=kZ h (kM s h) i→True:=fun _ _=>trivial;refine Bd func36 rfl ntmps36<|Sr<|Dd (by exact bZ (id:=4) rfl rfl rfl rfl rfl)<|Dd (by exact bZ (id:=6) rfl rfl rfl rfl rfl)<|Dd (by exact bC (id:=8) rfl YT rfl rfl)<|Dd aP<|Zz<|Sq<|Sq<|aQ follows<|Cq aF<|Cq (by exact cB.eqJ (G3 rfl rfl rfl) (aFX (by omega)))<|Cq aF<|Nf aF<|Nf (by exact cB.eqJ (CW rfl rfl rfl) (aFX (by omega)))<|Cq cE<|Cq aF<|Nf (bK isAgg3)<|Nf (by exact cB.eqJ (G3 rfl rfl rfl) (aFX (by omega)))<|Cq cE<|Cq aF<|Nf (bK isAgg3)<|Nf aF<|Nf (by exact CS rfl rfl rfl (by omega) (by simp [IntKind.bits];omega) hsh)<|Nf (by exact cB.eqJ (CX rfl rfl rfl) (aFX (by omega)))<|Cq cE<|bJ<|Kr ?_;refine Cn ?_ ?_<;>intro hc1
 ·cases hc1
 refine aE<|Sr<|Dd (bK isAgg3)<|Dd (uX aJb)<|Dd (by exact bC (id:=10) rfl YT rfl rfl)<|Uu (iH sizeOf25)<|Zz<|Sq<|Sr<|Dd aF<|Dd (by exact aA rfl rfl call96 rfl (NR m _ rfl))<|Zz<|aG ?_;refine fE.ent (E':=[(1,iv (h:Int)),(4,.ref 4 0 0 0),(6,.ref 6 0 0 0),(8,.ref 8 0 0 0),(10,.ref 10 0 0 0),(35,.clo 149 [.ref 961 0 0 0])]) (H':=sgK s i m []) ?_ ?_
 ·exact(cD.nz 905 1 9 rfl rfl ⟨⟨_,rfl,(by exact Nz.same (by(simp;done)))⟩,⟨_,rfl,(by exact Nz.same (by(simp;rfl)))⟩,⟨_,rfl,(by exact Nz.same (by(simp;rfl)))⟩,⟨_,rfl,(by exact Nz.same (by(simp;rfl)))⟩,⟨_,rfl,(by exact Nz.same (by(simp;rfl)))⟩,⟨_,rfl,(by exact Nz.same (by(simp;rfl)))⟩,trivial⟩ ⟨⟨_,rfl,rfl,rfl,rfl,(by exact .inr ⟨_,_,rfl,rfl,(by repeat(first|exact trivial|refine⟨(by first|exact Nz.own|exact Nz.same (by(simp;done))),?_⟩))⟩)⟩,⟨_,rfl,rfl,rfl,rfl,(by exact .inl ⟨rfl,(by exact uM _ _)⟩)⟩,⟨_,rfl,rfl,rfl,rfl,(by exact .inl ⟨rfl,(by(simp;done))⟩)⟩,⟨_,rfl,rfl,rfl,rfl,(by exact .inl ⟨rfl,(by(simp;done))⟩)⟩,⟨_,rfl,rfl,rfl,rfl,(by exact .inl ⟨rfl,(by(simp;done))⟩)⟩,trivial⟩ trivial)
 refine J9 (id:=904) (p:=36) (p2:=37) sgE rfl call149 rfl rfl (by simp [sgE];exact⟨rfl,rfl,rfl⟩) ?_;intro x hx1 hx2 hx3 hx4 hx5 hx6;refine(NS m (.yld 904 0) (fun k=>(904,LR x sgE)::sgK s i m (ZG s i m k)) hm (fun k=>rfl) ?_).mono ?_
 ·intro k hk;have hd:=WE m _ (mW (d:=0) (by rw [HH];exact hk));have hst:=fun H=>XC s i k H hs (by omega) (by omega);have hfl:=aEL s i m k;have hnx:=aBY s i m k;have hch:=fun H=>P0 (jO s i k) ((DW m).getD k 0) H (by rw [yD];decide) (by omega);obtain ⟨d,hdd⟩:∃ d,d=(DW m).getD k 0:=⟨_,rfl⟩;rw [← hdd] at hd hnx hch ⊢;refine .inl ⟨904,0,rfl,?_⟩;refine WZ [(4,.ref 4 0 0 0),(6,.ref 6 0 0 0),(10,.ref 10 0 0 0),(11,iv (k:Int)),(12,iv (d:Int))] (sgK s i m (ZG s i m k)) hx1 hx2 hx3 hx4 hx5 hx6 rfl rfl rfl rfl rfl ?_ ?_
  ·refine Sr<|Dd aP<|Zz<|Rg<|Da ?_;exact(cD.wk (Ea<|Ea<|Ea<|Eb<|Eb<|trivial) (Hc (jG (by intro p hp;simp only [sgE,aL5,aL9,or_false] at hp;rcases hp with rfl|rfl|rfl<;>(simp only [oV];rfl)))<|Hc (bV _ _)<|Ha<|Hc (uM _ _)<|Hb<|Hb<|Hb<|trivial) ⟨rfl,rfl,rfl,rfl,rfl,rfl,rfl,trivial⟩)
  rw [hnx,aEM];refine aG<|aQ follows<|Cr [10] (fun _ h=>fh iL h)<|Cr [10] (fun _ h=>lh aJ h)<|Cr [4] (fun _ h=>lh isAgg9 h)<|Cr [6] (fun _ h=>lh isAgg3 h)<|Cr [] (fun _ _=>aF)<|Cr [] (fun H1 hH=>by exact aA rfl rfl call100 rfl (hst _))<|Cr [] (fun _ _=>aF)<|Cr [] (fun H1 hH=>by exact aA rfl rfl aLF rfl (hch _))<|Cr [] (fun H1 hH=>by exact aS [[.str (xX (jO s i k) d)]] rfl cP rfl rfl rfl rfl rfl (by intro r hr;rw [aLW] at hr;subst hr;rfl))<|Cp [905] (fun H1 hH=>by exact eK (ps:=[[.str (xX (jO s i k) d)]]) rfl cP TQ rfl ((hH _ rfl).trans rfl) rfl rfl rfl (iR _) rfl (by intro r hr;rw [aLW] at hr;subst hr;rfl) (m:=1) rfl (by omega) rfl (kC (ZG s i m k) (xX (jO s i k) d)))<|Cr [10] (fun _ h=>fh iL h)<|Cp [10] (fun H1 hH=>by exact bA rfl sizeOf22 rfl rfl rfl ((hH _ rfl).trans rfl) rfl rfl (by simp only [aLV,List.length_nil];omega) (by simp only [Zl,encStr];rfl) (by simp only [Zl,encStr];rfl)) ?_;refine bJ<|Kr ?_;exact⟨[(905,⟨(ZG s i m k).length+1,1,9,dO (ZG s i m k++[xX (jO s i k) d])⟩),(10,bx 3 25 [iv (i:Int),.osl 905 ((ZG s i m k).length+1) 0 ((ZG s i m k).length+1),.pv .nils]),(961,JD m),(8,bx 3 25 [iv 0,.pv (.sl []),.pv (.sl [])]),(6,bx 1 3 [iv (i:Int)]),(4,bx 1 9 [sv s])],(cD.wk trivial (Hc (jG (by intro p hp;simp only [sgE,aL5,aL9,or_false] at hp;rcases hp with rfl|rfl|rfl<;>(simp only [oV];rfl)))<|Hc (bV _ _)<|Ha<|Hc (uM _ _)<|Hb<|Hb<|Hb<|trivial) ⟨rfl,rfl,rfl,rfl,rfl,rfl,rfl,trivial⟩),rfl,rfl⟩
 rintro r H' ⟨rfl,rfl⟩;refine⟨x,_,rfl,by rw [hx1];decide,rfl,fun z=>?_⟩;rw [hx2,show ZG s i m 18=CG s i m from rfl];obtain ⟨S,hS⟩:∃ S,S=CG s i m:=⟨_,rfl⟩;rw [← hS];have hol:(S.map encStr).length=S.length:=aLT _;refine fE.ent (cD.fzG (id:=905) (E':=[(1,iv (h:Int)),(4,.ref 4 0 0 0),(6,.ref 6 0 0 0),(8,.ref 8 0 0 0),(10,.ref 10 0 0 0)]) (H':=(10,bx 3 25 [iv (i:Int),.pv (aU S),.pv .nils])::sgT s i) (S.map encStr) rfl (fW _) ?_ rfl ?_ ?_) ?_
 ·intro p hp;simp only [aL5,aL9,or_false] at hp;rcases hp with rfl|rfl|rfl|rfl|rfl
  ·exact⟨_,rfl,.same (by simp)⟩
  ·exact⟨_,rfl,.same (by simp;rfl)⟩
  ·exact⟨_,rfl,.same (by simp;rfl)⟩
  ·exact⟨_,rfl,.same (by simp;rfl)⟩
  exact⟨_,rfl,.same (by simp;rfl)⟩
 ·refine⟨⟨_,rfl,rfl,rfl,rfl,nK rfl (cI (.same (by simp)) (cI (.osl ?_) (cI (.same (by simp)) nL)))⟩,⟨_,rfl,rfl,rfl,rfl,fV (by simp)⟩,⟨_,rfl,rfl,rfl,rfl,fV (by simp)⟩,⟨_,rfl,rfl,rfl,rfl,fV (by simp)⟩,trivial⟩;rw [aLb,List.drop_zero,← hol,List.take_length]
 ·exact trivial
 refine Sq<|Sq<|aQ follows<|Cq (bK isAgg9)<|Cq aF<|Cq (by exact aA rfl rfl call89 rfl (hkeys _))<|Cq (bK isAgg3)<|Cq aP<|Cq aP<|bJ<|Kr<|aG ?_;refine fE.ent (E':=[(8,.ref 8 0 0 0),(10,.ref 10 0 0 0),(13,.pv (aU (kM s h))),(14,iv (i:Int))]) (H':=(906,⟨0,1,9,[]⟩)::(10,bx 3 25 [iv (i:Int),.pv (aU S),.osl 906 0 0 0])::sgT s i) ?_ ?_
 ·exact(cD.nz 906 1 9 rfl rfl ⟨⟨_,rfl,(by exact Nz.same (by(simp;rfl)))⟩,⟨_,rfl,(by exact Nz.same (by(simp;rfl)))⟩,⟨_,rfl,(by exact Nz.same (by(simp;done)))⟩,⟨_,rfl,(by exact Nz.same (by(simp;done)))⟩,trivial⟩ ⟨⟨_,rfl,rfl,rfl,rfl,(by exact .inr ⟨_,_,rfl,rfl,(by repeat(first|exact trivial|refine⟨(by first|exact Nz.own|exact Nz.same (by(simp;done))),?_⟩))⟩)⟩,⟨_,rfl,rfl,rfl,rfl,(by exact .inl ⟨rfl,(by(simp;done))⟩)⟩,⟨_,rfl,rfl,rfl,rfl,(by exact .inl ⟨rfl,(by(simp;done))⟩)⟩,⟨_,rfl,rfl,rfl,rfl,(by exact .inl ⟨rfl,(by(simp;done))⟩)⟩,trivial⟩ trivial)
 refine N0 (fun(j:Nat) (l:List ByteArray) (q:Nat) (A:List ByteArray)=>([(8,.ref 8 0 0 0),(10,.ref 10 0 0 0),(13,.pv (aU l)),(14,iv (q:Int))],[(906,⟨A.length,1,9,dO A⟩),(10,bx 3 25 [iv (i:Int),.pv (aU S),.osl 906 A.length 0 A.length]),(8,bx 3 25 [iv 0,.pv (.sl []),.pv (.sl [])]),(6,bx 1 3 [iv (i:Int)]),(4,bx 1 9 [sv s])]))
  (fun j l q A=>l.length=2 ^ j∧q < 2 ^ j∧A++kZ j l q=kZ h (kM s h) i∧(∀ t∈l,t.size=16)∧j≤8∧A.length+j≤8) (fun j l q A=>j) h (kM s h) i [] ⟨hkl,hi,rfl,fun t ht=>rN (AF s h t ht),hh,by rw [List.length_nil];omega⟩ ?_ ?_
 ·exact(cD.wk (Ea<|Ea<|Eb<|Eb<|trivial) (Hc (bV _ _)<|Ha<|Hb<|Hb<|Hb<|trivial) trivial)
 rintro j l q A ⟨hl,hq,hr,hz,hj,hA⟩;have hml:(l.map encStr).length=l.length:=aLT _;have hpj:=qC hj;refine Sq<|Sr<|Dd aF<|Dd (fY aD)<|Dd mI<|Zz ?_;refine Cn ?_ ?_<;>intro hc2
 ·have hlt:1 < l.length:=by have:=aLP hc2;omega
  obtain ⟨u,rfl⟩:∃ u,j=u+1:=by
   cases j with
   | zero=>rw [hl] at hlt;exact absurd hlt (by decide)
   | succ u=>exact⟨u,rfl⟩
  have hl2:l.length=2*2 ^ u:=by rw [hl,Nat.pow_succ,Nat.mul_comm]
  have hpu:=qC (h:=u) (by omega);have hq2:q / 2 < 2 ^ u:=by rw [Nat.pow_succ] at hq;omega
  have hx:=N8 q;have hxl:q ^^^ 1 < l.length:=by
   rw [hx]
   split<;>omega
  have hix:(l.map encStr)[q ^^^ 1]?=some (encStr (l.getD (q ^^^ 1) sNil)):=by
   rw [aLd,List.getD_eq_getElem?_getD,aLY hxl];rfl
  have hr2:(A++[l.getD (q ^^^ 1) sNil])++kZ u (OE l) (q / 2)=kZ h (kM s h) i:=by
   rw [← hr,List.append_assoc];rfl
  obtain ⟨e,he⟩:∃ e,e=l.getD (q ^^^ 1) sNil:=⟨_,rfl⟩;obtain ⟨y,hy⟩:∃ y,y=q ^^^ 1:=⟨_,rfl⟩;have hxo:=aDj (a:=q) (b:=1) (by omega) (by decide);rw [← he] at hix hr2;rw [← hy] at hix hxo hxl;have hnl:(A++[e]).length=A.length+1:=by rw [aLU];rfl
  refine aE<|Sq<|aG<|aQ follows<|Cr [10] (fun _ h=>fh mK h)<|Cr [10] (fun _ h=>lh aJ h)<|Cr [] (fun _ _=>aF)<|Cr [] (fun _ _=>aF)<|Cr [] (fun H1 hH=>by exact pF rfl (by simp) rfl rfl hxo)<|Cr [] (fun H1 hH=>by exact bN rfl cP rfl rfl (by omega) (by exact aL4 _) hix rfl)<|Cr [] (fun _ _=>(pH isAgg9 (hi:=hix)))<|Cr [] (fun H1 hH=>by exact aS [[.str e]] rfl cP rfl rfl rfl rfl rfl (by intro r hr;rw [aLW] at hr;subst hr;rfl))<|Cp [906] (fun H1 hH=>by exact eK (ps:=[[.str e]]) rfl cP TQ rfl ((hH _ rfl).trans rfl) rfl rfl rfl (iR _) rfl (by intro r hr;rw [aLW] at hr;subst hr;rfl) (m:=1) rfl (by omega) rfl (kC A e))<|Cr [10] (fun _ h=>fh mK h)<|Cp [10] (fun H1 hH=>by exact bA rfl sizeOf22 rfl rfl rfl ((hH _ rfl).trans rfl) rfl rfl (by simp only [aLV,List.length_nil];omega) (by simp only [Zl,encStr];rfl) (by simp only [Zl,encStr];rfl)) ?_;refine bJ<|Kr<|Rg<|Dd aF<|Dd (by exact aA rfl rfl call90 rfl (YO l (2 ^ u) _ hl2 (by omega) hz))<|Dd aF<|Dd (by exact O6 rfl rfl rfl (by decide) (show IntKind.i64.wrap ((q:Int).tdiv 2)=((q / 2:Nat):Int)by rw [Int.tdiv_eq_ediv_of_nonneg (by omega),pO (by omega) (by omega)];omega))<|Dd aP<|Da ?_;refine⟨u,OE l,q / 2,A++[e],⟨zV _ _ hl2,hq2,hr2,fun t ht=>rN (GQ _ _ (aLZ _) t ht),by omega,by omega⟩,by omega,?_⟩;dsimp only;rw [hnl];exact(cD.wk (Ea<|Ea<|Eb<|Eb<|trivial) (Hc (bV _ _)<|Ha<|Hb<|Hb<|Hb<|trivial) trivial)
 have hge:l.length≤1:=by have:=aLQ hc2;omega
 have hj0:j=0:=by
  cases j with
  | zero=>rfl
  | succ u =>
   have:2 ^ (u+1)=2*2 ^ u:=by rw [Nat.pow_succ,Nat.mul_comm]
   have:0 < 2 ^ u:=Nat.two_pow_pos u;omega
 subst hj0;have hA2:A=kZ h (kM s h) i:=by rw [← hr,kZ,List.append_nil]
 have hal:(A.map encStr).length=A.length:=aLT _;rw [← hA2];refine bG<|Sq ?_;refine fE.ent (cD.fzG (id:=906) (E':=[(8,.ref 8 0 0 0),(10,.ref 10 0 0 0)]) (H':=(10,bx 3 25 [iv (i:Int),.pv (aU S),.pv (aU A)])::sgT s i) (A.map encStr) rfl (fW _) ?_ rfl ?_ ?_) ?_
 ·intro p hp;simp only [aL5,aL9,or_false] at hp;rcases hp with rfl|rfl
  ·exact⟨_,rfl,.same (by simp;rfl)⟩
  exact⟨_,rfl,.same (by simp;rfl)⟩
 ·refine⟨⟨_,rfl,rfl,rfl,rfl,nK rfl (cI (.same (by simp)) (cI (.same (by simp)) (cI (.osl ?_) nL)))⟩,⟨_,rfl,rfl,rfl,rfl,fV (by simp)⟩,⟨_,rfl,rfl,rfl,rfl,fV (by simp)⟩,⟨_,rfl,rfl,rfl,rfl,fV (by simp)⟩,trivial⟩;rw [aLb,List.drop_zero,← hal,List.take_length]
 ·exact trivial
 refine Rg<|Dd (by exact aM rfl eM sizeOf25 rfl rfl rfl rfl (by simp only [Zl,encStr];rfl) rfl)<|Uu (iH sizeOf25)<|Dd aP<|Zz<|aC ?_;refine rW (H':=[]) (.inr rfl) rfl (eU rfl eM sizeOf25 rfl rfl rfl (by simp only [Zl,encStr];rfl) rfl) (aT rfl) (Fin.wk (by simp) trivial trivial) ?_;exact Qq
end Go.Proofs.YtiifmppaejpemaaGreatDoor
namespace Go.Abs
open Go.RowKit
theorem Rel.below {I:Nat→Prop} {ι:dR} {H:aB} {w w':World} (hb:Below w.heap.size w w') (hr:Rel I ι H w):Rel I ι H w'∧Step I ι H w I ι H w':=by
 have hk:∀ b,b < w.heap.size→w'.heap[b]?=w.heap[b]?:=hb.block;have hst:Step I ι H w I ι H w':=by
  refine⟨hb.os,hb.tape,hb.output,hb.size,fun a ha _=>?_,fun _ h=>h,fun _ h=>.inl h,fun _ h=>.inl h,fun b hb _=>hk b hb,fun _ o h=>⟨o,h,aLZ _,fun _=>⟨rfl,rfl,fun _=>aLZ _⟩⟩⟩;unfold World.frozen?;rw [hk _ ha]
 refine⟨⟨fun b h=>?_,fun j o hj=>?_,hr.inj,hst.glob hr⟩,hst⟩
 ·have:=hr.imm b h;have:=hb.size;omega
 exact(hr.obj j o hj).keep rfl (fun b c _ hb=>⟨hk b hb,fun h=>h⟩) (fun r _ a _ v hv=>hv.mono hr hst)
end Go.Abs
namespace Go.Abs
open Go.Proofs
def aGG (v:Value):Prop:=∃ t p,v=.iface t p
abbrev aAM:PV:=.sat aGG
def lO (s:ByteArray):Int×PV:=match Lib.atoiAll s.data.toList with
 | .ok v=>(v,EN)
 | .range=>(Lib.atoiSat s.data.toList,aAM)
 | _=>(0,aAM)
theorem atoi_c {P:Program} {ρ:Shelf.Ren} (L:LaysC.n172 P ρ) {G1 G2:Nat} (hg1:(G1,GV.face)∈PO) (hn1:P.globalNamed "strconv.ErrSyntax" = some G1) (hg2:(G2,GV.face)∈PO) (hn2:P.globalNamed "strconv.ErrRange" = some G2) (s:ByteArray) (hs:s.size < 1099511627776) (H:aB) :
  aH P (ρ.f 172) [.pv (.str s)] H (fun r H'=>r=.tup [.pv (.int .i64 (lO s).1),.pv (lO s).2]∧H'=H):=by
 intro I ι w vs hr hvl hv;obtain ⟨v,rfl⟩:∃ v,vs=#[v]:=by
  match vs,hvl with
  | ⟨[v]⟩,_=>exact⟨v,rfl⟩
 have e1:=(hv 0 v _ rfl rfl).str_inv;subst e1;have hvar:∀ (name:String) (G:Nat),(G,GV.face)∈PO→P.globalNamed name=some G→∃ t p,w.var? P name=some #[.iface t p]:=fun name G hg hn=>by
  obtain ⟨_,cs,t,f,h2,q,p,h3⟩:=hr.glob _ hg;subst h3;exact⟨q,p,by simp only [World.var?,hn,Option.bind_some,h2]⟩
 have fin:∀ (n:Int) (x:Value) (a:PV) (w':World),RowKit.Below w.heap.size w w'→(∀ I H,VRel w' I ι H x (.pv a))→∃ r H' I' ι' v',(Ending.returned (.tuple #[.int .i64 n,x]))=.returned v'∧(r=.tup [.pv (.int .i64 n),.pv a]∧H'=H)∧VRel w' I' ι' H' v' r∧Rel I' ι' H' w'∧Step I ι H w I' ι' H' w':=fun n x a w' hb hx=>by
  obtain ⟨k1,k2⟩:=Rel.below hb hr;refine⟨_,_,I,ι,_,rfl,⟨rfl,rfl⟩,.tup rfl fun i v b h1 h2=>?_,k1,k2⟩
  match i,h1,h2 with
  | 0,h1,h2=>cases h1;cases h2;exact .pv (.int _ _)
  | 1,h1,h2=>cases h1;cases h2;exact hx _ _
  | i+2,h1,h2=>simp at h1
 rw [lO];cases h:Lib.atoiAll s.data.toList with
 | ok n =>
  refine(Any.strconv_Atoi_ok L s (by omega) n h w).mono ?_;rintro e w' ⟨rfl,hw⟩;have hb:RowKit.Below w.heap.size w w':=by
   rcases hw with rfl|⟨t,rfl⟩
   ·exact RowKit.Below.refl _ _
   exact Lib.bytesWorld_below w _ t
  exact fin n .nilIface EN w' hb (fun _ _=>.pv (.sat rfl rfl))
 | range =>
  obtain ⟨t,p,hq⟩:=hvar _ G2 hg2 hn2;refine(Any.strconv_Atoi_range_var L s (by omega) h t p w hq).mono ?_;rintro e w' ⟨N,rfl,_,_,hb⟩;exact fin _ _ aAM w' hb (fun _ _=>.pv (.sat rfl ⟨_,_,rfl⟩))
 | _ =>
  obtain ⟨t,p,hq⟩:=hvar _ G1 hg1 hn1;refine(Any.strconv_Atoi_syntax_var L s (by omega) h t p w hq).mono ?_;rintro e w' ⟨N,rfl,_,_,hb⟩;exact fin 0 _ aAM w' hb (fun _ _=>.pv (.sat rfl ⟨_,_,rfl⟩))
theorem T5 {P:Program} {ρ:Shelf.Ren} (L:Lays.n160 P ρ) (h116:(P.info? (ρ.t 116)).map (fun i=>(i.zero,i.size))=some (some (.agg (Array.replicate 256 (.bool false))),256)) (s c:ByteArray) (hs:s.size≤9223372036854775807) (hcs:c.size < 4294967281)
  (ha:∀ (j:Nat) b,c.data.toList[j]?=some b→b.toNat < 128) (H:aB) :
  aH P (ρ.f 160) [.pv (.str s),.pv (.str c)] H (fun r H'=>r=.pv (.str ⟨(Lib.trimS s.data.toList c.data.toList).toArray⟩)∧H'=H):=by
 intro I ι w vs hr hvl hv;obtain ⟨v,u,rfl⟩:∃ v u,vs=#[v,u]:=by
  match vs,hvl with
  | ⟨[v,u]⟩,_=>exact⟨v,u,rfl⟩
 have e1:=(hv 0 v _ rfl rfl).str_inv;have e2:=(hv 1 u _ rfl rfl).str_inv;subst e1 e2;refine(Any.strings_Trim_laid L h116 s c w hs hcs ha).mono ?_;rintro e w' ⟨rfl,hb⟩;obtain ⟨k1,k2⟩:=Rel.below hb hr;exact⟨_,_,I,ι,_,rfl,⟨rfl,rfl⟩,.pv (.str _),k1,k2⟩
end Go.Abs
section
namespace Go.Proofs
open Go.RowKit Go.Sort Go.Shelf
def aLK:Go.Shelf.Ren:=⟨fun|160=>93|232=>143|231=>142|227=>144|234=>146|233=>145|236=>148|235=>147|228=>183|271=>186|151=>185|197=>184|120=>219|152=>218|260=>217|137=>150|119=>252|224=>228|225=>227|217=>187|266=>220|n=>n,fun|9=>9|4=>4|3=>3|5=>5|117=>171|116=>170|0=>0|124=>174|21=>21|105=>200|46=>128|119=>160|139=>260|138=>259|n=>n,fun|3=>3|4=>4|n=>n⟩
theorem aLO:Go.Proofs.Lays.n160 Tryz.prog aLK:={
  mixed:=by kernel_rfl
  f119:=Tryz.func252.trans (congrArg some (by kernel_rfl))
  f120:=Tryz.func219.trans (congrArg some (by kernel_rfl))
  f137:=Tryz.func150.trans (congrArg some (by kernel_rfl))
  f151:=Tryz.func185.trans (congrArg some (by kernel_rfl))
  f152:=Tryz.func218.trans (congrArg some (by kernel_rfl))
  f160:=Tryz.func93.trans (congrArg some (by kernel_rfl))
  f197:=Tryz.func184.trans (congrArg some (by kernel_rfl))
  f217:=Tryz.func187.trans (congrArg some (by kernel_rfl))
  f224:=Tryz.func228.trans (congrArg some (by kernel_rfl))
  f225:=Tryz.func227.trans (congrArg some (by kernel_rfl))
  f227:=Tryz.func144.trans (congrArg some (by kernel_rfl))
  f228:=Tryz.func183.trans (congrArg some (by kernel_rfl))
  f231:=Tryz.func142.trans (congrArg some (by kernel_rfl))
  f232:=Tryz.func143.trans (congrArg some (by kernel_rfl))
  f233:=Tryz.func145.trans (congrArg some (by kernel_rfl))
  f234:=Tryz.func146.trans (congrArg some (by kernel_rfl))
  f235:=Tryz.func147.trans (congrArg some (by kernel_rfl))
  f236:=Tryz.func148.trans (congrArg some (by kernel_rfl))
  f260:=Tryz.func217.trans (congrArg some (by kernel_rfl))
  f266:=Tryz.func220.trans (congrArg some (by kernel_rfl))
  f271:=Tryz.func186.trans (congrArg some (by kernel_rfl))
  t0:=aDZ
  a0:=aLE
  z0:=aKm
  v0:=aFq
  t3:=Tryz.underlying3
  a3:=Tryz.isAgg3
  z3:=Tryz.sizeOf3
  v3:=zP
  t4:=cL
  a4:=sD
  z4:=Tryz.sizeOf4
  v4:=zO
  t5:=jK
  a5:=xS
  z5:=bR
  v5:=KN
  t9:=Tryz.underlying9
  a9:=Tryz.isAgg9
  z9:=Tryz.sizeOf9
  v9:=qU
  t21:=Tryz.underlying21
  a21:=Tryz.isAgg21
  z21:=Tryz.sizeOf21
  v21:=Tryz.zeroValue21
  t46:=B6
  a46:=TY
  z46:=QD
  v46:=DY
  t105:=Tryz.underlying200
  a105:=Tryz.isAgg200
  z105:=Tryz.sizeOf200
  v105:=Tryz.zeroValue200
  t116:=Tryz.underlying170
  a116:=Tryz.isAgg170
  z116:=Tryz.sizeOf170
  t117:=Tryz.underlying171
  a117:=Tryz.isAgg171
  z117:=Tryz.sizeOf171
  v117:=Tryz.zeroValue171
  t119:=eG
  a119:=aJl
  z119:=tT
  t124:=Tryz.underlying174
  a124:=Tryz.isAgg174
  z124:=Tryz.sizeOf174
  v124:=Tryz.zeroValue174
  t138:=Tryz.underlying259
  a138:=Tryz.isAgg259
  z138:=Tryz.sizeOf259
  v138:=Tryz.zeroValue259
  t139:=Tryz.underlying260
  a139:=Tryz.isAgg260
  z139:=Tryz.sizeOf260
  v139:=Tryz.zeroValue260
  g3:=by kernel_rfl
  g4:=by kernel_rfl}
end Go.Proofs
namespace Go.Proofs.YtiifmppaejpemaaGreatDoor
open Go.Proofs.Tryz
open Go.Abs
abbrev HXT:ByteArray:=⟨#[48,49,50,51,52,53,54,55,56,57,97,98,99,100,101,102]⟩
theorem aH4 (b:UInt8):HXT.data.toList.contains b=SF b:=by
 have h:∀ n:Fin 256,HXT.data.toList.contains (UInt8.ofNat n.1)=SF (UInt8.ofNat n.1):=by decide +kernel
 have:=h ⟨b.toNat,b.toNat_lt⟩
 simpa using this
theorem tP {α:Type} (p:α→Bool):∀ l:List α,l.dropWhile p=[]↔l.all p=true
 | []=>by simp
 | a::r=>by
  rw [List.dropWhile_cons,List.all_cons];cases h:p a with
  | true=>rw [aLS rfl,Bool.true_and];exact tP p r
  | false=>rw [aLR (by decide)];simp
theorem A5 {α:Type} {p q:α→Bool}:∀ {l:List α},(l.dropWhile p).all q=true→(∀ a,p a=true→q a=true)→l.all q=true
 | [],_,_=>rfl
 | a::r,h,hpq=>by
  rw [List.dropWhile_cons] at h;cases hp:p a with
  | true =>
   rw [hp,aLS rfl] at h;rw [List.all_cons,hpq a hp,Bool.true_and];exact A5 h hpq
  | false =>
   rw [hp,aLR (by decide)] at h;exact h
theorem aBG (l:List UInt8):Lib.trimS l HXT.data.toList=[]↔l.all SF=true:=by
 have e:(fun b=>HXT.data.toList.contains b)=SF:=funext aH4;unfold Lib.trimS Lib.trimLeftS Lib.trimRightS;rw [e,tP];constructor
 ·intro h;rw [List.all_reverse] at h;have h2:=A5 h (fun a ha=>ha)
  rwa [List.all_reverse] at h2
 intro h;have h2:(l.reverse.dropWhile SF)=[]:=(tP _ _).2 (by rw [List.all_reverse];exact h);rw [h2];rfl
theorem aDw (s:ByteArray) (hs:s.size < 1099511627776) (H:aB):aH Tryz.prog 93 [sv s,sv HXT] H (fun r H'=>r=sv ⟨(Lib.trimS s.data.toList HXT.data.toList).toArray⟩∧H'=H) :=T5 aLO (by kernel_rfl) s HXT (by omega) (by decide) (ascii_of_all (by decide)) H
theorem aC3 (s:ByteArray) (hs:s.size < 1099511627776) (H:aB):aH Tryz.prog 31 [sv s] H (fun r H'=>r=bv (isJ s)∧H'=H):=by
 refine Pu ?_;have htr:=fun H=>aDw s hs H;have hn:=aBG s.data.toList;obtain ⟨t,ht⟩:∃ t,t=Lib.trimS s.data.toList HXT.data.toList:=⟨_,rfl⟩;rw [← ht] at htr hn;have hb:isJ s=(decide ((s.size:Int)=16)&&decide ((⟨t.toArray⟩:ByteArray)=sNil)):=by
  rw [isJ];congr 1
  ·exact decide_eq_decide.2 (by omega)
  have h2:((⟨t.toArray⟩:ByteArray)=sNil)↔t=[]:=by
   constructor
   ·intro h;have:=congrArg (fun b:ByteArray=>b.data.toList) h
    simpa using this
   intro h;rw [h]
  cases h3:s.data.toList.all SF with
  | true=>exact(decide_eq_true (h2.2 (hn.2 h3))).symm
  | false=>exact(decide_eq_false (fun h=>by rw [hn.1 (h2.1 h)] at h3;cases h3)).symm
 clear ht hn;refine Bd func31 rfl ntmps31<|Sr<|Dd aP<|Zz<|Sq ?_;refine bD (t:=2) (n:=10) (X:=isJ s) ?_ ?_
 ·all_goals refine Dd aF ?_
  all_goals refine Dd (nT underlying9)<|Dd cY<|Dm ?_
  all_goals refine Sp 6 (fun h6=>?_) fun h6=>?_
  all_goals try contradiction
  all_goals first|refine Fo<|Fo<|Fo ?_|refine On aF<|On (by exact aA rfl rfl call93 rfl (htr _))<|On zZ ?_
  all_goals refine Dd cE<|Da ?_
  all_goals(exact⟨⟨_,rfl,by(rw [hb,h6];rfl)⟩,rfl,rfl,rfl⟩)
 exact aC<|Rt<|Qq
end Go.Proofs.YtiifmppaejpemaaGreatDoor
end
