/-
  Parts of the proof: rules of an abstract program logic, contracts of functions, plain laws. Conditions: each theorem's own.
-/
import Derived.Test.YtiifmppaejpemaaGreatDoorKR1M5
import Derived.Lib.ItoaLen
import Derived.Laws.BitsLemmas
import Derived.Below
import Derived.Shelf.Strconv.ErrVarAll
import Derived.Shelf.Strconv.AtoiAll
import Derived.Shelf.LaysC
import Derived.Shelf.Strings.SlTrimAscii
import Derived.Shelf.Lays
import Derived.Ground.NamesProg
set_option linter.unusedVariables false
set_option linter.unusedSimpArgs false
set_option maxRecDepth 100000
set_option maxHeartbeats 8000000
namespace Go.Proofs
theorem mM:type_of% Tryz.call113:=Tryz.call113
theorem kV:type_of% Tryz.call114:=Tryz.call114
theorem jE:type_of% Tryz.call115:=Tryz.call115
theorem kU:type_of% Tryz.call116:=Tryz.call116
theorem mL:type_of% Tryz.call168:=Tryz.call168
theorem QL:type_of% Tryz.call42:=Tryz.call42
theorem aKz:type_of% Tryz.call97:=Tryz.call97
theorem QI:type_of% Tryz.call98:=Tryz.call98
theorem aKh:type_of% Tryz.func168:=Tryz.func168
theorem dX:type_of% Tryz.isAgg25:=Tryz.isAgg25
theorem aJe:type_of% Tryz.ntmps168:=Tryz.ntmps168
end Go.Proofs
namespace Go.Proofs.YtiifmppaejpemaaGreatDoor
open Go.Proofs.Tryz
open Go.Abs
def BS (s:ByteArray) (k:Nat):UInt8:=(s.data.toList[k]?).getD 0
theorem rP (s:ByteArray) (k:Nat):dU s k=((BS s k).toNat:Int):=rfl
def nK (b:UInt8):List UInt8:=if b=10 then[92,110] else if b=34∨b=92 then[92,b] else[b]
def dT (l:List UInt8):List UInt8:=34::(l.flatMap nK++[34])
theorem aFN (b:UInt8):(nK b).length≤2:=by
 unfold nK
 split
 ·exact aLV _
 split
 ·exact aLV _
 exact Nat.le_succ _
theorem SL (l:List UInt8):(l.flatMap nK).length≤2*l.length:=by
 induction l with
 | nil=>exact aL6 _
 | cons b l ih =>
  rw [List.flatMap_cons,aLQ,aLR];have:=aFN b;omega
theorem aBF {s:ByteArray} {k:Nat} (h:k < s.size):s.data.toList.take (k+1)=s.data.toList.take k++[BS s k]:=by
 have hk:k < s.data.toList.length:=by simpa using h
 rw [List.take_add_one,aLU hk,BS,aLU hk];rfl
theorem HU {b:UInt8} {n:Nat} (hn:n < 256):decide ((b.toNat:Int)=(n:Int))=decide (b=UInt8.ofNat n):=by
 rw [Bool.eq_iff_iff,aLW,aLW];constructor
 ·intro h;have:b.toNat=n:=by omega
  apply UInt8.toNat.inj;rw [this,UInt8.toNat_ofNat'];omega
 intro h;rw [h,UInt8.toNat_ofNat'];omega
theorem cC.bld0 {E E':bN} (hE:NzE E [(2002,⟨0,1,5,[]⟩),(2001,tM (.osl 2002 0 0 0) false)] 2002 E'):cC [] E WI E' (rY 0 [] false):=by refine(cC.nz (G0:=[]) (H:=WI) (H':=[(2001,tM (.osl 2002 0 0 0) false)]) 2002 1 5 rfl rfl hE ⟨⟨tM (.pv .nils) false,rfl,rfl,rfl,rfl,.inr ⟨_,_,rfl,rfl,⟨.same (by simp [TC]),⟨.own,trivial⟩⟩⟩⟩,trivial⟩ trivial).trans ?_;exact cC.get (fun _=>rfl) (fun j=>lZ (by decide) j)
def nE (s:ByteArray) (k:Nat):List UInt8:=34::(s.data.toList.take k).flatMap nK
theorem aB5 {s:ByteArray} {k:Nat} (hs:s.size < 17592186044416):(nE s k).length < 70368744170000:=by
 have:=SL (s.data.toList.take k);rw [aL3] at this;have h2:s.data.toList.length=s.size:=by simp
 rw [nE,aLR];omega
theorem ZK {s:ByteArray} {k:Nat} (h:k < s.size):nE s (k+1)=nE s k++nK (BS s k):=by rw [nE,nE,aBF h,List.flatMap_append];simp
theorem XK (s:ByteArray) (H:aA) (hs:s.size < 17592186044416):aG Tryz.prog 210 [sv s] H (fun r H'=>r=sv ⟨(dT s.data.toList).toArray⟩∧H'=H):=by
 refine Pu ?_;have hsl:s.data.toList.length=s.size:=by simp
 refine Bd func210 rfl ntmps210<|Sr<|Dd aP<|Zz<|Sr<|Dd (by exact bE (id:=2001) rfl D0 rfl rfl)<|Zz<|Sq ?_;refine fE.ent (E':=[(0,sv s),(3,.ref 2001 0 0 0)]) (H':=rY 0 [] false) (cC.bld0 ⟨⟨_,rfl,.same (by simp)⟩,⟨_,rfl,.same (by simp;rfl)⟩,trivial⟩) ?_;refine Rg<|Dd (by exact aB rfl rfl jE rfl (gH 0 [] false 34 (by decide)))<|Zz<|Sq<|Sr<|Dd aI<|Dd (nV underlying9)<|Dd aI<|Zz<|aF ?_;refine jB (fun(k g:Nat)=>([(0,sv s),(3,.ref 2001 0 0 0),(8,iv (s.size:Int)),(9,iv (k:Int))],rY g (nE s k) true)) (fun k g=>k≤s.size) (fun k g=>s.size - k) 0 1 (aL6 _) ?_ ?_
 ·exact(cC.wk (Eb<|Ea<|Eb<|Eb<|trivial) (Hc (eQ rfl rfl)<|Hc (dG _ _)<|trivial) trivial)
 intro k g hk;have hL:=aB5 (k:=k) hs;refine Sr<|Dd dI<|Zz<|Sq ?_;refine Cn ?_ ?_<;>intro hc1
 ·have hlt:k < s.size:=by have:=aLL hc1;omega
  have hnext:=ZK hlt;refine aE<|Sq<|aF<|Sr<|Dd aI<|Dd aP<|Zz<|Sr<|Dd aI<|Dd aI<|Dd (by exact eH rfl underlying9 rfl rfl (by omega) (by exact aL0 _) (by omega) rfl)<|Dd aP<|Zz<|Sr<|Dd aI<|Zz<|aF<|Sr<|Dd dC<|Da ?_;refine Cn ?_ ?_<;>intro hc2
  ·have hb:BS s k=10:=by
    have h:=hc2;rw [rP,show (10:Int)=((10:Nat):Int)by rfl,HU (by decide)] at h;exact aLL h
   have hE:rY (g+1) (nE s (k+1)) true=rY (g+1) (nE s k++(⟨#[92,110]⟩:ByteArray).data.toList) true:=by rw [hnext,hb];rfl
   refine Rg<|Dd (by exact aB rfl rfl kV rfl (gG g (nE s k) true ⟨#[92,110]⟩ (by show _+2 < _;omega)))<|Zz<|Rg<|Dd pL<|Dd aI<|Zz ?_;refine⟨k+1,g+1,by omega,by omega,?_⟩;show cC _ _ _ _ (rY (g+1) (nE s (k+1)) true);rw [hE];exact(cC.wk (Eb<|Ea<|Eb<|Eb<|trivial) (Hc (eQ rfl rfl)<|Hc (dG _ _)<|trivial) trivial)
  have hb10:¬ BS s k=10:=by
   have h:=hc2;rw [rP,show (10:Int)=((10:Nat):Int)by rfl,HU (by decide)] at h;exact aLM h
  refine Sq<|Sr<|Dd dC<|Da ?_;refine Cn ?_ ?_<;>intro hc3
  ·have hb:BS s k=34:=by
    have h:=hc3;rw [rP,show (34:Int)=((34:Nat):Int)by rfl,HU (by decide)] at h;exact aLL h
   have hE:rY (g+1+1) (nE s (k+1)) true=rY (g+1+1) (nE s k++[92]++[BS s k]) true:=by rw [hnext,hb];simp [nK]
   refine aE ?_;refine Cn ?_ ?_<;>intro hc4
   ·refine Sr<|Dd (by exact aB rfl rfl jE rfl (gH g (nE s k) true 92 (by omega)))<|Zz<|Rg<|Dd aI<|Dd (by exact aB rfl rfl jE rfl (gH (g+1) (nE s k++[92]) true (BS s k) (by rw [aLQ,List.length_singleton];omega)))<|Zz<|Rg<|Dd pL<|Dd aI<|Zz ?_;refine⟨k+1,g+1+1,by omega,by omega,?_⟩;show cC _ _ _ _ (rY (g+1+1) (nE s (k+1)) true);rw [hE];exact(cC.wk (Eb<|Ea<|Eb<|Eb<|trivial) (Hc (eQ rfl rfl)<|Hc (dG _ _)<|trivial) trivial)
   exact absurd (hc3.symm.trans hc4) (by decide)
  have hb34:¬ BS s k=34:=by
   have h:=hc3;rw [rP,show (34:Int)=((34:Nat):Int)by rfl,HU (by decide)] at h;exact aLM h
  refine Rg<|Dd dC<|Da ?_;refine Cn ?_ ?_<;>intro hc5
  ·have hb:BS s k=92:=by
    have h:=hc5;rw [rP,show (92:Int)=((92:Nat):Int)by rfl,HU (by decide)] at h;exact aLL h
   have hE:rY (g+1+1) (nE s (k+1)) true=rY (g+1+1) (nE s k++[92]++[BS s k]) true:=by rw [hnext,hb];simp [nK]
   refine Sr<|Dd (by exact aB rfl rfl jE rfl (gH g (nE s k) true 92 (by omega)))<|Zz<|Rg<|Dd aI<|Dd (by exact aB rfl rfl jE rfl (gH (g+1) (nE s k++[92]) true (BS s k) (by rw [aLQ,List.length_singleton];omega)))<|Zz<|Rg<|Dd pL<|Dd aI<|Zz ?_;refine⟨k+1,g+1+1,by omega,by omega,?_⟩;show cC _ _ _ _ (rY (g+1+1) (nE s (k+1)) true);rw [hE];exact(cC.wk (Eb<|Ea<|Eb<|Eb<|trivial) (Hc (eQ rfl rfl)<|Hc (dG _ _)<|trivial) trivial)
  have hb92:¬ BS s k=92:=by
   have h:=hc5;rw [rP,show (92:Int)=((92:Nat):Int)by rfl,HU (by decide)] at h;exact aLM h
  have hE:rY (g+1) (nE s (k+1)) true=rY (g+1) (nE s k++[BS s k]) true:=by rw [hnext,nK,aLN hb10,aLN (fun h=>h.elim hb34 hb92)]
  refine Rg<|Dd aI<|Dd (by exact aB rfl rfl jE rfl (gH g (nE s k) true (BS s k) (by omega)))<|Zz<|Rg<|Dd pL<|Dd aI<|Zz ?_;refine⟨k+1,g+1,by omega,by omega,?_⟩;show cC _ _ _ _ (rY (g+1) (nE s (k+1)) true);rw [hE];exact(cC.wk (Eb<|Ea<|Eb<|Eb<|trivial) (Hc (eQ rfl rfl)<|Hc (dG _ _)<|trivial) trivial)
 have hge:k=s.size:=by have:=aLM hc1;omega
 refine bG<|Sr<|Dd (by exact aB rfl rfl jE rfl (gH g (nE s k) true 34 (by omega)))<|Zz<|Sr<|Dd (by exact aB rfl rfl kU rfl (MH (g+1) (nE s k++[34]) true (by rw [aLQ,List.length_singleton];omega)))<|Dd aP<|Zz<|aC ?_;have hres:(⟨(nE s k++[34]).toArray⟩:ByteArray)=⟨(dT s.data.toList).toArray⟩:=by
  rw [nE,dT,hge,List.take_of_length_le (by omega)];rfl
 rw [← hres];exact Rt Qq
def cG (sep:List UInt8):List (List UInt8)→List UInt8
 | []=>[]
 | x::l=>x++l.flatMap (fun y=>sep++y)
def bs (l:List ByteArray):List (List UInt8):=l.map fun s=>s.data.toList
def cV (l:List ByteArray):Nat:=(l.map ByteArray.size).sum
theorem UH {l:List ByteArray} {k:Nat} {s:ByteArray} (h:l[k]?=some s):cV (l.take (k+1))=cV (l.take k)+s.size:=by rw [List.take_add_one,h,cV,cV,List.map_append,List.sum_append];simp
theorem IG (l:List ByteArray) (k:Nat):cV (l.take k)≤cV l:=by
 have h:cV l=cV (l.take k)+cV (l.drop k):=by
  rw [cV,cV,cV,← List.sum_append,← List.map_append,List.take_append_drop]
 omega
theorem R8 (sep:List UInt8):∀ l:List ByteArray,((bs l).flatMap (fun y=>sep++y)).length=sep.length*l.length+cV l
 | []=>by simp [bs,cV]
 | s::l=>by
  have ih:=R8 sep l;show (((s.data.toList)::bs l).flatMap (fun y=>sep++y)).length=_;rw [List.flatMap_cons,aLQ,ih,aLQ,aLR,Nat.mul_add,cV,cV,List.map_cons,List.sum_cons];have h2:s.data.toList.length=s.size:=by simp
  omega
def ET (sep x:ByteArray) (l:List ByteArray) (k:Nat):List UInt8:=x.data.toList++(bs (l.take k)).flatMap (fun y=>sep.data.toList++y)
theorem aAB {sep x s:ByteArray} {l:List ByteArray} {k:Nat} (h:l[k]?=some s):ET sep x l (k+1)=ET sep x l k++(sep.data.toList++s.data.toList):=by rw [ET,ET,List.take_add_one,h,bs,List.map_append,List.flatMap_append];simp [bs]
theorem aBS {l:List ByteArray} {s:ByteArray} (h:s∈l):s.size≤cV l:=by
 induction l with
 | nil=>cases h
 | cons a l ih =>
  rw [cV,List.map_cons,List.sum_cons];rcases aL1.1 h with rfl|h
  ·exact Nat.le_add_right _ _
  exact Nat.le_trans (ih h) (Nat.le_add_left _ _)
theorem R9 {sep x:ByteArray} {l:List ByteArray} {k:Nat} (hk:k≤l.length):(ET sep x l k).length≤x.size+sep.size*l.length+cV l:=by
 rw [ET,aLQ,R8,aL3,Nat.min_eq_left hk];have h1:=IG l k;have h2:sep.data.toList.length=sep.size:=by simp
 have h3:x.data.toList.length=x.size:=by simp
 have h4:sep.size*k≤sep.size*l.length:=Nat.mul_le_mul_left _ hk;rw [h2];omega
theorem qE (l:List ByteArray) (sep:ByteArray) (H:aA) (h0:0 < sep.size) (hl:sep.size*l.length+cV l+l.length < 17592186044416):aG Tryz.prog 168 [.pv (aU l),sv sep] H (fun r H'=>r=sv ⟨(cG sep.data.toList (bs l)).toArray⟩∧H'=H):=by
 refine Pu ?_;have hml:(l.map encStr).length=l.length:=aLP _;rcases l with _|⟨x,_|⟨y,l⟩⟩
 ·refine Bd aKh rfl aJe<|Sr<|Dd aP<|Zz<|Sq<|Sr<|Dd aI<|Dd (fW aD)<|Zz<|aF<|Sr<|Dd dC<|Da ?_;refine Cn ?_ ?_<;>intro hc1
  ·exact Sr<|Dd aP<|Zz<|aC<|Rt<|Qq
  cases hc1
 ·refine Bd aKh rfl aJe<|Sr<|Dd aP<|Zz<|Sq<|Sr<|Dd aI<|Dd (fW aD)<|Zz<|aF<|Sr<|Dd dC<|Da ?_;refine Cn ?_ ?_<;>intro hc1
  ·cases hc1
  refine Sr<|Dd dC<|Da ?_;refine Cn ?_ ?_<;>intro hc2
  ·refine Sr<|Dd aI<|Dd (by exact bM rfl cO rfl rfl (by omega) (by exact aL0 _) rfl rfl)<|Dd (pG isAgg9 (hi:=rfl))<|Dd aP<|Zz<|aC ?_;have hx:x=⟨(cG sep.data.toList (bs [x])).toArray⟩:=by simp [cG,bs]
   rw [← hx];exact Rt Qq
  cases hc2
 have hll:((x::y::l).map encStr).length=l.length+2:=by rw [hml];rfl
 have hn2:(x::y::l).length=l.length+2:=rfl;rw [hn2] at hl;have hmul:sep.size*(l.length+2)=sep.size*(l.length+1)+sep.size:=by rw [← Nat.mul_succ]
 obtain ⟨M,hMT⟩:∃ M,M=sep.size*(l.length+1):=⟨_,rfl⟩;rw [← hMT] at hmul;rw [hmul] at hl;have hdiv:sep.size+1≤9223372036854775807 / (l.length+1):=by
  rw [Nat.le_div_iff_mul_le (Nat.succ_pos _),Nat.add_mul,← hMT];omega
 have hdl:9223372036854775807 / (l.length+1)≤9223372036854775807:=Nat.div_le_self _ _;have hMp:0 < M:=by rw [hMT];exact Nat.mul_pos h0 (Nat.succ_pos _)
 have hsz:∀ k,cV ((x::y::l).take k)≤cV (x::y::l):=IG _;refine Bd aKh rfl aJe<|Sr<|Dd aP<|Zz<|Sq<|Sr<|Dd aI<|Dd (fW aD)<|Zz<|aF<|Sr<|Dd dC<|Da ?_;refine Cn ?_ ?_<;>intro hc1
 ·exact absurd (aLL hc1) (by rw [hll];omega)
 refine Sr<|Dd dC<|Da ?_;refine Cn ?_ ?_<;>intro hc2
 ·exact absurd (aLL hc2) (by rw [hll];omega)
 refine aE<|Sr<|Dd aP<|Zz<|Sq<|Sr<|Dd aI<|Dd (nV underlying9)<|Dd mU<|Zz ?_;refine Cn ?_ ?_<;>intro hc3
 ·refine Sq<|Sr<|Dd aI<|Dd (nV underlying9)<|Dd aI<|Dd (fW aD)<|Dd (by exact eB rfl rfl rfl (show IntKind.i64.wrap ((((x::y::l).map encStr).length:Int) - 1)=((l.length+1:Nat):Int)by rw [IntKind.wrap_i64,hll];omega))<|Dd (by exact O9 (r:=((9223372036854775807 / (l.length+1):Nat):Int)) rfl rfl rfl (by omega) (by rw [show (9223372036854775807:Int)=((9223372036854775807:Nat):Int)by rfl,← Int.ofNat_tdiv,IntKind.wrap_i64];omega))<|Dd JS<|Zz ?_;refine Cn ?_ ?_<;>intro hc4
  ·exact absurd (aLL hc4) (by omega)
  refine aE<|Rg<|Dd aI<|Dd aI<|Dd (nV underlying9)<|Dd aI<|Dd (fW aD)<|Dd (by exact eB rfl rfl rfl (show IntKind.i64.wrap ((((x::y::l).map encStr).length:Int) - 1)=((l.length+1:Nat):Int)by rw [IntKind.wrap_i64,hll];omega))<|Dd (by exact qB rfl rfl rfl (show IntKind.i64.wrap ((sep.size:Int)*((l.length+1:Nat):Int))=(M:Int)by rw [← Int.natCast_mul,← hMT,IntKind.wrap_i64];omega))<|Dd (by exact cA rfl rfl rfl (show IntKind.i64.wrap (0+(M:Int))=(M:Int)by rw [IntKind.wrap_i64];omega))<|Dd aP<|Zz<|Sq<|Sr<|Dd aI<|Dd (fW aD)<|Dd aI<|Zz<|aF ?_;refine bR (σ:=Nat) (fun k=>([(0,.pv (aU (x::y::l))),(1,sv sep),(5,iv ((M+cV ((x::y::l).take k):Nat):Int)),(39,.pv (aU (x::y::l))),(40,iv (((x::y::l).map encStr).length:Int)),(41,iv (k:Int))],[])) (fun k=>k≤l.length+2) (fun k=>l.length+2 - k) 0 (aL6 _) ?_ ?_
  ·exact Wk
  intro k hk;refine Sr<|Dd dI<|Zz<|Sq ?_;refine Cn ?_ ?_<;>intro hc5
  ·have hlt:k < l.length+2:=by have:=aLL hc5;omega
   obtain ⟨s,hs⟩:=bD (show k < (x::y::l).length by omega);have hi:=cI (f:=encStr) hs;have hst:=UH hs;have h1:=hsz (k+1);refine aE<|Sq<|aF<|Sr<|Dd (by exact bM rfl cO rfl rfl (by omega) (by exact aL0 _) hi rfl)<|Dd (pG isAgg9 (hi:=hi))<|Dd aP<|Zz<|Sq<|Sr<|Dd aI<|Dd (nV underlying9)<|Dd aI<|Dd (by exact eB rfl rfl rfl (show IntKind.i64.wrap (9223372036854775807 - ((M+cV ((x::y::l).take k):Nat):Int))=9223372036854775807 - ((M+cV ((x::y::l).take k):Nat):Int)by rw [IntKind.wrap_i64];omega))<|Dd mU<|Zz ?_;refine Cn ?_ ?_<;>intro hc6
   ·exact absurd (aLL hc6) (by omega)
   refine aE<|Rg<|Dd aI<|Dd aI<|Dd (nV underlying9)<|Dd (by exact cA rfl rfl rfl (show IntKind.i64.wrap (((M+cV ((x::y::l).take k):Nat):Int)+(s.size:Int))=((M+cV ((x::y::l).take (k+1)):Nat):Int)by rw [IntKind.wrap_i64,hst];omega))<|Dd aP<|Zz<|Rg<|Dd pL<|Dd aI<|Zz ?_;exact⟨k+1,by omega,by omega,Wk⟩
  have hge:k=l.length+2:=by have:=aLM hc5;omega
  have hall:cV ((x::y::l).take k)=cV (x::y::l):=by rw [hge,← hn2,List.take_length]
  have h2:=hsz k;refine bG<|Sr<|Dd (by exact bE (id:=2001) rfl D0 rfl rfl)<|Zz<|Sr<|Dd aI<|Dd (by exact aB rfl rfl call205 rfl (aFF (M+cV ((x::y::l).take k)) (by omega) (by omega)))<|Zz<|Sr<|Dd aI<|Dd (by exact bM rfl cO rfl rfl (by omega) (by exact aL0 _) rfl rfl)<|Dd (pG isAgg9 (hi:=rfl))<|Dd (by exact aB rfl rfl kV rfl (gG 1 [] true x (by show 0+_ < _;have:=IG (x::y::l) 1;simp [cV] at this hl;omega)))<|Zz<|Sq<|Sr<|Dd aI<|Dd (by exact vA (l:=1) (h:=((x::y::l).map encStr).length) (rows':=(y::l).map encStr) rfl cO rfl (sz:=1) (by intro r hr;obtain ⟨q,_,rfl⟩:=List.mem_map.1 hr;rfl) rfl rfl (by rw [hll];omega) (aLV _) (by rw [List.take_length];rfl))<|Dd (fW aD)<|Dd aI<|Zz<|aF ?_;have hyl:((y::l).map encStr).length=l.length+1:=by rw [aLP];rfl
  refine jB (fun(q g:Nat)=>([(1,sv sep),(8,.ref 2001 0 0 0),(63,.pv (aU (y::l))),(64,iv (((y::l).map encStr).length:Int)),(65,iv (q:Int))],rY g (ET sep x (y::l) q) true)) (fun q g=>q≤l.length+1) (fun q g=>l.length+1 - q) 0 2 (aL6 _) ?_ ?_
  ·show cC _ _ _ _ (rY (1+1) ([]++x.data.toList++[]) true);rw [List.append_nil];exact(cC.wk (Eb<|Ea<|Eb<|Eb<|Eb<|trivial) (Hc (eQ rfl rfl)<|Hc (dG _ _)<|trivial) trivial)
  intro q g hq;refine Sr<|Dd dI<|Zz<|Sq ?_;refine Cn ?_ ?_<;>intro hc7
  ·have hlt:q < l.length+1:=by have:=aLL hc7;omega
   obtain ⟨s,hs⟩:=bD (show q < (y::l).length by rw [aLR];exact hlt);have hi:=cI (f:=encStr) hs;have hpl:=R9 (sep:=sep) (x:=x) (l:=y::l) (k:=q) (Nat.le_of_lt hlt);have hnx:=aAB (sep:=sep) (x:=x) hs;have hss:=aBS (aLZ hs);have hxs:x.size+cV (y::l)=cV (x::y::l):=by simp [cV]
   have hll2:(y::l).length=l.length+1:=rfl;rw [hll2,← hMT] at hpl;refine aE<|Sq<|aF<|Sr<|Dd (by exact bM rfl cO rfl rfl (by omega) (by exact aL0 _) hi rfl)<|Dd (pG isAgg9 (hi:=hi))<|Dd aP<|Zz<|Sr<|Dd aI<|Dd (by exact aB rfl rfl kV rfl (gG g (ET sep x (y::l) q) true sep (by omega)))<|Zz<|Rg<|Dd aI<|Dd (by exact aB rfl rfl kV rfl (gG (g+1) (ET sep x (y::l) q++sep.data.toList) true s (by rw [aLQ];show _+sep.size+_ < _;omega)))<|Zz<|Rg<|Dd pL<|Dd aI<|Zz ?_;refine⟨q+1,g+1+1,by omega,by omega,?_⟩;show cC _ _ _ _ (rY (g+1+1) (ET sep x (y::l) (q+1)) true);rw [hnx,← List.append_assoc];exact(cC.wk (Eb<|Ea<|Eb<|Eb<|Eb<|trivial) (Hc (eQ rfl rfl)<|Hc (dG _ _)<|trivial) trivial)
  have hge2:q=l.length+1:=by have:=aLM hc7;omega
  have hpl:=R9 (sep:=sep) (x:=x) (l:=y::l) hq;have hll2:(y::l).length=l.length+1:=rfl;have hxs:x.size+cV (y::l)=cV (x::y::l):=by simp [cV]
  rw [hll2,← hMT] at hpl;refine bG<|Sr<|Dd (by exact aB rfl rfl kU rfl (MH g (ET sep x (y::l) q) true (by omega)))<|Dd aP<|Zz<|aC ?_;have hres:(⟨(ET sep x (y::l) q).toArray⟩:ByteArray)=⟨(cG sep.data.toList (bs (x::y::l))).toArray⟩:=by
   rw [ET,hge2,← hll2,List.take_length];rfl
  rw [← hres];exact Rt Qq
 exact absurd (aLM hc3) (by omega)
def asc {α:Type} (f:α→ByteArray) (l:List α):Prop:=l.Pairwise (fun a b=>B4 (f a) (f b)=true)
theorem aFe {α:Type} {f:α→ByteArray} {l:List α} (h:asc f l) {i j:Nat} {a b:α} (hij:i < j) (ha:l[i]?=some a) (hb:l[j]?=some b):B4 (f a) (f b)=true:=by
 obtain ⟨i1,i2⟩:=aLT.1 ha;obtain ⟨j1,j2⟩:=aLT.1 hb;have:=List.pairwise_iff_getElem.1 h i j i1 j1 hij
 rwa [i2,j2] at this
abbrev pvR (ps:List (List PV)):List (List AV):=ps.map (·.map .pv)
theorem aE4 (ps:List (List PV)):(pvR ps).length=ps.length:=aLP _
theorem J6 {last:ByteArray} {t:GTag}:FC last t=false↔bI t.key=true∧B4 last t.key=true∧t.val≠sNil∧t.val.size≤200:=by
 simp only [FC,aLb,Bool.not_eq_false',aEB,aLX];constructor
 ·rintro⟨⟨⟨h1,h2⟩,h3⟩,h4⟩;exact⟨h1,h2,h3,by omega⟩
 rintro⟨h1,h2,h3,h4⟩;exact⟨⟨⟨h1,h2⟩,h3⟩,by omega⟩
theorem aDz {s:ByteArray} (h:s≠sNil):B4 sNil s=true:=by
 cases e:B4 sNil s with
 | true=>rfl
 | false=>exact absurd (XB (aEA s) e) h
theorem AA {l:List GTag}:wX l=true↔(∀ t,t∈l→bI t.key=true∧t.val≠sNil∧t.val.size≤200)∧asc GTag.key l∧l.length≤60:=by
 have hlen:decide ((l.length:Int)≤60)=decide (l.length≤60):=by
  rw [Bool.eq_iff_iff,aLW,aLW];omega
 rw [wX,hlen,aLY,aL8,List.any_eq_false,aLW];constructor
 ·rintro⟨h,hn⟩;have hb:∀ k t,l[k]?=some t→bI t.key=true∧B4 (fB GTag.key l k) t.key=true∧t.val≠sNil∧t.val.size≤200:=fun k t hk=>by
   have h1:=h k (List.mem_range.2 (aLT.1 hk).1);rw [NZ,hk] at h1;simp only [Bool.not_eq_true] at h1;exact J6.1 h1
  refine⟨fun t ht=>?_,?_,hn⟩
  ·obtain ⟨k,hk⟩:=aLa.1 ht;obtain ⟨a,_,b,c⟩:=hb k t hk;exact⟨a,b,c⟩
  have key:∀ (d i:Nat) (a b:GTag),l[i]?=some a→l[i+d+1]?=some b→B4 a.key b.key=true:=by
   intro d
   induction d with
   | zero =>
    intro i a b ha hb';have:=(hb (i+1) b hb').2.1;rw [fB,ha] at this;exact this
   | succ d ih =>
    intro i a b ha hb';have hlt:i+d+1 < l.length:=by have:=(aLT.1 hb').1;omega
    obtain ⟨x,hx⟩:=bD hlt;have h2:=(hb (i+(d+1)+1) b hb').2.1;rw [fB,show i+(d+1)=i+d+1 by omega,hx] at h2;exact MJ (ih i a x ha hx) h2
  rw [asc,List.pairwise_iff_getElem];intro i j hi hj hij;exact key (j - i - 1) i _ _ (aLU hi) (by rw [show i+(j - i - 1)+1=j by omega];exact aLU hj)
 rintro⟨h1,h2,h3⟩;refine⟨fun k hk=>?_,h3⟩;have hlt:=List.mem_range.1 hk;rw [NZ,aLU hlt];simp only [Bool.not_eq_true];obtain ⟨a,b,c⟩:=h1 _ (List.getElem_mem hlt);refine J6.2 ⟨a,?_,b,c⟩;cases k with
 | zero =>
  have:l[0].key≠sNil:=aC7 a;exact aDz this
 | succ k =>
  rw [fB,aLU (show k < l.length by omega)];exact aFe h2 (Nat.lt_succ_self k) (aLU (by omega)) (aLU hlt)
theorem Fin.slice0 {H1:aA} {id g n:Nat} {ob:Ob} (ps:List (List PV)) (hH:H1.get id=some ob) (hg:ob.g=g) (hps:ob.rows=ps.map (·.map .pv)) (hn:ps.length=n) :
  Fin [] H1 (.osl id g 0 n) [] (.pv (.sl ps)):=by
 subst hg hn;exact Fin.fz (id:=id) (ob:=ob) ps hH hps (.osl (by rw [aL7,List.drop_zero,List.take_length])) rfl trivial trivial
theorem OU (l:List ByteArray):∀ r∈l.map encStr,r.length=1:=fun r hr=>by
 obtain ⟨t,_,rfl⟩:=List.mem_map.1 hr;rfl
theorem JR (n:Nat) (H:aA) (h4:H.get 904=none) (h5:H.get 905=none) (hc:cY H) (hn:n < 1099511627776) :
  aG Tryz.prog 249 [.pv .nils,iv (n:Int)] H (fun r H'=>r=.osl 905 1 0 0∧H'=(905,⟨1,1,9,[]⟩)::H):=by
 refine Bd func249 rfl ntmps249 ?_;by_cases h0:n=0
 ·subst h0;refine TD (t:=0) (id:=905) (sz:=1) (ty:=9) rfl h5 rfl ?_;refine Sr<|Dd aP<|Zz<|Sq<|Sr<|Dd aI<|Dd dI<|Zz ?_;refine Cn ?_ ?_<;>intro hc1
  ·have h:=aLL hc1;omega
  refine aE<|Sq<|Sr<|Dd aI<|Dd aI<|Dd (by exact yI rfl aD rfl rfl rfl)<|Dd aI<|Dd (by exact yH rfl aD rfl rfl rfl)<|Dd (by exact eB rfl rfl rfl (by exact pO (by omega) (by omega)))<|Dd (by exact eB rfl rfl rfl (by exact pO (by omega) (by omega)))<|Dd aP<|Zz<|Sr<|Dd aI<|Dd mU<|Zz ?_;refine Cn ?_ ?_<;>intro hc2
  ·have h:=aLL hc2;omega
  refine aE<|Sq ?_;refine aA1 (t:=0) rfl rfl rfl (by decide) ?_;refine Rg<|Dd aI<|Dd aP<|Zz<|aC ?_;refine dF (H':=((905,⟨1,1,9,[]⟩)::H)) (.inr rfl) rfl (aT rfl) ((Fin.bump (g:=0) (k:=1) rfl rfl (by decide) rfl rfl rfl).trans (Fin.get' (fun j=>sQ _ _ _ _ j))) ?_;exact Qq
 refine TD (t:=0) (id:=904) (sz:=1) (ty:=9) rfl h4 rfl ?_;have h5':aA.get ((904,(⟨0,1,9,[]⟩:Ob))::H) 905=none:=h5;refine Sr<|Dd aP<|Zz<|Sq<|Sr<|Dd aI<|Dd dI<|Zz ?_;refine Cn ?_ ?_<;>intro hc3
 ·have h:=aLL hc3;omega
 refine aE<|Sq<|Sr<|Dd aI<|Dd aI<|Dd (by exact yI rfl aD rfl rfl rfl)<|Dd aI<|Dd (by exact yH rfl aD rfl rfl rfl)<|Dd (by exact eB rfl rfl rfl (by exact pO (by omega) (by omega)))<|Dd (by exact eB rfl rfl rfl (by exact pO (by omega) (by omega)))<|Dd aP<|Zz<|Sr<|Dd aI<|Dd mU<|Zz ?_;refine Cn ?_ ?_<;>intro hc4
 ·refine Rg<|Dd aI<|Dd aI<|Dd (by exact yI rfl aD rfl rfl rfl)<|Dd (by exact QU (l:=0) (h:=0) rfl cO rfl rfl rfl rfl rfl rfl (aLV _) (aLV _) rfl rfl rfl)<|Dd aI<|Dd (by exact HM (id2:=905) (m:=n) rfl cO underlying3 TN zo9 rfl rfl rfl rfl rfl (aLV _) rfl (by omega) (by omega) (by omega) (aL7 _) (by omega) h5' rfl)<|Dd aI<|Dd (by exact yH rfl aD rfl rfl rfl)<|Dd (by exact gF (l:=0) (h:=0) rfl cO rfl rfl rfl rfl rfl rfl (aLV _) (by omega) rfl rfl)<|Dd aP<|Zz<|Sr<|Dd aI<|Dd aP<|Zz<|aC ?_;refine dF (H':=((905,⟨1,1,9,[]⟩)::H)) (.inr rfl) rfl (aT rfl) ((Fin.trunc (g:=0) (k:=1) (sz:=1) (ty:=9) (rows:=[]) rfl rfl (by decide) rfl rfl (List.take_zero)).trans (Fin.front' [_,_,_] [(905,⟨1,1,9,[]⟩)] (by simp;rfl) (by simp [h4,h5]) (by simp [aA.get]) (by simp) hc (by simp [h4,h5]))) ?_;exact Qq
 have h:=aLM hc4;omega
theorem E6 (ls:List (List ByteArray)) (H:aA) (hls:ls.length < 1099511627776) (hb:ls.flatten.length < 1099511627776) :
  aG Tryz.prog 211 [.pv (.sl (ls.map (fun l=>[.sl (l.map encStr)])))] H (fun r H'=>r=.pv (.sl (ls.flatten.map encStr))∧H'=H):=by
 refine Pu ?_;have hml:(ls.map (fun l=>[PV.sl (l.map encStr)])).length=ls.length:=aLP _;have hpre:∀ k,((ls.take k).flatten).length≤ls.flatten.length:=fun k=>by
  conv=>rhs;rw [← List.take_append_drop k ls,List.flatten_append,aLQ]
  omega
 have hst:∀ k l,ls[k]?=some l→(ls.take (k+1)).flatten=(ls.take k).flatten++l:=fun k l h=>by
  rw [List.take_add_one,h,List.flatten_append];simp
 refine Bd func211 rfl ntmps211<|Sr<|Dd aP<|Zz<|Sr<|Dd aP<|Zz<|Sq<|Sr<|Dd aI<|Dd (fW BZ)<|Dd aI<|Zz<|aF ?_;refine bR (σ:=Nat) (fun k=>([(0,.pv (.sl (ls.map (fun l=>[.sl (l.map encStr)])))),(3,iv (((ls.take k).flatten).length:Int)),(9,.pv (.sl (ls.map (fun l=>[.sl (l.map encStr)])))),(10,iv ((ls.map (fun l=>[PV.sl (l.map encStr)])).length:Int)),(11,iv (k:Int))],[])) (fun k=>k≤ls.length) (fun k=>ls.length - k) 0 (by omega) ?_ ?_
 ·exact E0
 intro k hk;refine Sr<|Dd dI<|Zz<|Sq ?_;refine Cn ?_ ?_<;>intro hc1
 ·have hlt:k < ls.length:=by have:=aLL hc1;omega
  obtain ⟨l,hl⟩:=bD hlt;have hi:=cI (f:=fun l=>[PV.sl (l.map encStr)]) hl;have hml2:(l.map encStr).length=l.length:=aLP _;have h1:=hst k l hl;have h2:=hpre (k+1);have h3:((ls.take (k+1)).flatten).length=((ls.take k).flatten).length+l.length:=by rw [h1,aLQ]
  have hw:IntKind.i64.wrap ((((ls.take k).flatten).length:Int)+((l.map encStr).length:Int))=(((ls.take (k+1)).flatten).length:Int):=by rw [IntKind.wrap_i64,hml2,h3];omega
  refine aE<|Sq<|aF<|Sr<|Dd (xT FP)<|Dd (pG aJ)<|Dd aP<|Zz<|Sr<|Dd aI<|Dd aI<|Dd (fW aD)<|Dd (by exact cA rfl rfl rfl hw)<|Dd aP<|Zz<|Sr<|Dd aI<|Dd dI<|Zz ?_;refine Cn ?_ ?_<;>intro hc2
  ·have h:=aLL hc2;omega
  refine aE<|Rg<|Dd pL<|Dd aI<|Zz ?_;exact⟨k+1,by omega,by omega,E0⟩
 have hge:k=ls.length:=by have:=aLM hc1;omega
 subst hge;rw [List.take_length];refine bG<|Sr<|Dd aI<|Dd (by exact O6 rfl rfl call249 rfl (JR ls.flatten.length [] rfl rfl (cY.of (by simp)) hb))<|Dd aP<|Zz<|Sq<|Sr<|Dd aI<|Dd (fW BZ)<|Dd aI<|Zz<|aF ?_;refine jB (fun(k:Nat) (g:Nat)=>([(6,.osl 905 g 0 ((ls.take k).flatten.map encStr).length),(25,.pv (.sl (ls.map (fun l=>[.sl (l.map encStr)])))),(26,iv ((ls.map (fun l=>[PV.sl (l.map encStr)])).length:Int)),(27,iv (k:Int))],[(905,⟨g,1,9,pvR ((ls.take k).flatten.map encStr)⟩)])) (fun k g=>k≤ls.length) (fun k g=>ls.length - k) 0 1 (by omega) ?_ ?_
 ·exact E0
 intro k g hk;refine Sr<|Dd dI<|Zz<|Sq ?_;refine Cn ?_ ?_<;>intro hc3
 ·have hlt:k < ls.length:=by have:=aLL hc3;omega
  obtain ⟨l,hl⟩:=bD hlt;have hi:=cI (f:=fun l=>[PV.sl (l.map encStr)]) hl;have hml2:(l.map encStr).length=l.length:=aLP _;have hml3:((ls.take k).flatten.map encStr).length=((ls.take k).flatten).length:=aLP _;have h1:=hst k l hl;have h2:=hpre (k+1);have h3:((ls.take (k+1)).flatten).length=((ls.take k).flatten).length+l.length:=by rw [h1,aLQ]
  refine aE<|Sq<|aF<|Sr<|Dd (xT FP)<|Dd (pG aJ)<|Dd aP<|Zz<|Rg<|Dd aI<|Dd aI<|Dd (by exact eK rfl cO TN rfl rfl rfl rfl rfl (aE4 _) rfl (OU l) rfl (by omega) (by rw [h1,List.map_append,aLQ]:((ls.take k).flatten.map encStr).length+(l.map encStr).length=((ls.take (k+1)).flatten.map encStr).length) (by rw [h1,List.map_append,pvR,pvR,List.map_append]:pvR ((ls.take k).flatten.map encStr)++(l.map encStr).map (·.map .pv)=pvR ((ls.take (k+1)).flatten.map encStr)))<|Dd aP<|Zz<|Rg<|Dd pL<|Dd aI<|Zz ?_;exact⟨k+1,g+1,by omega,by omega,cC.dup ⟨⟨_,rfl,rfl⟩,⟨_,rfl,rfl⟩,⟨_,rfl,rfl⟩,⟨_,rfl,rfl⟩,trivial⟩⟩
 have hge:k=ls.length:=by have:=aLM hc3;omega
 subst hge;rw [List.take_length];refine bG<|Sr<|Dd aI<|Dd aP<|Zz<|aC ?_;refine dF (H':=[]) (.inr rfl) rfl (aT rfl) (Fin.slice0 (id:=905) (ls.flatten.map encStr) rfl rfl rfl rfl) ?_;exact Qq
theorem JT {o:GObj} (h:mH o=true):o.refs.length≤2000∧o.tags.length≤60∧wX o.tags=true∧bI o.id=true∧(o.kind=2→2≤o.refs.length):=by rw [mH,aLY,aL8,NH,tE] at h;have h1:=h.1;simp only [aLb,Bool.not_eq_false',aLX] at h1;obtain ⟨⟨⟨⟨a1,a2⟩,a3⟩,a4⟩,a5⟩:=h1;refine⟨by omega,(AA.1 a3).2.2,a3,a2,fun hk=>?_⟩;rw [hk,show BI 2=2 from rfl] at a4;omega
theorem wE {e:GEdit}:fJ e=true↔(1≤e.op∧e.op≤7)∧uE e=true∧GG e=e:=by rw [fJ,aLY,aLY,aLY,aLW,aLW,VS]
theorem JV {e:GEdit} (h:fJ e=true):e.val.size≤200:=by
 obtain ⟨_,h2,h3⟩:=wE.1 h;have hv:(GG e).val=e.val:=by rw [h3]
 by_cases e3:e.op=3
 ·rw [uE,aLN (by omega),aLN (by omega),aLO e3,aLY,aLY,aLW] at h2;omega
 have:e.val=sNil:=by
  rw [← hv,GG]
  repeat' split
  all_goals rfl
 rw [this];decide
theorem aAH {o:GObj} (h:mH o=true):1≤o.kind∧o.kind≤5:=by
 rw [mH,aLY,aL8,NH,tE] at h;have h1:=h.1;simp only [aLb,aLX] at h1;have hw:=h1.1.1.1.1;unfold fQ at hw;by_cases a:o.kind=1
 ·omega
 by_cases b:o.kind=2
 ·omega
 by_cases c:o.kind=3
 ·omega
 by_cases d:o.kind=4
 ·omega
 by_cases f:o.kind=5
 ·omega
 rw [aLN a,aLN b,aLN c,aLN d,aLN f] at hw;exact absurd rfl hw
def lP (s:ByteArray):ByteArray:=bK (s.size:Int)++⟨#[58]⟩++s
def aO (l:List ByteArray):List UInt8:=l.flatMap fun s=>(lP s).data.toList
def xK (l:List ByteArray):ByteArray:=pU ⟨(aO l).toArray⟩
theorem mG {n:Int} (h0 : -9223372036854775808≤n) (h1:n≤9223372036854775807):(bK n).size≤21:=by
 have:=Lib.itoa_length_le n h0 h1;show (Lib.itoa n).toArray.size≤21
 simpa using this
theorem mQ (s:ByteArray):(lP s).size=(bK (s.size:Int)).size+1+s.size:=by rw [lP,ByteArray.size_append,ByteArray.size_append];rfl
theorem qF (l:List ByteArray) (s:ByteArray):aO (l++[s])=aO l++(lP s).data.toList:=by rw [aO,aO,List.flatMap_append,List.flatMap_cons,List.flatMap_nil,List.append_nil]
theorem wB:∀ (l:List ByteArray) (k:Nat),(aO (l.take k)).length≤(aO l).length:=fun l k=>by
 have h:aO l=aO (l.take k)++aO (l.drop k):=by rw [aO,aO,aO,← List.flatMap_append,List.take_append_drop]
 rw [h,aLQ];omega
theorem zN {α:Type} {l:List α} {k:Nat} {a:α} (h:l[k]?=some a):l.take (k+1)=l.take k++[a]:=by rw [List.take_add_one,h,Option.toList_some]
theorem kY (s:ByteArray):s.data.toList.length=s.size:=by simp
theorem yO:∀ l:List ByteArray,l.length≤(aO l).length
 | []=>aLV _
 | s::r=>by
  have ih:=yO r;have h:aO (s::r)=(lP s).data.toList++aO r:=by rw [aO,List.flatMap_cons];rfl
  rw [h,aLQ,aLR,kY,mQ];omega
theorem aCL (l:List ByteArray) (H:aA) (hl:(aO l).length < 35184372088832):aG Tryz.prog 133 [.pv (aU l)] H (fun r H'=>r=sv (xK l)∧H'=H):=by
 refine Pu ?_;have hml:(l.map encStr).length=l.length:=aLP _;have hll:=yO l;refine Bd func133 rfl ntmps133<|Sr<|Dd aP<|Zz<|Sr<|Dd (by exact bE (id:=2001) rfl D0 rfl rfl)<|Zz<|Sq<|Sq ?_;refine fE.ent (E':=[(0,.pv (aU l)),(3,.ref 2001 0 0 0)]) (H':=rY 0 [] false) (cC.bld0 ⟨⟨_,rfl,.same (by simp)⟩,⟨_,rfl,.same (by simp;rfl)⟩,trivial⟩) ?_;refine Rg<|Dd aI<|Dd (fW aD)<|Dd aI<|Zz<|aF ?_;refine N1 (fun(k g:Nat) (u:Bool)=>([(3,.ref 2001 0 0 0),(6,.pv (aU l)),(7,iv ((l.map encStr).length:Int)),(8,iv (k:Int))],rY g (aO (l.take k)) u)) (fun k g u=>k≤l.length) (fun k g u=>l.length - k) 0 0 false (aL6 _) ?_ ?_
 ·exact(cC.wk (Ea<|Eb<|Eb<|Eb<|trivial) (Hc (eQ rfl rfl)<|Hc (dG _ _)<|trivial) trivial)
 intro k g u hk;have hle:=wB l k;refine Sr<|Dd dI<|Zz<|Sq ?_;refine Cn ?_ ?_<;>intro hc1
 ·have hlt:k < l.length:=by have:=aLL hc1;omega
  obtain ⟨s,hs⟩:=bD hlt;have hi:=cI (f:=encStr) hs;have hle2:=wB l (k+1);rw [zN hs,qF,aLQ,kY,mQ] at hle2;have hsz:s.size < 35184372088832:=by omega
  refine aE<|Sq<|aF<|Sr<|Dd (xT cO)<|Dd (pG isAgg9)<|Dd aP<|Zz<|Rg<|Dd aI<|Dd (nV underlying9)<|Dd (by exact aB rfl rfl mM rfl (qG (s.size:Int) (by omega) (by omega) _))<|Dd (by exact gP rfl rfl rfl (by have:(⟨#[58]⟩:ByteArray).size=1:=rfl;omega) rfl)<|Dd aI<|Dd (by exact gP rfl rfl rfl (by rw [ByteArray.size_append];have:(⟨#[58]⟩:ByteArray).size=1:=rfl;omega) rfl)<|Dd (by exact aB rfl rfl kV rfl (gG g (aO (l.take k)) u (lP s) (by rw [mQ];omega)))<|Zz<|Rg<|Dd pL<|Dd aI<|Zz ?_;refine⟨k+1,g+1,true,by omega,by omega,?_⟩;rw [zN hs,qF];exact(cC.wk (Ea<|Eb<|Eb<|Eb<|trivial) (Hc (eQ rfl rfl)<|Hc (dG _ _)<|trivial) trivial)
 have hge:k=l.length:=by have:=aLM hc1;omega
 subst hge;rw [List.take_length];exact bG<|Sr<|Dd (by exact aB rfl rfl kU rfl (MH g (aO l) u (by omega)))<|Dd (by exact aB rfl rfl QL rfl (Q2 ⟨(aO l).toArray⟩ _ (by show (aO l).toArray.size < _;rw [List.size_toArray];omega)))<|Dd aP<|Zz<|aC<|Rt<|Qq
theorem iL (s:ByteArray):(pU s).size=16:=by show (LM _).toArray.size=16;simp [LM]
def xR:ByteArray→Nat→ByteArray
 | t,0=>t
 | t,n+1=>xR (pU t) n
theorem P4:∀ (a b:Nat) (t:ByteArray),xR (xR t a) b=xR t (a+b)
 | 0,b,t=>by rw [aL7];rfl
 | a+1,b,t=>by
  rw [show a+1+b=(a+b)+1 by omega];exact P4 a b (pU t)
theorem DH (t:ByteArray) (n:Nat):xR t (n+1)=pU (xR t n):=by rw [← P4 n 1 t];rfl
theorem S7 {t:ByteArray} (h:t.size=16):∀ n,(xR t n).size=16
 | 0=>h
 | n+1=>by rw [DH,iL]
def Y6 (m:ByteArray):Nat:=SZ (aAR m.size) m.data.toList
def dJ (m:ByteArray):List Nat:=(List.range 16).map (M4 (Y6 m))
def yA (m:ByteArray):Nat:=((dJ m).map (15 - ·)).sum
def DS (m:ByteArray):List Nat:=dJ m++[yA m / 16,yA m % 16]
theorem zA (m:ByteArray):(dJ m).length=16:=by simp [dJ]
theorem HH (m:ByteArray):(DS m).length=18:=by simp [DS,dJ]
theorem H9:∀ l:List Nat,(l.map (15 - ·)).sum≤15*l.length
 | []=>aLV _
 | a::r=>by
  have:=H9 r;simp only [List.map_cons,List.sum_cons,aLR];omega
theorem RH (m:ByteArray):yA m≤240:=by have:=H9 (dJ m);rw [zA] at this;exact this
theorem WA (m:ByteArray):∀ d∈DS m,d < 16:=by
 intro d hd;rcases List.mem_append.1 hd with h|h
 ·obtain ⟨j,_,rfl⟩:=List.mem_map.1 h;exact yL _ _
 have:=RH m;simp only [aL1,aL5,or_false] at h;rcases h with rfl|rfl<;>omega
def FW:ByteArray:=⟨#[110,111,100,101]⟩
def jP (s:ByteArray) (i k:Nat):ByteArray:=xK [s,bK (i:Int),bK (k:Int)]
def F8 (s:ByteArray) (i:Nat):List ByteArray:=(List.range 18).map fun k=>xR (jP s i k) 15
def PO (s:ByteArray) (i:Nat):ByteArray:=xK (F8 s i)
def kM (s:ByteArray) (h:Nat):List ByteArray:=(List.range (2 ^ h)).map (PO s)
def CX (a b:ByteArray):ByteArray:=xK [FW,a,b]
def OE:List ByteArray→List ByteArray
 | a::b::r=>CX a b::OE r
 | _=>[]
def MN:Nat→List ByteArray→ByteArray
 | 0,l=>l.headD sNil
 | h+1,l=>MN h (OE l)
def lA:Nat→List ByteArray→Nat→List ByteArray
 | 0,_,_=>[]
 | h+1,l,i=>l.getD (i ^^^ 1) sNil::lA h (OE l) (i / 2)
def rA (s:ByteArray) (h:Nat):ByteArray:=MN h (kM s h)
def CB (s:ByteArray) (i:Nat) (m:ByteArray):List ByteArray:=(List.range 18).map fun k=>xR (jP s i k) ((DS m).getD k 0)
def wY:ByteArray→List ByteArray→Nat→ByteArray
 | at',[],_=>at'
 | at',o::r,i=>wY (if i % 2=1 then CX o at' else CX at' o) r (i / 2)
def wZ (m:ByteArray) (l:List ByteArray):List ByteArray:=List.zipWith (fun s d=>xR s (15 - d)) l (DS m)
def SC (b:UInt8):Bool:=(48≤b&&b≤57)||(97≤b&&b≤102)
def isJ (t:ByteArray):Bool:=decide (t.size=16)&&t.data.toList.all SC
def vB (key m:ByteArray) (i:Int) (l p:List ByteArray):Bool :=decide (l.length=18∧p.length≤8)&&l.all isJ&&p.all isJ&&decide (0≤i∧i < 2 ^ p.length)&&decide (wY (xK (wZ m l)) p i.toNat=key)
theorem zM:∀ (n:Nat) (l:List ByteArray),l.length=2*n→(OE l).length=n
 | 0,[],_=>rfl
 | n+1,a::b::r,h=>by
  have:=zM n r (by simp only [aLR] at h;omega);rw [OE,aLR,this]
 | n+1,[a],h=>by simp only [aLR,List.length_nil] at h;omega
 | n+1,[],h=>by simp at h
 | 0,a::r,h=>by simp at h
theorem OD:∀ (n:Nat) (l:List ByteArray) (k:Nat),l.length=2*n→k < n→(OE l).getD k sNil=CX (l.getD (2*k) sNil) (l.getD (2*k+1) sNil)
 | 0,l,k,_,hk=>by omega
 | n+1,[],k,h,_=>by simp at h
 | n+1,[a],k,h,_=>by simp only [aLR,List.length_nil] at h;omega
 | n+1,a::b::r,0,h,_=>rfl
 | n+1,a::b::r,k+1,h,hk=>by
  have ih:=OD n r k (by simp only [aLR] at h;omega) (by omega);rw [OE,show 2*(k+1)=2*k+1+1 by omega,List.getD_cons_succ,ih,List.getD_cons_succ,List.getD_cons_succ,List.getD_cons_succ,List.getD_cons_succ]
theorem N8 (i:Nat):i ^^^ 1=if i % 2=1 then i - 1 else i+1:=by
 have h2:(i ^^^ 1) / 2=i / 2:=by
  rw [Nat.xor_div_two];simp
 have h3:(i ^^^ 1) % 2=(i % 2) ^^^ 1:=by
  have:=Nat.xor_mod_two_pow (a:=i) (b:=1) (n:=1)
  simpa using this
 have h4:(i ^^^ 1) % 2=1 - i % 2:=by
  rw [h3];have:i % 2=0∨i % 2=1:=by omega
  rcases this with h|h<;>rw [h]<;>rfl
 split
 ·omega
 omega
theorem NI:∀ (h:Nat) (l:List ByteArray) (i:Nat),l.length=2 ^ h→i < 2 ^ h→wY (l.getD i sNil) (lA h l i) i=MN h l
 | 0,l,i,hl,hi=>by
  have:i=0:=by simpa using hi
  subst this;rw [lA,wY,MN];cases l<;>rfl
 | h+1,l,i,hl,hi=>by
  have hl2:l.length=2*2 ^ h:=by rw [hl,Nat.pow_succ,Nat.mul_comm]
  have hi2:i / 2 < 2 ^ h:=by rw [Nat.pow_succ] at hi;omega
  have ih:=NI h (OE l) (i / 2) (zM _ _ hl2) hi2;rw [lA,wY,MN,← ih,OD _ _ _ hl2 hi2,N8];congr 1
  split
  ·next h1 =>
   rw [show 2*(i / 2)=i - 1 by omega,show i - 1+1=i by omega]
  next h1 =>
  rw [show 2*(i / 2)=i by omega]
theorem EB:∀ (h:Nat) (l:List ByteArray) (i:Nat),(lA h l i).length=h
 | 0,_,_=>rfl
 | h+1,l,i=>by rw [lA,aLR,EB h]
theorem uM (s:ByteArray) (h:Nat):(kM s h).length=2 ^ h:=by simp [kM]
theorem Z9 (s:ByteArray) {h i:Nat} (hi:i < 2 ^ h):(kM s h).getD i sNil=PO s i:=by rw [List.getD_eq_getElem?_getD,kM,aL9,List.getElem?_range hi];rfl
theorem mV {α:Type} {l:List α} {k:Nat} {d:α} (h:k < l.length):l.getD k d∈l:=by rw [List.getD_eq_getElem?_getD,aLU h];exact List.getElem_mem h
theorem aCh (s:ByteArray) (i:Nat) (m:ByteArray):wZ m (CB s i m)=F8 s i:=by
 apply List.ext_getElem?;intro k;rw [wZ,List.getElem?_zipWith,CB,F8,aL9,aL9];by_cases hk:k < 18
 ·have hk2:k < (DS m).length:=by rw [HH];exact hk
  have hlt:=WA m _ (mV (d:=0) hk2);have h4:(DS m)[k]?=some ((DS m).getD k 0):=by
   rw [List.getD_eq_getElem?_getD,aLU hk2];rfl
  rw [List.getElem?_range hk,h4];show some (xR (xR (jP s i k) ((DS m).getD k 0)) (15 - (DS m).getD k 0))=some (xR (jP s i k) 15);rw [P4,show (DS m).getD k 0+(15 - (DS m).getD k 0)=15 by omega]
 rw [List.getElem?_eq_none (by simp;omega)];rfl
theorem aC3 {n:Nat} (h:n < 16):SC (UInt8.ofNat (sD n).toNat)=true:=by revert h;revert n;decide
theorem C4 (s:ByteArray):isJ (pU s)=true:=by rw [isJ,aLY,aLW];refine⟨iL s,?_⟩;rw [List.all_eq_true];intro b hb;obtain ⟨j,_,rfl⟩:=List.mem_map.1 (show b∈(List.range 16).map _ from by simpa [pU,LM] using hb);exact aC3 (yL _ _)
theorem aHW {t:ByteArray} (h:isJ t=true):∀ n,isJ (xR t n)=true
 | 0=>h
 | n+1=>by rw [DH];exact C4 _
theorem rJ {t:ByteArray} (h:isJ t=true):t.size=16:=by rw [isJ,aLY,aLW] at h;exact h.1
theorem RA (s:ByteArray) (i:Nat) (m:ByteArray):∀ t∈CB s i m,isJ t=true:=by intro t ht;obtain ⟨k,_,rfl⟩:=List.mem_map.1 ht;exact aHW (C4 _) _
theorem IH (s:ByteArray) (i:Nat) (m:ByteArray):(CB s i m).length=18:=by simp [CB]
theorem GQ:∀ (n:Nat) (l:List ByteArray),l.length≤n→∀ t∈OE l,isJ t=true
 | _,[],_,t,ht=>by simp [OE] at ht
 | _,[a],_,t,ht=>by simp [OE] at ht
 | 0,a::b::r,h,t,ht=>by simp at h
 | n+1,a::b::r,h,t,ht=>by
  rw [OE] at ht;rcases aL1.1 ht with rfl|ht
  ·exact C4 _
  exact GQ n r (by simp only [aLR] at h;omega) t ht
theorem EC:∀ (h:Nat) (l:List ByteArray) (i:Nat),l.length=2 ^ h→i < 2 ^ h→(∀ t∈l,isJ t=true)→∀ t∈lA h l i,isJ t=true
 | 0,_,_,_,_,_,t,ht=>by simp [lA] at ht
 | h+1,l,i,hl,hi,ha,t,ht=>by
  have hl2:l.length=2*2 ^ h:=by rw [hl,Nat.pow_succ,Nat.mul_comm]
  rw [lA] at ht;rcases aL1.1 ht with rfl|ht
  ·refine ha _ (mV ?_);rw [N8];rw [Nat.pow_succ] at hi
   split<;>omega
  exact EC h (OE l) (i / 2) (zM _ _ hl2) (by rw [Nat.pow_succ] at hi;omega) (GQ _ _ (aLV _)) t ht
theorem zX (s:ByteArray) (h:Nat):∀ t∈kM s h,isJ t=true:=by intro t ht;obtain ⟨k,_,rfl⟩:=List.mem_map.1 ht;exact C4 _
theorem aAx (s m:ByteArray) {h i:Nat} (hh:h≤8) (hi:i < 2 ^ h):vB (rA s h) m (i:Int) (CB s i m) (lA h (kM s h) i)=true:=by
 have h1:=NI h (kM s h) i (uM s h) hi;rw [Z9 s hi,PO,← aCh s i m] at h1;rw [vB,EB,IH,List.all_eq_true.2 (RA s i m),List.all_eq_true.2 (EC h _ i (uM s h) hi (zX s h)),aL0,h1];have hi2:(i:Int) < 2 ^ h:=by exact_mod_cast hi
 simp [hh,rA,hi2]
def dO (l:List ByteArray):List (List AV):=l.map fun s=>[.pv (.str s)]
theorem iR (l:List ByteArray):(dO l).length=l.length:=aLP _
theorem kC (l:List ByteArray) (s:ByteArray):dO l++[[.pv (.str s)]]=dO (l++[s]):=by rw [dO,dO,List.map_append];rfl
theorem bV (H:aA) (l:List ByteArray):∀ r∈dO l,∀ a∈r,Clo H a:=by intro r hr a ha;obtain ⟨b,_,rfl⟩:=List.mem_map.1 hr;rw [aLS] at ha;subst ha;simp
theorem fU (l:List ByteArray):dO l=(l.map encStr).map (·.map .pv):=by rw [List.map_map];rfl
def iX (t:GTag):ByteArray:=t.key++⟨#[61]⟩++⟨(dT t.val.data.toList).toArray⟩
def wK (L:List ByteArray):aA:=[(903,⟨L.length,1,9,dO L⟩),(4,bx 1 22 [.osl 903 L.length 0 L.length])]
theorem aG1 (L:List ByteArray) (s:ByteArray):wK (L++[s])=[(903,⟨L.length+1,1,9,dO (L++[s])⟩),(4,bx 1 22 [.osl 903 (L.length+1) 0 (L.length+1)])]:=by simp [wK]
theorem vP (s:ByteArray):(⟨(dT s.data.toList).toArray⟩:ByteArray).size≤2*s.size+2:=by
 show (dT s.data.toList).length≤_;have:=SL s.data.toList;have h:s.data.toList.length=s.size:=by simp
 rw [dT,aLR,aLQ,List.length_singleton];omega
theorem X1 {i j:Nat} {a b a' b':Ob} {id:Nat} (h:(aA.get [(i,a),(j,b)] id).isSome=true):(aA.get [(i,a'),(j,b')] id).isSome=true:=by
 simp only [aA.get] at h ⊢;cases e1:Nat.beq i id with
 | true=>rfl
 | false =>
  rw [e1] at h;cases e2:Nat.beq j id with
  | true=>rfl
  | false=>rw [e2] at h;exact h
theorem aDt (t:GTag) (L:List ByteArray) (hk:t.key.size < 1099511627776) (hv:t.val.size < 1099511627776) (hL:L.length < 1099511627776) :
  aG Tryz.prog 269 [av (bF t),.ref 4 0 0 0] (wK L) (fun r H'=>r=.tup []∧H'=wK (L++[iX t])):=by
 rw [aG1];have hq:=vP t.val;have h61:(⟨#[61]⟩:ByteArray).size=1:=rfl;have hks:(t.key++⟨#[61]⟩:ByteArray).size=t.key.size+1:=by rw [ByteArray.size_append];rfl
 refine Bd func269 rfl ntmps269<|Sr<|Dd (by exact bZ (id:=2) rfl rfl rfl rfl rfl)<|Zz<|aQ follows<|Cr [4] (fun _ h=>lh aJ h)<|Cr [2] (fun _ h=>fh C8 h)<|Cr [2] (fun _ h=>lh isAgg9 h)<|Cr [] (fun H1 hH=>by exact gP rfl rfl rfl (by omega) rfl)<|Cr [2] (fun _ h=>fh HF h)<|Cr [2] (fun _ h=>lh isAgg9 h)<|Cr [] (fun H1 hH=>by exact aB rfl rfl call210 rfl (XK t.val _ (by omega)))<|Cr [] (fun H1 hH=>by exact gP rfl rfl rfl (by omega) rfl)<|Cr [] (fun H1 hH=>by exact aS [[.str (iX t)]] rfl cO rfl rfl rfl rfl rfl (by intro r hr;rw [aLS] at hr;subst hr;rfl))<|Cp [903] (fun H1 hH=>by exact eK (ps:=[[.str (iX t)]]) rfl cO TN rfl ((hH _ rfl).trans rfl) rfl rfl rfl (iR L) rfl (by intro r hr;rw [aLS] at hr;subst hr;rfl) (m:=1) rfl (by omega) rfl (kC L (iX t))) ?_;refine Cp [4] (fun H1 hH=>by exact bQ rfl sizeOf22 rfl rfl rfl rfl ((hH _ rfl).trans rfl) rfl rfl rfl)<|bJ<|Kr ?_;exact pK (H':=[(903,⟨L.length+1,1,9,dO (L++[iX t])⟩),(4,bx 1 22 [.osl 903 (L.length+1) 0 (L.length+1)])]) (.inl rfl) rfl (Fin.wk (by(simp;done)) (Hc (bV _ _)<|Ha<|trivial) ⟨rfl,rfl,trivial⟩) ⟨rfl,rfl⟩
def F6 (l:List GTag):ByteArray:=⟨(cG [32] (bs (l.map iX))).toArray⟩
def fZ (l:List GTag):ByteArray×Int:=if wX l then(if 20000 < (F6 l).size then(sNil,2)else(F6 l,0))else(sNil,1)
theorem Z4 {t:GTag} (hk:t.key.size≤24) (hv:t.val.size≤200):(iX t).size≤427:=by have hq:=vP t.val;have h61:(⟨#[61]⟩:ByteArray).size=1:=rfl;rw [iX,ByteArray.size_append,ByteArray.size_append,h61];omega
theorem eE {s:ByteArray} (h:bI s=true):s.size≤24:=by rw [bI,aLY,aLY,aLW] at h;omega
theorem pA {l:List ByteArray} {n:Nat} (h:∀ s,s∈l→s.size≤n):cV l≤n*l.length:=by
 induction l with
 | nil=>exact aL6 _
 | cons a l ih =>
  rw [cV,List.map_cons,List.sum_cons,aLR,Nat.mul_succ];have h1:=h a List.mem_cons_self;have h2:=ih (fun s hs=>h s (List.mem_cons_of_mem _ hs));rw [cV] at h2;omega
theorem aJS {L:List ByteArray} {K:aA} {r:ByteArray} (h:aG Tryz.prog 168 [.pv (aU L),sv ⟨#[32]⟩] [] (fun x H'=>x=sv r∧H'=[])):aG Tryz.prog 168 [.osl 903 L.length 0 L.length,sv ⟨#[32]⟩] ((903,⟨L.length,1,9,dO L⟩)::K) (fun x H'=>x=sv r∧H'=(903,⟨L.length,1,9,dO L⟩)::K):=by
 exact RO.calls (RO.lend (id:=903) (H1:=[]) (L.map encStr) (RO.of h rfl) (get_cons_same _ _ _) (fU L) rfl
  (cH (.osl (by rw [aL7,List.drop_zero,List.take_of_length_le (by rw [aLP];exact aLV _)])) (cH (.same (by simp)) nM)) (fun _ _ h=>by cases h) (fun _ _ h=>by cases h) rfl)
theorem ME (l:List GTag) (H:aA) (hl:I7 l):aG Tryz.prog 241 [.pv (qW l)] H (fun r H'=>r=.tup [sv (fZ l).1,iv (fZ l).2]∧H'=H):=by
 refine Pu ?_;have hml:(l.map bF).length=l.length:=aLP _;refine Bd func241 rfl ntmps241<|Sr<|Dd aP<|Dd aP<|Zz<|Sq<|Sr<|Dd aI<|Dd (by exact aB rfl rfl aAh rfl (vG l _ hl))<|Dd lI<|Zz ?_;refine Cn ?_ ?_<;>intro hc1
 ·have hg:wX l=false:=by rw [← aL8];exact hc1
  have e:fZ l=(sNil,1):=by rw [fZ,aLN (by rw [hg];decide)]
  rw [e];exact Sr<|Dd aP<|Dd aP<|Zz<|aC<|Ru<|Qq
 have hg:wX l=true:=by rw [← Bool.not_eq_false'];exact hc1
 obtain ⟨g1,g2,g3⟩:=AA.1 hg;refine aE<|Sr<|Dd (by exact bE (id:=4) rfl aAp rfl rfl)<|Zz<|Sr<|Dd (by exact eY rfl rfl)<|Dd aP<|Zz<|Sq<|Sq ?_;refine fE.ent (E':=[(0,.pv (qW l)),(4,.ref 4 0 0 0),(5,.clo 269 [.ref 4 0 0 0])]) (H':=wK []) (cC.nz 903 1 9 rfl rfl ⟨⟨_,rfl,(by exact Nz.same (by(simp;done)))⟩,⟨_,rfl,(by exact Nz.same (by(simp;rfl)))⟩,⟨_,rfl,(by exact Nz.same (by(simp;rfl)))⟩,trivial⟩ ⟨⟨_,rfl,rfl,rfl,rfl,(by exact .inr ⟨_,_,rfl,rfl,(by repeat(first|exact trivial|refine⟨(by exact Nz.own),?_⟩))⟩)⟩,trivial⟩ trivial) ?_;refine Rg<|Dd aI<|Dd (fW cK)<|Dd aI<|Zz<|aF ?_;refine bR (σ:=Nat) (fun k=>([(4,.ref 4 0 0 0),(5,.clo 269 [.ref 4 0 0 0]),(13,.pv (qW l)),(14,iv ((l.map bF).length:Int)),(15,iv (k:Int))],wK ((l.take k).map iX))) (fun k=>k≤l.length) (fun k=>l.length - k) 0 (aL6 _) ?_ ?_
 ·exact(cC.wk (Ea<|Ea<|Eb<|Eb<|Eb<|trivial) (Hc (bV _ _)<|Ha<|trivial) trivial)
 intro k hk;refine Sr<|Dd dI<|Zz<|Sq ?_;refine Cn ?_ ?_<;>intro hc2
 ·have hlt:k < l.length:=by have:=aLL hc2;omega
  obtain ⟨t,ht⟩:=bD hlt;have hi:=cI (f:=bF) ht;obtain ⟨b1,b2,b3⟩:=g1 t (aLZ ht);have b4:=eE b1;have hLl:((l.take k).map iX).length < 1099511627776:=by rw [aLP,aL3];omega
  have hnx:(l.take (k+1)).map iX=(l.take k).map iX++[iX t]:=by rw [List.take_add_one,ht,List.map_append];rfl
  refine aE<|Sq<|aF<|Sr<|Dd (by exact bM rfl wS rfl rfl (by omega) (by exact aL0 _) hi rfl)<|Dd (by exact cP rfl qO iB rfl hi (by simp only [Zl,bF];rfl) rfl)<|Dd (by exact bE (id:=7) rfl aFp rfl rfl)<|Uu (jK iB)<|Zz<|Rg<|Dd aI<|Dd (pN qO iB)<|Dd (by exact bY rfl rfl rfl (cB.clo call269 (aG.frame (aDt t ((l.take k).map iX) (by omega) (by omega) hLl) (KQ.sub ⟨rfl,rfl,trivial⟩) (cY.ofL ⟨(by exact bV _ _),(by(simp;rfl)),trivial⟩) (by simp;rfl) (fun id h=>.inl (X1 h)))))<|Zz<|Rg<|Dd pL<|Dd aI<|Zz ?_;refine⟨k+1,by omega,by omega,?_⟩;show cC _ _ _ _ (wK ((l.take (k+1)).map iX));rw [hnx];exact(cC.wk (Ea<|Ea<|Eb<|Eb<|Eb<|trivial) (Hc (bV _ _)<|Ha<|trivial) trivial)
 have hge:k=l.length:=by have:=aLM hc2;omega
 subst hge;have hsb:cV (l.map iX)≤427*l.length:=by
  have:=pA (l:=l.map iX) (n:=427) (fun s hs=>by
   obtain ⟨t,ht,rfl⟩:=List.mem_map.1 hs;obtain ⟨b1,b2,b3⟩:=g1 t ht;exact Z4 (eE b1) b3)
  rwa [aLP] at this
 have hj:aG Tryz.prog 168 [.pv (aU (l.map iX)),sv ⟨#[32]⟩] [] (fun x H'=>x=sv (F6 l)∧H'=[]):=qE (l.map iX) ⟨#[32]⟩ [] (by decide) (by rw [aLP];show 1*_+_+_ < _;omega);have hj2:=aJS (L:=l.map iX) (K:=[(4,bx 1 22 [.osl 903 (l.map iX).length 0 (l.map iX).length])]) hj;rw [List.take_length];refine bG<|Sr<|Dd (bL aJ)<|Dd (by exact aB rfl rfl mL rfl (hj2))<|Dd aP<|Zz<|Sq<|Sr<|Dd aI<|Dd (nV underlying9)<|Dd mU<|Zz ?_;refine Cn ?_ ?_<;>intro hc3
 ·have e:fZ l=(sNil,2):=by
   rw [fZ,aLO hg,aLO (by have:=aLL hc3;omega)]
  rw [e];exact Sr<|Dd aP<|Dd aP<|Zz<|aC<|Ru<|Qq
 have e:fZ l=(F6 l,0):=by
  rw [fZ,aLO hg,aLN (by have:=aLM hc3;omega)]
 rw [e];exact aE<|Sr<|Dd aI<|Dd aP<|Dd aP<|Zz<|aC<|Ru<|Qq
theorem aAV {t:ByteArray} (h:t.size < 1099511627776):∀ n,(xR t n).size < 1099511627776
 | 0=>h
 | n+1=>by rw [DH,iL];decide
theorem P3 (t:ByteArray) (n:Nat) (H:aA) (ht:t.size < 1099511627776) (hn:n < 1000):aG Tryz.prog 97 [sv t,iv (n:Int)] H (fun r H'=>r=sv (xR t n)∧H'=H):=by
 refine Pu ?_;refine Bd func97 rfl ntmps97<|Sr<|Dd aP<|Zz<|Sq<|Sr<|Dd aI<|Dd aI<|Zz<|aF ?_;refine bR (σ:=Nat) (fun k=>([(0,sv (xR t k)),(5,iv (n:Int)),(6,iv (k:Int))],[])) (fun k=>k≤n) (fun k=>n - k) 0 (aL6 _) ?_ ?_
 ·exact Wk
 intro k hk;have hsum:=fun H=>Q2 (xR t k) H (by have:=aAV ht k;omega);rw [← DH] at hsum;refine Sr<|Dd dI<|Zz<|Sq ?_;refine Cn ?_ ?_<;>intro hc1
 ·have hlt:k < n:=by have:=aLL hc1;omega
  refine aE<|Sq<|aF<|Rg<|Dd aI<|Dd (by exact aB rfl rfl QL rfl (hsum _))<|Dd aP<|Zz<|Rg<|Dd (by exact cA rfl rfl rfl (show IntKind.i64.wrap ((k:Int)+1)=((k+1:Nat):Int)by rw [pO (by omega) (by omega)];omega))<|Dd aI<|Zz ?_;exact⟨k+1,by omega,by omega,Wk⟩
 have hge:k=n:=by have:=aLM hc1;omega
 subst hge;exact bG<|Sr<|Dd aI<|Dd aP<|Zz<|aC<|Rt<|Qq
theorem R0 (l:List ByteArray) (H:aA) (hl:(aO l).length < 35184372088832):aG Tryz.prog 98 [.pv (aU l)] H (fun r H'=>r=sv (xK l)∧H'=H):=by refine Pu ?_;exact Bd func98 rfl ntmps98<|Sr<|Dd aP<|Zz<|Sr<|Dd aI<|Dd (by exact aB rfl rfl call133 rfl (aCL l _ hl))<|Dd aP<|Zz<|aC<|Rt<|Qq
theorem X2 (a b c:ByteArray):(aO [a,b,c]).length=(lP a).size+(lP b).size+(lP c).size:=by simp [aO,kY];omega
theorem BF (n:Nat) (h:n < 1099511627776):(bK (n:Int)).size≤21:=mG (by omega) (by omega)
theorem kZ {s:ByteArray} (h:s.size < 1099511627776):(lP s).size≤s.size+22:=by have:=BF s.size h;rw [mQ];omega
theorem W9 (s:ByteArray) (i k:Nat) (H:aA) (hs:s.size < 1099511627776) (hi:i < 1099511627776) (hk:k < 1099511627776):aG Tryz.prog 100 [sv s,iv (i:Int),iv (k:Int)] H (fun r H'=>r=sv (jP s i k)∧H'=H):=by
 refine Pu ?_;have h1:=BF i hi;have h2:=BF k hk;have hj:(aO [s,bK (i:Int),bK (k:Int)]).length < 35184372088832:=by
  have e1:=kZ hs;have e2:=kZ (s:=bK (i:Int)) (by omega);have e3:=kZ (s:=bK (k:Int)) (by omega);rw [X2];omega
 exact Bd func100 rfl ntmps100<|Sr<|Dd aP<|Zz<|Sr<|Dd aI<|Dd aI<|Dd (by exact aB rfl rfl mM rfl (qG (i:Int) (by omega) (by omega) _))<|Dd aI<|Dd (by exact aB rfl rfl mM rfl (qG (k:Int) (by omega) (by omega) _))<|Dd (by exact aS [[.str s],[.str (bK (i:Int))],[.str (bK (k:Int))]] rfl cO rfl rfl rfl rfl rfl (by intro r hr;simp only [aL1,aL5,or_false] at hr;rcases hr with rfl|rfl|rfl<;>rfl))<|Dd (by exact aB rfl rfl QI rfl (R0 [s,bK (i:Int),bK (k:Int)] _ hj))<|Dd aP<|Zz<|aC<|Rt<|Qq
theorem XR (a b:ByteArray) (back:Bool) (H:aA) (ha:a.size < 1099511627776) (hb:b.size < 1099511627776):aG Tryz.prog 99 [sv a,sv b,bv back] H (fun r H'=>r=sv (if back=true then CX b a else CX a b)∧H'=H):=by
 refine Pu ?_;have hj:∀ x y:ByteArray,x.size < 1099511627776→y.size < 1099511627776→(aO [FW,x,y]).length < 35184372088832:=by
  intro x y hx hy;have e1:=kZ (s:=FW) (by decide);have e2:=kZ hx;have e3:=kZ hy;have e4:FW.size=4:=rfl;rw [X2];omega
 refine Bd func99 rfl ntmps99<|Sr<|Dd aP<|Zz<|Sq<|Sr<|Dd aI<|Zz ?_;refine Cn ?_ ?_<;>intro hc1
 ·subst hc1;exact Rg<|Dd aI<|Dd aI<|Dd aP<|Dd aP<|Zz<|Sr<|Dd aI<|Dd aI<|Dd (by exact aS [[.str FW],[.str b],[.str a]] rfl cO rfl rfl rfl rfl rfl (by intro r hr;simp only [aL1,aL5,or_false] at hr;rcases hr with rfl|rfl|rfl<;>rfl))<|Dd (by exact aB rfl rfl QI rfl (R0 [FW,b,a] _ (hj b a hb ha)))<|Dd aP<|Zz<|aC<|Rt<|Qq
 subst hc1;exact aE<|Sr<|Dd aI<|Dd aI<|Dd (by exact aS [[.str FW],[.str a],[.str b]] rfl cO rfl rfl rfl rfl rfl (by intro r hr;simp only [aL1,aL5,or_false] at hr;rcases hr with rfl|rfl|rfl<;>rfl))<|Dd (by exact aB rfl rfl QI rfl (R0 [FW,a,b] _ (hj a b ha hb)))<|Dd aP<|Zz<|aC<|Rt<|Qq
def NQ (s:ByteArray) (i k:Nat):List ByteArray:=(List.range k).map fun k=>xR (jP s i k) 15
theorem VX (s:ByteArray) (i k:Nat):NQ s i (k+1)=NQ s i k++[xR (jP s i k) 15]:=by rw [NQ,List.range_succ,List.map_append];rfl
theorem NP (s:ByteArray) (i k:Nat):(NQ s i k).length=k:=by simp [NQ]
theorem xX (s:ByteArray) (i k:Nat):(jP s i k).size=16:=iL _
theorem vZ {b:Nat} (hb:b < 1099511627776):∀ (l:List ByteArray),(∀ s∈l,s.size≤b)→(aO l).length≤(b+22)*l.length
 | [],_=>aLV _
 | s::r,h=>by
  have ih:=vZ hb r (fun x hx=>h x (List.mem_cons_of_mem _ hx));have hs:=h s List.mem_cons_self;have e:aO (s::r)=(lP s).data.toList++aO r:=by rw [aO,List.flatMap_cons];rfl
  have h2:=kZ (s:=s) (by omega);rw [e,aLQ,aLR,kY,Nat.mul_add,Nat.mul_one];omega
theorem aAU (t:ByteArray) (H:aA) (ht:t.size < 1099511627776):aG Tryz.prog 97 [sv t,iv 15] H (fun r H'=>r=sv (xR t 15)∧H'=H):=P3 t 15 H ht (by decide)
theorem aHV (s:ByteArray) (i:Nat) (H:aA) (hs:s.size < 1099511627776) (hi:i < 1099511627776):aG Tryz.prog 139 [sv s,iv (i:Int)] H (fun r H'=>r=sv (PO s i)∧H'=H):=by
 refine Pu ?_;refine Bd func139 rfl ntmps139<|Sr<|Dd aP<|Zz<|Sr<|Dd (by exact nH (id:=905) (sz:=1) (ty:=9) rfl rfl rfl)<|Zz<|Sq<|Sr<|Dd aI<|Zz<|aF ?_;refine bR (σ:=Nat) (fun k=>([(0,sv s),(1,iv (i:Int)),(5,.osl 905 k 0 k),(7,iv (k:Int))],[(905,⟨k,1,9,dO (NQ s i k)⟩)])) (fun k=>k≤18) (fun k=>18 - k) 0 (aL6 _) ?_ ?_
 ·exact(cC.wk (Eb<|Eb<|Ea<|Eb<|trivial) (Hc (bV _ _)<|trivial) trivial)
 intro k hk;have hln:=NP s i k;have hnx:=VX s i k;refine Sr<|Dd dI<|Zz<|Sq ?_;refine Cn ?_ ?_<;>intro hc1
 ·have hlt:k < 18:=by have:=aLL hc1;omega
  refine aE<|Sq<|aF<|Sr<|Dd aI<|Dd aP<|Zz<|Rg<|Dd aI<|Dd aI<|Dd aI<|Dd aI<|Dd (by exact aB rfl rfl call100 rfl (W9 s i k _ hs hi (by omega)))<|Dd (by exact aB rfl rfl aKz rfl (aAU (jP s i k) _ (by rw [xX];decide)))<|Dd (by exact aS [[.str (xR (jP s i k) 15)]] rfl cO rfl rfl rfl rfl rfl (by intro r hr;rw [aLS] at hr;subst hr;rfl))<|Dd (by exact eK (ps:=[[.str (xR (jP s i k) 15)]]) rfl cO TN rfl rfl rfl rfl rfl (by rw [iR,hln]) rfl (by intro r hr;rw [aLS] at hr;subst hr;rfl) (m:=1) rfl (by omega) rfl (kC _ (xR (jP s i k) 15)))<|Dd aP<|Zz<|Rg<|Dd (by exact cA rfl rfl rfl (show IntKind.i64.wrap ((k:Int)+1)=((k+1:Nat):Int)by rw [pO (by omega) (by omega)];omega))<|Dd aI<|Zz ?_;refine⟨k+1,by omega,by omega,?_⟩;dsimp only;rw [hnx];exact(cC.wk (Eb<|Eb<|Ea<|Eb<|trivial) (Hc (bV _ _)<|trivial) trivial)
 have hge:k=18:=by have:=aLM hc1;omega
 subst hge;refine bG<|Sq ?_;refine fE.ent (cC.fz (id:=905) (E':=[(5,.pv (aU (F8 s i)))]) (H':=[]) ((F8 s i).map encStr) rfl (fU _)
  (by intro p hp;simp only [aL1,aL5,or_false] at hp;subst hp;exact⟨_,rfl,.osl (by rw [aL7,List.drop_zero];rfl)⟩) rfl trivial trivial) ?_
 exact Rg<|Dd aI<|Dd (by exact aB rfl rfl QI rfl (R0 (F8 s i) _ (by have h:=vZ (b:=16) (by decide) (F8 s i) (fun x hx=>by obtain ⟨k,_,rfl⟩:=List.mem_map.1 hx;exact Nat.le_of_eq (S7 (xX s i k) 15));rw [show (F8 s i).length=18 from NP s i 18] at h;omega)))<|Dd aP<|Zz<|aC<|Rt<|Qq
end Go.Proofs.YtiifmppaejpemaaGreatDoor
namespace Go.Abs
theorem WW {P:Program} {id p p2 N:Nat} {x:Go.Loop} {assign body:Code} {E0:bN} {a a2:AV} {K:aA} {Q:AV→aA→Prop} (E2:bN) (K2:aA) (hx1:x.state=.ready) (hx2:x.pending=none) (hp:x.params=#[p,p2]) (hN:x.tmps.size=N) (hxa:x.assign=assign) (hxb:x.body=body) (hpN:Nat.blt p N=true) (hpN2:Nat.blt p2 N=true) (hpp:Nat.beq p p2=false)
  (hok:fV assign=true) (hok2:fV body=true)
  (h1:fE P ((id,LR x E0)::K) N assign (uX (fun E1 H1=>cC ((id,LR x E0)::K) E1 H1 E2 ((id,LR x E0)::K2)) (fun _ _ _=>False)) ((p2,a2)::(p,a)::E0) ((id,LR x E0)::K))
  (h2:fE P ((id,LR x E0)::K) N body (aDW ((id,LR x E0)::K) id x E0 Q) E2 ((id,LR (busy x) E0)::K2)):BW P id 0 [a,a2] ((id,LR x E0)::K) Q:=by
 subst hxa hxb;have hpN:p < N:=by simpa [Nat.blt_eq] using hpN
 have hpN2:p2 < N:=by simpa [Nat.blt_eq] using hpN2
 have hpp:p≠p2:=fun e=>by subst e;rw [kB] at hpp;cases hpp
 intro I ι w vs v hr hv hl hvs;obtain ⟨b,e1,e2,e3,e4,e5⟩:=aB0 hr (eO _ _ _) hv;obtain ⟨u,u2,rfl⟩:∃ u u2,vs=#[u,u2]:=by
  match vs,hl with
  | ⟨[u,u2]⟩,_=>exact⟨u,u2,rfl⟩
 have hu:=hvs 0 u a rfl rfl;have hu2:=hvs 1 u2 a2 rfl rfl;refine⟨b,x.fn,_,x.assign,x.body,e2,run_yield e3 (by rw [hp];rfl),?_⟩;refine roundIn_of_wpIn (F:=Fence.wide) trivial ?_;have hG:(⟨I,ι,(id,LR x E0)::K,w,[]⟩:Entry).H=(id,LR x E0)::K:=rfl;have hst:St ⟨I,ι,(id,LR x E0)::K,w,[]⟩ N ((p2,a2)::(p,a)::E0) ((id,LR x E0)::K) {tmps:=(x.params.zip #[u,u2]).foldl (fun tmps (t,a)=>tmps.setIfInBounds t a) x.tmps,defers:=[]} w:=by
  have ht:(x.params.zip #[u,u2]).foldl (fun tmps (t,a)=>tmps.setIfInBounds t a) x.tmps=(x.tmps.setIfInBounds p u).setIfInBounds p2 u2:=by rw [hp];simp
  rw [ht];refine⟨nZ.nil _ _ _,by simp [hN],I,ι,hr,Step.refl _ _ _ _,fun t y hy=>?_⟩;by_cases e2:p2=t
  ·subst e2;rw [bN.get_cons_same] at hy;cases hy;exact⟨u2,by simp [hN,hpN2],hu2⟩
  rw [bN.get_cons_other _ _ e2] at hy;by_cases e:p=t
  ·subst e;rw [bN.get_cons_same] at hy;cases hy;exact⟨u,by show ((x.tmps.setIfInBounds p u).setIfInBounds p2 u2)[p]?=some u;rw [Array.getElem?_setIfInBounds_ne e2];simp [hN,hpN],hu⟩
  rw [bN.get_cons_other _ _ e] at hy;obtain ⟨i,hi⟩:=aLa.1 (eZ hy);obtain ⟨c,c1,c2⟩:=e5 i t y (by rw [aL9,hi];rfl) (by rw [aL9,hi];rfl);exact⟨c,by show ((x.tmps.setIfInBounds p u).setIfInBounds p2 u2)[t]?=some c;rw [Array.getElem?_setIfInBounds_ne e2,Array.getElem?_setIfInBounds_ne e];exact c1,c2⟩
 refine wpIn_mono (h1 _ hG _ w hst (some b) (.inr hok)) ?_;rintro e a1 w1 ⟨E1,H1,q,hs1⟩;cases e with
 | normal =>
  have hs2:=q _ hG N a1 w1 hs1;obtain ⟨I1,ι1,hr1,hst1,he1⟩:=hs2.rel;have hι1:=oD hst1 (eO _ _ _) e1 (eO _ _ _);have hb1:=pB hr1 (eO _ _ _) hι1;obtain ⟨k1,k2⟩:=hr1.setRec (y:=busy x) (H':=(id,LR (busy x) E0)::K2) (eO _ _ _) hι1 rfl (eO _ _ _) (fun j hj=>uQ _ _ _ hj);refine⟨_,run_beginRound hb1 hx1,?_⟩;have hs3:St ⟨I,ι,(id,LR x E0)::K,w,[]⟩ N E2 ((id,LR (busy x) E0)::K2) a1 (w1.putObj b (.loop (busy x))) :=
   ⟨hs2.defers.step hr1 k2,hs2.size,I1,ι1,k1,hst1.trans k2,fun t y hy=>let ⟨c,c1,c2⟩:=he1 t y hy;⟨c,c1,c2.mono hr1 k2⟩⟩
  refine wpIn_mono (h2 _ hG a1 _ hs3 (some b) (.inr hok2)) ?_;rintro e a2 w3 ⟨E3,H3,q3,hs4⟩;have fin:∀ (jump:Option Code) (y:Go.Loop) (K3:aA),y={busy x with state:=if jump.isNone then .ready else .done,pending:=jump}→cC ((id,LR x E0)::K) E3 H3 [] ((id,LR (busy x) E0)::K3)→Q (.pv (.bool jump.isNone)) ((id,LR y E0)::K3) →
    ∃ v w',(Instr.endRound b jump).run P w3=.ok v w'∧∃ r H' I' ι' v',Ending.returned v=.returned v'∧Q r H'∧VRel w' I' ι' H' v' r∧Rel I' ι' H' w'∧Step I ι ((id,LR x E0)::K) w I' ι' H' w':=by
   intro jump y K3 hy hent hQ;have hs5:=hent _ hG N a2 w3 hs4;obtain ⟨I5,ι5,hr5,hst5,_⟩:=hs5.rel;have hι5:=oD hst5 (eO _ _ _) e1 (eO _ _ _);have hb5:=pB hr5 (eO _ _ _) hι5;obtain ⟨z1,z2⟩:=hr5.setRec (y:=y) (H':=(id,LR y E0)::K3) (eO _ _ _) hι5 (by rw [hy]) (eO _ _ _) (fun j hj=>uQ _ _ _ hj);refine⟨_,_,run_endRound jump hb5,_,_,I5,ι5,_,rfl,hQ,.pv (.bool _),?_,?_⟩
   ·rw [← hy];exact z1
   rw [← hy];exact hst5.trans z2
  cases e with
  | normal =>
   obtain ⟨K3,hent,hQ⟩:=q3;refine fin none x K3 ?_ hent hQ;obtain ⟨st,pe,fn,tm,pa,ax,bo,de⟩:=x;simp only at hx1 hx2;subst hx1 hx2;rfl
  | ret =>
   obtain ⟨K3,hent,hQ⟩:=q3;exact fin (some .ret) (left x .ret) K3 rfl hent hQ
  | exit j =>
   obtain ⟨K3,hent,hQ⟩:=q3;exact fin (some (.exit j)) (left x (.exit j)) K3 rfl hent hQ
  | goto l=>exact q3.elim
  | panic ch=>exact q3.elim
  | outgrown=>exact q3.elim
 | exit j=>exact q.elim
 | goto l=>exact q.elim
 | ret=>exact q.elim
 | panic ch=>exact q.elim
 | outgrown=>exact q.elim
theorem KA {P:Program} {G0:aA} {N f id p p2:Nat} {caps:List AV} {g:Operand} {ps:Array Tmp} {assign body:Code} {Q:Exit→bN→aA→Prop} {E:bN} {H:aA} (E0:bN) (hg:aN E g=some (.clo f caps)) (hc:∀ (args:Array Value) (w:World),(callFunc f args).run P w=.ok (.enter f args) w)
  (hps:ps=#[p,p2]) (hid:H.get id=none) (hE0:∀ q∈E0,E.get q.1=some q.2)
  (h:∀ x:Go.Loop,x.state=.ready→x.pending=none→x.params=#[p,p2]→x.tmps.size=N→x.assign=assign→x.body=body →
   aG P f (.yld id 0::caps) ((id,LR x E0)::H) (fun r H'=>∃ (y:Go.Loop) (K:aA),y.tmps=x.tmps∧y.state≠.busy∧H'=(id,LR y E0)::K∧∀ z:Go.Loop,aDZ Q E ((id,LR z E0)::K) y.pending)) :
  fE P G0 N (.rangeFunc g ps assign body) Q E H:=by
 intro G hG a w hs ro hro;obtain rfl:ro=none:=hro.resolve_right (fun h=>by cases h);obtain ⟨I,ι,hr,hst,he⟩:=hs.rel;refine wpIn_rangeFunc (F:=RF none) ?_;intro fn _;have hgv:=aH he hg;generalize hfc:a.eval g=fc at hgv;cases hgv with
 | @clo _ us _ hl hh =>
  obtain ⟨x,hx⟩:∃ x:Go.Loop,x={state:=.ready,pending:=none,fn,tmps:=a.tmps,params:=ps,assign,body,defers:=w.heap.size}:=⟨_,rfl⟩;obtain ⟨a1,a2⟩:=hr.push (.deferred (some []));obtain ⟨wd,hwd⟩:∃ wd,wd=w.alloc (.deferred (some [])):=⟨_,rfl⟩;rw [← hwd] at a1 a2;have hwds:wd.heap.size=w.heap.size+1:=by rw [hwd,World.size_alloc]
  have hDd:wd.heap[w.heap.size]?=some (.deferred (some [])):=by rw [hwd];exact World.alloc_heap_new w _
  have hidH:aA.get ((id,LR x E0)::H) id=some (LR x E0):=eO _ _ _;obtain ⟨b1,b2⟩:=a1.placeX (id:=id) (cap:=2) (x:=.loop x) (w':=wd.alloc (.loop x)) (H':=(id,LR x E0)::H) (ob':=LR x E0) rfl rfl rfl rfl (fun o ho=>by rw [hid] at ho;cases ho)
   (fun hnew hI hmono=>.inr (.inr (.inr ⟨rfl,_,x,by simp,hnew,hI,fun y ts r hy=>by
    simp only [LR,List.cons.injEq,AV.raw.injEq,and_true] at hy;obtain ⟨⟨rfl,rfl⟩,rfl⟩:=hy;refine⟨rfl,fun i t v ht hv=>?_⟩;rw [aL9] at ht hv;obtain ⟨q,hq,rfl⟩:=Option.map_eq_some_iff.1 ht;rw [hq] at hv;cases hv;obtain ⟨c,c1,c2⟩:=he q.1 q.2 (hE0 q (aLZ hq));exact⟨c,by rw [hx];exact c1,hmono _ _ (c2.mono hr a2)⟩⟩)))
   hidH (fun j hj=>by simp [aA.get,jA (Ne.symm hj)])
  obtain ⟨w1,hw1⟩:∃ w1,w1=wd.alloc (.loop x):=⟨_,rfl⟩;rw [← hw1] at b1 b2;obtain ⟨ι1,hι1⟩:∃ ι1:dR,ι1=fun j=>if j=id then some (wd.heap.size,2)else ι j:=⟨_,rfl⟩
  rw [← hι1] at b1 b2;have hιid:ι1 id=some (w.heap.size+1,2):=by rw [hι1,hwds];simp
  have hL1:=pB b1 hidH hιid;have hD1:w1.heap[w.heap.size]?=some (.deferred (some [])):=by
   rw [b2.keep _ (by rw [hwds];omega) (uC a1 hDd)];exact hDd
  have hcall:=h x (by rw [hx]) (by rw [hx]) (by rw [hx,hps]) (by rw [hx];exact hs.size) (by rw [hx]) (by rw [hx]) I ι1 w1 (#[.func (.yield (w.heap.size+1)) #[] #[]]++us) b1 (by simp [hl];omega) (fun i v c hv hc'=>by
   cases i with
   | zero =>
    rw [Array.getElem?_append_left (by simp)] at hv;simp at hv hc';subst hv hc';exact .yld (LR x E0) hidH (aLV _) rfl (fun _=>⟨rfl,_,hιid,rfl⟩)
   | succ i =>
    rw [Array.getElem?_append_right (by simp)] at hv;simp only [List.getElem?_cons_succ] at hc';have:=hh i v c (by simpa using hv) hc';exact(this.mono hr a2).mono a1 b2)
  refine⟨w.heap.size+1,[mark w.heap.size],w1,{target:=.fn (.func f) us,args:=#[.func (.yield (w.heap.size+1)) #[] #[]]},w1,f,#[.func (.yield (w.heap.size+1)) #[] #[]]++us,w1,?_,?_,fun _ _=>trivial,?_,(fun q=>by cases q),?_⟩
  ·rw [hw1,hwd,hx];exact run_enterLoop_outer _ _ _ _ _
  ·simp only [resolve,hfc];simp [go_sem]
  ·simp [invoke,go_sem,hc]
  refine((callsIn_wide (n:=0)).2 hcall).mono ?_;rintro e w3 ⟨r,H',I3,ι3,v3,rfl,⟨y,K,hy1,hy2,rfl,hq⟩,_,hr3,hst3⟩;have hι3:=oD (G:=⟨I,ι1,(id,LR x E0)::H,w1,[]⟩) hst3 hidH hιid (eO _ _ _);have hb3:=pB hr3 (eO _ _ _) hι3;obtain ⟨z,hz⟩:∃ z:Go.Loop,z={y with state:=.exhausted}:=⟨_,rfl⟩;obtain ⟨z1,z2⟩:=hr3.setRec (y:=z) (H':=(id,LR z E0)::K) (eO _ _ _) hι3 (by rw [hz]) (eO _ _ _) (fun j hj=>uQ _ _ _ hj);obtain ⟨w4,hw4⟩:∃ w4,w4=w3.putObj (w.heap.size+1) (.loop z):=⟨_,rfl⟩;rw [← hw4] at z1 z2;refine⟨y.pending,w4,by rw [hw4,hz];exact run_endLoop hb3 hy2,?_⟩;have hall:Step I ι H w I3 ι3 ((id,LR z E0)::K) w4:=((a2.trans b2).trans hst3).trans z2;have hD4:w4.heap[w.heap.size]?=some (.deferred (some [])):=by
   rw [(hst3.trans z2).keep _ (Array.getElem?_eq_some_iff.1 hD1).1 (uC b1 hD1)];exact hD1
  have hs4:St G N E ((id,LR z E0)::K) {a with defers:=[mark w.heap.size]++a.defers} w4:=by
   refine⟨?_,hs.size,I3,ι3,z1,hst.trans hall,fun t v hv=>let ⟨c,c1,c2⟩:=he t v hv;⟨c,c1,c2.mono hr hall⟩⟩;obtain ⟨Ds,d1,d2,d3⟩:=hs.defers.step hr hall;refine⟨w.heap.size::Ds,by rw [d1];rfl,List.nodup_cons.2 ⟨fun hmem=>?_,d2⟩,fun D hD=>?_⟩
   ·have hold:∀ D∈Ds,D < w.heap.size:=by
     obtain ⟨Ds',d1',_,d3'⟩:=hs.defers;have he:Ds'=Ds:=by
      have h0:Ds'.map mark=Ds.map mark:=List.append_cancel_right (d1'.symm.trans d1);have hinj:∀ (l l':List Nat),l.map mark=l'.map mark→l=l':=by
       intro l
       induction l with
       | nil=>intro l' h;cases l' with
        | nil=>rfl
        | cons _ _=>cases h
       | cons D l ih=>intro l' h;cases l' with
        | nil=>cases h
        | cons D' l' =>
         simp only [List.map_cons,List.cons.injEq,mark,Deferred.mk.injEq,Target.collected.injEq,and_true] at h;rw [h.1,ih l' h.2]
      exact hinj _ _ h0
     subst he;exact fun D hD=>(Array.getElem?_eq_some_iff.1 (d3' D hD).2).1
    exact Nat.lt_irrefl _ (hold _ hmem)
   rcases aL1.1 hD with rfl|hD
   ·exact⟨hst.size,hD4⟩
   exact d3 D hD
  have hq':=hq z;generalize y.pending=pend at hq' ⊢
  match pend,hq' with
  | none,hq'=>exact⟨E,_,hq',hs4⟩
  | some .ret,hq'=>exact wpIn_ret ⟨E,_,hq',hs4⟩
  | some (.exit j),hq'=>exact wpIn_exit ⟨E,_,hq',hs4⟩
end Go.Abs
namespace Go.Proofs.YtiifmppaejpemaaGreatDoor
open Go.Proofs.Tryz
open Go.Abs
theorem mW (l:List ByteArray):∀ r∈l.map encStr,r.length=1:=fun r hr=>by
 obtain ⟨t,_,rfl⟩:=List.mem_map.1 hr;rfl
def cSZ (l:List ByteArray):Ob:=bx 1 22 [.pv (aU l)]
def cNZ:Ob:=bx 1 3 [iv 2]
theorem aCt (l:List ByteArray) (H:aA) (h1:H.get 931=none) (h2:H.get 932=none) :
  aG Tryz.prog 140 [.pv (aU l),iv 2] H (fun r H'=>r=.clo 181 [.ref 931 0 0 0,.ref 932 0 0 0]∧H'=(932,cNZ)::(931,cSZ l)::H):=by
 have h2':aA.get ((931,cSZ l)::H) 932=none:=h2;refine Bd func140 rfl ntmps140<|Sr<|Dd (by exact bZ (id:=931) rfl rfl rfl rfl h1)<|Dd (by exact bZ (id:=932) rfl rfl rfl rfl h2')<|Dd aP<|Zz<|Sq<|Sr<|Dd (bL isAgg3)<|Dd dI<|Zz ?_;refine Cn ?_ ?_<;>intro hc1
 ·cases hc1
 refine aE<|Sr<|Dd (by exact eY rfl rfl)<|Dd aP<|Zz<|aC ?_;refine dF (H':=((932,cNZ)::(931,cSZ l)::H)) (.inr rfl) rfl (aT rfl) Fin.refl ?_;exact Qq
def yD (l:List ByteArray) (k:Nat):List ByteArray:=(l.drop (2*k)).take 2
theorem ZQ (l:List ByteArray) (k:Nat):((l.map encStr).drop (2*k)).take 2=(yD l k).map encStr:=by rw [yD,List.map_take,List.map_drop]
theorem aEp {n:Nat} (h:2≤n):min (2:Int) (n:Int)=2:=Int.min_eq_left (by omega)
theorem aAT (l:List ByteArray) (fv:AV) (Hs:Nat→aA) (m:Nat) (hl:l.length=2*m) (hm:m < 1099511627776) (h1:∀ k,(Hs k).get 931=some (cSZ l)) (h2:∀ k,(Hs k).get 932=some cNZ)
  (hy:∀ k,k < m→cB Tryz.prog fv [.pv (aU (yD l k))] (Hs k) (fun r H'=>r=bv true∧H'=Hs (k+1))) :
  aG Tryz.prog 181 [fv,.ref 931 0 0 0,.ref 932 0 0 0] (Hs 0) (fun r H'=>r=.tup []∧H'=Hs m):=by
 have hml:(l.map encStr).length=l.length:=aLP _;refine Bd func181 rfl ntmps181<|Sr<|Dd aP<|Zz<|aF ?_;refine bR (σ:=Nat) (fun k=>([(0,fv),(1,.ref 931 0 0 0),(2,.ref 932 0 0 0),(4,iv ((2*k:Nat):Int))],Hs k)) (fun k=>k≤m) (fun k=>m - k) 0 (aL6 _) ?_ ?_
 ·exact E0
 rintro k hkm;refine Sq<|Sr<|Dd aI<|Dd (by exact aK rfl aJ rfl (h1 k) rfl rfl rfl)<|Dd (fW aD)<|Dd dI<|Zz ?_;refine Cn ?_ ?_<;>intro hc1
 ·have hlt:2*k < l.length:=by have:=aLL hc1;omega
  have hkm2:k < m:=by omega
  have hyk:=hy k hkm2;have hdl:((l.map encStr).drop (2*k)).length=l.length - 2*k:=by rw [aL4,hml]
  refine aE<|Sq<|aF<|Sq<|aQ follows<|Cq (by exact aK rfl isAgg3 rfl (h2 k) rfl rfl rfl)<|Cq (by exact aK rfl aJ rfl (h1 k) rfl rfl rfl)<|Cq aI<|Cq (by exact vA (l:=2*k) (h:=(l.map encStr).length) (rows':=(l.map encStr).drop (2*k)) rfl cO rfl (mW l) rfl rfl (by omega) (aLV _) (by rw [List.take_length]))<|Cq (fW aD)<|Cq (by exact GZ (r:=2) rfl rfl rfl (by rw [hdl];exact aEp (by omega)))<|Cq aP<|bJ<|Kr<|Sr<|Dd aI<|Dd (by exact aK rfl aJ rfl (h1 k) rfl rfl rfl)<|Dd aI<|Dd aI<|Dd aI<|Dd (by exact cA rfl rfl rfl (show IntKind.i64.wrap (((2*k:Nat):Int)+2)=((2*k+2:Nat):Int)by rw [IntKind.wrap_i64];omega))<|Dd aI<|Dd aI<|Dd (by exact cA rfl rfl rfl (show IntKind.i64.wrap (((2*k:Nat):Int)+2)=((2*k+2:Nat):Int)by rw [IntKind.wrap_i64];omega)) ?_;refine Dd (by exact aAu (l:=2*k) (h:=2*k+2) (rows':=(yD l k).map encStr) rfl cO rfl (mW l) rfl rfl rfl (by omega) (by omega) (by intro h;rw [List.map_eq_nil_iff] at h;rw [h] at hlt;exact absurd hlt (Nat.not_lt_zero _)) (by rw [← ZQ,List.drop_take];congr 1;omega))<|Dd (by exact bY rfl rfl rfl (hyk))<|Dd lI<|Zz ?_;refine Cn ?_ ?_<;>intro hc2
  ·cases hc2
  refine aE<|Rg<|Dd aI<|Dd (by exact aK rfl isAgg3 rfl (h2 (k+1)) rfl rfl rfl)<|Dd (by exact cA rfl rfl rfl (show IntKind.i64.wrap (((2*k:Nat):Int)+2)=((2*(k+1):Nat):Int)by rw [IntKind.wrap_i64];omega))<|Da ?_;exact⟨k+1,hkm2,by omega,E0⟩
 have hge:l.length≤2*k:=by have:=aLM hc1;omega
 have hkk:k=m:=by omega
 refine bG ?_;rw [← hkk];exact pK (H':=Hs k) (.inl rfl) rfl Fin.refl ⟨rfl,rfl⟩
end Go.Proofs.YtiifmppaejpemaaGreatDoor
namespace Go.Abs
theorem BT {P:Program} {G0:aA} {N:Nat} {Q:Exit→bN→aA→Prop} {E:bN} {H:aA} {x y:Code} {α:Type} (S:α→bN×aA) (J:α→Prop)
  (h:fE P G0 N x (uX (fun E1 H1=>∃ a,J a∧cC G0 E1 H1 (S a).1 (S a).2) Q) E H) (h':∀ a,J a→fE P G0 N y Q (S a).1 (S a).2):fE P G0 N (.seq x y) Q E H :=
 DJ (h.mono fun e E1 H1 q=>by
  cases e with
  | normal =>
   obtain ⟨a,ha,he⟩:=q;exact fE.ent he (h' a ha)
  | _=>exact q)
theorem uR {i:Nat} {o:Ob} {K:aA}:∀ (D:aA),(∀ p∈D,p.1=i)→∀ j,aA.get ((i,o)::K) j=aA.get ((i,o)::(D++K)) j:=by
 intro D hD j;by_cases e:i=j
 ·subst e;simp [aA.get,kB]
 have h:aA.get D j=none:=by
  cases hg:aA.get D j with
  | none=>rfl
  | some x=>exact absurd (hD _ (cQ hg)).symm e
 rw [get_cons_other _ _ (Ne.symm e),get_cons_other _ _ (Ne.symm e),eN,h]
theorem jG {H:aA} {x:Go.Loop} {E0:bN} (h:∀ p∈E0,Clo H p.2):∀ r∈(LR x E0).rows,∀ a∈r,Clo H a:=by
 intro r hr a ha;simp only [LR,aL1,aL5,or_false] at hr;rcases hr with rfl|rfl
 ·rw [aLS] at ha;subst ha;simp
 obtain ⟨p,hp,rfl⟩:=List.mem_map.1 ha;exact h p hp
end Go.Abs
namespace Go.Proofs.YtiifmppaejpemaaGreatDoor
open Go.Proofs.Tryz
open Go.Abs
theorem UV {W:List ByteArray} {j:Nat} (h:2*j+2≤W.length):((yD W j).map encStr)[0]?=some (encStr (W.getD (2*j) sNil))∧((yD W j).map encStr)[1]?=some (encStr (W.getD (2*j+1) sNil)):=by
 have h0:(yD W j)[0]?=some (W.getD (2*j) sNil):=by
  rw [yD,List.getElem?_take_of_lt (by decide),List.getElem?_drop,Nat.add_zero,List.getD_eq_getElem?_getD,aLU (by omega)];rfl
 have h1:(yD W j)[1]?=some (W.getD (2*j+1) sNil):=by
  rw [yD,List.getElem?_take_of_lt (by decide),List.getElem?_drop,List.getD_eq_getElem?_getD,aLU (by omega)];rfl
 exact⟨by rw [aL9,h0];rfl,by rw [aL9,h1];rfl⟩
def upA (l:List ByteArray) (j:Nat):ByteArray:=CX (l.getD (2*j) sNil) (l.getD (2*j+1) sNil)
def W4 (l:List ByteArray) (k:Nat):List ByteArray:=(List.range k).map (upA l)
theorem aBA (l:List ByteArray) (k:Nat):W4 l (k+1)=W4 l k++[upA l k]:=by rw [W4,List.range_succ,List.map_append];rfl
theorem W3 (l:List ByteArray) (k:Nat):(W4 l k).length=k:=by simp [W4]
theorem aDp {l:List ByteArray} {m:Nat} (h:l.length=2*m):W4 l m=OE l:=by
 apply List.ext_getElem?;intro k;have hl:=zM m l h;by_cases hk:k < m
 ·have:=OD m l k h hk;rw [List.getD_eq_getElem?_getD,aLU (by omega)] at this;rw [W4,aL9,List.getElem?_range hk,aLU (by omega)];exact congrArg some this.symm
 rw [List.getElem?_eq_none (by rw [W3];omega),List.getElem?_eq_none (by omega)]
def upK (l L:List ByteArray):aA:=[(905,⟨L.length,1,9,dO L⟩),(3,bx 1 22 [.osl 905 L.length 0 L.length]),(932,cNZ),(931,cSZ l)]
theorem aDq (l L:List ByteArray) (s:ByteArray):upK l (L++[s])=[(905,⟨L.length+1,1,9,dO (L++[s])⟩),(3,bx 1 22 [.osl 905 (L.length+1) 0 (L.length+1)]),(932,cNZ),(931,cSZ l)]:=by simp [upK]
def upE:bN:=[(3,.ref 3 0 0 0)]
theorem P5 (H:aA) (l:List ByteArray):∀ r∈(cSZ l).rows,∀ a∈r,Clo H a:=by intro r hr a ha;simp only [cSZ,bx,aLS] at hr;subst hr;rw [aLS] at ha;subst ha;simp
theorem P6 (H:aA):∀ r∈cNZ.rows,∀ a∈r,Clo H a:=by intro r hr a ha;simp only [cNZ,bx,aLS] at hr;subst hr;rw [aLS] at ha;subst ha;simp
theorem YN (l:List ByteArray) (m:Nat) (H:aA) (hl:l.length=2*m) (hm:m < 1099511627776) (hs:∀ s∈l,s.size=16):aG Tryz.prog 90 [.pv (aU l)] H (fun r H'=>r=.pv (aU (OE l))∧H'=H):=by
 refine Pu ?_;refine Bd func90 rfl ntmps90<|Sr<|Dd aP<|Zz<|Sr<|Dd (by exact bE (id:=3) rfl aAp rfl rfl)<|Zz<|Sq<|Sr<|Dd aI<|Dd (by exact aB rfl rfl call140 rfl (aCt l _ rfl rfl))<|Zz<|aF ?_;refine fE.ent (E':=[(3,.ref 3 0 0 0),(6,.clo 181 [.ref 931 0 0 0,.ref 932 0 0 0])]) (H':=upK l []) ?_ ?_
 ·exact(cC.nz 905 1 9 rfl rfl ⟨⟨_,rfl,(by exact Nz.same (by(simp;rfl)))⟩,⟨_,rfl,(by exact Nz.same (by(simp;exact⟨rfl,rfl⟩)))⟩,trivial⟩ ⟨⟨_,rfl,rfl,rfl,rfl,(by exact .inr ⟨_,_,rfl,rfl,(by repeat(first|exact trivial|refine⟨(by exact Nz.own),?_⟩))⟩)⟩,⟨_,rfl,rfl,rfl,rfl,(by exact .inl ⟨rfl,(by exact P6 _)⟩)⟩,⟨_,rfl,rfl,rfl,rfl,(by exact .inl ⟨rfl,(by exact P5 _ _)⟩)⟩,trivial⟩ trivial)
 refine AF (id:=904) (p:=7) upE rfl call181 rfl rfl (by simp [upE];rfl) ?_;intro x hx1 hx2 hx3 hx4 hx5 hx6;refine(aAT l (.yld 904 0) (fun k=>(904,LR x upE)::upK l (W4 l k)) m hl hm (fun k=>rfl) (fun k=>rfl) ?_).mono ?_
 ·intro k hk;have hn:∀ j,j < l.length→(l.getD j sNil).size < 1099511627776:=fun j hj=>by rw [hs _ (mV hj)];decide
  have hnd:=fun H=>XR (l.getD (2*k) sNil) (l.getD (2*k+1) sNil) false H (hn _ (by omega)) (hn _ (by omega));simp only [Bool.false_eq_true,if_false] at hnd;obtain ⟨p0,p1⟩:=UV (W:=l) (j:=k) (by omega);have hfl:=W3 l k;refine .inl ⟨904,0,rfl,?_⟩;refine N7 [(3,.ref 3 0 0 0),(4,.pv (aU (yD l k)))] (upK l (W4 l k)) hx1 hx2 hx3 hx4 hx5 hx6 rfl rfl rfl ?_ ?_
  ·refine Rg<|Da ?_;exact(cC.wk (Ea<|Eb<|trivial) (Hc (jG (by intro p hp;simp only [upE,aL1,aL5,or_false] at hp;subst hp;simp only [oU];rfl))<|Hc (bV _ _)<|Ha<|Hc (P6 _)<|Hc (P5 _ _)<|trivial) ⟨rfl,rfl,rfl,rfl,rfl,trivial⟩)
  rw [aBA,aDq];refine aF<|aQ follows<|Cr [3] (fun _ h=>lh aJ h)<|Cr [] (fun _ _=>aI)<|Cr [] (fun H1 hH=>by exact bM rfl cO rfl rfl (by omega) (by exact aL0 _) p0 rfl)<|Cr [] (fun _ _=>(pG isAgg9 (hi:=p0)))<|Cr [] (fun _ _=>aI)<|Cr [] (fun H1 hH=>by exact bM rfl cO rfl rfl (by omega) (by exact aL0 _) p1 rfl)<|Cr [] (fun _ _=>(pG isAgg9 (hi:=p1)))<|Cr [] (fun H1 hH=>by exact aB rfl rfl call99 rfl (hnd _))<|Cr [] (fun H1 hH=>by exact aS [[.str (upA l k)]] rfl cO rfl rfl rfl rfl rfl (by intro r hr;rw [aLS] at hr;subst hr;rfl))<|Cp [905] (fun H1 hH=>by exact eK (ps:=[[.str (upA l k)]]) rfl cO TN rfl ((hH _ rfl).trans rfl) rfl rfl rfl (iR _) rfl (by intro r hr;rw [aLS] at hr;subst hr;rfl) (m:=1) rfl (by omega) rfl (kC (W4 l k) (upA l k))) ?_;refine Cp [3] (fun H1 hH=>by exact bQ rfl sizeOf22 rfl rfl rfl rfl ((hH _ rfl).trans rfl) rfl rfl rfl)<|bJ<|Kr ?_;exact⟨[(905,⟨(W4 l k).length+1,1,9,dO (W4 l k++[upA l k])⟩),(3,bx 1 22 [.osl 905 ((W4 l k).length+1) 0 ((W4 l k).length+1)]),(932,cNZ),(931,cSZ l)],(cC.wk trivial (Hc (jG (by intro p hp;simp only [upE,aL1,aL5,or_false] at hp;subst hp;simp only [oU];rfl))<|Hc (bV _ _)<|Ha<|Hc (P6 _)<|Hc (P5 _ _)<|trivial) ⟨rfl,rfl,rfl,rfl,rfl,trivial⟩),rfl,rfl⟩
 rintro r H' ⟨rfl,rfl⟩;refine⟨x,_,rfl,by rw [hx1];decide,rfl,fun z=>?_⟩;rw [hx2,aDp hl];obtain ⟨out,hout⟩:∃ out,out=OE l:=⟨_,rfl⟩;rw [← hout];have hol:(out.map encStr).length=out.length:=aLP _;refine fE.ent (cC.fzG (id:=905) (E':=[(3,.ref 3 0 0 0)]) (H':=[(3,bx 1 22 [.pv (aU out)])]) (out.map encStr) rfl (fU _) ?_ rfl ?_ ?_) ?_
 ·intro p hp;simp only [aL1,aL5,or_false] at hp;rcases hp with rfl;exact⟨_,rfl,.same (by simp;rfl)⟩
 ·refine⟨⟨_,rfl,rfl,rfl,rfl,nL rfl (cH (.osl ?_) nM)⟩,trivial⟩;rw [aL7,List.drop_zero,← hol,List.take_length]
 ·exact trivial
 exact Sr<|Dd (bL aJ)<|Dd aP<|Zz<|aC<|Rt<|Qq
def PN (s:ByteArray) (n k:Nat):List ByteArray:=(List.range n).map fun j=>if j < k then PO s j else sNil
theorem C3 (s:ByteArray) (n k:Nat):(PN s n k).length=n:=by simp [PN]
theorem PM (s:ByteArray) {n k j:Nat} (h:j < n):(PN s n k)[j]?=some (if j < k then PO s j else sNil):=by rw [PN,aL9,List.getElem?_range h];rfl
theorem aFA (s:ByteArray) {n k:Nat} (h:k < n):(PN s n k).set k (PO s k)=PN s n (k+1):=by
 apply List.ext_getElem?;intro j;by_cases hj:j < n
 ·rw [PM s hj];by_cases e:k=j
  ·subst e;rw [List.getElem?_set_self (by rw [C3];exact h),aLO (Nat.lt_succ_self _)]
  rw [List.getElem?_set_ne e,PM s hj];by_cases h1:j < k
  ·rw [aLO h1,aLO (by omega)]
  rw [aLN h1,aLN (by omega)]
 rw [List.getElem?_eq_none (by rw [List.length_set,C3];omega),List.getElem?_eq_none (by rw [C3];omega)]
theorem aCT (s:ByteArray) (n:Nat):PN s n 0=List.replicate n sNil:=by rw [PN];simp only [Nat.not_lt_zero,if_false];rw [List.map_const',List.length_range]
theorem aFB (s:ByteArray) (h:Nat):PN s (2 ^ h) (2 ^ h)=kM s h:=by rw [PN,kM];refine List.map_congr_left fun j hj=>?_;rw [aLO (List.mem_range.1 hj)]
theorem YY (n:Nat):dO (List.replicate n sNil)=List.replicate n [sv sNil]:=by rw [dO,List.map_replicate]
theorem YX (l:List ByteArray) (k:Nat) (x:ByteArray):(dO l).set k [sv x]=dO (l.set k x):=by rw [dO,dO,List.map_set]
theorem qA {h:Nat} (hh:h≤8):2 ^ h≤256:=Nat.pow_le_pow_right (by decide) hh
theorem aEF {h:Nat} (hh:h≤8):IntKind.i64.wrap (1*2 ^ ((h:Int)).toNat)=((2 ^ h:Nat):Int):=by have:=qA hh;rw [aL0,Int.one_mul,show (2:Int) ^ h=((2 ^ h:Nat):Int)by exact_mod_cast rfl];generalize 2 ^ h=n at this ⊢;rw [pO (by omega) (by omega)]
theorem X0 (s:ByteArray) (h:Nat) (H:aA) (hs:s.size < 1099511627776) (hh:h≤8):aG Tryz.prog 89 [sv s,iv (h:Int)] H (fun r H'=>r=.pv (aU (kM s h))∧H'=H):=by
 refine Pu ?_;have hp:=qA hh;have hz:=YY (2 ^ h);rw [← aCT s] at hz;rw [← aFB];obtain ⟨n,hn⟩:∃ n,n=2 ^ h:=⟨_,rfl⟩;have hsh:=aEF hh;rw [← hn] at hp hz hsh ⊢;refine Bd func89 rfl ntmps89<|Sr<|Dd aP<|Zz<|Sr<|Dd aI<|Dd (by exact CM rfl rfl rfl (by omega) (by simp [IntKind.bits];omega) hsh)<|Dd (by exact FL (id:=905) rfl cO TN zo9 rfl rfl rfl (by omega) (by omega) (aL0 _) (aL0 _) (by omega) rfl)<|Dd aP<|Zz<|Sq<|Sr<|Dd aI<|Dd (by exact dS rfl aD rfl rfl rfl)<|Dd aI<|Zz<|aF ?_;refine bR (σ:=Nat) (fun k=>([(0,sv s),(5,.osl 905 0 0 n),(11,iv (n:Int)),(12,iv (k:Int))],[(905,⟨0,1,9,dO (PN s n k)⟩)])) (fun k=>k≤n) (fun k=>n - k) 0 (aL6 _) ?_ ?_
 ·rw [hz];exact Wk
 intro k hk;have hln:=C3 s n k;refine Sr<|Dd dI<|Zz<|Sq ?_;refine Cn ?_ ?_<;>intro hc1
 ·have hlt:k < n:=by have:=aLL hc1;omega
  have hrow:(dO (PN s n k))[k]?=some [sv sNil]:=by
   rw [dO,aL9,PM s hlt,aLN (Nat.lt_irrefl _)];rfl
  have hset:(dO (PN s n k)).set k [sv (PO s k)]=dO (PN s n (k+1)):=by rw [YX,aFA s hlt]
  refine aE<|Sq<|aF<|Sr<|Dd aI<|Dd aP<|Zz<|Rg<|Dd aI<|Dd aI<|Dd aI<|Dd aI<|Dd (by exact aB rfl rfl call139 rfl (aHV s k _ hs (by omega)))<|Dd (by exact dH rfl cO rfl rfl rfl rfl rfl (by omega) (by exact aL0 _) (by omega) rfl)<|Uu (by exact aZ (r:=[sv sNil]) (r':=[sv (PO s k)]) (rows':=dO (PN s n (k+1))) rfl sizeOf9 rfl rfl rfl rfl rfl (by rw [aL7];exact hrow) (by simp) rfl (by rw [aL7];exact hset))<|Zz<|Rg<|Dd (by exact cA rfl rfl rfl (show IntKind.i64.wrap ((k:Int)+1)=((k+1:Nat):Int)by rw [pO (by omega) (by omega)];omega))<|Dd aI<|Zz ?_;exact⟨k+1,by omega,by omega,(cC.wk (Eb<|Ea<|Eb<|Eb<|trivial) (Hc (bV _ _)<|trivial) trivial)⟩
 have hge:k=n:=by have:=aLM hc1;omega
 subst hge;have htk:((PN s k k).map encStr).take k=(PN s k k).map encStr:=List.take_of_length_le (by rw [aLP,C3];exact aLV _);refine bG<|Sr<|Dd aI<|Dd aP<|Zz<|aC ?_;refine dF (H':=[]) (.inr rfl) rfl (aT rfl) (Fin.fz (r':=.pv (aU (PN s k k))) (id:=905) ((PN s k k).map encStr) rfl (fU _) (.osl (by rw [aL7,List.drop_zero,htk])) rfl trivial trivial) ?_;exact Qq
theorem T7 (s:ByteArray) (h:Nat) (H:aA) (hs:s.size < 1099511627776) (hh:h≤8):aG Tryz.prog 28 [sv s,iv (h:Int)] H (fun r H'=>r=.tup [sv (rA s h),iv 0]∧H'=H):=by
 refine Pu ?_;refine Bd func28 rfl ntmps28<|Sr<|Dd aP<|Dd aP<|Zz<|Sq<|Sq ?_;refine bC (t:=12) (n:=7) (X:=decide ((h:Int) < 0)||decide (8 < (h:Int))) ?_ ?_
 ·all_goals refine Dd aI ?_
  all_goals refine Dd dI<|Dm ?_
  all_goals refine Sp 9 (fun h9=>?_) fun h9=>?_
  all_goals try contradiction
  all_goals refine On aI<|On mU<|Dd cL<|Zz ?_
  all_goals(exact⟨⟨_,rfl,by rfl⟩,rfl,rfl,rfl⟩)
 refine Cn ?_ ?_<;>intro hc1
 ·have hb:=hc1;exact absurd (by simpa using hb) (show ¬ ((h:Int) < 0∨8 < (h:Int))by omega)
 refine aE<|Sr<|Dd aI<|Dd aI<|Dd (by exact aB rfl rfl call89 rfl (X0 s h _ hs hh))<|Dd aP<|Zz<|Sq<|aF ?_;refine jB (fun(j:Nat) (l:List ByteArray)=>([(6,.pv (aU l))],[])) (fun j l=>l.length=2 ^ j∧MN j l=rA s h∧(∀ t∈l,t.size=16)∧j≤8) (fun j l=>j) h (kM s h) ⟨uM s h,rfl,fun t ht=>rJ (zX s h t ht),hh⟩ ?_ ?_
 ·exact Wk
 rintro j l ⟨hl,hr,hz,hj⟩;have hml:(l.map encStr).length=l.length:=aLP _;have hp:=qA hj;refine Sq<|Sr<|Dd aI<|Dd (fW aD)<|Dd mU<|Zz ?_;refine Cn ?_ ?_<;>intro hc2
 ·have hlt:1 < l.length:=by have:=aLL hc2;omega
  obtain ⟨i,rfl⟩:∃ i,j=i+1:=by
   cases j with
   | zero=>rw [hl] at hlt;exact absurd hlt (by decide)
   | succ i=>exact⟨i,rfl⟩
  have hl2:l.length=2*2 ^ i:=by rw [hl,Nat.pow_succ,Nat.mul_comm]
  have hpi:=qA (h:=i) (by omega);refine aE<|aF<|Rg<|Dd aI<|Dd (by exact aB rfl rfl call90 rfl (YN l (2 ^ i) _ hl2 (by omega) hz))<|Da ?_;exact⟨i,OE l,⟨zM _ _ hl2,hr,fun t ht=>rJ (GQ _ _ (aLV _) t ht),by omega⟩,by omega,Wk⟩
 have hge:l.length≤1:=by have:=aLM hc2;omega
 have hj0:j=0:=by
  cases j with
  | zero=>rfl
  | succ i =>
   have:2 ^ (i+1)=2*2 ^ i:=by rw [Nat.pow_succ,Nat.mul_comm]
   have:0 < 2 ^ i:=Nat.two_pow_pos i;omega
 subst hj0;obtain ⟨a,rfl⟩:∃ a,l=[a]:=List.length_eq_one_iff.1 hl;have ha:a=rA s h:=hr;subst ha;have hi:([rA s h].map encStr)[0]?=some (encStr (rA s h)):=rfl;exact bG<|Sr<|Dd aI<|Dd (by exact bM rfl cO rfl rfl (by omega) (by exact aL0 _) hi rfl)<|Dd (pG isAgg9 (hi:=hi))<|Dd aP<|Dd aP<|Zz<|aC<|Ru<|Qq
abbrev HXJ:ByteArray:=⟨#[48,49,50,51,52,53,54,55,56,57,97,98,99,100,101,102]⟩
theorem aC2 {n:Nat} (h:n < 16):Lib.indexByte HXJ.data.toList (sD n).toNat.toUInt8=(n:Int):=by revert h;revert n;decide
theorem WF (m:ByteArray) {k:Nat} (hk:k < 16):dU (pU m) k=sD (M4 (Y6 m) k):=by have hb:=X6 (yL (Y6 m) k);have e:(pU m).data.toList=LM (Y6 m):=rfl;rw [dU,e,LM,aL9,List.getElem?_range hk];show ((UInt8.ofNat (sD (M4 (Y6 m) k)).toNat).toNat:Int)=_;rw [UInt8.toNat_ofNat',Nat.mod_eq_of_lt (by omega),Int.toNat_of_nonneg hb.1]
theorem aCo (m:ByteArray) {k:Nat} (hk:k < 16):(dJ m)[k]?=some (M4 (Y6 m) k):=by rw [dJ,aL9,List.getElem?_range hk];rfl
theorem aFS (m:ByteArray) {k:Nat} (hk:k < 16):(DS m).getD k 0=M4 (Y6 m) k:=by rw [List.getD_eq_getElem?_getD,DS,List.getElem?_append_left (by rw [zA];exact hk),aCo m hk];rfl
theorem aH5 (m:ByteArray):(DS m).getD 16 0=yA m / 16:=by rw [List.getD_eq_getElem?_getD,DS,List.getElem?_append_right (by rw [zA];exact aLV _),zA];rfl
theorem aH4 (m:ByteArray):(DS m).getD 17 0=yA m % 16:=by rw [List.getD_eq_getElem?_getD,DS,List.getElem?_append_right (by rw [zA];decide),zA];rfl
def AO (m:ByteArray) (k:Nat):Nat:=(((dJ m).take k).map (15 - ·)).sum
theorem UM (m:ByteArray) {k:Nat} (hk:k < 16):AO m (k+1)=AO m k+(15 - M4 (Y6 m) k):=by rw [AO,List.take_add_one,aCo m hk,List.map_append,List.sum_append];rfl
theorem aBZ (m:ByteArray) (k:Nat):AO m k≤240:=by
 have h:=H9 ((dJ m).take k);have h2:((dJ m).take k).length≤16:=by rw [aL3,zA];omega
 rw [AO];omega
theorem ZG (m:ByteArray):AO m 16=yA m:=by rw [AO,List.take_of_length_le (by rw [zA];exact aLV _),yA]
def JD (m:ByteArray):Ob:=bx 1 9 [sv m]
theorem NR (m:ByteArray) (H:aA) (h1:H.get 961=none):aG Tryz.prog 96 [sv m] H (fun r H'=>r=.clo 149 [.ref 961 0 0 0]∧H'=(961,JD m)::H):=by refine Bd func96 rfl ntmps96<|Sr<|Dd (by exact bZ (id:=961) rfl rfl rfl rfl h1)<|Dd aP<|Zz<|Sr<|Dd (by exact eY rfl rfl)<|Dd aP<|Zz<|aC ?_;refine dF (H':=((961,JD m)::H)) (.inr rfl) rfl (aT rfl) Fin.refl ?_;exact Qq
theorem NS (m:ByteArray) (fv:AV) (Hs:Nat→aA) (hm:m.size < 1099511627776) (h1:∀ k,(Hs k).get 961=some (JD m))
  (hy:∀ k:Nat,k < 18→cB Tryz.prog fv [iv (k:Int),iv (((DS m).getD k 0:Nat):Int)] (Hs k) (fun r H'=>r=bv true∧H'=Hs (k+1))) :
  aG Tryz.prog 149 [fv,.ref 961 0 0 0] (Hs 0) (fun r H'=>r=.tup []∧H'=Hs 18):=by
 have hsz:=iL m;have hsum:=fun H=>Q2 m H (by omega);have y16:=hy 16 (by decide);have y17:=hy 17 (by decide);have hle:=RH m;rw [aH5] at y16;rw [aH4] at y17;refine Bd func149 rfl ntmps149<|Sr<|Dd aP<|Zz<|Sr<|Dd (by exact aK rfl isAgg9 rfl (h1 0) rfl rfl rfl)<|Dd (by exact aB rfl rfl QL rfl (hsum _))<|Dd aP<|Zz<|Sq<|Sr<|Dd aI<|Dd (nV underlying9)<|Dd aI<|Zz<|aF ?_;refine bR (σ:=Nat) (fun k=>([(0,fv),(1,.ref 961 0 0 0),(3,iv (AO m k:Int)),(4,sv (pU m)),(10,iv 16),(11,iv (k:Int))],Hs k)) (fun k=>k≤16) (fun k=>16 - k) 0 (aL6 _) ?_ ?_
 ·rw [hsz];exact E0
 intro k hk;have hyk:=fun(h:k < 16)=>hy k (by omega);refine Sr<|Dd dI<|Zz<|Sq ?_;refine Cn ?_ ?_<;>intro hc1
 ·have hlt:k < 16:=by have:=aLL hc1;omega
  have hyk:=hyk hlt;rw [aFS m hlt] at hyk;have hnl:=yL (Y6 m) k;have hr1:=aBZ m k;have hr2:=UM m hlt;have hib:=fun H=>mT HXJ (sD (M4 (Y6 m) k)) H;rw [aC2 hnl] at hib;refine aE<|Sq<|aF<|Sr<|Dd aI<|Dd aP<|Zz<|Sr<|Dd aI<|Dd aI<|Dd (by exact eH rfl underlying9 rfl rfl (by omega) (aL0 _) (by omega) (WF m hlt))<|Dd (by exact aB rfl rfl tU rfl (hib _))<|Dd aP<|Zz<|Sr<|Dd aI<|Dd aI<|Dd (by exact eB rfl rfl rfl (show IntKind.i64.wrap (15 - (M4 (Y6 m) k:Int))=((15 - M4 (Y6 m) k:Nat):Int)by rw [pO (by omega) (by omega)];omega))<|Dd (by exact cA rfl rfl rfl (show IntKind.i64.wrap ((AO m k:Int)+((15 - M4 (Y6 m) k:Nat):Int))=(AO m (k+1):Int)by rw [pO (by omega) (by omega)];omega))<|Dd aP<|Zz<|Sr<|Dd aI<|Dd aI<|Dd aI<|Dd (by exact bY rfl rfl rfl (hyk))<|Dd lI<|Zz ?_;refine Cn ?_ ?_<;>intro hc2
  ·cases hc2
  refine aE<|Rg<|Dd (by exact cA rfl rfl rfl (show IntKind.i64.wrap ((k:Int)+1)=((k+1:Nat):Int)by rw [pO (by omega) (by omega)];omega))<|Dd aI<|Zz ?_;exact⟨k+1,by omega,by omega,E0⟩
 have hge:k=16:=by have:=aLM hc1;omega
 subst hge;rw [ZG];refine bG<|Sr<|Dd aI<|Dd aI<|Dd (by exact O9 rfl rfl rfl (by decide) (show IntKind.i64.wrap (((yA m:Nat):Int).tdiv 16)=((yA m / 16:Nat):Int)by rw [Int.tdiv_eq_ediv_of_nonneg (by omega),pO (by omega) (by omega)];omega))<|Dd (by exact bY rfl rfl rfl (y16))<|Zz ?_;refine Cn ?_ ?_<;>intro hc3
 ·refine Rg<|Dd aI<|Dd aI<|Dd (by exact aEe rfl rfl rfl (by decide) (show ((yA m:Nat):Int).tmod 16=((yA m % 16:Nat):Int)by rw [Int.tmod_eq_emod_of_nonneg (by omega)];omega))<|Dd (by exact bY rfl rfl rfl (y17))<|Zz ?_;exact pK (H':=Hs 18) (.inl rfl) rfl Fin.refl ⟨rfl,rfl⟩
 cases hc3
theorem aDf {a b:Nat} (ha:a < 4611686018427387904) (hb:b < 4611686018427387904):bits .xor .i64 (a:Int) (b:Int)=((a ^^^ b:Nat):Int):=by have h:=Nat.xor_lt_two_pow (n:=62) ha hb;have ha':a % 2 ^ IntKind.i64.bits=a:=Nat.mod_eq_of_lt (Nat.lt_of_lt_of_le ha (by decide));have hb':b % 2 ^ IntKind.i64.bits=b:=Nat.mod_eq_of_lt (Nat.lt_of_lt_of_le hb (by decide));simp only [bits,BitVec.ofInt_natCast,BitVec.toNat_xor,BitVec.toNat_ofNat,ha',hb'];rw [pO (by omega) (by omega)]
theorem aFT {p:Prop} [Decidable p] (h:¬ p):AV.pv (.bool (decide p))=bv false:=by rw [decide_eq_false h]
def ZE (s:ByteArray) (i:Nat) (m:ByteArray) (k:Nat):List ByteArray:=(List.range k).map fun k=>xR (jP s i k) ((DS m).getD k 0)
theorem aBT (s:ByteArray) (i:Nat) (m:ByteArray) (k:Nat):ZE s i m (k+1)=ZE s i m k++[xR (jP s i k) ((DS m).getD k 0)]:=by rw [ZE,List.range_succ,List.map_append];rfl
theorem aEH (s:ByteArray) (i:Nat) (m:ByteArray) (k:Nat):(ZE s i m k).length=k:=by simp [ZE]
theorem cD.eqJ {P:Program} {N:Nat} {o:Oper} {E:bN} {H H2:aA} {v v':AV} (h:cD P N o E H v H2) (e:v=v'):cD P N o E H v' H2:=e▸h
def sgE:bN:=[(4,.ref 4 0 0 0),(6,.ref 6 0 0 0),(10,.ref 10 0 0 0)]
def sgT (s:ByteArray) (i:Nat):aA:=[(8,bx 3 25 [iv 0,.pv (.sl []),.pv (.sl [])]),(6,bx 1 3 [iv (i:Int)]),(4,bx 1 9 [sv s])]
def sgK (s:ByteArray) (i:Nat) (m:ByteArray) (L:List ByteArray):aA:=[(905,⟨L.length,1,9,dO L⟩),(10,bx 3 25 [iv (i:Int),.osl 905 L.length 0 L.length,.pv .nils]),(961,JD m),(8,bx 3 25 [iv 0,.pv (.sl []),.pv (.sl [])]),(6,bx 1 3 [iv (i:Int)]),(4,bx 1 9 [sv s])]
theorem aEI (s:ByteArray) (i:Nat) (m:ByteArray) (L:List ByteArray) (x:ByteArray):sgK s i m (L++[x])=[(905,⟨L.length+1,1,9,dO (L++[x])⟩),(10,bx 3 25 [iv (i:Int),.osl 905 (L.length+1) 0 (L.length+1),.pv .nils]),(961,JD m),(8,bx 3 25 [iv 0,.pv (.sl []),.pv (.sl [])]),(6,bx 1 3 [iv (i:Int)]),(4,bx 1 9 [sv s])]:=by simp [sgK]
theorem uG (H:aA) (m:ByteArray):∀ r∈(JD m).rows,∀ a∈r,Clo H a:=by intro r hr a ha;simp only [JD,bx,aLS] at hr;subst hr;rw [aLS] at ha;subst ha;simp
theorem aED (s m:ByteArray) (h i:Nat) (H:aA) (hs:s.size < 1099511627776) (hm:m.size < 1099511627776) (hh:h≤8) (hi:i < 2 ^ h) :
  aG Tryz.prog 36 [sv s,iv (h:Int),iv (i:Int),sv m] H (fun r H'=>r=.tup [.agg [iv (i:Int),.pv (aU (CB s i m)),.pv (aU (lA h (kM s h) i))],iv 0]∧H'=H):=by
 refine Pu ?_;have hp:=qA hh;have hsh:=aEF hh;have hkeys:=fun H=>X0 s h H hs hh;have hkl:=uM s h;have hpath:∀ L,L=lA h (kM s h) i→True:=fun _ _=>trivial;refine Bd func36 rfl ntmps36<|Sr<|Dd (by exact bZ (id:=4) rfl rfl rfl rfl rfl)<|Dd (by exact bZ (id:=6) rfl rfl rfl rfl rfl)<|Dd (by exact bE (id:=8) rfl YS rfl rfl)<|Dd aP<|Zz<|Sq<|Sq<|aQ follows<|Cq aI<|Cq (by exact cD.eqJ (G3 rfl rfl rfl) (aFT (by omega)))<|Cq aI<|Nf aI<|Nf (by exact cD.eqJ (CR rfl rfl rfl) (aFT (by omega)))<|Cq cL<|Cq aI<|Nf (bL isAgg3)<|Nf (by exact cD.eqJ (G3 rfl rfl rfl) (aFT (by omega)))<|Cq cL<|Cq aI<|Nf (bL isAgg3)<|Nf aI<|Nf (by exact CM rfl rfl rfl (by omega) (by simp [IntKind.bits];omega) hsh)<|Nf (by exact cD.eqJ (CS rfl rfl rfl) (aFT (by omega)))<|Cq cL<|bJ<|Kr ?_;refine Cn ?_ ?_<;>intro hc1
 ·cases hc1
 refine aE<|Sr<|Dd (bL isAgg3)<|Dd (uS aJ6)<|Dd (by exact bE (id:=10) rfl YS rfl rfl)<|Uu (jK sizeOf25)<|Zz<|Sq<|Sr<|Dd aI<|Dd (by exact aB rfl rfl call96 rfl (NR m _ rfl))<|Zz<|aF ?_;refine fE.ent (E':=[(1,iv (h:Int)),(4,.ref 4 0 0 0),(6,.ref 6 0 0 0),(8,.ref 8 0 0 0),(10,.ref 10 0 0 0),(35,.clo 149 [.ref 961 0 0 0])]) (H':=sgK s i m []) ?_ ?_
 ·exact(cC.nz 905 1 9 rfl rfl ⟨⟨_,rfl,(by exact Nz.same (by(simp;done)))⟩,⟨_,rfl,(by exact Nz.same (by(simp;rfl)))⟩,⟨_,rfl,(by exact Nz.same (by(simp;rfl)))⟩,⟨_,rfl,(by exact Nz.same (by(simp;rfl)))⟩,⟨_,rfl,(by exact Nz.same (by(simp;rfl)))⟩,⟨_,rfl,(by exact Nz.same (by(simp;rfl)))⟩,trivial⟩ ⟨⟨_,rfl,rfl,rfl,rfl,(by exact .inr ⟨_,_,rfl,rfl,(by repeat(first|exact trivial|refine⟨(by first|exact Nz.own|exact Nz.same (by(simp;done))),?_⟩))⟩)⟩,⟨_,rfl,rfl,rfl,rfl,(by exact .inl ⟨rfl,(by exact uG _ _)⟩)⟩,⟨_,rfl,rfl,rfl,rfl,(by exact .inl ⟨rfl,(by(simp;done))⟩)⟩,⟨_,rfl,rfl,rfl,rfl,(by exact .inl ⟨rfl,(by(simp;done))⟩)⟩,⟨_,rfl,rfl,rfl,rfl,(by exact .inl ⟨rfl,(by(simp;done))⟩)⟩,trivial⟩ trivial)
 refine KA (id:=904) (p:=36) (p2:=37) sgE rfl call149 rfl rfl (by simp [sgE];exact⟨rfl,rfl,rfl⟩) ?_;intro x hx1 hx2 hx3 hx4 hx5 hx6;refine(NS m (.yld 904 0) (fun k=>(904,LR x sgE)::sgK s i m (ZE s i m k)) hm (fun k=>rfl) ?_).mono ?_
 ·intro k hk;have hd:=WA m _ (mV (d:=0) (by rw [HH];exact hk));have hst:=fun H=>W9 s i k H hs (by omega) (by omega);have hfl:=aEH s i m k;have hnx:=aBT s i m k;have hch:=fun H=>P3 (jP s i k) ((DS m).getD k 0) H (by rw [xX];decide) (by omega);obtain ⟨d,hdd⟩:∃ d,d=(DS m).getD k 0:=⟨_,rfl⟩;rw [← hdd] at hd hnx hch ⊢;refine .inl ⟨904,0,rfl,?_⟩;refine WW [(4,.ref 4 0 0 0),(6,.ref 6 0 0 0),(10,.ref 10 0 0 0),(11,iv (k:Int)),(12,iv (d:Int))] (sgK s i m (ZE s i m k)) hx1 hx2 hx3 hx4 hx5 hx6 rfl rfl rfl rfl rfl ?_ ?_
  ·refine Sr<|Dd aP<|Zz<|Rg<|Da ?_;exact(cC.wk (Ea<|Ea<|Ea<|Eb<|Eb<|trivial) (Hc (jG (by intro p hp;simp only [sgE,aL1,aL5,or_false] at hp;rcases hp with rfl|rfl|rfl<;>(simp only [oU];rfl)))<|Hc (bV _ _)<|Ha<|Hc (uG _ _)<|Hb<|Hb<|Hb<|trivial) ⟨rfl,rfl,rfl,rfl,rfl,rfl,rfl,trivial⟩)
  rw [hnx,aEI];refine aF<|aQ follows<|Cr [10] (fun _ h=>fh iK h)<|Cr [10] (fun _ h=>lh aJ h)<|Cr [4] (fun _ h=>lh isAgg9 h)<|Cr [6] (fun _ h=>lh isAgg3 h)<|Cr [] (fun _ _=>aI)<|Cr [] (fun H1 hH=>by exact aB rfl rfl call100 rfl (hst _))<|Cr [] (fun _ _=>aI)<|Cr [] (fun H1 hH=>by exact aB rfl rfl aKz rfl (hch _))<|Cr [] (fun H1 hH=>by exact aS [[.str (xR (jP s i k) d)]] rfl cO rfl rfl rfl rfl rfl (by intro r hr;rw [aLS] at hr;subst hr;rfl))<|Cp [905] (fun H1 hH=>by exact eK (ps:=[[.str (xR (jP s i k) d)]]) rfl cO TN rfl ((hH _ rfl).trans rfl) rfl rfl rfl (iR _) rfl (by intro r hr;rw [aLS] at hr;subst hr;rfl) (m:=1) rfl (by omega) rfl (kC (ZE s i m k) (xR (jP s i k) d)))<|Cr [10] (fun _ h=>fh iK h)<|Cp [10] (fun H1 hH=>by exact aZ rfl sizeOf22 rfl rfl rfl ((hH _ rfl).trans rfl) rfl rfl (by simp only [aLR,List.length_nil];omega) (by simp only [Zl,encStr];rfl) (by simp only [Zl,encStr];rfl)) ?_;refine bJ<|Kr ?_;exact⟨[(905,⟨(ZE s i m k).length+1,1,9,dO (ZE s i m k++[xR (jP s i k) d])⟩),(10,bx 3 25 [iv (i:Int),.osl 905 ((ZE s i m k).length+1) 0 ((ZE s i m k).length+1),.pv .nils]),(961,JD m),(8,bx 3 25 [iv 0,.pv (.sl []),.pv (.sl [])]),(6,bx 1 3 [iv (i:Int)]),(4,bx 1 9 [sv s])],(cC.wk trivial (Hc (jG (by intro p hp;simp only [sgE,aL1,aL5,or_false] at hp;rcases hp with rfl|rfl|rfl<;>(simp only [oU];rfl)))<|Hc (bV _ _)<|Ha<|Hc (uG _ _)<|Hb<|Hb<|Hb<|trivial) ⟨rfl,rfl,rfl,rfl,rfl,rfl,rfl,trivial⟩),rfl,rfl⟩
 rintro r H' ⟨rfl,rfl⟩;refine⟨x,_,rfl,by rw [hx1];decide,rfl,fun z=>?_⟩;rw [hx2,show ZE s i m 18=CB s i m from rfl];obtain ⟨S,hS⟩:∃ S,S=CB s i m:=⟨_,rfl⟩;rw [← hS];have hol:(S.map encStr).length=S.length:=aLP _;refine fE.ent (cC.fzG (id:=905) (E':=[(1,iv (h:Int)),(4,.ref 4 0 0 0),(6,.ref 6 0 0 0),(8,.ref 8 0 0 0),(10,.ref 10 0 0 0)]) (H':=(10,bx 3 25 [iv (i:Int),.pv (aU S),.pv .nils])::sgT s i) (S.map encStr) rfl (fU _) ?_ rfl ?_ ?_) ?_
 ·intro p hp;simp only [aL1,aL5,or_false] at hp;rcases hp with rfl|rfl|rfl|rfl|rfl
  ·exact⟨_,rfl,.same (by simp)⟩
  ·exact⟨_,rfl,.same (by simp;rfl)⟩
  ·exact⟨_,rfl,.same (by simp;rfl)⟩
  ·exact⟨_,rfl,.same (by simp;rfl)⟩
  exact⟨_,rfl,.same (by simp;rfl)⟩
 ·refine⟨⟨_,rfl,rfl,rfl,rfl,nL rfl (cH (.same (by simp)) (cH (.osl ?_) (cH (.same (by simp)) nM)))⟩,⟨_,rfl,rfl,rfl,rfl,fT (by simp)⟩,⟨_,rfl,rfl,rfl,rfl,fT (by simp)⟩,⟨_,rfl,rfl,rfl,rfl,fT (by simp)⟩,trivial⟩;rw [aL7,List.drop_zero,← hol,List.take_length]
 ·exact trivial
 refine Sq<|Sq<|aQ follows<|Cq (bL isAgg9)<|Cq aI<|Cq (by exact aB rfl rfl call89 rfl (hkeys _))<|Cq (bL isAgg3)<|Cq aP<|Cq aP<|bJ<|Kr<|aF ?_;refine fE.ent (E':=[(8,.ref 8 0 0 0),(10,.ref 10 0 0 0),(13,.pv (aU (kM s h))),(14,iv (i:Int))]) (H':=(906,⟨0,1,9,[]⟩)::(10,bx 3 25 [iv (i:Int),.pv (aU S),.osl 906 0 0 0])::sgT s i) ?_ ?_
 ·exact(cC.nz 906 1 9 rfl rfl ⟨⟨_,rfl,(by exact Nz.same (by(simp;rfl)))⟩,⟨_,rfl,(by exact Nz.same (by(simp;rfl)))⟩,⟨_,rfl,(by exact Nz.same (by(simp;done)))⟩,⟨_,rfl,(by exact Nz.same (by(simp;done)))⟩,trivial⟩ ⟨⟨_,rfl,rfl,rfl,rfl,(by exact .inr ⟨_,_,rfl,rfl,(by repeat(first|exact trivial|refine⟨(by first|exact Nz.own|exact Nz.same (by(simp;done))),?_⟩))⟩)⟩,⟨_,rfl,rfl,rfl,rfl,(by exact .inl ⟨rfl,(by(simp;done))⟩)⟩,⟨_,rfl,rfl,rfl,rfl,(by exact .inl ⟨rfl,(by(simp;done))⟩)⟩,⟨_,rfl,rfl,rfl,rfl,(by exact .inl ⟨rfl,(by(simp;done))⟩)⟩,trivial⟩ trivial)
 refine N0 (fun(j:Nat) (l:List ByteArray) (q:Nat) (A:List ByteArray)=>([(8,.ref 8 0 0 0),(10,.ref 10 0 0 0),(13,.pv (aU l)),(14,iv (q:Int))],[(906,⟨A.length,1,9,dO A⟩),(10,bx 3 25 [iv (i:Int),.pv (aU S),.osl 906 A.length 0 A.length]),(8,bx 3 25 [iv 0,.pv (.sl []),.pv (.sl [])]),(6,bx 1 3 [iv (i:Int)]),(4,bx 1 9 [sv s])]))
  (fun j l q A=>l.length=2 ^ j∧q < 2 ^ j∧A++lA j l q=lA h (kM s h) i∧(∀ t∈l,t.size=16)∧j≤8∧A.length+j≤8) (fun j l q A=>j) h (kM s h) i [] ⟨hkl,hi,rfl,fun t ht=>rJ (zX s h t ht),hh,by rw [List.length_nil];omega⟩ ?_ ?_
 ·exact(cC.wk (Ea<|Ea<|Eb<|Eb<|trivial) (Hc (bV _ _)<|Ha<|Hb<|Hb<|Hb<|trivial) trivial)
 rintro j l q A ⟨hl,hq,hr,hz,hj,hA⟩;have hml:(l.map encStr).length=l.length:=aLP _;have hpj:=qA hj;refine Sq<|Sr<|Dd aI<|Dd (fW aD)<|Dd mU<|Zz ?_;refine Cn ?_ ?_<;>intro hc2
 ·have hlt:1 < l.length:=by have:=aLL hc2;omega
  obtain ⟨u,rfl⟩:∃ u,j=u+1:=by
   cases j with
   | zero=>rw [hl] at hlt;exact absurd hlt (by decide)
   | succ u=>exact⟨u,rfl⟩
  have hl2:l.length=2*2 ^ u:=by rw [hl,Nat.pow_succ,Nat.mul_comm]
  have hpu:=qA (h:=u) (by omega);have hq2:q / 2 < 2 ^ u:=by rw [Nat.pow_succ] at hq;omega
  have hx:=N8 q;have hxl:q ^^^ 1 < l.length:=by
   rw [hx]
   split<;>omega
  have hix:(l.map encStr)[q ^^^ 1]?=some (encStr (l.getD (q ^^^ 1) sNil)):=by
   rw [aL9,List.getD_eq_getElem?_getD,aLU hxl];rfl
  have hr2:(A++[l.getD (q ^^^ 1) sNil])++lA u (OE l) (q / 2)=lA h (kM s h) i:=by
   rw [← hr,List.append_assoc];rfl
  obtain ⟨e,he⟩:∃ e,e=l.getD (q ^^^ 1) sNil:=⟨_,rfl⟩;obtain ⟨y,hy⟩:∃ y,y=q ^^^ 1:=⟨_,rfl⟩;have hxo:=aDf (a:=q) (b:=1) (by omega) (by decide);rw [← he] at hix hr2;rw [← hy] at hix hxo hxl;have hnl:(A++[e]).length=A.length+1:=by rw [aLQ];rfl
  refine aE<|Sq<|aF<|aQ follows<|Cr [10] (fun _ h=>fh mI h)<|Cr [10] (fun _ h=>lh aJ h)<|Cr [] (fun _ _=>aI)<|Cr [] (fun _ _=>aI)<|Cr [] (fun H1 hH=>by exact pE rfl (by simp) rfl rfl hxo)<|Cr [] (fun H1 hH=>by exact bM rfl cO rfl rfl (by omega) (by exact aL0 _) hix rfl)<|Cr [] (fun _ _=>(pG isAgg9 (hi:=hix)))<|Cr [] (fun H1 hH=>by exact aS [[.str e]] rfl cO rfl rfl rfl rfl rfl (by intro r hr;rw [aLS] at hr;subst hr;rfl))<|Cp [906] (fun H1 hH=>by exact eK (ps:=[[.str e]]) rfl cO TN rfl ((hH _ rfl).trans rfl) rfl rfl rfl (iR _) rfl (by intro r hr;rw [aLS] at hr;subst hr;rfl) (m:=1) rfl (by omega) rfl (kC A e))<|Cr [10] (fun _ h=>fh mI h)<|Cp [10] (fun H1 hH=>by exact aZ rfl sizeOf22 rfl rfl rfl ((hH _ rfl).trans rfl) rfl rfl (by simp only [aLR,List.length_nil];omega) (by simp only [Zl,encStr];rfl) (by simp only [Zl,encStr];rfl)) ?_;refine bJ<|Kr<|Rg<|Dd aI<|Dd (by exact aB rfl rfl call90 rfl (YN l (2 ^ u) _ hl2 (by omega) hz))<|Dd aI<|Dd (by exact O9 rfl rfl rfl (by decide) (show IntKind.i64.wrap ((q:Int).tdiv 2)=((q / 2:Nat):Int)by rw [Int.tdiv_eq_ediv_of_nonneg (by omega),pO (by omega) (by omega)];omega))<|Dd aP<|Da ?_;refine⟨u,OE l,q / 2,A++[e],⟨zM _ _ hl2,hq2,hr2,fun t ht=>rJ (GQ _ _ (aLV _) t ht),by omega,by omega⟩,by omega,?_⟩;dsimp only;rw [hnl];exact(cC.wk (Ea<|Ea<|Eb<|Eb<|trivial) (Hc (bV _ _)<|Ha<|Hb<|Hb<|Hb<|trivial) trivial)
 have hge:l.length≤1:=by have:=aLM hc2;omega
 have hj0:j=0:=by
  cases j with
  | zero=>rfl
  | succ u =>
   have:2 ^ (u+1)=2*2 ^ u:=by rw [Nat.pow_succ,Nat.mul_comm]
   have:0 < 2 ^ u:=Nat.two_pow_pos u;omega
 subst hj0;have hA2:A=lA h (kM s h) i:=by rw [← hr,lA,List.append_nil]
 have hal:(A.map encStr).length=A.length:=aLP _;rw [← hA2];refine bG<|Sq ?_;refine fE.ent (cC.fzG (id:=906) (E':=[(8,.ref 8 0 0 0),(10,.ref 10 0 0 0)]) (H':=(10,bx 3 25 [iv (i:Int),.pv (aU S),.pv (aU A)])::sgT s i) (A.map encStr) rfl (fU _) ?_ rfl ?_ ?_) ?_
 ·intro p hp;simp only [aL1,aL5,or_false] at hp;rcases hp with rfl|rfl
  ·exact⟨_,rfl,.same (by simp;rfl)⟩
  exact⟨_,rfl,.same (by simp;rfl)⟩
 ·refine⟨⟨_,rfl,rfl,rfl,rfl,nL rfl (cH (.same (by simp)) (cH (.same (by simp)) (cH (.osl ?_) nM)))⟩,⟨_,rfl,rfl,rfl,rfl,fT (by simp)⟩,⟨_,rfl,rfl,rfl,rfl,fT (by simp)⟩,⟨_,rfl,rfl,rfl,rfl,fT (by simp)⟩,trivial⟩;rw [aL7,List.drop_zero,← hal,List.take_length]
 ·exact trivial
 refine Rg<|Dd (by exact aL rfl dX sizeOf25 rfl rfl rfl rfl (by simp only [Zl,encStr];rfl) rfl)<|Uu (jK sizeOf25)<|Dd aP<|Zz<|aC ?_;refine rT (H':=[]) (.inr rfl) rfl (eU rfl dX sizeOf25 rfl rfl rfl (by simp only [Zl,encStr];rfl) rfl) (aT rfl) (Fin.wk (by simp) trivial trivial) ?_;exact Qq
end Go.Proofs.YtiifmppaejpemaaGreatDoor
namespace Go.Abs
open Go.RowKit
theorem Rel.below {I:Nat→Prop} {ι:dR} {H:aA} {w w':World} (hb:Below w.heap.size w w') (hr:Rel I ι H w):Rel I ι H w'∧Step I ι H w I ι H w':=by
 have hk:∀ b,b < w.heap.size→w'.heap[b]?=w.heap[b]?:=hb.block;have hst:Step I ι H w I ι H w':=by
  refine⟨hb.os,hb.tape,hb.output,hb.size,fun a ha _=>?_,fun _ h=>h,fun _ h=>.inl h,fun _ h=>.inl h,fun b hb _=>hk b hb,fun _ o h=>⟨o,h,aLV _,fun _=>⟨rfl,rfl,fun _=>aLV _⟩⟩⟩;unfold World.frozen?;rw [hk _ ha]
 refine⟨⟨fun b h=>?_,fun j o hj=>?_,hr.inj,hst.glob hr⟩,hst⟩
 ·have:=hr.imm b h;have:=hb.size;omega
 exact(hr.obj j o hj).keep rfl (fun b c _ hb=>⟨hk b hb,fun h=>h⟩) (fun r _ a _ v hv=>hv.mono hr hst)
end Go.Abs
namespace Go.Abs
open Go.Proofs
def aGC (v:Value):Prop:=∃ t p,v=.iface t p
abbrev aAJ:PV:=.sat aGC
def lO (s:ByteArray):Int×PV:=match Lib.atoiAll s.data.toList with
 | .ok v=>(v,EL)
 | .range=>(Lib.atoiSat s.data.toList,aAJ)
 | _=>(0,aAJ)
theorem atoi_c {P:Program} {ρ:Shelf.Ren} (L:LaysC.n172 P ρ) {G1 G2:Nat} (hg1:(G1,GV.face)∈PT) (hn1:P.globalNamed "strconv.ErrSyntax" = some G1) (hg2:(G2,GV.face)∈PT) (hn2:P.globalNamed "strconv.ErrRange" = some G2) (s:ByteArray) (hs:s.size < 1099511627776) (H:aA) :
  aG P (ρ.f 172) [.pv (.str s)] H (fun r H'=>r=.tup [.pv (.int .i64 (lO s).1),.pv (lO s).2]∧H'=H):=by
 intro I ι w vs hr hvl hv;obtain ⟨v,rfl⟩:∃ v,vs=#[v]:=by
  match vs,hvl with
  | ⟨[v]⟩,_=>exact⟨v,rfl⟩
 have e1:=(hv 0 v _ rfl rfl).str_inv;subst e1;have hvar:∀ (name:String) (G:Nat),(G,GV.face)∈PT→P.globalNamed name=some G→∃ t p,w.var? P name=some #[.iface t p]:=fun name G hg hn=>by
  obtain ⟨_,cs,t,f,h2,q,p,h3⟩:=hr.glob _ hg;subst h3;exact⟨q,p,by simp only [World.var?,hn,Option.bind_some,h2]⟩
 have fin:∀ (n:Int) (x:Value) (a:PV) (w':World),RowKit.Below w.heap.size w w'→(∀ I H,VRel w' I ι H x (.pv a))→∃ r H' I' ι' v',(Ending.returned (.tuple #[.int .i64 n,x]))=.returned v'∧(r=.tup [.pv (.int .i64 n),.pv a]∧H'=H)∧VRel w' I' ι' H' v' r∧Rel I' ι' H' w'∧Step I ι H w I' ι' H' w':=fun n x a w' hb hx=>by
  obtain ⟨k1,k2⟩:=Rel.below hb hr;refine⟨_,_,I,ι,_,rfl,⟨rfl,rfl⟩,.tup rfl fun i v b h1 h2=>?_,k1,k2⟩
  match i,h1,h2 with
  | 0,h1,h2=>cases h1;cases h2;exact .pv (.int _ _)
  | 1,h1,h2=>cases h1;cases h2;exact hx _ _
  | i+2,h1,h2=>simp at h1
 rw [lO];cases h:Lib.atoiAll s.data.toList with
 | ok n =>
  refine(Any.strconv_Atoi_ok L s (by omega) n h w).mono ?_;rintro e w' ⟨rfl,hw⟩;have hb:RowKit.Below w.heap.size w w':=by
   rcases hw with rfl|⟨t,rfl⟩
   ·exact RowKit.Below.refl _ _
   exact Lib.bytesWorld_below w _ t
  exact fin n .nilIface EL w' hb (fun _ _=>.pv (.sat rfl rfl))
 | range =>
  obtain ⟨t,p,hq⟩:=hvar _ G2 hg2 hn2;refine(Any.strconv_Atoi_range_var L s (by omega) h t p w hq).mono ?_;rintro e w' ⟨N,rfl,_,_,hb⟩;exact fin _ _ aAJ w' hb (fun _ _=>.pv (.sat rfl ⟨_,_,rfl⟩))
 | _ =>
  obtain ⟨t,p,hq⟩:=hvar _ G1 hg1 hn1;refine(Any.strconv_Atoi_syntax_var L s (by omega) h t p w hq).mono ?_;rintro e w' ⟨N,rfl,_,_,hb⟩;exact fin 0 _ aAJ w' hb (fun _ _=>.pv (.sat rfl ⟨_,_,rfl⟩))
theorem T1 {P:Program} {ρ:Shelf.Ren} (L:Lays.n160 P ρ) (h116:(P.info? (ρ.t 116)).map (fun i=>(i.zero,i.size))=some (some (.agg (Array.replicate 256 (.bool false))),256)) (s c:ByteArray) (hs:s.size≤9223372036854775807) (hcs:c.size < 4294967281)
  (ha:∀ (j:Nat) b,c.data.toList[j]?=some b→b.toNat < 128) (H:aA) :
  aG P (ρ.f 160) [.pv (.str s),.pv (.str c)] H (fun r H'=>r=.pv (.str ⟨(Lib.trimS s.data.toList c.data.toList).toArray⟩)∧H'=H):=by
 intro I ι w vs hr hvl hv;obtain ⟨v,u,rfl⟩:∃ v u,vs=#[v,u]:=by
  match vs,hvl with
  | ⟨[v,u]⟩,_=>exact⟨v,u,rfl⟩
 have e1:=(hv 0 v _ rfl rfl).str_inv;have e2:=(hv 1 u _ rfl rfl).str_inv;subst e1 e2;refine(Any.strings_Trim_laid L h116 s c w hs hcs ha).mono ?_;rintro e w' ⟨rfl,hb⟩;obtain ⟨k1,k2⟩:=Rel.below hb hr;exact⟨_,_,I,ι,_,rfl,⟨rfl,rfl⟩,.pv (.str _),k1,k2⟩
end Go.Abs
section
namespace Go.Proofs
open Go.RowKit Go.Sort Go.Shelf
def aLE:Go.Shelf.Ren:=⟨fun|160=>93|232=>143|231=>142|227=>144|234=>146|233=>145|236=>148|235=>147|228=>183|271=>186|151=>185|197=>184|120=>219|152=>218|260=>217|137=>150|119=>252|224=>228|225=>227|217=>187|266=>220|n=>n,fun|9=>9|4=>4|3=>3|5=>5|117=>171|116=>170|0=>0|124=>174|21=>21|105=>200|46=>128|119=>160|139=>260|138=>259|n=>n,fun|3=>3|4=>4|n=>n⟩
theorem aLK:Go.Proofs.Lays.n160 Tryz.prog aLE:={
  mixed:=by kernel_rfl
  f119:=Tryz.func252.trans (congrArg some (by kernel_rfl))
  f120:=Tryz.func219.trans (congrArg some (by kernel_rfl))
  f137:=Tryz.func150.trans (congrArg some (by kernel_rfl))
  f151:=Tryz.func185.trans (congrArg some (by kernel_rfl))
  f152:=Tryz.func218.trans (congrArg some (by kernel_rfl))
  f160:=Tryz.func93.trans (congrArg some (by kernel_rfl))
  f197:=Tryz.func184.trans (congrArg some (by kernel_rfl))
  f217:=Tryz.func187.trans (congrArg some (by kernel_rfl))
  f224:=Tryz.func228.trans (congrArg some (by kernel_rfl))
  f225:=Tryz.func227.trans (congrArg some (by kernel_rfl))
  f227:=Tryz.func144.trans (congrArg some (by kernel_rfl))
  f228:=Tryz.func183.trans (congrArg some (by kernel_rfl))
  f231:=Tryz.func142.trans (congrArg some (by kernel_rfl))
  f232:=Tryz.func143.trans (congrArg some (by kernel_rfl))
  f233:=Tryz.func145.trans (congrArg some (by kernel_rfl))
  f234:=Tryz.func146.trans (congrArg some (by kernel_rfl))
  f235:=Tryz.func147.trans (congrArg some (by kernel_rfl))
  f236:=Tryz.func148.trans (congrArg some (by kernel_rfl))
  f260:=Tryz.func217.trans (congrArg some (by kernel_rfl))
  f266:=Tryz.func220.trans (congrArg some (by kernel_rfl))
  f271:=Tryz.func186.trans (congrArg some (by kernel_rfl))
  t0:=aDV
  a0:=aKy
  z0:=aKf
  v0:=aFl
  t3:=Tryz.underlying3
  a3:=Tryz.isAgg3
  z3:=Tryz.sizeOf3
  v3:=zI
  t4:=dN
  a4:=rZ
  z4:=Tryz.sizeOf4
  v4:=zH
  t5:=jL
  a5:=xM
  z5:=bS
  v5:=KO
  t9:=Tryz.underlying9
  a9:=Tryz.isAgg9
  z9:=Tryz.sizeOf9
  v9:=qS
  t21:=Tryz.underlying21
  a21:=Tryz.isAgg21
  z21:=Tryz.sizeOf21
  v21:=Tryz.zeroValue21
  t46:=B0
  a46:=TU
  z46:=QH
  v46:=DU
  t105:=Tryz.underlying200
  a105:=Tryz.isAgg200
  z105:=Tryz.sizeOf200
  v105:=Tryz.zeroValue200
  t116:=Tryz.underlying170
  a116:=Tryz.isAgg170
  z116:=Tryz.sizeOf170
  t117:=Tryz.underlying171
  a117:=Tryz.isAgg171
  z117:=Tryz.sizeOf171
  v117:=Tryz.zeroValue171
  t119:=eF
  a119:=aJg
  z119:=tO
  t124:=Tryz.underlying174
  a124:=Tryz.isAgg174
  z124:=Tryz.sizeOf174
  v124:=Tryz.zeroValue174
  t138:=Tryz.underlying259
  a138:=Tryz.isAgg259
  z138:=Tryz.sizeOf259
  v138:=Tryz.zeroValue259
  t139:=Tryz.underlying260
  a139:=Tryz.isAgg260
  z139:=Tryz.sizeOf260
  v139:=Tryz.zeroValue260
  g3:=by kernel_rfl
  g4:=by kernel_rfl}
end Go.Proofs
namespace Go.Proofs.YtiifmppaejpemaaGreatDoor
open Go.Proofs.Tryz
open Go.Abs
abbrev HXT:ByteArray:=⟨#[48,49,50,51,52,53,54,55,56,57,97,98,99,100,101,102]⟩
theorem aHY (b:UInt8):HXT.data.toList.contains b=SC b:=by
 have h:∀ n:Fin 256,HXT.data.toList.contains (UInt8.ofNat n.1)=SC (UInt8.ofNat n.1):=by decide +kernel
 have:=h ⟨b.toNat,b.toNat_lt⟩
 simpa using this
theorem tL {α:Type} (p:α→Bool):∀ l:List α,l.dropWhile p=[]↔l.all p=true
 | []=>by simp
 | a::r=>by
  rw [List.dropWhile_cons,List.all_cons];cases h:p a with
  | true=>rw [aLO rfl,Bool.true_and];exact tL p r
  | false=>rw [aLN (by decide)];simp
theorem AY {α:Type} {p q:α→Bool}:∀ {l:List α},(l.dropWhile p).all q=true→(∀ a,p a=true→q a=true)→l.all q=true
 | [],_,_=>rfl
 | a::r,h,hpq=>by
  rw [List.dropWhile_cons] at h;cases hp:p a with
  | true =>
   rw [hp,aLO rfl] at h;rw [List.all_cons,hpq a hp,Bool.true_and];exact AY h hpq
  | false =>
   rw [hp,aLN (by decide)] at h;exact h
theorem aBD (l:List UInt8):Lib.trimS l HXT.data.toList=[]↔l.all SC=true:=by
 have e:(fun b=>HXT.data.toList.contains b)=SC:=funext aHY;unfold Lib.trimS Lib.trimLeftS Lib.trimRightS;rw [e,tL];constructor
 ·intro h;rw [List.all_reverse] at h;have h2:=AY h (fun a ha=>ha)
  rwa [List.all_reverse] at h2
 intro h;have h2:(l.reverse.dropWhile SC)=[]:=(tL _ _).2 (by rw [List.all_reverse];exact h);rw [h2];rfl
theorem aDs (s:ByteArray) (hs:s.size < 1099511627776) (H:aA):aG Tryz.prog 93 [sv s,sv HXT] H (fun r H'=>r=sv ⟨(Lib.trimS s.data.toList HXT.data.toList).toArray⟩∧H'=H) :=T1 aLK (by kernel_rfl) s HXT (by omega) (by decide) (ascii_of_all (by decide)) H
theorem X3 (s:ByteArray) (hs:s.size < 1099511627776) (H:aA):aG Tryz.prog 31 [sv s] H (fun r H'=>r=bv (isJ s)∧H'=H):=by
 refine Pu ?_;have htr:=fun H=>aDs s hs H;have hn:=aBD s.data.toList;obtain ⟨t,ht⟩:∃ t,t=Lib.trimS s.data.toList HXT.data.toList:=⟨_,rfl⟩;rw [← ht] at htr hn;have hb:isJ s=(decide ((s.size:Int)=16)&&decide ((⟨t.toArray⟩:ByteArray)=sNil)):=by
  rw [isJ];congr 1
  ·exact decide_eq_decide.2 (by omega)
  have h2:((⟨t.toArray⟩:ByteArray)=sNil)↔t=[]:=by
   constructor
   ·intro h;have:=congrArg (fun b:ByteArray=>b.data.toList) h
    simpa using this
   intro h;rw [h]
  cases h3:s.data.toList.all SC with
  | true=>exact(decide_eq_true (h2.2 (hn.2 h3))).symm
  | false=>exact(decide_eq_false (fun h=>by rw [hn.1 (h2.1 h)] at h3;cases h3)).symm
 clear ht hn;refine Bd func31 rfl ntmps31<|Sr<|Dd aP<|Zz<|Sq ?_;refine bC (t:=2) (n:=10) (X:=isJ s) ?_ ?_
 ·all_goals refine Dd aI ?_
  all_goals refine Dd (nV underlying9)<|Dd dC<|Dm ?_
  all_goals refine Sp 6 (fun h6=>?_) fun h6=>?_
  all_goals try contradiction
  all_goals first|refine Fo<|Fo<|Fo ?_|refine On aI<|On (by exact aB rfl rfl call93 rfl (htr _))<|On AJ ?_
  all_goals refine Dd cL<|Da ?_
  all_goals(exact⟨⟨_,rfl,by(rw [hb,h6];rfl)⟩,rfl,rfl,rfl⟩)
 exact aC<|Rt<|Qq
end Go.Proofs.YtiifmppaejpemaaGreatDoor
end
