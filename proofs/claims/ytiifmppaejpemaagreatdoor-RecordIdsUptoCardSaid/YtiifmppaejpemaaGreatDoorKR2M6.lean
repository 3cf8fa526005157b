/-
  Parts of the proof: rules of an abstract program logic, contracts of functions, plain laws. Conditions: each theorem's own.
-/
import Derived.Test.YtiifmppaejpemaaGreatDoorKR2M5
import Derived.Lib.ItoaLen
import Derived.Laws.BitsLemmas
import Derived.Below
import Derived.Shelf.Strconv.ErrVarAll
import Derived.Shelf.Strconv.AtoiAll
import Derived.Shelf.LaysC
import Derived.Shelf.Strings.SlTrimAscii
import Derived.Shelf.Lays
import Derived.Ground.NamesProg
set_option linter.unusedVariables false
set_option linter.unusedSimpArgs false
set_option maxRecDepth 100000
set_option maxHeartbeats 8000000
namespace Go.Proofs
theorem oO:type_of% Tryz.call113:=Tryz.call113
theorem mK:type_of% Tryz.call114:=Tryz.call114
theorem kJ:type_of% Tryz.call115:=Tryz.call115
theorem mJ:type_of% Tryz.call116:=Tryz.call116
theorem oN:type_of% Tryz.call168:=Tryz.call168
theorem AQ:type_of% Tryz.call42:=Tryz.call42
theorem aNl:type_of% Tryz.call97:=Tryz.call97
theorem S7:type_of% Tryz.call98:=Tryz.call98
theorem aNP:type_of% Tryz.func168:=Tryz.func168
theorem fM:type_of% Tryz.isAgg25:=Tryz.isAgg25
theorem aMC:type_of% Tryz.ntmps168:=Tryz.ntmps168
end Go.Proofs
namespace Go.Proofs.YtiifmppaejpemaaGreatDoor
open Go.Proofs.Tryz
open Go.Abs
def vP (s:ByteArray) (k:Nat):UInt8:=(s.data.toList[k]?).getD 0
theorem uH (s:ByteArray) (k:Nat):dB s k=((vP s k).toNat:Int):=rfl
def mV (b:UInt8):List UInt8:=if b=10 then[92,110] else if b=34∨b=92 then[92,b] else[b]
def eC (l:List UInt8):List UInt8:=34::(l.flatMap mV++[34])
theorem aHW (b:UInt8):(mV b).length≤2:=by
 unfold mV
 split
 ·exact aOF _
 split
 ·exact aOF _
 exact Nat.le_succ _
theorem VD (l:List UInt8):(l.flatMap mV).length≤2*l.length:=by
 induction l with
 | nil=>exact aOQ _
 | cons b l ih =>
  rw [List.flatMap_cons,aOA,aOB];have:=aHW b;omega
theorem aCo {s:ByteArray} {k:Nat} (h:k < s.size):s.data.toList.take (k+1)=s.data.toList.take k++[vP s k]:=by
 have hk:k < s.data.toList.length:=by simpa using h
 rw [List.take_add_one,aOE hk,vP,aOE hk];rfl
theorem KK {b:UInt8} {n:Nat} (hn:n < 256):decide ((b.toNat:Int)=(n:Int))=decide (b=UInt8.ofNat n):=by
 rw [Bool.eq_iff_iff,aOG,aOG];constructor
 ·intro h;have:b.toNat=n:=by omega
  apply UInt8.toNat.inj;rw [this,UInt8.toNat_ofNat'];omega
 intro h;rw [h,UInt8.toNat_ofNat'];omega
theorem cY.bld0 {E E':cB} (hE:NzE E [(2002,⟨0,1,5,[]⟩),(2001,wC (.osl 2002 0 0 0) false)] 2002 E'):cY [] E Y1 E' (uR 0 [] false):=by refine(cY.nz (G0:=[]) (H:=Y1) (H':=[(2001,wC (.osl 2002 0 0 0) false)]) 2002 1 5 rfl rfl hE ⟨⟨wC (.pv .nils) false,rfl,rfl,rfl,rfl,.inr ⟨_,_,rfl,rfl,⟨.same (by simp [WD]),⟨.own,trivial⟩⟩⟩⟩,trivial⟩ trivial).trans ?_;exact cY.get (fun _=>rfl) (fun j=>nX (by decide) j)
def jD (s:ByteArray) (k:Nat):List UInt8:=34::(s.data.toList.take k).flatMap mV
theorem UB {s:ByteArray} {k:Nat} (hs:s.size < 17592186044416):(jD s k).length < 70368744170000:=by
 have:=VD (s.data.toList.take k);rw [aON] at this;have h2:s.data.toList.length=s.size:=by simp
 rw [jD,aOB];omega
theorem PD {s:ByteArray} {k:Nat} (h:k < s.size):jD s (k+1)=jD s k++mV (vP s k):=by rw [jD,jD,aCo h,List.flatMap_append];simp
theorem aAC (s:ByteArray) (H:aB) (hs:s.size < 17592186044416):aI Tryz.prog 210 [sv s] H (fun r H'=>r=sv ⟨(eC s.data.toList).toArray⟩∧H'=H):=by
 refine Pu ?_;have hsl:s.data.toList.length=s.size:=by simp
 refine Bd func210 rfl ntmps210<|Sr<|Dd aN<|Zz<|Sr<|Dd (by exact bU (id:=2001) rfl GL rfl rfl)<|Zz<|Sq ?_;refine gK.ent (E':=[(0,sv s),(3,.ref 2001 0 0 0)]) (H':=uR 0 [] false) (cY.bld0 ⟨⟨_,rfl,.same (by simp)⟩,⟨_,rfl,.same (by simp;rfl)⟩,trivial⟩) ?_;refine Rg<|Dd (by exact aA rfl rfl kJ rfl (iI 0 [] false 34 (by decide)))<|Zz<|Sq<|Sr<|Dd aF<|Dd (lH underlying9)<|Dd aF<|Zz<|aG ?_;refine jI (fun(k g:Nat)=>([(0,sv s),(3,.ref 2001 0 0 0),(8,iv (s.size:Int)),(9,iv (k:Int))],uR g (jD s k) true)) (fun k g=>k≤s.size) (fun k g=>s.size - k) 0 1 (aOQ _) ?_ ?_
 ·exact(cY.wk (Eb<|Ea<|Eb<|Eb<|trivial) (Hc (fS rfl rfl)<|Hc (eK _ _)<|trivial) trivial)
 intro k g hk;have hL:=UB (k:=k) hs;refine Sr<|Dd dK<|Zz<|Sq ?_;refine Cn ?_ ?_<;>intro hc1
 ·have hlt:k < s.size:=by have:=aNv hc1;omega
  have hnext:=PD hlt;refine aD<|Sq<|aG<|Sr<|Dd aF<|Dd aN<|Zz<|Sr<|Dd aF<|Dd aF<|Dd (by exact dV rfl underlying9 rfl rfl (by omega) (by exact aOK _) (by omega) rfl)<|Dd aN<|Zz<|Sr<|Dd aF<|Zz<|aG<|Sr<|Dd cT<|Da ?_;refine Cn ?_ ?_<;>intro hc2
  ·have hb:vP s k=10:=by
    have h:=hc2;rw [uH,show (10:Int)=((10:Nat):Int)by rfl,KK (by decide)] at h;exact aNv h
   have hE:uR (g+1) (jD s (k+1)) true=uR (g+1) (jD s k++(⟨#[92,110]⟩:ByteArray).data.toList) true:=by rw [hnext,hb];rfl
   refine Rg<|Dd (by exact aA rfl rfl mK rfl (iH g (jD s k) true ⟨#[92,110]⟩ (by show _+2 < _;omega)))<|Zz<|Rg<|Dd lR<|Dd aF<|Zz ?_;refine⟨k+1,g+1,by omega,by omega,?_⟩;show cY _ _ _ _ (uR (g+1) (jD s (k+1)) true);rw [hE];exact(cY.wk (Eb<|Ea<|Eb<|Eb<|trivial) (Hc (fS rfl rfl)<|Hc (eK _ _)<|trivial) trivial)
  have hb10:¬ vP s k=10:=by
   have h:=hc2;rw [uH,show (10:Int)=((10:Nat):Int)by rfl,KK (by decide)] at h;exact aNw h
  refine Sq<|Sr<|Dd cT<|Da ?_;refine Cn ?_ ?_<;>intro hc3
  ·have hb:vP s k=34:=by
    have h:=hc3;rw [uH,show (34:Int)=((34:Nat):Int)by rfl,KK (by decide)] at h;exact aNv h
   have hE:uR (g+1+1) (jD s (k+1)) true=uR (g+1+1) (jD s k++[92]++[vP s k]) true:=by rw [hnext,hb];simp [mV]
   refine aD ?_;refine Cn ?_ ?_<;>intro hc4
   ·refine Sr<|Dd (by exact aA rfl rfl kJ rfl (iI g (jD s k) true 92 (by omega)))<|Zz<|Rg<|Dd aF<|Dd (by exact aA rfl rfl kJ rfl (iI (g+1) (jD s k++[92]) true (vP s k) (by rw [aOA,List.length_singleton];omega)))<|Zz<|Rg<|Dd lR<|Dd aF<|Zz ?_;refine⟨k+1,g+1+1,by omega,by omega,?_⟩;show cY _ _ _ _ (uR (g+1+1) (jD s (k+1)) true);rw [hE];exact(cY.wk (Eb<|Ea<|Eb<|Eb<|trivial) (Hc (fS rfl rfl)<|Hc (eK _ _)<|trivial) trivial)
   exact absurd (hc3.symm.trans hc4) (by decide)
  have hb34:¬ vP s k=34:=by
   have h:=hc3;rw [uH,show (34:Int)=((34:Nat):Int)by rfl,KK (by decide)] at h;exact aNw h
  refine Rg<|Dd cT<|Da ?_;refine Cn ?_ ?_<;>intro hc5
  ·have hb:vP s k=92:=by
    have h:=hc5;rw [uH,show (92:Int)=((92:Nat):Int)by rfl,KK (by decide)] at h;exact aNv h
   have hE:uR (g+1+1) (jD s (k+1)) true=uR (g+1+1) (jD s k++[92]++[vP s k]) true:=by rw [hnext,hb];simp [mV]
   refine Sr<|Dd (by exact aA rfl rfl kJ rfl (iI g (jD s k) true 92 (by omega)))<|Zz<|Rg<|Dd aF<|Dd (by exact aA rfl rfl kJ rfl (iI (g+1) (jD s k++[92]) true (vP s k) (by rw [aOA,List.length_singleton];omega)))<|Zz<|Rg<|Dd lR<|Dd aF<|Zz ?_;refine⟨k+1,g+1+1,by omega,by omega,?_⟩;show cY _ _ _ _ (uR (g+1+1) (jD s (k+1)) true);rw [hE];exact(cY.wk (Eb<|Ea<|Eb<|Eb<|trivial) (Hc (fS rfl rfl)<|Hc (eK _ _)<|trivial) trivial)
  have hb92:¬ vP s k=92:=by
   have h:=hc5;rw [uH,show (92:Int)=((92:Nat):Int)by rfl,KK (by decide)] at h;exact aNw h
  have hE:uR (g+1) (jD s (k+1)) true=uR (g+1) (jD s k++[vP s k]) true:=by rw [hnext,mV,aNx hb10,aNx (fun h=>h.elim hb34 hb92)]
  refine Rg<|Dd aF<|Dd (by exact aA rfl rfl kJ rfl (iI g (jD s k) true (vP s k) (by omega)))<|Zz<|Rg<|Dd lR<|Dd aF<|Zz ?_;refine⟨k+1,g+1,by omega,by omega,?_⟩;show cY _ _ _ _ (uR (g+1) (jD s (k+1)) true);rw [hE];exact(cY.wk (Eb<|Ea<|Eb<|Eb<|trivial) (Hc (fS rfl rfl)<|Hc (eK _ _)<|trivial) trivial)
 have hge:k=s.size:=by have:=aNw hc1;omega
 refine bC<|Sr<|Dd (by exact aA rfl rfl kJ rfl (iI g (jD s k) true 34 (by omega)))<|Zz<|Sr<|Dd (by exact aA rfl rfl mJ rfl (O0 (g+1) (jD s k++[34]) true (by rw [aOA,List.length_singleton];omega)))<|Dd aN<|Zz<|aC ?_;have hres:(⟨(jD s k++[34]).toArray⟩:ByteArray)=⟨(eC s.data.toList).toArray⟩:=by
  rw [jD,eC,hge,List.take_of_length_le (by omega)];rfl
 rw [← hres];exact Rt Qq
def bS (sep:List UInt8):List (List UInt8)→List UInt8
 | []=>[]
 | x::l=>x++l.flatMap (fun y=>sep++y)
def bs (l:List ByteArray):List (List UInt8):=l.map fun s=>s.data.toList
def cV (l:List ByteArray):Nat:=(l.map ByteArray.size).sum
theorem tE {l:List ByteArray} {k:Nat} {s:ByteArray} (h:l[k]?=some s):cV (l.take (k+1))=cV (l.take k)+s.size:=by rw [List.take_add_one,h,cV,cV,List.map_append,List.sum_append];simp
theorem lJ (l:List ByteArray) (k:Nat):cV (l.take k)≤cV l:=by
 have h:cV l=cV (l.take k)+cV (l.drop k):=by
  rw [cV,cV,cV,← List.sum_append,← List.map_append,List.take_append_drop]
 omega
theorem UZ (sep:List UInt8):∀ l:List ByteArray,((bs l).flatMap (fun y=>sep++y)).length=sep.length*l.length+cV l
 | []=>by simp [bs,cV]
 | s::l=>by
  have ih:=UZ sep l;show (((s.data.toList)::bs l).flatMap (fun y=>sep++y)).length=_;rw [List.flatMap_cons,aOA,ih,aOA,aOB,Nat.mul_add,cV,cV,List.map_cons,List.sum_cons];have h2:s.data.toList.length=s.size:=by simp
  omega
def HI (sep x:ByteArray) (l:List ByteArray) (k:Nat):List UInt8:=x.data.toList++(bs (l.take k)).flatMap (fun y=>sep.data.toList++y)
theorem aBe {sep x s:ByteArray} {l:List ByteArray} {k:Nat} (h:l[k]?=some s):HI sep x l (k+1)=HI sep x l k++(sep.data.toList++s.data.toList):=by rw [HI,HI,List.take_add_one,h,bs,List.map_append,List.flatMap_append];simp [bs]
theorem aDA {l:List ByteArray} {s:ByteArray} (h:s∈l):s.size≤cV l:=by
 induction l with
 | nil=>cases h
 | cons a l ih =>
  rw [cV,List.map_cons,List.sum_cons];rcases aOL.1 h with rfl|h
  ·exact Nat.le_add_right _ _
  exact Nat.le_trans (ih h) (Nat.le_add_left _ _)
theorem U0 {sep x:ByteArray} {l:List ByteArray} {k:Nat} (hk:k≤l.length):(HI sep x l k).length≤x.size+sep.size*l.length+cV l:=by
 rw [HI,aOA,UZ,aON,Nat.min_eq_left hk];have h1:=lJ l k;have h2:sep.data.toList.length=sep.size:=by simp
 have h3:x.data.toList.length=x.size:=by simp
 have h4:sep.size*k≤sep.size*l.length:=Nat.mul_le_mul_left _ hk;rw [h2];omega
theorem sK (l:List ByteArray) (sep:ByteArray) (H:aB) (h0:0 < sep.size) (hl:sep.size*l.length+cV l+l.length < 17592186044416):aI Tryz.prog 168 [.pv (aX l),sv sep] H (fun r H'=>r=sv ⟨(bS sep.data.toList (bs l)).toArray⟩∧H'=H):=by
 refine Pu ?_;have hml:(l.map encStr).length=l.length:=aNz _;rcases l with _|⟨x,_|⟨y,l⟩⟩
 ·refine Bd aNP rfl aMC<|Sr<|Dd aN<|Zz<|Sq<|Sr<|Dd aF<|Dd (fY aE)<|Zz<|aG<|Sr<|Dd cT<|Da ?_;refine Cn ?_ ?_<;>intro hc1
  ·exact Sr<|Dd aN<|Zz<|aC<|Rt<|Qq
  cases hc1
 ·refine Bd aNP rfl aMC<|Sr<|Dd aN<|Zz<|Sq<|Sr<|Dd aF<|Dd (fY aE)<|Zz<|aG<|Sr<|Dd cT<|Da ?_;refine Cn ?_ ?_<;>intro hc1
  ·cases hc1
  refine Sr<|Dd cT<|Da ?_;refine Cn ?_ ?_<;>intro hc2
  ·refine Sr<|Dd aF<|Dd (by exact bW rfl cA rfl rfl (by omega) (by exact aOK _) rfl rfl)<|Dd (jA isAgg9 (hi:=rfl))<|Dd aN<|Zz<|aC ?_;have hx:x=⟨(bS sep.data.toList (bs [x])).toArray⟩:=by simp [bS,bs]
   rw [← hx];exact Rt Qq
  cases hc2
 have hll:((x::y::l).map encStr).length=l.length+2:=by rw [hml];rfl
 have hn2:(x::y::l).length=l.length+2:=rfl;rw [hn2] at hl;have hmul:sep.size*(l.length+2)=sep.size*(l.length+1)+sep.size:=by rw [← Nat.mul_succ]
 obtain ⟨M,hMT⟩:∃ M,M=sep.size*(l.length+1):=⟨_,rfl⟩;rw [← hMT] at hmul;rw [hmul] at hl;have hdiv:sep.size+1≤9223372036854775807 / (l.length+1):=by
  rw [Nat.le_div_iff_mul_le (Nat.succ_pos _),Nat.add_mul,← hMT];omega
 have hdl:9223372036854775807 / (l.length+1)≤9223372036854775807:=Nat.div_le_self _ _;have hMp:0 < M:=by rw [hMT];exact Nat.mul_pos h0 (Nat.succ_pos _)
 have hsz:∀ k,cV ((x::y::l).take k)≤cV (x::y::l):=lJ _;refine Bd aNP rfl aMC<|Sr<|Dd aN<|Zz<|Sq<|Sr<|Dd aF<|Dd (fY aE)<|Zz<|aG<|Sr<|Dd cT<|Da ?_;refine Cn ?_ ?_<;>intro hc1
 ·exact absurd (aNv hc1) (by rw [hll];omega)
 refine Sr<|Dd cT<|Da ?_;refine Cn ?_ ?_<;>intro hc2
 ·exact absurd (aNv hc2) (by rw [hll];omega)
 refine aD<|Sr<|Dd aN<|Zz<|Sq<|Sr<|Dd aF<|Dd (lH underlying9)<|Dd jE<|Zz ?_;refine Cn ?_ ?_<;>intro hc3
 ·refine Sq<|Sr<|Dd aF<|Dd (lH underlying9)<|Dd aF<|Dd (fY aE)<|Dd (by exact eQ rfl rfl rfl (show IntKind.i64.wrap ((((x::y::l).map encStr).length:Int) - 1)=((l.length+1:Nat):Int)by rw [IntKind.wrap_i64,hll];omega))<|Dd (by exact CC (r:=((9223372036854775807 / (l.length+1):Nat):Int)) rfl rfl rfl (by omega) (by rw [show (9223372036854775807:Int)=((9223372036854775807:Nat):Int)by rfl,← Int.ofNat_tdiv,IntKind.wrap_i64];omega))<|Dd DT<|Zz ?_;refine Cn ?_ ?_<;>intro hc4
  ·exact absurd (aNv hc4) (by omega)
  refine aD<|Rg<|Dd aF<|Dd aF<|Dd (lH underlying9)<|Dd aF<|Dd (fY aE)<|Dd (by exact eQ rfl rfl rfl (show IntKind.i64.wrap ((((x::y::l).map encStr).length:Int) - 1)=((l.length+1:Nat):Int)by rw [IntKind.wrap_i64,hll];omega))<|Dd (by exact sG rfl rfl rfl (show IntKind.i64.wrap ((sep.size:Int)*((l.length+1:Nat):Int))=(M:Int)by rw [← Int.natCast_mul,← hMT,IntKind.wrap_i64];omega))<|Dd (by exact cI rfl rfl rfl (show IntKind.i64.wrap (0+(M:Int))=(M:Int)by rw [IntKind.wrap_i64];omega))<|Dd aN<|Zz<|Sq<|Sr<|Dd aF<|Dd (fY aE)<|Dd aF<|Zz<|aG ?_;refine bT (σ:=Nat) (fun k=>([(0,.pv (aX (x::y::l))),(1,sv sep),(5,iv ((M+cV ((x::y::l).take k):Nat):Int)),(39,.pv (aX (x::y::l))),(40,iv (((x::y::l).map encStr).length:Int)),(41,iv (k:Int))],[])) (fun k=>k≤l.length+2) (fun k=>l.length+2 - k) 0 (aOQ _) ?_ ?_
  ·exact Wk
  intro k hk;refine Sr<|Dd dK<|Zz<|Sq ?_;refine Cn ?_ ?_<;>intro hc5
  ·have hlt:k < l.length+2:=by have:=aNv hc5;omega
   obtain ⟨s,hs⟩:=aZ (show k < (x::y::l).length by omega);have hi:=cP (f:=encStr) hs;have hst:=tE hs;have h1:=hsz (k+1);refine aD<|Sq<|aG<|Sr<|Dd (by exact bW rfl cA rfl rfl (by omega) (by exact aOK _) hi rfl)<|Dd (jA isAgg9 (hi:=hi))<|Dd aN<|Zz<|Sq<|Sr<|Dd aF<|Dd (lH underlying9)<|Dd aF<|Dd (by exact eQ rfl rfl rfl (show IntKind.i64.wrap (9223372036854775807 - ((M+cV ((x::y::l).take k):Nat):Int))=9223372036854775807 - ((M+cV ((x::y::l).take k):Nat):Int)by rw [IntKind.wrap_i64];omega))<|Dd jE<|Zz ?_;refine Cn ?_ ?_<;>intro hc6
   ·exact absurd (aNv hc6) (by omega)
   refine aD<|Rg<|Dd aF<|Dd aF<|Dd (lH underlying9)<|Dd (by exact cI rfl rfl rfl (show IntKind.i64.wrap (((M+cV ((x::y::l).take k):Nat):Int)+(s.size:Int))=((M+cV ((x::y::l).take (k+1)):Nat):Int)by rw [IntKind.wrap_i64,hst];omega))<|Dd aN<|Zz<|Rg<|Dd lR<|Dd aF<|Zz ?_;exact⟨k+1,by omega,by omega,Wk⟩
  have hge:k=l.length+2:=by have:=aNw hc5;omega
  have hall:cV ((x::y::l).take k)=cV (x::y::l):=by rw [hge,← hn2,List.take_length]
  have h2:=hsz k;refine bC<|Sr<|Dd (by exact bU (id:=2001) rfl GL rfl rfl)<|Zz<|Sr<|Dd aF<|Dd (by exact aA rfl rfl call205 rfl (aHN (M+cV ((x::y::l).take k)) (by omega) (by omega)))<|Zz<|Sr<|Dd aF<|Dd (by exact bW rfl cA rfl rfl (by omega) (by exact aOK _) rfl rfl)<|Dd (jA isAgg9 (hi:=rfl))<|Dd (by exact aA rfl rfl mK rfl (iH 1 [] true x (by show 0+_ < _;have:=lJ (x::y::l) 1;simp [cV] at this hl;omega)))<|Zz<|Sq<|Sr<|Dd aF<|Dd (by exact xW (l:=1) (h:=((x::y::l).map encStr).length) (rows':=(y::l).map encStr) rfl cA rfl (sz:=1) (by intro r hr;obtain ⟨q,_,rfl⟩:=List.mem_map.1 hr;rfl) rfl rfl (by rw [hll];omega) (aOF _) (by rw [List.take_length];rfl))<|Dd (fY aE)<|Dd aF<|Zz<|aG ?_;have hyl:((y::l).map encStr).length=l.length+1:=by rw [aNz];rfl
  refine jI (fun(q g:Nat)=>([(1,sv sep),(8,.ref 2001 0 0 0),(63,.pv (aX (y::l))),(64,iv (((y::l).map encStr).length:Int)),(65,iv (q:Int))],uR g (HI sep x (y::l) q) true)) (fun q g=>q≤l.length+1) (fun q g=>l.length+1 - q) 0 2 (aOQ _) ?_ ?_
  ·show cY _ _ _ _ (uR (1+1) ([]++x.data.toList++[]) true);rw [List.append_nil];exact(cY.wk (Eb<|Ea<|Eb<|Eb<|Eb<|trivial) (Hc (fS rfl rfl)<|Hc (eK _ _)<|trivial) trivial)
  intro q g hq;refine Sr<|Dd dK<|Zz<|Sq ?_;refine Cn ?_ ?_<;>intro hc7
  ·have hlt:q < l.length+1:=by have:=aNv hc7;omega
   obtain ⟨s,hs⟩:=aZ (show q < (y::l).length by rw [aOB];exact hlt);have hi:=cP (f:=encStr) hs;have hpl:=U0 (sep:=sep) (x:=x) (l:=y::l) (k:=q) (Nat.le_of_lt hlt);have hnx:=aBe (sep:=sep) (x:=x) hs;have hss:=aDA (aOJ hs);have hxs:x.size+cV (y::l)=cV (x::y::l):=by simp [cV]
   have hll2:(y::l).length=l.length+1:=rfl;rw [hll2,← hMT] at hpl;refine aD<|Sq<|aG<|Sr<|Dd (by exact bW rfl cA rfl rfl (by omega) (by exact aOK _) hi rfl)<|Dd (jA isAgg9 (hi:=hi))<|Dd aN<|Zz<|Sr<|Dd aF<|Dd (by exact aA rfl rfl mK rfl (iH g (HI sep x (y::l) q) true sep (by omega)))<|Zz<|Rg<|Dd aF<|Dd (by exact aA rfl rfl mK rfl (iH (g+1) (HI sep x (y::l) q++sep.data.toList) true s (by rw [aOA];show _+sep.size+_ < _;omega)))<|Zz<|Rg<|Dd lR<|Dd aF<|Zz ?_;refine⟨q+1,g+1+1,by omega,by omega,?_⟩;show cY _ _ _ _ (uR (g+1+1) (HI sep x (y::l) (q+1)) true);rw [hnx,← List.append_assoc];exact(cY.wk (Eb<|Ea<|Eb<|Eb<|Eb<|trivial) (Hc (fS rfl rfl)<|Hc (eK _ _)<|trivial) trivial)
  have hge2:q=l.length+1:=by have:=aNw hc7;omega
  have hpl:=U0 (sep:=sep) (x:=x) (l:=y::l) hq;have hll2:(y::l).length=l.length+1:=rfl;have hxs:x.size+cV (y::l)=cV (x::y::l):=by simp [cV]
  rw [hll2,← hMT] at hpl;refine bC<|Sr<|Dd (by exact aA rfl rfl mJ rfl (O0 g (HI sep x (y::l) q) true (by omega)))<|Dd aN<|Zz<|aC ?_;have hres:(⟨(HI sep x (y::l) q).toArray⟩:ByteArray)=⟨(bS sep.data.toList (bs (x::y::l))).toArray⟩:=by
   rw [HI,hge2,← hll2,List.take_length];rfl
  rw [← hres];exact Rt Qq
 exact absurd (aNw hc3) (by omega)
def asc {α:Type} (f:α→ByteArray) (l:List α):Prop:=l.Pairwise (fun a b=>AG (f a) (f b)=true)
theorem aHp {α:Type} {f:α→ByteArray} {l:List α} (h:asc f l) {i j:Nat} {a b:α} (hij:i < j) (ha:l[i]?=some a) (hb:l[j]?=some b):AG (f a) (f b)=true:=by
 obtain ⟨i1,i2⟩:=aOD.1 ha;obtain ⟨j1,j2⟩:=aOD.1 hb;have:=List.pairwise_iff_getElem.1 h i j i1 j1 hij
 rwa [i2,j2] at this
abbrev pvR (ps:List (List PV)):List (List AV):=ps.map (·.map .pv)
theorem aG9 (ps:List (List PV)):(pvR ps).length=ps.length:=aNz _
theorem MY {last:ByteArray} {t:GTag}:zL last t=false↔bP t.key=true∧AG last t.key=true∧t.val≠sNil∧t.val.size≤200:=by
 simp only [zL,aOV,Bool.not_eq_false',JP,aOH];constructor
 ·rintro⟨⟨⟨h1,h2⟩,h3⟩,h4⟩;exact⟨h1,h2,h3,by omega⟩
 rintro⟨h1,h2,h3,h4⟩;exact⟨⟨⟨h1,h2⟩,h3⟩,by omega⟩
theorem aGE {s:ByteArray} (h:s≠sNil):AG sNil s=true:=by
 cases e:AG sNil s with
 | true=>rfl
 | false=>exact absurd (RE (ZX s) e) h
theorem xO {l:List GTag}:pN l=true↔(∀ t,t∈l→bP t.key=true∧t.val≠sNil∧t.val.size≤200)∧asc GTag.key l∧l.length≤60:=by
 have hlen:decide ((l.length:Int)≤60)=decide (l.length≤60):=by
  rw [Bool.eq_iff_iff,aOG,aOG];omega
 rw [pN,hlen,aOI,aOS,List.any_eq_false,aOG];constructor
 ·rintro⟨h,hn⟩;have hb:∀ k t,l[k]?=some t→bP t.key=true∧AG (eX GTag.key l k) t.key=true∧t.val≠sNil∧t.val.size≤200:=fun k t hk=>by
   have h1:=h k (List.mem_range.2 (aOD.1 hk).1);rw [MZ,hk] at h1;simp only [Bool.not_eq_true] at h1;exact MY.1 h1
  refine⟨fun t ht=>?_,?_,hn⟩
  ·obtain ⟨k,hk⟩:=aOU.1 ht;obtain ⟨a,_,b,c⟩:=hb k t hk;exact⟨a,b,c⟩
  have key:∀ (d i:Nat) (a b:GTag),l[i]?=some a→l[i+d+1]?=some b→AG a.key b.key=true:=by
   intro d
   induction d with
   | zero =>
    intro i a b ha hb';have:=(hb (i+1) b hb').2.1;rw [eX,ha] at this;exact this
   | succ d ih =>
    intro i a b ha hb';have hlt:i+d+1 < l.length:=by have:=(aOD.1 hb').1;omega
    obtain ⟨x,hx⟩:=aZ hlt;have h2:=(hb (i+(d+1)+1) b hb').2.1;rw [eX,show i+(d+1)=i+d+1 by omega,hx] at h2;exact O2 (ih i a x ha hx) h2
  rw [asc,List.pairwise_iff_getElem];intro i j hi hj hij;exact key (j - i - 1) i _ _ (aOE hi) (by rw [show i+(j - i - 1)+1=j by omega];exact aOE hj)
 rintro⟨h1,h2,h3⟩;refine⟨fun k hk=>?_,h3⟩;have hlt:=List.mem_range.1 hk;rw [MZ,aOE hlt];simp only [Bool.not_eq_true];obtain ⟨a,b,c⟩:=h1 _ (List.getElem_mem hlt);refine MY.2 ⟨a,?_,b,c⟩;cases k with
 | zero =>
  have:l[0].key≠sNil:=ML a;exact aGE this
 | succ k =>
  rw [eX,aOE (show k < l.length by omega)];exact aHp h2 (Nat.lt_succ_self k) (aOE (by omega)) (aOE hlt)
theorem Fin.slice0 {H1:aB} {id g n:Nat} {ob:Ob} (ps:List (List PV)) (hH:H1.get id=some ob) (hg:ob.g=g) (hps:ob.rows=ps.map (·.map .pv)) (hn:ps.length=n) :
  Fin [] H1 (.osl id g 0 n) [] (.pv (.sl ps)):=by
 subst hg hn;exact Fin.fz (id:=id) (ob:=ob) ps hH hps (.osl (by rw [aOR,List.drop_zero,List.take_length])) rfl trivial trivial
theorem RQ (l:List ByteArray):∀ r∈l.map encStr,r.length=1:=fun r hr=>by
 obtain ⟨t,_,rfl⟩:=List.mem_map.1 hr;rfl
theorem MI (n:Nat) (H:aB) (h4:H.get 904=none) (h5:H.get 905=none) (hc:eG H) (hn:n < 1099511627776) :
  aI Tryz.prog 249 [.pv .nils,iv (n:Int)] H (fun r H'=>r=.osl 905 1 0 0∧H'=(905,⟨1,1,9,[]⟩)::H):=by
 refine Bd func249 rfl ntmps249 ?_;by_cases h0:n=0
 ·subst h0;refine WE (t:=0) (id:=905) (sz:=1) (ty:=9) rfl h5 rfl ?_;refine Sr<|Dd aN<|Zz<|Sq<|Sr<|Dd aF<|Dd dK<|Zz ?_;refine Cn ?_ ?_<;>intro hc1
  ·have h:=aNv hc1;omega
  refine aD<|Sq<|Sr<|Dd aF<|Dd aF<|Dd (by exact BB rfl aE rfl rfl rfl)<|Dd aF<|Dd (by exact BA rfl aE rfl rfl rfl)<|Dd (by exact eQ rfl rfl rfl (by exact pB (by omega) (by omega)))<|Dd (by exact eQ rfl rfl rfl (by exact pB (by omega) (by omega)))<|Dd aN<|Zz<|Sr<|Dd aF<|Dd jE<|Zz ?_;refine Cn ?_ ?_<;>intro hc2
  ·have h:=aNv hc2;omega
  refine aD<|Sq ?_;refine aCG (t:=0) rfl rfl rfl (by decide) ?_;refine Rg<|Dd aF<|Dd aN<|Zz<|aC ?_;refine dY (H':=((905,⟨1,1,9,[]⟩)::H)) (.inr rfl) rfl (aY rfl) ((Fin.bump (g:=0) (k:=1) rfl rfl (by decide) rfl rfl rfl).trans (Fin.get' (fun j=>vL _ _ _ _ j))) ?_;exact Qq
 refine WE (t:=0) (id:=904) (sz:=1) (ty:=9) rfl h4 rfl ?_;have h5':aB.get ((904,(⟨0,1,9,[]⟩:Ob))::H) 905=none:=h5;refine Sr<|Dd aN<|Zz<|Sq<|Sr<|Dd aF<|Dd dK<|Zz ?_;refine Cn ?_ ?_<;>intro hc3
 ·have h:=aNv hc3;omega
 refine aD<|Sq<|Sr<|Dd aF<|Dd aF<|Dd (by exact BB rfl aE rfl rfl rfl)<|Dd aF<|Dd (by exact BA rfl aE rfl rfl rfl)<|Dd (by exact eQ rfl rfl rfl (by exact pB (by omega) (by omega)))<|Dd (by exact eQ rfl rfl rfl (by exact pB (by omega) (by omega)))<|Dd aN<|Zz<|Sr<|Dd aF<|Dd jE<|Zz ?_;refine Cn ?_ ?_<;>intro hc4
 ·refine Rg<|Dd aF<|Dd aF<|Dd (by exact BB rfl aE rfl rfl rfl)<|Dd (by exact TH (l:=0) (h:=0) rfl cA rfl rfl rfl rfl rfl rfl (aOF _) (aOF _) rfl rfl rfl)<|Dd aF<|Dd (by exact KD (id2:=905) (m:=n) rfl cA underlying3 EC zo9 rfl rfl rfl rfl rfl (aOF _) rfl (by omega) (by omega) (by omega) (aOR _) (by omega) h5' rfl)<|Dd aF<|Dd (by exact BA rfl aE rfl rfl rfl)<|Dd (by exact iG (l:=0) (h:=0) rfl cA rfl rfl rfl rfl rfl rfl (aOF _) (by omega) rfl rfl)<|Dd aN<|Zz<|Sr<|Dd aF<|Dd aN<|Zz<|aC ?_;refine dY (H':=((905,⟨1,1,9,[]⟩)::H)) (.inr rfl) rfl (aY rfl) ((Fin.trunc (g:=0) (k:=1) (sz:=1) (ty:=9) (rows:=[]) rfl rfl (by decide) rfl rfl (List.take_zero)).trans (Fin.front' [_,_,_] [(905,⟨1,1,9,[]⟩)] (by simp;rfl) (by simp [h4,h5]) (by simp [aB.get]) (by simp) hc (by simp [h4,h5]))) ?_;exact Qq
 have h:=aNw hc4;omega
theorem HR (ls:List (List ByteArray)) (H:aB) (hls:ls.length < 1099511627776) (hb:ls.flatten.length < 1099511627776) :
  aI Tryz.prog 211 [.pv (.sl (ls.map (fun l=>[.sl (l.map encStr)])))] H (fun r H'=>r=.pv (.sl (ls.flatten.map encStr))∧H'=H):=by
 refine Pu ?_;have hml:(ls.map (fun l=>[PV.sl (l.map encStr)])).length=ls.length:=aNz _;have hpre:∀ k,((ls.take k).flatten).length≤ls.flatten.length:=fun k=>by
  conv=>rhs;rw [← List.take_append_drop k ls,List.flatten_append,aOA]
  omega
 have hst:∀ k l,ls[k]?=some l→(ls.take (k+1)).flatten=(ls.take k).flatten++l:=fun k l h=>by
  rw [List.take_add_one,h,List.flatten_append];simp
 refine Bd func211 rfl ntmps211<|Sr<|Dd aN<|Zz<|Sr<|Dd aN<|Zz<|Sq<|Sr<|Dd aF<|Dd (fY D7)<|Dd aF<|Zz<|aG ?_;refine bT (σ:=Nat) (fun k=>([(0,.pv (.sl (ls.map (fun l=>[.sl (l.map encStr)])))),(3,iv (((ls.take k).flatten).length:Int)),(9,.pv (.sl (ls.map (fun l=>[.sl (l.map encStr)])))),(10,iv ((ls.map (fun l=>[PV.sl (l.map encStr)])).length:Int)),(11,iv (k:Int))],[])) (fun k=>k≤ls.length) (fun k=>ls.length - k) 0 (by omega) ?_ ?_
 ·exact E0
 intro k hk;refine Sr<|Dd dK<|Zz<|Sq ?_;refine Cn ?_ ?_<;>intro hc1
 ·have hlt:k < ls.length:=by have:=aNv hc1;omega
  obtain ⟨l,hl⟩:=aZ hlt;have hi:=cP (f:=fun l=>[PV.sl (l.map encStr)]) hl;have hml2:(l.map encStr).length=l.length:=aNz _;have h1:=hst k l hl;have h2:=hpre (k+1);have h3:((ls.take (k+1)).flatten).length=((ls.take k).flatten).length+l.length:=by rw [h1,aOA]
  have hw:IntKind.i64.wrap ((((ls.take k).flatten).length:Int)+((l.map encStr).length:Int))=(((ls.take (k+1)).flatten).length:Int):=by rw [IntKind.wrap_i64,hml2,h3];omega
  refine aD<|Sq<|aG<|Sr<|Dd (lN ID)<|Dd (jA aH)<|Dd aN<|Zz<|Sr<|Dd aF<|Dd aF<|Dd (fY aE)<|Dd (by exact cI rfl rfl rfl hw)<|Dd aN<|Zz<|Sr<|Dd aF<|Dd dK<|Zz ?_;refine Cn ?_ ?_<;>intro hc2
  ·have h:=aNv hc2;omega
  refine aD<|Rg<|Dd lR<|Dd aF<|Zz ?_;exact⟨k+1,by omega,by omega,E0⟩
 have hge:k=ls.length:=by have:=aNw hc1;omega
 subst hge;rw [List.take_length];refine bC<|Sr<|Dd aF<|Dd (by exact R1 rfl rfl call249 rfl (MI ls.flatten.length [] rfl rfl (eG.of (by simp)) hb))<|Dd aN<|Zz<|Sq<|Sr<|Dd aF<|Dd (fY D7)<|Dd aF<|Zz<|aG ?_;refine jI (fun(k:Nat) (g:Nat)=>([(6,.osl 905 g 0 ((ls.take k).flatten.map encStr).length),(25,.pv (.sl (ls.map (fun l=>[.sl (l.map encStr)])))),(26,iv ((ls.map (fun l=>[PV.sl (l.map encStr)])).length:Int)),(27,iv (k:Int))],[(905,⟨g,1,9,pvR ((ls.take k).flatten.map encStr)⟩)])) (fun k g=>k≤ls.length) (fun k g=>ls.length - k) 0 1 (by omega) ?_ ?_
 ·exact E0
 intro k g hk;refine Sr<|Dd dK<|Zz<|Sq ?_;refine Cn ?_ ?_<;>intro hc3
 ·have hlt:k < ls.length:=by have:=aNv hc3;omega
  obtain ⟨l,hl⟩:=aZ hlt;have hi:=cP (f:=fun l=>[PV.sl (l.map encStr)]) hl;have hml2:(l.map encStr).length=l.length:=aNz _;have hml3:((ls.take k).flatten.map encStr).length=((ls.take k).flatten).length:=aNz _;have h1:=hst k l hl;have h2:=hpre (k+1);have h3:((ls.take (k+1)).flatten).length=((ls.take k).flatten).length+l.length:=by rw [h1,aOA]
  refine aD<|Sq<|aG<|Sr<|Dd (lN ID)<|Dd (jA aH)<|Dd aN<|Zz<|Rg<|Dd aF<|Dd aF<|Dd (by exact dH rfl cA EC rfl rfl rfl rfl rfl (aG9 _) rfl (RQ l) rfl (by omega) (by rw [h1,List.map_append,aOA]:((ls.take k).flatten.map encStr).length+(l.map encStr).length=((ls.take (k+1)).flatten.map encStr).length) (by rw [h1,List.map_append,pvR,pvR,List.map_append]:pvR ((ls.take k).flatten.map encStr)++(l.map encStr).map (·.map .pv)=pvR ((ls.take (k+1)).flatten.map encStr)))<|Dd aN<|Zz<|Rg<|Dd lR<|Dd aF<|Zz ?_;exact⟨k+1,g+1,by omega,by omega,cY.dup ⟨⟨_,rfl,rfl⟩,⟨_,rfl,rfl⟩,⟨_,rfl,rfl⟩,⟨_,rfl,rfl⟩,trivial⟩⟩
 have hge:k=ls.length:=by have:=aNw hc3;omega
 subst hge;rw [List.take_length];refine bC<|Sr<|Dd aF<|Dd aN<|Zz<|aC ?_;refine dY (H':=[]) (.inr rfl) rfl (aY rfl) (Fin.slice0 (id:=905) (ls.flatten.map encStr) rfl rfl rfl rfl) ?_;exact Qq
theorem BJ {o:GObj} (h:kR o=true):o.refs.length≤2000∧o.tags.length≤60∧pN o.tags=true∧bP o.id=true∧(o.kind=2→2≤o.refs.length):=by rw [kR,aOI,aOS,IR,rR] at h;have h1:=h.1;simp only [aOV,Bool.not_eq_false',aOH] at h1;obtain ⟨⟨⟨⟨a1,a2⟩,a3⟩,a4⟩,a5⟩:=h1;refine⟨by omega,(xO.1 a3).2.2,a3,a2,fun hk=>?_⟩;rw [hk,show BK 2=2 from rfl] at a4;omega
theorem uD {e:GEdit}:dP e=true↔(1≤e.op∧e.op≤7)∧pY e=true∧C1 e=e:=by rw [dP,aOI,aOI,aOI,aOG,aOG,mU]
theorem DV {e:GEdit} (h:dP e=true):e.val.size≤200:=by
 obtain ⟨_,h2,h3⟩:=uD.1 h;have hv:(C1 e).val=e.val:=by rw [h3]
 by_cases e3:e.op=3
 ·rw [pY,aNx (by omega),aNx (by omega),aNy e3,aOI,aOI,aOG] at h2;omega
 have:e.val=sNil:=by
  rw [← hv,C1]
  repeat' split
  all_goals rfl
 rw [this];decide
abbrev aMx (m:List GObj) (s:ByteArray):Option GObj:=m.find? (aNA s)
theorem aBk {o:GObj} (h:kR o=true):1≤o.kind∧o.kind≤5:=by
 rw [kR,aOI,aOS,IR,rR] at h;have h1:=h.1;simp only [aOV,aOH] at h1;have hw:=h1.1.1.1.1;unfold eL at hw;by_cases a:o.kind=1
 ·omega
 by_cases b:o.kind=2
 ·omega
 by_cases c:o.kind=3
 ·omega
 by_cases d:o.kind=4
 ·omega
 by_cases f:o.kind=5
 ·omega
 rw [aNx a,aNx b,aNx c,aNx d,aNx f] at hw;exact absurd rfl hw
def nJ (s:ByteArray):ByteArray:=aT (s.size:Int)++⟨#[58]⟩++s
def aM (l:List ByteArray):List UInt8:=l.flatMap fun s=>(nJ s).data.toList
def AK (l:List ByteArray):ByteArray:=rT ⟨(aM l).toArray⟩
theorem oH {n:Int} (h0 : -9223372036854775808≤n) (h1:n≤9223372036854775807):(aT n).size≤21:=by
 have:=Lib.itoa_length_le n h0 h1;show (Lib.itoa n).toArray.size≤21
 simpa using this
theorem oU (s:ByteArray):(nJ s).size=(aT (s.size:Int)).size+1+s.size:=by rw [nJ,ByteArray.size_append,ByteArray.size_append];rfl
theorem sL (l:List ByteArray) (s:ByteArray):aM (l++[s])=aM l++(nJ s).data.toList:=by rw [aM,aM,List.flatMap_append,List.flatMap_cons,List.flatMap_nil,List.append_nil]
theorem yY:∀ (l:List ByteArray) (k:Nat),(aM (l.take k)).length≤(aM l).length:=fun l k=>by
 have h:aM l=aM (l.take k)++aM (l.drop k):=by rw [aM,aM,aM,← List.flatMap_append,List.take_append_drop]
 rw [h,aOA];omega
theorem sX {α:Type} {l:List α} {k:Nat} {a:α} (h:l[k]?=some a):l.take (k+1)=l.take k++[a]:=by rw [List.take_add_one,h,Option.toList_some]
theorem mO (s:ByteArray):s.data.toList.length=s.size:=by simp
theorem BF:∀ l:List ByteArray,l.length≤(aM l).length
 | []=>aOF _
 | s::r=>by
  have ih:=BF r;have h:aM (s::r)=(nJ s).data.toList++aM r:=by rw [aM,List.flatMap_cons];rfl
  rw [h,aOA,aOB,mO,oU];omega
theorem aEF (l:List ByteArray) (H:aB) (hl:(aM l).length < 35184372088832):aI Tryz.prog 133 [.pv (aX l)] H (fun r H'=>r=sv (AK l)∧H'=H):=by
 refine Pu ?_;have hml:(l.map encStr).length=l.length:=aNz _;have hll:=BF l;refine Bd func133 rfl ntmps133<|Sr<|Dd aN<|Zz<|Sr<|Dd (by exact bU (id:=2001) rfl GL rfl rfl)<|Zz<|Sq<|Sq ?_;refine gK.ent (E':=[(0,.pv (aX l)),(3,.ref 2001 0 0 0)]) (H':=uR 0 [] false) (cY.bld0 ⟨⟨_,rfl,.same (by simp)⟩,⟨_,rfl,.same (by simp;rfl)⟩,trivial⟩) ?_;refine Rg<|Dd aF<|Dd (fY aE)<|Dd aF<|Zz<|aG ?_;refine HW (fun(k g:Nat) (u:Bool)=>([(3,.ref 2001 0 0 0),(6,.pv (aX l)),(7,iv ((l.map encStr).length:Int)),(8,iv (k:Int))],uR g (aM (l.take k)) u)) (fun k g u=>k≤l.length) (fun k g u=>l.length - k) 0 0 false (aOQ _) ?_ ?_
 ·exact(cY.wk (Ea<|Eb<|Eb<|Eb<|trivial) (Hc (fS rfl rfl)<|Hc (eK _ _)<|trivial) trivial)
 intro k g u hk;have hle:=yY l k;refine Sr<|Dd dK<|Zz<|Sq ?_;refine Cn ?_ ?_<;>intro hc1
 ·have hlt:k < l.length:=by have:=aNv hc1;omega
  obtain ⟨s,hs⟩:=aZ hlt;have hi:=cP (f:=encStr) hs;have hle2:=yY l (k+1);rw [sX hs,sL,aOA,mO,oU] at hle2;have hsz:s.size < 35184372088832:=by omega
  refine aD<|Sq<|aG<|Sr<|Dd (lN cA)<|Dd (jA isAgg9)<|Dd aN<|Zz<|Rg<|Dd aF<|Dd (lH underlying9)<|Dd (by exact aA rfl rfl oO rfl (sM (s.size:Int) (by omega) (by omega) _))<|Dd (by exact cD rfl rfl rfl (by have:(⟨#[58]⟩:ByteArray).size=1:=rfl;omega) rfl)<|Dd aF<|Dd (by exact cD rfl rfl rfl (by rw [ByteArray.size_append];have:(⟨#[58]⟩:ByteArray).size=1:=rfl;omega) rfl)<|Dd (by exact aA rfl rfl mK rfl (iH g (aM (l.take k)) u (nJ s) (by rw [oU];omega)))<|Zz<|Rg<|Dd lR<|Dd aF<|Zz ?_;refine⟨k+1,g+1,true,by omega,by omega,?_⟩;rw [sX hs,sL];exact(cY.wk (Ea<|Eb<|Eb<|Eb<|trivial) (Hc (fS rfl rfl)<|Hc (eK _ _)<|trivial) trivial)
 have hge:k=l.length:=by have:=aNw hc1;omega
 subst hge;rw [List.take_length];exact bC<|Sr<|Dd (by exact aA rfl rfl mJ rfl (O0 g (aM l) u (by omega)))<|Dd (by exact aA rfl rfl AQ rfl (KU ⟨(aM l).toArray⟩ _ (by show (aM l).toArray.size < _;rw [List.size_toArray];omega)))<|Dd aN<|Zz<|aC<|Rt<|Qq
theorem jU (s:ByteArray):(rT s).size=16:=by show (OA _).toArray.size=16;simp [OA]
def AU:ByteArray→Nat→ByteArray
 | t,0=>t
 | t,n+1=>AU (rT t) n
theorem SU:∀ (a b:Nat) (t:ByteArray),AU (AU t a) b=AU t (a+b)
 | 0,b,t=>by rw [aOR];rfl
 | a+1,b,t=>by
  rw [show a+1+b=(a+b)+1 by omega];exact SU a b (rT t)
theorem F3 (t:ByteArray) (n:Nat):AU t (n+1)=rT (AU t n):=by rw [← SU n 1 t];rfl
theorem VY {t:ByteArray} (h:t.size=16):∀ n,(AU t n).size=16
 | 0=>h
 | n+1=>by rw [F3,jU]
def stJ (m:ByteArray):Nat:=VQ (aBv m.size) m.data.toList
def dJ (m:ByteArray):List Nat:=(List.range 16).map (PU (stJ m))
def A3 (m:ByteArray):Nat:=((dJ m).map (15 - ·)).sum
def GD (m:ByteArray):List Nat:=dJ m++[A3 m / 16,A3 m % 16]
theorem BU (m:ByteArray):(dJ m).length=16:=by simp [dJ]
theorem J8 (m:ByteArray):(GD m).length=18:=by simp [GD,dJ]
theorem KT:∀ l:List Nat,(l.map (15 - ·)).sum≤15*l.length
 | []=>aOF _
 | a::r=>by
  have:=KT r;simp only [List.map_cons,List.sum_cons,aOB];omega
theorem T4 (m:ByteArray):A3 m≤240:=by have:=KT (dJ m);rw [BU] at this;exact this
theorem YT (m:ByteArray):∀ d∈GD m,d < 16:=by
 intro d hd;rcases List.mem_append.1 hd with h|h
 ·obtain ⟨j,_,rfl⟩:=List.mem_map.1 h;exact BC _ _
 have:=T4 m;simp only [aOL,aOP,or_false] at h;rcases h with rfl|rfl<;>omega
def II:ByteArray:=⟨#[110,111,100,101]⟩
def kV (s:ByteArray) (i k:Nat):ByteArray:=AK [s,aT (i:Int),aT (k:Int)]
def IT (s:ByteArray) (i:Nat):List ByteArray:=(List.range 18).map fun k=>AU (kV s i k) 15
def SG (s:ByteArray) (i:Nat):ByteArray:=AK (IT s i)
def mB (s:ByteArray) (h:Nat):List ByteArray:=(List.range (2 ^ h)).map (SG s)
def FH (a b:ByteArray):ByteArray:=AK [II,a,b]
def Q7:List ByteArray→List ByteArray
 | a::b::r=>FH a b::Q7 r
 | _=>[]
def O6:Nat→List ByteArray→ByteArray
 | 0,l=>l.headD sNil
 | h+1,l=>O6 h (Q7 l)
def mQ:Nat→List ByteArray→Nat→List ByteArray
 | 0,_,_=>[]
 | h+1,l,i=>l.getD (i ^^^ 1) sNil::mQ h (Q7 l) (i / 2)
def tL (s:ByteArray) (h:Nat):ByteArray:=O6 h (mB s h)
def EN (s:ByteArray) (i:Nat) (m:ByteArray):List ByteArray:=(List.range 18).map fun k=>AU (kV s i k) ((GD m).getD k 0)
def zY:ByteArray→List ByteArray→Nat→ByteArray
 | at',[],_=>at'
 | at',o::r,i=>zY (if i % 2=1 then FH o at' else FH at' o) r (i / 2)
def zZ (m:ByteArray) (l:List ByteArray):List ByteArray:=List.zipWith (fun s d=>AU s (15 - d)) l (GD m)
def U2 (b:UInt8):Bool:=(48≤b&&b≤57)||(97≤b&&b≤102)
def isJ (t:ByteArray):Bool:=decide (t.size=16)&&t.data.toList.all U2
def xX (key m:ByteArray) (i:Int) (l p:List ByteArray):Bool :=decide (l.length=18∧p.length≤8)&&l.all isJ&&p.all isJ&&decide (0≤i∧i < 2 ^ p.length)&&decide (zY (AK (zZ m l)) p i.toNat=key)
theorem B6:∀ (n:Nat) (l:List ByteArray),l.length=2*n→(Q7 l).length=n
 | 0,[],_=>rfl
 | n+1,a::b::r,h=>by
  have:=B6 n r (by simp only [aOB] at h;omega);rw [Q7,aOB,this]
 | n+1,[a],h=>by simp only [aOB,List.length_nil] at h;omega
 | n+1,[],h=>by simp at h
 | 0,a::r,h=>by simp at h
theorem Q6:∀ (n:Nat) (l:List ByteArray) (k:Nat),l.length=2*n→k < n→(Q7 l).getD k sNil=FH (l.getD (2*k) sNil) (l.getD (2*k+1) sNil)
 | 0,l,k,_,hk=>by omega
 | n+1,[],k,h,_=>by simp at h
 | n+1,[a],k,h,_=>by simp only [aOB,List.length_nil] at h;omega
 | n+1,a::b::r,0,h,_=>rfl
 | n+1,a::b::r,k+1,h,hk=>by
  have ih:=Q6 n r k (by simp only [aOB] at h;omega) (by omega);rw [Q7,show 2*(k+1)=2*k+1+1 by omega,List.getD_cons_succ,ih,List.getD_cons_succ,List.getD_cons_succ,List.getD_cons_succ,List.getD_cons_succ]
theorem Q2 (i:Nat):i ^^^ 1=if i % 2=1 then i - 1 else i+1:=by
 have h2:(i ^^^ 1) / 2=i / 2:=by
  rw [Nat.xor_div_two];simp
 have h3:(i ^^^ 1) % 2=(i % 2) ^^^ 1:=by
  have:=Nat.xor_mod_two_pow (a:=i) (b:=1) (n:=1)
  simpa using this
 have h4:(i ^^^ 1) % 2=1 - i % 2:=by
  rw [h3];have:i % 2=0∨i % 2=1:=by omega
  rcases this with h|h<;>rw [h]<;>rfl
 split
 ·omega
 omega
theorem QA:∀ (h:Nat) (l:List ByteArray) (i:Nat),l.length=2 ^ h→i < 2 ^ h→zY (l.getD i sNil) (mQ h l i) i=O6 h l
 | 0,l,i,hl,hi=>by
  have:i=0:=by simpa using hi
  subst this;rw [mQ,zY,O6];cases l<;>rfl
 | h+1,l,i,hl,hi=>by
  have hl2:l.length=2*2 ^ h:=by rw [hl,Nat.pow_succ,Nat.mul_comm]
  have hi2:i / 2 < 2 ^ h:=by rw [Nat.pow_succ] at hi;omega
  have ih:=QA h (Q7 l) (i / 2) (B6 _ _ hl2) hi2;rw [mQ,zY,O6,← ih,Q6 _ _ _ hl2 hi2,Q2];congr 1
  split
  ·next h1 =>
   rw [show 2*(i / 2)=i - 1 by omega,show i - 1+1=i by omega]
  next h1 =>
  rw [show 2*(i / 2)=i by omega]
theorem GX:∀ (h:Nat) (l:List ByteArray) (i:Nat),(mQ h l i).length=h
 | 0,_,_=>rfl
 | h+1,l,i=>by rw [mQ,aOB,GX h]
theorem xI (s:ByteArray) (h:Nat):(mB s h).length=2 ^ h:=by simp [mB]
theorem aBc (s:ByteArray) {h i:Nat} (hi:i < 2 ^ h):(mB s h).getD i sNil=SG s i:=by rw [List.getD_eq_getElem?_getD,mB,aOT,List.getElem?_range hi];rfl
theorem oY {α:Type} {l:List α} {k:Nat} {d:α} (h:k < l.length):l.getD k d∈l:=by rw [List.getD_eq_getElem?_getD,aOE h];exact List.getElem_mem h
theorem aEd (s:ByteArray) (i:Nat) (m:ByteArray):zZ m (EN s i m)=IT s i:=by
 apply List.ext_getElem?;intro k;rw [zZ,List.getElem?_zipWith,EN,IT,aOT,aOT];by_cases hk:k < 18
 ·have hk2:k < (GD m).length:=by rw [J8];exact hk
  have hlt:=YT m _ (oY (d:=0) hk2);have h4:(GD m)[k]?=some ((GD m).getD k 0):=by
   rw [List.getD_eq_getElem?_getD,aOE hk2];rfl
  rw [List.getElem?_range hk,h4];show some (AU (AU (kV s i k) ((GD m).getD k 0)) (15 - (GD m).getD k 0))=some (AU (kV s i k) 15);rw [SU,show (GD m).getD k 0+(15 - (GD m).getD k 0)=15 by omega]
 rw [List.getElem?_eq_none (by simp;omega)];rfl
theorem aE0 {n:Nat} (h:n < 16):U2 (UInt8.ofNat (uV n).toNat)=true:=by revert h;revert n;decide
theorem FR (s:ByteArray):isJ (rT s)=true:=by rw [isJ,aOI,aOG];refine⟨jU s,?_⟩;rw [List.all_eq_true];intro b hb;obtain ⟨j,_,rfl⟩:=List.mem_map.1 (show b∈(List.range 16).map _ from by simpa [rT,OA] using hb);exact aE0 (BC _ _)
theorem aJg {t:ByteArray} (h:isJ t=true):∀ n,isJ (AU t n)=true
 | 0=>h
 | n+1=>by rw [F3];exact FR _
theorem uA {t:ByteArray} (h:isJ t=true):t.size=16:=by rw [isJ,aOI,aOG] at h;exact h.1
theorem TW (s:ByteArray) (i:Nat) (m:ByteArray):∀ t∈EN s i m,isJ t=true:=by intro t ht;obtain ⟨k,_,rfl⟩:=List.mem_map.1 ht;exact aJg (FR _) _
theorem K0 (s:ByteArray) (i:Nat) (m:ByteArray):(EN s i m).length=18:=by simp [EN]
theorem JJ:∀ (n:Nat) (l:List ByteArray),l.length≤n→∀ t∈Q7 l,isJ t=true
 | _,[],_,t,ht=>by simp [Q7] at ht
 | _,[a],_,t,ht=>by simp [Q7] at ht
 | 0,a::b::r,h,t,ht=>by simp at h
 | n+1,a::b::r,h,t,ht=>by
  rw [Q7] at ht;rcases aOL.1 ht with rfl|ht
  ·exact FR _
  exact JJ n r (by simp only [aOB] at h;omega) t ht
theorem GY:∀ (h:Nat) (l:List ByteArray) (i:Nat),l.length=2 ^ h→i < 2 ^ h→(∀ t∈l,isJ t=true)→∀ t∈mQ h l i,isJ t=true
 | 0,_,_,_,_,_,t,ht=>by simp [mQ] at ht
 | h+1,l,i,hl,hi,ha,t,ht=>by
  have hl2:l.length=2*2 ^ h:=by rw [hl,Nat.pow_succ,Nat.mul_comm]
  rw [mQ] at ht;rcases aOL.1 ht with rfl|ht
  ·refine ha _ (oY ?_);rw [Q2];rw [Nat.pow_succ] at hi
   split<;>omega
  exact GY h (Q7 l) (i / 2) (B6 _ _ hl2) (by rw [Nat.pow_succ] at hi;omega) (JJ _ _ (aOF _)) t ht
theorem CI (s:ByteArray) (h:Nat):∀ t∈mB s h,isJ t=true:=by intro t ht;obtain ⟨k,_,rfl⟩:=List.mem_map.1 ht;exact FR _
theorem aCf (s m:ByteArray) {h i:Nat} (hh:h≤8) (hi:i < 2 ^ h):xX (tL s h) m (i:Int) (EN s i m) (mQ h (mB s h) i)=true:=by
 have h1:=QA h (mB s h) i (xI s h) hi;rw [aBc s hi,SG,← aEd s i m] at h1;rw [xX,GX,K0,List.all_eq_true.2 (TW s i m),List.all_eq_true.2 (GY h _ i (xI s h) hi (CI s h)),aOK,h1];have hi2:(i:Int) < 2 ^ h:=by exact_mod_cast hi
 simp [hh,tL,hi2]
def dS (l:List ByteArray):List (List AV):=l.map fun s=>[.pv (.str s)]
theorem jY (l:List ByteArray):(dS l).length=l.length:=aNz _
theorem lO (l:List ByteArray) (s:ByteArray):dS l++[[.pv (.str s)]]=dS (l++[s]):=by rw [dS,dS,List.map_append];rfl
theorem cL (H:aB) (l:List ByteArray):∀ r∈dS l,∀ a∈r,Clo H a:=by intro r hr a ha;obtain ⟨b,_,rfl⟩:=List.mem_map.1 hr;rw [aOC] at ha;subst ha;simp
theorem fN (l:List ByteArray):dS l=(l.map encStr).map (·.map .pv):=by rw [List.map_map];rfl
def gE (t:GTag):ByteArray:=t.key++⟨#[61]⟩++⟨(eC t.val.data.toList).toArray⟩
def wK (L:List ByteArray):aB:=[(903,⟨L.length,1,9,dS L⟩),(4,bx 1 22 [.osl 903 L.length 0 L.length])]
theorem aIg (L:List ByteArray) (s:ByteArray):wK (L++[s])=[(903,⟨L.length+1,1,9,dS (L++[s])⟩),(4,bx 1 22 [.osl 903 (L.length+1) 0 (L.length+1)])]:=by simp [wK]
theorem oF (s:ByteArray):(⟨(eC s.data.toList).toArray⟩:ByteArray).size≤2*s.size+2:=by
 show (eC s.data.toList).length≤_;have:=VD s.data.toList;have h:s.data.toList.length=s.size:=by simp
 rw [eC,aOB,aOA,List.length_singleton];omega
theorem aAT {i j:Nat} {a b a' b':Ob} {id:Nat} (h:(aB.get [(i,a),(j,b)] id).isSome=true):(aB.get [(i,a'),(j,b')] id).isSome=true:=by
 simp only [aB.get] at h ⊢;cases e1:Nat.beq i id with
 | true=>rfl
 | false =>
  rw [e1] at h;cases e2:Nat.beq j id with
  | true=>rfl
  | false=>rw [e2] at h;exact h
theorem aFy (t:GTag) (L:List ByteArray) (hk:t.key.size < 1099511627776) (hv:t.val.size < 1099511627776) (hL:L.length < 1099511627776) :
  aI Tryz.prog 269 [av (bJ t),.ref 4 0 0 0] (wK L) (fun r H'=>r=.tup []∧H'=wK (L++[gE t])):=by
 rw [aIg];have hq:=oF t.val;have h61:(⟨#[61]⟩:ByteArray).size=1:=rfl;have hks:(t.key++⟨#[61]⟩:ByteArray).size=t.key.size+1:=by rw [ByteArray.size_append];rfl
 refine Bd func269 rfl ntmps269<|Sr<|Dd (by exact cH (id:=2) rfl rfl rfl rfl rfl)<|Zz<|aO follows<|Cr [4] (fun _ h=>lh aH h)<|Cr [2] (fun _ h=>fh mE h)<|Cr [2] (fun _ h=>lh isAgg9 h)<|Cr [] (fun H1 hH=>by exact cD rfl rfl rfl (by omega) rfl)<|Cr [2] (fun _ h=>fh nC h)<|Cr [2] (fun _ h=>lh isAgg9 h)<|Cr [] (fun H1 hH=>by exact aA rfl rfl call210 rfl (aAC t.val _ (by omega)))<|Cr [] (fun H1 hH=>by exact cD rfl rfl rfl (by omega) rfl)<|Cr [] (fun H1 hH=>by exact aR [[.str (gE t)]] rfl cA rfl rfl rfl rfl rfl (by intro r hr;rw [aOC] at hr;subst hr;rfl))<|Cp [903] (fun H1 hH=>by exact dH (ps:=[[.str (gE t)]]) rfl cA EC rfl ((hH _ rfl).trans rfl) rfl rfl rfl (jY L) rfl (by intro r hr;rw [aOC] at hr;subst hr;rfl) (m:=1) rfl (by omega) rfl (lO L (gE t))) ?_;refine Cp [4] (fun H1 hH=>by exact cJ rfl sizeOf22 rfl rfl rfl rfl ((hH _ rfl).trans rfl) rfl rfl rfl)<|bL<|Kr ?_;exact rL (H':=[(903,⟨L.length+1,1,9,dS (L++[gE t])⟩),(4,bx 1 22 [.osl 903 (L.length+1) 0 (L.length+1)])]) (.inl rfl) rfl (Fin.wk (by(simp;done)) (Hc (cL _ _)<|Ha<|trivial) ⟨rfl,rfl,trivial⟩) ⟨rfl,rfl⟩
def IQ (l:List GTag):ByteArray:=⟨(bS [32] (bs (l.map gE))).toArray⟩
def gY (l:List GTag):ByteArray×Int:=if pN l then(if 20000 < (IQ l).size then(sNil,2)else(IQ l,0))else(sNil,1)
theorem PZ {t:GTag} (hk:t.key.size≤24) (hv:t.val.size≤200):(gE t).size≤427:=by have hq:=oF t.val;have h61:(⟨#[61]⟩:ByteArray).size=1:=rfl;rw [gE,ByteArray.size_append,ByteArray.size_append,h61];omega
theorem dG {s:ByteArray} (h:bP s=true):s.size≤24:=by rw [bP,aOI,aOI,aOG] at h;omega
theorem mN {l:List ByteArray} {n:Nat} (h:∀ s,s∈l→s.size≤n):cV l≤n*l.length:=by
 induction l with
 | nil=>exact aOQ _
 | cons a l ih =>
  rw [cV,List.map_cons,List.sum_cons,aOB,Nat.mul_succ];have h1:=h a List.mem_cons_self;have h2:=ih (fun s hs=>h s (List.mem_cons_of_mem _ hs));rw [cV] at h2;omega
theorem aLh {L:List ByteArray} {K:aB} {r:ByteArray} (h:aI Tryz.prog 168 [.pv (aX L),sv ⟨#[32]⟩] [] (fun x H'=>x=sv r∧H'=[])):aI Tryz.prog 168 [.osl 903 L.length 0 L.length,sv ⟨#[32]⟩] ((903,⟨L.length,1,9,dS L⟩)::K) (fun x H'=>x=sv r∧H'=(903,⟨L.length,1,9,dS L⟩)::K):=by
 exact RO.calls (RO.lend (id:=903) (H1:=[]) (L.map encStr) (RO.of h rfl) (get_cons_same _ _ _) (fN L) rfl
  (dN (.osl (by rw [aOR,List.drop_zero,List.take_of_length_le (by rw [aNz];exact aOF _)])) (dN (.same (by simp)) pQ)) (fun _ _ h=>by cases h) (fun _ _ h=>by cases h) rfl)
theorem OW (l:List GTag) (H:aB) (hl:G5 l):aI Tryz.prog 241 [.pv (qI l)] H (fun r H'=>r=.tup [sv (gY l).1,iv (gY l).2]∧H'=H):=by
 refine Pu ?_;have hml:(l.map bJ).length=l.length:=aNz _;refine Bd func241 rfl ntmps241<|Sr<|Dd aN<|Dd aN<|Zz<|Sq<|Sr<|Dd aF<|Dd (by exact aA rfl rfl aCV rfl (yE l _ hl))<|Dd jS<|Zz ?_;refine Cn ?_ ?_<;>intro hc1
 ·have hg:pN l=false:=by rw [← aOS];exact hc1
  have e:gY l=(sNil,1):=by rw [gY,aNx (by rw [hg];decide)]
  rw [e];exact Sr<|Dd aN<|Dd aN<|Zz<|aC<|Ru<|Qq
 have hg:pN l=true:=by rw [← Bool.not_eq_false'];exact hc1
 obtain ⟨g1,g2,g3⟩:=xO.1 hg;refine aD<|Sr<|Dd (by exact bU (id:=4) rfl aC4 rfl rfl)<|Zz<|Sr<|Dd (by exact gC rfl rfl)<|Dd aN<|Zz<|Sq<|Sq ?_;refine gK.ent (E':=[(0,.pv (qI l)),(4,.ref 4 0 0 0),(5,.clo 269 [.ref 4 0 0 0])]) (H':=wK []) (cY.nz 903 1 9 rfl rfl ⟨⟨_,rfl,(by exact Nz.same (by(simp;done)))⟩,⟨_,rfl,(by exact Nz.same (by(simp;rfl)))⟩,⟨_,rfl,(by exact Nz.same (by(simp;rfl)))⟩,trivial⟩ ⟨⟨_,rfl,rfl,rfl,rfl,(by exact .inr ⟨_,_,rfl,rfl,(by repeat(first|exact trivial|refine⟨(by exact Nz.own),?_⟩))⟩)⟩,trivial⟩ trivial) ?_;refine Rg<|Dd aF<|Dd (fY cS)<|Dd aF<|Zz<|aG ?_;refine bT (σ:=Nat) (fun k=>([(4,.ref 4 0 0 0),(5,.clo 269 [.ref 4 0 0 0]),(13,.pv (qI l)),(14,iv ((l.map bJ).length:Int)),(15,iv (k:Int))],wK ((l.take k).map gE))) (fun k=>k≤l.length) (fun k=>l.length - k) 0 (aOQ _) ?_ ?_
 ·exact(cY.wk (Ea<|Ea<|Eb<|Eb<|Eb<|trivial) (Hc (cL _ _)<|Ha<|trivial) trivial)
 intro k hk;refine Sr<|Dd dK<|Zz<|Sq ?_;refine Cn ?_ ?_<;>intro hc2
 ·have hlt:k < l.length:=by have:=aNv hc2;omega
  obtain ⟨t,ht⟩:=aZ hlt;have hi:=cP (f:=bJ) ht;obtain ⟨b1,b2,b3⟩:=g1 t (aOJ ht);have b4:=dG b1;have hLl:((l.take k).map gE).length < 1099511627776:=by rw [aNz,aON];omega
  have hnx:(l.take (k+1)).map gE=(l.take k).map gE++[gE t]:=by rw [List.take_add_one,ht,List.map_append];rfl
  refine aD<|Sq<|aG<|Sr<|Dd (by exact bW rfl jF rfl rfl (by omega) (by exact aOK _) hi rfl)<|Dd (by exact dL rfl sU jH rfl hi (by simp only [Zl,bJ];rfl) rfl)<|Dd (by exact bU (id:=7) rfl aHz rfl rfl)<|Uu (kQ jH)<|Zz<|Rg<|Dd aF<|Dd (rQ sU jH)<|Dd (by exact cR rfl rfl rfl (dD.clo call269 (aI.frame (aFy t ((l.take k).map gE) (by omega) (by omega) hLl) (NJ.sub ⟨rfl,rfl,trivial⟩) (eG.ofL ⟨(by exact cL _ _),(by(simp;rfl)),trivial⟩) (by simp;rfl) (fun id h=>.inl (aAT h)))))<|Zz<|Rg<|Dd lR<|Dd aF<|Zz ?_;refine⟨k+1,by omega,by omega,?_⟩;show cY _ _ _ _ (wK ((l.take (k+1)).map gE));rw [hnx];exact(cY.wk (Ea<|Ea<|Eb<|Eb<|Eb<|trivial) (Hc (cL _ _)<|Ha<|trivial) trivial)
 have hge:k=l.length:=by have:=aNw hc2;omega
 subst hge;have hsb:cV (l.map gE)≤427*l.length:=by
  have:=mN (l:=l.map gE) (n:=427) (fun s hs=>by
   obtain ⟨t,ht,rfl⟩:=List.mem_map.1 hs;obtain ⟨b1,b2,b3⟩:=g1 t ht;exact PZ (dG b1) b3)
  rwa [aNz] at this
 have hj:aI Tryz.prog 168 [.pv (aX (l.map gE)),sv ⟨#[32]⟩] [] (fun x H'=>x=sv (IQ l)∧H'=[]):=sK (l.map gE) ⟨#[32]⟩ [] (by decide) (by rw [aNz];show 1*_+_+_ < _;omega);have hj2:=aLh (L:=l.map gE) (K:=[(4,bx 1 22 [.osl 903 (l.map gE).length 0 (l.map gE).length])]) hj;rw [List.take_length];refine bC<|Sr<|Dd (bM aH)<|Dd (by exact aA rfl rfl oN rfl (hj2))<|Dd aN<|Zz<|Sq<|Sr<|Dd aF<|Dd (lH underlying9)<|Dd jE<|Zz ?_;refine Cn ?_ ?_<;>intro hc3
 ·have e:gY l=(sNil,2):=by
   rw [gY,aNy hg,aNy (by have:=aNv hc3;omega)]
  rw [e];exact Sr<|Dd aN<|Dd aN<|Zz<|aC<|Ru<|Qq
 have e:gY l=(IQ l,0):=by
  rw [gY,aNy hg,aNx (by have:=aNw hc3;omega)]
 rw [e];exact aD<|Sr<|Dd aF<|Dd aN<|Dd aN<|Zz<|aC<|Ru<|Qq
theorem aCA {t:ByteArray} (h:t.size < 1099511627776):∀ n,(AU t n).size < 1099511627776
 | 0=>h
 | n+1=>by rw [F3,jU];decide
theorem SS (t:ByteArray) (n:Nat) (H:aB) (ht:t.size < 1099511627776) (hn:n < 1000):aI Tryz.prog 97 [sv t,iv (n:Int)] H (fun r H'=>r=sv (AU t n)∧H'=H):=by
 refine Pu ?_;refine Bd func97 rfl ntmps97<|Sr<|Dd aN<|Zz<|Sq<|Sr<|Dd aF<|Dd aF<|Zz<|aG ?_;refine bT (σ:=Nat) (fun k=>([(0,sv (AU t k)),(5,iv (n:Int)),(6,iv (k:Int))],[])) (fun k=>k≤n) (fun k=>n - k) 0 (aOQ _) ?_ ?_
 ·exact Wk
 intro k hk;have hsum:=fun H=>KU (AU t k) H (by have:=aCA ht k;omega);rw [← F3] at hsum;refine Sr<|Dd dK<|Zz<|Sq ?_;refine Cn ?_ ?_<;>intro hc1
 ·have hlt:k < n:=by have:=aNv hc1;omega
  refine aD<|Sq<|aG<|Rg<|Dd aF<|Dd (by exact aA rfl rfl AQ rfl (hsum _))<|Dd aN<|Zz<|Rg<|Dd (by exact cI rfl rfl rfl (show IntKind.i64.wrap ((k:Int)+1)=((k+1:Nat):Int)by rw [pB (by omega) (by omega)];omega))<|Dd aF<|Zz ?_;exact⟨k+1,by omega,by omega,Wk⟩
 have hge:k=n:=by have:=aNw hc1;omega
 subst hge;exact bC<|Sr<|Dd aF<|Dd aN<|Zz<|aC<|Rt<|Qq
theorem UR (l:List ByteArray) (H:aB) (hl:(aM l).length < 35184372088832):aI Tryz.prog 98 [.pv (aX l)] H (fun r H'=>r=sv (AK l)∧H'=H):=by refine Pu ?_;exact Bd func98 rfl ntmps98<|Sr<|Dd aN<|Zz<|Sr<|Dd aF<|Dd (by exact aA rfl rfl call133 rfl (aEF l _ hl))<|Dd aN<|Zz<|aC<|Rt<|Qq
theorem aAU (a b c:ByteArray):(aM [a,b,c]).length=(nJ a).size+(nJ b).size+(nJ c).size:=by simp [aM,mO];omega
theorem DR (n:Nat) (h:n < 1099511627776):(aT (n:Int)).size≤21:=oH (by omega) (by omega)
theorem mP {s:ByteArray} (h:s.size < 1099511627776):(nJ s).size≤s.size+22:=by have:=DR s.size h;rw [oU];omega
theorem ZU (s:ByteArray) (i k:Nat) (H:aB) (hs:s.size < 1099511627776) (hi:i < 1099511627776) (hk:k < 1099511627776):aI Tryz.prog 100 [sv s,iv (i:Int),iv (k:Int)] H (fun r H'=>r=sv (kV s i k)∧H'=H):=by
 refine Pu ?_;have h1:=DR i hi;have h2:=DR k hk;have hj:(aM [s,aT (i:Int),aT (k:Int)]).length < 35184372088832:=by
  have e1:=mP hs;have e2:=mP (s:=aT (i:Int)) (by omega);have e3:=mP (s:=aT (k:Int)) (by omega);rw [aAU];omega
 exact Bd func100 rfl ntmps100<|Sr<|Dd aN<|Zz<|Sr<|Dd aF<|Dd aF<|Dd (by exact aA rfl rfl oO rfl (sM (i:Int) (by omega) (by omega) _))<|Dd aF<|Dd (by exact aA rfl rfl oO rfl (sM (k:Int) (by omega) (by omega) _))<|Dd (by exact aR [[.str s],[.str (aT (i:Int))],[.str (aT (k:Int))]] rfl cA rfl rfl rfl rfl rfl (by intro r hr;simp only [aOL,aOP,or_false] at hr;rcases hr with rfl|rfl|rfl<;>rfl))<|Dd (by exact aA rfl rfl S7 rfl (UR [s,aT (i:Int),aT (k:Int)] _ hj))<|Dd aN<|Zz<|aC<|Rt<|Qq
theorem aAI (a b:ByteArray) (back:Bool) (H:aB) (ha:a.size < 1099511627776) (hb:b.size < 1099511627776):aI Tryz.prog 99 [sv a,sv b,bv back] H (fun r H'=>r=sv (if back=true then FH b a else FH a b)∧H'=H):=by
 refine Pu ?_;have hj:∀ x y:ByteArray,x.size < 1099511627776→y.size < 1099511627776→(aM [II,x,y]).length < 35184372088832:=by
  intro x y hx hy;have e1:=mP (s:=II) (by decide);have e2:=mP hx;have e3:=mP hy;have e4:II.size=4:=rfl;rw [aAU];omega
 refine Bd func99 rfl ntmps99<|Sr<|Dd aN<|Zz<|Sq<|Sr<|Dd aF<|Zz ?_;refine Cn ?_ ?_<;>intro hc1
 ·subst hc1;exact Rg<|Dd aF<|Dd aF<|Dd aN<|Dd aN<|Zz<|Sr<|Dd aF<|Dd aF<|Dd (by exact aR [[.str II],[.str b],[.str a]] rfl cA rfl rfl rfl rfl rfl (by intro r hr;simp only [aOL,aOP,or_false] at hr;rcases hr with rfl|rfl|rfl<;>rfl))<|Dd (by exact aA rfl rfl S7 rfl (UR [II,b,a] _ (hj b a hb ha)))<|Dd aN<|Zz<|aC<|Rt<|Qq
 subst hc1;exact aD<|Sr<|Dd aF<|Dd aF<|Dd (by exact aR [[.str II],[.str a],[.str b]] rfl cA rfl rfl rfl rfl rfl (by intro r hr;simp only [aOL,aOP,or_false] at hr;rcases hr with rfl|rfl|rfl<;>rfl))<|Dd (by exact aA rfl rfl S7 rfl (UR [II,a,b] _ (hj a b ha hb)))<|Dd aN<|Zz<|aC<|Rt<|Qq
def QH (s:ByteArray) (i k:Nat):List ByteArray:=(List.range k).map fun k=>AU (kV s i k) 15
theorem YQ (s:ByteArray) (i k:Nat):QH s i (k+1)=QH s i k++[AU (kV s i k) 15]:=by rw [QH,List.range_succ,List.map_append];rfl
theorem QG (s:ByteArray) (i k:Nat):(QH s i k).length=k:=by simp [QH]
theorem A1 (s:ByteArray) (i k:Nat):(kV s i k).size=16:=jU _
theorem yW {b:Nat} (hb:b < 1099511627776):∀ (l:List ByteArray),(∀ s∈l,s.size≤b)→(aM l).length≤(b+22)*l.length
 | [],_=>aOF _
 | s::r,h=>by
  have ih:=yW hb r (fun x hx=>h x (List.mem_cons_of_mem _ hx));have hs:=h s List.mem_cons_self;have e:aM (s::r)=(nJ s).data.toList++aM r:=by rw [aM,List.flatMap_cons];rfl
  have h2:=mP (s:=s) (by omega);rw [e,aOA,aOB,mO,Nat.mul_add,Nat.mul_one];omega
theorem aBz (t:ByteArray) (H:aB) (ht:t.size < 1099511627776):aI Tryz.prog 97 [sv t,iv 15] H (fun r H'=>r=sv (AU t 15)∧H'=H):=SS t 15 H ht (by decide)
theorem aJf (s:ByteArray) (i:Nat) (H:aB) (hs:s.size < 1099511627776) (hi:i < 1099511627776):aI Tryz.prog 139 [sv s,iv (i:Int)] H (fun r H'=>r=sv (SG s i)∧H'=H):=by
 refine Pu ?_;refine Bd func139 rfl ntmps139<|Sr<|Dd aN<|Zz<|Sr<|Dd (by exact pJ (id:=905) (sz:=1) (ty:=9) rfl rfl rfl)<|Zz<|Sq<|Sr<|Dd aF<|Zz<|aG ?_;refine bT (σ:=Nat) (fun k=>([(0,sv s),(1,iv (i:Int)),(5,.osl 905 k 0 k),(7,iv (k:Int))],[(905,⟨k,1,9,dS (QH s i k)⟩)])) (fun k=>k≤18) (fun k=>18 - k) 0 (aOQ _) ?_ ?_
 ·exact(cY.wk (Eb<|Eb<|Ea<|Eb<|trivial) (Hc (cL _ _)<|trivial) trivial)
 intro k hk;have hln:=QG s i k;have hnx:=YQ s i k;refine Sr<|Dd dK<|Zz<|Sq ?_;refine Cn ?_ ?_<;>intro hc1
 ·have hlt:k < 18:=by have:=aNv hc1;omega
  refine aD<|Sq<|aG<|Sr<|Dd aF<|Dd aN<|Zz<|Rg<|Dd aF<|Dd aF<|Dd aF<|Dd aF<|Dd (by exact aA rfl rfl call100 rfl (ZU s i k _ hs hi (by omega)))<|Dd (by exact aA rfl rfl aNl rfl (aBz (kV s i k) _ (by rw [A1];decide)))<|Dd (by exact aR [[.str (AU (kV s i k) 15)]] rfl cA rfl rfl rfl rfl rfl (by intro r hr;rw [aOC] at hr;subst hr;rfl))<|Dd (by exact dH (ps:=[[.str (AU (kV s i k) 15)]]) rfl cA EC rfl rfl rfl rfl rfl (by rw [jY,hln]) rfl (by intro r hr;rw [aOC] at hr;subst hr;rfl) (m:=1) rfl (by omega) rfl (lO _ (AU (kV s i k) 15)))<|Dd aN<|Zz<|Rg<|Dd (by exact cI rfl rfl rfl (show IntKind.i64.wrap ((k:Int)+1)=((k+1:Nat):Int)by rw [pB (by omega) (by omega)];omega))<|Dd aF<|Zz ?_;refine⟨k+1,by omega,by omega,?_⟩;dsimp only;rw [hnx];exact(cY.wk (Eb<|Eb<|Ea<|Eb<|trivial) (Hc (cL _ _)<|trivial) trivial)
 have hge:k=18:=by have:=aNw hc1;omega
 subst hge;refine bC<|Sq ?_;refine gK.ent (cY.fz (id:=905) (E':=[(5,.pv (aX (IT s i)))]) (H':=[]) ((IT s i).map encStr) rfl (fN _)
  (by intro p hp;simp only [aOL,aOP,or_false] at hp;subst hp;exact⟨_,rfl,.osl (by rw [aOR,List.drop_zero];rfl)⟩) rfl trivial trivial) ?_
 exact Rg<|Dd aF<|Dd (by exact aA rfl rfl S7 rfl (UR (IT s i) _ (by have h:=yW (b:=16) (by decide) (IT s i) (fun x hx=>by obtain ⟨k,_,rfl⟩:=List.mem_map.1 hx;exact Nat.le_of_eq (VY (A1 s i k) 15));rw [show (IT s i).length=18 from QG s i 18] at h;omega)))<|Dd aN<|Zz<|aC<|Rt<|Qq
end Go.Proofs.YtiifmppaejpemaaGreatDoor
namespace Go.Abs
theorem ZD {P:Program} {id p p2 N:Nat} {x:Go.Loop} {assign body:Code} {E0:cB} {a a2:AV} {K:aB} {Q:AV→aB→Prop} (E2:cB) (K2:aB) (hx1:x.state=.ready) (hx2:x.pending=none) (hp:x.params=#[p,p2]) (hN:x.tmps.size=N) (hxa:x.assign=assign) (hxb:x.body=body) (hpN:Nat.blt p N=true) (hpN2:Nat.blt p2 N=true) (hpp:Nat.beq p p2=false)
  (hok:hY assign=true) (hok2:hY body=true)
  (h1:gK P ((id,LR x E0)::K) N assign (xT (fun E1 H1=>cY ((id,LR x E0)::K) E1 H1 E2 ((id,LR x E0)::K2)) (fun _ _ _=>False)) ((p2,a2)::(p,a)::E0) ((id,LR x E0)::K))
  (h2:gK P ((id,LR x E0)::K) N body (aFZ ((id,LR x E0)::K) id x E0 Q) E2 ((id,LR (busy x) E0)::K2)):D4 P id 0 [a,a2] ((id,LR x E0)::K) Q:=by
 subst hxa hxb;have hpN:p < N:=by simpa [Nat.blt_eq] using hpN
 have hpN2:p2 < N:=by simpa [Nat.blt_eq] using hpN2
 have hpp:p≠p2:=fun e=>by subst e;rw [lM] at hpp;cases hpp
 intro I ι w vs v hr hv hl hvs;obtain ⟨b,e1,e2,e3,e4,e5⟩:=aDJ hr (fQ _ _ _) hv;obtain ⟨u,u2,rfl⟩:∃ u u2,vs=#[u,u2]:=by
  match vs,hl with
  | ⟨[u,u2]⟩,_=>exact⟨u,u2,rfl⟩
 have hu:=hvs 0 u a rfl rfl;have hu2:=hvs 1 u2 a2 rfl rfl;refine⟨b,x.fn,_,x.assign,x.body,e2,run_yield e3 (by rw [hp];rfl),?_⟩;refine roundIn_of_wpIn (F:=Fence.wide) trivial ?_;have hG:(⟨I,ι,(id,LR x E0)::K,w,[]⟩:Entry).H=(id,LR x E0)::K:=rfl;have hst:St ⟨I,ι,(id,LR x E0)::K,w,[]⟩ N ((p2,a2)::(p,a)::E0) ((id,LR x E0)::K) {tmps:=(x.params.zip #[u,u2]).foldl (fun tmps (t,a)=>tmps.setIfInBounds t a) x.tmps,defers:=[]} w:=by
  have ht:(x.params.zip #[u,u2]).foldl (fun tmps (t,a)=>tmps.setIfInBounds t a) x.tmps=(x.tmps.setIfInBounds p u).setIfInBounds p2 u2:=by rw [hp];simp
  rw [ht];refine⟨qD.nil _ _ _,by simp [hN],I,ι,hr,Step.refl _ _ _ _,fun t y hy=>?_⟩;by_cases e2:p2=t
  ·subst e2;rw [cB.get_cons_same] at hy;cases hy;exact⟨u2,by simp [hN,hpN2],hu2⟩
  rw [cB.get_cons_other _ _ e2] at hy;by_cases e:p=t
  ·subst e;rw [cB.get_cons_same] at hy;cases hy;exact⟨u,by show ((x.tmps.setIfInBounds p u).setIfInBounds p2 u2)[p]?=some u;rw [Array.getElem?_setIfInBounds_ne e2];simp [hN,hpN],hu⟩
  rw [cB.get_cons_other _ _ e] at hy;obtain ⟨i,hi⟩:=aOU.1 (gD hy);obtain ⟨c,c1,c2⟩:=e5 i t y (by rw [aOT,hi];rfl) (by rw [aOT,hi];rfl);exact⟨c,by show ((x.tmps.setIfInBounds p u).setIfInBounds p2 u2)[t]?=some c;rw [Array.getElem?_setIfInBounds_ne e2,Array.getElem?_setIfInBounds_ne e];exact c1,c2⟩
 refine wpIn_mono (h1 _ hG _ w hst (some b) (.inr hok)) ?_;rintro e a1 w1 ⟨E1,H1,q,hs1⟩;cases e with
 | normal =>
  have hs2:=q _ hG N a1 w1 hs1;obtain ⟨I1,ι1,hr1,hst1,he1⟩:=hs2.rel;have hι1:=qK hst1 (fQ _ _ _) e1 (fQ _ _ _);have hb1:=rB hr1 (fQ _ _ _) hι1;obtain ⟨k1,k2⟩:=hr1.setRec (y:=busy x) (H':=(id,LR (busy x) E0)::K2) (fQ _ _ _) hι1 rfl (fQ _ _ _) (fun j hj=>xM _ _ _ hj);refine⟨_,run_beginRound hb1 hx1,?_⟩;have hs3:St ⟨I,ι,(id,LR x E0)::K,w,[]⟩ N E2 ((id,LR (busy x) E0)::K2) a1 (w1.putObj b (.loop (busy x))) :=
   ⟨hs2.defers.step hr1 k2,hs2.size,I1,ι1,k1,hst1.trans k2,fun t y hy=>let ⟨c,c1,c2⟩:=he1 t y hy;⟨c,c1,c2.mono hr1 k2⟩⟩
  refine wpIn_mono (h2 _ hG a1 _ hs3 (some b) (.inr hok2)) ?_;rintro e a2 w3 ⟨E3,H3,q3,hs4⟩;have fin:∀ (jump:Option Code) (y:Go.Loop) (K3:aB),y={busy x with state:=if jump.isNone then .ready else .done,pending:=jump}→cY ((id,LR x E0)::K) E3 H3 [] ((id,LR (busy x) E0)::K3)→Q (.pv (.bool jump.isNone)) ((id,LR y E0)::K3) →
    ∃ v w',(Instr.endRound b jump).run P w3=.ok v w'∧∃ r H' I' ι' v',Ending.returned v=.returned v'∧Q r H'∧VRel w' I' ι' H' v' r∧Rel I' ι' H' w'∧Step I ι ((id,LR x E0)::K) w I' ι' H' w':=by
   intro jump y K3 hy hent hQ;have hs5:=hent _ hG N a2 w3 hs4;obtain ⟨I5,ι5,hr5,hst5,_⟩:=hs5.rel;have hι5:=qK hst5 (fQ _ _ _) e1 (fQ _ _ _);have hb5:=rB hr5 (fQ _ _ _) hι5;obtain ⟨z1,z2⟩:=hr5.setRec (y:=y) (H':=(id,LR y E0)::K3) (fQ _ _ _) hι5 (by rw [hy]) (fQ _ _ _) (fun j hj=>xM _ _ _ hj);refine⟨_,_,run_endRound jump hb5,_,_,I5,ι5,_,rfl,hQ,.pv (.bool _),?_,?_⟩
   ·rw [← hy];exact z1
   rw [← hy];exact hst5.trans z2
  cases e with
  | normal =>
   obtain ⟨K3,hent,hQ⟩:=q3;refine fin none x K3 ?_ hent hQ;obtain ⟨st,pe,fn,tm,pa,ax,bo,de⟩:=x;simp only at hx1 hx2;subst hx1 hx2;rfl
  | ret =>
   obtain ⟨K3,hent,hQ⟩:=q3;exact fin (some .ret) (left x .ret) K3 rfl hent hQ
  | exit j =>
   obtain ⟨K3,hent,hQ⟩:=q3;exact fin (some (.exit j)) (left x (.exit j)) K3 rfl hent hQ
  | goto l=>exact q3.elim
  | panic ch=>exact q3.elim
  | outgrown=>exact q3.elim
 | exit j=>exact q.elim
 | goto l=>exact q.elim
 | ret=>exact q.elim
 | panic ch=>exact q.elim
 | outgrown=>exact q.elim
theorem M2 {P:Program} {G0:aB} {N f id p p2:Nat} {caps:List AV} {g:Operand} {ps:Array Tmp} {assign body:Code} {Q:Exit→cB→aB→Prop} {E:cB} {H:aB} (E0:cB) (hg:aP E g=some (.clo f caps)) (hc:∀ (args:Array Value) (w:World),(callFunc f args).run P w=.ok (.enter f args) w)
  (hps:ps=#[p,p2]) (hid:H.get id=none) (hE0:∀ q∈E0,E.get q.1=some q.2)
  (h:∀ x:Go.Loop,x.state=.ready→x.pending=none→x.params=#[p,p2]→x.tmps.size=N→x.assign=assign→x.body=body →
   aI P f (.yld id 0::caps) ((id,LR x E0)::H) (fun r H'=>∃ (y:Go.Loop) (K:aB),y.tmps=x.tmps∧y.state≠.busy∧H'=(id,LR y E0)::K∧∀ z:Go.Loop,aF2 Q E ((id,LR z E0)::K) y.pending)) :
  gK P G0 N (.rangeFunc g ps assign body) Q E H:=by
 intro G hG a w hs ro hro;obtain rfl:ro=none:=hro.resolve_right (fun h=>by cases h);obtain ⟨I,ι,hr,hst,he⟩:=hs.rel;refine wpIn_rangeFunc (F:=RF none) ?_;intro fn _;have hgv:=aJ he hg;generalize hfc:a.eval g=fc at hgv;cases hgv with
 | @clo _ us _ hl hh =>
  obtain ⟨x,hx⟩:∃ x:Go.Loop,x={state:=.ready,pending:=none,fn,tmps:=a.tmps,params:=ps,assign,body,defers:=w.heap.size}:=⟨_,rfl⟩;obtain ⟨a1,a2⟩:=hr.push (.deferred (some []));obtain ⟨wd,hwd⟩:∃ wd,wd=w.alloc (.deferred (some [])):=⟨_,rfl⟩;rw [← hwd] at a1 a2;have hwds:wd.heap.size=w.heap.size+1:=by rw [hwd,World.size_alloc]
  have hDd:wd.heap[w.heap.size]?=some (.deferred (some [])):=by rw [hwd];exact World.alloc_heap_new w _
  have hidH:aB.get ((id,LR x E0)::H) id=some (LR x E0):=fQ _ _ _;obtain ⟨b1,b2⟩:=a1.placeX (id:=id) (cap:=2) (x:=.loop x) (w':=wd.alloc (.loop x)) (H':=(id,LR x E0)::H) (ob':=LR x E0) rfl rfl rfl rfl (fun o ho=>by rw [hid] at ho;cases ho)
   (fun hnew hI hmono=>.inr (.inr (.inr ⟨rfl,_,x,by simp,hnew,hI,fun y ts r hy=>by
    simp only [LR,List.cons.injEq,AV.raw.injEq,and_true] at hy;obtain ⟨⟨rfl,rfl⟩,rfl⟩:=hy;refine⟨rfl,fun i t v ht hv=>?_⟩;rw [aOT] at ht hv;obtain ⟨q,hq,rfl⟩:=Option.map_eq_some_iff.1 ht;rw [hq] at hv;cases hv;obtain ⟨c,c1,c2⟩:=he q.1 q.2 (hE0 q (aOJ hq));exact⟨c,by rw [hx];exact c1,hmono _ _ (c2.mono hr a2)⟩⟩)))
   hidH (fun j hj=>by simp [aB.get,kE (Ne.symm hj)])
  obtain ⟨w1,hw1⟩:∃ w1,w1=wd.alloc (.loop x):=⟨_,rfl⟩;rw [← hw1] at b1 b2;obtain ⟨ι1,hι1⟩:∃ ι1:eS,ι1=fun j=>if j=id then some (wd.heap.size,2)else ι j:=⟨_,rfl⟩
  rw [← hι1] at b1 b2;have hιid:ι1 id=some (w.heap.size+1,2):=by rw [hι1,hwds];simp
  have hL1:=rB b1 hidH hιid;have hD1:w1.heap[w.heap.size]?=some (.deferred (some [])):=by
   rw [b2.keep _ (by rw [hwds];omega) (wY a1 hDd)];exact hDd
  have hcall:=h x (by rw [hx]) (by rw [hx]) (by rw [hx,hps]) (by rw [hx];exact hs.size) (by rw [hx]) (by rw [hx]) I ι1 w1 (#[.func (.yield (w.heap.size+1)) #[] #[]]++us) b1 (by simp [hl];omega) (fun i v c hv hc'=>by
   cases i with
   | zero =>
    rw [Array.getElem?_append_left (by simp)] at hv;simp at hv hc';subst hv hc';exact .yld (LR x E0) hidH (aOF _) rfl (fun _=>⟨rfl,_,hιid,rfl⟩)
   | succ i =>
    rw [Array.getElem?_append_right (by simp)] at hv;simp only [List.getElem?_cons_succ] at hc';have:=hh i v c (by simpa using hv) hc';exact(this.mono hr a2).mono a1 b2)
  refine⟨w.heap.size+1,[mark w.heap.size],w1,{target:=.fn (.func f) us,args:=#[.func (.yield (w.heap.size+1)) #[] #[]]},w1,f,#[.func (.yield (w.heap.size+1)) #[] #[]]++us,w1,?_,?_,fun _ _=>trivial,?_,(fun q=>by cases q),?_⟩
  ·rw [hw1,hwd,hx];exact run_enterLoop_outer _ _ _ _ _
  ·simp only [resolve,hfc];simp [go_sem]
  ·simp [invoke,go_sem,hc]
  refine((callsIn_wide (n:=0)).2 hcall).mono ?_;rintro e w3 ⟨r,H',I3,ι3,v3,rfl,⟨y,K,hy1,hy2,rfl,hq⟩,_,hr3,hst3⟩;have hι3:=qK (G:=⟨I,ι1,(id,LR x E0)::H,w1,[]⟩) hst3 hidH hιid (fQ _ _ _);have hb3:=rB hr3 (fQ _ _ _) hι3;obtain ⟨z,hz⟩:∃ z:Go.Loop,z={y with state:=.exhausted}:=⟨_,rfl⟩;obtain ⟨z1,z2⟩:=hr3.setRec (y:=z) (H':=(id,LR z E0)::K) (fQ _ _ _) hι3 (by rw [hz]) (fQ _ _ _) (fun j hj=>xM _ _ _ hj);obtain ⟨w4,hw4⟩:∃ w4,w4=w3.putObj (w.heap.size+1) (.loop z):=⟨_,rfl⟩;rw [← hw4] at z1 z2;refine⟨y.pending,w4,by rw [hw4,hz];exact run_endLoop hb3 hy2,?_⟩;have hall:Step I ι H w I3 ι3 ((id,LR z E0)::K) w4:=((a2.trans b2).trans hst3).trans z2;have hD4:w4.heap[w.heap.size]?=some (.deferred (some [])):=by
   rw [(hst3.trans z2).keep _ (Array.getElem?_eq_some_iff.1 hD1).1 (wY b1 hD1)];exact hD1
  have hs4:St G N E ((id,LR z E0)::K) {a with defers:=[mark w.heap.size]++a.defers} w4:=by
   refine⟨?_,hs.size,I3,ι3,z1,hst.trans hall,fun t v hv=>let ⟨c,c1,c2⟩:=he t v hv;⟨c,c1,c2.mono hr hall⟩⟩;obtain ⟨Ds,d1,d2,d3⟩:=hs.defers.step hr hall;refine⟨w.heap.size::Ds,by rw [d1];rfl,List.nodup_cons.2 ⟨fun hmem=>?_,d2⟩,fun D hD=>?_⟩
   ·have hold:∀ D∈Ds,D < w.heap.size:=by
     obtain ⟨Ds',d1',_,d3'⟩:=hs.defers;have he:Ds'=Ds:=by
      have h0:Ds'.map mark=Ds.map mark:=List.append_cancel_right (d1'.symm.trans d1);have hinj:∀ (l l':List Nat),l.map mark=l'.map mark→l=l':=by
       intro l
       induction l with
       | nil=>intro l' h;cases l' with
        | nil=>rfl
        | cons _ _=>cases h
       | cons D l ih=>intro l' h;cases l' with
        | nil=>cases h
        | cons D' l' =>
         simp only [List.map_cons,List.cons.injEq,mark,Deferred.mk.injEq,Target.collected.injEq,and_true] at h;rw [h.1,ih l' h.2]
      exact hinj _ _ h0
     subst he;exact fun D hD=>(Array.getElem?_eq_some_iff.1 (d3' D hD).2).1
    exact Nat.lt_irrefl _ (hold _ hmem)
   rcases aOL.1 hD with rfl|hD
   ·exact⟨hst.size,hD4⟩
   exact d3 D hD
  have hq':=hq z;generalize y.pending=pend at hq' ⊢
  match pend,hq' with
  | none,hq'=>exact⟨E,_,hq',hs4⟩
  | some .ret,hq'=>exact wpIn_ret ⟨E,_,hq',hs4⟩
  | some (.exit j),hq'=>exact wpIn_exit ⟨E,_,hq',hs4⟩
end Go.Abs
namespace Go.Proofs.YtiifmppaejpemaaGreatDoor
open Go.Proofs.Tryz
open Go.Abs
theorem gR (l:List ByteArray):∀ r∈l.map encStr,r.length=1:=fun r hr=>by
 obtain ⟨t,_,rfl⟩:=List.mem_map.1 hr;rfl
def cSZ (l:List ByteArray):Ob:=bx 1 22 [.pv (aX l)]
def cNZ:Ob:=bx 1 3 [iv 2]
theorem aEp (l:List ByteArray) (H:aB) (h1:H.get 931=none) (h2:H.get 932=none) :
  aI Tryz.prog 140 [.pv (aX l),iv 2] H (fun r H'=>r=.clo 181 [.ref 931 0 0 0,.ref 932 0 0 0]∧H'=(932,cNZ)::(931,cSZ l)::H):=by
 have h2':aB.get ((931,cSZ l)::H) 932=none:=h2;refine Bd func140 rfl ntmps140<|Sr<|Dd (by exact cH (id:=931) rfl rfl rfl rfl h1)<|Dd (by exact cH (id:=932) rfl rfl rfl rfl h2')<|Dd aN<|Zz<|Sq<|Sr<|Dd (bM isAgg3)<|Dd dK<|Zz ?_;refine Cn ?_ ?_<;>intro hc1
 ·cases hc1
 refine aD<|Sr<|Dd (by exact gC rfl rfl)<|Dd aN<|Zz<|aC ?_;refine dY (H':=((932,cNZ)::(931,cSZ l)::H)) (.inr rfl) rfl (aY rfl) Fin.refl ?_;exact Qq
def A5 (l:List ByteArray) (k:Nat):List ByteArray:=(l.drop (2*k)).take 2
theorem aBV (l:List ByteArray) (k:Nat):((l.map encStr).drop (2*k)).take 2=(A5 l k).map encStr:=by rw [A5,List.map_take,List.map_drop]
theorem aGx {n:Nat} (h:2≤n):min (2:Int) (n:Int)=2:=Int.min_eq_left (by omega)
theorem aBy (l:List ByteArray) (fv:AV) (Hs:Nat→aB) (m:Nat) (hl:l.length=2*m) (hm:m < 1099511627776) (h1:∀ k,(Hs k).get 931=some (cSZ l)) (h2:∀ k,(Hs k).get 932=some cNZ)
  (hy:∀ k,k < m→dD Tryz.prog fv [.pv (aX (A5 l k))] (Hs k) (fun r H'=>r=bv true∧H'=Hs (k+1))) :
  aI Tryz.prog 181 [fv,.ref 931 0 0 0,.ref 932 0 0 0] (Hs 0) (fun r H'=>r=.tup []∧H'=Hs m):=by
 have hml:(l.map encStr).length=l.length:=aNz _;refine Bd func181 rfl ntmps181<|Sr<|Dd aN<|Zz<|aG ?_;refine bT (σ:=Nat) (fun k=>([(0,fv),(1,.ref 931 0 0 0),(2,.ref 932 0 0 0),(4,iv ((2*k:Nat):Int))],Hs k)) (fun k=>k≤m) (fun k=>m - k) 0 (aOQ _) ?_ ?_
 ·exact E0
 rintro k hkm;refine Sq<|Sr<|Dd aF<|Dd (by exact aK rfl aH rfl (h1 k) rfl rfl rfl)<|Dd (fY aE)<|Dd dK<|Zz ?_;refine Cn ?_ ?_<;>intro hc1
 ·have hlt:2*k < l.length:=by have:=aNv hc1;omega
  have hkm2:k < m:=by omega
  have hyk:=hy k hkm2;have hdl:((l.map encStr).drop (2*k)).length=l.length - 2*k:=by rw [aOO,hml]
  refine aD<|Sq<|aG<|Sq<|aO follows<|Cq (by exact aK rfl isAgg3 rfl (h2 k) rfl rfl rfl)<|Cq (by exact aK rfl aH rfl (h1 k) rfl rfl rfl)<|Cq aF<|Cq (by exact xW (l:=2*k) (h:=(l.map encStr).length) (rows':=(l.map encStr).drop (2*k)) rfl cA rfl (gR l) rfl rfl (by omega) (aOF _) (by rw [List.take_length]))<|Cq (fY aE)<|Cq (by exact JV (r:=2) rfl rfl rfl (by rw [hdl];exact aGx (by omega)))<|Cq aN<|bL<|Kr<|Sr<|Dd aF<|Dd (by exact aK rfl aH rfl (h1 k) rfl rfl rfl)<|Dd aF<|Dd aF<|Dd aF<|Dd (by exact cI rfl rfl rfl (show IntKind.i64.wrap (((2*k:Nat):Int)+2)=((2*k+2:Nat):Int)by rw [IntKind.wrap_i64];omega))<|Dd aF<|Dd aF<|Dd (by exact cI rfl rfl rfl (show IntKind.i64.wrap (((2*k:Nat):Int)+2)=((2*k+2:Nat):Int)by rw [IntKind.wrap_i64];omega)) ?_;refine Dd (by exact aC9 (l:=2*k) (h:=2*k+2) (rows':=(A5 l k).map encStr) rfl cA rfl (gR l) rfl rfl rfl (by omega) (by omega) (by intro h;rw [List.map_eq_nil_iff] at h;rw [h] at hlt;exact absurd hlt (Nat.not_lt_zero _)) (by rw [← aBV,List.drop_take];congr 1;omega))<|Dd (by exact cR rfl rfl rfl (hyk))<|Dd jS<|Zz ?_;refine Cn ?_ ?_<;>intro hc2
  ·cases hc2
  refine aD<|Rg<|Dd aF<|Dd (by exact aK rfl isAgg3 rfl (h2 (k+1)) rfl rfl rfl)<|Dd (by exact cI rfl rfl rfl (show IntKind.i64.wrap (((2*k:Nat):Int)+2)=((2*(k+1):Nat):Int)by rw [IntKind.wrap_i64];omega))<|Da ?_;exact⟨k+1,hkm2,by omega,E0⟩
 have hge:l.length≤2*k:=by have:=aNw hc1;omega
 have hkk:k=m:=by omega
 refine bC ?_;rw [← hkk];exact rL (H':=Hs k) (.inl rfl) rfl Fin.refl ⟨rfl,rfl⟩
end Go.Proofs.YtiifmppaejpemaaGreatDoor
namespace Go.Abs
theorem gT {P:Program} {G0:aB} {N:Nat} {Q:Exit→cB→aB→Prop} {E:cB} {H:aB} {x y:Code} {α:Type} (S:α→cB×aB) (J:α→Prop)
  (h:gK P G0 N x (xT (fun E1 H1=>∃ a,J a∧cY G0 E1 H1 (S a).1 (S a).2) Q) E H) (h':∀ a,J a→gK P G0 N y Q (S a).1 (S a).2):gK P G0 N (.seq x y) Q E H :=
 F5 (h.mono fun e E1 H1 q=>by
  cases e with
  | normal =>
   obtain ⟨a,ha,he⟩:=q;exact gK.ent he (h' a ha)
  | _=>exact q)
theorem xN {i:Nat} {o:Ob} {K:aB}:∀ (D:aB),(∀ p∈D,p.1=i)→∀ j,aB.get ((i,o)::K) j=aB.get ((i,o)::(D++K)) j:=by
 intro D hD j;by_cases e:i=j
 ·subst e;simp [aB.get,lM]
 have h:aB.get D j=none:=by
  cases hg:aB.get D j with
  | none=>rfl
  | some x=>exact absurd (hD _ (dW hg)).symm e
 rw [get_cons_other _ _ (Ne.symm e),get_cons_other _ _ (Ne.symm e),fP,h]
theorem kM {H:aB} {x:Go.Loop} {E0:cB} (h:∀ p∈E0,Clo H p.2):∀ r∈(LR x E0).rows,∀ a∈r,Clo H a:=by
 intro r hr a ha;simp only [LR,aOL,aOP,or_false] at hr;rcases hr with rfl|rfl
 ·rw [aOC] at ha;subst ha;simp
 obtain ⟨p,hp,rfl⟩:=List.mem_map.1 ha;exact h p hp
end Go.Abs
namespace Go.Proofs.YtiifmppaejpemaaGreatDoor
open Go.Proofs.Tryz
open Go.Abs
theorem XP {W:List ByteArray} {j:Nat} (h:2*j+2≤W.length):((A5 W j).map encStr)[0]?=some (encStr (W.getD (2*j) sNil))∧((A5 W j).map encStr)[1]?=some (encStr (W.getD (2*j+1) sNil)):=by
 have h0:(A5 W j)[0]?=some (W.getD (2*j) sNil):=by
  rw [A5,List.getElem?_take_of_lt (by decide),List.getElem?_drop,Nat.add_zero,List.getD_eq_getElem?_getD,aOE (by omega)];rfl
 have h1:(A5 W j)[1]?=some (W.getD (2*j+1) sNil):=by
  rw [A5,List.getElem?_take_of_lt (by decide),List.getElem?_drop,List.getD_eq_getElem?_getD,aOE (by omega)];rfl
 exact⟨by rw [aOT,h0];rfl,by rw [aOT,h1];rfl⟩
def upA (l:List ByteArray) (j:Nat):ByteArray:=FH (l.getD (2*j) sNil) (l.getD (2*j+1) sNil)
def ZO (l:List ByteArray) (k:Nat):List ByteArray:=(List.range k).map (upA l)
theorem aCi (l:List ByteArray) (k:Nat):ZO l (k+1)=ZO l k++[upA l k]:=by rw [ZO,List.range_succ,List.map_append];rfl
theorem ZN (l:List ByteArray) (k:Nat):(ZO l k).length=k:=by simp [ZO]
theorem aFu {l:List ByteArray} {m:Nat} (h:l.length=2*m):ZO l m=Q7 l:=by
 apply List.ext_getElem?;intro k;have hl:=B6 m l h;by_cases hk:k < m
 ·have:=Q6 m l k h hk;rw [List.getD_eq_getElem?_getD,aOE (by omega)] at this;rw [ZO,aOT,List.getElem?_range hk,aOE (by omega)];exact congrArg some this.symm
 rw [List.getElem?_eq_none (by rw [ZN];omega),List.getElem?_eq_none (by omega)]
def upK (l L:List ByteArray):aB:=[(905,⟨L.length,1,9,dS L⟩),(3,bx 1 22 [.osl 905 L.length 0 L.length]),(932,cNZ),(931,cSZ l)]
theorem aFv (l L:List ByteArray) (s:ByteArray):upK l (L++[s])=[(905,⟨L.length+1,1,9,dS (L++[s])⟩),(3,bx 1 22 [.osl 905 (L.length+1) 0 (L.length+1)]),(932,cNZ),(931,cSZ l)]:=by simp [upK]
def upE:cB:=[(3,.ref 3 0 0 0)]
theorem SV (H:aB) (l:List ByteArray):∀ r∈(cSZ l).rows,∀ a∈r,Clo H a:=by intro r hr a ha;simp only [cSZ,bx,aOC] at hr;subst hr;rw [aOC] at ha;subst ha;simp
theorem SW (H:aB):∀ r∈cNZ.rows,∀ a∈r,Clo H a:=by intro r hr a ha;simp only [cNZ,bx,aOC] at hr;subst hr;rw [aOC] at ha;subst ha;simp
theorem aAf (l:List ByteArray) (m:Nat) (H:aB) (hl:l.length=2*m) (hm:m < 1099511627776) (hs:∀ s∈l,s.size=16):aI Tryz.prog 90 [.pv (aX l)] H (fun r H'=>r=.pv (aX (Q7 l))∧H'=H):=by
 refine Pu ?_;refine Bd func90 rfl ntmps90<|Sr<|Dd aN<|Zz<|Sr<|Dd (by exact bU (id:=3) rfl aC4 rfl rfl)<|Zz<|Sq<|Sr<|Dd aF<|Dd (by exact aA rfl rfl call140 rfl (aEp l _ rfl rfl))<|Zz<|aG ?_;refine gK.ent (E':=[(3,.ref 3 0 0 0),(6,.clo 181 [.ref 931 0 0 0,.ref 932 0 0 0])]) (H':=upK l []) ?_ ?_
 ·exact(cY.nz 905 1 9 rfl rfl ⟨⟨_,rfl,(by exact Nz.same (by(simp;rfl)))⟩,⟨_,rfl,(by exact Nz.same (by(simp;exact⟨rfl,rfl⟩)))⟩,trivial⟩ ⟨⟨_,rfl,rfl,rfl,rfl,(by exact .inr ⟨_,_,rfl,rfl,(by repeat(first|exact trivial|refine⟨(by exact Nz.own),?_⟩))⟩)⟩,⟨_,rfl,rfl,rfl,rfl,(by exact .inl ⟨rfl,(by exact SW _)⟩)⟩,⟨_,rfl,rfl,rfl,rfl,(by exact .inl ⟨rfl,(by exact SV _ _)⟩)⟩,trivial⟩ trivial)
 refine CR (id:=904) (p:=7) upE rfl call181 rfl rfl (by simp [upE];rfl) ?_;intro x hx1 hx2 hx3 hx4 hx5 hx6;refine(aBy l (.yld 904 0) (fun k=>(904,LR x upE)::upK l (ZO l k)) m hl hm (fun k=>rfl) (fun k=>rfl) ?_).mono ?_
 ·intro k hk;have hn:∀ j,j < l.length→(l.getD j sNil).size < 1099511627776:=fun j hj=>by rw [hs _ (oY hj)];decide
  have hnd:=fun H=>aAI (l.getD (2*k) sNil) (l.getD (2*k+1) sNil) false H (hn _ (by omega)) (hn _ (by omega));simp only [Bool.false_eq_true,if_false] at hnd;obtain ⟨p0,p1⟩:=XP (W:=l) (j:=k) (by omega);have hfl:=ZN l k;refine .inl ⟨904,0,rfl,?_⟩;refine Q1 [(3,.ref 3 0 0 0),(4,.pv (aX (A5 l k)))] (upK l (ZO l k)) hx1 hx2 hx3 hx4 hx5 hx6 rfl rfl rfl ?_ ?_
  ·refine Rg<|Da ?_;exact(cY.wk (Ea<|Eb<|trivial) (Hc (kM (by intro p hp;simp only [upE,aOL,aOP,or_false] at hp;subst hp;simp only [qW];rfl))<|Hc (cL _ _)<|Ha<|Hc (SW _)<|Hc (SV _ _)<|trivial) ⟨rfl,rfl,rfl,rfl,rfl,trivial⟩)
  rw [aCi,aFv];refine aG<|aO follows<|Cr [3] (fun _ h=>lh aH h)<|Cr [] (fun _ _=>aF)<|Cr [] (fun H1 hH=>by exact bW rfl cA rfl rfl (by omega) (by exact aOK _) p0 rfl)<|Cr [] (fun _ _=>(jA isAgg9 (hi:=p0)))<|Cr [] (fun _ _=>aF)<|Cr [] (fun H1 hH=>by exact bW rfl cA rfl rfl (by omega) (by exact aOK _) p1 rfl)<|Cr [] (fun _ _=>(jA isAgg9 (hi:=p1)))<|Cr [] (fun H1 hH=>by exact aA rfl rfl call99 rfl (hnd _))<|Cr [] (fun H1 hH=>by exact aR [[.str (upA l k)]] rfl cA rfl rfl rfl rfl rfl (by intro r hr;rw [aOC] at hr;subst hr;rfl))<|Cp [905] (fun H1 hH=>by exact dH (ps:=[[.str (upA l k)]]) rfl cA EC rfl ((hH _ rfl).trans rfl) rfl rfl rfl (jY _) rfl (by intro r hr;rw [aOC] at hr;subst hr;rfl) (m:=1) rfl (by omega) rfl (lO (ZO l k) (upA l k))) ?_;refine Cp [3] (fun H1 hH=>by exact cJ rfl sizeOf22 rfl rfl rfl rfl ((hH _ rfl).trans rfl) rfl rfl rfl)<|bL<|Kr ?_;exact⟨[(905,⟨(ZO l k).length+1,1,9,dS (ZO l k++[upA l k])⟩),(3,bx 1 22 [.osl 905 ((ZO l k).length+1) 0 ((ZO l k).length+1)]),(932,cNZ),(931,cSZ l)],(cY.wk trivial (Hc (kM (by intro p hp;simp only [upE,aOL,aOP,or_false] at hp;subst hp;simp only [qW];rfl))<|Hc (cL _ _)<|Ha<|Hc (SW _)<|Hc (SV _ _)<|trivial) ⟨rfl,rfl,rfl,rfl,rfl,trivial⟩),rfl,rfl⟩
 rintro r H' ⟨rfl,rfl⟩;refine⟨x,_,rfl,by rw [hx1];decide,rfl,fun z=>?_⟩;rw [hx2,aFu hl];obtain ⟨out,hout⟩:∃ out,out=Q7 l:=⟨_,rfl⟩;rw [← hout];have hol:(out.map encStr).length=out.length:=aNz _;refine gK.ent (cY.fzG (id:=905) (E':=[(3,.ref 3 0 0 0)]) (H':=[(3,bx 1 22 [.pv (aX out)])]) (out.map encStr) rfl (fN _) ?_ rfl ?_ ?_) ?_
 ·intro p hp;simp only [aOL,aOP,or_false] at hp;rcases hp with rfl;exact⟨_,rfl,.same (by simp;rfl)⟩
 ·refine⟨⟨_,rfl,rfl,rfl,rfl,pP rfl (dN (.osl ?_) pQ)⟩,trivial⟩;rw [aOR,List.drop_zero,← hol,List.take_length]
 ·exact trivial
 exact Sr<|Dd (bM aH)<|Dd aN<|Zz<|aC<|Rt<|Qq
def SF (s:ByteArray) (n k:Nat):List ByteArray:=(List.range n).map fun j=>if j < k then SG s j else sNil
theorem FP (s:ByteArray) (n k:Nat):(SF s n k).length=n:=by simp [SF]
theorem SE (s:ByteArray) {n k j:Nat} (h:j < n):(SF s n k)[j]?=some (if j < k then SG s j else sNil):=by rw [SF,aOT,List.getElem?_range h];rfl
theorem aHI (s:ByteArray) {n k:Nat} (h:k < n):(SF s n k).set k (SG s k)=SF s n (k+1):=by
 apply List.ext_getElem?;intro j;by_cases hj:j < n
 ·rw [SE s hj];by_cases e:k=j
  ·subst e;rw [List.getElem?_set_self (by rw [FP];exact h),aNy (Nat.lt_succ_self _)]
  rw [List.getElem?_set_ne e,SE s hj];by_cases h1:j < k
  ·rw [aNy h1,aNy (by omega)]
  rw [aNx h1,aNx (by omega)]
 rw [List.getElem?_eq_none (by rw [List.length_set,FP];omega),List.getElem?_eq_none (by rw [FP];omega)]
theorem aEN (s:ByteArray) (n:Nat):SF s n 0=List.replicate n sNil:=by rw [SF];simp only [Nat.not_lt_zero,if_false];rw [List.map_const',List.length_range]
theorem aHJ (s:ByteArray) (h:Nat):SF s (2 ^ h) (2 ^ h)=mB s h:=by rw [SF,mB];refine List.map_congr_left fun j hj=>?_;rw [aNy (List.mem_range.1 hj)]
theorem aAp (n:Nat):dS (List.replicate n sNil)=List.replicate n [sv sNil]:=by rw [dS,List.map_replicate]
theorem aAo (l:List ByteArray) (k:Nat) (x:ByteArray):(dS l).set k [sv x]=dS (l.set k x):=by rw [dS,dS,List.map_set]
theorem sF {h:Nat} (hh:h≤8):2 ^ h≤256:=Nat.pow_le_pow_right (by decide) hh
theorem aGI {h:Nat} (hh:h≤8):IntKind.i64.wrap (1*2 ^ ((h:Int)).toNat)=((2 ^ h:Nat):Int):=by have:=sF hh;rw [aOK,Int.one_mul,show (2:Int) ^ h=((2 ^ h:Nat):Int)by exact_mod_cast rfl];generalize 2 ^ h=n at this ⊢;rw [pB (by omega) (by omega)]
theorem aAS (s:ByteArray) (h:Nat) (H:aB) (hs:s.size < 1099511627776) (hh:h≤8):aI Tryz.prog 89 [sv s,iv (h:Int)] H (fun r H'=>r=.pv (aX (mB s h))∧H'=H):=by
 refine Pu ?_;have hp:=sF hh;have hz:=aAp (2 ^ h);rw [← aEN s] at hz;rw [← aHJ];obtain ⟨n,hn⟩:∃ n,n=2 ^ h:=⟨_,rfl⟩;have hsh:=aGI hh;rw [← hn] at hp hz hsh ⊢;refine Bd func89 rfl ntmps89<|Sr<|Dd aN<|Zz<|Sr<|Dd aF<|Dd (by exact E5 rfl rfl rfl (by omega) (by simp [IntKind.bits];omega) hsh)<|Dd (by exact AX (id:=905) rfl cA EC zo9 rfl rfl rfl (by omega) (by omega) (aOK _) (aOK _) (by omega) rfl)<|Dd aN<|Zz<|Sq<|Sr<|Dd aF<|Dd (by exact eE rfl aE rfl rfl rfl)<|Dd aF<|Zz<|aG ?_;refine bT (σ:=Nat) (fun k=>([(0,sv s),(5,.osl 905 0 0 n),(11,iv (n:Int)),(12,iv (k:Int))],[(905,⟨0,1,9,dS (SF s n k)⟩)])) (fun k=>k≤n) (fun k=>n - k) 0 (aOQ _) ?_ ?_
 ·rw [hz];exact Wk
 intro k hk;have hln:=FP s n k;refine Sr<|Dd dK<|Zz<|Sq ?_;refine Cn ?_ ?_<;>intro hc1
 ·have hlt:k < n:=by have:=aNv hc1;omega
  have hrow:(dS (SF s n k))[k]?=some [sv sNil]:=by
   rw [dS,aOT,SE s hlt,aNx (Nat.lt_irrefl _)];rfl
  have hset:(dS (SF s n k)).set k [sv (SG s k)]=dS (SF s n (k+1)):=by rw [aAo,aHI s hlt]
  refine aD<|Sq<|aG<|Sr<|Dd aF<|Dd aN<|Zz<|Rg<|Dd aF<|Dd aF<|Dd aF<|Dd aF<|Dd (by exact aA rfl rfl call139 rfl (aJf s k _ hs (by omega)))<|Dd (by exact dI rfl cA rfl rfl rfl rfl rfl (by omega) (by exact aOK _) (by omega) rfl)<|Uu (by exact bH (r:=[sv sNil]) (r':=[sv (SG s k)]) (rows':=dS (SF s n (k+1))) rfl sizeOf9 rfl rfl rfl rfl rfl (by rw [aOR];exact hrow) (by simp) rfl (by rw [aOR];exact hset))<|Zz<|Rg<|Dd (by exact cI rfl rfl rfl (show IntKind.i64.wrap ((k:Int)+1)=((k+1:Nat):Int)by rw [pB (by omega) (by omega)];omega))<|Dd aF<|Zz ?_;exact⟨k+1,by omega,by omega,(cY.wk (Eb<|Ea<|Eb<|Eb<|trivial) (Hc (cL _ _)<|trivial) trivial)⟩
 have hge:k=n:=by have:=aNw hc1;omega
 subst hge;have htk:((SF s k k).map encStr).take k=(SF s k k).map encStr:=List.take_of_length_le (by rw [aNz,FP];exact aOF _);refine bC<|Sr<|Dd aF<|Dd aN<|Zz<|aC ?_;refine dY (H':=[]) (.inr rfl) rfl (aY rfl) (Fin.fz (r':=.pv (aX (SF s k k))) (id:=905) ((SF s k k).map encStr) rfl (fN _) (.osl (by rw [aOR,List.drop_zero,htk])) rfl trivial trivial) ?_;exact Qq
theorem W3 (s:ByteArray) (h:Nat) (H:aB) (hs:s.size < 1099511627776) (hh:h≤8):aI Tryz.prog 28 [sv s,iv (h:Int)] H (fun r H'=>r=.tup [sv (tL s h),iv 0]∧H'=H):=by
 refine Pu ?_;refine Bd func28 rfl ntmps28<|Sr<|Dd aN<|Dd aN<|Zz<|Sq<|Sq ?_;refine bA (t:=12) (n:=7) (X:=decide ((h:Int) < 0)||decide (8 < (h:Int))) ?_ ?_
 ·all_goals refine Dd aF ?_
  all_goals refine Dd dK<|Dm ?_
  all_goals refine Sp 9 (fun h9=>?_) fun h9=>?_
  all_goals try contradiction
  all_goals refine On aF<|On jE<|Dd cW<|Zz ?_
  all_goals(exact⟨⟨_,rfl,by rfl⟩,rfl,rfl,rfl⟩)
 refine Cn ?_ ?_<;>intro hc1
 ·have hb:=hc1;exact absurd (by simpa using hb) (show ¬ ((h:Int) < 0∨8 < (h:Int))by omega)
 refine aD<|Sr<|Dd aF<|Dd aF<|Dd (by exact aA rfl rfl call89 rfl (aAS s h _ hs hh))<|Dd aN<|Zz<|Sq<|aG ?_;refine jI (fun(j:Nat) (l:List ByteArray)=>([(6,.pv (aX l))],[])) (fun j l=>l.length=2 ^ j∧O6 j l=tL s h∧(∀ t∈l,t.size=16)∧j≤8) (fun j l=>j) h (mB s h) ⟨xI s h,rfl,fun t ht=>uA (CI s h t ht),hh⟩ ?_ ?_
 ·exact Wk
 rintro j l ⟨hl,hr,hz,hj⟩;have hml:(l.map encStr).length=l.length:=aNz _;have hp:=sF hj;refine Sq<|Sr<|Dd aF<|Dd (fY aE)<|Dd jE<|Zz ?_;refine Cn ?_ ?_<;>intro hc2
 ·have hlt:1 < l.length:=by have:=aNv hc2;omega
  obtain ⟨i,rfl⟩:∃ i,j=i+1:=by
   cases j with
   | zero=>rw [hl] at hlt;exact absurd hlt (by decide)
   | succ i=>exact⟨i,rfl⟩
  have hl2:l.length=2*2 ^ i:=by rw [hl,Nat.pow_succ,Nat.mul_comm]
  have hpi:=sF (h:=i) (by omega);refine aD<|aG<|Rg<|Dd aF<|Dd (by exact aA rfl rfl call90 rfl (aAf l (2 ^ i) _ hl2 (by omega) hz))<|Da ?_;exact⟨i,Q7 l,⟨B6 _ _ hl2,hr,fun t ht=>uA (JJ _ _ (aOF _) t ht),by omega⟩,by omega,Wk⟩
 have hge:l.length≤1:=by have:=aNw hc2;omega
 have hj0:j=0:=by
  cases j with
  | zero=>rfl
  | succ i =>
   have:2 ^ (i+1)=2*2 ^ i:=by rw [Nat.pow_succ,Nat.mul_comm]
   have:0 < 2 ^ i:=Nat.two_pow_pos i;omega
 subst hj0;obtain ⟨a,rfl⟩:∃ a,l=[a]:=List.length_eq_one_iff.1 hl;have ha:a=tL s h:=hr;subst ha;have hi:([tL s h].map encStr)[0]?=some (encStr (tL s h)):=rfl;exact bC<|Sr<|Dd aF<|Dd (by exact bW rfl cA rfl rfl (by omega) (by exact aOK _) hi rfl)<|Dd (jA isAgg9 (hi:=hi))<|Dd aN<|Dd aN<|Zz<|aC<|Ru<|Qq
abbrev HXJ:ByteArray:=⟨#[48,49,50,51,52,53,54,55,56,57,97,98,99,100,101,102]⟩
theorem aEZ {n:Nat} (h:n < 16):Lib.indexByte HXJ.data.toList (uV n).toNat.toUInt8=(n:Int):=by revert h;revert n;decide
theorem YY (m:ByteArray) {k:Nat} (hk:k < 16):dB (rT m) k=uV (PU (stJ m) k):=by have hb:=aAY (BC (stJ m) k);have e:(rT m).data.toList=OA (stJ m):=rfl;rw [dB,e,OA,aOT,List.getElem?_range hk];show ((UInt8.ofNat (uV (PU (stJ m) k)).toNat).toNat:Int)=_;rw [UInt8.toNat_ofNat',Nat.mod_eq_of_lt (by omega),Int.toNat_of_nonneg hb.1]
theorem aEk (m:ByteArray) {k:Nat} (hk:k < 16):(dJ m)[k]?=some (PU (stJ m) k):=by rw [dJ,aOT,List.getElem?_range hk];rfl
theorem aH1 (m:ByteArray) {k:Nat} (hk:k < 16):(GD m).getD k 0=PU (stJ m) k:=by rw [List.getD_eq_getElem?_getD,GD,List.getElem?_append_left (by rw [BU];exact hk),aEk m hk];rfl
theorem aJs (m:ByteArray):(GD m).getD 16 0=A3 m / 16:=by rw [List.getD_eq_getElem?_getD,GD,List.getElem?_append_right (by rw [BU];exact aOF _),BU];rfl
theorem aJr (m:ByteArray):(GD m).getD 17 0=A3 m % 16:=by rw [List.getD_eq_getElem?_getD,GD,List.getElem?_append_right (by rw [BU];decide),BU];rfl
def C2 (m:ByteArray) (k:Nat):Nat:=(((dJ m).take k).map (15 - ·)).sum
theorem XG (m:ByteArray) {k:Nat} (hk:k < 16):C2 m (k+1)=C2 m k+(15 - PU (stJ m) k):=by rw [C2,List.take_add_one,aEk m hk,List.map_append,List.sum_append];rfl
theorem aDI (m:ByteArray) (k:Nat):C2 m k≤240:=by
 have h:=KT ((dJ m).take k);have h2:((dJ m).take k).length≤16:=by rw [aON,BU];omega
 rw [C2];omega
theorem aBK (m:ByteArray):C2 m 16=A3 m:=by rw [C2,List.take_of_length_le (by rw [BU];exact aOF _),A3]
def LS (m:ByteArray):Ob:=bx 1 9 [sv m]
theorem QI (m:ByteArray) (H:aB) (h1:H.get 961=none):aI Tryz.prog 96 [sv m] H (fun r H'=>r=.clo 149 [.ref 961 0 0 0]∧H'=(961,LS m)::H):=by refine Bd func96 rfl ntmps96<|Sr<|Dd (by exact cH (id:=961) rfl rfl rfl rfl h1)<|Dd aN<|Zz<|Sr<|Dd (by exact gC rfl rfl)<|Dd aN<|Zz<|aC ?_;refine dY (H':=((961,LS m)::H)) (.inr rfl) rfl (aY rfl) Fin.refl ?_;exact Qq
theorem QJ (m:ByteArray) (fv:AV) (Hs:Nat→aB) (hm:m.size < 1099511627776) (h1:∀ k,(Hs k).get 961=some (LS m))
  (hy:∀ k:Nat,k < 18→dD Tryz.prog fv [iv (k:Int),iv (((GD m).getD k 0:Nat):Int)] (Hs k) (fun r H'=>r=bv true∧H'=Hs (k+1))) :
  aI Tryz.prog 149 [fv,.ref 961 0 0 0] (Hs 0) (fun r H'=>r=.tup []∧H'=Hs 18):=by
 have hsz:=jU m;have hsum:=fun H=>KU m H (by omega);have y16:=hy 16 (by decide);have y17:=hy 17 (by decide);have hle:=T4 m;rw [aJs] at y16;rw [aJr] at y17;refine Bd func149 rfl ntmps149<|Sr<|Dd aN<|Zz<|Sr<|Dd (by exact aK rfl isAgg9 rfl (h1 0) rfl rfl rfl)<|Dd (by exact aA rfl rfl AQ rfl (hsum _))<|Dd aN<|Zz<|Sq<|Sr<|Dd aF<|Dd (lH underlying9)<|Dd aF<|Zz<|aG ?_;refine bT (σ:=Nat) (fun k=>([(0,fv),(1,.ref 961 0 0 0),(3,iv (C2 m k:Int)),(4,sv (rT m)),(10,iv 16),(11,iv (k:Int))],Hs k)) (fun k=>k≤16) (fun k=>16 - k) 0 (aOQ _) ?_ ?_
 ·rw [hsz];exact E0
 intro k hk;have hyk:=fun(h:k < 16)=>hy k (by omega);refine Sr<|Dd dK<|Zz<|Sq ?_;refine Cn ?_ ?_<;>intro hc1
 ·have hlt:k < 16:=by have:=aNv hc1;omega
  have hyk:=hyk hlt;rw [aH1 m hlt] at hyk;have hnl:=BC (stJ m) k;have hr1:=aDI m k;have hr2:=XG m hlt;have hib:=fun H=>oX HXJ (uV (PU (stJ m) k)) H;rw [aEZ hnl] at hib;refine aD<|Sq<|aG<|Sr<|Dd aF<|Dd aN<|Zz<|Sr<|Dd aF<|Dd aF<|Dd (by exact dV rfl underlying9 rfl rfl (by omega) (aOK _) (by omega) (YY m hlt))<|Dd (by exact aA rfl rfl wL rfl (hib _))<|Dd aN<|Zz<|Sr<|Dd aF<|Dd aF<|Dd (by exact eQ rfl rfl rfl (show IntKind.i64.wrap (15 - (PU (stJ m) k:Int))=((15 - PU (stJ m) k:Nat):Int)by rw [pB (by omega) (by omega)];omega))<|Dd (by exact cI rfl rfl rfl (show IntKind.i64.wrap ((C2 m k:Int)+((15 - PU (stJ m) k:Nat):Int))=(C2 m (k+1):Int)by rw [pB (by omega) (by omega)];omega))<|Dd aN<|Zz<|Sr<|Dd aF<|Dd aF<|Dd aF<|Dd (by exact cR rfl rfl rfl (hyk))<|Dd jS<|Zz ?_;refine Cn ?_ ?_<;>intro hc2
  ·cases hc2
  refine aD<|Rg<|Dd (by exact cI rfl rfl rfl (show IntKind.i64.wrap ((k:Int)+1)=((k+1:Nat):Int)by rw [pB (by omega) (by omega)];omega))<|Dd aF<|Zz ?_;exact⟨k+1,by omega,by omega,E0⟩
 have hge:k=16:=by have:=aNw hc1;omega
 subst hge;rw [aBK];refine bC<|Sr<|Dd aF<|Dd aF<|Dd (by exact CC rfl rfl rfl (by decide) (show IntKind.i64.wrap (((A3 m:Nat):Int).tdiv 16)=((A3 m / 16:Nat):Int)by rw [Int.tdiv_eq_ediv_of_nonneg (by omega),pB (by omega) (by omega)];omega))<|Dd (by exact cR rfl rfl rfl (y16))<|Zz ?_;refine Cn ?_ ?_<;>intro hc3
 ·refine Rg<|Dd aF<|Dd aF<|Dd (by exact CB rfl rfl rfl (by decide) (show ((A3 m:Nat):Int).tmod 16=((A3 m % 16:Nat):Int)by rw [Int.tmod_eq_emod_of_nonneg (by omega)];omega))<|Dd (by exact cR rfl rfl rfl (y17))<|Zz ?_;exact rL (H':=Hs 18) (.inl rfl) rfl Fin.refl ⟨rfl,rfl⟩
 cases hc3
theorem aFk {a b:Nat} (ha:a < 4611686018427387904) (hb:b < 4611686018427387904):bits .xor .i64 (a:Int) (b:Int)=((a ^^^ b:Nat):Int):=by have h:=Nat.xor_lt_two_pow (n:=62) ha hb;have ha':a % 2 ^ IntKind.i64.bits=a:=Nat.mod_eq_of_lt (Nat.lt_of_lt_of_le ha (by decide));have hb':b % 2 ^ IntKind.i64.bits=b:=Nat.mod_eq_of_lt (Nat.lt_of_lt_of_le hb (by decide));simp only [bits,BitVec.ofInt_natCast,BitVec.toNat_xor,BitVec.toNat_ofNat,ha',hb'];rw [pB (by omega) (by omega)]
theorem aH2 {p:Prop} [Decidable p] (h:¬ p):AV.pv (.bool (decide p))=bv false:=by rw [decide_eq_false h]
def sgP (s:ByteArray) (i:Nat) (m:ByteArray) (k:Nat):List ByteArray:=(List.range k).map fun k=>AU (kV s i k) ((GD m).getD k 0)
theorem aDB (s:ByteArray) (i:Nat) (m:ByteArray) (k:Nat):sgP s i m (k+1)=sgP s i m k++[AU (kV s i k) ((GD m).getD k 0)]:=by rw [sgP,List.range_succ,List.map_append];rfl
theorem aGK (s:ByteArray) (i:Nat) (m:ByteArray) (k:Nat):(sgP s i m k).length=k:=by simp [sgP]
theorem dF.eqJ {P:Program} {N:Nat} {o:Oper} {E:cB} {H H2:aB} {v v':AV} (h:dF P N o E H v H2) (e:v=v'):dF P N o E H v' H2:=e▸h
def sgE:cB:=[(4,.ref 4 0 0 0),(6,.ref 6 0 0 0),(10,.ref 10 0 0 0)]
def sgT (s:ByteArray) (i:Nat):aB:=[(8,bx 3 25 [iv 0,.pv (.sl []),.pv (.sl [])]),(6,bx 1 3 [iv (i:Int)]),(4,bx 1 9 [sv s])]
def sgK (s:ByteArray) (i:Nat) (m:ByteArray) (L:List ByteArray):aB:=[(905,⟨L.length,1,9,dS L⟩),(10,bx 3 25 [iv (i:Int),.osl 905 L.length 0 L.length,.pv .nils]),(961,LS m),(8,bx 3 25 [iv 0,.pv (.sl []),.pv (.sl [])]),(6,bx 1 3 [iv (i:Int)]),(4,bx 1 9 [sv s])]
theorem aGL (s:ByteArray) (i:Nat) (m:ByteArray) (L:List ByteArray) (x:ByteArray):sgK s i m (L++[x])=[(905,⟨L.length+1,1,9,dS (L++[x])⟩),(10,bx 3 25 [iv (i:Int),.osl 905 (L.length+1) 0 (L.length+1),.pv .nils]),(961,LS m),(8,bx 3 25 [iv 0,.pv (.sl []),.pv (.sl [])]),(6,bx 1 3 [iv (i:Int)]),(4,bx 1 9 [sv s])]:=by simp [sgK]
theorem xD (H:aB) (m:ByteArray):∀ r∈(LS m).rows,∀ a∈r,Clo H a:=by intro r hr a ha;simp only [LS,bx,aOC] at hr;subst hr;rw [aOC] at ha;subst ha;simp
theorem aGG (s m:ByteArray) (h i:Nat) (H:aB) (hs:s.size < 1099511627776) (hm:m.size < 1099511627776) (hh:h≤8) (hi:i < 2 ^ h) :
  aI Tryz.prog 36 [sv s,iv (h:Int),iv (i:Int),sv m] H (fun r H'=>r=.tup [.agg [iv (i:Int),.pv (aX (EN s i m)),.pv (aX (mQ h (mB s h) i))],iv 0]∧H'=H):=by
 refine Pu ?_;have hp:=sF hh;have hsh:=aGI hh;have hkeys:=fun H=>aAS s h H hs hh;have hkl:=xI s h;have hpath:∀ L,L=mQ h (mB s h) i→True:=fun _ _=>trivial;refine Bd func36 rfl ntmps36<|Sr<|Dd (by exact cH (id:=4) rfl rfl rfl rfl rfl)<|Dd (by exact cH (id:=6) rfl rfl rfl rfl rfl)<|Dd (by exact bU (id:=8) rfl aAk rfl rfl)<|Dd aN<|Zz<|Sq<|Sq<|aO follows<|Cq aF<|Cq (by exact dF.eqJ (JW rfl rfl rfl) (aH2 (by omega)))<|Cq aF<|Nf aF<|Nf (by exact dF.eqJ (E9 rfl rfl rfl) (aH2 (by omega)))<|Cq cW<|Cq aF<|Nf (bM isAgg3)<|Nf (by exact dF.eqJ (JW rfl rfl rfl) (aH2 (by omega)))<|Cq cW<|Cq aF<|Nf (bM isAgg3)<|Nf aF<|Nf (by exact E5 rfl rfl rfl (by omega) (by simp [IntKind.bits];omega) hsh)<|Nf (by exact dF.eqJ (FA rfl rfl rfl) (aH2 (by omega)))<|Cq cW<|bL<|Kr ?_;refine Cn ?_ ?_<;>intro hc1
 ·cases hc1
 refine aD<|Sr<|Dd (bM isAgg3)<|Dd (uQ aLt)<|Dd (by exact bU (id:=10) rfl aAk rfl rfl)<|Uu (kQ sizeOf25)<|Zz<|Sq<|Sr<|Dd aF<|Dd (by exact aA rfl rfl call96 rfl (QI m _ rfl))<|Zz<|aG ?_;refine gK.ent (E':=[(1,iv (h:Int)),(4,.ref 4 0 0 0),(6,.ref 6 0 0 0),(8,.ref 8 0 0 0),(10,.ref 10 0 0 0),(35,.clo 149 [.ref 961 0 0 0])]) (H':=sgK s i m []) ?_ ?_
 ·exact(cY.nz 905 1 9 rfl rfl ⟨⟨_,rfl,(by exact Nz.same (by(simp;done)))⟩,⟨_,rfl,(by exact Nz.same (by(simp;rfl)))⟩,⟨_,rfl,(by exact Nz.same (by(simp;rfl)))⟩,⟨_,rfl,(by exact Nz.same (by(simp;rfl)))⟩,⟨_,rfl,(by exact Nz.same (by(simp;rfl)))⟩,⟨_,rfl,(by exact Nz.same (by(simp;rfl)))⟩,trivial⟩ ⟨⟨_,rfl,rfl,rfl,rfl,(by exact .inr ⟨_,_,rfl,rfl,(by repeat(first|exact trivial|refine⟨(by first|exact Nz.own|exact Nz.same (by(simp;done))),?_⟩))⟩)⟩,⟨_,rfl,rfl,rfl,rfl,(by exact .inl ⟨rfl,(by exact xD _ _)⟩)⟩,⟨_,rfl,rfl,rfl,rfl,(by exact .inl ⟨rfl,(by(simp;done))⟩)⟩,⟨_,rfl,rfl,rfl,rfl,(by exact .inl ⟨rfl,(by(simp;done))⟩)⟩,⟨_,rfl,rfl,rfl,rfl,(by exact .inl ⟨rfl,(by(simp;done))⟩)⟩,trivial⟩ trivial)
 refine M2 (id:=904) (p:=36) (p2:=37) sgE rfl call149 rfl rfl (by simp [sgE];exact⟨rfl,rfl,rfl⟩) ?_;intro x hx1 hx2 hx3 hx4 hx5 hx6;refine(QJ m (.yld 904 0) (fun k=>(904,LR x sgE)::sgK s i m (sgP s i m k)) hm (fun k=>rfl) ?_).mono ?_
 ·intro k hk;have hd:=YT m _ (oY (d:=0) (by rw [J8];exact hk));have hst:=fun H=>ZU s i k H hs (by omega) (by omega);have hfl:=aGK s i m k;have hnx:=aDB s i m k;have hch:=fun H=>SS (kV s i k) ((GD m).getD k 0) H (by rw [A1];decide) (by omega);obtain ⟨d,hdd⟩:∃ d,d=(GD m).getD k 0:=⟨_,rfl⟩;rw [← hdd] at hd hnx hch ⊢;refine .inl ⟨904,0,rfl,?_⟩;refine ZD [(4,.ref 4 0 0 0),(6,.ref 6 0 0 0),(10,.ref 10 0 0 0),(11,iv (k:Int)),(12,iv (d:Int))] (sgK s i m (sgP s i m k)) hx1 hx2 hx3 hx4 hx5 hx6 rfl rfl rfl rfl rfl ?_ ?_
  ·refine Sr<|Dd aN<|Zz<|Rg<|Da ?_;exact(cY.wk (Ea<|Ea<|Ea<|Eb<|Eb<|trivial) (Hc (kM (by intro p hp;simp only [sgE,aOL,aOP,or_false] at hp;rcases hp with rfl|rfl|rfl<;>(simp only [qW];rfl)))<|Hc (cL _ _)<|Ha<|Hc (xD _ _)<|Hb<|Hb<|Hb<|trivial) ⟨rfl,rfl,rfl,rfl,rfl,rfl,rfl,trivial⟩)
  rw [hnx,aGL];refine aG<|aO follows<|Cr [10] (fun _ h=>fh jT h)<|Cr [10] (fun _ h=>lh aH h)<|Cr [4] (fun _ h=>lh isAgg9 h)<|Cr [6] (fun _ h=>lh isAgg3 h)<|Cr [] (fun _ _=>aF)<|Cr [] (fun H1 hH=>by exact aA rfl rfl call100 rfl (hst _))<|Cr [] (fun _ _=>aF)<|Cr [] (fun H1 hH=>by exact aA rfl rfl aNl rfl (hch _))<|Cr [] (fun H1 hH=>by exact aR [[.str (AU (kV s i k) d)]] rfl cA rfl rfl rfl rfl rfl (by intro r hr;rw [aOC] at hr;subst hr;rfl))<|Cp [905] (fun H1 hH=>by exact dH (ps:=[[.str (AU (kV s i k) d)]]) rfl cA EC rfl ((hH _ rfl).trans rfl) rfl rfl rfl (jY _) rfl (by intro r hr;rw [aOC] at hr;subst hr;rfl) (m:=1) rfl (by omega) rfl (lO (sgP s i m k) (AU (kV s i k) d)))<|Cr [10] (fun _ h=>fh jT h)<|Cp [10] (fun H1 hH=>by exact bH rfl sizeOf22 rfl rfl rfl ((hH _ rfl).trans rfl) rfl rfl (by simp only [aOB,List.length_nil];omega) (by simp only [Zl,encStr];rfl) (by simp only [Zl,encStr];rfl)) ?_;refine bL<|Kr ?_;exact⟨[(905,⟨(sgP s i m k).length+1,1,9,dS (sgP s i m k++[AU (kV s i k) d])⟩),(10,bx 3 25 [iv (i:Int),.osl 905 ((sgP s i m k).length+1) 0 ((sgP s i m k).length+1),.pv .nils]),(961,LS m),(8,bx 3 25 [iv 0,.pv (.sl []),.pv (.sl [])]),(6,bx 1 3 [iv (i:Int)]),(4,bx 1 9 [sv s])],(cY.wk trivial (Hc (kM (by intro p hp;simp only [sgE,aOL,aOP,or_false] at hp;rcases hp with rfl|rfl|rfl<;>(simp only [qW];rfl)))<|Hc (cL _ _)<|Ha<|Hc (xD _ _)<|Hb<|Hb<|Hb<|trivial) ⟨rfl,rfl,rfl,rfl,rfl,rfl,rfl,trivial⟩),rfl,rfl⟩
 rintro r H' ⟨rfl,rfl⟩;refine⟨x,_,rfl,by rw [hx1];decide,rfl,fun z=>?_⟩;rw [hx2,show sgP s i m 18=EN s i m from rfl];obtain ⟨S,hS⟩:∃ S,S=EN s i m:=⟨_,rfl⟩;rw [← hS];have hol:(S.map encStr).length=S.length:=aNz _;refine gK.ent (cY.fzG (id:=905) (E':=[(1,iv (h:Int)),(4,.ref 4 0 0 0),(6,.ref 6 0 0 0),(8,.ref 8 0 0 0),(10,.ref 10 0 0 0)]) (H':=(10,bx 3 25 [iv (i:Int),.pv (aX S),.pv .nils])::sgT s i) (S.map encStr) rfl (fN _) ?_ rfl ?_ ?_) ?_
 ·intro p hp;simp only [aOL,aOP,or_false] at hp;rcases hp with rfl|rfl|rfl|rfl|rfl
  ·exact⟨_,rfl,.same (by simp)⟩
  ·exact⟨_,rfl,.same (by simp;rfl)⟩
  ·exact⟨_,rfl,.same (by simp;rfl)⟩
  ·exact⟨_,rfl,.same (by simp;rfl)⟩
  exact⟨_,rfl,.same (by simp;rfl)⟩
 ·refine⟨⟨_,rfl,rfl,rfl,rfl,pP rfl (dN (.same (by simp)) (dN (.osl ?_) (dN (.same (by simp)) pQ)))⟩,⟨_,rfl,rfl,rfl,rfl,gZ (by simp)⟩,⟨_,rfl,rfl,rfl,rfl,gZ (by simp)⟩,⟨_,rfl,rfl,rfl,rfl,gZ (by simp)⟩,trivial⟩;rw [aOR,List.drop_zero,← hol,List.take_length]
 ·exact trivial
 refine Sq<|Sq<|aO follows<|Cq (bM isAgg9)<|Cq aF<|Cq (by exact aA rfl rfl call89 rfl (hkeys _))<|Cq (bM isAgg3)<|Cq aN<|Cq aN<|bL<|Kr<|aG ?_;refine gK.ent (E':=[(8,.ref 8 0 0 0),(10,.ref 10 0 0 0),(13,.pv (aX (mB s h))),(14,iv (i:Int))]) (H':=(906,⟨0,1,9,[]⟩)::(10,bx 3 25 [iv (i:Int),.pv (aX S),.osl 906 0 0 0])::sgT s i) ?_ ?_
 ·exact(cY.nz 906 1 9 rfl rfl ⟨⟨_,rfl,(by exact Nz.same (by(simp;rfl)))⟩,⟨_,rfl,(by exact Nz.same (by(simp;rfl)))⟩,⟨_,rfl,(by exact Nz.same (by(simp;done)))⟩,⟨_,rfl,(by exact Nz.same (by(simp;done)))⟩,trivial⟩ ⟨⟨_,rfl,rfl,rfl,rfl,(by exact .inr ⟨_,_,rfl,rfl,(by repeat(first|exact trivial|refine⟨(by first|exact Nz.own|exact Nz.same (by(simp;done))),?_⟩))⟩)⟩,⟨_,rfl,rfl,rfl,rfl,(by exact .inl ⟨rfl,(by(simp;done))⟩)⟩,⟨_,rfl,rfl,rfl,rfl,(by exact .inl ⟨rfl,(by(simp;done))⟩)⟩,⟨_,rfl,rfl,rfl,rfl,(by exact .inl ⟨rfl,(by(simp;done))⟩)⟩,trivial⟩ trivial)
 refine QU (fun(j:Nat) (l:List ByteArray) (q:Nat) (A:List ByteArray)=>([(8,.ref 8 0 0 0),(10,.ref 10 0 0 0),(13,.pv (aX l)),(14,iv (q:Int))],[(906,⟨A.length,1,9,dS A⟩),(10,bx 3 25 [iv (i:Int),.pv (aX S),.osl 906 A.length 0 A.length]),(8,bx 3 25 [iv 0,.pv (.sl []),.pv (.sl [])]),(6,bx 1 3 [iv (i:Int)]),(4,bx 1 9 [sv s])]))
  (fun j l q A=>l.length=2 ^ j∧q < 2 ^ j∧A++mQ j l q=mQ h (mB s h) i∧(∀ t∈l,t.size=16)∧j≤8∧A.length+j≤8) (fun j l q A=>j) h (mB s h) i [] ⟨hkl,hi,rfl,fun t ht=>uA (CI s h t ht),hh,by rw [List.length_nil];omega⟩ ?_ ?_
 ·exact(cY.wk (Ea<|Ea<|Eb<|Eb<|trivial) (Hc (cL _ _)<|Ha<|Hb<|Hb<|Hb<|trivial) trivial)
 rintro j l q A ⟨hl,hq,hr,hz,hj,hA⟩;have hml:(l.map encStr).length=l.length:=aNz _;have hpj:=sF hj;refine Sq<|Sr<|Dd aF<|Dd (fY aE)<|Dd jE<|Zz ?_;refine Cn ?_ ?_<;>intro hc2
 ·have hlt:1 < l.length:=by have:=aNv hc2;omega
  obtain ⟨u,rfl⟩:∃ u,j=u+1:=by
   cases j with
   | zero=>rw [hl] at hlt;exact absurd hlt (by decide)
   | succ u=>exact⟨u,rfl⟩
  have hl2:l.length=2*2 ^ u:=by rw [hl,Nat.pow_succ,Nat.mul_comm]
  have hpu:=sF (h:=u) (by omega);have hq2:q / 2 < 2 ^ u:=by rw [Nat.pow_succ] at hq;omega
  have hx:=Q2 q;have hxl:q ^^^ 1 < l.length:=by
   rw [hx]
   split<;>omega
  have hix:(l.map encStr)[q ^^^ 1]?=some (encStr (l.getD (q ^^^ 1) sNil)):=by
   rw [aOT,List.getD_eq_getElem?_getD,aOE hxl];rfl
  have hr2:(A++[l.getD (q ^^^ 1) sNil])++mQ u (Q7 l) (q / 2)=mQ h (mB s h) i:=by
   rw [← hr,List.append_assoc];rfl
  obtain ⟨e,he⟩:∃ e,e=l.getD (q ^^^ 1) sNil:=⟨_,rfl⟩;obtain ⟨y,hy⟩:∃ y,y=q ^^^ 1:=⟨_,rfl⟩;have hxo:=aFk (a:=q) (b:=1) (by omega) (by decide);rw [← he] at hix hr2;rw [← hy] at hix hxo hxl;have hnl:(A++[e]).length=A.length+1:=by rw [aOA];rfl
  refine aD<|Sq<|aG<|aO follows<|Cr [10] (fun _ h=>fh oJ h)<|Cr [10] (fun _ h=>lh aH h)<|Cr [] (fun _ _=>aF)<|Cr [] (fun _ _=>aF)<|Cr [] (fun H1 hH=>by exact rF rfl (by simp) rfl rfl hxo)<|Cr [] (fun H1 hH=>by exact bW rfl cA rfl rfl (by omega) (by exact aOK _) hix rfl)<|Cr [] (fun _ _=>(jA isAgg9 (hi:=hix)))<|Cr [] (fun H1 hH=>by exact aR [[.str e]] rfl cA rfl rfl rfl rfl rfl (by intro r hr;rw [aOC] at hr;subst hr;rfl))<|Cp [906] (fun H1 hH=>by exact dH (ps:=[[.str e]]) rfl cA EC rfl ((hH _ rfl).trans rfl) rfl rfl rfl (jY _) rfl (by intro r hr;rw [aOC] at hr;subst hr;rfl) (m:=1) rfl (by omega) rfl (lO A e))<|Cr [10] (fun _ h=>fh oJ h)<|Cp [10] (fun H1 hH=>by exact bH rfl sizeOf22 rfl rfl rfl ((hH _ rfl).trans rfl) rfl rfl (by simp only [aOB,List.length_nil];omega) (by simp only [Zl,encStr];rfl) (by simp only [Zl,encStr];rfl)) ?_;refine bL<|Kr<|Rg<|Dd aF<|Dd (by exact aA rfl rfl call90 rfl (aAf l (2 ^ u) _ hl2 (by omega) hz))<|Dd aF<|Dd (by exact CC rfl rfl rfl (by decide) (show IntKind.i64.wrap ((q:Int).tdiv 2)=((q / 2:Nat):Int)by rw [Int.tdiv_eq_ediv_of_nonneg (by omega),pB (by omega) (by omega)];omega))<|Dd aN<|Da ?_;refine⟨u,Q7 l,q / 2,A++[e],⟨B6 _ _ hl2,hq2,hr2,fun t ht=>uA (JJ _ _ (aOF _) t ht),by omega,by omega⟩,by omega,?_⟩;dsimp only;rw [hnl];exact(cY.wk (Ea<|Ea<|Eb<|Eb<|trivial) (Hc (cL _ _)<|Ha<|Hb<|Hb<|Hb<|trivial) trivial)
 have hge:l.length≤1:=by have:=aNw hc2;omega
 have hj0:j=0:=by
  cases j with
  | zero=>rfl
  | succ u =>
   have:2 ^ (u+1)=2*2 ^ u:=by rw [Nat.pow_succ,Nat.mul_comm]
   have:0 < 2 ^ u:=Nat.two_pow_pos u;omega
 subst hj0;have hA2:A=mQ h (mB s h) i:=by rw [← hr,mQ,List.append_nil]
 have hal:(A.map encStr).length=A.length:=aNz _;rw [← hA2];refine bC<|Sq ?_;refine gK.ent (cY.fzG (id:=906) (E':=[(8,.ref 8 0 0 0),(10,.ref 10 0 0 0)]) (H':=(10,bx 3 25 [iv (i:Int),.pv (aX S),.pv (aX A)])::sgT s i) (A.map encStr) rfl (fN _) ?_ rfl ?_ ?_) ?_
 ·intro p hp;simp only [aOL,aOP,or_false] at hp;rcases hp with rfl|rfl
  ·exact⟨_,rfl,.same (by simp;rfl)⟩
  exact⟨_,rfl,.same (by simp;rfl)⟩
 ·refine⟨⟨_,rfl,rfl,rfl,rfl,pP rfl (dN (.same (by simp)) (dN (.same (by simp)) (dN (.osl ?_) pQ)))⟩,⟨_,rfl,rfl,rfl,rfl,gZ (by simp)⟩,⟨_,rfl,rfl,rfl,rfl,gZ (by simp)⟩,⟨_,rfl,rfl,rfl,rfl,gZ (by simp)⟩,trivial⟩;rw [aOR,List.drop_zero,← hal,List.take_length]
 ·exact trivial
 refine Rg<|Dd (by exact aL rfl fM sizeOf25 rfl rfl rfl rfl (by simp only [Zl,encStr];rfl) rfl)<|Uu (kQ sizeOf25)<|Dd aN<|Zz<|aC ?_;refine uM (H':=[]) (.inr rfl) rfl (fV rfl fM sizeOf25 rfl rfl rfl (by simp only [Zl,encStr];rfl) rfl) (aY rfl) (Fin.wk (by simp) trivial trivial) ?_;exact Qq
end Go.Proofs.YtiifmppaejpemaaGreatDoor
namespace Go.Abs
open Go.RowKit
theorem Rel.below {I:Nat→Prop} {ι:eS} {H:aB} {w w':World} (hb:Below w.heap.size w w') (hr:Rel I ι H w):Rel I ι H w'∧Step I ι H w I ι H w':=by
 have hk:∀ b,b < w.heap.size→w'.heap[b]?=w.heap[b]?:=hb.block;have hst:Step I ι H w I ι H w':=by
  refine⟨hb.os,hb.tape,hb.output,hb.size,fun a ha _=>?_,fun _ h=>h,fun _ h=>.inl h,fun _ h=>.inl h,fun b hb _=>hk b hb,fun _ o h=>⟨o,h,aOF _,fun _=>⟨rfl,rfl,fun _=>aOF _⟩⟩⟩;unfold World.frozen?;rw [hk _ ha]
 refine⟨⟨fun b h=>?_,fun j o hj=>?_,hr.inj,hst.glob hr⟩,hst⟩
 ·have:=hr.imm b h;have:=hb.size;omega
 exact(hr.obj j o hj).keep rfl (fun b c _ hb=>⟨hk b hb,fun h=>h⟩) (fun r _ a _ v hv=>hv.mono hr hst)
end Go.Abs
namespace Go.Abs
open Go.Proofs
def aIP (v:Value):Prop:=∃ t p,v=.iface t p
abbrev aBm:PV:=.sat aIP
def nI (s:ByteArray):Int×PV:=match Lib.atoiAll s.data.toList with
 | .ok v=>(v,G8)
 | .range=>(Lib.atoiSat s.data.toList,aBm)
 | _=>(0,aBm)
theorem atoi_c {P:Program} {ρ:Shelf.Ren} (L:LaysC.n172 P ρ) {G1 G2:Nat} (hg1:(G1,GV.face)∈SJ) (hn1:P.globalNamed "strconv.ErrSyntax" = some G1) (hg2:(G2,GV.face)∈SJ) (hn2:P.globalNamed "strconv.ErrRange" = some G2) (s:ByteArray) (hs:s.size < 1099511627776) (H:aB) :
  aI P (ρ.f 172) [.pv (.str s)] H (fun r H'=>r=.tup [.pv (.int .i64 (nI s).1),.pv (nI s).2]∧H'=H):=by
 intro I ι w vs hr hvl hv;obtain ⟨v,rfl⟩:∃ v,vs=#[v]:=by
  match vs,hvl with
  | ⟨[v]⟩,_=>exact⟨v,rfl⟩
 have e1:=(hv 0 v _ rfl rfl).str_inv;subst e1;have hvar:∀ (name:String) (G:Nat),(G,GV.face)∈SJ→P.globalNamed name=some G→∃ t p,w.var? P name=some #[.iface t p]:=fun name G hg hn=>by
  obtain ⟨_,cs,t,f,h2,q,p,h3⟩:=hr.glob _ hg;subst h3;exact⟨q,p,by simp only [World.var?,hn,Option.bind_some,h2]⟩
 have fin:∀ (n:Int) (x:Value) (a:PV) (w':World),RowKit.Below w.heap.size w w'→(∀ I H,VRel w' I ι H x (.pv a))→∃ r H' I' ι' v',(Ending.returned (.tuple #[.int .i64 n,x]))=.returned v'∧(r=.tup [.pv (.int .i64 n),.pv a]∧H'=H)∧VRel w' I' ι' H' v' r∧Rel I' ι' H' w'∧Step I ι H w I' ι' H' w':=fun n x a w' hb hx=>by
  obtain ⟨k1,k2⟩:=Rel.below hb hr;refine⟨_,_,I,ι,_,rfl,⟨rfl,rfl⟩,.tup rfl fun i v b h1 h2=>?_,k1,k2⟩
  match i,h1,h2 with
  | 0,h1,h2=>cases h1;cases h2;exact .pv (.int _ _)
  | 1,h1,h2=>cases h1;cases h2;exact hx _ _
  | i+2,h1,h2=>simp at h1
 rw [nI];cases h:Lib.atoiAll s.data.toList with
 | ok n =>
  refine(Any.strconv_Atoi_ok L s (by omega) n h w).mono ?_;rintro e w' ⟨rfl,hw⟩;have hb:RowKit.Below w.heap.size w w':=by
   rcases hw with rfl|⟨t,rfl⟩
   ·exact RowKit.Below.refl _ _
   exact Lib.bytesWorld_below w _ t
  exact fin n .nilIface G8 w' hb (fun _ _=>.pv (.sat rfl rfl))
 | range =>
  obtain ⟨t,p,hq⟩:=hvar _ G2 hg2 hn2;refine(Any.strconv_Atoi_range_var L s (by omega) h t p w hq).mono ?_;rintro e w' ⟨N,rfl,_,_,hb⟩;exact fin _ _ aBm w' hb (fun _ _=>.pv (.sat rfl ⟨_,_,rfl⟩))
 | _ =>
  obtain ⟨t,p,hq⟩:=hvar _ G1 hg1 hn1;refine(Any.strconv_Atoi_syntax_var L s (by omega) h t p w hq).mono ?_;rintro e w' ⟨N,rfl,_,_,hb⟩;exact fin 0 _ aBm w' hb (fun _ _=>.pv (.sat rfl ⟨_,_,rfl⟩))
theorem WY {P:Program} {ρ:Shelf.Ren} (L:Lays.n160 P ρ) (h116:(P.info? (ρ.t 116)).map (fun i=>(i.zero,i.size))=some (some (.agg (Array.replicate 256 (.bool false))),256)) (s c:ByteArray) (hs:s.size≤9223372036854775807) (hcs:c.size < 4294967281)
  (ha:∀ (j:Nat) b,c.data.toList[j]?=some b→b.toNat < 128) (H:aB) :
  aI P (ρ.f 160) [.pv (.str s),.pv (.str c)] H (fun r H'=>r=.pv (.str ⟨(Lib.trimS s.data.toList c.data.toList).toArray⟩)∧H'=H):=by
 intro I ι w vs hr hvl hv;obtain ⟨v,u,rfl⟩:∃ v u,vs=#[v,u]:=by
  match vs,hvl with
  | ⟨[v,u]⟩,_=>exact⟨v,u,rfl⟩
 have e1:=(hv 0 v _ rfl rfl).str_inv;have e2:=(hv 1 u _ rfl rfl).str_inv;subst e1 e2;refine(Any.strings_Trim_laid L h116 s c w hs hcs ha).mono ?_;rintro e w' ⟨rfl,hb⟩;obtain ⟨k1,k2⟩:=Rel.below hb hr;exact⟨_,_,I,ι,_,rfl,⟨rfl,rfl⟩,.pv (.str _),k1,k2⟩
end Go.Abs
section
namespace Go.Proofs
open Go.RowKit Go.Sort Go.Shelf
def aNq:Go.Shelf.Ren:=⟨fun|160=>93|232=>143|231=>142|227=>144|234=>146|233=>145|236=>148|235=>147|228=>183|271=>186|151=>185|197=>184|120=>219|152=>218|260=>217|137=>150|119=>252|224=>228|225=>227|217=>187|266=>220|n=>n,fun|9=>9|4=>4|3=>3|5=>5|117=>171|116=>170|0=>0|124=>174|21=>21|105=>200|46=>128|119=>160|139=>260|138=>259|n=>n,fun|3=>3|4=>4|n=>n⟩
theorem aNu:Go.Proofs.Lays.n160 Tryz.prog aNq:={
  mixed:=by kernel_rfl
  f119:=Tryz.func252.trans (congrArg some (by kernel_rfl))
  f120:=Tryz.func219.trans (congrArg some (by kernel_rfl))
  f137:=Tryz.func150.trans (congrArg some (by kernel_rfl))
  f151:=Tryz.func185.trans (congrArg some (by kernel_rfl))
  f152:=Tryz.func218.trans (congrArg some (by kernel_rfl))
  f160:=Tryz.func93.trans (congrArg some (by kernel_rfl))
  f197:=Tryz.func184.trans (congrArg some (by kernel_rfl))
  f217:=Tryz.func187.trans (congrArg some (by kernel_rfl))
  f224:=Tryz.func228.trans (congrArg some (by kernel_rfl))
  f225:=Tryz.func227.trans (congrArg some (by kernel_rfl))
  f227:=Tryz.func144.trans (congrArg some (by kernel_rfl))
  f228:=Tryz.func183.trans (congrArg some (by kernel_rfl))
  f231:=Tryz.func142.trans (congrArg some (by kernel_rfl))
  f232:=Tryz.func143.trans (congrArg some (by kernel_rfl))
  f233:=Tryz.func145.trans (congrArg some (by kernel_rfl))
  f234:=Tryz.func146.trans (congrArg some (by kernel_rfl))
  f235:=Tryz.func147.trans (congrArg some (by kernel_rfl))
  f236:=Tryz.func148.trans (congrArg some (by kernel_rfl))
  f260:=Tryz.func217.trans (congrArg some (by kernel_rfl))
  f266:=Tryz.func220.trans (congrArg some (by kernel_rfl))
  f271:=Tryz.func186.trans (congrArg some (by kernel_rfl))
  t0:=aFY
  a0:=aNk
  z0:=aNN
  v0:=aHv
  t3:=Tryz.underlying3
  a3:=Tryz.isAgg3
  z3:=Tryz.sizeOf3
  v3:=B3
  t4:=dZ
  a4:=oC
  z4:=Tryz.sizeOf4
  v4:=mG
  t5:=iV
  a5:=AN
  z5:=cG
  v5:=B2
  t9:=Tryz.underlying9
  a9:=Tryz.isAgg9
  z9:=Tryz.sizeOf9
  v9:=sZ
  t21:=Tryz.underlying21
  a21:=Tryz.isAgg21
  z21:=Tryz.sizeOf21
  v21:=Tryz.zeroValue21
  t46:=D8
  a46:=WT
  z46:=S6
  v46:=GF
  t105:=Tryz.underlying200
  a105:=Tryz.isAgg200
  z105:=Tryz.sizeOf200
  v105:=Tryz.zeroValue200
  t116:=Tryz.underlying170
  a116:=Tryz.isAgg170
  z116:=Tryz.sizeOf170
  t117:=Tryz.underlying171
  a117:=Tryz.isAgg171
  z117:=Tryz.sizeOf171
  v117:=Tryz.zeroValue171
  t119:=fD
  a119:=aME
  z119:=wE
  t124:=Tryz.underlying174
  a124:=Tryz.isAgg174
  z124:=Tryz.sizeOf174
  v124:=Tryz.zeroValue174
  t138:=Tryz.underlying259
  a138:=Tryz.isAgg259
  z138:=Tryz.sizeOf259
  v138:=Tryz.zeroValue259
  t139:=Tryz.underlying260
  a139:=Tryz.isAgg260
  z139:=Tryz.sizeOf260
  v139:=Tryz.zeroValue260
  g3:=by kernel_rfl
  g4:=by kernel_rfl}
end Go.Proofs
namespace Go.Proofs.YtiifmppaejpemaaGreatDoor
open Go.Proofs.Tryz
open Go.Abs
abbrev HXT:ByteArray:=⟨#[48,49,50,51,52,53,54,55,56,57,97,98,99,100,101,102]⟩
theorem aJj (b:UInt8):HXT.data.toList.contains b=U2 b:=by
 have h:∀ n:Fin 256,HXT.data.toList.contains (UInt8.ofNat n.1)=U2 (UInt8.ofNat n.1):=by decide +kernel
 have:=h ⟨b.toNat,b.toNat_lt⟩
 simpa using this
theorem wB {α:Type} (p:α→Bool):∀ l:List α,l.dropWhile p=[]↔l.all p=true
 | []=>by simp
 | a::r=>by
  rw [List.dropWhile_cons,List.all_cons];cases h:p a with
  | true=>rw [aNy rfl,Bool.true_and];exact wB p r
  | false=>rw [aNx (by decide)];simp
theorem DD {α:Type} {p q:α→Bool}:∀ {l:List α},(l.dropWhile p).all q=true→(∀ a,p a=true→q a=true)→l.all q=true
 | [],_,_=>rfl
 | a::r,h,hpq=>by
  rw [List.dropWhile_cons] at h;cases hp:p a with
  | true =>
   rw [hp,aNy rfl] at h;rw [List.all_cons,hpq a hp,Bool.true_and];exact DD h hpq
  | false =>
   rw [hp,aNx (by decide)] at h;exact h
theorem aCm (l:List UInt8):Lib.trimS l HXT.data.toList=[]↔l.all U2=true:=by
 have e:(fun b=>HXT.data.toList.contains b)=U2:=funext aJj;unfold Lib.trimS Lib.trimLeftS Lib.trimRightS;rw [e,wB];constructor
 ·intro h;rw [List.all_reverse] at h;have h2:=DD h (fun a ha=>ha)
  rwa [List.all_reverse] at h2
 intro h;have h2:(l.reverse.dropWhile U2)=[]:=(wB _ _).2 (by rw [List.all_reverse];exact h);rw [h2];rfl
theorem aFx (s:ByteArray) (hs:s.size < 1099511627776) (H:aB):aI Tryz.prog 93 [sv s,sv HXT] H (fun r H'=>r=sv ⟨(Lib.trimS s.data.toList HXT.data.toList).toArray⟩∧H'=H) :=WY aNu (by kernel_rfl) s HXT (by omega) (by decide) (ascii_of_all (by decide)) H
theorem aAW (s:ByteArray) (hs:s.size < 1099511627776) (H:aB):aI Tryz.prog 31 [sv s] H (fun r H'=>r=bv (isJ s)∧H'=H):=by
 refine Pu ?_;have htr:=fun H=>aFx s hs H;have hn:=aCm s.data.toList;obtain ⟨t,ht⟩:∃ t,t=Lib.trimS s.data.toList HXT.data.toList:=⟨_,rfl⟩;rw [← ht] at htr hn;have hb:isJ s=(decide ((s.size:Int)=16)&&decide ((⟨t.toArray⟩:ByteArray)=sNil)):=by
  rw [isJ];congr 1
  ·exact decide_eq_decide.2 (by omega)
  have h2:((⟨t.toArray⟩:ByteArray)=sNil)↔t=[]:=by
   constructor
   ·intro h;have:=congrArg (fun b:ByteArray=>b.data.toList) h
    simpa using this
   intro h;rw [h]
  cases h3:s.data.toList.all U2 with
  | true=>exact(decide_eq_true (h2.2 (hn.2 h3))).symm
  | false=>exact(decide_eq_false (fun h=>by rw [hn.1 (h2.1 h)] at h3;cases h3)).symm
 clear ht hn;refine Bd func31 rfl ntmps31<|Sr<|Dd aN<|Zz<|Sq ?_;refine bA (t:=2) (n:=10) (X:=isJ s) ?_ ?_
 ·all_goals refine Dd aF ?_
  all_goals refine Dd (lH underlying9)<|Dd cT<|Dm ?_
  all_goals refine Sp 6 (fun h6=>?_) fun h6=>?_
  all_goals try contradiction
  all_goals first|refine Fo<|Fo<|Fo ?_|refine On aF<|On (by exact aA rfl rfl call93 rfl (htr _))<|On yJ ?_
  all_goals refine Dd cW<|Da ?_
  all_goals(exact⟨⟨_,rfl,by(rw [hb,h6];rfl)⟩,rfl,rfl,rfl⟩)
 exact aC<|Rt<|Qq
end Go.Proofs.YtiifmppaejpemaaGreatDoor
end
