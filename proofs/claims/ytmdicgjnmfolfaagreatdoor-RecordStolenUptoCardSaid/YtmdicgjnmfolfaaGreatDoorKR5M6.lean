/-
  Parts of the proof: rules of an abstract program logic, contracts of functions, plain laws. Conditions: each theorem's own.
-/
import Derived.Test.YtmdicgjnmfolfaaGreatDoorKR5M5
import Derived.Lib.ItoaLen
import Derived.Laws.BitsLemmas
import Derived.Below
import Derived.Shelf.Strconv.ErrVarAll
import Derived.Shelf.Strconv.AtoiAll
import Derived.Shelf.LaysC
import Derived.Shelf.Strings.SlTrimAscii
import Derived.Shelf.Lays
import Derived.Ground.NamesProg
set_option linter.unusedVariables false
set_option linter.unusedSimpArgs false
set_option maxRecDepth 100000
set_option maxHeartbeats 8000000
namespace Go.Proofs
open Tryz
theorem nU:type_of% call108:=call108
theorem lQ:type_of% call109:=call109
theorem jU:type_of% call110:=call110
theorem lP:type_of% call111:=call111
theorem nT:type_of% call158:=call158
theorem S3:type_of% call36:=call36
theorem aNe:type_of% call93:=call93
theorem S0:type_of% call94:=call94
theorem aNO:type_of% func158:=func158
theorem eA:type_of% isAgg25:=isAgg25
theorem aMC:type_of% ntmps158:=ntmps158
end Go.Proofs
namespace Go.Proofs.YtmdicgjnmfolfaaGreatDoor
open Go.Proofs.Tryz
open Go.Abs
variable{s sep x t:ByteArray}{k n i j id h:Nat}{l:List ByteArray}{α:Type}{o:GObj}{e:GEdit}
def DD(s:ByteArray)(k:Nat):UInt8:=(s.data.toList[k]?).getD 0
theorem tT(s:ByteArray)(k:Nat):cZ s k=((DD s k).toNat:Int):=rfl
def oU(b:UInt8):List UInt8:=if b=10 then[92,110]else if b=34\/b=92 then[92,b]else[b]
def eC(l:List UInt8):List UInt8:=34::(l.flatMap oU++[34])
theorem aHV(b:UInt8):(oU b).length<=2:=by
 unfold oU
 split
 ·exact aOB _
 split
 ·exact aOB _
 exact Nat.le_succ _
theorem VE(l:List UInt8):(l.flatMap oU).length<=2*l.length:=by
 induction l with
 |nil=>exact aOM _
 |cons b l ih =>
  rw[List.flatMap_cons,aNw,aNx];have:=aHV b;omega
theorem aCr(h:k<s.size):s.data.toList.take (k+1)=s.data.toList.take k++[DD s k]:=by
 have hk:k<s.data.toList.length:=by simpa using h
 rw[List.take_add_one,aOA hk,DD,aOA hk];rfl
theorem JT{b:UInt8}(hn:n<256):decide ((b.toNat:Int)=(n:Int))=decide (b=UInt8.ofNat n):=by
 rw[Bool.eq_iff_iff,aOC,aOC];constructor
 ·intro h;have:b.toNat=n:=by omega
  apply UInt8.toNat.inj;rw[this,UInt8.toNat_ofNat'];omega
 intro h;rw[h,UInt8.toNat_ofNat'];omega
theorem cD.bld0{E E':bS}(hE:NzE E [(2002,⟨0,1,5,[]⟩),(2001,vO (.osl 2002 0 0 0) false)] 2002 E'):cD [] E Y9 E' (uB 0 [] false):=by refine(cD.nz (G0:=[]) (H:=Y9) (H':=[(2001,vO (.osl 2002 0 0 0) false)]) 2002 1 5 rfl rfl hE ⟨⟨vO (.pv .nils) false,rfl,rfl,rfl,rfl,.inr ⟨_,_,rfl,rfl,⟨.same (by simp[WG]),⟨.own,trivial⟩⟩⟩⟩,trivial⟩ trivial).trans ?_;exact cD.get (fun _=>rfl) (fun j=>nB (by decide) j)
def oO(s:ByteArray)(k:Nat):List UInt8:=34::(s.data.toList.take k).flatMap oU
theorem aDY(hs:s.size<17592186044416):(oO s k).length<70368744170000:=by
 have:=VE (s.data.toList.take k);rw[aOJ]at this;have h2:s.data.toList.length=s.size:=by simp
 rw[oO,aNx];omega
theorem aBU(h:k<s.size):oO s (k+1)=oO s k++oU (DD s k):=by rw[oO,oO,aCr h,List.flatMap_append];simp
theorem aAC(s:ByteArray)(H:aB)(hs:s.size<17592186044416):aH Tryz.prog 203 [sv s] H (fun r H'=>r=sv ⟨(eC s.data.toList).toArray⟩/\H'=H):=by
 refine Pu ?_;have hsl:s.data.toList.length=s.size:=by simp
 refine Bd func203 rfl ntmps203<|Sr<|Dd aM<|Zz<|Sr<|Dd (by exact bM (id:=2001) rfl FU rfl rfl)<|Zz<|Sq ?_;refine fL.ent (E':=[(0,sv s),(3,.ref 2001 0 0 0)]) (H':=uB 0 [] false) (cD.bld0 ⟨⟨_,rfl,.same (by simp)⟩,⟨_,rfl,.same (by simp;rfl)⟩,trivial⟩) ?_;refine Rg<|Dd (by exact aA rfl rfl jU rfl (gU 0 [] false 34 (by decide)))<|Zz<|Sq<|Sr<|Dd aG<|Dd (nF underlying9)<|Dd aG<|Zz<|aD ?_;refine iA (fun(k g:Nat)=>([(0,sv s),(3,.ref 2001 0 0 0),(8,iv (s.size:Int)),(9,iv (k:Int))],uB g (oO s k) true)) (fun k g=>k<=s.size) (fun k g=>s.size - k) 0 1 (aOM _) ?_ ?_
 ·exact(cD.wk (Eb<|Ea<|Eb<|Eb<|trivial) (Hc (fB rfl rfl)<|Hc (dO _ _)<|trivial) trivial)
 intro k g hk;have hL:=aDY (k:=k) hs;refine Sr<|Dd cP<|Zz<|Sq ?_;refine Cn ?_ ?_<;>intro hc1
 ·have hlt:k<s.size:=by have:=aNr hc1;omega
  have hnext:=aBU hlt;refine aF<|Sq<|aD<|Sr<|Dd aG<|Dd aM<|Zz<|Sr<|Dd aG<|Dd aG<|Dd (by exact dW rfl underlying9 rfl rfl (by omega) (by exact aOG _) (by omega) rfl)<|Dd aM<|Zz<|Sr<|Dd aG<|Zz<|aD<|Sr<|Dd dK<|Da ?_;refine Cn ?_ ?_<;>intro hc2
  ·have hb:DD s k=10:=by
    have h:=hc2;rw[tT,show (10:Int)=((10:Nat):Int)by rfl,JT (by decide)]at h;exact aNr h
   have hE:uB (g+1) (oO s (k+1)) true=uB (g+1) (oO s k++(⟨#[92,110]⟩:ByteArray).data.toList) true:=by rw[hnext,hb];rfl
   refine Rg<|Dd (by exact aA rfl rfl lQ rfl (gT g (oO s k) true ⟨#[92,110]⟩ (by show _+2<_;omega)))<|Zz<|Rg<|Dd qV<|Dd aG<|Zz ?_;refine⟨k+1,g+1,by omega,by omega,?_⟩;show cD _ _ _ _ (uB (g+1) (oO s (k+1)) true);rw[hE];exact(cD.wk (Eb<|Ea<|Eb<|Eb<|trivial) (Hc (fB rfl rfl)<|Hc (dO _ _)<|trivial) trivial)
  have hb10:¬ DD s k=10:=by
   have h:=hc2;rw[tT,show (10:Int)=((10:Nat):Int)by rfl,JT (by decide)]at h;exact aNs h
  refine Sq<|Sr<|Dd dK<|Da ?_;refine Cn ?_ ?_<;>intro hc3
  ·have hb:DD s k=34:=by
    have h:=hc3;rw[tT,show (34:Int)=((34:Nat):Int)by rfl,JT (by decide)]at h;exact aNr h
   have hE:uB (g+1+1) (oO s (k+1)) true=uB (g+1+1) (oO s k++[92]++[DD s k]) true:=by rw[hnext,hb];simp[oU]
   refine aF ?_;refine Cn ?_ ?_<;>intro hc4
   ·refine Sr<|Dd (by exact aA rfl rfl jU rfl (gU g (oO s k) true 92 (by omega)))<|Zz<|Rg<|Dd aG<|Dd (by exact aA rfl rfl jU rfl (gU (g+1) (oO s k++[92]) true (DD s k) (by rw[aNw,List.length_singleton];omega)))<|Zz<|Rg<|Dd qV<|Dd aG<|Zz ?_;refine⟨k+1,g+1+1,by omega,by omega,?_⟩;show cD _ _ _ _ (uB (g+1+1) (oO s (k+1)) true);rw[hE];exact(cD.wk (Eb<|Ea<|Eb<|Eb<|trivial) (Hc (fB rfl rfl)<|Hc (dO _ _)<|trivial) trivial)
   exact absurd (hc3.symm.trans hc4) (by decide)
  have hb34:¬ DD s k=34:=by
   have h:=hc3;rw[tT,show (34:Int)=((34:Nat):Int)by rfl,JT (by decide)]at h;exact aNs h
  refine Rg<|Dd dK<|Da ?_;refine Cn ?_ ?_<;>intro hc5
  ·have hb:DD s k=92:=by
    have h:=hc5;rw[tT,show (92:Int)=((92:Nat):Int)by rfl,JT (by decide)]at h;exact aNr h
   have hE:uB (g+1+1) (oO s (k+1)) true=uB (g+1+1) (oO s k++[92]++[DD s k]) true:=by rw[hnext,hb];simp[oU]
   refine Sr<|Dd (by exact aA rfl rfl jU rfl (gU g (oO s k) true 92 (by omega)))<|Zz<|Rg<|Dd aG<|Dd (by exact aA rfl rfl jU rfl (gU (g+1) (oO s k++[92]) true (DD s k) (by rw[aNw,List.length_singleton];omega)))<|Zz<|Rg<|Dd qV<|Dd aG<|Zz ?_;refine⟨k+1,g+1+1,by omega,by omega,?_⟩;show cD _ _ _ _ (uB (g+1+1) (oO s (k+1)) true);rw[hE];exact(cD.wk (Eb<|Ea<|Eb<|Eb<|trivial) (Hc (fB rfl rfl)<|Hc (dO _ _)<|trivial) trivial)
  have hb92:¬ DD s k=92:=by
   have h:=hc5;rw[tT,show (92:Int)=((92:Nat):Int)by rfl,JT (by decide)]at h;exact aNs h
  have hE:uB (g+1) (oO s (k+1)) true=uB (g+1) (oO s k++[DD s k]) true:=by rw[hnext,oU,aNt hb10,aNt (fun h=>h.elim hb34 hb92)]
  refine Rg<|Dd aG<|Dd (by exact aA rfl rfl jU rfl (gU g (oO s k) true (DD s k) (by omega)))<|Zz<|Rg<|Dd qV<|Dd aG<|Zz ?_;refine⟨k+1,g+1,by omega,by omega,?_⟩;show cD _ _ _ _ (uB (g+1) (oO s (k+1)) true);rw[hE];exact(cD.wk (Eb<|Ea<|Eb<|Eb<|trivial) (Hc (fB rfl rfl)<|Hc (dO _ _)<|trivial) trivial)
 have hge:k=s.size:=by have:=aNs hc1;omega
 refine aY<|Sr<|Dd (by exact aA rfl rfl jU rfl (gU g (oO s k) true 34 (by omega)))<|Zz<|Sr<|Dd (by exact aA rfl rfl lP rfl (OL (g+1) (oO s k++[34]) true (by rw[aNw,List.length_singleton];omega)))<|Dd aM<|Zz<|aE ?_;have hres:(⟨(oO s k++[34]).toArray⟩:ByteArray)=⟨(eC s.data.toList).toArray⟩:=by
  rw[oO,eC,hge,List.take_of_length_le (by omega)];rfl
 rw[<-hres];exact Rt Qq
def cM(sep:List UInt8):List (List UInt8)->List UInt8
 | []=>[]
 |x::l=>x++l.flatMap (fun y=>sep++y)
def bs(l:List ByteArray):List (List UInt8):=l.map fun s=>s.data.toList
def dA(l:List ByteArray):Nat:=(l.map ByteArray.size).sum
theorem XG(h:l[k]?=some s):dA (l.take (k+1))=dA (l.take k)+s.size:=by rw[List.take_add_one,h,dA,dA,List.map_append,List.sum_append];simp
theorem KA(l:List ByteArray)(k:Nat):dA (l.take k)<=dA l:=by
 have h:dA l=dA (l.take k)+dA (l.drop k):=by
  rw[dA,dA,dA,<-List.sum_append,<-List.map_append,List.take_append_drop]
 omega
theorem U0(sep:List UInt8):∀l:List ByteArray,((bs l).flatMap (fun y=>sep++y)).length=sep.length*l.length+dA l
 | []=>by simp[bs,dA]
 |s::l=>by
  have ih:=U0 sep l;show (((s.data.toList)::bs l).flatMap (fun y=>sep++y)).length=_;rw[List.flatMap_cons,aNw,ih,aNw,aNx,Nat.mul_add,dA,dA,List.map_cons,List.sum_cons];have h2:s.data.toList.length=s.size:=by simp
  omega
def GK(sep x:ByteArray)(l:List ByteArray)(k:Nat):List UInt8:=x.data.toList++(bs (l.take k)).flatMap (fun y=>sep.data.toList++y)
theorem aBj(h:l[k]?=some s):GK sep x l (k+1)=GK sep x l k++(sep.data.toList++s.data.toList):=by rw[GK,GK,List.take_add_one,h,bs,List.map_append,List.flatMap_append];simp[bs]
theorem aDF(h:s∈l):s.size<=dA l:=by
 induction l with
 |nil=>cases h
 |cons a l ih =>
  rw[dA,List.map_cons,List.sum_cons];rcases aOH.1 h with rfl|h
  ·exact Nat.le_add_right _ _
  exact Nat.le_trans (ih h) (Nat.le_add_left _ _)
theorem U1(hk:k<=l.length):(GK sep x l k).length<=x.size+sep.size*l.length+dA l:=by
 rw[GK,aNw,U0,aOJ,Nat.min_eq_left hk];have h1:=KA l k;have h2:sep.data.toList.length=sep.size:=by simp
 have h3:x.data.toList.length=x.size:=by simp
 have h4:sep.size*k<=sep.size*l.length:=Nat.mul_le_mul_left _ hk;rw[h2];omega
theorem rV(l:List ByteArray)(sep:ByteArray)(H:aB)(h0:0<sep.size)(hl:sep.size*l.length+dA l+l.length<17592186044416):aH Tryz.prog 158 [.pv (aS l),sv sep] H (fun r H'=>r=sv ⟨(cM sep.data.toList (bs l)).toArray⟩/\H'=H):=by
 refine Pu ?_;have hml:(l.map encStr).length=l.length:=aNv _;rcases l with _|⟨x,_|⟨y,l⟩⟩
 ·refine Bd aNO rfl aMC<|Sr<|Dd aM<|Zz<|Sq<|Sr<|Dd aG<|Dd (fZ aC)<|Zz<|aD<|Sr<|Dd dK<|Da ?_;refine Cn ?_ ?_<;>intro hc1
  ·exact Sr<|Dd aM<|Zz<|aE<|Rt<|Qq
  cases hc1
 ·refine Bd aNO rfl aMC<|Sr<|Dd aM<|Zz<|Sq<|Sr<|Dd aG<|Dd (fZ aC)<|Zz<|aD<|Sr<|Dd dK<|Da ?_;refine Cn ?_ ?_<;>intro hc1
  ·cases hc1
  refine Sr<|Dd dK<|Da ?_;refine Cn ?_ ?_<;>intro hc2
  ·refine Sr<|Dd aG<|Dd (by exact aT rfl bT rfl rfl (by omega) (by exact aOG _) rfl rfl)<|Dd (kS isAgg9 (hi:=rfl))<|Dd aM<|Zz<|aE ?_;have hx:x=⟨(cM sep.data.toList (bs [x])).toArray⟩:=by simp[cM,bs]
   rw[<-hx];exact Rt Qq
  cases hc2
 have hll:((x::y::l).map encStr).length=l.length+2:=by rw[hml];rfl
 have hn2:(x::y::l).length=l.length+2:=rfl;rw[hn2]at hl;have hmul:sep.size*(l.length+2)=sep.size*(l.length+1)+sep.size:=by rw[<-Nat.mul_succ]
 obtain ⟨M,hMT⟩:∃M,M=sep.size*(l.length+1):=⟨_,rfl⟩;rw[<-hMT]at hmul;rw[hmul]at hl;have hdiv:sep.size+1<=9223372036854775807 / (l.length+1):=by
  rw[Nat.le_div_iff_mul_le (Nat.succ_pos _),Nat.add_mul,<-hMT];omega
 have hdl:9223372036854775807 / (l.length+1)<=9223372036854775807:=Nat.div_le_self _ _;have hMp:0<M:=by rw[hMT];exact Nat.mul_pos h0 (Nat.succ_pos _)
 have hsz:∀k,dA ((x::y::l).take k)<=dA (x::y::l):=KA _;refine Bd aNO rfl aMC<|Sr<|Dd aM<|Zz<|Sq<|Sr<|Dd aG<|Dd (fZ aC)<|Zz<|aD<|Sr<|Dd dK<|Da ?_;refine Cn ?_ ?_<;>intro hc1
 ·exact absurd (aNr hc1) (by rw[hll];omega)
 refine Sr<|Dd dK<|Da ?_;refine Cn ?_ ?_<;>intro hc2
 ·exact absurd (aNr hc2) (by rw[hll];omega)
 refine aF<|Sr<|Dd aM<|Zz<|Sq<|Sr<|Dd aG<|Dd (nF underlying9)<|Dd mN<|Zz ?_;refine Cn ?_ ?_<;>intro hc3
 ·refine Sq<|Sr<|Dd aG<|Dd (nF underlying9)<|Dd aG<|Dd (fZ aC)<|Dd (by exact dN rfl rfl rfl (show IntKind.i64.wrap ((((x::y::l).map encStr).length:Int) - 1)=((l.length+1:Nat):Int)by rw[IntKind.wrap_i64,hll];omega))<|Dd (by exact rR (r:=((9223372036854775807 / (l.length+1):Nat):Int)) rfl rfl rfl (by omega) (by rw[show (9223372036854775807:Int)=((9223372036854775807:Nat):Int)by rfl,<-Int.ofNat_tdiv,IntKind.wrap_i64];omega))<|Dd LN<|Zz ?_;refine Cn ?_ ?_<;>intro hc4
  ·exact absurd (aNr hc4) (by omega)
  refine aF<|Rg<|Dd aG<|Dd aG<|Dd (nF underlying9)<|Dd aG<|Dd (fZ aC)<|Dd (by exact dN rfl rfl rfl (show IntKind.i64.wrap ((((x::y::l).map encStr).length:Int) - 1)=((l.length+1:Nat):Int)by rw[IntKind.wrap_i64,hll];omega))<|Dd (by exact lH rfl rfl rfl (show IntKind.i64.wrap ((sep.size:Int)*((l.length+1:Nat):Int))=(M:Int)by rw[<-Int.natCast_mul,<-hMT,IntKind.wrap_i64];omega))<|Dd (by exact bG rfl rfl rfl (show IntKind.i64.wrap (0+(M:Int))=(M:Int)by rw[IntKind.wrap_i64];omega))<|Dd aM<|Zz<|Sq<|Sr<|Dd aG<|Dd (fZ aC)<|Dd aG<|Zz<|aD ?_;refine bL (σ:=Nat) (fun k=>([(0,.pv (aS (x::y::l))),(1,sv sep),(5,iv ((M+dA ((x::y::l).take k):Nat):Int)),(39,.pv (aS (x::y::l))),(40,iv (((x::y::l).map encStr).length:Int)),(41,iv (k:Int))],[])) (fun k=>k<=l.length+2) (fun k=>l.length+2 - k) 0 (aOM _) ?_ ?_
  ·exact Wk
  intro k hk;refine Sr<|Dd cP<|Zz<|Sq ?_;refine Cn ?_ ?_<;>intro hc5
  ·have hlt:k<l.length+2:=by have:=aNr hc5;omega
   obtain ⟨s,hs⟩:=aV (show k<(x::y::l).length by omega);have hi:=cA (f:=encStr) hs;have hst:=XG hs;have h1:=hsz (k+1);refine aF<|Sq<|aD<|Sr<|Dd (by exact aT rfl bT rfl rfl (by omega) (by exact aOG _) hi rfl)<|Dd (kS isAgg9 (hi:=hi))<|Dd aM<|Zz<|Sq<|Sr<|Dd aG<|Dd (nF underlying9)<|Dd aG<|Dd (by exact dN rfl rfl rfl (show IntKind.i64.wrap (9223372036854775807 - ((M+dA ((x::y::l).take k):Nat):Int))=9223372036854775807 - ((M+dA ((x::y::l).take k):Nat):Int)by rw[IntKind.wrap_i64];omega))<|Dd mN<|Zz ?_;refine Cn ?_ ?_<;>intro hc6
   ·exact absurd (aNr hc6) (by omega)
   refine aF<|Rg<|Dd aG<|Dd aG<|Dd (nF underlying9)<|Dd (by exact bG rfl rfl rfl (show IntKind.i64.wrap (((M+dA ((x::y::l).take k):Nat):Int)+(s.size:Int))=((M+dA ((x::y::l).take (k+1)):Nat):Int)by rw[IntKind.wrap_i64,hst];omega))<|Dd aM<|Zz<|Rg<|Dd qV<|Dd aG<|Zz ?_;exact⟨k+1,by omega,by omega,Wk⟩
  have hge:k=l.length+2:=by have:=aNs hc5;omega
  have hall:dA ((x::y::l).take k)=dA (x::y::l):=by rw[hge,<-hn2,List.take_length]
  have h2:=hsz k;refine aY<|Sr<|Dd (by exact bM (id:=2001) rfl FU rfl rfl)<|Zz<|Sr<|Dd aG<|Dd (by exact aA rfl rfl call198 rfl (aHM (M+dA ((x::y::l).take k)) (by omega) (by omega)))<|Zz<|Sr<|Dd aG<|Dd (by exact aT rfl bT rfl rfl (by omega) (by exact aOG _) rfl rfl)<|Dd (kS isAgg9 (hi:=rfl))<|Dd (by exact aA rfl rfl lQ rfl (gT 1 [] true x (by show 0+_<_;have:=KA (x::y::l) 1;simp[dA]at this hl;omega)))<|Zz<|Sq<|Sr<|Dd aG<|Dd (by exact xC (l:=1) (h:=((x::y::l).map encStr).length) (rows':=(y::l).map encStr) rfl bT rfl (sz:=1) (by intro r hr;obtain ⟨q,_,rfl⟩:=List.mem_map.1 hr;rfl) rfl rfl (by rw[hll];omega) (aOB _) (by rw[List.take_length];rfl))<|Dd (fZ aC)<|Dd aG<|Zz<|aD ?_;have hyl:((y::l).map encStr).length=l.length+1:=by rw[aNv];rfl
  refine iA (fun(q g:Nat)=>([(1,sv sep),(8,.ref 2001 0 0 0),(63,.pv (aS (y::l))),(64,iv (((y::l).map encStr).length:Int)),(65,iv (q:Int))],uB g (GK sep x (y::l) q) true)) (fun q g=>q<=l.length+1) (fun q g=>l.length+1 - q) 0 2 (aOM _) ?_ ?_
  ·show cD _ _ _ _ (uB (1+1) ([]++x.data.toList++[]) true);rw[List.append_nil];exact(cD.wk (Eb<|Ea<|Eb<|Eb<|Eb<|trivial) (Hc (fB rfl rfl)<|Hc (dO _ _)<|trivial) trivial)
  intro q g hq;refine Sr<|Dd cP<|Zz<|Sq ?_;refine Cn ?_ ?_<;>intro hc7
  ·have hlt:q<l.length+1:=by have:=aNr hc7;omega
   obtain ⟨s,hs⟩:=aV (show q<(y::l).length by rw[aNx];exact hlt);have hi:=cA (f:=encStr) hs;have hpl:=U1 (sep:=sep) (x:=x) (l:=y::l) (k:=q) (Nat.le_of_lt hlt);have hnx:=aBj (sep:=sep) (x:=x) hs;have hss:=aDF (aOF hs);have hxs:x.size+dA (y::l)=dA (x::y::l):=by simp[dA]
   have hll2:(y::l).length=l.length+1:=rfl;rw[hll2,<-hMT]at hpl;refine aF<|Sq<|aD<|Sr<|Dd (by exact aT rfl bT rfl rfl (by omega) (by exact aOG _) hi rfl)<|Dd (kS isAgg9 (hi:=hi))<|Dd aM<|Zz<|Sr<|Dd aG<|Dd (by exact aA rfl rfl lQ rfl (gT g (GK sep x (y::l) q) true sep (by omega)))<|Zz<|Rg<|Dd aG<|Dd (by exact aA rfl rfl lQ rfl (gT (g+1) (GK sep x (y::l) q++sep.data.toList) true s (by rw[aNw];show _+sep.size+_<_;omega)))<|Zz<|Rg<|Dd qV<|Dd aG<|Zz ?_;refine⟨q+1,g+1+1,by omega,by omega,?_⟩;show cD _ _ _ _ (uB (g+1+1) (GK sep x (y::l) (q+1)) true);rw[hnx,<-List.append_assoc];exact(cD.wk (Eb<|Ea<|Eb<|Eb<|Eb<|trivial) (Hc (fB rfl rfl)<|Hc (dO _ _)<|trivial) trivial)
  have hge2:q=l.length+1:=by have:=aNs hc7;omega
  have hpl:=U1 (sep:=sep) (x:=x) (l:=y::l) hq;have hll2:(y::l).length=l.length+1:=rfl;have hxs:x.size+dA (y::l)=dA (x::y::l):=by simp[dA]
  rw[hll2,<-hMT]at hpl;refine aY<|Sr<|Dd (by exact aA rfl rfl lP rfl (OL g (GK sep x (y::l) q) true (by omega)))<|Dd aM<|Zz<|aE ?_;have hres:(⟨(GK sep x (y::l) q).toArray⟩:ByteArray)=⟨(cM sep.data.toList (bs (x::y::l))).toArray⟩:=by
   rw[GK,hge2,<-hll2,List.take_length];rfl
  rw[<-hres];exact Rt Qq
 exact absurd (aNs hc3) (by omega)
def asc{α:Type}(f:α->ByteArray)(l:List α):Prop:=l.Pairwise (fun a b=>DP (f a) (f b)=true)
theorem aHn{f:α->ByteArray}{l:List α}(h:asc f l){a b:α}(hij:i<j)(ha:l[i]?=some a)(hb:l[j]?=some b):DP (f a) (f b)=true:=by
 obtain ⟨i1,i2⟩:=aNz.1 ha;obtain ⟨j1,j2⟩:=aNz.1 hb;have:=List.pairwise_iff_getElem.1 h i j i1 j1 hij
 rwa [i2,j2]at this
abbrev pvR(ps:List (List PV)):List (List AV):=ps.map (·.map .pv)
theorem aG5(ps:List (List PV)):(pvR ps).length=ps.length:=aNv _
theorem MK{last:ByteArray}{t:GTag}:G6 last t=false↔bO t.key=true/\DP last t.key=true/\t.val≠sNil/\t.val.size<=200:=by
 simp only[G6,aOR,Bool.not_eq_false',aGD,aOD];constructor
 ·rintro⟨⟨⟨h1,h2⟩,h3⟩,h4⟩;exact⟨h1,h2,h3,by omega⟩
 rintro⟨h1,h2,h3,h4⟩;exact⟨⟨⟨h1,h2⟩,h3⟩,by omega⟩
theorem aGB(h:s≠sNil):DP sNil s=true:=by
 cases e:DP sNil s with
 |true=>rfl
 |false=>exact absurd (Z3 (aGC s) e) h
theorem BT{l:List GTag}:zD l=true↔(∀t,t∈l->bO t.key=true/\t.val≠sNil/\t.val.size<=200)/\asc GTag.key l/\l.length<=60:=by
 have hlen:decide ((l.length:Int)<=60)=decide (l.length<=60):=by
  rw[Bool.eq_iff_iff,aOC,aOC];omega
 rw[zD,hlen,aOE,aOO,List.any_eq_false,aOC];constructor
 ·rintro⟨h,hn⟩;have hb:∀k t,l[k]?=some t->bO t.key=true/\DP (fS GTag.key l k) t.key=true/\t.val≠sNil/\t.val.size<=200:=fun k t hk=>by
   have h1:=h k (List.mem_range.2 (aNz.1 hk).1);rw[QI,hk]at h1;simp only[Bool.not_eq_true]at h1;exact MK.1 h1
  refine⟨fun t ht=>?_,?_,hn⟩
  ·obtain ⟨k,hk⟩:=aOQ.1 ht;obtain ⟨a,_,b,c⟩:=hb k t hk;exact⟨a,b,c⟩
  have key:∀(d i:Nat) (a b:GTag),l[i]?=some a->l[i+d+1]?=some b->DP a.key b.key=true:=by
   intro d
   induction d with
   |zero =>
    intro i a b ha hb';have:=(hb (i+1) b hb').2.1;rw[fS,ha]at this;exact this
   |succ d ih =>
    intro i a b ha hb';have hlt:i+d+1<l.length:=by have:=(aNz.1 hb').1;omega
    obtain ⟨x,hx⟩:=aV hlt;have h2:=(hb (i+(d+1)+1) b hb').2.1;rw[fS,show i+(d+1)=i+d+1 by omega,hx]at h2;exact OO (ih i a x ha hx) h2
  rw[asc,List.pairwise_iff_getElem];intro i j hi hj hij;exact key (j - i - 1) i _ _ (aOA hi) (by rw[show i+(j - i - 1)+1=j by omega];exact aOA hj)
 rintro⟨h1,h2,h3⟩;refine⟨fun k hk=>?_,h3⟩;have hlt:=List.mem_range.1 hk;rw[QI,aOA hlt];simp only[Bool.not_eq_true];obtain ⟨a,b,c⟩:=h1 _ (List.getElem_mem hlt);refine MK.2 ⟨a,?_,b,c⟩;cases k with
 |zero =>
  have:l[0].key≠sNil:=aE5 a;exact aGB this
 |succ k =>
  rw[fS,aOA (show k<l.length by omega)];exact aHn h2 (Nat.lt_succ_self k) (aOA (by omega)) (aOA hlt)
theorem Fin.slice0{H1:aB}{g:Nat}{ob:Ob}(ps:List (List PV))(hH:H1.get id=some ob)(hg:ob.g=g)(hps:ob.rows=ps.map (·.map .pv))(hn:ps.length=n):
  Fin [] H1 (.osl id g 0 n) [] (.pv (.sl ps)):=by
 subst hg hn;exact Fin.fz (id:=id) (ob:=ob) ps hH hps (.osl (by rw[aON,List.drop_zero,List.take_length])) rfl trivial trivial
theorem RD(l:List ByteArray):∀r∈l.map encStr,r.length=1:=fun r hr=>by
 obtain ⟨t,_,rfl⟩:=List.mem_map.1 hr;rfl
theorem LM(n:Nat)(H:aB)(h4:H.get 904=none)(h5:H.get 905=none)(hc:dF H)(hn:n<1099511627776):
  aH Tryz.prog 243 [.pv .nils,iv (n:Int)] H (fun r H'=>r=.osl 905 1 0 0/\H'=(905,⟨1,1,9,[]⟩)::H):=by
 refine Bd func243 rfl ntmps243 ?_;by_cases h0:n=0
 ·subst h0;refine WH (t:=0) (id:=905) (sz:=1) (ty:=9) rfl h5 rfl ?_;refine Sr<|Dd aM<|Zz<|Sq<|Sr<|Dd aG<|Dd cP<|Zz ?_;refine Cn ?_ ?_<;>intro hc1
  ·have h:=aNr hc1;omega
  refine aF<|Sq<|Sr<|Dd aG<|Dd aG<|Dd (by exact AO rfl aC rfl rfl rfl)<|Dd aG<|Dd (by exact AN rfl aC rfl rfl rfl)<|Dd (by exact dN rfl rfl rfl (by exact iY (by omega) (by omega)))<|Dd (by exact dN rfl rfl rfl (by exact iY (by omega) (by omega)))<|Dd aM<|Zz<|Sr<|Dd aG<|Dd mN<|Zz ?_;refine Cn ?_ ?_<;>intro hc2
  ·have h:=aNr hc2;omega
  refine aF<|Sq ?_;refine aCJ (t:=0) rfl rfl rfl (by decide) ?_;refine Rg<|Dd aG<|Dd aM<|Zz<|aE ?_;refine dC (H':=((905,⟨1,1,9,[]⟩)::H)) (.inr rfl) rfl (aW rfl) ((Fin.bump (g:=0) (k:=1) rfl rfl (by decide) rfl rfl rfl).trans (Fin.get' (fun j=>uV _ _ _ _ j))) ?_;exact Qq
 refine WH (t:=0) (id:=904) (sz:=1) (ty:=9) rfl h4 rfl ?_;have h5':aB.get ((904,(⟨0,1,9,[]⟩:Ob))::H) 905=none:=h5;refine Sr<|Dd aM<|Zz<|Sq<|Sr<|Dd aG<|Dd cP<|Zz ?_;refine Cn ?_ ?_<;>intro hc3
 ·have h:=aNr hc3;omega
 refine aF<|Sq<|Sr<|Dd aG<|Dd aG<|Dd (by exact AO rfl aC rfl rfl rfl)<|Dd aG<|Dd (by exact AN rfl aC rfl rfl rfl)<|Dd (by exact dN rfl rfl rfl (by exact iY (by omega) (by omega)))<|Dd (by exact dN rfl rfl rfl (by exact iY (by omega) (by omega)))<|Dd aM<|Zz<|Sr<|Dd aG<|Dd mN<|Zz ?_;refine Cn ?_ ?_<;>intro hc4
 ·refine Rg<|Dd aG<|Dd aG<|Dd (by exact AO rfl aC rfl rfl rfl)<|Dd (by exact TE (l:=0) (h:=0) rfl bT rfl rfl rfl rfl rfl rfl (aOB _) (aOB _) rfl rfl rfl)<|Dd aG<|Dd (by exact JL (id2:=905) (m:=n) rfl bT underlying3 CH zo9 rfl rfl rfl rfl rfl (aOB _) rfl (by omega) (by omega) (by omega) (aON _) (by omega) h5' rfl)<|Dd aG<|Dd (by exact AN rfl aC rfl rfl rfl)<|Dd (by exact gS (l:=0) (h:=0) rfl bT rfl rfl rfl rfl rfl rfl (aOB _) (by omega) rfl rfl)<|Dd aM<|Zz<|Sr<|Dd aG<|Dd aM<|Zz<|aE ?_;refine dC (H':=((905,⟨1,1,9,[]⟩)::H)) (.inr rfl) rfl (aW rfl) ((Fin.trunc (g:=0) (k:=1) (sz:=1) (ty:=9) (rows:=[]) rfl rfl (by decide) rfl rfl (List.take_zero)).trans (Fin.front' [_,_,_] [(905,⟨1,1,9,[]⟩)] (by simp;rfl) (by simp[h4,h5]) (by simp[aB.get]) (by simp) hc (by simp[h4,h5]))) ?_;exact Qq
 have h:=aNs hc4;omega
theorem GX(ls:List (List ByteArray))(H:aB)(hls:ls.length<1099511627776)(hb:ls.flatten.length<1099511627776):
  aH Tryz.prog 204 [.pv (.sl (ls.map (fun l=>[.sl (l.map encStr)])))] H (fun r H'=>r=.pv (.sl (ls.flatten.map encStr))/\H'=H):=by
 refine Pu ?_;have hml:(ls.map (fun l=>[PV.sl (l.map encStr)])).length=ls.length:=aNv _;have hpre:∀k,((ls.take k).flatten).length<=ls.flatten.length:=fun k=>by
  conv=>rhs;rw[<-List.take_append_drop k ls,List.flatten_append,aNw]
  omega
 have hst:∀k l,ls[k]?=some l->(ls.take (k+1)).flatten=(ls.take k).flatten++l:=fun k l h=>by
  rw[List.take_add_one,h,List.flatten_append];simp
 refine Bd func204 rfl ntmps204<|Sr<|Dd aM<|Zz<|Sr<|Dd aM<|Zz<|Sq<|Sr<|Dd aG<|Dd (fZ DK)<|Dd aG<|Zz<|aD ?_;refine bL (σ:=Nat) (fun k=>([(0,.pv (.sl (ls.map (fun l=>[.sl (l.map encStr)])))),(3,iv (((ls.take k).flatten).length:Int)),(9,.pv (.sl (ls.map (fun l=>[.sl (l.map encStr)])))),(10,iv ((ls.map (fun l=>[PV.sl (l.map encStr)])).length:Int)),(11,iv (k:Int))],[])) (fun k=>k<=ls.length) (fun k=>ls.length - k) 0 (by omega) ?_ ?_
 ·exact E0
 intro k hk;refine Sr<|Dd cP<|Zz<|Sq ?_;refine Cn ?_ ?_<;>intro hc1
 ·have hlt:k<ls.length:=by have:=aNr hc1;omega
  obtain ⟨l,hl⟩:=aV hlt;have hi:=cA (f:=fun l=>[PV.sl (l.map encStr)]) hl;have hml2:(l.map encStr).length=l.length:=aNv _;have h1:=hst k l hl;have h2:=hpre (k+1);have h3:((ls.take (k+1)).flatten).length=((ls.take k).flatten).length+l.length:=by rw[h1,aNw]
  have hw:IntKind.i64.wrap ((((ls.take k).flatten).length:Int)+((l.map encStr).length:Int))=(((ls.take (k+1)).flatten).length:Int):=by rw[IntKind.wrap_i64,hml2,h3];omega
  refine aF<|Sq<|aD<|Sr<|Dd (zV HJ)<|Dd (kS aJ)<|Dd aM<|Zz<|Sr<|Dd aG<|Dd aG<|Dd (fZ aC)<|Dd (by exact bG rfl rfl rfl hw)<|Dd aM<|Zz<|Sr<|Dd aG<|Dd cP<|Zz ?_;refine Cn ?_ ?_<;>intro hc2
  ·have h:=aNr hc2;omega
  refine aF<|Rg<|Dd qV<|Dd aG<|Zz ?_;exact⟨k+1,by omega,by omega,E0⟩
 have hge:k=ls.length:=by have:=aNs hc1;omega
 subst hge;rw[List.take_length];refine aY<|Sr<|Dd aG<|Dd (by exact RR rfl rfl call243 rfl (LM ls.flatten.length [] rfl rfl (dF.of (by simp)) hb))<|Dd aM<|Zz<|Sq<|Sr<|Dd aG<|Dd (fZ DK)<|Dd aG<|Zz<|aD ?_;refine iA (fun(k:Nat) (g:Nat)=>([(6,.osl 905 g 0 ((ls.take k).flatten.map encStr).length),(25,.pv (.sl (ls.map (fun l=>[.sl (l.map encStr)])))),(26,iv ((ls.map (fun l=>[PV.sl (l.map encStr)])).length:Int)),(27,iv (k:Int))],[(905,⟨g,1,9,pvR ((ls.take k).flatten.map encStr)⟩)])) (fun k g=>k<=ls.length) (fun k g=>ls.length - k) 0 1 (by omega) ?_ ?_
 ·exact E0
 intro k g hk;refine Sr<|Dd cP<|Zz<|Sq ?_;refine Cn ?_ ?_<;>intro hc3
 ·have hlt:k<ls.length:=by have:=aNr hc3;omega
  obtain ⟨l,hl⟩:=aV hlt;have hi:=cA (f:=fun l=>[PV.sl (l.map encStr)]) hl;have hml2:(l.map encStr).length=l.length:=aNv _;have hml3:((ls.take k).flatten.map encStr).length=((ls.take k).flatten).length:=aNv _;have h1:=hst k l hl;have h2:=hpre (k+1);have h3:((ls.take (k+1)).flatten).length=((ls.take k).flatten).length+l.length:=by rw[h1,aNw]
  refine aF<|Sq<|aD<|Sr<|Dd (zV HJ)<|Dd (kS aJ)<|Dd aM<|Zz<|Rg<|Dd aG<|Dd aG<|Dd (by exact cF rfl bT CH rfl rfl rfl rfl rfl (aG5 _) rfl (RD l) rfl (by omega) (by rw[h1,List.map_append,aNw]:((ls.take k).flatten.map encStr).length+(l.map encStr).length=((ls.take (k+1)).flatten.map encStr).length) (by rw[h1,List.map_append,pvR,pvR,List.map_append]:pvR ((ls.take k).flatten.map encStr)++(l.map encStr).map (·.map .pv)=pvR ((ls.take (k+1)).flatten.map encStr)))<|Dd aM<|Zz<|Rg<|Dd qV<|Dd aG<|Zz ?_;exact⟨k+1,g+1,by omega,by omega,cD.dup ⟨⟨_,rfl,rfl⟩,⟨_,rfl,rfl⟩,⟨_,rfl,rfl⟩,⟨_,rfl,rfl⟩,trivial⟩⟩
 have hge:k=ls.length:=by have:=aNs hc3;omega
 subst hge;rw[List.take_length];refine aY<|Sr<|Dd aG<|Dd aM<|Zz<|aE ?_;refine dC (H':=[]) (.inr rfl) rfl (aW rfl) (Fin.slice0 (id:=905) (ls.flatten.map encStr) rfl rfl rfl rfl) ?_;exact Qq
theorem LO(h:nN o=true):o.refs.length<=2000/\o.tags.length<=60/\zD o.tags=true/\bO o.id=true/\(o.kind=2->2<=o.refs.length):=by rw[nN,aOE,aOO,PZ,vF]at h;have h1:=h.1;simp only[aOR,Bool.not_eq_false',aOD]at h1;obtain ⟨⟨⟨⟨a1,a2⟩,a3⟩,a4⟩,a5⟩:=h1;refine⟨by omega,(BT.1 a3).2.2,a3,a2,fun hk=>?_⟩;rw[hk,show C2 2=2 from rfl]at a4;omega
theorem yJ:fX e=true↔(1<=e.op/\e.op<=7)/\wF e=true/\IA e=e:=by rw[fX,aOE,aOE,aOE,aOC,aOC,YU]
theorem LQ(h:fX e=true):e.val.size<=200:=by
 obtain ⟨_,h2,h3⟩:=yJ.1 h;have hv:(IA e).val=e.val:=by rw[h3]
 by_cases e3:e.op=3
 ·rw[wF,aNt (by omega),aNt (by omega),aNu e3,aOE,aOE,aOC]at h2;omega
 have:e.val=sNil:=by
  rw[<-hv,IA]
  repeat' split
  all_goals rfl
 rw[this];decide
abbrev aMv(m:List GObj)(s:ByteArray):Option GObj:=m.find? (aMy s)
theorem aBq(h:nN o=true):1<=o.kind/\o.kind<=5:=by
 rw[nN,aOE,aOO,PZ,vF]at h;have h1:=h.1;simp only[aOR,aOD]at h1;have hw:=h1.1.1.1.1;unfold gF at hw;by_cases a:o.kind=1
 ·omega
 by_cases b:o.kind=2
 ·omega
 by_cases c:o.kind=3
 ·omega
 by_cases d:o.kind=4
 ·omega
 by_cases f:o.kind=5
 ·omega
 rw[aNt a,aNt b,aNt c,aNt d,aNt f]at hw;exact absurd rfl hw
def mP(s:ByteArray):ByteArray:=bI (s.size:Int)++⟨#[58]⟩++s
def aL(l:List ByteArray):List UInt8:=l.flatMap fun s=>(mP s).data.toList
def pB(l:List ByteArray):ByteArray:=fA ⟨(aL l).toArray⟩
theorem iC{n:Int}(h0 : -9223372036854775808<=n)(h1:n<=9223372036854775807):(bI n).size<=21:=by
 have:=Lib.itoa_length_le n h0 h1;show (Lib.itoa n).toArray.size<=21
 simpa using this
theorem nY(s:ByteArray):(mP s).size=(bI (s.size:Int)).size+1+s.size:=by rw[mP,ByteArray.size_append,ByteArray.size_append];rfl
theorem rW(l:List ByteArray)(s:ByteArray):aL (l++[s])=aL l++(mP s).data.toList:=by rw[aL,aL,List.flatMap_append,List.flatMap_cons,List.flatMap_nil,List.append_nil]
theorem yG:∀(l:List ByteArray) (k:Nat),(aL (l.take k)).length<=(aL l).length:=fun l k=>by
 have h:aL l=aL (l.take k)++aL (l.drop k):=by rw[aL,aL,aL,<-List.flatMap_append,List.take_append_drop]
 rw[h,aNw];omega
theorem kY{l:List α}{a:α}(h:l[k]?=some a):l.take (k+1)=l.take k++[a]:=by rw[List.take_add_one,h,Option.toList_some]
theorem lV(s:ByteArray):s.data.toList.length=s.size:=by simp
theorem AT:∀l:List ByteArray,l.length<=(aL l).length
 | []=>aOB _
 |s::r=>by
  have ih:=AT r;have h:aL (s::r)=(mP s).data.toList++aL r:=by rw[aL,List.flatMap_cons];rfl
  rw[h,aNw,aNx,lV,nY];omega
theorem aEF(l:List ByteArray)(H:aB)(hl:(aL l).length<35184372088832):aH Tryz.prog 130 [.pv (aS l)] H (fun r H'=>r=sv (pB l)/\H'=H):=by
 refine Pu ?_;have hml:(l.map encStr).length=l.length:=aNv _;have hll:=AT l;refine Bd func130 rfl ntmps130<|Sr<|Dd aM<|Zz<|Sr<|Dd (by exact bM (id:=2001) rfl FU rfl rfl)<|Zz<|Sq<|Sq ?_;refine fL.ent (E':=[(0,.pv (aS l)),(3,.ref 2001 0 0 0)]) (H':=uB 0 [] false) (cD.bld0 ⟨⟨_,rfl,.same (by simp)⟩,⟨_,rfl,.same (by simp;rfl)⟩,trivial⟩) ?_;refine Rg<|Dd aG<|Dd (fZ aC)<|Dd aG<|Zz<|aD ?_;refine QJ (fun(k g:Nat) (u:Bool)=>([(3,.ref 2001 0 0 0),(6,.pv (aS l)),(7,iv ((l.map encStr).length:Int)),(8,iv (k:Int))],uB g (aL (l.take k)) u)) (fun k g u=>k<=l.length) (fun k g u=>l.length - k) 0 0 false (aOM _) ?_ ?_
 ·exact(cD.wk (Ea<|Eb<|Eb<|Eb<|trivial) (Hc (fB rfl rfl)<|Hc (dO _ _)<|trivial) trivial)
 intro k g u hk;have hle:=yG l k;refine Sr<|Dd cP<|Zz<|Sq ?_;refine Cn ?_ ?_<;>intro hc1
 ·have hlt:k<l.length:=by have:=aNr hc1;omega
  obtain ⟨s,hs⟩:=aV hlt;have hi:=cA (f:=encStr) hs;have hle2:=yG l (k+1);rw[kY hs,rW,aNw,lV,nY]at hle2;have hsz:s.size<35184372088832:=by omega
  refine aF<|Sq<|aD<|Sr<|Dd (zV bT)<|Dd (kS isAgg9)<|Dd aM<|Zz<|Rg<|Dd aG<|Dd (nF underlying9)<|Dd (by exact aA rfl rfl nU rfl (rX (s.size:Int) (by omega) (by omega) _))<|Dd (by exact gJ rfl rfl rfl (by have:(⟨#[58]⟩:ByteArray).size=1:=rfl;omega) rfl)<|Dd aG<|Dd (by exact gJ rfl rfl rfl (by rw[ByteArray.size_append];have:(⟨#[58]⟩:ByteArray).size=1:=rfl;omega) rfl)<|Dd (by exact aA rfl rfl lQ rfl (gT g (aL (l.take k)) u (mP s) (by rw[nY];omega)))<|Zz<|Rg<|Dd qV<|Dd aG<|Zz ?_;refine⟨k+1,g+1,true,by omega,by omega,?_⟩;rw[kY hs,rW];exact(cD.wk (Ea<|Eb<|Eb<|Eb<|trivial) (Hc (fB rfl rfl)<|Hc (dO _ _)<|trivial) trivial)
 have hge:k=l.length:=by have:=aNs hc1;omega
 subst hge;rw[List.take_length];exact aY<|Sr<|Dd (by exact aA rfl rfl lP rfl (OL g (aL l) u (by omega)))<|Dd (by exact aA rfl rfl S3 rfl (TN ⟨(aL l).toArray⟩ _ (by show (aL l).toArray.size<_;rw[List.size_toArray];omega)))<|Dd aM<|Zz<|aE<|Rt<|Qq
theorem eR(s:ByteArray):(fA s).size=16:=by show (tN _).toArray.size=16;simp[tN]
def mY:ByteArray->Nat->ByteArray
 |t,0=>t
 |t,n+1=>mY (fA t) n
theorem FC:∀(a b:Nat) (t:ByteArray),mY (mY t a) b=mY t (a+b)
 |0,b,t=>by rw[aON];rfl
 |a+1,b,t=>by
  rw[show a+1+b=(a+b)+1 by omega];exact FC a b (fA t)
theorem qS(t:ByteArray)(n:Nat):mY t (n+1)=fA (mY t n):=by rw[<-FC n 1 t];rfl
theorem FB(h:t.size=16):∀n,(mY t n).size=16
 |0=>h
 |n+1=>by rw[qS,eR]
def QZ(m:ByteArray):Nat:=MC (N5 m.size) m.data.toList
def dJ(m:ByteArray):List Nat:=(List.range 16).map (FN (QZ m))
def oN(m:ByteArray):Nat:=((dJ m).map (15 - ·)).sum
def wU(m:ByteArray):List Nat:=dJ m++[oN m / 16,oN m % 16]
theorem vN(m:ByteArray):(dJ m).length=16:=by simp[dJ]
theorem sC(m:ByteArray):(wU m).length=18:=by simp[wU,dJ]
theorem J3:∀l:List Nat,(l.map (15 - ·)).sum<=15*l.length
 | []=>aOB _
 |a::r=>by
  have:=J3 r;simp only[List.map_cons,List.sum_cons,aNx];omega
theorem KF(m:ByteArray):oN m<=240:=by have:=J3 (dJ m);rw[vN]at this;exact this
theorem MD(m:ByteArray):∀d∈wU m,d<16:=by
 intro d hd;rcases List.mem_append.1 hd with h|h
 ·obtain ⟨j,_,rfl⟩:=List.mem_map.1 h;exact xY _ _
 have:=KF m;simp only[aOH,aOL,or_false]at h;rcases h with rfl|rfl<;>omega
def wG:ByteArray:=⟨#[110,111,100,101]⟩
def eL(s:ByteArray)(i k:Nat):ByteArray:=pB [s,bI (i:Int),bI (k:Int)]
def kD(s:ByteArray)(i:Nat):List ByteArray:=(List.range 18).map fun k=>mY (eL s i k) 15
def yD(s:ByteArray)(i:Nat):ByteArray:=pB (kD s i)
def fG(s:ByteArray)(h:Nat):List ByteArray:=(List.range (2 ^ h)).map (yD s)
def jD(a b:ByteArray):ByteArray:=pB [wG,a,b]
def zK:List ByteArray->List ByteArray
 |a::b::r=>jD a b::zK r
 |_=>[]
def OR:Nat->List ByteArray->ByteArray
 |0,l=>l.headD sNil
 |h+1,l=>OR h (zK l)
def gV:Nat->List ByteArray->Nat->List ByteArray
 |0,_,_=>[]
 |h+1,l,i=>l.getD (i ^^^ 1) sNil::gV h (zK l) (i / 2)
def oP(s:ByteArray)(h:Nat):ByteArray:=OR h (fG s h)
def B1(s:ByteArray)(i:Nat)(m:ByteArray):List ByteArray:=(List.range 18).map fun k=>mY (eL s i k) ((wU m).getD k 0)
def gX:ByteArray->List ByteArray->Nat->ByteArray
 |at',[],_=>at'
 |at',o::r,i=>gX (if i % 2=1 then jD o at' else jD at' o) r (i / 2)
def iQ(m:ByteArray)(l:List ByteArray):List ByteArray:=List.zipWith (fun s d=>mY s (15 - d)) l (wU m)
def U4(b:UInt8):Bool:=(48<=b&&b<=57)||(97<=b&&b<=102)
def isJ(t:ByteArray):Bool:=decide (t.size=16)&&t.data.toList.all U4
def sQ(key m:ByteArray)(i:Int)(l p:List ByteArray):Bool :=decide (l.length=18/\p.length<=8)&&l.all isJ&&p.all isJ&&decide (0<=i/\i<2 ^ p.length)&&decide (gX (pB (iQ m l)) p i.toNat=key)
theorem rO:∀(n:Nat) (l:List ByteArray),l.length=2*n->(zK l).length=n
 |0,[],_=>rfl
 |n+1,a::b::r,h=>by
  have:=rO n r (by simp only[aNx]at h;omega);rw[zK,aNx,this]
 |n+1,[a],h=>by simp only[aNx,List.length_nil]at h;omega
 |n+1,[],h=>by simp at h
 |0,a::r,h=>by simp at h
theorem DQ:∀(n:Nat) (l:List ByteArray) (k:Nat),l.length=2*n->k<n->(zK l).getD k sNil=jD (l.getD (2*k) sNil) (l.getD (2*k+1) sNil)
 |0,l,k,_,hk=>by omega
 |n+1,[],k,h,_=>by simp at h
 |n+1,[a],k,h,_=>by simp only[aNx,List.length_nil]at h;omega
 |n+1,a::b::r,0,h,_=>rfl
 |n+1,a::b::r,k+1,h,hk=>by
  have ih:=DQ n r k (by simp only[aNx]at h;omega) (by omega);rw[zK,show 2*(k+1)=2*k+1+1 by omega,List.getD_cons_succ,ih,List.getD_cons_succ,List.getD_cons_succ,List.getD_cons_succ,List.getD_cons_succ]
theorem IK(i:Nat):i ^^^ 1=if i % 2=1 then i - 1 else i+1:=by
 have h2:(i ^^^ 1) / 2=i / 2:=by
  rw[Nat.xor_div_two];simp
 have h3:(i ^^^ 1) % 2=(i % 2) ^^^ 1:=by
  have:=Nat.xor_mod_two_pow (a:=i) (b:=1) (n:=1)
  simpa using this
 have h4:(i ^^^ 1) % 2=1 - i % 2:=by
  rw[h3];have:i % 2=0\/i % 2=1:=by omega
  rcases this with h|h<;>rw[h]<;>rfl
 split
 ·omega
 omega
theorem BU:∀(h:Nat) (l:List ByteArray) (i:Nat),l.length=2 ^ h->i<2 ^ h->gX (l.getD i sNil) (gV h l i) i=OR h l
 |0,l,i,hl,hi=>by
  have:i=0:=by simpa using hi
  subst this;rw[gV,gX,OR];cases l<;>rfl
 | h+1,l,i,hl,hi=>by
  have hl2:l.length=2*2 ^ h:=by rw[hl,Nat.pow_succ,Nat.mul_comm]
  have hi2:i / 2<2 ^ h:=by rw[Nat.pow_succ]at hi;omega
  have ih:=BU h (zK l) (i / 2) (rO _ _ hl2) hi2;rw[gV,gX,OR,<-ih,DQ _ _ _ hl2 hi2,IK];congr 1
  split
  ·next h1 =>
   rw[show 2*(i / 2)=i - 1 by omega,show i - 1+1=i by omega]
  next h1 =>
  rw[show 2*(i / 2)=i by omega]
theorem sJ:∀(h:Nat) (l:List ByteArray) (i:Nat),(gV h l i).length=h
 |0,_,_=>rfl
 |h+1,l,i=>by rw[gV,aNx,sJ h]
theorem mH(s:ByteArray)(h:Nat):(fG s h).length=2 ^ h:=by simp[fG]
theorem BQ(s:ByteArray)(hi:i<2 ^ h):(fG s h).getD i sNil=yD s i:=by rw[List.getD_eq_getElem?_getD,fG,aOP,List.getElem?_range hi];rfl
theorem oD{l:List α}{d:α}(h:k<l.length):l.getD k d∈l:=by rw[List.getD_eq_getElem?_getD,aOA h];exact List.getElem_mem h
theorem aEe(s:ByteArray)(i:Nat)(m:ByteArray):iQ m (B1 s i m)=kD s i:=by
 apply List.ext_getElem?;intro k;rw[iQ,List.getElem?_zipWith,B1,kD,aOP,aOP];by_cases hk:k<18
 ·have hk2:k<(wU m).length:=by rw[sC];exact hk
  have hlt:=MD m _ (oD (d:=0) hk2);have h4:(wU m)[k]?=some ((wU m).getD k 0):=by
   rw[List.getD_eq_getElem?_getD,aOA hk2];rfl
  rw[List.getElem?_range hk,h4];show some (mY (mY (eL s i k) ((wU m).getD k 0)) (15 - (wU m).getD k 0))=some (mY (eL s i k) 15);rw[FC,show (wU m).getD k 0+(15 - (wU m).getD k 0)=15 by omega]
 rw[List.getElem?_eq_none (by simp;omega)];rfl
theorem aE0(h:n<16):U4 (UInt8.ofNat (nM n).toNat)=true:=by revert h;revert n;decide
theorem JC(s:ByteArray):isJ (fA s)=true:=by rw[isJ,aOE,aOC];refine⟨eR s,?_⟩;rw[List.all_eq_true];intro b hb;obtain ⟨j,_,rfl⟩:=List.mem_map.1 (show b∈(List.range 16).map _ from by simpa[fA,tN]using hb);exact aE0 (xY _ _)
theorem aJd(h:isJ t=true):∀n,isJ (mY t n)=true
 |0=>h
 |n+1=>by rw[qS];exact JC _
theorem jN(h:isJ t=true):t.size=16:=by rw[isJ,aOE,aOC]at h;exact h.1
theorem TW(s:ByteArray)(i:Nat)(m:ByteArray):∀t∈B1 s i m,isJ t=true:=by intro t ht;obtain ⟨k,_,rfl⟩:=List.mem_map.1 ht;exact aJd (JC _) _
theorem DX(s:ByteArray)(i:Nat)(m:ByteArray):(B1 s i m).length=18:=by simp[B1]
theorem DR:∀(n:Nat) (l:List ByteArray),l.length<=n->∀t∈zK l,isJ t=true
 |_,[],_,t,ht=>by simp[zK]at ht
 |_,[a],_,t,ht=>by simp[zK]at ht
 |0,a::b::r,h,t,ht=>by simp at h
 |n+1,a::b::r,h,t,ht=>by
  rw[zK]at ht;rcases aOH.1 ht with rfl|ht
  ·exact JC _
  exact DR n r (by simp only[aNx]at h;omega) t ht
theorem BH:∀(h:Nat) (l:List ByteArray) (i:Nat),l.length=2 ^ h->i<2 ^ h->(∀t∈l,isJ t=true)->∀t∈gV h l i,isJ t=true
 |0,_,_,_,_,_,t,ht=>by simp[gV]at ht
 | h+1,l,i,hl,hi,ha,t,ht=>by
  have hl2:l.length=2*2 ^ h:=by rw[hl,Nat.pow_succ,Nat.mul_comm]
  rw[gV]at ht;rcases aOH.1 ht with rfl|ht
  ·refine ha _ (oD ?_);rw[IK];rw[Nat.pow_succ]at hi
   split<;>omega
  exact BH h (zK l) (i / 2) (rO _ _ hl2) (by rw[Nat.pow_succ]at hi;omega) (DR _ _ (aOB _)) t ht
theorem sL(s:ByteArray)(h:Nat):∀t∈fG s h,isJ t=true:=by intro t ht;obtain ⟨k,_,rfl⟩:=List.mem_map.1 ht;exact JC _
theorem aCh(s m:ByteArray)(hh:h<=8)(hi:i<2 ^ h):sQ (oP s h) m (i:Int) (B1 s i m) (gV h (fG s h) i)=true:=by
 have h1:=BU h (fG s h) i (mH s h) hi;rw[BQ s hi,yD,<-aEe s i m]at h1;rw[sQ,sJ,DX,List.all_eq_true.2 (TW s i m),List.all_eq_true.2 (BH h _ i (mH s h) hi (sL s h)),aOG,h1];have hi2:(i:Int)<2 ^ h:=by exact_mod_cast hi
 simp[hh,oP,hi2]
def bP(l:List ByteArray):List (List AV):=l.map fun s=>[.pv (.str s)]
theorem cT(l:List ByteArray):(bP l).length=l.length:=aNv _
theorem kX(l:List ByteArray)(s:ByteArray):bP l++[[.pv (.str s)]]=bP (l++[s]):=by rw[bP,bP,List.map_append];rfl
theorem aU(H:aB)(l:List ByteArray):∀r∈bP l,∀a∈r,Clo H a:=by intro r hr a ha;obtain ⟨b,_,rfl⟩:=List.mem_map.1 hr;rw[aNy]at ha;subst ha;simp
theorem dR(l:List ByteArray):bP l=(l.map encStr).map (·.map .pv):=by rw[List.map_map];rfl
def jP(t:GTag):ByteArray:=t.key++⟨#[61]⟩++⟨(eC t.val.data.toList).toArray⟩
def wK(L:List ByteArray):aB:=[(903,⟨L.length,1,9,bP L⟩),(4,bx 1 22 [.osl 903 L.length 0 L.length])]
theorem aIc(L:List ByteArray)(s:ByteArray):wK (L++[s])=[(903,⟨L.length+1,1,9,bP (L++[s])⟩),(4,bx 1 22 [.osl 903 (L.length+1) 0 (L.length+1)])]:=by simp[wK]
theorem xQ(s:ByteArray):(⟨(eC s.data.toList).toArray⟩:ByteArray).size<=2*s.size+2:=by
 show (eC s.data.toList).length<=_;have:=VE s.data.toList;have h:s.data.toList.length=s.size:=by simp
 rw[eC,aNx,aNw,List.length_singleton];omega
theorem aAT{a b a' b':Ob}(h:(aB.get [(i,a),(j,b)] id).isSome=true):(aB.get [(i,a'),(j,b')] id).isSome=true:=by
 simp only[aB.get]at h |-;cases e1:Nat.beq i id with
 |true=>rfl
 |false =>
  rw[e1]at h;cases e2:Nat.beq j id with
  |true=>rfl
  |false=>rw[e2]at h;exact h
theorem aFv(t:GTag)(L:List ByteArray)(hk:t.key.size<1099511627776)(hv:t.val.size<1099511627776)(hL:L.length<1099511627776):
  aH Tryz.prog 265 [av (bJ t),.ref 4 0 0 0] (wK L) (fun r H'=>r=.tup []/\H'=wK (L++[jP t])):=by
 rw[aIc];have hq:=xQ t.val;have h61:(⟨#[61]⟩:ByteArray).size=1:=rfl;have hks:(t.key++⟨#[61]⟩:ByteArray).size=t.key.size+1:=by rw[ByteArray.size_append];rfl
 refine Bd func265 rfl ntmps265<|Sr<|Dd (by exact cE (id:=2) rfl rfl rfl rfl rfl)<|Zz<|aP follows<|Cr [4] (fun _ h=>lh aJ h)<|Cr [2] (fun _ h=>fh EX h)<|Cr [2] (fun _ h=>lh isAgg9 h)<|Cr [] (fun H1 hH=>by exact gJ rfl rfl rfl (by omega) rfl)<|Cr [2] (fun _ h=>fh JE h)<|Cr [2] (fun _ h=>lh isAgg9 h)<|Cr [] (fun H1 hH=>by exact aA rfl rfl call203 rfl (aAC t.val _ (by omega)))<|Cr [] (fun H1 hH=>by exact gJ rfl rfl rfl (by omega) rfl)<|Cr [] (fun H1 hH=>by exact aQ [[.str (jP t)]] rfl bT rfl rfl rfl rfl rfl (by intro r hr;rw[aNy]at hr;subst hr;rfl))<|Cp [903] (fun H1 hH=>by exact cF (ps:=[[.str (jP t)]]) rfl bT CH rfl ((hH _ rfl).trans rfl) rfl rfl rfl (cT L) rfl (by intro r hr;rw[aNy]at hr;subst hr;rfl) (m:=1) rfl (by omega) rfl (kX L (jP t))) ?_;refine Cp [4] (fun H1 hH=>by exact bX rfl sizeOf22 rfl rfl rfl rfl ((hH _ rfl).trans rfl) rfl rfl rfl)<|bK<|Kr ?_;exact qU (H':=[(903,⟨L.length+1,1,9,bP (L++[jP t])⟩),(4,bx 1 22 [.osl 903 (L.length+1) 0 (L.length+1)])]) (.inl rfl) rfl (Fin.wk (by(simp;done)) (Hc (aU _ _)<|Ha<|trivial) ⟨rfl,rfl,trivial⟩) ⟨rfl,rfl⟩
def HV(l:List GTag):ByteArray:=⟨(cM [32] (bs (l.map jP))).toArray⟩
def gM(l:List GTag):ByteArray×Int:=if zD l then(if 20000<(HV l).size then(sNil,2)else(HV l,0))else(sNil,1)
theorem aBd{t:GTag}(hk:t.key.size<=24)(hv:t.val.size<=200):(jP t).size<=427:=by have hq:=xQ t.val;have h61:(⟨#[61]⟩:ByteArray).size=1:=rfl;rw[jP,ByteArray.size_append,ByteArray.size_append,h61];omega
theorem eQ(h:bO s=true):s.size<=24:=by rw[bO,aOE,aOE,aOC]at h;omega
theorem qK(h:∀s,s∈l->s.size<=n):dA l<=n*l.length:=by
 induction l with
 |nil=>exact aOM _
 |cons a l ih =>
  rw[dA,List.map_cons,List.sum_cons,aNx,Nat.mul_succ];have h1:=h a List.mem_cons_self;have h2:=ih (fun s hs=>h s (List.mem_cons_of_mem _ hs));rw[dA]at h2;omega
theorem aLg{L:List ByteArray}{K:aB}{r:ByteArray}(h:aH Tryz.prog 158 [.pv (aS L),sv ⟨#[32]⟩] [] (fun x H'=>x=sv r/\H'=[])):aH Tryz.prog 158 [.osl 903 L.length 0 L.length,sv ⟨#[32]⟩] ((903,⟨L.length,1,9,bP L⟩)::K) (fun x H'=>x=sv r/\H'=(903,⟨L.length,1,9,bP L⟩)::K):=by
 exact RO.calls (RO.lend (id:=903) (H1:=[]) (L.map encStr) (RO.of h rfl) (get_cons_same _ _ _) (dR L) rfl
  (cG (.osl (by rw[aON,List.drop_zero,List.take_of_length_le (by rw[aNv];exact aOB _)])) (cG (.same (by simp)) nO)) (fun _ _ h=>by cases h) (fun _ _ h=>by cases h) rfl)
theorem OI(l:List GTag)(H:aB)(hl:KU l):aH Tryz.prog 235 [.pv (sT l)] H (fun r H'=>r=.tup [sv (gM l).1,iv (gM l).2]/\H'=H):=by
 refine Pu ?_;have hml:(l.map bJ).length=l.length:=aNv _;refine Bd func235 rfl ntmps235<|Sr<|Dd aM<|Dd aM<|Zz<|Sq<|Sr<|Dd aG<|Dd (by exact aA rfl rfl aCZ rfl (xI l _ hl))<|Dd mT<|Zz ?_;refine Cn ?_ ?_<;>intro hc1
 ·have hg:zD l=false:=by rw[<-aOO];exact hc1
  have e:gM l=(sNil,1):=by rw[gM,aNt (by rw[hg];decide)]
  rw[e];exact Sr<|Dd aM<|Dd aM<|Zz<|aE<|Ru<|Qq
 have hg:zD l=true:=by rw[<-Bool.not_eq_false'];exact hc1
 obtain ⟨g1,g2,g3⟩:=BT.1 hg;refine aF<|Sr<|Dd (by exact bM (id:=4) rfl aC9 rfl rfl)<|Zz<|Sr<|Dd (by exact fO rfl rfl)<|Dd aM<|Zz<|Sq<|Sq ?_;refine fL.ent (E':=[(0,.pv (sT l)),(4,.ref 4 0 0 0),(5,.clo 265 [.ref 4 0 0 0])]) (H':=wK []) (cD.nz 903 1 9 rfl rfl ⟨⟨_,rfl,(by exact Nz.same (by(simp;done)))⟩,⟨_,rfl,(by exact Nz.same (by(simp;rfl)))⟩,⟨_,rfl,(by exact Nz.same (by(simp;rfl)))⟩,trivial⟩ ⟨⟨_,rfl,rfl,rfl,rfl,(by exact .inr ⟨_,_,rfl,rfl,(by repeat(first|exact trivial|refine⟨(by exact Nz.own),?_⟩))⟩)⟩,trivial⟩ trivial) ?_;refine Rg<|Dd aG<|Dd (fZ cQ)<|Dd aG<|Zz<|aD ?_;refine bL (σ:=Nat) (fun k=>([(4,.ref 4 0 0 0),(5,.clo 265 [.ref 4 0 0 0]),(13,.pv (sT l)),(14,iv ((l.map bJ).length:Int)),(15,iv (k:Int))],wK ((l.take k).map jP))) (fun k=>k<=l.length) (fun k=>l.length - k) 0 (aOM _) ?_ ?_
 ·exact(cD.wk (Ea<|Ea<|Eb<|Eb<|Eb<|trivial) (Hc (aU _ _)<|Ha<|trivial) trivial)
 intro k hk;refine Sr<|Dd cP<|Zz<|Sq ?_;refine Cn ?_ ?_<;>intro hc2
 ·have hlt:k<l.length:=by have:=aNr hc2;omega
  obtain ⟨t,ht⟩:=aV hlt;have hi:=cA (f:=bJ) ht;obtain ⟨b1,b2,b3⟩:=g1 t (aOF ht);have b4:=eQ b1;have hLl:((l.take k).map jP).length<1099511627776:=by rw[aNv,aOJ];omega
  have hnx:(l.take (k+1)).map jP=(l.take k).map jP++[jP t]:=by rw[List.take_add_one,ht,List.map_append];rfl
  refine aF<|Sq<|aD<|Sr<|Dd (by exact aT rfl yX rfl rfl (by omega) (by exact aOG _) hi rfl)<|Dd (by exact cU rfl sG iR rfl hi (by simp only[Zl,bJ];rfl) rfl)<|Dd (by exact bM (id:=7) rfl aHy rfl rfl)<|Uu (kG iR)<|Zz<|Rg<|Dd aG<|Dd (rC sG iR)<|Dd (by exact cC rfl rfl rfl (cK.clo call265 (aH.frame (aFv t ((l.take k).map jP) (by omega) (by omega) hLl) (NA.sub ⟨rfl,rfl,trivial⟩) (dF.ofL ⟨(by exact aU _ _),(by(simp;rfl)),trivial⟩) (by simp;rfl) (fun id h=>.inl (aAT h)))))<|Zz<|Rg<|Dd qV<|Dd aG<|Zz ?_;refine⟨k+1,by omega,by omega,?_⟩;show cD _ _ _ _ (wK ((l.take (k+1)).map jP));rw[hnx];exact(cD.wk (Ea<|Ea<|Eb<|Eb<|Eb<|trivial) (Hc (aU _ _)<|Ha<|trivial) trivial)
 have hge:k=l.length:=by have:=aNs hc2;omega
 subst hge;have hsb:dA (l.map jP)<=427*l.length:=by
  have:=qK (l:=l.map jP) (n:=427) (fun s hs=>by
   obtain ⟨t,ht,rfl⟩:=List.mem_map.1 hs;obtain ⟨b1,b2,b3⟩:=g1 t ht;exact aBd (eQ b1) b3)
  rwa [aNv]at this
 have hj:aH Tryz.prog 158 [.pv (aS (l.map jP)),sv ⟨#[32]⟩] [] (fun x H'=>x=sv (HV l)/\H'=[]):=rV (l.map jP) ⟨#[32]⟩ [] (by decide) (by rw[aNv];show 1*_+_+_<_;omega);have hj2:=aLg (L:=l.map jP) (K:=[(4,bx 1 22 [.osl 903 (l.map jP).length 0 (l.map jP).length])]) hj;rw[List.take_length];refine aY<|Sr<|Dd (bQ aJ)<|Dd (by exact aA rfl rfl nT rfl (hj2))<|Dd aM<|Zz<|Sq<|Sr<|Dd aG<|Dd (nF underlying9)<|Dd mN<|Zz ?_;refine Cn ?_ ?_<;>intro hc3
 ·have e:gM l=(sNil,2):=by
   rw[gM,aNu hg,aNu (by have:=aNr hc3;omega)]
  rw[e];exact Sr<|Dd aM<|Dd aM<|Zz<|aE<|Ru<|Qq
 have e:gM l=(HV l,0):=by
  rw[gM,aNu hg,aNt (by have:=aNs hc3;omega)]
 rw[e];exact aF<|Sr<|Dd aG<|Dd aM<|Dd aM<|Zz<|aE<|Ru<|Qq
theorem aCD(h:t.size<1099511627776):∀n,(mY t n).size<1099511627776
 |0=>h
 |n+1=>by rw[qS,eR];decide
theorem SL(t:ByteArray)(n:Nat)(H:aB)(ht:t.size<1099511627776)(hn:n<1000):aH Tryz.prog 93 [sv t,iv (n:Int)] H (fun r H'=>r=sv (mY t n)/\H'=H):=by
 refine Pu ?_;refine Bd func93 rfl ntmps93<|Sr<|Dd aM<|Zz<|Sq<|Sr<|Dd aG<|Dd aG<|Zz<|aD ?_;refine bL (σ:=Nat) (fun k=>([(0,sv (mY t k)),(5,iv (n:Int)),(6,iv (k:Int))],[])) (fun k=>k<=n) (fun k=>n - k) 0 (aOM _) ?_ ?_
 ·exact Wk
 intro k hk;have hsum:=fun H=>TN (mY t k) H (by have:=aCD ht k;omega);rw[<-qS]at hsum;refine Sr<|Dd cP<|Zz<|Sq ?_;refine Cn ?_ ?_<;>intro hc1
 ·have hlt:k<n:=by have:=aNr hc1;omega
  refine aF<|Sq<|aD<|Rg<|Dd aG<|Dd (by exact aA rfl rfl S3 rfl (hsum _))<|Dd aM<|Zz<|Rg<|Dd (by exact bG rfl rfl rfl (show IntKind.i64.wrap ((k:Int)+1)=((k+1:Nat):Int)by rw[iY (by omega) (by omega)];omega))<|Dd aG<|Zz ?_;exact⟨k+1,by omega,by omega,Wk⟩
 have hge:k=n:=by have:=aNs hc1;omega
 subst hge;exact aY<|Sr<|Dd aG<|Dd aM<|Zz<|aE<|Rt<|Qq
theorem UP(l:List ByteArray)(H:aB)(hl:(aL l).length<35184372088832):aH Tryz.prog 94 [.pv (aS l)] H (fun r H'=>r=sv (pB l)/\H'=H):=by refine Pu ?_;exact Bd func94 rfl ntmps94<|Sr<|Dd aM<|Zz<|Sr<|Dd aG<|Dd (by exact aA rfl rfl call130 rfl (aEF l _ hl))<|Dd aM<|Zz<|aE<|Rt<|Qq
theorem aAU(a b c:ByteArray):(aL [a,b,c]).length=(mP a).size+(mP b).size+(mP c).size:=by simp[aL,lV];omega
theorem CY(n:Nat)(h:n<1099511627776):(bI (n:Int)).size<=21:=iC (by omega) (by omega)
theorem lW(h:s.size<1099511627776):(mP s).size<=s.size+22:=by have:=CY s.size h;rw[nY];omega
theorem Z0(s:ByteArray)(i k:Nat)(H:aB)(hs:s.size<1099511627776)(hi:i<1099511627776)(hk:k<1099511627776):aH Tryz.prog 96 [sv s,iv (i:Int),iv (k:Int)] H (fun r H'=>r=sv (eL s i k)/\H'=H):=by
 refine Pu ?_;have h1:=CY i hi;have h2:=CY k hk;have hj:(aL [s,bI (i:Int),bI (k:Int)]).length<35184372088832:=by
  have e1:=lW hs;have e2:=lW (s:=bI (i:Int)) (by omega);have e3:=lW (s:=bI (k:Int)) (by omega);rw[aAU];omega
 exact Bd func96 rfl ntmps96<|Sr<|Dd aM<|Zz<|Sr<|Dd aG<|Dd aG<|Dd (by exact aA rfl rfl nU rfl (rX (i:Int) (by omega) (by omega) _))<|Dd aG<|Dd (by exact aA rfl rfl nU rfl (rX (k:Int) (by omega) (by omega) _))<|Dd (by exact aQ [[.str s],[.str (bI (i:Int))],[.str (bI (k:Int))]] rfl bT rfl rfl rfl rfl rfl (by intro r hr;simp only[aOH,aOL,or_false]at hr;rcases hr with rfl|rfl|rfl<;>rfl))<|Dd (by exact aA rfl rfl S0 rfl (UP [s,bI (i:Int),bI (k:Int)] _ hj))<|Dd aM<|Zz<|aE<|Rt<|Qq
theorem aAK(a b:ByteArray)(back:Bool)(H:aB)(ha:a.size<1099511627776)(hb:b.size<1099511627776):aH Tryz.prog 95 [sv a,sv b,bv back] H (fun r H'=>r=sv (if back=true then jD b a else jD a b)/\H'=H):=by
 refine Pu ?_;have hj:∀x y:ByteArray,x.size<1099511627776->y.size<1099511627776->(aL [wG,x,y]).length<35184372088832:=by
  intro x y hx hy;have e1:=lW (s:=wG) (by decide);have e2:=lW hx;have e3:=lW hy;have e4:wG.size=4:=rfl;rw[aAU];omega
 refine Bd func95 rfl ntmps95<|Sr<|Dd aM<|Zz<|Sq<|Sr<|Dd aG<|Zz ?_;refine Cn ?_ ?_<;>intro hc1
 ·subst hc1;exact Rg<|Dd aG<|Dd aG<|Dd aM<|Dd aM<|Zz<|Sr<|Dd aG<|Dd aG<|Dd (by exact aQ [[.str wG],[.str b],[.str a]] rfl bT rfl rfl rfl rfl rfl (by intro r hr;simp only[aOH,aOL,or_false]at hr;rcases hr with rfl|rfl|rfl<;>rfl))<|Dd (by exact aA rfl rfl S0 rfl (UP [wG,b,a] _ (hj b a hb ha)))<|Dd aM<|Zz<|aE<|Rt<|Qq
 subst hc1;exact aF<|Sr<|Dd aG<|Dd aG<|Dd (by exact aQ [[.str wG],[.str a],[.str b]] rfl bT rfl rfl rfl rfl rfl (by intro r hr;simp only[aOH,aOL,or_false]at hr;rcases hr with rfl|rfl|rfl<;>rfl))<|Dd (by exact aA rfl rfl S0 rfl (UP [wG,a,b] _ (hj a b ha hb)))<|Dd aM<|Zz<|aE<|Rt<|Qq
def CG(s:ByteArray)(i k:Nat):List ByteArray:=(List.range k).map fun k=>mY (eL s i k) 15
theorem LX(s:ByteArray)(i k:Nat):CG s i (k+1)=CG s i k++[mY (eL s i k) 15]:=by rw[CG,List.range_succ,List.map_append];rfl
theorem GS(s:ByteArray)(i k:Nat):(CG s i k).length=k:=by simp[CG]
theorem qH(s:ByteArray)(i k:Nat):(eL s i k).size=16:=eR _
theorem yE{b:Nat}(hb:b<1099511627776):∀(l:List ByteArray),(∀s∈l,s.size<=b)->(aL l).length<=(b+22)*l.length
 | [],_=>aOB _
 |s::r,h=>by
  have ih:=yE hb r (fun x hx=>h x (List.mem_cons_of_mem _ hx));have hs:=h s List.mem_cons_self;have e:aL (s::r)=(mP s).data.toList++aL r:=by rw[aL,List.flatMap_cons];rfl
  have h2:=lW (s:=s) (by omega);rw[e,aNw,aNx,lV,Nat.mul_add,Nat.mul_one];omega
theorem aCC(t:ByteArray)(H:aB)(ht:t.size<1099511627776):aH Tryz.prog 93 [sv t,iv 15] H (fun r H'=>r=sv (mY t 15)/\H'=H):=SL t 15 H ht (by decide)
theorem aJc(s:ByteArray)(i:Nat)(H:aB)(hs:s.size<1099511627776)(hi:i<1099511627776):aH Tryz.prog 136 [sv s,iv (i:Int)] H (fun r H'=>r=sv (yD s i)/\H'=H):=by
 refine Pu ?_;refine Bd func136 rfl ntmps136<|Sr<|Dd aM<|Zz<|Sr<|Dd (by exact eE (id:=905) (sz:=1) (ty:=9) rfl rfl rfl)<|Zz<|Sq<|Sr<|Dd aG<|Zz<|aD ?_;refine bL (σ:=Nat) (fun k=>([(0,sv s),(1,iv (i:Int)),(5,.osl 905 k 0 k),(7,iv (k:Int))],[(905,⟨k,1,9,bP (CG s i k)⟩)])) (fun k=>k<=18) (fun k=>18 - k) 0 (aOM _) ?_ ?_
 ·exact(cD.wk (Eb<|Eb<|Ea<|Eb<|trivial) (Hc (aU _ _)<|trivial) trivial)
 intro k hk;have hln:=GS s i k;have hnx:=LX s i k;refine Sr<|Dd cP<|Zz<|Sq ?_;refine Cn ?_ ?_<;>intro hc1
 ·have hlt:k<18:=by have:=aNr hc1;omega
  refine aF<|Sq<|aD<|Sr<|Dd aG<|Dd aM<|Zz<|Rg<|Dd aG<|Dd aG<|Dd aG<|Dd aG<|Dd (by exact aA rfl rfl call96 rfl (Z0 s i k _ hs hi (by omega)))<|Dd (by exact aA rfl rfl aNe rfl (aCC (eL s i k) _ (by rw[qH];decide)))<|Dd (by exact aQ [[.str (mY (eL s i k) 15)]] rfl bT rfl rfl rfl rfl rfl (by intro r hr;rw[aNy]at hr;subst hr;rfl))<|Dd (by exact cF (ps:=[[.str (mY (eL s i k) 15)]]) rfl bT CH rfl rfl rfl rfl rfl (by rw[cT,hln]) rfl (by intro r hr;rw[aNy]at hr;subst hr;rfl) (m:=1) rfl (by omega) rfl (kX _ (mY (eL s i k) 15)))<|Dd aM<|Zz<|Rg<|Dd (by exact bG rfl rfl rfl (show IntKind.i64.wrap ((k:Int)+1)=((k+1:Nat):Int)by rw[iY (by omega) (by omega)];omega))<|Dd aG<|Zz ?_;refine⟨k+1,by omega,by omega,?_⟩;dsimp only;rw[hnx];exact(cD.wk (Eb<|Eb<|Ea<|Eb<|trivial) (Hc (aU _ _)<|trivial) trivial)
 have hge:k=18:=by have:=aNs hc1;omega
 subst hge;refine aY<|Sq ?_;refine fL.ent (cD.fz (id:=905) (E':=[(5,.pv (aS (kD s i)))]) (H':=[]) ((kD s i).map encStr) rfl (dR _)
  (by intro p hp;simp only[aOH,aOL,or_false]at hp;subst hp;exact⟨_,rfl,.osl (by rw[aON,List.drop_zero];rfl)⟩) rfl trivial trivial) ?_
 exact Rg<|Dd aG<|Dd (by exact aA rfl rfl S0 rfl (UP (kD s i) _ (by have h:=yE (b:=16) (by decide) (kD s i) (fun x hx=>by obtain ⟨k,_,rfl⟩:=List.mem_map.1 hx;exact Nat.le_of_eq (FB (qH s i k) 15));rw[show (kD s i).length=18 from GS s i 18]at h;omega)))<|Dd aM<|Zz<|aE<|Rt<|Qq
end Go.Proofs.YtmdicgjnmfolfaaGreatDoor
namespace Go.Abs
variable{P:Program}{id p p2 N:Nat}{assign body:Code}
theorem ZM{x:Go.Loop}{E0:bS}{a a2:AV}{K:aB}{Q:AV->aB->Prop}(E2:bS)(K2:aB)(hx1:x.state=.ready)(hx2:x.pending=none)(hp:x.params=#[p,p2])(hN:x.tmps.size=N)(hxa:x.assign=assign)(hxb:x.body=body)(hpN:Nat.blt p N=true)(hpN2:Nat.blt p2 N=true)(hpp:Nat.beq p p2=false)
  (hok:gK assign=true) (hok2:gK body=true)
  (h1:fL P ((id,LR x E0)::K) N assign (xA (fun E1 H1=>cD ((id,LR x E0)::K) E1 H1 E2 ((id,LR x E0)::K2)) (fun _ _ _=>False)) ((p2,a2)::(p,a)::E0) ((id,LR x E0)::K))
  (h2:fL P ((id,LR x E0)::K) N body (aFW ((id,LR x E0)::K) id x E0 Q) E2 ((id,LR (busy x) E0)::K2)):DH P id 0 [a,a2] ((id,LR x E0)::K) Q:=by
 subst hxa hxb;have hpN:p<N:=by simpa[Nat.blt_eq]using hpN
 have hpN2:p2<N:=by simpa[Nat.blt_eq]using hpN2
 have hpp:p≠p2:=fun e=>by subst e;rw[kW]at hpp;cases hpp
 intro I ι w vs v hr hv hl hvs;obtain ⟨b,e1,e2,e3,e4,e5⟩:=aDR hr (eY _ _ _) hv;obtain ⟨u,u2,rfl⟩:∃u u2,vs=#[u,u2]:=by
  match vs,hl with
  |⟨[u,u2]⟩,_=>exact⟨u,u2,rfl⟩
 have hu:=hvs 0 u a rfl rfl;have hu2:=hvs 1 u2 a2 rfl rfl;refine⟨b,x.fn,_,x.assign,x.body,e2,run_yield e3 (by rw[hp];rfl),?_⟩;refine roundIn_of_wpIn (F:=Fence.wide) trivial ?_;have hG:(⟨I,ι,(id,LR x E0)::K,w,[]⟩:Entry).H=(id,LR x E0)::K:=rfl;have hst:St ⟨I,ι,(id,LR x E0)::K,w,[]⟩ N ((p2,a2)::(p,a)::E0) ((id,LR x E0)::K) {tmps:=(x.params.zip #[u,u2]).foldl (fun tmps (t,a)=>tmps.setIfInBounds t a) x.tmps,defers:=[]} w:=by
  have ht:(x.params.zip #[u,u2]).foldl (fun tmps (t,a)=>tmps.setIfInBounds t a) x.tmps=(x.tmps.setIfInBounds p u).setIfInBounds p2 u2:=by rw[hp];simp
  rw[ht];refine⟨pF.nil _ _ _,by simp[hN],I,ι,hr,Step.refl _ _ _ _,fun t y hy=>?_⟩;by_cases e2:p2=t
  ·subst e2;rw[bS.get_cons_same]at hy;cases hy;exact⟨u2,by simp[hN,hpN2],hu2⟩
  rw[bS.get_cons_other _ _ e2]at hy;by_cases e:p=t
  ·subst e;rw[bS.get_cons_same]at hy;cases hy;exact⟨u,by show ((x.tmps.setIfInBounds p u).setIfInBounds p2 u2)[p]?=some u;rw[Array.getElem?_setIfInBounds_ne e2];simp[hN,hpN],hu⟩
  rw[bS.get_cons_other _ _ e]at hy;obtain ⟨i,hi⟩:=aOQ.1 (fR hy);obtain ⟨c,c1,c2⟩:=e5 i t y (by rw[aOP,hi];rfl) (by rw[aOP,hi];rfl);exact⟨c,by show ((x.tmps.setIfInBounds p u).setIfInBounds p2 u2)[t]?=some c;rw[Array.getElem?_setIfInBounds_ne e2,Array.getElem?_setIfInBounds_ne e];exact c1,c2⟩
 refine wpIn_mono (h1 _ hG _ w hst (some b) (.inr hok)) ?_;rintro e a1 w1 ⟨E1,H1,q,hs1⟩;cases e with
 | normal =>
  have hs2:=q _ hG N a1 w1 hs1;obtain ⟨I1,ι1,hr1,hst1,he1⟩:=hs2.rel;have hι1:=pK hst1 (eY _ _ _) e1 (eY _ _ _);have hb1:=qL hr1 (eY _ _ _) hι1;obtain ⟨k1,k2⟩:=hr1.setRec (y:=busy x) (H':=(id,LR (busy x) E0)::K2) (eY _ _ _) hι1 rfl (eY _ _ _) (fun j hj=>wR _ _ _ hj);refine⟨_,run_beginRound hb1 hx1,?_⟩;have hs3:St ⟨I,ι,(id,LR x E0)::K,w,[]⟩ N E2 ((id,LR (busy x) E0)::K2) a1 (w1.putObj b (.loop (busy x))) :=
   ⟨hs2.defers.step hr1 k2,hs2.size,I1,ι1,k1,hst1.trans k2,fun t y hy=>let ⟨c,c1,c2⟩:=he1 t y hy;⟨c,c1,c2.mono hr1 k2⟩⟩
  refine wpIn_mono (h2 _ hG a1 _ hs3 (some b) (.inr hok2)) ?_;rintro e a2 w3 ⟨E3,H3,q3,hs4⟩;have fin:∀(jump:Option Code) (y:Go.Loop) (K3:aB),y={busy x with state:=if jump.isNone then .ready else .done,pending:=jump}->cD ((id,LR x E0)::K) E3 H3 [] ((id,LR (busy x) E0)::K3)->Q (.pv (.bool jump.isNone)) ((id,LR y E0)::K3) ->
    ∃v w',(Instr.endRound b jump).run P w3=.ok v w'/\∃r H' I' ι' v',Ending.returned v=.returned v'/\Q r H'/\VRel w' I' ι' H' v' r/\Rel I' ι' H' w'/\Step I ι ((id,LR x E0)::K) w I' ι' H' w':=by
   intro jump y K3 hy hent hQ;have hs5:=hent _ hG N a2 w3 hs4;obtain ⟨I5,ι5,hr5,hst5,_⟩:=hs5.rel;have hι5:=pK hst5 (eY _ _ _) e1 (eY _ _ _);have hb5:=qL hr5 (eY _ _ _) hι5;obtain ⟨z1,z2⟩:=hr5.setRec (y:=y) (H':=(id,LR y E0)::K3) (eY _ _ _) hι5 (by rw[hy]) (eY _ _ _) (fun j hj=>wR _ _ _ hj);refine⟨_,_,run_endRound jump hb5,_,_,I5,ι5,_,rfl,hQ,.pv (.bool _),?_,?_⟩
   ·rw[<-hy];exact z1
   rw[<-hy];exact hst5.trans z2
  cases e with
  |normal =>
   obtain ⟨K3,hent,hQ⟩:=q3;refine fin none x K3 ?_ hent hQ;obtain ⟨st,pe,fn,tm,pa,ax,bo,de⟩:=x;simp only at hx1 hx2;subst hx1 hx2;rfl
  |ret =>
   obtain ⟨K3,hent,hQ⟩:=q3;exact fin (some .ret) (left x .ret) K3 rfl hent hQ
  |exit j =>
   obtain ⟨K3,hent,hQ⟩:=q3;exact fin (some (.exit j)) (left x (.exit j)) K3 rfl hent hQ
  |goto l=>exact q3.elim
  |panic ch=>exact q3.elim
  |outgrown=>exact q3.elim
 |exit j=>exact q.elim
 |goto l=>exact q.elim
 |ret=>exact q.elim
 |panic ch=>exact q.elim
 |outgrown=>exact q.elim
theorem MO{G0:aB}{f:Nat}{caps:List AV}{g:Operand}{ps:Array Tmp}{Q:Exit->bS->aB->Prop}{E:bS}{H:aB}(E0:bS)(hg:aO E g=some (.clo f caps))(hc:∀(args:Array Value) (w:World),(callFunc f args).run P w=.ok (.enter f args) w)
  (hps:ps=#[p,p2]) (hid:H.get id=none) (hE0:∀q∈E0,E.get q.1=some q.2)
  (h:∀x:Go.Loop,x.state=.ready->x.pending=none->x.params=#[p,p2]->x.tmps.size=N->x.assign=assign->x.body=body ->
   aH P f (.yld id 0::caps) ((id,LR x E0)::H) (fun r H'=>∃(y:Go.Loop) (K:aB),y.tmps=x.tmps/\y.state≠.busy/\H'=(id,LR y E0)::K/\∀z:Go.Loop,aFZ Q E ((id,LR z E0)::K) y.pending)) :
  fL P G0 N (.rangeFunc g ps assign body) Q E H:=by
 intro G hG a w hs ro hro;obtain rfl:ro=none:=hro.resolve_right (fun h=>by cases h);obtain ⟨I,ι,hr,hst,he⟩:=hs.rel;refine wpIn_rangeFunc (F:=RF none) ?_;intro fn _;have hgv:=aI he hg;generalize hfc:a.eval g=fc at hgv;cases hgv with
 | @clo _ us _ hl hh =>
  obtain ⟨x,hx⟩:∃x:Go.Loop,x={state:=.ready,pending:=none,fn,tmps:=a.tmps,params:=ps,assign,body,defers:=w.heap.size}:=⟨_,rfl⟩;obtain ⟨a1,a2⟩:=hr.push (.deferred (some []));obtain ⟨wd,hwd⟩:∃wd,wd=w.alloc (.deferred (some [])):=⟨_,rfl⟩;rw[<-hwd]at a1 a2;have hwds:wd.heap.size=w.heap.size+1:=by rw[hwd,World.size_alloc]
  have hDd:wd.heap[w.heap.size]?=some (.deferred (some [])):=by rw[hwd];exact World.alloc_heap_new w _
  have hidH:aB.get ((id,LR x E0)::H) id=some (LR x E0):=eY _ _ _;obtain ⟨b1,b2⟩:=a1.placeX (id:=id) (cap:=2) (x:=.loop x) (w':=wd.alloc (.loop x)) (H':=(id,LR x E0)::H) (ob':=LR x E0) rfl rfl rfl rfl (fun o ho=>by rw[hid]at ho;cases ho)
   (fun hnew hI hmono=>.inr (.inr (.inr ⟨rfl,_,x,by simp,hnew,hI,fun y ts r hy=>by
    simp only[LR,List.cons.injEq,AV.raw.injEq,and_true]at hy;obtain ⟨⟨rfl,rfl⟩,rfl⟩:=hy;refine⟨rfl,fun i t v ht hv=>?_⟩;rw[aOP]at ht hv;obtain ⟨q,hq,rfl⟩:=Option.map_eq_some_iff.1 ht;rw[hq]at hv;cases hv;obtain ⟨c,c1,c2⟩:=he q.1 q.2 (hE0 q (aOF hq));exact⟨c,by rw[hx];exact c1,hmono _ _ (c2.mono hr a2)⟩⟩)))
   hidH (fun j hj=>by simp[aB.get,jC (Ne.symm hj)])
  obtain ⟨w1,hw1⟩:∃w1,w1=wd.alloc (.loop x):=⟨_,rfl⟩;rw[<-hw1]at b1 b2;obtain ⟨ι1,hι1⟩:∃ι1:dX,ι1=fun j=>if j=id then some (wd.heap.size,2)else ι j:=⟨_,rfl⟩
  rw[<-hι1]at b1 b2;have hιid:ι1 id=some (w.heap.size+1,2):=by rw[hι1,hwds];simp
  have hL1:=qL b1 hidH hιid;have hD1:w1.heap[w.heap.size]?=some (.deferred (some [])):=by
   rw[b2.keep _ (by rw[hwds];omega) (wD a1 hDd)];exact hDd
  have hcall:=h x (by rw[hx]) (by rw[hx]) (by rw[hx,hps]) (by rw[hx];exact hs.size) (by rw[hx]) (by rw[hx]) I ι1 w1 (#[.func (.yield (w.heap.size+1)) #[] #[]]++us) b1 (by simp[hl];omega) (fun i v c hv hc'=>by
   cases i with
   |zero =>
    rw[Array.getElem?_append_left (by simp)]at hv;simp at hv hc';subst hv hc';exact .yld (LR x E0) hidH (aOB _) rfl (fun _=>⟨rfl,_,hιid,rfl⟩)
   |succ i =>
    rw[Array.getElem?_append_right (by simp)]at hv;simp only[List.getElem?_cons_succ]at hc';have:=hh i v c (by simpa using hv) hc';exact(this.mono hr a2).mono a1 b2)
  refine⟨w.heap.size+1,[mark w.heap.size],w1,{target:=.fn (.func f) us,args:=#[.func (.yield (w.heap.size+1)) #[] #[]]},w1,f,#[.func (.yield (w.heap.size+1)) #[] #[]]++us,w1,?_,?_,fun _ _=>trivial,?_,(fun q=>by cases q),?_⟩
  ·rw[hw1,hwd,hx];exact run_enterLoop_outer _ _ _ _ _
  ·simp only[resolve,hfc];simp[go_sem]
  ·simp[invoke,go_sem,hc]
  refine((callsIn_wide (n:=0)).2 hcall).mono ?_;rintro e w3 ⟨r,H',I3,ι3,v3,rfl,⟨y,K,hy1,hy2,rfl,hq⟩,_,hr3,hst3⟩;have hι3:=pK (G:=⟨I,ι1,(id,LR x E0)::H,w1,[]⟩) hst3 hidH hιid (eY _ _ _);have hb3:=qL hr3 (eY _ _ _) hι3;obtain ⟨z,hz⟩:∃z:Go.Loop,z={y with state:=.exhausted}:=⟨_,rfl⟩;obtain ⟨z1,z2⟩:=hr3.setRec (y:=z) (H':=(id,LR z E0)::K) (eY _ _ _) hι3 (by rw[hz]) (eY _ _ _) (fun j hj=>wR _ _ _ hj);obtain ⟨w4,hw4⟩:∃w4,w4=w3.putObj (w.heap.size+1) (.loop z):=⟨_,rfl⟩;rw[<-hw4]at z1 z2;refine⟨y.pending,w4,by rw[hw4,hz];exact run_endLoop hb3 hy2,?_⟩;have hall:Step I ι H w I3 ι3 ((id,LR z E0)::K) w4:=((a2.trans b2).trans hst3).trans z2;have hD4:w4.heap[w.heap.size]?=some (.deferred (some [])):=by
   rw[(hst3.trans z2).keep _ (Array.getElem?_eq_some_iff.1 hD1).1 (wD b1 hD1)];exact hD1
  have hs4:St G N E ((id,LR z E0)::K) {a with defers:=[mark w.heap.size]++a.defers} w4:=by
   refine⟨?_,hs.size,I3,ι3,z1,hst.trans hall,fun t v hv=>let ⟨c,c1,c2⟩:=he t v hv;⟨c,c1,c2.mono hr hall⟩⟩;obtain ⟨Ds,d1,d2,d3⟩:=hs.defers.step hr hall;refine⟨w.heap.size::Ds,by rw[d1];rfl,List.nodup_cons.2 ⟨fun hmem=>?_,d2⟩,fun D hD=>?_⟩
   ·have hold:∀D∈Ds,D<w.heap.size:=by
     obtain ⟨Ds',d1',_,d3'⟩:=hs.defers;have he:Ds'=Ds:=by
      have h0:Ds'.map mark=Ds.map mark:=List.append_cancel_right (d1'.symm.trans d1);have hinj:∀(l l':List Nat),l.map mark=l'.map mark->l=l':=by
       intro l
       induction l with
       |nil=>intro l' h;cases l' with
        |nil=>rfl
        |cons _ _=>cases h
       | cons D l ih=>intro l' h;cases l' with
        |nil=>cases h
        |cons D' l' =>
         simp only[List.map_cons,List.cons.injEq,mark,Deferred.mk.injEq,Target.collected.injEq,and_true]at h;rw[h.1,ih l' h.2]
      exact hinj _ _ h0
     subst he;exact fun D hD=>(Array.getElem?_eq_some_iff.1 (d3' D hD).2).1
    exact Nat.lt_irrefl _ (hold _ hmem)
   rcases aOH.1 hD with rfl|hD
   ·exact⟨hst.size,hD4⟩
   exact d3 D hD
  have hq':=hq z;generalize y.pending=pend at hq' |-
  match pend,hq' with
  |none,hq'=>exact⟨E,_,hq',hs4⟩
  |some .ret,hq'=>exact wpIn_ret ⟨E,_,hq',hs4⟩
  |some (.exit j),hq'=>exact wpIn_exit ⟨E,_,hq',hs4⟩
end Go.Abs
namespace Go.Proofs.YtmdicgjnmfolfaaGreatDoor
open Go.Proofs.Tryz
open Go.Abs
theorem oE(l:List ByteArray):∀r∈l.map encStr,r.length=1:=fun r hr=>by
 obtain ⟨t,_,rfl⟩:=List.mem_map.1 hr;rfl
def cSZ(l:List ByteArray):Ob:=bx 1 22 [.pv (aS l)]
def cNZ:Ob:=bx 1 3 [iv 2]
theorem aEr(l:List ByteArray)(H:aB)(h1:H.get 931=none)(h2:H.get 932=none):
  aH Tryz.prog 137 [.pv (aS l),iv 2] H (fun r H'=>r=.clo 178 [.ref 931 0 0 0,.ref 932 0 0 0]/\H'=(932,cNZ)::(931,cSZ l)::H):=by
 have h2':aB.get ((931,cSZ l)::H) 932=none:=h2;refine Bd func137 rfl ntmps137<|Sr<|Dd (by exact cE (id:=931) rfl rfl rfl rfl h1)<|Dd (by exact cE (id:=932) rfl rfl rfl rfl h2')<|Dd aM<|Zz<|Sq<|Sr<|Dd (bQ isAgg3)<|Dd cP<|Zz ?_;refine Cn ?_ ?_<;>intro hc1
 ·cases hc1
 refine aF<|Sr<|Dd (by exact fO rfl rfl)<|Dd aM<|Zz<|aE ?_;refine dC (H':=((932,cNZ)::(931,cSZ l)::H)) (.inr rfl) rfl (aW rfl) Fin.refl ?_;exact Qq
def AI(l:List ByteArray)(k:Nat):List ByteArray:=(l.drop (2*k)).take 2
theorem aB0(l:List ByteArray)(k:Nat):((l.map encStr).drop (2*k)).take 2=(AI l k).map encStr:=by rw[AI,List.map_take,List.map_drop]
theorem aGt{n:Nat}(h:2<=n):min (2:Int) (n:Int)=2:=Int.min_eq_left (by omega)
theorem aCB(l:List ByteArray)(fv:AV)(Hs:Nat->aB)(m:Nat)(hl:l.length=2*m)(hm:m<1099511627776)(h1:∀k,(Hs k).get 931=some (cSZ l))(h2:∀k,(Hs k).get 932=some cNZ)
  (hy:∀k,k<m->cK Tryz.prog fv [.pv (aS (AI l k))] (Hs k) (fun r H'=>r=bv true/\H'=Hs (k+1))) :
  aH Tryz.prog 178 [fv,.ref 931 0 0 0,.ref 932 0 0 0] (Hs 0) (fun r H'=>r=.tup []/\H'=Hs m):=by
 have hml:(l.map encStr).length=l.length:=aNv _;refine Bd func178 rfl ntmps178<|Sr<|Dd aM<|Zz<|aD ?_;refine bL (σ:=Nat) (fun k=>([(0,fv),(1,.ref 931 0 0 0),(2,.ref 932 0 0 0),(4,iv ((2*k:Nat):Int))],Hs k)) (fun k=>k<=m) (fun k=>m - k) 0 (aOM _) ?_ ?_
 ·exact E0
 rintro k hkm;refine Sq<|Sr<|Dd aG<|Dd (by exact aK rfl aJ rfl (h1 k) rfl rfl rfl)<|Dd (fZ aC)<|Dd cP<|Zz ?_;refine Cn ?_ ?_<;>intro hc1
 ·have hlt:2*k<l.length:=by have:=aNr hc1;omega
  have hkm2:k<m:=by omega
  have hyk:=hy k hkm2;have hdl:((l.map encStr).drop (2*k)).length=l.length - 2*k:=by rw[aOK,hml]
  refine aF<|Sq<|aD<|Sq<|aP follows<|Cq (by exact aK rfl isAgg3 rfl (h2 k) rfl rfl rfl)<|Cq (by exact aK rfl aJ rfl (h1 k) rfl rfl rfl)<|Cq aG<|Cq (by exact xC (l:=2*k) (h:=(l.map encStr).length) (rows':=(l.map encStr).drop (2*k)) rfl bT rfl (oE l) rfl rfl (by omega) (aOB _) (by rw[List.take_length]))<|Cq (fZ aC)<|Cq (by exact IX (r:=2) rfl rfl rfl (by rw[hdl];exact aGt (by omega)))<|Cq aM<|bK<|Kr<|Sr<|Dd aG<|Dd (by exact aK rfl aJ rfl (h1 k) rfl rfl rfl)<|Dd aG<|Dd aG<|Dd aG<|Dd (by exact bG rfl rfl rfl (show IntKind.i64.wrap (((2*k:Nat):Int)+2)=((2*k+2:Nat):Int)by rw[IntKind.wrap_i64];omega))<|Dd aG<|Dd aG<|Dd (by exact bG rfl rfl rfl (show IntKind.i64.wrap (((2*k:Nat):Int)+2)=((2*k+2:Nat):Int)by rw[IntKind.wrap_i64];omega)) ?_;refine Dd (by exact aCe (l:=2*k) (h:=2*k+2) (rows':=(AI l k).map encStr) rfl bT rfl (oE l) rfl rfl rfl (by omega) (by omega) (by intro h;rw[List.map_eq_nil_iff]at h;rw[h]at hlt;exact absurd hlt (Nat.not_lt_zero _)) (by rw[<-aB0,List.drop_take];congr 1;omega))<|Dd (by exact cC rfl rfl rfl (hyk))<|Dd mT<|Zz ?_;refine Cn ?_ ?_<;>intro hc2
  ·cases hc2
  refine aF<|Rg<|Dd aG<|Dd (by exact aK rfl isAgg3 rfl (h2 (k+1)) rfl rfl rfl)<|Dd (by exact bG rfl rfl rfl (show IntKind.i64.wrap (((2*k:Nat):Int)+2)=((2*(k+1):Nat):Int)by rw[IntKind.wrap_i64];omega))<|Da ?_;exact⟨k+1,hkm2,by omega,E0⟩
 have hge:l.length<=2*k:=by have:=aNs hc1;omega
 have hkk:k=m:=by omega
 refine aY ?_;rw[<-hkk];exact qU (H':=Hs k) (.inl rfl) rfl Fin.refl ⟨rfl,rfl⟩
end Go.Proofs.YtmdicgjnmfolfaaGreatDoor
namespace Go.Abs
theorem DE{P:Program}{G0:aB}{N:Nat}{Q:Exit->bS->aB->Prop}{E:bS}{H:aB}{x y:Code}{α:Type}(S:α->bS×aB)(J:α->Prop)
  (h:fL P G0 N x (xA (fun E1 H1=>∃a,J a/\cD G0 E1 H1 (S a).1 (S a).2) Q) E H) (h':∀a,J a->fL P G0 N y Q (S a).1 (S a).2):fL P G0 N (.seq x y) Q E H :=
 FE (h.mono fun e E1 H1 q=>by
  cases e with
  |normal =>
   obtain ⟨a,ha,he⟩:=q;exact fL.ent he (h' a ha)
  |_=>exact q)
theorem wS{i:Nat}{o:Ob}{K:aB}:∀(D:aB),(∀p∈D,p.1=i)->∀j,aB.get ((i,o)::K) j=aB.get ((i,o)::(D++K)) j:=by
 intro D hD j;by_cases e:i=j
 ·subst e;simp[aB.get,kW]
 have h:aB.get D j=none:=by
  cases hg:aB.get D j with
  |none=>rfl
  |some x=>exact absurd (hD _ (cV hg)).symm e
 rw[get_cons_other _ _ (Ne.symm e),get_cons_other _ _ (Ne.symm e),eX,h]
theorem jW{H:aB}{x:Go.Loop}{E0:bS}(h:∀p∈E0,Clo H p.2):∀r∈(LR x E0).rows,∀a∈r,Clo H a:=by
 intro r hr a ha;simp only[LR,aOH,aOL,or_false]at hr;rcases hr with rfl|rfl
 ·rw[aNy]at ha;subst ha;simp
 obtain ⟨p,hp,rfl⟩:=List.mem_map.1 ha;exact h p hp
end Go.Abs
namespace Go.Proofs.YtmdicgjnmfolfaaGreatDoor
open Go.Proofs.Tryz
open Go.Abs
variable{j n k h:Nat}
theorem XW{W:List ByteArray}(h:2*j+2<=W.length):((AI W j).map encStr)[0]?=some (encStr (W.getD (2*j) sNil))/\((AI W j).map encStr)[1]?=some (encStr (W.getD (2*j+1) sNil)):=by
 have h0:(AI W j)[0]?=some (W.getD (2*j) sNil):=by
  rw[AI,List.getElem?_take_of_lt (by decide),List.getElem?_drop,Nat.add_zero,List.getD_eq_getElem?_getD,aOA (by omega)];rfl
 have h1:(AI W j)[1]?=some (W.getD (2*j+1) sNil):=by
  rw[AI,List.getElem?_take_of_lt (by decide),List.getElem?_drop,List.getD_eq_getElem?_getD,aOA (by omega)];rfl
 exact⟨by rw[aOP,h0];rfl,by rw[aOP,h1];rfl⟩
def upA(l:List ByteArray)(j:Nat):ByteArray:=jD (l.getD (2*j) sNil) (l.getD (2*j+1) sNil)
def ZU(l:List ByteArray)(k:Nat):List ByteArray:=(List.range k).map (upA l)
theorem aCk(l:List ByteArray)(k:Nat):ZU l (k+1)=ZU l k++[upA l k]:=by rw[ZU,List.range_succ,List.map_append];rfl
theorem ZT(l:List ByteArray)(k:Nat):(ZU l k).length=k:=by simp[ZU]
theorem aFr{l:List ByteArray}{m:Nat}(h:l.length=2*m):ZU l m=zK l:=by
 apply List.ext_getElem?;intro k;have hl:=rO m l h;by_cases hk:k<m
 ·have:=DQ m l k h hk;rw[List.getD_eq_getElem?_getD,aOA (by omega)]at this;rw[ZU,aOP,List.getElem?_range hk,aOA (by omega)];exact congrArg some this.symm
 rw[List.getElem?_eq_none (by rw[ZT];omega),List.getElem?_eq_none (by omega)]
def upK(l L:List ByteArray):aB:=[(905,⟨L.length,1,9,bP L⟩),(3,bx 1 22 [.osl 905 L.length 0 L.length]),(932,cNZ),(931,cSZ l)]
theorem aFs(l L:List ByteArray)(s:ByteArray):upK l (L++[s])=[(905,⟨L.length+1,1,9,bP (L++[s])⟩),(3,bx 1 22 [.osl 905 (L.length+1) 0 (L.length+1)]),(932,cNZ),(931,cSZ l)]:=by simp[upK]
def upE:bS:=[(3,.ref 3 0 0 0)]
theorem SN(H:aB)(l:List ByteArray):∀r∈(cSZ l).rows,∀a∈r,Clo H a:=by intro r hr a ha;simp only[cSZ,bx,aNy]at hr;subst hr;rw[aNy]at ha;subst ha;simp
theorem SO(H:aB):∀r∈cNZ.rows,∀a∈r,Clo H a:=by intro r hr a ha;simp only[cNZ,bx,aNy]at hr;subst hr;rw[aNy]at ha;subst ha;simp
theorem aAi(l:List ByteArray)(m:Nat)(H:aB)(hl:l.length=2*m)(hm:m<1099511627776)(hs:∀s∈l,s.size=16):aH Tryz.prog 87 [.pv (aS l)] H (fun r H'=>r=.pv (aS (zK l))/\H'=H):=by
 refine Pu ?_;refine Bd func87 rfl ntmps87<|Sr<|Dd aM<|Zz<|Sr<|Dd (by exact bM (id:=3) rfl aC9 rfl rfl)<|Zz<|Sq<|Sr<|Dd aG<|Dd (by exact aA rfl rfl call137 rfl (aEr l _ rfl rfl))<|Zz<|aD ?_;refine fL.ent (E':=[(3,.ref 3 0 0 0),(6,.clo 178 [.ref 931 0 0 0,.ref 932 0 0 0])]) (H':=upK l []) ?_ ?_
 ·exact(cD.nz 905 1 9 rfl rfl ⟨⟨_,rfl,(by exact Nz.same (by(simp;rfl)))⟩,⟨_,rfl,(by exact Nz.same (by(simp;exact⟨rfl,rfl⟩)))⟩,trivial⟩ ⟨⟨_,rfl,rfl,rfl,rfl,(by exact .inr ⟨_,_,rfl,rfl,(by repeat(first|exact trivial|refine⟨(by exact Nz.own),?_⟩))⟩)⟩,⟨_,rfl,rfl,rfl,rfl,(by exact .inl ⟨rfl,(by exact SO _)⟩)⟩,⟨_,rfl,rfl,rfl,rfl,(by exact .inl ⟨rfl,(by exact SN _ _)⟩)⟩,trivial⟩ trivial)
 refine BX (id:=904) (p:=7) upE rfl call178 rfl rfl (by simp[upE];rfl) ?_;intro x hx1 hx2 hx3 hx4 hx5 hx6;refine(aCB l (.yld 904 0) (fun k=>(904,LR x upE)::upK l (ZU l k)) m hl hm (fun k=>rfl) (fun k=>rfl) ?_).mono ?_
 ·intro k hk;have hn:∀j,j<l.length->(l.getD j sNil).size<1099511627776:=fun j hj=>by rw[hs _ (oD hj)];decide
  have hnd:=fun H=>aAK (l.getD (2*k) sNil) (l.getD (2*k+1) sNil) false H (hn _ (by omega)) (hn _ (by omega));simp only[Bool.false_eq_true,if_false]at hnd;obtain ⟨p0,p1⟩:=XW (W:=l) (j:=k) (by omega);have hfl:=ZT l k;refine .inl ⟨904,0,rfl,?_⟩;refine QR [(3,.ref 3 0 0 0),(4,.pv (aS (AI l k)))] (upK l (ZU l k)) hx1 hx2 hx3 hx4 hx5 hx6 rfl rfl rfl ?_ ?_
  ·refine Rg<|Da ?_;exact(cD.wk (Ea<|Eb<|trivial) (Hc (jW (by intro p hp;simp only[upE,aOH,aOL,or_false]at hp;subst hp;simp only[qE];rfl))<|Hc (aU _ _)<|Ha<|Hc (SO _)<|Hc (SN _ _)<|trivial) ⟨rfl,rfl,rfl,rfl,rfl,trivial⟩)
  rw[aCk,aFs];refine aD<|aP follows<|Cr [3] (fun _ h=>lh aJ h)<|Cr [] (fun _ _=>aG)<|Cr [] (fun H1 hH=>by exact aT rfl bT rfl rfl (by omega) (by exact aOG _) p0 rfl)<|Cr [] (fun _ _=>(kS isAgg9 (hi:=p0)))<|Cr [] (fun _ _=>aG)<|Cr [] (fun H1 hH=>by exact aT rfl bT rfl rfl (by omega) (by exact aOG _) p1 rfl)<|Cr [] (fun _ _=>(kS isAgg9 (hi:=p1)))<|Cr [] (fun H1 hH=>by exact aA rfl rfl call95 rfl (hnd _))<|Cr [] (fun H1 hH=>by exact aQ [[.str (upA l k)]] rfl bT rfl rfl rfl rfl rfl (by intro r hr;rw[aNy]at hr;subst hr;rfl))<|Cp [905] (fun H1 hH=>by exact cF (ps:=[[.str (upA l k)]]) rfl bT CH rfl ((hH _ rfl).trans rfl) rfl rfl rfl (cT _) rfl (by intro r hr;rw[aNy]at hr;subst hr;rfl) (m:=1) rfl (by omega) rfl (kX (ZU l k) (upA l k))) ?_;refine Cp [3] (fun H1 hH=>by exact bX rfl sizeOf22 rfl rfl rfl rfl ((hH _ rfl).trans rfl) rfl rfl rfl)<|bK<|Kr ?_;exact⟨[(905,⟨(ZU l k).length+1,1,9,bP (ZU l k++[upA l k])⟩),(3,bx 1 22 [.osl 905 ((ZU l k).length+1) 0 ((ZU l k).length+1)]),(932,cNZ),(931,cSZ l)],(cD.wk trivial (Hc (jW (by intro p hp;simp only[upE,aOH,aOL,or_false]at hp;subst hp;simp only[qE];rfl))<|Hc (aU _ _)<|Ha<|Hc (SO _)<|Hc (SN _ _)<|trivial) ⟨rfl,rfl,rfl,rfl,rfl,trivial⟩),rfl,rfl⟩
 rintro r H' ⟨rfl,rfl⟩;refine⟨x,_,rfl,by rw[hx1];decide,rfl,fun z=>?_⟩;rw[hx2,aFr hl];obtain ⟨out,hout⟩:∃out,out=zK l:=⟨_,rfl⟩;rw[<-hout];have hol:(out.map encStr).length=out.length:=aNv _;refine fL.ent (cD.fzG (id:=905) (E':=[(3,.ref 3 0 0 0)]) (H':=[(3,bx 1 22 [.pv (aS out)])]) (out.map encStr) rfl (dR _) ?_ rfl ?_ ?_) ?_
 ·intro p hp;simp only[aOH,aOL,or_false]at hp;rcases hp with rfl;exact⟨_,rfl,.same (by simp;rfl)⟩
 ·refine⟨⟨_,rfl,rfl,rfl,rfl,nG rfl (cG (.osl ?_) nO)⟩,trivial⟩;rw[aON,List.drop_zero,<-hol,List.take_length]
 ·exact trivial
 exact Sr<|Dd (bQ aJ)<|Dd aM<|Zz<|aE<|Rt<|Qq
def R5(s:ByteArray)(n k:Nat):List ByteArray:=(List.range n).map fun j=>if j<k then yD s j else sNil
theorem EP(s:ByteArray)(n k:Nat):(R5 s n k).length=n:=by simp[R5]
theorem R4(s:ByteArray)(h:j<n):(R5 s n k)[j]?=some (if j<k then yD s j else sNil):=by rw[R5,aOP,List.getElem?_range h];rfl
theorem aHF(s:ByteArray)(h:k<n):(R5 s n k).set k (yD s k)=R5 s n (k+1):=by
 apply List.ext_getElem?;intro j;by_cases hj:j<n
 ·rw[R4 s hj];by_cases e:k=j
  ·subst e;rw[List.getElem?_set_self (by rw[EP];exact h),aNu (Nat.lt_succ_self _)]
  rw[List.getElem?_set_ne e,R4 s hj];by_cases h1:j<k
  ·rw[aNu h1,aNu (by omega)]
  rw[aNt h1,aNt (by omega)]
 rw[List.getElem?_eq_none (by rw[List.length_set,EP];omega),List.getElem?_eq_none (by rw[EP];omega)]
theorem aEN(s:ByteArray)(n:Nat):R5 s n 0=List.replicate n sNil:=by rw[R5];simp only[Nat.not_lt_zero,if_false];rw[List.map_const',List.length_range]
theorem aHG(s:ByteArray)(h:Nat):R5 s (2 ^ h) (2 ^ h)=fG s h:=by rw[R5,fG];refine List.map_congr_left fun j hj=>?_;rw[aNu (List.mem_range.1 hj)]
theorem aAs(n:Nat):bP (List.replicate n sNil)=List.replicate n [sv sNil]:=by rw[bP,List.map_replicate]
theorem aAr(l:List ByteArray)(k:Nat)(x:ByteArray):(bP l).set k [sv x]=bP (l.set k x):=by rw[bP,bP,List.map_set]
theorem nE(hh:h<=8):2 ^ h<=256:=Nat.pow_le_pow_right (by decide) hh
theorem aGG(hh:h<=8):IntKind.i64.wrap (1*2 ^ ((h:Int)).toNat)=((2 ^ h:Nat):Int):=by have:=nE hh;rw[aOG,Int.one_mul,show (2:Int) ^ h=((2 ^ h:Nat):Int)by exact_mod_cast rfl];generalize 2 ^ h=n at this |-;rw[iY (by omega) (by omega)]
theorem aAS(s:ByteArray)(h:Nat)(H:aB)(hs:s.size<1099511627776)(hh:h<=8):aH Tryz.prog 86 [sv s,iv (h:Int)] H (fun r H'=>r=.pv (aS (fG s h))/\H'=H):=by
 refine Pu ?_;have hp:=nE hh;have hz:=aAs (2 ^ h);rw[<-aEN s]at hz;rw[<-aHG];obtain ⟨n,hn⟩:∃n,n=2 ^ h:=⟨_,rfl⟩;have hsh:=aGG hh;rw[<-hn]at hp hz hsh |-;refine Bd func86 rfl ntmps86<|Sr<|Dd aM<|Zz<|Sr<|Dd aG<|Dd (by exact D7 rfl rfl rfl (by omega) (by simp[IntKind.bits];omega) hsh)<|Dd (by exact AA (id:=905) rfl bT CH zo9 rfl rfl rfl (by omega) (by omega) (aOG _) (aOG _) (by omega) rfl)<|Dd aM<|Zz<|Sq<|Sr<|Dd aG<|Dd (by exact eB rfl aC rfl rfl rfl)<|Dd aG<|Zz<|aD ?_;refine bL (σ:=Nat) (fun k=>([(0,sv s),(5,.osl 905 0 0 n),(11,iv (n:Int)),(12,iv (k:Int))],[(905,⟨0,1,9,bP (R5 s n k)⟩)])) (fun k=>k<=n) (fun k=>n - k) 0 (aOM _) ?_ ?_
 ·rw[hz];exact Wk
 intro k hk;have hln:=EP s n k;refine Sr<|Dd cP<|Zz<|Sq ?_;refine Cn ?_ ?_<;>intro hc1
 ·have hlt:k<n:=by have:=aNr hc1;omega
  have hrow:(bP (R5 s n k))[k]?=some [sv sNil]:=by
   rw[bP,aOP,R4 s hlt,aNt (Nat.lt_irrefl _)];rfl
  have hset:(bP (R5 s n k)).set k [sv (yD s k)]=bP (R5 s n (k+1)):=by rw[aAr,aHF s hlt]
  refine aF<|Sq<|aD<|Sr<|Dd aG<|Dd aM<|Zz<|Rg<|Dd aG<|Dd aG<|Dd aG<|Dd aG<|Dd (by exact aA rfl rfl call136 rfl (aJc s k _ hs (by omega)))<|Dd (by exact dP rfl bT rfl rfl rfl rfl rfl (by omega) (by exact aOG _) (by omega) rfl)<|Uu (by exact bD (r:=[sv sNil]) (r':=[sv (yD s k)]) (rows':=bP (R5 s n (k+1))) rfl sizeOf9 rfl rfl rfl rfl rfl (by rw[aON];exact hrow) (by simp) rfl (by rw[aON];exact hset))<|Zz<|Rg<|Dd (by exact bG rfl rfl rfl (show IntKind.i64.wrap ((k:Int)+1)=((k+1:Nat):Int)by rw[iY (by omega) (by omega)];omega))<|Dd aG<|Zz ?_;exact⟨k+1,by omega,by omega,(cD.wk (Eb<|Ea<|Eb<|Eb<|trivial) (Hc (aU _ _)<|trivial) trivial)⟩
 have hge:k=n:=by have:=aNs hc1;omega
 subst hge;have htk:((R5 s k k).map encStr).take k=(R5 s k k).map encStr:=List.take_of_length_le (by rw[aNv,EP];exact aOB _);refine aY<|Sr<|Dd aG<|Dd aM<|Zz<|aE ?_;refine dC (H':=[]) (.inr rfl) rfl (aW rfl) (Fin.fz (r':=.pv (aS (R5 s k k))) (id:=905) ((R5 s k k).map encStr) rfl (dR _) (.osl (by rw[aON,List.drop_zero,htk])) rfl trivial trivial) ?_;exact Qq
theorem J2(s:ByteArray)(h:Nat)(H:aB)(hs:s.size<1099511627776)(hh:h<=8):aH Tryz.prog 25 [sv s,iv (h:Int)] H (fun r H'=>r=.tup [sv (oP s h),iv 0]/\H'=H):=by
 refine Pu ?_;refine Bd func25 rfl ntmps25<|Sr<|Dd aM<|Dd aM<|Zz<|Sq<|Sq ?_;refine bF (t:=12) (n:=7) (X:=decide ((h:Int)<0)||decide (8<(h:Int))) ?_ ?_
 ·all_goals refine Dd aG ?_
  all_goals refine Dd cP<|Dm ?_
  all_goals refine Sp 9 (fun h9=>?_) fun h9=>?_
  all_goals try contradiction
  all_goals refine On aG<|On mN<|Dd cN<|Zz ?_
  all_goals(exact⟨⟨_,rfl,by rfl⟩,rfl,rfl,rfl⟩)
 refine Cn ?_ ?_<;>intro hc1
 ·have hb:=hc1;exact absurd (by simpa using hb) (show ¬ ((h:Int)<0\/8<(h:Int))by omega)
 refine aF<|Sr<|Dd aG<|Dd aG<|Dd (by exact aA rfl rfl call86 rfl (aAS s h _ hs hh))<|Dd aM<|Zz<|Sq<|aD ?_;refine iA (fun(j:Nat) (l:List ByteArray)=>([(6,.pv (aS l))],[])) (fun j l=>l.length=2 ^ j/\OR j l=oP s h/\(∀t∈l,t.size=16)/\j<=8) (fun j l=>j) h (fG s h) ⟨mH s h,rfl,fun t ht=>jN (sL s h t ht),hh⟩ ?_ ?_
 ·exact Wk
 rintro j l ⟨hl,hr,hz,hj⟩;have hml:(l.map encStr).length=l.length:=aNv _;have hp:=nE hj;refine Sq<|Sr<|Dd aG<|Dd (fZ aC)<|Dd mN<|Zz ?_;refine Cn ?_ ?_<;>intro hc2
 ·have hlt:1<l.length:=by have:=aNr hc2;omega
  obtain ⟨i,rfl⟩:∃i,j=i+1:=by
   cases j with
   |zero=>rw[hl]at hlt;exact absurd hlt (by decide)
   |succ i=>exact⟨i,rfl⟩
  have hl2:l.length=2*2 ^ i:=by rw[hl,Nat.pow_succ,Nat.mul_comm]
  have hpi:=nE (h:=i) (by omega);refine aF<|aD<|Rg<|Dd aG<|Dd (by exact aA rfl rfl call87 rfl (aAi l (2 ^ i) _ hl2 (by omega) hz))<|Da ?_;exact⟨i,zK l,⟨rO _ _ hl2,hr,fun t ht=>jN (DR _ _ (aOB _) t ht),by omega⟩,by omega,Wk⟩
 have hge:l.length<=1:=by have:=aNs hc2;omega
 have hj0:j=0:=by
  cases j with
  |zero=>rfl
  |succ i =>
   have:2 ^ (i+1)=2*2 ^ i:=by rw[Nat.pow_succ,Nat.mul_comm]
   have:0<2 ^ i:=Nat.two_pow_pos i;omega
 subst hj0;obtain ⟨a,rfl⟩:∃a,l=[a]:=List.length_eq_one_iff.1 hl;have ha:a=oP s h:=hr;subst ha;have hi:([oP s h].map encStr)[0]?=some (encStr (oP s h)):=rfl;exact aY<|Sr<|Dd aG<|Dd (by exact aT rfl bT rfl rfl (by omega) (by exact aOG _) hi rfl)<|Dd (kS isAgg9 (hi:=hi))<|Dd aM<|Dd aM<|Zz<|aE<|Ru<|Qq
abbrev HXJ:ByteArray:=⟨#[48,49,50,51,52,53,54,55,56,57,97,98,99,100,101,102]⟩
theorem aEY(h:n<16):Lib.indexByte HXJ.data.toList (nM n).toNat.toUInt8=(n:Int):=by revert h;revert n;decide
theorem MJ(m:ByteArray)(hk:k<16):cZ (fA m) k=nM (FN (QZ m) k):=by have hb:=aAW (xY (QZ m) k);have e:(fA m).data.toList=tN (QZ m):=rfl;rw[cZ,e,tN,aOP,List.getElem?_range hk];show ((UInt8.ofNat (nM (FN (QZ m) k)).toNat).toNat:Int)=_;rw[UInt8.toNat_ofNat',Nat.mod_eq_of_lt (by omega),Int.toNat_of_nonneg hb.1]
theorem Y2(m:ByteArray)(hk:k<16):(dJ m)[k]?=some (FN (QZ m) k):=by rw[dJ,aOP,List.getElem?_range hk];rfl
theorem aH0(m:ByteArray)(hk:k<16):(wU m).getD k 0=FN (QZ m) k:=by rw[List.getD_eq_getElem?_getD,wU,List.getElem?_append_left (by rw[vN];exact hk),Y2 m hk];rfl
theorem aJq(m:ByteArray):(wU m).getD 16 0=oN m / 16:=by rw[List.getD_eq_getElem?_getD,wU,List.getElem?_append_right (by rw[vN];exact aOB _),vN];rfl
theorem aJp(m:ByteArray):(wU m).getD 17 0=oN m % 16:=by rw[List.getD_eq_getElem?_getD,wU,List.getElem?_append_right (by rw[vN];decide),vN];rfl
def sZ(m:ByteArray)(k:Nat):Nat:=(((dJ m).take k).map (15 - ·)).sum
theorem KE(m:ByteArray)(hk:k<16):sZ m (k+1)=sZ m k+(15 - FN (QZ m) k):=by rw[sZ,List.take_add_one,Y2 m hk,List.map_append,List.sum_append];rfl
theorem T4(m:ByteArray)(k:Nat):sZ m k<=240:=by
 have h:=J3 ((dJ m).take k);have h2:((dJ m).take k).length<=16:=by rw[aOJ,vN];omega
 rw[sZ];omega
theorem OT(m:ByteArray):sZ m 16=oN m:=by rw[sZ,List.take_of_length_le (by rw[vN];exact aOB _),oN]
def K0(m:ByteArray):Ob:=bx 1 9 [sv m]
theorem P6(m:ByteArray)(H:aB)(h1:H.get 961=none):aH Tryz.prog 92 [sv m] H (fun r H'=>r=.clo 139 [.ref 961 0 0 0]/\H'=(961,K0 m)::H):=by refine Bd func92 rfl ntmps92<|Sr<|Dd (by exact cE (id:=961) rfl rfl rfl rfl h1)<|Dd aM<|Zz<|Sr<|Dd (by exact fO rfl rfl)<|Dd aM<|Zz<|aE ?_;refine dC (H':=((961,K0 m)::H)) (.inr rfl) rfl (aW rfl) Fin.refl ?_;exact Qq
theorem P7(m:ByteArray)(fv:AV)(Hs:Nat->aB)(hm:m.size<1099511627776)(h1:∀k,(Hs k).get 961=some (K0 m))
  (hy:∀k:Nat,k<18->cK Tryz.prog fv [iv (k:Int),iv (((wU m).getD k 0:Nat):Int)] (Hs k) (fun r H'=>r=bv true/\H'=Hs (k+1))) :
  aH Tryz.prog 139 [fv,.ref 961 0 0 0] (Hs 0) (fun r H'=>r=.tup []/\H'=Hs 18):=by
 have hsz:=eR m;have hsum:=fun H=>TN m H (by omega);have y16:=hy 16 (by decide);have y17:=hy 17 (by decide);have hle:=KF m;rw[aJq]at y16;rw[aJp]at y17;refine Bd func139 rfl ntmps139<|Sr<|Dd aM<|Zz<|Sr<|Dd (by exact aK rfl isAgg9 rfl (h1 0) rfl rfl rfl)<|Dd (by exact aA rfl rfl S3 rfl (hsum _))<|Dd aM<|Zz<|Sq<|Sr<|Dd aG<|Dd (nF underlying9)<|Dd aG<|Zz<|aD ?_;refine bL (σ:=Nat) (fun k=>([(0,fv),(1,.ref 961 0 0 0),(3,iv (sZ m k:Int)),(4,sv (fA m)),(10,iv 16),(11,iv (k:Int))],Hs k)) (fun k=>k<=16) (fun k=>16 - k) 0 (aOM _) ?_ ?_
 ·rw[hsz];exact E0
 intro k hk;have hyk:=fun(h:k<16)=>hy k (by omega);refine Sr<|Dd cP<|Zz<|Sq ?_;refine Cn ?_ ?_<;>intro hc1
 ·have hlt:k<16:=by have:=aNr hc1;omega
  have hyk:=hyk hlt;rw[aH0 m hlt]at hyk;have hnl:=xY (QZ m) k;have hr1:=T4 m k;have hr2:=KE m hlt;have hib:=fun H=>oC HXJ (nM (FN (QZ m) k)) H;rw[aEY hnl]at hib;refine aF<|Sq<|aD<|Sr<|Dd aG<|Dd aM<|Zz<|Sr<|Dd aG<|Dd aG<|Dd (by exact dW rfl underlying9 rfl rfl (by omega) (aOG _) (by omega) (MJ m hlt))<|Dd (by exact aA rfl rfl vV rfl (hib _))<|Dd aM<|Zz<|Sr<|Dd aG<|Dd aG<|Dd (by exact dN rfl rfl rfl (show IntKind.i64.wrap (15 - (FN (QZ m) k:Int))=((15 - FN (QZ m) k:Nat):Int)by rw[iY (by omega) (by omega)];omega))<|Dd (by exact bG rfl rfl rfl (show IntKind.i64.wrap ((sZ m k:Int)+((15 - FN (QZ m) k:Nat):Int))=(sZ m (k+1):Int)by rw[iY (by omega) (by omega)];omega))<|Dd aM<|Zz<|Sr<|Dd aG<|Dd aG<|Dd aG<|Dd (by exact cC rfl rfl rfl (hyk))<|Dd mT<|Zz ?_;refine Cn ?_ ?_<;>intro hc2
  ·cases hc2
  refine aF<|Rg<|Dd (by exact bG rfl rfl rfl (show IntKind.i64.wrap ((k:Int)+1)=((k+1:Nat):Int)by rw[iY (by omega) (by omega)];omega))<|Dd aG<|Zz ?_;exact⟨k+1,by omega,by omega,E0⟩
 have hge:k=16:=by have:=aNs hc1;omega
 subst hge;rw[OT];refine aY<|Sr<|Dd aG<|Dd aG<|Dd (by exact rR rfl rfl rfl (by decide) (show IntKind.i64.wrap (((oN m:Nat):Int).tdiv 16)=((oN m / 16:Nat):Int)by rw[Int.tdiv_eq_ediv_of_nonneg (by omega),iY (by omega) (by omega)];omega))<|Dd (by exact cC rfl rfl rfl (y16))<|Zz ?_;refine Cn ?_ ?_<;>intro hc3
 ·refine Rg<|Dd aG<|Dd aG<|Dd (by exact pW rfl rfl rfl (by decide) (show ((oN m:Nat):Int).tmod 16=((oN m % 16:Nat):Int)by rw[Int.tmod_eq_emod_of_nonneg (by omega)];omega))<|Dd (by exact cC rfl rfl rfl (y17))<|Zz ?_;exact qU (H':=Hs 18) (.inl rfl) rfl Fin.refl ⟨rfl,rfl⟩
 cases hc3
theorem aFh{a b:Nat}(ha:a<4611686018427387904)(hb:b<4611686018427387904):bits .xor .i64 (a:Int) (b:Int)=((a ^^^ b:Nat):Int):=by have h:=Nat.xor_lt_two_pow (n:=62) ha hb;have ha':a % 2 ^ IntKind.i64.bits=a:=Nat.mod_eq_of_lt (Nat.lt_of_lt_of_le ha (by decide));have hb':b % 2 ^ IntKind.i64.bits=b:=Nat.mod_eq_of_lt (Nat.lt_of_lt_of_le hb (by decide));simp only[bits,BitVec.ofInt_natCast,BitVec.toNat_xor,BitVec.toNat_ofNat,ha',hb'];rw[iY (by omega) (by omega)]
theorem aH2{p:Prop}[Decidable p](h:¬ p):AV.pv (.bool (decide p))=bv false:=by rw[decide_eq_false h]
def sgP(s:ByteArray)(i:Nat)(m:ByteArray)(k:Nat):List ByteArray:=(List.range k).map fun k=>mY (eL s i k) ((wU m).getD k 0)
theorem aDI(s:ByteArray)(i:Nat)(m:ByteArray)(k:Nat):sgP s i m (k+1)=sgP s i m k++[mY (eL s i k) ((wU m).getD k 0)]:=by rw[sgP,List.range_succ,List.map_append];rfl
theorem aGI(s:ByteArray)(i:Nat)(m:ByteArray)(k:Nat):(sgP s i m k).length=k:=by simp[sgP]
theorem cH.eqJ{P:Program}{N:Nat}{o:Oper}{E:bS}{H H2:aB}{v v':AV}(h:cH P N o E H v H2)(e:v=v'):cH P N o E H v' H2:=e▸h
def sgE:bS:=[(4,.ref 4 0 0 0),(6,.ref 6 0 0 0),(10,.ref 10 0 0 0)]
def sgT(s:ByteArray)(i:Nat):aB:=[(8,bx 3 25 [iv 0,.pv (.sl []),.pv (.sl [])]),(6,bx 1 3 [iv (i:Int)]),(4,bx 1 9 [sv s])]
def sgK(s:ByteArray)(i:Nat)(m:ByteArray)(L:List ByteArray):aB:=[(905,⟨L.length,1,9,bP L⟩),(10,bx 3 25 [iv (i:Int),.osl 905 L.length 0 L.length,.pv .nils]),(961,K0 m),(8,bx 3 25 [iv 0,.pv (.sl []),.pv (.sl [])]),(6,bx 1 3 [iv (i:Int)]),(4,bx 1 9 [sv s])]
theorem aGJ(s:ByteArray)(i:Nat)(m:ByteArray)(L:List ByteArray)(x:ByteArray):sgK s i m (L++[x])=[(905,⟨L.length+1,1,9,bP (L++[x])⟩),(10,bx 3 25 [iv (i:Int),.osl 905 (L.length+1) 0 (L.length+1),.pv .nils]),(961,K0 m),(8,bx 3 25 [iv 0,.pv (.sl []),.pv (.sl [])]),(6,bx 1 3 [iv (i:Int)]),(4,bx 1 9 [sv s])]:=by simp[sgK]
theorem wH(H:aB)(m:ByteArray):∀r∈(K0 m).rows,∀a∈r,Clo H a:=by intro r hr a ha;simp only[K0,bx,aNy]at hr;subst hr;rw[aNy]at ha;subst ha;simp
theorem aGF(s m:ByteArray)(h i:Nat)(H:aB)(hs:s.size<1099511627776)(hm:m.size<1099511627776)(hh:h<=8)(hi:i<2 ^ h):
  aH Tryz.prog 32 [sv s,iv (h:Int),iv (i:Int),sv m] H (fun r H'=>r=.tup [.agg [iv (i:Int),.pv (aS (B1 s i m)),.pv (aS (gV h (fG s h) i))],iv 0]/\H'=H):=by
 refine Pu ?_;have hp:=nE hh;have hsh:=aGG hh;have hkeys:=fun H=>aAS s h H hs hh;have hkl:=mH s h;have hpath:∀L,L=gV h (fG s h) i->True:=fun _ _=>trivial;refine Bd func32 rfl ntmps32<|Sr<|Dd (by exact cE (id:=4) rfl rfl rfl rfl rfl)<|Dd (by exact cE (id:=6) rfl rfl rfl rfl rfl)<|Dd (by exact bM (id:=8) rfl WW rfl rfl)<|Dd aM<|Zz<|Sq<|Sq<|aP follows<|Cq aG<|Cq (by exact cH.eqJ (IY rfl rfl rfl) (aH2 (by omega)))<|Cq aG<|Nf aG<|Nf (by exact cH.eqJ (EB rfl rfl rfl) (aH2 (by omega)))<|Cq cN<|Cq aG<|Nf (bQ isAgg3)<|Nf (by exact cH.eqJ (IY rfl rfl rfl) (aH2 (by omega)))<|Cq cN<|Cq aG<|Nf (bQ isAgg3)<|Nf aG<|Nf (by exact D7 rfl rfl rfl (by omega) (by simp[IntKind.bits];omega) hsh)<|Nf (by exact cH.eqJ (uP rfl rfl rfl) (aH2 (by omega)))<|Cq cN<|bK<|Kr ?_;refine Cn ?_ ?_<;>intro hc1
 ·cases hc1
 refine aF<|Sr<|Dd (bQ isAgg3)<|Dd (wV aLu)<|Dd (by exact bM (id:=10) rfl WW rfl rfl)<|Uu (kG sizeOf25)<|Zz<|Sq<|Sr<|Dd aG<|Dd (by exact aA rfl rfl call92 rfl (P6 m _ rfl))<|Zz<|aD ?_;refine fL.ent (E':=[(1,iv (h:Int)),(4,.ref 4 0 0 0),(6,.ref 6 0 0 0),(8,.ref 8 0 0 0),(10,.ref 10 0 0 0),(35,.clo 139 [.ref 961 0 0 0])]) (H':=sgK s i m []) ?_ ?_
 ·exact(cD.nz 905 1 9 rfl rfl ⟨⟨_,rfl,(by exact Nz.same (by(simp;done)))⟩,⟨_,rfl,(by exact Nz.same (by(simp;rfl)))⟩,⟨_,rfl,(by exact Nz.same (by(simp;rfl)))⟩,⟨_,rfl,(by exact Nz.same (by(simp;rfl)))⟩,⟨_,rfl,(by exact Nz.same (by(simp;rfl)))⟩,⟨_,rfl,(by exact Nz.same (by(simp;rfl)))⟩,trivial⟩ ⟨⟨_,rfl,rfl,rfl,rfl,(by exact .inr ⟨_,_,rfl,rfl,(by repeat(first|exact trivial|refine⟨(by first|exact Nz.own|exact Nz.same (by(simp;done))),?_⟩))⟩)⟩,⟨_,rfl,rfl,rfl,rfl,(by exact .inl ⟨rfl,(by exact wH _ _)⟩)⟩,⟨_,rfl,rfl,rfl,rfl,(by exact .inl ⟨rfl,(by(simp;done))⟩)⟩,⟨_,rfl,rfl,rfl,rfl,(by exact .inl ⟨rfl,(by(simp;done))⟩)⟩,⟨_,rfl,rfl,rfl,rfl,(by exact .inl ⟨rfl,(by(simp;done))⟩)⟩,trivial⟩ trivial)
 refine MO (id:=904) (p:=36) (p2:=37) sgE rfl call139 rfl rfl (by simp[sgE];exact⟨rfl,rfl,rfl⟩) ?_;intro x hx1 hx2 hx3 hx4 hx5 hx6;refine(P7 m (.yld 904 0) (fun k=>(904,LR x sgE)::sgK s i m (sgP s i m k)) hm (fun k=>rfl) ?_).mono ?_
 ·intro k hk;have hd:=MD m _ (oD (d:=0) (by rw[sC];exact hk));have hst:=fun H=>Z0 s i k H hs (by omega) (by omega);have hfl:=aGI s i m k;have hnx:=aDI s i m k;have hch:=fun H=>SL (eL s i k) ((wU m).getD k 0) H (by rw[qH];decide) (by omega);obtain ⟨d,hdd⟩:∃d,d=(wU m).getD k 0:=⟨_,rfl⟩;rw[<-hdd]at hd hnx hch |-;refine .inl ⟨904,0,rfl,?_⟩;refine ZM [(4,.ref 4 0 0 0),(6,.ref 6 0 0 0),(10,.ref 10 0 0 0),(11,iv (k:Int)),(12,iv (d:Int))] (sgK s i m (sgP s i m k)) hx1 hx2 hx3 hx4 hx5 hx6 rfl rfl rfl rfl rfl ?_ ?_
  ·refine Sr<|Dd aM<|Zz<|Rg<|Da ?_;exact(cD.wk (Ea<|Ea<|Ea<|Eb<|Eb<|trivial) (Hc (jW (by intro p hp;simp only[sgE,aOH,aOL,or_false]at hp;rcases hp with rfl|rfl|rfl<;>(simp only[qE];rfl)))<|Hc (aU _ _)<|Ha<|Hc (wH _ _)<|Hb<|Hb<|Hb<|trivial) ⟨rfl,rfl,rfl,rfl,rfl,rfl,rfl,trivial⟩)
  rw[hnx,aGJ];refine aD<|aP follows<|Cr [10] (fun _ h=>fh iG h)<|Cr [10] (fun _ h=>lh aJ h)<|Cr [4] (fun _ h=>lh isAgg9 h)<|Cr [6] (fun _ h=>lh isAgg3 h)<|Cr [] (fun _ _=>aG)<|Cr [] (fun H1 hH=>by exact aA rfl rfl call96 rfl (hst _))<|Cr [] (fun _ _=>aG)<|Cr [] (fun H1 hH=>by exact aA rfl rfl aNe rfl (hch _))<|Cr [] (fun H1 hH=>by exact aQ [[.str (mY (eL s i k) d)]] rfl bT rfl rfl rfl rfl rfl (by intro r hr;rw[aNy]at hr;subst hr;rfl))<|Cp [905] (fun H1 hH=>by exact cF (ps:=[[.str (mY (eL s i k) d)]]) rfl bT CH rfl ((hH _ rfl).trans rfl) rfl rfl rfl (cT _) rfl (by intro r hr;rw[aNy]at hr;subst hr;rfl) (m:=1) rfl (by omega) rfl (kX (sgP s i m k) (mY (eL s i k) d)))<|Cr [10] (fun _ h=>fh iG h)<|Cp [10] (fun H1 hH=>by exact bD rfl sizeOf22 rfl rfl rfl ((hH _ rfl).trans rfl) rfl rfl (by simp only[aNx,List.length_nil];omega) (by simp only[Zl,encStr];rfl) (by simp only[Zl,encStr];rfl)) ?_;refine bK<|Kr ?_;exact⟨[(905,⟨(sgP s i m k).length+1,1,9,bP (sgP s i m k++[mY (eL s i k) d])⟩),(10,bx 3 25 [iv (i:Int),.osl 905 ((sgP s i m k).length+1) 0 ((sgP s i m k).length+1),.pv .nils]),(961,K0 m),(8,bx 3 25 [iv 0,.pv (.sl []),.pv (.sl [])]),(6,bx 1 3 [iv (i:Int)]),(4,bx 1 9 [sv s])],(cD.wk trivial (Hc (jW (by intro p hp;simp only[sgE,aOH,aOL,or_false]at hp;rcases hp with rfl|rfl|rfl<;>(simp only[qE];rfl)))<|Hc (aU _ _)<|Ha<|Hc (wH _ _)<|Hb<|Hb<|Hb<|trivial) ⟨rfl,rfl,rfl,rfl,rfl,rfl,rfl,trivial⟩),rfl,rfl⟩
 rintro r H' ⟨rfl,rfl⟩;refine⟨x,_,rfl,by rw[hx1];decide,rfl,fun z=>?_⟩;rw[hx2,show sgP s i m 18=B1 s i m from rfl];obtain ⟨S,hS⟩:∃S,S=B1 s i m:=⟨_,rfl⟩;rw[<-hS];have hol:(S.map encStr).length=S.length:=aNv _;refine fL.ent (cD.fzG (id:=905) (E':=[(1,iv (h:Int)),(4,.ref 4 0 0 0),(6,.ref 6 0 0 0),(8,.ref 8 0 0 0),(10,.ref 10 0 0 0)]) (H':=(10,bx 3 25 [iv (i:Int),.pv (aS S),.pv .nils])::sgT s i) (S.map encStr) rfl (dR _) ?_ rfl ?_ ?_) ?_
 ·intro p hp;simp only[aOH,aOL,or_false]at hp;rcases hp with rfl|rfl|rfl|rfl|rfl
  ·exact⟨_,rfl,.same (by simp)⟩
  ·exact⟨_,rfl,.same (by simp;rfl)⟩
  ·exact⟨_,rfl,.same (by simp;rfl)⟩
  ·exact⟨_,rfl,.same (by simp;rfl)⟩
  exact⟨_,rfl,.same (by simp;rfl)⟩
 ·refine⟨⟨_,rfl,rfl,rfl,rfl,nG rfl (cG (.same (by simp)) (cG (.osl ?_) (cG (.same (by simp)) nO)))⟩,⟨_,rfl,rfl,rfl,rfl,eJ (by simp)⟩,⟨_,rfl,rfl,rfl,rfl,eJ (by simp)⟩,⟨_,rfl,rfl,rfl,rfl,eJ (by simp)⟩,trivial⟩;rw[aON,List.drop_zero,<-hol,List.take_length]
 ·exact trivial
 refine Sq<|Sq<|aP follows<|Cq (bQ isAgg9)<|Cq aG<|Cq (by exact aA rfl rfl call86 rfl (hkeys _))<|Cq (bQ isAgg3)<|Cq aM<|Cq aM<|bK<|Kr<|aD ?_;refine fL.ent (E':=[(8,.ref 8 0 0 0),(10,.ref 10 0 0 0),(13,.pv (aS (fG s h))),(14,iv (i:Int))]) (H':=(906,⟨0,1,9,[]⟩)::(10,bx 3 25 [iv (i:Int),.pv (aS S),.osl 906 0 0 0])::sgT s i) ?_ ?_
 ·exact(cD.nz 906 1 9 rfl rfl ⟨⟨_,rfl,(by exact Nz.same (by(simp;rfl)))⟩,⟨_,rfl,(by exact Nz.same (by(simp;rfl)))⟩,⟨_,rfl,(by exact Nz.same (by(simp;done)))⟩,⟨_,rfl,(by exact Nz.same (by(simp;done)))⟩,trivial⟩ ⟨⟨_,rfl,rfl,rfl,rfl,(by exact .inr ⟨_,_,rfl,rfl,(by repeat(first|exact trivial|refine⟨(by first|exact Nz.own|exact Nz.same (by(simp;done))),?_⟩))⟩)⟩,⟨_,rfl,rfl,rfl,rfl,(by exact .inl ⟨rfl,(by(simp;done))⟩)⟩,⟨_,rfl,rfl,rfl,rfl,(by exact .inl ⟨rfl,(by(simp;done))⟩)⟩,⟨_,rfl,rfl,rfl,rfl,(by exact .inl ⟨rfl,(by(simp;done))⟩)⟩,trivial⟩ trivial)
 refine BY (fun(j:Nat) (l:List ByteArray) (q:Nat) (A:List ByteArray)=>([(8,.ref 8 0 0 0),(10,.ref 10 0 0 0),(13,.pv (aS l)),(14,iv (q:Int))],[(906,⟨A.length,1,9,bP A⟩),(10,bx 3 25 [iv (i:Int),.pv (aS S),.osl 906 A.length 0 A.length]),(8,bx 3 25 [iv 0,.pv (.sl []),.pv (.sl [])]),(6,bx 1 3 [iv (i:Int)]),(4,bx 1 9 [sv s])]))
  (fun j l q A=>l.length=2 ^ j/\q<2 ^ j/\A++gV j l q=gV h (fG s h) i/\(∀t∈l,t.size=16)/\j<=8/\A.length+j<=8) (fun j l q A=>j) h (fG s h) i [] ⟨hkl,hi,rfl,fun t ht=>jN (sL s h t ht),hh,by rw[List.length_nil];omega⟩ ?_ ?_
 ·exact(cD.wk (Ea<|Ea<|Eb<|Eb<|trivial) (Hc (aU _ _)<|Ha<|Hb<|Hb<|Hb<|trivial) trivial)
 rintro j l q A ⟨hl,hq,hr,hz,hj,hA⟩;have hml:(l.map encStr).length=l.length:=aNv _;have hpj:=nE hj;refine Sq<|Sr<|Dd aG<|Dd (fZ aC)<|Dd mN<|Zz ?_;refine Cn ?_ ?_<;>intro hc2
 ·have hlt:1<l.length:=by have:=aNr hc2;omega
  obtain ⟨u,rfl⟩:∃u,j=u+1:=by
   cases j with
   |zero=>rw[hl]at hlt;exact absurd hlt (by decide)
   |succ u=>exact⟨u,rfl⟩
  have hl2:l.length=2*2 ^ u:=by rw[hl,Nat.pow_succ,Nat.mul_comm]
  have hpu:=nE (h:=u) (by omega);have hq2:q / 2<2 ^ u:=by rw[Nat.pow_succ]at hq;omega
  have hx:=IK q;have hxl:q ^^^ 1<l.length:=by
   rw[hx]
   split<;>omega
  have hix:(l.map encStr)[q ^^^ 1]?=some (encStr (l.getD (q ^^^ 1) sNil)):=by
   rw[aOP,List.getD_eq_getElem?_getD,aOA hxl];rfl
  have hr2:(A++[l.getD (q ^^^ 1) sNil])++gV u (zK l) (q / 2)=gV h (fG s h) i:=by
   rw[<-hr,List.append_assoc];rfl
  obtain ⟨e,he⟩:∃e,e=l.getD (q ^^^ 1) sNil:=⟨_,rfl⟩;obtain ⟨y,hy⟩:∃y,y=q ^^^ 1:=⟨_,rfl⟩;have hxo:=aFh (a:=q) (b:=1) (by omega) (by decide);rw[<-he]at hix hr2;rw[<-hy]at hix hxo hxl;have hnl:(A++[e]).length=A.length+1:=by rw[aNw];rfl
  refine aF<|Sq<|aD<|aP follows<|Cr [10] (fun _ h=>fh lF h)<|Cr [10] (fun _ h=>lh aJ h)<|Cr [] (fun _ _=>aG)<|Cr [] (fun _ _=>aG)<|Cr [] (fun H1 hH=>by exact kU rfl (by simp) rfl rfl hxo)<|Cr [] (fun H1 hH=>by exact aT rfl bT rfl rfl (by omega) (by exact aOG _) hix rfl)<|Cr [] (fun _ _=>(kS isAgg9 (hi:=hix)))<|Cr [] (fun H1 hH=>by exact aQ [[.str e]] rfl bT rfl rfl rfl rfl rfl (by intro r hr;rw[aNy]at hr;subst hr;rfl))<|Cp [906] (fun H1 hH=>by exact cF (ps:=[[.str e]]) rfl bT CH rfl ((hH _ rfl).trans rfl) rfl rfl rfl (cT _) rfl (by intro r hr;rw[aNy]at hr;subst hr;rfl) (m:=1) rfl (by omega) rfl (kX A e))<|Cr [10] (fun _ h=>fh lF h)<|Cp [10] (fun H1 hH=>by exact bD rfl sizeOf22 rfl rfl rfl ((hH _ rfl).trans rfl) rfl rfl (by simp only[aNx,List.length_nil];omega) (by simp only[Zl,encStr];rfl) (by simp only[Zl,encStr];rfl)) ?_;refine bK<|Kr<|Rg<|Dd aG<|Dd (by exact aA rfl rfl call87 rfl (aAi l (2 ^ u) _ hl2 (by omega) hz))<|Dd aG<|Dd (by exact rR rfl rfl rfl (by decide) (show IntKind.i64.wrap ((q:Int).tdiv 2)=((q / 2:Nat):Int)by rw[Int.tdiv_eq_ediv_of_nonneg (by omega),iY (by omega) (by omega)];omega))<|Dd aM<|Da ?_;refine⟨u,zK l,q / 2,A++[e],⟨rO _ _ hl2,hq2,hr2,fun t ht=>jN (DR _ _ (aOB _) t ht),by omega,by omega⟩,by omega,?_⟩;dsimp only;rw[hnl];exact(cD.wk (Ea<|Ea<|Eb<|Eb<|trivial) (Hc (aU _ _)<|Ha<|Hb<|Hb<|Hb<|trivial) trivial)
 have hge:l.length<=1:=by have:=aNs hc2;omega
 have hj0:j=0:=by
  cases j with
  |zero=>rfl
  |succ u =>
   have:2 ^ (u+1)=2*2 ^ u:=by rw[Nat.pow_succ,Nat.mul_comm]
   have:0<2 ^ u:=Nat.two_pow_pos u;omega
 subst hj0;have hA2:A=gV h (fG s h) i:=by rw[<-hr,gV,List.append_nil]
 have hal:(A.map encStr).length=A.length:=aNv _;rw[<-hA2];refine aY<|Sq ?_;refine fL.ent (cD.fzG (id:=906) (E':=[(8,.ref 8 0 0 0),(10,.ref 10 0 0 0)]) (H':=(10,bx 3 25 [iv (i:Int),.pv (aS S),.pv (aS A)])::sgT s i) (A.map encStr) rfl (dR _) ?_ rfl ?_ ?_) ?_
 ·intro p hp;simp only[aOH,aOL,or_false]at hp;rcases hp with rfl|rfl
  ·exact⟨_,rfl,.same (by simp;rfl)⟩
  exact⟨_,rfl,.same (by simp;rfl)⟩
 ·refine⟨⟨_,rfl,rfl,rfl,rfl,nG rfl (cG (.same (by simp)) (cG (.same (by simp)) (cG (.osl ?_) nO)))⟩,⟨_,rfl,rfl,rfl,rfl,eJ (by simp)⟩,⟨_,rfl,rfl,rfl,rfl,eJ (by simp)⟩,⟨_,rfl,rfl,rfl,rfl,eJ (by simp)⟩,trivial⟩;rw[aON,List.drop_zero,<-hal,List.take_length]
 ·exact trivial
 refine Rg<|Dd (by exact aN rfl eA sizeOf25 rfl rfl rfl rfl (by simp only[Zl,encStr];rfl) rfl)<|Uu (kG sizeOf25)<|Dd aM<|Zz<|aE ?_;refine tX (H':=[]) (.inr rfl) rfl (fF rfl eA sizeOf25 rfl rfl rfl (by simp only[Zl,encStr];rfl) rfl) (aW rfl) (Fin.wk (by simp) trivial trivial) ?_;exact Qq
end Go.Proofs.YtmdicgjnmfolfaaGreatDoor
namespace Go.Abs
open Go.RowKit
theorem Rel.below{I:Nat->Prop}{ι:dX}{H:aB}{w w':World}(hb:Below w.heap.size w w')(hr:Rel I ι H w):Rel I ι H w'/\Step I ι H w I ι H w':=by
 have hk:∀b,b<w.heap.size->w'.heap[b]?=w.heap[b]?:=hb.block;have hst:Step I ι H w I ι H w':=by
  refine⟨hb.os,hb.tape,hb.output,hb.size,fun a ha _=>?_,fun _ h=>h,fun _ h=>.inl h,fun _ h=>.inl h,fun b hb _=>hk b hb,fun _ o h=>⟨o,h,aOB _,fun _=>⟨rfl,rfl,fun _=>aOB _⟩⟩⟩;unfold World.frozen?;rw[hk _ ha]
 refine⟨⟨fun b h=>?_,fun j o hj=>?_,hr.inj,hst.glob hr⟩,hst⟩
 ·have:=hr.imm b h;have:=hb.size;omega
 exact(hr.obj j o hj).keep rfl (fun b c _ hb=>⟨hk b hb,fun h=>h⟩) (fun r _ a _ v hv=>hv.mono hr hst)
end Go.Abs
namespace Go.Abs
open Go.Proofs
variable{P:Program}{ρ:Shelf.Ren}
def aIN(v:Value):Prop:=∃t p,v=.iface t p
abbrev aBs:PV:=.sat aIN
def mO(s:ByteArray):Int×PV:=match Lib.atoiAll s.data.toList with
 |.ok v=>(v,GB)
 |.range=>(Lib.atoiSat s.data.toList,aBs)
 |_=>(0,aBs)
theorem atoi_c(L:LaysC.n172 P ρ){G1 G2:Nat}(hg1:(G1,GV.face)∈R8)(hn1:P.globalNamed "strconv.ErrSyntax" = some G1)(hg2:(G2,GV.face)∈R8)(hn2:P.globalNamed "strconv.ErrRange" = some G2)(s:ByteArray)(hs:s.size<1099511627776)(H:aB):
  aH P (ρ.f 172) [.pv (.str s)] H (fun r H'=>r=.tup [.pv (.int .i64 (mO s).1),.pv (mO s).2]/\H'=H):=by
 intro I ι w vs hr hvl hv;obtain ⟨v,rfl⟩:∃v,vs=#[v]:=by
  match vs,hvl with
  |⟨[v]⟩,_=>exact⟨v,rfl⟩
 have e1:=(hv 0 v _ rfl rfl).str_inv;subst e1;have hvar:∀(name:String) (G:Nat),(G,GV.face)∈R8->P.globalNamed name=some G->∃t p,w.var? P name=some #[.iface t p]:=fun name G hg hn=>by
  obtain ⟨_,cs,t,f,h2,q,p,h3⟩:=hr.glob _ hg;subst h3;exact⟨q,p,by simp only[World.var?,hn,Option.bind_some,h2]⟩
 have fin:∀(n:Int) (x:Value) (a:PV) (w':World),RowKit.Below w.heap.size w w'->(∀I H,VRel w' I ι H x (.pv a))->∃r H' I' ι' v',(Ending.returned (.tuple #[.int .i64 n,x]))=.returned v'/\(r=.tup [.pv (.int .i64 n),.pv a]/\H'=H)/\VRel w' I' ι' H' v' r/\Rel I' ι' H' w'/\Step I ι H w I' ι' H' w':=fun n x a w' hb hx=>by
  obtain ⟨k1,k2⟩:=Rel.below hb hr;refine⟨_,_,I,ι,_,rfl,⟨rfl,rfl⟩,.tup rfl fun i v b h1 h2=>?_,k1,k2⟩
  match i,h1,h2 with
  |0,h1,h2=>cases h1;cases h2;exact .pv (.int _ _)
  |1,h1,h2=>cases h1;cases h2;exact hx _ _
  |i+2,h1,h2=>simp at h1
 rw[mO];cases h:Lib.atoiAll s.data.toList with
 | ok n =>
  refine(Any.strconv_Atoi_ok L s (by omega) n h w).mono ?_;rintro e w' ⟨rfl,hw⟩;have hb:RowKit.Below w.heap.size w w':=by
   rcases hw with rfl|⟨t,rfl⟩
   ·exact RowKit.Below.refl _ _
   exact Lib.bytesWorld_below w _ t
  exact fin n .nilIface GB w' hb (fun _ _=>.pv (.sat rfl rfl))
 |range =>
  obtain ⟨t,p,hq⟩:=hvar _ G2 hg2 hn2;refine(Any.strconv_Atoi_range_var L s (by omega) h t p w hq).mono ?_;rintro e w' ⟨N,rfl,_,_,hb⟩;exact fin _ _ aBs w' hb (fun _ _=>.pv (.sat rfl ⟨_,_,rfl⟩))
 |_ =>
  obtain ⟨t,p,hq⟩:=hvar _ G1 hg1 hn1;refine(Any.strconv_Atoi_syntax_var L s (by omega) h t p w hq).mono ?_;rintro e w' ⟨N,rfl,_,_,hb⟩;exact fin 0 _ aBs w' hb (fun _ _=>.pv (.sat rfl ⟨_,_,rfl⟩))
theorem W1(L:Lays.n160 P ρ)(h116:(P.info? (ρ.t 116)).map (fun i=>(i.zero,i.size))=some (some (.agg (Array.replicate 256 (.bool false))),256))(s c:ByteArray)(hs:s.size<=9223372036854775807)(hcs:c.size<4294967281)
  (ha:∀(j:Nat) b,c.data.toList[j]?=some b->b.toNat<128) (H:aB) :
  aH P (ρ.f 160) [.pv (.str s),.pv (.str c)] H (fun r H'=>r=.pv (.str ⟨(Lib.trimS s.data.toList c.data.toList).toArray⟩)/\H'=H):=by
 intro I ι w vs hr hvl hv;obtain ⟨v,u,rfl⟩:∃v u,vs=#[v,u]:=by
  match vs,hvl with
  |⟨[v,u]⟩,_=>exact⟨v,u,rfl⟩
 have e1:=(hv 0 v _ rfl rfl).str_inv;have e2:=(hv 1 u _ rfl rfl).str_inv;subst e1 e2;refine(Any.strings_Trim_laid L h116 s c w hs hcs ha).mono ?_;rintro e w' ⟨rfl,hb⟩;obtain ⟨k1,k2⟩:=Rel.below hb hr;exact⟨_,_,I,ι,_,rfl,⟨rfl,rfl⟩,.pv (.str _),k1,k2⟩
end Go.Abs
section
namespace Go.Proofs
open Go.RowKit Go.Sort Go.Shelf
def aNm:Go.Shelf.Ren:=⟨fun|160=>125|232=>169|231=>168|227=>170|234=>172|233=>171|236=>174|235=>173|228=>210|271=>213|151=>212|197=>211|120=>248|152=>247|260=>246|137=>140|119=>270|224=>222|225=>221|217=>180|266=>214|n=>n,fun|9=>9|4=>4|3=>3|5=>5|117=>193|116=>192|0=>0|124=>196|21=>21|105=>227|46=>125|119=>158|139=>277|138=>276|n=>n,fun|3=>4|4=>5|n=>n⟩
theorem aNo:Go.Proofs.Lays.n160 Tryz.prog aNm:={
  mixed:=by kernel_rfl
  f119:=Tryz.func270.trans (congrArg some (by kernel_rfl))
  f120:=Tryz.func248.trans (congrArg some (by kernel_rfl))
  f137:=Tryz.func140.trans (congrArg some (by kernel_rfl))
  f151:=Tryz.func212.trans (congrArg some (by kernel_rfl))
  f152:=Tryz.func247.trans (congrArg some (by kernel_rfl))
  f160:=Tryz.func125.trans (congrArg some (by kernel_rfl))
  f197:=Tryz.func211.trans (congrArg some (by kernel_rfl))
  f217:=Tryz.func180.trans (congrArg some (by kernel_rfl))
  f224:=Tryz.func222.trans (congrArg some (by kernel_rfl))
  f225:=Tryz.func221.trans (congrArg some (by kernel_rfl))
  f227:=Tryz.func170.trans (congrArg some (by kernel_rfl))
  f228:=Tryz.func210.trans (congrArg some (by kernel_rfl))
  f231:=Tryz.func168.trans (congrArg some (by kernel_rfl))
  f232:=Tryz.func169.trans (congrArg some (by kernel_rfl))
  f233:=Tryz.func171.trans (congrArg some (by kernel_rfl))
  f234:=Tryz.func172.trans (congrArg some (by kernel_rfl))
  f235:=Tryz.func173.trans (congrArg some (by kernel_rfl))
  f236:=Tryz.func174.trans (congrArg some (by kernel_rfl))
  f260:=Tryz.func246.trans (congrArg some (by kernel_rfl))
  f266:=Tryz.func214.trans (congrArg some (by kernel_rfl))
  f271:=Tryz.func213.trans (congrArg some (by kernel_rfl))
  t0:=aFV
  a0:=aNc
  z0:=aNN
  v0:=aHu
  t3:=Tryz.underlying3
  a3:=Tryz.isAgg3
  z3:=Tryz.sizeOf3
  v3:=sP
  t4:=dV
  a4:=uC
  z4:=Tryz.sizeOf4
  v4:=BB
  t5:=dU
  a5:=zO
  z5:=bV
  v5:=BA
  t9:=Tryz.underlying9
  a9:=Tryz.isAgg9
  z9:=Tryz.sizeOf9
  v9:=sO
  t21:=Tryz.underlying21
  a21:=Tryz.isAgg21
  z21:=Tryz.sizeOf21
  v21:=Tryz.zeroValue21
  t46:=DL
  a46:=WV
  z46:=SZ
  v46:=FP
  t105:=Tryz.underlying227
  a105:=Tryz.isAgg227
  z105:=Tryz.sizeOf227
  v105:=Tryz.zeroValue227
  t116:=Tryz.underlying192
  a116:=Tryz.isAgg192
  z116:=Tryz.sizeOf192
  t117:=Tryz.underlying193
  a117:=Tryz.isAgg193
  z117:=Tryz.sizeOf193
  v117:=Tryz.zeroValue193
  t119:=eS
  a119:=aME
  z119:=vQ
  t124:=Tryz.underlying196
  a124:=Tryz.isAgg196
  z124:=Tryz.sizeOf196
  v124:=Tryz.zeroValue196
  t138:=Tryz.underlying276
  a138:=Tryz.isAgg276
  z138:=Tryz.sizeOf276
  v138:=Tryz.zeroValue276
  t139:=Tryz.underlying277
  a139:=Tryz.isAgg277
  z139:=Tryz.sizeOf277
  v139:=Tryz.zeroValue277
  g3:=by kernel_rfl
  g4:=by kernel_rfl}
end Go.Proofs
namespace Go.Proofs.YtmdicgjnmfolfaaGreatDoor
open Go.Proofs.Tryz
open Go.Abs
abbrev HXT:ByteArray:=⟨#[48,49,50,51,52,53,54,55,56,57,97,98,99,100,101,102]⟩
theorem aJh(b:UInt8):HXT.data.toList.contains b=U4 b:=by
 have h:∀n:Fin 256,HXT.data.toList.contains (UInt8.ofNat n.1)=U4 (UInt8.ofNat n.1):=by decide +kernel
 have:=h ⟨b.toNat,b.toNat_lt⟩
 simpa using this
theorem vM{α:Type}(p:α->Bool):∀l:List α,l.dropWhile p=[]↔l.all p=true
 | []=>by simp
 |a::r=>by
  rw[List.dropWhile_cons,List.all_cons];cases h:p a with
  |true=>rw[aNu rfl,Bool.true_and];exact vM p r
  |false=>rw[aNt (by decide)];simp
theorem CI{α:Type}{p q:α->Bool}:∀ {l:List α},(l.dropWhile p).all q=true->(∀a,p a=true->q a=true)->l.all q=true
 | [],_,_=>rfl
 | a::r,h,hpq=>by
  rw[List.dropWhile_cons]at h;cases hp:p a with
  |true =>
   rw[hp,aNu rfl]at h;rw[List.all_cons,hpq a hp,Bool.true_and];exact CI h hpq
  |false =>
   rw[hp,aNt (by decide)]at h;exact h
theorem aCo(l:List UInt8):Lib.trimS l HXT.data.toList=[]↔l.all U4=true:=by
 have e:(fun b=>HXT.data.toList.contains b)=U4:=funext aJh;unfold Lib.trimS Lib.trimLeftS Lib.trimRightS;rw[e,vM];constructor
 ·intro h;rw[List.all_reverse]at h;have h2:=CI h (fun a ha=>ha)
  rwa [List.all_reverse]at h2
 intro h;have h2:(l.reverse.dropWhile U4)=[]:=(vM _ _).2 (by rw[List.all_reverse];exact h);rw[h2];rfl
theorem aFu(s:ByteArray)(hs:s.size<1099511627776)(H:aB):aH Tryz.prog 125 [sv s,sv HXT] H (fun r H'=>r=sv ⟨(Lib.trimS s.data.toList HXT.data.toList).toArray⟩/\H'=H) :=W1 aNo (by kernel_rfl) s HXT (by omega) (by decide) (ascii_of_all (by decide)) H
theorem aEV(s:ByteArray)(hs:s.size<1099511627776)(H:aB):aH Tryz.prog 73 [sv s] H (fun r H'=>r=bv (isJ s)/\H'=H):=by
 refine Pu ?_;have htr:=fun H=>aFu s hs H;have hn:=aCo s.data.toList;obtain ⟨t,ht⟩:∃t,t=Lib.trimS s.data.toList HXT.data.toList:=⟨_,rfl⟩;rw[<-ht]at htr hn;have hb:isJ s=(decide ((s.size:Int)=16)&&decide ((⟨t.toArray⟩:ByteArray)=sNil)):=by
  rw[isJ];congr 1
  ·exact decide_eq_decide.2 (by omega)
  have h2:((⟨t.toArray⟩:ByteArray)=sNil)↔t=[]:=by
   constructor
   ·intro h;have:=congrArg (fun b:ByteArray=>b.data.toList) h
    simpa using this
   intro h;rw[h]
  cases h3:s.data.toList.all U4 with
  |true=>exact(decide_eq_true (h2.2 (hn.2 h3))).symm
  |false=>exact(decide_eq_false (fun h=>by rw[hn.1 (h2.1 h)]at h3;cases h3)).symm
 clear ht hn;refine Bd func73 rfl ntmps73<|Sr<|Dd aM<|Zz<|Sq ?_;refine bF (t:=2) (n:=10) (X:=isJ s) ?_ ?_
 ·all_goals refine Dd aG ?_
  all_goals refine Dd (nF underlying9)<|Dd dK<|Dm ?_
  all_goals refine Sp 6 (fun h6=>?_) fun h6=>?_
  all_goals try contradiction
  all_goals first|refine Fo<|Fo<|Fo ?_|refine On aG<|On (by exact aA rfl rfl call125 rfl (htr _))<|On B3 ?_
  all_goals refine Dd cN<|Da ?_
  all_goals(exact⟨⟨_,rfl,by(rw[hb,h6];rfl)⟩,rfl,rfl,rfl⟩)
 exact aE<|Rt<|Qq
end Go.Proofs.YtmdicgjnmfolfaaGreatDoor
end
