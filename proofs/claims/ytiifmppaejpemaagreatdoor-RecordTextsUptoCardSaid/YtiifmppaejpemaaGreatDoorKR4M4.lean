/-
  Parts of the proof: rules of an abstract program logic, contracts of functions, plain laws. Conditions: each theorem's own.
-/
import Derived.Test.YtiifmppaejpemaaGreatDoorKR4M3
import Derived.Scope
import Derived.ChangeKeysEq
import Derived.Shelf.SortM.Plain
import Derived.Shelf.SortM.SortNone
import Derived.Ground.SlgmProg
import Derived.Shelf.Strconv.Itoa3
import Derived.Shelf.Bits.Mul64
import Derived.Shelf.LaysM
import Derived.Ground.NamesProg
import Derived.Shelf.Lays
set_option linter.unusedVariables false
set_option linter.unusedSimpArgs false
set_option maxRecDepth 100000
set_option maxHeartbeats 8000000
namespace Go.Proofs
theorem tW:type_of% Tryz.call236:=Tryz.call236
theorem AU:type_of% Tryz.call247:=Tryz.call247
theorem tU:type_of% Tryz.call248:=Tryz.call248
theorem aAk:type_of% Tryz.call265:=Tryz.call265
theorem QG:type_of% Tryz.call66:=Tryz.call66
theorem jX:type_of% Tryz.eqGuardType73:=Tryz.eqGuardType73
theorem aLE:type_of% Tryz.isAgg0:=Tryz.isAgg0
theorem cO:type_of% Tryz.isAgg124:=Tryz.isAgg124
theorem FK:type_of% Tryz.isAgg126:=Tryz.isAgg126
theorem TY:type_of% Tryz.isAgg128:=Tryz.isAgg128
theorem cU:type_of% Tryz.isAgg151:=Tryz.isAgg151
theorem cN:type_of% Tryz.isAgg153:=Tryz.isAgg153
theorem bS:type_of% Tryz.isAgg155:=Tryz.isAgg155
theorem pN:type_of% Tryz.isAgg20:=Tryz.isAgg20
theorem aJ:type_of% Tryz.isAgg22:=Tryz.isAgg22
theorem sD:type_of% Tryz.isAgg4:=Tryz.isAgg4
theorem dQ:type_of% Tryz.isAgg73:=Tryz.isAgg73
theorem aKm:type_of% Tryz.sizeOf0:=Tryz.sizeOf0
theorem B8:type_of% Tryz.sizeOf126:=Tryz.sizeOf126
theorem QD:type_of% Tryz.sizeOf128:=Tryz.sizeOf128
theorem QC:type_of% Tryz.sizeOf131:=Tryz.sizeOf131
theorem aDZ:type_of% Tryz.underlying0:=Tryz.underlying0
theorem sA:type_of% Tryz.underlying126:=Tryz.underlying126
theorem B6:type_of% Tryz.underlying128:=Tryz.underlying128
theorem rZ:type_of% Tryz.underlying131:=Tryz.underlying131
theorem D1:type_of% Tryz.underlying20:=Tryz.underlying20
theorem cL:type_of% Tryz.underlying4:=Tryz.underlying4
theorem aFq:type_of% Tryz.zeroValue0:=Tryz.zeroValue0
theorem DY:type_of% Tryz.zeroValue128:=Tryz.zeroValue128
end Go.Proofs
namespace Go.Proofs.YtiifmppaejpemaaGreatDoor
open Go.Proofs.Tryz
open Go.Abs
def fQ (k:Int):ByteArray:=if k=1 then⟨#[110,111,100,101]⟩else if k=2 then⟨#[119,97,121]⟩else if k=3 then⟨#[97,114,101,97]⟩else if k=4 then⟨#[114,111,117,116,101]⟩else if k=5 then⟨#[116,117,114,110]⟩else sNil
abbrev aDl:List AV:=[sv sNil,sv ⟨#[110,111,100,101]⟩,sv ⟨#[119,97,121]⟩,sv ⟨#[97,114,101,97]⟩,sv ⟨#[114,111,117,116,101]⟩,sv ⟨#[116,117,114,110]⟩]
theorem six {k:Int} (h0:0≤k) (h1:k < 6):k=0∨k=1∨k=2∨k=3∨k=4∨k=5:=by omega
theorem aDk {k:Int} (h0:0≤k) (h1:k < 6):aDl[k.toNat]?=some (sv (fQ k)):=by rcases six h0 h1 with rfl|rfl|rfl|rfl|rfl|rfl<;>rfl
theorem A8 (k:Int) (H:aB):aH Tryz.prog 236 [iv k] H (fun r H'=>r=sv (fQ k)∧H'=H):=by
 refine Pu ?_;refine Bd func236 rfl ntmps236<|Sr<|Dd aP<|Zz<|Sr<|Dd (by exact sJ rfl aJg rfl rfl)<|Dd (by exact bC (id:=3) rfl aIP rfl rfl)<|Uu (iH sizeOf275)<|Zz<|Sq<|Sq ?_;refine bD (t:=10) (n:=7) (X:=decide (k < 0)||decide (6≤k)) ?_ ?_
 ·all_goals refine Dd aF ?_
  all_goals refine Dd dK<|Dm ?_
  all_goals refine Sp 7 (fun h7=>?_) fun h7=>?_
  all_goals try contradiction
  all_goals first|refine Fo<|Fo ?_|refine On aF<|On JR ?_
  all_goals refine Dd cE<|Zz ?_
  all_goals(exact⟨⟨_,rfl,by(simp only [*,Zo];done)⟩,rfl,rfl,rfl⟩)
 refine Cn ?_ ?_<;>intro hc1
 ·have hn:¬ (k=1)∧¬ (k=2)∧¬ (k=3)∧¬ (k=4)∧¬ (k=5):=by
   simp only [Bool.or_eq_true,aL0] at hc1;omega
  refine Sr<|Dd aP<|Zz<|aC<|Rt ?_;exact⟨by simp only [fQ,hn.1,hn.2.1,hn.2.2.1,hn.2.2.2.1,hn.2.2.2.2,if_false],rfl⟩
 have hb:0≤k∧k < 6:=by
  simp only [aLf,aL1] at hc1;omega
 exact aE<|Sr<|Dd aF<|Dd (by exact dA (m:=k.toNat) (k2:=k.toNat) rfl underlying275 sizeOf9 rfl rfl rfl rfl hb.1 rfl (by omega) (by omega))<|Dd (by exact aK rfl isAgg9 rfl rfl rfl rfl (aDk hb.1 hb.2))<|Dd aP<|Zz<|aC<|Rt<|Qq
def BP (k:Int):Int:=if k=2 then 2 else if k=3 then 3 else if k=4 then 1 else if k=5 then 3 else 0
theorem aCT {k:Int} (h0:0≤k) (h1:k < 6):[iv 0,iv 0,iv 2,iv 3,iv 1,iv 3][k.toNat]?=some (iv (BP k)):=by rcases six h0 h1 with rfl|rfl|rfl|rfl|rfl|rfl<;>rfl
theorem X0 (k:Int) (H:aB) (h0:0≤k) (h1:k < 6):aH Tryz.prog 266 [iv k] H (fun r H'=>r=iv (BP k)∧H'=H):=by refine Pu ?_;exact Bd func266 rfl ntmps266<|Sr<|Dd aP<|Zz<|Sr<|Dd (by exact sJ rfl aJf rfl rfl)<|Dd aF<|Dd (by exact LA (m:=k.toNat) rfl underlying282 sizeOf3 isAgg3 rfl rfl h0 rfl (by omega) (aCT h0 h1))<|Dd aP<|Zz<|aC<|Rt<|Qq
def gOn (x y:Int):Bool:=((decide (0≤x)&&decide (x < 1048576))&&decide (0≤y))&&decide (y < 1048576)
theorem aK7 (x y:Int) (H:aB):aH Tryz.prog 268 [.agg [iv x,iv y]] H (fun r H'=>r=bv (gOn x y)∧H'=H):=by
 refine Pu ?_;refine Bd func268 rfl ntmps268<|Sr<|Dd (by exact bZ (id:=1) rfl rfl rfl rfl rfl)<|Dd aP<|Zz<|Sq ?_;refine bD (t:=2) (n:=22) (X:=gOn x y) ?_ ?_
 ·all_goals refine Dd (bB tK) ?_
  all_goals refine Dd (bK isAgg3)<|Dd JR<|Dm ?_
  all_goals refine Sp 6 (fun h6=>?_) fun h6=>?_
  all_goals try contradiction
  all_goals first|refine Fo<|Fo<|Fo ?_|refine On (bB tK)<|On (bK isAgg3)<|On dK ?_
  all_goals refine Dd cE<|Dm ?_
  all_goals refine Sp 11 (fun h11=>?_) fun h11=>?_
  all_goals try contradiction
  all_goals first|refine Fo<|Fo<|Fo ?_|refine On (bB tJ)<|On (bK isAgg3)<|On JR ?_
  all_goals refine Dd cE<|Dm ?_
  all_goals refine Sp 16 (fun h16=>?_) fun h16=>?_
  all_goals try contradiction
  all_goals first|refine Fo<|Fo<|Fo ?_|refine On (bB tJ)<|On (bK isAgg3)<|On dK ?_
  all_goals refine Dd cE<|Da ?_
  all_goals(exact⟨⟨_,rfl,by(simp only [gOn, *];rfl)⟩,rfl,rfl,rfl⟩)
 exact aC<|Rt<|Qq
def F6 (p:Nat→Bool) (n:Nat):Int:=match (List.range n).find? p with|some k=>(k:Int)|none => -1
def wX (p:Nat→Bool) (n:Nat):Nat:=match (List.range n).find? p with|some k=>k+1|none=>n
theorem wO {p:Nat→Bool} {n k:Nat} (hk:k < n) (hp:p k=true) (hno:∀ j,j < k→p j=false):(List.range n).find? p=some k:=by rw [List.find?_range_eq_some];exact⟨hp,by simpa using hk,fun j hj=>by simp [hno j hj]⟩
theorem wP {p:Nat→Bool} {n:Nat} (hno:∀ j,j < n→p j=false):(List.range n).find? p=none:=by rw [List.find?_eq_none];intro x hx;simp [hno x (List.mem_range.1 hx)]
theorem VN (fv:AV) (l:List ByteArray) (p:Nat→Bool) (Hs:Nat→aB) (hl:l.length < 4611686018427387904) (hf:∀ k s,l[k]?=some s→cC Tryz.prog fv [sv s] (Hs k) (fun r H'=>r=bv (p k)∧H'=Hs (k+1))) :
  aH Tryz.prog 124 [.pv (aU l),fv] (Hs 0) (fun r H'=>r=iv (F6 p l.length)∧H'=Hs (wX p l.length)):=by
 have hml:(l.map encStr).length=l.length:=aLT _;refine Bd func124 rfl ntmps124<|Sr<|Dd aP<|Zz<|Sq<|Sr<|Dd aF<|Dd (fY aD)<|Dd aF<|Zz<|aG ?_;refine bQ (σ:=Nat) (fun k=>([(0,.pv (aU l)),(1,fv),(7,iv ((l.map encStr).length:Int)),(8,iv (k:Int))],Hs k)) (fun k=>k≤l.length∧∀ j,j < k→p j=false) (fun k=>l.length - k) 0 ⟨by omega,by omega⟩ ?_ ?_
 ·exact E0
 rintro k ⟨hk,hno⟩;refine Sr<|Dd dK<|Zz<|Sq ?_;refine Cn ?_ ?_<;>intro hc1
 ·have hlt:k < l.length:=by have:=aLP hc1;omega
  obtain ⟨s,hs⟩:=bE hlt;have hi:=cJ (f:=encStr) hs;have hfo:=hf k s hs;refine aE<|Sq<|aG<|Sr<|Dd aF<|Dd aP<|Zz<|Sr<|Dd aF<|Dd aF<|Dd aF<|Dd (xZ cP)<|Dd (pH isAgg9)<|Dd (by exact bY rfl rfl rfl (hfo))<|Zz ?_;refine Cn ?_ ?_<;>intro hc2
  ·refine Sr<|Dd aF<|Dd aP<|Zz<|aC ?_;exact dF (H':=Hs (k+1)) (.inr rfl) rfl (aT rfl) Fin.refl ⟨by rw [F6,wO hlt hc2 hno],by rw [wX,wO hlt hc2 hno]⟩
  refine aE<|Rg<|Dd pM<|Dd aF<|Zz ?_;refine⟨k+1,⟨by omega,fun j hj=>?_⟩,by omega,E0⟩;by_cases e:j=k
  ·subst e;exact hc2
  exact hno j (by omega)
 have hge:k=l.length:=by have:=aLQ hc1;omega
 subst hge;refine bG<|Sr<|Dd aP<|Zz<|aC ?_;exact dF (H':=Hs l.length) (.inr rfl) rfl (aT rfl) Fin.refl ⟨by rw [F6,wP hno],by rw [wX,wP hno]⟩
theorem NE (p:Nat→Bool) (n:Nat):decide (0≤F6 p n)=(List.range n).any p:=by
 unfold F6;cases h:(List.range n).find? p with
 | none =>
  have:(List.range n).any p=false:=by
   rw [List.find?_eq_none] at h;rw [List.any_eq_false];exact h
  simp [this]
 | some i =>
  have:(List.range n).any p=true:=List.any_eq_true.2 ⟨i,List.mem_of_find?_eq_some h,List.find?_some h⟩;simp [this]
theorem oU (fv:AV) (l:List ByteArray) (p:Nat→Bool) (Hs:Nat→aB) (hl:l.length < 4611686018427387904) (hf:∀ k s,l[k]?=some s→cC Tryz.prog fv [sv s] (Hs k) (fun r H'=>r=bv (p k)∧H'=Hs (k+1))) :
  aH Tryz.prog 66 [.pv (aU l),fv] (Hs 0) (fun r H'=>r=bv ((List.range l.length).any p)∧H'=Hs (wX p l.length)):=by
 refine Bd func66 rfl ntmps66<|Sr<|Dd aP<|Zz<|Sr<|Dd aF<|Dd aF<|Dd (by exact aA rfl rfl call124 rfl (VN fv l p Hs hl hf))<|Dd JR<|Dd aP<|Zz<|aC ?_;exact dF (H':=Hs (wX p l.length)) (.inr rfl) rfl (aT rfl) Fin.refl ⟨by rw [NE],rfl⟩
theorem XD (L:List ByteArray) (H:aB):∀ r∈(sob L).rows,∀ a∈r,Clo H a:=by intro r hr a ha;obtain ⟨i,hi⟩:=aLe.1 hr;obtain ⟨p,hp,rfl⟩:=EP.1 hi;simp only [AR,aLd] at hp;obtain ⟨q,_,rfl⟩:=Option.map_eq_some_iff.1 hp;simp only [aL5,aL9,or_false] at ha;rcases ha with rfl|rfl|rfl<;>simp
def vH (o:GObj) (last:ByteArray) (L:List ByteArray):aB:=[(37,sob L),(4,bx 1 9 [sv last]),(3,bx 1 276 [.mp 37 0]),(1,bx 6 153 ((bH o).map .pv))]
theorem aG8 (o:GObj) (a:ByteArray) (L:List ByteArray) (f:Nat):Clo (vH o a L) (.clo f [.ref 1 0 0 0,.ref 4 0 0 0,.ref 3 0 0 0]):=by refine .clo fun x hx=>?_;simp only [aL5,aL9,or_false] at hx;rcases hx with rfl|rfl|rfl<;>exact .ref rfl
def PR (o:GObj) (last:ByteArray) (L:List ByteArray) (s:ByteArray):Bool:=(decide (o.kind=2)&&decide (s=last))||(decide (o.kind=3)&&inB L s)
def VU (o:GObj) (last:ByteArray) (L:List ByteArray) (s:ByteArray):Bool:=PR o last L s||!bI s
theorem aBC (o:GObj) (last s:ByteArray) (L:List ByteArray) (hs:s.size < 4611686018427387904) :
  aH Tryz.prog 267 [sv s,.ref 1 0 0 0,.ref 4 0 0 0,.ref 3 0 0 0] (vH o last L) (fun r H'=>r=bv (VU o last L s)∧H'=vH o s (IB L s)):=by
 unfold vH;refine Bd func267 rfl ntmps267<|Sr<|Dd aP<|Zz<|Sq ?_;refine bD (t:=6) (n:=22) (X:=PR o last L s) ?_ ?_
 ·all_goals refine Dd (bB gG) ?_
  all_goals refine Dd (bK isAgg3)<|Dd cY<|Dm ?_
  all_goals refine Sp 10 (fun h10=>?_) fun h10=>?_
  all_goals try contradiction
  all_goals first|refine Fo<|Fo<|Fo ?_|refine On aF<|On (bK isAgg9)<|On zZ ?_
  all_goals refine Dd cE<|Dm ?_
  all_goals refine Sp 15 (fun h15=>?_) fun h15=>?_
  all_goals try contradiction
  all_goals first|refine Fo<|Fo<|Fo<|Fo ?_|refine On (bB gG)<|On (bK isAgg3)<|On cY<|On aF ?_
  all_goals(first|refine Sp 19 (fun h19=>?_) fun h19=>?_|refine wU (t:=19) rfl ?_)
  all_goals try contradiction
  all_goals first|refine Fo ?_|refine Fu ?_|refine On (bK isAgg276) ?_
  all_goals first|refine Fo ?_|refine Fu ?_|refine On aF ?_
  all_goals first|refine Fo ?_|refine Fu ?_|refine On (by exact N9 rfl underlying276 underlying9 rfl rfl rfl rfl rfl zO (.inl rfl)) ?_
  all_goals first|refine Fo ?_|refine On cE ?_
  all_goals refine Dd cE<|Da ?_
  all_goals(exact⟨⟨_,rfl,by(simp only [PR, *];rfl)⟩,rfl,rfl,rfl⟩)
 refine Sr<|Dd (bK isAgg276)<|Dd aF<|Dd aF<|Uu (by exact YV (.inl rfl) underlying276 underlying9 rfl rfl rfl rfl rfl rfl rfl)<|Uu (iH sizeOf9)<|Zz<|Sq ?_;refine bD (t:=5) (n:=8) (X:=PR o last L s||!bI s) ?_ ?_
 ·all_goals refine Dd aF ?_
  all_goals refine Dm ?_
  all_goals refine Sp 29 (fun h29=>?_) fun h29=>?_
  all_goals try contradiction
  all_goals first|refine Fo<|Fo<|Fo ?_|refine On aF<|On (by exact aA rfl rfl mD rfl (wC s _ hs))<|On lI ?_
  all_goals refine Dd cE<|Da ?_
  all_goals(exact⟨⟨_,rfl,by(simp only [*];rfl)⟩,rfl,rfl,rfl⟩)
 refine aC ?_;refine dF (H':=vH o s (IB L s)) (.inr rfl) rfl (aT rfl) (Fin.wk (by(simp;done)) (Hc (XD _ _)<|Hb<|Ha<|Hb<|trivial) ⟨rfl,rfl,rfl,rfl,trivial⟩) ?_;exact Qq
def Q9 (l:List ByteArray):Nat→List ByteArray
 | 0=>[]
 | k+1=>IB (Q9 l k) ((l[k]?).getD sNil)
def zQ (o:GObj) (k:Nat):Bool:=match o.refs[k]? with
 | some s=>VU o (fB id o.refs k) (Q9 o.refs k) s
 | none=>false
def NG (o:GObj):Bool:=if o.kind=1 then decide ((o.refs.length:Int)=0)&&gOn o.x o.y else if o.kind=5 then decide ((o.refs.length:Int)=3)&&(decide (o.x=0)&&decide (o.y=0))else decide (o.x=0)&&decide (o.y=0)
def tI (o:GObj) (n:Int):Bool:=decide (fQ o.kind=sNil)||!bI o.id||!xD o.tags||decide (n < BP o.kind)||decide (2000 < n)
def NH (o:GObj):Bool:=tI o (o.refs.length:Int)
def mJ (o:GObj):Bool:=!NH o&&(!((List.range o.refs.length).any (zQ o))&&NG o)
def okO (o:GObj):Prop:=o.id.size < 4611686018427387904∧I7 o.tags∧o.refs.length < 4611686018427387904∧∀ s∈o.refs,s.size < 4611686018427387904
theorem zT {k:Int} (h:decide (fQ k=sNil)=false):0≤k∧k < 6:=by
 by_cases h0:0≤k∧k < 6
 ·exact h0
 have:fQ k=sNil:=by
  have hn:¬ (k=1)∧¬ (k=2)∧¬ (k=3)∧¬ (k=4)∧¬ (k=5):=by omega
  simp only [fQ,hn.1,hn.2.1,hn.2.2.1,hn.2.2.2.1,hn.2.2.2.2,if_false]
 rw [this] at h;simp at h
theorem JA (o:GObj) (H:aB) (ho:okO o):aH Tryz.prog 239 [av (bH o)] H (fun r H'=>r=bv (mJ o)∧H'=H):=by
 refine Pu ?_;obtain ⟨h1,h2,h3,h4⟩:=ho;have hml:(o.refs.map encStr).length=o.refs.length:=aLT _;refine Bd func239 rfl ntmps239<|Sr<|Dd (by exact bZ (id:=1) rfl rfl rfl rfl rfl)<|Dd aP<|Zz<|Sq<|Sq ?_;refine oI (t:=36) (n:=31) (X:=tI o ((o.refs.map encStr).length:Int)) ?_ ?_
 ·cases hg10:(decide (fQ o.kind=sNil):Bool)
  ·cases hg16:(!bI o.id:Bool)
   ·cases hg22:(!xD o.tags:Bool)
    ·cases hg31:(decide (((o.refs.map encStr).length:Int) < BP o.kind):Bool)
     ·refine aQ follows<|Cq (bB gG)<|Cq (bK isAgg3)<|Cq (by exact aA rfl rfl tW rfl (A8 o.kind _))<|Cq zZ<|Cq aF<|Nf (bB oS)<|Nf (bK isAgg9)<|Nf (by exact aA rfl rfl mD rfl (wC o.id _ h1))<|Nf lI<|Cq xA<|Cq aF<|Nf (bB fK)<|Nf (bK cU)<|Nf (by exact aA rfl rfl aAk rfl (vM o.tags _ h2))<|Nf lI<|Cq xA<|Cq aF<|Nf (bB gF)<|Nf (bK aJ)<|Nf (fY aD)<|Nf (bB gG)<|Nf (bK isAgg3)<|Nf (by exact aA rfl rfl call266 rfl (X0 o.kind _ (zT hg10).1 (zT hg10).2))<|Nf dK<|Cq xA<|Cq aF<|Nf (bB gF)<|Nf (bK aJ)<|Nf (fY aD)<|Nf mI<|Cq xA<|bJ<|Kr ?_;exact⟨rfl,⟨_,rfl,by(simp only [tI,hg10,hg16,hg22,hg31];rfl)⟩,rfl,rfl,rfl⟩
     refine aQ follows<|Cq (bB gG)<|Cq (bK isAgg3)<|Cq (by exact aA rfl rfl tW rfl (A8 o.kind _))<|Cq zZ<|Cq aF<|Nf (bB oS)<|Nf (bK isAgg9)<|Nf (by exact aA rfl rfl mD rfl (wC o.id _ h1))<|Nf lI<|Cq xA<|Cq aF<|Nf (bB fK)<|Nf (bK cU)<|Nf (by exact aA rfl rfl aAk rfl (vM o.tags _ h2))<|Nf lI<|Cq xA<|Cq aF<|Nf (bB gF)<|Nf (bK aJ)<|Nf (fY aD)<|Nf (bB gG)<|Nf (bK isAgg3)<|Nf (by exact aA rfl rfl call266 rfl (X0 o.kind _ (zT hg10).1 (zT hg10).2))<|Nf dK<|Cq xA<|Cq aF<|Of<|Of<|Of<|Of<|Cq KU<|bJ<|Kr ?_;exact⟨rfl,⟨_,rfl,by(simp only [tI,hg10,hg16,hg22,hg31];rfl)⟩,rfl,rfl,rfl⟩
    refine aQ follows<|Cq (bB gG)<|Cq (bK isAgg3)<|Cq (by exact aA rfl rfl tW rfl (A8 o.kind _))<|Cq zZ<|Cq aF<|Nf (bB oS)<|Nf (bK isAgg9)<|Nf (by exact aA rfl rfl mD rfl (wC o.id _ h1))<|Nf lI<|Cq xA<|Cq aF<|Nf (bB fK)<|Nf (bK cU)<|Nf (by exact aA rfl rfl aAk rfl (vM o.tags _ h2))<|Nf lI<|Cq xA<|Cq aF<|Of<|Of<|Of<|Of<|Of<|Of<|Of<|Cq KU<|Cq aF<|Of<|Of<|Of<|Of<|Cq cE<|bJ<|Kr ?_;exact⟨rfl,⟨_,rfl,by(simp only [tI, *];rfl)⟩,rfl,rfl,rfl⟩
   refine aQ follows<|Cq (bB gG)<|Cq (bK isAgg3)<|Cq (by exact aA rfl rfl tW rfl (A8 o.kind _))<|Cq zZ<|Cq aF<|Nf (bB oS)<|Nf (bK isAgg9)<|Nf (by exact aA rfl rfl mD rfl (wC o.id _ h1))<|Nf lI<|Cq xA<|Cq aF<|Of<|Of<|Of<|Of<|Cq KU<|Cq aF<|Of<|Of<|Of<|Of<|Of<|Of<|Of<|Cq cE<|Cq aF<|Of<|Of<|Of<|Of<|Cq cE<|bJ<|Kr ?_;exact⟨rfl,⟨_,rfl,by(simp only [tI, *];rfl)⟩,rfl,rfl,rfl⟩
  refine aQ follows<|Cq (bB gG)<|Cq (bK isAgg3)<|Cq (by exact aA rfl rfl tW rfl (A8 o.kind _))<|Cq zZ<|Cq aF<|Of<|Of<|Of<|Of<|Cq KU<|Cq aF<|Of<|Of<|Of<|Of<|Cq cE<|Cq aF<|Of<|Of<|Of<|Of<|Of<|Of<|Of<|Cq cE<|Cq aF<|Of<|Of<|Of<|Of<|Cq cE<|bJ<|Kr ?_;exact⟨rfl,⟨_,rfl,by(simp only [tI, *];rfl)⟩,rfl,rfl,rfl⟩
 refine Cn ?_ ?_<;>intro hc1
 ·refine Sr<|Dd aP<|Zz<|aC<|Rt ?_;exact⟨by rw [mJ,NH,← hml,hc1];rfl,rfl⟩
 refine aE<|Sr<|Dd (by exact FW (id:=37) UC rfl rfl)<|Dd (by exact bC (id:=3) rfl aIO rfl rfl)<|Uu (iH sizeOf276)<|Zz<|Sr<|Dd (by exact bC (id:=4) rfl zo9 rfl rfl)<|Uu (iH sizeOf9)<|Zz ?_;refine WM ([(1,.ref 1 0 0 0),(5,.clo 267 [.ref 1 0 0 0,.ref 4 0 0 0,.ref 3 0 0 0])]) (vH o sNil []) ?_ ?_
 ·refine Rg<|Dd (by exact eZ rfl rfl)<|Da ?_;exact(cD.wk (Ea<|Ec (aG8 _ _ _ _)<|trivial) (Hc (XD _ _)<|Hb<|Ha<|Hb<|trivial) trivial)
 refine Sq<|Sr<|Dd (bB gF)<|Dd (bK aJ)<|Dd aF<|Dd (by exact aA rfl rfl QG rfl (oU _ o.refs (zQ o) (fun k=>vH o (fB id o.refs k) (Q9 o.refs k)) h3 (fun k s hk=>cC.clo call267 (by rw [zQ,hk,GB hk];simp only [Q9,hk];exact aBC o _ s _ (h4 s (aL3 hk))))))<|Zz ?_;refine Cn ?_ ?_<;>intro hc2
 ·refine Sr<|Dd aP<|Zz<|aC<|Rt ?_;exact⟨by rw [mJ,hc2];simp,rfl⟩
 have hfin:mJ o=NG o:=by have h:=hc1;rw [hml] at h;rw [mJ,NH,h,hc2];rfl
 rw [hfin];clear hfin;generalize fB id o.refs (wX (zQ o) o.refs.length)=la;generalize Q9 o.refs (wX (zQ o) o.refs.length)=LL;unfold vH;refine aE<|Sq<|Sr<|Dd (bB gG)<|Dd (bK isAgg3)<|Zz<|aG<|Sr<|Dd cY<|Da ?_;refine Cn ?_ ?_<;>intro hc3
 ·refine Sq ?_;refine bD (t:=2) (n:=11) (X:=decide (((o.refs.map encStr).length:Int)=0)&&gOn o.x o.y) ?_ ?_
  ·all_goals refine Dd (bB gF) ?_
   all_goals refine Dd (bK aJ)<|Dd (fY aD)<|Dd cY<|Dm ?_
   all_goals refine Sp 51 (fun h51=>?_) fun h51=>?_
   all_goals try contradiction
   all_goals first|refine Fo<|Fo<|Fo ?_|refine On (bB nP)<|On (by exact aM rfl dQ sizeOf73 rfl rfl rfl rfl (by simp only [Zl,bF,bH];rfl) rfl)<|On (by exact aA rfl rfl call268 rfl (aK7 o.x o.y _)) ?_
   all_goals refine Dd cE<|Da ?_
   all_goals(exact⟨⟨_,rfl,by(simp_all;done)⟩,rfl,rfl,rfl⟩)
  refine aC<|Rt ?_;exact⟨by rw [NG,aLS (aLP hc3),← hml],rfl⟩
 refine Sr<|Dd cY<|Da ?_;refine Cn ?_ ?_<;>intro hc4
 ·refine Sq ?_;refine bD (t:=2) (n:=12) (X:=decide (((o.refs.map encStr).length:Int)=3)&&(decide (o.x=0)&&decide (o.y=0))) ?_ ?_
  ·all_goals refine Dd (bB gF) ?_
   all_goals refine Dd (bK aJ)<|Dd (fY aD)<|Dd cY<|Dm ?_
   all_goals refine Sp 62 (fun h62=>?_) fun h62=>?_
   all_goals try contradiction
   all_goals first|refine Fo<|Fo<|Fo<|Fo ?_|refine On (bB nP)<|On (by exact aM rfl dQ sizeOf73 rfl rfl rfl rfl (by simp only [Zl,bF,bH];rfl) rfl)<|On (uX aDC)<|On (by exact yR rfl rfl rfl rfl rfl jX (UM _ _ _ _)) ?_
   all_goals refine Dd cE<|Da ?_
   all_goals(exact⟨⟨_,rfl,by(simp_all;done)⟩,rfl,rfl,rfl⟩)
  refine aC<|Rt ?_;exact⟨by rw [NG,aLR (aLQ hc3),aLS (aLP hc4),← hml],rfl⟩
 refine aE<|Sr<|Dd (bB nP)<|Dd (by exact aM rfl dQ sizeOf73 rfl rfl rfl rfl (by simp only [Zl,bF,bH];rfl) rfl)<|Dd (uX aDC)<|Dd (by exact yR rfl rfl rfl rfl rfl jX (UM _ _ _ _))<|Dd aP<|Zz<|aC<|Rt ?_;exact⟨by rw [NG,aLR (aLQ hc3),aLR (aLQ hc4)],rfl⟩
section
def KO (n:Int):Prop:=(Lit.int .i64 n).wf=true
theorem KO.bd {n:Int} (h:KO n) : -9223372036854775808≤n∧n≤9223372036854775807:=by simpa [KO,Lit.wf,IntKind.min,IntKind.max,IntKind.signed,IntKind.bits] using h
def aBL (B:Nat) (t:GTag):Prop:=t.key.size≤B∧t.val.size≤B
def BB (B:Nat) (l:List ByteArray):Prop:=l.length≤B∧∀ s,s∈l→s.size≤B
def T9 (B:Nat) (l:List GTag):Prop:=l.length≤B∧∀ s,s∈l→aBL B s
def aBN (B:Nat) (o:GObj):Prop:=o.id.size≤B∧KO o.kind∧KO o.x∧KO o.y∧BB B o.refs∧T9 B o.tags
def OG (B:Nat) (e:GEdit):Prop:=KO e.op∧e.id.size≤B∧e.other.size≤B∧e.node.size≤B∧KO e.x∧KO e.y∧e.key.size≤B∧e.val.size≤B∧BB B e.refs∧aBN B e.obj
def XB (B:Nat) (l:List GEdit):Prop:=l.length≤B∧∀ e,e∈l→OG B e
section
variable {B n:Nat} {ps:List PV}
theorem E7 (h:Sh Tryz.prog B (n+2) 22 ps):∃ l,ps=[aU l]∧BB B l:=by
 obtain ⟨l,rfl,h1,h2⟩:=GW (f:=encStr) (good:=fun s=>s.size≤B) aD h (fun r hr=>by
  obtain ⟨s,rfl,hs⟩:=mG underlying9 hr;exact⟨s,rfl,hs⟩)
 exact⟨l,rfl,h1,h2⟩
theorem aJ6 (h:Sh Tryz.prog B (n+2) 206 ps):∃ t,ps=bF t∧aBL B t:=by obtain ⟨a,b,rfl,_,h1,a2,b2,rfl,_,h2,rfl⟩:=oA underlying206 h;obtain ⟨k,rfl,hk⟩:=mG underlying9 h1;obtain ⟨v,rfl,hv⟩:=mG underlying9 h2;exact⟨⟨k,v⟩,rfl,hk,hv⟩
theorem aHc (h:Sh Tryz.prog B (n+3) 151 ps):∃ l,ps=[qY l]∧T9 B l:=by obtain ⟨l,rfl,h1,h2⟩:=GW (f:=bF) (good:=aBL B) cM h (fun r hr=>aJ6 hr);exact⟨l,rfl,h1,h2⟩
theorem PX (h:Sh Tryz.prog B (n+2) 73 ps):∃ x y,ps=[.int .i64 x,.int .i64 y]∧KO x∧KO y:=by obtain ⟨a,b,rfl,_,h1,a2,b2,rfl,_,h2,rfl⟩:=oA underlying73 h;obtain ⟨x,rfl,hx⟩:=tB underlying3 h1;obtain ⟨y,rfl,hy⟩:=tB underlying3 h2;exact⟨x,y,rfl,hx,hy⟩
theorem aJ9 (h:Sh Tryz.prog B (n+4) 153 ps):∃ o,ps=bH o∧aBN B o:=by obtain ⟨_,_,rfl,_,h1,_,_,rfl,_,h2,_,_,rfl,_,h3,_,_,rfl,_,h4,_,_,rfl,_,h5,rfl⟩:=oA gY h;obtain ⟨id,rfl,q1⟩:=mG underlying9 h1;obtain ⟨k,rfl,q2⟩:=tB underlying3 h2;obtain ⟨x,y,rfl,q3,q4⟩:=PX h3;obtain ⟨rs,rfl,q5⟩:=E7 h4;obtain ⟨ts,rfl,q6⟩:=aHc h5;exact⟨⟨id,k,x,y,rs,ts⟩,rfl,q1,q2,q3,q4,q5,q6⟩
end
theorem Z0 {B:Nat} {l:List GTag} (hB:B < 4611686018427387904) (h:T9 B l):I7 l:=⟨by have:=h.1;omega,fun t ht=>⟨by have:=(h.2 t ht).1;omega,by have:=(h.2 t ht).2;omega⟩⟩
theorem aHK {B:Nat} {o:GObj} (hB:B < 4611686018427387904) (h:aBN B o):okO o :=⟨by have:=h.1;omega,Z0 hB h.2.2.2.2.2,by have:=h.2.2.2.2.1.1;omega,fun s hs=>by have:=h.2.2.2.2.1.2 s hs;omega⟩
section
variable {B n:Nat} {ps:List PV}
theorem aJ7 (h:Sh Tryz.prog B (n+1) 9 ps):∃ s,ps=[.str s]∧s.size≤B:=by obtain ⟨k,rfl,hk⟩:=mG underlying9 h;exact⟨k,rfl,hk⟩
end
end
end Go.Proofs.YtiifmppaejpemaaGreatDoor
namespace Go.Proofs.YtiifmppaejpemaaGreatDoor
open Go.Proofs.Tryz
open Go.Abs Go.ChangeShapes Go.WideShapes Go.ChangeAt Go.RowKit
theorem own:ownKnob Tryz.prog.godebug=none:=by kernel_rfl
theorem X2:laidOutB Tryz.prog=true:=by kernel_rfl
theorem T3 {H:Type} {l:List (DataW H)} (hk:Rows.uptoSmall H l=true):Rows.uptoBulkAll l≤1048576:=aLP hk
theorem aA1 {H:Type} {l r:List (DataW H)} {n:Nat} (h:Rows.uptoBulkAll (l++r)≤n):Rows.uptoBulkAll l≤n:=by
 induction l generalizing n with
 | nil=>simp [Rows.uptoBulkAll]
 | cons x l ih =>
  simp only [List.cons_append,Rows.uptoBulkAll] at h ⊢;have:=ih (n:=n - Rows.uptoBulk x) (by omega);omega
end Go.Proofs.YtiifmppaejpemaaGreatDoor
namespace Go.Proofs.YtiifmppaejpemaaGreatDoor
open Go.Proofs.Tryz
open Go.Abs
section
section
variable {B n:Nat} {ps:List PV}
theorem aHe (h:Sh Tryz.prog B (n+5) 155 ps):∃ o,ps=aZ o∧OG B o:=by obtain ⟨_,_,rfl,_,h1,_,_,rfl,_,h2,_,_,rfl,_,h3,_,_,rfl,_,h4,_,_,rfl,_,h5,_,_,rfl,_,h6,_,_,rfl,_,h7,_,_,rfl,_,h8,_,_,rfl,_,h9,rfl⟩:=oA eH h;obtain ⟨op,rfl,q1⟩:=tB underlying3 h1;obtain ⟨id,rfl,q2⟩:=mG underlying9 h2;obtain ⟨ot,rfl,q3⟩:=mG underlying9 h3;obtain ⟨nd,rfl,q4⟩:=mG underlying9 h4;obtain ⟨x,y,rfl,q5,q6⟩:=PX h5;obtain ⟨k,rfl,q7⟩:=mG underlying9 h6;obtain ⟨v,rfl,q8⟩:=mG underlying9 h7;obtain ⟨rs,rfl,q9⟩:=E7 h8;obtain ⟨o,rfl,q10⟩:=aJ9 h9;exact⟨⟨op,id,ot,nd,x,y,k,v,rs,o⟩,rfl,q1,q2,q3,q4,q5,q6,q7,q8,q9,q10⟩
theorem aFY (h:Sh Tryz.prog B (n+6) 23 ps):∃ l,ps=[iO l]∧XB B l:=by obtain ⟨l,rfl,h1,h2⟩:=GW (f:=aZ) (good:=OG B) dD h (fun r hr=>aHe hr);exact⟨l,rfl,h1,h2⟩
end
end
end Go.Proofs.YtiifmppaejpemaaGreatDoor
namespace Go.Abs
theorem cD.get' {G0:aB} {E E':bO} {H H':aB} (h:aD5 E E') (hH:∀ j,H'.get j=H.get j):cD G0 E H E' H':=(cD.e0 h).trans (cD.get (fun _=>rfl) hH)
theorem sT (id:Nat) (o o':Ob) (H:aB) (j:Nat):aB.get ((id,o)::H) j=aB.get ((id,o)::(id,o')::H) j:=by cases e:Nat.beq id j<;>simp [aB.get,e]
theorem cD.dup {G0:aB} {E E':bO} {H:aB} {id:Nat} {o o':Ob} (h:aD5 E E'):cD G0 E ((id,o)::(id,o')::H) E' ((id,o)::H):=cD.get' h (sT id o o' H)
theorem GN.app {D H G0:aB} (hG:∀ p∈D,G0.get p.1=none):GN G0 H (D++H):=fun id hi=>by
 rw [eO];cases e:D.get id with
 | none=>rfl
 | some o =>
  have:=hG _ (cR e);rw [this] at hi;cases hi
theorem Fin.pops' {G0 H:aB} {r:AV} (D:aB) (hr:Clo H r) (hc:cZ H) (hD:∀ p∈D,H.get p.1=none) (hG:∀ p∈D,G0.get p.1=none):Fin G0 (D++H) r H r:=by intro G hG' I ι w v h1 h2 h3;subst hG';exact⟨I,ι,h1.restrict (Sub.app hD) hc,h2.restrict (Sub.app hD) (GN.app hG),h3.restrict (Sub.app hD) hr⟩
end Go.Abs
namespace Go.Proofs.YtiifmppaejpemaaGreatDoor
open Go.Proofs.Tryz
open Go.Abs
theorem nR:∀ (x y:List UInt8),Op.bytesLess x y=decide (x < y)
 | [],[]=>by simp [Op.bytesLess]
 | _::_,[]=>by simp [Op.bytesLess]
 | [],_::_=>by simp [Op.bytesLess]
 | a::x,b::y=>by
  rw [Op.bytesLess,nR x y];simp only [List.cons_lt_cons_iff];by_cases h1:a < b<;>by_cases h2:a=b<;>by_cases h3:x < y<;>simp [h1,h2,h3]
theorem XF (s:ByteArray):CA s s=false:=by unfold CA;rw [nR];exact decide_eq_false (List.lt_irrefl _)
theorem XE {a b:ByteArray} (h1:CA a b=false) (h2:CA b a=false):a=b:=by
 unfold CA at h1 h2;rw [nR] at h1 h2;have e:a.toList=b.toList:=List.le_antisymm (List.not_lt.1 (aLQ h2)) (List.not_lt.1 (aLQ h1));have:=uP a b;rw [e] at this
 simpa using this.symm
theorem MJ {a b c:ByteArray} (h1:CA a b=true) (h2:CA b c=true):CA a c=true:=by unfold CA at *;rw [nR] at *;exact decide_eq_true (List.lt_trans (aLP h1) (aLP h2))
theorem aEE (s:ByteArray):CA s sNil=false:=by unfold CA;rw [nR,ByteArray.toList_eq sNil];exact decide_eq_false (List.not_lt_nil _)
theorem aEF {a b:ByteArray}:sle a b=false↔CA b a=true:=by
 unfold sle;constructor
 ·intro h;simp only [aLf,aL1] at h;cases e:CA b a with
  | true=>rfl
  | false=>exact absurd (XE h.1 e) h.2
 intro h;simp only [aLf,aL1];refine⟨?_,fun e=>?_⟩
 ·cases e:CA a b with
  | false=>rfl
  | true=>have:=MJ e h;rw [XF] at this;cases this
 subst e;rw [XF] at h;cases h
theorem aCb {s:ByteArray} (h:bI s=true):s≠sNil:=by simp only [bI,aL2,aLc,aL1] at h;exact h.2.1
theorem GL (fv:AV) (l:List GEdit) (p:GEdit→Bool) (H:aB) (hl:l.length < 4611686018427387904) (hf:∀ o,o∈l→cC Tryz.prog fv [.agg ((aZ o).map .pv)] H (fun r H'=>r=.pv (.bool (p o))∧H'=H)) :
    aH Tryz.prog 246 [.pv (.sl (l.map aZ)),fv] H (fun r H'=>r=.pv (.int .i64 (tH p l))∧H'=H):=by
  refine Bd func246 rfl ntmps246<|Sr<|Dd aP<|Zz<|Sq<|Sr<|Dd aF<|Dd (fY dD)<|Dd aF<|Zz<|aG ?_;refine bQ (σ:=Nat) (fun k=>([(0,.pv (.sl (l.map aZ))),(1,fv),(7,.pv (.int .i64 (l.map aZ).length)),(8,.pv (.int .i64 (k:Int)))],H)) (fun k=>k≤l.length∧∀ j,j < k→∀ b,l[j]?=some b→p b=false) (fun k=>l.length - k) 0 ⟨by omega,by omega⟩ ?_ ?_
  · exact E0
  · rintro k ⟨hk,hno⟩
    refine Sr<|Dd dK<|Zz<|Sq ?_;refine Cn ?_ ?_<;>intro hc1
    · have hlt:k < l.length:=by simpa using hc1
      obtain ⟨o,ho⟩:=bE hlt;have hi:=cJ (f:=aZ) ho;have hfo:=hf o (aL3 ho);refine aE<|Sq<|aG<|Sr<|Dd aF<|Dd aP<|Zz<|Sr<|Dd aF<|Dd aF<|Dd aF<|Dd (xZ UI)<|Dd (by exact cQ rfl bS aV rfl (by omega) (by simp only [Zl,aZ];rfl) rfl)<|Dd (by exact bY rfl rfl rfl (hfo))<|Zz ?_;refine Cn ?_ ?_<;>intro hc2
      · skip
        refine Sr<|Dd aF<|Dd aP<|Zz<|aC ?_;exact dF (H':=H) (.inr rfl) rfl (aT rfl) Fin.refl ⟨by rw [tH,NL hno ho hc2],rfl⟩
      · skip
        refine aE<|Rg<|Dd pM<|Dd aF<|Zz ?_;refine⟨k+1,⟨by omega,fun j hj b hb=>?_⟩,by omega,E0⟩;by_cases e:j=k
        · subst e;rw [ho] at hb;cases hb;exact hc2
        · exact hno j (by omega) b hb
    · have hge : k = l.length := by have : l.length ≤ k := by simpa using hc1
                                    omega
      subst hge;refine bG<|Sr<|Dd aP<|Zz<|aC ?_;exact dF (H':=H) (.inr rfl) rfl (aT rfl) Fin.refl ⟨by rw [tH,NM hno],rfl⟩
def onP (x y:Int):Bool:=decide (0≤min x y)&&decide (max x y < 1048576)
theorem BW (fv:AV) (l:List GEdit) (p:GEdit→Bool) (H:aB) (hl:l.length < 4611686018427387904) (hf:∀ o,o∈l→cC Tryz.prog fv [.agg ((aZ o).map .pv)] H (fun r H'=>r=.pv (.bool (p o))∧H'=H)) :
  aH Tryz.prog 207 [.pv (.sl (l.map aZ)),fv] H (fun r H'=>r=.pv (.bool (l.any p))∧H'=H):=by
 refine aH.body func207 rfl ntmps207 (aL6 rfl) ?_;refine DN ?_;refine wS ?_;refine WQ rfl rfl rfl (by exact rG rfl rfl) ?_;refine WP ?_;refine DN ?_;refine wS ?_;refine WQ rfl rfl rfl (by exact eN rfl rfl) ?_;refine WQ rfl rfl rfl (by exact eN rfl rfl) ?_;refine WQ rfl rfl rfl (by exact aA rfl rfl call246 rfl (GL fv l p H hl hf)) ?_;refine WQ rfl rfl rfl (by exact CX rfl rfl rfl) ?_;refine WQ rfl rfl rfl (by exact rG rfl rfl) ?_;refine WP ?_;refine aC ?_;exact dF (H':=H) (.inr rfl) rfl (aT rfl) Fin.refl ⟨by rw [aCa],rfl⟩
def pX (a b:GTag):Bool:=decide (a.key=b.key)&&decide (a.val=b.val)
def mF:List GTag→List GTag→Bool
 | [],[]=>true
 | a::l,b::r=>pX a b&&mF l r
 | _,_=>false
theorem MF (a b:GTag):pX a b=true↔a=b:=by cases a;cases b;simp [pX]
theorem MC:∀ (a b:List GTag),a.length≠b.length→mF a b=false
 | [],[],h=>absurd rfl h
 | [],_::_,_=>rfl
 | _::_,[],_=>rfl
 | x::a,y::b,h=>by rw [mF,MC a b (by simpa using h)];simp
theorem MD:∀ (a b:List GTag) (k:Nat) (x y:GTag),a[k]?=some x→b[k]?=some y→pX x y=false→mF a b=false
 | [],_,k,x,y,h,_,_=>by simp at h
 | _::_,[],k,x,y,_,h,_=>by simp at h
 | u::a,v::b,0,x,y,h1,h2,h=>by cases h1;cases h2;rw [mF,h];rfl
 | u::a,v::b,k+1,x,y,h1,h2,h=>by rw [mF,MD a b k x y h1 h2 h];simp
theorem H9:∀ (a b:List GTag),a.length=b.length→(∀ k,k < a.length→∀ x y,a[k]?=some x→b[k]?=some y→pX x y=true)→mF a b=true
 | [],[],_,_=>rfl
 | [],_::_,h,_=>by simp at h
 | _::_,[],h,_=>by simp at h
 | u::a,v::b,hl,h=>by
  rw [mF,h 0 (by simp) u v rfl rfl,H9 a b (by simpa using hl) (fun k hk x y h1 h2=>h (k+1) (by simpa using hk) x y h1 h2)];rfl
theorem SQ (a b : List GTag) (H : aB) (ha : a.length < 4611686018427387904) :
    aH Tryz.prog 276 [lv (a.map bF),lv (b.map bF)] H (fun r H'=>r=bv (mF a b)∧H'=H):=by
  refine Pu ?_;refine Bd func276 rfl ntmps276<|Sr<|Dd aP<|Zz<|Sq<|Sr<|Dd aF<|Dd (fY cM)<|Dd aF<|Dd (fY cM)<|Dd uL<|Zz ?_;refine Cn ?_ ?_<;>intro hc1
  · have hne:a.length≠b.length:=by simp at hc1;omega
    refine Sr<|Dd aP<|Zz<|aC<|Rt ?_;exact⟨by rw [MC a b hne],rfl⟩
  · have heq : a.length = b.length := by simp at hc1; omega
    refine aE<|Sq<|Sr<|Dd aF<|Dd (fY cM)<|Dd aF<|Zz<|aG ?_;refine bQ (σ:=Nat) (fun k=>([(0,lv (a.map bF)),(1,lv (b.map bF)),(12,iv (a.map bF).length),(13,iv (k:Int))],[])) (fun k=>k≤a.length∧∀ j,j < k→∀ x y,a[j]?=some x→b[j]?=some y→pX x y=true) (fun k=>a.length - k) 0 ⟨by omega,by omega⟩ ?_ ?_
    · exact E0
    · rintro k ⟨hk,hall⟩
      refine Sr<|Dd dK<|Zz<|Sq ?_;refine Cn ?_ ?_<;>intro hc2
      · have hlt:k < a.length:=by simpa using hc2
        obtain ⟨x,hx⟩:=bE hlt;obtain ⟨y,hy⟩:=bE (l:=b) (k:=k) (by omega);have hi:=cJ (f:=bF) hx;have hi2:=cJ (f:=bF) hy;refine aE<|Sq<|aG<|Sr<|Dd aF<|Dd aP<|Zz<|Sq<|aQ follows<|Cq aF<|Cq aF<|Cq (xZ wY)<|Cq (by exact cQ rfl qQ iC rfl (by omega) (by simp only [Zl,bF,bH,aZ];rfl) rfl)<|Cq aF<|Cq aF<|Cq (xZ wY)<|Cq (by exact cQ rfl qQ iC rfl (by omega) (by simp only [Zl,bF,bH,aZ];rfl) rfl)<|Cq (by exact yQ rfl rfl rfl rfl rfl eqGuardType206 (aGB _ _ _ _))<|bJ<|Kr ?_;refine Cn ?_ ?_<;>intro hc3
        · have ht:pX x y=false:=by
            have h:(!pX x y)=true:=hc3
            simpa using h
          refine Sr<|Dd aP<|Zz<|aC<|Rt ?_;exact⟨by rw [MD a b k x y hx hy ht],rfl⟩
        · have ht:pX x y=true:=by
            have h:(!pX x y)=false:=hc3
            simpa using h
          refine aE<|Rg<|Dd pM<|Dd aF<|Zz ?_;refine⟨k+1,⟨by omega,fun j hj x' y' h1 h2=>?_⟩,by omega,E0⟩;by_cases e:j=k
          · subst e;rw [hx] at h1;rw [hy] at h2;cases h1;cases h2;exact ht
          · exact hall j (by omega) x' y' h1 h2
      · have hge : k = a.length := by have : a.length ≤ k := by simpa using hc2
                                      omega
        subst hge;refine bG<|Sr<|Dd aP<|Zz<|aC<|Rt ?_;exact⟨by rw [H9 a b heq hall],rfl⟩
def xC (n:Int) (s:ByteArray):Bool:=decide (n < (s.size:Int))
def aCK (n:Int) (t:GTag):Bool:=decide (n < IntKind.i64.wrap ((t.key.size:Int)+(t.val.size:Int)))
def aGD (o:GObj):Prop:=o.refs.length < 4611686018427387904∧o.tags.length < 4611686018427387904
def A7 (o:GObj) (n:Int):Bool:=(xC 300 o.id||decide (n < (o.refs.length:Int))||decide (65 < (o.tags.length:Int)))||o.refs.any (xC 300)||o.tags.any (aCK 600)
theorem aFO (o:GObj) (n:Int) (H:aB) (hok:aGD o) :
  aH Tryz.prog 157 [av (bH o),iv n] H (fun r H'=>r=bv (!A7 o n)∧H'=H):=by
 refine Pu ?_;have hrl:(o.refs.map encStr).length=o.refs.length:=aLT _;have htl:(o.tags.map bF).length=o.tags.length:=aLT _;have h1:=hok.1;have h2:=hok.2;refine Bd func157 rfl ntmps157<|Sr<|Dd (by exact bZ (id:=2) rfl rfl rfl rfl rfl)<|Dd aP<|Zz<|Sq<|Sq ?_;refine bD (t:=23) (n:=19) (X:=xC 300 o.id||decide (n < ((o.refs.map encStr).length:Int))||decide (65 < ((o.tags.map bF).length:Int))) ?_ ?_
 ·all_goals refine Dd (bB oS) ?_
  all_goals refine Dd (bK isAgg9)<|Dd (nT underlying9)<|Dd mI<|Dm ?_
  all_goals refine Sp 11 (fun h11=>?_) fun h11=>?_
  all_goals try contradiction
  all_goals first|refine Fo<|Fo<|Fo<|Fo<|Fo ?_|refine On (bB gF)<|On (bK aJ)<|On (fY aD)<|On aF<|On mI ?_
  all_goals refine Dd cE<|Dm ?_
  all_goals refine Sp 18 (fun h18=>?_) fun h18=>?_
  all_goals try contradiction
  all_goals first|refine Fo<|Fo<|Fo<|Fo ?_|refine On (bB fK)<|On (bK cU)<|On (fY cM)<|On mI ?_
  all_goals refine Dd cE<|Zz ?_
  all_goals(exact⟨⟨_,rfl,by first|(simp only [xC, *];rfl)|(simp_all [xC];done)|(simp_all [xC];omega)⟩,rfl,rfl,rfl⟩)
 refine Cn ?_ ?_<;>intro hc1
 ·rw [hrl,htl] at hc1;refine Sr<|Dd aP<|Zz<|aC<|Rt ?_;exact⟨by rw [A7,hc1];rfl,rfl⟩
 rw [hrl,htl] at hc1;have hb1:A7 o n=(o.refs.any (xC 300)||o.tags.any (aCK 600)):=by rw [A7,hc1];rfl
 refine aE<|Sq<|Sr<|Dd aP<|Zz<|aG ?_;refine bQ (σ:=Nat) (fun q=>([(2,.ref 2 0 0 0),(5,iv (q:Int))],[(2,bx 6 153 ((bH o).map .pv))])) (fun q=>q≤o.refs.length∧∀ j,j < q→∀ b,o.refs[j]?=some b→xC 300 b=false) (fun q=>o.refs.length - q) 0 ⟨by omega,by omega⟩ ?_ ?_
 ·exact Wk
 rintro q ⟨hq,hnr⟩;refine Sq<|Sr<|Dd aF<|Dd (bB gF)<|Dd (bK aJ)<|Dd (fY aD)<|Dd dK<|Zz ?_;refine Cn ?_ ?_<;>intro hc2
 ·have hlt2:q < o.refs.length:=by simpa using hc2
  obtain ⟨s,hs⟩:=bE hlt2;have hse:=cJ (f:=encStr) hs;refine aE<|Sq<|aG<|Sr<|Dd (bB gF)<|Dd (bK aJ)<|Dd aF<|Dd (xZ cP)<|Dd (pH isAgg9)<|Dd (nT underlying9)<|Dd mI<|Zz ?_;refine Cn ?_ ?_<;>intro hc3
  ·have hbad:A7 o n=true:=by rw [hb1,zM hs hc3];rfl
   refine Sr<|Dd aP<|Zz<|aC<|Rt ?_;exact⟨by rw [hbad];rfl,rfl⟩
  refine aE<|Rg<|Dd aF<|Dd pM<|Da ?_;exact⟨q+1,⟨by omega,yI hnr hs hc3⟩,by omega,Wk⟩
 have hge:q=o.refs.length:=by
  have:o.refs.length≤q:=by simpa using hc2
  omega
 subst hge;rw [DP hnr,Bool.false_or] at hb1;refine bG<|Sq<|Sr<|Dd aP<|Zz<|aG ?_;refine bQ (σ:=Nat) (fun q=>([(2,.ref 2 0 0 0),(6,iv (q:Int))],[(2,bx 6 153 ((bH o).map .pv))])) (fun q=>q≤o.tags.length∧∀ j,j < q→∀ b,o.tags[j]?=some b→aCK 600 b=false) (fun q=>o.tags.length - q) 0 ⟨by omega,by omega⟩ ?_ ?_
 ·exact Wk
 rintro q ⟨hq,hnt⟩;refine Sq<|Sr<|Dd aF<|Dd (bB fK)<|Dd (bK cU)<|Dd (fY cM)<|Dd dK<|Zz ?_;refine Cn ?_ ?_<;>intro hc4
 ·have hlt2:q < o.tags.length:=by simpa using hc4
  obtain ⟨s,hs⟩:=bE hlt2;have hse:=cJ (f:=bF) hs;refine aE<|Sq<|aG<|Sq<|aQ follows<|Cq (bB fK)<|Cq (bK cU)<|Cq aF<|Cq (xZ wY)<|Cq (fp' DD)<|Cq (pH isAgg9)<|Cq (nT underlying9)<|Cq (bB fK)<|Cq (bK cU)<|Cq aF<|Cq (xZ wY)<|Cq (fp' HF)<|Cq (pH isAgg9)<|Cq (nT underlying9)<|Cq (by exact cA rfl rfl rfl rfl)<|Cq mI<|bJ<|Kr ?_;refine Cn ?_ ?_<;>intro hc5
  ·have hbad:A7 o n=true:=by rw [hb1,zM hs hc5]
   refine Sr<|Dd aP<|Zz<|aC<|Rt ?_;exact⟨by rw [hbad];rfl,rfl⟩
  refine aE<|Rg<|Dd aF<|Dd pM<|Da ?_;exact⟨q+1,⟨by omega,yI hnt hs hc5⟩,by omega,Wk⟩
 have hge:q=o.tags.length:=by
  have:o.tags.length≤q:=by simpa using hc4
  omega
 subst hge;have hgood:A7 o n=false:=by rw [hb1,DP hnt]
 refine bG<|Sr<|Dd aP<|Zz<|aC<|Rt ?_;exact⟨by rw [hgood];rfl,rfl⟩
end Go.Proofs.YtiifmppaejpemaaGreatDoor
namespace Go.Abs
section
theorem Clo.up {H H':aB} (hs:∀ i,(H.get i).isSome=true→(H'.get i).isSome=true) {a:AV} (h:Clo H a):Clo H' a:=by
 induction h with
 | any=>exact .any
 | pv p=>exact .pv p
 | pad rows i k=>exact .pad rows i k
 | ref h=>exact .ref (hs _ h)
 | osl h=>exact .osl (hs _ h)
 | clo h ih=>exact .clo ih
 | bnd h ih=>exact .bnd ih
 | agg h ih=>exact .agg ih
 | tup h ih=>exact .tup ih
 | mp h=>exact .mp (hs _ h)
 | it h=>exact .it (hs _ h)
 | yld h=>exact .yld (hs _ h)
 | raw x ts=>exact .raw x ts
 | osc h=>exact .osc (hs _ h)
theorem Clo.app {D K:aB} {a:AV} (h:Clo K a):Clo (D++K) a:=h.up fun i hi=>by
 rw [eO];cases D.get i with
 | none=>exact hi
 | some o=>rfl
theorem cZ.app {D K:aB} (h3:∀ p∈D,∀ r∈p.2.rows,∀ a∈r,Clo (D++K) a) (h4:cZ K):cZ (D++K):=by
 intro id o ho;rw [eO] at ho;cases e:D.get id with
 | some x =>
  rw [e] at ho;cases ho;exact h3 _ (cR e)
 | none =>
  rw [e] at ho;exact fun r hr a ha=>(h4 id o ho r hr a ha).app
theorem Sub.front {D D' K:aB} (h1:∀ p∈D,K.get p.1=none) (h2:∀ p∈D',D.get p.1=some p.2):Sub (D'++K) (D++K):=by
 intro id o ho;rw [eO] at ho ⊢;cases e:D'.get id with
 | some x =>
  rw [e] at ho;cases ho;rw [h2 _ (cR e)]
 | none =>
  rw [e] at ho;cases e2:D.get id with
  | none=>exact ho
  | some x =>
   have:=h1 _ (cR e2);rw [this] at ho;cases ho
theorem GN.front {G0 D D' K:aB} (h2:∀ p∈D',D.get p.1=some p.2) (h5:∀ p∈D,G0.get p.1=none):GN G0 (D'++K) (D++K):=by
 intro id hi;have hD:D.get id=none:=by
  cases e:D.get id with
  | none=>rfl
  | some x =>
   have:=h5 _ (cR e);rw [this] at hi;cases hi
 have hD':D'.get id=none:=by
  cases e:D'.get id with
  | none=>rfl
  | some x =>
   have:=h2 _ (cR e);rw [hD] at this;cases this
 rw [eO,eO,hD,hD']
theorem cD.front {G0:aB} {E E':bO} {K:aB} (D D':aB) (hE:EOk E (D'++K) E') (h1:∀ p∈D,K.get p.1=none) (h2:∀ p∈D',D.get p.1=some p.2) (h3:∀ p∈D',∀ r∈p.2.rows,∀ a∈r,Clo (D'++K) a) (h4:cZ K)
  (h5:∀ p∈D,G0.get p.1=none):cD G0 E (D++K) E' (D'++K):=by
 intro G hG N a w hs;obtain ⟨I,ι,hr,hst,he⟩:=hs.rel;subst hG;have hsub:=Sub.front h1 h2;refine⟨hs.defers,hs.size,I,ι,hr.restrict hsub (cZ.app h3 h4),hst.restrict hsub (GN.front h2 h5),fun t v ht=>?_⟩;obtain ⟨k1,k2⟩:=hE.spec _ (fA ht);obtain ⟨c,hc,hv⟩:=he t v k1;exact⟨c,hc,hv.restrict hsub k2⟩
section
variable {F:Fence} {n:Nat} {P:Program} {b:Frame} {a:Act} {k:List Item} {cs:List Frame} {w:World} {Q:Exit→Act→World→Prop}
theorem mP {c:Code}:step P (lone (b.atR a (.code (.scope c)::k)) cs w)=.next (lone (b.atR a (.code c::.inScope c::k)) cs w) :=step_lone_go (by simp [stepG,stepG.exec,Frame.atR])
theorem KQ {c:Code}:step P (lone (b.atR a (.inScope c::k)) cs w)=.next (lone (b.atR a k) cs w) :=step_lone_go (by simp [stepG,stepG.exec,Frame.atR])
theorem AQ {c:Code} (h:c.wpIn F n P (Exit.noGoto Q) a w):(Code.scope c).wpIn F n P Q a w:=by
 intro b k cs hro hb hr;have h0:(lone (b.atR a (.code (.scope c)::k)) cs w).fenced P F:=fenced_calm hb hr rfl;obtain ⟨e,a₁,w₁,hq,harr⟩:=h b (.inScope c::k) cs hro hb hr;cases e with
 | normal=>exact⟨.normal,a₁,w₁,hq,.head h0 mP (StepsIn.trans harr (.one (fenced_calm hb hr rfl) KQ))⟩
 | exit id =>
  have hx:exitTo id (.inScope c::k)=exitTo id k:=by simp [exitTo]
  exact⟨_,a₁,w₁,hq,fun k' hk=>.head h0 mP (harr.1 k' (by rw [hx];exact hk)),
   fun hr' hk=>let ⟨k₁,h1,h2⟩:=harr.2 hr' (by rw [hx];exact hk);⟨k₁,h1,.head h0 mP h2⟩⟩
 | goto l=>exact hq.elim
 | ret=>exact⟨_,a₁,w₁,hq,.of_steps (.one h0 mP) harr⟩
 | panic ch=>exact⟨_,a₁,w₁,hq,.of_steps (.one h0 mP) harr⟩
 | outgrown=>exact⟨_,a₁,w₁,hq,.of_steps (.one h0 mP) harr⟩
end
def aFt (Q:Exit→bO→aB→Prop):Exit→bO→aB→Prop
 | .goto _,_,_=>False
 | e,E,H=>Q e E H
theorem aA5 {P:Program} {G0:aB} {N:Nat} {E:bO} {H:aB} {Q:Exit→bO→aB→Prop} {c:Code} (h:fE P G0 N c (aFt Q) E H):fE P G0 N (.scope c) Q E H:=by intro G hG a w hs ro hr;refine AQ (wpIn_mono (h G hG a w hs ro hr) ?_);rintro e a' w' ⟨E',H',q,s⟩;cases e<;>first|exact⟨E',H',q,s⟩|exact q.elim
theorem rU {P:Program} {G0:aB} {N:Nat} {E:bO} {H H2:aB} {ops:Array Oper} {id n t:Nat} {d:Bool} {X:Bool} {Q:Exit→bO→aB→Prop} (h:fE P G0 N (.region id ops d) (fun e E1 H1=>e=.normal∧N6 n t X E H2 E1 H1) E H) (hk:Q .normal ((t,.pv (.bool X))::E) H2):fE P G0 N (.region id ops d) Q E H:=by intro G hG a w hs ro hr;refine wpIn_mono (h G hG a w hs ro hr) ?_;rintro e a' w' ⟨E1,H1,⟨rfl,hm⟩,hs'⟩;exact⟨_,_,hk,(hm.ent (G0:=G0)) G hG N a' w' hs'⟩
def DU (H:aB):aB→Prop
 | []=>True
 | (_,o)::r=>(∀ r∈o.rows,∀ a∈r,Clo H a)∧DU H r
theorem DU.spec {H:aB}:∀ {L:aB},DU H L→∀ p∈L,∀ r∈p.2.rows,∀ a∈r,Clo H a
 | (i,o)::L,h,p,hp=>by
  rcases aL5.1 hp with rfl|hp
  ·exact h.1
  exact DU.spec h.2 p hp
theorem cZ.ofL {H:aB} (h:DU H H):cZ H:=fun _ _ ho=>h.spec _ (cR ho)
def lo (D:aB) (n:Nat):Prop:=∀ p∈D,900≤p.1∧p.1 < n
def clear (K:aB):Prop:=∀ i,900≤i→i < 1000→K.get i=none
theorem Fin.of_ent {G0 H H':aB} {r r':AV} (h:cD G0 [(0,r)] H [(0,r')] H'):Fin G0 H r H' r':=by
 intro G hG I ι w v h1 h2 h3;obtain ⟨_,_,I',ι',k1,k2,k3⟩:=h G hG 1 ⟨#[v],G.ds⟩ w ⟨nY.nil _ _ _,rfl,I,ι,h1,h2,fun t x hx=>by
  simp only [bO.get] at hx;cases e:Nat.beq 0 t with
  | true=>rw [e] at hx;cases hx;rw [← Nat.eq_of_beq_eq_true e];exact⟨v,rfl,h3⟩
  | false=>rw [e] at hx;cases hx⟩
 obtain ⟨c,hc,hv⟩:=k3 0 r' rfl;cases hc;exact⟨I',ι',k1,k2,hv⟩
theorem Sub.front' {D D' K:aB} (h1:∀ p∈D,(D'.get p.1).isSome=true∨K.get p.1=none) (h2:∀ p∈D',D.get p.1=some p.2):Sub (D'++K) (D++K):=by
 intro id o ho;rw [eO] at ho ⊢;cases e:D'.get id with
 | some x =>
  rw [e] at ho;cases ho;rw [h2 _ (cR e)]
 | none =>
  rw [e] at ho;cases e2:D.get id with
  | none=>exact ho
  | some x =>
   rcases h1 _ (cR e2)with h|h
   ·simp only [e] at h;cases h
   rw [h] at ho;cases ho
theorem GN.front' {G0 D D' K:aB} (h2:∀ p∈D',D.get p.1=some p.2) (h5:∀ p∈D,(D'.get p.1).isSome=true∨G0.get p.1=none):GN G0 (D'++K) (D++K):=by
 intro id hi;rw [eO,eO];cases e:D'.get id with
 | some x=>rw [h2 _ (cR e)]
 | none =>
  cases e2:D.get id with
  | none=>rfl
  | some x =>
   rcases h5 _ (cR e2)with h|h
   ·simp only [e] at h;cases h
   rw [h] at hi;cases hi
theorem Fin.front' {G0 K:aB} {r:AV} (D D':aB) (hr:Clo (D'++K) r) (h1:∀ p∈D,(D'.get p.1).isSome=true∨K.get p.1=none) (h2:∀ p∈D',D.get p.1=some p.2) (h3:∀ p∈D',∀ r∈p.2.rows,∀ a∈r,Clo (D'++K) a) (h4:cZ K)
  (h5:∀ p∈D,(D'.get p.1).isSome=true∨G0.get p.1=none):Fin G0 (D++K) r (D'++K) r:=by
 intro G hG I ι w v k1 k2 k3;subst hG;have hsub:=Sub.front' h1 h2;exact⟨I,ι,k1.restrict hsub (cZ.app h3 h4),k2.restrict hsub (GN.front' h2 h5),k3.restrict hsub hr⟩
theorem Fin.get' {G0 H H':aB} {r:AV} (hH:∀ j,H'.get j=H.get j):Fin G0 H r H' r:=Fin.of_ent (cD.get' ⟨⟨_,rfl,rfl⟩,trivial⟩ hH)
end
end Go.Abs
namespace Go.Proofs.YtiifmppaejpemaaGreatDoor
open Go.Proofs.Tryz
open Go.Abs
theorem H8:∀ {a b:List GTag},mF a b=true↔a=b
 | [],[]=>by simp [mF]
 | [],_::_=>by simp [mF]
 | _::_,[]=>by simp [mF]
 | x::a,y::b=>by rw [mF,aL2,MF,H8];simp
theorem aKR (a0 b0 a1 b1 a2 b2 a3 b3:ByteArray) (w:World):(Op.equalIn 10000 280 (.agg [.string a0,.string a1,.string a2,.string a3].toArray) (.agg [.string b0,.string b1,.string b2,.string b3].toArray)).run Tryz.prog w =
  .ok (decide (a0=b0)&&decide (a1=b1)&&decide (a2=b2)&&decide (a3=b3)) w:=by
 obtain ⟨i,hi⟩:=info_of_underlying underlying9;refine(run_equalIn_array (P:=Tryz.prog) w 9999 _ _ underlying280 hi).trans ?_;have hs:∀ (d:Nat) (a b:ByteArray) (w:World),(Op.equalIn (d+1) 9 (.string a) (.string b)).run Tryz.prog w=.ok (decide (a=b)) w:=fun d a b w=>by rw [run_equalIn_string w d 9 a b underlying9,uP]
 have hc:Tryz.prog.cellsOf 9=1:=by kernel_rfl
 by_cases e0:a0=b0<;>by_cases e1:a1=b1<;>by_cases e2:a2=b2<;>by_cases e3:a3=b3<;>simp [List.range_succ,Op.eqItems,part,hc,hs,isAgg9,e0,e1,e2,e3]
theorem SU (a b:List ByteArray) (H:aB) (ha:a.length < 4611686018427387904):aH Tryz.prog 272 [.pv (aU a),.pv (aU b)] H (fun r H'=>r=bv (decide (a=b))∧H'=H):=by
 refine Pu ?_;have hma:(a.map encStr).length=a.length:=aLT _;have hmb:(b.map encStr).length=b.length:=aLT _;refine Bd func272 rfl ntmps272<|Sr<|Dd aP<|Zz<|Sq<|Sr<|Dd aF<|Dd (fY aD)<|Dd aF<|Dd (fY aD)<|Dd uL<|Zz ?_;refine Cn ?_ ?_<;>intro hc1
 ·have hne:¬ a=b:=by
   intro e;subst e;simp at hc1
  refine Sr<|Dd aP<|Zz<|aC<|Rt ?_;exact⟨by rw [decide_eq_false hne],rfl⟩
 have heq:a.length=b.length:=by
  simp only [hma,hmb,Bool.not_eq_false',aL0] at hc1;omega
 refine aE<|Sq<|Sr<|Dd aF<|Dd (fY aD)<|Dd aF<|Zz<|aG ?_;refine bQ (σ:=Nat) (fun k=>([(0,.pv (aU a)),(1,.pv (aU b)),(12,iv ((a.map encStr).length:Int)),(13,iv (k:Int))],[])) (fun k=>k≤a.length∧a.take k=b.take k) (fun k=>a.length - k) 0 ⟨by omega,by simp⟩ ?_ ?_
 ·exact E0
 rintro k ⟨hk,hall⟩;refine Sr<|Dd dK<|Zz<|Sq ?_;refine Cn ?_ ?_<;>intro hc2
 ·have hlt:k < a.length:=by have:=aLP hc2;omega
  obtain ⟨x,hx⟩:=bE hlt;obtain ⟨y,hy⟩:=bE (l:=b) (k:=k) (by omega);have hi:=cJ (f:=encStr) hx;have hi2:=cJ (f:=encStr) hy;refine aE<|Sq<|aG<|Sr<|Dd aF<|Dd aP<|Zz<|Sq<|aQ follows<|Cq aF<|Cq aF<|Cq (xZ cP)<|Cq (pH isAgg9)<|Cq aF<|Cq aF<|Cq (xZ cP)<|Cq (pH isAgg9)<|Cq Q6<|bJ<|Kr ?_;refine Cn ?_ ?_<;>intro hc3
  ·have ht:¬ x=y:=by
    have h:(!decide (x=y))=true:=hc3
    simpa using h
   have hne:¬ a=b:=by
    intro e;subst e;rw [hx] at hy;exact ht (Option.some.inj hy)
   refine Sr<|Dd aP<|Zz<|aC<|Rt ?_;exact⟨by rw [decide_eq_false hne],rfl⟩
  have ht:x=y:=by
   have h:(!decide (x=y))=false:=hc3
   simpa using h
  refine aE<|Rg<|Dd pM<|Dd aF<|Zz ?_;refine⟨k+1,⟨by omega,?_⟩,by omega,E0⟩;rw [List.take_add_one,List.take_add_one,hx,hy,hall,ht]
 have hge:k=a.length:=by have:=aLQ hc2;omega
 have he:a=b:=by
  have h:=hall;rw [hge,List.take_length,heq,List.take_length] at h;exact h
 refine bG<|Sr<|Dd aP<|Zz<|aC<|Rt ?_;exact⟨by rw [decide_eq_true he],rfl⟩
def pS (a b:GObj):Bool:=((decide (a.id=b.id)&&decide (a.kind=b.kind)&&(decide (a.x=b.x)&&decide (a.y=b.y)))&&decide (a.refs=b.refs))&&mF a.tags b.tags
theorem BO {a b:GObj}:pS a b=true↔a=b:=by
 cases a;cases b;simp only [pS,aL2,aL0,H8,GObj.mk.injEq];constructor
 ·rintro⟨⟨⟨⟨a1,a2⟩,a3,a4⟩,a5⟩,a6⟩;exact⟨a1,a2,a3,a4,a5,a6⟩
 rintro⟨a1,a2,a3,a4,a5,a6⟩;exact⟨⟨⟨⟨a1,a2⟩,a3,a4⟩,a5⟩,a6⟩
def okS (o:GObj):Prop:=o.refs.length < 4611686018427387904∧o.tags.length < 4611686018427387904
theorem aEZ (a b:GObj) (H:aB) (ha:okS a):aH Tryz.prog 273 [av (bH a),av (bH b)] H (fun r H'=>r=bv (pS a b)∧H'=H):=by
 refine Pu ?_;refine Bd func273 rfl ntmps273<|Sr<|Dd (by exact bZ (id:=2) rfl rfl rfl rfl rfl)<|Dd (by exact bZ (id:=3) rfl rfl rfl rfl rfl)<|Dd aP<|Zz<|Sq ?_;refine bD (t:=4) (n:=38) (X:=pS a b) ?_ ?_
 ·all_goals refine Dd (bB oS) ?_
  all_goals refine Dd (bK isAgg9)<|Dd (bB oS)<|Dd (bK isAgg9)<|Dd zZ<|Dm ?_
  all_goals refine Sp 10 (fun h10=>?_) fun h10=>?_
  all_goals try contradiction
  all_goals first|refine Fo<|Fo<|Fo<|Fo<|Fo ?_|refine On (bB gG)<|On (bK isAgg3)<|On (bB gG)<|On (bK isAgg3)<|On cY ?_
  all_goals refine Dd cE<|Dm ?_
  all_goals refine Sp 17 (fun h17=>?_) fun h17=>?_
  all_goals try contradiction
  all_goals first|refine Fo<|Fo<|Fo<|Fo<|Fo ?_|refine On (bB nP)<|On (by exact aM rfl dQ sizeOf73 rfl rfl rfl rfl (by simp only [Zl,bF,bH,encStr,aZ];rfl) rfl)<|On (bB nP)<|On (by exact aM rfl dQ sizeOf73 rfl rfl rfl rfl (by simp only [Zl,bF,bH,encStr,aZ];rfl) rfl)<|On (by exact yR rfl rfl rfl rfl rfl jX (UM _ _ _ _)) ?_
  all_goals refine Dd cE<|Dm ?_
  all_goals refine Sp 24 (fun h24=>?_) fun h24=>?_
  all_goals try contradiction
  all_goals first|refine Fo<|Fo<|Fo<|Fo<|Fo ?_|refine On (bB gF)<|On (bK aJ)<|On (bB gF)<|On (bK aJ)<|On (by exact aA rfl rfl call272 rfl (SU a.refs b.refs _ ha.1)) ?_
  all_goals refine Dd cE<|Dm ?_
  all_goals refine Sp 31 (fun h31=>?_) fun h31=>?_
  all_goals try contradiction
  all_goals first|refine Fo<|Fo<|Fo<|Fo<|Fo ?_|refine On (bB fK)<|On (bK cU)<|On (bB fK)<|On (bK cU)<|On (by exact aA rfl rfl call276 rfl (SQ a.tags b.tags _ ha.2)) ?_
  all_goals refine Dd cE<|Da ?_
  all_goals(exact⟨⟨_,rfl,by(simp only [pS, *];rfl)⟩,rfl,rfl,rfl⟩)
 exact aC<|Rt<|Qq
def iW (a b:GEdit):Bool:=((((decide (a.refs=b.refs)&&pS a.obj b.obj)&&decide (a.op=b.op))&&(decide (a.id=b.id)&&decide (a.other=b.other)&&decide (a.node=b.node)&&decide (a.key=b.key)))&&decide (a.val=b.val))&&(decide (a.x=b.x)&&decide (a.y=b.y))
theorem VW {a b:GEdit}:iW a b=true↔a=b:=by
 cases a;cases b;simp only [iW,aL2,aL0,BO,GEdit.mk.injEq];constructor
 ·rintro⟨⟨⟨⟨⟨a1,a2⟩,a3⟩,⟨⟨a4,a5⟩,a6⟩,a7⟩,a8⟩,a9,a10⟩;exact⟨a3,a4,a5,a6,a9,a10,a7,a8,a1,a2⟩
 rintro⟨a3,a4,a5,a6,a9,a10,a7,a8,a1,a2⟩;exact⟨⟨⟨⟨⟨a1,a2⟩,a3⟩,⟨⟨a4,a5⟩,a6⟩,a7⟩,a8⟩,a9,a10⟩
theorem vR (a b:GEdit) (H:aB) (h1:a.refs.length < 4611686018427387904) (h2:okS a.obj):aH Tryz.prog 248 [av (aZ a),av (aZ b)] H (fun r H'=>r=bv (iW a b)∧H'=H):=by
 refine Pu ?_;refine Bd func248 rfl ntmps248<|Sr<|Dd (by exact bZ (id:=2) rfl rfl rfl rfl rfl)<|Dd (by exact bZ (id:=3) rfl rfl rfl rfl rfl)<|Dd aP<|Zz<|Sq ?_;refine bD (t:=5) (n:=14) (X:=decide (a.refs=b.refs)&&pS a.obj b.obj) ?_ ?_
 ·all_goals refine Dd (bB eS) ?_
  all_goals refine Dd (bK aJ)<|Dd (bB eS)<|Dd (bK aJ)<|Dd (by exact aA rfl rfl call272 rfl (SU a.refs b.refs _ h1))<|Dm ?_
  all_goals refine Sp 11 (fun h11=>?_) fun h11=>?_
  all_goals try contradiction
  all_goals first|refine Fo<|Fo<|Fo<|Fo<|Fo ?_|refine On (bB qK)<|On (by exact aM rfl cN sizeOf153 rfl rfl rfl rfl (by simp only [Zl,bF,bH,encStr,aZ];rfl) rfl)<|On (bB qK)<|On (by exact aM rfl cN sizeOf153 rfl rfl rfl rfl (by simp only [Zl,bF,bH,encStr,aZ];rfl) rfl)<|On (by exact aA rfl rfl call273 rfl (aEZ a.obj b.obj _ h2)) ?_
  all_goals refine Dd cE<|Da ?_
  all_goals(exact⟨⟨_,rfl,by(simp only [*];rfl)⟩,rfl,rfl,rfl⟩)
 refine Sq ?_;refine bD (t:=4) (n:=48) (X:=iW a b) ?_ ?_
 ·all_goals refine Dd aF ?_
  all_goals refine Dm ?_
  all_goals refine Sp 19 (fun h19=>?_) fun h19=>?_
  all_goals try contradiction
  all_goals first|refine Fo<|Fo<|Fo<|Fo<|Fo ?_|refine On (bB wN)<|On (bK isAgg3)<|On (bB wN)<|On (bK isAgg3)<|On cY ?_
  all_goals refine Dd cE<|Dm ?_
  all_goals refine Sp 26 (fun h26=>?_) fun h26=>?_
  all_goals try contradiction
  all_goals first|refine Fo<|Fo<|Fo<|Fo<|Fo<|Fo<|Fo<|Fo<|Fo<|Fo<|Fo<|Fo<|Fo<|Fo<|Fo<|Fo<|Fo<|Fo<|Fo ?_|refine On (bB kQ)<|On (bK isAgg9)<|On (bB iG)<|On (bK isAgg9)<|On (bB nO)<|On (bK isAgg9)<|On (bB kP)<|On (bK isAgg9)<|On (by exact sJ rfl aGS rfl rfl)<|On (bB kQ)<|On (bK isAgg9)<|On (bB iG)<|On (bK isAgg9)<|On (bB nO)<|On (bK isAgg9)<|On (bB kP)<|On (bK isAgg9)<|On (by exact sJ rfl aGS rfl rfl)<|On (by exact yR rfl rfl rfl rfl rfl eqGuardType280 (aKR a.id b.id a.other b.other a.node b.node a.key b.key)) ?_
  all_goals refine Dd cE<|Dm ?_
  all_goals refine Sp 47 (fun h47=>?_) fun h47=>?_
  all_goals try contradiction
  all_goals first|refine Fo<|Fo<|Fo<|Fo<|Fo ?_|refine On (bB lM)<|On (bK isAgg9)<|On (bB lM)<|On (bK isAgg9)<|On zZ ?_
  all_goals refine Dd cE<|Dm ?_
  all_goals refine Sp 54 (fun h54=>?_) fun h54=>?_
  all_goals try contradiction
  all_goals first|refine Fo<|Fo<|Fo<|Fo<|Fo ?_|refine On (bB iA)<|On (by exact aM rfl dQ sizeOf73 rfl rfl rfl rfl (by simp only [Zl,bF,bH,encStr,aZ];rfl) rfl)<|On (bB iA)<|On (by exact aM rfl dQ sizeOf73 rfl rfl rfl rfl (by simp only [Zl,bF,bH,encStr,aZ];rfl) rfl)<|On (by exact yR rfl rfl rfl rfl rfl jX (UM _ _ _ _)) ?_
  all_goals refine Dd cE<|Da ?_
  all_goals(exact⟨⟨_,rfl,by(simp only [iW, *];rfl)⟩,rfl,rfl,rfl⟩)
 exact aC<|Rt<|Qq
def atP {α:Type} (l:List α) (p:α→Bool) (k:Nat):Bool:=match l[k]? with
 | some s=>p s
 | none=>false
theorem KA {α:Type} {l:List α} {p:α→Bool} {k:Nat} {s:α} (h:l[k]?=some s):atP l p k=p s:=by rw [atP,h]
theorem KT {α:Type} (l:List α) (p:α→Bool):(List.range l.length).any (atP l p)=l.any p:=by
 rw [Bool.eq_iff_iff,List.any_eq_true,List.any_eq_true];constructor
 ·rintro⟨k,hk,h⟩;have hlt:=List.mem_range.1 hk;rw [KA (aLY hlt)] at h;exact⟨_,List.getElem_mem hlt,h⟩
 rintro⟨x,hx,h⟩;obtain ⟨k,hk⟩:=aLe.1 hx;exact⟨k,List.mem_range.2 (aLX.1 hk).1,by rw [KA hk];exact h⟩
theorem aCF (s:ByteArray) (H:aB) (hs:s.size < 4611686018427387904):aH Tryz.prog 271 [sv s] H (fun r H'=>r=bv (!bI s)∧H'=H):=by refine Pu ?_;exact Bd func271 rfl ntmps271<|Sr<|Dd aP<|Zz<|Sr<|Dd aF<|Dd (by exact aA rfl rfl mD rfl (wC s _ hs))<|Dd lI<|Dd aP<|Zz<|aC<|Rt<|Qq
theorem O9 (l:List ByteArray) (H:aB) (hl:l.length < 4611686018427387904) (hs:∀ s∈l,s.size < 4611686018427387904):aH Tryz.prog 247 [.pv (aU l)] H (fun r H'=>r=bv (l.all bI)∧H'=H):=by
 refine Pu ?_;have e:l.all bI=!(List.range l.length).any (atP l (fun s=>!bI s)):=by
  rw [KT l (fun s=>!bI s),List.any_eq_not_all_not];simp
 rw [e];exact Bd func247 rfl ntmps247<|Sr<|Dd aP<|Zz<|Sr<|Dd aF<|Dd (by exact aA rfl rfl QG rfl (oU (.pv (.fn 271)) l (atP l (fun s=>!bI s)) (fun _=>[]) hl (fun k s hk=>cC.fn call271 (by rw [KA hk];exact aCF s _ (hs s (aL3 hk))))))<|Dd lI<|Dd aP<|Zz<|aC<|Rt<|Qq
def GH (e:GEdit):GEdit :=if e.op=1 then⟨e.op,sNil,sNil,sNil,0,0,sNil,sNil,[],e.obj⟩
 else if e.op=2 then⟨e.op,e.id,sNil,sNil,e.x,e.y,sNil,sNil,[],zObj⟩
 else if e.op=3 then⟨e.op,e.id,sNil,sNil,0,0,e.key,e.val,[],zObj⟩
 else if e.op=4 then⟨e.op,e.id,sNil,sNil,0,0,sNil,sNil,e.refs,zObj⟩
 else if e.op=5 then⟨e.op,e.id,sNil,sNil,0,0,sNil,sNil,[],zObj⟩
 else if e.op=6 then⟨e.op,e.id,e.other,e.node,0,0,sNil,sNil,[],zObj⟩
 else⟨e.op,e.id,e.other,sNil,0,0,sNil,sNil,[],zObj⟩
def uI (e:GEdit):Bool :=if e.op=1 then mJ e.obj
 else bI e.id&&(if e.op=2 then onP e.x e.y else if e.op=3 then bI e.key&&decide ((e.val.size:Int)≤200)
  else if e.op=4 then decide ((0:Int) < (e.refs.length:Int))&&decide ((e.refs.length:Int)≤2000)&&e.refs.all bI
  else if e.op=5 then true else if e.op=6 then bI e.node&&bI e.other else bI e.other)
def fJ (e:GEdit):Bool:=(decide (1≤e.op)&&decide (e.op≤7))&&(uI e&&iW (GH e) e)
def QM (e:GEdit):Prop:=(e.id.size < 4611686018427387904∧e.other.size < 4611686018427387904∧e.node.size < 4611686018427387904∧e.key.size < 4611686018427387904)∧(e.refs.length < 4611686018427387904∧∀ s∈e.refs,s.size < 4611686018427387904)∧okO e.obj
theorem aHJ {o:GObj} (h:okO o):okS o:=⟨h.2.2.1,h.2.1.1⟩
theorem MY:okS zObj:=⟨by decide,by decide⟩
theorem aEo (s:ByteArray) (H:aB) (hs:s.size < 4611686018427387904):aH Tryz.prog 247 [.pv (aU [s])] H (fun r H'=>r=bv (bI s)∧H'=H):=by
 have h:=O9 [s] H (by show 1 < _;omega) (by simpa using hs)
 simpa using h
theorem aKa (s t:ByteArray) (H:aB) (hs:s.size < 4611686018427387904) (ht:t.size < 4611686018427387904):aH Tryz.prog 247 [.pv (aU [s,t])] H (fun r H'=>r=bv (bI s&&bI t)∧H'=H):=by
 have h:=O9 [s,t] H (by show 2 < _;omega) (by simpa using ⟨hs,ht⟩)
 simpa using h
theorem SW (e:GEdit) (H:aB) (he:QM e):aH Tryz.prog 209 [av (aZ e)] H (fun r H'=>r=bv (fJ e)∧H'=H):=by
 refine Pu ?_;obtain ⟨⟨h1,h2,h3,h4⟩,⟨h5,h6⟩,h7⟩:=he;have hrl:(e.refs.map encStr).length=e.refs.length:=aLT _;refine Bd func209 rfl ntmps209<|Sr<|Dd (by exact bZ (id:=1) rfl rfl rfl rfl rfl)<|Dd aP<|Zz<|Sr<|Dd (bB wN)<|Dd (bK isAgg3)<|Dd (bB kQ)<|Dd (bK isAgg9)<|Dd (uX A6)<|Dd (by exact bC (id:=3) rfl WV rfl rfl)<|Uu (iH aV)<|Zz<|Sr<|Dd (bB kQ)<|Dd (bK isAgg9)<|Dd (by exact aS ([e.id].map encStr) rfl cP rfl rfl rfl rfl rfl (by simp [encStr]))<|Dd (by exact aA rfl rfl AU rfl (aEo e.id _ h1))<|Dd aP<|Zz<|Sq<|Sr<|Dd (bB wN)<|Dd (bK isAgg3)<|Zz<|aG<|Sr<|Dd cY<|Da ?_;refine Cn ?_ ?_<;>intro hc1
 ·have ho:e.op=1:=aLP hc1;have hx:GH e=⟨e.op,sNil,sNil,sNil,0,0,sNil,sNil,[],e.obj⟩:=by rw [GH,aLS ho]
  have hk:uI e=mJ e.obj:=by rw [uI,aLS ho]
  have hv:fJ e=(mJ e.obj&&iW ⟨e.op,sNil,sNil,sNil,0,0,sNil,sNil,[],e.obj⟩ e):=by rw [fJ,hx,hk,ho];rfl
  refine aQ follows<|Cr [1] (fun _ h=>fh qK h)<|Cr [1] (fun H1 hH=>by exact aM rfl cN sizeOf153 rfl ((hH _ rfl).trans rfl) rfl rfl (by simp only [Zl,bF,bH,encStr,aZ,zObj];rfl) rfl)<|Cr [1] (fun _ h=>fh qK h)<|Cr [1] (fun H1 hH=>by exact aM rfl cN sizeOf153 rfl ((hH _ rfl).trans rfl) rfl rfl (by simp only [Zl,bF,bH,encStr,aZ,zObj];rfl) rfl)<|Cr [] (fun H1 hH=>by exact aA rfl rfl call239 rfl (JA e.obj _ h7))<|Cr [3] (fun _ h=>fh kQ h)<|Cp [3] (fun H1 hH=>by exact bA rfl sizeOf9 rfl rfl rfl ((hH _ rfl).trans rfl) rfl rfl (aL6 rfl) rfl rfl)<|Cr [3] (fun _ h=>fh qK h)<|Cp [3] (fun H1 hH=>by exact lG rfl sizeOf153 rfl rfl rfl rfl ((hH _ rfl).trans rfl) rfl rfl (aL6 rfl) rfl rfl)<|Cr [] (fun _ _=>aP) ?_;refine bJ<|Kr<|Sq ?_;refine bD (t:=2) (n:=8) (X:=mJ e.obj&&iW ⟨e.op,sNil,sNil,sNil,0,0,sNil,sNil,[],e.obj⟩ e) ?_ ?_
  ·all_goals refine Dd aF ?_
   all_goals refine Dm ?_
   all_goals refine Sp 127 (fun h127=>?_) fun h127=>?_
   all_goals try contradiction
   all_goals first|refine Fo<|Fo<|Fo ?_|refine On (by exact aM rfl bS aV rfl rfl rfl rfl (by simp only [Zl,bF,bH,encStr,aZ,zObj];rfl) rfl)<|On (by exact aM rfl bS aV rfl rfl rfl rfl (by simp only [Zl,bF,bH,encStr,aZ,zObj];rfl) rfl)<|On (by exact aA rfl rfl tU rfl (vR ⟨e.op,sNil,sNil,sNil,0,0,sNil,sNil,[],e.obj⟩ e _ (by show 0 < _;omega) (aHJ h7))) ?_
   all_goals refine Dd cE<|Da ?_
   all_goals(exact⟨⟨_,rfl,by(simp_all [mJ];done)⟩,rfl,rfl,rfl⟩)
  refine aC<|Rt ?_;exact⟨by rw [hv],rfl⟩
 have ho1:¬ e.op=1:=aLQ hc1;refine Sr<|Dd cY<|Da ?_;refine Cn ?_ ?_<;>intro hc2
 ·have ho:e.op=2:=aLP hc2;have hx:GH e=⟨e.op,e.id,sNil,sNil,e.x,e.y,sNil,sNil,[],zObj⟩:=by rw [GH,aLR ho1,aLS ho]
  have hk:uI e=(bI e.id&&onP e.x e.y):=by rw [uI,aLR ho1,aLS ho]
  have hb:(bI e.id&&decide (0≤min e.x e.y)&&decide (max e.x e.y < 1048576))=(bI e.id&&onP e.x e.y):=by rw [onP,Bool.and_assoc]
  have hv:fJ e=((bI e.id&&decide (0≤min e.x e.y)&&decide (max e.x e.y < 1048576))&&iW ⟨e.op,e.id,sNil,sNil,e.x,e.y,sNil,sNil,[],zObj⟩ e):=by rw [fJ,hx,hk,hb,ho];rfl
  apply rU (t:=4) (n:=25) (X:=bI e.id&&decide (0≤min e.x e.y)&&decide (max e.x e.y < 1048576))
  ·cases hg30:(bI e.id:Bool)
   ·refine aQ follows<|Cr [1] (fun _ h=>fh iA h)<|Cr [1] (fun H1 hH=>by exact aM rfl dQ sizeOf73 rfl ((hH _ rfl).trans rfl) rfl rfl (by simp only [Zl,bF,bH,encStr,aZ,zObj];rfl) rfl)<|Cr [] (fun _ _=>aF)<|Cr [] (fun _ _=>aF)<|Ot<|Ot<|Ot<|Ot<|Ot<|Ot<|Ot<|Ot<|Cr [] (fun _ _=>cE)<|Cr [] (fun _ _=>aF)<|Ot<|Ot<|Ot<|Ot<|Ot<|Ot<|Ot<|Ot<|Cr [] (fun _ _=>cE)<|Cr [3] (fun _ h=>fh iA h)<|Cp [3] (fun H1 hH=>by exact lG rfl sizeOf73 rfl rfl rfl rfl ((hH _ rfl).trans rfl) rfl rfl (aL6 rfl) rfl rfl)<|Cr [] (fun _ _=>aP)<|bJ<|Kr ?_;exact⟨rfl,⟨_,rfl,by rfl⟩,rfl,rfl,rfl⟩
   cases hg40:(decide (0≤min e.x e.y):Bool)
   ·refine aQ follows<|Cr [1] (fun _ h=>fh iA h)<|Cr [1] (fun H1 hH=>by exact aM rfl dQ sizeOf73 rfl ((hH _ rfl).trans rfl) rfl rfl (by simp only [Zl,bF,bH,encStr,aZ,zObj];rfl) rfl)<|Cr [] (fun _ _=>aF)<|Cr [] (fun _ _=>aF) ?_;refine aX (r:=⟨_,some [1],[]⟩) (bP rfl rfl rfl (by rfl) (fun H1 hH=>by exact(by exact aW rfl iA rfl ((hH _ rfl).trans rfl) rfl rfl))) rfl ?_;refine aX (r:=⟨_,some [1],[]⟩) (bP rfl rfl rfl (by rfl) (fun H1 hH=>by exact(by exact aW rfl tK rfl ((hH _ rfl).trans rfl) rfl rfl))) rfl ?_;refine aX (r:=⟨_,some [1],[]⟩) (bP rfl rfl rfl (by rfl) (fun H1 hH=>by exact(by exact aK rfl isAgg3 rfl ((hH _ rfl).trans rfl) rfl rfl rfl))) rfl ?_;refine aX (r:=⟨_,some [1],[]⟩) (bP rfl rfl rfl (by rfl) (fun H1 hH=>by exact(by exact aW rfl iA rfl ((hH _ rfl).trans rfl) rfl rfl))) rfl ?_;refine aX (r:=⟨_,some [1],[]⟩) (bP rfl rfl rfl (by rfl) (fun H1 hH=>by exact(by exact aW rfl tJ rfl ((hH _ rfl).trans rfl) rfl rfl))) rfl ?_;refine aX (r:=⟨_,some [1],[]⟩) (bP rfl rfl rfl (by rfl) (fun H1 hH=>by exact(by exact aK rfl isAgg3 rfl ((hH _ rfl).trans rfl) rfl rfl rfl))) rfl ?_;refine aX (r:=⟨_,some [],[]⟩) (bP rfl rfl rfl (by rfl) (fun H1 hH=>by exact GZ rfl rfl rfl rfl)) rfl ?_;refine aX (r:=⟨_,some [],[]⟩) (bP rfl rfl rfl (by rfl) (fun H1 hH=>by exact CX rfl rfl rfl)) rfl ?_;refine Cr [] (fun _ _=>cE)<|Cr [] (fun _ _=>aF)<|Ot<|Ot<|Ot<|Ot<|Ot<|Ot<|Ot<|Ot<|Cr [] (fun _ _=>xA)<|Cr [3] (fun _ h=>fh iA h)<|Cp [3] (fun H1 hH=>by exact lG rfl sizeOf73 rfl rfl rfl rfl ((hH _ rfl).trans rfl) rfl rfl (aL6 rfl) rfl rfl)<|Cr [] (fun _ _=>aP)<|bJ<|Kr ?_;exact⟨rfl,⟨_,rfl,by rfl⟩,rfl,rfl,rfl⟩
   refine aQ follows<|Cr [1] (fun _ h=>fh iA h)<|Cr [1] (fun H1 hH=>by exact aM rfl dQ sizeOf73 rfl ((hH _ rfl).trans rfl) rfl rfl (by simp only [Zl,bF,bH,encStr,aZ,zObj];rfl) rfl)<|Cr [] (fun _ _=>aF)<|Cr [] (fun _ _=>aF) ?_;refine aX (r:=⟨_,some [1],[]⟩) (bP rfl rfl rfl (by rfl) (fun H1 hH=>by exact(by exact aW rfl iA rfl ((hH _ rfl).trans rfl) rfl rfl))) rfl ?_;refine aX (r:=⟨_,some [1],[]⟩) (bP rfl rfl rfl (by rfl) (fun H1 hH=>by exact(by exact aW rfl tK rfl ((hH _ rfl).trans rfl) rfl rfl))) rfl ?_;refine aX (r:=⟨_,some [1],[]⟩) (bP rfl rfl rfl (by rfl) (fun H1 hH=>by exact(by exact aK rfl isAgg3 rfl ((hH _ rfl).trans rfl) rfl rfl rfl))) rfl ?_;refine aX (r:=⟨_,some [1],[]⟩) (bP rfl rfl rfl (by rfl) (fun H1 hH=>by exact(by exact aW rfl iA rfl ((hH _ rfl).trans rfl) rfl rfl))) rfl ?_;refine aX (r:=⟨_,some [1],[]⟩) (bP rfl rfl rfl (by rfl) (fun H1 hH=>by exact(by exact aW rfl tJ rfl ((hH _ rfl).trans rfl) rfl rfl))) rfl ?_;refine aX (r:=⟨_,some [1],[]⟩) (bP rfl rfl rfl (by rfl) (fun H1 hH=>by exact(by exact aK rfl isAgg3 rfl ((hH _ rfl).trans rfl) rfl rfl rfl))) rfl ?_;refine aX (r:=⟨_,some [],[]⟩) (bP rfl rfl rfl (by rfl) (fun H1 hH=>by exact GZ rfl rfl rfl rfl)) rfl ?_;refine aX (r:=⟨_,some [],[]⟩) (bP rfl rfl rfl (by rfl) (fun H1 hH=>by exact CX rfl rfl rfl)) rfl ?_;refine Cr [] (fun _ _=>cE)<|Cr [] (fun _ _=>aF) ?_;refine aX (r:=⟨_,some [1],[]⟩) (bP rfl rfl rfl (by assumption) (fun H1 hH=>by exact(by exact aW rfl iA rfl ((hH _ rfl).trans rfl) rfl rfl))) rfl ?_;refine aX (r:=⟨_,some [1],[]⟩) (bP rfl rfl rfl (by assumption) (fun H1 hH=>by exact(by exact aW rfl tK rfl ((hH _ rfl).trans rfl) rfl rfl))) rfl ?_;refine aX (r:=⟨_,some [1],[]⟩) (bP rfl rfl rfl (by assumption) (fun H1 hH=>by exact(by exact aK rfl isAgg3 rfl ((hH _ rfl).trans rfl) rfl rfl rfl))) rfl ?_;refine aX (r:=⟨_,some [1],[]⟩) (bP rfl rfl rfl (by assumption) (fun H1 hH=>by exact(by exact aW rfl iA rfl ((hH _ rfl).trans rfl) rfl rfl))) rfl ?_;refine aX (r:=⟨_,some [1],[]⟩) (bP rfl rfl rfl (by assumption) (fun H1 hH=>by exact(by exact aW rfl tJ rfl ((hH _ rfl).trans rfl) rfl rfl))) rfl ?_;refine aX (r:=⟨_,some [1],[]⟩) (bP rfl rfl rfl (by assumption) (fun H1 hH=>by exact(by exact aK rfl isAgg3 rfl ((hH _ rfl).trans rfl) rfl rfl rfl))) rfl ?_;refine aX (r:=⟨_,some [],[]⟩) (bP rfl rfl rfl (by assumption) (fun H1 hH=>by exact aEk rfl rfl rfl rfl)) rfl ?_;refine aX (r:=⟨_,some [],[]⟩) (bP rfl rfl rfl (by assumption) (fun H1 hH=>by exact G3 rfl rfl rfl)) rfl ?_;refine Cr [] (fun _ _=>KU)<|Cr [3] (fun _ h=>fh iA h)<|Cp [3] (fun H1 hH=>by exact lG rfl sizeOf73 rfl rfl rfl rfl ((hH _ rfl).trans rfl) rfl rfl (aL6 rfl) rfl rfl)<|Cr [] (fun _ _=>aP)<|bJ<|Kr ?_;exact⟨rfl,⟨_,rfl,by rfl⟩,rfl,rfl,rfl⟩
  refine Sq ?_;refine bD (t:=2) (n:=8) (X:=(bI e.id&&decide (0≤min e.x e.y)&&decide (max e.x e.y < 1048576))&&iW ⟨e.op,e.id,sNil,sNil,e.x,e.y,sNil,sNil,[],zObj⟩ e) ?_ ?_
  ·all_goals refine Dd aF ?_
   all_goals refine Dm ?_
   all_goals refine Sp 127 (fun h127=>?_) fun h127=>?_
   all_goals try contradiction
   all_goals first|refine Fo<|Fo<|Fo ?_|refine On (by exact aM rfl bS aV rfl rfl rfl rfl (by simp only [Zl,bF,bH,encStr,aZ,zObj];rfl) rfl)<|On (by exact aM rfl bS aV rfl rfl rfl rfl (by simp only [Zl,bF,bH,encStr,aZ,zObj];rfl) rfl)<|On (by exact aA rfl rfl tU rfl (vR ⟨e.op,e.id,sNil,sNil,e.x,e.y,sNil,sNil,[],zObj⟩ e _ (by(show 0 < _;omega)) MY)) ?_
   all_goals refine Dd cE<|Da ?_
   all_goals(exact⟨⟨_,rfl,by(rw [h127];rfl)⟩,rfl,rfl,rfl⟩)
  refine aC<|Rt ?_;exact⟨by rw [hv],rfl⟩
 have ho2:¬ e.op=2:=aLQ hc2;refine Sr<|Dd cY<|Da ?_;refine Cn ?_ ?_<;>intro hc3
 ·have ho:e.op=3:=aLP hc3;have hx:GH e=⟨e.op,e.id,sNil,sNil,0,0,e.key,e.val,[],zObj⟩:=by rw [GH,aLR ho1,aLR ho2,aLS ho]
  have hk:uI e=(bI e.id&&(bI e.key&&decide ((e.val.size:Int)≤200))):=by rw [uI,aLR ho1,aLR ho2,aLS ho]
  have hb:(bI e.id&&bI e.key&&decide ((e.val.size:Int)≤200))=(bI e.id&&(bI e.key&&decide ((e.val.size:Int)≤200))):=by rw [Bool.and_assoc]
  have hv:fJ e=((bI e.id&&bI e.key&&decide ((e.val.size:Int)≤200))&&iW ⟨e.op,e.id,sNil,sNil,0,0,e.key,e.val,[],zObj⟩ e):=by rw [fJ,hx,hk,hb,ho];rfl
  apply rU (t:=4) (n:=20) (X:=bI e.id&&bI e.key&&decide ((e.val.size:Int)≤200))
  ·cases hg58:(bI e.id:Bool)
   ·refine aQ follows<|Cr [1] (fun _ h=>fh kP h)<|Cr [1] (fun _ h=>lh isAgg9 h)<|Cr [1] (fun _ h=>fh lM h)<|Cr [1] (fun _ h=>lh isAgg9 h)<|Cr [] (fun _ _=>aF)<|Cr [] (fun _ _=>aF)<|Ot<|Ot<|Ot<|Ot<|Cr [] (fun _ _=>cE)<|Cr [] (fun _ _=>aF)<|Ot<|Ot<|Ot<|Ot<|Cr [] (fun _ _=>cE)<|Cr [3] (fun _ h=>fh kP h)<|Cp [3] (fun H1 hH=>by exact bA rfl sizeOf9 rfl rfl rfl ((hH _ rfl).trans rfl) rfl rfl (aL6 rfl) rfl rfl)<|Cr [3] (fun _ h=>fh lM h)<|Cp [3] (fun H1 hH=>by exact bA rfl sizeOf9 rfl rfl rfl ((hH _ rfl).trans rfl) rfl rfl (aL6 rfl) rfl rfl)<|Cr [] (fun _ _=>aP)<|bJ<|Kr ?_;exact⟨rfl,⟨_,rfl,by rfl⟩,rfl,rfl,rfl⟩
   cases hg64:(bI e.key:Bool)
   ·refine aQ follows<|Cr [1] (fun _ h=>fh kP h)<|Cr [1] (fun _ h=>lh isAgg9 h)<|Cr [1] (fun _ h=>fh lM h)<|Cr [1] (fun _ h=>lh isAgg9 h)<|Cr [] (fun _ _=>aF)<|Cr [] (fun _ _=>aF) ?_;refine aX (r:=⟨_,some [1],[]⟩) (bP rfl rfl rfl (by rfl) (fun H1 hH=>by exact(by exact aW rfl kP rfl ((hH _ rfl).trans rfl) rfl rfl))) rfl ?_;refine aX (r:=⟨_,some [1],[]⟩) (bP rfl rfl rfl (by rfl) (fun H1 hH=>by exact(by exact aK rfl isAgg9 rfl ((hH _ rfl).trans rfl) rfl rfl rfl))) rfl ?_;refine aX (r:=⟨_,some [],[]⟩) (bP rfl rfl rfl (by rfl) (fun H1 hH=>by exact(by exact aS ([e.key].map encStr) rfl cP rfl rfl rfl rfl rfl (by simp [encStr])))) rfl ?_;refine aX (r:=⟨_,some [],[]⟩) (bP rfl rfl rfl (by rfl) (fun H1 hH=>by exact aA rfl rfl AU rfl (aEo e.key _ h4))) rfl ?_;refine Cr [] (fun _ _=>cE)<|Cr [] (fun _ _=>aF)<|Ot<|Ot<|Ot<|Ot<|Cr [] (fun _ _=>xA)<|Cr [3] (fun _ h=>fh kP h)<|Cp [3] (fun H1 hH=>by exact bA rfl sizeOf9 rfl rfl rfl ((hH _ rfl).trans rfl) rfl rfl (aL6 rfl) rfl rfl)<|Cr [3] (fun _ h=>fh lM h)<|Cp [3] (fun H1 hH=>by exact bA rfl sizeOf9 rfl rfl rfl ((hH _ rfl).trans rfl) rfl rfl (aL6 rfl) rfl rfl)<|Cr [] (fun _ _=>aP)<|bJ<|Kr ?_;exact⟨rfl,⟨_,rfl,by rfl⟩,rfl,rfl,rfl⟩
   refine aQ follows<|Cr [1] (fun _ h=>fh kP h)<|Cr [1] (fun _ h=>lh isAgg9 h)<|Cr [1] (fun _ h=>fh lM h)<|Cr [1] (fun _ h=>lh isAgg9 h)<|Cr [] (fun _ _=>aF)<|Cr [] (fun _ _=>aF) ?_;refine aX (r:=⟨_,some [1],[]⟩) (bP rfl rfl rfl (by rfl) (fun H1 hH=>by exact(by exact aW rfl kP rfl ((hH _ rfl).trans rfl) rfl rfl))) rfl ?_;refine aX (r:=⟨_,some [1],[]⟩) (bP rfl rfl rfl (by rfl) (fun H1 hH=>by exact(by exact aK rfl isAgg9 rfl ((hH _ rfl).trans rfl) rfl rfl rfl))) rfl ?_;refine aX (r:=⟨_,some [],[]⟩) (bP rfl rfl rfl (by rfl) (fun H1 hH=>by exact(by exact aS ([e.key].map encStr) rfl cP rfl rfl rfl rfl rfl (by simp [encStr])))) rfl ?_;refine aX (r:=⟨_,some [],[]⟩) (bP rfl rfl rfl (by rfl) (fun H1 hH=>by exact aA rfl rfl AU rfl (aEo e.key _ h4))) rfl ?_;refine Cr [] (fun _ _=>cE)<|Cr [] (fun _ _=>aF) ?_;refine aX (r:=⟨_,some [1],[]⟩) (bP rfl rfl rfl (by assumption) (fun H1 hH=>by exact(by exact aW rfl lM rfl ((hH _ rfl).trans rfl) rfl rfl))) rfl ?_;refine aX (r:=⟨_,some [1],[]⟩) (bP rfl rfl rfl (by assumption) (fun H1 hH=>by exact(by exact aK rfl isAgg9 rfl ((hH _ rfl).trans rfl) rfl rfl rfl))) rfl ?_;refine aX (r:=⟨_,some [],[]⟩) (bP rfl rfl rfl (by assumption) (fun H1 hH=>by exact FX rfl underlying9 rfl)) rfl ?_;refine aX (r:=⟨_,some [],[]⟩) (bP rfl rfl rfl (by assumption) (fun H1 hH=>by exact G4 rfl rfl rfl)) rfl ?_;refine Cr [] (fun _ _=>KU)<|Cr [3] (fun _ h=>fh kP h)<|Cp [3] (fun H1 hH=>by exact bA rfl sizeOf9 rfl rfl rfl ((hH _ rfl).trans rfl) rfl rfl (aL6 rfl) rfl rfl)<|Cr [3] (fun _ h=>fh lM h)<|Cp [3] (fun H1 hH=>by exact bA rfl sizeOf9 rfl rfl rfl ((hH _ rfl).trans rfl) rfl rfl (aL6 rfl) rfl rfl)<|Cr [] (fun _ _=>aP)<|bJ<|Kr ?_;exact⟨rfl,⟨_,rfl,by rfl⟩,rfl,rfl,rfl⟩
  refine Sq ?_;refine bD (t:=2) (n:=8) (X:=(bI e.id&&bI e.key&&decide ((e.val.size:Int)≤200))&&iW ⟨e.op,e.id,sNil,sNil,0,0,e.key,e.val,[],zObj⟩ e) ?_ ?_
  ·all_goals refine Dd aF ?_
   all_goals refine Dm ?_
   all_goals refine Sp 127 (fun h127=>?_) fun h127=>?_
   all_goals try contradiction
   all_goals first|refine Fo<|Fo<|Fo ?_|refine On (by exact aM rfl bS aV rfl rfl rfl rfl (by simp only [Zl,bF,bH,encStr,aZ,zObj];rfl) rfl)<|On (by exact aM rfl bS aV rfl rfl rfl rfl (by simp only [Zl,bF,bH,encStr,aZ,zObj];rfl) rfl)<|On (by exact aA rfl rfl tU rfl (vR ⟨e.op,e.id,sNil,sNil,0,0,e.key,e.val,[],zObj⟩ e _ (by(show 0 < _;omega)) MY)) ?_
   all_goals refine Dd cE<|Da ?_
   all_goals(exact⟨⟨_,rfl,by(rw [h127];rfl)⟩,rfl,rfl,rfl⟩)
  refine aC<|Rt ?_;exact⟨by rw [hv],rfl⟩
 have ho3:¬ e.op=3:=aLQ hc3;refine Sr<|Dd cY<|Da ?_;refine Cn ?_ ?_<;>intro hc4
 ·have ho:e.op=4:=aLP hc4;have hx:GH e=⟨e.op,e.id,sNil,sNil,0,0,sNil,sNil,e.refs,zObj⟩:=by rw [GH,aLR ho1,aLR ho2,aLR ho3,aLS ho]
  have hk:uI e=(bI e.id&&(decide ((0:Int) < (e.refs.length:Int))&&decide ((e.refs.length:Int)≤2000)&&e.refs.all bI)):=by rw [uI,aLR ho1,aLR ho2,aLR ho3,aLS ho]
  have hb:(bI e.id&&decide ((0:Int) < ((e.refs.map encStr).length:Int))&&decide (((e.refs.map encStr).length:Int)≤2000)&&e.refs.all bI)=(bI e.id&&(decide ((0:Int) < (e.refs.length:Int))&&decide ((e.refs.length:Int)≤2000)&&e.refs.all bI)):=by rw [hrl];simp only [Bool.and_assoc]
  have hv:fJ e=((bI e.id&&decide ((0:Int) < ((e.refs.map encStr).length:Int))&&decide (((e.refs.map encStr).length:Int)≤2000)&&e.refs.all bI)&&iW ⟨e.op,e.id,sNil,sNil,0,0,sNil,sNil,e.refs,zObj⟩ e):=by rw [fJ,hx,hk,hb,ho];rfl
  apply rU (t:=4) (n:=22) (X:=bI e.id&&decide ((0:Int) < ((e.refs.map encStr).length:Int))&&decide (((e.refs.map encStr).length:Int)≤2000)&&e.refs.all bI)
  ·cases hg77:(bI e.id:Bool)
   ·refine aQ follows<|Cr [1] (fun _ h=>fh eS h)<|Cr [1] (fun _ h=>lh aJ h)<|Cr [] (fun _ _=>aF)<|Cr [] (fun _ _=>aF)<|Ot<|Ot<|Ot<|Ot<|Cr [] (fun _ _=>cE)<|Cr [] (fun _ _=>aF)<|Ot<|Ot<|Ot<|Ot<|Cr [] (fun _ _=>cE)<|Cr [] (fun _ _=>aF)<|Ot<|Ot<|Ot<|Cr [] (fun _ _=>cE)<|Cr [3] (fun _ h=>fh eS h)<|Cp [3] (fun H1 hH=>by exact bA rfl sizeOf22 rfl rfl rfl ((hH _ rfl).trans rfl) rfl rfl (aL6 rfl) rfl rfl)<|Cr [] (fun _ _=>aP)<|bJ<|Kr ?_;exact⟨rfl,⟨_,rfl,by rfl⟩,rfl,rfl,rfl⟩
   cases hg83:(decide ((0:Int) < ((e.refs.map encStr).length:Int)):Bool)
   ·refine aQ follows<|Cr [1] (fun _ h=>fh eS h)<|Cr [1] (fun _ h=>lh aJ h)<|Cr [] (fun _ _=>aF)<|Cr [] (fun _ _=>aF) ?_;refine aX (r:=⟨_,some [1],[]⟩) (bP rfl rfl rfl (by rfl) (fun H1 hH=>by exact(by exact aW rfl eS rfl ((hH _ rfl).trans rfl) rfl rfl))) rfl ?_;refine aX (r:=⟨_,some [1],[]⟩) (bP rfl rfl rfl (by rfl) (fun H1 hH=>by exact(by exact aK rfl aJ rfl ((hH _ rfl).trans rfl) rfl rfl rfl))) rfl ?_;refine aX (r:=⟨_,some [],[]⟩) (bP rfl rfl rfl (by rfl) (fun H1 hH=>by exact(by exact jR rfl aD rfl))) rfl ?_;refine aX (r:=⟨_,some [],[]⟩) (bP rfl rfl rfl (by rfl) (fun H1 hH=>by exact CW rfl rfl rfl)) rfl ?_;refine Cr [] (fun _ _=>cE)<|Cr [] (fun _ _=>aF)<|Ot<|Ot<|Ot<|Ot<|Cr [] (fun _ _=>xA)<|Cr [] (fun _ _=>aF)<|Ot<|Ot<|Ot<|Cr [] (fun _ _=>cE)<|Cr [3] (fun _ h=>fh eS h)<|Cp [3] (fun H1 hH=>by exact bA rfl sizeOf22 rfl rfl rfl ((hH _ rfl).trans rfl) rfl rfl (aL6 rfl) rfl rfl)<|Cr [] (fun _ _=>aP)<|bJ<|Kr ?_;exact⟨rfl,⟨_,rfl,by rfl⟩,rfl,rfl,rfl⟩
   cases hg89:(decide (((e.refs.map encStr).length:Int)≤2000):Bool)
   ·refine aQ follows<|Cr [1] (fun _ h=>fh eS h)<|Cr [1] (fun _ h=>lh aJ h)<|Cr [] (fun _ _=>aF)<|Cr [] (fun _ _=>aF) ?_;refine aX (r:=⟨_,some [1],[]⟩) (bP rfl rfl rfl (by rfl) (fun H1 hH=>by exact(by exact aW rfl eS rfl ((hH _ rfl).trans rfl) rfl rfl))) rfl ?_;refine aX (r:=⟨_,some [1],[]⟩) (bP rfl rfl rfl (by rfl) (fun H1 hH=>by exact(by exact aK rfl aJ rfl ((hH _ rfl).trans rfl) rfl rfl rfl))) rfl ?_;refine aX (r:=⟨_,some [],[]⟩) (bP rfl rfl rfl (by rfl) (fun H1 hH=>by exact(by exact jR rfl aD rfl))) rfl ?_;refine aX (r:=⟨_,some [],[]⟩) (bP rfl rfl rfl (by rfl) (fun H1 hH=>by exact CW rfl rfl rfl)) rfl ?_;refine Cr [] (fun _ _=>cE)<|Cr [] (fun _ _=>aF) ?_;refine aX (r:=⟨_,some [1],[]⟩) (bP rfl rfl rfl (by assumption) (fun H1 hH=>by exact(by exact aW rfl eS rfl ((hH _ rfl).trans rfl) rfl rfl))) rfl ?_;refine aX (r:=⟨_,some [1],[]⟩) (bP rfl rfl rfl (by assumption) (fun H1 hH=>by exact(by exact aK rfl aJ rfl ((hH _ rfl).trans rfl) rfl rfl rfl))) rfl ?_;refine aX (r:=⟨_,some [],[]⟩) (bP rfl rfl rfl (by assumption) (fun H1 hH=>by exact(by exact jR rfl aD rfl))) rfl ?_;refine aX (r:=⟨_,some [],[]⟩) (bP rfl rfl rfl (by assumption) (fun H1 hH=>by exact G4 rfl rfl rfl)) rfl ?_;refine Cr [] (fun _ _=>KU)<|Cr [] (fun _ _=>aF)<|Ot<|Ot<|Ot<|Cr [] (fun _ _=>xA)<|Cr [3] (fun _ h=>fh eS h)<|Cp [3] (fun H1 hH=>by exact bA rfl sizeOf22 rfl rfl rfl ((hH _ rfl).trans rfl) rfl rfl (aL6 rfl) rfl rfl)<|Cr [] (fun _ _=>aP)<|bJ<|Kr ?_;exact⟨rfl,⟨_,rfl,by rfl⟩,rfl,rfl,rfl⟩
   refine aQ follows<|Cr [1] (fun _ h=>fh eS h)<|Cr [1] (fun _ h=>lh aJ h)<|Cr [] (fun _ _=>aF)<|Cr [] (fun _ _=>aF) ?_;refine aX (r:=⟨_,some [1],[]⟩) (bP rfl rfl rfl (by rfl) (fun H1 hH=>by exact(by exact aW rfl eS rfl ((hH _ rfl).trans rfl) rfl rfl))) rfl ?_;refine aX (r:=⟨_,some [1],[]⟩) (bP rfl rfl rfl (by rfl) (fun H1 hH=>by exact(by exact aK rfl aJ rfl ((hH _ rfl).trans rfl) rfl rfl rfl))) rfl ?_;refine aX (r:=⟨_,some [],[]⟩) (bP rfl rfl rfl (by rfl) (fun H1 hH=>by exact(by exact jR rfl aD rfl))) rfl ?_;refine aX (r:=⟨_,some [],[]⟩) (bP rfl rfl rfl (by rfl) (fun H1 hH=>by exact CW rfl rfl rfl)) rfl ?_;refine Cr [] (fun _ _=>cE)<|Cr [] (fun _ _=>aF) ?_;refine aX (r:=⟨_,some [1],[]⟩) (bP rfl rfl rfl (by assumption) (fun H1 hH=>by exact(by exact aW rfl eS rfl ((hH _ rfl).trans rfl) rfl rfl))) rfl ?_;refine aX (r:=⟨_,some [1],[]⟩) (bP rfl rfl rfl (by assumption) (fun H1 hH=>by exact(by exact aK rfl aJ rfl ((hH _ rfl).trans rfl) rfl rfl rfl))) rfl ?_;refine aX (r:=⟨_,some [],[]⟩) (bP rfl rfl rfl (by assumption) (fun H1 hH=>by exact(by exact jR rfl aD rfl))) rfl ?_;refine aX (r:=⟨_,some [],[]⟩) (bP rfl rfl rfl (by assumption) (fun H1 hH=>by exact G4 rfl rfl rfl)) rfl ?_;refine Cr [] (fun _ _=>KU)<|Cr [] (fun _ _=>aF) ?_;refine aX (r:=⟨_,some [1],[]⟩) (bP rfl rfl rfl (by assumption) (fun H1 hH=>by exact(by exact aW rfl eS rfl ((hH _ rfl).trans rfl) rfl rfl))) rfl ?_;refine aX (r:=⟨_,some [1],[]⟩) (bP rfl rfl rfl (by assumption) (fun H1 hH=>by exact(by exact aK rfl aJ rfl ((hH _ rfl).trans rfl) rfl rfl rfl))) rfl ?_;refine aX (r:=⟨_,some [],[]⟩) (bP rfl rfl rfl (by assumption) (fun H1 hH=>by exact aA rfl rfl AU rfl (O9 e.refs _ h5 h6))) rfl ?_;refine Cr [] (fun _ _=>KU)<|Cr [3] (fun _ h=>fh eS h)<|Cp [3] (fun H1 hH=>by exact bA rfl sizeOf22 rfl rfl rfl ((hH _ rfl).trans rfl) rfl rfl (aL6 rfl) rfl rfl)<|Cr [] (fun _ _=>aP)<|bJ<|Kr ?_;exact⟨rfl,⟨_,rfl,by rfl⟩,rfl,rfl,rfl⟩
  refine Sq ?_;refine bD (t:=2) (n:=8) (X:=(bI e.id&&decide ((0:Int) < ((e.refs.map encStr).length:Int))&&decide (((e.refs.map encStr).length:Int)≤2000)&&e.refs.all bI)&&iW ⟨e.op,e.id,sNil,sNil,0,0,sNil,sNil,e.refs,zObj⟩ e) ?_ ?_
  ·all_goals refine Dd aF ?_
   all_goals refine Dm ?_
   all_goals refine Sp 127 (fun h127=>?_) fun h127=>?_
   all_goals try contradiction
   all_goals first|refine Fo<|Fo<|Fo ?_|refine On (by exact aM rfl bS aV rfl rfl rfl rfl (by simp only [Zl,bF,bH,encStr,aZ,zObj];rfl) rfl)<|On (by exact aM rfl bS aV rfl rfl rfl rfl (by simp only [Zl,bF,bH,encStr,aZ,zObj];rfl) rfl)<|On (by exact aA rfl rfl tU rfl (vR ⟨e.op,e.id,sNil,sNil,0,0,sNil,sNil,e.refs,zObj⟩ e _ (by exact h5) MY)) ?_
   all_goals refine Dd cE<|Da ?_
   all_goals(exact⟨⟨_,rfl,by(rw [h127];rfl)⟩,rfl,rfl,rfl⟩)
  refine aC<|Rt ?_;exact⟨by rw [hv],rfl⟩
 have ho4:¬ e.op=4:=aLQ hc4;refine Sr<|Dd cY<|Da ?_;refine Cn ?_ ?_<;>intro hc5
 ·have ho:e.op=5:=aLP hc5;have hx:GH e=⟨e.op,e.id,sNil,sNil,0,0,sNil,sNil,[],zObj⟩:=by rw [GH,aLR ho1,aLR ho2,aLR ho3,aLR ho4,aLS ho]
  have hk:uI e=(bI e.id):=by rw [uI,aLR ho1,aLR ho2,aLR ho3,aLR ho4,aLS ho];simp
  have hv:fJ e=((bI e.id)&&iW ⟨e.op,e.id,sNil,sNil,0,0,sNil,sNil,[],zObj⟩ e):=by rw [fJ,hx,hk,ho];rfl
  refine aE<|Sq ?_;refine bD (t:=2) (n:=8) (X:=(bI e.id)&&iW ⟨e.op,e.id,sNil,sNil,0,0,sNil,sNil,[],zObj⟩ e) ?_ ?_
  ·all_goals refine Dd aF ?_
   all_goals refine Dm ?_
   all_goals refine Sp 127 (fun h127=>?_) fun h127=>?_
   all_goals try contradiction
   all_goals first|refine Fo<|Fo<|Fo ?_|refine On (by exact aM rfl bS aV rfl rfl rfl rfl (by simp only [Zl,bF,bH,encStr,aZ,zObj];rfl) rfl)<|On (by exact aM rfl bS aV rfl rfl rfl rfl (by simp only [Zl,bF,bH,encStr,aZ,zObj];rfl) rfl)<|On (by exact aA rfl rfl tU rfl (vR ⟨e.op,e.id,sNil,sNil,0,0,sNil,sNil,[],zObj⟩ e _ (by(show 0 < _;omega)) MY)) ?_
   all_goals refine Dd cE<|Da ?_
   all_goals(exact⟨⟨_,rfl,by(rw [h127];rfl)⟩,rfl,rfl,rfl⟩)
  refine aC<|Rt ?_;exact⟨by rw [hv],rfl⟩
 have ho5:¬ e.op=5:=aLQ hc5;refine Sr<|Dd cY<|Da ?_;refine Cn ?_ ?_<;>intro hc6
 ·have ho:e.op=6:=aLP hc6;have hx:GH e=⟨e.op,e.id,e.other,e.node,0,0,sNil,sNil,[],zObj⟩:=by rw [GH,aLR ho1,aLR ho2,aLR ho3,aLR ho4,aLR ho5,aLS ho]
  have hk:uI e=(bI e.id&&(bI e.node&&bI e.other)):=by rw [uI,aLR ho1,aLR ho2,aLR ho3,aLR ho4,aLR ho5,aLS ho]
  have hb:(bI e.id&&(bI e.node&&bI e.other))=(bI e.id&&(bI e.node&&bI e.other)):=by rfl
  have hv:fJ e=((bI e.id&&(bI e.node&&bI e.other))&&iW ⟨e.op,e.id,e.other,e.node,0,0,sNil,sNil,[],zObj⟩ e):=by rw [fJ,hx,hk,hb,ho];rfl
  apply rU (t:=4) (n:=16) (X:=bI e.id&&(bI e.node&&bI e.other))
  ·cases hg104:(bI e.id:Bool)
   ·refine aQ follows<|Cr [1] (fun _ h=>fh nO h)<|Cr [1] (fun _ h=>lh isAgg9 h)<|Cr [1] (fun _ h=>fh iG h)<|Cr [1] (fun _ h=>lh isAgg9 h)<|Cr [] (fun _ _=>aF)<|Cr [] (fun _ _=>aF)<|Ot<|Ot<|Ot<|Ot<|Ot<|Ot<|Cr [] (fun _ _=>cE)<|Cr [3] (fun _ h=>fh nO h)<|Cp [3] (fun H1 hH=>by exact bA rfl sizeOf9 rfl rfl rfl ((hH _ rfl).trans rfl) rfl rfl (aL6 rfl) rfl rfl)<|Cr [3] (fun _ h=>fh iG h)<|Cp [3] (fun H1 hH=>by exact bA rfl sizeOf9 rfl rfl rfl ((hH _ rfl).trans rfl) rfl rfl (aL6 rfl) rfl rfl)<|Cr [] (fun _ _=>aP)<|bJ<|Kr ?_;exact⟨rfl,⟨_,rfl,by rfl⟩,rfl,rfl,rfl⟩
   refine aQ follows<|Cr [1] (fun _ h=>fh nO h)<|Cr [1] (fun _ h=>lh isAgg9 h)<|Cr [1] (fun _ h=>fh iG h)<|Cr [1] (fun _ h=>lh isAgg9 h)<|Cr [] (fun _ _=>aF)<|Cr [] (fun _ _=>aF) ?_;refine aX (r:=⟨_,some [1],[]⟩) (bP rfl rfl rfl (by rfl) (fun H1 hH=>by exact(by exact aW rfl nO rfl ((hH _ rfl).trans rfl) rfl rfl))) rfl ?_;refine aX (r:=⟨_,some [1],[]⟩) (bP rfl rfl rfl (by rfl) (fun H1 hH=>by exact(by exact aK rfl isAgg9 rfl ((hH _ rfl).trans rfl) rfl rfl rfl))) rfl ?_;refine aX (r:=⟨_,some [1],[]⟩) (bP rfl rfl rfl (by rfl) (fun H1 hH=>by exact(by exact aW rfl iG rfl ((hH _ rfl).trans rfl) rfl rfl))) rfl ?_;refine aX (r:=⟨_,some [1],[]⟩) (bP rfl rfl rfl (by rfl) (fun H1 hH=>by exact(by exact aK rfl isAgg9 rfl ((hH _ rfl).trans rfl) rfl rfl rfl))) rfl ?_;refine aX (r:=⟨_,some [],[]⟩) (bP rfl rfl rfl (by rfl) (fun H1 hH=>by exact(by exact aS ([e.node,e.other].map encStr) rfl cP rfl rfl rfl rfl rfl (by simp [encStr])))) rfl ?_;refine aX (r:=⟨_,some [],[]⟩) (bP rfl rfl rfl (by rfl) (fun H1 hH=>by exact aA rfl rfl AU rfl (aKa e.node e.other _ h3 h2))) rfl ?_;refine Cr [] (fun _ _=>cE)<|Cr [3] (fun _ h=>fh nO h)<|Cp [3] (fun H1 hH=>by exact bA rfl sizeOf9 rfl rfl rfl ((hH _ rfl).trans rfl) rfl rfl (aL6 rfl) rfl rfl)<|Cr [3] (fun _ h=>fh iG h)<|Cp [3] (fun H1 hH=>by exact bA rfl sizeOf9 rfl rfl rfl ((hH _ rfl).trans rfl) rfl rfl (aL6 rfl) rfl rfl)<|Cr [] (fun _ _=>aP)<|bJ<|Kr ?_;exact⟨rfl,⟨_,rfl,by rfl⟩,rfl,rfl,rfl⟩
  refine Sq ?_;refine bD (t:=2) (n:=8) (X:=(bI e.id&&(bI e.node&&bI e.other))&&iW ⟨e.op,e.id,e.other,e.node,0,0,sNil,sNil,[],zObj⟩ e) ?_ ?_
  ·all_goals refine Dd aF ?_
   all_goals refine Dm ?_
   all_goals refine Sp 127 (fun h127=>?_) fun h127=>?_
   all_goals try contradiction
   all_goals first|refine Fo<|Fo<|Fo ?_|refine On (by exact aM rfl bS aV rfl rfl rfl rfl (by simp only [Zl,bF,bH,encStr,aZ,zObj];rfl) rfl)<|On (by exact aM rfl bS aV rfl rfl rfl rfl (by simp only [Zl,bF,bH,encStr,aZ,zObj];rfl) rfl)<|On (by exact aA rfl rfl tU rfl (vR ⟨e.op,e.id,e.other,e.node,0,0,sNil,sNil,[],zObj⟩ e _ (by(show 0 < _;omega)) MY)) ?_
   all_goals refine Dd cE<|Da ?_
   all_goals(exact⟨⟨_,rfl,by(rw [h127];rfl)⟩,rfl,rfl,rfl⟩)
  refine aC<|Rt ?_;exact⟨by rw [hv],rfl⟩
 have ho6:¬ e.op=6:=aLQ hc6;refine Sr<|Dd cY<|Da ?_;refine Cn ?_ ?_<;>intro hc7
 ·have ho:e.op=7:=aLP hc7;have hx:GH e=⟨e.op,e.id,e.other,sNil,0,0,sNil,sNil,[],zObj⟩:=by rw [GH,aLR ho1,aLR ho2,aLR ho3,aLR ho4,aLR ho5,aLR ho6]
  have hk:uI e=(bI e.id&&bI e.other):=by rw [uI,aLR ho1,aLR ho2,aLR ho3,aLR ho4,aLR ho5,aLR ho6]
  have hb:(bI e.id&&bI e.other)=(bI e.id&&bI e.other):=by rfl
  have hv:fJ e=((bI e.id&&bI e.other)&&iW ⟨e.op,e.id,e.other,sNil,0,0,sNil,sNil,[],zObj⟩ e):=by rw [fJ,hx,hk,hb,ho];rfl
  apply rU (t:=4) (n:=11) (X:=bI e.id&&bI e.other)
  ·cases hg119:(bI e.id:Bool)
   ·refine aQ follows<|Cr [1] (fun _ h=>fh iG h)<|Cr [1] (fun _ h=>lh isAgg9 h)<|Cr [] (fun _ _=>aF)<|Cr [] (fun _ _=>aF)<|Ot<|Ot<|Ot<|Ot<|Cr [] (fun _ _=>cE)<|Cr [3] (fun _ h=>fh iG h)<|Cp [3] (fun H1 hH=>by exact bA rfl sizeOf9 rfl rfl rfl ((hH _ rfl).trans rfl) rfl rfl (aL6 rfl) rfl rfl)<|Cr [] (fun _ _=>aP)<|bJ<|Kr ?_;exact⟨rfl,⟨_,rfl,by rfl⟩,rfl,rfl,rfl⟩
   refine aQ follows<|Cr [1] (fun _ h=>fh iG h)<|Cr [1] (fun _ h=>lh isAgg9 h)<|Cr [] (fun _ _=>aF)<|Cr [] (fun _ _=>aF) ?_;refine aX (r:=⟨_,some [1],[]⟩) (bP rfl rfl rfl (by rfl) (fun H1 hH=>by exact(by exact aW rfl iG rfl ((hH _ rfl).trans rfl) rfl rfl))) rfl ?_;refine aX (r:=⟨_,some [1],[]⟩) (bP rfl rfl rfl (by rfl) (fun H1 hH=>by exact(by exact aK rfl isAgg9 rfl ((hH _ rfl).trans rfl) rfl rfl rfl))) rfl ?_;refine aX (r:=⟨_,some [],[]⟩) (bP rfl rfl rfl (by rfl) (fun H1 hH=>by exact(by exact aS ([e.other].map encStr) rfl cP rfl rfl rfl rfl rfl (by simp [encStr])))) rfl ?_;refine aX (r:=⟨_,some [],[]⟩) (bP rfl rfl rfl (by rfl) (fun H1 hH=>by exact aA rfl rfl AU rfl (aEo e.other _ h2))) rfl ?_;refine Cr [] (fun _ _=>cE)<|Cr [3] (fun _ h=>fh iG h)<|Cp [3] (fun H1 hH=>by exact bA rfl sizeOf9 rfl rfl rfl ((hH _ rfl).trans rfl) rfl rfl (aL6 rfl) rfl rfl)<|Cr [] (fun _ _=>aP)<|bJ<|Kr ?_;exact⟨rfl,⟨_,rfl,by rfl⟩,rfl,rfl,rfl⟩
  refine Sq ?_;refine bD (t:=2) (n:=8) (X:=(bI e.id&&bI e.other)&&iW ⟨e.op,e.id,e.other,sNil,0,0,sNil,sNil,[],zObj⟩ e) ?_ ?_
  ·all_goals refine Dd aF ?_
   all_goals refine Dm ?_
   all_goals refine Sp 127 (fun h127=>?_) fun h127=>?_
   all_goals try contradiction
   all_goals first|refine Fo<|Fo<|Fo ?_|refine On (by exact aM rfl bS aV rfl rfl rfl rfl (by simp only [Zl,bF,bH,encStr,aZ,zObj];rfl) rfl)<|On (by exact aM rfl bS aV rfl rfl rfl rfl (by simp only [Zl,bF,bH,encStr,aZ,zObj];rfl) rfl)<|On (by exact aA rfl rfl tU rfl (vR ⟨e.op,e.id,e.other,sNil,0,0,sNil,sNil,[],zObj⟩ e _ (by(show 0 < _;omega)) MY)) ?_
   all_goals refine Dd cE<|Da ?_
   all_goals(exact⟨⟨_,rfl,by(rw [h127];rfl)⟩,rfl,rfl,rfl⟩)
  refine aC<|Rt ?_;exact⟨by rw [hv],rfl⟩
 have ho7:¬ e.op=7:=aLQ hc7;refine Sr<|Dd aP<|Zz<|aC<|Rt ?_;refine⟨?_,rfl⟩;have:fJ e=false:=by
  rw [fJ,Bool.and_eq_false_iff];left;rw [Bool.and_eq_false_iff,aL1,aL1];omega
 rw [this]
theorem J4 (e:GEdit) (H:aB) (he:QM e):aH Tryz.prog 208 [av (aZ e)] H (fun r H'=>r=bv (!fJ e)∧H'=H):=by refine Pu ?_;exact Bd func208 rfl ntmps208<|Sr<|Dd (by exact bZ (id:=1) rfl rfl rfl rfl rfl)<|Dd aP<|Zz<|Sr<|Dd (by exact aM rfl bS aV rfl rfl rfl rfl (by simp only [Zl,bF,bH,encStr,aZ,zObj];rfl) rfl)<|Dd (by exact aA rfl rfl call209 rfl (SW e _ he))<|Dd lI<|Dd aP<|Zz<|aC<|Rt<|Qq
def sU (l:List GEdit):Bool:=decide ((0:Int) < (l.length:Int))&&decide ((l.length:Int)≤200)&&!(l.any (fun e=>!fJ e))
theorem LV (l:List GEdit) (H:aB) (hl:l.length < 4611686018427387904) (he:∀ e∈l,QM e):aH Tryz.prog 170 [.pv (iO l)] H (fun r H'=>r=bv (sU l)∧H'=H):=by
 refine Pu ?_;have hml:(l.map aZ).length=l.length:=aLT _;refine Bd func170 rfl ntmps170<|Sr<|Dd aP<|Zz<|Sq ?_;refine bD (t:=2) (n:=16) (X:=decide ((0:Int) < ((l.map aZ).length:Int))&&decide (((l.map aZ).length:Int)≤200)&&!(l.any (fun e=>!fJ e))) ?_ ?_
 ·all_goals refine Dd aF ?_
  all_goals refine Dd (fY dD)<|Dd mI<|Dm ?_
  all_goals refine Sp 6 (fun h6=>?_) fun h6=>?_
  all_goals try contradiction
  all_goals first|refine Fo<|Fo<|Fo ?_|refine On aF<|On (fY dD)<|On TP ?_
  all_goals refine Dd cE<|Dm ?_
  all_goals refine Sp 11 (fun h11=>?_) fun h11=>?_
  all_goals try contradiction
  all_goals first|refine Fo<|Fo<|Fo ?_|refine On aF<|On (by exact aA rfl rfl call207 rfl (BW (.pv (.fn 208)) l (fun e=>!fJ e) _ hl (fun e h=>cC.fn call208 (J4 e _ (he e h)))))<|On lI ?_
  all_goals refine Dd cE<|Da ?_
  all_goals(exact⟨⟨_,rfl,by first|(simp_all;done)|(simp_all;omega)⟩,rfl,rfl,rfl⟩)
 refine aC<|Rt ?_;exact⟨by rw [sU,hml],rfl⟩
def nm (i:Nat):ByteArray:=⟨#[110,49+UInt8.ofNat i]⟩
theorem aHL {B:Nat} {e:GEdit} (hB:B < 4611686018427387904) (h:OG B e):QM e :=⟨⟨by have:=h.2.1;omega,by have:=h.2.2.1;omega,by have:=h.2.2.2.1;omega,by have:=h.2.2.2.2.2.2.1;omega⟩,
  ⟨by have:=h.2.2.2.2.2.2.2.2.1.1;omega,fun s hs=>by have:=h.2.2.2.2.2.2.2.2.1.2 s hs;omega⟩,aHK hB h.2.2.2.2.2.2.2.2.2⟩
end Go.Proofs.YtiifmppaejpemaaGreatDoor
namespace Go.Abs
open Go.Proofs
theorem Rel.grown {I:Nat→Prop} {ι:dR} {H:aB} {w:World} (os:Array Obj) (hr:Rel I ι H w):Rel I ι H (Sort.grow w os)∧Step I ι H w I ι H (Sort.grow w os):=by
 have hk:∀ b,b < w.heap.size→(Sort.grow w os).heap[b]?=w.heap[b]?:=fun b hb=>by
  show (w.heap++os)[b]?=_;rw [Array.getElem?_append_left hb]
 have hst:Step I ι H w I ι H (Sort.grow w os):=by
  refine⟨rfl,rfl,rfl,?_,fun a ha _=>?_,fun _ h=>h,fun _ h=>.inl h,fun _ h=>.inl h,fun b hb _=>hk b hb,fun _ o h=>⟨o,h,aLZ _,fun _=>⟨rfl,rfl,fun _=>aLZ _⟩⟩⟩
  ·show w.heap.size≤(w.heap++os).size;simp
  unfold World.frozen?;rw [hk _ ha]
 refine⟨⟨fun b hb=>?_,fun j o hj=>?_,hr.inj,hst.glob hr⟩,hst⟩
 ·have:=hr.imm b hb;show b < (w.heap++os).size;simp;omega
 exact(hr.obj j o hj).keep rfl (fun b c _ hb=>⟨hk b hb,fun h=>h⟩) (fun r _ a _ v hv=>hv.mono hr hst)
def bL (n:Int):ByteArray:=⟨(Lib.itoa n).toArray⟩
theorem itoa_c {P:Program} {ρ:Shelf.Ren} (L:LaysM.n171 P ρ) {G:Nat} (hg:(G,GV.ints .u64 Lib.pow10Tab)∈PO) (hn:P.globalNamed "internal/strconv.uint64pow10" = some G) (n:Int) (h0 : -9223372036854775808≤n) (h1:n≤9223372036854775807) (H:aB) :
  aH P (ρ.f 171) [.pv (.int .i64 n)] H (fun r H'=>r=.pv (.str (bL n))∧H'=H):=by
 intro I ι w vs hr hvl hv;obtain ⟨v,rfl⟩:∃ v,vs=#[v]:=by
  match vs,hvl with
  | ⟨[v]⟩,_=>exact⟨v,rfl⟩
 have e1:=(hv 0 v _ rfl rfl).int_inv;subst e1;have htab:Lib.TabIs P w "internal/strconv.uint64pow10" .u64 Lib.pow10Tab:=by
  obtain ⟨_,cs,t,f,h2,h3⟩:=hr.glob _ hg;have h3':cs=(Lib.pow10Tab.map fun z=>Value.int .u64 z).toArray:=h3;subst h3';simp only [Lib.TabIs,World.var?,hn,Option.bind_some,h2]
 refine(Any.strconv_Itoa L n h0 h1 w htab).mono ?_;rintro e w' ⟨rfl,k,os,rfl⟩;obtain ⟨k1,k2⟩:=Rel.drawn (w':=w.drewN k) hr rfl rfl rfl rfl;obtain ⟨m1,m2⟩:=Rel.grown os k1;exact⟨_,_,I,ι,_,rfl,⟨rfl,rfl⟩,.pv (.str _),m1,k2.trans m2⟩
theorem mul64_c {P:Program} {ρ:Shelf.Ren} (L:Lays.n264 P ρ) (x y:Nat) (hx:x < 18446744073709551616) (hy:y < 18446744073709551616) (H:aB) :
  aH P (ρ.f 264) [.pv (.int .u64 (x:Int)),.pv (.int .u64 (y:Int))] H (fun r H'=>r=.tup [.pv (.int .u64 ((x*y / 18446744073709551616:Nat):Int)),.pv (.int .u64 ((x*y % 18446744073709551616:Nat):Int))]∧H'=H):=by
 intro I ι w vs hr hvl hv;obtain ⟨v,u,rfl⟩:∃ v u,vs=#[v,u]:=by
  match vs,hvl with
  | ⟨[v,u]⟩,_=>exact⟨v,u,rfl⟩
 have e1:=(hv 0 v _ rfl rfl).int_inv;have e2:=(hv 1 u _ rfl rfl).int_inv;subst e1 e2;refine(Any.bits_Mul64 L x y hx hy w).mono ?_;rintro e w' ⟨rfl,rfl⟩;refine⟨_,_,I,ι,_,rfl,⟨rfl,rfl⟩,.tup rfl fun i v a h1 h2=>?_,hr,Step.refl _ _ _ _⟩
 match i,h1,h2 with
 | 0,h1,h2=>cases h1;cases h2;exact .pv (.int _ _)
 | 1,h1,h2=>cases h1;cases h2;exact .pv (.int _ _)
 | i+2,h1,h2=>simp at h1
end Go.Abs
section
namespace Go.Proofs
open Go.RowKit Go.Sort Go.Shelf
def aLJ:Go.Shelf.Ren:=⟨fun|171=>113|243=>158|246=>193|283=>223|284=>224|285=>225|286=>226|129=>256|317=>255|318=>257|319=>258|320=>259|337=>274|338=>275|n=>n,fun|3=>3|9=>9|2=>2|4=>4|171=>235|0=>0|53=>126|37=>124|5=>5|173=>238|212=>264|51=>265|20=>20|213=>266|46=>128|232=>284|233=>285|n=>n,fun|17=>5|18=>6|19=>7|n=>n⟩
theorem aLM:Go.Proofs.LaysM.n171 Tryz.prog aLJ:={
  mixed:=by kernel_rfl
  f129:=Tryz.func256.trans (congrArg some (by kernel_rfl))
  f171:=Tryz.func113.trans (congrArg some (by kernel_rfl))
  f243:=Tryz.func158.trans (congrArg some (by kernel_rfl))
  f246:=Tryz.func193.trans (congrArg some (by kernel_rfl))
  f283:=Tryz.func223.trans (congrArg some (by kernel_rfl))
  f284:=Tryz.func224.trans (congrArg some (by kernel_rfl))
  f285:=Tryz.func225.trans (congrArg some (by kernel_rfl))
  f286:=Tryz.func226.trans (congrArg some (by kernel_rfl))
  f317:=Tryz.func255.trans (congrArg some (by kernel_rfl))
  f318:=Tryz.func257.trans (congrArg some (by kernel_rfl))
  f319:=Tryz.func258.trans (congrArg some (by kernel_rfl))
  f320:=Tryz.func259.trans (congrArg some (by kernel_rfl))
  f337:=Tryz.func274.trans (congrArg some (by kernel_rfl))
  f338:=Tryz.func275.trans (congrArg some (by kernel_rfl))
  t0:=aDZ
  a0:=aLE
  z0:=aKm
  v0:=aFq
  t2:=Tryz.underlying2
  a2:=Tryz.isAgg2
  z2:=Tryz.sizeOf2
  v2:=Tryz.zeroValue2
  t3:=Tryz.underlying3
  a3:=Tryz.isAgg3
  z3:=Tryz.sizeOf3
  v3:=zP
  t4:=cL
  a4:=sD
  z4:=Tryz.sizeOf4
  v4:=zO
  t5:=jK
  a5:=xS
  z5:=bR
  v5:=KN
  t9:=Tryz.underlying9
  a9:=Tryz.isAgg9
  z9:=Tryz.sizeOf9
  v9:=qU
  t20:=D1
  a20:=pN
  z20:=aJi
  v20:=aDY
  t37:=cF
  a37:=cO
  z37:=lW
  v37:=Tryz.zeroValue124
  t46:=B6
  a46:=TY
  z46:=QD
  v46:=DY
  t51:=Tryz.underlying265
  a51:=Tryz.isAgg265
  z51:=Tryz.sizeOf265
  v51:=Tryz.zeroValue265
  t53:=sA
  a53:=FK
  z53:=B8
  v53:=DZ
  t171:=Tryz.underlying235
  a171:=Tryz.isAgg235
  z171:=Tryz.sizeOf235
  v171:=Tryz.zeroValue235
  t173:=Tryz.underlying238
  a173:=Tryz.isAgg238
  z173:=Tryz.sizeOf238
  v173:=Tryz.zeroValue238
  t212:=Tryz.underlying264
  a212:=Tryz.isAgg264
  z212:=Tryz.sizeOf264
  v212:=Tryz.zeroValue264
  t213:=Tryz.underlying266
  a213:=Tryz.isAgg266
  z213:=Tryz.sizeOf266
  t232:=Tryz.underlying284
  a232:=Tryz.isAgg284
  z232:=Tryz.sizeOf284
  v232:=Tryz.zeroValue284
  t233:=Tryz.underlying285
  a233:=Tryz.isAgg285
  z233:=Tryz.sizeOf285
  v233:=Tryz.zeroValue285
  g17:=by kernel_rfl
  g18:=by kernel_rfl
  g19:=by kernel_rfl
  i0:=by kernel_rfl
  i2:=by kernel_rfl
  i3:=by kernel_rfl
  i4:=by kernel_rfl
  i5:=by kernel_rfl
  i9:=by kernel_rfl
  i20:=by kernel_rfl
  i37:=by kernel_rfl
  i46:=by kernel_rfl
  i51:=by kernel_rfl
  i53:=by kernel_rfl
  i171:=by kernel_rfl
  i173:=by kernel_rfl
  i212:=by kernel_rfl
  i232:=by kernel_rfl
  i233:=by kernel_rfl
  m17:=by kernel_rfl
  m18:=by kernel_rfl
  m19:=by kernel_rfl}
end Go.Proofs
namespace Go.Proofs.YtiifmppaejpemaaGreatDoor
open Go.Proofs.Tryz
open Go.Abs
theorem qH (n:Int) (h0 : -9223372036854775808≤n) (h1:n≤9223372036854775807) (H:aB):aH Tryz.prog 113 [iv n] H (fun r H'=>r=sv (bL n)∧H'=H) :=Go.Abs.itoa_c aLM (G:=5) (by unfold PO;exact .head _) (by kernel_rfl) n h0 h1 H
end Go.Proofs.YtiifmppaejpemaaGreatDoor
end
namespace Go.Abs
section
section
variable {P:Program} {G0:aB} {N:Nat} {E:bO} {H:aB} {ops:Array Oper} {K:bO→aB→Prop} {o:Oper} {rest:List Oper}
def ALx (P:Program) (G0:aB) (N:Nat) (ops:Array Oper) (K:bO→aB→Prop) (l:List Oper) (E:bO) (H:aB) (d:Nat) (F:dR→Value→Prop):Prop :=∀ G:Entry,G.H=G0→∀ (a:Act) (w:World) (I:Nat→Prop) (ι:dR),nY G.ds G.w w a.defers→a.tmps.size=N→Rel I ι H w→Step G.I G.ι G.H G.w I ι H w→gQ w I ι H E a→(∃ c,a.tmps[d]?=some c∧F ι c) →
  ∀ ro,(ro=none∨l.all Oper.noDefer=true)→∀ Q:Exit→Act→World→Prop,(∀ E H a w,K E H→St G N E H a w→Q .normal a w)→wpListIn (RF ro) 0 P ops Q l a w
def aHy (id n:Nat) (ι:dR) (c:Value):Prop:=∃ b cap,ι id=some (b,cap)∧c=.slice (some ⟨b,0,none⟩) n n
theorem CP (a:Act) (d:Nat) (c:Value):(a.put (some d) c).tmps.size=a.tmps.size:=by simp [Act.put]
theorem aBb (a:Act) {d:Nat} (c:Value) (h:d < a.tmps.size):(a.put (some d) c).tmps[d]?=some c:=by simp [Act.put,h]
theorem ZN (a:Act) {d d2:Nat} (c:Value) (h:d2≠d):(a.put (some d2) c).tmps[d]?=a.tmps[d]?:=by simp [Act.put,h]
theorem DR {T e:TypeId} {p:Operand} {d id g n:Nat} {ob:Ob} (hg0:o.guard=none) (hd:o.dst=some d) (hdN:Nat.blt d N=true) (ho:o.op=.slice T p none none none) (hT:P.underlying T=some (.array n e)) (hs:∀ w,(sizeOf e).run P w=.ok 1 w)
  (hx:aN E p=some (.ref id g 0 0)) (hH:H.get id=some ob) (hg:ob.g=g) (hk:ALx P G0 N ops K rest ((d,.any)::E) H d (aHy id n)):AL P G0 N ops K (o::rest) E H:=by
 intro G hG a w hst ro hro Q hq;refine wpListIn_plain hg0 fun K' hK=>?_;refine Oper.wpW_in (jQ hro).1 ?_;obtain ⟨I,ι,hr,hs',he⟩:=hst.rel;obtain ⟨b,cap,h1,h3⟩:=lH (aI he hx) hH hg;have hdn:d < N:=by simpa [Nat.blt_eq] using hdN
 have hrun:(execOp a.eval o).run P w=.ok (.value (.slice (some ⟨b,0,none⟩) n n)) w:=by
  simp only [execOp,ho,h3,Option.map_none];simp [Instr.sliceAt,run_underlying hT,Instr.sureAddr,Instr.sliceBounds,hs,Addr.add_lit]
 unfold Oper.wpW;rw [hrun];show K' (a.put o.dst _) w;rw [hd];exact hK _ _ (hk G hG _ w I ι (by rw [fN];exact hst.defers) (by rw [CP];exact hst.size) hr hs' (gQ.put (d:=some d) hr (Step.refl _ _ _ _) he (.any _) (by rw [hst.size];exact hdN)) ⟨_,aBb a _ (by rw [hst.size];exact hdn),b,cap,h1,rfl⟩ ro (jQ hro).2 Q hq)
theorem aDM {d d2:Nat} {F:dR→Value→Prop} {x:Operand} {v:AV} (hg0:o.guard=none) (hd:o.dst=some d2) (hdN:Nat.blt d2 N=true) (hne:d2≠d) (ho:o.op=.move x) (hx:aN E x=some v) (hk:ALx P G0 N ops K rest ((d2,v)::E) H d F):ALx P G0 N ops K (o::rest) E H d F:=by
 intro G hG a w I ι hm hsz hr hs' he ⟨c,hc,hF⟩ ro hro Q hq;refine wpListIn_plain hg0 fun K' hK=>?_;refine Oper.wpW_in (jQ hro).1 ?_;have hrun:(execOp a.eval o).run P w=.ok (.value (a.eval x)) w:=by simp [execOp,ho]
 unfold Oper.wpW;rw [hrun];show K' (a.put o.dst _) w;rw [hd];exact hK _ _ (hk G hG _ w I ι (by rw [fN];exact hm) (by rw [CP];exact hsz) hr hs' (gQ.put (d:=some d2) hr (Step.refl _ _ _ _) he (aI he hx) (by rw [hsz];exact hdN)) ⟨c,by rw [ZN a _ hne];exact hc,hF⟩ ro (jQ hro).2 Q hq)
def gX (s:List UInt8):List AV:=s.map fun b=>.pv (.int .u8 b.toNat)
theorem rT (s:List UInt8):(gX s).length=s.length:=aLT _
theorem P6 {D S e:TypeId} {y:Operand} {d d2 id g n m T:Nat} {cells:List AV} {s:ByteArray} (hg0:o.guard=none) (hd:o.dst=some d2) (hdN:Nat.blt d2 N=true) (ho:o.op=.call {callee:=.builtin .copy,args:=#[.tmp d,y],argTypes:=#[D,S]}) (hD:P.underlying D=some (.slice e)) (hs:∀ w,(sizeOf e).run P w=.ok 1 w)
  (hH:H.get id=some ⟨g,n,T,[cells]⟩) (hn0:0 < n) (hy:aN E y=some (.pv (.str s))) (hm:min s.size n=m)
  (hk:AL P G0 N ops K rest ((d2,.pv (.int .i64 m))::E) ((id,⟨g,n,T,[gX (s.data.toList.take m)++cells.drop m]⟩)::H)):ALx P G0 N ops K (o::rest) E H d (aHy id n):=by
 intro G hG a w I ι hmk hsz hr hs' he ⟨c,hc,b,cap,hι,hcv⟩ ro hro Q hq;refine wpListIn_plain hg0 fun K' hK=>?_;refine Oper.wpW_in (jQ hro).1 ?_;have e2y:=(aI he hy).str_inv;have e1:a.eval (.tmp d)=.slice (some ⟨b,0,none⟩) n n:=by simp [Act.eval,hc,hcv]
 obtain ⟨p1,p2,⟨b',cap',cs,f1,f2,f3,f4,f5,f5',f6⟩|⟨f1,_⟩⟩:=(hr.obj id _ hH).cells hn0
 rotate_left
 ·rw [hι] at f1;cases f1
 rw [hι] at f1;cases f1;have hlen:cells.length=n:=p2 cells (by simp);have hms:m≤s.size:=by omega
 have hmn:m≤n:=by omega
 simp only [List.length_singleton] at f5;have hcs:n≤cs.size:=by rw [f4];exact Nat.le_mul_of_pos_left _ (by omega)
 have hmm:min m s.data.size=m:=by have:s.data.size=s.size:=rfl;omega
 have hcells:((s.extract 0 m).data.map fun b=>Value.int .u8 b.toNat).toList=(s.data.toList.take m).map fun b=>Value.int .u8 b.toNat:=by simp
 have hst:=run_storeCells_at P b 0 T ((s.data.toList.take m).map fun b=>Value.int .u8 b.toNat) 0 cs w f2 (by simp [hmm];omega) (by intro v hv;obtain ⟨b,_,rfl⟩:=List.mem_map.1 hv;rfl);simp only [Nat.add_zero,aLb,List.take_zero,List.nil_append,aLT,aL7,Array.length_toList] at hst;rw [hmm] at hst;have hnl:(gX (s.data.toList.take m)++cells.drop m).length=n:=by
  rw [aLU,rT,aL7,aL8,Array.length_toList,hmm,hlen];omega
 obtain ⟨k2,k3⟩:=Rel.update (H':=(id,⟨g,n,T,[gX (s.data.toList.take m)++cells.drop m]⟩)::H) (ob':=⟨g,n,T,[gX (s.data.toList.take m)++cells.drop m]⟩)
  (cs' := ((s.data.toList.take m).map (fun b => Value.int .u8 b.toNat) ++ cs.toList.drop m).toArray) hr hH hι f2 (aLZ _) rfl rfl (fun _ => aLZ _) (by
   simp only [List.size_toArray,aLU,aLT,aL7,aL8,Array.length_toList,hmm];rw [← f4];omega) (by simpa using f5) (by intro r hr';rw [aLW] at hr';subst hr';exact hnl) (fun i r hi k a' hk'=>by
    cases i with
    | succ i=>simp at hi
    | zero =>
     simp only [List.getElem?_cons_zero,Option.some.injEq] at hi;subst hi;rw [Nat.zero_mul,aLb];simp only [List.getElem?_toArray];by_cases ck:k < m
     ·rw [List.getElem?_append_left (by rw [rT,aL7,Array.length_toList,hmm];exact ck),gX,aLd] at hk';rw [List.getElem?_append_left (by rw [aLT,aL7,Array.length_toList,hmm];exact ck),aLd];cases e:(s.data.toList.take m)[k]? with
      | none=>rw [e] at hk';cases hk'
      | some q =>
       rw [e] at hk';cases hk';exact⟨.int .u8 q.toNat,rfl,rfl,.pv (.int _ _)⟩
     rw [List.getElem?_append_right (by rw [rT,aL7,Array.length_toList,hmm];omega),rT,aL7,Array.length_toList,hmm,List.getElem?_drop,show m+(k - m)=k by omega] at hk';obtain ⟨u,q1,q2,q3⟩:=f6 0 cells rfl k a' hk';rw [Nat.zero_mul,aLb] at q1;refine⟨u,?_,q2,q3⟩;rw [List.getElem?_append_right (by rw [aLT,aL7,Array.length_toList,hmm];omega),aLT,aL7,Array.length_toList,hmm,List.getElem?_drop,show m+(k - m)=k by omega]
     simpa using q1) (get_cons_same _ _ _) (fun j hj=>get_cons_other _ _ hj)
 have hmin:Nat.min s.size n=m:=hm;unfold Oper.wpW execOp;simp only [ho,resolve,invoke,builtin,Sem.run_bind,Sem.run_pure,Result.andThen_ok,List.map_toArray,List.map_cons,List.map_nil,e1,e2y,Builtin.copy_,run_underlying hD,hs];simp only [List.getElem?_toArray,List.getElem?_cons_zero,List.getElem?_cons_succ,run_underlying hD,Builtin.lenOf,Builtin.firstCells,Sem.run_bind,Sem.run_pure,Result.andThen_ok,hs,hmin,hcells,hst];show K' (a.put o.dst _) _;rw [hd];refine hK _ _ (hk G hG _ _ ⟨?_,?_,I,ι,k2,hs'.trans k3,gQ.put (d:=some d2) hr k3 he (.pv (.int _ _)) (by rw [hsz];exact hdN)⟩ ro (jQ hro).2 Q hq)
 ·rw [fN];exact hmk.step hr k3
 rw [CP];exact hsz
theorem aFn {S T e:TypeId} {d d2 id g n A:Nat} {bs:List UInt8} {r:ByteArray} (hg0:o.guard=none) (hd:o.dst=some d2) (hdN:Nat.blt d2 N=true) (ho:o.op=.convert S T (.tmp d)) (hS:P.underlying S=some (.slice e)) (he':P.underlying e=some (.int .u8)) (hT:P.underlying T=some .string)
  (hH:H.get id=some ⟨g,n,A,[gX bs]⟩) (hn0:0 < n) (hr':(⟨bs.toArray⟩:ByteArray)=r) (hk:AL P G0 N ops K rest ((d2,.pv (.str r))::E) H):ALx P G0 N ops K (o::rest) E H d (aHy id n):=by
 intro G hG a w I ι hmk hsz hr hs' he ⟨c,hc,b,cap,hι,hcv⟩ ro hro Q hq;refine wpListIn_plain hg0 fun K' hK=>?_;refine Oper.wpW_in (jQ hro).1 ?_;have e1:a.eval (.tmp d)=.slice (some ⟨b,0,none⟩) n n:=by simp [Act.eval,hc,hcv]
 obtain ⟨p1,p2,⟨b',cap',cs,f1,f2,f3,f4,f5,f5',f6⟩|⟨f1,_⟩⟩:=(hr.obj id _ hH).cells hn0
 rotate_left
 ·rw [hι] at f1;cases f1
 rw [hι] at f1;cases f1;have hlen:bs.length=n:=by rw [← rT bs];exact p2 (gX bs) (by simp)
 subst hr';have hl:(loadCells ⟨b,0,none⟩ n).run P w=.ok ((bs.map fun b=>(b.toNat:Int)).map (Value.int .u8)).toArray w:=by
  have h0:=run_loadCells_list (P:=P) w ⟨b,0,none⟩ ((bs.map fun b=>(b.toNat:Int)).map (Value.int .u8)) (fun j v hv=>by
   rw [List.map_map,aLd] at hv;obtain ⟨q,hq1,rfl⟩:=Option.map_eq_some_iff.1 hv;rw [Addr.add_lit,aLb,cell_of_row w b _ cs _ (0,0) f2];obtain ⟨u,q1,q2,q3⟩:=f6 0 (gX bs) rfl j (.pv (.int .u8 q.toNat)) (by rw [gX,aLd,hq1];rfl);rw [Nat.zero_mul,aLb] at q1;rw [q1,q3.int_inv];rfl)
  rwa [aLT,aLT,hlen] at h0
 have hrun:(execOp a.eval o).run P w=.ok (.value (.string ⟨bs.toArray⟩)) w:=by
  simp only [execOp,ho,e1,Sem.run_bind];rw [run_convert_bytes_string w S T e _ _ n hS he' hT,run_bytesToString w _ _ n _ hl,foldl_push_bytes];have e3:(bs.map fun b=>(b.toNat:Int)).map (fun n=>UInt8.ofNat n.toNat)=bs:=by
   rw [List.map_map]
   conv=>rhs;rw [← List.map_id bs]
   refine List.map_congr_left fun b _=>?_;simp
  rw [e3];simp [ByteArray.empty,ByteArray.emptyWithCapacity];rfl
 unfold Oper.wpW;rw [hrun];show K' (a.put o.dst _) w;rw [hd];exact hK _ _ (hk G hG _ w ⟨by rw [fN];exact hmk,by rw [CP];exact hsz,I,ι,hr,hs',gQ.put (d:=some d2) hr (Step.refl _ _ _ _) he (.pv (.str _)) (by rw [hsz];exact hdN)⟩ ro (jQ hro).2 Q hq)
end
end
end Go.Abs
section
namespace Go.Proofs
open Go.RowKit Go.Sort Go.Shelf
end Go.Proofs
namespace Go.Proofs.YtiifmppaejpemaaGreatDoor
open Go.Proofs.Tryz
open Go.Abs
def pick (L:List ByteArray) (seen:List Nat):List ByteArray:=seen.map fun i=>(L[i]?).getD ⟨#[]⟩
end Go.Proofs.YtiifmppaejpemaaGreatDoor
end
section
namespace Go.Proofs
open Go.RowKit Go.Sort Go.Shelf
def aLH:Go.Shelf.Ren:=⟨fun|264=>156|n=>n,fun|53=>126|46=>128|n=>n,fun|n=>n⟩
theorem aLL:Go.Proofs.Lays.n264 Tryz.prog aLH:={
  mixed:=by kernel_rfl
  f264:=Tryz.func156.trans (congrArg some (by kernel_rfl))
  t46:=B6
  a46:=TY
  z46:=QD
  v46:=DY
  t53:=sA
  a53:=FK
  z53:=B8
  v53:=DZ}
end Go.Proofs
namespace Go.Proofs.YtiifmppaejpemaaGreatDoor
open Go.Proofs.Tryz
open Go.Abs
abbrev uv (n:Nat):AV:=.pv (.int .u64 (n:Int))
theorem R4 (x y:Nat) (hx:x < 18446744073709551616) (hy:y < 18446744073709551616) (H:aB):aH Tryz.prog 156 [uv x,uv y] H (fun r H'=>r=.tup [uv (x*y / 18446744073709551616),uv (x*y % 18446744073709551616)]∧H'=H) :=Go.Abs.mul64_c aLL x y hx hy H
theorem aEI (a k:Nat) {m:Int} (h:m.toNat=k):(a:Int) / 2 ^ m.toNat=((a / 2 ^ k:Nat):Int):=by
 rw [h]
 push_cast
 rfl
def Z5 (x:Nat):Nat:=x*2862933555777941757 % 18446744073709551616
def aHR (x:Nat):Nat:=Z5 x ^^^ (Z5 x / 2 ^ 32)
def Z4 (x:Nat):Nat:=aHR x*3935559000370003845 % 18446744073709551616
def LJ (x:Nat):Nat:=Z4 x ^^^ (Z4 x / 2 ^ 29)
theorem G9 (x:Nat):Z5 x < 18446744073709551616:=Nat.mod_lt _ (by decide)
theorem G8 (x:Nat):Z4 x < 18446744073709551616:=Nat.mod_lt _ (by decide)
theorem zE {x:Nat} (k:Nat) (h:x < 18446744073709551616):x / 2 ^ k < 18446744073709551616:=Nat.lt_of_le_of_lt (Nat.div_le_self _ _) h
theorem CB {x y:Nat} (h:x < 18446744073709551616) (h':y < 18446744073709551616):x ^^^ y < 18446744073709551616:=Nat.xor_lt_two_pow (n:=64) h h'
theorem aEs (x:Nat):aHR x < 18446744073709551616:=CB (G9 x) (zE 32 (G9 x))
theorem XW (x:Nat):LJ x < 18446744073709551616:=CB (G8 x) (zE 29 (G8 x))
theorem aJS (x:Nat) (hx:x < 18446744073709551616) (H:aB):aH Tryz.prog 109 [uv x] H (fun r H'=>r=uv (LJ x)∧H'=H):=by refine Pu ?_;exact Bd func109 rfl ntmps109<|Sr<|Dd aP<|Zz<|Sr<|Dd aF<|Dd (by exact aA rfl rfl call156 rfl (R4 x 2862933555777941757 hx (by decide) _))<|Dd aF<|Dd dV<|Dd dV<|Dd aP<|Zz<|Sr<|Dd aF<|Dd aF<|Dd (by exact GY rfl rfl rfl (by decide) (by decide) (aEI (Z5 x) 32 rfl))<|Dd (by exact pF rfl (by simp) rfl rfl (bits_xor_u64_nat (Z5 x) (Z5 x / 2 ^ 32) (G9 x) (zE 32 (G9 x))))<|Dd aP<|Zz<|Sr<|Dd aF<|Dd (by exact aA rfl rfl call156 rfl (R4 (aHR x) 3935559000370003845 (aEs x) (by decide) _))<|Dd aF<|Dd dV<|Dd dV<|Dd aP<|Zz<|Sr<|Dd aF<|Dd aF<|Dd (by exact GY rfl rfl rfl (by decide) (by decide) (aEI (Z4 x) 29 rfl))<|Dd (by exact pF rfl (by simp) rfl rfl (bits_xor_u64_nat (Z4 x) (Z4 x / 2 ^ 29) (G8 x) (zE 29 (G8 x))))<|Dd aP<|Zz<|aC<|Rt<|Qq
def sH (n:Nat):Int:=if n < 10 then 48+(n:Int)else 87+(n:Int)
def gW (i:Nat):List AV:=(List.range 16).map fun j=>.pv (.int .u8 (if j < i then sH j else 0))
theorem rR (i:Nat):(gW i).length=16:=by simp [gW]
theorem BU {i j:Nat} (h:j < 16):(gW i)[j]?=some (.pv (.int .u8 (if j < i then sH j else 0))):=by rw [gW,aLd,List.getElem?_range h];rfl
theorem J1 {i:Nat} (h:i < 16):(gW i).set i (.pv (.int .u8 (sH i)))=gW (i+1):=by
 apply List.ext_getElem?;intro j;by_cases hj:j < 16
 ·rw [BU hj];by_cases e:i=j
  ·subst e;rw [List.getElem?_set_self (by rw [rR];exact h),aLS (Nat.lt_succ_self _)]
  rw [List.getElem?_set_ne e,BU hj];by_cases h1:j < i
  ·rw [aLS h1,aLS (by omega)]
  rw [aLR h1,aLR (by omega)]
 rw [List.getElem?_eq_none (by rw [List.length_set,rR];omega),List.getElem?_eq_none (by rw [rR];omega)]
theorem WF {i:Nat} (h:i < 16) (x:AV) {y:AV} (hy:y=.pv (.int .u8 (sH i))):((gW i).set i x).set i y=gW (i+1):=by rw [List.set_set,hy,J1 h]
theorem oG {H:aB} {n T i:Nat}:∀ r∈(bx n T (gW i)).rows,∀ a∈r,Clo H a:=by intro r hr a ha;rw [bx,aLW] at hr;subst hr;obtain ⟨j,_,rfl⟩:=List.mem_map.1 ha;exact .pv _
theorem WG {H:aB} {i:Nat}:∀ a∈gW i,Clo H a:=by intro a ha;obtain ⟨j,_,rfl⟩:=List.mem_map.1 ha;exact .pv _
theorem YF:((gW 16).drop 0).take 16=gW 16:=rfl
theorem aCp (H:aB):aH Tryz.prog 110 [] H (fun r H'=>r=.agg (gW 16)∧H'=H):=by
 refine Pu ?_;refine Bd func110 rfl ntmps110<|Sr<|Dd (by exact bC (id:=0) rfl WX rfl rfl)<|Zz<|Sr<|Dd (by exact bC (id:=1) rfl WX rfl rfl)<|Zz<|Sq<|Sr<|Dd aF<|Zz<|aG ?_;refine bQ (σ:=Nat) (fun i=>([(0,.ref 0 0 0 0),(1,.ref 1 0 0 0),(3,iv (i:Int))],[(1,bx 16 131 (gW i)),(0,bx 16 131 (gW 0))])) (fun i=>i≤16) (fun i=>16 - i) 0 (aLa _) ?_ ?_
 ·exact(cD.wk (Ea<|Ea<|Eb<|trivial) (Hc oG<|Hc oG<|trivial) trivial)
 intro i hi;refine Sr<|Dd dK<|Zz<|Sq ?_;refine Cn ?_ ?_<;>intro hc1
 ·have hlt:i < 16:=by have:=aLP hc1;omega
  refine aE<|Sq<|aG<|Sr<|Dd aF<|Dd aP<|Zz<|Sr<|Dd aF<|Dd aF<|Dd pM<|Dd (by exact nF rfl underlying3 jK rfl (by exact wu8 (by omega) (by omega)))<|Dd (by exact dA rfl rZ bR rfl rfl rfl rfl (by omega) (by exact aL4 _) (by omega) rfl)<|Uu (by exact bA rfl bR rfl rfl rfl rfl rfl rfl (by rw [rR];omega) (show (gW i).set (0+i*1) (.pv (.int .u8 (48+(i:Int))))=(gW i).set i (.pv (.int .u8 (48+(i:Int))))by rw [aLb,Nat.mul_one]) rfl)<|Zz<|Sr<|Dd aF<|Dd JR<|Zz ?_;refine Cn ?_ ?_<;>intro hc2
  ·have h10:¬ i < 10:=by have:=aLP hc2;omega
   refine Rg<|Dd aF<|Dd aF<|Dd pM<|Dd (by exact eB rfl rfl rfl (by exact pO (by omega) (by omega)))<|Dd (by exact nF rfl underlying3 jK rfl (by exact wu8 (by omega) (by omega)))<|Dd (by exact dA rfl rZ bR rfl rfl rfl rfl (by omega) (by exact aL4 _) (by omega) rfl)<|Uu (by exact bA rfl bR rfl rfl rfl rfl rfl rfl (by rw [List.length_set,rR];omega) (show ((gW i).set i (.pv (.int .u8 (48+(i:Int))))).set (0+i*1) (.pv (.int .u8 (97+(i:Int) - 10)))=gW (i+1)by rw [aLb,Nat.mul_one];exact WF hlt _ (by rw [sH,aLR (by have:=aLP hc2;omega)];congr 2;omega)) rfl)<|Zz<|Rg<|Dd pM<|Dd aF<|Zz ?_;exact⟨i+1,by omega,by omega,(cD.wk (Ea<|Ea<|Eb<|trivial) (Hc oG<|Hc oG<|trivial) trivial)⟩
  have h10:i < 10:=by have:=aLQ hc2;omega
  refine aE<|Rg<|Dd pM<|Dd aF<|Zz ?_;refine⟨i+1,by omega,by omega,?_⟩;have e:(gW i).set i (.pv (.int .u8 (48+(i:Int))))=gW (i+1):=by
   rw [← J1 hlt,sH,aLS h10]
  rw [e];exact(cD.wk (Ea<|Ea<|Eb<|trivial) (Hc oG<|Hc oG<|trivial) trivial)
 have hge:i=16:=by have:=aLQ hc1;omega
 subst hge;refine bG<|Sr<|Dd (by exact aM rfl isAgg131 QC rfl rfl rfl rfl YF rfl)<|Uu (iH QC)<|Zz<|aC ?_;refine dF (H':=[]) (.inr rfl) rfl (eU rfl isAgg131 QC rfl rfl rfl YF rfl) (Fin.wk (.agg WG) trivial trivial) ?_;exact Qq
end Go.Proofs.YtiifmppaejpemaaGreatDoor
end
