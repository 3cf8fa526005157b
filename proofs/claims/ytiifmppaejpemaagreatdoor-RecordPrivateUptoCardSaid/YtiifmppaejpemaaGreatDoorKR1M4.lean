/-
  Parts of the proof: rules of an abstract program logic, contracts of functions, plain laws. Conditions: each theorem's own.
-/
import Derived.Test.YtiifmppaejpemaaGreatDoorKR1M3
import Derived.Scope
import Derived.ChangeKeysEq
import Derived.Shelf.SortM.Plain
import Derived.Shelf.SortM.SortNone
import Derived.Ground.SlgmProg
import Derived.Shelf.Strconv.Itoa3
import Derived.Shelf.Bits.Mul64
import Derived.Shelf.LaysM
import Derived.Ground.NamesProg
import Derived.Shelf.Lays
set_option linter.unusedVariables false
set_option linter.unusedSimpArgs false
set_option maxRecDepth 100000
set_option maxHeartbeats 8000000
namespace Go.Proofs
theorem tR:type_of% Tryz.call236:=Tryz.call236
theorem AN:type_of% Tryz.call247:=Tryz.call247
theorem tP:type_of% Tryz.call248:=Tryz.call248
theorem aAh:type_of% Tryz.call265:=Tryz.call265
theorem QK:type_of% Tryz.call66:=Tryz.call66
theorem jX:type_of% Tryz.eqGuardType73:=Tryz.eqGuardType73
theorem aKy:type_of% Tryz.isAgg0:=Tryz.isAgg0
theorem cN:type_of% Tryz.isAgg124:=Tryz.isAgg124
theorem FI:type_of% Tryz.isAgg126:=Tryz.isAgg126
theorem TU:type_of% Tryz.isAgg128:=Tryz.isAgg128
theorem cT:type_of% Tryz.isAgg151:=Tryz.isAgg151
theorem cM:type_of% Tryz.isAgg153:=Tryz.isAgg153
theorem bT:type_of% Tryz.isAgg155:=Tryz.isAgg155
theorem pM:type_of% Tryz.isAgg20:=Tryz.isAgg20
theorem aJ:type_of% Tryz.isAgg22:=Tryz.isAgg22
theorem rZ:type_of% Tryz.isAgg4:=Tryz.isAgg4
theorem dQ:type_of% Tryz.isAgg73:=Tryz.isAgg73
theorem aKf:type_of% Tryz.sizeOf0:=Tryz.sizeOf0
theorem B2:type_of% Tryz.sizeOf126:=Tryz.sizeOf126
theorem QH:type_of% Tryz.sizeOf128:=Tryz.sizeOf128
theorem QG:type_of% Tryz.sizeOf131:=Tryz.sizeOf131
theorem aDV:type_of% Tryz.underlying0:=Tryz.underlying0
theorem rX:type_of% Tryz.underlying126:=Tryz.underlying126
theorem B0:type_of% Tryz.underlying128:=Tryz.underlying128
theorem rW:type_of% Tryz.underlying131:=Tryz.underlying131
theorem DX:type_of% Tryz.underlying20:=Tryz.underlying20
theorem dN:type_of% Tryz.underlying4:=Tryz.underlying4
theorem aFl:type_of% Tryz.zeroValue0:=Tryz.zeroValue0
theorem DU:type_of% Tryz.zeroValue128:=Tryz.zeroValue128
end Go.Proofs
namespace Go.Proofs.YtiifmppaejpemaaGreatDoor
open Go.Proofs.Tryz
open Go.Abs
def fQ (k:Int):ByteArray:=if k=1 then⟨#[110,111,100,101]⟩else if k=2 then⟨#[119,97,121]⟩else if k=3 then⟨#[97,114,101,97]⟩else if k=4 then⟨#[114,111,117,116,101]⟩else if k=5 then⟨#[116,117,114,110]⟩else sNil
abbrev aDh:List AV:=[sv sNil,sv ⟨#[110,111,100,101]⟩,sv ⟨#[119,97,121]⟩,sv ⟨#[97,114,101,97]⟩,sv ⟨#[114,111,117,116,101]⟩,sv ⟨#[116,117,114,110]⟩]
theorem six {k:Int} (h0:0≤k) (h1:k < 6):k=0∨k=1∨k=2∨k=3∨k=4∨k=5:=by omega
theorem aDg {k:Int} (h0:0≤k) (h1:k < 6):aDh[k.toNat]?=some (sv (fQ k)):=by rcases six h0 h1 with rfl|rfl|rfl|rfl|rfl|rfl<;>rfl
theorem A1 (k:Int) (H:aA):aG Tryz.prog 236 [iv k] H (fun r H'=>r=sv (fQ k)∧H'=H):=by
 refine Pu ?_;refine Bd func236 rfl ntmps236<|Sr<|Dd aP<|Zz<|Sr<|Dd (by exact sF rfl aJb rfl rfl)<|Dd (by exact bE (id:=3) rfl aII rfl rfl)<|Uu (jK sizeOf275)<|Zz<|Sq<|Sq ?_;refine bC (t:=10) (n:=7) (X:=decide (k < 0)||decide (6≤k)) ?_ ?_
 ·all_goals refine Dd aI ?_
  all_goals refine Dd dI<|Dm ?_
  all_goals refine Sp 7 (fun h7=>?_) fun h7=>?_
  all_goals try contradiction
  all_goals first|refine Fo<|Fo ?_|refine On aI<|On JS ?_
  all_goals refine Dd cL<|Zz ?_
  all_goals(exact⟨⟨_,rfl,by(simp only [*,Zo];done)⟩,rfl,rfl,rfl⟩)
 refine Cn ?_ ?_<;>intro hc1
 ·have hn:¬ (k=1)∧¬ (k=2)∧¬ (k=3)∧¬ (k=4)∧¬ (k=5):=by
   simp only [Bool.or_eq_true,aLW] at hc1;omega
  refine Sr<|Dd aP<|Zz<|aC<|Rt ?_;exact⟨by simp only [fQ,hn.1,hn.2.1,hn.2.2.1,hn.2.2.2.1,hn.2.2.2.2,if_false],rfl⟩
 have hb:0≤k∧k < 6:=by
  simp only [aLb,aLX] at hc1;omega
 exact aE<|Sr<|Dd aI<|Dd (by exact cZ (m:=k.toNat) (k2:=k.toNat) rfl underlying275 sizeOf9 rfl rfl rfl rfl hb.1 rfl (by omega) (by omega))<|Dd (by exact aK rfl isAgg9 rfl rfl rfl rfl (aDg hb.1 hb.2))<|Dd aP<|Zz<|aC<|Rt<|Qq
def BI (k:Int):Int:=if k=2 then 2 else if k=3 then 3 else if k=4 then 1 else if k=5 then 3 else 0
theorem aCQ {k:Int} (h0:0≤k) (h1:k < 6):[iv 0,iv 0,iv 2,iv 3,iv 1,iv 3][k.toNat]?=some (iv (BI k)):=by rcases six h0 h1 with rfl|rfl|rfl|rfl|rfl|rfl<;>rfl
theorem XX (k:Int) (H:aA) (h0:0≤k) (h1:k < 6):aG Tryz.prog 266 [iv k] H (fun r H'=>r=iv (BI k)∧H'=H):=by refine Pu ?_;exact Bd func266 rfl ntmps266<|Sr<|Dd aP<|Zz<|Sr<|Dd (by exact sF rfl aJa rfl rfl)<|Dd aI<|Dd (by exact LA (m:=k.toNat) rfl underlying282 sizeOf3 isAgg3 rfl rfl h0 rfl (by omega) (aCQ h0 h1))<|Dd aP<|Zz<|aC<|Rt<|Qq
def gOn (x y:Int):Bool:=((decide (0≤x)&&decide (x < 1048576))&&decide (0≤y))&&decide (y < 1048576)
theorem aK2 (x y:Int) (H:aA):aG Tryz.prog 268 [.agg [iv x,iv y]] H (fun r H'=>r=bv (gOn x y)∧H'=H):=by
 refine Pu ?_;refine Bd func268 rfl ntmps268<|Sr<|Dd (by exact bZ (id:=1) rfl rfl rfl rfl rfl)<|Dd aP<|Zz<|Sq ?_;refine bC (t:=2) (n:=22) (X:=gOn x y) ?_ ?_
 ·all_goals refine Dd (bB tH) ?_
  all_goals refine Dd (bL isAgg3)<|Dd JS<|Dm ?_
  all_goals refine Sp 6 (fun h6=>?_) fun h6=>?_
  all_goals try contradiction
  all_goals first|refine Fo<|Fo<|Fo ?_|refine On (bB tH)<|On (bL isAgg3)<|On dI ?_
  all_goals refine Dd cL<|Dm ?_
  all_goals refine Sp 11 (fun h11=>?_) fun h11=>?_
  all_goals try contradiction
  all_goals first|refine Fo<|Fo<|Fo ?_|refine On (bB tG)<|On (bL isAgg3)<|On JS ?_
  all_goals refine Dd cL<|Dm ?_
  all_goals refine Sp 16 (fun h16=>?_) fun h16=>?_
  all_goals try contradiction
  all_goals first|refine Fo<|Fo<|Fo ?_|refine On (bB tG)<|On (bL isAgg3)<|On dI ?_
  all_goals refine Dd cL<|Da ?_
  all_goals(exact⟨⟨_,rfl,by(simp only [gOn, *];rfl)⟩,rfl,rfl,rfl⟩)
 exact aC<|Rt<|Qq
def F5 (p:Nat→Bool) (n:Nat):Int:=match (List.range n).find? p with|some k=>(k:Int)|none => -1
def wR (p:Nat→Bool) (n:Nat):Nat:=match (List.range n).find? p with|some k=>k+1|none=>n
theorem wH {p:Nat→Bool} {n k:Nat} (hk:k < n) (hp:p k=true) (hno:∀ j,j < k→p j=false):(List.range n).find? p=some k:=by rw [List.find?_range_eq_some];exact⟨hp,by simpa using hk,fun j hj=>by simp [hno j hj]⟩
theorem wI {p:Nat→Bool} {n:Nat} (hno:∀ j,j < n→p j=false):(List.range n).find? p=none:=by rw [List.find?_eq_none];intro x hx;simp [hno x (List.mem_range.1 hx)]
theorem VJ (fv:AV) (l:List ByteArray) (p:Nat→Bool) (Hs:Nat→aA) (hl:l.length < 4611686018427387904) (hf:∀ k s,l[k]?=some s→cB Tryz.prog fv [sv s] (Hs k) (fun r H'=>r=bv (p k)∧H'=Hs (k+1))) :
  aG Tryz.prog 124 [.pv (aU l),fv] (Hs 0) (fun r H'=>r=iv (F5 p l.length)∧H'=Hs (wR p l.length)):=by
 have hml:(l.map encStr).length=l.length:=aLP _;refine Bd func124 rfl ntmps124<|Sr<|Dd aP<|Zz<|Sq<|Sr<|Dd aI<|Dd (fW aD)<|Dd aI<|Zz<|aF ?_;refine bR (σ:=Nat) (fun k=>([(0,.pv (aU l)),(1,fv),(7,iv ((l.map encStr).length:Int)),(8,iv (k:Int))],Hs k)) (fun k=>k≤l.length∧∀ j,j < k→p j=false) (fun k=>l.length - k) 0 ⟨by omega,by omega⟩ ?_ ?_
 ·exact E0
 rintro k ⟨hk,hno⟩;refine Sr<|Dd dI<|Zz<|Sq ?_;refine Cn ?_ ?_<;>intro hc1
 ·have hlt:k < l.length:=by have:=aLL hc1;omega
  obtain ⟨s,hs⟩:=bD hlt;have hi:=cI (f:=encStr) hs;have hfo:=hf k s hs;refine aE<|Sq<|aF<|Sr<|Dd aI<|Dd aP<|Zz<|Sr<|Dd aI<|Dd aI<|Dd aI<|Dd (xT cO)<|Dd (pG isAgg9)<|Dd (by exact bY rfl rfl rfl (hfo))<|Zz ?_;refine Cn ?_ ?_<;>intro hc2
  ·refine Sr<|Dd aI<|Dd aP<|Zz<|aC ?_;exact dF (H':=Hs (k+1)) (.inr rfl) rfl (aT rfl) Fin.refl ⟨by rw [F5,wH hlt hc2 hno],by rw [wR,wH hlt hc2 hno]⟩
  refine aE<|Rg<|Dd pL<|Dd aI<|Zz ?_;refine⟨k+1,⟨by omega,fun j hj=>?_⟩,by omega,E0⟩;by_cases e:j=k
  ·subst e;exact hc2
  exact hno j (by omega)
 have hge:k=l.length:=by have:=aLM hc1;omega
 subst hge;refine bG<|Sr<|Dd aP<|Zz<|aC ?_;exact dF (H':=Hs l.length) (.inr rfl) rfl (aT rfl) Fin.refl ⟨by rw [F5,wI hno],by rw [wR,wI hno]⟩
theorem NE (p:Nat→Bool) (n:Nat):decide (0≤F5 p n)=(List.range n).any p:=by
 unfold F5;cases h:(List.range n).find? p with
 | none =>
  have:(List.range n).any p=false:=by
   rw [List.find?_eq_none] at h;rw [List.any_eq_false];exact h
  simp [this]
 | some i =>
  have:(List.range n).any p=true:=List.any_eq_true.2 ⟨i,List.mem_of_find?_eq_some h,List.find?_some h⟩;simp [this]
theorem oT (fv:AV) (l:List ByteArray) (p:Nat→Bool) (Hs:Nat→aA) (hl:l.length < 4611686018427387904) (hf:∀ k s,l[k]?=some s→cB Tryz.prog fv [sv s] (Hs k) (fun r H'=>r=bv (p k)∧H'=Hs (k+1))) :
  aG Tryz.prog 66 [.pv (aU l),fv] (Hs 0) (fun r H'=>r=bv ((List.range l.length).any p)∧H'=Hs (wR p l.length)):=by
 refine Bd func66 rfl ntmps66<|Sr<|Dd aP<|Zz<|Sr<|Dd aI<|Dd aI<|Dd (by exact aB rfl rfl call124 rfl (VJ fv l p Hs hl hf))<|Dd JS<|Dd aP<|Zz<|aC ?_;exact dF (H':=Hs (wR p l.length)) (.inr rfl) rfl (aT rfl) Fin.refl ⟨by rw [NE],rfl⟩
theorem XA (L:List ByteArray) (H:aA):∀ r∈(sob L).rows,∀ a∈r,Clo H a:=by intro r hr a ha;obtain ⟨i,hi⟩:=aLa.1 hr;obtain ⟨p,hp,rfl⟩:=EN.1 hi;simp only [AI,aL9] at hp;obtain ⟨q,_,rfl⟩:=Option.map_eq_some_iff.1 hp;simp only [aL1,aL5,or_false] at ha;rcases ha with rfl|rfl|rfl<;>simp
def vH (o:GObj) (last:ByteArray) (L:List ByteArray):aA:=[(37,sob L),(4,bx 1 9 [sv last]),(3,bx 1 276 [.mp 37 0]),(1,bx 6 153 ((bH o).map .pv))]
theorem aG3 (o:GObj) (a:ByteArray) (L:List ByteArray) (f:Nat):Clo (vH o a L) (.clo f [.ref 1 0 0 0,.ref 4 0 0 0,.ref 3 0 0 0]):=by refine .clo fun x hx=>?_;simp only [aL1,aL5,or_false] at hx;rcases hx with rfl|rfl|rfl<;>exact .ref rfl
def PU (o:GObj) (last:ByteArray) (L:List ByteArray) (s:ByteArray):Bool:=(decide (o.kind=2)&&decide (s=last))||(decide (o.kind=3)&&inB L s)
def VQ (o:GObj) (last:ByteArray) (L:List ByteArray) (s:ByteArray):Bool:=PU o last L s||!bI s
theorem aAz (o:GObj) (last s:ByteArray) (L:List ByteArray) (hs:s.size < 4611686018427387904) :
  aG Tryz.prog 267 [sv s,.ref 1 0 0 0,.ref 4 0 0 0,.ref 3 0 0 0] (vH o last L) (fun r H'=>r=bv (VQ o last L s)∧H'=vH o s (IA L s)):=by
 unfold vH;refine Bd func267 rfl ntmps267<|Sr<|Dd aP<|Zz<|Sq ?_;refine bC (t:=6) (n:=22) (X:=PU o last L s) ?_ ?_
 ·all_goals refine Dd (bB gE) ?_
  all_goals refine Dd (bL isAgg3)<|Dd dC<|Dm ?_
  all_goals refine Sp 10 (fun h10=>?_) fun h10=>?_
  all_goals try contradiction
  all_goals first|refine Fo<|Fo<|Fo ?_|refine On aI<|On (bL isAgg9)<|On AJ ?_
  all_goals refine Dd cL<|Dm ?_
  all_goals refine Sp 15 (fun h15=>?_) fun h15=>?_
  all_goals try contradiction
  all_goals first|refine Fo<|Fo<|Fo<|Fo ?_|refine On (bB gE)<|On (bL isAgg3)<|On dC<|On aI ?_
  all_goals(first|refine Sp 19 (fun h19=>?_) fun h19=>?_|refine wO (t:=19) rfl ?_)
  all_goals try contradiction
  all_goals first|refine Fo ?_|refine Fu ?_|refine On (bL isAgg276) ?_
  all_goals first|refine Fo ?_|refine Fu ?_|refine On aI ?_
  all_goals first|refine Fo ?_|refine Fu ?_|refine On (by exact N9 rfl underlying276 underlying9 rfl rfl rfl rfl rfl zH (.inl rfl)) ?_
  all_goals first|refine Fo ?_|refine On cL ?_
  all_goals refine Dd cL<|Da ?_
  all_goals(exact⟨⟨_,rfl,by(simp only [PU, *];rfl)⟩,rfl,rfl,rfl⟩)
 refine Sr<|Dd (bL isAgg276)<|Dd aI<|Dd aI<|Uu (by exact YU (.inl rfl) underlying276 underlying9 rfl rfl rfl rfl rfl rfl rfl)<|Uu (jK sizeOf9)<|Zz<|Sq ?_;refine bC (t:=5) (n:=8) (X:=PU o last L s||!bI s) ?_ ?_
 ·all_goals refine Dd aI ?_
  all_goals refine Dm ?_
  all_goals refine Sp 29 (fun h29=>?_) fun h29=>?_
  all_goals try contradiction
  all_goals first|refine Fo<|Fo<|Fo ?_|refine On aI<|On (by exact aB rfl rfl mC rfl (vW s _ hs))<|On lI ?_
  all_goals refine Dd cL<|Da ?_
  all_goals(exact⟨⟨_,rfl,by(simp only [*];rfl)⟩,rfl,rfl,rfl⟩)
 refine aC ?_;refine dF (H':=vH o s (IA L s)) (.inr rfl) rfl (aT rfl) (Fin.wk (by(simp;done)) (Hc (XA _ _)<|Hb<|Ha<|Hb<|trivial) ⟨rfl,rfl,rfl,rfl,trivial⟩) ?_;exact Qq
def RB (l:List ByteArray):Nat→List ByteArray
 | 0=>[]
 | k+1=>IA (RB l k) ((l[k]?).getD sNil)
def zJ (o:GObj) (k:Nat):Bool:=match o.refs[k]? with
 | some s=>VQ o (fB id o.refs k) (RB o.refs k) s
 | none=>false
def NG (o:GObj):Bool:=if o.kind=1 then decide ((o.refs.length:Int)=0)&&gOn o.x o.y else if o.kind=5 then decide ((o.refs.length:Int)=3)&&(decide (o.x=0)&&decide (o.y=0))else decide (o.x=0)&&decide (o.y=0)
def tE (o:GObj) (n:Int):Bool:=decide (fQ o.kind=sNil)||!bI o.id||!wX o.tags||decide (n < BI o.kind)||decide (2000 < n)
def NH (o:GObj):Bool:=tE o (o.refs.length:Int)
def mH (o:GObj):Bool:=!NH o&&(!((List.range o.refs.length).any (zJ o))&&NG o)
def okO (o:GObj):Prop:=o.id.size < 4611686018427387904∧I7 o.tags∧o.refs.length < 4611686018427387904∧∀ s∈o.refs,s.size < 4611686018427387904
theorem zK {k:Int} (h:decide (fQ k=sNil)=false):0≤k∧k < 6:=by
 by_cases h0:0≤k∧k < 6
 ·exact h0
 have:fQ k=sNil:=by
  have hn:¬ (k=1)∧¬ (k=2)∧¬ (k=3)∧¬ (k=4)∧¬ (k=5):=by omega
  simp only [fQ,hn.1,hn.2.1,hn.2.2.1,hn.2.2.2.1,hn.2.2.2.2,if_false]
 rw [this] at h;simp at h
theorem JA (o:GObj) (H:aA) (ho:okO o):aG Tryz.prog 239 [av (bH o)] H (fun r H'=>r=bv (mH o)∧H'=H):=by
 refine Pu ?_;obtain ⟨h1,h2,h3,h4⟩:=ho;have hml:(o.refs.map encStr).length=o.refs.length:=aLP _;refine Bd func239 rfl ntmps239<|Sr<|Dd (by exact bZ (id:=1) rfl rfl rfl rfl rfl)<|Dd aP<|Zz<|Sq<|Sq ?_;refine oK (t:=36) (n:=31) (X:=tE o ((o.refs.map encStr).length:Int)) ?_ ?_
 ·cases hg10:(decide (fQ o.kind=sNil):Bool)
  ·cases hg16:(!bI o.id:Bool)
   ·cases hg22:(!wX o.tags:Bool)
    ·cases hg31:(decide (((o.refs.map encStr).length:Int) < BI o.kind):Bool)
     ·refine aQ follows<|Cq (bB gE)<|Cq (bL isAgg3)<|Cq (by exact aB rfl rfl tR rfl (A1 o.kind _))<|Cq AJ<|Cq aI<|Nf (bB oQ)<|Nf (bL isAgg9)<|Nf (by exact aB rfl rfl mC rfl (vW o.id _ h1))<|Nf lI<|Cq wU<|Cq aI<|Nf (bB fK)<|Nf (bL cT)<|Nf (by exact aB rfl rfl aAh rfl (vG o.tags _ h2))<|Nf lI<|Cq wU<|Cq aI<|Nf (bB gD)<|Nf (bL aJ)<|Nf (fW aD)<|Nf (bB gE)<|Nf (bL isAgg3)<|Nf (by exact aB rfl rfl call266 rfl (XX o.kind _ (zK hg10).1 (zK hg10).2))<|Nf dI<|Cq wU<|Cq aI<|Nf (bB gD)<|Nf (bL aJ)<|Nf (fW aD)<|Nf mU<|Cq wU<|bJ<|Kr ?_;exact⟨rfl,⟨_,rfl,by(simp only [tE,hg10,hg16,hg22,hg31];rfl)⟩,rfl,rfl,rfl⟩
     refine aQ follows<|Cq (bB gE)<|Cq (bL isAgg3)<|Cq (by exact aB rfl rfl tR rfl (A1 o.kind _))<|Cq AJ<|Cq aI<|Nf (bB oQ)<|Nf (bL isAgg9)<|Nf (by exact aB rfl rfl mC rfl (vW o.id _ h1))<|Nf lI<|Cq wU<|Cq aI<|Nf (bB fK)<|Nf (bL cT)<|Nf (by exact aB rfl rfl aAh rfl (vG o.tags _ h2))<|Nf lI<|Cq wU<|Cq aI<|Nf (bB gD)<|Nf (bL aJ)<|Nf (fW aD)<|Nf (bB gE)<|Nf (bL isAgg3)<|Nf (by exact aB rfl rfl call266 rfl (XX o.kind _ (zK hg10).1 (zK hg10).2))<|Nf dI<|Cq wU<|Cq aI<|Of<|Of<|Of<|Of<|Cq KU<|bJ<|Kr ?_;exact⟨rfl,⟨_,rfl,by(simp only [tE,hg10,hg16,hg22,hg31];rfl)⟩,rfl,rfl,rfl⟩
    refine aQ follows<|Cq (bB gE)<|Cq (bL isAgg3)<|Cq (by exact aB rfl rfl tR rfl (A1 o.kind _))<|Cq AJ<|Cq aI<|Nf (bB oQ)<|Nf (bL isAgg9)<|Nf (by exact aB rfl rfl mC rfl (vW o.id _ h1))<|Nf lI<|Cq wU<|Cq aI<|Nf (bB fK)<|Nf (bL cT)<|Nf (by exact aB rfl rfl aAh rfl (vG o.tags _ h2))<|Nf lI<|Cq wU<|Cq aI<|Of<|Of<|Of<|Of<|Of<|Of<|Of<|Cq KU<|Cq aI<|Of<|Of<|Of<|Of<|Cq cL<|bJ<|Kr ?_;exact⟨rfl,⟨_,rfl,by(simp only [tE, *];rfl)⟩,rfl,rfl,rfl⟩
   refine aQ follows<|Cq (bB gE)<|Cq (bL isAgg3)<|Cq (by exact aB rfl rfl tR rfl (A1 o.kind _))<|Cq AJ<|Cq aI<|Nf (bB oQ)<|Nf (bL isAgg9)<|Nf (by exact aB rfl rfl mC rfl (vW o.id _ h1))<|Nf lI<|Cq wU<|Cq aI<|Of<|Of<|Of<|Of<|Cq KU<|Cq aI<|Of<|Of<|Of<|Of<|Of<|Of<|Of<|Cq cL<|Cq aI<|Of<|Of<|Of<|Of<|Cq cL<|bJ<|Kr ?_;exact⟨rfl,⟨_,rfl,by(simp only [tE, *];rfl)⟩,rfl,rfl,rfl⟩
  refine aQ follows<|Cq (bB gE)<|Cq (bL isAgg3)<|Cq (by exact aB rfl rfl tR rfl (A1 o.kind _))<|Cq AJ<|Cq aI<|Of<|Of<|Of<|Of<|Cq KU<|Cq aI<|Of<|Of<|Of<|Of<|Cq cL<|Cq aI<|Of<|Of<|Of<|Of<|Of<|Of<|Of<|Cq cL<|Cq aI<|Of<|Of<|Of<|Of<|Cq cL<|bJ<|Kr ?_;exact⟨rfl,⟨_,rfl,by(simp only [tE, *];rfl)⟩,rfl,rfl,rfl⟩
 refine Cn ?_ ?_<;>intro hc1
 ·refine Sr<|Dd aP<|Zz<|aC<|Rt ?_;exact⟨by rw [mH,NH,← hml,hc1];rfl,rfl⟩
 refine aE<|Sr<|Dd (by exact FU (id:=37) T8 rfl rfl)<|Dd (by exact bE (id:=3) rfl aIH rfl rfl)<|Uu (jK sizeOf276)<|Zz<|Sr<|Dd (by exact bE (id:=4) rfl zo9 rfl rfl)<|Uu (jK sizeOf9)<|Zz ?_;refine WJ ([(1,.ref 1 0 0 0),(5,.clo 267 [.ref 1 0 0 0,.ref 4 0 0 0,.ref 3 0 0 0])]) (vH o sNil []) ?_ ?_
 ·refine Rg<|Dd (by exact eY rfl rfl)<|Da ?_;exact(cC.wk (Ea<|Ec (aG3 _ _ _ _)<|trivial) (Hc (XA _ _)<|Hb<|Ha<|Hb<|trivial) trivial)
 refine Sq<|Sr<|Dd (bB gD)<|Dd (bL aJ)<|Dd aI<|Dd (by exact aB rfl rfl QK rfl (oT _ o.refs (zJ o) (fun k=>vH o (fB id o.refs k) (RB o.refs k)) h3 (fun k s hk=>cB.clo call267 (by rw [zJ,hk,GA hk];simp only [RB,hk];exact aAz o _ s _ (h4 s (aLZ hk))))))<|Zz ?_;refine Cn ?_ ?_<;>intro hc2
 ·refine Sr<|Dd aP<|Zz<|aC<|Rt ?_;exact⟨by rw [mH,hc2];simp,rfl⟩
 have hfin:mH o=NG o:=by have h:=hc1;rw [hml] at h;rw [mH,NH,h,hc2];rfl
 rw [hfin];clear hfin;generalize fB id o.refs (wR (zJ o) o.refs.length)=la;generalize RB o.refs (wR (zJ o) o.refs.length)=LL;unfold vH;refine aE<|Sq<|Sr<|Dd (bB gE)<|Dd (bL isAgg3)<|Zz<|aF<|Sr<|Dd dC<|Da ?_;refine Cn ?_ ?_<;>intro hc3
 ·refine Sq ?_;refine bC (t:=2) (n:=11) (X:=decide (((o.refs.map encStr).length:Int)=0)&&gOn o.x o.y) ?_ ?_
  ·all_goals refine Dd (bB gD) ?_
   all_goals refine Dd (bL aJ)<|Dd (fW aD)<|Dd dC<|Dm ?_
   all_goals refine Sp 51 (fun h51=>?_) fun h51=>?_
   all_goals try contradiction
   all_goals first|refine Fo<|Fo<|Fo ?_|refine On (bB nQ)<|On (by exact aL rfl dQ sizeOf73 rfl rfl rfl rfl (by simp only [Zl,bF,bH];rfl) rfl)<|On (by exact aB rfl rfl call268 rfl (aK2 o.x o.y _)) ?_
   all_goals refine Dd cL<|Da ?_
   all_goals(exact⟨⟨_,rfl,by(simp_all;done)⟩,rfl,rfl,rfl⟩)
  refine aC<|Rt ?_;exact⟨by rw [NG,aLO (aLL hc3),← hml],rfl⟩
 refine Sr<|Dd dC<|Da ?_;refine Cn ?_ ?_<;>intro hc4
 ·refine Sq ?_;refine bC (t:=2) (n:=12) (X:=decide (((o.refs.map encStr).length:Int)=3)&&(decide (o.x=0)&&decide (o.y=0))) ?_ ?_
  ·all_goals refine Dd (bB gD) ?_
   all_goals refine Dd (bL aJ)<|Dd (fW aD)<|Dd dC<|Dm ?_
   all_goals refine Sp 62 (fun h62=>?_) fun h62=>?_
   all_goals try contradiction
   all_goals first|refine Fo<|Fo<|Fo<|Fo ?_|refine On (bB nQ)<|On (by exact aL rfl dQ sizeOf73 rfl rfl rfl rfl (by simp only [Zl,bF,bH];rfl) rfl)<|On (uS aCy)<|On (by exact yK rfl rfl rfl rfl rfl jX (UI _ _ _ _)) ?_
   all_goals refine Dd cL<|Da ?_
   all_goals(exact⟨⟨_,rfl,by(simp_all;done)⟩,rfl,rfl,rfl⟩)
  refine aC<|Rt ?_;exact⟨by rw [NG,aLN (aLM hc3),aLO (aLL hc4),← hml],rfl⟩
 refine aE<|Sr<|Dd (bB nQ)<|Dd (by exact aL rfl dQ sizeOf73 rfl rfl rfl rfl (by simp only [Zl,bF,bH];rfl) rfl)<|Dd (uS aCy)<|Dd (by exact yK rfl rfl rfl rfl rfl jX (UI _ _ _ _))<|Dd aP<|Zz<|aC<|Rt ?_;exact⟨by rw [NG,aLN (aLM hc3),aLN (aLM hc4)],rfl⟩
section
def KP (n:Int):Prop:=(Lit.int .i64 n).wf=true
theorem KP.bd {n:Int} (h:KP n) : -9223372036854775808≤n∧n≤9223372036854775807:=by simpa [KP,Lit.wf,IntKind.min,IntKind.max,IntKind.signed,IntKind.bits] using h
def aBG (B:Nat) (t:GTag):Prop:=t.key.size≤B∧t.val.size≤B
def A4 (B:Nat) (l:List ByteArray):Prop:=l.length≤B∧∀ s,s∈l→s.size≤B
def T5 (B:Nat) (l:List GTag):Prop:=l.length≤B∧∀ s,s∈l→aBG B s
def aBI (B:Nat) (o:GObj):Prop:=o.id.size≤B∧KP o.kind∧KP o.x∧KP o.y∧A4 B o.refs∧T5 B o.tags
def OH (B:Nat) (e:GEdit):Prop:=KP e.op∧e.id.size≤B∧e.other.size≤B∧e.node.size≤B∧KP e.x∧KP e.y∧e.key.size≤B∧e.val.size≤B∧A4 B e.refs∧aBI B e.obj
def W8 (B:Nat) (l:List GEdit):Prop:=l.length≤B∧∀ e,e∈l→OH B e
section
variable {B n:Nat} {ps:List PV}
theorem E5 (h:Sh Tryz.prog B (n+2) 22 ps):∃ l,ps=[aU l]∧A4 B l:=by
 obtain ⟨l,rfl,h1,h2⟩:=GW (f:=encStr) (good:=fun s=>s.size≤B) aD h (fun r hr=>by
  obtain ⟨s,rfl,hs⟩:=nD underlying9 hr;exact⟨s,rfl,hs⟩)
 exact⟨l,rfl,h1,h2⟩
theorem aJ1 (h:Sh Tryz.prog B (n+2) 206 ps):∃ t,ps=bF t∧aBG B t:=by obtain ⟨a,b,rfl,_,h1,a2,b2,rfl,_,h2,rfl⟩:=oC underlying206 h;obtain ⟨k,rfl,hk⟩:=nD underlying9 h1;obtain ⟨v,rfl,hv⟩:=nD underlying9 h2;exact⟨⟨k,v⟩,rfl,hk,hv⟩
theorem aH6 (h:Sh Tryz.prog B (n+3) 151 ps):∃ l,ps=[qW l]∧T5 B l:=by obtain ⟨l,rfl,h1,h2⟩:=GW (f:=bF) (good:=aBG B) cK h (fun r hr=>aJ1 hr);exact⟨l,rfl,h1,h2⟩
theorem P0 (h:Sh Tryz.prog B (n+2) 73 ps):∃ x y,ps=[.int .i64 x,.int .i64 y]∧KP x∧KP y:=by obtain ⟨a,b,rfl,_,h1,a2,b2,rfl,_,h2,rfl⟩:=oC underlying73 h;obtain ⟨x,rfl,hx⟩:=sX underlying3 h1;obtain ⟨y,rfl,hy⟩:=sX underlying3 h2;exact⟨x,y,rfl,hx,hy⟩
theorem aJ4 (h:Sh Tryz.prog B (n+4) 153 ps):∃ o,ps=bH o∧aBI B o:=by obtain ⟨_,_,rfl,_,h1,_,_,rfl,_,h2,_,_,rfl,_,h3,_,_,rfl,_,h4,_,_,rfl,_,h5,rfl⟩:=oC gX h;obtain ⟨id,rfl,q1⟩:=nD underlying9 h1;obtain ⟨k,rfl,q2⟩:=sX underlying3 h2;obtain ⟨x,y,rfl,q3,q4⟩:=P0 h3;obtain ⟨rs,rfl,q5⟩:=E5 h4;obtain ⟨ts,rfl,q6⟩:=aH6 h5;exact⟨⟨id,k,x,y,rs,ts⟩,rfl,q1,q2,q3,q4,q5,q6⟩
end
theorem ZY {B:Nat} {l:List GTag} (hB:B < 4611686018427387904) (h:T5 B l):I7 l:=⟨by have:=h.1;omega,fun t ht=>⟨by have:=(h.2 t ht).1;omega,by have:=(h.2 t ht).2;omega⟩⟩
theorem aHF {B:Nat} {o:GObj} (hB:B < 4611686018427387904) (h:aBI B o):okO o :=⟨by have:=h.1;omega,ZY hB h.2.2.2.2.2,by have:=h.2.2.2.2.1.1;omega,fun s hs=>by have:=h.2.2.2.2.1.2 s hs;omega⟩
end
end Go.Proofs.YtiifmppaejpemaaGreatDoor
namespace Go.Proofs.YtiifmppaejpemaaGreatDoor
open Go.Proofs.Tryz
open Go.Abs Go.ChangeShapes Go.WideShapes Go.ChangeAt Go.RowKit
theorem own:ownKnob Tryz.prog.godebug=none:=by kernel_rfl
theorem XZ:laidOutB Tryz.prog=true:=by kernel_rfl
theorem TZ {H:Type} {l:List (DataW H)} (hk:Rows.uptoSmall H l=true):Rows.uptoBulkAll l≤1048576:=aLL hk
theorem aAY {H:Type} {l r:List (DataW H)} {n:Nat} (h:Rows.uptoBulkAll (l++r)≤n):Rows.uptoBulkAll l≤n:=by
 induction l generalizing n with
 | nil=>simp [Rows.uptoBulkAll]
 | cons x l ih =>
  simp only [List.cons_append,Rows.uptoBulkAll] at h ⊢;have:=ih (n:=n - Rows.uptoBulk x) (by omega);omega
end Go.Proofs.YtiifmppaejpemaaGreatDoor
namespace Go.Proofs.YtiifmppaejpemaaGreatDoor
open Go.Proofs.Tryz
open Go.Abs
section
section
variable {B n:Nat} {ps:List PV}
theorem aH7 (h:Sh Tryz.prog B (n+5) 155 ps):∃ o,ps=aY o∧OH B o:=by obtain ⟨_,_,rfl,_,h1,_,_,rfl,_,h2,_,_,rfl,_,h3,_,_,rfl,_,h4,_,_,rfl,_,h5,_,_,rfl,_,h6,_,_,rfl,_,h7,_,_,rfl,_,h8,_,_,rfl,_,h9,rfl⟩:=oC eG h;obtain ⟨op,rfl,q1⟩:=sX underlying3 h1;obtain ⟨id,rfl,q2⟩:=nD underlying9 h2;obtain ⟨ot,rfl,q3⟩:=nD underlying9 h3;obtain ⟨nd,rfl,q4⟩:=nD underlying9 h4;obtain ⟨x,y,rfl,q5,q6⟩:=P0 h5;obtain ⟨k,rfl,q7⟩:=nD underlying9 h6;obtain ⟨v,rfl,q8⟩:=nD underlying9 h7;obtain ⟨rs,rfl,q9⟩:=E5 h8;obtain ⟨o,rfl,q10⟩:=aJ4 h9;exact⟨⟨op,id,ot,nd,x,y,k,v,rs,o⟩,rfl,q1,q2,q3,q4,q5,q6,q7,q8,q9,q10⟩
theorem aFU (h:Sh Tryz.prog B (n+6) 23 ps):∃ l,ps=[iN l]∧W8 B l:=by obtain ⟨l,rfl,h1,h2⟩:=GW (f:=aY) (good:=OH B) dD h (fun r hr=>aH7 hr);exact⟨l,rfl,h1,h2⟩
end
end
end Go.Proofs.YtiifmppaejpemaaGreatDoor
namespace Go.Abs
theorem cC.get' {G0:aA} {E E':bN} {H H':aA} (h:aD1 E E') (hH:∀ j,H'.get j=H.get j):cC G0 E H E' H':=(cC.e0 h).trans (cC.get (fun _=>rfl) hH)
theorem sQ (id:Nat) (o o':Ob) (H:aA) (j:Nat):aA.get ((id,o)::H) j=aA.get ((id,o)::(id,o')::H) j:=by cases e:Nat.beq id j<;>simp [aA.get,e]
theorem cC.dup {G0:aA} {E E':bN} {H:aA} {id:Nat} {o o':Ob} (h:aD1 E E'):cC G0 E ((id,o)::(id,o')::H) E' ((id,o)::H):=cC.get' h (sQ id o o' H)
theorem GN.app {D H G0:aA} (hG:∀ p∈D,G0.get p.1=none):GN G0 H (D++H):=fun id hi=>by
 rw [eN];cases e:D.get id with
 | none=>rfl
 | some o =>
  have:=hG _ (cQ e);rw [this] at hi;cases hi
theorem Fin.pops' {G0 H:aA} {r:AV} (D:aA) (hr:Clo H r) (hc:cY H) (hD:∀ p∈D,H.get p.1=none) (hG:∀ p∈D,G0.get p.1=none):Fin G0 (D++H) r H r:=by intro G hG' I ι w v h1 h2 h3;subst hG';exact⟨I,ι,h1.restrict (Sub.app hD) hc,h2.restrict (Sub.app hD) (GN.app hG),h3.restrict (Sub.app hD) hr⟩
end Go.Abs
namespace Go.Proofs.YtiifmppaejpemaaGreatDoor
open Go.Proofs.Tryz
open Go.Abs
theorem nS:∀ (x y:List UInt8),Op.bytesLess x y=decide (x < y)
 | [],[]=>by simp [Op.bytesLess]
 | _::_,[]=>by simp [Op.bytesLess]
 | [],_::_=>by simp [Op.bytesLess]
 | a::x,b::y=>by
  rw [Op.bytesLess,nS x y];simp only [List.cons_lt_cons_iff];by_cases h1:a < b<;>by_cases h2:a=b<;>by_cases h3:x < y<;>simp [h1,h2,h3]
theorem XC (s:ByteArray):B4 s s=false:=by unfold B4;rw [nS];exact decide_eq_false (List.lt_irrefl _)
theorem XB {a b:ByteArray} (h1:B4 a b=false) (h2:B4 b a=false):a=b:=by
 unfold B4 at h1 h2;rw [nS] at h1 h2;have e:a.toList=b.toList:=List.le_antisymm (List.not_lt.1 (aLM h2)) (List.not_lt.1 (aLM h1));have:=uJ a b;rw [e] at this
 simpa using this.symm
theorem MJ {a b c:ByteArray} (h1:B4 a b=true) (h2:B4 b c=true):B4 a c=true:=by unfold B4 at *;rw [nS] at *;exact decide_eq_true (List.lt_trans (aLL h1) (aLL h2))
theorem aEA (s:ByteArray):B4 s sNil=false:=by unfold B4;rw [nS,ByteArray.toList_eq sNil];exact decide_eq_false (List.not_lt_nil _)
theorem aEB {a b:ByteArray}:sle a b=false↔B4 b a=true:=by
 unfold sle;constructor
 ·intro h;simp only [aLb,aLX] at h;cases e:B4 b a with
  | true=>rfl
  | false=>exact absurd (XB h.1 e) h.2
 intro h;simp only [aLb,aLX];refine⟨?_,fun e=>?_⟩
 ·cases e:B4 a b with
  | false=>rfl
  | true=>have:=MJ e h;rw [XC] at this;cases this
 subst e;rw [XC] at h;cases h
theorem aC7 {s:ByteArray} (h:bI s=true):s≠sNil:=by simp only [bI,aLY,aL8,aLX] at h;exact h.2.1
theorem GL (fv:AV) (l:List GEdit) (p:GEdit→Bool) (H:aA) (hl:l.length < 4611686018427387904) (hf:∀ o,o∈l→cB Tryz.prog fv [.agg ((aY o).map .pv)] H (fun r H'=>r=.pv (.bool (p o))∧H'=H)) :
    aG Tryz.prog 246 [.pv (.sl (l.map aY)),fv] H (fun r H'=>r=.pv (.int .i64 (tD p l))∧H'=H):=by
  refine Bd func246 rfl ntmps246<|Sr<|Dd aP<|Zz<|Sq<|Sr<|Dd aI<|Dd (fW dD)<|Dd aI<|Zz<|aF ?_;refine bR (σ:=Nat) (fun k=>([(0,.pv (.sl (l.map aY))),(1,fv),(7,.pv (.int .i64 (l.map aY).length)),(8,.pv (.int .i64 (k:Int)))],H)) (fun k=>k≤l.length∧∀ j,j < k→∀ b,l[j]?=some b→p b=false) (fun k=>l.length - k) 0 ⟨by omega,by omega⟩ ?_ ?_
  · exact E0
  · rintro k ⟨hk,hno⟩
    refine Sr<|Dd dI<|Zz<|Sq ?_;refine Cn ?_ ?_<;>intro hc1
    · have hlt:k < l.length:=by simpa using hc1
      obtain ⟨o,ho⟩:=bD hlt;have hi:=cI (f:=aY) ho;have hfo:=hf o (aLZ ho);refine aE<|Sq<|aF<|Sr<|Dd aI<|Dd aP<|Zz<|Sr<|Dd aI<|Dd aI<|Dd aI<|Dd (xT UE)<|Dd (by exact cP rfl bT aV rfl (by omega) (by simp only [Zl,aY];rfl) rfl)<|Dd (by exact bY rfl rfl rfl (hfo))<|Zz ?_;refine Cn ?_ ?_<;>intro hc2
      · skip
        refine Sr<|Dd aI<|Dd aP<|Zz<|aC ?_;exact dF (H':=H) (.inr rfl) rfl (aT rfl) Fin.refl ⟨by rw [tD,NL hno ho hc2],rfl⟩
      · skip
        refine aE<|Rg<|Dd pL<|Dd aI<|Zz ?_;refine⟨k+1,⟨by omega,fun j hj b hb=>?_⟩,by omega,E0⟩;by_cases e:j=k
        · subst e;rw [ho] at hb;cases hb;exact hc2
        · exact hno j (by omega) b hb
    · have hge : k = l.length := by have : l.length ≤ k := by simpa using hc1
                                    omega
      subst hge;refine bG<|Sr<|Dd aP<|Zz<|aC ?_;exact dF (H':=H) (.inr rfl) rfl (aT rfl) Fin.refl ⟨by rw [tD,NM hno],rfl⟩
def onP (x y:Int):Bool:=decide (0≤min x y)&&decide (max x y < 1048576)
theorem BQ (fv:AV) (l:List GEdit) (p:GEdit→Bool) (H:aA) (hl:l.length < 4611686018427387904) (hf:∀ o,o∈l→cB Tryz.prog fv [.agg ((aY o).map .pv)] H (fun r H'=>r=.pv (.bool (p o))∧H'=H)) :
  aG Tryz.prog 207 [.pv (.sl (l.map aY)),fv] H (fun r H'=>r=.pv (.bool (l.any p))∧H'=H):=by
 refine aG.body func207 rfl ntmps207 (aL2 rfl) ?_;refine DJ ?_;refine wM ?_;refine WN rfl rfl rfl (by exact rC rfl rfl) ?_;refine WM ?_;refine DJ ?_;refine wM ?_;refine WN rfl rfl rfl (by exact eM rfl rfl) ?_;refine WN rfl rfl rfl (by exact eM rfl rfl) ?_;refine WN rfl rfl rfl (by exact aB rfl rfl call246 rfl (GL fv l p H hl hf)) ?_;refine WN rfl rfl rfl (by exact CS rfl rfl rfl) ?_;refine WN rfl rfl rfl (by exact rC rfl rfl) ?_;refine WM ?_;refine aC ?_;exact dF (H':=H) (.inr rfl) rfl (aT rfl) Fin.refl ⟨by rw [aC6],rfl⟩
def pX (a b:GTag):Bool:=decide (a.key=b.key)&&decide (a.val=b.val)
def mE:List GTag→List GTag→Bool
 | [],[]=>true
 | a::l,b::r=>pX a b&&mE l r
 | _,_=>false
theorem MF (a b:GTag):pX a b=true↔a=b:=by cases a;cases b;simp [pX]
theorem MC:∀ (a b:List GTag),a.length≠b.length→mE a b=false
 | [],[],h=>absurd rfl h
 | [],_::_,_=>rfl
 | _::_,[],_=>rfl
 | x::a,y::b,h=>by rw [mE,MC a b (by simpa using h)];simp
theorem MD:∀ (a b:List GTag) (k:Nat) (x y:GTag),a[k]?=some x→b[k]?=some y→pX x y=false→mE a b=false
 | [],_,k,x,y,h,_,_=>by simp at h
 | _::_,[],k,x,y,_,h,_=>by simp at h
 | u::a,v::b,0,x,y,h1,h2,h=>by cases h1;cases h2;rw [mE,h];rfl
 | u::a,v::b,k+1,x,y,h1,h2,h=>by rw [mE,MD a b k x y h1 h2 h];simp
theorem H8:∀ (a b:List GTag),a.length=b.length→(∀ k,k < a.length→∀ x y,a[k]?=some x→b[k]?=some y→pX x y=true)→mE a b=true
 | [],[],_,_=>rfl
 | [],_::_,h,_=>by simp at h
 | _::_,[],h,_=>by simp at h
 | u::a,v::b,hl,h=>by
  rw [mE,h 0 (by simp) u v rfl rfl,H8 a b (by simpa using hl) (fun k hk x y h1 h2=>h (k+1) (by simpa using hk) x y h1 h2)];rfl
theorem SN (a b : List GTag) (H : aA) (ha : a.length < 4611686018427387904) :
    aG Tryz.prog 276 [lv (a.map bF),lv (b.map bF)] H (fun r H'=>r=bv (mE a b)∧H'=H):=by
  refine Pu ?_;refine Bd func276 rfl ntmps276<|Sr<|Dd aP<|Zz<|Sq<|Sr<|Dd aI<|Dd (fW cK)<|Dd aI<|Dd (fW cK)<|Dd yM<|Zz ?_;refine Cn ?_ ?_<;>intro hc1
  · have hne:a.length≠b.length:=by simp at hc1;omega
    refine Sr<|Dd aP<|Zz<|aC<|Rt ?_;exact⟨by rw [MC a b hne],rfl⟩
  · have heq : a.length = b.length := by simp at hc1; omega
    refine aE<|Sq<|Sr<|Dd aI<|Dd (fW cK)<|Dd aI<|Zz<|aF ?_;refine bR (σ:=Nat) (fun k=>([(0,lv (a.map bF)),(1,lv (b.map bF)),(12,iv (a.map bF).length),(13,iv (k:Int))],[])) (fun k=>k≤a.length∧∀ j,j < k→∀ x y,a[j]?=some x→b[j]?=some y→pX x y=true) (fun k=>a.length - k) 0 ⟨by omega,by omega⟩ ?_ ?_
    · exact E0
    · rintro k ⟨hk,hall⟩
      refine Sr<|Dd dI<|Zz<|Sq ?_;refine Cn ?_ ?_<;>intro hc2
      · have hlt:k < a.length:=by simpa using hc2
        obtain ⟨x,hx⟩:=bD hlt;obtain ⟨y,hy⟩:=bD (l:=b) (k:=k) (by omega);have hi:=cI (f:=bF) hx;have hi2:=cI (f:=bF) hy;refine aE<|Sq<|aF<|Sr<|Dd aI<|Dd aP<|Zz<|Sq<|aQ follows<|Cq aI<|Cq aI<|Cq (xT wS)<|Cq (by exact cP rfl qO iB rfl (by omega) (by simp only [Zl,bF,bH,aY];rfl) rfl)<|Cq aI<|Cq aI<|Cq (xT wS)<|Cq (by exact cP rfl qO iB rfl (by omega) (by simp only [Zl,bF,bH,aY];rfl) rfl)<|Cq (by exact yJ rfl rfl rfl rfl rfl eqGuardType206 (aFw _ _ _ _))<|bJ<|Kr ?_;refine Cn ?_ ?_<;>intro hc3
        · have ht:pX x y=false:=by
            have h:(!pX x y)=true:=hc3
            simpa using h
          refine Sr<|Dd aP<|Zz<|aC<|Rt ?_;exact⟨by rw [MD a b k x y hx hy ht],rfl⟩
        · have ht:pX x y=true:=by
            have h:(!pX x y)=false:=hc3
            simpa using h
          refine aE<|Rg<|Dd pL<|Dd aI<|Zz ?_;refine⟨k+1,⟨by omega,fun j hj x' y' h1 h2=>?_⟩,by omega,E0⟩;by_cases e:j=k
          · subst e;rw [hx] at h1;rw [hy] at h2;cases h1;cases h2;exact ht
          · exact hall j (by omega) x' y' h1 h2
      · have hge : k = a.length := by have : a.length ≤ k := by simpa using hc2
                                      omega
        subst hge;refine bG<|Sr<|Dd aP<|Zz<|aC<|Rt ?_;exact⟨by rw [H8 a b heq hall],rfl⟩
def wW (n:Int) (s:ByteArray):Bool:=decide (n < (s.size:Int))
def aCH (n:Int) (t:GTag):Bool:=decide (n < IntKind.i64.wrap ((t.key.size:Int)+(t.val.size:Int)))
def aFz (o:GObj):Prop:=o.refs.length < 4611686018427387904∧o.tags.length < 4611686018427387904
def A0 (o:GObj) (n:Int):Bool:=(wW 300 o.id||decide (n < (o.refs.length:Int))||decide (65 < (o.tags.length:Int)))||o.refs.any (wW 300)||o.tags.any (aCH 600)
theorem aFK (o:GObj) (n:Int) (H:aA) (hok:aFz o) :
  aG Tryz.prog 157 [av (bH o),iv n] H (fun r H'=>r=bv (!A0 o n)∧H'=H):=by
 refine Pu ?_;have hrl:(o.refs.map encStr).length=o.refs.length:=aLP _;have htl:(o.tags.map bF).length=o.tags.length:=aLP _;have h1:=hok.1;have h2:=hok.2;refine Bd func157 rfl ntmps157<|Sr<|Dd (by exact bZ (id:=2) rfl rfl rfl rfl rfl)<|Dd aP<|Zz<|Sq<|Sq ?_;refine bC (t:=23) (n:=19) (X:=wW 300 o.id||decide (n < ((o.refs.map encStr).length:Int))||decide (65 < ((o.tags.map bF).length:Int))) ?_ ?_
 ·all_goals refine Dd (bB oQ) ?_
  all_goals refine Dd (bL isAgg9)<|Dd (nV underlying9)<|Dd mU<|Dm ?_
  all_goals refine Sp 11 (fun h11=>?_) fun h11=>?_
  all_goals try contradiction
  all_goals first|refine Fo<|Fo<|Fo<|Fo<|Fo ?_|refine On (bB gD)<|On (bL aJ)<|On (fW aD)<|On aI<|On mU ?_
  all_goals refine Dd cL<|Dm ?_
  all_goals refine Sp 18 (fun h18=>?_) fun h18=>?_
  all_goals try contradiction
  all_goals first|refine Fo<|Fo<|Fo<|Fo ?_|refine On (bB fK)<|On (bL cT)<|On (fW cK)<|On mU ?_
  all_goals refine Dd cL<|Zz ?_
  all_goals(exact⟨⟨_,rfl,by first|(simp only [wW, *];rfl)|(simp_all [wW];done)|(simp_all [wW];omega)⟩,rfl,rfl,rfl⟩)
 refine Cn ?_ ?_<;>intro hc1
 ·rw [hrl,htl] at hc1;refine Sr<|Dd aP<|Zz<|aC<|Rt ?_;exact⟨by rw [A0,hc1];rfl,rfl⟩
 rw [hrl,htl] at hc1;have hb1:A0 o n=(o.refs.any (wW 300)||o.tags.any (aCH 600)):=by rw [A0,hc1];rfl
 refine aE<|Sq<|Sr<|Dd aP<|Zz<|aF ?_;refine bR (σ:=Nat) (fun q=>([(2,.ref 2 0 0 0),(5,iv (q:Int))],[(2,bx 6 153 ((bH o).map .pv))])) (fun q=>q≤o.refs.length∧∀ j,j < q→∀ b,o.refs[j]?=some b→wW 300 b=false) (fun q=>o.refs.length - q) 0 ⟨by omega,by omega⟩ ?_ ?_
 ·exact Wk
 rintro q ⟨hq,hnr⟩;refine Sq<|Sr<|Dd aI<|Dd (bB gD)<|Dd (bL aJ)<|Dd (fW aD)<|Dd dI<|Zz ?_;refine Cn ?_ ?_<;>intro hc2
 ·have hlt2:q < o.refs.length:=by simpa using hc2
  obtain ⟨s,hs⟩:=bD hlt2;have hse:=cI (f:=encStr) hs;refine aE<|Sq<|aF<|Sr<|Dd (bB gD)<|Dd (bL aJ)<|Dd aI<|Dd (xT cO)<|Dd (pG isAgg9)<|Dd (nV underlying9)<|Dd mU<|Zz ?_;refine Cn ?_ ?_<;>intro hc3
  ·have hbad:A0 o n=true:=by rw [hb1,zF hs hc3];rfl
   refine Sr<|Dd aP<|Zz<|aC<|Rt ?_;exact⟨by rw [hbad];rfl,rfl⟩
  refine aE<|Rg<|Dd aI<|Dd pL<|Da ?_;exact⟨q+1,⟨by omega,yC hnr hs hc3⟩,by omega,Wk⟩
 have hge:q=o.refs.length:=by
  have:o.refs.length≤q:=by simpa using hc2
  omega
 subst hge;rw [DL hnr,Bool.false_or] at hb1;refine bG<|Sq<|Sr<|Dd aP<|Zz<|aF ?_;refine bR (σ:=Nat) (fun q=>([(2,.ref 2 0 0 0),(6,iv (q:Int))],[(2,bx 6 153 ((bH o).map .pv))])) (fun q=>q≤o.tags.length∧∀ j,j < q→∀ b,o.tags[j]?=some b→aCH 600 b=false) (fun q=>o.tags.length - q) 0 ⟨by omega,by omega⟩ ?_ ?_
 ·exact Wk
 rintro q ⟨hq,hnt⟩;refine Sq<|Sr<|Dd aI<|Dd (bB fK)<|Dd (bL cT)<|Dd (fW cK)<|Dd dI<|Zz ?_;refine Cn ?_ ?_<;>intro hc4
 ·have hlt2:q < o.tags.length:=by simpa using hc4
  obtain ⟨s,hs⟩:=bD hlt2;have hse:=cI (f:=bF) hs;refine aE<|Sq<|aF<|Sq<|aQ follows<|Cq (bB fK)<|Cq (bL cT)<|Cq aI<|Cq (xT wS)<|Cq (fp' C8)<|Cq (pG isAgg9)<|Cq (nV underlying9)<|Cq (bB fK)<|Cq (bL cT)<|Cq aI<|Cq (xT wS)<|Cq (fp' HF)<|Cq (pG isAgg9)<|Cq (nV underlying9)<|Cq (by exact cA rfl rfl rfl rfl)<|Cq mU<|bJ<|Kr ?_;refine Cn ?_ ?_<;>intro hc5
  ·have hbad:A0 o n=true:=by rw [hb1,zF hs hc5]
   refine Sr<|Dd aP<|Zz<|aC<|Rt ?_;exact⟨by rw [hbad];rfl,rfl⟩
  refine aE<|Rg<|Dd aI<|Dd pL<|Da ?_;exact⟨q+1,⟨by omega,yC hnt hs hc5⟩,by omega,Wk⟩
 have hge:q=o.tags.length:=by
  have:o.tags.length≤q:=by simpa using hc4
  omega
 subst hge;have hgood:A0 o n=false:=by rw [hb1,DL hnt]
 refine bG<|Sr<|Dd aP<|Zz<|aC<|Rt ?_;exact⟨by rw [hgood];rfl,rfl⟩
end Go.Proofs.YtiifmppaejpemaaGreatDoor
namespace Go.Abs
section
theorem Clo.up {H H':aA} (hs:∀ i,(H.get i).isSome=true→(H'.get i).isSome=true) {a:AV} (h:Clo H a):Clo H' a:=by
 induction h with
 | any=>exact .any
 | pv p=>exact .pv p
 | pad rows i k=>exact .pad rows i k
 | ref h=>exact .ref (hs _ h)
 | osl h=>exact .osl (hs _ h)
 | clo h ih=>exact .clo ih
 | bnd h ih=>exact .bnd ih
 | agg h ih=>exact .agg ih
 | tup h ih=>exact .tup ih
 | mp h=>exact .mp (hs _ h)
 | it h=>exact .it (hs _ h)
 | yld h=>exact .yld (hs _ h)
 | raw x ts=>exact .raw x ts
 | osc h=>exact .osc (hs _ h)
theorem Clo.app {D K:aA} {a:AV} (h:Clo K a):Clo (D++K) a:=h.up fun i hi=>by
 rw [eN];cases D.get i with
 | none=>exact hi
 | some o=>rfl
theorem cY.app {D K:aA} (h3:∀ p∈D,∀ r∈p.2.rows,∀ a∈r,Clo (D++K) a) (h4:cY K):cY (D++K):=by
 intro id o ho;rw [eN] at ho;cases e:D.get id with
 | some x =>
  rw [e] at ho;cases ho;exact h3 _ (cQ e)
 | none =>
  rw [e] at ho;exact fun r hr a ha=>(h4 id o ho r hr a ha).app
theorem Sub.front {D D' K:aA} (h1:∀ p∈D,K.get p.1=none) (h2:∀ p∈D',D.get p.1=some p.2):Sub (D'++K) (D++K):=by
 intro id o ho;rw [eN] at ho ⊢;cases e:D'.get id with
 | some x =>
  rw [e] at ho;cases ho;rw [h2 _ (cQ e)]
 | none =>
  rw [e] at ho;cases e2:D.get id with
  | none=>exact ho
  | some x =>
   have:=h1 _ (cQ e2);rw [this] at ho;cases ho
theorem GN.front {G0 D D' K:aA} (h2:∀ p∈D',D.get p.1=some p.2) (h5:∀ p∈D,G0.get p.1=none):GN G0 (D'++K) (D++K):=by
 intro id hi;have hD:D.get id=none:=by
  cases e:D.get id with
  | none=>rfl
  | some x =>
   have:=h5 _ (cQ e);rw [this] at hi;cases hi
 have hD':D'.get id=none:=by
  cases e:D'.get id with
  | none=>rfl
  | some x =>
   have:=h2 _ (cQ e);rw [hD] at this;cases this
 rw [eN,eN,hD,hD']
theorem cC.front {G0:aA} {E E':bN} {K:aA} (D D':aA) (hE:EOk E (D'++K) E') (h1:∀ p∈D,K.get p.1=none) (h2:∀ p∈D',D.get p.1=some p.2) (h3:∀ p∈D',∀ r∈p.2.rows,∀ a∈r,Clo (D'++K) a) (h4:cY K)
  (h5:∀ p∈D,G0.get p.1=none):cC G0 E (D++K) E' (D'++K):=by
 intro G hG N a w hs;obtain ⟨I,ι,hr,hst,he⟩:=hs.rel;subst hG;have hsub:=Sub.front h1 h2;refine⟨hs.defers,hs.size,I,ι,hr.restrict hsub (cY.app h3 h4),hst.restrict hsub (GN.front h2 h5),fun t v ht=>?_⟩;obtain ⟨k1,k2⟩:=hE.spec _ (eZ ht);obtain ⟨c,hc,hv⟩:=he t v k1;exact⟨c,hc,hv.restrict hsub k2⟩
section
variable {F:Fence} {n:Nat} {P:Program} {b:Frame} {a:Act} {k:List Item} {cs:List Frame} {w:World} {Q:Exit→Act→World→Prop}
theorem mN {c:Code}:step P (lone (b.atR a (.code (.scope c)::k)) cs w)=.next (lone (b.atR a (.code c::.inScope c::k)) cs w) :=step_lone_go (by simp [stepG,stepG.exec,Frame.atR])
theorem KR {c:Code}:step P (lone (b.atR a (.inScope c::k)) cs w)=.next (lone (b.atR a k) cs w) :=step_lone_go (by simp [stepG,stepG.exec,Frame.atR])
theorem AH {c:Code} (h:c.wpIn F n P (Exit.noGoto Q) a w):(Code.scope c).wpIn F n P Q a w:=by
 intro b k cs hro hb hr;have h0:(lone (b.atR a (.code (.scope c)::k)) cs w).fenced P F:=fenced_calm hb hr rfl;obtain ⟨e,a₁,w₁,hq,harr⟩:=h b (.inScope c::k) cs hro hb hr;cases e with
 | normal=>exact⟨.normal,a₁,w₁,hq,.head h0 mN (StepsIn.trans harr (.one (fenced_calm hb hr rfl) KR))⟩
 | exit id =>
  have hx:exitTo id (.inScope c::k)=exitTo id k:=by simp [exitTo]
  exact⟨_,a₁,w₁,hq,fun k' hk=>.head h0 mN (harr.1 k' (by rw [hx];exact hk)),
   fun hr' hk=>let ⟨k₁,h1,h2⟩:=harr.2 hr' (by rw [hx];exact hk);⟨k₁,h1,.head h0 mN h2⟩⟩
 | goto l=>exact hq.elim
 | ret=>exact⟨_,a₁,w₁,hq,.of_steps (.one h0 mN) harr⟩
 | panic ch=>exact⟨_,a₁,w₁,hq,.of_steps (.one h0 mN) harr⟩
 | outgrown=>exact⟨_,a₁,w₁,hq,.of_steps (.one h0 mN) harr⟩
end
def aFo (Q:Exit→bN→aA→Prop):Exit→bN→aA→Prop
 | .goto _,_,_=>False
 | e,E,H=>Q e E H
theorem aA2 {P:Program} {G0:aA} {N:Nat} {E:bN} {H:aA} {Q:Exit→bN→aA→Prop} {c:Code} (h:fE P G0 N c (aFo Q) E H):fE P G0 N (.scope c) Q E H:=by intro G hG a w hs ro hr;refine AH (wpIn_mono (h G hG a w hs ro hr) ?_);rintro e a' w' ⟨E',H',q,s⟩;cases e<;>first|exact⟨E',H',q,s⟩|exact q.elim
theorem rR {P:Program} {G0:aA} {N:Nat} {E:bN} {H H2:aA} {ops:Array Oper} {id n t:Nat} {d:Bool} {X:Bool} {Q:Exit→bN→aA→Prop} (h:fE P G0 N (.region id ops d) (fun e E1 H1=>e=.normal∧N6 n t X E H2 E1 H1) E H) (hk:Q .normal ((t,.pv (.bool X))::E) H2):fE P G0 N (.region id ops d) Q E H:=by intro G hG a w hs ro hr;refine wpIn_mono (h G hG a w hs ro hr) ?_;rintro e a' w' ⟨E1,H1,⟨rfl,hm⟩,hs'⟩;exact⟨_,_,hk,(hm.ent (G0:=G0)) G hG N a' w' hs'⟩
def DQ (H:aA):aA→Prop
 | []=>True
 | (_,o)::r=>(∀ r∈o.rows,∀ a∈r,Clo H a)∧DQ H r
theorem DQ.spec {H:aA}:∀ {L:aA},DQ H L→∀ p∈L,∀ r∈p.2.rows,∀ a∈r,Clo H a
 | (i,o)::L,h,p,hp=>by
  rcases aL1.1 hp with rfl|hp
  ·exact h.1
  exact DQ.spec h.2 p hp
theorem cY.ofL {H:aA} (h:DQ H H):cY H:=fun _ _ ho=>h.spec _ (cQ ho)
def lo (D:aA) (n:Nat):Prop:=∀ p∈D,900≤p.1∧p.1 < n
def clear (K:aA):Prop:=∀ i,900≤i→i < 1000→K.get i=none
theorem Fin.of_ent {G0 H H':aA} {r r':AV} (h:cC G0 [(0,r)] H [(0,r')] H'):Fin G0 H r H' r':=by
 intro G hG I ι w v h1 h2 h3;obtain ⟨_,_,I',ι',k1,k2,k3⟩:=h G hG 1 ⟨#[v],G.ds⟩ w ⟨nZ.nil _ _ _,rfl,I,ι,h1,h2,fun t x hx=>by
  simp only [bN.get] at hx;cases e:Nat.beq 0 t with
  | true=>rw [e] at hx;cases hx;rw [← Nat.eq_of_beq_eq_true e];exact⟨v,rfl,h3⟩
  | false=>rw [e] at hx;cases hx⟩
 obtain ⟨c,hc,hv⟩:=k3 0 r' rfl;cases hc;exact⟨I',ι',k1,k2,hv⟩
theorem Sub.front' {D D' K:aA} (h1:∀ p∈D,(D'.get p.1).isSome=true∨K.get p.1=none) (h2:∀ p∈D',D.get p.1=some p.2):Sub (D'++K) (D++K):=by
 intro id o ho;rw [eN] at ho ⊢;cases e:D'.get id with
 | some x =>
  rw [e] at ho;cases ho;rw [h2 _ (cQ e)]
 | none =>
  rw [e] at ho;cases e2:D.get id with
  | none=>exact ho
  | some x =>
   rcases h1 _ (cQ e2)with h|h
   ·simp only [e] at h;cases h
   rw [h] at ho;cases ho
theorem GN.front' {G0 D D' K:aA} (h2:∀ p∈D',D.get p.1=some p.2) (h5:∀ p∈D,(D'.get p.1).isSome=true∨G0.get p.1=none):GN G0 (D'++K) (D++K):=by
 intro id hi;rw [eN,eN];cases e:D'.get id with
 | some x=>rw [h2 _ (cQ e)]
 | none =>
  cases e2:D.get id with
  | none=>rfl
  | some x =>
   rcases h5 _ (cQ e2)with h|h
   ·simp only [e] at h;cases h
   rw [h] at hi;cases hi
theorem Fin.front' {G0 K:aA} {r:AV} (D D':aA) (hr:Clo (D'++K) r) (h1:∀ p∈D,(D'.get p.1).isSome=true∨K.get p.1=none) (h2:∀ p∈D',D.get p.1=some p.2) (h3:∀ p∈D',∀ r∈p.2.rows,∀ a∈r,Clo (D'++K) a) (h4:cY K)
  (h5:∀ p∈D,(D'.get p.1).isSome=true∨G0.get p.1=none):Fin G0 (D++K) r (D'++K) r:=by
 intro G hG I ι w v k1 k2 k3;subst hG;have hsub:=Sub.front' h1 h2;exact⟨I,ι,k1.restrict hsub (cY.app h3 h4),k2.restrict hsub (GN.front' h2 h5),k3.restrict hsub hr⟩
theorem Fin.get' {G0 H H':aA} {r:AV} (hH:∀ j,H'.get j=H.get j):Fin G0 H r H' r:=Fin.of_ent (cC.get' ⟨⟨_,rfl,rfl⟩,trivial⟩ hH)
end
end Go.Abs
namespace Go.Proofs.YtiifmppaejpemaaGreatDoor
open Go.Proofs.Tryz
open Go.Abs
theorem H7:∀ {a b:List GTag},mE a b=true↔a=b
 | [],[]=>by simp [mE]
 | [],_::_=>by simp [mE]
 | _::_,[]=>by simp [mE]
 | x::a,y::b=>by rw [mE,aLY,MF,H7];simp
theorem aKM (a0 b0 a1 b1 a2 b2 a3 b3:ByteArray) (w:World):(Op.equalIn 10000 280 (.agg [.string a0,.string a1,.string a2,.string a3].toArray) (.agg [.string b0,.string b1,.string b2,.string b3].toArray)).run Tryz.prog w =
  .ok (decide (a0=b0)&&decide (a1=b1)&&decide (a2=b2)&&decide (a3=b3)) w:=by
 obtain ⟨i,hi⟩:=info_of_underlying underlying9;refine(run_equalIn_array (P:=Tryz.prog) w 9999 _ _ underlying280 hi).trans ?_;have hs:∀ (d:Nat) (a b:ByteArray) (w:World),(Op.equalIn (d+1) 9 (.string a) (.string b)).run Tryz.prog w=.ok (decide (a=b)) w:=fun d a b w=>by rw [run_equalIn_string w d 9 a b underlying9,uJ]
 have hc:Tryz.prog.cellsOf 9=1:=by kernel_rfl
 by_cases e0:a0=b0<;>by_cases e1:a1=b1<;>by_cases e2:a2=b2<;>by_cases e3:a3=b3<;>simp [List.range_succ,Op.eqItems,part,hc,hs,isAgg9,e0,e1,e2,e3]
theorem SQ (a b:List ByteArray) (H:aA) (ha:a.length < 4611686018427387904):aG Tryz.prog 272 [.pv (aU a),.pv (aU b)] H (fun r H'=>r=bv (decide (a=b))∧H'=H):=by
 refine Pu ?_;have hma:(a.map encStr).length=a.length:=aLP _;have hmb:(b.map encStr).length=b.length:=aLP _;refine Bd func272 rfl ntmps272<|Sr<|Dd aP<|Zz<|Sq<|Sr<|Dd aI<|Dd (fW aD)<|Dd aI<|Dd (fW aD)<|Dd yM<|Zz ?_;refine Cn ?_ ?_<;>intro hc1
 ·have hne:¬ a=b:=by
   intro e;subst e;simp at hc1
  refine Sr<|Dd aP<|Zz<|aC<|Rt ?_;exact⟨by rw [decide_eq_false hne],rfl⟩
 have heq:a.length=b.length:=by
  simp only [hma,hmb,Bool.not_eq_false',aLW] at hc1;omega
 refine aE<|Sq<|Sr<|Dd aI<|Dd (fW aD)<|Dd aI<|Zz<|aF ?_;refine bR (σ:=Nat) (fun k=>([(0,.pv (aU a)),(1,.pv (aU b)),(12,iv ((a.map encStr).length:Int)),(13,iv (k:Int))],[])) (fun k=>k≤a.length∧a.take k=b.take k) (fun k=>a.length - k) 0 ⟨by omega,by simp⟩ ?_ ?_
 ·exact E0
 rintro k ⟨hk,hall⟩;refine Sr<|Dd dI<|Zz<|Sq ?_;refine Cn ?_ ?_<;>intro hc2
 ·have hlt:k < a.length:=by have:=aLL hc2;omega
  obtain ⟨x,hx⟩:=bD hlt;obtain ⟨y,hy⟩:=bD (l:=b) (k:=k) (by omega);have hi:=cI (f:=encStr) hx;have hi2:=cI (f:=encStr) hy;refine aE<|Sq<|aF<|Sr<|Dd aI<|Dd aP<|Zz<|Sq<|aQ follows<|Cq aI<|Cq aI<|Cq (xT cO)<|Cq (pG isAgg9)<|Cq aI<|Cq aI<|Cq (xT cO)<|Cq (pG isAgg9)<|Cq Q8<|bJ<|Kr ?_;refine Cn ?_ ?_<;>intro hc3
  ·have ht:¬ x=y:=by
    have h:(!decide (x=y))=true:=hc3
    simpa using h
   have hne:¬ a=b:=by
    intro e;subst e;rw [hx] at hy;exact ht (Option.some.inj hy)
   refine Sr<|Dd aP<|Zz<|aC<|Rt ?_;exact⟨by rw [decide_eq_false hne],rfl⟩
  have ht:x=y:=by
   have h:(!decide (x=y))=false:=hc3
   simpa using h
  refine aE<|Rg<|Dd pL<|Dd aI<|Zz ?_;refine⟨k+1,⟨by omega,?_⟩,by omega,E0⟩;rw [List.take_add_one,List.take_add_one,hx,hy,hall,ht]
 have hge:k=a.length:=by have:=aLM hc2;omega
 have he:a=b:=by
  have h:=hall;rw [hge,List.take_length,heq,List.take_length] at h;exact h
 refine bG<|Sr<|Dd aP<|Zz<|aC<|Rt ?_;exact⟨by rw [decide_eq_true he],rfl⟩
def oF (a b:GObj):Bool:=((decide (a.id=b.id)&&decide (a.kind=b.kind)&&(decide (a.x=b.x)&&decide (a.y=b.y)))&&decide (a.refs=b.refs))&&mE a.tags b.tags
theorem rM {a b:GObj}:oF a b=true↔a=b:=by
 cases a;cases b;simp only [oF,aLY,aLW,H7,GObj.mk.injEq];constructor
 ·rintro⟨⟨⟨⟨a1,a2⟩,a3,a4⟩,a5⟩,a6⟩;exact⟨a1,a2,a3,a4,a5,a6⟩
 rintro⟨a1,a2,a3,a4,a5,a6⟩;exact⟨⟨⟨⟨a1,a2⟩,a3,a4⟩,a5⟩,a6⟩
def okS (o:GObj):Prop:=o.refs.length < 4611686018427387904∧o.tags.length < 4611686018427387904
theorem aEV (a b:GObj) (H:aA) (ha:okS a):aG Tryz.prog 273 [av (bH a),av (bH b)] H (fun r H'=>r=bv (oF a b)∧H'=H):=by
 refine Pu ?_;refine Bd func273 rfl ntmps273<|Sr<|Dd (by exact bZ (id:=2) rfl rfl rfl rfl rfl)<|Dd (by exact bZ (id:=3) rfl rfl rfl rfl rfl)<|Dd aP<|Zz<|Sq ?_;refine bC (t:=4) (n:=38) (X:=oF a b) ?_ ?_
 ·all_goals refine Dd (bB oQ) ?_
  all_goals refine Dd (bL isAgg9)<|Dd (bB oQ)<|Dd (bL isAgg9)<|Dd AJ<|Dm ?_
  all_goals refine Sp 10 (fun h10=>?_) fun h10=>?_
  all_goals try contradiction
  all_goals first|refine Fo<|Fo<|Fo<|Fo<|Fo ?_|refine On (bB gE)<|On (bL isAgg3)<|On (bB gE)<|On (bL isAgg3)<|On dC ?_
  all_goals refine Dd cL<|Dm ?_
  all_goals refine Sp 17 (fun h17=>?_) fun h17=>?_
  all_goals try contradiction
  all_goals first|refine Fo<|Fo<|Fo<|Fo<|Fo ?_|refine On (bB nQ)<|On (by exact aL rfl dQ sizeOf73 rfl rfl rfl rfl (by simp only [Zl,bF,bH,encStr,aY];rfl) rfl)<|On (bB nQ)<|On (by exact aL rfl dQ sizeOf73 rfl rfl rfl rfl (by simp only [Zl,bF,bH,encStr,aY];rfl) rfl)<|On (by exact yK rfl rfl rfl rfl rfl jX (UI _ _ _ _)) ?_
  all_goals refine Dd cL<|Dm ?_
  all_goals refine Sp 24 (fun h24=>?_) fun h24=>?_
  all_goals try contradiction
  all_goals first|refine Fo<|Fo<|Fo<|Fo<|Fo ?_|refine On (bB gD)<|On (bL aJ)<|On (bB gD)<|On (bL aJ)<|On (by exact aB rfl rfl call272 rfl (SQ a.refs b.refs _ ha.1)) ?_
  all_goals refine Dd cL<|Dm ?_
  all_goals refine Sp 31 (fun h31=>?_) fun h31=>?_
  all_goals try contradiction
  all_goals first|refine Fo<|Fo<|Fo<|Fo<|Fo ?_|refine On (bB fK)<|On (bL cT)<|On (bB fK)<|On (bL cT)<|On (by exact aB rfl rfl call276 rfl (SN a.tags b.tags _ ha.2)) ?_
  all_goals refine Dd cL<|Da ?_
  all_goals(exact⟨⟨_,rfl,by(simp only [oF, *];rfl)⟩,rfl,rfl,rfl⟩)
 exact aC<|Rt<|Qq
def iW (a b:GEdit):Bool:=((((decide (a.refs=b.refs)&&oF a.obj b.obj)&&decide (a.op=b.op))&&(decide (a.id=b.id)&&decide (a.other=b.other)&&decide (a.node=b.node)&&decide (a.key=b.key)))&&decide (a.val=b.val))&&(decide (a.x=b.x)&&decide (a.y=b.y))
theorem VS {a b:GEdit}:iW a b=true↔a=b:=by
 cases a;cases b;simp only [iW,aLY,aLW,rM,GEdit.mk.injEq];constructor
 ·rintro⟨⟨⟨⟨⟨a1,a2⟩,a3⟩,⟨⟨a4,a5⟩,a6⟩,a7⟩,a8⟩,a9,a10⟩;exact⟨a3,a4,a5,a6,a9,a10,a7,a8,a1,a2⟩
 rintro⟨a3,a4,a5,a6,a9,a10,a7,a8,a1,a2⟩;exact⟨⟨⟨⟨⟨a1,a2⟩,a3⟩,⟨⟨a4,a5⟩,a6⟩,a7⟩,a8⟩,a9,a10⟩
theorem vM (a b:GEdit) (H:aA) (h1:a.refs.length < 4611686018427387904) (h2:okS a.obj):aG Tryz.prog 248 [av (aY a),av (aY b)] H (fun r H'=>r=bv (iW a b)∧H'=H):=by
 refine Pu ?_;refine Bd func248 rfl ntmps248<|Sr<|Dd (by exact bZ (id:=2) rfl rfl rfl rfl rfl)<|Dd (by exact bZ (id:=3) rfl rfl rfl rfl rfl)<|Dd aP<|Zz<|Sq ?_;refine bC (t:=5) (n:=14) (X:=decide (a.refs=b.refs)&&oF a.obj b.obj) ?_ ?_
 ·all_goals refine Dd (bB eR) ?_
  all_goals refine Dd (bL aJ)<|Dd (bB eR)<|Dd (bL aJ)<|Dd (by exact aB rfl rfl call272 rfl (SQ a.refs b.refs _ h1))<|Dm ?_
  all_goals refine Sp 11 (fun h11=>?_) fun h11=>?_
  all_goals try contradiction
  all_goals first|refine Fo<|Fo<|Fo<|Fo<|Fo ?_|refine On (bB qJ)<|On (by exact aL rfl cM sizeOf153 rfl rfl rfl rfl (by simp only [Zl,bF,bH,encStr,aY];rfl) rfl)<|On (bB qJ)<|On (by exact aL rfl cM sizeOf153 rfl rfl rfl rfl (by simp only [Zl,bF,bH,encStr,aY];rfl) rfl)<|On (by exact aB rfl rfl call273 rfl (aEV a.obj b.obj _ h2)) ?_
  all_goals refine Dd cL<|Da ?_
  all_goals(exact⟨⟨_,rfl,by(simp only [*];rfl)⟩,rfl,rfl,rfl⟩)
 refine Sq ?_;refine bC (t:=4) (n:=48) (X:=iW a b) ?_ ?_
 ·all_goals refine Dd aI ?_
  all_goals refine Dm ?_
  all_goals refine Sp 19 (fun h19=>?_) fun h19=>?_
  all_goals try contradiction
  all_goals first|refine Fo<|Fo<|Fo<|Fo<|Fo ?_|refine On (bB wG)<|On (bL isAgg3)<|On (bB wG)<|On (bL isAgg3)<|On dC ?_
  all_goals refine Dd cL<|Dm ?_
  all_goals refine Sp 26 (fun h26=>?_) fun h26=>?_
  all_goals try contradiction
  all_goals first|refine Fo<|Fo<|Fo<|Fo<|Fo<|Fo<|Fo<|Fo<|Fo<|Fo<|Fo<|Fo<|Fo<|Fo<|Fo<|Fo<|Fo<|Fo<|Fo ?_|refine On (bB kQ)<|On (bL isAgg9)<|On (bB iG)<|On (bL isAgg9)<|On (bB nP)<|On (bL isAgg9)<|On (bB kP)<|On (bL isAgg9)<|On (by exact sF rfl aGN rfl rfl)<|On (bB kQ)<|On (bL isAgg9)<|On (bB iG)<|On (bL isAgg9)<|On (bB nP)<|On (bL isAgg9)<|On (bB kP)<|On (bL isAgg9)<|On (by exact sF rfl aGN rfl rfl)<|On (by exact yK rfl rfl rfl rfl rfl eqGuardType280 (aKM a.id b.id a.other b.other a.node b.node a.key b.key)) ?_
  all_goals refine Dd cL<|Dm ?_
  all_goals refine Sp 47 (fun h47=>?_) fun h47=>?_
  all_goals try contradiction
  all_goals first|refine Fo<|Fo<|Fo<|Fo<|Fo ?_|refine On (bB lM)<|On (bL isAgg9)<|On (bB lM)<|On (bL isAgg9)<|On AJ ?_
  all_goals refine Dd cL<|Dm ?_
  all_goals refine Sp 54 (fun h54=>?_) fun h54=>?_
  all_goals try contradiction
  all_goals first|refine Fo<|Fo<|Fo<|Fo<|Fo ?_|refine On (bB hY)<|On (by exact aL rfl dQ sizeOf73 rfl rfl rfl rfl (by simp only [Zl,bF,bH,encStr,aY];rfl) rfl)<|On (bB hY)<|On (by exact aL rfl dQ sizeOf73 rfl rfl rfl rfl (by simp only [Zl,bF,bH,encStr,aY];rfl) rfl)<|On (by exact yK rfl rfl rfl rfl rfl jX (UI _ _ _ _)) ?_
  all_goals refine Dd cL<|Da ?_
  all_goals(exact⟨⟨_,rfl,by(simp only [iW, *];rfl)⟩,rfl,rfl,rfl⟩)
 exact aC<|Rt<|Qq
def atP {α:Type} (l:List α) (p:α→Bool) (k:Nat):Bool:=match l[k]? with
 | some s=>p s
 | none=>false
theorem KB {α:Type} {l:List α} {p:α→Bool} {k:Nat} {s:α} (h:l[k]?=some s):atP l p k=p s:=by rw [atP,h]
theorem KT {α:Type} (l:List α) (p:α→Bool):(List.range l.length).any (atP l p)=l.any p:=by
 rw [Bool.eq_iff_iff,List.any_eq_true,List.any_eq_true];constructor
 ·rintro⟨k,hk,h⟩;have hlt:=List.mem_range.1 hk;rw [KB (aLU hlt)] at h;exact⟨_,List.getElem_mem hlt,h⟩
 rintro⟨x,hx,h⟩;obtain ⟨k,hk⟩:=aLa.1 hx;exact⟨k,List.mem_range.2 (aLT.1 hk).1,by rw [KB hk];exact h⟩
theorem aCC (s:ByteArray) (H:aA) (hs:s.size < 4611686018427387904):aG Tryz.prog 271 [sv s] H (fun r H'=>r=bv (!bI s)∧H'=H):=by refine Pu ?_;exact Bd func271 rfl ntmps271<|Sr<|Dd aP<|Zz<|Sr<|Dd aI<|Dd (by exact aB rfl rfl mC rfl (vW s _ hs))<|Dd lI<|Dd aP<|Zz<|aC<|Rt<|Qq
theorem PD (l:List ByteArray) (H:aA) (hl:l.length < 4611686018427387904) (hs:∀ s∈l,s.size < 4611686018427387904):aG Tryz.prog 247 [.pv (aU l)] H (fun r H'=>r=bv (l.all bI)∧H'=H):=by
 refine Pu ?_;have e:l.all bI=!(List.range l.length).any (atP l (fun s=>!bI s)):=by
  rw [KT l (fun s=>!bI s),List.any_eq_not_all_not];simp
 rw [e];exact Bd func247 rfl ntmps247<|Sr<|Dd aP<|Zz<|Sr<|Dd aI<|Dd (by exact aB rfl rfl QK rfl (oT (.pv (.fn 271)) l (atP l (fun s=>!bI s)) (fun _=>[]) hl (fun k s hk=>cB.fn call271 (by rw [KB hk];exact aCC s _ (hs s (aLZ hk))))))<|Dd lI<|Dd aP<|Zz<|aC<|Rt<|Qq
def GG (e:GEdit):GEdit :=if e.op=1 then⟨e.op,sNil,sNil,sNil,0,0,sNil,sNil,[],e.obj⟩
 else if e.op=2 then⟨e.op,e.id,sNil,sNil,e.x,e.y,sNil,sNil,[],zObj⟩
 else if e.op=3 then⟨e.op,e.id,sNil,sNil,0,0,e.key,e.val,[],zObj⟩
 else if e.op=4 then⟨e.op,e.id,sNil,sNil,0,0,sNil,sNil,e.refs,zObj⟩
 else if e.op=5 then⟨e.op,e.id,sNil,sNil,0,0,sNil,sNil,[],zObj⟩
 else if e.op=6 then⟨e.op,e.id,e.other,e.node,0,0,sNil,sNil,[],zObj⟩
 else⟨e.op,e.id,e.other,sNil,0,0,sNil,sNil,[],zObj⟩
def uE (e:GEdit):Bool :=if e.op=1 then mH e.obj
 else bI e.id&&(if e.op=2 then onP e.x e.y else if e.op=3 then bI e.key&&decide ((e.val.size:Int)≤200)
  else if e.op=4 then decide ((0:Int) < (e.refs.length:Int))&&decide ((e.refs.length:Int)≤2000)&&e.refs.all bI
  else if e.op=5 then true else if e.op=6 then bI e.node&&bI e.other else bI e.other)
def fJ (e:GEdit):Bool:=(decide (1≤e.op)&&decide (e.op≤7))&&(uE e&&iW (GG e) e)
def QP (e:GEdit):Prop:=(e.id.size < 4611686018427387904∧e.other.size < 4611686018427387904∧e.node.size < 4611686018427387904∧e.key.size < 4611686018427387904)∧(e.refs.length < 4611686018427387904∧∀ s∈e.refs,s.size < 4611686018427387904)∧okO e.obj
theorem aHE {o:GObj} (h:okO o):okS o:=⟨h.2.2.1,h.2.1.1⟩
theorem MX:okS zObj:=⟨by decide,by decide⟩
theorem aEk (s:ByteArray) (H:aA) (hs:s.size < 4611686018427387904):aG Tryz.prog 247 [.pv (aU [s])] H (fun r H'=>r=bv (bI s)∧H'=H):=by
 have h:=PD [s] H (by show 1 < _;omega) (by simpa using hs)
 simpa using h
theorem aK3 (s t:ByteArray) (H:aA) (hs:s.size < 4611686018427387904) (ht:t.size < 4611686018427387904):aG Tryz.prog 247 [.pv (aU [s,t])] H (fun r H'=>r=bv (bI s&&bI t)∧H'=H):=by
 have h:=PD [s,t] H (by show 2 < _;omega) (by simpa using ⟨hs,ht⟩)
 simpa using h
theorem SS (e:GEdit) (H:aA) (he:QP e):aG Tryz.prog 209 [av (aY e)] H (fun r H'=>r=bv (fJ e)∧H'=H):=by
 refine Pu ?_;obtain ⟨⟨h1,h2,h3,h4⟩,⟨h5,h6⟩,h7⟩:=he;have hrl:(e.refs.map encStr).length=e.refs.length:=aLP _;refine Bd func209 rfl ntmps209<|Sr<|Dd (by exact bZ (id:=1) rfl rfl rfl rfl rfl)<|Dd aP<|Zz<|Sr<|Dd (bB wG)<|Dd (bL isAgg3)<|Dd (bB kQ)<|Dd (bL isAgg9)<|Dd (uS AZ)<|Dd (by exact bE (id:=3) rfl WS rfl rfl)<|Uu (jK aV)<|Zz<|Sr<|Dd (bB kQ)<|Dd (bL isAgg9)<|Dd (by exact aS ([e.id].map encStr) rfl cO rfl rfl rfl rfl rfl (by simp [encStr]))<|Dd (by exact aB rfl rfl AN rfl (aEk e.id _ h1))<|Dd aP<|Zz<|Sq<|Sr<|Dd (bB wG)<|Dd (bL isAgg3)<|Zz<|aF<|Sr<|Dd dC<|Da ?_;refine Cn ?_ ?_<;>intro hc1
 ·have ho:e.op=1:=aLL hc1;have hx:GG e=⟨e.op,sNil,sNil,sNil,0,0,sNil,sNil,[],e.obj⟩:=by rw [GG,aLO ho]
  have hk:uE e=mH e.obj:=by rw [uE,aLO ho]
  have hv:fJ e=(mH e.obj&&iW ⟨e.op,sNil,sNil,sNil,0,0,sNil,sNil,[],e.obj⟩ e):=by rw [fJ,hx,hk,ho];rfl
  refine aQ follows<|Cr [1] (fun _ h=>fh qJ h)<|Cr [1] (fun H1 hH=>by exact aL rfl cM sizeOf153 rfl ((hH _ rfl).trans rfl) rfl rfl (by simp only [Zl,bF,bH,encStr,aY,zObj];rfl) rfl)<|Cr [1] (fun _ h=>fh qJ h)<|Cr [1] (fun H1 hH=>by exact aL rfl cM sizeOf153 rfl ((hH _ rfl).trans rfl) rfl rfl (by simp only [Zl,bF,bH,encStr,aY,zObj];rfl) rfl)<|Cr [] (fun H1 hH=>by exact aB rfl rfl call239 rfl (JA e.obj _ h7))<|Cr [3] (fun _ h=>fh kQ h)<|Cp [3] (fun H1 hH=>by exact aZ rfl sizeOf9 rfl rfl rfl ((hH _ rfl).trans rfl) rfl rfl (aL2 rfl) rfl rfl)<|Cr [3] (fun _ h=>fh qJ h)<|Cp [3] (fun H1 hH=>by exact iC rfl sizeOf153 rfl rfl rfl rfl ((hH _ rfl).trans rfl) rfl rfl (aL2 rfl) rfl rfl)<|Cr [] (fun _ _=>aP) ?_;refine bJ<|Kr<|Sq ?_;refine bC (t:=2) (n:=8) (X:=mH e.obj&&iW ⟨e.op,sNil,sNil,sNil,0,0,sNil,sNil,[],e.obj⟩ e) ?_ ?_
  ·all_goals refine Dd aI ?_
   all_goals refine Dm ?_
   all_goals refine Sp 127 (fun h127=>?_) fun h127=>?_
   all_goals try contradiction
   all_goals first|refine Fo<|Fo<|Fo ?_|refine On (by exact aL rfl bT aV rfl rfl rfl rfl (by simp only [Zl,bF,bH,encStr,aY,zObj];rfl) rfl)<|On (by exact aL rfl bT aV rfl rfl rfl rfl (by simp only [Zl,bF,bH,encStr,aY,zObj];rfl) rfl)<|On (by exact aB rfl rfl tP rfl (vM ⟨e.op,sNil,sNil,sNil,0,0,sNil,sNil,[],e.obj⟩ e _ (by show 0 < _;omega) (aHE h7))) ?_
   all_goals refine Dd cL<|Da ?_
   all_goals(exact⟨⟨_,rfl,by(simp_all [mH];done)⟩,rfl,rfl,rfl⟩)
  refine aC<|Rt ?_;exact⟨by rw [hv],rfl⟩
 have ho1:¬ e.op=1:=aLM hc1;refine Sr<|Dd dC<|Da ?_;refine Cn ?_ ?_<;>intro hc2
 ·have ho:e.op=2:=aLL hc2;have hx:GG e=⟨e.op,e.id,sNil,sNil,e.x,e.y,sNil,sNil,[],zObj⟩:=by rw [GG,aLN ho1,aLO ho]
  have hk:uE e=(bI e.id&&onP e.x e.y):=by rw [uE,aLN ho1,aLO ho]
  have hb:(bI e.id&&decide (0≤min e.x e.y)&&decide (max e.x e.y < 1048576))=(bI e.id&&onP e.x e.y):=by rw [onP,Bool.and_assoc]
  have hv:fJ e=((bI e.id&&decide (0≤min e.x e.y)&&decide (max e.x e.y < 1048576))&&iW ⟨e.op,e.id,sNil,sNil,e.x,e.y,sNil,sNil,[],zObj⟩ e):=by rw [fJ,hx,hk,hb,ho];rfl
  apply rR (t:=4) (n:=25) (X:=bI e.id&&decide (0≤min e.x e.y)&&decide (max e.x e.y < 1048576))
  ·cases hg30:(bI e.id:Bool)
   ·refine aQ follows<|Cr [1] (fun _ h=>fh hY h)<|Cr [1] (fun H1 hH=>by exact aL rfl dQ sizeOf73 rfl ((hH _ rfl).trans rfl) rfl rfl (by simp only [Zl,bF,bH,encStr,aY,zObj];rfl) rfl)<|Cr [] (fun _ _=>aI)<|Cr [] (fun _ _=>aI)<|Ot<|Ot<|Ot<|Ot<|Ot<|Ot<|Ot<|Ot<|Cr [] (fun _ _=>cL)<|Cr [] (fun _ _=>aI)<|Ot<|Ot<|Ot<|Ot<|Ot<|Ot<|Ot<|Ot<|Cr [] (fun _ _=>cL)<|Cr [3] (fun _ h=>fh hY h)<|Cp [3] (fun H1 hH=>by exact iC rfl sizeOf73 rfl rfl rfl rfl ((hH _ rfl).trans rfl) rfl rfl (aL2 rfl) rfl rfl)<|Cr [] (fun _ _=>aP)<|bJ<|Kr ?_;exact⟨rfl,⟨_,rfl,by rfl⟩,rfl,rfl,rfl⟩
   cases hg40:(decide (0≤min e.x e.y):Bool)
   ·refine aQ follows<|Cr [1] (fun _ h=>fh hY h)<|Cr [1] (fun H1 hH=>by exact aL rfl dQ sizeOf73 rfl ((hH _ rfl).trans rfl) rfl rfl (by simp only [Zl,bF,bH,encStr,aY,zObj];rfl) rfl)<|Cr [] (fun _ _=>aI)<|Cr [] (fun _ _=>aI) ?_;refine aX (r:=⟨_,some [1],[]⟩) (bO rfl rfl rfl (by rfl) (fun H1 hH=>by exact(by exact aW rfl hY rfl ((hH _ rfl).trans rfl) rfl rfl))) rfl ?_;refine aX (r:=⟨_,some [1],[]⟩) (bO rfl rfl rfl (by rfl) (fun H1 hH=>by exact(by exact aW rfl tH rfl ((hH _ rfl).trans rfl) rfl rfl))) rfl ?_;refine aX (r:=⟨_,some [1],[]⟩) (bO rfl rfl rfl (by rfl) (fun H1 hH=>by exact(by exact aK rfl isAgg3 rfl ((hH _ rfl).trans rfl) rfl rfl rfl))) rfl ?_;refine aX (r:=⟨_,some [1],[]⟩) (bO rfl rfl rfl (by rfl) (fun H1 hH=>by exact(by exact aW rfl hY rfl ((hH _ rfl).trans rfl) rfl rfl))) rfl ?_;refine aX (r:=⟨_,some [1],[]⟩) (bO rfl rfl rfl (by rfl) (fun H1 hH=>by exact(by exact aW rfl tG rfl ((hH _ rfl).trans rfl) rfl rfl))) rfl ?_;refine aX (r:=⟨_,some [1],[]⟩) (bO rfl rfl rfl (by rfl) (fun H1 hH=>by exact(by exact aK rfl isAgg3 rfl ((hH _ rfl).trans rfl) rfl rfl rfl))) rfl ?_;refine aX (r:=⟨_,some [],[]⟩) (bO rfl rfl rfl (by rfl) (fun H1 hH=>by exact GZ rfl rfl rfl rfl)) rfl ?_;refine aX (r:=⟨_,some [],[]⟩) (bO rfl rfl rfl (by rfl) (fun H1 hH=>by exact CS rfl rfl rfl)) rfl ?_;refine Cr [] (fun _ _=>cL)<|Cr [] (fun _ _=>aI)<|Ot<|Ot<|Ot<|Ot<|Ot<|Ot<|Ot<|Ot<|Cr [] (fun _ _=>wU)<|Cr [3] (fun _ h=>fh hY h)<|Cp [3] (fun H1 hH=>by exact iC rfl sizeOf73 rfl rfl rfl rfl ((hH _ rfl).trans rfl) rfl rfl (aL2 rfl) rfl rfl)<|Cr [] (fun _ _=>aP)<|bJ<|Kr ?_;exact⟨rfl,⟨_,rfl,by rfl⟩,rfl,rfl,rfl⟩
   refine aQ follows<|Cr [1] (fun _ h=>fh hY h)<|Cr [1] (fun H1 hH=>by exact aL rfl dQ sizeOf73 rfl ((hH _ rfl).trans rfl) rfl rfl (by simp only [Zl,bF,bH,encStr,aY,zObj];rfl) rfl)<|Cr [] (fun _ _=>aI)<|Cr [] (fun _ _=>aI) ?_;refine aX (r:=⟨_,some [1],[]⟩) (bO rfl rfl rfl (by rfl) (fun H1 hH=>by exact(by exact aW rfl hY rfl ((hH _ rfl).trans rfl) rfl rfl))) rfl ?_;refine aX (r:=⟨_,some [1],[]⟩) (bO rfl rfl rfl (by rfl) (fun H1 hH=>by exact(by exact aW rfl tH rfl ((hH _ rfl).trans rfl) rfl rfl))) rfl ?_;refine aX (r:=⟨_,some [1],[]⟩) (bO rfl rfl rfl (by rfl) (fun H1 hH=>by exact(by exact aK rfl isAgg3 rfl ((hH _ rfl).trans rfl) rfl rfl rfl))) rfl ?_;refine aX (r:=⟨_,some [1],[]⟩) (bO rfl rfl rfl (by rfl) (fun H1 hH=>by exact(by exact aW rfl hY rfl ((hH _ rfl).trans rfl) rfl rfl))) rfl ?_;refine aX (r:=⟨_,some [1],[]⟩) (bO rfl rfl rfl (by rfl) (fun H1 hH=>by exact(by exact aW rfl tG rfl ((hH _ rfl).trans rfl) rfl rfl))) rfl ?_;refine aX (r:=⟨_,some [1],[]⟩) (bO rfl rfl rfl (by rfl) (fun H1 hH=>by exact(by exact aK rfl isAgg3 rfl ((hH _ rfl).trans rfl) rfl rfl rfl))) rfl ?_;refine aX (r:=⟨_,some [],[]⟩) (bO rfl rfl rfl (by rfl) (fun H1 hH=>by exact GZ rfl rfl rfl rfl)) rfl ?_;refine aX (r:=⟨_,some [],[]⟩) (bO rfl rfl rfl (by rfl) (fun H1 hH=>by exact CS rfl rfl rfl)) rfl ?_;refine Cr [] (fun _ _=>cL)<|Cr [] (fun _ _=>aI) ?_;refine aX (r:=⟨_,some [1],[]⟩) (bO rfl rfl rfl (by assumption) (fun H1 hH=>by exact(by exact aW rfl hY rfl ((hH _ rfl).trans rfl) rfl rfl))) rfl ?_;refine aX (r:=⟨_,some [1],[]⟩) (bO rfl rfl rfl (by assumption) (fun H1 hH=>by exact(by exact aW rfl tH rfl ((hH _ rfl).trans rfl) rfl rfl))) rfl ?_;refine aX (r:=⟨_,some [1],[]⟩) (bO rfl rfl rfl (by assumption) (fun H1 hH=>by exact(by exact aK rfl isAgg3 rfl ((hH _ rfl).trans rfl) rfl rfl rfl))) rfl ?_;refine aX (r:=⟨_,some [1],[]⟩) (bO rfl rfl rfl (by assumption) (fun H1 hH=>by exact(by exact aW rfl hY rfl ((hH _ rfl).trans rfl) rfl rfl))) rfl ?_;refine aX (r:=⟨_,some [1],[]⟩) (bO rfl rfl rfl (by assumption) (fun H1 hH=>by exact(by exact aW rfl tG rfl ((hH _ rfl).trans rfl) rfl rfl))) rfl ?_;refine aX (r:=⟨_,some [1],[]⟩) (bO rfl rfl rfl (by assumption) (fun H1 hH=>by exact(by exact aK rfl isAgg3 rfl ((hH _ rfl).trans rfl) rfl rfl rfl))) rfl ?_;refine aX (r:=⟨_,some [],[]⟩) (bO rfl rfl rfl (by assumption) (fun H1 hH=>by exact aEg rfl rfl rfl rfl)) rfl ?_;refine aX (r:=⟨_,some [],[]⟩) (bO rfl rfl rfl (by assumption) (fun H1 hH=>by exact G3 rfl rfl rfl)) rfl ?_;refine Cr [] (fun _ _=>KU)<|Cr [3] (fun _ h=>fh hY h)<|Cp [3] (fun H1 hH=>by exact iC rfl sizeOf73 rfl rfl rfl rfl ((hH _ rfl).trans rfl) rfl rfl (aL2 rfl) rfl rfl)<|Cr [] (fun _ _=>aP)<|bJ<|Kr ?_;exact⟨rfl,⟨_,rfl,by rfl⟩,rfl,rfl,rfl⟩
  refine Sq ?_;refine bC (t:=2) (n:=8) (X:=(bI e.id&&decide (0≤min e.x e.y)&&decide (max e.x e.y < 1048576))&&iW ⟨e.op,e.id,sNil,sNil,e.x,e.y,sNil,sNil,[],zObj⟩ e) ?_ ?_
  ·all_goals refine Dd aI ?_
   all_goals refine Dm ?_
   all_goals refine Sp 127 (fun h127=>?_) fun h127=>?_
   all_goals try contradiction
   all_goals first|refine Fo<|Fo<|Fo ?_|refine On (by exact aL rfl bT aV rfl rfl rfl rfl (by simp only [Zl,bF,bH,encStr,aY,zObj];rfl) rfl)<|On (by exact aL rfl bT aV rfl rfl rfl rfl (by simp only [Zl,bF,bH,encStr,aY,zObj];rfl) rfl)<|On (by exact aB rfl rfl tP rfl (vM ⟨e.op,e.id,sNil,sNil,e.x,e.y,sNil,sNil,[],zObj⟩ e _ (by(show 0 < _;omega)) MX)) ?_
   all_goals refine Dd cL<|Da ?_
   all_goals(exact⟨⟨_,rfl,by(rw [h127];rfl)⟩,rfl,rfl,rfl⟩)
  refine aC<|Rt ?_;exact⟨by rw [hv],rfl⟩
 have ho2:¬ e.op=2:=aLM hc2;refine Sr<|Dd dC<|Da ?_;refine Cn ?_ ?_<;>intro hc3
 ·have ho:e.op=3:=aLL hc3;have hx:GG e=⟨e.op,e.id,sNil,sNil,0,0,e.key,e.val,[],zObj⟩:=by rw [GG,aLN ho1,aLN ho2,aLO ho]
  have hk:uE e=(bI e.id&&(bI e.key&&decide ((e.val.size:Int)≤200))):=by rw [uE,aLN ho1,aLN ho2,aLO ho]
  have hb:(bI e.id&&bI e.key&&decide ((e.val.size:Int)≤200))=(bI e.id&&(bI e.key&&decide ((e.val.size:Int)≤200))):=by rw [Bool.and_assoc]
  have hv:fJ e=((bI e.id&&bI e.key&&decide ((e.val.size:Int)≤200))&&iW ⟨e.op,e.id,sNil,sNil,0,0,e.key,e.val,[],zObj⟩ e):=by rw [fJ,hx,hk,hb,ho];rfl
  apply rR (t:=4) (n:=20) (X:=bI e.id&&bI e.key&&decide ((e.val.size:Int)≤200))
  ·cases hg58:(bI e.id:Bool)
   ·refine aQ follows<|Cr [1] (fun _ h=>fh kP h)<|Cr [1] (fun _ h=>lh isAgg9 h)<|Cr [1] (fun _ h=>fh lM h)<|Cr [1] (fun _ h=>lh isAgg9 h)<|Cr [] (fun _ _=>aI)<|Cr [] (fun _ _=>aI)<|Ot<|Ot<|Ot<|Ot<|Cr [] (fun _ _=>cL)<|Cr [] (fun _ _=>aI)<|Ot<|Ot<|Ot<|Ot<|Cr [] (fun _ _=>cL)<|Cr [3] (fun _ h=>fh kP h)<|Cp [3] (fun H1 hH=>by exact aZ rfl sizeOf9 rfl rfl rfl ((hH _ rfl).trans rfl) rfl rfl (aL2 rfl) rfl rfl)<|Cr [3] (fun _ h=>fh lM h)<|Cp [3] (fun H1 hH=>by exact aZ rfl sizeOf9 rfl rfl rfl ((hH _ rfl).trans rfl) rfl rfl (aL2 rfl) rfl rfl)<|Cr [] (fun _ _=>aP)<|bJ<|Kr ?_;exact⟨rfl,⟨_,rfl,by rfl⟩,rfl,rfl,rfl⟩
   cases hg64:(bI e.key:Bool)
   ·refine aQ follows<|Cr [1] (fun _ h=>fh kP h)<|Cr [1] (fun _ h=>lh isAgg9 h)<|Cr [1] (fun _ h=>fh lM h)<|Cr [1] (fun _ h=>lh isAgg9 h)<|Cr [] (fun _ _=>aI)<|Cr [] (fun _ _=>aI) ?_;refine aX (r:=⟨_,some [1],[]⟩) (bO rfl rfl rfl (by rfl) (fun H1 hH=>by exact(by exact aW rfl kP rfl ((hH _ rfl).trans rfl) rfl rfl))) rfl ?_;refine aX (r:=⟨_,some [1],[]⟩) (bO rfl rfl rfl (by rfl) (fun H1 hH=>by exact(by exact aK rfl isAgg9 rfl ((hH _ rfl).trans rfl) rfl rfl rfl))) rfl ?_;refine aX (r:=⟨_,some [],[]⟩) (bO rfl rfl rfl (by rfl) (fun H1 hH=>by exact(by exact aS ([e.key].map encStr) rfl cO rfl rfl rfl rfl rfl (by simp [encStr])))) rfl ?_;refine aX (r:=⟨_,some [],[]⟩) (bO rfl rfl rfl (by rfl) (fun H1 hH=>by exact aB rfl rfl AN rfl (aEk e.key _ h4))) rfl ?_;refine Cr [] (fun _ _=>cL)<|Cr [] (fun _ _=>aI)<|Ot<|Ot<|Ot<|Ot<|Cr [] (fun _ _=>wU)<|Cr [3] (fun _ h=>fh kP h)<|Cp [3] (fun H1 hH=>by exact aZ rfl sizeOf9 rfl rfl rfl ((hH _ rfl).trans rfl) rfl rfl (aL2 rfl) rfl rfl)<|Cr [3] (fun _ h=>fh lM h)<|Cp [3] (fun H1 hH=>by exact aZ rfl sizeOf9 rfl rfl rfl ((hH _ rfl).trans rfl) rfl rfl (aL2 rfl) rfl rfl)<|Cr [] (fun _ _=>aP)<|bJ<|Kr ?_;exact⟨rfl,⟨_,rfl,by rfl⟩,rfl,rfl,rfl⟩
   refine aQ follows<|Cr [1] (fun _ h=>fh kP h)<|Cr [1] (fun _ h=>lh isAgg9 h)<|Cr [1] (fun _ h=>fh lM h)<|Cr [1] (fun _ h=>lh isAgg9 h)<|Cr [] (fun _ _=>aI)<|Cr [] (fun _ _=>aI) ?_;refine aX (r:=⟨_,some [1],[]⟩) (bO rfl rfl rfl (by rfl) (fun H1 hH=>by exact(by exact aW rfl kP rfl ((hH _ rfl).trans rfl) rfl rfl))) rfl ?_;refine aX (r:=⟨_,some [1],[]⟩) (bO rfl rfl rfl (by rfl) (fun H1 hH=>by exact(by exact aK rfl isAgg9 rfl ((hH _ rfl).trans rfl) rfl rfl rfl))) rfl ?_;refine aX (r:=⟨_,some [],[]⟩) (bO rfl rfl rfl (by rfl) (fun H1 hH=>by exact(by exact aS ([e.key].map encStr) rfl cO rfl rfl rfl rfl rfl (by simp [encStr])))) rfl ?_;refine aX (r:=⟨_,some [],[]⟩) (bO rfl rfl rfl (by rfl) (fun H1 hH=>by exact aB rfl rfl AN rfl (aEk e.key _ h4))) rfl ?_;refine Cr [] (fun _ _=>cL)<|Cr [] (fun _ _=>aI) ?_;refine aX (r:=⟨_,some [1],[]⟩) (bO rfl rfl rfl (by assumption) (fun H1 hH=>by exact(by exact aW rfl lM rfl ((hH _ rfl).trans rfl) rfl rfl))) rfl ?_;refine aX (r:=⟨_,some [1],[]⟩) (bO rfl rfl rfl (by assumption) (fun H1 hH=>by exact(by exact aK rfl isAgg9 rfl ((hH _ rfl).trans rfl) rfl rfl rfl))) rfl ?_;refine aX (r:=⟨_,some [],[]⟩) (bO rfl rfl rfl (by assumption) (fun H1 hH=>by exact FV rfl underlying9 rfl)) rfl ?_;refine aX (r:=⟨_,some [],[]⟩) (bO rfl rfl rfl (by assumption) (fun H1 hH=>by exact G4 rfl rfl rfl)) rfl ?_;refine Cr [] (fun _ _=>KU)<|Cr [3] (fun _ h=>fh kP h)<|Cp [3] (fun H1 hH=>by exact aZ rfl sizeOf9 rfl rfl rfl ((hH _ rfl).trans rfl) rfl rfl (aL2 rfl) rfl rfl)<|Cr [3] (fun _ h=>fh lM h)<|Cp [3] (fun H1 hH=>by exact aZ rfl sizeOf9 rfl rfl rfl ((hH _ rfl).trans rfl) rfl rfl (aL2 rfl) rfl rfl)<|Cr [] (fun _ _=>aP)<|bJ<|Kr ?_;exact⟨rfl,⟨_,rfl,by rfl⟩,rfl,rfl,rfl⟩
  refine Sq ?_;refine bC (t:=2) (n:=8) (X:=(bI e.id&&bI e.key&&decide ((e.val.size:Int)≤200))&&iW ⟨e.op,e.id,sNil,sNil,0,0,e.key,e.val,[],zObj⟩ e) ?_ ?_
  ·all_goals refine Dd aI ?_
   all_goals refine Dm ?_
   all_goals refine Sp 127 (fun h127=>?_) fun h127=>?_
   all_goals try contradiction
   all_goals first|refine Fo<|Fo<|Fo ?_|refine On (by exact aL rfl bT aV rfl rfl rfl rfl (by simp only [Zl,bF,bH,encStr,aY,zObj];rfl) rfl)<|On (by exact aL rfl bT aV rfl rfl rfl rfl (by simp only [Zl,bF,bH,encStr,aY,zObj];rfl) rfl)<|On (by exact aB rfl rfl tP rfl (vM ⟨e.op,e.id,sNil,sNil,0,0,e.key,e.val,[],zObj⟩ e _ (by(show 0 < _;omega)) MX)) ?_
   all_goals refine Dd cL<|Da ?_
   all_goals(exact⟨⟨_,rfl,by(rw [h127];rfl)⟩,rfl,rfl,rfl⟩)
  refine aC<|Rt ?_;exact⟨by rw [hv],rfl⟩
 have ho3:¬ e.op=3:=aLM hc3;refine Sr<|Dd dC<|Da ?_;refine Cn ?_ ?_<;>intro hc4
 ·have ho:e.op=4:=aLL hc4;have hx:GG e=⟨e.op,e.id,sNil,sNil,0,0,sNil,sNil,e.refs,zObj⟩:=by rw [GG,aLN ho1,aLN ho2,aLN ho3,aLO ho]
  have hk:uE e=(bI e.id&&(decide ((0:Int) < (e.refs.length:Int))&&decide ((e.refs.length:Int)≤2000)&&e.refs.all bI)):=by rw [uE,aLN ho1,aLN ho2,aLN ho3,aLO ho]
  have hb:(bI e.id&&decide ((0:Int) < ((e.refs.map encStr).length:Int))&&decide (((e.refs.map encStr).length:Int)≤2000)&&e.refs.all bI)=(bI e.id&&(decide ((0:Int) < (e.refs.length:Int))&&decide ((e.refs.length:Int)≤2000)&&e.refs.all bI)):=by rw [hrl];simp only [Bool.and_assoc]
  have hv:fJ e=((bI e.id&&decide ((0:Int) < ((e.refs.map encStr).length:Int))&&decide (((e.refs.map encStr).length:Int)≤2000)&&e.refs.all bI)&&iW ⟨e.op,e.id,sNil,sNil,0,0,sNil,sNil,e.refs,zObj⟩ e):=by rw [fJ,hx,hk,hb,ho];rfl
  apply rR (t:=4) (n:=22) (X:=bI e.id&&decide ((0:Int) < ((e.refs.map encStr).length:Int))&&decide (((e.refs.map encStr).length:Int)≤2000)&&e.refs.all bI)
  ·cases hg77:(bI e.id:Bool)
   ·refine aQ follows<|Cr [1] (fun _ h=>fh eR h)<|Cr [1] (fun _ h=>lh aJ h)<|Cr [] (fun _ _=>aI)<|Cr [] (fun _ _=>aI)<|Ot<|Ot<|Ot<|Ot<|Cr [] (fun _ _=>cL)<|Cr [] (fun _ _=>aI)<|Ot<|Ot<|Ot<|Ot<|Cr [] (fun _ _=>cL)<|Cr [] (fun _ _=>aI)<|Ot<|Ot<|Ot<|Cr [] (fun _ _=>cL)<|Cr [3] (fun _ h=>fh eR h)<|Cp [3] (fun H1 hH=>by exact aZ rfl sizeOf22 rfl rfl rfl ((hH _ rfl).trans rfl) rfl rfl (aL2 rfl) rfl rfl)<|Cr [] (fun _ _=>aP)<|bJ<|Kr ?_;exact⟨rfl,⟨_,rfl,by rfl⟩,rfl,rfl,rfl⟩
   cases hg83:(decide ((0:Int) < ((e.refs.map encStr).length:Int)):Bool)
   ·refine aQ follows<|Cr [1] (fun _ h=>fh eR h)<|Cr [1] (fun _ h=>lh aJ h)<|Cr [] (fun _ _=>aI)<|Cr [] (fun _ _=>aI) ?_;refine aX (r:=⟨_,some [1],[]⟩) (bO rfl rfl rfl (by rfl) (fun H1 hH=>by exact(by exact aW rfl eR rfl ((hH _ rfl).trans rfl) rfl rfl))) rfl ?_;refine aX (r:=⟨_,some [1],[]⟩) (bO rfl rfl rfl (by rfl) (fun H1 hH=>by exact(by exact aK rfl aJ rfl ((hH _ rfl).trans rfl) rfl rfl rfl))) rfl ?_;refine aX (r:=⟨_,some [],[]⟩) (bO rfl rfl rfl (by rfl) (fun H1 hH=>by exact(by exact jS rfl aD rfl))) rfl ?_;refine aX (r:=⟨_,some [],[]⟩) (bO rfl rfl rfl (by rfl) (fun H1 hH=>by exact CR rfl rfl rfl)) rfl ?_;refine Cr [] (fun _ _=>cL)<|Cr [] (fun _ _=>aI)<|Ot<|Ot<|Ot<|Ot<|Cr [] (fun _ _=>wU)<|Cr [] (fun _ _=>aI)<|Ot<|Ot<|Ot<|Cr [] (fun _ _=>cL)<|Cr [3] (fun _ h=>fh eR h)<|Cp [3] (fun H1 hH=>by exact aZ rfl sizeOf22 rfl rfl rfl ((hH _ rfl).trans rfl) rfl rfl (aL2 rfl) rfl rfl)<|Cr [] (fun _ _=>aP)<|bJ<|Kr ?_;exact⟨rfl,⟨_,rfl,by rfl⟩,rfl,rfl,rfl⟩
   cases hg89:(decide (((e.refs.map encStr).length:Int)≤2000):Bool)
   ·refine aQ follows<|Cr [1] (fun _ h=>fh eR h)<|Cr [1] (fun _ h=>lh aJ h)<|Cr [] (fun _ _=>aI)<|Cr [] (fun _ _=>aI) ?_;refine aX (r:=⟨_,some [1],[]⟩) (bO rfl rfl rfl (by rfl) (fun H1 hH=>by exact(by exact aW rfl eR rfl ((hH _ rfl).trans rfl) rfl rfl))) rfl ?_;refine aX (r:=⟨_,some [1],[]⟩) (bO rfl rfl rfl (by rfl) (fun H1 hH=>by exact(by exact aK rfl aJ rfl ((hH _ rfl).trans rfl) rfl rfl rfl))) rfl ?_;refine aX (r:=⟨_,some [],[]⟩) (bO rfl rfl rfl (by rfl) (fun H1 hH=>by exact(by exact jS rfl aD rfl))) rfl ?_;refine aX (r:=⟨_,some [],[]⟩) (bO rfl rfl rfl (by rfl) (fun H1 hH=>by exact CR rfl rfl rfl)) rfl ?_;refine Cr [] (fun _ _=>cL)<|Cr [] (fun _ _=>aI) ?_;refine aX (r:=⟨_,some [1],[]⟩) (bO rfl rfl rfl (by assumption) (fun H1 hH=>by exact(by exact aW rfl eR rfl ((hH _ rfl).trans rfl) rfl rfl))) rfl ?_;refine aX (r:=⟨_,some [1],[]⟩) (bO rfl rfl rfl (by assumption) (fun H1 hH=>by exact(by exact aK rfl aJ rfl ((hH _ rfl).trans rfl) rfl rfl rfl))) rfl ?_;refine aX (r:=⟨_,some [],[]⟩) (bO rfl rfl rfl (by assumption) (fun H1 hH=>by exact(by exact jS rfl aD rfl))) rfl ?_;refine aX (r:=⟨_,some [],[]⟩) (bO rfl rfl rfl (by assumption) (fun H1 hH=>by exact G4 rfl rfl rfl)) rfl ?_;refine Cr [] (fun _ _=>KU)<|Cr [] (fun _ _=>aI)<|Ot<|Ot<|Ot<|Cr [] (fun _ _=>wU)<|Cr [3] (fun _ h=>fh eR h)<|Cp [3] (fun H1 hH=>by exact aZ rfl sizeOf22 rfl rfl rfl ((hH _ rfl).trans rfl) rfl rfl (aL2 rfl) rfl rfl)<|Cr [] (fun _ _=>aP)<|bJ<|Kr ?_;exact⟨rfl,⟨_,rfl,by rfl⟩,rfl,rfl,rfl⟩
   refine aQ follows<|Cr [1] (fun _ h=>fh eR h)<|Cr [1] (fun _ h=>lh aJ h)<|Cr [] (fun _ _=>aI)<|Cr [] (fun _ _=>aI) ?_;refine aX (r:=⟨_,some [1],[]⟩) (bO rfl rfl rfl (by rfl) (fun H1 hH=>by exact(by exact aW rfl eR rfl ((hH _ rfl).trans rfl) rfl rfl))) rfl ?_;refine aX (r:=⟨_,some [1],[]⟩) (bO rfl rfl rfl (by rfl) (fun H1 hH=>by exact(by exact aK rfl aJ rfl ((hH _ rfl).trans rfl) rfl rfl rfl))) rfl ?_;refine aX (r:=⟨_,some [],[]⟩) (bO rfl rfl rfl (by rfl) (fun H1 hH=>by exact(by exact jS rfl aD rfl))) rfl ?_;refine aX (r:=⟨_,some [],[]⟩) (bO rfl rfl rfl (by rfl) (fun H1 hH=>by exact CR rfl rfl rfl)) rfl ?_;refine Cr [] (fun _ _=>cL)<|Cr [] (fun _ _=>aI) ?_;refine aX (r:=⟨_,some [1],[]⟩) (bO rfl rfl rfl (by assumption) (fun H1 hH=>by exact(by exact aW rfl eR rfl ((hH _ rfl).trans rfl) rfl rfl))) rfl ?_;refine aX (r:=⟨_,some [1],[]⟩) (bO rfl rfl rfl (by assumption) (fun H1 hH=>by exact(by exact aK rfl aJ rfl ((hH _ rfl).trans rfl) rfl rfl rfl))) rfl ?_;refine aX (r:=⟨_,some [],[]⟩) (bO rfl rfl rfl (by assumption) (fun H1 hH=>by exact(by exact jS rfl aD rfl))) rfl ?_;refine aX (r:=⟨_,some [],[]⟩) (bO rfl rfl rfl (by assumption) (fun H1 hH=>by exact G4 rfl rfl rfl)) rfl ?_;refine Cr [] (fun _ _=>KU)<|Cr [] (fun _ _=>aI) ?_;refine aX (r:=⟨_,some [1],[]⟩) (bO rfl rfl rfl (by assumption) (fun H1 hH=>by exact(by exact aW rfl eR rfl ((hH _ rfl).trans rfl) rfl rfl))) rfl ?_;refine aX (r:=⟨_,some [1],[]⟩) (bO rfl rfl rfl (by assumption) (fun H1 hH=>by exact(by exact aK rfl aJ rfl ((hH _ rfl).trans rfl) rfl rfl rfl))) rfl ?_;refine aX (r:=⟨_,some [],[]⟩) (bO rfl rfl rfl (by assumption) (fun H1 hH=>by exact aB rfl rfl AN rfl (PD e.refs _ h5 h6))) rfl ?_;refine Cr [] (fun _ _=>KU)<|Cr [3] (fun _ h=>fh eR h)<|Cp [3] (fun H1 hH=>by exact aZ rfl sizeOf22 rfl rfl rfl ((hH _ rfl).trans rfl) rfl rfl (aL2 rfl) rfl rfl)<|Cr [] (fun _ _=>aP)<|bJ<|Kr ?_;exact⟨rfl,⟨_,rfl,by rfl⟩,rfl,rfl,rfl⟩
  refine Sq ?_;refine bC (t:=2) (n:=8) (X:=(bI e.id&&decide ((0:Int) < ((e.refs.map encStr).length:Int))&&decide (((e.refs.map encStr).length:Int)≤2000)&&e.refs.all bI)&&iW ⟨e.op,e.id,sNil,sNil,0,0,sNil,sNil,e.refs,zObj⟩ e) ?_ ?_
  ·all_goals refine Dd aI ?_
   all_goals refine Dm ?_
   all_goals refine Sp 127 (fun h127=>?_) fun h127=>?_
   all_goals try contradiction
   all_goals first|refine Fo<|Fo<|Fo ?_|refine On (by exact aL rfl bT aV rfl rfl rfl rfl (by simp only [Zl,bF,bH,encStr,aY,zObj];rfl) rfl)<|On (by exact aL rfl bT aV rfl rfl rfl rfl (by simp only [Zl,bF,bH,encStr,aY,zObj];rfl) rfl)<|On (by exact aB rfl rfl tP rfl (vM ⟨e.op,e.id,sNil,sNil,0,0,sNil,sNil,e.refs,zObj⟩ e _ (by exact h5) MX)) ?_
   all_goals refine Dd cL<|Da ?_
   all_goals(exact⟨⟨_,rfl,by(rw [h127];rfl)⟩,rfl,rfl,rfl⟩)
  refine aC<|Rt ?_;exact⟨by rw [hv],rfl⟩
 have ho4:¬ e.op=4:=aLM hc4;refine Sr<|Dd dC<|Da ?_;refine Cn ?_ ?_<;>intro hc5
 ·have ho:e.op=5:=aLL hc5;have hx:GG e=⟨e.op,e.id,sNil,sNil,0,0,sNil,sNil,[],zObj⟩:=by rw [GG,aLN ho1,aLN ho2,aLN ho3,aLN ho4,aLO ho]
  have hk:uE e=(bI e.id):=by rw [uE,aLN ho1,aLN ho2,aLN ho3,aLN ho4,aLO ho];simp
  have hv:fJ e=((bI e.id)&&iW ⟨e.op,e.id,sNil,sNil,0,0,sNil,sNil,[],zObj⟩ e):=by rw [fJ,hx,hk,ho];rfl
  refine aE<|Sq ?_;refine bC (t:=2) (n:=8) (X:=(bI e.id)&&iW ⟨e.op,e.id,sNil,sNil,0,0,sNil,sNil,[],zObj⟩ e) ?_ ?_
  ·all_goals refine Dd aI ?_
   all_goals refine Dm ?_
   all_goals refine Sp 127 (fun h127=>?_) fun h127=>?_
   all_goals try contradiction
   all_goals first|refine Fo<|Fo<|Fo ?_|refine On (by exact aL rfl bT aV rfl rfl rfl rfl (by simp only [Zl,bF,bH,encStr,aY,zObj];rfl) rfl)<|On (by exact aL rfl bT aV rfl rfl rfl rfl (by simp only [Zl,bF,bH,encStr,aY,zObj];rfl) rfl)<|On (by exact aB rfl rfl tP rfl (vM ⟨e.op,e.id,sNil,sNil,0,0,sNil,sNil,[],zObj⟩ e _ (by(show 0 < _;omega)) MX)) ?_
   all_goals refine Dd cL<|Da ?_
   all_goals(exact⟨⟨_,rfl,by(rw [h127];rfl)⟩,rfl,rfl,rfl⟩)
  refine aC<|Rt ?_;exact⟨by rw [hv],rfl⟩
 have ho5:¬ e.op=5:=aLM hc5;refine Sr<|Dd dC<|Da ?_;refine Cn ?_ ?_<;>intro hc6
 ·have ho:e.op=6:=aLL hc6;have hx:GG e=⟨e.op,e.id,e.other,e.node,0,0,sNil,sNil,[],zObj⟩:=by rw [GG,aLN ho1,aLN ho2,aLN ho3,aLN ho4,aLN ho5,aLO ho]
  have hk:uE e=(bI e.id&&(bI e.node&&bI e.other)):=by rw [uE,aLN ho1,aLN ho2,aLN ho3,aLN ho4,aLN ho5,aLO ho]
  have hb:(bI e.id&&(bI e.node&&bI e.other))=(bI e.id&&(bI e.node&&bI e.other)):=by rfl
  have hv:fJ e=((bI e.id&&(bI e.node&&bI e.other))&&iW ⟨e.op,e.id,e.other,e.node,0,0,sNil,sNil,[],zObj⟩ e):=by rw [fJ,hx,hk,hb,ho];rfl
  apply rR (t:=4) (n:=16) (X:=bI e.id&&(bI e.node&&bI e.other))
  ·cases hg104:(bI e.id:Bool)
   ·refine aQ follows<|Cr [1] (fun _ h=>fh nP h)<|Cr [1] (fun _ h=>lh isAgg9 h)<|Cr [1] (fun _ h=>fh iG h)<|Cr [1] (fun _ h=>lh isAgg9 h)<|Cr [] (fun _ _=>aI)<|Cr [] (fun _ _=>aI)<|Ot<|Ot<|Ot<|Ot<|Ot<|Ot<|Cr [] (fun _ _=>cL)<|Cr [3] (fun _ h=>fh nP h)<|Cp [3] (fun H1 hH=>by exact aZ rfl sizeOf9 rfl rfl rfl ((hH _ rfl).trans rfl) rfl rfl (aL2 rfl) rfl rfl)<|Cr [3] (fun _ h=>fh iG h)<|Cp [3] (fun H1 hH=>by exact aZ rfl sizeOf9 rfl rfl rfl ((hH _ rfl).trans rfl) rfl rfl (aL2 rfl) rfl rfl)<|Cr [] (fun _ _=>aP)<|bJ<|Kr ?_;exact⟨rfl,⟨_,rfl,by rfl⟩,rfl,rfl,rfl⟩
   refine aQ follows<|Cr [1] (fun _ h=>fh nP h)<|Cr [1] (fun _ h=>lh isAgg9 h)<|Cr [1] (fun _ h=>fh iG h)<|Cr [1] (fun _ h=>lh isAgg9 h)<|Cr [] (fun _ _=>aI)<|Cr [] (fun _ _=>aI) ?_;refine aX (r:=⟨_,some [1],[]⟩) (bO rfl rfl rfl (by rfl) (fun H1 hH=>by exact(by exact aW rfl nP rfl ((hH _ rfl).trans rfl) rfl rfl))) rfl ?_;refine aX (r:=⟨_,some [1],[]⟩) (bO rfl rfl rfl (by rfl) (fun H1 hH=>by exact(by exact aK rfl isAgg9 rfl ((hH _ rfl).trans rfl) rfl rfl rfl))) rfl ?_;refine aX (r:=⟨_,some [1],[]⟩) (bO rfl rfl rfl (by rfl) (fun H1 hH=>by exact(by exact aW rfl iG rfl ((hH _ rfl).trans rfl) rfl rfl))) rfl ?_;refine aX (r:=⟨_,some [1],[]⟩) (bO rfl rfl rfl (by rfl) (fun H1 hH=>by exact(by exact aK rfl isAgg9 rfl ((hH _ rfl).trans rfl) rfl rfl rfl))) rfl ?_;refine aX (r:=⟨_,some [],[]⟩) (bO rfl rfl rfl (by rfl) (fun H1 hH=>by exact(by exact aS ([e.node,e.other].map encStr) rfl cO rfl rfl rfl rfl rfl (by simp [encStr])))) rfl ?_;refine aX (r:=⟨_,some [],[]⟩) (bO rfl rfl rfl (by rfl) (fun H1 hH=>by exact aB rfl rfl AN rfl (aK3 e.node e.other _ h3 h2))) rfl ?_;refine Cr [] (fun _ _=>cL)<|Cr [3] (fun _ h=>fh nP h)<|Cp [3] (fun H1 hH=>by exact aZ rfl sizeOf9 rfl rfl rfl ((hH _ rfl).trans rfl) rfl rfl (aL2 rfl) rfl rfl)<|Cr [3] (fun _ h=>fh iG h)<|Cp [3] (fun H1 hH=>by exact aZ rfl sizeOf9 rfl rfl rfl ((hH _ rfl).trans rfl) rfl rfl (aL2 rfl) rfl rfl)<|Cr [] (fun _ _=>aP)<|bJ<|Kr ?_;exact⟨rfl,⟨_,rfl,by rfl⟩,rfl,rfl,rfl⟩
  refine Sq ?_;refine bC (t:=2) (n:=8) (X:=(bI e.id&&(bI e.node&&bI e.other))&&iW ⟨e.op,e.id,e.other,e.node,0,0,sNil,sNil,[],zObj⟩ e) ?_ ?_
  ·all_goals refine Dd aI ?_
   all_goals refine Dm ?_
   all_goals refine Sp 127 (fun h127=>?_) fun h127=>?_
   all_goals try contradiction
   all_goals first|refine Fo<|Fo<|Fo ?_|refine On (by exact aL rfl bT aV rfl rfl rfl rfl (by simp only [Zl,bF,bH,encStr,aY,zObj];rfl) rfl)<|On (by exact aL rfl bT aV rfl rfl rfl rfl (by simp only [Zl,bF,bH,encStr,aY,zObj];rfl) rfl)<|On (by exact aB rfl rfl tP rfl (vM ⟨e.op,e.id,e.other,e.node,0,0,sNil,sNil,[],zObj⟩ e _ (by(show 0 < _;omega)) MX)) ?_
   all_goals refine Dd cL<|Da ?_
   all_goals(exact⟨⟨_,rfl,by(rw [h127];rfl)⟩,rfl,rfl,rfl⟩)
  refine aC<|Rt ?_;exact⟨by rw [hv],rfl⟩
 have ho6:¬ e.op=6:=aLM hc6;refine Sr<|Dd dC<|Da ?_;refine Cn ?_ ?_<;>intro hc7
 ·have ho:e.op=7:=aLL hc7;have hx:GG e=⟨e.op,e.id,e.other,sNil,0,0,sNil,sNil,[],zObj⟩:=by rw [GG,aLN ho1,aLN ho2,aLN ho3,aLN ho4,aLN ho5,aLN ho6]
  have hk:uE e=(bI e.id&&bI e.other):=by rw [uE,aLN ho1,aLN ho2,aLN ho3,aLN ho4,aLN ho5,aLN ho6]
  have hb:(bI e.id&&bI e.other)=(bI e.id&&bI e.other):=by rfl
  have hv:fJ e=((bI e.id&&bI e.other)&&iW ⟨e.op,e.id,e.other,sNil,0,0,sNil,sNil,[],zObj⟩ e):=by rw [fJ,hx,hk,hb,ho];rfl
  apply rR (t:=4) (n:=11) (X:=bI e.id&&bI e.other)
  ·cases hg119:(bI e.id:Bool)
   ·refine aQ follows<|Cr [1] (fun _ h=>fh iG h)<|Cr [1] (fun _ h=>lh isAgg9 h)<|Cr [] (fun _ _=>aI)<|Cr [] (fun _ _=>aI)<|Ot<|Ot<|Ot<|Ot<|Cr [] (fun _ _=>cL)<|Cr [3] (fun _ h=>fh iG h)<|Cp [3] (fun H1 hH=>by exact aZ rfl sizeOf9 rfl rfl rfl ((hH _ rfl).trans rfl) rfl rfl (aL2 rfl) rfl rfl)<|Cr [] (fun _ _=>aP)<|bJ<|Kr ?_;exact⟨rfl,⟨_,rfl,by rfl⟩,rfl,rfl,rfl⟩
   refine aQ follows<|Cr [1] (fun _ h=>fh iG h)<|Cr [1] (fun _ h=>lh isAgg9 h)<|Cr [] (fun _ _=>aI)<|Cr [] (fun _ _=>aI) ?_;refine aX (r:=⟨_,some [1],[]⟩) (bO rfl rfl rfl (by rfl) (fun H1 hH=>by exact(by exact aW rfl iG rfl ((hH _ rfl).trans rfl) rfl rfl))) rfl ?_;refine aX (r:=⟨_,some [1],[]⟩) (bO rfl rfl rfl (by rfl) (fun H1 hH=>by exact(by exact aK rfl isAgg9 rfl ((hH _ rfl).trans rfl) rfl rfl rfl))) rfl ?_;refine aX (r:=⟨_,some [],[]⟩) (bO rfl rfl rfl (by rfl) (fun H1 hH=>by exact(by exact aS ([e.other].map encStr) rfl cO rfl rfl rfl rfl rfl (by simp [encStr])))) rfl ?_;refine aX (r:=⟨_,some [],[]⟩) (bO rfl rfl rfl (by rfl) (fun H1 hH=>by exact aB rfl rfl AN rfl (aEk e.other _ h2))) rfl ?_;refine Cr [] (fun _ _=>cL)<|Cr [3] (fun _ h=>fh iG h)<|Cp [3] (fun H1 hH=>by exact aZ rfl sizeOf9 rfl rfl rfl ((hH _ rfl).trans rfl) rfl rfl (aL2 rfl) rfl rfl)<|Cr [] (fun _ _=>aP)<|bJ<|Kr ?_;exact⟨rfl,⟨_,rfl,by rfl⟩,rfl,rfl,rfl⟩
  refine Sq ?_;refine bC (t:=2) (n:=8) (X:=(bI e.id&&bI e.other)&&iW ⟨e.op,e.id,e.other,sNil,0,0,sNil,sNil,[],zObj⟩ e) ?_ ?_
  ·all_goals refine Dd aI ?_
   all_goals refine Dm ?_
   all_goals refine Sp 127 (fun h127=>?_) fun h127=>?_
   all_goals try contradiction
   all_goals first|refine Fo<|Fo<|Fo ?_|refine On (by exact aL rfl bT aV rfl rfl rfl rfl (by simp only [Zl,bF,bH,encStr,aY,zObj];rfl) rfl)<|On (by exact aL rfl bT aV rfl rfl rfl rfl (by simp only [Zl,bF,bH,encStr,aY,zObj];rfl) rfl)<|On (by exact aB rfl rfl tP rfl (vM ⟨e.op,e.id,e.other,sNil,0,0,sNil,sNil,[],zObj⟩ e _ (by(show 0 < _;omega)) MX)) ?_
   all_goals refine Dd cL<|Da ?_
   all_goals(exact⟨⟨_,rfl,by(rw [h127];rfl)⟩,rfl,rfl,rfl⟩)
  refine aC<|Rt ?_;exact⟨by rw [hv],rfl⟩
 have ho7:¬ e.op=7:=aLM hc7;refine Sr<|Dd aP<|Zz<|aC<|Rt ?_;refine⟨?_,rfl⟩;have:fJ e=false:=by
  rw [fJ,Bool.and_eq_false_iff];left;rw [Bool.and_eq_false_iff,aLX,aLX];omega
 rw [this]
theorem J5 (e:GEdit) (H:aA) (he:QP e):aG Tryz.prog 208 [av (aY e)] H (fun r H'=>r=bv (!fJ e)∧H'=H):=by refine Pu ?_;exact Bd func208 rfl ntmps208<|Sr<|Dd (by exact bZ (id:=1) rfl rfl rfl rfl rfl)<|Dd aP<|Zz<|Sr<|Dd (by exact aL rfl bT aV rfl rfl rfl rfl (by simp only [Zl,bF,bH,encStr,aY,zObj];rfl) rfl)<|Dd (by exact aB rfl rfl call209 rfl (SS e _ he))<|Dd lI<|Dd aP<|Zz<|aC<|Rt<|Qq
def sR (l:List GEdit):Bool:=decide ((0:Int) < (l.length:Int))&&decide ((l.length:Int)≤200)&&!(l.any (fun e=>!fJ e))
theorem LV (l:List GEdit) (H:aA) (hl:l.length < 4611686018427387904) (he:∀ e∈l,QP e):aG Tryz.prog 170 [.pv (iN l)] H (fun r H'=>r=bv (sR l)∧H'=H):=by
 refine Pu ?_;have hml:(l.map aY).length=l.length:=aLP _;refine Bd func170 rfl ntmps170<|Sr<|Dd aP<|Zz<|Sq ?_;refine bC (t:=2) (n:=16) (X:=decide ((0:Int) < ((l.map aY).length:Int))&&decide (((l.map aY).length:Int)≤200)&&!(l.any (fun e=>!fJ e))) ?_ ?_
 ·all_goals refine Dd aI ?_
  all_goals refine Dd (fW dD)<|Dd mU<|Dm ?_
  all_goals refine Sp 6 (fun h6=>?_) fun h6=>?_
  all_goals try contradiction
  all_goals first|refine Fo<|Fo<|Fo ?_|refine On aI<|On (fW dD)<|On TM ?_
  all_goals refine Dd cL<|Dm ?_
  all_goals refine Sp 11 (fun h11=>?_) fun h11=>?_
  all_goals try contradiction
  all_goals first|refine Fo<|Fo<|Fo ?_|refine On aI<|On (by exact aB rfl rfl call207 rfl (BQ (.pv (.fn 208)) l (fun e=>!fJ e) _ hl (fun e h=>cB.fn call208 (J5 e _ (he e h)))))<|On lI ?_
  all_goals refine Dd cL<|Da ?_
  all_goals(exact⟨⟨_,rfl,by first|(simp_all;done)|(simp_all;omega)⟩,rfl,rfl,rfl⟩)
 refine aC<|Rt ?_;exact⟨by rw [sR,hml],rfl⟩
def nm (i:Nat):ByteArray:=⟨#[110,49+UInt8.ofNat i]⟩
theorem aHG {B:Nat} {e:GEdit} (hB:B < 4611686018427387904) (h:OH B e):QP e :=⟨⟨by have:=h.2.1;omega,by have:=h.2.2.1;omega,by have:=h.2.2.2.1;omega,by have:=h.2.2.2.2.2.2.1;omega⟩,
  ⟨by have:=h.2.2.2.2.2.2.2.2.1.1;omega,fun s hs=>by have:=h.2.2.2.2.2.2.2.2.1.2 s hs;omega⟩,aHF hB h.2.2.2.2.2.2.2.2.2⟩
end Go.Proofs.YtiifmppaejpemaaGreatDoor
namespace Go.Abs
open Go.Proofs
theorem Rel.grown {I:Nat→Prop} {ι:dR} {H:aA} {w:World} (os:Array Obj) (hr:Rel I ι H w):Rel I ι H (Sort.grow w os)∧Step I ι H w I ι H (Sort.grow w os):=by
 have hk:∀ b,b < w.heap.size→(Sort.grow w os).heap[b]?=w.heap[b]?:=fun b hb=>by
  show (w.heap++os)[b]?=_;rw [Array.getElem?_append_left hb]
 have hst:Step I ι H w I ι H (Sort.grow w os):=by
  refine⟨rfl,rfl,rfl,?_,fun a ha _=>?_,fun _ h=>h,fun _ h=>.inl h,fun _ h=>.inl h,fun b hb _=>hk b hb,fun _ o h=>⟨o,h,aLV _,fun _=>⟨rfl,rfl,fun _=>aLV _⟩⟩⟩
  ·show w.heap.size≤(w.heap++os).size;simp
  unfold World.frozen?;rw [hk _ ha]
 refine⟨⟨fun b hb=>?_,fun j o hj=>?_,hr.inj,hst.glob hr⟩,hst⟩
 ·have:=hr.imm b hb;show b < (w.heap++os).size;simp;omega
 exact(hr.obj j o hj).keep rfl (fun b c _ hb=>⟨hk b hb,fun h=>h⟩) (fun r _ a _ v hv=>hv.mono hr hst)
def bK (n:Int):ByteArray:=⟨(Lib.itoa n).toArray⟩
theorem itoa_c {P:Program} {ρ:Shelf.Ren} (L:LaysM.n171 P ρ) {G:Nat} (hg:(G,GV.ints .u64 Lib.pow10Tab)∈PT) (hn:P.globalNamed "internal/strconv.uint64pow10" = some G) (n:Int) (h0 : -9223372036854775808≤n) (h1:n≤9223372036854775807) (H:aA) :
  aG P (ρ.f 171) [.pv (.int .i64 n)] H (fun r H'=>r=.pv (.str (bK n))∧H'=H):=by
 intro I ι w vs hr hvl hv;obtain ⟨v,rfl⟩:∃ v,vs=#[v]:=by
  match vs,hvl with
  | ⟨[v]⟩,_=>exact⟨v,rfl⟩
 have e1:=(hv 0 v _ rfl rfl).int_inv;subst e1;have htab:Lib.TabIs P w "internal/strconv.uint64pow10" .u64 Lib.pow10Tab:=by
  obtain ⟨_,cs,t,f,h2,h3⟩:=hr.glob _ hg;have h3':cs=(Lib.pow10Tab.map fun z=>Value.int .u64 z).toArray:=h3;subst h3';simp only [Lib.TabIs,World.var?,hn,Option.bind_some,h2]
 refine(Any.strconv_Itoa L n h0 h1 w htab).mono ?_;rintro e w' ⟨rfl,k,os,rfl⟩;obtain ⟨k1,k2⟩:=Rel.drawn (w':=w.drewN k) hr rfl rfl rfl rfl;obtain ⟨m1,m2⟩:=Rel.grown os k1;exact⟨_,_,I,ι,_,rfl,⟨rfl,rfl⟩,.pv (.str _),m1,k2.trans m2⟩
theorem mul64_c {P:Program} {ρ:Shelf.Ren} (L:Lays.n264 P ρ) (x y:Nat) (hx:x < 18446744073709551616) (hy:y < 18446744073709551616) (H:aA) :
  aG P (ρ.f 264) [.pv (.int .u64 (x:Int)),.pv (.int .u64 (y:Int))] H (fun r H'=>r=.tup [.pv (.int .u64 ((x*y / 18446744073709551616:Nat):Int)),.pv (.int .u64 ((x*y % 18446744073709551616:Nat):Int))]∧H'=H):=by
 intro I ι w vs hr hvl hv;obtain ⟨v,u,rfl⟩:∃ v u,vs=#[v,u]:=by
  match vs,hvl with
  | ⟨[v,u]⟩,_=>exact⟨v,u,rfl⟩
 have e1:=(hv 0 v _ rfl rfl).int_inv;have e2:=(hv 1 u _ rfl rfl).int_inv;subst e1 e2;refine(Any.bits_Mul64 L x y hx hy w).mono ?_;rintro e w' ⟨rfl,rfl⟩;refine⟨_,_,I,ι,_,rfl,⟨rfl,rfl⟩,.tup rfl fun i v a h1 h2=>?_,hr,Step.refl _ _ _ _⟩
 match i,h1,h2 with
 | 0,h1,h2=>cases h1;cases h2;exact .pv (.int _ _)
 | 1,h1,h2=>cases h1;cases h2;exact .pv (.int _ _)
 | i+2,h1,h2=>simp at h1
end Go.Abs
section
namespace Go.Proofs
open Go.RowKit Go.Sort Go.Shelf
def aLF:Go.Shelf.Ren:=⟨fun|171=>113|243=>158|246=>193|283=>223|284=>224|285=>225|286=>226|129=>256|317=>255|318=>257|319=>258|320=>259|337=>274|338=>275|n=>n,fun|3=>3|9=>9|2=>2|4=>4|171=>235|0=>0|53=>126|37=>124|5=>5|173=>238|212=>264|51=>265|20=>20|213=>266|46=>128|232=>284|233=>285|n=>n,fun|17=>5|18=>6|19=>7|n=>n⟩
theorem aLJ:Go.Proofs.LaysM.n171 Tryz.prog aLF:={
  mixed:=by kernel_rfl
  f129:=Tryz.func256.trans (congrArg some (by kernel_rfl))
  f171:=Tryz.func113.trans (congrArg some (by kernel_rfl))
  f243:=Tryz.func158.trans (congrArg some (by kernel_rfl))
  f246:=Tryz.func193.trans (congrArg some (by kernel_rfl))
  f283:=Tryz.func223.trans (congrArg some (by kernel_rfl))
  f284:=Tryz.func224.trans (congrArg some (by kernel_rfl))
  f285:=Tryz.func225.trans (congrArg some (by kernel_rfl))
  f286:=Tryz.func226.trans (congrArg some (by kernel_rfl))
  f317:=Tryz.func255.trans (congrArg some (by kernel_rfl))
  f318:=Tryz.func257.trans (congrArg some (by kernel_rfl))
  f319:=Tryz.func258.trans (congrArg some (by kernel_rfl))
  f320:=Tryz.func259.trans (congrArg some (by kernel_rfl))
  f337:=Tryz.func274.trans (congrArg some (by kernel_rfl))
  f338:=Tryz.func275.trans (congrArg some (by kernel_rfl))
  t0:=aDV
  a0:=aKy
  z0:=aKf
  v0:=aFl
  t2:=Tryz.underlying2
  a2:=Tryz.isAgg2
  z2:=Tryz.sizeOf2
  v2:=Tryz.zeroValue2
  t3:=Tryz.underlying3
  a3:=Tryz.isAgg3
  z3:=Tryz.sizeOf3
  v3:=zI
  t4:=dN
  a4:=rZ
  z4:=Tryz.sizeOf4
  v4:=zH
  t5:=jL
  a5:=xM
  z5:=bS
  v5:=KO
  t9:=Tryz.underlying9
  a9:=Tryz.isAgg9
  z9:=Tryz.sizeOf9
  v9:=qS
  t20:=DX
  a20:=pM
  z20:=aJd
  v20:=aDU
  t37:=cE
  a37:=cN
  z37:=lW
  v37:=Tryz.zeroValue124
  t46:=B0
  a46:=TU
  z46:=QH
  v46:=DU
  t51:=Tryz.underlying265
  a51:=Tryz.isAgg265
  z51:=Tryz.sizeOf265
  v51:=Tryz.zeroValue265
  t53:=rX
  a53:=FI
  z53:=B2
  v53:=DV
  t171:=Tryz.underlying235
  a171:=Tryz.isAgg235
  z171:=Tryz.sizeOf235
  v171:=Tryz.zeroValue235
  t173:=Tryz.underlying238
  a173:=Tryz.isAgg238
  z173:=Tryz.sizeOf238
  v173:=Tryz.zeroValue238
  t212:=Tryz.underlying264
  a212:=Tryz.isAgg264
  z212:=Tryz.sizeOf264
  v212:=Tryz.zeroValue264
  t213:=Tryz.underlying266
  a213:=Tryz.isAgg266
  z213:=Tryz.sizeOf266
  t232:=Tryz.underlying284
  a232:=Tryz.isAgg284
  z232:=Tryz.sizeOf284
  v232:=Tryz.zeroValue284
  t233:=Tryz.underlying285
  a233:=Tryz.isAgg285
  z233:=Tryz.sizeOf285
  v233:=Tryz.zeroValue285
  g17:=by kernel_rfl
  g18:=by kernel_rfl
  g19:=by kernel_rfl
  i0:=by kernel_rfl
  i2:=by kernel_rfl
  i3:=by kernel_rfl
  i4:=by kernel_rfl
  i5:=by kernel_rfl
  i9:=by kernel_rfl
  i20:=by kernel_rfl
  i37:=by kernel_rfl
  i46:=by kernel_rfl
  i51:=by kernel_rfl
  i53:=by kernel_rfl
  i171:=by kernel_rfl
  i173:=by kernel_rfl
  i212:=by kernel_rfl
  i232:=by kernel_rfl
  i233:=by kernel_rfl
  m17:=by kernel_rfl
  m18:=by kernel_rfl
  m19:=by kernel_rfl}
end Go.Proofs
namespace Go.Proofs.YtiifmppaejpemaaGreatDoor
open Go.Proofs.Tryz
open Go.Abs
theorem qG (n:Int) (h0 : -9223372036854775808≤n) (h1:n≤9223372036854775807) (H:aA):aG Tryz.prog 113 [iv n] H (fun r H'=>r=sv (bK n)∧H'=H) :=Go.Abs.itoa_c aLJ (G:=5) (by unfold PT;exact .head _) (by kernel_rfl) n h0 h1 H
end Go.Proofs.YtiifmppaejpemaaGreatDoor
end
namespace Go.Abs
section
section
variable {P:Program} {G0:aA} {N:Nat} {E:bN} {H:aA} {ops:Array Oper} {K:bN→aA→Prop} {o:Oper} {rest:List Oper}
def ALx (P:Program) (G0:aA) (N:Nat) (ops:Array Oper) (K:bN→aA→Prop) (l:List Oper) (E:bN) (H:aA) (d:Nat) (F:dR→Value→Prop):Prop :=∀ G:Entry,G.H=G0→∀ (a:Act) (w:World) (I:Nat→Prop) (ι:dR),nZ G.ds G.w w a.defers→a.tmps.size=N→Rel I ι H w→Step G.I G.ι G.H G.w I ι H w→gO w I ι H E a→(∃ c,a.tmps[d]?=some c∧F ι c) →
  ∀ ro,(ro=none∨l.all Oper.noDefer=true)→∀ Q:Exit→Act→World→Prop,(∀ E H a w,K E H→St G N E H a w→Q .normal a w)→wpListIn (RF ro) 0 P ops Q l a w
def aHr (id n:Nat) (ι:dR) (c:Value):Prop:=∃ b cap,ι id=some (b,cap)∧c=.slice (some ⟨b,0,none⟩) n n
theorem CJ (a:Act) (d:Nat) (c:Value):(a.put (some d) c).tmps.size=a.tmps.size:=by simp [Act.put]
theorem aB8 (a:Act) {d:Nat} (c:Value) (h:d < a.tmps.size):(a.put (some d) c).tmps[d]?=some c:=by simp [Act.put,h]
theorem ZL (a:Act) {d d2:Nat} (c:Value) (h:d2≠d):(a.put (some d2) c).tmps[d]?=a.tmps[d]?:=by simp [Act.put,h]
theorem DN {T e:TypeId} {p:Operand} {d id g n:Nat} {ob:Ob} (hg0:o.guard=none) (hd:o.dst=some d) (hdN:Nat.blt d N=true) (ho:o.op=.slice T p none none none) (hT:P.underlying T=some (.array n e)) (hs:∀ w,(sizeOf e).run P w=.ok 1 w)
  (hx:aN E p=some (.ref id g 0 0)) (hH:H.get id=some ob) (hg:ob.g=g) (hk:ALx P G0 N ops K rest ((d,.any)::E) H d (aHr id n)):AL P G0 N ops K (o::rest) E H:=by
 intro G hG a w hst ro hro Q hq;refine wpListIn_plain hg0 fun K' hK=>?_;refine Oper.wpW_in (jR hro).1 ?_;obtain ⟨I,ι,hr,hs',he⟩:=hst.rel;obtain ⟨b,cap,h1,h3⟩:=lJ (aH he hx) hH hg;have hdn:d < N:=by simpa [Nat.blt_eq] using hdN
 have hrun:(execOp a.eval o).run P w=.ok (.value (.slice (some ⟨b,0,none⟩) n n)) w:=by
  simp only [execOp,ho,h3,Option.map_none];simp [Instr.sliceAt,run_underlying hT,Instr.sureAddr,Instr.sliceBounds,hs,Addr.add_lit]
 unfold Oper.wpW;rw [hrun];show K' (a.put o.dst _) w;rw [hd];exact hK _ _ (hk G hG _ w I ι (by rw [fN];exact hst.defers) (by rw [CJ];exact hst.size) hr hs' (gO.put (d:=some d) hr (Step.refl _ _ _ _) he (.any _) (by rw [hst.size];exact hdN)) ⟨_,aB8 a _ (by rw [hst.size];exact hdn),b,cap,h1,rfl⟩ ro (jR hro).2 Q hq)
theorem aDI {d d2:Nat} {F:dR→Value→Prop} {x:Operand} {v:AV} (hg0:o.guard=none) (hd:o.dst=some d2) (hdN:Nat.blt d2 N=true) (hne:d2≠d) (ho:o.op=.move x) (hx:aN E x=some v) (hk:ALx P G0 N ops K rest ((d2,v)::E) H d F):ALx P G0 N ops K (o::rest) E H d F:=by
 intro G hG a w I ι hm hsz hr hs' he ⟨c,hc,hF⟩ ro hro Q hq;refine wpListIn_plain hg0 fun K' hK=>?_;refine Oper.wpW_in (jR hro).1 ?_;have hrun:(execOp a.eval o).run P w=.ok (.value (a.eval x)) w:=by simp [execOp,ho]
 unfold Oper.wpW;rw [hrun];show K' (a.put o.dst _) w;rw [hd];exact hK _ _ (hk G hG _ w I ι (by rw [fN];exact hm) (by rw [CJ];exact hsz) hr hs' (gO.put (d:=some d2) hr (Step.refl _ _ _ _) he (aH he hx) (by rw [hsz];exact hdN)) ⟨c,by rw [ZL a _ hne];exact hc,hF⟩ ro (jR hro).2 Q hq)
def gW (s:List UInt8):List AV:=s.map fun b=>.pv (.int .u8 b.toNat)
theorem rQ (s:List UInt8):(gW s).length=s.length:=aLP _
theorem QA {D S e:TypeId} {y:Operand} {d d2 id g n m T:Nat} {cells:List AV} {s:ByteArray} (hg0:o.guard=none) (hd:o.dst=some d2) (hdN:Nat.blt d2 N=true) (ho:o.op=.call {callee:=.builtin .copy,args:=#[.tmp d,y],argTypes:=#[D,S]}) (hD:P.underlying D=some (.slice e)) (hs:∀ w,(sizeOf e).run P w=.ok 1 w)
  (hH:H.get id=some ⟨g,n,T,[cells]⟩) (hn0:0 < n) (hy:aN E y=some (.pv (.str s))) (hm:min s.size n=m)
  (hk:AL P G0 N ops K rest ((d2,.pv (.int .i64 m))::E) ((id,⟨g,n,T,[gW (s.data.toList.take m)++cells.drop m]⟩)::H)):ALx P G0 N ops K (o::rest) E H d (aHr id n):=by
 intro G hG a w I ι hmk hsz hr hs' he ⟨c,hc,b,cap,hι,hcv⟩ ro hro Q hq;refine wpListIn_plain hg0 fun K' hK=>?_;refine Oper.wpW_in (jR hro).1 ?_;have e2y:=(aH he hy).str_inv;have e1:a.eval (.tmp d)=.slice (some ⟨b,0,none⟩) n n:=by simp [Act.eval,hc,hcv]
 obtain ⟨p1,p2,⟨b',cap',cs,f1,f2,f3,f4,f5,f5',f6⟩|⟨f1,_⟩⟩:=(hr.obj id _ hH).cells hn0
 rotate_left
 ·rw [hι] at f1;cases f1
 rw [hι] at f1;cases f1;have hlen:cells.length=n:=p2 cells (by simp);have hms:m≤s.size:=by omega
 have hmn:m≤n:=by omega
 simp only [List.length_singleton] at f5;have hcs:n≤cs.size:=by rw [f4];exact Nat.le_mul_of_pos_left _ (by omega)
 have hmm:min m s.data.size=m:=by have:s.data.size=s.size:=rfl;omega
 have hcells:((s.extract 0 m).data.map fun b=>Value.int .u8 b.toNat).toList=(s.data.toList.take m).map fun b=>Value.int .u8 b.toNat:=by simp
 have hst:=run_storeCells_at P b 0 T ((s.data.toList.take m).map fun b=>Value.int .u8 b.toNat) 0 cs w f2 (by simp [hmm];omega) (by intro v hv;obtain ⟨b,_,rfl⟩:=List.mem_map.1 hv;rfl);simp only [Nat.add_zero,aL7,List.take_zero,List.nil_append,aLP,aL3,Array.length_toList] at hst;rw [hmm] at hst;have hnl:(gW (s.data.toList.take m)++cells.drop m).length=n:=by
  rw [aLQ,rQ,aL3,aL4,Array.length_toList,hmm,hlen];omega
 obtain ⟨k2,k3⟩:=Rel.update (H':=(id,⟨g,n,T,[gW (s.data.toList.take m)++cells.drop m]⟩)::H) (ob':=⟨g,n,T,[gW (s.data.toList.take m)++cells.drop m]⟩)
  (cs' := ((s.data.toList.take m).map (fun b => Value.int .u8 b.toNat) ++ cs.toList.drop m).toArray) hr hH hι f2 (aLV _) rfl rfl (fun _ => aLV _) (by
   simp only [List.size_toArray,aLQ,aLP,aL3,aL4,Array.length_toList,hmm];rw [← f4];omega) (by simpa using f5) (by intro r hr';rw [aLS] at hr';subst hr';exact hnl) (fun i r hi k a' hk'=>by
    cases i with
    | succ i=>simp at hi
    | zero =>
     simp only [List.getElem?_cons_zero,Option.some.injEq] at hi;subst hi;rw [Nat.zero_mul,aL7];simp only [List.getElem?_toArray];by_cases ck:k < m
     ·rw [List.getElem?_append_left (by rw [rQ,aL3,Array.length_toList,hmm];exact ck),gW,aL9] at hk';rw [List.getElem?_append_left (by rw [aLP,aL3,Array.length_toList,hmm];exact ck),aL9];cases e:(s.data.toList.take m)[k]? with
      | none=>rw [e] at hk';cases hk'
      | some q =>
       rw [e] at hk';cases hk';exact⟨.int .u8 q.toNat,rfl,rfl,.pv (.int _ _)⟩
     rw [List.getElem?_append_right (by rw [rQ,aL3,Array.length_toList,hmm];omega),rQ,aL3,Array.length_toList,hmm,List.getElem?_drop,show m+(k - m)=k by omega] at hk';obtain ⟨u,q1,q2,q3⟩:=f6 0 cells rfl k a' hk';rw [Nat.zero_mul,aL7] at q1;refine⟨u,?_,q2,q3⟩;rw [List.getElem?_append_right (by rw [aLP,aL3,Array.length_toList,hmm];omega),aLP,aL3,Array.length_toList,hmm,List.getElem?_drop,show m+(k - m)=k by omega]
     simpa using q1) (get_cons_same _ _ _) (fun j hj=>get_cons_other _ _ hj)
 have hmin:Nat.min s.size n=m:=hm;unfold Oper.wpW execOp;simp only [ho,resolve,invoke,builtin,Sem.run_bind,Sem.run_pure,Result.andThen_ok,List.map_toArray,List.map_cons,List.map_nil,e1,e2y,Builtin.copy_,run_underlying hD,hs];simp only [List.getElem?_toArray,List.getElem?_cons_zero,List.getElem?_cons_succ,run_underlying hD,Builtin.lenOf,Builtin.firstCells,Sem.run_bind,Sem.run_pure,Result.andThen_ok,hs,hmin,hcells,hst];show K' (a.put o.dst _) _;rw [hd];refine hK _ _ (hk G hG _ _ ⟨?_,?_,I,ι,k2,hs'.trans k3,gO.put (d:=some d2) hr k3 he (.pv (.int _ _)) (by rw [hsz];exact hdN)⟩ ro (jR hro).2 Q hq)
 ·rw [fN];exact hmk.step hr k3
 rw [CJ];exact hsz
theorem aFi {S T e:TypeId} {d d2 id g n A:Nat} {bs:List UInt8} {r:ByteArray} (hg0:o.guard=none) (hd:o.dst=some d2) (hdN:Nat.blt d2 N=true) (ho:o.op=.convert S T (.tmp d)) (hS:P.underlying S=some (.slice e)) (he':P.underlying e=some (.int .u8)) (hT:P.underlying T=some .string)
  (hH:H.get id=some ⟨g,n,A,[gW bs]⟩) (hn0:0 < n) (hr':(⟨bs.toArray⟩:ByteArray)=r) (hk:AL P G0 N ops K rest ((d2,.pv (.str r))::E) H):ALx P G0 N ops K (o::rest) E H d (aHr id n):=by
 intro G hG a w I ι hmk hsz hr hs' he ⟨c,hc,b,cap,hι,hcv⟩ ro hro Q hq;refine wpListIn_plain hg0 fun K' hK=>?_;refine Oper.wpW_in (jR hro).1 ?_;have e1:a.eval (.tmp d)=.slice (some ⟨b,0,none⟩) n n:=by simp [Act.eval,hc,hcv]
 obtain ⟨p1,p2,⟨b',cap',cs,f1,f2,f3,f4,f5,f5',f6⟩|⟨f1,_⟩⟩:=(hr.obj id _ hH).cells hn0
 rotate_left
 ·rw [hι] at f1;cases f1
 rw [hι] at f1;cases f1;have hlen:bs.length=n:=by rw [← rQ bs];exact p2 (gW bs) (by simp)
 subst hr';have hl:(loadCells ⟨b,0,none⟩ n).run P w=.ok ((bs.map fun b=>(b.toNat:Int)).map (Value.int .u8)).toArray w:=by
  have h0:=run_loadCells_list (P:=P) w ⟨b,0,none⟩ ((bs.map fun b=>(b.toNat:Int)).map (Value.int .u8)) (fun j v hv=>by
   rw [List.map_map,aL9] at hv;obtain ⟨q,hq1,rfl⟩:=Option.map_eq_some_iff.1 hv;rw [Addr.add_lit,aL7,cell_of_row w b _ cs _ (0,0) f2];obtain ⟨u,q1,q2,q3⟩:=f6 0 (gW bs) rfl j (.pv (.int .u8 q.toNat)) (by rw [gW,aL9,hq1];rfl);rw [Nat.zero_mul,aL7] at q1;rw [q1,q3.int_inv];rfl)
  rwa [aLP,aLP,hlen] at h0
 have hrun:(execOp a.eval o).run P w=.ok (.value (.string ⟨bs.toArray⟩)) w:=by
  simp only [execOp,ho,e1,Sem.run_bind];rw [run_convert_bytes_string w S T e _ _ n hS he' hT,run_bytesToString w _ _ n _ hl,foldl_push_bytes];have e3:(bs.map fun b=>(b.toNat:Int)).map (fun n=>UInt8.ofNat n.toNat)=bs:=by
   rw [List.map_map]
   conv=>rhs;rw [← List.map_id bs]
   refine List.map_congr_left fun b _=>?_;simp
  rw [e3];simp [ByteArray.empty,ByteArray.emptyWithCapacity];rfl
 unfold Oper.wpW;rw [hrun];show K' (a.put o.dst _) w;rw [hd];exact hK _ _ (hk G hG _ w ⟨by rw [fN];exact hmk,by rw [CJ];exact hsz,I,ι,hr,hs',gO.put (d:=some d2) hr (Step.refl _ _ _ _) he (.pv (.str _)) (by rw [hsz];exact hdN)⟩ ro (jR hro).2 Q hq)
end
end
end Go.Abs
section
namespace Go.Proofs
open Go.RowKit Go.Sort Go.Shelf
end Go.Proofs
namespace Go.Proofs.YtiifmppaejpemaaGreatDoor
open Go.Proofs.Tryz
open Go.Abs
def pick (L:List ByteArray) (seen:List Nat):List ByteArray:=seen.map fun i=>(L[i]?).getD ⟨#[]⟩
end Go.Proofs.YtiifmppaejpemaaGreatDoor
end
section
namespace Go.Proofs
open Go.RowKit Go.Sort Go.Shelf
def aLD:Go.Shelf.Ren:=⟨fun|264=>156|n=>n,fun|53=>126|46=>128|n=>n,fun|n=>n⟩
theorem aLH:Go.Proofs.Lays.n264 Tryz.prog aLD:={
  mixed:=by kernel_rfl
  f264:=Tryz.func156.trans (congrArg some (by kernel_rfl))
  t46:=B0
  a46:=TU
  z46:=QH
  v46:=DU
  t53:=rX
  a53:=FI
  z53:=B2
  v53:=DV}
end Go.Proofs
namespace Go.Proofs.YtiifmppaejpemaaGreatDoor
open Go.Proofs.Tryz
open Go.Abs
abbrev uv (n:Nat):AV:=.pv (.int .u64 (n:Int))
theorem R2 (x y:Nat) (hx:x < 18446744073709551616) (hy:y < 18446744073709551616) (H:aA):aG Tryz.prog 156 [uv x,uv y] H (fun r H'=>r=.tup [uv (x*y / 18446744073709551616),uv (x*y % 18446744073709551616)]∧H'=H) :=Go.Abs.mul64_c aLH x y hx hy H
theorem aEE (a k:Nat) {m:Int} (h:m.toNat=k):(a:Int) / 2 ^ m.toNat=((a / 2 ^ k:Nat):Int):=by
 rw [h]
 push_cast
 rfl
def Z2 (x:Nat):Nat:=x*2862933555777941757 % 18446744073709551616
def aHL (x:Nat):Nat:=Z2 x ^^^ (Z2 x / 2 ^ 32)
def Z1 (x:Nat):Nat:=aHL x*3935559000370003845 % 18446744073709551616
def LJ (x:Nat):Nat:=Z1 x ^^^ (Z1 x / 2 ^ 29)
theorem G9 (x:Nat):Z2 x < 18446744073709551616:=Nat.mod_lt _ (by decide)
theorem G8 (x:Nat):Z1 x < 18446744073709551616:=Nat.mod_lt _ (by decide)
theorem yY {x:Nat} (k:Nat) (h:x < 18446744073709551616):x / 2 ^ k < 18446744073709551616:=Nat.lt_of_le_of_lt (Nat.div_le_self _ _) h
theorem B6 {x y:Nat} (h:x < 18446744073709551616) (h':y < 18446744073709551616):x ^^^ y < 18446744073709551616:=Nat.xor_lt_two_pow (n:=64) h h'
theorem aEo (x:Nat):aHL x < 18446744073709551616:=B6 (G9 x) (yY 32 (G9 x))
theorem XT (x:Nat):LJ x < 18446744073709551616:=B6 (G8 x) (yY 29 (G8 x))
theorem aJM (x:Nat) (hx:x < 18446744073709551616) (H:aA):aG Tryz.prog 109 [uv x] H (fun r H'=>r=uv (LJ x)∧H'=H):=by refine Pu ?_;exact Bd func109 rfl ntmps109<|Sr<|Dd aP<|Zz<|Sr<|Dd aI<|Dd (by exact aB rfl rfl call156 rfl (R2 x 2862933555777941757 hx (by decide) _))<|Dd aI<|Dd eS<|Dd eS<|Dd aP<|Zz<|Sr<|Dd aI<|Dd aI<|Dd (by exact GY rfl rfl rfl (by decide) (by decide) (aEE (Z2 x) 32 rfl))<|Dd (by exact pE rfl (by simp) rfl rfl (bits_xor_u64_nat (Z2 x) (Z2 x / 2 ^ 32) (G9 x) (yY 32 (G9 x))))<|Dd aP<|Zz<|Sr<|Dd aI<|Dd (by exact aB rfl rfl call156 rfl (R2 (aHL x) 3935559000370003845 (aEo x) (by decide) _))<|Dd aI<|Dd eS<|Dd eS<|Dd aP<|Zz<|Sr<|Dd aI<|Dd aI<|Dd (by exact GY rfl rfl rfl (by decide) (by decide) (aEE (Z1 x) 29 rfl))<|Dd (by exact pE rfl (by simp) rfl rfl (bits_xor_u64_nat (Z1 x) (Z1 x / 2 ^ 29) (G8 x) (yY 29 (G8 x))))<|Dd aP<|Zz<|aC<|Rt<|Qq
def sD (n:Nat):Int:=if n < 10 then 48+(n:Int)else 87+(n:Int)
def gV (i:Nat):List AV:=(List.range 16).map fun j=>.pv (.int .u8 (if j < i then sD j else 0))
theorem rO (i:Nat):(gV i).length=16:=by simp [gV]
theorem BO {i j:Nat} (h:j < 16):(gV i)[j]?=some (.pv (.int .u8 (if j < i then sD j else 0))):=by rw [gV,aL9,List.getElem?_range h];rfl
theorem J2 {i:Nat} (h:i < 16):(gV i).set i (.pv (.int .u8 (sD i)))=gV (i+1):=by
 apply List.ext_getElem?;intro j;by_cases hj:j < 16
 ·rw [BO hj];by_cases e:i=j
  ·subst e;rw [List.getElem?_set_self (by rw [rO];exact h),aLO (Nat.lt_succ_self _)]
  rw [List.getElem?_set_ne e,BO hj];by_cases h1:j < i
  ·rw [aLO h1,aLO (by omega)]
  rw [aLN h1,aLN (by omega)]
 rw [List.getElem?_eq_none (by rw [List.length_set,rO];omega),List.getElem?_eq_none (by rw [rO];omega)]
theorem WC {i:Nat} (h:i < 16) (x:AV) {y:AV} (hy:y=.pv (.int .u8 (sD i))):((gV i).set i x).set i y=gV (i+1):=by rw [List.set_set,hy,J2 h]
theorem oI {H:aA} {n T i:Nat}:∀ r∈(bx n T (gV i)).rows,∀ a∈r,Clo H a:=by intro r hr a ha;rw [bx,aLS] at hr;subst hr;obtain ⟨j,_,rfl⟩:=List.mem_map.1 ha;exact .pv _
theorem WD {H:aA} {i:Nat}:∀ a∈gV i,Clo H a:=by intro a ha;obtain ⟨j,_,rfl⟩:=List.mem_map.1 ha;exact .pv _
theorem YE:((gV 16).drop 0).take 16=gV 16:=rfl
theorem aCl (H:aA):aG Tryz.prog 110 [] H (fun r H'=>r=.agg (gV 16)∧H'=H):=by
 refine Pu ?_;refine Bd func110 rfl ntmps110<|Sr<|Dd (by exact bE (id:=0) rfl WU rfl rfl)<|Zz<|Sr<|Dd (by exact bE (id:=1) rfl WU rfl rfl)<|Zz<|Sq<|Sr<|Dd aI<|Zz<|aF ?_;refine bR (σ:=Nat) (fun i=>([(0,.ref 0 0 0 0),(1,.ref 1 0 0 0),(3,iv (i:Int))],[(1,bx 16 131 (gV i)),(0,bx 16 131 (gV 0))])) (fun i=>i≤16) (fun i=>16 - i) 0 (aL6 _) ?_ ?_
 ·exact(cC.wk (Ea<|Ea<|Eb<|trivial) (Hc oI<|Hc oI<|trivial) trivial)
 intro i hi;refine Sr<|Dd dI<|Zz<|Sq ?_;refine Cn ?_ ?_<;>intro hc1
 ·have hlt:i < 16:=by have:=aLL hc1;omega
  refine aE<|Sq<|aF<|Sr<|Dd aI<|Dd aP<|Zz<|Sr<|Dd aI<|Dd aI<|Dd pL<|Dd (by exact nG rfl underlying3 jL rfl (by exact wu8 (by omega) (by omega)))<|Dd (by exact cZ rfl rW bS rfl rfl rfl rfl (by omega) (by exact aL0 _) (by omega) rfl)<|Uu (by exact aZ rfl bS rfl rfl rfl rfl rfl rfl (by rw [rO];omega) (show (gV i).set (0+i*1) (.pv (.int .u8 (48+(i:Int))))=(gV i).set i (.pv (.int .u8 (48+(i:Int))))by rw [aL7,Nat.mul_one]) rfl)<|Zz<|Sr<|Dd aI<|Dd JS<|Zz ?_;refine Cn ?_ ?_<;>intro hc2
  ·have h10:¬ i < 10:=by have:=aLL hc2;omega
   refine Rg<|Dd aI<|Dd aI<|Dd pL<|Dd (by exact eB rfl rfl rfl (by exact pO (by omega) (by omega)))<|Dd (by exact nG rfl underlying3 jL rfl (by exact wu8 (by omega) (by omega)))<|Dd (by exact cZ rfl rW bS rfl rfl rfl rfl (by omega) (by exact aL0 _) (by omega) rfl)<|Uu (by exact aZ rfl bS rfl rfl rfl rfl rfl rfl (by rw [List.length_set,rO];omega) (show ((gV i).set i (.pv (.int .u8 (48+(i:Int))))).set (0+i*1) (.pv (.int .u8 (97+(i:Int) - 10)))=gV (i+1)by rw [aL7,Nat.mul_one];exact WC hlt _ (by rw [sD,aLN (by have:=aLL hc2;omega)];congr 2;omega)) rfl)<|Zz<|Rg<|Dd pL<|Dd aI<|Zz ?_;exact⟨i+1,by omega,by omega,(cC.wk (Ea<|Ea<|Eb<|trivial) (Hc oI<|Hc oI<|trivial) trivial)⟩
  have h10:i < 10:=by have:=aLM hc2;omega
  refine aE<|Rg<|Dd pL<|Dd aI<|Zz ?_;refine⟨i+1,by omega,by omega,?_⟩;have e:(gV i).set i (.pv (.int .u8 (48+(i:Int))))=gV (i+1):=by
   rw [← J2 hlt,sD,aLO h10]
  rw [e];exact(cC.wk (Ea<|Ea<|Eb<|trivial) (Hc oI<|Hc oI<|trivial) trivial)
 have hge:i=16:=by have:=aLM hc1;omega
 subst hge;refine bG<|Sr<|Dd (by exact aL rfl isAgg131 QG rfl rfl rfl rfl YE rfl)<|Uu (jK QG)<|Zz<|aC ?_;refine dF (H':=[]) (.inr rfl) rfl (eU rfl isAgg131 QG rfl rfl rfl YE rfl) (Fin.wk (.agg WD) trivial trivial) ?_;exact Qq
end Go.Proofs.YtiifmppaejpemaaGreatDoor
end
