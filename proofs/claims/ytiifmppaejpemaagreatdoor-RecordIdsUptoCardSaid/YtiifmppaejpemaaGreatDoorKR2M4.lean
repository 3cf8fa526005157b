/-
  Parts of the proof: rules of an abstract program logic, contracts of functions, plain laws. Conditions: each theorem's own.
-/
import Derived.Test.YtiifmppaejpemaaGreatDoorKR2M3
import Derived.Scope
import Derived.ChangeKeysEq
import Derived.Shelf.SortM.Plain
import Derived.Shelf.SortM.SortNone
import Derived.Ground.SlgmProg
import Derived.Shelf.Strconv.Itoa3
import Derived.Shelf.Bits.Mul64
import Derived.Shelf.LaysM
import Derived.Ground.NamesProg
import Derived.Shelf.Lays
set_option linter.unusedVariables false
set_option linter.unusedSimpArgs false
set_option maxRecDepth 100000
set_option maxHeartbeats 8000000
namespace Go.Proofs
theorem wH:type_of% Tryz.call236:=Tryz.call236
theorem CZ:type_of% Tryz.call247:=Tryz.call247
theorem wF:type_of% Tryz.call248:=Tryz.call248
theorem aCV:type_of% Tryz.call265:=Tryz.call265
theorem S9:type_of% Tryz.call66:=Tryz.call66
theorem gV:type_of% Tryz.eqGuardType73:=Tryz.eqGuardType73
theorem aNk:type_of% Tryz.isAgg0:=Tryz.isAgg0
theorem dR:type_of% Tryz.isAgg124:=Tryz.isAgg124
theorem H7:type_of% Tryz.isAgg126:=Tryz.isAgg126
theorem WT:type_of% Tryz.isAgg128:=Tryz.isAgg128
theorem cM:type_of% Tryz.isAgg151:=Tryz.isAgg151
theorem cU:type_of% Tryz.isAgg153:=Tryz.isAgg153
theorem bZ:type_of% Tryz.isAgg155:=Tryz.isAgg155
theorem rM:type_of% Tryz.isAgg20:=Tryz.isAgg20
theorem aH:type_of% Tryz.isAgg22:=Tryz.isAgg22
theorem oC:type_of% Tryz.isAgg4:=Tryz.isAgg4
theorem dQ:type_of% Tryz.isAgg73:=Tryz.isAgg73
theorem aNN:type_of% Tryz.sizeOf0:=Tryz.sizeOf0
theorem EA:type_of% Tryz.sizeOf126:=Tryz.sizeOf126
theorem S6:type_of% Tryz.sizeOf128:=Tryz.sizeOf128
theorem S5:type_of% Tryz.sizeOf131:=Tryz.sizeOf131
theorem aFY:type_of% Tryz.underlying0:=Tryz.underlying0
theorem oM:type_of% Tryz.underlying126:=Tryz.underlying126
theorem D8:type_of% Tryz.underlying128:=Tryz.underlying128
theorem uP:type_of% Tryz.underlying131:=Tryz.underlying131
theorem GI:type_of% Tryz.underlying20:=Tryz.underlying20
theorem oK:type_of% Tryz.underlying276:=Tryz.underlying276
theorem dZ:type_of% Tryz.underlying4:=Tryz.underlying4
theorem aHv:type_of% Tryz.zeroValue0:=Tryz.zeroValue0
theorem GF:type_of% Tryz.zeroValue128:=Tryz.zeroValue128
end Go.Proofs
namespace Go.Proofs.YtiifmppaejpemaaGreatDoor
open Go.Proofs.Tryz
open Go.Abs
def eL (k:Int):ByteArray:=if k=1 then⟨#[110,111,100,101]⟩else if k=2 then⟨#[119,97,121]⟩else if k=3 then⟨#[97,114,101,97]⟩else if k=4 then⟨#[114,111,117,116,101]⟩else if k=5 then⟨#[116,117,114,110]⟩else sNil
abbrev aFm:List AV:=[sv sNil,sv ⟨#[110,111,100,101]⟩,sv ⟨#[119,97,121]⟩,sv ⟨#[97,114,101,97]⟩,sv ⟨#[114,111,117,116,101]⟩,sv ⟨#[116,117,114,110]⟩]
theorem six {k:Int} (h0:0≤k) (h1:k < 6):k=0∨k=1∨k=2∨k=3∨k=4∨k=5:=by omega
theorem aFl {k:Int} (h0:0≤k) (h1:k < 6):aFm[k.toNat]?=some (sv (eL k)):=by rcases six h0 h1 with rfl|rfl|rfl|rfl|rfl|rfl<;>rfl
theorem DG (k:Int) (H:aB):aI Tryz.prog 236 [iv k] H (fun r H'=>r=sv (eL k)∧H'=H):=by
 refine Pu ?_;refine Bd func236 rfl ntmps236<|Sr<|Dd aN<|Zz<|Sr<|Dd (by exact uX rfl aLz rfl rfl)<|Dd (by exact bU (id:=3) rfl aK6 rfl rfl)<|Uu (kQ sizeOf275)<|Zz<|Sq<|Sq ?_;refine bA (t:=10) (n:=7) (X:=decide (k < 0)||decide (6≤k)) ?_ ?_
 ·all_goals refine Dd aF ?_
  all_goals refine Dd dK<|Dm ?_
  all_goals refine Sp 7 (fun h7=>?_) fun h7=>?_
  all_goals try contradiction
  all_goals first|refine Fo<|Fo ?_|refine On aF<|On DT ?_
  all_goals refine Dd cW<|Zz ?_
  all_goals(exact⟨⟨_,rfl,by(simp only [*,Zo];done)⟩,rfl,rfl,rfl⟩)
 refine Cn ?_ ?_<;>intro hc1
 ·have hn:¬ (k=1)∧¬ (k=2)∧¬ (k=3)∧¬ (k=4)∧¬ (k=5):=by
   simp only [Bool.or_eq_true,aOG] at hc1;omega
  refine Sr<|Dd aN<|Zz<|aC<|Rt ?_;exact⟨by simp only [eL,hn.1,hn.2.1,hn.2.2.1,hn.2.2.2.1,hn.2.2.2.2,if_false],rfl⟩
 have hb:0≤k∧k < 6:=by
  simp only [aOV,aOH] at hc1;omega
 exact aD<|Sr<|Dd aF<|Dd (by exact eH (m:=k.toNat) (k2:=k.toNat) rfl underlying275 sizeOf9 rfl rfl rfl rfl hb.1 rfl (by omega) (by omega))<|Dd (by exact aK rfl isAgg9 rfl rfl rfl rfl (aFl hb.1 hb.2))<|Dd aN<|Zz<|aC<|Rt<|Qq
def BK (k:Int):Int:=if k=2 then 2 else if k=3 then 3 else if k=4 then 1 else if k=5 then 3 else 0
theorem aEK {k:Int} (h0:0≤k) (h1:k < 6):[iv 0,iv 0,iv 2,iv 3,iv 1,iv 3][k.toNat]?=some (iv (BK k)):=by rcases six h0 h1 with rfl|rfl|rfl|rfl|rfl|rfl<;>rfl
theorem aAP (k:Int) (H:aB) (h0:0≤k) (h1:k < 6):aI Tryz.prog 266 [iv k] H (fun r H'=>r=iv (BK k)∧H'=H):=by refine Pu ?_;exact Bd func266 rfl ntmps266<|Sr<|Dd aN<|Zz<|Sr<|Dd (by exact uX rfl aLy rfl rfl)<|Dd aF<|Dd (by exact NY (m:=k.toNat) rfl underlying282 sizeOf3 isAgg3 rfl rfl h0 rfl (by omega) (aEK h0 h1))<|Dd aN<|Zz<|aC<|Rt<|Qq
def U7 (x y:Int):Bool:=((decide (0≤x)&&decide (x < 1048576))&&decide (0≤y))&&decide (y < 1048576)
theorem aMu (x y:Int) (H:aB):aI Tryz.prog 268 [.agg [iv x,iv y]] H (fun r H'=>r=bv (U7 x y)∧H'=H):=by
 refine Pu ?_;refine Bd func268 rfl ntmps268<|Sr<|Dd (by exact cH (id:=1) rfl rfl rfl rfl rfl)<|Dd aN<|Zz<|Sq ?_;refine bA (t:=2) (n:=22) (X:=U7 x y) ?_ ?_
 ·all_goals refine Dd (aV pS) ?_
  all_goals refine Dd (bM isAgg3)<|Dd DT<|Dm ?_
  all_goals refine Sp 6 (fun h6=>?_) fun h6=>?_
  all_goals try contradiction
  all_goals first|refine Fo<|Fo<|Fo ?_|refine On (aV pS)<|On (bM isAgg3)<|On dK ?_
  all_goals refine Dd cW<|Dm ?_
  all_goals refine Sp 11 (fun h11=>?_) fun h11=>?_
  all_goals try contradiction
  all_goals first|refine Fo<|Fo<|Fo ?_|refine On (aV pR)<|On (bM isAgg3)<|On DT ?_
  all_goals refine Dd cW<|Dm ?_
  all_goals refine Sp 16 (fun h16=>?_) fun h16=>?_
  all_goals try contradiction
  all_goals first|refine Fo<|Fo<|Fo ?_|refine On (aV pR)<|On (bM isAgg3)<|On dK ?_
  all_goals refine Dd cW<|Da ?_
  all_goals(exact⟨⟨_,rfl,by(simp only [U7, *];rfl)⟩,rfl,rfl,rfl⟩)
 exact aC<|Rt<|Qq
def IP (p:Nat→Bool) (n:Nat):Int:=match (List.range n).find? p with|some k=>(k:Int)|none => -1
def zT (p:Nat→Bool) (n:Nat):Nat:=match (List.range n).find? p with|some k=>k+1|none=>n
theorem zH {p:Nat→Bool} {n k:Nat} (hk:k < n) (hp:p k=true) (hno:∀ j,j < k→p j=false):(List.range n).find? p=some k:=by rw [List.find?_range_eq_some];exact⟨hp,by simpa using hk,fun j hj=>by simp [hno j hj]⟩
theorem zI {p:Nat→Bool} {n:Nat} (hno:∀ j,j < n→p j=false):(List.range n).find? p=none:=by rw [List.find?_eq_none];intro x hx;simp [hno x (List.mem_range.1 hx)]
theorem YE (fv:AV) (l:List ByteArray) (p:Nat→Bool) (Hs:Nat→aB) (hl:l.length < 4611686018427387904) (hf:∀ k s,l[k]?=some s→dD Tryz.prog fv [sv s] (Hs k) (fun r H'=>r=bv (p k)∧H'=Hs (k+1))) :
  aI Tryz.prog 124 [.pv (aX l),fv] (Hs 0) (fun r H'=>r=iv (IP p l.length)∧H'=Hs (zT p l.length)):=by
 have hml:(l.map encStr).length=l.length:=aNz _;refine Bd func124 rfl ntmps124<|Sr<|Dd aN<|Zz<|Sq<|Sr<|Dd aF<|Dd (fY aE)<|Dd aF<|Zz<|aG ?_;refine bT (σ:=Nat) (fun k=>([(0,.pv (aX l)),(1,fv),(7,iv ((l.map encStr).length:Int)),(8,iv (k:Int))],Hs k)) (fun k=>k≤l.length∧∀ j,j < k→p j=false) (fun k=>l.length - k) 0 ⟨by omega,by omega⟩ ?_ ?_
 ·exact E0
 rintro k ⟨hk,hno⟩;refine Sr<|Dd dK<|Zz<|Sq ?_;refine Cn ?_ ?_<;>intro hc1
 ·have hlt:k < l.length:=by have:=aNv hc1;omega
  obtain ⟨s,hs⟩:=aZ hlt;have hi:=cP (f:=encStr) hs;have hfo:=hf k s hs;refine aD<|Sq<|aG<|Sr<|Dd aF<|Dd aN<|Zz<|Sr<|Dd aF<|Dd aF<|Dd aF<|Dd (lN cA)<|Dd (jA isAgg9)<|Dd (by exact cR rfl rfl rfl (hfo))<|Zz ?_;refine Cn ?_ ?_<;>intro hc2
  ·refine Sr<|Dd aF<|Dd aN<|Zz<|aC ?_;exact dY (H':=Hs (k+1)) (.inr rfl) rfl (aY rfl) Fin.refl ⟨by rw [IP,zH hlt hc2 hno],by rw [zT,zH hlt hc2 hno]⟩
  refine aD<|Rg<|Dd lR<|Dd aF<|Zz ?_;refine⟨k+1,⟨by omega,fun j hj=>?_⟩,by omega,E0⟩;by_cases e:j=k
  ·subst e;exact hc2
  exact hno j (by omega)
 have hge:k=l.length:=by have:=aNw hc1;omega
 subst hge;refine bC<|Sr<|Dd aN<|Zz<|aC ?_;exact dY (H':=Hs l.length) (.inr rfl) rfl (aY rfl) Fin.refl ⟨by rw [IP,zI hno],by rw [zT,zI hno]⟩
theorem P8 (p:Nat→Bool) (n:Nat):decide (0≤IP p n)=(List.range n).any p:=by
 unfold IP;cases h:(List.range n).find? p with
 | none =>
  have:(List.range n).any p=false:=by
   rw [List.find?_eq_none] at h;rw [List.any_eq_false];exact h
  simp [this]
 | some i =>
  have:(List.range n).any p=true:=List.any_eq_true.2 ⟨i,List.mem_of_find?_eq_some h,List.find?_some h⟩;simp [this]
theorem qV (fv:AV) (l:List ByteArray) (p:Nat→Bool) (Hs:Nat→aB) (hl:l.length < 4611686018427387904) (hf:∀ k s,l[k]?=some s→dD Tryz.prog fv [sv s] (Hs k) (fun r H'=>r=bv (p k)∧H'=Hs (k+1))) :
  aI Tryz.prog 66 [.pv (aX l),fv] (Hs 0) (fun r H'=>r=bv ((List.range l.length).any p)∧H'=Hs (zT p l.length)):=by
 refine Bd func66 rfl ntmps66<|Sr<|Dd aN<|Zz<|Sr<|Dd aF<|Dd aF<|Dd (by exact aA rfl rfl call124 rfl (YE fv l p Hs hl hf))<|Dd DT<|Dd aN<|Zz<|aC ?_;exact dY (H':=Hs (zT p l.length)) (.inr rfl) rfl (aY rfl) Fin.refl ⟨by rw [P8],rfl⟩
theorem JN (L:List ByteArray) (H:aB):∀ r∈(sob L).rows,∀ a∈r,Clo H a:=by intro r hr a ha;obtain ⟨i,hi⟩:=aOU.1 hr;obtain ⟨p,hp,rfl⟩:=HA.1 hi;simp only [CV,aOT] at hp;obtain ⟨q,_,rfl⟩:=Option.map_eq_some_iff.1 hp;simp only [aOL,aOP,or_false] at ha;rcases ha with rfl|rfl|rfl<;>simp
def vH (o:GObj) (last:ByteArray) (L:List ByteArray):aB:=[(37,sob L),(4,bx 1 9 [sv last]),(3,bx 1 276 [.mp 37 0]),(1,bx 6 153 ((bQ o).map .pv))]
theorem aIi (o:GObj) (a:ByteArray) (L:List ByteArray) (f:Nat):Clo (vH o a L) (.clo f [.ref 1 0 0 0,.ref 4 0 0 0,.ref 3 0 0 0]):=by refine .clo fun x hx=>?_;simp only [aOL,aOP,or_false] at hx;rcases hx with rfl|rfl|rfl<;>exact .ref rfl
def MJ (o:GObj) (last:ByteArray) (L:List ByteArray) (s:ByteArray):Bool:=(decide (o.kind=2)&&decide (s=last))||(decide (o.kind=3)&&inB L s)
def HL (o:GObj) (last:ByteArray) (L:List ByteArray) (s:ByteArray):Bool:=MJ o last L s||!bP s
theorem aCh (o:GObj) (last s:ByteArray) (L:List ByteArray) (hs:s.size < 4611686018427387904) :
  aI Tryz.prog 267 [sv s,.ref 1 0 0 0,.ref 4 0 0 0,.ref 3 0 0 0] (vH o last L) (fun r H'=>r=bv (HL o last L s)∧H'=vH o s (I9 L s)):=by
 unfold vH;refine Bd func267 rfl ntmps267<|Sr<|Dd aN<|Zz<|Sq ?_;refine bA (t:=6) (n:=22) (X:=MJ o last L s) ?_ ?_
 ·all_goals refine Dd (aV dX) ?_
  all_goals refine Dd (bM isAgg3)<|Dd cT<|Dm ?_
  all_goals refine Sp 10 (fun h10=>?_) fun h10=>?_
  all_goals try contradiction
  all_goals first|refine Fo<|Fo<|Fo ?_|refine On aF<|On (bM isAgg9)<|On yJ ?_
  all_goals refine Dd cW<|Dm ?_
  all_goals refine Sp 15 (fun h15=>?_) fun h15=>?_
  all_goals try contradiction
  all_goals first|refine Fo<|Fo<|Fo<|Fo ?_|refine On (aV dX)<|On (bM isAgg3)<|On cT<|On aF ?_
  all_goals(first|refine Sp 19 (fun h19=>?_) fun h19=>?_|refine rX (t:=19) rfl ?_)
  all_goals try contradiction
  all_goals first|refine Fo ?_|refine Fu ?_|refine On (bM isAgg276) ?_
  all_goals first|refine Fo ?_|refine Fu ?_|refine On aF ?_
  all_goals first|refine Fo ?_|refine Fu ?_|refine On (by exact sB rfl oK underlying9 rfl rfl rfl rfl rfl mG (.inl rfl)) ?_
  all_goals first|refine Fo ?_|refine On cW ?_
  all_goals refine Dd cW<|Da ?_
  all_goals(exact⟨⟨_,rfl,by(simp only [MJ, *];rfl)⟩,rfl,rfl,rfl⟩)
 refine Sr<|Dd (bM isAgg276)<|Dd aF<|Dd aF<|Uu (by exact ON (.inl rfl) oK underlying9 rfl rfl rfl rfl rfl rfl rfl)<|Uu (kQ sizeOf9)<|Zz<|Sq ?_;refine bA (t:=5) (n:=8) (X:=MJ o last L s||!bP s) ?_ ?_
 ·all_goals refine Dd aF ?_
  all_goals refine Dm ?_
  all_goals refine Sp 29 (fun h29=>?_) fun h29=>?_
  all_goals try contradiction
  all_goals first|refine Fo<|Fo<|Fo ?_|refine On aF<|On (by exact aA rfl rfl oD rfl (yT s _ hs))<|On jS ?_
  all_goals refine Dd cW<|Da ?_
  all_goals(exact⟨⟨_,rfl,by(simp only [*];rfl)⟩,rfl,rfl,rfl⟩)
 refine aC ?_;refine dY (H':=vH o s (I9 L s)) (.inr rfl) rfl (aY rfl) (Fin.wk (by(simp;done)) (Hc (JN _ _)<|Hb<|Ha<|Hb<|trivial) ⟨rfl,rfl,rfl,rfl,trivial⟩) ?_;exact Qq
def wS (l:List ByteArray):Nat→List ByteArray
 | 0=>[]
 | k+1=>I9 (wS l k) ((l[k]?).getD sNil)
def pC (o:GObj) (k:Nat):Bool:=match o.refs[k]? with
 | some s=>HL o (eX id o.refs k) (wS o.refs k) s
 | none=>false
def MM (o:GObj):Bool:=if o.kind=1 then decide ((o.refs.length:Int)=0)&&U7 o.x o.y else if o.kind=5 then decide ((o.refs.length:Int)=3)&&(decide (o.x=0)&&decide (o.y=0))else decide (o.x=0)&&decide (o.y=0)
def rR (o:GObj) (n:Int):Bool:=decide (eL o.kind=sNil)||!bP o.id||!pN o.tags||decide (n < BK o.kind)||decide (2000 < n)
def IR (o:GObj):Bool:=rR o (o.refs.length:Int)
def kR (o:GObj):Bool:=!IR o&&(!((List.range o.refs.length).any (pC o))&&MM o)
def okO (o:GObj):Prop:=o.id.size < 4611686018427387904∧G5 o.tags∧o.refs.length < 4611686018427387904∧∀ s∈o.refs,s.size < 4611686018427387904
theorem wP {k:Int} (h:decide (eL k=sNil)=false):0≤k∧k < 6:=by
 by_cases h0:0≤k∧k < 6
 ·exact h0
 have:eL k=sNil:=by
  have hn:¬ (k=1)∧¬ (k=2)∧¬ (k=3)∧¬ (k=4)∧¬ (k=5):=by omega
  simp only [eL,hn.1,hn.2.1,hn.2.2.1,hn.2.2.2.1,hn.2.2.2.2,if_false]
 rw [this] at h;simp at h
theorem LO (o:GObj) (H:aB) (ho:okO o):aI Tryz.prog 239 [av (bQ o)] H (fun r H'=>r=bv (kR o)∧H'=H):=by
 refine Pu ?_;obtain ⟨h1,h2,h3,h4⟩:=ho;have hml:(o.refs.map encStr).length=o.refs.length:=aNz _;refine Bd func239 rfl ntmps239<|Sr<|Dd (by exact cH (id:=1) rfl rfl rfl rfl rfl)<|Dd aN<|Zz<|Sq<|Sq ?_;refine mW (t:=36) (n:=31) (X:=rR o ((o.refs.map encStr).length:Int)) ?_ ?_
 ·cases hg10:(decide (eL o.kind=sNil):Bool)
  ·cases hg16:(!bP o.id:Bool)
   ·cases hg22:(!pN o.tags:Bool)
    ·cases hg31:(decide (((o.refs.map encStr).length:Int) < BK o.kind):Bool)
     ·refine aO follows<|Cq (aV dX)<|Cq (bM isAgg3)<|Cq (by exact aA rfl rfl wH rfl (DG o.kind _))<|Cq yJ<|Cq aF<|Nf (aV nE)<|Nf (bM isAgg9)<|Nf (by exact aA rfl rfl oD rfl (yT o.id _ h1))<|Nf jS<|Cq nS<|Cq aF<|Nf (aV eU)<|Nf (bM cM)<|Nf (by exact aA rfl rfl aCV rfl (yE o.tags _ h2))<|Nf jS<|Cq nS<|Cq aF<|Nf (aV dO)<|Nf (bM aH)<|Nf (fY aE)<|Nf (aV dX)<|Nf (bM isAgg3)<|Nf (by exact aA rfl rfl call266 rfl (aAP o.kind _ (wP hg10).1 (wP hg10).2))<|Nf dK<|Cq nS<|Cq aF<|Nf (aV dO)<|Nf (bM aH)<|Nf (fY aE)<|Nf jE<|Cq nS<|bL<|Kr ?_;exact⟨rfl,⟨_,rfl,by(simp only [rR,hg10,hg16,hg22,hg31];rfl)⟩,rfl,rfl,rfl⟩
     refine aO follows<|Cq (aV dX)<|Cq (bM isAgg3)<|Cq (by exact aA rfl rfl wH rfl (DG o.kind _))<|Cq yJ<|Cq aF<|Nf (aV nE)<|Nf (bM isAgg9)<|Nf (by exact aA rfl rfl oD rfl (yT o.id _ h1))<|Nf jS<|Cq nS<|Cq aF<|Nf (aV eU)<|Nf (bM cM)<|Nf (by exact aA rfl rfl aCV rfl (yE o.tags _ h2))<|Nf jS<|Cq nS<|Cq aF<|Nf (aV dO)<|Nf (bM aH)<|Nf (fY aE)<|Nf (aV dX)<|Nf (bM isAgg3)<|Nf (by exact aA rfl rfl call266 rfl (aAP o.kind _ (wP hg10).1 (wP hg10).2))<|Nf dK<|Cq nS<|Cq aF<|Of<|Of<|Of<|Of<|Cq wX<|bL<|Kr ?_;exact⟨rfl,⟨_,rfl,by(simp only [rR,hg10,hg16,hg22,hg31];rfl)⟩,rfl,rfl,rfl⟩
    refine aO follows<|Cq (aV dX)<|Cq (bM isAgg3)<|Cq (by exact aA rfl rfl wH rfl (DG o.kind _))<|Cq yJ<|Cq aF<|Nf (aV nE)<|Nf (bM isAgg9)<|Nf (by exact aA rfl rfl oD rfl (yT o.id _ h1))<|Nf jS<|Cq nS<|Cq aF<|Nf (aV eU)<|Nf (bM cM)<|Nf (by exact aA rfl rfl aCV rfl (yE o.tags _ h2))<|Nf jS<|Cq nS<|Cq aF<|Of<|Of<|Of<|Of<|Of<|Of<|Of<|Cq wX<|Cq aF<|Of<|Of<|Of<|Of<|Cq cW<|bL<|Kr ?_;exact⟨rfl,⟨_,rfl,by(simp only [rR, *];rfl)⟩,rfl,rfl,rfl⟩
   refine aO follows<|Cq (aV dX)<|Cq (bM isAgg3)<|Cq (by exact aA rfl rfl wH rfl (DG o.kind _))<|Cq yJ<|Cq aF<|Nf (aV nE)<|Nf (bM isAgg9)<|Nf (by exact aA rfl rfl oD rfl (yT o.id _ h1))<|Nf jS<|Cq nS<|Cq aF<|Of<|Of<|Of<|Of<|Cq wX<|Cq aF<|Of<|Of<|Of<|Of<|Of<|Of<|Of<|Cq cW<|Cq aF<|Of<|Of<|Of<|Of<|Cq cW<|bL<|Kr ?_;exact⟨rfl,⟨_,rfl,by(simp only [rR, *];rfl)⟩,rfl,rfl,rfl⟩
  refine aO follows<|Cq (aV dX)<|Cq (bM isAgg3)<|Cq (by exact aA rfl rfl wH rfl (DG o.kind _))<|Cq yJ<|Cq aF<|Of<|Of<|Of<|Of<|Cq wX<|Cq aF<|Of<|Of<|Of<|Of<|Cq cW<|Cq aF<|Of<|Of<|Of<|Of<|Of<|Of<|Of<|Cq cW<|Cq aF<|Of<|Of<|Of<|Of<|Cq cW<|bL<|Kr ?_;exact⟨rfl,⟨_,rfl,by(simp only [rR, *];rfl)⟩,rfl,rfl,rfl⟩
 refine Cn ?_ ?_<;>intro hc1
 ·refine Sr<|Dd aN<|Zz<|aC<|Rt ?_;exact⟨by rw [kR,IR,← hml,hc1];rfl,rfl⟩
 refine aD<|Sr<|Dd (by exact A9 (id:=37) TP rfl rfl)<|Dd (by exact bU (id:=3) rfl aK5 rfl rfl)<|Uu (kQ sizeOf276)<|Zz<|Sr<|Dd (by exact bU (id:=4) rfl zo9 rfl rfl)<|Uu (kQ sizeOf9)<|Zz ?_;refine Y2 ([(1,.ref 1 0 0 0),(5,.clo 267 [.ref 1 0 0 0,.ref 4 0 0 0,.ref 3 0 0 0])]) (vH o sNil []) ?_ ?_
 ·refine Rg<|Dd (by exact gC rfl rfl)<|Da ?_;exact(cY.wk (Ea<|Ec (aIi _ _ _ _)<|trivial) (Hc (JN _ _)<|Hb<|Ha<|Hb<|trivial) trivial)
 refine Sq<|Sr<|Dd (aV dO)<|Dd (bM aH)<|Dd aF<|Dd (by exact aA rfl rfl S9 rfl (qV _ o.refs (pC o) (fun k=>vH o (eX id o.refs k) (wS o.refs k)) h3 (fun k s hk=>dD.clo call267 (by rw [pC,hk,vO hk];simp only [wS,hk];exact aCh o _ s _ (h4 s (aOJ hk))))))<|Zz ?_;refine Cn ?_ ?_<;>intro hc2
 ·refine Sr<|Dd aN<|Zz<|aC<|Rt ?_;exact⟨by rw [kR,hc2];simp,rfl⟩
 have hfin:kR o=MM o:=by have h:=hc1;rw [hml] at h;rw [kR,IR,h,hc2];rfl
 rw [hfin];clear hfin;generalize eX id o.refs (zT (pC o) o.refs.length)=la;generalize wS o.refs (zT (pC o) o.refs.length)=LL;unfold vH;refine aD<|Sq<|Sr<|Dd (aV dX)<|Dd (bM isAgg3)<|Zz<|aG<|Sr<|Dd cT<|Da ?_;refine Cn ?_ ?_<;>intro hc3
 ·refine Sq ?_;refine bA (t:=2) (n:=11) (X:=decide (((o.refs.map encStr).length:Int)=0)&&U7 o.x o.y) ?_ ?_
  ·all_goals refine Dd (aV dO) ?_
   all_goals refine Dd (bM aH)<|Dd (fY aE)<|Dd cT<|Dm ?_
   all_goals refine Sp 51 (fun h51=>?_) fun h51=>?_
   all_goals try contradiction
   all_goals first|refine Fo<|Fo<|Fo ?_|refine On (aV lD)<|On (by exact aL rfl dQ sizeOf73 rfl rfl rfl rfl (by simp only [Zl,bJ,bQ];rfl) rfl)<|On (by exact aA rfl rfl call268 rfl (aMu o.x o.y _)) ?_
   all_goals refine Dd cW<|Da ?_
   all_goals(exact⟨⟨_,rfl,by(simp_all;done)⟩,rfl,rfl,rfl⟩)
  refine aC<|Rt ?_;exact⟨by rw [MM,aNy (aNv hc3),← hml],rfl⟩
 refine Sr<|Dd cT<|Da ?_;refine Cn ?_ ?_<;>intro hc4
 ·refine Sq ?_;refine bA (t:=2) (n:=12) (X:=decide (((o.refs.map encStr).length:Int)=3)&&(decide (o.x=0)&&decide (o.y=0))) ?_ ?_
  ·all_goals refine Dd (aV dO) ?_
   all_goals refine Dd (bM aH)<|Dd (fY aE)<|Dd cT<|Dm ?_
   all_goals refine Sp 62 (fun h62=>?_) fun h62=>?_
   all_goals try contradiction
   all_goals first|refine Fo<|Fo<|Fo<|Fo ?_|refine On (aV lD)<|On (by exact aL rfl dQ sizeOf73 rfl rfl rfl rfl (by simp only [Zl,bJ,bQ];rfl) rfl)<|On (uQ VZ)<|On (by exact xC rfl rfl rfl rfl rfl gV (RM _ _ _ _)) ?_
   all_goals refine Dd cW<|Da ?_
   all_goals(exact⟨⟨_,rfl,by(simp_all;done)⟩,rfl,rfl,rfl⟩)
  refine aC<|Rt ?_;exact⟨by rw [MM,aNx (aNw hc3),aNy (aNv hc4),← hml],rfl⟩
 refine aD<|Sr<|Dd (aV lD)<|Dd (by exact aL rfl dQ sizeOf73 rfl rfl rfl rfl (by simp only [Zl,bJ,bQ];rfl) rfl)<|Dd (uQ VZ)<|Dd (by exact xC rfl rfl rfl rfl rfl gV (RM _ _ _ _))<|Dd aN<|Zz<|aC<|Rt ?_;exact⟨by rw [MM,aNx (aNw hc3),aNx (aNw hc4)],rfl⟩
section
def NI (n:Int):Prop:=(Lit.int .i64 n).wf=true
theorem NI.bd {n:Int} (h:NI n) : -9223372036854775808≤n∧n≤9223372036854775807:=by simpa [NI,Lit.wf,IntKind.min,IntKind.max,IntKind.signed,IntKind.bits] using h
def aCp (B:Nat) (t:GTag):Prop:=t.key.size≤B∧t.val.size≤B
def DJ (B:Nat) (l:List ByteArray):Prop:=l.length≤B∧∀ s,s∈l→s.size≤B
def W1 (B:Nat) (l:List GTag):Prop:=l.length≤B∧∀ s,s∈l→aCp B s
def aCq (B:Nat) (o:GObj):Prop:=o.id.size≤B∧NI o.kind∧NI o.x∧NI o.y∧DJ B o.refs∧W1 B o.tags
def RA (B:Nat) (e:GEdit):Prop:=NI e.op∧e.id.size≤B∧e.other.size≤B∧e.node.size≤B∧NI e.x∧NI e.y∧e.key.size≤B∧e.val.size≤B∧DJ B e.refs∧aCq B e.obj
def ZS (B:Nat) (l:List GEdit):Prop:=l.length≤B∧∀ e,e∈l→RA B e
section
variable {B n:Nat} {ps:List PV}
theorem HQ (h:Sh Tryz.prog B (n+2) 22 ps):∃ l,ps=[aX l]∧DJ B l:=by
 obtain ⟨l,rfl,h1,h2⟩:=JR (f:=encStr) (good:=fun s=>s.size≤B) aE h (fun r hr=>by
  obtain ⟨s,rfl,hs⟩:=pH underlying9 hr;exact⟨s,rfl,hs⟩)
 exact⟨l,rfl,h1,h2⟩
theorem aLp (h:Sh Tryz.prog B (n+2) 206 ps):∃ t,ps=bJ t∧aCp B t:=by obtain ⟨a,b,rfl,_,h1,a2,b2,rfl,_,h2,rfl⟩:=qJ underlying206 h;obtain ⟨k,rfl,hk⟩:=pH underlying9 h1;obtain ⟨v,rfl,hv⟩:=pH underlying9 h2;exact⟨⟨k,v⟩,rfl,hk,hv⟩
theorem aJt (h:Sh Tryz.prog B (n+3) 151 ps):∃ l,ps=[qI l]∧W1 B l:=by obtain ⟨l,rfl,h1,h2⟩:=JR (f:=bJ) (good:=aCp B) cS h (fun r hr=>aLp hr);exact⟨l,rfl,h1,h2⟩
theorem SP (h:Sh Tryz.prog B (n+2) 73 ps):∃ x y,ps=[.int .i64 x,.int .i64 y]∧NI x∧NI y:=by obtain ⟨a,b,rfl,_,h1,a2,b2,rfl,_,h2,rfl⟩:=qJ underlying73 h;obtain ⟨x,rfl,hx⟩:=vU underlying3 h1;obtain ⟨y,rfl,hy⟩:=vU underlying3 h2;exact⟨x,y,rfl,hx,hy⟩
theorem aLr (h:Sh Tryz.prog B (n+4) 153 ps):∃ o,ps=bQ o∧aCq B o:=by obtain ⟨_,_,rfl,_,h1,_,_,rfl,_,h2,_,_,rfl,_,h3,_,_,rfl,_,h4,_,_,rfl,_,h5,rfl⟩:=qJ iW h;obtain ⟨id,rfl,q1⟩:=pH underlying9 h1;obtain ⟨k,rfl,q2⟩:=vU underlying3 h2;obtain ⟨x,y,rfl,q3,q4⟩:=SP h3;obtain ⟨rs,rfl,q5⟩:=HQ h4;obtain ⟨ts,rfl,q6⟩:=aJt h5;exact⟨⟨id,k,x,y,rs,ts⟩,rfl,q1,q2,q3,q4,q5,q6⟩
end
theorem aB2 {B:Nat} {l:List GTag} (hB:B < 4611686018427387904) (h:W1 B l):G5 l:=⟨by have:=h.1;omega,fun t ht=>⟨by have:=(h.2 t ht).1;omega,by have:=(h.2 t ht).2;omega⟩⟩
theorem aJZ {B:Nat} {o:GObj} (hB:B < 4611686018427387904) (h:aCq B o):okO o :=⟨by have:=h.1;omega,aB2 hB h.2.2.2.2.2,by have:=h.2.2.2.2.1.1;omega,fun s hs=>by have:=h.2.2.2.2.1.2 s hs;omega⟩
end
end Go.Proofs.YtiifmppaejpemaaGreatDoor
namespace Go.Proofs.YtiifmppaejpemaaGreatDoor
open Go.Proofs.Tryz
open Go.Abs Go.ChangeShapes Go.WideShapes Go.ChangeAt Go.RowKit
theorem own:ownKnob Tryz.prog.godebug=none:=by kernel_rfl
theorem aAR:laidOutB Tryz.prog=true:=by kernel_rfl
theorem WW {H:Type} {l:List (DataW H)} (hk:Rows.uptoSmall H l=true):Rows.uptoBulkAll l≤1048576:=aNv hk
theorem aCD {H:Type} {l r:List (DataW H)} {n:Nat} (h:Rows.uptoBulkAll (l++r)≤n):Rows.uptoBulkAll l≤n:=by
 induction l generalizing n with
 | nil=>simp [Rows.uptoBulkAll]
 | cons x l ih =>
  simp only [List.cons_append,Rows.uptoBulkAll] at h ⊢;have:=ih (n:=n - Rows.uptoBulk x) (by omega);omega
end Go.Proofs.YtiifmppaejpemaaGreatDoor
namespace Go.Proofs.YtiifmppaejpemaaGreatDoor
open Go.Proofs.Tryz
open Go.Abs
section
section
variable {B n:Nat} {ps:List PV}
theorem aJv (h:Sh Tryz.prog B (n+5) 155 ps):∃ o,ps=aU o∧RA B o:=by obtain ⟨_,_,rfl,_,h1,_,_,rfl,_,h2,_,_,rfl,_,h3,_,_,rfl,_,h4,_,_,rfl,_,h5,_,_,rfl,_,h6,_,_,rfl,_,h7,_,_,rfl,_,h8,_,_,rfl,_,h9,rfl⟩:=qJ fE h;obtain ⟨op,rfl,q1⟩:=vU underlying3 h1;obtain ⟨id,rfl,q2⟩:=pH underlying9 h2;obtain ⟨ot,rfl,q3⟩:=pH underlying9 h3;obtain ⟨nd,rfl,q4⟩:=pH underlying9 h4;obtain ⟨x,y,rfl,q5,q6⟩:=SP h5;obtain ⟨k,rfl,q7⟩:=pH underlying9 h6;obtain ⟨v,rfl,q8⟩:=pH underlying9 h7;obtain ⟨rs,rfl,q9⟩:=HQ h8;obtain ⟨o,rfl,q10⟩:=aLr h9;exact⟨⟨op,id,ot,nd,x,y,k,v,rs,o⟩,rfl,q1,q2,q3,q4,q5,q6,q7,q8,q9,q10⟩
theorem aH3 (h:Sh Tryz.prog B (n+6) 23 ps):∃ l,ps=[hU l]∧ZS B l:=by obtain ⟨l,rfl,h1,h2⟩:=JR (f:=aU) (good:=RA B) cX h (fun r hr=>aJv hr);exact⟨l,rfl,h1,h2⟩
end
end
end Go.Proofs.YtiifmppaejpemaaGreatDoor
namespace Go.Abs
theorem cY.get' {G0:aB} {E E':cB} {H H':aB} (h:aF4 E E') (hH:∀ j,H'.get j=H.get j):cY G0 E H E' H':=(cY.e0 h).trans (cY.get (fun _=>rfl) hH)
theorem vL (id:Nat) (o o':Ob) (H:aB) (j:Nat):aB.get ((id,o)::H) j=aB.get ((id,o)::(id,o')::H) j:=by cases e:Nat.beq id j<;>simp [aB.get,e]
theorem cY.dup {G0:aB} {E E':cB} {H:aB} {id:Nat} {o o':Ob} (h:aF4 E E'):cY G0 E ((id,o)::(id,o')::H) E' ((id,o)::H):=cY.get' h (vL id o o' H)
theorem JF.app {D H G0:aB} (hG:∀ p∈D,G0.get p.1=none):JF G0 H (D++H):=fun id hi=>by
 rw [fP];cases e:D.get id with
 | none=>rfl
 | some o =>
  have:=hG _ (dW e);rw [this] at hi;cases hi
theorem Fin.pops' {G0 H:aB} {r:AV} (D:aB) (hr:Clo H r) (hc:eG H) (hD:∀ p∈D,H.get p.1=none) (hG:∀ p∈D,G0.get p.1=none):Fin G0 (D++H) r H r:=by intro G hG' I ι w v h1 h2 h3;subst hG';exact⟨I,ι,h1.restrict (Sub.app hD) hc,h2.restrict (Sub.app hD) (JF.app hG),h3.restrict (Sub.app hD) hr⟩
end Go.Abs
namespace Go.Proofs.YtiifmppaejpemaaGreatDoor
open Go.Proofs.Tryz
open Go.Abs
theorem pW:∀ (x y:List UInt8),Op.bytesLess x y=decide (x < y)
 | [],[]=>by simp [Op.bytesLess]
 | _::_,[]=>by simp [Op.bytesLess]
 | [],_::_=>by simp [Op.bytesLess]
 | a::x,b::y=>by
  rw [Op.bytesLess,pW x y];simp only [List.cons_lt_cons_iff];by_cases h1:a < b<;>by_cases h2:a=b<;>by_cases h3:x < y<;>simp [h1,h2,h3]
theorem ZY (s:ByteArray):AG s s=false:=by unfold AG;rw [pW];exact decide_eq_false (List.lt_irrefl _)
theorem RE {a b:ByteArray} (h1:AG a b=false) (h2:AG b a=false):a=b:=by
 unfold AG at h1 h2;rw [pW] at h1 h2;have e:a.toList=b.toList:=List.le_antisymm (List.not_lt.1 (aNw h2)) (List.not_lt.1 (aNw h1));have:=tV a b;rw [e] at this
 simpa using this.symm
theorem O2 {a b c:ByteArray} (h1:AG a b=true) (h2:AG b c=true):AG a c=true:=by unfold AG at *;rw [pW] at *;exact decide_eq_true (List.lt_trans (aNv h1) (aNv h2))
theorem ZX (s:ByteArray):AG s sNil=false:=by unfold AG;rw [pW,ByteArray.toList_eq sNil];exact decide_eq_false (List.not_lt_nil _)
theorem JP {a b:ByteArray}:sle a b=false↔AG b a=true:=by
 unfold sle;constructor
 ·intro h;simp only [aOV,aOH] at h;cases e:AG b a with
  | true=>rfl
  | false=>exact absurd (RE h.1 e) h.2
 intro h;simp only [aOV,aOH];refine⟨?_,fun e=>?_⟩
 ·cases e:AG a b with
  | false=>rfl
  | true=>have:=O2 e h;rw [ZY] at this;cases this
 subst e;rw [ZY] at h;cases h
theorem ML {s:ByteArray} (h:bP s=true):s≠sNil:=by simp only [bP,aOI,aOS,aOH] at h;exact h.2.1
theorem JC (fv:AV) (l:List GEdit) (p:GEdit→Bool) (H:aB) (hl:l.length < 4611686018427387904) (hf:∀ o,o∈l→dD Tryz.prog fv [.agg ((aU o).map .pv)] H (fun r H'=>r=.pv (.bool (p o))∧H'=H)) :
    aI Tryz.prog 246 [.pv (.sl (l.map aU)),fv] H (fun r H'=>r=.pv (.int .i64 (vY p l))∧H'=H):=by
  refine Bd func246 rfl ntmps246<|Sr<|Dd aN<|Zz<|Sq<|Sr<|Dd aF<|Dd (fY cX)<|Dd aF<|Zz<|aG ?_;refine bT (σ:=Nat) (fun k=>([(0,.pv (.sl (l.map aU))),(1,fv),(7,.pv (.int .i64 (l.map aU).length)),(8,.pv (.int .i64 (k:Int)))],H)) (fun k=>k≤l.length∧∀ j,j < k→∀ b,l[j]?=some b→p b=false) (fun k=>l.length - k) 0 ⟨by omega,by omega⟩ ?_ ?_
  · exact E0
  · rintro k ⟨hk,hno⟩
    refine Sr<|Dd dK<|Zz<|Sq ?_;refine Cn ?_ ?_<;>intro hc1
    · have hlt:k < l.length:=by simpa using hc1
      obtain ⟨o,ho⟩:=aZ hlt;have hi:=cP (f:=aU) ho;have hfo:=hf o (aOJ ho);refine aD<|Sq<|aG<|Sr<|Dd aF<|Dd aN<|Zz<|Sr<|Dd aF<|Dd aF<|Dd aF<|Dd (lN RD)<|Dd (by exact dL rfl bZ aS rfl (by omega) (by simp only [Zl,aU];rfl) rfl)<|Dd (by exact cR rfl rfl rfl (hfo))<|Zz ?_;refine Cn ?_ ?_<;>intro hc2
      · skip
        refine Sr<|Dd aF<|Dd aN<|Zz<|aC ?_;exact dY (H':=H) (.inr rfl) rfl (aY rfl) Fin.refl ⟨by rw [vY,QC hno ho hc2],rfl⟩
      · skip
        refine aD<|Rg<|Dd lR<|Dd aF<|Zz ?_;refine⟨k+1,⟨by omega,fun j hj b hb=>?_⟩,by omega,E0⟩;by_cases e:j=k
        · subst e;rw [ho] at hb;cases hb;exact hc2
        · exact hno j (by omega) b hb
    · have hge : k = l.length := by have : l.length ≤ k := by simpa using hc1
                                    omega
      subst hge;refine bC<|Sr<|Dd aN<|Zz<|aC ?_;exact dY (H':=H) (.inr rfl) rfl (aY rfl) Fin.refl ⟨by rw [vY,QD hno],rfl⟩
def aNA (id:ByteArray) (o:GObj):Bool:=decide (o.id=id)
def onP (x y:Int):Bool:=decide (0≤min x y)&&decide (max x y < 1048576)
theorem D0 (fv:AV) (l:List GEdit) (p:GEdit→Bool) (H:aB) (hl:l.length < 4611686018427387904) (hf:∀ o,o∈l→dD Tryz.prog fv [.agg ((aU o).map .pv)] H (fun r H'=>r=.pv (.bool (p o))∧H'=H)) :
  aI Tryz.prog 207 [.pv (.sl (l.map aU)),fv] H (fun r H'=>r=.pv (.bool (l.any p))∧H'=H):=by
 refine aI.body func207 rfl ntmps207 (aOM rfl) ?_;refine F5 ?_;refine zN ?_;refine Y6 rfl rfl rfl (by exact tO rfl rfl) ?_;refine Y5 ?_;refine F5 ?_;refine zN ?_;refine Y6 rfl rfl rfl (by exact fO rfl rfl) ?_;refine Y6 rfl rfl rfl (by exact fO rfl rfl) ?_;refine Y6 rfl rfl rfl (by exact aA rfl rfl call246 rfl (JC fv l p H hl hf)) ?_;refine Y6 rfl rfl rfl (by exact FA rfl rfl rfl) ?_;refine Y6 rfl rfl rfl (by exact tO rfl rfl) ?_;refine Y5 ?_;refine aC ?_;exact dY (H':=H) (.inr rfl) rfl (aY rfl) Fin.refl ⟨by rw [aE3],rfl⟩
def rY (a b:GTag):Bool:=decide (a.key=b.key)&&decide (a.val=b.val)
def oE:List GTag→List GTag→Bool
 | [],[]=>true
 | a::l,b::r=>rY a b&&oE l r
 | _,_=>false
theorem OY (a b:GTag):rY a b=true↔a=b:=by cases a;cases b;simp [rY]
theorem OU:∀ (a b:List GTag),a.length≠b.length→oE a b=false
 | [],[],h=>absurd rfl h
 | [],_::_,_=>rfl
 | _::_,[],_=>rfl
 | x::a,y::b,h=>by rw [oE,OU a b (by simpa using h)];simp
theorem OV:∀ (a b:List GTag) (k:Nat) (x y:GTag),a[k]?=some x→b[k]?=some y→rY x y=false→oE a b=false
 | [],_,k,x,y,h,_,_=>by simp at h
 | _::_,[],k,x,y,_,h,_=>by simp at h
 | u::a,v::b,0,x,y,h1,h2,h=>by cases h1;cases h2;rw [oE,h];rfl
 | u::a,v::b,k+1,x,y,h1,h2,h=>by rw [oE,OV a b k x y h1 h2 h];simp
theorem KS:∀ (a b:List GTag),a.length=b.length→(∀ k,k < a.length→∀ x y,a[k]?=some x→b[k]?=some y→rY x y=true)→oE a b=true
 | [],[],_,_=>rfl
 | [],_::_,h,_=>by simp at h
 | _::_,[],h,_=>by simp at h
 | u::a,v::b,hl,h=>by
  rw [oE,h 0 (by simp) u v rfl rfl,KS a b (by simpa using hl) (fun k hk x y h1 h2=>h (k+1) (by simpa using hk) x y h1 h2)];rfl
theorem VG (a b : List GTag) (H : aB) (ha : a.length < 4611686018427387904) :
    aI Tryz.prog 276 [lv (a.map bJ),lv (b.map bJ)] H (fun r H'=>r=bv (oE a b)∧H'=H):=by
  refine Pu ?_;refine Bd func276 rfl ntmps276<|Sr<|Dd aN<|Zz<|Sq<|Sr<|Dd aF<|Dd (fY cS)<|Dd aF<|Dd (fY cS)<|Dd AI<|Zz ?_;refine Cn ?_ ?_<;>intro hc1
  · have hne:a.length≠b.length:=by simp at hc1;omega
    refine Sr<|Dd aN<|Zz<|aC<|Rt ?_;exact⟨by rw [OU a b hne],rfl⟩
  · have heq : a.length = b.length := by simp at hc1; omega
    refine aD<|Sq<|Sr<|Dd aF<|Dd (fY cS)<|Dd aF<|Zz<|aG ?_;refine bT (σ:=Nat) (fun k=>([(0,lv (a.map bJ)),(1,lv (b.map bJ)),(12,iv (a.map bJ).length),(13,iv (k:Int))],[])) (fun k=>k≤a.length∧∀ j,j < k→∀ x y,a[j]?=some x→b[j]?=some y→rY x y=true) (fun k=>a.length - k) 0 ⟨by omega,by omega⟩ ?_ ?_
    · exact E0
    · rintro k ⟨hk,hall⟩
      refine Sr<|Dd dK<|Zz<|Sq ?_;refine Cn ?_ ?_<;>intro hc2
      · have hlt:k < a.length:=by simpa using hc2
        obtain ⟨x,hx⟩:=aZ hlt;obtain ⟨y,hy⟩:=aZ (l:=b) (k:=k) (by omega);have hi:=cP (f:=bJ) hx;have hi2:=cP (f:=bJ) hy;refine aD<|Sq<|aG<|Sr<|Dd aF<|Dd aN<|Zz<|Sq<|aO follows<|Cq aF<|Cq aF<|Cq (lN jF)<|Cq (by exact dL rfl sU jH rfl (by omega) (by simp only [Zl,bJ,bQ,aU];rfl) rfl)<|Cq aF<|Cq aF<|Cq (lN jF)<|Cq (by exact dL rfl sU jH rfl (by omega) (by simp only [Zl,bJ,bQ,aU];rfl) rfl)<|Cq (by exact xB rfl rfl rfl rfl rfl eqGuardType206 (aIF _ _ _ _))<|bL<|Kr ?_;refine Cn ?_ ?_<;>intro hc3
        · have ht:rY x y=false:=by
            have h:(!rY x y)=true:=hc3
            simpa using h
          refine Sr<|Dd aN<|Zz<|aC<|Rt ?_;exact⟨by rw [OV a b k x y hx hy ht],rfl⟩
        · have ht:rY x y=true:=by
            have h:(!rY x y)=false:=hc3
            simpa using h
          refine aD<|Rg<|Dd lR<|Dd aF<|Zz ?_;refine⟨k+1,⟨by omega,fun j hj x' y' h1 h2=>?_⟩,by omega,E0⟩;by_cases e:j=k
          · subst e;rw [hx] at h1;rw [hy] at h2;cases h1;cases h2;exact ht
          · exact hall j (by omega) x' y' h1 h2
      · have hge : k = a.length := by have : a.length ≤ k := by simpa using hc2
                                      omega
        subst hge;refine bC<|Sr<|Dd aN<|Zz<|aC<|Rt ?_;exact⟨by rw [KS a b heq hall],rfl⟩
def zW (n:Int) (s:ByteArray):Bool:=decide (n < (s.size:Int))
def aEB (n:Int) (t:GTag):Bool:=decide (n < IntKind.i64.wrap ((t.key.size:Int)+(t.val.size:Int)))
def aIJ (o:GObj):Prop:=o.refs.length < 4611686018427387904∧o.tags.length < 4611686018427387904
def DF (o:GObj) (n:Int):Bool:=(zW 300 o.id||decide (n < (o.refs.length:Int))||decide (65 < (o.tags.length:Int)))||o.refs.any (zW 300)||o.tags.any (aEB 600)
theorem aHT (o:GObj) (n:Int) (H:aB) (hok:aIJ o) :
  aI Tryz.prog 157 [av (bQ o),iv n] H (fun r H'=>r=bv (!DF o n)∧H'=H):=by
 refine Pu ?_;have hrl:(o.refs.map encStr).length=o.refs.length:=aNz _;have htl:(o.tags.map bJ).length=o.tags.length:=aNz _;have h1:=hok.1;have h2:=hok.2;refine Bd func157 rfl ntmps157<|Sr<|Dd (by exact cH (id:=2) rfl rfl rfl rfl rfl)<|Dd aN<|Zz<|Sq<|Sq ?_;refine bA (t:=23) (n:=19) (X:=zW 300 o.id||decide (n < ((o.refs.map encStr).length:Int))||decide (65 < ((o.tags.map bJ).length:Int))) ?_ ?_
 ·all_goals refine Dd (aV nE) ?_
  all_goals refine Dd (bM isAgg9)<|Dd (lH underlying9)<|Dd jE<|Dm ?_
  all_goals refine Sp 11 (fun h11=>?_) fun h11=>?_
  all_goals try contradiction
  all_goals first|refine Fo<|Fo<|Fo<|Fo<|Fo ?_|refine On (aV dO)<|On (bM aH)<|On (fY aE)<|On aF<|On jE ?_
  all_goals refine Dd cW<|Dm ?_
  all_goals refine Sp 18 (fun h18=>?_) fun h18=>?_
  all_goals try contradiction
  all_goals first|refine Fo<|Fo<|Fo<|Fo ?_|refine On (aV eU)<|On (bM cM)<|On (fY cS)<|On jE ?_
  all_goals refine Dd cW<|Zz ?_
  all_goals(exact⟨⟨_,rfl,by first|(simp only [zW, *];rfl)|(simp_all [zW];done)|(simp_all [zW];omega)⟩,rfl,rfl,rfl⟩)
 refine Cn ?_ ?_<;>intro hc1
 ·rw [hrl,htl] at hc1;refine Sr<|Dd aN<|Zz<|aC<|Rt ?_;exact⟨by rw [DF,hc1];rfl,rfl⟩
 rw [hrl,htl] at hc1;have hb1:DF o n=(o.refs.any (zW 300)||o.tags.any (aEB 600)):=by rw [DF,hc1];rfl
 refine aD<|Sq<|Sr<|Dd aN<|Zz<|aG ?_;refine bT (σ:=Nat) (fun q=>([(2,.ref 2 0 0 0),(5,iv (q:Int))],[(2,bx 6 153 ((bQ o).map .pv))])) (fun q=>q≤o.refs.length∧∀ j,j < q→∀ b,o.refs[j]?=some b→zW 300 b=false) (fun q=>o.refs.length - q) 0 ⟨by omega,by omega⟩ ?_ ?_
 ·exact Wk
 rintro q ⟨hq,hnr⟩;refine Sq<|Sr<|Dd aF<|Dd (aV dO)<|Dd (bM aH)<|Dd (fY aE)<|Dd dK<|Zz ?_;refine Cn ?_ ?_<;>intro hc2
 ·have hlt2:q < o.refs.length:=by simpa using hc2
  obtain ⟨s,hs⟩:=aZ hlt2;have hse:=cP (f:=encStr) hs;refine aD<|Sq<|aG<|Sr<|Dd (aV dO)<|Dd (bM aH)<|Dd aF<|Dd (lN cA)<|Dd (jA isAgg9)<|Dd (lH underlying9)<|Dd jE<|Zz ?_;refine Cn ?_ ?_<;>intro hc3
  ·have hbad:DF o n=true:=by rw [hb1,xR hs hc3];rfl
   refine Sr<|Dd aN<|Zz<|aC<|Rt ?_;exact⟨by rw [hbad];rfl,rfl⟩
  refine aD<|Rg<|Dd aF<|Dd lR<|Da ?_;exact⟨q+1,⟨by omega,tM hnr hs hc3⟩,by omega,Wk⟩
 have hge:q=o.refs.length:=by
  have:o.refs.length≤q:=by simpa using hc2
  omega
 subst hge;rw [B0 hnr,Bool.false_or] at hb1;refine bC<|Sq<|Sr<|Dd aN<|Zz<|aG ?_;refine bT (σ:=Nat) (fun q=>([(2,.ref 2 0 0 0),(6,iv (q:Int))],[(2,bx 6 153 ((bQ o).map .pv))])) (fun q=>q≤o.tags.length∧∀ j,j < q→∀ b,o.tags[j]?=some b→aEB 600 b=false) (fun q=>o.tags.length - q) 0 ⟨by omega,by omega⟩ ?_ ?_
 ·exact Wk
 rintro q ⟨hq,hnt⟩;refine Sq<|Sr<|Dd aF<|Dd (aV eU)<|Dd (bM cM)<|Dd (fY cS)<|Dd dK<|Zz ?_;refine Cn ?_ ?_<;>intro hc4
 ·have hlt2:q < o.tags.length:=by simpa using hc4
  obtain ⟨s,hs⟩:=aZ hlt2;have hse:=cP (f:=bJ) hs;refine aD<|Sq<|aG<|Sq<|aO follows<|Cq (aV eU)<|Cq (bM cM)<|Cq aF<|Cq (lN jF)<|Cq (OD mE)<|Cq (jA isAgg9)<|Cq (lH underlying9)<|Cq (aV eU)<|Cq (bM cM)<|Cq aF<|Cq (lN jF)<|Cq (OD nC)<|Cq (jA isAgg9)<|Cq (lH underlying9)<|Cq (by exact cI rfl rfl rfl rfl)<|Cq jE<|bL<|Kr ?_;refine Cn ?_ ?_<;>intro hc5
  ·have hbad:DF o n=true:=by rw [hb1,xR hs hc5]
   refine Sr<|Dd aN<|Zz<|aC<|Rt ?_;exact⟨by rw [hbad];rfl,rfl⟩
  refine aD<|Rg<|Dd aF<|Dd lR<|Da ?_;exact⟨q+1,⟨by omega,tM hnt hs hc5⟩,by omega,Wk⟩
 have hge:q=o.tags.length:=by
  have:o.tags.length≤q:=by simpa using hc4
  omega
 subst hge;have hgood:DF o n=false:=by rw [hb1,B0 hnt]
 refine bC<|Sr<|Dd aN<|Zz<|aC<|Rt ?_;exact⟨by rw [hgood];rfl,rfl⟩
end Go.Proofs.YtiifmppaejpemaaGreatDoor
namespace Go.Abs
section
theorem Clo.up {H H':aB} (hs:∀ i,(H.get i).isSome=true→(H'.get i).isSome=true) {a:AV} (h:Clo H a):Clo H' a:=by
 induction h with
 | any=>exact .any
 | pv p=>exact .pv p
 | pad rows i k=>exact .pad rows i k
 | ref h=>exact .ref (hs _ h)
 | osl h=>exact .osl (hs _ h)
 | clo h ih=>exact .clo ih
 | bnd h ih=>exact .bnd ih
 | agg h ih=>exact .agg ih
 | tup h ih=>exact .tup ih
 | mp h=>exact .mp (hs _ h)
 | it h=>exact .it (hs _ h)
 | yld h=>exact .yld (hs _ h)
 | raw x ts=>exact .raw x ts
 | osc h=>exact .osc (hs _ h)
theorem Clo.app {D K:aB} {a:AV} (h:Clo K a):Clo (D++K) a:=h.up fun i hi=>by
 rw [fP];cases D.get i with
 | none=>exact hi
 | some o=>rfl
theorem eG.app {D K:aB} (h3:∀ p∈D,∀ r∈p.2.rows,∀ a∈r,Clo (D++K) a) (h4:eG K):eG (D++K):=by
 intro id o ho;rw [fP] at ho;cases e:D.get id with
 | some x =>
  rw [e] at ho;cases ho;exact h3 _ (dW e)
 | none =>
  rw [e] at ho;exact fun r hr a ha=>(h4 id o ho r hr a ha).app
theorem Sub.front {D D' K:aB} (h1:∀ p∈D,K.get p.1=none) (h2:∀ p∈D',D.get p.1=some p.2):Sub (D'++K) (D++K):=by
 intro id o ho;rw [fP] at ho ⊢;cases e:D'.get id with
 | some x =>
  rw [e] at ho;cases ho;rw [h2 _ (dW e)]
 | none =>
  rw [e] at ho;cases e2:D.get id with
  | none=>exact ho
  | some x =>
   have:=h1 _ (dW e2);rw [this] at ho;cases ho
theorem JF.front {G0 D D' K:aB} (h2:∀ p∈D',D.get p.1=some p.2) (h5:∀ p∈D,G0.get p.1=none):JF G0 (D'++K) (D++K):=by
 intro id hi;have hD:D.get id=none:=by
  cases e:D.get id with
  | none=>rfl
  | some x =>
   have:=h5 _ (dW e);rw [this] at hi;cases hi
 have hD':D'.get id=none:=by
  cases e:D'.get id with
  | none=>rfl
  | some x =>
   have:=h2 _ (dW e);rw [hD] at this;cases this
 rw [fP,fP,hD,hD']
theorem cY.front {G0:aB} {E E':cB} {K:aB} (D D':aB) (hE:EOk E (D'++K) E') (h1:∀ p∈D,K.get p.1=none) (h2:∀ p∈D',D.get p.1=some p.2) (h3:∀ p∈D',∀ r∈p.2.rows,∀ a∈r,Clo (D'++K) a) (h4:eG K)
  (h5:∀ p∈D,G0.get p.1=none):cY G0 E (D++K) E' (D'++K):=by
 intro G hG N a w hs;obtain ⟨I,ι,hr,hst,he⟩:=hs.rel;subst hG;have hsub:=Sub.front h1 h2;refine⟨hs.defers,hs.size,I,ι,hr.restrict hsub (eG.app h3 h4),hst.restrict hsub (JF.front h2 h5),fun t v ht=>?_⟩;obtain ⟨k1,k2⟩:=hE.spec _ (gD ht);obtain ⟨c,hc,hv⟩:=he t v k1;exact⟨c,hc,hv.restrict hsub k2⟩
section
variable {F:Fence} {n:Nat} {P:Program} {b:Frame} {a:Act} {k:List Item} {cs:List Frame} {w:World} {Q:Exit→Act→World→Prop}
theorem oQ {c:Code}:step P (lone (b.atR a (.code (.scope c)::k)) cs w)=.next (lone (b.atR a (.code c::.inScope c::k)) cs w) :=step_lone_go (by simp [stepG,stepG.exec,Frame.atR])
theorem NK {c:Code}:step P (lone (b.atR a (.inScope c::k)) cs w)=.next (lone (b.atR a k) cs w) :=step_lone_go (by simp [stepG,stepG.exec,Frame.atR])
theorem CU {c:Code} (h:c.wpIn F n P (Exit.noGoto Q) a w):(Code.scope c).wpIn F n P Q a w:=by
 intro b k cs hro hb hr;have h0:(lone (b.atR a (.code (.scope c)::k)) cs w).fenced P F:=fenced_calm hb hr rfl;obtain ⟨e,a₁,w₁,hq,harr⟩:=h b (.inScope c::k) cs hro hb hr;cases e with
 | normal=>exact⟨.normal,a₁,w₁,hq,.head h0 oQ (StepsIn.trans harr (.one (fenced_calm hb hr rfl) NK))⟩
 | exit id =>
  have hx:exitTo id (.inScope c::k)=exitTo id k:=by simp [exitTo]
  exact⟨_,a₁,w₁,hq,fun k' hk=>.head h0 oQ (harr.1 k' (by rw [hx];exact hk)),
   fun hr' hk=>let ⟨k₁,h1,h2⟩:=harr.2 hr' (by rw [hx];exact hk);⟨k₁,h1,.head h0 oQ h2⟩⟩
 | goto l=>exact hq.elim
 | ret=>exact⟨_,a₁,w₁,hq,.of_steps (.one h0 oQ) harr⟩
 | panic ch=>exact⟨_,a₁,w₁,hq,.of_steps (.one h0 oQ) harr⟩
 | outgrown=>exact⟨_,a₁,w₁,hq,.of_steps (.one h0 oQ) harr⟩
end
def aHy (Q:Exit→cB→aB→Prop):Exit→cB→aB→Prop
 | .goto _,_,_=>False
 | e,E,H=>Q e E H
theorem aCH {P:Program} {G0:aB} {N:Nat} {E:cB} {H:aB} {Q:Exit→cB→aB→Prop} {c:Code} (h:gK P G0 N c (aHy Q) E H):gK P G0 N (.scope c) Q E H:=by intro G hG a w hs ro hr;refine CU (wpIn_mono (h G hG a w hs ro hr) ?_);rintro e a' w' ⟨E',H',q,s⟩;cases e<;>first|exact⟨E',H',q,s⟩|exact q.elim
theorem uJ {P:Program} {G0:aB} {N:Nat} {E:cB} {H H2:aB} {ops:Array Oper} {id n t:Nat} {d:Bool} {X:Bool} {Q:Exit→cB→aB→Prop} (h:gK P G0 N (.region id ops d) (fun e E1 H1=>e=.normal∧Q0 n t X E H2 E1 H1) E H) (hk:Q .normal ((t,.pv (.bool X))::E) H2):gK P G0 N (.region id ops d) Q E H:=by intro G hG a w hs ro hr;refine wpIn_mono (h G hG a w hs ro hr) ?_;rintro e a' w' ⟨E1,H1,⟨rfl,hm⟩,hs'⟩;exact⟨_,_,hk,(hm.ent (G0:=G0)) G hG N a' w' hs'⟩
def GB (H:aB):aB→Prop
 | []=>True
 | (_,o)::r=>(∀ r∈o.rows,∀ a∈r,Clo H a)∧GB H r
theorem GB.spec {H:aB}:∀ {L:aB},GB H L→∀ p∈L,∀ r∈p.2.rows,∀ a∈r,Clo H a
 | (i,o)::L,h,p,hp=>by
  rcases aOL.1 hp with rfl|hp
  ·exact h.1
  exact GB.spec h.2 p hp
theorem eG.ofL {H:aB} (h:GB H H):eG H:=fun _ _ ho=>h.spec _ (dW ho)
def lo (D:aB) (n:Nat):Prop:=∀ p∈D,900≤p.1∧p.1 < n
def clear (K:aB):Prop:=∀ i,900≤i→i < 1000→K.get i=none
theorem Fin.of_ent {G0 H H':aB} {r r':AV} (h:cY G0 [(0,r)] H [(0,r')] H'):Fin G0 H r H' r':=by
 intro G hG I ι w v h1 h2 h3;obtain ⟨_,_,I',ι',k1,k2,k3⟩:=h G hG 1 ⟨#[v],G.ds⟩ w ⟨qD.nil _ _ _,rfl,I,ι,h1,h2,fun t x hx=>by
  simp only [cB.get] at hx;cases e:Nat.beq 0 t with
  | true=>rw [e] at hx;cases hx;rw [← Nat.eq_of_beq_eq_true e];exact⟨v,rfl,h3⟩
  | false=>rw [e] at hx;cases hx⟩
 obtain ⟨c,hc,hv⟩:=k3 0 r' rfl;cases hc;exact⟨I',ι',k1,k2,hv⟩
theorem Sub.front' {D D' K:aB} (h1:∀ p∈D,(D'.get p.1).isSome=true∨K.get p.1=none) (h2:∀ p∈D',D.get p.1=some p.2):Sub (D'++K) (D++K):=by
 intro id o ho;rw [fP] at ho ⊢;cases e:D'.get id with
 | some x =>
  rw [e] at ho;cases ho;rw [h2 _ (dW e)]
 | none =>
  rw [e] at ho;cases e2:D.get id with
  | none=>exact ho
  | some x =>
   rcases h1 _ (dW e2)with h|h
   ·simp only [e] at h;cases h
   rw [h] at ho;cases ho
theorem JF.front' {G0 D D' K:aB} (h2:∀ p∈D',D.get p.1=some p.2) (h5:∀ p∈D,(D'.get p.1).isSome=true∨G0.get p.1=none):JF G0 (D'++K) (D++K):=by
 intro id hi;rw [fP,fP];cases e:D'.get id with
 | some x=>rw [h2 _ (dW e)]
 | none =>
  cases e2:D.get id with
  | none=>rfl
  | some x =>
   rcases h5 _ (dW e2)with h|h
   ·simp only [e] at h;cases h
   rw [h] at hi;cases hi
theorem Fin.front' {G0 K:aB} {r:AV} (D D':aB) (hr:Clo (D'++K) r) (h1:∀ p∈D,(D'.get p.1).isSome=true∨K.get p.1=none) (h2:∀ p∈D',D.get p.1=some p.2) (h3:∀ p∈D',∀ r∈p.2.rows,∀ a∈r,Clo (D'++K) a) (h4:eG K)
  (h5:∀ p∈D,(D'.get p.1).isSome=true∨G0.get p.1=none):Fin G0 (D++K) r (D'++K) r:=by
 intro G hG I ι w v k1 k2 k3;subst hG;have hsub:=Sub.front' h1 h2;exact⟨I,ι,k1.restrict hsub (eG.app h3 h4),k2.restrict hsub (JF.front' h2 h5),k3.restrict hsub hr⟩
theorem Fin.get' {G0 H H':aB} {r:AV} (hH:∀ j,H'.get j=H.get j):Fin G0 H r H' r:=Fin.of_ent (cY.get' ⟨⟨_,rfl,rfl⟩,trivial⟩ hH)
end
end Go.Abs
namespace Go.Proofs.YtiifmppaejpemaaGreatDoor
open Go.Proofs.Tryz
open Go.Abs
theorem KR:∀ {a b:List GTag},oE a b=true↔a=b
 | [],[]=>by simp [oE]
 | [],_::_=>by simp [oE]
 | _::_,[]=>by simp [oE]
 | x::a,y::b=>by rw [oE,aOI,OY,KR];simp
theorem aMe (a0 b0 a1 b1 a2 b2 a3 b3:ByteArray) (w:World):(Op.equalIn 10000 280 (.agg [.string a0,.string a1,.string a2,.string a3].toArray) (.agg [.string b0,.string b1,.string b2,.string b3].toArray)).run Tryz.prog w =
  .ok (decide (a0=b0)&&decide (a1=b1)&&decide (a2=b2)&&decide (a3=b3)) w:=by
 obtain ⟨i,hi⟩:=info_of_underlying underlying9;refine(run_equalIn_array (P:=Tryz.prog) w 9999 _ _ underlying280 hi).trans ?_;have hs:∀ (d:Nat) (a b:ByteArray) (w:World),(Op.equalIn (d+1) 9 (.string a) (.string b)).run Tryz.prog w=.ok (decide (a=b)) w:=fun d a b w=>by rw [run_equalIn_string w d 9 a b underlying9,tV]
 have hc:Tryz.prog.cellsOf 9=1:=by kernel_rfl
 by_cases e0:a0=b0<;>by_cases e1:a1=b1<;>by_cases e2:a2=b2<;>by_cases e3:a3=b3<;>simp [List.range_succ,Op.eqItems,part,hc,hs,isAgg9,e0,e1,e2,e3]
theorem VJ (a b:List ByteArray) (H:aB) (ha:a.length < 4611686018427387904):aI Tryz.prog 272 [.pv (aX a),.pv (aX b)] H (fun r H'=>r=bv (decide (a=b))∧H'=H):=by
 refine Pu ?_;have hma:(a.map encStr).length=a.length:=aNz _;have hmb:(b.map encStr).length=b.length:=aNz _;refine Bd func272 rfl ntmps272<|Sr<|Dd aN<|Zz<|Sq<|Sr<|Dd aF<|Dd (fY aE)<|Dd aF<|Dd (fY aE)<|Dd AI<|Zz ?_;refine Cn ?_ ?_<;>intro hc1
 ·have hne:¬ a=b:=by
   intro e;subst e;simp at hc1
  refine Sr<|Dd aN<|Zz<|aC<|Rt ?_;exact⟨by rw [decide_eq_false hne],rfl⟩
 have heq:a.length=b.length:=by
  simp only [hma,hmb,Bool.not_eq_false',aOG] at hc1;omega
 refine aD<|Sq<|Sr<|Dd aF<|Dd (fY aE)<|Dd aF<|Zz<|aG ?_;refine bT (σ:=Nat) (fun k=>([(0,.pv (aX a)),(1,.pv (aX b)),(12,iv ((a.map encStr).length:Int)),(13,iv (k:Int))],[])) (fun k=>k≤a.length∧a.take k=b.take k) (fun k=>a.length - k) 0 ⟨by omega,by simp⟩ ?_ ?_
 ·exact E0
 rintro k ⟨hk,hall⟩;refine Sr<|Dd dK<|Zz<|Sq ?_;refine Cn ?_ ?_<;>intro hc2
 ·have hlt:k < a.length:=by have:=aNv hc2;omega
  obtain ⟨x,hx⟩:=aZ hlt;obtain ⟨y,hy⟩:=aZ (l:=b) (k:=k) (by omega);have hi:=cP (f:=encStr) hx;have hi2:=cP (f:=encStr) hy;refine aD<|Sq<|aG<|Sr<|Dd aF<|Dd aN<|Zz<|Sq<|aO follows<|Cq aF<|Cq aF<|Cq (lN cA)<|Cq (jA isAgg9)<|Cq aF<|Cq aF<|Cq (lN cA)<|Cq (jA isAgg9)<|Cq JO<|bL<|Kr ?_;refine Cn ?_ ?_<;>intro hc3
  ·have ht:¬ x=y:=by
    have h:(!decide (x=y))=true:=hc3
    simpa using h
   have hne:¬ a=b:=by
    intro e;subst e;rw [hx] at hy;exact ht (Option.some.inj hy)
   refine Sr<|Dd aN<|Zz<|aC<|Rt ?_;exact⟨by rw [decide_eq_false hne],rfl⟩
  have ht:x=y:=by
   have h:(!decide (x=y))=false:=hc3
   simpa using h
  refine aD<|Rg<|Dd lR<|Dd aF<|Zz ?_;refine⟨k+1,⟨by omega,?_⟩,by omega,E0⟩;rw [List.take_add_one,List.take_add_one,hx,hy,hall,ht]
 have hge:k=a.length:=by have:=aNw hc2;omega
 have he:a=b:=by
  have h:=hall;rw [hge,List.take_length,heq,List.take_length] at h;exact h
 refine bC<|Sr<|Dd aN<|Zz<|aC<|Rt ?_;exact⟨by rw [decide_eq_true he],rfl⟩
def pO (a b:GObj):Bool:=((decide (a.id=b.id)&&decide (a.kind=b.kind)&&(decide (a.x=b.x)&&decide (a.y=b.y)))&&decide (a.refs=b.refs))&&oE a.tags b.tags
theorem zC {a b:GObj}:pO a b=true↔a=b:=by
 cases a;cases b;simp only [pO,aOI,aOG,KR,GObj.mk.injEq];constructor
 ·rintro⟨⟨⟨⟨a1,a2⟩,a3,a4⟩,a5⟩,a6⟩;exact⟨a1,a2,a3,a4,a5,a6⟩
 rintro⟨a1,a2,a3,a4,a5,a6⟩;exact⟨⟨⟨⟨a1,a2⟩,a3,a4⟩,a5⟩,a6⟩
def okS (o:GObj):Prop:=o.refs.length < 4611686018427387904∧o.tags.length < 4611686018427387904
theorem aGY (a b:GObj) (H:aB) (ha:okS a):aI Tryz.prog 273 [av (bQ a),av (bQ b)] H (fun r H'=>r=bv (pO a b)∧H'=H):=by
 refine Pu ?_;refine Bd func273 rfl ntmps273<|Sr<|Dd (by exact cH (id:=2) rfl rfl rfl rfl rfl)<|Dd (by exact cH (id:=3) rfl rfl rfl rfl rfl)<|Dd aN<|Zz<|Sq ?_;refine bA (t:=4) (n:=38) (X:=pO a b) ?_ ?_
 ·all_goals refine Dd (aV nE) ?_
  all_goals refine Dd (bM isAgg9)<|Dd (aV nE)<|Dd (bM isAgg9)<|Dd yJ<|Dm ?_
  all_goals refine Sp 10 (fun h10=>?_) fun h10=>?_
  all_goals try contradiction
  all_goals first|refine Fo<|Fo<|Fo<|Fo<|Fo ?_|refine On (aV dX)<|On (bM isAgg3)<|On (aV dX)<|On (bM isAgg3)<|On cT ?_
  all_goals refine Dd cW<|Dm ?_
  all_goals refine Sp 17 (fun h17=>?_) fun h17=>?_
  all_goals try contradiction
  all_goals first|refine Fo<|Fo<|Fo<|Fo<|Fo ?_|refine On (aV lD)<|On (by exact aL rfl dQ sizeOf73 rfl rfl rfl rfl (by simp only [Zl,bJ,bQ,encStr,aU];rfl) rfl)<|On (aV lD)<|On (by exact aL rfl dQ sizeOf73 rfl rfl rfl rfl (by simp only [Zl,bJ,bQ,encStr,aU];rfl) rfl)<|On (by exact xC rfl rfl rfl rfl rfl gV (RM _ _ _ _)) ?_
  all_goals refine Dd cW<|Dm ?_
  all_goals refine Sp 24 (fun h24=>?_) fun h24=>?_
  all_goals try contradiction
  all_goals first|refine Fo<|Fo<|Fo<|Fo<|Fo ?_|refine On (aV dO)<|On (bM aH)<|On (aV dO)<|On (bM aH)<|On (by exact aA rfl rfl call272 rfl (VJ a.refs b.refs _ ha.1)) ?_
  all_goals refine Dd cW<|Dm ?_
  all_goals refine Sp 31 (fun h31=>?_) fun h31=>?_
  all_goals try contradiction
  all_goals first|refine Fo<|Fo<|Fo<|Fo<|Fo ?_|refine On (aV eU)<|On (bM cM)<|On (aV eU)<|On (bM cM)<|On (by exact aA rfl rfl call276 rfl (VG a.tags b.tags _ ha.2)) ?_
  all_goals refine Dd cW<|Da ?_
  all_goals(exact⟨⟨_,rfl,by(simp only [pO, *];rfl)⟩,rfl,rfl,rfl⟩)
 exact aC<|Rt<|Qq
def kC (a b:GEdit):Bool:=((((decide (a.refs=b.refs)&&pO a.obj b.obj)&&decide (a.op=b.op))&&(decide (a.id=b.id)&&decide (a.other=b.other)&&decide (a.node=b.node)&&decide (a.key=b.key)))&&decide (a.val=b.val))&&(decide (a.x=b.x)&&decide (a.y=b.y))
theorem mU {a b:GEdit}:kC a b=true↔a=b:=by
 cases a;cases b;simp only [kC,aOI,aOG,zC,GEdit.mk.injEq];constructor
 ·rintro⟨⟨⟨⟨⟨a1,a2⟩,a3⟩,⟨⟨a4,a5⟩,a6⟩,a7⟩,a8⟩,a9,a10⟩;exact⟨a3,a4,a5,a6,a9,a10,a7,a8,a1,a2⟩
 rintro⟨a3,a4,a5,a6,a9,a10,a7,a8,a1,a2⟩;exact⟨⟨⟨⟨⟨a1,a2⟩,a3⟩,⟨⟨a4,a5⟩,a6⟩,a7⟩,a8⟩,a9,a10⟩
theorem yK (a b:GEdit) (H:aB) (h1:a.refs.length < 4611686018427387904) (h2:okS a.obj):aI Tryz.prog 248 [av (aU a),av (aU b)] H (fun r H'=>r=bv (kC a b)∧H'=H):=by
 refine Pu ?_;refine Bd func248 rfl ntmps248<|Sr<|Dd (by exact cH (id:=2) rfl rfl rfl rfl rfl)<|Dd (by exact cH (id:=3) rfl rfl rfl rfl rfl)<|Dd aN<|Zz<|Sq ?_;refine bA (t:=5) (n:=14) (X:=decide (a.refs=b.refs)&&pO a.obj b.obj) ?_ ?_
 ·all_goals refine Dd (aV eT) ?_
  all_goals refine Dd (bM aH)<|Dd (aV eT)<|Dd (bM aH)<|Dd (by exact aA rfl rfl call272 rfl (VJ a.refs b.refs _ h1))<|Dm ?_
  all_goals refine Sp 11 (fun h11=>?_) fun h11=>?_
  all_goals try contradiction
  all_goals first|refine Fo<|Fo<|Fo<|Fo<|Fo ?_|refine On (aV nD)<|On (by exact aL rfl cU sizeOf153 rfl rfl rfl rfl (by simp only [Zl,bJ,bQ,encStr,aU];rfl) rfl)<|On (aV nD)<|On (by exact aL rfl cU sizeOf153 rfl rfl rfl rfl (by simp only [Zl,bJ,bQ,encStr,aU];rfl) rfl)<|On (by exact aA rfl rfl call273 rfl (aGY a.obj b.obj _ h2)) ?_
  all_goals refine Dd cW<|Da ?_
  all_goals(exact⟨⟨_,rfl,by(simp only [*];rfl)⟩,rfl,rfl,rfl⟩)
 refine Sq ?_;refine bA (t:=4) (n:=48) (X:=kC a b) ?_ ?_
 ·all_goals refine Dd aF ?_
  all_goals refine Dm ?_
  all_goals refine Sp 19 (fun h19=>?_) fun h19=>?_
  all_goals try contradiction
  all_goals first|refine Fo<|Fo<|Fo<|Fo<|Fo ?_|refine On (aV fT)<|On (bM isAgg3)<|On (aV fT)<|On (bM isAgg3)<|On cT ?_
  all_goals refine Dd cW<|Dm ?_
  all_goals refine Sp 26 (fun h26=>?_) fun h26=>?_
  all_goals try contradiction
  all_goals first|refine Fo<|Fo<|Fo<|Fo<|Fo<|Fo<|Fo<|Fo<|Fo<|Fo<|Fo<|Fo<|Fo<|Fo<|Fo<|Fo<|Fo<|Fo<|Fo ?_|refine On (aV gG)<|On (bM isAgg9)<|On (aV gO)<|On (bM isAgg9)<|On (aV lC)<|On (bM isAgg9)<|On (aV jB)<|On (bM isAgg9)<|On (by exact uX rfl aI2 rfl rfl)<|On (aV gG)<|On (bM isAgg9)<|On (aV gO)<|On (bM isAgg9)<|On (aV lC)<|On (bM isAgg9)<|On (aV jB)<|On (bM isAgg9)<|On (by exact uX rfl aI2 rfl rfl)<|On (by exact xC rfl rfl rfl rfl rfl eqGuardType280 (aMe a.id b.id a.other b.other a.node b.node a.key b.key)) ?_
  all_goals refine Dd cW<|Dm ?_
  all_goals refine Sp 47 (fun h47=>?_) fun h47=>?_
  all_goals try contradiction
  all_goals first|refine Fo<|Fo<|Fo<|Fo<|Fo ?_|refine On (aV jO)<|On (bM isAgg9)<|On (aV jO)<|On (bM isAgg9)<|On yJ ?_
  all_goals refine Dd cW<|Dm ?_
  all_goals refine Sp 54 (fun h54=>?_) fun h54=>?_
  all_goals try contradiction
  all_goals first|refine Fo<|Fo<|Fo<|Fo<|Fo ?_|refine On (aV gF)<|On (by exact aL rfl dQ sizeOf73 rfl rfl rfl rfl (by simp only [Zl,bJ,bQ,encStr,aU];rfl) rfl)<|On (aV gF)<|On (by exact aL rfl dQ sizeOf73 rfl rfl rfl rfl (by simp only [Zl,bJ,bQ,encStr,aU];rfl) rfl)<|On (by exact xC rfl rfl rfl rfl rfl gV (RM _ _ _ _)) ?_
  all_goals refine Dd cW<|Da ?_
  all_goals(exact⟨⟨_,rfl,by(simp only [kC, *];rfl)⟩,rfl,rfl,rfl⟩)
 exact aC<|Rt<|Qq
def atP {α:Type} (l:List α) (p:α→Bool) (k:Nat):Bool:=match l[k]? with
 | some s=>p s
 | none=>false
theorem M4 {α:Type} {l:List α} {p:α→Bool} {k:Nat} {s:α} (h:l[k]?=some s):atP l p k=p s:=by rw [atP,h]
theorem NM {α:Type} (l:List α) (p:α→Bool):(List.range l.length).any (atP l p)=l.any p:=by
 rw [Bool.eq_iff_iff,List.any_eq_true,List.any_eq_true];constructor
 ·rintro⟨k,hk,h⟩;have hlt:=List.mem_range.1 hk;rw [M4 (aOE hlt)] at h;exact⟨_,List.getElem_mem hlt,h⟩
 rintro⟨x,hx,h⟩;obtain ⟨k,hk⟩:=aOU.1 hx;exact⟨k,List.mem_range.2 (aOD.1 hk).1,by rw [M4 hk];exact h⟩
theorem aDw (s:ByteArray) (H:aB) (hs:s.size < 4611686018427387904):aI Tryz.prog 271 [sv s] H (fun r H'=>r=bv (!bP s)∧H'=H):=by refine Pu ?_;exact Bd func271 rfl ntmps271<|Sr<|Dd aN<|Zz<|Sr<|Dd aF<|Dd (by exact aA rfl rfl oD rfl (yT s _ hs))<|Dd jS<|Dd aN<|Zz<|aC<|Rt<|Qq
theorem R7 (l:List ByteArray) (H:aB) (hl:l.length < 4611686018427387904) (hs:∀ s∈l,s.size < 4611686018427387904):aI Tryz.prog 247 [.pv (aX l)] H (fun r H'=>r=bv (l.all bP)∧H'=H):=by
 refine Pu ?_;have e:l.all bP=!(List.range l.length).any (atP l (fun s=>!bP s)):=by
  rw [NM l (fun s=>!bP s),List.any_eq_not_all_not];simp
 rw [e];exact Bd func247 rfl ntmps247<|Sr<|Dd aN<|Zz<|Sr<|Dd aF<|Dd (by exact aA rfl rfl S9 rfl (qV (.pv (.fn 271)) l (atP l (fun s=>!bP s)) (fun _=>[]) hl (fun k s hk=>dD.fn call271 (by rw [M4 hk];exact aDw s _ (hs s (aOJ hk))))))<|Dd jS<|Dd aN<|Zz<|aC<|Rt<|Qq
def C1 (e:GEdit):GEdit :=if e.op=1 then⟨e.op,sNil,sNil,sNil,0,0,sNil,sNil,[],e.obj⟩
 else if e.op=2 then⟨e.op,e.id,sNil,sNil,e.x,e.y,sNil,sNil,[],zObj⟩
 else if e.op=3 then⟨e.op,e.id,sNil,sNil,0,0,e.key,e.val,[],zObj⟩
 else if e.op=4 then⟨e.op,e.id,sNil,sNil,0,0,sNil,sNil,e.refs,zObj⟩
 else if e.op=5 then⟨e.op,e.id,sNil,sNil,0,0,sNil,sNil,[],zObj⟩
 else if e.op=6 then⟨e.op,e.id,e.other,e.node,0,0,sNil,sNil,[],zObj⟩
 else⟨e.op,e.id,e.other,sNil,0,0,sNil,sNil,[],zObj⟩
def pY (e:GEdit):Bool :=if e.op=1 then kR e.obj
 else bP e.id&&(if e.op=2 then onP e.x e.y else if e.op=3 then bP e.key&&decide ((e.val.size:Int)≤200)
  else if e.op=4 then decide ((0:Int) < (e.refs.length:Int))&&decide ((e.refs.length:Int)≤2000)&&e.refs.all bP
  else if e.op=5 then true else if e.op=6 then bP e.node&&bP e.other else bP e.other)
def dP (e:GEdit):Bool:=(decide (1≤e.op)&&decide (e.op≤7))&&(pY e&&kC (C1 e) e)
def LM (e:GEdit):Prop:=(e.id.size < 4611686018427387904∧e.other.size < 4611686018427387904∧e.node.size < 4611686018427387904∧e.key.size < 4611686018427387904)∧(e.refs.length < 4611686018427387904∧∀ s∈e.refs,s.size < 4611686018427387904)∧okO e.obj
theorem aJY {o:GObj} (h:okO o):okS o:=⟨h.2.2.1,h.2.1.1⟩
theorem PM:okS zObj:=⟨by decide,by decide⟩
theorem aGs (s:ByteArray) (H:aB) (hs:s.size < 4611686018427387904):aI Tryz.prog 247 [.pv (aX [s])] H (fun r H'=>r=bv (bP s)∧H'=H):=by
 have h:=R7 [s] H (by show 1 < _;omega) (by simpa using hs)
 simpa using h
theorem aMw (s t:ByteArray) (H:aB) (hs:s.size < 4611686018427387904) (ht:t.size < 4611686018427387904):aI Tryz.prog 247 [.pv (aX [s,t])] H (fun r H'=>r=bv (bP s&&bP t)∧H'=H):=by
 have h:=R7 [s,t] H (by show 2 < _;omega) (by simpa using ⟨hs,ht⟩)
 simpa using h
theorem VL (e:GEdit) (H:aB) (he:LM e):aI Tryz.prog 209 [av (aU e)] H (fun r H'=>r=bv (dP e)∧H'=H):=by
 refine Pu ?_;obtain ⟨⟨h1,h2,h3,h4⟩,⟨h5,h6⟩,h7⟩:=he;have hrl:(e.refs.map encStr).length=e.refs.length:=aNz _;refine Bd func209 rfl ntmps209<|Sr<|Dd (by exact cH (id:=1) rfl rfl rfl rfl rfl)<|Dd aN<|Zz<|Sr<|Dd (aV fT)<|Dd (bM isAgg3)<|Dd (aV gG)<|Dd (bM isAgg9)<|Dd (uQ DE)<|Dd (by exact bU (id:=3) rfl OM rfl rfl)<|Uu (kQ aS)<|Zz<|Sr<|Dd (aV gG)<|Dd (bM isAgg9)<|Dd (by exact aR ([e.id].map encStr) rfl cA rfl rfl rfl rfl rfl (by simp [encStr]))<|Dd (by exact aA rfl rfl CZ rfl (aGs e.id _ h1))<|Dd aN<|Zz<|Sq<|Sr<|Dd (aV fT)<|Dd (bM isAgg3)<|Zz<|aG<|Sr<|Dd cT<|Da ?_;refine Cn ?_ ?_<;>intro hc1
 ·have ho:e.op=1:=aNv hc1;have hx:C1 e=⟨e.op,sNil,sNil,sNil,0,0,sNil,sNil,[],e.obj⟩:=by rw [C1,aNy ho]
  have hk:pY e=kR e.obj:=by rw [pY,aNy ho]
  have hv:dP e=(kR e.obj&&kC ⟨e.op,sNil,sNil,sNil,0,0,sNil,sNil,[],e.obj⟩ e):=by rw [dP,hx,hk,ho];rfl
  refine aO follows<|Cr [1] (fun _ h=>fh nD h)<|Cr [1] (fun H1 hH=>by exact aL rfl cU sizeOf153 rfl ((hH _ rfl).trans rfl) rfl rfl (by simp only [Zl,bJ,bQ,encStr,aU,zObj];rfl) rfl)<|Cr [1] (fun _ h=>fh nD h)<|Cr [1] (fun H1 hH=>by exact aL rfl cU sizeOf153 rfl ((hH _ rfl).trans rfl) rfl rfl (by simp only [Zl,bJ,bQ,encStr,aU,zObj];rfl) rfl)<|Cr [] (fun H1 hH=>by exact aA rfl rfl call239 rfl (LO e.obj _ h7))<|Cr [3] (fun _ h=>fh gG h)<|Cp [3] (fun H1 hH=>by exact bH rfl sizeOf9 rfl rfl rfl ((hH _ rfl).trans rfl) rfl rfl (aOM rfl) rfl rfl)<|Cr [3] (fun _ h=>fh nD h)<|Cp [3] (fun H1 hH=>by exact kT rfl sizeOf153 rfl rfl rfl rfl ((hH _ rfl).trans rfl) rfl rfl (aOM rfl) rfl rfl)<|Cr [] (fun _ _=>aN) ?_;refine bL<|Kr<|Sq ?_;refine bA (t:=2) (n:=8) (X:=kR e.obj&&kC ⟨e.op,sNil,sNil,sNil,0,0,sNil,sNil,[],e.obj⟩ e) ?_ ?_
  ·all_goals refine Dd aF ?_
   all_goals refine Dm ?_
   all_goals refine Sp 127 (fun h127=>?_) fun h127=>?_
   all_goals try contradiction
   all_goals first|refine Fo<|Fo<|Fo ?_|refine On (by exact aL rfl bZ aS rfl rfl rfl rfl (by simp only [Zl,bJ,bQ,encStr,aU,zObj];rfl) rfl)<|On (by exact aL rfl bZ aS rfl rfl rfl rfl (by simp only [Zl,bJ,bQ,encStr,aU,zObj];rfl) rfl)<|On (by exact aA rfl rfl wF rfl (yK ⟨e.op,sNil,sNil,sNil,0,0,sNil,sNil,[],e.obj⟩ e _ (by show 0 < _;omega) (aJY h7))) ?_
   all_goals refine Dd cW<|Da ?_
   all_goals(exact⟨⟨_,rfl,by(simp_all [kR];done)⟩,rfl,rfl,rfl⟩)
  refine aC<|Rt ?_;exact⟨by rw [hv],rfl⟩
 have ho1:¬ e.op=1:=aNw hc1;refine Sr<|Dd cT<|Da ?_;refine Cn ?_ ?_<;>intro hc2
 ·have ho:e.op=2:=aNv hc2;have hx:C1 e=⟨e.op,e.id,sNil,sNil,e.x,e.y,sNil,sNil,[],zObj⟩:=by rw [C1,aNx ho1,aNy ho]
  have hk:pY e=(bP e.id&&onP e.x e.y):=by rw [pY,aNx ho1,aNy ho]
  have hb:(bP e.id&&decide (0≤min e.x e.y)&&decide (max e.x e.y < 1048576))=(bP e.id&&onP e.x e.y):=by rw [onP,Bool.and_assoc]
  have hv:dP e=((bP e.id&&decide (0≤min e.x e.y)&&decide (max e.x e.y < 1048576))&&kC ⟨e.op,e.id,sNil,sNil,e.x,e.y,sNil,sNil,[],zObj⟩ e):=by rw [dP,hx,hk,hb,ho];rfl
  apply uJ (t:=4) (n:=25) (X:=bP e.id&&decide (0≤min e.x e.y)&&decide (max e.x e.y < 1048576))
  ·cases hg30:(bP e.id:Bool)
   ·refine aO follows<|Cr [1] (fun _ h=>fh gF h)<|Cr [1] (fun H1 hH=>by exact aL rfl dQ sizeOf73 rfl ((hH _ rfl).trans rfl) rfl rfl (by simp only [Zl,bJ,bQ,encStr,aU,zObj];rfl) rfl)<|Cr [] (fun _ _=>aF)<|Cr [] (fun _ _=>aF)<|Ot<|Ot<|Ot<|Ot<|Ot<|Ot<|Ot<|Ot<|Cr [] (fun _ _=>cW)<|Cr [] (fun _ _=>aF)<|Ot<|Ot<|Ot<|Ot<|Ot<|Ot<|Ot<|Ot<|Cr [] (fun _ _=>cW)<|Cr [3] (fun _ h=>fh gF h)<|Cp [3] (fun H1 hH=>by exact kT rfl sizeOf73 rfl rfl rfl rfl ((hH _ rfl).trans rfl) rfl rfl (aOM rfl) rfl rfl)<|Cr [] (fun _ _=>aN)<|bL<|Kr ?_;exact⟨rfl,⟨_,rfl,by rfl⟩,rfl,rfl,rfl⟩
   cases hg40:(decide (0≤min e.x e.y):Bool)
   ·refine aO follows<|Cr [1] (fun _ h=>fh gF h)<|Cr [1] (fun H1 hH=>by exact aL rfl dQ sizeOf73 rfl ((hH _ rfl).trans rfl) rfl rfl (by simp only [Zl,bJ,bQ,encStr,aU,zObj];rfl) rfl)<|Cr [] (fun _ _=>aF)<|Cr [] (fun _ _=>aF) ?_;refine bF (r:=⟨_,some [1],[]⟩) (cE rfl rfl rfl (by rfl) (fun H1 hH=>by exact(by exact bG rfl gF rfl ((hH _ rfl).trans rfl) rfl rfl))) rfl ?_;refine bF (r:=⟨_,some [1],[]⟩) (cE rfl rfl rfl (by rfl) (fun H1 hH=>by exact(by exact bG rfl pS rfl ((hH _ rfl).trans rfl) rfl rfl))) rfl ?_;refine bF (r:=⟨_,some [1],[]⟩) (cE rfl rfl rfl (by rfl) (fun H1 hH=>by exact(by exact aK rfl isAgg3 rfl ((hH _ rfl).trans rfl) rfl rfl rfl))) rfl ?_;refine bF (r:=⟨_,some [1],[]⟩) (cE rfl rfl rfl (by rfl) (fun H1 hH=>by exact(by exact bG rfl gF rfl ((hH _ rfl).trans rfl) rfl rfl))) rfl ?_;refine bF (r:=⟨_,some [1],[]⟩) (cE rfl rfl rfl (by rfl) (fun H1 hH=>by exact(by exact bG rfl pR rfl ((hH _ rfl).trans rfl) rfl rfl))) rfl ?_;refine bF (r:=⟨_,some [1],[]⟩) (cE rfl rfl rfl (by rfl) (fun H1 hH=>by exact(by exact aK rfl isAgg3 rfl ((hH _ rfl).trans rfl) rfl rfl rfl))) rfl ?_;refine bF (r:=⟨_,some [],[]⟩) (cE rfl rfl rfl (by rfl) (fun H1 hH=>by exact JV rfl rfl rfl rfl)) rfl ?_;refine bF (r:=⟨_,some [],[]⟩) (cE rfl rfl rfl (by rfl) (fun H1 hH=>by exact FA rfl rfl rfl)) rfl ?_;refine Cr [] (fun _ _=>cW)<|Cr [] (fun _ _=>aF)<|Ot<|Ot<|Ot<|Ot<|Ot<|Ot<|Ot<|Ot<|Cr [] (fun _ _=>nS)<|Cr [3] (fun _ h=>fh gF h)<|Cp [3] (fun H1 hH=>by exact kT rfl sizeOf73 rfl rfl rfl rfl ((hH _ rfl).trans rfl) rfl rfl (aOM rfl) rfl rfl)<|Cr [] (fun _ _=>aN)<|bL<|Kr ?_;exact⟨rfl,⟨_,rfl,by rfl⟩,rfl,rfl,rfl⟩
   refine aO follows<|Cr [1] (fun _ h=>fh gF h)<|Cr [1] (fun H1 hH=>by exact aL rfl dQ sizeOf73 rfl ((hH _ rfl).trans rfl) rfl rfl (by simp only [Zl,bJ,bQ,encStr,aU,zObj];rfl) rfl)<|Cr [] (fun _ _=>aF)<|Cr [] (fun _ _=>aF) ?_;refine bF (r:=⟨_,some [1],[]⟩) (cE rfl rfl rfl (by rfl) (fun H1 hH=>by exact(by exact bG rfl gF rfl ((hH _ rfl).trans rfl) rfl rfl))) rfl ?_;refine bF (r:=⟨_,some [1],[]⟩) (cE rfl rfl rfl (by rfl) (fun H1 hH=>by exact(by exact bG rfl pS rfl ((hH _ rfl).trans rfl) rfl rfl))) rfl ?_;refine bF (r:=⟨_,some [1],[]⟩) (cE rfl rfl rfl (by rfl) (fun H1 hH=>by exact(by exact aK rfl isAgg3 rfl ((hH _ rfl).trans rfl) rfl rfl rfl))) rfl ?_;refine bF (r:=⟨_,some [1],[]⟩) (cE rfl rfl rfl (by rfl) (fun H1 hH=>by exact(by exact bG rfl gF rfl ((hH _ rfl).trans rfl) rfl rfl))) rfl ?_;refine bF (r:=⟨_,some [1],[]⟩) (cE rfl rfl rfl (by rfl) (fun H1 hH=>by exact(by exact bG rfl pR rfl ((hH _ rfl).trans rfl) rfl rfl))) rfl ?_;refine bF (r:=⟨_,some [1],[]⟩) (cE rfl rfl rfl (by rfl) (fun H1 hH=>by exact(by exact aK rfl isAgg3 rfl ((hH _ rfl).trans rfl) rfl rfl rfl))) rfl ?_;refine bF (r:=⟨_,some [],[]⟩) (cE rfl rfl rfl (by rfl) (fun H1 hH=>by exact JV rfl rfl rfl rfl)) rfl ?_;refine bF (r:=⟨_,some [],[]⟩) (cE rfl rfl rfl (by rfl) (fun H1 hH=>by exact FA rfl rfl rfl)) rfl ?_;refine Cr [] (fun _ _=>cW)<|Cr [] (fun _ _=>aF) ?_;refine bF (r:=⟨_,some [1],[]⟩) (cE rfl rfl rfl (by assumption) (fun H1 hH=>by exact(by exact bG rfl gF rfl ((hH _ rfl).trans rfl) rfl rfl))) rfl ?_;refine bF (r:=⟨_,some [1],[]⟩) (cE rfl rfl rfl (by assumption) (fun H1 hH=>by exact(by exact bG rfl pS rfl ((hH _ rfl).trans rfl) rfl rfl))) rfl ?_;refine bF (r:=⟨_,some [1],[]⟩) (cE rfl rfl rfl (by assumption) (fun H1 hH=>by exact(by exact aK rfl isAgg3 rfl ((hH _ rfl).trans rfl) rfl rfl rfl))) rfl ?_;refine bF (r:=⟨_,some [1],[]⟩) (cE rfl rfl rfl (by assumption) (fun H1 hH=>by exact(by exact bG rfl gF rfl ((hH _ rfl).trans rfl) rfl rfl))) rfl ?_;refine bF (r:=⟨_,some [1],[]⟩) (cE rfl rfl rfl (by assumption) (fun H1 hH=>by exact(by exact bG rfl pR rfl ((hH _ rfl).trans rfl) rfl rfl))) rfl ?_;refine bF (r:=⟨_,some [1],[]⟩) (cE rfl rfl rfl (by assumption) (fun H1 hH=>by exact(by exact aK rfl isAgg3 rfl ((hH _ rfl).trans rfl) rfl rfl rfl))) rfl ?_;refine bF (r:=⟨_,some [],[]⟩) (cE rfl rfl rfl (by assumption) (fun H1 hH=>by exact aGk rfl rfl rfl rfl)) rfl ?_;refine bF (r:=⟨_,some [],[]⟩) (cE rfl rfl rfl (by assumption) (fun H1 hH=>by exact JW rfl rfl rfl)) rfl ?_;refine Cr [] (fun _ _=>wX)<|Cr [3] (fun _ h=>fh gF h)<|Cp [3] (fun H1 hH=>by exact kT rfl sizeOf73 rfl rfl rfl rfl ((hH _ rfl).trans rfl) rfl rfl (aOM rfl) rfl rfl)<|Cr [] (fun _ _=>aN)<|bL<|Kr ?_;exact⟨rfl,⟨_,rfl,by rfl⟩,rfl,rfl,rfl⟩
  refine Sq ?_;refine bA (t:=2) (n:=8) (X:=(bP e.id&&decide (0≤min e.x e.y)&&decide (max e.x e.y < 1048576))&&kC ⟨e.op,e.id,sNil,sNil,e.x,e.y,sNil,sNil,[],zObj⟩ e) ?_ ?_
  ·all_goals refine Dd aF ?_
   all_goals refine Dm ?_
   all_goals refine Sp 127 (fun h127=>?_) fun h127=>?_
   all_goals try contradiction
   all_goals first|refine Fo<|Fo<|Fo ?_|refine On (by exact aL rfl bZ aS rfl rfl rfl rfl (by simp only [Zl,bJ,bQ,encStr,aU,zObj];rfl) rfl)<|On (by exact aL rfl bZ aS rfl rfl rfl rfl (by simp only [Zl,bJ,bQ,encStr,aU,zObj];rfl) rfl)<|On (by exact aA rfl rfl wF rfl (yK ⟨e.op,e.id,sNil,sNil,e.x,e.y,sNil,sNil,[],zObj⟩ e _ (by(show 0 < _;omega)) PM)) ?_
   all_goals refine Dd cW<|Da ?_
   all_goals(exact⟨⟨_,rfl,by(rw [h127];rfl)⟩,rfl,rfl,rfl⟩)
  refine aC<|Rt ?_;exact⟨by rw [hv],rfl⟩
 have ho2:¬ e.op=2:=aNw hc2;refine Sr<|Dd cT<|Da ?_;refine Cn ?_ ?_<;>intro hc3
 ·have ho:e.op=3:=aNv hc3;have hx:C1 e=⟨e.op,e.id,sNil,sNil,0,0,e.key,e.val,[],zObj⟩:=by rw [C1,aNx ho1,aNx ho2,aNy ho]
  have hk:pY e=(bP e.id&&(bP e.key&&decide ((e.val.size:Int)≤200))):=by rw [pY,aNx ho1,aNx ho2,aNy ho]
  have hb:(bP e.id&&bP e.key&&decide ((e.val.size:Int)≤200))=(bP e.id&&(bP e.key&&decide ((e.val.size:Int)≤200))):=by rw [Bool.and_assoc]
  have hv:dP e=((bP e.id&&bP e.key&&decide ((e.val.size:Int)≤200))&&kC ⟨e.op,e.id,sNil,sNil,0,0,e.key,e.val,[],zObj⟩ e):=by rw [dP,hx,hk,hb,ho];rfl
  apply uJ (t:=4) (n:=20) (X:=bP e.id&&bP e.key&&decide ((e.val.size:Int)≤200))
  ·cases hg58:(bP e.id:Bool)
   ·refine aO follows<|Cr [1] (fun _ h=>fh jB h)<|Cr [1] (fun _ h=>lh isAgg9 h)<|Cr [1] (fun _ h=>fh jO h)<|Cr [1] (fun _ h=>lh isAgg9 h)<|Cr [] (fun _ _=>aF)<|Cr [] (fun _ _=>aF)<|Ot<|Ot<|Ot<|Ot<|Cr [] (fun _ _=>cW)<|Cr [] (fun _ _=>aF)<|Ot<|Ot<|Ot<|Ot<|Cr [] (fun _ _=>cW)<|Cr [3] (fun _ h=>fh jB h)<|Cp [3] (fun H1 hH=>by exact bH rfl sizeOf9 rfl rfl rfl ((hH _ rfl).trans rfl) rfl rfl (aOM rfl) rfl rfl)<|Cr [3] (fun _ h=>fh jO h)<|Cp [3] (fun H1 hH=>by exact bH rfl sizeOf9 rfl rfl rfl ((hH _ rfl).trans rfl) rfl rfl (aOM rfl) rfl rfl)<|Cr [] (fun _ _=>aN)<|bL<|Kr ?_;exact⟨rfl,⟨_,rfl,by rfl⟩,rfl,rfl,rfl⟩
   cases hg64:(bP e.key:Bool)
   ·refine aO follows<|Cr [1] (fun _ h=>fh jB h)<|Cr [1] (fun _ h=>lh isAgg9 h)<|Cr [1] (fun _ h=>fh jO h)<|Cr [1] (fun _ h=>lh isAgg9 h)<|Cr [] (fun _ _=>aF)<|Cr [] (fun _ _=>aF) ?_;refine bF (r:=⟨_,some [1],[]⟩) (cE rfl rfl rfl (by rfl) (fun H1 hH=>by exact(by exact bG rfl jB rfl ((hH _ rfl).trans rfl) rfl rfl))) rfl ?_;refine bF (r:=⟨_,some [1],[]⟩) (cE rfl rfl rfl (by rfl) (fun H1 hH=>by exact(by exact aK rfl isAgg9 rfl ((hH _ rfl).trans rfl) rfl rfl rfl))) rfl ?_;refine bF (r:=⟨_,some [],[]⟩) (cE rfl rfl rfl (by rfl) (fun H1 hH=>by exact(by exact aR ([e.key].map encStr) rfl cA rfl rfl rfl rfl rfl (by simp [encStr])))) rfl ?_;refine bF (r:=⟨_,some [],[]⟩) (cE rfl rfl rfl (by rfl) (fun H1 hH=>by exact aA rfl rfl CZ rfl (aGs e.key _ h4))) rfl ?_;refine Cr [] (fun _ _=>cW)<|Cr [] (fun _ _=>aF)<|Ot<|Ot<|Ot<|Ot<|Cr [] (fun _ _=>nS)<|Cr [3] (fun _ h=>fh jB h)<|Cp [3] (fun H1 hH=>by exact bH rfl sizeOf9 rfl rfl rfl ((hH _ rfl).trans rfl) rfl rfl (aOM rfl) rfl rfl)<|Cr [3] (fun _ h=>fh jO h)<|Cp [3] (fun H1 hH=>by exact bH rfl sizeOf9 rfl rfl rfl ((hH _ rfl).trans rfl) rfl rfl (aOM rfl) rfl rfl)<|Cr [] (fun _ _=>aN)<|bL<|Kr ?_;exact⟨rfl,⟨_,rfl,by rfl⟩,rfl,rfl,rfl⟩
   refine aO follows<|Cr [1] (fun _ h=>fh jB h)<|Cr [1] (fun _ h=>lh isAgg9 h)<|Cr [1] (fun _ h=>fh jO h)<|Cr [1] (fun _ h=>lh isAgg9 h)<|Cr [] (fun _ _=>aF)<|Cr [] (fun _ _=>aF) ?_;refine bF (r:=⟨_,some [1],[]⟩) (cE rfl rfl rfl (by rfl) (fun H1 hH=>by exact(by exact bG rfl jB rfl ((hH _ rfl).trans rfl) rfl rfl))) rfl ?_;refine bF (r:=⟨_,some [1],[]⟩) (cE rfl rfl rfl (by rfl) (fun H1 hH=>by exact(by exact aK rfl isAgg9 rfl ((hH _ rfl).trans rfl) rfl rfl rfl))) rfl ?_;refine bF (r:=⟨_,some [],[]⟩) (cE rfl rfl rfl (by rfl) (fun H1 hH=>by exact(by exact aR ([e.key].map encStr) rfl cA rfl rfl rfl rfl rfl (by simp [encStr])))) rfl ?_;refine bF (r:=⟨_,some [],[]⟩) (cE rfl rfl rfl (by rfl) (fun H1 hH=>by exact aA rfl rfl CZ rfl (aGs e.key _ h4))) rfl ?_;refine Cr [] (fun _ _=>cW)<|Cr [] (fun _ _=>aF) ?_;refine bF (r:=⟨_,some [1],[]⟩) (cE rfl rfl rfl (by assumption) (fun H1 hH=>by exact(by exact bG rfl jO rfl ((hH _ rfl).trans rfl) rfl rfl))) rfl ?_;refine bF (r:=⟨_,some [1],[]⟩) (cE rfl rfl rfl (by assumption) (fun H1 hH=>by exact(by exact aK rfl isAgg9 rfl ((hH _ rfl).trans rfl) rfl rfl rfl))) rfl ?_;refine bF (r:=⟨_,some [],[]⟩) (cE rfl rfl rfl (by assumption) (fun H1 hH=>by exact IH rfl underlying9 rfl)) rfl ?_;refine bF (r:=⟨_,some [],[]⟩) (cE rfl rfl rfl (by assumption) (fun H1 hH=>by exact JX rfl rfl rfl)) rfl ?_;refine Cr [] (fun _ _=>wX)<|Cr [3] (fun _ h=>fh jB h)<|Cp [3] (fun H1 hH=>by exact bH rfl sizeOf9 rfl rfl rfl ((hH _ rfl).trans rfl) rfl rfl (aOM rfl) rfl rfl)<|Cr [3] (fun _ h=>fh jO h)<|Cp [3] (fun H1 hH=>by exact bH rfl sizeOf9 rfl rfl rfl ((hH _ rfl).trans rfl) rfl rfl (aOM rfl) rfl rfl)<|Cr [] (fun _ _=>aN)<|bL<|Kr ?_;exact⟨rfl,⟨_,rfl,by rfl⟩,rfl,rfl,rfl⟩
  refine Sq ?_;refine bA (t:=2) (n:=8) (X:=(bP e.id&&bP e.key&&decide ((e.val.size:Int)≤200))&&kC ⟨e.op,e.id,sNil,sNil,0,0,e.key,e.val,[],zObj⟩ e) ?_ ?_
  ·all_goals refine Dd aF ?_
   all_goals refine Dm ?_
   all_goals refine Sp 127 (fun h127=>?_) fun h127=>?_
   all_goals try contradiction
   all_goals first|refine Fo<|Fo<|Fo ?_|refine On (by exact aL rfl bZ aS rfl rfl rfl rfl (by simp only [Zl,bJ,bQ,encStr,aU,zObj];rfl) rfl)<|On (by exact aL rfl bZ aS rfl rfl rfl rfl (by simp only [Zl,bJ,bQ,encStr,aU,zObj];rfl) rfl)<|On (by exact aA rfl rfl wF rfl (yK ⟨e.op,e.id,sNil,sNil,0,0,e.key,e.val,[],zObj⟩ e _ (by(show 0 < _;omega)) PM)) ?_
   all_goals refine Dd cW<|Da ?_
   all_goals(exact⟨⟨_,rfl,by(rw [h127];rfl)⟩,rfl,rfl,rfl⟩)
  refine aC<|Rt ?_;exact⟨by rw [hv],rfl⟩
 have ho3:¬ e.op=3:=aNw hc3;refine Sr<|Dd cT<|Da ?_;refine Cn ?_ ?_<;>intro hc4
 ·have ho:e.op=4:=aNv hc4;have hx:C1 e=⟨e.op,e.id,sNil,sNil,0,0,sNil,sNil,e.refs,zObj⟩:=by rw [C1,aNx ho1,aNx ho2,aNx ho3,aNy ho]
  have hk:pY e=(bP e.id&&(decide ((0:Int) < (e.refs.length:Int))&&decide ((e.refs.length:Int)≤2000)&&e.refs.all bP)):=by rw [pY,aNx ho1,aNx ho2,aNx ho3,aNy ho]
  have hb:(bP e.id&&decide ((0:Int) < ((e.refs.map encStr).length:Int))&&decide (((e.refs.map encStr).length:Int)≤2000)&&e.refs.all bP)=(bP e.id&&(decide ((0:Int) < (e.refs.length:Int))&&decide ((e.refs.length:Int)≤2000)&&e.refs.all bP)):=by rw [hrl];simp only [Bool.and_assoc]
  have hv:dP e=((bP e.id&&decide ((0:Int) < ((e.refs.map encStr).length:Int))&&decide (((e.refs.map encStr).length:Int)≤2000)&&e.refs.all bP)&&kC ⟨e.op,e.id,sNil,sNil,0,0,sNil,sNil,e.refs,zObj⟩ e):=by rw [dP,hx,hk,hb,ho];rfl
  apply uJ (t:=4) (n:=22) (X:=bP e.id&&decide ((0:Int) < ((e.refs.map encStr).length:Int))&&decide (((e.refs.map encStr).length:Int)≤2000)&&e.refs.all bP)
  ·cases hg77:(bP e.id:Bool)
   ·refine aO follows<|Cr [1] (fun _ h=>fh eT h)<|Cr [1] (fun _ h=>lh aH h)<|Cr [] (fun _ _=>aF)<|Cr [] (fun _ _=>aF)<|Ot<|Ot<|Ot<|Ot<|Cr [] (fun _ _=>cW)<|Cr [] (fun _ _=>aF)<|Ot<|Ot<|Ot<|Ot<|Cr [] (fun _ _=>cW)<|Cr [] (fun _ _=>aF)<|Ot<|Ot<|Ot<|Cr [] (fun _ _=>cW)<|Cr [3] (fun _ h=>fh eT h)<|Cp [3] (fun H1 hH=>by exact bH rfl sizeOf22 rfl rfl rfl ((hH _ rfl).trans rfl) rfl rfl (aOM rfl) rfl rfl)<|Cr [] (fun _ _=>aN)<|bL<|Kr ?_;exact⟨rfl,⟨_,rfl,by rfl⟩,rfl,rfl,rfl⟩
   cases hg83:(decide ((0:Int) < ((e.refs.map encStr).length:Int)):Bool)
   ·refine aO follows<|Cr [1] (fun _ h=>fh eT h)<|Cr [1] (fun _ h=>lh aH h)<|Cr [] (fun _ _=>aF)<|Cr [] (fun _ _=>aF) ?_;refine bF (r:=⟨_,some [1],[]⟩) (cE rfl rfl rfl (by rfl) (fun H1 hH=>by exact(by exact bG rfl eT rfl ((hH _ rfl).trans rfl) rfl rfl))) rfl ?_;refine bF (r:=⟨_,some [1],[]⟩) (cE rfl rfl rfl (by rfl) (fun H1 hH=>by exact(by exact aK rfl aH rfl ((hH _ rfl).trans rfl) rfl rfl rfl))) rfl ?_;refine bF (r:=⟨_,some [],[]⟩) (cE rfl rfl rfl (by rfl) (fun H1 hH=>by exact(by exact kY rfl aE rfl))) rfl ?_;refine bF (r:=⟨_,some [],[]⟩) (cE rfl rfl rfl (by rfl) (fun H1 hH=>by exact E9 rfl rfl rfl)) rfl ?_;refine Cr [] (fun _ _=>cW)<|Cr [] (fun _ _=>aF)<|Ot<|Ot<|Ot<|Ot<|Cr [] (fun _ _=>nS)<|Cr [] (fun _ _=>aF)<|Ot<|Ot<|Ot<|Cr [] (fun _ _=>cW)<|Cr [3] (fun _ h=>fh eT h)<|Cp [3] (fun H1 hH=>by exact bH rfl sizeOf22 rfl rfl rfl ((hH _ rfl).trans rfl) rfl rfl (aOM rfl) rfl rfl)<|Cr [] (fun _ _=>aN)<|bL<|Kr ?_;exact⟨rfl,⟨_,rfl,by rfl⟩,rfl,rfl,rfl⟩
   cases hg89:(decide (((e.refs.map encStr).length:Int)≤2000):Bool)
   ·refine aO follows<|Cr [1] (fun _ h=>fh eT h)<|Cr [1] (fun _ h=>lh aH h)<|Cr [] (fun _ _=>aF)<|Cr [] (fun _ _=>aF) ?_;refine bF (r:=⟨_,some [1],[]⟩) (cE rfl rfl rfl (by rfl) (fun H1 hH=>by exact(by exact bG rfl eT rfl ((hH _ rfl).trans rfl) rfl rfl))) rfl ?_;refine bF (r:=⟨_,some [1],[]⟩) (cE rfl rfl rfl (by rfl) (fun H1 hH=>by exact(by exact aK rfl aH rfl ((hH _ rfl).trans rfl) rfl rfl rfl))) rfl ?_;refine bF (r:=⟨_,some [],[]⟩) (cE rfl rfl rfl (by rfl) (fun H1 hH=>by exact(by exact kY rfl aE rfl))) rfl ?_;refine bF (r:=⟨_,some [],[]⟩) (cE rfl rfl rfl (by rfl) (fun H1 hH=>by exact E9 rfl rfl rfl)) rfl ?_;refine Cr [] (fun _ _=>cW)<|Cr [] (fun _ _=>aF) ?_;refine bF (r:=⟨_,some [1],[]⟩) (cE rfl rfl rfl (by assumption) (fun H1 hH=>by exact(by exact bG rfl eT rfl ((hH _ rfl).trans rfl) rfl rfl))) rfl ?_;refine bF (r:=⟨_,some [1],[]⟩) (cE rfl rfl rfl (by assumption) (fun H1 hH=>by exact(by exact aK rfl aH rfl ((hH _ rfl).trans rfl) rfl rfl rfl))) rfl ?_;refine bF (r:=⟨_,some [],[]⟩) (cE rfl rfl rfl (by assumption) (fun H1 hH=>by exact(by exact kY rfl aE rfl))) rfl ?_;refine bF (r:=⟨_,some [],[]⟩) (cE rfl rfl rfl (by assumption) (fun H1 hH=>by exact JX rfl rfl rfl)) rfl ?_;refine Cr [] (fun _ _=>wX)<|Cr [] (fun _ _=>aF)<|Ot<|Ot<|Ot<|Cr [] (fun _ _=>nS)<|Cr [3] (fun _ h=>fh eT h)<|Cp [3] (fun H1 hH=>by exact bH rfl sizeOf22 rfl rfl rfl ((hH _ rfl).trans rfl) rfl rfl (aOM rfl) rfl rfl)<|Cr [] (fun _ _=>aN)<|bL<|Kr ?_;exact⟨rfl,⟨_,rfl,by rfl⟩,rfl,rfl,rfl⟩
   refine aO follows<|Cr [1] (fun _ h=>fh eT h)<|Cr [1] (fun _ h=>lh aH h)<|Cr [] (fun _ _=>aF)<|Cr [] (fun _ _=>aF) ?_;refine bF (r:=⟨_,some [1],[]⟩) (cE rfl rfl rfl (by rfl) (fun H1 hH=>by exact(by exact bG rfl eT rfl ((hH _ rfl).trans rfl) rfl rfl))) rfl ?_;refine bF (r:=⟨_,some [1],[]⟩) (cE rfl rfl rfl (by rfl) (fun H1 hH=>by exact(by exact aK rfl aH rfl ((hH _ rfl).trans rfl) rfl rfl rfl))) rfl ?_;refine bF (r:=⟨_,some [],[]⟩) (cE rfl rfl rfl (by rfl) (fun H1 hH=>by exact(by exact kY rfl aE rfl))) rfl ?_;refine bF (r:=⟨_,some [],[]⟩) (cE rfl rfl rfl (by rfl) (fun H1 hH=>by exact E9 rfl rfl rfl)) rfl ?_;refine Cr [] (fun _ _=>cW)<|Cr [] (fun _ _=>aF) ?_;refine bF (r:=⟨_,some [1],[]⟩) (cE rfl rfl rfl (by assumption) (fun H1 hH=>by exact(by exact bG rfl eT rfl ((hH _ rfl).trans rfl) rfl rfl))) rfl ?_;refine bF (r:=⟨_,some [1],[]⟩) (cE rfl rfl rfl (by assumption) (fun H1 hH=>by exact(by exact aK rfl aH rfl ((hH _ rfl).trans rfl) rfl rfl rfl))) rfl ?_;refine bF (r:=⟨_,some [],[]⟩) (cE rfl rfl rfl (by assumption) (fun H1 hH=>by exact(by exact kY rfl aE rfl))) rfl ?_;refine bF (r:=⟨_,some [],[]⟩) (cE rfl rfl rfl (by assumption) (fun H1 hH=>by exact JX rfl rfl rfl)) rfl ?_;refine Cr [] (fun _ _=>wX)<|Cr [] (fun _ _=>aF) ?_;refine bF (r:=⟨_,some [1],[]⟩) (cE rfl rfl rfl (by assumption) (fun H1 hH=>by exact(by exact bG rfl eT rfl ((hH _ rfl).trans rfl) rfl rfl))) rfl ?_;refine bF (r:=⟨_,some [1],[]⟩) (cE rfl rfl rfl (by assumption) (fun H1 hH=>by exact(by exact aK rfl aH rfl ((hH _ rfl).trans rfl) rfl rfl rfl))) rfl ?_;refine bF (r:=⟨_,some [],[]⟩) (cE rfl rfl rfl (by assumption) (fun H1 hH=>by exact aA rfl rfl CZ rfl (R7 e.refs _ h5 h6))) rfl ?_;refine Cr [] (fun _ _=>wX)<|Cr [3] (fun _ h=>fh eT h)<|Cp [3] (fun H1 hH=>by exact bH rfl sizeOf22 rfl rfl rfl ((hH _ rfl).trans rfl) rfl rfl (aOM rfl) rfl rfl)<|Cr [] (fun _ _=>aN)<|bL<|Kr ?_;exact⟨rfl,⟨_,rfl,by rfl⟩,rfl,rfl,rfl⟩
  refine Sq ?_;refine bA (t:=2) (n:=8) (X:=(bP e.id&&decide ((0:Int) < ((e.refs.map encStr).length:Int))&&decide (((e.refs.map encStr).length:Int)≤2000)&&e.refs.all bP)&&kC ⟨e.op,e.id,sNil,sNil,0,0,sNil,sNil,e.refs,zObj⟩ e) ?_ ?_
  ·all_goals refine Dd aF ?_
   all_goals refine Dm ?_
   all_goals refine Sp 127 (fun h127=>?_) fun h127=>?_
   all_goals try contradiction
   all_goals first|refine Fo<|Fo<|Fo ?_|refine On (by exact aL rfl bZ aS rfl rfl rfl rfl (by simp only [Zl,bJ,bQ,encStr,aU,zObj];rfl) rfl)<|On (by exact aL rfl bZ aS rfl rfl rfl rfl (by simp only [Zl,bJ,bQ,encStr,aU,zObj];rfl) rfl)<|On (by exact aA rfl rfl wF rfl (yK ⟨e.op,e.id,sNil,sNil,0,0,sNil,sNil,e.refs,zObj⟩ e _ (by exact h5) PM)) ?_
   all_goals refine Dd cW<|Da ?_
   all_goals(exact⟨⟨_,rfl,by(rw [h127];rfl)⟩,rfl,rfl,rfl⟩)
  refine aC<|Rt ?_;exact⟨by rw [hv],rfl⟩
 have ho4:¬ e.op=4:=aNw hc4;refine Sr<|Dd cT<|Da ?_;refine Cn ?_ ?_<;>intro hc5
 ·have ho:e.op=5:=aNv hc5;have hx:C1 e=⟨e.op,e.id,sNil,sNil,0,0,sNil,sNil,[],zObj⟩:=by rw [C1,aNx ho1,aNx ho2,aNx ho3,aNx ho4,aNy ho]
  have hk:pY e=(bP e.id):=by rw [pY,aNx ho1,aNx ho2,aNx ho3,aNx ho4,aNy ho];simp
  have hv:dP e=((bP e.id)&&kC ⟨e.op,e.id,sNil,sNil,0,0,sNil,sNil,[],zObj⟩ e):=by rw [dP,hx,hk,ho];rfl
  refine aD<|Sq ?_;refine bA (t:=2) (n:=8) (X:=(bP e.id)&&kC ⟨e.op,e.id,sNil,sNil,0,0,sNil,sNil,[],zObj⟩ e) ?_ ?_
  ·all_goals refine Dd aF ?_
   all_goals refine Dm ?_
   all_goals refine Sp 127 (fun h127=>?_) fun h127=>?_
   all_goals try contradiction
   all_goals first|refine Fo<|Fo<|Fo ?_|refine On (by exact aL rfl bZ aS rfl rfl rfl rfl (by simp only [Zl,bJ,bQ,encStr,aU,zObj];rfl) rfl)<|On (by exact aL rfl bZ aS rfl rfl rfl rfl (by simp only [Zl,bJ,bQ,encStr,aU,zObj];rfl) rfl)<|On (by exact aA rfl rfl wF rfl (yK ⟨e.op,e.id,sNil,sNil,0,0,sNil,sNil,[],zObj⟩ e _ (by(show 0 < _;omega)) PM)) ?_
   all_goals refine Dd cW<|Da ?_
   all_goals(exact⟨⟨_,rfl,by(rw [h127];rfl)⟩,rfl,rfl,rfl⟩)
  refine aC<|Rt ?_;exact⟨by rw [hv],rfl⟩
 have ho5:¬ e.op=5:=aNw hc5;refine Sr<|Dd cT<|Da ?_;refine Cn ?_ ?_<;>intro hc6
 ·have ho:e.op=6:=aNv hc6;have hx:C1 e=⟨e.op,e.id,e.other,e.node,0,0,sNil,sNil,[],zObj⟩:=by rw [C1,aNx ho1,aNx ho2,aNx ho3,aNx ho4,aNx ho5,aNy ho]
  have hk:pY e=(bP e.id&&(bP e.node&&bP e.other)):=by rw [pY,aNx ho1,aNx ho2,aNx ho3,aNx ho4,aNx ho5,aNy ho]
  have hb:(bP e.id&&(bP e.node&&bP e.other))=(bP e.id&&(bP e.node&&bP e.other)):=by rfl
  have hv:dP e=((bP e.id&&(bP e.node&&bP e.other))&&kC ⟨e.op,e.id,e.other,e.node,0,0,sNil,sNil,[],zObj⟩ e):=by rw [dP,hx,hk,hb,ho];rfl
  apply uJ (t:=4) (n:=16) (X:=bP e.id&&(bP e.node&&bP e.other))
  ·cases hg104:(bP e.id:Bool)
   ·refine aO follows<|Cr [1] (fun _ h=>fh lC h)<|Cr [1] (fun _ h=>lh isAgg9 h)<|Cr [1] (fun _ h=>fh gO h)<|Cr [1] (fun _ h=>lh isAgg9 h)<|Cr [] (fun _ _=>aF)<|Cr [] (fun _ _=>aF)<|Ot<|Ot<|Ot<|Ot<|Ot<|Ot<|Cr [] (fun _ _=>cW)<|Cr [3] (fun _ h=>fh lC h)<|Cp [3] (fun H1 hH=>by exact bH rfl sizeOf9 rfl rfl rfl ((hH _ rfl).trans rfl) rfl rfl (aOM rfl) rfl rfl)<|Cr [3] (fun _ h=>fh gO h)<|Cp [3] (fun H1 hH=>by exact bH rfl sizeOf9 rfl rfl rfl ((hH _ rfl).trans rfl) rfl rfl (aOM rfl) rfl rfl)<|Cr [] (fun _ _=>aN)<|bL<|Kr ?_;exact⟨rfl,⟨_,rfl,by rfl⟩,rfl,rfl,rfl⟩
   refine aO follows<|Cr [1] (fun _ h=>fh lC h)<|Cr [1] (fun _ h=>lh isAgg9 h)<|Cr [1] (fun _ h=>fh gO h)<|Cr [1] (fun _ h=>lh isAgg9 h)<|Cr [] (fun _ _=>aF)<|Cr [] (fun _ _=>aF) ?_;refine bF (r:=⟨_,some [1],[]⟩) (cE rfl rfl rfl (by rfl) (fun H1 hH=>by exact(by exact bG rfl lC rfl ((hH _ rfl).trans rfl) rfl rfl))) rfl ?_;refine bF (r:=⟨_,some [1],[]⟩) (cE rfl rfl rfl (by rfl) (fun H1 hH=>by exact(by exact aK rfl isAgg9 rfl ((hH _ rfl).trans rfl) rfl rfl rfl))) rfl ?_;refine bF (r:=⟨_,some [1],[]⟩) (cE rfl rfl rfl (by rfl) (fun H1 hH=>by exact(by exact bG rfl gO rfl ((hH _ rfl).trans rfl) rfl rfl))) rfl ?_;refine bF (r:=⟨_,some [1],[]⟩) (cE rfl rfl rfl (by rfl) (fun H1 hH=>by exact(by exact aK rfl isAgg9 rfl ((hH _ rfl).trans rfl) rfl rfl rfl))) rfl ?_;refine bF (r:=⟨_,some [],[]⟩) (cE rfl rfl rfl (by rfl) (fun H1 hH=>by exact(by exact aR ([e.node,e.other].map encStr) rfl cA rfl rfl rfl rfl rfl (by simp [encStr])))) rfl ?_;refine bF (r:=⟨_,some [],[]⟩) (cE rfl rfl rfl (by rfl) (fun H1 hH=>by exact aA rfl rfl CZ rfl (aMw e.node e.other _ h3 h2))) rfl ?_;refine Cr [] (fun _ _=>cW)<|Cr [3] (fun _ h=>fh lC h)<|Cp [3] (fun H1 hH=>by exact bH rfl sizeOf9 rfl rfl rfl ((hH _ rfl).trans rfl) rfl rfl (aOM rfl) rfl rfl)<|Cr [3] (fun _ h=>fh gO h)<|Cp [3] (fun H1 hH=>by exact bH rfl sizeOf9 rfl rfl rfl ((hH _ rfl).trans rfl) rfl rfl (aOM rfl) rfl rfl)<|Cr [] (fun _ _=>aN)<|bL<|Kr ?_;exact⟨rfl,⟨_,rfl,by rfl⟩,rfl,rfl,rfl⟩
  refine Sq ?_;refine bA (t:=2) (n:=8) (X:=(bP e.id&&(bP e.node&&bP e.other))&&kC ⟨e.op,e.id,e.other,e.node,0,0,sNil,sNil,[],zObj⟩ e) ?_ ?_
  ·all_goals refine Dd aF ?_
   all_goals refine Dm ?_
   all_goals refine Sp 127 (fun h127=>?_) fun h127=>?_
   all_goals try contradiction
   all_goals first|refine Fo<|Fo<|Fo ?_|refine On (by exact aL rfl bZ aS rfl rfl rfl rfl (by simp only [Zl,bJ,bQ,encStr,aU,zObj];rfl) rfl)<|On (by exact aL rfl bZ aS rfl rfl rfl rfl (by simp only [Zl,bJ,bQ,encStr,aU,zObj];rfl) rfl)<|On (by exact aA rfl rfl wF rfl (yK ⟨e.op,e.id,e.other,e.node,0,0,sNil,sNil,[],zObj⟩ e _ (by(show 0 < _;omega)) PM)) ?_
   all_goals refine Dd cW<|Da ?_
   all_goals(exact⟨⟨_,rfl,by(rw [h127];rfl)⟩,rfl,rfl,rfl⟩)
  refine aC<|Rt ?_;exact⟨by rw [hv],rfl⟩
 have ho6:¬ e.op=6:=aNw hc6;refine Sr<|Dd cT<|Da ?_;refine Cn ?_ ?_<;>intro hc7
 ·have ho:e.op=7:=aNv hc7;have hx:C1 e=⟨e.op,e.id,e.other,sNil,0,0,sNil,sNil,[],zObj⟩:=by rw [C1,aNx ho1,aNx ho2,aNx ho3,aNx ho4,aNx ho5,aNx ho6]
  have hk:pY e=(bP e.id&&bP e.other):=by rw [pY,aNx ho1,aNx ho2,aNx ho3,aNx ho4,aNx ho5,aNx ho6]
  have hb:(bP e.id&&bP e.other)=(bP e.id&&bP e.other):=by rfl
  have hv:dP e=((bP e.id&&bP e.other)&&kC ⟨e.op,e.id,e.other,sNil,0,0,sNil,sNil,[],zObj⟩ e):=by rw [dP,hx,hk,hb,ho];rfl
  apply uJ (t:=4) (n:=11) (X:=bP e.id&&bP e.other)
  ·cases hg119:(bP e.id:Bool)
   ·refine aO follows<|Cr [1] (fun _ h=>fh gO h)<|Cr [1] (fun _ h=>lh isAgg9 h)<|Cr [] (fun _ _=>aF)<|Cr [] (fun _ _=>aF)<|Ot<|Ot<|Ot<|Ot<|Cr [] (fun _ _=>cW)<|Cr [3] (fun _ h=>fh gO h)<|Cp [3] (fun H1 hH=>by exact bH rfl sizeOf9 rfl rfl rfl ((hH _ rfl).trans rfl) rfl rfl (aOM rfl) rfl rfl)<|Cr [] (fun _ _=>aN)<|bL<|Kr ?_;exact⟨rfl,⟨_,rfl,by rfl⟩,rfl,rfl,rfl⟩
   refine aO follows<|Cr [1] (fun _ h=>fh gO h)<|Cr [1] (fun _ h=>lh isAgg9 h)<|Cr [] (fun _ _=>aF)<|Cr [] (fun _ _=>aF) ?_;refine bF (r:=⟨_,some [1],[]⟩) (cE rfl rfl rfl (by rfl) (fun H1 hH=>by exact(by exact bG rfl gO rfl ((hH _ rfl).trans rfl) rfl rfl))) rfl ?_;refine bF (r:=⟨_,some [1],[]⟩) (cE rfl rfl rfl (by rfl) (fun H1 hH=>by exact(by exact aK rfl isAgg9 rfl ((hH _ rfl).trans rfl) rfl rfl rfl))) rfl ?_;refine bF (r:=⟨_,some [],[]⟩) (cE rfl rfl rfl (by rfl) (fun H1 hH=>by exact(by exact aR ([e.other].map encStr) rfl cA rfl rfl rfl rfl rfl (by simp [encStr])))) rfl ?_;refine bF (r:=⟨_,some [],[]⟩) (cE rfl rfl rfl (by rfl) (fun H1 hH=>by exact aA rfl rfl CZ rfl (aGs e.other _ h2))) rfl ?_;refine Cr [] (fun _ _=>cW)<|Cr [3] (fun _ h=>fh gO h)<|Cp [3] (fun H1 hH=>by exact bH rfl sizeOf9 rfl rfl rfl ((hH _ rfl).trans rfl) rfl rfl (aOM rfl) rfl rfl)<|Cr [] (fun _ _=>aN)<|bL<|Kr ?_;exact⟨rfl,⟨_,rfl,by rfl⟩,rfl,rfl,rfl⟩
  refine Sq ?_;refine bA (t:=2) (n:=8) (X:=(bP e.id&&bP e.other)&&kC ⟨e.op,e.id,e.other,sNil,0,0,sNil,sNil,[],zObj⟩ e) ?_ ?_
  ·all_goals refine Dd aF ?_
   all_goals refine Dm ?_
   all_goals refine Sp 127 (fun h127=>?_) fun h127=>?_
   all_goals try contradiction
   all_goals first|refine Fo<|Fo<|Fo ?_|refine On (by exact aL rfl bZ aS rfl rfl rfl rfl (by simp only [Zl,bJ,bQ,encStr,aU,zObj];rfl) rfl)<|On (by exact aL rfl bZ aS rfl rfl rfl rfl (by simp only [Zl,bJ,bQ,encStr,aU,zObj];rfl) rfl)<|On (by exact aA rfl rfl wF rfl (yK ⟨e.op,e.id,e.other,sNil,0,0,sNil,sNil,[],zObj⟩ e _ (by(show 0 < _;omega)) PM)) ?_
   all_goals refine Dd cW<|Da ?_
   all_goals(exact⟨⟨_,rfl,by(rw [h127];rfl)⟩,rfl,rfl,rfl⟩)
  refine aC<|Rt ?_;exact⟨by rw [hv],rfl⟩
 have ho7:¬ e.op=7:=aNw hc7;refine Sr<|Dd aN<|Zz<|aC<|Rt ?_;refine⟨?_,rfl⟩;have:dP e=false:=by
  rw [dP,Bool.and_eq_false_iff];left;rw [Bool.and_eq_false_iff,aOH,aOH];omega
 rw [this]
theorem MX (e:GEdit) (H:aB) (he:LM e):aI Tryz.prog 208 [av (aU e)] H (fun r H'=>r=bv (!dP e)∧H'=H):=by refine Pu ?_;exact Bd func208 rfl ntmps208<|Sr<|Dd (by exact cH (id:=1) rfl rfl rfl rfl rfl)<|Dd aN<|Zz<|Sr<|Dd (by exact aL rfl bZ aS rfl rfl rfl rfl (by simp only [Zl,bJ,bQ,encStr,aU,zObj];rfl) rfl)<|Dd (by exact aA rfl rfl call209 rfl (VL e _ he))<|Dd jS<|Dd aN<|Zz<|aC<|Rt<|Qq
def jN (l:List GEdit):Bool:=decide ((0:Int) < (l.length:Int))&&decide ((l.length:Int)≤200)&&!(l.any (fun e=>!dP e))
theorem OJ (l:List GEdit) (H:aB) (hl:l.length < 4611686018427387904) (he:∀ e∈l,LM e):aI Tryz.prog 170 [.pv (hU l)] H (fun r H'=>r=bv (jN l)∧H'=H):=by
 refine Pu ?_;have hml:(l.map aU).length=l.length:=aNz _;refine Bd func170 rfl ntmps170<|Sr<|Dd aN<|Zz<|Sq ?_;refine bA (t:=2) (n:=16) (X:=decide ((0:Int) < ((l.map aU).length:Int))&&decide (((l.map aU).length:Int)≤200)&&!(l.any (fun e=>!dP e))) ?_ ?_
 ·all_goals refine Dd aF ?_
  all_goals refine Dd (fY cX)<|Dd jE<|Dm ?_
  all_goals refine Sp 6 (fun h6=>?_) fun h6=>?_
  all_goals try contradiction
  all_goals first|refine Fo<|Fo<|Fo ?_|refine On aF<|On (fY cX)<|On MB ?_
  all_goals refine Dd cW<|Dm ?_
  all_goals refine Sp 11 (fun h11=>?_) fun h11=>?_
  all_goals try contradiction
  all_goals first|refine Fo<|Fo<|Fo ?_|refine On aF<|On (by exact aA rfl rfl call207 rfl (D0 (.pv (.fn 208)) l (fun e=>!dP e) _ hl (fun e h=>dD.fn call208 (MX e _ (he e h)))))<|On jS ?_
  all_goals refine Dd cW<|Da ?_
  all_goals(exact⟨⟨_,rfl,by first|(simp_all;done)|(simp_all;omega)⟩,rfl,rfl,rfl⟩)
 refine aC<|Rt ?_;exact⟨by rw [jN,hml],rfl⟩
theorem Z5 {α:Type} (f:α→List PV) (l:List α):l.map (fun e=>(f e).map AV.pv)=(l.map f).map (·.map .pv):=by rw [List.map_map];rfl
def nm (i:Nat):ByteArray:=⟨#[110,49+UInt8.ofNat i]⟩
theorem aJ0 {B:Nat} {e:GEdit} (hB:B < 4611686018427387904) (h:RA B e):LM e :=⟨⟨by have:=h.2.1;omega,by have:=h.2.2.1;omega,by have:=h.2.2.2.1;omega,by have:=h.2.2.2.2.2.2.1;omega⟩,
  ⟨by have:=h.2.2.2.2.2.2.2.2.1.1;omega,fun s hs=>by have:=h.2.2.2.2.2.2.2.2.1.2 s hs;omega⟩,aJZ hB h.2.2.2.2.2.2.2.2.2⟩
end Go.Proofs.YtiifmppaejpemaaGreatDoor
namespace Go.Abs
open Go.Proofs
theorem Rel.grown {I:Nat→Prop} {ι:eS} {H:aB} {w:World} (os:Array Obj) (hr:Rel I ι H w):Rel I ι H (Sort.grow w os)∧Step I ι H w I ι H (Sort.grow w os):=by
 have hk:∀ b,b < w.heap.size→(Sort.grow w os).heap[b]?=w.heap[b]?:=fun b hb=>by
  show (w.heap++os)[b]?=_;rw [Array.getElem?_append_left hb]
 have hst:Step I ι H w I ι H (Sort.grow w os):=by
  refine⟨rfl,rfl,rfl,?_,fun a ha _=>?_,fun _ h=>h,fun _ h=>.inl h,fun _ h=>.inl h,fun b hb _=>hk b hb,fun _ o h=>⟨o,h,aOF _,fun _=>⟨rfl,rfl,fun _=>aOF _⟩⟩⟩
  ·show w.heap.size≤(w.heap++os).size;simp
  unfold World.frozen?;rw [hk _ ha]
 refine⟨⟨fun b hb=>?_,fun j o hj=>?_,hr.inj,hst.glob hr⟩,hst⟩
 ·have:=hr.imm b hb;show b < (w.heap++os).size;simp;omega
 exact(hr.obj j o hj).keep rfl (fun b c _ hb=>⟨hk b hb,fun h=>h⟩) (fun r _ a _ v hv=>hv.mono hr hst)
def lW (l:List ByteArray):List (List AV):=l.map fun s=>[.pv (.str s)]
def aT (n:Int):ByteArray:=⟨(Lib.itoa n).toArray⟩
theorem itoa_c {P:Program} {ρ:Shelf.Ren} (L:LaysM.n171 P ρ) {G:Nat} (hg:(G,GV.ints .u64 Lib.pow10Tab)∈SJ) (hn:P.globalNamed "internal/strconv.uint64pow10" = some G) (n:Int) (h0 : -9223372036854775808≤n) (h1:n≤9223372036854775807) (H:aB) :
  aI P (ρ.f 171) [.pv (.int .i64 n)] H (fun r H'=>r=.pv (.str (aT n))∧H'=H):=by
 intro I ι w vs hr hvl hv;obtain ⟨v,rfl⟩:∃ v,vs=#[v]:=by
  match vs,hvl with
  | ⟨[v]⟩,_=>exact⟨v,rfl⟩
 have e1:=(hv 0 v _ rfl rfl).int_inv;subst e1;have htab:Lib.TabIs P w "internal/strconv.uint64pow10" .u64 Lib.pow10Tab:=by
  obtain ⟨_,cs,t,f,h2,h3⟩:=hr.glob _ hg;have h3':cs=(Lib.pow10Tab.map fun z=>Value.int .u64 z).toArray:=h3;subst h3';simp only [Lib.TabIs,World.var?,hn,Option.bind_some,h2]
 refine(Any.strconv_Itoa L n h0 h1 w htab).mono ?_;rintro e w' ⟨rfl,k,os,rfl⟩;obtain ⟨k1,k2⟩:=Rel.drawn (w':=w.drewN k) hr rfl rfl rfl rfl;obtain ⟨m1,m2⟩:=Rel.grown os k1;exact⟨_,_,I,ι,_,rfl,⟨rfl,rfl⟩,.pv (.str _),m1,k2.trans m2⟩
theorem mul64_c {P:Program} {ρ:Shelf.Ren} (L:Lays.n264 P ρ) (x y:Nat) (hx:x < 18446744073709551616) (hy:y < 18446744073709551616) (H:aB) :
  aI P (ρ.f 264) [.pv (.int .u64 (x:Int)),.pv (.int .u64 (y:Int))] H (fun r H'=>r=.tup [.pv (.int .u64 ((x*y / 18446744073709551616:Nat):Int)),.pv (.int .u64 ((x*y % 18446744073709551616:Nat):Int))]∧H'=H):=by
 intro I ι w vs hr hvl hv;obtain ⟨v,u,rfl⟩:∃ v u,vs=#[v,u]:=by
  match vs,hvl with
  | ⟨[v,u]⟩,_=>exact⟨v,u,rfl⟩
 have e1:=(hv 0 v _ rfl rfl).int_inv;have e2:=(hv 1 u _ rfl rfl).int_inv;subst e1 e2;refine(Any.bits_Mul64 L x y hx hy w).mono ?_;rintro e w' ⟨rfl,rfl⟩;refine⟨_,_,I,ι,_,rfl,⟨rfl,rfl⟩,.tup rfl fun i v a h1 h2=>?_,hr,Step.refl _ _ _ _⟩
 match i,h1,h2 with
 | 0,h1,h2=>cases h1;cases h2;exact .pv (.int _ _)
 | 1,h1,h2=>cases h1;cases h2;exact .pv (.int _ _)
 | i+2,h1,h2=>simp at h1
end Go.Abs
section
namespace Go.Proofs
open Go.RowKit Go.Sort Go.Shelf
def aNo:Go.Shelf.Ren:=⟨fun|171=>113|243=>158|246=>193|283=>223|284=>224|285=>225|286=>226|129=>256|317=>255|318=>257|319=>258|320=>259|337=>274|338=>275|n=>n,fun|3=>3|9=>9|2=>2|4=>4|171=>235|0=>0|53=>126|37=>124|5=>5|173=>238|212=>264|51=>265|20=>20|213=>266|46=>128|232=>284|233=>285|n=>n,fun|17=>5|18=>6|19=>7|n=>n⟩
theorem aNs:Go.Proofs.LaysM.n171 Tryz.prog aNo:={
  mixed:=by kernel_rfl
  f129:=Tryz.func256.trans (congrArg some (by kernel_rfl))
  f171:=Tryz.func113.trans (congrArg some (by kernel_rfl))
  f243:=Tryz.func158.trans (congrArg some (by kernel_rfl))
  f246:=Tryz.func193.trans (congrArg some (by kernel_rfl))
  f283:=Tryz.func223.trans (congrArg some (by kernel_rfl))
  f284:=Tryz.func224.trans (congrArg some (by kernel_rfl))
  f285:=Tryz.func225.trans (congrArg some (by kernel_rfl))
  f286:=Tryz.func226.trans (congrArg some (by kernel_rfl))
  f317:=Tryz.func255.trans (congrArg some (by kernel_rfl))
  f318:=Tryz.func257.trans (congrArg some (by kernel_rfl))
  f319:=Tryz.func258.trans (congrArg some (by kernel_rfl))
  f320:=Tryz.func259.trans (congrArg some (by kernel_rfl))
  f337:=Tryz.func274.trans (congrArg some (by kernel_rfl))
  f338:=Tryz.func275.trans (congrArg some (by kernel_rfl))
  t0:=aFY
  a0:=aNk
  z0:=aNN
  v0:=aHv
  t2:=Tryz.underlying2
  a2:=Tryz.isAgg2
  z2:=Tryz.sizeOf2
  v2:=Tryz.zeroValue2
  t3:=Tryz.underlying3
  a3:=Tryz.isAgg3
  z3:=Tryz.sizeOf3
  v3:=B3
  t4:=dZ
  a4:=oC
  z4:=Tryz.sizeOf4
  v4:=mG
  t5:=iV
  a5:=AN
  z5:=cG
  v5:=B2
  t9:=Tryz.underlying9
  a9:=Tryz.isAgg9
  z9:=Tryz.sizeOf9
  v9:=sZ
  t20:=GI
  a20:=rM
  z20:=aMB
  v20:=aFX
  t37:=dC
  a37:=dR
  z37:=nR
  v37:=Tryz.zeroValue124
  t46:=D8
  a46:=WT
  z46:=S6
  v46:=GF
  t51:=Tryz.underlying265
  a51:=Tryz.isAgg265
  z51:=Tryz.sizeOf265
  v51:=Tryz.zeroValue265
  t53:=oM
  a53:=H7
  z53:=EA
  v53:=GG
  t171:=Tryz.underlying235
  a171:=Tryz.isAgg235
  z171:=Tryz.sizeOf235
  v171:=Tryz.zeroValue235
  t173:=Tryz.underlying238
  a173:=Tryz.isAgg238
  z173:=Tryz.sizeOf238
  v173:=Tryz.zeroValue238
  t212:=Tryz.underlying264
  a212:=Tryz.isAgg264
  z212:=Tryz.sizeOf264
  v212:=Tryz.zeroValue264
  t213:=Tryz.underlying266
  a213:=Tryz.isAgg266
  z213:=Tryz.sizeOf266
  t232:=Tryz.underlying284
  a232:=Tryz.isAgg284
  z232:=Tryz.sizeOf284
  v232:=Tryz.zeroValue284
  t233:=Tryz.underlying285
  a233:=Tryz.isAgg285
  z233:=Tryz.sizeOf285
  v233:=Tryz.zeroValue285
  g17:=by kernel_rfl
  g18:=by kernel_rfl
  g19:=by kernel_rfl
  i0:=by kernel_rfl
  i2:=by kernel_rfl
  i3:=by kernel_rfl
  i4:=by kernel_rfl
  i5:=by kernel_rfl
  i9:=by kernel_rfl
  i20:=by kernel_rfl
  i37:=by kernel_rfl
  i46:=by kernel_rfl
  i51:=by kernel_rfl
  i53:=by kernel_rfl
  i171:=by kernel_rfl
  i173:=by kernel_rfl
  i212:=by kernel_rfl
  i232:=by kernel_rfl
  i233:=by kernel_rfl
  m17:=by kernel_rfl
  m18:=by kernel_rfl
  m19:=by kernel_rfl}
end Go.Proofs
namespace Go.Proofs.YtiifmppaejpemaaGreatDoor
open Go.Proofs.Tryz
open Go.Abs
theorem sM (n:Int) (h0 : -9223372036854775808≤n) (h1:n≤9223372036854775807) (H:aB):aI Tryz.prog 113 [iv n] H (fun r H'=>r=sv (aT n)∧H'=H) :=Go.Abs.itoa_c aNs (G:=5) (by unfold SJ;exact .head _) (by kernel_rfl) n h0 h1 H
end Go.Proofs.YtiifmppaejpemaaGreatDoor
end
namespace Go.Abs
section
section
variable {P:Program} {G0:aB} {N:Nat} {E:cB} {H:aB} {ops:Array Oper} {K:cB→aB→Prop} {o:Oper} {rest:List Oper}
def ALx (P:Program) (G0:aB) (N:Nat) (ops:Array Oper) (K:cB→aB→Prop) (l:List Oper) (E:cB) (H:aB) (d:Nat) (F:eS→Value→Prop):Prop :=∀ G:Entry,G.H=G0→∀ (a:Act) (w:World) (I:Nat→Prop) (ι:eS),qD G.ds G.w w a.defers→a.tmps.size=N→Rel I ι H w→Step G.I G.ι G.H G.w I ι H w→iO w I ι H E a→(∃ c,a.tmps[d]?=some c∧F ι c) →
  ∀ ro,(ro=none∨l.all Oper.noDefer=true)→∀ Q:Exit→Act→World→Prop,(∀ E H a w,K E H→St G N E H a w→Q .normal a w)→wpListIn (RF ro) 0 P ops Q l a w
def aKP (id n:Nat) (ι:eS) (c:Value):Prop:=∃ b cap,ι id=some (b,cap)∧c=.slice (some ⟨b,0,none⟩) n n
theorem EX (a:Act) (d:Nat) (c:Value):(a.put (some d) c).tmps.size=a.tmps.size:=by simp [Act.put]
theorem aDX (a:Act) {d:Nat} (c:Value) (h:d < a.tmps.size):(a.put (some d) c).tmps[d]?=some c:=by simp [Act.put,h]
theorem aBP (a:Act) {d d2:Nat} (c:Value) (h:d2≠d):(a.put (some d2) c).tmps[d]?=a.tmps[d]?:=by simp [Act.put,h]
theorem F8 {T e:TypeId} {p:Operand} {d id g n:Nat} {ob:Ob} (hg0:o.guard=none) (hd:o.dst=some d) (hdN:Nat.blt d N=true) (ho:o.op=.slice T p none none none) (hT:P.underlying T=some (.array n e)) (hs:∀ w,(sizeOf e).run P w=.ok 1 w)
  (hx:aP E p=some (.ref id g 0 0)) (hH:H.get id=some ob) (hg:ob.g=g) (hk:ALx P G0 N ops K rest ((d,.any)::E) H d (aKP id n)):AL P G0 N ops K (o::rest) E H:=by
 intro G hG a w hst ro hro Q hq;refine wpListIn_plain hg0 fun K' hK=>?_;refine Oper.wpW_in (kX hro).1 ?_;obtain ⟨I,ι,hr,hs',he⟩:=hst.rel;obtain ⟨b,cap,h1,h3⟩:=mY (aJ he hx) hH hg;have hdn:d < N:=by simpa [Nat.blt_eq] using hdN
 have hrun:(execOp a.eval o).run P w=.ok (.value (.slice (some ⟨b,0,none⟩) n n)) w:=by
  simp only [execOp,ho,h3,Option.map_none];simp [Instr.sliceAt,run_underlying hT,Instr.sureAddr,Instr.sliceBounds,hs,Addr.add_lit]
 unfold Oper.wpW;rw [hrun];show K' (a.put o.dst _) w;rw [hd];exact hK _ _ (hk G hG _ w I ι (by rw [gQ];exact hst.defers) (by rw [EX];exact hst.size) hr hs' (iO.put (d:=some d) hr (Step.refl _ _ _ _) he (.any _) (by rw [hst.size];exact hdN)) ⟨_,aDX a _ (by rw [hst.size];exact hdn),b,cap,h1,rfl⟩ ro (kX hro).2 Q hq)
theorem aFJ {d d2:Nat} {F:eS→Value→Prop} {x:Operand} {v:AV} (hg0:o.guard=none) (hd:o.dst=some d2) (hdN:Nat.blt d2 N=true) (hne:d2≠d) (ho:o.op=.move x) (hx:aP E x=some v) (hk:ALx P G0 N ops K rest ((d2,v)::E) H d F):ALx P G0 N ops K (o::rest) E H d F:=by
 intro G hG a w I ι hm hsz hr hs' he ⟨c,hc,hF⟩ ro hro Q hq;refine wpListIn_plain hg0 fun K' hK=>?_;refine Oper.wpW_in (kX hro).1 ?_;have hrun:(execOp a.eval o).run P w=.ok (.value (a.eval x)) w:=by simp [execOp,ho]
 unfold Oper.wpW;rw [hrun];show K' (a.put o.dst _) w;rw [hd];exact hK _ _ (hk G hG _ w I ι (by rw [gQ];exact hm) (by rw [EX];exact hsz) hr hs' (iO.put (d:=some d2) hr (Step.refl _ _ _ _) he (aJ he hx) (by rw [hsz];exact hdN)) ⟨c,by rw [aBP a _ hne];exact hc,hF⟩ ro (kX hro).2 Q hq)
def iU (s:List UInt8):List AV:=s.map fun b=>.pv (.int .u8 b.toNat)
theorem uI (s:List UInt8):(iU s).length=s.length:=aNz _
theorem SZ {D S e:TypeId} {y:Operand} {d d2 id g n m T:Nat} {cells:List AV} {s:ByteArray} (hg0:o.guard=none) (hd:o.dst=some d2) (hdN:Nat.blt d2 N=true) (ho:o.op=.call {callee:=.builtin .copy,args:=#[.tmp d,y],argTypes:=#[D,S]}) (hD:P.underlying D=some (.slice e)) (hs:∀ w,(sizeOf e).run P w=.ok 1 w)
  (hH:H.get id=some ⟨g,n,T,[cells]⟩) (hn0:0 < n) (hy:aP E y=some (.pv (.str s))) (hm:min s.size n=m)
  (hk:AL P G0 N ops K rest ((d2,.pv (.int .i64 m))::E) ((id,⟨g,n,T,[iU (s.data.toList.take m)++cells.drop m]⟩)::H)):ALx P G0 N ops K (o::rest) E H d (aKP id n):=by
 intro G hG a w I ι hmk hsz hr hs' he ⟨c,hc,b,cap,hι,hcv⟩ ro hro Q hq;refine wpListIn_plain hg0 fun K' hK=>?_;refine Oper.wpW_in (kX hro).1 ?_;have e2y:=(aJ he hy).str_inv;have e1:a.eval (.tmp d)=.slice (some ⟨b,0,none⟩) n n:=by simp [Act.eval,hc,hcv]
 obtain ⟨p1,p2,⟨b',cap',cs,f1,f2,f3,f4,f5,f5',f6⟩|⟨f1,_⟩⟩:=(hr.obj id _ hH).cells hn0
 rotate_left
 ·rw [hι] at f1;cases f1
 rw [hι] at f1;cases f1;have hlen:cells.length=n:=p2 cells (by simp);have hms:m≤s.size:=by omega
 have hmn:m≤n:=by omega
 simp only [List.length_singleton] at f5;have hcs:n≤cs.size:=by rw [f4];exact Nat.le_mul_of_pos_left _ (by omega)
 have hmm:min m s.data.size=m:=by have:s.data.size=s.size:=rfl;omega
 have hcells:((s.extract 0 m).data.map fun b=>Value.int .u8 b.toNat).toList=(s.data.toList.take m).map fun b=>Value.int .u8 b.toNat:=by simp
 have hst:=run_storeCells_at P b 0 T ((s.data.toList.take m).map fun b=>Value.int .u8 b.toNat) 0 cs w f2 (by simp [hmm];omega) (by intro v hv;obtain ⟨b,_,rfl⟩:=List.mem_map.1 hv;rfl);simp only [Nat.add_zero,aOR,List.take_zero,List.nil_append,aNz,aON,Array.length_toList] at hst;rw [hmm] at hst;have hnl:(iU (s.data.toList.take m)++cells.drop m).length=n:=by
  rw [aOA,uI,aON,aOO,Array.length_toList,hmm,hlen];omega
 obtain ⟨k2,k3⟩:=Rel.update (H':=(id,⟨g,n,T,[iU (s.data.toList.take m)++cells.drop m]⟩)::H) (ob':=⟨g,n,T,[iU (s.data.toList.take m)++cells.drop m]⟩)
  (cs' := ((s.data.toList.take m).map (fun b => Value.int .u8 b.toNat) ++ cs.toList.drop m).toArray) hr hH hι f2 (aOF _) rfl rfl (fun _ => aOF _) (by
   simp only [List.size_toArray,aOA,aNz,aON,aOO,Array.length_toList,hmm];rw [← f4];omega) (by simpa using f5) (by intro r hr';rw [aOC] at hr';subst hr';exact hnl) (fun i r hi k a' hk'=>by
    cases i with
    | succ i=>simp at hi
    | zero =>
     simp only [List.getElem?_cons_zero,Option.some.injEq] at hi;subst hi;rw [Nat.zero_mul,aOR];simp only [List.getElem?_toArray];by_cases ck:k < m
     ·rw [List.getElem?_append_left (by rw [uI,aON,Array.length_toList,hmm];exact ck),iU,aOT] at hk';rw [List.getElem?_append_left (by rw [aNz,aON,Array.length_toList,hmm];exact ck),aOT];cases e:(s.data.toList.take m)[k]? with
      | none=>rw [e] at hk';cases hk'
      | some q =>
       rw [e] at hk';cases hk';exact⟨.int .u8 q.toNat,rfl,rfl,.pv (.int _ _)⟩
     rw [List.getElem?_append_right (by rw [uI,aON,Array.length_toList,hmm];omega),uI,aON,Array.length_toList,hmm,List.getElem?_drop,show m+(k - m)=k by omega] at hk';obtain ⟨u,q1,q2,q3⟩:=f6 0 cells rfl k a' hk';rw [Nat.zero_mul,aOR] at q1;refine⟨u,?_,q2,q3⟩;rw [List.getElem?_append_right (by rw [aNz,aON,Array.length_toList,hmm];omega),aNz,aON,Array.length_toList,hmm,List.getElem?_drop,show m+(k - m)=k by omega]
     simpa using q1) (get_cons_same _ _ _) (fun j hj=>get_cons_other _ _ hj)
 have hmin:Nat.min s.size n=m:=hm;unfold Oper.wpW execOp;simp only [ho,resolve,invoke,builtin,Sem.run_bind,Sem.run_pure,Result.andThen_ok,List.map_toArray,List.map_cons,List.map_nil,e1,e2y,Builtin.copy_,run_underlying hD,hs];simp only [List.getElem?_toArray,List.getElem?_cons_zero,List.getElem?_cons_succ,run_underlying hD,Builtin.lenOf,Builtin.firstCells,Sem.run_bind,Sem.run_pure,Result.andThen_ok,hs,hmin,hcells,hst];show K' (a.put o.dst _) _;rw [hd];refine hK _ _ (hk G hG _ _ ⟨?_,?_,I,ι,k2,hs'.trans k3,iO.put (d:=some d2) hr k3 he (.pv (.int _ _)) (by rw [hsz];exact hdN)⟩ ro (kX hro).2 Q hq)
 ·rw [gQ];exact hmk.step hr k3
 rw [EX];exact hsz
theorem aHt {S T e:TypeId} {d d2 id g n A:Nat} {bs:List UInt8} {r:ByteArray} (hg0:o.guard=none) (hd:o.dst=some d2) (hdN:Nat.blt d2 N=true) (ho:o.op=.convert S T (.tmp d)) (hS:P.underlying S=some (.slice e)) (he':P.underlying e=some (.int .u8)) (hT:P.underlying T=some .string)
  (hH:H.get id=some ⟨g,n,A,[iU bs]⟩) (hn0:0 < n) (hr':(⟨bs.toArray⟩:ByteArray)=r) (hk:AL P G0 N ops K rest ((d2,.pv (.str r))::E) H):ALx P G0 N ops K (o::rest) E H d (aKP id n):=by
 intro G hG a w I ι hmk hsz hr hs' he ⟨c,hc,b,cap,hι,hcv⟩ ro hro Q hq;refine wpListIn_plain hg0 fun K' hK=>?_;refine Oper.wpW_in (kX hro).1 ?_;have e1:a.eval (.tmp d)=.slice (some ⟨b,0,none⟩) n n:=by simp [Act.eval,hc,hcv]
 obtain ⟨p1,p2,⟨b',cap',cs,f1,f2,f3,f4,f5,f5',f6⟩|⟨f1,_⟩⟩:=(hr.obj id _ hH).cells hn0
 rotate_left
 ·rw [hι] at f1;cases f1
 rw [hι] at f1;cases f1;have hlen:bs.length=n:=by rw [← uI bs];exact p2 (iU bs) (by simp)
 subst hr';have hl:(loadCells ⟨b,0,none⟩ n).run P w=.ok ((bs.map fun b=>(b.toNat:Int)).map (Value.int .u8)).toArray w:=by
  have h0:=run_loadCells_list (P:=P) w ⟨b,0,none⟩ ((bs.map fun b=>(b.toNat:Int)).map (Value.int .u8)) (fun j v hv=>by
   rw [List.map_map,aOT] at hv;obtain ⟨q,hq1,rfl⟩:=Option.map_eq_some_iff.1 hv;rw [Addr.add_lit,aOR,cell_of_row w b _ cs _ (0,0) f2];obtain ⟨u,q1,q2,q3⟩:=f6 0 (iU bs) rfl j (.pv (.int .u8 q.toNat)) (by rw [iU,aOT,hq1];rfl);rw [Nat.zero_mul,aOR] at q1;rw [q1,q3.int_inv];rfl)
  rwa [aNz,aNz,hlen] at h0
 have hrun:(execOp a.eval o).run P w=.ok (.value (.string ⟨bs.toArray⟩)) w:=by
  simp only [execOp,ho,e1,Sem.run_bind];rw [run_convert_bytes_string w S T e _ _ n hS he' hT,run_bytesToString w _ _ n _ hl,foldl_push_bytes];have e3:(bs.map fun b=>(b.toNat:Int)).map (fun n=>UInt8.ofNat n.toNat)=bs:=by
   rw [List.map_map]
   conv=>rhs;rw [← List.map_id bs]
   refine List.map_congr_left fun b _=>?_;simp
  rw [e3];simp [ByteArray.empty,ByteArray.emptyWithCapacity];rfl
 unfold Oper.wpW;rw [hrun];show K' (a.put o.dst _) w;rw [hd];exact hK _ _ (hk G hG _ w ⟨by rw [gQ];exact hmk,by rw [EX];exact hsz,I,ι,hr,hs',iO.put (d:=some d2) hr (Step.refl _ _ _ _) he (.pv (.str _)) (by rw [hsz];exact hdN)⟩ ro (kX hro).2 Q hq)
end
end
end Go.Abs
section
namespace Go.Proofs
open Go.RowKit Go.Sort Go.Shelf
end Go.Proofs
namespace Go.Proofs.YtiifmppaejpemaaGreatDoor
open Go.Proofs.Tryz
open Go.Abs
def pick (L:List ByteArray) (seen:List Nat):List ByteArray:=seen.map fun i=>(L[i]?).getD ⟨#[]⟩
end Go.Proofs.YtiifmppaejpemaaGreatDoor
end
section
namespace Go.Proofs
open Go.RowKit Go.Sort Go.Shelf
def aNn:Go.Shelf.Ren:=⟨fun|264=>156|n=>n,fun|53=>126|46=>128|n=>n,fun|n=>n⟩
theorem aNr:Go.Proofs.Lays.n264 Tryz.prog aNn:={
  mixed:=by kernel_rfl
  f264:=Tryz.func156.trans (congrArg some (by kernel_rfl))
  t46:=D8
  a46:=WT
  z46:=S6
  v46:=GF
  t53:=oM
  a53:=H7
  z53:=EA
  v53:=GG}
end Go.Proofs
namespace Go.Proofs.YtiifmppaejpemaaGreatDoor
open Go.Proofs.Tryz
open Go.Abs
abbrev uv (n:Nat):AV:=.pv (.int .u64 (n:Int))
theorem UT (x y:Nat) (hx:x < 18446744073709551616) (hy:y < 18446744073709551616) (H:aB):aI Tryz.prog 156 [uv x,uv y] H (fun r H'=>r=.tup [uv (x*y / 18446744073709551616),uv (x*y % 18446744073709551616)]∧H'=H) :=Go.Abs.mul64_c aNr x y hx hy H
theorem aGH (a k:Nat) {m:Int} (h:m.toNat=k):(a:Int) / 2 ^ m.toNat=((a / 2 ^ k:Nat):Int):=by
 rw [h]
 push_cast
 rfl
def aB7 (x:Nat):Nat:=x*2862933555777941757 % 18446744073709551616
def aJ5 (x:Nat):Nat:=aB7 x ^^^ (aB7 x / 2 ^ 32)
def aB6 (x:Nat):Nat:=aJ5 x*3935559000370003845 % 18446744073709551616
def N8 (x:Nat):Nat:=aB6 x ^^^ (aB6 x / 2 ^ 29)
theorem J2 (x:Nat):aB7 x < 18446744073709551616:=Nat.mod_lt _ (by decide)
theorem J1 (x:Nat):aB6 x < 18446744073709551616:=Nat.mod_lt _ (by decide)
theorem BS {x:Nat} (k:Nat) (h:x < 18446744073709551616):x / 2 ^ k < 18446744073709551616:=Nat.lt_of_le_of_lt (Nat.div_le_self _ _) h
theorem EF {x y:Nat} (h:x < 18446744073709551616) (h':y < 18446744073709551616):x ^^^ y < 18446744073709551616:=Nat.xor_lt_two_pow (n:=64) h h'
theorem aGw (x:Nat):aJ5 x < 18446744073709551616:=EF (J2 x) (BS 32 (J2 x))
theorem aAL (x:Nat):N8 x < 18446744073709551616:=EF (J1 x) (BS 29 (J1 x))
theorem aLb (x:Nat) (hx:x < 18446744073709551616) (H:aB):aI Tryz.prog 109 [uv x] H (fun r H'=>r=uv (N8 x)∧H'=H):=by refine Pu ?_;exact Bd func109 rfl ntmps109<|Sr<|Dd aN<|Zz<|Sr<|Dd aF<|Dd (by exact aA rfl rfl call156 rfl (UT x 2862933555777941757 hx (by decide) _))<|Dd aF<|Dd fL<|Dd fL<|Dd aN<|Zz<|Sr<|Dd aF<|Dd aF<|Dd (by exact JU rfl rfl rfl (by decide) (by decide) (aGH (aB7 x) 32 rfl))<|Dd (by exact rF rfl (by simp) rfl rfl (bits_xor_u64_nat (aB7 x) (aB7 x / 2 ^ 32) (J2 x) (BS 32 (J2 x))))<|Dd aN<|Zz<|Sr<|Dd aF<|Dd (by exact aA rfl rfl call156 rfl (UT (aJ5 x) 3935559000370003845 (aGw x) (by decide) _))<|Dd aF<|Dd fL<|Dd fL<|Dd aN<|Zz<|Sr<|Dd aF<|Dd aF<|Dd (by exact JU rfl rfl rfl (by decide) (by decide) (aGH (aB6 x) 29 rfl))<|Dd (by exact rF rfl (by simp) rfl rfl (bits_xor_u64_nat (aB6 x) (aB6 x / 2 ^ 29) (J1 x) (BS 29 (J1 x))))<|Dd aN<|Zz<|aC<|Rt<|Qq
def uV (n:Nat):Int:=if n < 10 then 48+(n:Int)else 87+(n:Int)
def iT (i:Nat):List AV:=(List.range 16).map fun j=>.pv (.int .u8 (if j < i then uV j else 0))
theorem uG (i:Nat):(iT i).length=16:=by simp [iT]
theorem DY {i j:Nat} (h:j < 16):(iT i)[j]?=some (.pv (.int .u8 (if j < i then uV j else 0))):=by rw [iT,aOT,List.getElem?_range h];rfl
theorem MU {i:Nat} (h:i < 16):(iT i).set i (.pv (.int .u8 (uV i)))=iT (i+1):=by
 apply List.ext_getElem?;intro j;by_cases hj:j < 16
 ·rw [DY hj];by_cases e:i=j
  ·subst e;rw [List.getElem?_set_self (by rw [uG];exact h),aNy (Nat.lt_succ_self _)]
  rw [List.getElem?_set_ne e,DY hj];by_cases h1:j < i
  ·rw [aNy h1,aNy (by omega)]
  rw [aNx h1,aNx (by omega)]
 rw [List.getElem?_eq_none (by rw [List.length_set,uG];omega),List.getElem?_eq_none (by rw [uG];omega)]
theorem YV {i:Nat} (h:i < 16) (x:AV) {y:AV} (hy:y=.pv (.int .u8 (uV i))):((iT i).set i x).set i y=iT (i+1):=by rw [List.set_set,hy,MU h]
theorem qN {H:aB} {n T i:Nat}:∀ r∈(bx n T (iT i)).rows,∀ a∈r,Clo H a:=by intro r hr a ha;rw [bx,aOC] at hr;subst hr;obtain ⟨j,_,rfl⟩:=List.mem_map.1 ha;exact .pv _
theorem YW {H:aB} {i:Nat}:∀ a∈iT i,Clo H a:=by intro a ha;obtain ⟨j,_,rfl⟩:=List.mem_map.1 ha;exact .pv _
theorem aA5:((iT 16).drop 0).take 16=iT 16:=rfl
theorem aEh (H:aB):aI Tryz.prog 110 [] H (fun r H'=>r=.agg (iT 16)∧H'=H):=by
 refine Pu ?_;refine Bd func110 rfl ntmps110<|Sr<|Dd (by exact bU (id:=0) rfl ZC rfl rfl)<|Zz<|Sr<|Dd (by exact bU (id:=1) rfl ZC rfl rfl)<|Zz<|Sq<|Sr<|Dd aF<|Zz<|aG ?_;refine bT (σ:=Nat) (fun i=>([(0,.ref 0 0 0 0),(1,.ref 1 0 0 0),(3,iv (i:Int))],[(1,bx 16 131 (iT i)),(0,bx 16 131 (iT 0))])) (fun i=>i≤16) (fun i=>16 - i) 0 (aOQ _) ?_ ?_
 ·exact(cY.wk (Ea<|Ea<|Eb<|trivial) (Hc qN<|Hc qN<|trivial) trivial)
 intro i hi;refine Sr<|Dd dK<|Zz<|Sq ?_;refine Cn ?_ ?_<;>intro hc1
 ·have hlt:i < 16:=by have:=aNv hc1;omega
  refine aD<|Sq<|aG<|Sr<|Dd aF<|Dd aN<|Zz<|Sr<|Dd aF<|Dd aF<|Dd lR<|Dd (by exact mZ rfl underlying3 iV rfl (by exact wu8 (by omega) (by omega)))<|Dd (by exact eH rfl uP cG rfl rfl rfl rfl (by omega) (by exact aOK _) (by omega) rfl)<|Uu (by exact bH rfl cG rfl rfl rfl rfl rfl rfl (by rw [uG];omega) (show (iT i).set (0+i*1) (.pv (.int .u8 (48+(i:Int))))=(iT i).set i (.pv (.int .u8 (48+(i:Int))))by rw [aOR,Nat.mul_one]) rfl)<|Zz<|Sr<|Dd aF<|Dd DT<|Zz ?_;refine Cn ?_ ?_<;>intro hc2
  ·have h10:¬ i < 10:=by have:=aNv hc2;omega
   refine Rg<|Dd aF<|Dd aF<|Dd lR<|Dd (by exact eQ rfl rfl rfl (by exact pB (by omega) (by omega)))<|Dd (by exact mZ rfl underlying3 iV rfl (by exact wu8 (by omega) (by omega)))<|Dd (by exact eH rfl uP cG rfl rfl rfl rfl (by omega) (by exact aOK _) (by omega) rfl)<|Uu (by exact bH rfl cG rfl rfl rfl rfl rfl rfl (by rw [List.length_set,uG];omega) (show ((iT i).set i (.pv (.int .u8 (48+(i:Int))))).set (0+i*1) (.pv (.int .u8 (97+(i:Int) - 10)))=iT (i+1)by rw [aOR,Nat.mul_one];exact YV hlt _ (by rw [uV,aNx (by have:=aNv hc2;omega)];congr 2;omega)) rfl)<|Zz<|Rg<|Dd lR<|Dd aF<|Zz ?_;exact⟨i+1,by omega,by omega,(cY.wk (Ea<|Ea<|Eb<|trivial) (Hc qN<|Hc qN<|trivial) trivial)⟩
  have h10:i < 10:=by have:=aNw hc2;omega
  refine aD<|Rg<|Dd lR<|Dd aF<|Zz ?_;refine⟨i+1,by omega,by omega,?_⟩;have e:(iT i).set i (.pv (.int .u8 (48+(i:Int))))=iT (i+1):=by
   rw [← MU hlt,uV,aNy h10]
  rw [e];exact(cY.wk (Ea<|Ea<|Eb<|trivial) (Hc qN<|Hc qN<|trivial) trivial)
 have hge:i=16:=by have:=aNw hc1;omega
 subst hge;refine bC<|Sr<|Dd (by exact aL rfl isAgg131 S5 rfl rfl rfl rfl aA5 rfl)<|Uu (kQ S5)<|Zz<|aC ?_;refine dY (H':=[]) (.inr rfl) rfl (fV rfl isAgg131 S5 rfl rfl rfl aA5 rfl) (Fin.wk (.agg YW) trivial trivial) ?_;exact Qq
end Go.Proofs.YtiifmppaejpemaaGreatDoor
end
