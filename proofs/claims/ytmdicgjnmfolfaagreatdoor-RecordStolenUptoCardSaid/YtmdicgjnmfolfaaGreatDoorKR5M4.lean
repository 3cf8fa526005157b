/-
  Parts of the proof: rules of an abstract program logic, contracts of functions, plain laws. Conditions: each theorem's own.
-/
import Derived.Test.YtmdicgjnmfolfaaGreatDoorKR5M3
import Derived.Scope
import Derived.ChangeKeysEq
import Derived.Shelf.SortM.Plain
import Derived.Shelf.SortM.SortNone
import Derived.Ground.SlgmProg
import Derived.Shelf.Strconv.Itoa3
import Derived.Shelf.Bits.Mul64
import Derived.Shelf.LaysM
import Derived.Ground.NamesProg
import Derived.Shelf.Lays
set_option linter.unusedVariables false
set_option linter.unusedSimpArgs false
set_option maxRecDepth 100000
set_option maxHeartbeats 8000000
namespace Go.Proofs
open Tryz
theorem vT:type_of% call230:=call230
theorem B7:type_of% call241:=call241
theorem vR:type_of% call242:=call242
theorem aCZ:type_of% call261:=call261
theorem S2:type_of% call62:=call62
theorem kQ:type_of% eqGuardType68:=eqGuardType68
theorem aNc:type_of% isAgg0:=isAgg0
theorem HD:type_of% isAgg122:=isAgg122
theorem cS:type_of% isAgg124:=isAgg124
theorem WV:type_of% isAgg125:=isAgg125
theorem cY:type_of% isAgg149:=isAgg149
theorem cR:type_of% isAgg151:=isAgg151
theorem bW:type_of% isAgg153:=isAgg153
theorem qW:type_of% isAgg20:=isAgg20
theorem aJ:type_of% isAgg22:=isAgg22
theorem uC:type_of% isAgg4:=isAgg4
theorem dZ:type_of% isAgg68:=isAgg68
theorem aNN:type_of% sizeOf0:=sizeOf0
theorem DN:type_of% sizeOf122:=sizeOf122
theorem SZ:type_of% sizeOf125:=sizeOf125
theorem SY:type_of% sizeOf128:=sizeOf128
theorem aFV:type_of% underlying0:=underlying0
theorem iL:type_of% underlying122:=underlying122
theorem DL:type_of% underlying125:=underlying125
theorem uA:type_of% underlying128:=underlying128
theorem FS:type_of% underlying20:=underlying20
theorem dV:type_of% underlying4:=underlying4
theorem aHu:type_of% zeroValue0:=zeroValue0
theorem FP:type_of% zeroValue125:=zeroValue125
end Go.Proofs
namespace Go.Proofs.YtmdicgjnmfolfaaGreatDoor
open Go.Proofs.Tryz
open Go.Abs
variable{k:Int}{p:Nat->Bool}{n B:Nat}
def gF(k:Int):ByteArray:=if k=1 then⟨#[110,111,100,101]⟩else if k=2 then⟨#[119,97,121]⟩else if k=3 then⟨#[97,114,101,97]⟩else if k=4 then⟨#[114,111,117,116,101]⟩else if k=5 then⟨#[116,117,114,110]⟩else sNil
abbrev aFj:List AV:=[sv sNil,sv ⟨#[110,111,100,101]⟩,sv ⟨#[119,97,121]⟩,sv ⟨#[97,114,101,97]⟩,sv ⟨#[114,111,117,116,101]⟩,sv ⟨#[116,117,114,110]⟩]
theorem six(h0:0<=k)(h1:k<6):k=0\/k=1\/k=2\/k=3\/k=4\/k=5:=by omega
theorem aFi(h0:0<=k)(h1:k<6):aFj[k.toNat]?=some (sv (gF k)):=by rcases six h0 h1 with rfl|rfl|rfl|rfl|rfl|rfl<;>rfl
theorem CL(k:Int)(H:aB):aH Tryz.prog 230 [iv k] H (fun r H'=>r=sv (gF k)/\H'=H):=by
 refine Pu ?_;refine Bd func230 rfl ntmps230<|Sr<|Dd aM<|Zz<|Sr<|Dd (by exact uH rfl aLz rfl rfl)<|Dd (by exact bM (id:=3) rfl aK7 rfl rfl)<|Uu (kG sizeOf269)<|Zz<|Sq<|Sq ?_;refine bF (t:=10) (n:=7) (X:=decide (k<0)||decide (6<=k)) ?_ ?_
 ·all_goals refine Dd aG ?_
  all_goals refine Dd cP<|Dm ?_
  all_goals refine Sp 7 (fun h7=>?_) fun h7=>?_
  all_goals try contradiction
  all_goals first|refine Fo<|Fo ?_|refine On aG<|On LN ?_
  all_goals refine Dd cN<|Zz ?_
  all_goals(exact⟨⟨_,rfl,by(simp only[*,Zo];done)⟩,rfl,rfl,rfl⟩)
 refine Cn ?_ ?_<;>intro hc1
 ·have hn:¬ (k=1)/\¬ (k=2)/\¬ (k=3)/\¬ (k=4)/\¬ (k=5):=by
   simp only[Bool.or_eq_true,aOC]at hc1;omega
  refine Sr<|Dd aM<|Zz<|aE<|Rt ?_;exact⟨by simp only[gF,hn.1,hn.2.1,hn.2.2.1,hn.2.2.2.1,hn.2.2.2.2,if_false],rfl⟩
 have hb:0<=k/\k<6:=by
  simp only[aOR,aOD]at hc1;omega
 exact aF<|Sr<|Dd aG<|Dd (by exact dG (m:=k.toNat) (k2:=k.toNat) rfl underlying269 sizeOf9 rfl rfl rfl rfl hb.1 rfl (by omega) (by omega))<|Dd (by exact aK rfl isAgg9 rfl rfl rfl rfl (aFi hb.1 hb.2))<|Dd aM<|Zz<|aE<|Rt<|Qq
def C2(k:Int):Int:=if k=2 then 2 else if k=3 then 3 else if k=4 then 1 else if k=5 then 3 else 0
theorem aEK(h0:0<=k)(h1:k<6):[iv 0,iv 0,iv 2,iv 3,iv 1,iv 3][k.toNat]?=some (iv (C2 k)):=by rcases six h0 h1 with rfl|rfl|rfl|rfl|rfl|rfl<;>rfl
theorem aAP(k:Int)(H:aB)(h0:0<=k)(h1:k<6):aH Tryz.prog 262 [iv k] H (fun r H'=>r=iv (C2 k)/\H'=H):=by refine Pu ?_;exact Bd func262 rfl ntmps262<|Sr<|Dd aM<|Zz<|Sr<|Dd (by exact uH rfl aLy rfl rfl)<|Dd aG<|Dd (by exact NR (m:=k.toNat) rfl underlying280 sizeOf3 isAgg3 rfl rfl h0 rfl (by omega) (aEK h0 h1))<|Dd aM<|Zz<|aE<|Rt<|Qq
def gOn(x y:Int):Bool:=((decide (0<=x)&&decide (x<1048576))&&decide (0<=y))&&decide (y<1048576)
theorem aMt(x y:Int)(H:aB):aH Tryz.prog 264 [.agg [iv x,iv y]] H (fun r H'=>r=bv (gOn x y)/\H'=H):=by
 refine Pu ?_;refine Bd func264 rfl ntmps264<|Sr<|Dd (by exact cE (id:=1) rfl rfl rfl rfl rfl)<|Dd aM<|Zz<|Sq ?_;refine bF (t:=2) (n:=22) (X:=gOn x y) ?_ ?_
 ·all_goals refine Dd (bE vI) ?_
  all_goals refine Dd (bQ isAgg3)<|Dd LN<|Dm ?_
  all_goals refine Sp 6 (fun h6=>?_) fun h6=>?_
  all_goals try contradiction
  all_goals first|refine Fo<|Fo<|Fo ?_|refine On (bE vI)<|On (bQ isAgg3)<|On cP ?_
  all_goals refine Dd cN<|Dm ?_
  all_goals refine Sp 11 (fun h11=>?_) fun h11=>?_
  all_goals try contradiction
  all_goals first|refine Fo<|Fo<|Fo ?_|refine On (bE vG)<|On (bQ isAgg3)<|On LN ?_
  all_goals refine Dd cN<|Dm ?_
  all_goals refine Sp 16 (fun h16=>?_) fun h16=>?_
  all_goals try contradiction
  all_goals first|refine Fo<|Fo<|Fo ?_|refine On (bE vG)<|On (bQ isAgg3)<|On cP ?_
  all_goals refine Dd cN<|Da ?_
  all_goals(exact⟨⟨_,rfl,by(simp only[gOn, *];rfl)⟩,rfl,rfl,rfl⟩)
 exact aE<|Rt<|Qq
def HU(p:Nat->Bool)(n:Nat):Int:=match (List.range n).find? p with|some k=>(k:Int)|none => -1
def yW(p:Nat->Bool)(n:Nat):Nat:=match (List.range n).find? p with|some k=>k+1|none=>n
theorem yM{k:Nat}(hk:k<n)(hp:p k=true)(hno:∀j,j<k->p j=false):(List.range n).find? p=some k:=by rw[List.find?_range_eq_some];exact⟨hp,by simpa using hk,fun j hj=>by simp[hno j hj]⟩
theorem yN(hno:∀j,j<n->p j=false):(List.range n).find? p=none:=by rw[List.find?_eq_none];intro x hx;simp[hno x (List.mem_range.1 hx)]
theorem YM(fv:AV)(l:List ByteArray)(p:Nat->Bool)(Hs:Nat->aB)(hl:l.length<4611686018427387904)(hf:∀k s,l[k]?=some s->cK Tryz.prog fv [sv s] (Hs k) (fun r H'=>r=bv (p k)/\H'=Hs (k+1))):
  aH Tryz.prog 120 [.pv (aS l),fv] (Hs 0) (fun r H'=>r=iv (HU p l.length)/\H'=Hs (yW p l.length)):=by
 have hml:(l.map encStr).length=l.length:=aNv _;refine Bd func120 rfl ntmps120<|Sr<|Dd aM<|Zz<|Sq<|Sr<|Dd aG<|Dd (fZ aC)<|Dd aG<|Zz<|aD ?_;refine bL (σ:=Nat) (fun k=>([(0,.pv (aS l)),(1,fv),(7,iv ((l.map encStr).length:Int)),(8,iv (k:Int))],Hs k)) (fun k=>k<=l.length/\∀j,j<k->p j=false) (fun k=>l.length - k) 0 ⟨by omega,by omega⟩ ?_ ?_
 ·exact E0
 rintro k ⟨hk,hno⟩;refine Sr<|Dd cP<|Zz<|Sq ?_;refine Cn ?_ ?_<;>intro hc1
 ·have hlt:k<l.length:=by have:=aNr hc1;omega
  obtain ⟨s,hs⟩:=aV hlt;have hi:=cA (f:=encStr) hs;have hfo:=hf k s hs;refine aF<|Sq<|aD<|Sr<|Dd aG<|Dd aM<|Zz<|Sr<|Dd aG<|Dd aG<|Dd aG<|Dd (zV bT)<|Dd (kS isAgg9)<|Dd (by exact cC rfl rfl rfl (hfo))<|Zz ?_;refine Cn ?_ ?_<;>intro hc2
  ·refine Sr<|Dd aG<|Dd aM<|Zz<|aE ?_;exact dC (H':=Hs (k+1)) (.inr rfl) rfl (aW rfl) Fin.refl ⟨by rw[HU,yM hlt hc2 hno],by rw[yW,yM hlt hc2 hno]⟩
  refine aF<|Rg<|Dd qV<|Dd aG<|Zz ?_;refine⟨k+1,⟨by omega,fun j hj=>?_⟩,by omega,E0⟩;by_cases e:j=k
  ·subst e;exact hc2
  exact hno j (by omega)
 have hge:k=l.length:=by have:=aNs hc1;omega
 subst hge;refine aY<|Sr<|Dd aM<|Zz<|aE ?_;exact dC (H':=Hs l.length) (.inr rfl) rfl (aW rfl) Fin.refl ⟨by rw[HU,yN hno],by rw[yW,yN hno]⟩
theorem PW(p:Nat->Bool)(n:Nat):decide (0<=HU p n)=(List.range n).any p:=by
 unfold HU;cases h:(List.range n).find? p with
 | none =>
  have:(List.range n).any p=false:=by
   rw[List.find?_eq_none]at h;rw[List.any_eq_false];exact h
  simp[this]
 |some i =>
  have:(List.range n).any p=true:=List.any_eq_true.2 ⟨i,List.mem_of_find?_eq_some h,List.find?_some h⟩;simp[this]
theorem qD(fv:AV)(l:List ByteArray)(p:Nat->Bool)(Hs:Nat->aB)(hl:l.length<4611686018427387904)(hf:∀k s,l[k]?=some s->cK Tryz.prog fv [sv s] (Hs k) (fun r H'=>r=bv (p k)/\H'=Hs (k+1))):
  aH Tryz.prog 62 [.pv (aS l),fv] (Hs 0) (fun r H'=>r=bv ((List.range l.length).any p)/\H'=Hs (yW p l.length)):=by
 refine Bd func62 rfl ntmps62<|Sr<|Dd aM<|Zz<|Sr<|Dd aG<|Dd aG<|Dd (by exact aA rfl rfl call120 rfl (YM fv l p Hs hl hf))<|Dd LN<|Dd aM<|Zz<|aE ?_;exact dC (H':=Hs (yW p l.length)) (.inr rfl) rfl (aW rfl) Fin.refl ⟨by rw[PW],rfl⟩
theorem Z2(L:List ByteArray)(H:aB):∀r∈(sob L).rows,∀a∈r,Clo H a:=by intro r hr a ha;obtain ⟨i,hi⟩:=aOQ.1 hr;obtain ⟨p,hp,rfl⟩:=GD.1 hi;simp only[B2,aOP]at hp;obtain ⟨q,_,rfl⟩:=Option.map_eq_some_iff.1 hp;simp only[aOH,aOL,or_false]at ha;rcases ha with rfl|rfl|rfl<;>simp
def vH(o:GObj)(last:ByteArray)(L:List ByteArray):aB:=[(37,sob L),(4,bx 1 9 [sv last]),(3,bx 1 270 [.mp 37 0]),(1,bx 6 151 ((bN o).map .pv))]
theorem aIe(o:GObj)(a:ByteArray)(L:List ByteArray)(f:Nat):Clo (vH o a L) (.clo f [.ref 1 0 0 0,.ref 4 0 0 0,.ref 3 0 0 0]):=by refine .clo fun x hx=>?_;simp only[aOH,aOL,or_false]at hx;rcases hx with rfl|rfl|rfl<;>exact .ref rfl
def SA(o:GObj)(last:ByteArray)(L:List ByteArray)(s:ByteArray):Bool:=(decide (o.kind=2)&&decide (s=last))||(decide (o.kind=3)&&inB L s)
def YS(o:GObj)(last:ByteArray)(L:List ByteArray)(s:ByteArray):Bool:=SA o last L s||!bO s
theorem aCj(o:GObj)(last s:ByteArray)(L:List ByteArray)(hs:s.size<4611686018427387904):
  aH Tryz.prog 263 [sv s,.ref 1 0 0 0,.ref 4 0 0 0,.ref 3 0 0 0] (vH o last L) (fun r H'=>r=bv (YS o last L s)/\H'=vH o s (J4 L s)):=by
 unfold vH;refine Bd func263 rfl ntmps263<|Sr<|Dd aM<|Zz<|Sq ?_;refine bF (t:=6) (n:=22) (X:=SA o last L s) ?_ ?_
 ·all_goals refine Dd (bE gR) ?_
  all_goals refine Dd (bQ isAgg3)<|Dd dK<|Dm ?_
  all_goals refine Sp 10 (fun h10=>?_) fun h10=>?_
  all_goals try contradiction
  all_goals first|refine Fo<|Fo<|Fo ?_|refine On aG<|On (bQ isAgg9)<|On B3 ?_
  all_goals refine Dd cN<|Dm ?_
  all_goals refine Sp 15 (fun h15=>?_) fun h15=>?_
  all_goals try contradiction
  all_goals first|refine Fo<|Fo<|Fo<|Fo ?_|refine On (bE gR)<|On (bQ isAgg3)<|On dK<|On aG ?_
  all_goals(first|refine Sp 19 (fun h19=>?_) fun h19=>?_|refine yT (t:=19) rfl ?_)
  all_goals try contradiction
  all_goals first|refine Fo ?_|refine Fu ?_|refine On (bQ isAgg270) ?_
  all_goals first|refine Fo ?_|refine Fu ?_|refine On aG ?_
  all_goals first|refine Fo ?_|refine Fu ?_|refine On (by exact QS rfl underlying270 underlying9 rfl rfl rfl rfl rfl BB (.inl rfl)) ?_
  all_goals first|refine Fo ?_|refine On cN ?_
  all_goals refine Dd cN<|Da ?_
  all_goals(exact⟨⟨_,rfl,by(simp only[SA, *];rfl)⟩,rfl,rfl,rfl⟩)
 refine Sr<|Dd (bQ isAgg270)<|Dd aG<|Dd aG<|Uu (by exact aAo (.inl rfl) underlying270 underlying9 rfl rfl rfl rfl rfl rfl rfl)<|Uu (kG sizeOf9)<|Zz<|Sq ?_;refine bF (t:=5) (n:=8) (X:=SA o last L s||!bO s) ?_ ?_
 ·all_goals refine Dd aG ?_
  all_goals refine Dm ?_
  all_goals refine Sp 29 (fun h29=>?_) fun h29=>?_
  all_goals try contradiction
  all_goals first|refine Fo<|Fo<|Fo ?_|refine On aG<|On (by exact aA rfl rfl nH rfl (yA s _ hs))<|On mT ?_
  all_goals refine Dd cN<|Da ?_
  all_goals(exact⟨⟨_,rfl,by(simp only[*];rfl)⟩,rfl,rfl,rfl⟩)
 refine aE ?_;refine dC (H':=vH o s (J4 L s)) (.inr rfl) rfl (aW rfl) (Fin.wk (by(simp;done)) (Hc (Z2 _ _)<|Hb<|Ha<|Hb<|trivial) ⟨rfl,rfl,rfl,rfl,trivial⟩) ?_;exact Qq
def TY(l:List ByteArray):Nat->List ByteArray
 |0=>[]
 |k+1=>J4 (TY l k) ((l[k]?).getD sNil)
def BC(o:GObj)(k:Nat):Bool:=match o.refs[k]? with
 |some s=>YS o (fS id o.refs k) (TY o.refs k) s
 |none=>false
def PY(o:GObj):Bool:=if o.kind=1 then decide ((o.refs.length:Int)=0)&&gOn o.x o.y else if o.kind=5 then decide ((o.refs.length:Int)=3)&&(decide (o.x=0)&&decide (o.y=0))else decide (o.x=0)&&decide (o.y=0)
def vF(o:GObj)(n:Int):Bool:=decide (gF o.kind=sNil)||!bO o.id||!zD o.tags||decide (n<C2 o.kind)||decide (2000<n)
def PZ(o:GObj):Bool:=vF o (o.refs.length:Int)
def nN(o:GObj):Bool:=!PZ o&&(!((List.range o.refs.length).any (BC o))&&PY o)
def okO(o:GObj):Prop:=o.id.size<4611686018427387904/\KU o.tags/\o.refs.length<4611686018427387904/\∀s∈o.refs,s.size<4611686018427387904
theorem BD(h:decide (gF k=sNil)=false):0<=k/\k<6:=by
 by_cases h0:0<=k/\k<6
 ·exact h0
 have:gF k=sNil:=by
  have hn:¬ (k=1)/\¬ (k=2)/\¬ (k=3)/\¬ (k=4)/\¬ (k=5):=by omega
  simp only[gF,hn.1,hn.2.1,hn.2.2.1,hn.2.2.2.1,hn.2.2.2.2,if_false]
 rw[this]at h;simp at h
theorem KX(o:GObj)(H:aB)(ho:okO o):aH Tryz.prog 233 [av (bN o)] H (fun r H'=>r=bv (nN o)/\H'=H):=by
 refine Pu ?_;obtain ⟨h1,h2,h3,h4⟩:=ho;have hml:(o.refs.map encStr).length=o.refs.length:=aNv _;refine Bd func233 rfl ntmps233<|Sr<|Dd (by exact cE (id:=1) rfl rfl rfl rfl rfl)<|Dd aM<|Zz<|Sq<|Sq ?_;refine pS (t:=36) (n:=31) (X:=vF o ((o.refs.map encStr).length:Int)) ?_ ?_
 ·cases hg10:(decide (gF o.kind=sNil):Bool)
  ·cases hg16:(!bO o.id:Bool)
   ·cases hg22:(!zD o.tags:Bool)
    ·cases hg31:(decide (((o.refs.map encStr).length:Int)<C2 o.kind):Bool)
     ·refine aP follows<|Cq (bE gR)<|Cq (bQ isAgg3)<|Cq (by exact aA rfl rfl vT rfl (CL o.kind _))<|Cq B3<|Cq aG<|Nf (bE qB)<|Nf (bQ isAgg9)<|Nf (by exact aA rfl rfl nH rfl (yA o.id _ h1))<|Nf mT<|Cq zA<|Cq aG<|Nf (bE fY)<|Nf (bQ cY)<|Nf (by exact aA rfl rfl aCZ rfl (xI o.tags _ h2))<|Nf mT<|Cq zA<|Cq aG<|Nf (bE gQ)<|Nf (bQ aJ)<|Nf (fZ aC)<|Nf (bE gR)<|Nf (bQ isAgg3)<|Nf (by exact aA rfl rfl call262 rfl (aAP o.kind _ (BD hg10).1 (BD hg10).2))<|Nf cP<|Cq zA<|Cq aG<|Nf (bE gQ)<|Nf (bQ aJ)<|Nf (fZ aC)<|Nf mN<|Cq zA<|bK<|Kr ?_;exact⟨rfl,⟨_,rfl,by(simp only[vF,hg10,hg16,hg22,hg31];rfl)⟩,rfl,rfl,rfl⟩
     refine aP follows<|Cq (bE gR)<|Cq (bQ isAgg3)<|Cq (by exact aA rfl rfl vT rfl (CL o.kind _))<|Cq B3<|Cq aG<|Nf (bE qB)<|Nf (bQ isAgg9)<|Nf (by exact aA rfl rfl nH rfl (yA o.id _ h1))<|Nf mT<|Cq zA<|Cq aG<|Nf (bE fY)<|Nf (bQ cY)<|Nf (by exact aA rfl rfl aCZ rfl (xI o.tags _ h2))<|Nf mT<|Cq zA<|Cq aG<|Nf (bE gQ)<|Nf (bQ aJ)<|Nf (fZ aC)<|Nf (bE gR)<|Nf (bQ isAgg3)<|Nf (by exact aA rfl rfl call262 rfl (aAP o.kind _ (BD hg10).1 (BD hg10).2))<|Nf cP<|Cq zA<|Cq aG<|Of<|Of<|Of<|Of<|Cq NE<|bK<|Kr ?_;exact⟨rfl,⟨_,rfl,by(simp only[vF,hg10,hg16,hg22,hg31];rfl)⟩,rfl,rfl,rfl⟩
    refine aP follows<|Cq (bE gR)<|Cq (bQ isAgg3)<|Cq (by exact aA rfl rfl vT rfl (CL o.kind _))<|Cq B3<|Cq aG<|Nf (bE qB)<|Nf (bQ isAgg9)<|Nf (by exact aA rfl rfl nH rfl (yA o.id _ h1))<|Nf mT<|Cq zA<|Cq aG<|Nf (bE fY)<|Nf (bQ cY)<|Nf (by exact aA rfl rfl aCZ rfl (xI o.tags _ h2))<|Nf mT<|Cq zA<|Cq aG<|Of<|Of<|Of<|Of<|Of<|Of<|Of<|Cq NE<|Cq aG<|Of<|Of<|Of<|Of<|Cq cN<|bK<|Kr ?_;exact⟨rfl,⟨_,rfl,by(simp only[vF, *];rfl)⟩,rfl,rfl,rfl⟩
   refine aP follows<|Cq (bE gR)<|Cq (bQ isAgg3)<|Cq (by exact aA rfl rfl vT rfl (CL o.kind _))<|Cq B3<|Cq aG<|Nf (bE qB)<|Nf (bQ isAgg9)<|Nf (by exact aA rfl rfl nH rfl (yA o.id _ h1))<|Nf mT<|Cq zA<|Cq aG<|Of<|Of<|Of<|Of<|Cq NE<|Cq aG<|Of<|Of<|Of<|Of<|Of<|Of<|Of<|Cq cN<|Cq aG<|Of<|Of<|Of<|Of<|Cq cN<|bK<|Kr ?_;exact⟨rfl,⟨_,rfl,by(simp only[vF, *];rfl)⟩,rfl,rfl,rfl⟩
  refine aP follows<|Cq (bE gR)<|Cq (bQ isAgg3)<|Cq (by exact aA rfl rfl vT rfl (CL o.kind _))<|Cq B3<|Cq aG<|Of<|Of<|Of<|Of<|Cq NE<|Cq aG<|Of<|Of<|Of<|Of<|Cq cN<|Cq aG<|Of<|Of<|Of<|Of<|Of<|Of<|Of<|Cq cN<|Cq aG<|Of<|Of<|Of<|Of<|Cq cN<|bK<|Kr ?_;exact⟨rfl,⟨_,rfl,by(simp only[vF, *];rfl)⟩,rfl,rfl,rfl⟩
 refine Cn ?_ ?_<;>intro hc1
 ·refine Sr<|Dd aM<|Zz<|aE<|Rt ?_;exact⟨by rw[nN,PZ,<-hml,hc1];rfl,rfl⟩
 refine aF<|Sr<|Dd (by exact HN (id:=37) W7 rfl rfl)<|Dd (by exact bM (id:=3) rfl aK6 rfl rfl)<|Uu (kG sizeOf270)<|Zz<|Sr<|Dd (by exact bM (id:=4) rfl zo9 rfl rfl)<|Uu (kG sizeOf9)<|Zz ?_;refine ZA ([(1,.ref 1 0 0 0),(5,.clo 263 [.ref 1 0 0 0,.ref 4 0 0 0,.ref 3 0 0 0])]) (vH o sNil []) ?_ ?_
 ·refine Rg<|Dd (by exact fO rfl rfl)<|Da ?_;exact(cD.wk (Ea<|Ec (aIe _ _ _ _)<|trivial) (Hc (Z2 _ _)<|Hb<|Ha<|Hb<|trivial) trivial)
 refine Sq<|Sr<|Dd (bE gQ)<|Dd (bQ aJ)<|Dd aG<|Dd (by exact aA rfl rfl S2 rfl (qD _ o.refs (BC o) (fun k=>vH o (fS id o.refs k) (TY o.refs k)) h3 (fun k s hk=>cK.clo call263 (by rw[BC,hk,HY hk];simp only[TY,hk];exact aCj o _ s _ (h4 s (aOF hk))))))<|Zz ?_;refine Cn ?_ ?_<;>intro hc2
 ·refine Sr<|Dd aM<|Zz<|aE<|Rt ?_;exact⟨by rw[nN,hc2];simp,rfl⟩
 have hfin:nN o=PY o:=by have h:=hc1;rw[hml]at h;rw[nN,PZ,h,hc2];rfl
 rw[hfin];clear hfin;generalize fS id o.refs (yW (BC o) o.refs.length)=la;generalize TY o.refs (yW (BC o) o.refs.length)=LL;unfold vH;refine aF<|Sq<|Sr<|Dd (bE gR)<|Dd (bQ isAgg3)<|Zz<|aD<|Sr<|Dd dK<|Da ?_;refine Cn ?_ ?_<;>intro hc3
 ·refine Sq ?_;refine bF (t:=2) (n:=11) (X:=decide (((o.refs.map encStr).length:Int)=0)&&gOn o.x o.y) ?_ ?_
  ·all_goals refine Dd (bE gQ) ?_
   all_goals refine Dd (bQ aJ)<|Dd (fZ aC)<|Dd dK<|Dm ?_
   all_goals refine Sp 51 (fun h51=>?_) fun h51=>?_
   all_goals try contradiction
   all_goals first|refine Fo<|Fo<|Fo ?_|refine On (bE oY)<|On (by exact aN rfl dZ sizeOf68 rfl rfl rfl rfl (by simp only[Zl,bJ,bN];rfl) rfl)<|On (by exact aA rfl rfl call264 rfl (aMt o.x o.y _)) ?_
   all_goals refine Dd cN<|Da ?_
   all_goals(exact⟨⟨_,rfl,by(simp_all;done)⟩,rfl,rfl,rfl⟩)
  refine aE<|Rt ?_;exact⟨by rw[PY,aNu (aNr hc3),<-hml],rfl⟩
 refine Sr<|Dd dK<|Da ?_;refine Cn ?_ ?_<;>intro hc4
 ·refine Sq ?_;refine bF (t:=2) (n:=12) (X:=decide (((o.refs.map encStr).length:Int)=3)&&(decide (o.x=0)&&decide (o.y=0))) ?_ ?_
  ·all_goals refine Dd (bE gQ) ?_
   all_goals refine Dd (bQ aJ)<|Dd (fZ aC)<|Dd dK<|Dm ?_
   all_goals refine Sp 62 (fun h62=>?_) fun h62=>?_
   all_goals try contradiction
   all_goals first|refine Fo<|Fo<|Fo<|Fo ?_|refine On (bE oY)<|On (by exact aN rfl dZ sizeOf68 rfl rfl rfl rfl (by simp only[Zl,bJ,bN];rfl) rfl)<|On (wV aEy)<|On (by exact AQ rfl rfl rfl rfl rfl kQ (XH _ _ _ _)) ?_
   all_goals refine Dd cN<|Da ?_
   all_goals(exact⟨⟨_,rfl,by(simp_all;done)⟩,rfl,rfl,rfl⟩)
  refine aE<|Rt ?_;exact⟨by rw[PY,aNt (aNs hc3),aNu (aNr hc4),<-hml],rfl⟩
 refine aF<|Sr<|Dd (bE oY)<|Dd (by exact aN rfl dZ sizeOf68 rfl rfl rfl rfl (by simp only[Zl,bJ,bN];rfl) rfl)<|Dd (wV aEy)<|Dd (by exact AQ rfl rfl rfl rfl rfl kQ (XH _ _ _ _))<|Dd aM<|Zz<|aE<|Rt ?_;exact⟨by rw[PY,aNt (aNs hc3),aNt (aNs hc4)],rfl⟩
section
def M9(n:Int):Prop:=(Lit.int .i64 n).wf=true
theorem M9.bd{n:Int}(h:M9 n): -9223372036854775808<=n/\n<=9223372036854775807:=by simpa[M9,Lit.wf,IntKind.min,IntKind.max,IntKind.signed,IntKind.bits]using h
def aCs(B:Nat)(t:GTag):Prop:=t.key.size<=B/\t.val.size<=B
def CO(B:Nat)(l:List ByteArray):Prop:=l.length<=B/\∀s,s∈l->s.size<=B
def W4(B:Nat)(l:List GTag):Prop:=l.length<=B/\∀s,s∈l->aCs B s
def aCu(B:Nat)(o:GObj):Prop:=o.id.size<=B/\M9 o.kind/\M9 o.x/\M9 o.y/\CO B o.refs/\W4 B o.tags
def QY(B:Nat)(e:GEdit):Prop:=M9 e.op/\e.id.size<=B/\e.other.size<=B/\e.node.size<=B/\M9 e.x/\M9 e.y/\e.key.size<=B/\e.val.size<=B/\CO B e.refs/\aCu B e.obj
def ZY(B:Nat)(l:List GEdit):Prop:=l.length<=B/\∀e,e∈l->QY B e
section
variable{ps:List PV}
theorem GW(h:Sh Tryz.prog B (n+2) 22 ps):∃l,ps=[aS l]/\CO B l:=by
 obtain ⟨l,rfl,h1,h2⟩:=IT (f:=encStr) (good:=fun s=>s.size<=B) aC h (fun r hr=>by
  obtain ⟨s,rfl,hs⟩:=nK underlying9 hr;exact⟨s,rfl,hs⟩)
 exact⟨l,rfl,h1,h2⟩
theorem aLo(h:Sh Tryz.prog B (n+2) 199 ps):∃t,ps=bJ t/\aCs B t:=by obtain ⟨a,b,rfl,_,h1,a2,b2,rfl,_,h2,rfl⟩:=pI underlying199 h;obtain ⟨k,rfl,hk⟩:=nK underlying9 h1;obtain ⟨v,rfl,hv⟩:=nK underlying9 h2;exact⟨⟨k,v⟩,rfl,hk,hv⟩
theorem aJr(h:Sh Tryz.prog B (n+3) 149 ps):∃l,ps=[sT l]/\W4 B l:=by obtain ⟨l,rfl,h1,h2⟩:=IT (f:=bJ) (good:=aCs B) cQ h (fun r hr=>aLo hr);exact⟨l,rfl,h1,h2⟩
theorem SI(h:Sh Tryz.prog B (n+2) 68 ps):∃x y,ps=[.int .i64 x,.int .i64 y]/\M9 x/\M9 y:=by obtain ⟨a,b,rfl,_,h1,a2,b2,rfl,_,h2,rfl⟩:=pI underlying68 h;obtain ⟨x,rfl,hx⟩:=sV underlying3 h1;obtain ⟨y,rfl,hy⟩:=sV underlying3 h2;exact⟨x,y,rfl,hx,hy⟩
theorem aLs(h:Sh Tryz.prog B (n+4) 151 ps):∃o,ps=bN o/\aCu B o:=by obtain ⟨_,_,rfl,_,h1,_,_,rfl,_,h2,_,_,rfl,_,h3,_,_,rfl,_,h4,_,_,rfl,_,h5,rfl⟩:=pI iK h;obtain ⟨id,rfl,q1⟩:=nK underlying9 h1;obtain ⟨k,rfl,q2⟩:=sV underlying3 h2;obtain ⟨x,y,rfl,q3,q4⟩:=SI h3;obtain ⟨rs,rfl,q5⟩:=GW h4;obtain ⟨ts,rfl,q6⟩:=aJr h5;exact⟨⟨id,k,x,y,rs,ts⟩,rfl,q1,q2,q3,q4,q5,q6⟩
end
theorem aB7{l:List GTag}(hB:B<4611686018427387904)(h:W4 B l):KU l:=⟨by have:=h.1;omega,fun t ht=>⟨by have:=(h.2 t ht).1;omega,by have:=(h.2 t ht).2;omega⟩⟩
theorem aJX{o:GObj}(hB:B<4611686018427387904)(h:aCu B o):okO o :=⟨by have:=h.1;omega,aB7 hB h.2.2.2.2.2,by have:=h.2.2.2.2.1.1;omega,fun s hs=>by have:=h.2.2.2.2.1.2 s hs;omega⟩
section
variable{ps:List PV}
theorem aLp(h:Sh Tryz.prog B (n+1) 9 ps):∃s,ps=[.str s]/\s.size<=B:=by obtain ⟨k,rfl,hk⟩:=nK underlying9 h;exact⟨k,rfl,hk⟩
end
end
end Go.Proofs.YtmdicgjnmfolfaaGreatDoor
namespace Go.Proofs.YtmdicgjnmfolfaaGreatDoor
open Go.Proofs.Tryz
open Go.Abs Go.ChangeShapes Go.WideShapes Go.ChangeAt Go.RowKit
variable{H:Type}{n:Nat}
theorem own:ownKnob Tryz.prog.godebug=none:=by kernel_rfl
theorem aAR:laidOutB Tryz.prog=true:=by kernel_rfl
theorem WZ{l:List (DataW H)}(hk:Rows.uptoSmall H l=true):Rows.uptoBulkAll l<=1048576:=aNr hk
theorem aCG{l r:List (DataW H)}(h:Rows.uptoBulkAll (l++r)<=n):Rows.uptoBulkAll l<=n:=by
 induction l generalizing n with
 |nil=>simp[Rows.uptoBulkAll]
 |cons x l ih =>
  simp only[List.cons_append,Rows.uptoBulkAll]at h |-;have:=ih (n:=n - Rows.uptoBulk x) (by omega);omega
theorem aNF{B:Nat}{ps:List PV}(h:Sh Tryz.prog B (n+1) 5 ps):∃i,ps=[.int .u8 i]/\0<=i/\i<=255:=by obtain ⟨i,rfl,hi⟩:=sV dU h;exact⟨i,rfl,by simpa[Lit.wf,IntKind.min,IntKind.max,IntKind.signed,IntKind.bits]using hi⟩
end Go.Proofs.YtmdicgjnmfolfaaGreatDoor
namespace Go.Proofs.YtmdicgjnmfolfaaGreatDoor
open Go.Proofs.Tryz
open Go.Abs
section
section
variable{B n:Nat}{ps:List PV}
theorem aJt(h:Sh Tryz.prog B (n+5) 153 ps):∃o,ps=bC o/\QY B o:=by obtain ⟨_,_,rfl,_,h1,_,_,rfl,_,h2,_,_,rfl,_,h3,_,_,rfl,_,h4,_,_,rfl,_,h5,_,_,rfl,_,h6,_,_,rfl,_,h7,_,_,rfl,_,h8,_,_,rfl,_,h9,rfl⟩:=pI eT h;obtain ⟨op,rfl,q1⟩:=sV underlying3 h1;obtain ⟨id,rfl,q2⟩:=nK underlying9 h2;obtain ⟨ot,rfl,q3⟩:=nK underlying9 h3;obtain ⟨nd,rfl,q4⟩:=nK underlying9 h4;obtain ⟨x,y,rfl,q5,q6⟩:=SI h5;obtain ⟨k,rfl,q7⟩:=nK underlying9 h6;obtain ⟨v,rfl,q8⟩:=nK underlying9 h7;obtain ⟨rs,rfl,q9⟩:=GW h8;obtain ⟨o,rfl,q10⟩:=aLs h9;exact⟨⟨op,id,ot,nd,x,y,k,v,rs,o⟩,rfl,q1,q2,q3,q4,q5,q6,q7,q8,q9,q10⟩
theorem aH3(h:Sh Tryz.prog B (n+6) 23 ps):∃l,ps=[jF l]/\ZY B l:=by obtain ⟨l,rfl,h1,h2⟩:=IT (f:=bC) (good:=QY B) dL h (fun r hr=>aJt hr);exact⟨l,rfl,h1,h2⟩
end
end
end Go.Proofs.YtmdicgjnmfolfaaGreatDoor
namespace Go.Abs
variable{G0 H:aB}{E E':bS}
theorem cD.get'{H':aB}(h:aF2 E E')(hH:∀j,H'.get j=H.get j):cD G0 E H E' H':=(cD.e0 h).trans (cD.get (fun _=>rfl) hH)
theorem uV(id:Nat)(o o':Ob)(H:aB)(j:Nat):aB.get ((id,o)::H) j=aB.get ((id,o)::(id,o')::H) j:=by cases e:Nat.beq id j<;>simp[aB.get,e]
theorem cD.dup{id:Nat}{o o':Ob}(h:aF2 E E'):cD G0 E ((id,o)::(id,o')::H) E' ((id,o)::H):=cD.get' h (uV id o o' H)
theorem II.app{D:aB}(hG:∀p∈D,G0.get p.1=none):II G0 H (D++H):=fun id hi=>by
 rw[eX];cases e:D.get id with
 |none=>rfl
 |some o =>
  have:=hG _ (cV e);rw[this]at hi;cases hi
theorem Fin.pops'{r:AV}(D:aB)(hr:Clo H r)(hc:dF H)(hD:∀p∈D,H.get p.1=none)(hG:∀p∈D,G0.get p.1=none):Fin G0 (D++H) r H r:=by intro G hG' I ι w v h1 h2 h3;subst hG';exact⟨I,ι,h1.restrict (Sub.app hD) hc,h2.restrict (Sub.app hD) (II.app hG),h3.restrict (Sub.app hD) hr⟩
end Go.Abs
namespace Go.Proofs.YtmdicgjnmfolfaaGreatDoor
open Go.Proofs.Tryz
open Go.Abs
variable{a b:ByteArray}
theorem oZ:∀(x y:List UInt8),Op.bytesLess x y=decide (x<y)
 | [],[]=>by simp[Op.bytesLess]
 |_::_,[]=>by simp[Op.bytesLess]
 | [],_::_=>by simp[Op.bytesLess]
 |a::x,b::y=>by
  rw[Op.bytesLess,oZ x y];simp only[List.cons_lt_cons_iff];by_cases h1:a<b<;>by_cases h2:a=b<;>by_cases h3:x<y<;>simp[h1,h2,h3]
theorem Z4(s:ByteArray):DP s s=false:=by unfold DP;rw[oZ];exact decide_eq_false (List.lt_irrefl _)
theorem Z3(h1:DP a b=false)(h2:DP b a=false):a=b:=by
 unfold DP at h1 h2;rw[oZ]at h1 h2;have e:a.toList=b.toList:=List.le_antisymm (List.not_lt.1 (aNs h2)) (List.not_lt.1 (aNs h1));have:=wM a b;rw[e]at this
 simpa using this.symm
theorem OO{c:ByteArray}(h1:DP a b=true)(h2:DP b c=true):DP a c=true:=by unfold DP at *;rw[oZ]at *;exact decide_eq_true (List.lt_trans (aNr h1) (aNr h2))
theorem aGC(s:ByteArray):DP s sNil=false:=by unfold DP;rw[oZ,ByteArray.toList_eq sNil];exact decide_eq_false (List.not_lt_nil _)
theorem aGD:sle a b=false↔DP b a=true:=by
 unfold sle;constructor
 ·intro h;simp only[aOR,aOD]at h;cases e:DP b a with
  |true=>rfl
  |false=>exact absurd (Z3 h.1 e) h.2
 intro h;simp only[aOR,aOD];refine⟨?_,fun e=>?_⟩
 ·cases e:DP a b with
  |false=>rfl
  |true=>have:=OO e h;rw[Z4]at this;cases this
 subst e;rw[Z4]at h;cases h
theorem aE5{s:ByteArray}(h:bO s=true):s≠sNil:=by simp only[bO,aOE,aOO,aOD]at h;exact h.2.1
theorem IG(fv:AV)(l:List GEdit)(p:GEdit->Bool)(H:aB)(hl:l.length<4611686018427387904)(hf:∀o,o∈l->cK Tryz.prog fv [.agg ((bC o).map .pv)] H (fun r H'=>r=.pv (.bool (p o))/\H'=H)):
    aH Tryz.prog 240 [.pv (.sl (l.map bC)),fv] H (fun r H'=>r=.pv (.int .i64 (vE p l))/\H'=H):=by
  refine Bd func240 rfl ntmps240<|Sr<|Dd aM<|Zz<|Sq<|Sr<|Dd aG<|Dd (fZ dL)<|Dd aG<|Zz<|aD ?_;refine bL (σ:=Nat) (fun k=>([(0,.pv (.sl (l.map bC))),(1,fv),(7,.pv (.int .i64 (l.map bC).length)),(8,.pv (.int .i64 (k:Int)))],H)) (fun k=>k<=l.length/\∀j,j<k->∀b,l[j]?=some b->p b=false) (fun k=>l.length - k) 0 ⟨by omega,by omega⟩ ?_ ?_
  · exact E0
  · rintro k ⟨hk,hno⟩
    refine Sr<|Dd cP<|Zz<|Sq ?_;refine Cn ?_ ?_<;>intro hc1
    · have hlt:k<l.length:=by simpa using hc1
      obtain ⟨o,ho⟩:=aV hlt;have hi:=cA (f:=bC) ho;have hfo:=hf o (aOF ho);refine aF<|Sq<|aD<|Sr<|Dd aG<|Dd aM<|Zz<|Sr<|Dd aG<|Dd aG<|Dd aG<|Dd (zV XD)<|Dd (by exact cU rfl bW bA rfl (by omega) (by simp only[Zl,bC];rfl) rfl)<|Dd (by exact cC rfl rfl rfl (hfo))<|Zz ?_;refine Cn ?_ ?_<;>intro hc2
      · skip
        refine Sr<|Dd aG<|Dd aM<|Zz<|aE ?_;exact dC (H':=H) (.inr rfl) rfl (aW rfl) Fin.refl ⟨by rw[vE,P2 hno ho hc2],rfl⟩
      · skip
        refine aF<|Rg<|Dd qV<|Dd aG<|Zz ?_;refine⟨k+1,⟨by omega,fun j hj b hb=>?_⟩,by omega,E0⟩;by_cases e:j=k
        · subst e;rw[ho]at hb;cases hb;exact hc2
        · exact hno j (by omega) b hb
    · have hge : k = l.length := by have : l.length <= k := by simpa using hc1
                                    omega
      subst hge;refine aY<|Sr<|Dd aM<|Zz<|aE ?_;exact dC (H':=H) (.inr rfl) rfl (aW rfl) Fin.refl ⟨by rw[vE,P3 hno],rfl⟩
def aMy(id:ByteArray)(o:GObj):Bool:=decide (o.id=id)
def onP(x y:Int):Bool:=decide (0<=min x y)&&decide (max x y<1048576)
theorem DA(fv:AV)(l:List GEdit)(p:GEdit->Bool)(H:aB)(hl:l.length<4611686018427387904)(hf:∀o,o∈l->cK Tryz.prog fv [.agg ((bC o).map .pv)] H (fun r H'=>r=.pv (.bool (p o))/\H'=H)):
  aH Tryz.prog 200 [.pv (.sl (l.map bC)),fv] H (fun r H'=>r=.pv (.bool (l.any p))/\H'=H):=by
 refine aH.body func200 rfl ntmps200 (aOI rfl) ?_;refine FE ?_;refine yR ?_;refine ZE rfl rfl rfl (by exact tE rfl rfl) ?_;refine ZD ?_;refine FE ?_;refine yR ?_;refine ZE rfl rfl rfl (by exact eP rfl rfl) ?_;refine ZE rfl rfl rfl (by exact eP rfl rfl) ?_;refine ZE rfl rfl rfl (by exact aA rfl rfl call240 rfl (IG fv l p H hl hf)) ?_;refine ZE rfl rfl rfl (by exact uP rfl rfl rfl) ?_;refine ZE rfl rfl rfl (by exact tE rfl rfl) ?_;refine ZD ?_;refine aE ?_;exact dC (H':=H) (.inr rfl) rfl (aW rfl) Fin.refl ⟨by rw[aE4],rfl⟩
def rJ(a b:GTag):Bool:=decide (a.key=b.key)&&decide (a.val=b.val)
def nI:List GTag->List GTag->Bool
 | [],[]=>true
 |a::l,b::r=>rJ a b&&nI l r
 |_,_=>false
theorem OJ(a b:GTag):rJ a b=true↔a=b:=by cases a;cases b;simp[rJ]
theorem OG:∀(a b:List GTag),a.length≠b.length->nI a b=false
 | [],[],h=>absurd rfl h
 | [],_::_,_=>rfl
 |_::_,[],_=>rfl
 |x::a,y::b,h=>by rw[nI,OG a b (by simpa using h)];simp
theorem OH:∀(a b:List GTag) (k:Nat) (x y:GTag),a[k]?=some x->b[k]?=some y->rJ x y=false->nI a b=false
 | [],_,k,x,y,h,_,_=>by simp at h
 |_::_,[],k,x,y,_,h,_=>by simp at h
 |u::a,v::b,0,x,y,h1,h2,h=>by cases h1;cases h2;rw[nI,h];rfl
 |u::a,v::b,k+1,x,y,h1,h2,h=>by rw[nI,OH a b k x y h1 h2 h];simp
theorem J1:∀(a b:List GTag),a.length=b.length->(∀k,k<a.length->∀x y,a[k]?=some x->b[k]?=some y->rJ x y=true)->nI a b=true
 | [],[],_,_=>rfl
 | [],_::_,h,_=>by simp at h
 |_::_,[],h,_=>by simp at h
 |u::a,v::b,hl,h=>by
  rw[nI,h 0 (by simp) u v rfl rfl,J1 a b (by simpa using hl) (fun k hk x y h1 h2=>h (k+1) (by simpa using hk) x y h1 h2)];rfl
theorem VH (a b : List GTag) (H : aB) (ha : a.length < 4611686018427387904) :
    aH Tryz.prog 273 [lv (a.map bJ),lv (b.map bJ)] H (fun r H'=>r=bv (nI a b)/\H'=H):=by
  refine Pu ?_;refine Bd func273 rfl ntmps273<|Sr<|Dd aM<|Zz<|Sq<|Sr<|Dd aG<|Dd (fZ cQ)<|Dd aG<|Dd (fZ cQ)<|Dd zW<|Zz ?_;refine Cn ?_ ?_<;>intro hc1
  · have hne:a.length≠b.length:=by simp at hc1;omega
    refine Sr<|Dd aM<|Zz<|aE<|Rt ?_;exact⟨by rw[OG a b hne],rfl⟩
  · have heq : a.length = b.length := by simp at hc1; omega
    refine aF<|Sq<|Sr<|Dd aG<|Dd (fZ cQ)<|Dd aG<|Zz<|aD ?_;refine bL (σ:=Nat) (fun k=>([(0,lv (a.map bJ)),(1,lv (b.map bJ)),(12,iv (a.map bJ).length),(13,iv (k:Int))],[])) (fun k=>k<=a.length/\∀j,j<k->∀x y,a[j]?=some x->b[j]?=some y->rJ x y=true) (fun k=>a.length - k) 0 ⟨by omega,by omega⟩ ?_ ?_
    · exact E0
    · rintro k ⟨hk,hall⟩
      refine Sr<|Dd cP<|Zz<|Sq ?_;refine Cn ?_ ?_<;>intro hc2
      · have hlt:k<a.length:=by simpa using hc2
        obtain ⟨x,hx⟩:=aV hlt;obtain ⟨y,hy⟩:=aV (l:=b) (k:=k) (by omega);have hi:=cA (f:=bJ) hx;have hi2:=cA (f:=bJ) hy;refine aF<|Sq<|aD<|Sr<|Dd aG<|Dd aM<|Zz<|Sq<|aP follows<|Cq aG<|Cq aG<|Cq (zV yX)<|Cq (by exact cU rfl sG iR rfl (by omega) (by simp only[Zl,bJ,bN,bC];rfl) rfl)<|Cq aG<|Cq aG<|Cq (zV yX)<|Cq (by exact cU rfl sG iR rfl (by omega) (by simp only[Zl,bJ,bN,bC];rfl) rfl)<|Cq (by exact AP rfl rfl rfl rfl rfl eqGuardType199 (aIE _ _ _ _))<|bK<|Kr ?_;refine Cn ?_ ?_<;>intro hc3
        · have ht:rJ x y=false:=by
            have h:(!rJ x y)=true:=hc3
            simpa using h
          refine Sr<|Dd aM<|Zz<|aE<|Rt ?_;exact⟨by rw[OH a b k x y hx hy ht],rfl⟩
        · have ht:rJ x y=true:=by
            have h:(!rJ x y)=false:=hc3
            simpa using h
          refine aF<|Rg<|Dd qV<|Dd aG<|Zz ?_;refine⟨k+1,⟨by omega,fun j hj x' y' h1 h2=>?_⟩,by omega,E0⟩;by_cases e:j=k
          · subst e;rw[hx]at h1;rw[hy]at h2;cases h1;cases h2;exact ht
          · exact hall j (by omega) x' y' h1 h2
      · have hge : k = a.length := by have : a.length <= k := by simpa using hc2
                                      omega
        subst hge;refine aY<|Sr<|Dd aM<|Zz<|aE<|Rt ?_;exact⟨by rw[J1 a b heq hall],rfl⟩
def zC(n:Int)(s:ByteArray):Bool:=decide (n<(s.size:Int))
def aEB(n:Int)(t:GTag):Bool:=decide (n<IntKind.i64.wrap ((t.key.size:Int)+(t.val.size:Int)))
def aII(o:GObj):Prop:=o.refs.length<4611686018427387904/\o.tags.length<4611686018427387904
def CK(o:GObj)(n:Int):Bool:=(zC 300 o.id||decide (n<(o.refs.length:Int))||decide (65<(o.tags.length:Int)))||o.refs.any (zC 300)||o.tags.any (aEB 600)
theorem aHS(o:GObj)(n:Int)(H:aB)(hok:aII o):
  aH Tryz.prog 145 [av (bN o),iv n] H (fun r H'=>r=bv (!CK o n)/\H'=H):=by
 refine Pu ?_;have hrl:(o.refs.map encStr).length=o.refs.length:=aNv _;have htl:(o.tags.map bJ).length=o.tags.length:=aNv _;have h1:=hok.1;have h2:=hok.2;refine Bd func145 rfl ntmps145<|Sr<|Dd (by exact cE (id:=2) rfl rfl rfl rfl rfl)<|Dd aM<|Zz<|Sq<|Sq ?_;refine bF (t:=23) (n:=19) (X:=zC 300 o.id||decide (n<((o.refs.map encStr).length:Int))||decide (65<((o.tags.map bJ).length:Int))) ?_ ?_
 ·all_goals refine Dd (bE qB) ?_
  all_goals refine Dd (bQ isAgg9)<|Dd (nF underlying9)<|Dd mN<|Dm ?_
  all_goals refine Sp 11 (fun h11=>?_) fun h11=>?_
  all_goals try contradiction
  all_goals first|refine Fo<|Fo<|Fo<|Fo<|Fo ?_|refine On (bE gQ)<|On (bQ aJ)<|On (fZ aC)<|On aG<|On mN ?_
  all_goals refine Dd cN<|Dm ?_
  all_goals refine Sp 18 (fun h18=>?_) fun h18=>?_
  all_goals try contradiction
  all_goals first|refine Fo<|Fo<|Fo<|Fo ?_|refine On (bE fY)<|On (bQ cY)<|On (fZ cQ)<|On mN ?_
  all_goals refine Dd cN<|Zz ?_
  all_goals(exact⟨⟨_,rfl,by first|(simp only[zC, *];rfl)|(simp_all[zC];done)|(simp_all[zC];omega)⟩,rfl,rfl,rfl⟩)
 refine Cn ?_ ?_<;>intro hc1
 ·rw[hrl,htl]at hc1;refine Sr<|Dd aM<|Zz<|aE<|Rt ?_;exact⟨by rw[CK,hc1];rfl,rfl⟩
 rw[hrl,htl]at hc1;have hb1:CK o n=(o.refs.any (zC 300)||o.tags.any (aEB 600)):=by rw[CK,hc1];rfl
 refine aF<|Sq<|Sr<|Dd aM<|Zz<|aD ?_;refine bL (σ:=Nat) (fun q=>([(2,.ref 2 0 0 0),(5,iv (q:Int))],[(2,bx 6 151 ((bN o).map .pv))])) (fun q=>q<=o.refs.length/\∀j,j<q->∀b,o.refs[j]?=some b->zC 300 b=false) (fun q=>o.refs.length - q) 0 ⟨by omega,by omega⟩ ?_ ?_
 ·exact Wk
 rintro q ⟨hq,hnr⟩;refine Sq<|Sr<|Dd aG<|Dd (bE gQ)<|Dd (bQ aJ)<|Dd (fZ aC)<|Dd cP<|Zz ?_;refine Cn ?_ ?_<;>intro hc2
 ·have hlt2:q<o.refs.length:=by simpa using hc2
  obtain ⟨s,hs⟩:=aV hlt2;have hse:=cA (f:=encStr) hs;refine aF<|Sq<|aD<|Sr<|Dd (bE gQ)<|Dd (bQ aJ)<|Dd aG<|Dd (zV bT)<|Dd (kS isAgg9)<|Dd (nF underlying9)<|Dd mN<|Zz ?_;refine Cn ?_ ?_<;>intro hc3
  ·have hbad:CK o n=true:=by rw[hb1,A9 hs hc3];rfl
   refine Sr<|Dd aM<|Zz<|aE<|Rt ?_;exact⟨by rw[hbad];rfl,rfl⟩
  refine aF<|Rg<|Dd aG<|Dd qV<|Da ?_;exact⟨q+1,⟨by omega,AH hnr hs hc3⟩,by omega,Wk⟩
 have hge:q=o.refs.length:=by
  have:o.refs.length<=q:=by simpa using hc2
  omega
 subst hge;rw[FG hnr,Bool.false_or]at hb1;refine aY<|Sq<|Sr<|Dd aM<|Zz<|aD ?_;refine bL (σ:=Nat) (fun q=>([(2,.ref 2 0 0 0),(6,iv (q:Int))],[(2,bx 6 151 ((bN o).map .pv))])) (fun q=>q<=o.tags.length/\∀j,j<q->∀b,o.tags[j]?=some b->aEB 600 b=false) (fun q=>o.tags.length - q) 0 ⟨by omega,by omega⟩ ?_ ?_
 ·exact Wk
 rintro q ⟨hq,hnt⟩;refine Sq<|Sr<|Dd aG<|Dd (bE fY)<|Dd (bQ cY)<|Dd (fZ cQ)<|Dd cP<|Zz ?_;refine Cn ?_ ?_<;>intro hc4
 ·have hlt2:q<o.tags.length:=by simpa using hc4
  obtain ⟨s,hs⟩:=aV hlt2;have hse:=cA (f:=bJ) hs;refine aF<|Sq<|aD<|Sq<|aP follows<|Cq (bE fY)<|Cq (bQ cY)<|Cq aG<|Cq (zV yX)<|Cq (fp' EX)<|Cq (kS isAgg9)<|Cq (nF underlying9)<|Cq (bE fY)<|Cq (bQ cY)<|Cq aG<|Cq (zV yX)<|Cq (fp' JE)<|Cq (kS isAgg9)<|Cq (nF underlying9)<|Cq (by exact bG rfl rfl rfl rfl)<|Cq mN<|bK<|Kr ?_;refine Cn ?_ ?_<;>intro hc5
  ·have hbad:CK o n=true:=by rw[hb1,A9 hs hc5]
   refine Sr<|Dd aM<|Zz<|aE<|Rt ?_;exact⟨by rw[hbad];rfl,rfl⟩
  refine aF<|Rg<|Dd aG<|Dd qV<|Da ?_;exact⟨q+1,⟨by omega,AH hnt hs hc5⟩,by omega,Wk⟩
 have hge:q=o.tags.length:=by
  have:o.tags.length<=q:=by simpa using hc4
  omega
 subst hge;have hgood:CK o n=false:=by rw[hb1,FG hnt]
 refine aY<|Sr<|Dd aM<|Zz<|aE<|Rt ?_;exact⟨by rw[hgood];rfl,rfl⟩
end Go.Proofs.YtmdicgjnmfolfaaGreatDoor
namespace Go.Abs
variable{H H' D K D' G0:aB}{a r:AV}{E:bS}{c:Code}{P:Program}{N:Nat}{Q:Exit->bS->aB->Prop}
section
theorem Clo.up(hs:∀i,(H.get i).isSome=true->(H'.get i).isSome=true)(h:Clo H a):Clo H' a:=by
 induction h with
 |any=>exact .any
 |pv p=>exact .pv p
 |pad rows i k=>exact .pad rows i k
 |ref h=>exact .ref (hs _ h)
 |osl h=>exact .osl (hs _ h)
 |clo h ih=>exact .clo ih
 |bnd h ih=>exact .bnd ih
 |agg h ih=>exact .agg ih
 |tup h ih=>exact .tup ih
 |mp h=>exact .mp (hs _ h)
 |it h=>exact .it (hs _ h)
 |yld h=>exact .yld (hs _ h)
 |raw x ts=>exact .raw x ts
 |osc h=>exact .osc (hs _ h)
theorem Clo.app(h:Clo K a):Clo (D++K) a:=h.up fun i hi=>by
 rw[eX];cases D.get i with
 |none=>exact hi
 |some o=>rfl
theorem dF.app(h3:∀p∈D,∀r∈p.2.rows,∀a∈r,Clo (D++K) a)(h4:dF K):dF (D++K):=by
 intro id o ho;rw[eX]at ho;cases e:D.get id with
 |some x =>
  rw[e]at ho;cases ho;exact h3 _ (cV e)
 |none =>
  rw[e]at ho;exact fun r hr a ha=>(h4 id o ho r hr a ha).app
theorem Sub.front(h1:∀p∈D,K.get p.1=none)(h2:∀p∈D',D.get p.1=some p.2):Sub (D'++K) (D++K):=by
 intro id o ho;rw[eX]at ho |-;cases e:D'.get id with
 |some x =>
  rw[e]at ho;cases ho;rw[h2 _ (cV e)]
 | none =>
  rw[e]at ho;cases e2:D.get id with
  |none=>exact ho
  |some x =>
   have:=h1 _ (cV e2);rw[this]at ho;cases ho
theorem II.front(h2:∀p∈D',D.get p.1=some p.2)(h5:∀p∈D,G0.get p.1=none):II G0 (D'++K) (D++K):=by
 intro id hi;have hD:D.get id=none:=by
  cases e:D.get id with
  |none=>rfl
  |some x =>
   have:=h5 _ (cV e);rw[this]at hi;cases hi
 have hD':D'.get id=none:=by
  cases e:D'.get id with
  |none=>rfl
  |some x =>
   have:=h2 _ (cV e);rw[hD]at this;cases this
 rw[eX,eX,hD,hD']
theorem cD.front{E':bS}(D D':aB)(hE:EOk E (D'++K) E')(h1:∀p∈D,K.get p.1=none)(h2:∀p∈D',D.get p.1=some p.2)(h3:∀p∈D',∀r∈p.2.rows,∀a∈r,Clo (D'++K) a)(h4:dF K)
  (h5:∀p∈D,G0.get p.1=none):cD G0 E (D++K) E' (D'++K):=by
 intro G hG N a w hs;obtain ⟨I,ι,hr,hst,he⟩:=hs.rel;subst hG;have hsub:=Sub.front h1 h2;refine⟨hs.defers,hs.size,I,ι,hr.restrict hsub (dF.app h3 h4),hst.restrict hsub (II.front h2 h5),fun t v ht=>?_⟩;obtain ⟨k1,k2⟩:=hE.spec _ (fR ht);obtain ⟨c,hc,hv⟩:=he t v k1;exact⟨c,hc,hv.restrict hsub k2⟩
section
variable{F:Fence}{n:Nat}{b:Frame}{a:Act}{k:List Item}{cs:List Frame}{w:World}{Q:Exit->Act->World->Prop}
theorem nV:step P (lone (b.atR a (.code (.scope c)::k)) cs w)=.next (lone (b.atR a (.code c::.inScope c::k)) cs w) :=step_lone_go (by simp[stepG,stepG.exec,Frame.atR])
theorem NB:step P (lone (b.atR a (.inScope c::k)) cs w)=.next (lone (b.atR a k) cs w) :=step_lone_go (by simp[stepG,stepG.exec,Frame.atR])
theorem B0(h:c.wpIn F n P (Exit.noGoto Q) a w):(Code.scope c).wpIn F n P Q a w:=by
 intro b k cs hro hb hr;have h0:(lone (b.atR a (.code (.scope c)::k)) cs w).fenced P F:=fenced_calm hb hr rfl;obtain ⟨e,a₁,w₁,hq,harr⟩:=h b (.inScope c::k) cs hro hb hr;cases e with
 |normal=>exact⟨.normal,a₁,w₁,hq,.head h0 nV (StepsIn.trans harr (.one (fenced_calm hb hr rfl) NB))⟩
 | exit id =>
  have hx:exitTo id (.inScope c::k)=exitTo id k:=by simp[exitTo]
  exact⟨_,a₁,w₁,hq,fun k' hk=>.head h0 nV (harr.1 k' (by rw[hx];exact hk)),
   fun hr' hk=>let ⟨k₁,h1,h2⟩:=harr.2 hr' (by rw[hx];exact hk);⟨k₁,h1,.head h0 nV h2⟩⟩
 |goto l=>exact hq.elim
 |ret=>exact⟨_,a₁,w₁,hq,.of_steps (.one h0 nV) harr⟩
 |panic ch=>exact⟨_,a₁,w₁,hq,.of_steps (.one h0 nV) harr⟩
 |outgrown=>exact⟨_,a₁,w₁,hq,.of_steps (.one h0 nV) harr⟩
end
def aHx(Q:Exit->bS->aB->Prop):Exit->bS->aB->Prop
 |.goto _,_,_=>False
 |e,E,H=>Q e E H
theorem aCK(h:fL P G0 N c (aHx Q) E H):fL P G0 N (.scope c) Q E H:=by intro G hG a w hs ro hr;refine B0 (wpIn_mono (h G hG a w hs ro hr) ?_);rintro e a' w' ⟨E',H',q,s⟩;cases e<;>first|exact⟨E',H',q,s⟩|exact q.elim
theorem tV{H2:aB}{ops:Array Oper}{id n t:Nat}{d:Bool}{X:Bool}(h:fL P G0 N (.region id ops d) (fun e E1 H1=>e=.normal/\QP n t X E H2 E1 H1) E H)(hk:Q .normal ((t,.pv (.bool X))::E) H2):fL P G0 N (.region id ops d) Q E H:=by intro G hG a w hs ro hr;refine wpIn_mono (h G hG a w hs ro hr) ?_;rintro e a' w' ⟨E1,H1,⟨rfl,hm⟩,hs'⟩;exact⟨_,_,hk,(hm.ent (G0:=G0)) G hG N a' w' hs'⟩
def FL(H:aB):aB->Prop
 | []=>True
 |(_,o)::r=>(∀r∈o.rows,∀a∈r,Clo H a)/\FL H r
theorem FL.spec:∀ {L:aB},FL H L->∀p∈L,∀r∈p.2.rows,∀a∈r,Clo H a
 |(i,o)::L,h,p,hp=>by
  rcases aOH.1 hp with rfl|hp
  ·exact h.1
  exact FL.spec h.2 p hp
theorem dF.ofL(h:FL H H):dF H:=fun _ _ ho=>h.spec _ (cV ho)
def lo(D:aB)(n:Nat):Prop:=∀p∈D,900<=p.1/\p.1<n
def clear(K:aB):Prop:=∀i,900<=i->i<1000->K.get i=none
theorem Fin.of_ent{r':AV}(h:cD G0 [(0,r)] H [(0,r')] H'):Fin G0 H r H' r':=by
 intro G hG I ι w v h1 h2 h3;obtain ⟨_,_,I',ι',k1,k2,k3⟩:=h G hG 1 ⟨#[v],G.ds⟩ w ⟨pF.nil _ _ _,rfl,I,ι,h1,h2,fun t x hx=>by
  simp only[bS.get]at hx;cases e:Nat.beq 0 t with
  |true=>rw[e]at hx;cases hx;rw[<-Nat.eq_of_beq_eq_true e];exact⟨v,rfl,h3⟩
  |false=>rw[e]at hx;cases hx⟩
 obtain ⟨c,hc,hv⟩:=k3 0 r' rfl;cases hc;exact⟨I',ι',k1,k2,hv⟩
theorem Sub.front'(h1:∀p∈D,(D'.get p.1).isSome=true\/K.get p.1=none)(h2:∀p∈D',D.get p.1=some p.2):Sub (D'++K) (D++K):=by
 intro id o ho;rw[eX]at ho |-;cases e:D'.get id with
 |some x =>
  rw[e]at ho;cases ho;rw[h2 _ (cV e)]
 | none =>
  rw[e]at ho;cases e2:D.get id with
  |none=>exact ho
  |some x =>
   rcases h1 _ (cV e2)with h|h
   ·simp only[e]at h;cases h
   rw[h]at ho;cases ho
theorem II.front'(h2:∀p∈D',D.get p.1=some p.2)(h5:∀p∈D,(D'.get p.1).isSome=true\/G0.get p.1=none):II G0 (D'++K) (D++K):=by
 intro id hi;rw[eX,eX];cases e:D'.get id with
 |some x=>rw[h2 _ (cV e)]
 | none =>
  cases e2:D.get id with
  |none=>rfl
  |some x =>
   rcases h5 _ (cV e2)with h|h
   ·simp only[e]at h;cases h
   rw[h]at hi;cases hi
theorem Fin.front'(D D':aB)(hr:Clo (D'++K) r)(h1:∀p∈D,(D'.get p.1).isSome=true\/K.get p.1=none)(h2:∀p∈D',D.get p.1=some p.2)(h3:∀p∈D',∀r∈p.2.rows,∀a∈r,Clo (D'++K) a)(h4:dF K)
  (h5:∀p∈D,(D'.get p.1).isSome=true\/G0.get p.1=none):Fin G0 (D++K) r (D'++K) r:=by
 intro G hG I ι w v k1 k2 k3;subst hG;have hsub:=Sub.front' h1 h2;exact⟨I,ι,k1.restrict hsub (dF.app h3 h4),k2.restrict hsub (II.front' h2 h5),k3.restrict hsub hr⟩
theorem Fin.get'(hH:∀j,H'.get j=H.get j):Fin G0 H r H' r:=Fin.of_ent (cD.get' ⟨⟨_,rfl,rfl⟩,trivial⟩ hH)
end
end Go.Abs
namespace Go.Proofs.YtmdicgjnmfolfaaGreatDoor
open Go.Proofs.Tryz
open Go.Abs
variable{α:Type}
theorem J0:∀ {a b:List GTag},nI a b=true↔a=b
 | [],[]=>by simp[nI]
 | [],_::_=>by simp[nI]
 |_::_,[]=>by simp[nI]
 |x::a,y::b=>by rw[nI,aOE,OJ,J0];simp
theorem aMd(a0 b0 a1 b1 a2 b2 a3 b3:ByteArray)(w:World):(Op.equalIn 10000 274 (.agg [.string a0,.string a1,.string a2,.string a3].toArray) (.agg [.string b0,.string b1,.string b2,.string b3].toArray)).run Tryz.prog w =
  .ok (decide (a0=b0)&&decide (a1=b1)&&decide (a2=b2)&&decide (a3=b3)) w:=by
 obtain ⟨i,hi⟩:=info_of_underlying underlying9;refine(run_equalIn_array (P:=Tryz.prog) w 9999 _ _ underlying274 hi).trans ?_;have hs:∀(d:Nat) (a b:ByteArray) (w:World),(Op.equalIn (d+1) 9 (.string a) (.string b)).run Tryz.prog w=.ok (decide (a=b)) w:=fun d a b w=>by rw[run_equalIn_string w d 9 a b underlying9,wM]
 have hc:Tryz.prog.cellsOf 9=1:=by kernel_rfl
 by_cases e0:a0=b0<;>by_cases e1:a1=b1<;>by_cases e2:a2=b2<;>by_cases e3:a3=b3<;>simp[List.range_succ,Op.eqItems,part,hc,hs,isAgg9,e0,e1,e2,e3]
theorem VK(a b:List ByteArray)(H:aB)(ha:a.length<4611686018427387904):aH Tryz.prog 268 [.pv (aS a),.pv (aS b)] H (fun r H'=>r=bv (decide (a=b))/\H'=H):=by
 refine Pu ?_;have hma:(a.map encStr).length=a.length:=aNv _;have hmb:(b.map encStr).length=b.length:=aNv _;refine Bd func268 rfl ntmps268<|Sr<|Dd aM<|Zz<|Sq<|Sr<|Dd aG<|Dd (fZ aC)<|Dd aG<|Dd (fZ aC)<|Dd zW<|Zz ?_;refine Cn ?_ ?_<;>intro hc1
 ·have hne:¬ a=b:=by
   intro e;subst e;simp at hc1
  refine Sr<|Dd aM<|Zz<|aE<|Rt ?_;exact⟨by rw[decide_eq_false hne],rfl⟩
 have heq:a.length=b.length:=by
  simp only[hma,hmb,Bool.not_eq_false',aOC]at hc1;omega
 refine aF<|Sq<|Sr<|Dd aG<|Dd (fZ aC)<|Dd aG<|Zz<|aD ?_;refine bL (σ:=Nat) (fun k=>([(0,.pv (aS a)),(1,.pv (aS b)),(12,iv ((a.map encStr).length:Int)),(13,iv (k:Int))],[])) (fun k=>k<=a.length/\a.take k=b.take k) (fun k=>a.length - k) 0 ⟨by omega,by simp⟩ ?_ ?_
 ·exact E0
 rintro k ⟨hk,hall⟩;refine Sr<|Dd cP<|Zz<|Sq ?_;refine Cn ?_ ?_<;>intro hc2
 ·have hlt:k<a.length:=by have:=aNr hc2;omega
  obtain ⟨x,hx⟩:=aV hlt;obtain ⟨y,hy⟩:=aV (l:=b) (k:=k) (by omega);have hi:=cA (f:=encStr) hx;have hi2:=cA (f:=encStr) hy;refine aF<|Sq<|aD<|Sr<|Dd aG<|Dd aM<|Zz<|Sq<|aP follows<|Cq aG<|Cq aG<|Cq (zV bT)<|Cq (kS isAgg9)<|Cq aG<|Cq aG<|Cq (zV bT)<|Cq (kS isAgg9)<|Cq TU<|bK<|Kr ?_;refine Cn ?_ ?_<;>intro hc3
  ·have ht:¬ x=y:=by
    have h:(!decide (x=y))=true:=hc3
    simpa using h
   have hne:¬ a=b:=by
    intro e;subst e;rw[hx]at hy;exact ht (Option.some.inj hy)
   refine Sr<|Dd aM<|Zz<|aE<|Rt ?_;exact⟨by rw[decide_eq_false hne],rfl⟩
  have ht:x=y:=by
   have h:(!decide (x=y))=false:=hc3
   simpa using h
  refine aF<|Rg<|Dd qV<|Dd aG<|Zz ?_;refine⟨k+1,⟨by omega,?_⟩,by omega,E0⟩;rw[List.take_add_one,List.take_add_one,hx,hy,hall,ht]
 have hge:k=a.length:=by have:=aNs hc2;omega
 have he:a=b:=by
  have h:=hall;rw[hge,List.take_length,heq,List.take_length]at h;exact h
 refine aY<|Sr<|Dd aM<|Zz<|aE<|Rt ?_;exact⟨by rw[decide_eq_true he],rfl⟩
def rD(a b:GObj):Bool:=((decide (a.id=b.id)&&decide (a.kind=b.kind)&&(decide (a.x=b.x)&&decide (a.y=b.y)))&&decide (a.refs=b.refs))&&nI a.tags b.tags
theorem C1{a b:GObj}:rD a b=true↔a=b:=by
 cases a;cases b;simp only[rD,aOE,aOC,J0,GObj.mk.injEq];constructor
 ·rintro⟨⟨⟨⟨a1,a2⟩,a3,a4⟩,a5⟩,a6⟩;exact⟨a1,a2,a3,a4,a5,a6⟩
 rintro⟨a1,a2,a3,a4,a5,a6⟩;exact⟨⟨⟨⟨a1,a2⟩,a3,a4⟩,a5⟩,a6⟩
def okS(o:GObj):Prop:=o.refs.length<4611686018427387904/\o.tags.length<4611686018427387904
theorem aGW(a b:GObj)(H:aB)(ha:okS a):aH Tryz.prog 269 [av (bN a),av (bN b)] H (fun r H'=>r=bv (rD a b)/\H'=H):=by
 refine Pu ?_;refine Bd func269 rfl ntmps269<|Sr<|Dd (by exact cE (id:=2) rfl rfl rfl rfl rfl)<|Dd (by exact cE (id:=3) rfl rfl rfl rfl rfl)<|Dd aM<|Zz<|Sq ?_;refine bF (t:=4) (n:=38) (X:=rD a b) ?_ ?_
 ·all_goals refine Dd (bE qB) ?_
  all_goals refine Dd (bQ isAgg9)<|Dd (bE qB)<|Dd (bQ isAgg9)<|Dd B3<|Dm ?_
  all_goals refine Sp 10 (fun h10=>?_) fun h10=>?_
  all_goals try contradiction
  all_goals first|refine Fo<|Fo<|Fo<|Fo<|Fo ?_|refine On (bE gR)<|On (bQ isAgg3)<|On (bE gR)<|On (bQ isAgg3)<|On dK ?_
  all_goals refine Dd cN<|Dm ?_
  all_goals refine Sp 17 (fun h17=>?_) fun h17=>?_
  all_goals try contradiction
  all_goals first|refine Fo<|Fo<|Fo<|Fo<|Fo ?_|refine On (bE oY)<|On (by exact aN rfl dZ sizeOf68 rfl rfl rfl rfl (by simp only[Zl,bJ,bN,encStr,bC];rfl) rfl)<|On (bE oY)<|On (by exact aN rfl dZ sizeOf68 rfl rfl rfl rfl (by simp only[Zl,bJ,bN,encStr,bC];rfl) rfl)<|On (by exact AQ rfl rfl rfl rfl rfl kQ (XH _ _ _ _)) ?_
  all_goals refine Dd cN<|Dm ?_
  all_goals refine Sp 24 (fun h24=>?_) fun h24=>?_
  all_goals try contradiction
  all_goals first|refine Fo<|Fo<|Fo<|Fo<|Fo ?_|refine On (bE gQ)<|On (bQ aJ)<|On (bE gQ)<|On (bQ aJ)<|On (by exact aA rfl rfl call268 rfl (VK a.refs b.refs _ ha.1)) ?_
  all_goals refine Dd cN<|Dm ?_
  all_goals refine Sp 31 (fun h31=>?_) fun h31=>?_
  all_goals try contradiction
  all_goals first|refine Fo<|Fo<|Fo<|Fo<|Fo ?_|refine On (bE fY)<|On (bQ cY)<|On (bE fY)<|On (bQ cY)<|On (by exact aA rfl rfl call273 rfl (VH a.tags b.tags _ ha.2)) ?_
  all_goals refine Dd cN<|Da ?_
  all_goals(exact⟨⟨_,rfl,by(simp only[rD, *];rfl)⟩,rfl,rfl,rfl⟩)
 exact aE<|Rt<|Qq
def jO(a b:GEdit):Bool:=((((decide (a.refs=b.refs)&&rD a.obj b.obj)&&decide (a.op=b.op))&&(decide (a.id=b.id)&&decide (a.other=b.other)&&decide (a.node=b.node)&&decide (a.key=b.key)))&&decide (a.val=b.val))&&(decide (a.x=b.x)&&decide (a.y=b.y))
theorem YU{a b:GEdit}:jO a b=true↔a=b:=by
 cases a;cases b;simp only[jO,aOE,aOC,C1,GEdit.mk.injEq];constructor
 ·rintro⟨⟨⟨⟨⟨a1,a2⟩,a3⟩,⟨⟨a4,a5⟩,a6⟩,a7⟩,a8⟩,a9,a10⟩;exact⟨a3,a4,a5,a6,a9,a10,a7,a8,a1,a2⟩
 rintro⟨a3,a4,a5,a6,a9,a10,a7,a8,a1,a2⟩;exact⟨⟨⟨⟨⟨a1,a2⟩,a3⟩,⟨⟨a4,a5⟩,a6⟩,a7⟩,a8⟩,a9,a10⟩
theorem xN(a b:GEdit)(H:aB)(h1:a.refs.length<4611686018427387904)(h2:okS a.obj):aH Tryz.prog 242 [av (bC a),av (bC b)] H (fun r H'=>r=bv (jO a b)/\H'=H):=by
 refine Pu ?_;refine Bd func242 rfl ntmps242<|Sr<|Dd (by exact cE (id:=2) rfl rfl rfl rfl rfl)<|Dd (by exact cE (id:=3) rfl rfl rfl rfl rfl)<|Dd aM<|Zz<|Sq ?_;refine bF (t:=5) (n:=14) (X:=decide (a.refs=b.refs)&&rD a.obj b.obj) ?_ ?_
 ·all_goals refine Dd (bE fC) ?_
  all_goals refine Dd (bQ aJ)<|Dd (bE fC)<|Dd (bQ aJ)<|Dd (by exact aA rfl rfl call268 rfl (VK a.refs b.refs _ h1))<|Dm ?_
  all_goals refine Sp 11 (fun h11=>?_) fun h11=>?_
  all_goals try contradiction
  all_goals first|refine Fo<|Fo<|Fo<|Fo<|Fo ?_|refine On (bE rZ)<|On (by exact aN rfl cR sizeOf151 rfl rfl rfl rfl (by simp only[Zl,bJ,bN,encStr,bC];rfl) rfl)<|On (bE rZ)<|On (by exact aN rfl cR sizeOf151 rfl rfl rfl rfl (by simp only[Zl,bJ,bN,encStr,bC];rfl) rfl)<|On (by exact aA rfl rfl call269 rfl (aGW a.obj b.obj _ h2)) ?_
  all_goals refine Dd cN<|Da ?_
  all_goals(exact⟨⟨_,rfl,by(simp only[*];rfl)⟩,rfl,rfl,rfl⟩)
 refine Sq ?_;refine bF (t:=4) (n:=48) (X:=jO a b) ?_ ?_
 ·all_goals refine Dd aG ?_
  all_goals refine Dm ?_
  all_goals refine Sp 19 (fun h19=>?_) fun h19=>?_
  all_goals try contradiction
  all_goals first|refine Fo<|Fo<|Fo<|Fo<|Fo ?_|refine On (bE yL)<|On (bQ isAgg3)<|On (bE yL)<|On (bQ isAgg3)<|On dK ?_
  all_goals refine Dd cN<|Dm ?_
  all_goals refine Sp 26 (fun h26=>?_) fun h26=>?_
  all_goals try contradiction
  all_goals first|refine Fo<|Fo<|Fo<|Fo<|Fo<|Fo<|Fo<|Fo<|Fo<|Fo<|Fo<|Fo<|Fo<|Fo<|Fo<|Fo<|Fo<|Fo<|Fo ?_|refine On (bE lL)<|On (bQ isAgg9)<|On (bE iW)<|On (bQ isAgg9)<|On (bE oX)<|On (bQ isAgg9)<|On (bE lK)<|On (bQ isAgg9)<|On (by exact uH rfl aIY rfl rfl)<|On (bE lL)<|On (bQ isAgg9)<|On (bE iW)<|On (bQ isAgg9)<|On (bE oX)<|On (bQ isAgg9)<|On (bE lK)<|On (bQ isAgg9)<|On (by exact uH rfl aIY rfl rfl)<|On (by exact AQ rfl rfl rfl rfl rfl eqGuardType274 (aMd a.id b.id a.other b.other a.node b.node a.key b.key)) ?_
  all_goals refine Dd cN<|Dm ?_
  all_goals refine Sp 47 (fun h47=>?_) fun h47=>?_
  all_goals try contradiction
  all_goals first|refine Fo<|Fo<|Fo<|Fo<|Fo ?_|refine On (bE mK)<|On (bQ isAgg9)<|On (bE mK)<|On (bQ isAgg9)<|On B3 ?_
  all_goals refine Dd cN<|Dm ?_
  all_goals refine Sp 54 (fun h54=>?_) fun h54=>?_
  all_goals try contradiction
  all_goals first|refine Fo<|Fo<|Fo<|Fo<|Fo ?_|refine On (bE iP)<|On (by exact aN rfl dZ sizeOf68 rfl rfl rfl rfl (by simp only[Zl,bJ,bN,encStr,bC];rfl) rfl)<|On (bE iP)<|On (by exact aN rfl dZ sizeOf68 rfl rfl rfl rfl (by simp only[Zl,bJ,bN,encStr,bC];rfl) rfl)<|On (by exact AQ rfl rfl rfl rfl rfl kQ (XH _ _ _ _)) ?_
  all_goals refine Dd cN<|Da ?_
  all_goals(exact⟨⟨_,rfl,by(simp only[jO, *];rfl)⟩,rfl,rfl,rfl⟩)
 exact aE<|Rt<|Qq
def atP{α:Type}(l:List α)(p:α->Bool)(k:Nat):Bool:=match l[k]? with
 |some s=>p s
 |none=>false
theorem MP{l:List α}{p:α->Bool}{k:Nat}{s:α}(h:l[k]?=some s):atP l p k=p s:=by rw[atP,h]
theorem ND(l:List α)(p:α->Bool):(List.range l.length).any (atP l p)=l.any p:=by
 rw[Bool.eq_iff_iff,List.any_eq_true,List.any_eq_true];constructor
 ·rintro⟨k,hk,h⟩;have hlt:=List.mem_range.1 hk;rw[MP (aOA hlt)]at h;exact⟨_,List.getElem_mem hlt,h⟩
 rintro⟨x,hx,h⟩;obtain ⟨k,hk⟩:=aOQ.1 hx;exact⟨k,List.mem_range.2 (aNz.1 hk).1,by rw[MP hk];exact h⟩
theorem aDw(s:ByteArray)(H:aB)(hs:s.size<4611686018427387904):aH Tryz.prog 267 [sv s] H (fun r H'=>r=bv (!bO s)/\H'=H):=by refine Pu ?_;exact Bd func267 rfl ntmps267<|Sr<|Dd aM<|Zz<|Sr<|Dd aG<|Dd (by exact aA rfl rfl nH rfl (yA s _ hs))<|Dd mT<|Dd aM<|Zz<|aE<|Rt<|Qq
theorem RW(l:List ByteArray)(H:aB)(hl:l.length<4611686018427387904)(hs:∀s∈l,s.size<4611686018427387904):aH Tryz.prog 241 [.pv (aS l)] H (fun r H'=>r=bv (l.all bO)/\H'=H):=by
 refine Pu ?_;have e:l.all bO=!(List.range l.length).any (atP l (fun s=>!bO s)):=by
  rw[ND l (fun s=>!bO s),List.any_eq_not_all_not];simp
 rw[e];exact Bd func241 rfl ntmps241<|Sr<|Dd aM<|Zz<|Sr<|Dd aG<|Dd (by exact aA rfl rfl S2 rfl (qD (.pv (.fn 267)) l (atP l (fun s=>!bO s)) (fun _=>[]) hl (fun k s hk=>cK.fn call267 (by rw[MP hk];exact aDw s _ (hs s (aOF hk))))))<|Dd mT<|Dd aM<|Zz<|aE<|Rt<|Qq
def IA(e:GEdit):GEdit :=if e.op=1 then⟨e.op,sNil,sNil,sNil,0,0,sNil,sNil,[],e.obj⟩
 else if e.op=2 then⟨e.op,e.id,sNil,sNil,e.x,e.y,sNil,sNil,[],zObj⟩
 else if e.op=3 then⟨e.op,e.id,sNil,sNil,0,0,e.key,e.val,[],zObj⟩
 else if e.op=4 then⟨e.op,e.id,sNil,sNil,0,0,sNil,sNil,e.refs,zObj⟩
 else if e.op=5 then⟨e.op,e.id,sNil,sNil,0,0,sNil,sNil,[],zObj⟩
 else if e.op=6 then⟨e.op,e.id,e.other,e.node,0,0,sNil,sNil,[],zObj⟩
 else⟨e.op,e.id,e.other,sNil,0,0,sNil,sNil,[],zObj⟩
def wF(e:GEdit):Bool :=if e.op=1 then nN e.obj
 else bO e.id&&(if e.op=2 then onP e.x e.y else if e.op=3 then bO e.key&&decide ((e.val.size:Int)<=200)
  else if e.op=4 then decide ((0:Int)<(e.refs.length:Int))&&decide ((e.refs.length:Int)<=2000)&&e.refs.all bO
  else if e.op=5 then true else if e.op=6 then bO e.node&&bO e.other else bO e.other)
def fX(e:GEdit):Bool:=(decide (1<=e.op)&&decide (e.op<=7))&&(wF e&&jO (IA e) e)
def S9(e:GEdit):Prop:=(e.id.size<4611686018427387904/\e.other.size<4611686018427387904/\e.node.size<4611686018427387904/\e.key.size<4611686018427387904)/\(e.refs.length<4611686018427387904/\∀s∈e.refs,s.size<4611686018427387904)/\okO e.obj
theorem aJW{o:GObj}(h:okO o):okS o:=⟨h.2.2.1,h.2.1.1⟩
theorem O3:okS zObj:=⟨by decide,by decide⟩
theorem aGn(s:ByteArray)(H:aB)(hs:s.size<4611686018427387904):aH Tryz.prog 241 [.pv (aS [s])] H (fun r H'=>r=bv (bO s)/\H'=H):=by
 have h:=RW [s] H (by show 1<_;omega) (by simpa using hs)
 simpa using h
theorem aMu(s t:ByteArray)(H:aB)(hs:s.size<4611686018427387904)(ht:t.size<4611686018427387904):aH Tryz.prog 241 [.pv (aS [s,t])] H (fun r H'=>r=bv (bO s&&bO t)/\H'=H):=by
 have h:=RW [s,t] H (by show 2<_;omega) (by simpa using ⟨hs,ht⟩)
 simpa using h
theorem VM(e:GEdit)(H:aB)(he:S9 e):aH Tryz.prog 202 [av (bC e)] H (fun r H'=>r=bv (fX e)/\H'=H):=by
 refine Pu ?_;obtain ⟨⟨h1,h2,h3,h4⟩,⟨h5,h6⟩,h7⟩:=he;have hrl:(e.refs.map encStr).length=e.refs.length:=aNv _;refine Bd func202 rfl ntmps202<|Sr<|Dd (by exact cE (id:=1) rfl rfl rfl rfl rfl)<|Dd aM<|Zz<|Sr<|Dd (bE yL)<|Dd (bQ isAgg3)<|Dd (bE lL)<|Dd (bQ isAgg9)<|Dd (wV CJ)<|Dd (by exact bM (id:=3) rfl ZJ rfl rfl)<|Uu (kG bA)<|Zz<|Sr<|Dd (bE lL)<|Dd (bQ isAgg9)<|Dd (by exact aQ ([e.id].map encStr) rfl bT rfl rfl rfl rfl rfl (by simp[encStr]))<|Dd (by exact aA rfl rfl B7 rfl (aGn e.id _ h1))<|Dd aM<|Zz<|Sq<|Sr<|Dd (bE yL)<|Dd (bQ isAgg3)<|Zz<|aD<|Sr<|Dd dK<|Da ?_;refine Cn ?_ ?_<;>intro hc1
 ·have ho:e.op=1:=aNr hc1;have hx:IA e=⟨e.op,sNil,sNil,sNil,0,0,sNil,sNil,[],e.obj⟩:=by rw[IA,aNu ho]
  have hk:wF e=nN e.obj:=by rw[wF,aNu ho]
  have hv:fX e=(nN e.obj&&jO ⟨e.op,sNil,sNil,sNil,0,0,sNil,sNil,[],e.obj⟩ e):=by rw[fX,hx,hk,ho];rfl
  refine aP follows<|Cr [1] (fun _ h=>fh rZ h)<|Cr [1] (fun H1 hH=>by exact aN rfl cR sizeOf151 rfl ((hH _ rfl).trans rfl) rfl rfl (by simp only[Zl,bJ,bN,encStr,bC,zObj];rfl) rfl)<|Cr [1] (fun _ h=>fh rZ h)<|Cr [1] (fun H1 hH=>by exact aN rfl cR sizeOf151 rfl ((hH _ rfl).trans rfl) rfl rfl (by simp only[Zl,bJ,bN,encStr,bC,zObj];rfl) rfl)<|Cr [] (fun H1 hH=>by exact aA rfl rfl call233 rfl (KX e.obj _ h7))<|Cr [3] (fun _ h=>fh lL h)<|Cp [3] (fun H1 hH=>by exact bD rfl sizeOf9 rfl rfl rfl ((hH _ rfl).trans rfl) rfl rfl (aOI rfl) rfl rfl)<|Cr [3] (fun _ h=>fh rZ h)<|Cp [3] (fun H1 hH=>by exact mF rfl sizeOf151 rfl rfl rfl rfl ((hH _ rfl).trans rfl) rfl rfl (aOI rfl) rfl rfl)<|Cr [] (fun _ _=>aM) ?_;refine bK<|Kr<|Sq ?_;refine bF (t:=2) (n:=8) (X:=nN e.obj&&jO ⟨e.op,sNil,sNil,sNil,0,0,sNil,sNil,[],e.obj⟩ e) ?_ ?_
  ·all_goals refine Dd aG ?_
   all_goals refine Dm ?_
   all_goals refine Sp 127 (fun h127=>?_) fun h127=>?_
   all_goals try contradiction
   all_goals first|refine Fo<|Fo<|Fo ?_|refine On (by exact aN rfl bW bA rfl rfl rfl rfl (by simp only[Zl,bJ,bN,encStr,bC,zObj];rfl) rfl)<|On (by exact aN rfl bW bA rfl rfl rfl rfl (by simp only[Zl,bJ,bN,encStr,bC,zObj];rfl) rfl)<|On (by exact aA rfl rfl vR rfl (xN ⟨e.op,sNil,sNil,sNil,0,0,sNil,sNil,[],e.obj⟩ e _ (by show 0<_;omega) (aJW h7))) ?_
   all_goals refine Dd cN<|Da ?_
   all_goals(exact⟨⟨_,rfl,by(simp_all[nN];done)⟩,rfl,rfl,rfl⟩)
  refine aE<|Rt ?_;exact⟨by rw[hv],rfl⟩
 have ho1:¬ e.op=1:=aNs hc1;refine Sr<|Dd dK<|Da ?_;refine Cn ?_ ?_<;>intro hc2
 ·have ho:e.op=2:=aNr hc2;have hx:IA e=⟨e.op,e.id,sNil,sNil,e.x,e.y,sNil,sNil,[],zObj⟩:=by rw[IA,aNt ho1,aNu ho]
  have hk:wF e=(bO e.id&&onP e.x e.y):=by rw[wF,aNt ho1,aNu ho]
  have hb:(bO e.id&&decide (0<=min e.x e.y)&&decide (max e.x e.y<1048576))=(bO e.id&&onP e.x e.y):=by rw[onP,Bool.and_assoc]
  have hv:fX e=((bO e.id&&decide (0<=min e.x e.y)&&decide (max e.x e.y<1048576))&&jO ⟨e.op,e.id,sNil,sNil,e.x,e.y,sNil,sNil,[],zObj⟩ e):=by rw[fX,hx,hk,hb,ho];rfl
  apply tV (t:=4) (n:=25) (X:=bO e.id&&decide (0<=min e.x e.y)&&decide (max e.x e.y<1048576))
  ·cases hg30:(bO e.id:Bool)
   ·refine aP follows<|Cr [1] (fun _ h=>fh iP h)<|Cr [1] (fun H1 hH=>by exact aN rfl dZ sizeOf68 rfl ((hH _ rfl).trans rfl) rfl rfl (by simp only[Zl,bJ,bN,encStr,bC,zObj];rfl) rfl)<|Cr [] (fun _ _=>aG)<|Cr [] (fun _ _=>aG)<|Ot<|Ot<|Ot<|Ot<|Ot<|Ot<|Ot<|Ot<|Cr [] (fun _ _=>cN)<|Cr [] (fun _ _=>aG)<|Ot<|Ot<|Ot<|Ot<|Ot<|Ot<|Ot<|Ot<|Cr [] (fun _ _=>cN)<|Cr [3] (fun _ h=>fh iP h)<|Cp [3] (fun H1 hH=>by exact mF rfl sizeOf68 rfl rfl rfl rfl ((hH _ rfl).trans rfl) rfl rfl (aOI rfl) rfl rfl)<|Cr [] (fun _ _=>aM)<|bK<|Kr ?_;exact⟨rfl,⟨_,rfl,by rfl⟩,rfl,rfl,rfl⟩
   cases hg40:(decide (0<=min e.x e.y):Bool)
   ·refine aP follows<|Cr [1] (fun _ h=>fh iP h)<|Cr [1] (fun H1 hH=>by exact aN rfl dZ sizeOf68 rfl ((hH _ rfl).trans rfl) rfl rfl (by simp only[Zl,bJ,bN,encStr,bC,zObj];rfl) rfl)<|Cr [] (fun _ _=>aG)<|Cr [] (fun _ _=>aG) ?_;refine aX (r:=⟨_,some [1],[]⟩) (bR rfl rfl rfl (by rfl) (fun H1 hH=>by exact(by exact aZ rfl iP rfl ((hH _ rfl).trans rfl) rfl rfl))) rfl ?_;refine aX (r:=⟨_,some [1],[]⟩) (bR rfl rfl rfl (by rfl) (fun H1 hH=>by exact(by exact aZ rfl vI rfl ((hH _ rfl).trans rfl) rfl rfl))) rfl ?_;refine aX (r:=⟨_,some [1],[]⟩) (bR rfl rfl rfl (by rfl) (fun H1 hH=>by exact(by exact aK rfl isAgg3 rfl ((hH _ rfl).trans rfl) rfl rfl rfl))) rfl ?_;refine aX (r:=⟨_,some [1],[]⟩) (bR rfl rfl rfl (by rfl) (fun H1 hH=>by exact(by exact aZ rfl iP rfl ((hH _ rfl).trans rfl) rfl rfl))) rfl ?_;refine aX (r:=⟨_,some [1],[]⟩) (bR rfl rfl rfl (by rfl) (fun H1 hH=>by exact(by exact aZ rfl vG rfl ((hH _ rfl).trans rfl) rfl rfl))) rfl ?_;refine aX (r:=⟨_,some [1],[]⟩) (bR rfl rfl rfl (by rfl) (fun H1 hH=>by exact(by exact aK rfl isAgg3 rfl ((hH _ rfl).trans rfl) rfl rfl rfl))) rfl ?_;refine aX (r:=⟨_,some [],[]⟩) (bR rfl rfl rfl (by rfl) (fun H1 hH=>by exact IX rfl rfl rfl rfl)) rfl ?_;refine aX (r:=⟨_,some [],[]⟩) (bR rfl rfl rfl (by rfl) (fun H1 hH=>by exact uP rfl rfl rfl)) rfl ?_;refine Cr [] (fun _ _=>cN)<|Cr [] (fun _ _=>aG)<|Ot<|Ot<|Ot<|Ot<|Ot<|Ot<|Ot<|Ot<|Cr [] (fun _ _=>zA)<|Cr [3] (fun _ h=>fh iP h)<|Cp [3] (fun H1 hH=>by exact mF rfl sizeOf68 rfl rfl rfl rfl ((hH _ rfl).trans rfl) rfl rfl (aOI rfl) rfl rfl)<|Cr [] (fun _ _=>aM)<|bK<|Kr ?_;exact⟨rfl,⟨_,rfl,by rfl⟩,rfl,rfl,rfl⟩
   refine aP follows<|Cr [1] (fun _ h=>fh iP h)<|Cr [1] (fun H1 hH=>by exact aN rfl dZ sizeOf68 rfl ((hH _ rfl).trans rfl) rfl rfl (by simp only[Zl,bJ,bN,encStr,bC,zObj];rfl) rfl)<|Cr [] (fun _ _=>aG)<|Cr [] (fun _ _=>aG) ?_;refine aX (r:=⟨_,some [1],[]⟩) (bR rfl rfl rfl (by rfl) (fun H1 hH=>by exact(by exact aZ rfl iP rfl ((hH _ rfl).trans rfl) rfl rfl))) rfl ?_;refine aX (r:=⟨_,some [1],[]⟩) (bR rfl rfl rfl (by rfl) (fun H1 hH=>by exact(by exact aZ rfl vI rfl ((hH _ rfl).trans rfl) rfl rfl))) rfl ?_;refine aX (r:=⟨_,some [1],[]⟩) (bR rfl rfl rfl (by rfl) (fun H1 hH=>by exact(by exact aK rfl isAgg3 rfl ((hH _ rfl).trans rfl) rfl rfl rfl))) rfl ?_;refine aX (r:=⟨_,some [1],[]⟩) (bR rfl rfl rfl (by rfl) (fun H1 hH=>by exact(by exact aZ rfl iP rfl ((hH _ rfl).trans rfl) rfl rfl))) rfl ?_;refine aX (r:=⟨_,some [1],[]⟩) (bR rfl rfl rfl (by rfl) (fun H1 hH=>by exact(by exact aZ rfl vG rfl ((hH _ rfl).trans rfl) rfl rfl))) rfl ?_;refine aX (r:=⟨_,some [1],[]⟩) (bR rfl rfl rfl (by rfl) (fun H1 hH=>by exact(by exact aK rfl isAgg3 rfl ((hH _ rfl).trans rfl) rfl rfl rfl))) rfl ?_;refine aX (r:=⟨_,some [],[]⟩) (bR rfl rfl rfl (by rfl) (fun H1 hH=>by exact IX rfl rfl rfl rfl)) rfl ?_;refine aX (r:=⟨_,some [],[]⟩) (bR rfl rfl rfl (by rfl) (fun H1 hH=>by exact uP rfl rfl rfl)) rfl ?_;refine Cr [] (fun _ _=>cN)<|Cr [] (fun _ _=>aG) ?_;refine aX (r:=⟨_,some [1],[]⟩) (bR rfl rfl rfl (by assumption) (fun H1 hH=>by exact(by exact aZ rfl iP rfl ((hH _ rfl).trans rfl) rfl rfl))) rfl ?_;refine aX (r:=⟨_,some [1],[]⟩) (bR rfl rfl rfl (by assumption) (fun H1 hH=>by exact(by exact aZ rfl vI rfl ((hH _ rfl).trans rfl) rfl rfl))) rfl ?_;refine aX (r:=⟨_,some [1],[]⟩) (bR rfl rfl rfl (by assumption) (fun H1 hH=>by exact(by exact aK rfl isAgg3 rfl ((hH _ rfl).trans rfl) rfl rfl rfl))) rfl ?_;refine aX (r:=⟨_,some [1],[]⟩) (bR rfl rfl rfl (by assumption) (fun H1 hH=>by exact(by exact aZ rfl iP rfl ((hH _ rfl).trans rfl) rfl rfl))) rfl ?_;refine aX (r:=⟨_,some [1],[]⟩) (bR rfl rfl rfl (by assumption) (fun H1 hH=>by exact(by exact aZ rfl vG rfl ((hH _ rfl).trans rfl) rfl rfl))) rfl ?_;refine aX (r:=⟨_,some [1],[]⟩) (bR rfl rfl rfl (by assumption) (fun H1 hH=>by exact(by exact aK rfl isAgg3 rfl ((hH _ rfl).trans rfl) rfl rfl rfl))) rfl ?_;refine aX (r:=⟨_,some [],[]⟩) (bR rfl rfl rfl (by assumption) (fun H1 hH=>by exact aGi rfl rfl rfl rfl)) rfl ?_;refine aX (r:=⟨_,some [],[]⟩) (bR rfl rfl rfl (by assumption) (fun H1 hH=>by exact IY rfl rfl rfl)) rfl ?_;refine Cr [] (fun _ _=>NE)<|Cr [3] (fun _ h=>fh iP h)<|Cp [3] (fun H1 hH=>by exact mF rfl sizeOf68 rfl rfl rfl rfl ((hH _ rfl).trans rfl) rfl rfl (aOI rfl) rfl rfl)<|Cr [] (fun _ _=>aM)<|bK<|Kr ?_;exact⟨rfl,⟨_,rfl,by rfl⟩,rfl,rfl,rfl⟩
  refine Sq ?_;refine bF (t:=2) (n:=8) (X:=(bO e.id&&decide (0<=min e.x e.y)&&decide (max e.x e.y<1048576))&&jO ⟨e.op,e.id,sNil,sNil,e.x,e.y,sNil,sNil,[],zObj⟩ e) ?_ ?_
  ·all_goals refine Dd aG ?_
   all_goals refine Dm ?_
   all_goals refine Sp 127 (fun h127=>?_) fun h127=>?_
   all_goals try contradiction
   all_goals first|refine Fo<|Fo<|Fo ?_|refine On (by exact aN rfl bW bA rfl rfl rfl rfl (by simp only[Zl,bJ,bN,encStr,bC,zObj];rfl) rfl)<|On (by exact aN rfl bW bA rfl rfl rfl rfl (by simp only[Zl,bJ,bN,encStr,bC,zObj];rfl) rfl)<|On (by exact aA rfl rfl vR rfl (xN ⟨e.op,e.id,sNil,sNil,e.x,e.y,sNil,sNil,[],zObj⟩ e _ (by(show 0<_;omega)) O3)) ?_
   all_goals refine Dd cN<|Da ?_
   all_goals(exact⟨⟨_,rfl,by(rw[h127];rfl)⟩,rfl,rfl,rfl⟩)
  refine aE<|Rt ?_;exact⟨by rw[hv],rfl⟩
 have ho2:¬ e.op=2:=aNs hc2;refine Sr<|Dd dK<|Da ?_;refine Cn ?_ ?_<;>intro hc3
 ·have ho:e.op=3:=aNr hc3;have hx:IA e=⟨e.op,e.id,sNil,sNil,0,0,e.key,e.val,[],zObj⟩:=by rw[IA,aNt ho1,aNt ho2,aNu ho]
  have hk:wF e=(bO e.id&&(bO e.key&&decide ((e.val.size:Int)<=200))):=by rw[wF,aNt ho1,aNt ho2,aNu ho]
  have hb:(bO e.id&&bO e.key&&decide ((e.val.size:Int)<=200))=(bO e.id&&(bO e.key&&decide ((e.val.size:Int)<=200))):=by rw[Bool.and_assoc]
  have hv:fX e=((bO e.id&&bO e.key&&decide ((e.val.size:Int)<=200))&&jO ⟨e.op,e.id,sNil,sNil,0,0,e.key,e.val,[],zObj⟩ e):=by rw[fX,hx,hk,hb,ho];rfl
  apply tV (t:=4) (n:=20) (X:=bO e.id&&bO e.key&&decide ((e.val.size:Int)<=200))
  ·cases hg58:(bO e.id:Bool)
   ·refine aP follows<|Cr [1] (fun _ h=>fh lK h)<|Cr [1] (fun _ h=>lh isAgg9 h)<|Cr [1] (fun _ h=>fh mK h)<|Cr [1] (fun _ h=>lh isAgg9 h)<|Cr [] (fun _ _=>aG)<|Cr [] (fun _ _=>aG)<|Ot<|Ot<|Ot<|Ot<|Cr [] (fun _ _=>cN)<|Cr [] (fun _ _=>aG)<|Ot<|Ot<|Ot<|Ot<|Cr [] (fun _ _=>cN)<|Cr [3] (fun _ h=>fh lK h)<|Cp [3] (fun H1 hH=>by exact bD rfl sizeOf9 rfl rfl rfl ((hH _ rfl).trans rfl) rfl rfl (aOI rfl) rfl rfl)<|Cr [3] (fun _ h=>fh mK h)<|Cp [3] (fun H1 hH=>by exact bD rfl sizeOf9 rfl rfl rfl ((hH _ rfl).trans rfl) rfl rfl (aOI rfl) rfl rfl)<|Cr [] (fun _ _=>aM)<|bK<|Kr ?_;exact⟨rfl,⟨_,rfl,by rfl⟩,rfl,rfl,rfl⟩
   cases hg64:(bO e.key:Bool)
   ·refine aP follows<|Cr [1] (fun _ h=>fh lK h)<|Cr [1] (fun _ h=>lh isAgg9 h)<|Cr [1] (fun _ h=>fh mK h)<|Cr [1] (fun _ h=>lh isAgg9 h)<|Cr [] (fun _ _=>aG)<|Cr [] (fun _ _=>aG) ?_;refine aX (r:=⟨_,some [1],[]⟩) (bR rfl rfl rfl (by rfl) (fun H1 hH=>by exact(by exact aZ rfl lK rfl ((hH _ rfl).trans rfl) rfl rfl))) rfl ?_;refine aX (r:=⟨_,some [1],[]⟩) (bR rfl rfl rfl (by rfl) (fun H1 hH=>by exact(by exact aK rfl isAgg9 rfl ((hH _ rfl).trans rfl) rfl rfl rfl))) rfl ?_;refine aX (r:=⟨_,some [],[]⟩) (bR rfl rfl rfl (by rfl) (fun H1 hH=>by exact(by exact aQ ([e.key].map encStr) rfl bT rfl rfl rfl rfl rfl (by simp[encStr])))) rfl ?_;refine aX (r:=⟨_,some [],[]⟩) (bR rfl rfl rfl (by rfl) (fun H1 hH=>by exact aA rfl rfl B7 rfl (aGn e.key _ h4))) rfl ?_;refine Cr [] (fun _ _=>cN)<|Cr [] (fun _ _=>aG)<|Ot<|Ot<|Ot<|Ot<|Cr [] (fun _ _=>zA)<|Cr [3] (fun _ h=>fh lK h)<|Cp [3] (fun H1 hH=>by exact bD rfl sizeOf9 rfl rfl rfl ((hH _ rfl).trans rfl) rfl rfl (aOI rfl) rfl rfl)<|Cr [3] (fun _ h=>fh mK h)<|Cp [3] (fun H1 hH=>by exact bD rfl sizeOf9 rfl rfl rfl ((hH _ rfl).trans rfl) rfl rfl (aOI rfl) rfl rfl)<|Cr [] (fun _ _=>aM)<|bK<|Kr ?_;exact⟨rfl,⟨_,rfl,by rfl⟩,rfl,rfl,rfl⟩
   refine aP follows<|Cr [1] (fun _ h=>fh lK h)<|Cr [1] (fun _ h=>lh isAgg9 h)<|Cr [1] (fun _ h=>fh mK h)<|Cr [1] (fun _ h=>lh isAgg9 h)<|Cr [] (fun _ _=>aG)<|Cr [] (fun _ _=>aG) ?_;refine aX (r:=⟨_,some [1],[]⟩) (bR rfl rfl rfl (by rfl) (fun H1 hH=>by exact(by exact aZ rfl lK rfl ((hH _ rfl).trans rfl) rfl rfl))) rfl ?_;refine aX (r:=⟨_,some [1],[]⟩) (bR rfl rfl rfl (by rfl) (fun H1 hH=>by exact(by exact aK rfl isAgg9 rfl ((hH _ rfl).trans rfl) rfl rfl rfl))) rfl ?_;refine aX (r:=⟨_,some [],[]⟩) (bR rfl rfl rfl (by rfl) (fun H1 hH=>by exact(by exact aQ ([e.key].map encStr) rfl bT rfl rfl rfl rfl rfl (by simp[encStr])))) rfl ?_;refine aX (r:=⟨_,some [],[]⟩) (bR rfl rfl rfl (by rfl) (fun H1 hH=>by exact aA rfl rfl B7 rfl (aGn e.key _ h4))) rfl ?_;refine Cr [] (fun _ _=>cN)<|Cr [] (fun _ _=>aG) ?_;refine aX (r:=⟨_,some [1],[]⟩) (bR rfl rfl rfl (by assumption) (fun H1 hH=>by exact(by exact aZ rfl mK rfl ((hH _ rfl).trans rfl) rfl rfl))) rfl ?_;refine aX (r:=⟨_,some [1],[]⟩) (bR rfl rfl rfl (by assumption) (fun H1 hH=>by exact(by exact aK rfl isAgg9 rfl ((hH _ rfl).trans rfl) rfl rfl rfl))) rfl ?_;refine aX (r:=⟨_,some [],[]⟩) (bR rfl rfl rfl (by assumption) (fun H1 hH=>by exact HO rfl underlying9 rfl)) rfl ?_;refine aX (r:=⟨_,some [],[]⟩) (bR rfl rfl rfl (by assumption) (fun H1 hH=>by exact xU rfl rfl rfl)) rfl ?_;refine Cr [] (fun _ _=>NE)<|Cr [3] (fun _ h=>fh lK h)<|Cp [3] (fun H1 hH=>by exact bD rfl sizeOf9 rfl rfl rfl ((hH _ rfl).trans rfl) rfl rfl (aOI rfl) rfl rfl)<|Cr [3] (fun _ h=>fh mK h)<|Cp [3] (fun H1 hH=>by exact bD rfl sizeOf9 rfl rfl rfl ((hH _ rfl).trans rfl) rfl rfl (aOI rfl) rfl rfl)<|Cr [] (fun _ _=>aM)<|bK<|Kr ?_;exact⟨rfl,⟨_,rfl,by rfl⟩,rfl,rfl,rfl⟩
  refine Sq ?_;refine bF (t:=2) (n:=8) (X:=(bO e.id&&bO e.key&&decide ((e.val.size:Int)<=200))&&jO ⟨e.op,e.id,sNil,sNil,0,0,e.key,e.val,[],zObj⟩ e) ?_ ?_
  ·all_goals refine Dd aG ?_
   all_goals refine Dm ?_
   all_goals refine Sp 127 (fun h127=>?_) fun h127=>?_
   all_goals try contradiction
   all_goals first|refine Fo<|Fo<|Fo ?_|refine On (by exact aN rfl bW bA rfl rfl rfl rfl (by simp only[Zl,bJ,bN,encStr,bC,zObj];rfl) rfl)<|On (by exact aN rfl bW bA rfl rfl rfl rfl (by simp only[Zl,bJ,bN,encStr,bC,zObj];rfl) rfl)<|On (by exact aA rfl rfl vR rfl (xN ⟨e.op,e.id,sNil,sNil,0,0,e.key,e.val,[],zObj⟩ e _ (by(show 0<_;omega)) O3)) ?_
   all_goals refine Dd cN<|Da ?_
   all_goals(exact⟨⟨_,rfl,by(rw[h127];rfl)⟩,rfl,rfl,rfl⟩)
  refine aE<|Rt ?_;exact⟨by rw[hv],rfl⟩
 have ho3:¬ e.op=3:=aNs hc3;refine Sr<|Dd dK<|Da ?_;refine Cn ?_ ?_<;>intro hc4
 ·have ho:e.op=4:=aNr hc4;have hx:IA e=⟨e.op,e.id,sNil,sNil,0,0,sNil,sNil,e.refs,zObj⟩:=by rw[IA,aNt ho1,aNt ho2,aNt ho3,aNu ho]
  have hk:wF e=(bO e.id&&(decide ((0:Int)<(e.refs.length:Int))&&decide ((e.refs.length:Int)<=2000)&&e.refs.all bO)):=by rw[wF,aNt ho1,aNt ho2,aNt ho3,aNu ho]
  have hb:(bO e.id&&decide ((0:Int)<((e.refs.map encStr).length:Int))&&decide (((e.refs.map encStr).length:Int)<=2000)&&e.refs.all bO)=(bO e.id&&(decide ((0:Int)<(e.refs.length:Int))&&decide ((e.refs.length:Int)<=2000)&&e.refs.all bO)):=by rw[hrl];simp only[Bool.and_assoc]
  have hv:fX e=((bO e.id&&decide ((0:Int)<((e.refs.map encStr).length:Int))&&decide (((e.refs.map encStr).length:Int)<=2000)&&e.refs.all bO)&&jO ⟨e.op,e.id,sNil,sNil,0,0,sNil,sNil,e.refs,zObj⟩ e):=by rw[fX,hx,hk,hb,ho];rfl
  apply tV (t:=4) (n:=22) (X:=bO e.id&&decide ((0:Int)<((e.refs.map encStr).length:Int))&&decide (((e.refs.map encStr).length:Int)<=2000)&&e.refs.all bO)
  ·cases hg77:(bO e.id:Bool)
   ·refine aP follows<|Cr [1] (fun _ h=>fh fC h)<|Cr [1] (fun _ h=>lh aJ h)<|Cr [] (fun _ _=>aG)<|Cr [] (fun _ _=>aG)<|Ot<|Ot<|Ot<|Ot<|Cr [] (fun _ _=>cN)<|Cr [] (fun _ _=>aG)<|Ot<|Ot<|Ot<|Ot<|Cr [] (fun _ _=>cN)<|Cr [] (fun _ _=>aG)<|Ot<|Ot<|Ot<|Cr [] (fun _ _=>cN)<|Cr [3] (fun _ h=>fh fC h)<|Cp [3] (fun H1 hH=>by exact bD rfl sizeOf22 rfl rfl rfl ((hH _ rfl).trans rfl) rfl rfl (aOI rfl) rfl rfl)<|Cr [] (fun _ _=>aM)<|bK<|Kr ?_;exact⟨rfl,⟨_,rfl,by rfl⟩,rfl,rfl,rfl⟩
   cases hg83:(decide ((0:Int)<((e.refs.map encStr).length:Int)):Bool)
   ·refine aP follows<|Cr [1] (fun _ h=>fh fC h)<|Cr [1] (fun _ h=>lh aJ h)<|Cr [] (fun _ _=>aG)<|Cr [] (fun _ _=>aG) ?_;refine aX (r:=⟨_,some [1],[]⟩) (bR rfl rfl rfl (by rfl) (fun H1 hH=>by exact(by exact aZ rfl fC rfl ((hH _ rfl).trans rfl) rfl rfl))) rfl ?_;refine aX (r:=⟨_,some [1],[]⟩) (bR rfl rfl rfl (by rfl) (fun H1 hH=>by exact(by exact aK rfl aJ rfl ((hH _ rfl).trans rfl) rfl rfl rfl))) rfl ?_;refine aX (r:=⟨_,some [],[]⟩) (bR rfl rfl rfl (by rfl) (fun H1 hH=>by exact(by exact kJ rfl aC rfl))) rfl ?_;refine aX (r:=⟨_,some [],[]⟩) (bR rfl rfl rfl (by rfl) (fun H1 hH=>by exact EB rfl rfl rfl)) rfl ?_;refine Cr [] (fun _ _=>cN)<|Cr [] (fun _ _=>aG)<|Ot<|Ot<|Ot<|Ot<|Cr [] (fun _ _=>zA)<|Cr [] (fun _ _=>aG)<|Ot<|Ot<|Ot<|Cr [] (fun _ _=>cN)<|Cr [3] (fun _ h=>fh fC h)<|Cp [3] (fun H1 hH=>by exact bD rfl sizeOf22 rfl rfl rfl ((hH _ rfl).trans rfl) rfl rfl (aOI rfl) rfl rfl)<|Cr [] (fun _ _=>aM)<|bK<|Kr ?_;exact⟨rfl,⟨_,rfl,by rfl⟩,rfl,rfl,rfl⟩
   cases hg89:(decide (((e.refs.map encStr).length:Int)<=2000):Bool)
   ·refine aP follows<|Cr [1] (fun _ h=>fh fC h)<|Cr [1] (fun _ h=>lh aJ h)<|Cr [] (fun _ _=>aG)<|Cr [] (fun _ _=>aG) ?_;refine aX (r:=⟨_,some [1],[]⟩) (bR rfl rfl rfl (by rfl) (fun H1 hH=>by exact(by exact aZ rfl fC rfl ((hH _ rfl).trans rfl) rfl rfl))) rfl ?_;refine aX (r:=⟨_,some [1],[]⟩) (bR rfl rfl rfl (by rfl) (fun H1 hH=>by exact(by exact aK rfl aJ rfl ((hH _ rfl).trans rfl) rfl rfl rfl))) rfl ?_;refine aX (r:=⟨_,some [],[]⟩) (bR rfl rfl rfl (by rfl) (fun H1 hH=>by exact(by exact kJ rfl aC rfl))) rfl ?_;refine aX (r:=⟨_,some [],[]⟩) (bR rfl rfl rfl (by rfl) (fun H1 hH=>by exact EB rfl rfl rfl)) rfl ?_;refine Cr [] (fun _ _=>cN)<|Cr [] (fun _ _=>aG) ?_;refine aX (r:=⟨_,some [1],[]⟩) (bR rfl rfl rfl (by assumption) (fun H1 hH=>by exact(by exact aZ rfl fC rfl ((hH _ rfl).trans rfl) rfl rfl))) rfl ?_;refine aX (r:=⟨_,some [1],[]⟩) (bR rfl rfl rfl (by assumption) (fun H1 hH=>by exact(by exact aK rfl aJ rfl ((hH _ rfl).trans rfl) rfl rfl rfl))) rfl ?_;refine aX (r:=⟨_,some [],[]⟩) (bR rfl rfl rfl (by assumption) (fun H1 hH=>by exact(by exact kJ rfl aC rfl))) rfl ?_;refine aX (r:=⟨_,some [],[]⟩) (bR rfl rfl rfl (by assumption) (fun H1 hH=>by exact xU rfl rfl rfl)) rfl ?_;refine Cr [] (fun _ _=>NE)<|Cr [] (fun _ _=>aG)<|Ot<|Ot<|Ot<|Cr [] (fun _ _=>zA)<|Cr [3] (fun _ h=>fh fC h)<|Cp [3] (fun H1 hH=>by exact bD rfl sizeOf22 rfl rfl rfl ((hH _ rfl).trans rfl) rfl rfl (aOI rfl) rfl rfl)<|Cr [] (fun _ _=>aM)<|bK<|Kr ?_;exact⟨rfl,⟨_,rfl,by rfl⟩,rfl,rfl,rfl⟩
   refine aP follows<|Cr [1] (fun _ h=>fh fC h)<|Cr [1] (fun _ h=>lh aJ h)<|Cr [] (fun _ _=>aG)<|Cr [] (fun _ _=>aG) ?_;refine aX (r:=⟨_,some [1],[]⟩) (bR rfl rfl rfl (by rfl) (fun H1 hH=>by exact(by exact aZ rfl fC rfl ((hH _ rfl).trans rfl) rfl rfl))) rfl ?_;refine aX (r:=⟨_,some [1],[]⟩) (bR rfl rfl rfl (by rfl) (fun H1 hH=>by exact(by exact aK rfl aJ rfl ((hH _ rfl).trans rfl) rfl rfl rfl))) rfl ?_;refine aX (r:=⟨_,some [],[]⟩) (bR rfl rfl rfl (by rfl) (fun H1 hH=>by exact(by exact kJ rfl aC rfl))) rfl ?_;refine aX (r:=⟨_,some [],[]⟩) (bR rfl rfl rfl (by rfl) (fun H1 hH=>by exact EB rfl rfl rfl)) rfl ?_;refine Cr [] (fun _ _=>cN)<|Cr [] (fun _ _=>aG) ?_;refine aX (r:=⟨_,some [1],[]⟩) (bR rfl rfl rfl (by assumption) (fun H1 hH=>by exact(by exact aZ rfl fC rfl ((hH _ rfl).trans rfl) rfl rfl))) rfl ?_;refine aX (r:=⟨_,some [1],[]⟩) (bR rfl rfl rfl (by assumption) (fun H1 hH=>by exact(by exact aK rfl aJ rfl ((hH _ rfl).trans rfl) rfl rfl rfl))) rfl ?_;refine aX (r:=⟨_,some [],[]⟩) (bR rfl rfl rfl (by assumption) (fun H1 hH=>by exact(by exact kJ rfl aC rfl))) rfl ?_;refine aX (r:=⟨_,some [],[]⟩) (bR rfl rfl rfl (by assumption) (fun H1 hH=>by exact xU rfl rfl rfl)) rfl ?_;refine Cr [] (fun _ _=>NE)<|Cr [] (fun _ _=>aG) ?_;refine aX (r:=⟨_,some [1],[]⟩) (bR rfl rfl rfl (by assumption) (fun H1 hH=>by exact(by exact aZ rfl fC rfl ((hH _ rfl).trans rfl) rfl rfl))) rfl ?_;refine aX (r:=⟨_,some [1],[]⟩) (bR rfl rfl rfl (by assumption) (fun H1 hH=>by exact(by exact aK rfl aJ rfl ((hH _ rfl).trans rfl) rfl rfl rfl))) rfl ?_;refine aX (r:=⟨_,some [],[]⟩) (bR rfl rfl rfl (by assumption) (fun H1 hH=>by exact aA rfl rfl B7 rfl (RW e.refs _ h5 h6))) rfl ?_;refine Cr [] (fun _ _=>NE)<|Cr [3] (fun _ h=>fh fC h)<|Cp [3] (fun H1 hH=>by exact bD rfl sizeOf22 rfl rfl rfl ((hH _ rfl).trans rfl) rfl rfl (aOI rfl) rfl rfl)<|Cr [] (fun _ _=>aM)<|bK<|Kr ?_;exact⟨rfl,⟨_,rfl,by rfl⟩,rfl,rfl,rfl⟩
  refine Sq ?_;refine bF (t:=2) (n:=8) (X:=(bO e.id&&decide ((0:Int)<((e.refs.map encStr).length:Int))&&decide (((e.refs.map encStr).length:Int)<=2000)&&e.refs.all bO)&&jO ⟨e.op,e.id,sNil,sNil,0,0,sNil,sNil,e.refs,zObj⟩ e) ?_ ?_
  ·all_goals refine Dd aG ?_
   all_goals refine Dm ?_
   all_goals refine Sp 127 (fun h127=>?_) fun h127=>?_
   all_goals try contradiction
   all_goals first|refine Fo<|Fo<|Fo ?_|refine On (by exact aN rfl bW bA rfl rfl rfl rfl (by simp only[Zl,bJ,bN,encStr,bC,zObj];rfl) rfl)<|On (by exact aN rfl bW bA rfl rfl rfl rfl (by simp only[Zl,bJ,bN,encStr,bC,zObj];rfl) rfl)<|On (by exact aA rfl rfl vR rfl (xN ⟨e.op,e.id,sNil,sNil,0,0,sNil,sNil,e.refs,zObj⟩ e _ (by exact h5) O3)) ?_
   all_goals refine Dd cN<|Da ?_
   all_goals(exact⟨⟨_,rfl,by(rw[h127];rfl)⟩,rfl,rfl,rfl⟩)
  refine aE<|Rt ?_;exact⟨by rw[hv],rfl⟩
 have ho4:¬ e.op=4:=aNs hc4;refine Sr<|Dd dK<|Da ?_;refine Cn ?_ ?_<;>intro hc5
 ·have ho:e.op=5:=aNr hc5;have hx:IA e=⟨e.op,e.id,sNil,sNil,0,0,sNil,sNil,[],zObj⟩:=by rw[IA,aNt ho1,aNt ho2,aNt ho3,aNt ho4,aNu ho]
  have hk:wF e=(bO e.id):=by rw[wF,aNt ho1,aNt ho2,aNt ho3,aNt ho4,aNu ho];simp
  have hv:fX e=((bO e.id)&&jO ⟨e.op,e.id,sNil,sNil,0,0,sNil,sNil,[],zObj⟩ e):=by rw[fX,hx,hk,ho];rfl
  refine aF<|Sq ?_;refine bF (t:=2) (n:=8) (X:=(bO e.id)&&jO ⟨e.op,e.id,sNil,sNil,0,0,sNil,sNil,[],zObj⟩ e) ?_ ?_
  ·all_goals refine Dd aG ?_
   all_goals refine Dm ?_
   all_goals refine Sp 127 (fun h127=>?_) fun h127=>?_
   all_goals try contradiction
   all_goals first|refine Fo<|Fo<|Fo ?_|refine On (by exact aN rfl bW bA rfl rfl rfl rfl (by simp only[Zl,bJ,bN,encStr,bC,zObj];rfl) rfl)<|On (by exact aN rfl bW bA rfl rfl rfl rfl (by simp only[Zl,bJ,bN,encStr,bC,zObj];rfl) rfl)<|On (by exact aA rfl rfl vR rfl (xN ⟨e.op,e.id,sNil,sNil,0,0,sNil,sNil,[],zObj⟩ e _ (by(show 0<_;omega)) O3)) ?_
   all_goals refine Dd cN<|Da ?_
   all_goals(exact⟨⟨_,rfl,by(rw[h127];rfl)⟩,rfl,rfl,rfl⟩)
  refine aE<|Rt ?_;exact⟨by rw[hv],rfl⟩
 have ho5:¬ e.op=5:=aNs hc5;refine Sr<|Dd dK<|Da ?_;refine Cn ?_ ?_<;>intro hc6
 ·have ho:e.op=6:=aNr hc6;have hx:IA e=⟨e.op,e.id,e.other,e.node,0,0,sNil,sNil,[],zObj⟩:=by rw[IA,aNt ho1,aNt ho2,aNt ho3,aNt ho4,aNt ho5,aNu ho]
  have hk:wF e=(bO e.id&&(bO e.node&&bO e.other)):=by rw[wF,aNt ho1,aNt ho2,aNt ho3,aNt ho4,aNt ho5,aNu ho]
  have hb:(bO e.id&&(bO e.node&&bO e.other))=(bO e.id&&(bO e.node&&bO e.other)):=by rfl
  have hv:fX e=((bO e.id&&(bO e.node&&bO e.other))&&jO ⟨e.op,e.id,e.other,e.node,0,0,sNil,sNil,[],zObj⟩ e):=by rw[fX,hx,hk,hb,ho];rfl
  apply tV (t:=4) (n:=16) (X:=bO e.id&&(bO e.node&&bO e.other))
  ·cases hg104:(bO e.id:Bool)
   ·refine aP follows<|Cr [1] (fun _ h=>fh oX h)<|Cr [1] (fun _ h=>lh isAgg9 h)<|Cr [1] (fun _ h=>fh iW h)<|Cr [1] (fun _ h=>lh isAgg9 h)<|Cr [] (fun _ _=>aG)<|Cr [] (fun _ _=>aG)<|Ot<|Ot<|Ot<|Ot<|Ot<|Ot<|Cr [] (fun _ _=>cN)<|Cr [3] (fun _ h=>fh oX h)<|Cp [3] (fun H1 hH=>by exact bD rfl sizeOf9 rfl rfl rfl ((hH _ rfl).trans rfl) rfl rfl (aOI rfl) rfl rfl)<|Cr [3] (fun _ h=>fh iW h)<|Cp [3] (fun H1 hH=>by exact bD rfl sizeOf9 rfl rfl rfl ((hH _ rfl).trans rfl) rfl rfl (aOI rfl) rfl rfl)<|Cr [] (fun _ _=>aM)<|bK<|Kr ?_;exact⟨rfl,⟨_,rfl,by rfl⟩,rfl,rfl,rfl⟩
   refine aP follows<|Cr [1] (fun _ h=>fh oX h)<|Cr [1] (fun _ h=>lh isAgg9 h)<|Cr [1] (fun _ h=>fh iW h)<|Cr [1] (fun _ h=>lh isAgg9 h)<|Cr [] (fun _ _=>aG)<|Cr [] (fun _ _=>aG) ?_;refine aX (r:=⟨_,some [1],[]⟩) (bR rfl rfl rfl (by rfl) (fun H1 hH=>by exact(by exact aZ rfl oX rfl ((hH _ rfl).trans rfl) rfl rfl))) rfl ?_;refine aX (r:=⟨_,some [1],[]⟩) (bR rfl rfl rfl (by rfl) (fun H1 hH=>by exact(by exact aK rfl isAgg9 rfl ((hH _ rfl).trans rfl) rfl rfl rfl))) rfl ?_;refine aX (r:=⟨_,some [1],[]⟩) (bR rfl rfl rfl (by rfl) (fun H1 hH=>by exact(by exact aZ rfl iW rfl ((hH _ rfl).trans rfl) rfl rfl))) rfl ?_;refine aX (r:=⟨_,some [1],[]⟩) (bR rfl rfl rfl (by rfl) (fun H1 hH=>by exact(by exact aK rfl isAgg9 rfl ((hH _ rfl).trans rfl) rfl rfl rfl))) rfl ?_;refine aX (r:=⟨_,some [],[]⟩) (bR rfl rfl rfl (by rfl) (fun H1 hH=>by exact(by exact aQ ([e.node,e.other].map encStr) rfl bT rfl rfl rfl rfl rfl (by simp[encStr])))) rfl ?_;refine aX (r:=⟨_,some [],[]⟩) (bR rfl rfl rfl (by rfl) (fun H1 hH=>by exact aA rfl rfl B7 rfl (aMu e.node e.other _ h3 h2))) rfl ?_;refine Cr [] (fun _ _=>cN)<|Cr [3] (fun _ h=>fh oX h)<|Cp [3] (fun H1 hH=>by exact bD rfl sizeOf9 rfl rfl rfl ((hH _ rfl).trans rfl) rfl rfl (aOI rfl) rfl rfl)<|Cr [3] (fun _ h=>fh iW h)<|Cp [3] (fun H1 hH=>by exact bD rfl sizeOf9 rfl rfl rfl ((hH _ rfl).trans rfl) rfl rfl (aOI rfl) rfl rfl)<|Cr [] (fun _ _=>aM)<|bK<|Kr ?_;exact⟨rfl,⟨_,rfl,by rfl⟩,rfl,rfl,rfl⟩
  refine Sq ?_;refine bF (t:=2) (n:=8) (X:=(bO e.id&&(bO e.node&&bO e.other))&&jO ⟨e.op,e.id,e.other,e.node,0,0,sNil,sNil,[],zObj⟩ e) ?_ ?_
  ·all_goals refine Dd aG ?_
   all_goals refine Dm ?_
   all_goals refine Sp 127 (fun h127=>?_) fun h127=>?_
   all_goals try contradiction
   all_goals first|refine Fo<|Fo<|Fo ?_|refine On (by exact aN rfl bW bA rfl rfl rfl rfl (by simp only[Zl,bJ,bN,encStr,bC,zObj];rfl) rfl)<|On (by exact aN rfl bW bA rfl rfl rfl rfl (by simp only[Zl,bJ,bN,encStr,bC,zObj];rfl) rfl)<|On (by exact aA rfl rfl vR rfl (xN ⟨e.op,e.id,e.other,e.node,0,0,sNil,sNil,[],zObj⟩ e _ (by(show 0<_;omega)) O3)) ?_
   all_goals refine Dd cN<|Da ?_
   all_goals(exact⟨⟨_,rfl,by(rw[h127];rfl)⟩,rfl,rfl,rfl⟩)
  refine aE<|Rt ?_;exact⟨by rw[hv],rfl⟩
 have ho6:¬ e.op=6:=aNs hc6;refine Sr<|Dd dK<|Da ?_;refine Cn ?_ ?_<;>intro hc7
 ·have ho:e.op=7:=aNr hc7;have hx:IA e=⟨e.op,e.id,e.other,sNil,0,0,sNil,sNil,[],zObj⟩:=by rw[IA,aNt ho1,aNt ho2,aNt ho3,aNt ho4,aNt ho5,aNt ho6]
  have hk:wF e=(bO e.id&&bO e.other):=by rw[wF,aNt ho1,aNt ho2,aNt ho3,aNt ho4,aNt ho5,aNt ho6]
  have hb:(bO e.id&&bO e.other)=(bO e.id&&bO e.other):=by rfl
  have hv:fX e=((bO e.id&&bO e.other)&&jO ⟨e.op,e.id,e.other,sNil,0,0,sNil,sNil,[],zObj⟩ e):=by rw[fX,hx,hk,hb,ho];rfl
  apply tV (t:=4) (n:=11) (X:=bO e.id&&bO e.other)
  ·cases hg119:(bO e.id:Bool)
   ·refine aP follows<|Cr [1] (fun _ h=>fh iW h)<|Cr [1] (fun _ h=>lh isAgg9 h)<|Cr [] (fun _ _=>aG)<|Cr [] (fun _ _=>aG)<|Ot<|Ot<|Ot<|Ot<|Cr [] (fun _ _=>cN)<|Cr [3] (fun _ h=>fh iW h)<|Cp [3] (fun H1 hH=>by exact bD rfl sizeOf9 rfl rfl rfl ((hH _ rfl).trans rfl) rfl rfl (aOI rfl) rfl rfl)<|Cr [] (fun _ _=>aM)<|bK<|Kr ?_;exact⟨rfl,⟨_,rfl,by rfl⟩,rfl,rfl,rfl⟩
   refine aP follows<|Cr [1] (fun _ h=>fh iW h)<|Cr [1] (fun _ h=>lh isAgg9 h)<|Cr [] (fun _ _=>aG)<|Cr [] (fun _ _=>aG) ?_;refine aX (r:=⟨_,some [1],[]⟩) (bR rfl rfl rfl (by rfl) (fun H1 hH=>by exact(by exact aZ rfl iW rfl ((hH _ rfl).trans rfl) rfl rfl))) rfl ?_;refine aX (r:=⟨_,some [1],[]⟩) (bR rfl rfl rfl (by rfl) (fun H1 hH=>by exact(by exact aK rfl isAgg9 rfl ((hH _ rfl).trans rfl) rfl rfl rfl))) rfl ?_;refine aX (r:=⟨_,some [],[]⟩) (bR rfl rfl rfl (by rfl) (fun H1 hH=>by exact(by exact aQ ([e.other].map encStr) rfl bT rfl rfl rfl rfl rfl (by simp[encStr])))) rfl ?_;refine aX (r:=⟨_,some [],[]⟩) (bR rfl rfl rfl (by rfl) (fun H1 hH=>by exact aA rfl rfl B7 rfl (aGn e.other _ h2))) rfl ?_;refine Cr [] (fun _ _=>cN)<|Cr [3] (fun _ h=>fh iW h)<|Cp [3] (fun H1 hH=>by exact bD rfl sizeOf9 rfl rfl rfl ((hH _ rfl).trans rfl) rfl rfl (aOI rfl) rfl rfl)<|Cr [] (fun _ _=>aM)<|bK<|Kr ?_;exact⟨rfl,⟨_,rfl,by rfl⟩,rfl,rfl,rfl⟩
  refine Sq ?_;refine bF (t:=2) (n:=8) (X:=(bO e.id&&bO e.other)&&jO ⟨e.op,e.id,e.other,sNil,0,0,sNil,sNil,[],zObj⟩ e) ?_ ?_
  ·all_goals refine Dd aG ?_
   all_goals refine Dm ?_
   all_goals refine Sp 127 (fun h127=>?_) fun h127=>?_
   all_goals try contradiction
   all_goals first|refine Fo<|Fo<|Fo ?_|refine On (by exact aN rfl bW bA rfl rfl rfl rfl (by simp only[Zl,bJ,bN,encStr,bC,zObj];rfl) rfl)<|On (by exact aN rfl bW bA rfl rfl rfl rfl (by simp only[Zl,bJ,bN,encStr,bC,zObj];rfl) rfl)<|On (by exact aA rfl rfl vR rfl (xN ⟨e.op,e.id,e.other,sNil,0,0,sNil,sNil,[],zObj⟩ e _ (by(show 0<_;omega)) O3)) ?_
   all_goals refine Dd cN<|Da ?_
   all_goals(exact⟨⟨_,rfl,by(rw[h127];rfl)⟩,rfl,rfl,rfl⟩)
  refine aE<|Rt ?_;exact⟨by rw[hv],rfl⟩
 have ho7:¬ e.op=7:=aNs hc7;refine Sr<|Dd aM<|Zz<|aE<|Rt ?_;refine⟨?_,rfl⟩;have:fX e=false:=by
  rw[fX,Bool.and_eq_false_iff];left;rw[Bool.and_eq_false_iff,aOD,aOD];omega
 rw[this]
theorem MH(e:GEdit)(H:aB)(he:S9 e):aH Tryz.prog 201 [av (bC e)] H (fun r H'=>r=bv (!fX e)/\H'=H):=by refine Pu ?_;exact Bd func201 rfl ntmps201<|Sr<|Dd (by exact cE (id:=1) rfl rfl rfl rfl rfl)<|Dd aM<|Zz<|Sr<|Dd (by exact aN rfl bW bA rfl rfl rfl rfl (by simp only[Zl,bJ,bN,encStr,bC,zObj];rfl) rfl)<|Dd (by exact aA rfl rfl call202 rfl (VM e _ he))<|Dd mT<|Dd aM<|Zz<|aE<|Rt<|Qq
def uW(l:List GEdit):Bool:=decide ((0:Int)<(l.length:Int))&&decide ((l.length:Int)<=200)&&!(l.any (fun e=>!fX e))
theorem N8(l:List GEdit)(H:aB)(hl:l.length<4611686018427387904)(he:∀e∈l,S9 e):aH Tryz.prog 160 [.pv (jF l)] H (fun r H'=>r=bv (uW l)/\H'=H):=by
 refine Pu ?_;have hml:(l.map bC).length=l.length:=aNv _;refine Bd func160 rfl ntmps160<|Sr<|Dd aM<|Zz<|Sq ?_;refine bF (t:=2) (n:=16) (X:=decide ((0:Int)<((l.map bC).length:Int))&&decide (((l.map bC).length:Int)<=200)&&!(l.any (fun e=>!fX e))) ?_ ?_
 ·all_goals refine Dd aG ?_
  all_goals refine Dd (fZ dL)<|Dd mN<|Dm ?_
  all_goals refine Sp 6 (fun h6=>?_) fun h6=>?_
  all_goals try contradiction
  all_goals first|refine Fo<|Fo<|Fo ?_|refine On aG<|On (fZ dL)<|On TA ?_
  all_goals refine Dd cN<|Dm ?_
  all_goals refine Sp 11 (fun h11=>?_) fun h11=>?_
  all_goals try contradiction
  all_goals first|refine Fo<|Fo<|Fo ?_|refine On aG<|On (by exact aA rfl rfl call200 rfl (DA (.pv (.fn 201)) l (fun e=>!fX e) _ hl (fun e h=>cK.fn call201 (MH e _ (he e h)))))<|On mT ?_
  all_goals refine Dd cN<|Da ?_
  all_goals(exact⟨⟨_,rfl,by first|(simp_all;done)|(simp_all;omega)⟩,rfl,rfl,rfl⟩)
 refine aE<|Rt ?_;exact⟨by rw[uW,hml],rfl⟩
def nm(i:Nat):ByteArray:=⟨#[110,49+UInt8.ofNat i]⟩
theorem aJY{B:Nat}{e:GEdit}(hB:B<4611686018427387904)(h:QY B e):S9 e :=⟨⟨by have:=h.2.1;omega,by have:=h.2.2.1;omega,by have:=h.2.2.2.1;omega,by have:=h.2.2.2.2.2.2.1;omega⟩,
  ⟨by have:=h.2.2.2.2.2.2.2.2.1.1;omega,fun s hs=>by have:=h.2.2.2.2.2.2.2.2.1.2 s hs;omega⟩,aJX hB h.2.2.2.2.2.2.2.2.2⟩
end Go.Proofs.YtmdicgjnmfolfaaGreatDoor
namespace Go.Abs
open Go.Proofs
variable{P:Program}{ρ:Shelf.Ren}
theorem Rel.grown{I:Nat->Prop}{ι:dX}{H:aB}{w:World}(os:Array Obj)(hr:Rel I ι H w):Rel I ι H (Sort.grow w os)/\Step I ι H w I ι H (Sort.grow w os):=by
 have hk:∀b,b<w.heap.size->(Sort.grow w os).heap[b]?=w.heap[b]?:=fun b hb=>by
  show (w.heap++os)[b]?=_;rw[Array.getElem?_append_left hb]
 have hst:Step I ι H w I ι H (Sort.grow w os):=by
  refine⟨rfl,rfl,rfl,?_,fun a ha _=>?_,fun _ h=>h,fun _ h=>.inl h,fun _ h=>.inl h,fun b hb _=>hk b hb,fun _ o h=>⟨o,h,aOB _,fun _=>⟨rfl,rfl,fun _=>aOB _⟩⟩⟩
  ·show w.heap.size<=(w.heap++os).size;simp
  unfold World.frozen?;rw[hk _ ha]
 refine⟨⟨fun b hb=>?_,fun j o hj=>?_,hr.inj,hst.glob hr⟩,hst⟩
 ·have:=hr.imm b hb;show b<(w.heap++os).size;simp;omega
 exact(hr.obj j o hj).keep rfl (fun b c _ hb=>⟨hk b hb,fun h=>h⟩) (fun r _ a _ v hv=>hv.mono hr hst)
def bI(n:Int):ByteArray:=⟨(Lib.itoa n).toArray⟩
theorem itoa_c(L:LaysM.n171 P ρ){G:Nat}(hg:(G,GV.ints .u64 Lib.pow10Tab)∈R8)(hn:P.globalNamed "internal/strconv.uint64pow10" = some G)(n:Int)(h0 : -9223372036854775808<=n)(h1:n<=9223372036854775807)(H:aB):
  aH P (ρ.f 171) [.pv (.int .i64 n)] H (fun r H'=>r=.pv (.str (bI n))/\H'=H):=by
 intro I ι w vs hr hvl hv;obtain ⟨v,rfl⟩:∃v,vs=#[v]:=by
  match vs,hvl with
  |⟨[v]⟩,_=>exact⟨v,rfl⟩
 have e1:=(hv 0 v _ rfl rfl).int_inv;subst e1;have htab:Lib.TabIs P w "internal/strconv.uint64pow10" .u64 Lib.pow10Tab:=by
  obtain ⟨_,cs,t,f,h2,h3⟩:=hr.glob _ hg;have h3':cs=(Lib.pow10Tab.map fun z=>Value.int .u64 z).toArray:=h3;subst h3';simp only[Lib.TabIs,World.var?,hn,Option.bind_some,h2]
 refine(Any.strconv_Itoa L n h0 h1 w htab).mono ?_;rintro e w' ⟨rfl,k,os,rfl⟩;obtain ⟨k1,k2⟩:=Rel.drawn (w':=w.drewN k) hr rfl rfl rfl rfl;obtain ⟨m1,m2⟩:=Rel.grown os k1;exact⟨_,_,I,ι,_,rfl,⟨rfl,rfl⟩,.pv (.str _),m1,k2.trans m2⟩
theorem mul64_c(L:Lays.n264 P ρ)(x y:Nat)(hx:x<18446744073709551616)(hy:y<18446744073709551616)(H:aB):
  aH P (ρ.f 264) [.pv (.int .u64 (x:Int)),.pv (.int .u64 (y:Int))] H (fun r H'=>r=.tup [.pv (.int .u64 ((x*y / 18446744073709551616:Nat):Int)),.pv (.int .u64 ((x*y % 18446744073709551616:Nat):Int))]/\H'=H):=by
 intro I ι w vs hr hvl hv;obtain ⟨v,u,rfl⟩:∃v u,vs=#[v,u]:=by
  match vs,hvl with
  |⟨[v,u]⟩,_=>exact⟨v,u,rfl⟩
 have e1:=(hv 0 v _ rfl rfl).int_inv;have e2:=(hv 1 u _ rfl rfl).int_inv;subst e1 e2;refine(Any.bits_Mul64 L x y hx hy w).mono ?_;rintro e w' ⟨rfl,rfl⟩;refine⟨_,_,I,ι,_,rfl,⟨rfl,rfl⟩,.tup rfl fun i v a h1 h2=>?_,hr,Step.refl _ _ _ _⟩
 match i,h1,h2 with
 |0,h1,h2=>cases h1;cases h2;exact .pv (.int _ _)
 |1,h1,h2=>cases h1;cases h2;exact .pv (.int _ _)
 |i+2,h1,h2=>simp at h1
end Go.Abs
section
namespace Go.Proofs
open Go.RowKit Go.Sort Go.Shelf
def aNl:Go.Shelf.Ren:=⟨fun|171=>108|243=>146|246=>181|283=>215|284=>216|285=>217|286=>218|129=>250|317=>249|318=>251|319=>252|320=>253|337=>271|338=>272|n=>n,fun|3=>3|9=>9|2=>2|4=>4|171=>230|0=>0|53=>122|37=>124|5=>5|173=>233|212=>257|51=>258|20=>20|213=>259|46=>125|232=>282|233=>283|n=>n,fun|17=>3|18=>6|19=>7|n=>n⟩
theorem aNq:Go.Proofs.LaysM.n171 Tryz.prog aNl:={
  mixed:=by kernel_rfl
  f129:=Tryz.func250.trans (congrArg some (by kernel_rfl))
  f171:=Tryz.func108.trans (congrArg some (by kernel_rfl))
  f243:=Tryz.func146.trans (congrArg some (by kernel_rfl))
  f246:=Tryz.func181.trans (congrArg some (by kernel_rfl))
  f283:=Tryz.func215.trans (congrArg some (by kernel_rfl))
  f284:=Tryz.func216.trans (congrArg some (by kernel_rfl))
  f285:=Tryz.func217.trans (congrArg some (by kernel_rfl))
  f286:=Tryz.func218.trans (congrArg some (by kernel_rfl))
  f317:=Tryz.func249.trans (congrArg some (by kernel_rfl))
  f318:=Tryz.func251.trans (congrArg some (by kernel_rfl))
  f319:=Tryz.func252.trans (congrArg some (by kernel_rfl))
  f320:=Tryz.func253.trans (congrArg some (by kernel_rfl))
  f337:=Tryz.func271.trans (congrArg some (by kernel_rfl))
  f338:=Tryz.func272.trans (congrArg some (by kernel_rfl))
  t0:=aFV
  a0:=aNc
  z0:=aNN
  v0:=aHu
  t2:=Tryz.underlying2
  a2:=Tryz.isAgg2
  z2:=Tryz.sizeOf2
  v2:=Tryz.zeroValue2
  t3:=Tryz.underlying3
  a3:=Tryz.isAgg3
  z3:=Tryz.sizeOf3
  v3:=sP
  t4:=dV
  a4:=uC
  z4:=Tryz.sizeOf4
  v4:=BB
  t5:=dU
  a5:=zO
  z5:=bV
  v5:=BA
  t9:=Tryz.underlying9
  a9:=Tryz.isAgg9
  z9:=Tryz.sizeOf9
  v9:=sO
  t20:=FS
  a20:=qW
  z20:=aMB
  v20:=aFU
  t37:=cJ
  a37:=cS
  z37:=mX
  v37:=Tryz.zeroValue124
  t46:=DL
  a46:=WV
  z46:=SZ
  v46:=FP
  t51:=Tryz.underlying258
  a51:=Tryz.isAgg258
  z51:=Tryz.sizeOf258
  v51:=Tryz.zeroValue258
  t53:=iL
  a53:=HD
  z53:=DN
  v53:=FQ
  t171:=Tryz.underlying230
  a171:=Tryz.isAgg230
  z171:=Tryz.sizeOf230
  v171:=Tryz.zeroValue230
  t173:=Tryz.underlying233
  a173:=Tryz.isAgg233
  z173:=Tryz.sizeOf233
  v173:=Tryz.zeroValue233
  t212:=Tryz.underlying257
  a212:=Tryz.isAgg257
  z212:=Tryz.sizeOf257
  v212:=Tryz.zeroValue257
  t213:=Tryz.underlying259
  a213:=Tryz.isAgg259
  z213:=Tryz.sizeOf259
  t232:=Tryz.underlying282
  a232:=Tryz.isAgg282
  z232:=Tryz.sizeOf282
  v232:=Tryz.zeroValue282
  t233:=Tryz.underlying283
  a233:=Tryz.isAgg283
  z233:=Tryz.sizeOf283
  v233:=Tryz.zeroValue283
  g17:=by kernel_rfl
  g18:=by kernel_rfl
  g19:=by kernel_rfl
  i0:=by kernel_rfl
  i2:=by kernel_rfl
  i3:=by kernel_rfl
  i4:=by kernel_rfl
  i5:=by kernel_rfl
  i9:=by kernel_rfl
  i20:=by kernel_rfl
  i37:=by kernel_rfl
  i46:=by kernel_rfl
  i51:=by kernel_rfl
  i53:=by kernel_rfl
  i171:=by kernel_rfl
  i173:=by kernel_rfl
  i212:=by kernel_rfl
  i232:=by kernel_rfl
  i233:=by kernel_rfl
  m17:=by kernel_rfl
  m18:=by kernel_rfl
  m19:=by kernel_rfl}
end Go.Proofs
namespace Go.Proofs.YtmdicgjnmfolfaaGreatDoor
open Go.Proofs.Tryz
open Go.Abs
theorem rX(n:Int)(h0 : -9223372036854775808<=n)(h1:n<=9223372036854775807)(H:aB):aH Tryz.prog 108 [iv n] H (fun r H'=>r=sv (bI n)/\H'=H) :=Go.Abs.itoa_c aNq (G:=3) (by unfold R8;exact .head _) (by kernel_rfl) n h0 h1 H
end Go.Proofs.YtmdicgjnmfolfaaGreatDoor
end
namespace Go.Abs
variable{d d2 id g n:Nat}{T e S:TypeId}
section
section
variable{P:Program}{G0:aB}{N:Nat}{E:bS}{H:aB}{ops:Array Oper}{K:bS->aB->Prop}{o:Oper}{rest:List Oper}
def ALx(P:Program)(G0:aB)(N:Nat)(ops:Array Oper)(K:bS->aB->Prop)(l:List Oper)(E:bS)(H:aB)(d:Nat)(F:dX->Value->Prop):Prop :=∀G:Entry,G.H=G0->∀(a:Act) (w:World) (I:Nat->Prop) (ι:dX),pF G.ds G.w w a.defers->a.tmps.size=N->Rel I ι H w->Step G.I G.ι G.H G.w I ι H w->iB w I ι H E a->(∃c,a.tmps[d]?=some c/\F ι c) ->
  ∀ro,(ro=none\/l.all Oper.noDefer=true)->∀Q:Exit->Act->World->Prop,(∀E H a w,K E H->St G N E H a w->Q .normal a w)->wpListIn (RF ro) 0 P ops Q l a w
def aKO(id n:Nat)(ι:dX)(c:Value):Prop:=∃b cap,ι id=some (b,cap)/\c=.slice (some ⟨b,0,none⟩) n n
theorem D4(a:Act)(d:Nat)(c:Value):(a.put (some d) c).tmps.size=a.tmps.size:=by simp[Act.put]
theorem aD1(a:Act)(c:Value)(h:d<a.tmps.size):(a.put (some d) c).tmps[d]?=some c:=by simp[Act.put,h]
theorem aBV(a:Act)(c:Value)(h:d2≠d):(a.put (some d2) c).tmps[d]?=a.tmps[d]?:=by simp[Act.put,h]
theorem FI{p:Operand}{ob:Ob}(hg0:o.guard=none)(hd:o.dst=some d)(hdN:Nat.blt d N=true)(ho:o.op=.slice T p none none none)(hT:P.underlying T=some (.array n e))(hs:∀w,(sizeOf e).run P w=.ok 1 w)
  (hx:aO E p=some (.ref id g 0 0)) (hH:H.get id=some ob) (hg:ob.g=g) (hk:ALx P G0 N ops K rest ((d,.any)::E) H d (aKO id n)):AL P G0 N ops K (o::rest) E H:=by
 intro G hG a w hst ro hro Q hq;refine wpListIn_plain hg0 fun K' hK=>?_;refine Oper.wpW_in (kI hro).1 ?_;obtain ⟨I,ι,hr,hs',he⟩:=hst.rel;obtain ⟨b,cap,h1,h3⟩:=mG (aI he hx) hH hg;have hdn:d<N:=by simpa[Nat.blt_eq]using hdN
 have hrun:(execOp a.eval o).run P w=.ok (.value (.slice (some ⟨b,0,none⟩) n n)) w:=by
  simp only[execOp,ho,h3,Option.map_none];simp[Instr.sliceAt,run_underlying hT,Instr.sureAddr,Instr.sliceBounds,hs,Addr.add_lit]
 unfold Oper.wpW;rw[hrun];show K' (a.put o.dst _) w;rw[hd];exact hK _ _ (hk G hG _ w I ι (by rw[gC];exact hst.defers) (by rw[D4];exact hst.size) hr hs' (iB.put (d:=some d) hr (Step.refl _ _ _ _) he (.any _) (by rw[hst.size];exact hdN)) ⟨_,aD1 a _ (by rw[hst.size];exact hdn),b,cap,h1,rfl⟩ ro (kI hro).2 Q hq)
theorem aFI{F:dX->Value->Prop}{x:Operand}{v:AV}(hg0:o.guard=none)(hd:o.dst=some d2)(hdN:Nat.blt d2 N=true)(hne:d2≠d)(ho:o.op=.move x)(hx:aO E x=some v)(hk:ALx P G0 N ops K rest ((d2,v)::E) H d F):ALx P G0 N ops K (o::rest) E H d F:=by
 intro G hG a w I ι hm hsz hr hs' he ⟨c,hc,hF⟩ ro hro Q hq;refine wpListIn_plain hg0 fun K' hK=>?_;refine Oper.wpW_in (kI hro).1 ?_;have hrun:(execOp a.eval o).run P w=.ok (.value (a.eval x)) w:=by simp[execOp,ho]
 unfold Oper.wpW;rw[hrun];show K' (a.put o.dst _) w;rw[hd];exact hK _ _ (hk G hG _ w I ι (by rw[gC];exact hm) (by rw[D4];exact hsz) hr hs' (iB.put (d:=some d2) hr (Step.refl _ _ _ _) he (aI he hx) (by rw[hsz];exact hdN)) ⟨c,by rw[aBV a _ hne];exact hc,hF⟩ ro (kI hro).2 Q hq)
def iJ(s:List UInt8):List AV:=s.map fun b=>.pv (.int .u8 b.toNat)
theorem tU(s:List UInt8):(iJ s).length=s.length:=aNv _
theorem SR{D:TypeId}{y:Operand}{m T:Nat}{cells:List AV}{s:ByteArray}(hg0:o.guard=none)(hd:o.dst=some d2)(hdN:Nat.blt d2 N=true)(ho:o.op=.call {callee:=.builtin .copy,args:=#[.tmp d,y],argTypes:=#[D,S]})(hD:P.underlying D=some (.slice e))(hs:∀w,(sizeOf e).run P w=.ok 1 w)
  (hH:H.get id=some ⟨g,n,T,[cells]⟩) (hn0:0<n) (hy:aO E y=some (.pv (.str s))) (hm:min s.size n=m)
  (hk:AL P G0 N ops K rest ((d2,.pv (.int .i64 m))::E) ((id,⟨g,n,T,[iJ (s.data.toList.take m)++cells.drop m]⟩)::H)):ALx P G0 N ops K (o::rest) E H d (aKO id n):=by
 intro G hG a w I ι hmk hsz hr hs' he ⟨c,hc,b,cap,hι,hcv⟩ ro hro Q hq;refine wpListIn_plain hg0 fun K' hK=>?_;refine Oper.wpW_in (kI hro).1 ?_;have e2y:=(aI he hy).str_inv;have e1:a.eval (.tmp d)=.slice (some ⟨b,0,none⟩) n n:=by simp[Act.eval,hc,hcv]
 obtain ⟨p1,p2,⟨b',cap',cs,f1,f2,f3,f4,f5,f5',f6⟩|⟨f1,_⟩⟩:=(hr.obj id _ hH).cells hn0
 rotate_left
 ·rw[hι]at f1;cases f1
 rw[hι]at f1;cases f1;have hlen:cells.length=n:=p2 cells (by simp);have hms:m<=s.size:=by omega
 have hmn:m<=n:=by omega
 simp only[List.length_singleton]at f5;have hcs:n<=cs.size:=by rw[f4];exact Nat.le_mul_of_pos_left _ (by omega)
 have hmm:min m s.data.size=m:=by have:s.data.size=s.size:=rfl;omega
 have hcells:((s.extract 0 m).data.map fun b=>Value.int .u8 b.toNat).toList=(s.data.toList.take m).map fun b=>Value.int .u8 b.toNat:=by simp
 have hst:=run_storeCells_at P b 0 T ((s.data.toList.take m).map fun b=>Value.int .u8 b.toNat) 0 cs w f2 (by simp[hmm];omega) (by intro v hv;obtain ⟨b,_,rfl⟩:=List.mem_map.1 hv;rfl);simp only[Nat.add_zero,aON,List.take_zero,List.nil_append,aNv,aOJ,Array.length_toList]at hst;rw[hmm]at hst;have hnl:(iJ (s.data.toList.take m)++cells.drop m).length=n:=by
  rw[aNw,tU,aOJ,aOK,Array.length_toList,hmm,hlen];omega
 obtain ⟨k2,k3⟩:=Rel.update (H':=(id,⟨g,n,T,[iJ (s.data.toList.take m)++cells.drop m]⟩)::H) (ob':=⟨g,n,T,[iJ (s.data.toList.take m)++cells.drop m]⟩)
  (cs' := ((s.data.toList.take m).map (fun b => Value.int .u8 b.toNat) ++ cs.toList.drop m).toArray) hr hH hι f2 (aOB _) rfl rfl (fun _ => aOB _) (by
   simp only[List.size_toArray,aNw,aNv,aOJ,aOK,Array.length_toList,hmm];rw[<-f4];omega) (by simpa using f5) (by intro r hr';rw[aNy]at hr';subst hr';exact hnl) (fun i r hi k a' hk'=>by
    cases i with
    |succ i=>simp at hi
    | zero =>
     simp only[List.getElem?_cons_zero,Option.some.injEq]at hi;subst hi;rw[Nat.zero_mul,aON];simp only[List.getElem?_toArray];by_cases ck:k<m
     ·rw[List.getElem?_append_left (by rw[tU,aOJ,Array.length_toList,hmm];exact ck),iJ,aOP]at hk';rw[List.getElem?_append_left (by rw[aNv,aOJ,Array.length_toList,hmm];exact ck),aOP];cases e:(s.data.toList.take m)[k]? with
      |none=>rw[e]at hk';cases hk'
      |some q =>
       rw[e]at hk';cases hk';exact⟨.int .u8 q.toNat,rfl,rfl,.pv (.int _ _)⟩
     rw[List.getElem?_append_right (by rw[tU,aOJ,Array.length_toList,hmm];omega),tU,aOJ,Array.length_toList,hmm,List.getElem?_drop,show m+(k - m)=k by omega]at hk';obtain ⟨u,q1,q2,q3⟩:=f6 0 cells rfl k a' hk';rw[Nat.zero_mul,aON]at q1;refine⟨u,?_,q2,q3⟩;rw[List.getElem?_append_right (by rw[aNv,aOJ,Array.length_toList,hmm];omega),aNv,aOJ,Array.length_toList,hmm,List.getElem?_drop,show m+(k - m)=k by omega]
     simpa using q1) (get_cons_same _ _ _) (fun j hj=>get_cons_other _ _ hj)
 have hmin:Nat.min s.size n=m:=hm;unfold Oper.wpW execOp;simp only[ho,resolve,invoke,builtin,Sem.run_bind,Sem.run_pure,Result.andThen_ok,List.map_toArray,List.map_cons,List.map_nil,e1,e2y,Builtin.copy_,run_underlying hD,hs];simp only[List.getElem?_toArray,List.getElem?_cons_zero,List.getElem?_cons_succ,run_underlying hD,Builtin.lenOf,Builtin.firstCells,Sem.run_bind,Sem.run_pure,Result.andThen_ok,hs,hmin,hcells,hst];show K' (a.put o.dst _) _;rw[hd];refine hK _ _ (hk G hG _ _ ⟨?_,?_,I,ι,k2,hs'.trans k3,iB.put (d:=some d2) hr k3 he (.pv (.int _ _)) (by rw[hsz];exact hdN)⟩ ro (kI hro).2 Q hq)
 ·rw[gC];exact hmk.step hr k3
 rw[D4];exact hsz
theorem aHr{A:Nat}{bs:List UInt8}{r:ByteArray}(hg0:o.guard=none)(hd:o.dst=some d2)(hdN:Nat.blt d2 N=true)(ho:o.op=.convert S T (.tmp d))(hS:P.underlying S=some (.slice e))(he':P.underlying e=some (.int .u8))(hT:P.underlying T=some .string)
  (hH:H.get id=some ⟨g,n,A,[iJ bs]⟩) (hn0:0<n) (hr':(⟨bs.toArray⟩:ByteArray)=r) (hk:AL P G0 N ops K rest ((d2,.pv (.str r))::E) H):ALx P G0 N ops K (o::rest) E H d (aKO id n):=by
 intro G hG a w I ι hmk hsz hr hs' he ⟨c,hc,b,cap,hι,hcv⟩ ro hro Q hq;refine wpListIn_plain hg0 fun K' hK=>?_;refine Oper.wpW_in (kI hro).1 ?_;have e1:a.eval (.tmp d)=.slice (some ⟨b,0,none⟩) n n:=by simp[Act.eval,hc,hcv]
 obtain ⟨p1,p2,⟨b',cap',cs,f1,f2,f3,f4,f5,f5',f6⟩|⟨f1,_⟩⟩:=(hr.obj id _ hH).cells hn0
 rotate_left
 ·rw[hι]at f1;cases f1
 rw[hι]at f1;cases f1;have hlen:bs.length=n:=by rw[<-tU bs];exact p2 (iJ bs) (by simp)
 subst hr';have hl:(loadCells ⟨b,0,none⟩ n).run P w=.ok ((bs.map fun b=>(b.toNat:Int)).map (Value.int .u8)).toArray w:=by
  have h0:=run_loadCells_list (P:=P) w ⟨b,0,none⟩ ((bs.map fun b=>(b.toNat:Int)).map (Value.int .u8)) (fun j v hv=>by
   rw[List.map_map,aOP]at hv;obtain ⟨q,hq1,rfl⟩:=Option.map_eq_some_iff.1 hv;rw[Addr.add_lit,aON,cell_of_row w b _ cs _ (0,0) f2];obtain ⟨u,q1,q2,q3⟩:=f6 0 (iJ bs) rfl j (.pv (.int .u8 q.toNat)) (by rw[iJ,aOP,hq1];rfl);rw[Nat.zero_mul,aON]at q1;rw[q1,q3.int_inv];rfl)
  rwa [aNv,aNv,hlen]at h0
 have hrun:(execOp a.eval o).run P w=.ok (.value (.string ⟨bs.toArray⟩)) w:=by
  simp only[execOp,ho,e1,Sem.run_bind];rw[run_convert_bytes_string w S T e _ _ n hS he' hT,run_bytesToString w _ _ n _ hl,foldl_push_bytes];have e3:(bs.map fun b=>(b.toNat:Int)).map (fun n=>UInt8.ofNat n.toNat)=bs:=by
   rw[List.map_map]
   conv=>rhs;rw[<-List.map_id bs]
   refine List.map_congr_left fun b _=>?_;simp
  rw[e3];simp[ByteArray.empty,ByteArray.emptyWithCapacity];rfl
 unfold Oper.wpW;rw[hrun];show K' (a.put o.dst _) w;rw[hd];exact hK _ _ (hk G hG _ w ⟨by rw[gC];exact hmk,by rw[D4];exact hsz,I,ι,hr,hs',iB.put (d:=some d2) hr (Step.refl _ _ _ _) he (.pv (.str _)) (by rw[hsz];exact hdN)⟩ ro (kI hro).2 Q hq)
end
end
end Go.Abs
section
namespace Go.Proofs
open Go.RowKit Go.Sort Go.Shelf

end Go.Proofs
namespace Go.Proofs.YtmdicgjnmfolfaaGreatDoor
open Go.Proofs.Tryz
open Go.Abs
def pick(L:List ByteArray)(seen:List Nat):List ByteArray:=seen.map fun i=>(L[i]?).getD ⟨#[]⟩
end Go.Proofs.YtmdicgjnmfolfaaGreatDoor
end
section
namespace Go.Proofs
open Go.RowKit Go.Sort Go.Shelf
def aNj:Go.Shelf.Ren:=⟨fun|264=>144|n=>n,fun|53=>122|46=>125|n=>n,fun|n=>n⟩
theorem aNn:Go.Proofs.Lays.n264 Tryz.prog aNj:={
  mixed:=by kernel_rfl
  f264:=Tryz.func144.trans (congrArg some (by kernel_rfl))
  t46:=DL
  a46:=WV
  z46:=SZ
  v46:=FP
  t53:=iL
  a53:=HD
  z53:=DN
  v53:=FQ}
end Go.Proofs
namespace Go.Proofs.YtmdicgjnmfolfaaGreatDoor
open Go.Proofs.Tryz
open Go.Abs
variable{x i:Nat}{H:aB}
abbrev uv(n:Nat):AV:=.pv (.int .u64 (n:Int))
theorem UR(x y:Nat)(hx:x<18446744073709551616)(hy:y<18446744073709551616)(H:aB):aH Tryz.prog 144 [uv x,uv y] H (fun r H'=>r=.tup [uv (x*y / 18446744073709551616),uv (x*y % 18446744073709551616)]/\H'=H) :=Go.Abs.mul64_c aNn x y hx hy H
theorem aBI(a k:Nat){m:Int}(h:m.toNat=k):(a:Int) / 2 ^ m.toNat=((a / 2 ^ k:Nat):Int):=by
 rw[h]
 push_cast
 rfl
def GE(x:Nat):Nat:=x*2862933555777941757 % 18446744073709551616
def aGs(x:Nat):Nat:=GE x ^^^ (GE x / 2 ^ 32)
def K4(x:Nat):Nat:=aGs x*3935559000370003845 % 18446744073709551616
def IE(x:Nat):Nat:=K4 x ^^^ (K4 x / 2 ^ 29)
theorem BN(x:Nat):GE x<18446744073709551616:=Nat.mod_lt _ (by decide)
theorem BM(x:Nat):K4 x<18446744073709551616:=Nat.mod_lt _ (by decide)
theorem tQ(k:Nat)(h:x<18446744073709551616):x / 2 ^ k<18446744073709551616:=Nat.lt_of_le_of_lt (Nat.div_le_self _ _) h
theorem zZ{y:Nat}(h:x<18446744073709551616)(h':y<18446744073709551616):x ^^^ y<18446744073709551616:=Nat.xor_lt_two_pow (n:=64) h h'
theorem aGr(x:Nat):aGs x<18446744073709551616:=zZ (BN x) (tQ 32 (BN x))
theorem RX(x:Nat):IE x<18446744073709551616:=zZ (BM x) (tQ 29 (BM x))
theorem aLa(x:Nat)(hx:x<18446744073709551616)(H:aB):aH Tryz.prog 104 [uv x] H (fun r H'=>r=uv (IE x)/\H'=H):=by refine Pu ?_;exact Bd func104 rfl ntmps104<|Sr<|Dd aM<|Zz<|Sr<|Dd aG<|Dd (by exact aA rfl rfl call144 rfl (UR x 2862933555777941757 hx (by decide) _))<|Dd aG<|Dd eZ<|Dd eZ<|Dd aM<|Zz<|Sr<|Dd aG<|Dd aG<|Dd (by exact BI rfl rfl rfl (by decide) (by decide) (aBI (GE x) 32 rfl))<|Dd (by exact kU rfl (by simp) rfl rfl (bits_xor_u64_nat (GE x) (GE x / 2 ^ 32) (BN x) (tQ 32 (BN x))))<|Dd aM<|Zz<|Sr<|Dd aG<|Dd (by exact aA rfl rfl call144 rfl (UR (aGs x) 3935559000370003845 (aGr x) (by decide) _))<|Dd aG<|Dd eZ<|Dd eZ<|Dd aM<|Zz<|Sr<|Dd aG<|Dd aG<|Dd (by exact BI rfl rfl rfl (by decide) (by decide) (aBI (K4 x) 29 rfl))<|Dd (by exact kU rfl (by simp) rfl rfl (bits_xor_u64_nat (K4 x) (K4 x / 2 ^ 29) (BM x) (tQ 29 (BM x))))<|Dd aM<|Zz<|aE<|Rt<|Qq
def nM(n:Nat):Int:=if n<10 then 48+(n:Int)else 87+(n:Int)
def iI(i:Nat):List AV:=(List.range 16).map fun j=>.pv (.int .u8 (if j<i then nM j else 0))
theorem tR(i:Nat):(iI i).length=16:=by simp[iI]
theorem C8{j:Nat}(h:j<16):(iI i)[j]?=some (.pv (.int .u8 (if j<i then nM j else 0))):=by rw[iI,aOP,List.getElem?_range h];rfl
theorem ME(h:i<16):(iI i).set i (.pv (.int .u8 (nM i)))=iI (i+1):=by
 apply List.ext_getElem?;intro j;by_cases hj:j<16
 ·rw[C8 hj];by_cases e:i=j
  ·subst e;rw[List.getElem?_set_self (by rw[tR];exact h),aNu (Nat.lt_succ_self _)]
  rw[List.getElem?_set_ne e,C8 hj];by_cases h1:j<i
  ·rw[aNu h1,aNu (by omega)]
  rw[aNt h1,aNt (by omega)]
 rw[List.getElem?_eq_none (by rw[List.length_set,tR];omega),List.getElem?_eq_none (by rw[tR];omega)]
theorem Y3(h:i<16)(x:AV){y:AV}(hy:y=.pv (.int .u8 (nM i))):((iI i).set i x).set i y=iI (i+1):=by rw[List.set_set,hy,ME h]
theorem pP{n T:Nat}:∀r∈(bx n T (iI i)).rows,∀a∈r,Clo H a:=by intro r hr a ha;rw[bx,aNy]at hr;subst hr;obtain ⟨j,_,rfl⟩:=List.mem_map.1 ha;exact .pv _
theorem Y4:∀a∈iI i,Clo H a:=by intro a ha;obtain ⟨j,_,rfl⟩:=List.mem_map.1 ha;exact .pv _
theorem aA6:((iI 16).drop 0).take 16=iI 16:=rfl
theorem aEj(H:aB):aH Tryz.prog 105 [] H (fun r H'=>r=.agg (iI 16)/\H'=H):=by
 refine Pu ?_;refine Bd func105 rfl ntmps105<|Sr<|Dd (by exact bM (id:=0) rfl ZL rfl rfl)<|Zz<|Sr<|Dd (by exact bM (id:=1) rfl ZL rfl rfl)<|Zz<|Sq<|Sr<|Dd aG<|Zz<|aD ?_;refine bL (σ:=Nat) (fun i=>([(0,.ref 0 0 0 0),(1,.ref 1 0 0 0),(3,iv (i:Int))],[(1,bx 16 128 (iI i)),(0,bx 16 128 (iI 0))])) (fun i=>i<=16) (fun i=>16 - i) 0 (aOM _) ?_ ?_
 ·exact(cD.wk (Ea<|Ea<|Eb<|trivial) (Hc pP<|Hc pP<|trivial) trivial)
 intro i hi;refine Sr<|Dd cP<|Zz<|Sq ?_;refine Cn ?_ ?_<;>intro hc1
 ·have hlt:i<16:=by have:=aNr hc1;omega
  refine aF<|Sq<|aD<|Sr<|Dd aG<|Dd aM<|Zz<|Sr<|Dd aG<|Dd aG<|Dd qV<|Dd (by exact fP rfl underlying3 dU rfl (by exact wu8 (by omega) (by omega)))<|Dd (by exact dG rfl uA bV rfl rfl rfl rfl (by omega) (by exact aOG _) (by omega) rfl)<|Uu (by exact bD rfl bV rfl rfl rfl rfl rfl rfl (by rw[tR];omega) (show (iI i).set (0+i*1) (.pv (.int .u8 (48+(i:Int))))=(iI i).set i (.pv (.int .u8 (48+(i:Int))))by rw[aON,Nat.mul_one]) rfl)<|Zz<|Sr<|Dd aG<|Dd LN<|Zz ?_;refine Cn ?_ ?_<;>intro hc2
  ·have h10:¬ i<10:=by have:=aNr hc2;omega
   refine Rg<|Dd aG<|Dd aG<|Dd qV<|Dd (by exact dN rfl rfl rfl (by exact iY (by omega) (by omega)))<|Dd (by exact fP rfl underlying3 dU rfl (by exact wu8 (by omega) (by omega)))<|Dd (by exact dG rfl uA bV rfl rfl rfl rfl (by omega) (by exact aOG _) (by omega) rfl)<|Uu (by exact bD rfl bV rfl rfl rfl rfl rfl rfl (by rw[List.length_set,tR];omega) (show ((iI i).set i (.pv (.int .u8 (48+(i:Int))))).set (0+i*1) (.pv (.int .u8 (97+(i:Int) - 10)))=iI (i+1)by rw[aON,Nat.mul_one];exact Y3 hlt _ (by rw[nM,aNt (by have:=aNr hc2;omega)];congr 2;omega)) rfl)<|Zz<|Rg<|Dd qV<|Dd aG<|Zz ?_;exact⟨i+1,by omega,by omega,(cD.wk (Ea<|Ea<|Eb<|trivial) (Hc pP<|Hc pP<|trivial) trivial)⟩
  have h10:i<10:=by have:=aNs hc2;omega
  refine aF<|Rg<|Dd qV<|Dd aG<|Zz ?_;refine⟨i+1,by omega,by omega,?_⟩;have e:(iI i).set i (.pv (.int .u8 (48+(i:Int))))=iI (i+1):=by
   rw[<-ME hlt,nM,aNu h10]
  rw[e];exact(cD.wk (Ea<|Ea<|Eb<|trivial) (Hc pP<|Hc pP<|trivial) trivial)
 have hge:i=16:=by have:=aNs hc1;omega
 subst hge;refine aY<|Sr<|Dd (by exact aN rfl isAgg128 SY rfl rfl rfl rfl aA6 rfl)<|Uu (kG SY)<|Zz<|aE ?_;refine dC (H':=[]) (.inr rfl) rfl (fF rfl isAgg128 SY rfl rfl rfl aA6 rfl) (Fin.wk (.agg Y4) trivial trivial) ?_;exact Qq
end Go.Proofs.YtmdicgjnmfolfaaGreatDoor
end
