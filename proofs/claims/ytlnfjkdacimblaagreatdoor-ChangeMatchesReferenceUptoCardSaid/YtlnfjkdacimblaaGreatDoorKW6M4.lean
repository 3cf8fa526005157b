/-
  Parts of the proof: rules of an abstract program logic, contracts of functions, plain laws. Conditions: each theorem's own.
-/
import Derived.Test.YtlnfjkdacimblaaGreatDoorKW6M3
import Derived.Scope
import Derived.Lib.Overlaps
import Derived.WalkSpells
import Derived.Lib.SliceRun
set_option linter.unusedVariables false
set_option linter.unusedSimpArgs false
set_option maxRecDepth 100000
set_option maxHeartbeats 8000000
namespace Go.Proofs
theorem JD:type_of% Tryz.call101:=Tryz.call101
theorem aIJ:type_of% Tryz.call116:=Tryz.call116
theorem uA:type_of% Tryz.call122:=Tryz.call122
theorem YI:type_of% Tryz.call143:=Tryz.call143
theorem aCS:type_of% Tryz.call91:=Tryz.call91
theorem gV:type_of% Tryz.eqGuardType45:=Tryz.eqGuardType45
theorem dJ:type_of% Tryz.isAgg36:=Tryz.isAgg36
theorem bF:type_of% Tryz.isAgg38:=Tryz.isAgg38
theorem dZ:type_of% Tryz.isAgg45:=Tryz.isAgg45
theorem aV:type_of% Tryz.isAgg46:=Tryz.isAgg46
theorem cU:type_of% Tryz.isAgg47:=Tryz.isAgg47
theorem aY:type_of% Tryz.isAgg49:=Tryz.isAgg49
theorem bA:type_of% Tryz.isAgg51:=Tryz.isAgg51
theorem kI:type_of% Tryz.isAgg89:=Tryz.isAgg89
theorem RJ:type_of% Tryz.sizeOf89:=Tryz.sizeOf89
theorem sK:type_of% Tryz.underlying186:=Tryz.underlying186
theorem eD:type_of% Tryz.underlying89:=Tryz.underlying89
theorem gP:type_of% Tryz.zeroValue4:=Tryz.zeroValue4
end Go.Proofs
namespace Go.Proofs.YtlnfjkdacimblaaGreatDoor
open Go.Proofs.Tryz
open Go.Abs
theorem FW (L:List ByteArray) (H:aE):∀ r∈(FX L).rows,∀ a∈r,Clo H a:=by intro r hr a ha;obtain ⟨i,hi⟩:=aJM.1 hr;obtain ⟨p,hp,rfl⟩:=rK.1 hi;simp only [sP,aJL] at hp;obtain ⟨q,_,rfl⟩:=Option.map_eq_some_iff.1 hp;simp only [aJD,aJH,or_false] at ha;rcases ha with rfl|rfl|rfl<;>simp
def vH (o:GObj) (last:ByteArray) (L:List ByteArray):aE:=[(37,FX L),(4,bx 1 9 [sv last]),(3,bx 1 89 [.mp 37 0]),(1,bx 6 49 ((aG o).map .pv))]
theorem aEt (o:GObj) (a:ByteArray) (L:List ByteArray) (f:Nat):Clo (vH o a L) (.clo f [.ref 1 0 0 0,.ref 4 0 0 0,.ref 3 0 0 0]):=by refine .clo fun x hx=>?_;simp only [aJD,aJH,or_false] at hx;rcases hx with rfl|rfl|rfl<;>exact .ref rfl
def ID (o:GObj) (last:ByteArray) (L:List ByteArray) (s:ByteArray):Bool:=(decide (o.kind=2)&&decide (s=last))||(decide (o.kind=3)&&mH L s)
def D5 (o:GObj) (last:ByteArray) (L:List ByteArray) (s:ByteArray):Bool:=ID o last L s||!bU s
theorem YX (o:GObj) (last s:ByteArray) (L:List ByteArray) (hs:s.size < 4611686018427387904) :
  aH Tryz.prog 145 [sv s,.ref 1 0 0 0,.ref 4 0 0 0,.ref 3 0 0 0] (vH o last L) (fun r H'=>r=bv (D5 o last L s)∧H'=vH o s (nX L s)):=by
 unfold vH;refine Bd func145 rfl ntmps145<|Sr<|Dd aO<|Zz<|Sq ?_;refine bD (t:=6) (n:=22) (X:=ID o last L s) ?_ ?_
 ·all_goals refine Dd (bH dT) ?_
  all_goals refine Dd (cA isAgg3)<|Dd cI<|Dm ?_
  all_goals refine Sp 10 (fun h10=>?_) fun h10=>?_
  all_goals try contradiction
  all_goals first|refine Fo<|Fo<|Fo ?_|refine On aD<|On (cA isAgg9)<|On sQ ?_
  all_goals refine Dd dI<|Dm ?_
  all_goals refine Sp 15 (fun h15=>?_) fun h15=>?_
  all_goals try contradiction
  all_goals first|refine Fo<|Fo<|Fo<|Fo ?_|refine On (bH dT)<|On (cA isAgg3)<|On cI<|On aD ?_
  all_goals(first|refine Sp 19 (fun h19=>?_) fun h19=>?_|refine x8 (t:=19) rfl ?_)
  all_goals try contradiction
  all_goals first|refine Fo ?_|refine Fu ?_|refine On (cA kI) ?_
  all_goals first|refine Fo ?_|refine Fu ?_|refine On aD ?_
  all_goals first|refine Fo ?_|refine Fu ?_|refine On (by exact jL rfl eD underlying9 rfl rfl rfl rfl rfl gP (.inl rfl)) ?_
  all_goals first|refine Fo ?_|refine On dI ?_
  all_goals refine Dd dI<|Da ?_
  all_goals(exact⟨⟨_,rfl,by(simp only [ID, *];rfl)⟩,rfl,rfl,rfl⟩)
 refine Sr<|Dd (cA kI)<|Dd aD<|Dd aD<|Uu (by exact uD (.inl rfl) eD underlying9 rfl rfl rfl rfl rfl rfl rfl)<|Uu (fP sizeOf9)<|Zz<|Sq ?_;refine bD (t:=5) (n:=8) (X:=ID o last L s||!bU s) ?_ ?_
 ·all_goals refine Dd aD ?_
  all_goals refine Dm ?_
  all_goals refine Sp 29 (fun h29=>?_) fun h29=>?_
  all_goals try contradiction
  all_goals first|refine Fo<|Fo<|Fo ?_|refine On aD<|On (by exact aA rfl rfl t8 rfl (AN s _ hs))<|On jU ?_
  all_goals refine Dd dI<|Da ?_
  all_goals(exact⟨⟨_,rfl,by(simp only [*];rfl)⟩,rfl,rfl,rfl⟩)
 refine aC ?_;refine cZ (H':=vH o s (nX L s)) (.inr rfl) rfl (aN rfl) (Fin.wk (by(simp;done)) (Hc (FW _ _)<|Hb<|Ha<|Hb<|trivial) ⟨rfl,rfl,rfl,rfl,trivial⟩) ?_;exact Qq
def uL (l:List ByteArray):Nat→List ByteArray
 | 0=>[]
 | k+1=>nX (uL l k) ((l[k]?).getD aP)
def nT (o:GObj) (k:Nat):Bool:=match o.refs[k]? with
 | some s=>D5 o (eR id o.refs k) (uL o.refs k) s
 | none=>false
def IF (o:GObj):Bool:=if o.kind=1 then decide ((o.refs.length:Int)=0)&&QI o.x o.y else if o.kind=5 then decide ((o.refs.length:Int)=3)&&(decide (o.x=0)&&decide (o.y=0))else decide (o.x=0)&&decide (o.y=0)
def pD (o:GObj) (n:Int):Bool:=decide (dW o.kind=aP)||!bU o.id||!nM o.tags||decide (n < xT o.kind)||decide (2000 < n)
def CE (o:GObj):Bool:=pD o (o.refs.length:Int)
def iC (o:GObj):Bool:=!CE o&&(!((List.range o.refs.length).any (nT o))&&IF o)
def DO (o:GObj):Prop:=o.id.size < 4611686018427387904∧rW o.tags∧o.refs.length < 4611686018427387904∧∀ s∈o.refs,s.size < 4611686018427387904
theorem uF {k:Int} (h:decide (dW k=aP)=false):0≤k∧k < 6:=by
 by_cases h0:0≤k∧k < 6
 ·exact h0
 have:dW k=aP:=by
  have hn:¬ (k=1)∧¬ (k=2)∧¬ (k=3)∧¬ (k=4)∧¬ (k=5):=by omega
  simp only [dW,hn.1,hn.2.1,hn.2.2.1,hn.2.2.2.1,hn.2.2.2.2,if_false]
 rw [this] at h;simp at h
theorem vU (o:GObj) (H:aE) (ho:DO o):aH Tryz.prog 91 [av (aG o)] H (fun r H'=>r=bv (iC o)∧H'=H):=by
 refine Pu ?_;obtain ⟨h1,h2,h3,h4⟩:=ho;have hml:(o.refs.map encStr).length=o.refs.length:=aIr _;refine Bd func91 rfl ntmps91<|Sr<|Dd (by exact cE (id:=1) rfl rfl rfl rfl rfl)<|Dd aO<|Zz<|Sq<|Sq ?_;refine nD (t:=36) (n:=31) (X:=pD o ((o.refs.map encStr).length:Int)) ?_ ?_
 ·cases hg10:(decide (dW o.kind=aP):Bool)
  ·cases hg16:(!bU o.id:Bool)
   ·cases hg22:(!nM o.tags:Bool)
    ·cases hg31:(decide (((o.refs.map encStr).length:Int) < xT o.kind):Bool)
     ·refine aU follows<|Cq (bH dT)<|Cq (cA isAgg3)<|Cq (by exact aA rfl rfl uA rfl (zV o.kind _))<|Cq sQ<|Cq aD<|Nf (bH eK)<|Nf (cA isAgg9)<|Nf (by exact aA rfl rfl t8 rfl (AN o.id _ h1))<|Nf jU<|Cq rJ<|Cq aD<|Nf (bH e9)<|Nf (cA cU)<|Nf (by exact aA rfl rfl YI rfl (vL o.tags _ h2))<|Nf jU<|Cq rJ<|Cq aD<|Nf (bH dP)<|Nf (cA aV)<|Nf (fK aK)<|Nf (bH dT)<|Nf (cA isAgg3)<|Nf (by exact aA rfl rfl call144 rfl (US o.kind _ (uF hg10).1 (uF hg10).2))<|Nf dD<|Cq rJ<|Cq aD<|Nf (bH dP)<|Nf (cA aV)<|Nf (fK aK)<|Nf kC<|Cq rJ<|bM<|Kr ?_;exact⟨rfl,⟨_,rfl,by(simp only [pD,hg10,hg16,hg22,hg31];rfl)⟩,rfl,rfl,rfl⟩
     refine aU follows<|Cq (bH dT)<|Cq (cA isAgg3)<|Cq (by exact aA rfl rfl uA rfl (zV o.kind _))<|Cq sQ<|Cq aD<|Nf (bH eK)<|Nf (cA isAgg9)<|Nf (by exact aA rfl rfl t8 rfl (AN o.id _ h1))<|Nf jU<|Cq rJ<|Cq aD<|Nf (bH e9)<|Nf (cA cU)<|Nf (by exact aA rfl rfl YI rfl (vL o.tags _ h2))<|Nf jU<|Cq rJ<|Cq aD<|Nf (bH dP)<|Nf (cA aV)<|Nf (fK aK)<|Nf (bH dT)<|Nf (cA isAgg3)<|Nf (by exact aA rfl rfl call144 rfl (US o.kind _ (uF hg10).1 (uF hg10).2))<|Nf dD<|Cq rJ<|Cq aD<|Of<|Of<|Of<|Of<|Cq xI<|bM<|Kr ?_;exact⟨rfl,⟨_,rfl,by(simp only [pD,hg10,hg16,hg22,hg31];rfl)⟩,rfl,rfl,rfl⟩
    refine aU follows<|Cq (bH dT)<|Cq (cA isAgg3)<|Cq (by exact aA rfl rfl uA rfl (zV o.kind _))<|Cq sQ<|Cq aD<|Nf (bH eK)<|Nf (cA isAgg9)<|Nf (by exact aA rfl rfl t8 rfl (AN o.id _ h1))<|Nf jU<|Cq rJ<|Cq aD<|Nf (bH e9)<|Nf (cA cU)<|Nf (by exact aA rfl rfl YI rfl (vL o.tags _ h2))<|Nf jU<|Cq rJ<|Cq aD<|Of<|Of<|Of<|Of<|Of<|Of<|Of<|Cq xI<|Cq aD<|Of<|Of<|Of<|Of<|Cq dI<|bM<|Kr ?_;exact⟨rfl,⟨_,rfl,by(simp only [pD, *];rfl)⟩,rfl,rfl,rfl⟩
   refine aU follows<|Cq (bH dT)<|Cq (cA isAgg3)<|Cq (by exact aA rfl rfl uA rfl (zV o.kind _))<|Cq sQ<|Cq aD<|Nf (bH eK)<|Nf (cA isAgg9)<|Nf (by exact aA rfl rfl t8 rfl (AN o.id _ h1))<|Nf jU<|Cq rJ<|Cq aD<|Of<|Of<|Of<|Of<|Cq xI<|Cq aD<|Of<|Of<|Of<|Of<|Of<|Of<|Of<|Cq dI<|Cq aD<|Of<|Of<|Of<|Of<|Cq dI<|bM<|Kr ?_;exact⟨rfl,⟨_,rfl,by(simp only [pD, *];rfl)⟩,rfl,rfl,rfl⟩
  refine aU follows<|Cq (bH dT)<|Cq (cA isAgg3)<|Cq (by exact aA rfl rfl uA rfl (zV o.kind _))<|Cq sQ<|Cq aD<|Of<|Of<|Of<|Of<|Cq xI<|Cq aD<|Of<|Of<|Of<|Of<|Cq dI<|Cq aD<|Of<|Of<|Of<|Of<|Of<|Of<|Of<|Cq dI<|Cq aD<|Of<|Of<|Of<|Of<|Cq dI<|bM<|Kr ?_;exact⟨rfl,⟨_,rfl,by(simp only [pD, *];rfl)⟩,rfl,rfl,rfl⟩
 refine Cn ?_ ?_<;>intro hc1
 ·refine Sr<|Dd aO<|Zz<|aC<|Rt ?_;exact⟨by rw [iC,CE,← hml,hc1];rfl,rfl⟩
 refine aB<|Sr<|Dd (by exact iT (id:=37) oW rfl rfl)<|Dd (by exact bJ (id:=3) rfl aC1 rfl rfl)<|Uu (fP RJ)<|Zz<|Sr<|Dd (by exact bJ (id:=4) rfl zo9 rfl rfl)<|Uu (fP sizeOf9)<|Zz ?_;refine TC ([(1,.ref 1 0 0 0),(5,.clo 145 [.ref 1 0 0 0,.ref 4 0 0 0,.ref 3 0 0 0])]) (vH o aP []) ?_ ?_
 ·refine Rg<|Dd (by exact fU rfl rfl)<|Da ?_;exact(cY.wk (Ea<|Ec (aEt _ _ _ _)<|trivial) (Hc (FW _ _)<|Hb<|Ha<|Hb<|trivial) trivial)
 refine Sq<|Sr<|Dd (bH dP)<|Dd (cA aV)<|Dd aD<|Dd (by exact aA rfl rfl JD rfl (pS _ o.refs (nT o) (fun k=>vH o (eR id o.refs k) (uL o.refs k)) h3 (fun k s hk=>dN.clo call145 (by rw [nT,hk,kO hk];simp only [uL,hk];exact YX o _ s _ (h4 s (aJB hk))))))<|Zz ?_;refine Cn ?_ ?_<;>intro hc2
 ·refine Sr<|Dd aO<|Zz<|aC<|Rt ?_;exact⟨by rw [iC,hc2];simp,rfl⟩
 have hfin:iC o=IF o:=by have h:=hc1;rw [hml] at h;rw [iC,CE,h,hc2];rfl
 rw [hfin];clear hfin;generalize eR id o.refs (GY (nT o) o.refs.length)=la;generalize uL o.refs (GY (nT o) o.refs.length)=LL;unfold vH;refine aB<|Sq<|Sr<|Dd (bH dT)<|Dd (cA isAgg3)<|Zz<|aF<|Sr<|Dd cI<|Da ?_;refine Cn ?_ ?_<;>intro hc3
 ·refine Sq ?_;refine bD (t:=2) (n:=11) (X:=decide (((o.refs.map encStr).length:Int)=0)&&QI o.x o.y) ?_ ?_
  ·all_goals refine Dd (bH dP) ?_
   all_goals refine Dd (cA aV)<|Dd (fK aK)<|Dd cI<|Dm ?_
   all_goals refine Sp 51 (fun h51=>?_) fun h51=>?_
   all_goals try contradiction
   all_goals first|refine Fo<|Fo<|Fo ?_|refine On (bH kE)<|On (by exact aI rfl dZ sizeOf45 rfl rfl rfl rfl (by simp only [Zl,aQ,aG];rfl) rfl)<|On (by exact aA rfl rfl call146 rfl (aHg o.x o.y _)) ?_
   all_goals refine Dd dI<|Da ?_
   all_goals(exact⟨⟨_,rfl,by(simp_all;done)⟩,rfl,rfl,rfl⟩)
  refine aC<|Rt ?_;exact⟨by rw [IF,aIq (aIn hc3),← hml],rfl⟩
 refine Sr<|Dd cI<|Da ?_;refine Cn ?_ ?_<;>intro hc4
 ·refine Sq ?_;refine bD (t:=2) (n:=12) (X:=decide (((o.refs.map encStr).length:Int)=3)&&(decide (o.x=0)&&decide (o.y=0))) ?_ ?_
  ·all_goals refine Dd (bH dP) ?_
   all_goals refine Dd (cA aV)<|Dd (fK aK)<|Dd cI<|Dm ?_
   all_goals refine Sp 62 (fun h62=>?_) fun h62=>?_
   all_goals try contradiction
   all_goals first|refine Fo<|Fo<|Fo<|Fo ?_|refine On (bH kE)<|On (by exact aI rfl dZ sizeOf45 rfl rfl rfl rfl (by simp only [Zl,aQ,aG];rfl) rfl)<|On (jG J9)<|On (by exact oC rfl rfl rfl rfl rfl gV (MO _ _ _ _)) ?_
   all_goals refine Dd dI<|Da ?_
   all_goals(exact⟨⟨_,rfl,by(simp_all;done)⟩,rfl,rfl,rfl⟩)
  refine aC<|Rt ?_;exact⟨by rw [IF,aIp (aIo hc3),aIq (aIn hc4),← hml],rfl⟩
 refine aB<|Sr<|Dd (bH kE)<|Dd (by exact aI rfl dZ sizeOf45 rfl rfl rfl rfl (by simp only [Zl,aQ,aG];rfl) rfl)<|Dd (jG J9)<|Dd (by exact oC rfl rfl rfl rfl rfl gV (MO _ _ _ _))<|Dd aO<|Zz<|aC<|Rt ?_;exact⟨by rw [IF,aIp (aIo hc3),aIp (aIo hc4)],rfl⟩
def A2 (last:ByteArray) (o:GObj):Bool:=!iC o||sle o.id last
def qJ (m:List GObj):Bool:=!((List.range m.length).any (zR A2 GObj.id m))&&decide ((m.length:Int)≤1000000)
def uQ (m:List GObj):Prop:=m.length < 4611686018427387904∧∀ o∈m,DO o
theorem wH (m:List GObj) (H:aE) (hm:uQ m):aH Tryz.prog 116 [.agg [.pv (cO m)]] H (fun r H'=>r=bv (qJ m)∧H'=H):=by
 refine Pu ?_;obtain ⟨hl,hos⟩:=hm;have hml:(m.map aG).length=m.length:=aIr _;refine Bd func116 rfl ntmps116<|Sr<|Dd (by exact cE (id:=1) rfl rfl rfl rfl rfl)<|Dd aO<|Zz<|Sr<|Dd aO<|Zz<|Sq<|Sr<|Dd (bH gZ)<|Dd (cA dJ)<|Dd (fK cQ)<|Dd aD<|Zz<|aF ?_;refine bG (σ:=Nat) (fun k=>([(1,.ref 1 0 0 0),(3,sv (eR GObj.id m k)),(7,.pv (cO m)),(8,iv ((m.map aG).length:Int)),(9,iv (k:Int))],[(1,bx 1 38 [.pv (cO m)])])) (fun k=>k≤m.length∧∀ j,j < k→zR A2 GObj.id m j=false) (fun k=>m.length - k) 0 ⟨by omega,by omega⟩ ?_ ?_
 ·exact Wk
 rintro k ⟨hk,hno⟩;refine Sr<|Dd dD<|Zz<|Sq ?_;refine Cn ?_ ?_<;>intro hc1
 ·have hlt:k < m.length:=by have:=aIn hc1;omega
  obtain ⟨o,ho⟩:=aX hlt;have hi:=bZ (f:=aG) ho;have hoo:=hos o (aJB ho);refine aB<|Sq<|aF<|Sr<|Dd (e8 iK)<|Dd (by exact bQ rfl aY sizeOf49 rfl (by omega) (by simp only [Zl,aQ,aG];rfl) rfl)<|Dd (by exact bJ (id:=5) rfl qU rfl rfl)<|Uu (fP sizeOf49)<|Zz<|Sq<|Sq ?_;refine bD (t:=21) (n:=10) (X:=A2 (eR GObj.id m k) o) ?_ ?_
  ·all_goals refine Dd (by exact aI rfl aY sizeOf49 rfl rfl rfl rfl (by simp only [Zl,aQ,aG];rfl) rfl) ?_
   all_goals refine Dd (by exact aA rfl rfl aCS rfl (vU o _ hoo))<|Dd jU<|Dm ?_
   all_goals refine Sp 16 (fun h16=>?_) fun h16=>?_
   all_goals try contradiction
   all_goals first|refine Fo<|Fo<|Fo<|Fo ?_|refine On (bH eK)<|On (cA isAgg9)<|On aD<|On (by exact PN rfl rfl rfl) ?_
   all_goals refine Dd dI<|Zz ?_
   all_goals(exact⟨⟨_,rfl,by(simp only [A2,sle, *];rfl)⟩,rfl,rfl,rfl⟩)
  refine Cn ?_ ?_<;>intro hc2
  ·refine Sr<|Dd aO<|Zz<|aC<|Rt ?_;exact⟨by rw [qJ,m4 hlt ((l5 ho).trans hc2)];rfl,rfl⟩
  refine aB<|Rg<|Dd (bH eK)<|Dd (cA isAgg9)<|Dd aO<|Zz<|Rg<|Dd eL<|Dd aD<|Zz ?_;refine⟨k+1,⟨by omega,fun j hj=>?_⟩,by omega,?_⟩
  ·by_cases e:j=k
   ·subst e;exact(l5 ho).trans hc2
   exact hno j (by omega)
  rw [kO ho];exact Wk
 have hge:k=m.length:=by have:=aIo hc1;omega
 subst hge;refine aZ<|Sr<|Dd (bH gZ)<|Dd (cA dJ)<|Dd (fK cQ)<|Dd JK<|Dd aO<|Zz<|aC<|Rt ?_;exact⟨by rw [qJ,oZ hno,← hml];rfl,rfl⟩
end Go.Proofs.YtlnfjkdacimblaaGreatDoor
namespace Go.Abs
theorem cY.get' {G0:aE} {E E':dG} {H H':aE} (h:aCJ E E') (hH:∀ j,H'.get j=H.get j):cY G0 E H E' H':=(cY.e0 h).trans (cY.get (fun _=>rfl) hH)
theorem pP (id:Nat) (o o':Ob) (H:aE) (j:Nat):aE.get ((id,o)::H) j=aE.get ((id,o)::(id,o')::H) j:=by cases e:Nat.beq id j<;>simp [aE.get,e]
theorem cY.dup {G0:aE} {E E':dG} {H:aE} {id:Nat} {o o':Ob} (h:aCJ E E'):cY G0 E ((id,o)::(id,o')::H) E' ((id,o)::H):=cY.get' h (pP id o o' H)
theorem w6.app {D H G0:aE} (hG:∀ p∈D,G0.get p.1=none):w6 G0 H (D++H):=fun id hi=>by
 rw [jQ];cases e:D.get id with
 | none=>rfl
 | some o =>
  have:=hG _ (d6 e);rw [this] at hi;cases hi
theorem Fin.pops' {G0 H:aE} {r:AV} (D:aE) (hr:Clo H r) (hc:dF H) (hD:∀ p∈D,H.get p.1=none) (hG:∀ p∈D,G0.get p.1=none):Fin G0 (D++H) r H r:=by intro G hG' I ι w v h1 h2 h3;subst hG';exact⟨I,ι,h1.restrict (Sub.app hD) hc,h2.restrict (Sub.app hD) (w6.app hG),h3.restrict (Sub.app hD) hr⟩
theorem Fin.fzC {G0 H H':aE} {r r':AV} {id:Nat} {ob:Ob} (ps:List (List PV)) (hH:H.get id=some ob) (hps:ob.rows=ps.map (·.map .pv)) (hf:Fz H' id ob.g ps r r') (hno:H'.get id=none) (hs:Sub H' H) (hc:dF H') (hk:w6 G0 H' H):Fin G0 H r H' r':=by intro G hG I ι w v h1 h2 h3;subst hG;exact⟨_,ι,h1.freeze hs hc hH hno,h2.freeze hs hk hH,VRel.freeze h1 hs hH hps hf h3⟩
theorem Fin.slice {G0 H:aE} {id g n:Nat} {ob:Ob} (D:aE) (ps:List (List PV)) (hH:aE.get (D++H) id=some ob) (hg:ob.g=g) (hps:ob.rows=ps.map (·.map .pv)) (hn:ps.length=n) (hc:dF H) (hD:∀ p∈D,H.get p.1=none) (hG:∀ p∈D,G0.get p.1=none) (hid:H.get id=none) :
  Fin G0 (D++H) (.osl id g 0 n) H (.pv (.sl ps)):=by
 subst hg hn;exact Fin.fzC ps hH hps (.osl (by rw [aJJ,List.drop_zero,List.take_length])) hid (Sub.app hD) hc (w6.app hG)
end Go.Abs
namespace Go.Proofs.YtlnfjkdacimblaaGreatDoor
open Go.Proofs.Tryz
open Go.Abs
theorem kW:∀ (x y:List UInt8),Op.bytesLess x y=decide (x < y)
 | [],[]=>by simp [Op.bytesLess]
 | _::_,[]=>by simp [Op.bytesLess]
 | [],_::_=>by simp [Op.bytesLess]
 | a::x,b::y=>by
  rw [Op.bytesLess,kW x y];simp only [List.cons_lt_cons_iff];by_cases h1:a < b<;>by_cases h2:a=b<;>by_cases h3:x < y<;>simp [h1,h2,h3]
theorem kQ (s:ByteArray):kR s s=false:=by unfold kR;rw [kW];exact decide_eq_false (List.lt_irrefl _)
theorem sU {a b:ByteArray} (h1:kR a b=false) (h2:kR b a=false):a=b:=by
 unfold kR at h1 h2;rw [kW] at h1 h2;have e:a.toList=b.toList:=List.le_antisymm (List.not_lt.1 (aIo h2)) (List.not_lt.1 (aIo h1));have:=r5 a b;rw [e] at this
 simpa using this.symm
theorem l8 {a b c:ByteArray} (h1:kR a b=true) (h2:kR b c=true):kR a c=true:=by unfold kR at *;rw [kW] at *;exact decide_eq_true (List.lt_trans (aIn h1) (aIn h2))
theorem ML (s:ByteArray):kR s aP=false:=by unfold kR;rw [kW,ByteArray.toList_eq aP];exact decide_eq_false (List.not_lt_nil _)
theorem BK {a b:ByteArray}:sle a b=false↔kR b a=true:=by
 unfold sle;constructor
 ·intro h;simp only [aJN,aIz] at h;cases e:kR b a with
  | true=>rfl
  | false=>exact absurd (sU h.1 e) h.2
 intro h;simp only [aJN,aIz];refine⟨?_,fun e=>?_⟩
 ·cases e:kR a b with
  | false=>rfl
  | true=>have:=l8 e h;rw [kQ] at this;cases this
 subst e;rw [kQ] at h;cases h
def Y2 (m:List GObj):Prop:=m.Pairwise (fun a b=>kR a.id b.id=true)
theorem XI {o:GObj} (h:iC o=true):bU o.id=true:=by simp only [iC,CE,pD,aJA,aJK,aJN,Bool.not_eq_false'] at h;exact h.1.1.1.1.2
theorem qB {s:ByteArray} (h:bU s=true):s≠aP:=by simp only [bU,aJA,aJK,aIz] at h;exact h.2.1
theorem I7 {last:ByteArray} {o:GObj}:A2 last o=false↔iC o=true∧kR last o.id=true:=by rw [A2,aJN,BK,Bool.not_eq_false']
theorem X0 {m:List GObj}:(List.range m.length).any (zR A2 GObj.id m)=false↔(∀ o∈m,iC o=true)∧Y2 m:=by
 rw [List.any_eq_false];constructor
 ·intro h;have hb:∀ k o,m[k]?=some o→iC o=true∧kR (eR GObj.id m k) o.id=true:=fun k o ho=>by
   have:=h k (List.mem_range.2 (aIv.1 ho).1);rw [l5 ho,Bool.not_eq_true] at this;exact I7.1 this
  refine⟨fun o ho=>?_,?_⟩
  ·obtain ⟨k,hk⟩:=aJM.1 ho;exact(hb k o hk).1
  have key:∀ (d i:Nat) (a b:GObj),m[i]?=some a→m[i+d+1]?=some b→kR a.id b.id=true:=by
   intro d
   induction d with
   | zero =>
    intro i a b ha hb';have:=(hb _ _ hb').2;rw [Nat.add_zero,kO ha] at this;exact this
   | succ d ih =>
    intro i a b ha hb';obtain ⟨c,hc⟩:=aX (l:=m) (k:=i+d+1) (by have:=(aIv.1 hb').1;omega);have h1:=ih i a c ha hc;have h2:=(hb _ _ hb').2;rw [show i+(d+1)=i+d+1 from rfl,kO hc] at h2;exact l8 h1 h2
  rw [Y2,List.pairwise_iff_getElem];intro i j hi hj hij;have:=key (j - i - 1) i m[i] m[j] (aIw hi) (by rw [show i+(j - i - 1)+1=j by omega];exact aIw hj);exact this
 rintro⟨h1,h2⟩ k hk;have hlt:=List.mem_range.1 hk;have ho:=aIw hlt;rw [l5 ho,Bool.not_eq_true,I7];refine⟨h1 _ (List.getElem_mem hlt),?_⟩;cases k with
 | zero =>
  have hn:=qB (XI (h1 _ (List.getElem_mem hlt)));show kR aP _=true;cases e:kR aP (m[0]).id with
  | true=>rfl
  | false=>exact absurd (sU (ML _) e) hn
 | succ k =>
  rw [kO (aIw (show k < m.length by omega))];rw [Y2,List.pairwise_iff_getElem] at h2;exact h2 k (k+1) (by omega) hlt (by omega)
theorem mS {m:List GObj}:qJ m=true↔(∀ o∈m,iC o=true)∧Y2 m∧(m.length:Int)≤1000000:=by rw [qJ,aJA,aJK,X0,decide_eq_true_iff,and_assoc]
theorem yX {l:List ByteArray} {s:ByteArray}:mH l s=true↔s∈l:=by
 unfold mH;rw [List.any_eq_true];constructor
 ·rintro⟨a,h1,h2⟩;rw [← aIn h2];exact h1
 intro h;exact⟨s,h,decide_eq_true rfl⟩
end Go.Proofs.YtlnfjkdacimblaaGreatDoor
namespace Go.Abs
section
theorem Clo.up {H H':aE} (hs:∀ i,(H.get i).isSome=true→(H'.get i).isSome=true) {a:AV} (h:Clo H a):Clo H' a:=by
 induction h with
 | any=>exact .any
 | pv p=>exact .pv p
 | pad rows i k=>exact .pad rows i k
 | ref h=>exact .ref (hs _ h)
 | osl h=>exact .osl (hs _ h)
 | clo h ih=>exact .clo ih
 | agg h ih=>exact .agg ih
 | tup h ih=>exact .tup ih
 | mp h=>exact .mp (hs _ h)
 | it h=>exact .it (hs _ h)
 | yld h=>exact .yld (hs _ h)
 | raw x ts=>exact .raw x ts
 | osc h=>exact .osc (hs _ h)
theorem Clo.app {D K:aE} {a:AV} (h:Clo K a):Clo (D++K) a:=h.up fun i hi=>by
 rw [jQ];cases D.get i with
 | none=>exact hi
 | some o=>rfl
theorem dF.app {D K:aE} (h3:∀ p∈D,∀ r∈p.2.rows,∀ a∈r,Clo (D++K) a) (h4:dF K):dF (D++K):=by
 intro id o ho;rw [jQ] at ho;cases e:D.get id with
 | some x =>
  rw [e] at ho;cases ho;exact h3 _ (d6 e)
 | none =>
  rw [e] at ho;exact fun r hr a ha=>(h4 id o ho r hr a ha).app
theorem Sub.front {D D' K:aE} (h1:∀ p∈D,K.get p.1=none) (h2:∀ p∈D',D.get p.1=some p.2):Sub (D'++K) (D++K):=by
 intro id o ho;rw [jQ] at ho ⊢;cases e:D'.get id with
 | some x =>
  rw [e] at ho;cases ho;rw [h2 _ (d6 e)]
 | none =>
  rw [e] at ho;cases e2:D.get id with
  | none=>exact ho
  | some x =>
   have:=h1 _ (d6 e2);rw [this] at ho;cases ho
theorem w6.front {G0 D D' K:aE} (h2:∀ p∈D',D.get p.1=some p.2) (h5:∀ p∈D,G0.get p.1=none):w6 G0 (D'++K) (D++K):=by
 intro id hi;have hD:D.get id=none:=by
  cases e:D.get id with
  | none=>rfl
  | some x =>
   have:=h5 _ (d6 e);rw [this] at hi;cases hi
 have hD':D'.get id=none:=by
  cases e:D'.get id with
  | none=>rfl
  | some x =>
   have:=h2 _ (d6 e);rw [hD] at this;cases this
 rw [jQ,jQ,hD,hD']
theorem cY.front {G0:aE} {E E':dG} {K:aE} (D D':aE) (hE:YM E (D'++K) E') (h1:∀ p∈D,K.get p.1=none) (h2:∀ p∈D',D.get p.1=some p.2) (h3:∀ p∈D',∀ r∈p.2.rows,∀ a∈r,Clo (D'++K) a) (h4:dF K)
  (h5:∀ p∈D,G0.get p.1=none):cY G0 E (D++K) E' (D'++K):=by
 intro G hG N a w hs;obtain ⟨I,ι,hr,hst,he⟩:=hs.rel;subst hG;have hsub:=Sub.front h1 h2;refine⟨hs.defers,hs.size,I,ι,hr.restrict hsub (dF.app h3 h4),hst.restrict hsub (w6.front h2 h5),fun t v ht=>?_⟩;obtain ⟨k1,k2⟩:=hE.spec _ (gD ht);obtain ⟨c,hc,hv⟩:=he t v k1;exact⟨c,hc,hv.restrict hsub k2⟩
section
variable {F:Fence} {n:Nat} {P:Program} {b:Frame} {a:Act} {k:List Item} {cs:List Frame} {w:World} {Q:Exit→Act→World→Prop}
theorem nG {c:Code}:step P (lone (b.atR a (.code (.scope c)::k)) cs w)=.next (lone (b.atR a (.code c::.inScope c::k)) cs w) :=step_lone_go (by simp [stepG,stepG.exec,Frame.atR])
theorem JP {c:Code}:step P (lone (b.atR a (.inScope c::k)) cs w)=.next (lone (b.atR a k) cs w) :=step_lone_go (by simp [stepG,stepG.exec,Frame.atR])
theorem y9 {c:Code} (h:c.wpIn F n P (Exit.noGoto Q) a w):(Code.scope c).wpIn F n P Q a w:=by
 intro b k cs hro hb hr;have h0:(lone (b.atR a (.code (.scope c)::k)) cs w).fenced P F:=fenced_calm hb hr rfl;obtain ⟨e,a₁,w₁,hq,harr⟩:=h b (.inScope c::k) cs hro hb hr;cases e with
 | normal=>exact⟨.normal,a₁,w₁,hq,.head h0 nG (StepsIn.trans harr (.one (fenced_calm hb hr rfl) JP))⟩
 | exit id =>
  have hx:exitTo id (.inScope c::k)=exitTo id k:=by simp [exitTo]
  exact⟨_,a₁,w₁,hq,fun k' hk=>.head h0 nG (harr.1 k' (by rw [hx];exact hk)),
   fun hr' hk=>let ⟨k₁,h1,h2⟩:=harr.2 hr' (by rw [hx];exact hk);⟨k₁,h1,.head h0 nG h2⟩⟩
 | goto l=>exact hq.elim
 | ret=>exact⟨_,a₁,w₁,hq,.of_steps (.one h0 nG) harr⟩
 | panic ch=>exact⟨_,a₁,w₁,hq,.of_steps (.one h0 nG) harr⟩
 | outgrown=>exact⟨_,a₁,w₁,hq,.of_steps (.one h0 nG) harr⟩
end
def aEP (Q:Exit→dG→aE→Prop):Exit→dG→aE→Prop
 | .goto _,_,_=>False
 | e,E,H=>Q e E H
theorem X2 {P:Program} {G0:aE} {N:Nat} {E:dG} {H:aE} {Q:Exit→dG→aE→Prop} {c:Code} (h:iB P G0 N c (aEP Q) E H):iB P G0 N (.scope c) Q E H:=by intro G hG a w hs ro hr;refine y9 (wpIn_mono (h G hG a w hs ro hr) ?_);rintro e a' w' ⟨E',H',q,s⟩;cases e<;>first|exact⟨E',H',q,s⟩|exact q.elim
theorem sG {P:Program} {G0:aE} {N:Nat} {E:dG} {H H2:aE} {ops:Array Oper} {id n t:Nat} {d:Bool} {X:Bool} {Q:Exit→dG→aE→Prop} (h:iB P G0 N (.region id ops d) (fun e E1 H1=>e=.normal∧MB n t X E H2 E1 H1) E H) (hk:Q .normal ((t,.pv (.bool X))::E) H2):iB P G0 N (.region id ops d) Q E H:=by intro G hG a w hs ro hr;refine wpIn_mono (h G hG a w hs ro hr) ?_;rintro e a' w' ⟨E1,H1,⟨rfl,hm⟩,hs'⟩;exact⟨_,_,hk,(hm.ent (G0:=G0)) G hG N a' w' hs'⟩
def CV (H:aE):aE→Prop
 | []=>True
 | (_,o)::r=>(∀ r∈o.rows,∀ a∈r,Clo H a)∧CV H r
theorem CV.spec {H:aE}:∀ {L:aE},CV H L→∀ p∈L,∀ r∈p.2.rows,∀ a∈r,Clo H a
 | (i,o)::L,h,p,hp=>by
  rcases aJD.1 hp with rfl|hp
  ·exact h.1
  exact CV.spec h.2 p hp
theorem dF.ofL {H:aE} (h:CV H H):dF H:=fun _ _ ho=>h.spec _ (d6 ho)
def lo (D:aE) (n:Nat):Prop:=∀ p∈D,900≤p.1∧p.1 < n
def clear (K:aE):Prop:=∀ i,900≤i→i < 1000→K.get i=none
theorem Fin.of_ent {G0 H H':aE} {r r':AV} (h:cY G0 [(0,r)] H [(0,r')] H'):Fin G0 H r H' r':=by
 intro G hG I ι w v h1 h2 h3;obtain ⟨_,_,I',ι',k1,k2,k3⟩:=h G hG 1 ⟨#[v],[]⟩ w ⟨zT.nil _ _,rfl,I,ι,h1,h2,fun t x hx=>by
  simp only [dG.get] at hx;cases e:Nat.beq 0 t with
  | true=>rw [e] at hx;cases hx;rw [← Nat.eq_of_beq_eq_true e];exact⟨v,rfl,h3⟩
  | false=>rw [e] at hx;cases hx⟩
 obtain ⟨c,hc,hv⟩:=k3 0 r' rfl;cases hc;exact⟨I',ι',k1,k2,hv⟩
theorem Sub.front' {D D' K:aE} (h1:∀ p∈D,(D'.get p.1).isSome=true∨K.get p.1=none) (h2:∀ p∈D',D.get p.1=some p.2):Sub (D'++K) (D++K):=by
 intro id o ho;rw [jQ] at ho ⊢;cases e:D'.get id with
 | some x =>
  rw [e] at ho;cases ho;rw [h2 _ (d6 e)]
 | none =>
  rw [e] at ho;cases e2:D.get id with
  | none=>exact ho
  | some x =>
   rcases h1 _ (d6 e2)with h|h
   ·simp only [e] at h;cases h
   rw [h] at ho;cases ho
theorem w6.front' {G0 D D' K:aE} (h2:∀ p∈D',D.get p.1=some p.2) (h5:∀ p∈D,(D'.get p.1).isSome=true∨G0.get p.1=none):w6 G0 (D'++K) (D++K):=by
 intro id hi;rw [jQ,jQ];cases e:D'.get id with
 | some x=>rw [h2 _ (d6 e)]
 | none =>
  cases e2:D.get id with
  | none=>rfl
  | some x =>
   rcases h5 _ (d6 e2)with h|h
   ·simp only [e] at h;cases h
   rw [h] at hi;cases hi
theorem cY.front' {G0:aE} {E E':dG} {K:aE} (D D':aE) (hE:YM E (D'++K) E') (h1:∀ p∈D,(D'.get p.1).isSome=true∨K.get p.1=none) (h2:∀ p∈D',D.get p.1=some p.2) (h3:∀ p∈D',∀ r∈p.2.rows,∀ a∈r,Clo (D'++K) a) (h4:dF K)
  (h5:∀ p∈D,(D'.get p.1).isSome=true∨G0.get p.1=none):cY G0 E (D++K) E' (D'++K):=by
 intro G hG N a w hs;obtain ⟨I,ι,hr,hst,he⟩:=hs.rel;subst hG;have hsub:=Sub.front' h1 h2;refine⟨hs.defers,hs.size,I,ι,hr.restrict hsub (dF.app h3 h4),hst.restrict hsub (w6.front' h2 h5),fun t v ht=>?_⟩;obtain ⟨k1,k2⟩:=hE.spec _ (gD ht);obtain ⟨c,hc,hv⟩:=he t v k1;exact⟨c,hc,hv.restrict hsub k2⟩
theorem Fin.front' {G0 K:aE} {r:AV} (D D':aE) (hr:Clo (D'++K) r) (h1:∀ p∈D,(D'.get p.1).isSome=true∨K.get p.1=none) (h2:∀ p∈D',D.get p.1=some p.2) (h3:∀ p∈D',∀ r∈p.2.rows,∀ a∈r,Clo (D'++K) a) (h4:dF K)
  (h5:∀ p∈D,(D'.get p.1).isSome=true∨G0.get p.1=none):Fin G0 (D++K) r (D'++K) r:=by
 intro G hG I ι w v k1 k2 k3;subst hG;have hsub:=Sub.front' h1 h2;exact⟨I,ι,k1.restrict hsub (dF.app h3 h4),k2.restrict hsub (w6.front' h2 h5),k3.restrict hsub hr⟩
theorem Fin.get' {G0 H H':aE} {r:AV} (hH:∀ j,H'.get j=H.get j):Fin G0 H r H' r:=Fin.of_ent (cY.get' ⟨⟨_,rfl,rfl⟩,trivial⟩ hH)
end
section
theorem j8 {w:World} {I:Nat→Prop} {ι:fF} {H:aE} {v:Value} {id g off len c:Nat} {ob:Ob} (h:VRel w I ι H v (.osc id g off len c)) (hH:H.get id=some ob) (hg:ob.g=g) :
  0 < ob.sz∧len≤c∧((∃ b oo,ι id=some (b,off+c)∧v=.slice (some ⟨b,oo,none⟩) len c∧(0 < c∨off=0→oo=off*ob.sz))∨(ι id=none∧v=.slice none 0 0∧off=0∧len=0∧c=0)):=by
 cases h with
 | osc o' h1 h2 _ h3 =>
  rw [hH] at h1;cases h1;exact h3 hg
theorem M1 {w:World} {I:Nat→Prop} {ι:fF} {H:aE} {v:Value} {id g off len:Nat} {ob:Ob} (hr:Rel I ι H w) (h:VRel w I ι H v (.osl id g off len)) (hH:H.get id=some ob) (hg:ob.g=g) :
  ∃ c,len≤c∧c≤maxLen∧VRel w I ι H v (.osc id g off len c):=by
 have hz:=lS h hH hg;obtain ⟨h1,⟨b,cap,oo,h2,h3,h4⟩|⟨h2,h3,h4,h5⟩⟩:=gH h hH hg
 ·obtain ⟨_,_,⟨b',cap',cs,e1,e2,e3,e4,e5,e6,e7⟩|⟨e1,_⟩⟩:=(hr.obj id ob hH).cells hz
  ·rw [h2] at e1;cases e1;refine⟨cap - off,by omega,by omega,?_⟩;subst h3;refine .osc ob hH (by omega) rfl fun _=>⟨hz,by omega,.inl ⟨b,oo,?_,rfl,fun hh=>h4 (by omega)⟩⟩;rw [h2];congr 2;omega
  rw [h2] at e1;cases e1
 subst h3 h4 h5;exact⟨0,aIx _,aJI _,.osc ob hH (by omega) rfl fun _=>⟨hz,aIx _,.inr ⟨h2,rfl,rfl,rfl,rfl⟩⟩⟩
theorem aDH {w:World} {I:Nat→Prop} {ι:fF} {H:aE} {v:Value} {id g off len c:Nat} {ob:Ob} (h:VRel w I ι H v (.osc id g off len c)) (hH:H.get id=some ob) (hg:ob.g=g) (hl:off+len≤ob.rows.length) :
  VRel w I ι H v (.osl id g off len):=by
 obtain ⟨hz,h1,⟨b,oo,h2,h3,h4⟩|⟨h2,h3,h4,h5,h6⟩⟩:=j8 h hH hg
 ·subst h3;refine .osl ob hH (by omega) rfl fun _=>⟨hz,hl,.inl ⟨b,off+c,oo,h2,?_,fun hh=>h4 (by omega)⟩⟩;congr 1;omega
 subst h3 h4 h5;exact .osl ob hH (by omega) rfl fun _=>⟨hz,hl,.inr ⟨h2,rfl,rfl,rfl⟩⟩
section
variable {P:Program} {G0:aE} {N:Nat} {Q:Exit→dG→aE→Prop} {E:dG} {H:aE} {code:Code}
theorem VC {t id g off n:Nat} {ob:Ob} (hx:E.get t=some (.osl id g off n)) (hH:H.get id=some ob) (hg:ob.g=g) (h:∀ c,n≤c→c≤maxLen→iB P G0 N code Q ((t,.osc id g off n c)::E) H):iB P G0 N code Q E H:=by
 intro G hG a w hs;obtain ⟨I,ι,hr,hst,he⟩:=hs.rel;obtain ⟨v,hv,hvr⟩:=he t _ hx;obtain ⟨c,h1,h2,h3⟩:=M1 hr hvr hH hg;refine h c h1 h2 G hG a w ⟨hs.defers,hs.size,I,ι,hr,hst,fun u x hu=>?_⟩;by_cases e:t=u
 ·subst e;rw [dG.get_cons_same] at hu;cases hu;exact⟨v,hv,h3⟩
 rw [dG.get_cons_other _ _ e] at hu;exact he u x hu
theorem u7 {t id g off n c:Nat} {ob:Ob} (hx:E.get t=some (.osc id g off n c)) (hH:H.get id=some ob) (hg:ob.g=g) (hl:off+n≤ob.rows.length) (h:iB P G0 N code Q ((t,.osl id g off n)::E) H):iB P G0 N code Q E H:=by
 intro G hG a w hs;obtain ⟨I,ι,hr,hst,he⟩:=hs.rel;obtain ⟨v,hv,hvr⟩:=he t _ hx;refine h G hG a w ⟨hs.defers,hs.size,I,ι,hr,hst,fun u x hu=>?_⟩;by_cases e:t=u
 ·subst e;rw [dG.get_cons_same] at hu;cases hu;exact⟨v,hv,aDH hvr hH hg hl⟩
 rw [dG.get_cons_other _ _ e] at hu;exact he u x hu
end
section
variable {P:Program} {N:Nat} {o:Oper} {E:dG} {H:aE} {T:TypeId} {x y:Operand}
theorem s7 {e:TypeId} {id g off len c:Nat} {ob:Ob} (ho:o.op=.call {callee:=.builtin .cap,args:=#[x],argTypes:=#[T]}) (ht:P.underlying T=some (.slice e)) (hx:aW E x=some (.osc id g off len c)) (hH:H.get id=some ob) (hg:ob.g=g):dQ P N o E H (.pv (.int .i64 c)) H :=.of_run fun a w I ι _ he=>⟨.int .i64 c,by
  obtain ⟨_,_,⟨b,oo,_,e1,_⟩|⟨_,e1,_,_,e2⟩⟩:=j8 (aM he hx) hH hg
  ·simp [execOp,ho,resolve,invoke,builtin,e1,Builtin.cap_,run_underlying ht,goInt]
  simp [execOp,ho,resolve,invoke,builtin,e1,e2,Builtin.cap_,run_underlying ht,goInt],.pv (.int _ _)⟩
theorem lT {e:TypeId} {id g off len c:Nat} {ob:Ob} (ho:o.op=.call {callee:=.builtin .len,args:=#[x],argTypes:=#[T]}) (ht:P.underlying T=some (.slice e)) (hx:aW E x=some (.osc id g off len c)) (hH:H.get id=some ob) (hg:ob.g=g):dQ P N o E H (.pv (.int .i64 len)) H :=.of_run fun a w I ι _ he=>⟨.int .i64 len,by
  obtain ⟨_,_,⟨b,oo,_,e1,_⟩|⟨_,e1,_,e2,_⟩⟩:=j8 (aM he hx) hH hg
  ·simp [execOp,ho,resolve,invoke,builtin,e1,Builtin.len_,run_underlying ht,goInt]
  simp [execOp,ho,resolve,invoke,builtin,e1,e2,Builtin.len_,run_underlying ht,goInt],.pv (.int _ _)⟩
theorem gL {e:TypeId} {lo hi:Option Operand} {id g off len c off2 len2 c2 l h sz:Nat} {ob:Ob} (ho:o.op=.slice T x lo hi none) (hS:eH P T e sz) (hx:aW E x=some (.osc id g off len c))
  (hH:H.get id=some ob) (hg:ob.g=g) (hsz:ob.sz=sz) (hlo:KA E lo 0=some (l:Int)) (hhi:KA E hi len=some (h:Int)) (h1:l≤h) (h2:h≤c) (ho2:off+l=off2) (hl2:h - l=len2) (hc2:c - l=c2):dQ P N o E H (.osc id g off2 len2 c2) H :=
 .of_run fun a w I ι hr he=>by
  have hv:=aM he hx;obtain ⟨hz,hle,hcase⟩:=j8 hv hH hg;have hT:=hS.1;have hs:=hS.2.1;have hTe:P.elem T=e:=by simp [Program.elem,hT]
  have hT':P.underlying T=some (.slice (P.elem T)):=by rw [hTe,hT]
  subst ho2 hl2 hc2 hsz;rcases hcase with⟨b,oo,h3,h4,h5⟩|⟨h3,h4,h5,h6,h7⟩
  ·have hb:=kS (P:=P) (b:=true) (len:=len) (cap:=c) he hlo hhi h1 h2;have hrun:=run_slice_any (P:=P) w T (some ⟨b,oo,none⟩) len c hT' (lo.map a.eval) (hi.map a.eval) none;refine⟨.slice (some ⟨b,if c=l then oo else oo+l*ob.sz,none⟩) (h - l) (c - l),?_,.osc ob hH (by omega) rfl fun _=>⟨hz,by omega,.inl ⟨b,_,?_,rfl,fun hlt=>?_⟩⟩⟩
   ·simp only [execOp,ho,h4];simp only [run_sliceAt_slice w T _ _ _ _ hT',Sem.run_bind,hrun,Option.map_none,hb,hTe,hs,sliced,Result.andThen_ok,Sem.run_pure];by_cases ec:c=l
    ·simp [ec]
    simp [ec,Addr.add_lit]
   ·rw [h3];congr 2;omega
   by_cases ec:off+l=0
   ·have e0:off=0:=by omega
    have e1:l=0:=by omega
    subst e0 e1;rw [h5 (by omega)];simp
   rw [aIp (by omega),h5 (by omega),Nat.add_mul]
  subst h5 h6 h7;have hh:h=0:=by omega
  have hl:l=0:=by omega
  subst hh hl;have hb:=kS (P:=P) (b:=true) (len:=0) (cap:=0) he hlo hhi h1 (by simp);have hrun:=run_slice_any (P:=P) w T none 0 0 hT' (lo.map a.eval) (hi.map a.eval) none;refine⟨.slice none 0 0,?_,.osc ob hH (by omega) rfl fun _=>⟨hz,by omega,.inr ⟨h3,rfl,rfl,rfl,rfl⟩⟩⟩;simp only [execOp,ho,h4];simp [run_sliceAt_slice w T _ _ _ _ hT',hrun,hb,hTe,hs,sliced]
def aCE (w:World) (I:Nat→Prop) (ι:fF) (H:aE) (sz:Nat) (v:Value) (len:Nat) (rows:List (List AV)):Prop :=(∃ a c news,v=.slice (some a) len c∧rows.length≤len∧news.length=rows.length*sz∧(∀ j u,news[j]?=some u→w.cell? (a.add j)=some u)∧(∀ u∈news,u.oneCell'=true)∧oS w I ι H sz news rows) ∨
 (v=.slice none 0 0∧len=0∧rows=[])
theorem oS.take {w:World} {I:Nat→Prop} {ι:fF} {H:aE} {sz:Nat} {l:List Value} {rows:List (List AV)} (h:oS w I ι H sz l rows) (hl:∀ r∈rows,r.length=sz) (k:Nat):oS w I ι H sz (l.take (k*sz)) (rows.take k):=by
 intro i r hi j a hj;rw [List.getElem?_take] at hi
 split at hi
 ·obtain ⟨u,q1,q2,q3⟩:=h i r hi j a hj;have hjs:j < sz:=by rw [← hl r (aJB hi)];exact(aIv.1 hj).1
  refine⟨u,?_,q2,q3⟩;rw [List.getElem?_take,aIq]
  ·exact q1
  have:(i+1)*sz≤k*sz:=Nat.mul_le_mul_right _ (by omega);rw [Nat.add_mul] at this;omega
 cases hi
theorem oS.drop {w:World} {I:Nat→Prop} {ι:fF} {H:aE} {sz:Nat} {l:List Value} {rows:List (List AV)} (h:oS w I ι H sz l rows) (k:Nat):oS w I ι H sz (l.drop (k*sz)) (rows.drop k):=by intro i r hi j a hj;rw [List.getElem?_drop] at hi;obtain ⟨u,q1,q2,q3⟩:=h _ r hi j a hj;refine⟨u,?_,q2,q3⟩;rw [List.getElem?_drop];rw [Nat.add_mul] at q1;rw [← Nat.add_assoc];exact q1
theorem G3 {w:World} {I:Nat→Prop} {ι:fF} {H:aE} {sz id g off len c:Nat} {ob:Ob} {v:Value} (hr:Rel I ι H w) (h:VRel w I ι H v (.osc id g off len c)) (hH:H.get id=some ob) (hg:ob.g=g) (hsz:ob.sz=sz) (k:Nat) (hk:k≤len) (hk2:off+k≤ob.rows.length) :
  aCE w I ι H sz v len ((ob.rows.drop off).take k):=by
 obtain ⟨hz,h1,⟨b,oo,h2,h3,h4⟩|⟨h2,h3,h4,h5,h6⟩⟩:=j8 h hH hg
 ·have hv:VRel w I ι H (.slice (some ⟨b,oo,none⟩) k c) (.osl id g off k) :=
   .osl ob hH (by omega) rfl fun _=>⟨hz,hk2,.inl ⟨b,off+c,oo,h2,by congr 1;omega,fun hh=>h4 (by omega)⟩⟩
  have hlen:((ob.rows.drop off).take k).length=k:=by rw [aJF,aJG];omega
  rcases T0 hr hv hH hg hsz with⟨a,c',news,s1,s2,s3,s4,s5⟩|⟨s1,s2⟩
  ·injection s1 with q1 q2 q3;injection q1 with q1;subst q1;exact .inl ⟨_,c,news,h3,by omega,s2,s3,s4,s5⟩
  cases s1
 subst h4 h5;have:k=0:=by omega
 subst this;exact .inr ⟨h3,rfl,by simp⟩
theorem ZT {w:World} {I:Nat→Prop} {ι:fF} {H:aE} {sz id g off len:Nat} {ob:Ob} {v:Value} (hr:Rel I ι H w) (h:VRel w I ι H v (.osl id g off len)) (hH:H.get id=some ob) (hg:ob.g=g) (hsz:ob.sz=sz) (k:Nat) (hk:k≤len) :
  aCE w I ι H sz v len ((ob.rows.drop off).take k):=by
 obtain ⟨c,h1,h2,h3⟩:=M1 hr h hH hg;have:=(gH h hH hg).1;exact G3 hr h3 hH hg hsz k hk (by omega)
theorem Rel.write {I:Nat→Prop} {ι:fF} {H H':aE} {w:World} {id b cap off g2:Nat} {ob:Ob} {cs:Array Value} {news:List Value} {rows2:List (List AV)} (hr:Rel I ι H w) (hH:H.get id=some ob) (hι:ι id=some (b,cap)) (hb:w.heap[b]?=some (.cells cs ob.ty (0,0)))
  (hn:news.length=rows2.length*ob.sz) (hl:oS w I ι H ob.sz news rows2) (hl2:∀ r∈rows2,r.length=ob.sz) (ho:off≤ob.rows.length) (hc:off+rows2.length≤cap) (hg2:ob.g≤g2)
  (h1:H'.get id=some ⟨g2,ob.sz,ob.ty,ob.rows.take off++(rows2++ob.rows.drop (off+rows2.length))⟩) (h2:∀ j,j≠id→H'.get j=H.get j) :
  Rel I ι H' (w.setRow b (cs.toList.take (off*ob.sz)++news++cs.toList.drop (off*ob.sz+news.length)).toArray)∧Step I ι H w I ι H' (w.setRow b (cs.toList.take (off*ob.sz)++news++cs.toList.drop (off*ob.sz+news.length)).toArray):=by
 obtain ⟨p1,p2,⟨b',cap',cs',e1,e2,e3,e4,e5,e5',e6⟩|⟨e1,_⟩⟩:=(hr.obj id ob hH).cells ((hr.obj id ob hH).pos hι hb)
 ·rw [hι] at e1;cases e1;rw [hb] at e2;cases e2;have hall:oS w I ι H ob.sz cs.toList ob.rows:=fun i r hi k a hk=>by
   obtain ⟨v,q1,q2,q3⟩:=e6 i r hi k a hk;exact⟨v,by simpa using q1,q2,q3⟩
  have hoc:off≤cap:=by omega
  have hlt:(cs.toList.take (off*ob.sz)).length=(ob.rows.take off).length*ob.sz:=by
   have:off*ob.sz≤cap*ob.sz:=Nat.mul_le_mul_right _ hoc;rw [aJF,aJF,Array.length_toList,e4,Nat.min_eq_left this,Nat.min_eq_left ho]
  have hnl:off*ob.sz+news.length=(off+rows2.length)*ob.sz:=by rw [hn,Nat.add_mul]
  have htail:oS w I ι H ob.sz (news++(cs.toList.drop (off*ob.sz+news.length)++[])) (rows2++ob.rows.drop (off+rows2.length)):=by
   refine oS.app hl hn ?_;rw [hnl];exact hall.drop _
  rw [List.append_nil] at htail;have hfin:=oS.app (l3:=[]) (hall.take p2 off) hlt htail;rw [List.append_nil] at hfin;have hsize:(cs.toList.take (off*ob.sz)++news++cs.toList.drop (off*ob.sz+news.length)).toArray.size=cap*ob.sz:=by
   have:(off+rows2.length)*ob.sz≤cap*ob.sz:=Nat.mul_le_mul_right _ hc;simp only [List.size_toArray,aIs,aJF,aJG,Array.length_toList,e4];omega
  refine Rel.update (ob':=⟨g2,ob.sz,ob.ty,ob.rows.take off++(rows2++ob.rows.drop (off+rows2.length))⟩) hr hH hι hb hg2 rfl rfl (fun _=>?_) hsize ?_ (fun r hr'=>?_) (fun i r hi k a hk=>?_) h1 h2
  ·simp only [aIs,aJF,aJG];omega
  ·simp only [aIs,aJF,aJG];omega
  ·rcases List.mem_append.1 hr' with h|h
   ·exact p2 r (List.mem_of_mem_take h)
   rcases List.mem_append.1 h with h|h
   ·exact hl2 r h
   exact p2 r (List.mem_of_mem_drop h)
  obtain ⟨u,q1,q2,q3⟩:=hfin i r hi k a hk;refine⟨u,?_,q2,q3⟩;rw [List.getElem?_toArray,List.append_assoc];exact q1
 rw [hι] at e1;cases e1
theorem C4 {off n:Nat} {rows:List (List AV)} (h:n=0):rows.take off++([]++rows.drop (off+n))=rows:=by subst h;simp
theorem aAZ {D S e:TypeId} {id g off len len2 n sz:Nat} {ob:Ob} {rows2:List (List AV)} {H2:aE} (ho:o.op=.call {callee:=.builtin .copy,args:=#[x,y],argTypes:=#[D,S]}) (hS:eH P D e sz)
  (hd:∀ (a:Act) (w:World) (I:Nat→Prop) (ι:fF),Rel I ι H w→mN w I ι H E a→∃ c,VRel w I ι H (a.eval x) (.osc id g off len c)) (hH:H.get id=some ob) (hg:ob.g=g) (hsz:ob.sz=sz) (hoff:off≤ob.rows.length)
  (hsrc:∀ (a:Act) (w:World) (I:Nat→Prop) (ι:fF),Rel I ι H w→mN w I ι H E a→aCE w I ι H sz (a.eval y) len2 rows2) (hrl2:∀ r∈rows2,r.length=sz) (hn:rows2.length=n) (hmin:min len2 len=n)
  (hH2:∀ j,H2.get j=(H.set id ⟨g,sz,ob.ty,ob.rows.take off++(rows2++ob.rows.drop (off+n))⟩).get j):dQ P N o E H (.pv (.int .i64 n)) H2:=by
 intro a w I ι _ _ hr he K Q hk;obtain ⟨c,hv⟩:=hd a w I ι hr he;obtain ⟨hz,h1,hcase⟩:=j8 hv hH hg;have hmin':Nat.min len2 len=n:=hmin;have hs:=hS.2.1;have hD:=hS.1;subst hg hsz;have hpure:n=0→(∀ j,H2.get j=H.get j):=fun h0 j=>by
  rw [hH2 j];have hr0:rows2=[]:=List.eq_nil_of_length_eq_zero (by omega);subst hr0;rw [C4 h0];by_cases e:j=id
  ·subst e;rw [aE.get_set_same,hH]
  exact aE.get_set_other _ _ e
 have hfirst:∀ news:List Value,∀ ad c',a.eval y=.slice (some ad) len2 c'→news.length=n*ob.sz→(∀ j u,news[j]?=some u→w.cell? (ad.add j)=some u)→(Builtin.firstCells ob.sz n (a.eval y)).run P w=.ok news.toArray w:=fun news ad c' e1 e2 e3=>by
  rw [e1];exact run_firstCells_some (P:=P) w ob.sz n ad len2 c' news e2 e3
 rcases hcase with⟨b,oo,c1,c2,c3⟩|⟨c1,c2,c3,c4,c5⟩
 ·by_cases hn0:n=0
  ·obtain ⟨k2,k3⟩:=hr.congr (hpure hn0);have hrun:(execOp a.eval o).run P w=.ok (.value (.int .i64 ((0:Nat):Int))) w:=by
    unfold execOp;have hfc:(Builtin.firstCells ob.sz n (a.eval y)).run P w=.ok #[] w:=by
     rcases hsrc a w I ι hr he with⟨ad,c',news,s1,s2,s3,s4,s5,s6⟩|⟨s1,s2,s3⟩
     ·have:=hfirst news ad c' s1 (by rw [s3,hn]) s4;have hnn:news=[]:=List.eq_nil_of_length_eq_zero (by rw [s3,hn,hn0];simp);rw [this,hnn]
     rw [s1];exact run_firstCells_none (P:=P) (w:=w) ob.sz n 0 0
    have hlen:(Builtin.lenOf (a.eval y)).run P w=.ok len2 w:=by
     rcases hsrc a w I ι hr he with⟨ad,c',news,s1,s2,s3,s4,s5,s6⟩|⟨s1,s2,s3⟩
     ·rw [s1];rfl
     rw [s1,s2];rfl
    simp only [ho,resolve,invoke,builtin,Sem.run_bind,Sem.run_pure,Result.andThen_ok,List.map_toArray,List.map_cons,List.map_nil,c2,Builtin.copy_,run_underlying hD,hs];simp only [List.getElem?_toArray,List.getElem?_cons_zero,List.getElem?_cons_succ,run_underlying hD,Sem.run_bind,Sem.run_pure,Result.andThen_ok,hs,hlen,hmin',hfc];simp [storeCells,goInt,hn0]
   unfold Oper.wpW;rw [hrun];subst hn0;exact hk _ _ I ι _ _ ⟨rfl,rfl⟩ (.pv (.int _ _)) k2 k3
  obtain ⟨p1,p2,⟨b',cap',cs,e1,e2,e3,e4,e5,e5',e6⟩|⟨e1,_⟩⟩:=(hr.obj id ob hH).cells hz
  ·rw [c1] at e1;cases e1;have hoo:=c3 (by omega);subst hoo;rcases hsrc a w I ι hr he with⟨ad,c',news,s1,s2,s3,s4,s5,s6⟩|⟨s1,s2,s3⟩
   ·have hnl:news.length=n*ob.sz:=by rw [s3,hn]
    have hfc:=hfirst news ad c' s1 hnl s4;have hfit:off*ob.sz+0+news.length≤cs.size:=by
     rw [e4,hnl,Nat.add_zero,← Nat.add_mul];exact Nat.mul_le_mul_right _ (by omega)
    have hst:=run_storeCells_at P b (off*ob.sz) ob.ty news 0 cs w e2 hfit s5;simp only [Nat.add_zero] at hst;obtain ⟨k2,k3⟩:=Rel.write (H':=H2) (off:=off) (g2:=ob.g) hr hH c1 e2 s3 s6 hrl2 hoff (by omega) (aIx _) (by rw [hH2,aE.get_set_same,hn]) (fun j hj=>by rw [hH2,aE.get_set_other _ _ hj]);unfold Oper.wpW execOp;simp only [ho,resolve,invoke,builtin,Sem.run_bind,Sem.run_pure,Result.andThen_ok,List.map_toArray,List.map_cons,List.map_nil,c2,Builtin.copy_,run_underlying hD,hs];have hlen:(Builtin.lenOf (a.eval y)).run P w=.ok len2 w:=by rw [s1];rfl
    simp only [List.getElem?_toArray,List.getElem?_cons_zero,List.getElem?_cons_succ,run_underlying hD,Sem.run_bind,Sem.run_pure,Result.andThen_ok,hs,hlen,hmin',hfc,hst];exact hk _ _ I ι _ _ ⟨rfl,rfl⟩ (.pv (.int _ _)) k2 k3
   omega
  rw [c1] at e1;cases e1
 have hn0:n=0:=by omega
 obtain ⟨k2,k3⟩:=hr.congr (hpure hn0);have hrun:(execOp a.eval o).run P w=.ok (.value (.int .i64 ((0:Nat):Int))) w:=by
  unfold execOp;have hfc:(Builtin.firstCells ob.sz n (a.eval y)).run P w=.ok #[] w:=by
   rcases hsrc a w I ι hr he with⟨ad,c',news,s1,s2,s3,s4,s5,s6⟩|⟨s1,s2,s3⟩
   ·have:=hfirst news ad c' s1 (by rw [s3,hn]) s4;have hnn:news=[]:=List.eq_nil_of_length_eq_zero (by rw [s3,hn,hn0];simp);rw [this,hnn]
   rw [s1];exact run_firstCells_none (P:=P) (w:=w) ob.sz n 0 0
  have hlen:(Builtin.lenOf (a.eval y)).run P w=.ok len2 w:=by
   rcases hsrc a w I ι hr he with⟨ad,c',news,s1,s2,s3,s4,s5,s6⟩|⟨s1,s2,s3⟩
   ·rw [s1];rfl
   rw [s1,s2];rfl
  rw [c4] at hmin';simp only [ho,resolve,invoke,builtin,Sem.run_bind,Sem.run_pure,Result.andThen_ok,List.map_toArray,List.map_cons,List.map_nil,c2,Builtin.copy_,run_underlying hD,hs];simp only [List.getElem?_toArray,List.getElem?_cons_zero,List.getElem?_cons_succ,run_underlying hD,Sem.run_bind,Sem.run_pure,Result.andThen_ok,hs,hlen,hmin',hfc];simp [storeCells,goInt,hn0]
 unfold Oper.wpW;rw [hrun];subst hn0;exact hk _ _ I ι _ _ ⟨rfl,rfl⟩ (.pv (.int _ _)) k2 k3
end
end
section
section
variable {P:Program} {N:Nat} {o:Oper} {E:dG} {H:aE} {T:TypeId} {x y:Operand}
theorem JR (t ty e:TypeId) (i:TypeInfo) (ht:P.underlying t=some (.slice e)) (hi:P.info? e=some i) {w:World}
  (g off sLen sCap:Nat) (cur:Array Value) (hg:w.heap[g]?=some (.cells cur e (0,0)))
  (a:Addr) (m c:Nat) (news:List Value) (hl:news.length=m*i.size) (hnews:∀ j u,news[j]?=some u→w.cell? (a.add j)=some u) (h1:∀ u∈news,u.oneCell'=true)
  (hroom:sLen+m≤sCap) (hfit:off+sLen*i.size+news.length≤cur.size) :
  (Builtin.append_ #[t,t] ty #[.slice (some ⟨g,off,none⟩) sLen sCap,.slice (some a) m c]).run P w =
   .ok (.slice (some ⟨g,off,none⟩) (sLen+m) sCap) (w.setRow g (cur.toList.take (off+sLen*i.size)++news++cur.toList.drop (off+sLen*i.size+news.length)).toArray):=by
 have hf:=run_firstCells_some (P:=P) w i.size m a m c news hl hnews;have hst:=run_storeCells_at P g (off+sLen*i.size) e news 0 cur w hg (by simpa using hfit) h1;simp only [Nat.add_zero] at hst;have hadd:(⟨g,off,none⟩:Addr).add (sLen*i.size)=⟨g,off+sLen*i.size,none⟩:=Addr.add_lit _ _ _;simp [Builtin.append_,run_underlying ht,sizeOf,typeInfo,hi,Builtin.lenOf,hroom,hf,hadd,hst]
theorem JN {e:TypeId} {id g off n c m k sz bytes:Nat} {ob:Ob} {rows2 rows':List (List AV)} (ho:o.op=.call {callee:=.builtin .append,args:=#[x,y],argTypes:=#[T,T]}) (hS:eH P T e sz) (hinf:EI P e sz bytes)
  (hx:aW E x=some (.osc id g off n c)) (hH:H.get id=some ob) (hg:ob.g=g) (hosz:ob.sz=sz) (hty:ob.ty=e) (hon:off+n≤ob.rows.length)
  (hsrc:∀ (a:Act) (w:World) (I:Nat→Prop) (ι:fF),Rel I ι H w→mN w I ι H E a→aCE w I ι H sz (a.eval y) m rows2) (hrl2:∀ r∈rows2,r.length=sz) (hm:rows2.length=m) (hroom:n+m≤c) (hk:n+m=k)
  (hrows:ob.rows.take (off+n)++(rows2++ob.rows.drop (off+n+m))=rows'):dQ P N o E H (.osc id g off k c) ((id,⟨g,sz,e,rows'⟩)::H):=by
 intro a w I ι _ _ hr he K Q hkk;obtain ⟨⟨i,z,hi,hz,hsize,hby,hzs,hsz0⟩,_⟩:=hinf;subst hg hosz hty hk hrows;have hv:=aM he hx;obtain ⟨hzp,h1,hcase⟩:=j8 hv hH rfl;have hT:=hS.1;have hH2:∀ j,aE.get ((id,(⟨ob.g,ob.sz,ob.ty,ob.rows.take (off+n)++(rows2++ob.rows.drop (off+n+m))⟩:Ob))::H) j=(H.set id ⟨ob.g,ob.sz,ob.ty,ob.rows.take (off+n)++(rows2++ob.rows.drop (off+n+m))⟩).get j:=nY _ _ _;have hfin:∀ (v':Value) (w':World),(Builtin.append_ #[T,T] o.type #[a.eval x,a.eval y]).run P w=.ok v' w'→VRel w' I ι ((id,⟨ob.g,ob.sz,ob.ty,ob.rows.take (off+n)++(rows2++ob.rows.drop (off+n+m))⟩)::H) v' (.osc id ob.g off (n+m) c) →
   Rel I ι ((id,⟨ob.g,ob.sz,ob.ty,ob.rows.take (off+n)++(rows2++ob.rows.drop (off+n+m))⟩)::H) w'→Step I ι H w I ι ((id,⟨ob.g,ob.sz,ob.ty,ob.rows.take (off+n)++(rows2++ob.rows.drop (off+n+m))⟩)::H) w'→o.wpW P a w K Q:=by
  intro v' w' hrun k1 k2 k3;unfold Oper.wpW execOp;simp only [ho,resolve,invoke,builtin,Sem.run_bind,Sem.run_pure,Result.andThen_ok,List.map_toArray,List.map_cons,List.map_nil,hrun];exact hkk v' w' I ι _ _ ⟨rfl,rfl⟩ k1 k2 k3
 have hsame:rows2=[]→m=0→∀ j,aE.get ((id,(⟨ob.g,ob.sz,ob.ty,ob.rows.take (off+n)++(rows2++ob.rows.drop (off+n+m))⟩:Ob))::H) j=H.get j:=fun h2 h3 j=>by
  subst h2;rw [C4 h3];by_cases e:j=id
  ·subst e;rw [get_cons_same,hH]
  exact get_cons_other _ _ e
 rcases hsrc a w I ι hr he with⟨ad,c',news,s1,s2,s3,s4,s5,s6⟩|⟨s1,s2,s3⟩
 ·rcases hcase with⟨b,oo,c1,c2,c3⟩|⟨c1,c2,c3,c4,c5⟩
  ·obtain ⟨p1,p2,⟨b',cap',cs,e1,e2,e3,e4,e5,e5',e6⟩|⟨e1,_⟩⟩:=(hr.obj id ob hH).cells hzp
   ·rw [c1] at e1;cases e1;by_cases hc0:0 < c∨off=0
    ·have hoo:=c3 hc0;subst hoo;have hpos:off*ob.sz+n*ob.sz=(off+n)*ob.sz:=by rw [Nat.add_mul]
     have hnl:news.length=m*ob.sz:=by rw [s3,hm]
     have hfit:off*ob.sz+n*i.size+news.length≤cs.size:=by
      rw [hsize,hpos,hnl,e4,← Nat.add_mul];exact Nat.mul_le_mul_right _ (by omega)
     have hrun:=JR (P:=P) T o.type ob.ty i hT hi b (off*ob.sz) n c cs e2 ad m c' news (by rw [hsize];exact hnl) s4 s5 hroom hfit;rw [hsize,hpos] at hrun;obtain ⟨k2,k3⟩:=Rel.write (H':=(id,⟨ob.g,ob.sz,ob.ty,ob.rows.take (off+n)++(rows2++ob.rows.drop (off+n+m))⟩)::H) (off:=off+n) (g2:=ob.g) hr hH c1 e2 s3 s6 hrl2 hon (by omega) (aIx _) (by rw [get_cons_same,hm]) (fun j hj=>get_cons_other _ _ hj);refine hfin _ _ (by rw [c2,s1];exact hrun) ?_ k2 k3;exact .osc _ (get_cons_same _ _ _) (aIx _) rfl fun _=>⟨hzp,hroom,.inl ⟨b,_,c1,rfl,fun _=>rfl⟩⟩
    have hn0:n=0:=by omega
    have hm0:m=0:=by omega
    have hr0:rows2=[]:=List.eq_nil_of_length_eq_zero (by omega);have hnews:news=[]:=List.eq_nil_of_length_eq_zero (by rw [s3,hr0];simp);obtain ⟨k2,k3⟩:=hr.congr (hsame hr0 hm0);have hf:=run_firstCells_some (P:=P) w i.size m ad m c' news (by rw [hnews,hm0];simp) s4;refine hfin (.slice (some ⟨b,oo,none⟩) (n+m) c) w ?_ ?_ k2 k3
    ·rw [c2,s1];simp [Builtin.append_,run_underlying hT,sizeOf,typeInfo,hi,Builtin.lenOf,hroom,hf,hnews,storeCells]
    exact .osc _ (get_cons_same _ _ _) (aIx _) rfl fun _=>⟨hzp,hroom,.inl ⟨b,oo,c1,rfl,fun hh=>absurd hh hc0⟩⟩
   rw [c1] at e1;cases e1
  have hm0:m=0:=by omega
  have hr0:rows2=[]:=List.eq_nil_of_length_eq_zero (by omega);have hnews:news=[]:=List.eq_nil_of_length_eq_zero (by rw [s3,hr0];simp);obtain ⟨k2,k3⟩:=hr.congr (hsame hr0 hm0);have hf:=run_firstCells_some (P:=P) w i.size m ad m c' news (by rw [hnews,hm0];simp) s4;refine hfin (.slice none 0 0) w ?_ ?_ k2 k3
  ·rw [c2,s1,hm0];rw [hm0] at hf;simp [Builtin.append_,run_underlying hT,sizeOf,typeInfo,hi,Builtin.lenOf,hf]
  exact .osc _ (get_cons_same _ _ _) (aIx _) rfl fun _=>⟨hzp,hroom,.inr ⟨c1,rfl,c3,by omega,c5⟩⟩
 obtain ⟨k2,k3⟩:=hr.congr (hsame s3 s2);rcases hcase with⟨b,oo,c1,c2,c3⟩|⟨c1,c2,c3,c4,c5⟩
 ·refine hfin (.slice (some ⟨b,oo,none⟩) n c) w ?_ ?_ k2 k3
  ·rw [c2,s1];exact lD (P:=P) (ty:=o.type) (w:=w) hT hi _ n c h1
  rw [s2,Nat.add_zero];exact .osc _ (get_cons_same _ _ _) (aIx _) rfl fun _=>⟨hzp,h1,.inl ⟨b,oo,c1,rfl,c3⟩⟩
 refine hfin (.slice none 0 0) w ?_ ?_ k2 k3
 ·rw [c2,s1];exact lD (P:=P) (ty:=o.type) (w:=w) hT hi _ 0 0 (aIx _)
 exact .osc _ (get_cons_same _ _ _) (aIx _) rfl fun _=>⟨hzp,hroom,.inr ⟨c1,rfl,c3,by omega,c5⟩⟩
theorem oU {w:World} (t tn ty e:TypeId) (i:TypeInfo) (z:Value) (k kn:IntKind) (ht:P.underlying t=some (.slice e)) (htn:P.underlying tn=some (.int kn)) (hi:P.info? e=some i) (hz:i.zero=some z)
  (b:Option Addr) (sLen sCap:Nat) (olds:List Value) (hf:∀ w:World,(∀ a:Addr,w.cell? a=w.cell? a)→True) (hfo:(Builtin.firstCells i.size sLen (.slice b sLen sCap)).run P w.drew=.ok olds.toArray w.drew)
  (n:Nat) (h0:0 < n) (hs:0 < i.size) (hg:sCap < sLen+n) (h63:((sLen+n:Nat):Int)≤9223372036854775807) (hfit:Builtin.nextslicecap (sLen+n) sCap*i.bytes≤281474976710656) (h48:n*i.bytes≤281474976710656) :
  (Builtin.append_ #[t,tn] ty #[.slice b sLen sCap,.int k n]).run P w =
   .ok (.slice (some ⟨w.heap.size,0,none⟩) (sLen+n) (grownCap w (sLen+n) sCap e))
    (w.drew.alloc (.cells (olds.toArray++Builtin.zeroCells z.cells n++Builtin.zeroCells z.cells (grownCap w (sLen+n) sCap e - (sLen+n))) e)):=by
 have hn:¬ (sLen+n≤sCap):=by omega
 have hw:IntKind.i64.wrap (n:Int)=n:=by rw [IntKind.wrap_i64];omega
 have h63':¬ (9223372036854775807 < ((sLen:Int)+(n:Int))):=by omega
 have h48':¬ (281474976710656 < Builtin.nextslicecap (sLen+n) sCap*i.bytes):=by omega
 have h48i:¬ (281474976710656 < (n:Int)*(i.bytes:Int)):=by
  rw [← Int.natCast_mul];omega
 have hneg:¬ ((n:Int) < 0):=by omega
 have hn0:n≠0:=by omega
 have hns:¬ (n*i.size=0):=Nat.mul_ne_zero hn0 (by omega);simp [Builtin.append_,run_underlying ht,run_underlying htn,sizeOf,typeInfo,zeroValue,hi,hz,asInt,asIntOf,hw,hn,hn0,hneg,hns,h63',h48',h48i,Question.forced,hfo,newRow,grownCap]
theorem VN {w:World} {I:Nat→Prop} {ι:fF} {H:aE} {z:Value} {sz:Nat} {row:List AV} (hcr:vA w I ι H z.cells row) (hrow:row.length=sz) (hzs:z.cells.size=sz) (hsz:0 < sz) (n:Nat) :
  (Builtin.zeroCells z.cells n).toList.length=n*sz∧(∀ u∈(Builtin.zeroCells z.cells n).toList,u.oneCell'=true)∧oS w I ι H sz (Builtin.zeroCells z.cells n).toList (List.replicate n row):=by
 have hget:∀ j,j < n*sz→∃ hk:j % sz < z.cells.size,(Builtin.zeroCells z.cells n).toList[j]?=some (z.cells[j % sz]):=by
  intro j hj;have hk:j % sz < z.cells.size:=by rw [hzs];exact Nat.mod_lt _ hsz
  refine⟨hk,?_⟩;rw [Array.getElem?_toList];simp only [Builtin.zeroCells,Array.getElem?_map];rw [Array.getElem?_range,hzs,aIq hj];simp only [Option.map_some];rw [getElem!_pos z.cells (j % sz) hk]
 have hzl:(Builtin.zeroCells z.cells n).toList.length=n*sz:=by rw [Array.length_toList,size_zeroCells,hzs]
 refine⟨hzl,?_,?_⟩
 ·intro u hu;obtain ⟨j,hj⟩:=aJM.1 hu;have hjl:j < n*sz:=by
   have:=(aIv.1 hj).1;rw [hzl] at this;exact this
  obtain ⟨hk,e⟩:=hget j hjl;rw [e] at hj;cases hj;have hkr:j % sz < row.length:=by rw [hrow];exact Nat.mod_lt _ hsz
  obtain ⟨u,q1,q2,_⟩:=hcr.2 _ _ (aIw hkr);rw [Array.getElem?_eq_getElem hk] at q1;cases q1;exact q2
 intro i r hi k av hk;rw [List.getElem?_replicate] at hi
 split at hi
 ·cases hi;rename_i hlt;have hks:k < sz:=by rw [← hrow];exact(aIv.1 hk).1
  have hfit:i*sz+k < n*sz:=by
   have:(i+1)*sz≤n*sz:=Nat.mul_le_mul_right _ hlt;rw [Nat.add_mul] at this;omega
  obtain ⟨hk2,e⟩:=hget _ hfit;obtain ⟨u,q1,q2,q3⟩:=hcr.2 k av hk;refine⟨u,?_,q2,q3⟩;rw [e];rw [Array.getElem?_eq_getElem (by rw [hzs];exact hks)] at q1;cases q1;congr 2;exact yY hks
 cases hi
theorem w8 {tn e:TypeId} {id g n c m k sz bytes id2:Nat} {kk kn:IntKind} {q:Int} {ob:Ob} {row:List AV} {rows':List (List AV)} (ho:o.op=.call {callee:=.builtin .append,args:=#[x,y],argTypes:=#[T,tn]}) (hS:eH P T e sz) (htn:P.underlying tn=some (.int kn)) (hinf:EI P e sz bytes) (hZ:gN P e row) (hrow:row.length=sz)
  (hx:aW E x=some (.osc id g 0 n c)) (hH:H.get id=some ob) (hg:ob.g=g) (hosz:ob.sz=sz) (hon:n≤ob.rows.length)
  (hy:aW E y=some (.pv (.int kk q))) (hq:q=(m:Int)) (hm0:0 < m) (hroom:c < n+m) (hk:n+m=k) (hbytes:(n+m)*bytes≤140737488355328) (hid:H.get id2=none)
  (hrows:ob.rows.take n++List.replicate m row=rows'):dQ P N o E H (.osl id2 0 0 k) ((id2,⟨0,sz,e,rows'⟩)::H):=by
 intro a w I ι _ _ hr he K Q hkk;have hmax:=G7 hinf.2 hbytes;obtain ⟨⟨i,z,hi,hz,hsize,hby,hzs,hsz0⟩,_⟩:=hinf;obtain ⟨z',zv,z1,z2,z3⟩:=hZ;have ezz:z'=z:=by
  have:=z1 w;simp [zeroValue,typeInfo,hi,hz] at this;exact this.symm
 subst ezz hg hosz hk hrows hq;have hml:n+m≤maxLen:=by simp only [maxLen];omega
 have hv:=aM he hx;have hvy:=(aM he hy).int_inv;obtain ⟨hzp,h1,hcase⟩:=j8 hv hH rfl;have hT:=hS.1;have p2:=((hr.obj id ob hH).cells hzp).2.1;have hcr:=vA.of_cells (ZV.rel (w:=w) (I:=I) (ι:=ι) (H:=H) z2) z3;obtain ⟨zl,_,zr⟩:=VN hcr hrow hzs hzp m;have hrl:∀ r∈ob.rows.take n++List.replicate m row,r.length=ob.sz:=fun r hr'=>by
  rcases List.mem_append.1 hr' with h|h
  ·exact p2 r (List.mem_of_mem_take h)
  rw [(List.mem_replicate.1 h).2];exact hrow
 have g1:aE.get ((id2,(⟨0,ob.sz,e,ob.rows.take n++List.replicate m row⟩:Ob))::H) id2=some ⟨0,ob.sz,e,ob.rows.take n++List.replicate m row⟩:=get_cons_same _ _ _;have g2:∀ j,j≠id2→aE.get ((id2,(⟨0,ob.sz,e,ob.rows.take n++List.replicate m row⟩:Ob))::H) j=H.get j:=fun j hj=>get_cons_other _ _ hj;have hrln:(ob.rows.take n++List.replicate m row).length=n+m:=by rw [aIs,aJF,List.length_replicate];omega
 have hge:=grownCap_ge w (n+m) c e;have hcm:=grownCap_le_maxLen w (n+m) c e hml;have hfin:∀ (olds:List Value),olds.length=n*ob.sz→oS w I ι H ob.sz olds (ob.rows.take n) →
   (Builtin.append_ #[T,tn] o.type #[a.eval x,a.eval y]).run P w=.ok (.slice (some ⟨w.heap.size,0,none⟩) (n+m) (grownCap w (n+m) c e)) (w.drew.alloc (.cells (olds.toArray++Builtin.zeroCells z'.cells m++Builtin.zeroCells z'.cells (grownCap w (n+m) c e - (n+m))) e))→o.wpW P a w K Q:=by
  intro olds q1 q2 hrun;obtain ⟨k2,k3⟩:=Rel.place (H':=(id2,⟨0,ob.sz,e,ob.rows.take n++List.replicate m row⟩)::H) (id:=id2) (cap:=grownCap w (n+m) c e) (ob':=⟨0,ob.sz,e,ob.rows.take n++List.replicate m row⟩)
   (cs':=olds.toArray++Builtin.zeroCells z'.cells m++Builtin.zeroCells z'.cells (grownCap w (n+m) c e - (n+m)))
   (w':=w.drew.alloc (.cells (olds.toArray++Builtin.zeroCells z'.cells m++Builtin.zeroCells z'.cells (grownCap w (n+m) c e - (n+m))) e)) hr rfl rfl rfl rfl
   (fun o' ho'=>by rw [hid] at ho';cases ho') hzp (by
    simp only [Array.size_append,List.size_toArray,size_zeroCells,hzs,q1,← Nat.add_mul];congr 1;omega) (by rw [hrln];exact hge) hcm hrl (fun i' r hi' k' a' hk'=>by
     obtain ⟨u,t1,t2,t3⟩:=oS.app (l3:=(Builtin.zeroCells z'.cells (grownCap w (n+m) c e - (n+m))).toList) q2 (by rw [q1,aJF,Nat.min_eq_left hon]) zr i' r hi' k' a' hk';refine⟨u,?_,t2,t3⟩;rw [← Array.getElem?_toList]
     simpa [List.append_assoc] using t1) g1 g2
  unfold Oper.wpW execOp;simp only [ho,resolve,invoke,builtin,Sem.run_bind,Sem.run_pure,Result.andThen_ok,List.map_toArray,List.map_cons,List.map_nil,hrun];exact hkk _ _ I _ _ _ ⟨rfl,rfl⟩ (.osl _ g1 (aIx _) rfl fun _=>⟨hzp,by rw [hrln];omega,.inl ⟨w.heap.size,_,0,by simp;rfl,by simp,fun _=>by simp⟩⟩) k2 k3
 have hfit:Builtin.nextslicecap (n+m) c*i.bytes≤281474976710656:=growslice_fits (by omega) (by rw [hby];exact hbytes);have hm48:m*i.bytes≤281474976710656:=by
  have:m*i.bytes≤(n+m)*i.bytes:=Nat.mul_le_mul_right _ (by omega);rw [hby] at this ⊢;omega
 rcases hcase with⟨b,oo,c1,c2,c3⟩|⟨c1,c2,c3,c4,c5⟩
 ·have hoo:oo=0:=by rw [c3 (.inr rfl)];simp
  subst hoo;have hsn:=G3 hr (show VRel w I ι H (.slice (some ⟨b,0,none⟩) n c) (.osc id ob.g 0 n c)by rw [← c2];exact hv) hH rfl rfl n (aIx _) (by omega);rw [List.drop_zero] at hsn;rcases hsn with⟨ad0,c0,olds,t1,t2,t3,t4,t5,t6⟩|⟨t1,_⟩
  ·injection t1 with q1 q2 q3;injection q1 with q1;subst q1;have hol:olds.length=n*ob.sz:=by rw [t3,aJF,Nat.min_eq_left hon]
   have hfo:=run_firstCells_some (P:=P) w.drew i.size n ⟨b,0,none⟩ n c olds (by rw [hsize];exact hol) (by simpa using t4);have hrun:=oU (P:=P) (w:=w) T tn o.type e i z' kk kn hT htn hi hz (some ⟨b,0,none⟩) n c olds (fun _ _=>trivial) hfo m hm0 (by rw [hsize];exact hzp) (by omega) (by omega) hfit hm48;exact hfin olds hol t6 (by rw [c2,hvy];exact hrun)
  cases t1
 subst c4 c5;have hfo:=run_firstCells_none (P:=P) (w:=w.drew) i.size 0 0 0;have hrun:=oU (P:=P) (w:=w) T tn o.type e i z' kk kn hT htn hi hz none 0 0 [] (fun _ _=>trivial) hfo m hm0 (by rw [hsize];exact hzp) (by omega) (by omega) hfit hm48;exact hfin [] (by simp) (by intro i r hi';simp at hi') (by rw [c2,hvy];exact hrun)
def aEj (P:Program) (e:Array Value→Sem Value) (H:aE) (vs:List AV) (r:AV):Prop :=∀ (w:World) (I:Nat→Prop) (ι:fF) (cs:Array Value),Rel I ι H w→cs.size=vs.length→(∀ (i:Nat) (v:Value) (a:AV),cs[i]?=some v→vs[i]?=some a→VRel w I ι H v a)→∃ c,(e cs).run P w=.ok c w∧VRel w I ι H c r
theorem aAY {f:Operand} {args:Array Operand} {at_:Array TypeId} {F:FuncId} {fn:Func} {e:Array Value→Sem Value} {vs:List AV} {r:AV} (ho:o.op=.call {callee:=.value f,args:=args,argTypes:=at_}) (hf:aW E f=some (.pv (.fn F))) (hF:P.funcs[F]?=some fn) (hname:(fn.name == "runtime.NumGoroutine")=false)
  (hb:fn.body.isNone=true) (hn:Extern.findNext fn=none) (he:Extern.find fn=some e) (hv:wR E args.toList=some vs) (h:aEj P e H vs r):dQ P N o E H r H :=
 .of_run fun a w I ι hr hE=>by
  have hfv:=(aM hE hf).fn_inv;obtain ⟨h1,h2⟩:=rZ hE (sJ hv);obtain ⟨c,hc,hcr⟩:=h w I ι (args.map a.eval) hr (by simpa using h1) (fun i v b hv hb=>h2 i v b (by simpa using hv) hb);refine⟨c,?_,hcr⟩;unfold execOp;simp only [ho,resolve,hfv,Deferred.ofValue,Sem.run_bind,Sem.run_pure,Result.andThen_ok,invoke,Array.empty_append,Array.append_empty,run_callFunc_extern hF hname hb hn he,hc]
theorem NU {tS tR e:TypeId} {sz id1 g1 off1 n1 id2 g2 off2 n2 c2:Nat} {o1 o2:Ob} (hS:eH P tS e sz) (h1:H.get id1=some o1) (hg1:o1.g=g1) (h2:H.get id2=some o2) (hg2:o2.g=g2) (hne:Nat.beq id1 id2=false) (hp1:0 < n1) (hpos:0 < n2+c2) :
  aEj P (Extern.SlicesOverlaps.overlaps #[tS,tS] #[tR]) H [.osl id1 g1 off1 n1,.osc id2 g2 off2 n2 c2] (.pv (.bool false)):=by
 intro w I ι cs hr hl h;obtain ⟨u,v,rfl,k1,k2⟩:=BG hl h;refine⟨.bool false,?_,.pv (.bool false)⟩;have hid:id1≠id2:=fun e=>by subst e;rw [jR] at hne;cases hne
 obtain ⟨_,hc1⟩:=gH k1 h1 hg1;obtain ⟨z2,l2,hc2⟩:=j8 k2 h2 hg2;have z1:=lS k1 h1 hg1;rcases hc1 with⟨b1,cap1,oo1,a1,a2,a3⟩|⟨a1,a2,_,_⟩
 ·rcases hc2 with⟨b2,oo2,d1,d2,d3⟩|⟨d1,d2,d3,d4,d5⟩
  ·have hbb:b1≠b2:=fun e=>hid (hr.inj id1 id2 o1 o2 b1 cap1 (off2+c2) h1 h2 a1 (by rw [e];exact d1));obtain ⟨_,_,⟨b',cap',cs1,e1,e2,e3,e4,_⟩|⟨e1,_⟩⟩:=(hr.obj id1 o1 h1).cells z1
   ·rw [a1] at e1;cases e1;obtain ⟨_,_,⟨b'',cap'',cs2,f1,f2,f3,f4,_⟩|⟨f1,_⟩⟩:=(hr.obj id2 o2 h2).cells z2
    ·rw [d1] at f1;cases f1;rw [a2,d2];refine Lib.run_overlaps_apart (P:=P) w tS tR e hS.1 sz hS.2.1 ⟨b1,oo1,none⟩ ⟨b2,oo2,none⟩ n1 _ n2 c2 hbb o1.ty o2.ty cs1.size cs2.size ?_ ?_ ?_ ?_ ?_
     ·simp [World.shape?,e2]
     ·simp [World.shape?,f2]
     ·rw [f4];have:0 < (off2+c2)*o2.sz:=Nat.mul_pos (by omega) z2;omega
     ·simp [World.frozen?,e2]
     simp [World.frozen?,e2]
    rw [d1] at f1;cases f1
   rw [a1] at e1;cases e1
  omega
 omega
theorem WR {e:TypeId} {id g off len c sz:Nat} {ob:Ob} {row:List AV} {rows':List (List AV)} (ho:o.op=.call {callee:=.builtin .clear,args:=#[x],argTypes:=#[T]}) (hS:eH P T e sz) (hZ:gN P e row) (hrow:row.length=sz)
  (hx:aW E x=some (.osc id g off len c)) (hH:H.get id=some ob) (hg:ob.g=g) (hosz:ob.sz=sz) (hoff:off≤ob.rows.length) (hrows:ob.rows.take off++(List.replicate len row++ob.rows.drop (off+len))=rows') :
  dQ P N o E H .any ((id,⟨g,sz,ob.ty,rows'⟩)::H):=by
 intro a w I ι _ _ hr he K Q hkk;obtain ⟨z,zv,z1,z2,z3⟩:=hZ;subst hg hosz hrows;have hv:=aM he hx;obtain ⟨hzp,h1,hcase⟩:=j8 hv hH rfl;have hT:=hS.1;have hcr:=vA.of_cells (ZV.rel (w:=w) (I:=I) (ι:=ι) (H:=H) z2) z3;have hzs:z.cells.size=ob.sz:=by rw [← hrow];exact hcr.1
 have hnone:len=0→(execOp a.eval o).run P w=.ok (.value (.tuple #[])) w→o.wpW P a w K Q:=by
  intro h0 hrun;obtain ⟨k2,k3⟩:=hr.congr (H':=(id,⟨ob.g,ob.sz,ob.ty,ob.rows.take off++(List.replicate len row++ob.rows.drop (off+len))⟩)::H) (fun j=>by
   subst h0;rw [List.replicate_zero,C4 rfl];by_cases e:j=id
   ·subst e;rw [get_cons_same,hH]
   exact get_cons_other _ _ e)
  unfold Oper.wpW;rw [hrun];exact hkk _ _ I ι _ _ ⟨rfl,rfl⟩ (.any _) k2 k3
 rcases hcase with⟨b,oo,c1,c2,c3⟩|⟨c1,c2,c3,c4,c5⟩
 ·by_cases h0:len=0
  ·refine hnone h0 ?_;unfold execOp;simp only [ho,resolve,invoke,builtin,Sem.run_bind,Sem.run_pure,Result.andThen_ok,List.map_toArray,List.map_cons,List.map_nil,c2,h0,Builtin.clear_];simp [run_underlying hT]
  obtain ⟨p1,p2,⟨b',cap',cs,e1,e2,e3,e4,e5,e5',e6⟩|⟨e1,_⟩⟩:=(hr.obj id ob hH).cells hzp
  ·rw [c1] at e1;cases e1;have hoo:=c3 (by omega);subst hoo;have hzl:(Builtin.zeroCells z.cells len).toList.length=(List.replicate len row).length*ob.sz:=by
    rw [Array.length_toList,size_zeroCells,hzs,List.length_replicate]
   have hget:∀ j,j < len*ob.sz→∃ hk:j % ob.sz < z.cells.size,(Builtin.zeroCells z.cells len).toList[j]?=some (z.cells[j % ob.sz]):=by
    intro j hj;have hk:j % ob.sz < z.cells.size:=by rw [hzs];exact Nat.mod_lt _ hzp
    refine⟨hk,?_⟩;rw [Array.getElem?_toList];simp only [Builtin.zeroCells,Array.getElem?_map];rw [Array.getElem?_range,hzs,aIq hj];simp only [Option.map_some];rw [getElem!_pos z.cells (j % ob.sz) hk]
   have hone:∀ u∈(Builtin.zeroCells z.cells len).toList,u.oneCell'=true:=by
    intro u hu;obtain ⟨j,hj⟩:=aJM.1 hu;have hjl:j < len*ob.sz:=by
     have:=(aIv.1 hj).1;rw [hzl,List.length_replicate] at this;exact this
    obtain ⟨hk,e⟩:=hget j hjl;rw [e] at hj;cases hj;have hkr:j % ob.sz < row.length:=by rw [hrow];exact Nat.mod_lt _ hzp
    obtain ⟨u,q1,q2,_⟩:=hcr.2 _ _ (aIw hkr);rw [Array.getElem?_eq_getElem hk] at q1;cases q1;exact q2
   have hlr:oS w I ι H ob.sz (Builtin.zeroCells z.cells len).toList (List.replicate len row):=by
    intro i r hi k av hk;rw [List.getElem?_replicate] at hi
    split at hi
    ·cases hi;rename_i hlt;have hks:k < ob.sz:=by rw [← hrow];exact(aIv.1 hk).1
     have hfit:i*ob.sz+k < len*ob.sz:=by
      have:(i+1)*ob.sz≤len*ob.sz:=Nat.mul_le_mul_right _ hlt;rw [Nat.add_mul] at this;omega
     obtain ⟨hk2,e⟩:=hget _ hfit;obtain ⟨u,q1,q2,q3⟩:=hcr.2 k av hk;refine⟨u,?_,q2,q3⟩;rw [e];rw [Array.getElem?_eq_getElem (by rw [hzs];exact hks)] at q1;cases q1;congr 2;exact yY hks
    cases hi
   have hfit:off*ob.sz+0+(Builtin.zeroCells z.cells len).toList.length≤cs.size:=by
    rw [e4,hzl,List.length_replicate,Nat.add_zero,← Nat.add_mul];exact Nat.mul_le_mul_right _ (by omega)
   have hst:=run_storeCells_at P b (off*ob.sz) ob.ty (Builtin.zeroCells z.cells len).toList 0 cs w e2 hfit hone;simp only [Nat.add_zero] at hst;obtain ⟨k2,k3⟩:=Rel.write (H':=(id,⟨ob.g,ob.sz,ob.ty,ob.rows.take off++(List.replicate len row++ob.rows.drop (off+len))⟩)::H) (off:=off) (g2:=ob.g) hr hH c1 e2 hzl hlr (fun r hr'=>by rw [(List.mem_replicate.1 hr').2];exact hrow) hoff (by rw [List.length_replicate];omega) (aIx _) (by rw [get_cons_same,List.length_replicate]) (fun j hj=>get_cons_other _ _ hj);unfold Oper.wpW execOp;simp only [ho,resolve,invoke,builtin,Sem.run_bind,Sem.run_pure,Result.andThen_ok,List.map_toArray,List.map_cons,List.map_nil,c2,Builtin.clear_];obtain ⟨n',hn'⟩:∃ n',len=n'+1:=⟨len - 1,by omega⟩;subst hn';simp only [List.getElem?_toArray,List.getElem?_cons_zero,run_underlying hT,Sem.run_bind,Sem.run_pure,Result.andThen_ok,z1,hst];exact hkk _ _ I ι _ _ ⟨rfl,rfl⟩ (.any _) k2 k3
  rw [c1] at e1;cases e1
 refine hnone c4 ?_;unfold execOp;simp only [ho,resolve,invoke,builtin,Sem.run_bind,Sem.run_pure,Result.andThen_ok,List.map_toArray,List.map_cons,List.map_nil,c2,Builtin.clear_];simp [run_underlying hT]
theorem OK {e:TypeId} {lo hi mx:Operand} {id g off len c l h m sz:Nat} {ob:Ob} (ho:o.op=.slice T x (some lo) (some hi) (some mx)) (hS:eH P T e sz) (hx:aW E x=some (.osc id g off len c))
  (hH:H.get id=some ob) (hg:ob.g=g) (hlo:aW E lo=some (.pv (.int .i64 l))) (hhi:aW E hi=some (.pv (.int .i64 h))) (hmx:aW E mx=some (.pv (.int .i64 m))) (h1:l≤h) (h2:h≤m) (h3:m≤c):dQ P N o E H .any H :=
 .of_run fun a w I ι hr he=>by
  have hv:=aM he hx;obtain ⟨hz,hle,hcase⟩:=j8 hv hH hg;have hT:=hS.1;have hs:=hS.2.1;have hTe:P.elem T=e:=by simp [Program.elem,hT]
  have hT':P.underlying T=some (.slice (P.elem T)):=by rw [hTe,hT]
  have e0:=(aM he hlo).int_inv;have e1:=(aM he hhi).int_inv;have e2:=(aM he hmx).int_inv;have hb:(Instr.sliceBounds true len c (some (.int .i64 l)) (some (.int .i64 h)) (some (.int .i64 m))).run P w=.ok (l,h,m) w:=by
   have hsb:∀ (n y:Nat) (c:BoundsCode),n≤y→(Instr.sliceBound (.int .i64 n) y c).run P w=.ok n w:=fun n y c hn=>by
    have:=run_sliceBound (P:=P) w .i64 n y c (by omega) (by omega)
    simpa using this
   simp [Instr.sliceBounds,hsb _ _ _ h3,hsb _ _ _ h2,hsb _ _ _ h1]
  rcases hcase with⟨b,oo,c1,c2,c3⟩|⟨c1,c2,c3,c4,c5⟩
  ·have hrun:=run_slice_any (P:=P) w T (some ⟨b,oo,none⟩) len c hT' (some (.int .i64 l)) (some (.int .i64 h)) (some (.int .i64 m));obtain ⟨v,hval⟩:∃ v,(execOp a.eval o).run P w=.ok (.value v) w:=by
    simp only [execOp,ho,c2,Option.map_some,e0,e1,e2];simp only [run_sliceAt_slice w T _ _ _ _ hT',Sem.run_bind,hrun,hb,hTe,hs,sliced,Result.andThen_ok,Sem.run_pure];exact⟨_,rfl⟩
   exact⟨v,hval,.any _⟩
  have hl0:l=0:=by omega
  have hh0:h=0:=by omega
  have hm0:m=0:=by omega
  subst c4 c5 hl0 hh0 hm0;have hrun:=run_slice_any (P:=P) w T none 0 0 hT' (some (.int .i64 ((0:Nat):Int))) (some (.int .i64 ((0:Nat):Int))) (some (.int .i64 ((0:Nat):Int)));obtain ⟨v,hval⟩:∃ v,(execOp a.eval o).run P w=.ok (.value v) w:=by
   simp only [execOp,ho,c2,Option.map_some,e0,e1,e2];simp only [run_sliceAt_slice w T _ _ _ _ hT',Sem.run_bind,hrun,hb,hTe,hs,sliced,Result.andThen_ok,Sem.run_pure];exact⟨_,rfl⟩
  exact⟨v,hval,.any _⟩
end
end
section
section
variable {P:Program}
def SW (ob:Ob):Ob:=⟨ob.g+1,ob.sz,ob.ty,[]⟩
def wU (ι:fF) (id:Nat):fF:=fun x=>if x=id then none else ι x
end
end
section
section
variable {P:Program} {N:Nat} {o:Oper} {E:dG} {H:aE} {T t t':TypeId} {x y:Operand}
theorem R3 {e:TypeId} (w:World) (h:P.underlying t=some (.slice e)) (a:Option Addr) (n c n' c':Nat):(binOp .eql t (.slice a n c) (.slice none n' c')).run P w=.ok (.bool a.isNone) w:=by simp only [binOp];cases a<;>simp [Op.equal,Op.maxDepth,Lib.run_equalIn_slice_nil w 9999 t e _ n c n' c' h]
theorem HI {e:TypeId} {rows:List (List PV)} (ho:o.op=.binOp .eql t x (.const (.slice none 0 0)) t') (ht:P.underlying t=some (.slice e)) (hx:aW E x=some (.pv (.sl rows))):OpR P N o E H (fun r H'=>H'=H∧∃ b,r=.pv (.bool b)∧(b=true→rows=[])):=by
 intro a w I ι _ _ hr he K Q hk;have hv:=(aM he hx).pv_inv;have e2:a.eval (.const (.slice none 0 0))=.slice none 0 0:=rfl;obtain ⟨b,n,c,e1,h1⟩:∃ (b:Option Addr) (n c:Nat),a.eval x=.slice b n c∧(b.isNone=true→rows=[]):=by
  generalize a.eval x=v at hv;cases hv with
  | nilsl=>exact⟨none,0,0,rfl,fun _=>rfl⟩
  | empsl a=>exact⟨some a,0,0,rfl,fun h=>by cases h⟩
  | sl b off cap sz _ cs h1 h2 h3 h4 h5 h6=>exact⟨_,_,cap,rfl,fun h=>by cases h⟩
 unfold Oper.wpW;have hrun:(execOp a.eval o).run P w=.ok (.value (.bool b.isNone)) w:=by
  simp only [execOp,ho,e1,e2,eqGuard_at_slice,Sem.run_bind,Sem.run_pure,Result.andThen_ok,R3 _ ht]
 rw [hrun];exact hk _ _ I ι _ _ ⟨rfl,_,rfl,h1⟩ (.pv (.bool _)) hr (Step.refl _ _ _ _)
def VJ (E:dG) (H:aE) (sz:Nat) (y:Operand) (len:Nat) (rows:List (List AV)):Prop :=∀ (a:Act) (w:World) (I:Nat→Prop) (ι:fF),Rel I ι H w→mN w I ι H E a→aCE w I ι H sz (a.eval y) len rows
def aCK (E:dG) (H:aE) (x:Operand) (id g off len:Nat):Prop :=∀ (a:Act) (w:World) (I:Nat→Prop) (ι:fF),Rel I ι H w→mN w I ι H E a→∃ c,VRel w I ι H (a.eval x) (.osc id g off len c)
theorem GZ {sz id g off len k:Nat} {ob:Ob} {rows:List (List AV)} (hy:aW E y=some (.osl id g off len)) (hH:H.get id=some ob) (hg:ob.g=g) (hsz:ob.sz=sz) (hk:k≤len) (hr:(ob.rows.drop off).take k=rows):VJ E H sz y len rows:=by subst hr;exact fun a w I ι hr he=>ZT hr (aM he hy) hH hg hsz k hk
theorem AA {sz id g off len c k:Nat} {ob:Ob} {rows:List (List AV)} (hy:aW E y=some (.osc id g off len c)) (hH:H.get id=some ob) (hg:ob.g=g) (hsz:ob.sz=sz) (hk:k≤len) (hk2:off+k≤ob.rows.length) (hr:(ob.rows.drop off).take k=rows):VJ E H sz y len rows:=by subst hr;exact fun a w I ι hr he=>G3 hr (aM he hy) hH hg hsz k hk hk2
theorem AY {id g off len:Nat} {ob:Ob} (hx:aW E x=some (.osl id g off len)) (hH:H.get id=some ob) (hg:ob.g=g):aCK E H x id g off len:=fun a w I ι hr he =>
 let ⟨c,_,_,h⟩:=M1 hr (aM he hx) hH hg
 ⟨c,h⟩
theorem IS {id g off len c:Nat} (hx:aW E x=some (.osc id g off len c)):aCK E H x id g off len:=fun a w I ι hr he=>⟨c,aM he hx⟩
theorem GJ {D S e:TypeId} {id g off len len2 n sz:Nat} {ob:Ob} {rows2 rows':List (List AV)} (ho:o.op=.call {callee:=.builtin .copy,args:=#[x,y],argTypes:=#[D,S]}) (hS:eH P D e sz)
  (hd:aCK E H x id g off len) (hH:H.get id=some ob) (hg:ob.g=g) (hsz:ob.sz=sz) (hoff:off≤ob.rows.length)
  (hsrc:VJ E H sz y len2 rows2) (hrl2:∀ r∈rows2,r.length=sz) (hn:rows2.length=n) (hmin:min len2 len=n)
  (hrows:ob.rows.take off++(rows2++ob.rows.drop (off+n))=rows'):dQ P N o E H (.pv (.int .i64 n)) ((id,⟨g,sz,ob.ty,rows'⟩)::H):=by
 subst hrows;exact aAZ ho hS hd hH hg hsz hoff hsrc hrl2 hn hmin (fun j=>nY _ _ _ j)
end
def QD (ob:Ob) (k:Nat):Ob:=⟨k,ob.sz,ob.ty,[]⟩
theorem Step.deadK {w:World} {I:Nat→Prop} {ι:fF} {H:aE} {id k:Nat} {ob:Ob} (hH:H.get id=some ob) (hk:ob.g < k):Step I ι H w (lI I ι id) (wU ι id) ((id,QD ob k)::H) w where
 os:=rfl
 tape:=rfl
 output:=rfl
 size:=aIx _
 froz:=fun _ _ _=>rfl
 imm:=fun _ h=>.inl h
 immNew:=fun b hb=>by
  rcases hb with hb|⟨cap,hb⟩
  ·exact .inl hb
  exact .inr (.inl ⟨id,ob,cap,hH,hb⟩)
 own:=fun b hb=>by
  obtain ⟨j,o,cap,hj,hi⟩:=hb;by_cases e:j=id
  ·rw [wU,aIq e] at hi;cases hi
  rw [wU,aIp e] at hi;rw [get_cons_other _ _ e] at hj;exact .inl ⟨j,o,cap,hj,hi⟩
 keep:=fun _ _ _=>rfl
 objs:=fun j o hj=>by
  by_cases e:j=id
  ·subst e;rw [hH] at hj;cases hj;exact⟨QD ob k,get_cons_same _ _ _,Nat.le_of_lt hk,fun h=>absurd h (by simp only [QD];omega)⟩
  exact⟨o,by rw [get_cons_other _ _ e];exact hj,aIx _,fun _=>⟨aIp e,rfl,fun _=>aIx _⟩⟩
theorem Rel.deadK {w:World} {I:Nat→Prop} {ι:fF} {H:aE} {id k:Nat} {ob:Ob} (hr:Rel I ι H w) (hH:H.get id=some ob) (hk:ob.g < k) (hsz:0 < ob.sz):Rel (lI I ι id) (wU ι id) ((id,QD ob k)::H) w:=by
 have hst:=Step.deadK (w:=w) (I:=I) (ι:=ι) hH hk;refine⟨fun b hb=>?_,fun j o hj=>?_,fun j j' o o' b c c' hj hj' hi hi'=>?_,hr.glob.mono (fun _ _=>rfl) (fun _ h=>.inl h)⟩
 ·rcases hb with hb|⟨cap,hb⟩
  ·exact hr.imm b hb
  exact hr.lt ⟨id,ob,cap,hH,hb⟩
 ·by_cases e:j=id
  ·subst e;rw [get_cons_same] at hj;cases hj;exact .inl ⟨hsz,by simp [QD],.inr ⟨aIq rfl,rfl⟩⟩
  rw [get_cons_other _ _ e] at hj;refine(hr.obj j o hj).keep (aIp e) (fun b cap e1 _=>⟨rfl,fun h=>?_⟩) (fun r _ a _ v hv=>hv.mono hr hst);rintro(hb|⟨cap',hb⟩)
  ·exact h hb
  exact e (hr.inj j id o ob b cap cap' hj hH e1 hb)
 have n1:j≠id:=fun e=>by rw [wU,aIq e] at hi;cases hi
 have n2:j'≠id:=fun e=>by rw [wU,aIq e] at hi';cases hi'
 rw [wU,aIp n1] at hi;rw [wU,aIp n2] at hi';rw [get_cons_other _ _ n1] at hj;rw [get_cons_other _ _ n2] at hj';exact hr.inj j j' o o' b c c' hj hj' hi hi'
theorem Fin.deadS {G0 H:aE} {id k g off n sz ty:Nat} {ob:Ob} {qs:List (List PV)} (ps:List (List PV)) (hH:H.get id=some ob) (hg:ob.g=g) (hk:g < k) (hsz:0 < ob.sz) (hs:ob.sz=sz) (ht:ob.ty=ty) (hps:ob.rows=ps.map (·.map .pv)) (hq:(ps.take (off+n)).drop off=qs) :
  Fin G0 H (.osl id g off n) ((id,⟨k,sz,ty,[]⟩)::H) (.pv (.sl qs)):=by
 intro G hG I ι w v h1 h2 h3;subst hg hq hs ht;exact⟨_,_,h1.deadK hH hk hsz,h2.trans (Step.deadK hH hk),.pv (xU h1 hH hps h3)⟩
theorem Fin.deadO {G0 H:aE} {r:AV} {id k sz ty:Nat} {ob:Ob} (hH:H.get id=some ob) (hk:ob.g < k) (hsz:0 < ob.sz) (hs:ob.sz=sz) (ht:ob.ty=ty):Fin G0 H r ((id,⟨k,sz,ty,[]⟩)::H) r:=by intro G hG I ι w v h1 h2 h3;subst hs ht;exact⟨_,_,h1.deadK hH hk hsz,h2.trans (Step.deadK hH hk),h3.mono h1 (Step.deadK hH hk)⟩
theorem Fin.bump {G0 H:aE} {id k g off n sz ty:Nat} {ob:Ob} {rows:List (List AV)} (hH:H.get id=some ob) (hg:ob.g=g) (hk:g < k) (hs:ob.sz=sz) (ht:ob.ty=ty) (hr:ob.rows=rows):Fin G0 H (.osl id g off n) ((id,⟨k,sz,ty,rows⟩)::H) (.osl id k off n):=by
 intro G hG I ι w v h1 h2 h3;subst hg hs ht hr;obtain ⟨k2,k3⟩:=Rel.tick (H':=(id,⟨k,ob.sz,ob.ty,ob.rows⟩)::H) (ob':=⟨k,ob.sz,ob.ty,ob.rows⟩) h1 hH hk rfl rfl rfl (get_cons_same _ _ _) (fun j hj=>get_cons_other _ _ hj);refine⟨I,ι,k2,h2.trans k3,?_⟩;obtain ⟨q1,q2⟩:=gH h3 hH rfl;have hz:=lS h3 hH rfl;have hone:v.oneCell'=true:=by
  rcases q2 with⟨b,cap,oo,_,e,_⟩|⟨_,e,_⟩<;>subst e<;>rfl
 exact .osl _ (get_cons_same _ _ _) (aIx _) hone fun _=>⟨hz,q1,q2⟩
end
end Go.Abs
namespace Go.Proofs.YtlnfjkdacimblaaGreatDoor
open Go.Proofs.Tryz
open Go.Abs
def IH (a b:ByteArray):Int:=if kR a b then -1 else if kR b a then 1 else 0
theorem wQ:∀ (x y:List UInt8),Lib.compareBytes x y=if x < y then -1 else if y < x then 1 else 0
 | [],[]=>by simp [Lib.compareBytes]
 | [],b::y=>by simp [Lib.compareBytes]
 | a::x,[]=>by simp [Lib.compareBytes]
 | a::x,b::y=>by
  have ih:=wQ x y;simp only [Lib.compareBytes,List.cons_lt_cons_iff];by_cases h1:a < b
  ·simp [h1]
  by_cases h2:b < a
  ·have hne:¬ a=b:=fun e=>by subst e;exact h1 h2
   simp [h1,h2,hne]
  have e:a=b:=UInt8.le_antisymm (UInt8.not_lt.1 h2) (UInt8.not_lt.1 h1);subst e;simp [ih]
theorem T3 (a b:ByteArray):kR a b=decide (a.data.toList < b.data.toList):=by unfold kR;rw [kW,ByteArray.toList_eq,ByteArray.toList_eq]
theorem aDl (a b:ByteArray):Lib.compareBytes a.data.toList b.data.toList=IH a b:=by rw [wQ,IH,T3,T3];simp only [aIy]
theorem XQ (a b:ByteArray) (H:aE):aH Tryz.prog 205 [sv a,sv b] H (fun r H'=>r=iv (IH a b)∧H'=H):=by
 have hx:∀ H,aH Tryz.prog 242 [sv a,sv b] H (fun r H'=>r=iv (IH a b)∧H'=H):=fun H=>by
  refine Pu ?_;have he:∀ H,YL Tryz.prog Extern.BytealgCompare.compare H [sv a,sv b] (iv (IH a b)):=fun H=>by
   have:=QO (P:=Tryz.prog) (H:=H) a b
   rwa [aDl] at this
  exact Bd func242 rfl ntmps242<|Sr<|Dd aO<|Zz<|Sr<|Dd aD<|Dd aD<|Dd (by exact BY rfl rfl func258 rfl rfl rfl rfl rfl (he _))<|Dd aO<|Zz<|aC<|Rt<|Qq
 refine Pu ?_;exact Bd func205 rfl ntmps205<|Sr<|Dd aO<|Zz<|Sr<|Dd aD<|Dd aD<|Dd (by exact aA rfl rfl call242 rfl (hx _))<|Dd aO<|Zz<|aC<|Rt<|Qq
theorem U0 (a b:ByteArray):decide (IH a b < 0)=kR a b:=by
 unfold IH;cases h1:kR a b with
 | true=>simp
 | false=>cases h2:kR b a<;>simp
theorem XJ (a b:ByteArray):decide (IH a b=0)=decide (a=b):=by
 unfold IH;cases h1:kR a b with
 | true =>
  have:¬ a=b:=fun e=>by subst e;rw [kQ] at h1;cases h1
  simp [this]
 | false =>
  cases h2:kR b a with
  | true =>
   have:¬ a=b:=fun e=>by subst e;rw [kQ] at h2;cases h2
   simp [this]
  | false=>simp [sU h1 h2]
def JL {α:Type} (f:α→ByteArray) (l:List α) (s:ByteArray):Nat:=l.findIdx (fun o=>!kR (f o) s)
def v7 {α:Type} (f:α→ByteArray) (l:List α) (s:ByteArray):Bool:=l.any (fun o=>decide (f o=s))
def asc {α:Type} (f:α→ByteArray) (l:List α):Prop:=l.Pairwise (fun a b=>kR (f a) (f b)=true)
theorem tH {α:Type} {f:α→ByteArray} {l:List α} (h:asc f l) {i j:Nat} {a b:α} (hij:i < j) (ha:l[i]?=some a) (hb:l[j]?=some b):kR (f a) (f b)=true:=by
 obtain ⟨i1,i2⟩:=aIv.1 ha;obtain ⟨j1,j2⟩:=aIv.1 hb;have:=List.pairwise_iff_getElem.1 h i j i1 j1 hij
 rwa [i2,j2] at this
theorem aAt {α:Type} {f:α→ByteArray} {l:List α} {s:ByteArray} {i:Nat} (hi:i≤l.length) (h1:∀ k,k < i→∀ o,l[k]?=some o→kR (f o) s=true) (h2:∀ o,l[i]?=some o→kR (f o) s=false):JL f l s=i:=by
 unfold JL;by_cases e:i < l.length
 ·rw [List.findIdx_eq e];refine⟨by simp [h2 _ (aIw e)],fun j hj=>?_⟩;simp [h1 j hj _ (aIw (by omega))]
 have e2:i=l.length:=by omega
 rw [e2];refine List.findIdx_eq_length.2 fun o ho=>?_;obtain ⟨k,hk⟩:=aJM.1 ho;have:=(aIv.1 hk).1;simp [h1 k (by omega) o hk]
theorem aDd {α:Type} {f:α→ByteArray} {l:List α} {s:ByteArray} {i:Nat} {o:α} (ha:asc f l) (h1:∀ k,k < i→∀ o,l[k]?=some o→kR (f o) s=true) (ho:l[i]?=some o) (h2:kR (f o) s=false):v7 f l s=decide (f o=s):=by
 rw [v7,Bool.eq_iff_iff,List.any_eq_true,aIy];constructor
 ·rintro⟨x,hx,he⟩;have he:=aIn he;obtain ⟨k,hk⟩:=aJM.1 hx;rcases Nat.lt_trichotomy k i with h|h|h
  ·have:=h1 k h x hk;rw [he,kQ] at this;cases this
  ·subst h;rw [ho] at hk;cases hk;exact he
  have:=tH ha h ho hk;rw [he,h2] at this;cases this
 intro e;exact⟨o,aJB ho,decide_eq_true e⟩
theorem XB {α:Type} {f:α→ByteArray} {l:List α} {s:ByteArray} (h1:∀ k,k < l.length→∀ o,l[k]?=some o→kR (f o) s=true):v7 f l s=false:=by rw [v7,List.any_eq_false];intro o ho;obtain ⟨k,hk⟩:=aJM.1 ho;have:=h1 k (aIv.1 hk).1 o hk;simp only [aIy];intro e;rw [e,kQ] at this;cases this
theorem aDe {i j:Nat} (h:i < j):i≤(i+j) / 2∧(i+j) / 2 < j:=by omega
theorem aBc (fv:AV) (l:List GObj) (s:ByteArray) (H:aE) (hl:l.length < 1099511627776) (ha:asc GObj.id l) (hf:∀ o,o∈l→dN Tryz.prog fv [.agg ((aG o).map .pv),sv s] H (fun r H'=>r=iv (IH (GObj.id o) s)∧H'=H)) :
  aH Tryz.prog 216 [.pv (.sl (l.map aG)),sv s,fv] H (fun r H'=>r=.tup [iv (JL GObj.id l s:Nat),bv (v7 GObj.id l s)]∧H'=H):=by
 have hml:(l.map aG).length=l.length:=aIr _;refine Bd func216 rfl ntmps216<|Sr<|Dd aO<|Dd aO<|Zz<|Sr<|Dd aD<|Dd (fK cQ)<|Dd aO<|Zz<|Sr<|Dd aD<|Dd aO<|Dd aO<|Zz<|Sq<|aF ?_;refine gU (fun(i j:Nat)=>([(0,.pv (.sl (l.map aG))),(1,sv s),(2,fv),(8,iv ((l.map aG).length:Int)),(9,iv (i:Int)),(10,iv (j:Int))],H)) (fun i j=>i≤j∧j≤l.length∧(∀ k,k < i→∀ o,l[k]?=some o→kR (GObj.id o) s=true)∧∀ k,j≤k→∀ o,l[k]?=some o→kR (GObj.id o) s=false) (fun i j=>j - i) 0 l.length ⟨by omega,by omega,by omega,fun k hk o ho=>?_⟩ ?_ ?_
 ·have:=(aIv.1 ho).1;omega
 ·rw [← hml];exact E0
 rintro i j ⟨hij,hj,hlo,hhi⟩;refine Sq<|Sr<|Dd aD<|Dd aD<|Dd dD<|Zz ?_;refine Cn ?_ ?_<;>intro hc1
 ·have hlt:i < j:=by have:=aIn hc1;omega
  obtain ⟨q1,q2⟩:=aDe hlt;obtain ⟨m,hm⟩:∃ m,m=(i+j) / 2:=⟨_,rfl⟩;rw [← hm] at q1 q2;obtain ⟨o,ho⟩:=aX (l:=l) (k:=m) (by omega);have hi:=bZ (f:=aG) ho;have hfo:=hf o (aJB ho);have e1:IntKind.u64.wrap ((i:Int)+(j:Int))=((i+j:Nat):Int):=by rw [IntKind.wrap_u64];omega
  have e2:IntKind.i64.wrap (((i+j:Nat):Int) / 2)=(m:Int):=by rw [IntKind.wrap_i64];omega
  refine aB<|aF<|Sr<|Dd aD<|Dd aD<|Dd eL<|Dd (by exact oA rfl underlying3 sK rfl e1)<|Dd (by exact aDI rfl rfl rfl (by omega) (by simp [IntKind.bits];try omega) rfl)<|Dd (by exact oA rfl sK underlying3 rfl e2)<|Dd aO<|Zz<|Sr<|Dd aD<|Dd aD<|Dd aD<|Dd (e8 iK)<|Dd (by exact bQ rfl aY sizeOf49 rfl (by omega) (by simp only [Zl,aG];rfl) rfl)<|Dd aD<|Dd (by exact eT rfl rfl rfl (hfo))<|Dd dD<|Zz ?_;refine Cn ?_ ?_<;>intro hc2
  ·rw [U0] at hc2;refine Rg<|Dd aD<|Dd eL<|Da ?_;refine⟨m+1,j,⟨by omega,by omega,fun k hk x hx=>?_,hhi⟩,by omega,E0⟩;by_cases e:k=m
   ·subst e;rw [ho] at hx;cases hx;exact hc2
   exact l8 (tH ha (by omega) hx ho) hc2
  rw [U0] at hc2;refine Rg<|Dd aD<|Da ?_;refine⟨i,m,⟨by omega,by omega,hlo,fun k hk x hx=>?_⟩,by omega,E0⟩;by_cases e:k=m
  ·subst e;rw [ho] at hx;cases hx;exact hc2
  cases h:kR (GObj.id x) s with
  | false=>rfl
  | true =>
   have:=l8 (tH ha (by omega) ho hx) h;rw [hc2] at this;cases this
 have hge:i=j:=by have:=aIo hc1;omega
 subst hge;have hlb:JL GObj.id l s=i:=aAt hj hlo (fun o ho=>hhi i (aIx _) o ho);by_cases hlt:i < l.length
 ·obtain ⟨o,ho⟩:=aX hlt;have hi:=bZ (f:=aG) ho;have hfo:=hf o (aJB ho);have hlt2:decide ((i:Int) < ((l.map aG).length:Int))=true:=decide_eq_true (by omega);have hk:=aDd ha hlo ho (hhi i (aIx _) o ho);rw [hlb,hk,← XJ];refine aZ<|Sr<|Dd aD<|Dd aD<|Dd aD<|Dd dD<|Dd aD<|Oa aD<|Oa aD<|Oa aD<|Oa (e8 iK)<|Oa (by exact bQ rfl aY sizeOf49 rfl (by omega) (by simp only [Zl,aG];rfl) rfl)<|Oa aD<|Oa (by exact eT rfl rfl rfl (hfo))<|Oa cI<|Dd xI<|Dd aO<|Dd aO<|Zz<|aC ?_;refine iD (H':=H) (.inr rfl) rfl (aN rfl) (aN rfl) Fin.refl ?_;exact Qq
 have hlt2:decide ((i:Int) < ((l.map aG).length:Int))=false:=decide_eq_false (by omega);have hk:=XB (fun k hk o ho=>hlo k (by omega) o ho);rw [hlb,hk];refine aZ<|Sr<|Dd aD<|Dd aD<|Dd aD<|Dd dD<|Dd aD<|Fa<|Fa<|Fa<|Fa<|Fa<|Fa<|Fa<|Fa<|Dd rJ<|Dd aO<|Dd aO<|Zz<|aC ?_;refine iD (H':=H) (.inr rfl) rfl (aN rfl) (aN rfl) Fin.refl ?_;exact Qq
theorem NK {α:Type} (f:α→ByteArray) (l:List α) (s:ByteArray):JL f l s≤l.length:=List.findIdx_le_length
theorem QA {α:Type} {f:α→ByteArray} {l:List α} {s:ByteArray} (ha:asc f l) (h:v7 f l s=true):∃ o,l[JL f l s]?=some o∧f o=s:=by rw [v7,List.any_eq_true] at h;obtain ⟨x,hx,he⟩:=h;have he:=aIn he;obtain ⟨k,hk⟩:=aJM.1 hx;have:JL f l s=k:=aAt (by have:=(aIv.1 hk).1;omega) (fun j hj o ho=>by rw [← he];exact tH ha hj ho hk) (fun o ho=>by rw [hk] at ho;cases ho;rw [he,kQ]);exact⟨x,by rw [this];exact hk,he⟩
abbrev xH (ps:List (List PV)):List (List AV):=ps.map (·.map .pv)
theorem PD (ps:List (List PV)) (i:Nat):(xH ps).take i=xH (ps.take i):=List.map_take.symm
theorem PE (ps:List (List PV)) (i:Nat):(xH ps).drop i=xH (ps.drop i):=List.map_drop.symm
theorem MZ (ps:List (List PV)):(xH ps).length=ps.length:=aIr _
theorem aAO {ps:List (List PV)} {n:Nat} (h:∀ r∈ps,r.length=n):∀ r∈xH ps,r.length=n:=fun r hr=>by
 obtain ⟨q,hq,rfl⟩:=List.mem_map.1 hr;rw [aIr];exact h q hq
theorem aB7 {id g off n:Nat} {H:aE} (h:(H.get id).isSome=true):∀ r∈[[AV.osl id g off n]],∀ x∈r,Clo H x:=by simp [h]
theorem aGk {α:Type} {R:List α} {z:α} {i n:Nat} (q:α) (hn:R.length=n) (hi:i < n):(R.take i++List.replicate (n+1 - i) z).take i++([q]++(R.take i++List.replicate (n+1 - i) z).drop (i+1))=R.take i++q::List.replicate (n - i) z:=by
 apply List.ext_getElem?;intro k;simp only [List.getElem?_append,List.getElem?_take,List.getElem?_drop,List.getElem?_replicate,aIs,aJF,List.length_replicate,aJG,aIt,List.length_nil,List.getElem?_cons]
 repeat' split
 all_goals first|rfl|omega
theorem aGj {α:Type} {R:List α} {z q:α} {i n:Nat} (hn:R.length=n) (hi:i < n):(R.take i++q::List.replicate (n - i) z).take (i+1)++((R.drop i).take (n - i)++(R.take i++q::List.replicate (n - i) z).drop (i+1+(n - i)))=R.take i++q::R.drop i:=by
 apply List.ext_getElem?;intro k;simp only [List.getElem?_append,List.getElem?_take,List.getElem?_drop,List.getElem?_replicate,aIs,aJF,List.length_replicate,aJG,aIt,List.length_nil,List.getElem?_cons]
 repeat' split
 all_goals first|rfl|omega|(congr 1;omega)|(symm;apply List.getElem?_eq_none;omega)
theorem aGi {α:Type} {R:List α} {i n:Nat} (hn:R.length=n) (hi:i < n):∃ x,R.take (i+1)++((R.drop i).take (n - i)++R.drop (i+1+(n - i)))=R.take i++x::R.drop i:=by
 have hlt:i < R.length:=by omega
 refine⟨R[i],?_⟩;rw [List.take_succ_eq_append_getElem hlt,List.take_of_length_le (l:=R.drop i) (by rw [aJG];omega),show R.drop (i+1+(n - i))=[] from List.drop_eq_nil_of_le (by omega),List.append_nil,List.append_assoc];rfl
theorem aGh {α:Type} {R:List α} {i n:Nat} (q x:α) (hn:R.length=n) (hi:i < n):(R.take i++x::R.drop i).take i++([q]++(R.take i++x::R.drop i).drop (i+1))=R.take i++q::R.drop i:=by
 have h1:(R.take i).length=i:=by rw [aJF];omega
 rw [List.take_left' h1,show R.take i++x::R.drop i=(R.take i++[x])++R.drop i by simp,List.drop_left' (by simp [h1])];simp
theorem aGt {α:Type} {R:List α} {i j n:Nat} (hn:R.length=n) (hij:i≤j) (hj:j≤n):(R.take i++((R.drop j).take (n - j)++R.drop (i+(n - j)))).take (i+(n - j))=R.take i++R.drop j:=by
 have h1:(R.take i).length=i:=by rw [aJF];omega
 have h2:(R.drop j).length=n - j:=by rw [aJG];omega
 rw [List.take_of_length_le (l:=R.drop j) (by omega),← List.append_assoc,List.take_left' (by simp [h1,h2])]
theorem Fin.sliceG {G0 H H1:aE} {id g n:Nat} (ob:Ob) (ps:List (List PV)) (hH1:∀ j,aE.get ((id,ob)::H) j=H1.get j) (hg:ob.g=g) (hps:ob.rows=ps.map (·.map .pv)) (hn:ps.length=n) (hc:dF H) (hid:H.get id=none) (hG:G0.get id=none) :
  Fin G0 H1 (.osl id g 0 n) H (.pv (.sl ps)) :=
 (Fin.get' (H':=(id,ob)::H) hH1).trans (Fin.slice [(id,ob)] ps (get_cons_same _ _ _) hg hps hn hc (by simp [hid]) (by simp [hG]) hid)
theorem Fin.deadG {G0 H H1:aE} {id k g off n sz ty:Nat} {rows:List (List AV)} {qs:List (List PV)} (ps:List (List PV)) (hH1:∀ j,aE.get ((id,(⟨g,sz,ty,rows⟩:Ob))::H) j=H1.get j) (hk:g < k) (hsz:Nat.blt 0 sz=true) (hps:rows=ps.map (·.map .pv)) (hq:(ps.take (off+n)).drop off=qs) :
  Fin G0 H1 (.osl id g off n) ((id,⟨k,sz,ty,[]⟩)::H) (.pv (.sl qs)) :=
 ((Fin.get' (H':=(id,⟨g,sz,ty,rows⟩)::H) hH1).trans (Fin.deadS ps (get_cons_same _ _ _) rfl hk (by simpa [Nat.blt_eq] using hsz) rfl rfl hps hq)).trans (Fin.get' (fun j=>pP _ _ _ _ j))
theorem LZ (ps:List (List PV)) (H:aE) (hc:dF H) (h1:H.get 901=none) (h2:H.get 902=none) (hl:ps.length < 1099511627776) (hrl:∀ r∈ps,r.length=6) :
  aH Tryz.prog 168 [.pv (.sl ps)] H (fun r H'=>r=.osl 901 1 0 ps.length∧H'=(901,⟨1,6,49,xH ps⟩)::H):=by
 refine Bd func168 rfl ntmps168<|Sr<|Dd aO<|Zz<|Sq<|Sr<|Dm ?_;refine TD rfl rfl (HI rfl cQ rfl) ?_;rintro _ H2 ⟨e2,b,rfl,hb⟩;rw [e2];clear e2 H2;refine Zz ?_;refine Cn ?_ ?_<;>intro hc1
 ·have h0:=hb hc1;subst h0;refine Sr<|Dd (by exact fI (id:=901) (sz:=6) (ty:=49) rfl h1 rfl)<|Zz<|aC ?_;refine cZ (H':=((901,⟨1,6,49,[]⟩)::H)) (.inr rfl) rfl (aN rfl) ((Fin.bump (g:=0) (k:=1) rfl rfl (by decide) rfl rfl rfl).trans (Fin.get' (fun j=>pP _ _ _ _ j))) ?_;exact Qq
 refine aB<|Sr<|Dd (by exact eN (id:=901) rfl iK rfl rfl rfl rfl (by simp) h1)<|Dd aD<|Dd (by exact c6 rfl iK aDw rfl rfl rfl rfl rfl rfl rfl hrl rfl (by omega) (aJJ _) (List.nil_append _))<|Dd aO<|Zz<|aC ?_;refine cZ (H':=((901,⟨1,6,49,xH ps⟩)::H)) (.inr rfl) rfl (aN rfl) (Fin.get' (fun j=>pP _ _ _ _ j)) ?_;exact Qq
theorem M0:(Tryz.f218.name == "runtime.NumGoroutine")=false∧Tryz.f218.body.isNone=true∧Extern.findNext f218=none∧Extern.find f218=some (Extern.SlicesOverlaps.overlaps #[36,36] #[4]):=⟨by kernel_rfl,by kernel_rfl,by kernel_rfl,by kernel_rfl⟩
theorem aAT {N:Nat} {o:Oper} {E:dG} {H:aE} {x y:Operand} {at_:Array TypeId} {id1 g1 off1 n1 id2 g2 off2 n2 c2:Nat} {o1 o2:Ob} (ho:o.op=.call {callee:=.value (.func 218),args:=#[x,y],argTypes:=at_}) (hx:aW E x=some (.osl id1 g1 off1 n1)) (hy:aW E y=some (.osc id2 g2 off2 n2 c2))
  (h1:H.get id1=some o1) (hg1:o1.g=g1) (h2:H.get id2=some o2) (hg2:o2.g=g2) (hne:Nat.beq id1 id2=false) (hp1:0 < n1) (hpos:0 < n2+c2):dQ Tryz.prog N o E H (.pv (.bool false)) H:=by
 have hv:wR E (#[x,y]:Array Operand).toList=some [.osl id1 g1 off1 n1,.osc id2 g2 off2 n2 c2]:=by simp only [wR,hx,hy]
 have hF:Tryz.prog.funcs[(218:Nat)]?=some f218:=func218;exact aAY ho (f:=.func 218) (F:=218) rfl hF M0.1 M0.2.1 M0.2.2.1 M0.2.2.2 hv (NU iK h1 hg1 h2 hg2 hne hp1 hpos)
theorem SR (ps:List (List PV)) (p:List PV) (i g:Nat) (H:aE) (hc:dF H) (h1:H.get 901=some ⟨g,6,49,xH ps⟩) (h2:H.get 902=some ⟨0,6,49,[p.map .pv]⟩) (h3:H.get 903=none) (hl:ps.length < 1099511627776) (hi:i≤ps.length) (hrl:∀ r∈ps,r.length=6) (hp:p.length=6) :
  aH Tryz.prog 169 [.osl 901 g 0 ps.length,iv (i:Int),.osl 902 0 0 1] H (fun r H'=>r=.pv (.sl (ps.take i++p::ps.drop i))∧H'=(901,⟨g+3,6,49,[]⟩)::H):=by
 have hpl:(xH ps).length=ps.length:=MZ ps;have hR:=aAO hrl;have hp1:∀ r∈[p.map AV.pv],r.length=6:=by intro r hr;rw [aIu] at hr;subst hr;rw [aIr];exact hp
 have hfin:xH (ps.take i++p::ps.drop i)=(xH ps).take i++p.map AV.pv::(xH ps).drop i:=by rw [PD,PE,xH,List.map_append,List.map_cons]
 refine Bd func169 rfl ntmps169 ?_;refine VC (t:=0) rfl h1 rfl ?_;intro c hcn hcm;refine Sr<|Dd aO<|Zz<|Sr<|Dd aD<|Dd aD<|Dd (by exact gL (l:=i) (h:=ps.length) rfl iK rfl h1 rfl rfl rfl rfl hi hcn rfl rfl rfl)<|Zz<|Sr<|Dd aD<|Dd (by exact dV rfl cQ rfl h2 rfl)<|Dd aO<|Zz<|Sq<|Sr<|Dd aD<|Dd cI<|Zz ?_;refine Cn ?_ ?_<;>intro hc1
 ·cases hc1
 refine aB<|Sr<|Dd aD<|Dd (by exact lT rfl cQ rfl h1 rfl)<|Dd aO<|Zz<|Sq<|Sr<|Dd aD<|Dd aD<|Dd cI<|Zz ?_;refine Cn ?_ ?_<;>intro hc2
 ·have hin:i=ps.length:=by have:=aIn hc2;omega
  subst hin;refine u7 (t:=0) rfl h1 rfl (by rw [hpl];omega) ?_;refine Sr<|Dd aD<|Dd aD<|Dd (by exact nS rfl iK aDw rfl h1 rfl rfl rfl hpl rfl h2 rfl rfl hp1 (by simp) (by omega) rfl rfl)<|Dd aO<|Zz<|aC ?_;refine cZ (H':=((901,⟨g+3,6,49,[]⟩)::H)) (.inr rfl) rfl (aN rfl) ((Fin.deadS (g:=g+1) (k:=g+3) (sz:=6) (ty:=49) (ps++[p]) rfl rfl (by omega) (aJE rfl) rfl rfl (by rw [List.map_append];rfl) (qs:=ps.take ps.length++p::ps.drop ps.length) (by rw [List.take_of_length_le (by simp),List.drop_zero,List.take_length,List.drop_length])).trans (Fin.get' (fun j=>pP _ _ _ _ j))) ?_;exact Qq
 have hin:i < ps.length:=by have:=aIo hc2;omega
 refine aB<|Sq<|Sr<|Dd aD<|Dd aD<|Dd eL<|Dd aD<|Dd (by exact s7 rfl cQ rfl h1 rfl)<|Dd kC<|Zz ?_;refine Cn ?_ ?_<;>intro hc3
 ·have hgt:c < ps.length+1:=by have:=aIn hc3;omega
  refine Sr<|Dd aD<|Dd aD<|Dd (by exact gL (l:=0) (h:=i) rfl iK rfl h1 rfl rfl rfl rfl (by omega) (by omega) rfl rfl rfl)<|Dd aD<|Dd aD<|Dd eL<|Dd aD<|Dd (by exact gC rfl rfl rfl (by exact OL (by omega) (by omega)))<|Dd (by exact w8 (id2:=903) (m:=ps.length+1 - i) rfl iK underlying3 aDw qU rfl rfl h1 rfl rfl (by rw [hpl];omega) rfl (by omega) (by omega) (by omega) rfl (by omega) h3 rfl)<|Dd aO<|Zz<|Sr<|Dd aD<|Dd aD<|Dd (by exact jK (l:=i) (h:=i+(ps.length+1 - i)) rfl iK rfl rfl rfl rfl rfl rfl (by omega) (by omega) (aJJ _) (by omega:i+(ps.length+1 - i) - i=ps.length+1 - i))<|Dd aD<|Dd (by exact GJ (n:=1) rfl iK (AY rfl rfl rfl) rfl rfl rfl (by simp only [aIs,aJF,List.length_replicate,hpl];omega) (GZ (k:=1) rfl h2 rfl rfl (by omega) rfl) hp1 rfl (by omega) (aGk (p.map AV.pv) hpl hin)) ?_;refine Zz<|Sq<|aU follows<|Cr [] (fun _ _=>aD)<|Cr [] (fun _ _=>aD)<|Cr [] (fun _ _=>aD)<|Cr [] (fun _ _=>eL)<|Cr [903] (fun H1 hH=>by exact jK (l:=i+1) (h:=i+(ps.length+1 - i)) rfl iK rfl ((hH 903 rfl).trans rfl) rfl rfl rfl rfl (by omega) (by omega) (aJJ _) (by omega:i+(ps.length+1 - i) - (i+1)=ps.length - i))<|Cr [] (fun _ _=>aD)<|Cr [] (fun _ _=>aD)<|Cr [901] (fun H1 hH=>by exact gL (l:=i) (h:=ps.length) rfl iK rfl ((hH 901 rfl).trans h1) rfl rfl rfl rfl (by omega) (by omega) (aJJ _) rfl rfl)<|Cp [901,903] (fun H1 hH=>by exact GJ (n:=ps.length - i) rfl iK (AY rfl ((hH 903 rfl).trans rfl) rfl) ((hH 903 rfl).trans rfl) rfl rfl (by simp only [aIs,aJF,List.length_replicate,aIt,hpl];omega) (AA (k:=ps.length - i) rfl ((hH 901 rfl).trans h1) rfl rfl (by omega) (by rw [hpl];omega) rfl) (fun r hr=>hR r (List.mem_of_mem_drop (List.mem_of_mem_take hr))) (by rw [aJF,aJG,hpl];omega) (by omega) (aGj hpl hin)) ?_;refine bM<|Kr<|Sr<|Dd aD<|Dd aO<|Zz<|aC ?_;refine cZ (H':=((901,⟨g+3,6,49,[]⟩)::H)) (.inr rfl) rfl (aN rfl) ((Fin.sliceG (id:=903) (g:=0) ⟨0,6,49,(xH ps).take i++p.map AV.pv::(xH ps).drop i⟩ (ps.take i++p::ps.drop i) (fun j=>by cases e:Nat.beq 903 j<;>simp [aE.get,e]) rfl hfin.symm (by simp only [aIs,aJF,aIt,aJG];omega) hc h3 h3).trans (Fin.deadO (k:=g+3) (sz:=6) (ty:=49) h1 (by show g < g+3;omega) (aJE rfl) rfl rfl)) ?_;exact Qq
 have hle:ps.length+1≤c:=by have:=aIo hc3;omega
 obtain ⟨x,hx⟩:=aGi hpl hin;refine aB<|Sr<|Dd aD<|Dd aD<|Dd aD<|Dd eL<|Dd (by exact gL (l:=0) (h:=ps.length+1) rfl iK rfl h1 rfl rfl rfl rfl (by omega) hle rfl rfl rfl)<|Dd aO<|Zz<|Sq<|Sr<|Dd aD<|Dd aD<|Dd aD<|Dd aD<|Dd eL<|Dd (by exact gL (l:=i+1) (h:=ps.length+1) rfl iK rfl h1 rfl rfl rfl rfl (by omega) hle (aJJ _) (by omega:ps.length+1 - (i+1)=ps.length - i) rfl)<|Dd (by exact aAT rfl rfl rfl h2 rfl h1 rfl rfl (by omega) (by omega))<|Dd jU<|Zz ?_;refine Cn ?_ ?_<;>intro hc4
 ·refine Sq<|aU follows<|Cr [] (fun _ _=>aD)<|Cr [] (fun _ _=>aD)<|Cr [] (fun _ _=>aD)<|Cr [] (fun _ _=>eL)<|Cr [901] (fun H1 hH=>by exact gL (l:=i+1) (h:=ps.length+1) rfl iK rfl ((hH 901 rfl).trans h1) rfl rfl rfl rfl (by omega) hle (aJJ _) (by omega:ps.length+1 - (i+1)=ps.length - i) rfl)<|Cr [] (fun _ _=>aD)<|Cr [] (fun _ _=>aD)<|Cr [901] (fun H1 hH=>by exact gL (l:=i) (h:=ps.length+1) rfl iK rfl ((hH 901 rfl).trans h1) rfl rfl rfl rfl (by omega) hle (aJJ _) rfl rfl)<|Cp [901] (fun H1 hH=>by exact GJ (n:=ps.length - i) rfl iK (IS rfl) ((hH 901 rfl).trans h1) rfl rfl (by rw [hpl];omega) (AA (k:=ps.length - i) rfl ((hH 901 rfl).trans h1) rfl rfl (by omega) (by rw [hpl];omega) rfl) (fun r hr=>hR r (List.mem_of_mem_drop (List.mem_of_mem_take hr))) (by rw [aJF,aJG,hpl];omega) (by omega) hx) ?_;refine bM<|Kr<|Sr<|Dd aD<|Dd aD<|Dd (by exact gL (l:=i) (h:=ps.length+1) rfl iK rfl rfl rfl rfl rfl rfl (by omega) hle (aJJ _) rfl rfl)<|Dd aD<|Dd (by exact GJ (n:=1) rfl iK (IS rfl) rfl rfl rfl (by simp only [aIs,aJF,aIt,hpl];omega) (GZ (k:=1) rfl h2 rfl rfl (by omega) rfl) hp1 rfl (by omega) (aGh (p.map AV.pv) x hpl hin))<|Zz<|Sq ?_;refine u7 (t:=0) rfl rfl rfl (by simp only [aIs,aJF,aIt,aJG,hpl];omega) ?_;refine Rg<|Dd aD<|Dd aO<|Zz<|aC ?_;refine cZ (H':=((901,⟨g+3,6,49,[]⟩)::H)) (.inr rfl) rfl (aN rfl) (Fin.deadG (id:=901) (k:=g+3) (sz:=6) (ty:=49) (rows:=(xH ps).take i++p.map AV.pv::(xH ps).drop i) (qs:=ps.take i++p::ps.drop i) (ps.take i++p::ps.drop i) (fun j=>by cases e:Nat.beq 901 j<;>simp [aE.get,e]) (by omega) rfl hfin.symm (by rw [List.drop_zero];exact List.take_of_length_le (by simp only [aIs,aJF,aIt,aJG];omega))) ?_;exact Qq
 cases hc4
theorem S6 (ps:List (List PV)) (i j g:Nat) (H:aE) (hc:dF H) (h1:H.get 901=some ⟨g,6,49,xH ps⟩) (hl:ps.length < 1099511627776) (hij:i≤j) (hj:j≤ps.length) (hrl:∀ r∈ps,r.length=6) :
  aH Tryz.prog 170 [.osl 901 g 0 ps.length,iv (i:Int),iv (j:Int)] H (fun r H'=>r=.pv (.sl (ps.take i++ps.drop j))∧H'=(901,⟨g+3,6,49,[]⟩)::H):=by
 have hpl:(xH ps).length=ps.length:=MZ ps;have hR:=aAO hrl;refine Bd func170 rfl ntmps170 ?_;refine VC (t:=0) rfl h1 rfl ?_;intro c hcn hcm;refine Sr<|Dd aO<|Zz<|Sr<|Dd aD<|Dd aD<|Dd aD<|Dd aD<|Dd (by exact lT rfl cQ rfl h1 rfl)<|Dd (by exact OK (l:=i) (h:=j) (m:=ps.length) rfl iK rfl h1 rfl rfl rfl rfl hij hj hcn)<|Zz<|Sq<|Sr<|Dd aD<|Dd aD<|Dd cI<|Zz ?_;refine Cn ?_ ?_<;>intro hc1
 ·have e:i=j:=by have:=aIn hc1;omega
  subst e;refine u7 (t:=0) rfl h1 rfl (by rw [hpl];omega) ?_;refine Sr<|Dd aD<|Dd aO<|Zz<|aC ?_;refine cZ (H':=((901,⟨g+3,6,49,[]⟩)::H)) (.inr rfl) rfl (aN rfl) ((Fin.deadS (g:=g) (k:=g+3) (sz:=6) (ty:=49) ps h1 rfl (by omega) (aJE rfl) rfl rfl rfl (qs:=ps.take i++ps.drop i) (by rw [aJJ,List.drop_zero,List.take_length,List.take_append_drop]))) ?_;exact Qq
 have hne:i < j:=by have:=aIo hc1;omega
 have hd:=aGt hpl hij hj;have hlen:((xH ps).take i++(((xH ps).drop j).take (ps.length - j)++(xH ps).drop (i+(ps.length - j)))).length=ps.length:=by
  simp only [aIs,aJF,aJG,hpl];omega
 refine aB<|Sr<|Dd aD<|Dd (by exact lT rfl cQ rfl h1 rfl)<|Dd aO<|Zz<|Sq<|aU follows<|Cr [] (fun _ _=>aD)<|Cr [] (fun _ _=>aD)<|Cr [901] (fun H1 hH=>by exact gL (l:=0) (h:=i) rfl iK rfl ((hH 901 rfl).trans h1) rfl rfl rfl rfl (by omega) (by omega) rfl (Nat.sub_zero _) (Nat.sub_zero _))<|Cr [] (fun _ _=>aD)<|Cr [] (fun _ _=>aD)<|Cr [901] (fun H1 hH=>by exact gL (l:=j) (h:=ps.length) rfl iK rfl ((hH 901 rfl).trans h1) rfl rfl rfl rfl (by omega) hcn (aJJ _) rfl rfl)<|Cp [901] (fun H1 hH=>by exact JN (m:=ps.length - j) (rows':=(xH ps).take i++(((xH ps).drop j).take (ps.length - j)++(xH ps).drop (i+(ps.length - j)))) rfl iK aDw rfl ((hH 901 rfl).trans h1) rfl rfl rfl (by rw [hpl];omega) (AA (k:=ps.length - j) rfl ((hH 901 rfl).trans h1) rfl rfl (by omega) (by rw [hpl];omega) rfl) (fun r hr=>hR r (List.mem_of_mem_drop (List.mem_of_mem_take hr))) (by rw [aJF,aJG,hpl];omega) (by omega) rfl (by rw [aJJ])) ?_;refine Cr [] (fun _ _=>aO)<|bM<|Kr<|Sr<|Dd aD<|Dd aD<|Dd (by exact lT rfl cQ rfl rfl rfl)<|Dd aD<|Dd (by exact gL (l:=i+(ps.length - j)) (h:=ps.length) rfl iK rfl rfl rfl rfl rfl rfl (by omega) hcn (aJJ _) rfl rfl)<|Uu (by exact WR rfl iK qU rfl rfl rfl rfl rfl (by rw [hlen];omega) (by rw [hd,show i+(ps.length - j)+(ps.length - (i+(ps.length - j)))=ps.length by omega,List.drop_eq_nil_of_le (Nat.le_of_eq hlen),List.append_nil]))<|Zz<|Sq ?_;refine u7 (t:=0) rfl rfl rfl (by simp only [aIs,aJF,aJG,hpl];omega) ?_;refine Rg<|Dd aD<|Dd aO<|Zz<|aC ?_;refine cZ (H':=((901,⟨g+3,6,49,[]⟩)::H)) (.inr rfl) rfl (aN rfl) (Fin.deadG (id:=901) (k:=g+3) (sz:=6) (ty:=49) (rows:=(xH ps).take i++(xH ps).drop j++List.replicate (ps.length - (i+(ps.length - j))) (List.map AV.pv [.str ⟨#[]⟩,.int .i64 0,.int .i64 0,.int .i64 0,.sl [],.sl []])) (qs:=ps.take i++ps.drop j) ((ps.take i++ps.drop j)++List.replicate (ps.length - (i+(ps.length - j))) [.str ⟨#[]⟩,.int .i64 0,.int .i64 0,.int .i64 0,.sl [],.sl []]) (fun j=>by cases e:Nat.beq 901 j<;>simp [aE.get,e]) (by omega) rfl (by rw [List.map_append,List.map_replicate,List.map_append,PD,PE]) (by rw [List.drop_zero];exact List.take_left' (by simp only [aIs,aJF,aJG];omega))) ?_;exact Qq
theorem I6 {last:ByteArray} {t:GTag}:wF last t=false↔bU t.key=true∧kR last t.key=true∧t.val≠aP∧t.val.size≤200:=by
 simp only [wF,aJN,Bool.not_eq_false',BK,aIz];constructor
 ·rintro⟨⟨⟨h1,h2⟩,h3⟩,h4⟩;exact⟨h1,h2,h3,by omega⟩
 rintro⟨h1,h2,h3,h4⟩;exact⟨⟨⟨h1,h2⟩,h3⟩,by omega⟩
theorem aCn {s:ByteArray} (h:s≠aP):kR aP s=true:=by
 cases e:kR aP s with
 | true=>rfl
 | false=>exact absurd (sU (ML s) e) h
theorem rL {l:List GTag}:nM l=true↔(∀ t,t∈l→bU t.key=true∧t.val≠aP∧t.val.size≤200)∧asc GTag.key l∧l.length≤60:=by
 have hlen:decide ((l.length:Int)≤60)=decide (l.length≤60):=by
  rw [Bool.eq_iff_iff,aIy,aIy];omega
 rw [nM,hlen,aJA,aJK,List.any_eq_false,aIy];constructor
 ·rintro⟨h,hn⟩;have hb:∀ k t,l[k]?=some t→bU t.key=true∧kR (eR GTag.key l k) t.key=true∧t.val≠aP∧t.val.size≤200:=fun k t hk=>by
   have h1:=h k (List.mem_range.2 (aIv.1 hk).1);rw [zR,hk] at h1;simp only [Bool.not_eq_true] at h1;exact I6.1 h1
  refine⟨fun t ht=>?_,?_,hn⟩
  ·obtain ⟨k,hk⟩:=aJM.1 ht;obtain ⟨a,_,b,c⟩:=hb k t hk;exact⟨a,b,c⟩
  have key:∀ (d i:Nat) (a b:GTag),l[i]?=some a→l[i+d+1]?=some b→kR a.key b.key=true:=by
   intro d
   induction d with
   | zero =>
    intro i a b ha hb';have:=(hb (i+1) b hb').2.1;rw [eR,ha] at this;exact this
   | succ d ih =>
    intro i a b ha hb';have hlt:i+d+1 < l.length:=by have:=(aIv.1 hb').1;omega
    obtain ⟨x,hx⟩:=aX hlt;have h2:=(hb (i+(d+1)+1) b hb').2.1;rw [eR,show i+(d+1)=i+d+1 by omega,hx] at h2;exact l8 (ih i a x ha hx) h2
  rw [asc,List.pairwise_iff_getElem];intro i j hi hj hij;exact key (j - i - 1) i _ _ (aIw hi) (by rw [show i+(j - i - 1)+1=j by omega];exact aIw hj)
 rintro⟨h1,h2,h3⟩;refine⟨fun k hk=>?_,h3⟩;have hlt:=List.mem_range.1 hk;rw [zR,aIw hlt];simp only [Bool.not_eq_true];obtain ⟨a,b,c⟩:=h1 _ (List.getElem_mem hlt);refine I6.2 ⟨a,?_,b,c⟩;cases k with
 | zero =>
  have:l[0].key≠aP:=qB a;exact aCn this
 | succ k =>
  rw [eR,aIw (show k < l.length by omega)];exact tH h2 (Nat.lt_succ_self k) (aIw (by omega)) (aIw hlt)
def aBU (l:List GTag) (key val:ByteArray):List GTag×Int :=if !nM l||!bU key||decide (200 < (val.size:Int))then([],1)
 else if v7 GTag.key l key then(if val=aP then(l.take (JL GTag.key l key)++l.drop (JL GTag.key l key+1),0)else(l.set (JL GTag.key l key) ⟨key,val⟩,0))
 else if val=aP then(l,0)
 else if l.length=60 then([],2)
 else(l.take (JL GTag.key l key)++⟨key,val⟩::l.drop (JL GTag.key l key),0)
def nC (m:List GObj):List PV:=[cO m]
theorem J3 (fv:AV) (l:List (List GObj)) (p:(List GObj)→Bool) (H:aE) (hl:l.length < 4611686018427387904) (hf:∀ o,o∈l→dN Tryz.prog fv [.agg ((nC o).map .pv)] H (fun r H'=>r=.pv (.bool (p o))∧H'=H)) :
    aH Tryz.prog 246 [.pv (.sl (l.map nC)),fv] H (fun r H'=>r=.pv (.int .i64 (jY p l))∧H'=H):=by
  refine Bd func246 rfl ntmps246<|Sr<|Dd aO<|Zz<|Sq<|Sr<|Dd aD<|Dd (fK underlying244)<|Dd aD<|Zz<|aF ?_;refine bG (σ:=Nat) (fun k=>([(0,.pv (.sl (l.map nC))),(1,fv),(7,.pv (.int .i64 (l.map nC).length)),(8,.pv (.int .i64 (k:Int)))],H)) (fun k=>k≤l.length∧∀ j,j < k→∀ b,l[j]?=some b→p b=false) (fun k=>l.length - k) 0 ⟨by omega,by omega⟩ ?_ ?_
  · exact E0
  · rintro k ⟨hk,hno⟩
    refine Sr<|Dd dD<|Zz<|Sq ?_;refine Cn ?_ ?_<;>intro hc1
    · have hlt:k < l.length:=by simpa using hc1
      obtain ⟨o,ho⟩:=aX hlt;have hi:=bZ (f:=nC) ho;have hfo:=hf o (aJB ho);refine aB<|Sq<|aF<|Sr<|Dd aD<|Dd aO<|Zz<|Sr<|Dd aD<|Dd aD<|Dd aD<|Dd (e8 ZW)<|Dd (by exact bQ rfl bF sizeOf38 rfl (by omega) (by simp only [Zl,nC];rfl) rfl)<|Dd (by exact eT rfl rfl rfl (hfo))<|Zz ?_;refine Cn ?_ ?_<;>intro hc2
      · skip
        refine Sr<|Dd aD<|Dd aO<|Zz<|aC ?_;exact cZ (H':=H) (.inr rfl) rfl (aN rfl) Fin.refl ⟨by rw [jY,pE hno ho hc2],rfl⟩
      · skip
        refine aB<|Rg<|Dd eL<|Dd aD<|Zz ?_;refine⟨k+1,⟨by omega,fun j hj b hb=>?_⟩,by omega,E0⟩;by_cases e:j=k
        · subst e;rw [ho] at hb;cases hb;exact hc2
        · exact hno j (by omega) b hb
    · have hge : k = l.length := by have : l.length ≤ k := by simpa using hc1
                                    omega
      subst hge;refine aZ<|Sr<|Dd aO<|Zz<|aC ?_;exact cZ (H':=H) (.inr rfl) rfl (aN rfl) Fin.refl ⟨by rw [jY,pF hno],rfl⟩
theorem EB (fv:AV) (l:List (List GObj)) (p:(List GObj)→Bool) (H:aE) (hl:l.length < 4611686018427387904) (hf:∀ H,∀ o,o∈l→dN Tryz.prog fv [.agg ((nC o).map .pv)] H (fun r H'=>r=.pv (.bool (p o))∧H'=H)) :
  aH Tryz.prog 214 [.pv (.sl (l.map nC)),fv] H (fun r H'=>r=bv (l.any p)∧H'=H):=by
 refine Bd func214 rfl ntmps214<|Sr<|Dd aO<|Zz<|Sr<|Dd aD<|Dd aD<|Dd (by exact aA rfl rfl call246 rfl (J3 fv l p _ hl (hf _)))<|Dd wP<|Dd aO<|Zz<|aC ?_;refine cZ (H':=H) (.inr rfl) rfl (aN rfl) Fin.refl ?_;exact⟨by rw [← uZ],rfl⟩
theorem VP (m:List GObj) (H:aE) (hm:uQ m):aH Tryz.prog 215 [.agg ((nC m).map .pv)] H (fun r H'=>r=bv (!qJ m)∧H'=H):=by refine aH.pure ?_ (by simp [nC]) H;exact Bd func215 rfl ntmps215<|Sr<|Dd (by exact cE (id:=1) rfl rfl rfl rfl rfl)<|Dd aO<|Zz<|Sr<|Dd (by exact aI rfl bF sizeOf38 rfl rfl rfl rfl (by simp only [Zl,aG];rfl) rfl)<|Dd (by exact aA rfl rfl aIJ rfl (wH m _ hm))<|Dd jU<|Dd aO<|Zz<|aC<|Rt<|Qq
theorem OM (l:List (List GObj)) (H:aE) (hl:l.length < 4611686018427387904) (hm:∀ m,m∈l→uQ m):aH Tryz.prog 166 [.pv (.sl (l.map nC))] H (fun r H'=>r=bv (l.all qJ)∧H'=H):=by refine Pu ?_;refine Bd func166 rfl ntmps166<|Sr<|Dd aO<|Zz<|Sr<|Dd aD<|Dd (by exact aA rfl rfl call214 rfl (EB (.pv (.fn 215)) l (fun m=>!qJ m) _ hl (fun H o ho=>dN.fn call215 (VP o H (hm o ho)))))<|Dd jU<|Dd aO<|Zz<|aC<|Rt ?_;exact⟨by rw [List.any_eq_not_all_not];simp,rfl⟩
theorem aHF (o:GObj) (s:ByteArray) (H:aE):aH Tryz.prog 217 [av (aG o),sv s] H (fun r H'=>r=iv (IH o.id s)∧H'=H):=by refine Pu ?_;exact Bd func217 rfl ntmps217<|Sr<|Dd (by exact cE (id:=2) rfl rfl rfl rfl rfl)<|Dd aO<|Zz<|Sr<|Dd (bH eK)<|Dd (cA isAgg9)<|Dd aD<|Dd (by exact aA rfl rfl call205 rfl (XQ o.id s _))<|Dd aO<|Zz<|aC<|Rt<|Qq
theorem aHE (m:List GObj) (s:ByteArray) (H:aE) (hl:m.length < 1099511627776) (hu:Y2 m):aH Tryz.prog 167 [.agg [.pv (cO m)],sv s] H (fun r H'=>r=.tup [iv (JL GObj.id m s:Nat),bv (v7 GObj.id m s)]∧H'=H):=by refine Pu ?_;exact Bd func167 rfl ntmps167<|Sr<|Dd (by exact cE (id:=2) rfl rfl rfl rfl rfl)<|Dd aO<|Dd aO<|Zz<|Sr<|Dd (bH gZ)<|Dd (cA dJ)<|Dd aD<|Dd (by exact aA rfl rfl call216 rfl (aBc (.pv (.fn 217)) m s _ hl hu (fun o ho=>dN.fn call217 (aHF o s _))))<|Dd eZ<|Dd eZ<|Dd aO<|Dd aO<|Zz<|aC<|Ru<|Qq
theorem LV (l:List GObj):∀ r∈l.map aG,r.length=6:=fun r hr=>by
 obtain ⟨t,_,rfl⟩:=List.mem_map.1 hr;rfl
def CD (m:List GObj) (o:GObj):List GObj:=if v7 GObj.id m o.id then m.set (JL GObj.id m o.id) o else m.take (JL GObj.id m o.id)++o::m.drop (JL GObj.id m o.id)
def tD (m:List GObj) (o:GObj):List GObj×Int :=if !qJ m||!iC o then([],1)else if !v7 GObj.id m o.id&&decide (m.length=1000000)then([],2)else(CD m o,0)
theorem Fin.map1 {H1:aE} {id g n:Nat} {x:AV} {ob:Ob} (ps:List (List PV)) (hH:H1.get id=some ob) (hg:ob.g=g) (hps:ob.rows=ps.map (·.map .pv)) (hn:ps.length=n) (hx:Clo [] x) :
  Fin [] H1 (.tup [.agg [.osl id g 0 n],x]) [] (.tup [.agg [.pv (.sl ps)],x]):=by
 subst hg hn;exact Fin.fz (id:=id) (ob:=ob) ps hH hps (.tup rfl (dC (.agg rfl (dC (.osl (by rw [aJJ,List.drop_zero,List.take_length])) oK)) (dC (.same hx) oK))) rfl trivial trivial
theorem aFR (m:List GObj) (o:GObj) (H:aE) (hm:uQ m) (ho:DO o) (hl:m.length < 1099511627776):aH Tryz.prog 119 [.agg [.pv (cO m)],av (aG o)] H (fun r H'=>r=.tup [.agg [.pv (cO (tD m o).1)],iv (tD m o).2]∧H'=H):=by
 refine Pu ?_;have hml:(m.map aG).length=m.length:=aIr _;have hrl:=LV m;have hv:=fun H=>OM [m] H (by show 1 < _;omega) (by intro x hx;rw [aIu] at hx;subst hx;exact hm);rw [show ([m].all qJ)=qJ m by simp] at hv;refine Bd func119 rfl ntmps119<|Sr<|Dd (by exact cE (id:=2) rfl rfl rfl rfl rfl)<|Dd (by exact cE (id:=3) rfl rfl rfl rfl rfl)<|Dd (by exact bJ (id:=4) rfl YP rfl rfl)<|Dd aO<|Zz<|Sq<|Sq ?_;refine bD (t:=17) (n:=10) (X:=!qJ m||!iC o) ?_ ?_
 ·all_goals refine Dd (by exact aI rfl bF sizeOf38 rfl rfl rfl rfl (by simp only [Zl,aG];rfl) rfl) ?_
  all_goals refine Dd (by exact aT ([m].map nC) rfl ZW rfl rfl rfl rfl rfl (by simp [nC]))<|Dd (by exact aA rfl rfl call166 rfl (hv _))<|Dd jU<|Dm ?_
  all_goals refine Sp 13 (fun h13=>?_) fun h13=>?_
  all_goals try contradiction
  all_goals first|refine Fo<|Fo<|Fo ?_|refine On (by exact aI rfl aY sizeOf49 rfl rfl rfl rfl (by simp only [Zl,aG];rfl) rfl)<|On (by exact aA rfl rfl aCS rfl (vU o _ ho))<|On jU ?_
  all_goals refine Dd dI<|Zz ?_
  all_goals(exact⟨⟨_,rfl,by(simp only [*,Zo];done)⟩,rfl,rfl,rfl⟩)
 refine Cn ?_ ?_<;>intro hc1
 ·have e:tD m o=([],1):=by rw [tD,aIq hc1]
  rw [e];refine Sr<|Dd (jG FL)<|Uu (fP sizeOf38)<|Dd aO<|Zz<|aC ?_;refine iD (H':=[]) (.inr rfl) rfl (k8 rfl bF sizeOf38 rfl rfl rfl (by simp only [Zl,aG];rfl) rfl) (aN rfl) (Fin.wk (by simp) trivial trivial) ?_;exact Qq
 have hg:qJ m=true:=by
  have h:=hc1;revert h;cases qJ m<;>simp
 have hu:=(mS.1 hg).2.1;have hle:=NK GObj.id m o.id;have hgp:tD m o=if !v7 GObj.id m o.id&&decide (m.length=1000000)then([],2)else(CD m o,0):=by rw [tD,aIp (by rw [hc1];simp)]
 obtain ⟨i,hi0⟩:∃ i,i=JL GObj.id m o.id:=⟨_,rfl⟩;rw [CD,← hi0] at hgp;rw [← hi0] at hle;have hat:=fun H=>aHE m o.id H hl hu;rw [← hi0] at hat;refine aB<|Sr<|Dd (by exact aI rfl bF sizeOf38 rfl rfl rfl rfl (by simp only [Zl,aG];rfl) rfl)<|Dd (bH eK)<|Dd (cA isAgg9)<|Dd (by exact aA rfl rfl call167 rfl (hat _))<|Dd aD<|Dd eZ<|Dd eZ<|Dd aO<|Dd aO<|Zz<|Sr<|Dd (bH gZ)<|Dd (cA dJ)<|Dd (by exact aA rfl rfl call168 rfl (LZ (m.map aG) _ (dF.ofL ⟨(by(simp;done)),(by(simp;done)),(by(simp;done)),trivial⟩) rfl rfl (by omega) hrl))<|Dd (jG FL)<|Dd (by exact bJ (id:=8) rfl YP rfl rfl)<|Uu (fP sizeOf38)<|Zz<|Sq<|aF<|Sr<|Dd aD<|Da ?_;refine Cn ?_ ?_<;>intro hc2
 ·have hf:v7 GObj.id m o.id=true:=hc2;obtain ⟨x,hx,hxk⟩:=QA hu hf;rw [← hi0] at hx;have hlt:=(aIv.1 hx).1;rw [hf] at hgp;simp only [Bool.not_true,Bool.false_and,Bool.false_eq_true,if_false,if_true] at hgp;rw [hgp];have hir:(xH (m.map aG))[i]?=some ((aG x).map .pv):=by rw [xH,List.map_map,aJL,hx];rfl
  refine Rg<|Dd (bH gZ)<|Dd (cA dJ)<|Dd aD<|Dd (by exact aI rfl aY sizeOf49 rfl rfl rfl rfl (by simp only [Zl,aG];rfl) rfl)<|Dd (by exact cG rfl iK rfl rfl rfl rfl rfl (by omega) (by exact aJC _) (by rw [hml];exact hlt) (aJJ _))<|Uu (by exact qV rfl sizeOf49 rfl rfl rfl rfl rfl rfl hir (aJE rfl) rfl rfl)<|Zz<|Sr<|Dd (qZ bF sizeOf38)<|Uu (fP sizeOf38)<|Dd aO<|Zz<|aC ?_;refine iD (H':=[]) (.inr rfl) rfl (nZ bF sizeOf38) (aN rfl) (Fin.map1 (id:=901) ((m.set i o).map aG) rfl rfl (by rw [List.map_set,List.map_set];rfl) (by rw [aIr,List.length_set,aIr]) (by simp)) ?_;exact Qq
 have hf:v7 GObj.id m o.id=false:=hc2;rw [hf] at hgp;simp only [Bool.not_false,Bool.true_and,Bool.false_eq_true,if_false] at hgp;refine Sr<|Dd (bH gZ)<|Dd (cA dJ)<|Dd (fK cQ)<|Dd cI<|Da ?_;refine Cn ?_ ?_<;>intro hc3
 ·have h:m.length=1000000:=by
   have h:=aIn hc3;omega
  rw [hgp,aIq (by simp [h])];refine Sr<|Dd (jG FL)<|Uu (fP sizeOf38)<|Dd aO<|Zz<|aC ?_;refine iD (H':=[]) (.inr rfl) rfl (nZ bF sizeOf38) (aN rfl) (Fin.wk (by simp) trivial trivial) ?_;exact Qq
 have h:¬ m.length=1000000:=by
  have h:=aIo hc3;omega
 rw [hgp,aIp (by simp [h])];refine Rg<|Dd (bH gZ)<|Dd (cA dJ)<|Dd aD<|Dd (by exact aI rfl aY sizeOf49 rfl rfl rfl rfl (by simp only [Zl,aG];rfl) rfl)<|Dd (by exact eN (id:=902) rfl iK rfl rfl rfl rfl (by intro r hr;rw [aIu] at hr;subst hr;rfl) rfl)<|Dd (by exact aA rfl rfl call169 rfl (SR (m.map aG) (aG o) i 1 _ (dF.ofL ⟨(by(simp;done)),(by exact aB7 rfl),(by(simp;done)),(by(simp;done)),(by(simp;done)),(by(simp;done)),(by(simp;done)),trivial⟩) rfl rfl rfl (by omega) (by omega) hrl rfl))<|Dd (bH gZ)<|Uu (fP sizeOf36)<|Zz<|Sr<|Dd (qZ bF sizeOf38)<|Uu (fP sizeOf38)<|Dd aO<|Zz<|aC ?_;refine iD (H':=[]) (.inr rfl) rfl (nZ bF sizeOf38) (aN rfl) (Fin.wk (by simp) trivial trivial) ?_;have hs:cO (m.take i++o::m.drop i)=.sl ((m.map aG).take i++aG o::(m.map aG).drop i):=by rw [cO,List.map_append,List.map_take,List.map_cons,List.map_drop]
 exact⟨by rw [hs];rfl,rfl⟩
theorem LS (m:List GObj) (o:GObj):(CD m o).length=if v7 GObj.id m o.id then m.length else m.length+1:=by
 have:=NK GObj.id m o.id;unfold CD
 split
 ·rw [List.length_set]
 rw [aIs,aIt,aJF,aJG];omega
theorem XG {m:List GObj} {o x:GObj} (h:x∈CD m o):x=o∨x∈m:=by
 unfold CD at h
 split at h
 ·rcases List.mem_or_eq_of_mem_set h with h|h
  ·exact .inr h
  exact .inl h
 rcases List.mem_append.1 h with h|h
 ·exact .inr (List.mem_of_mem_take h)
 rcases aJD.1 h with h|h
 ·exact .inl h
 exact .inr (List.mem_of_mem_drop h)
theorem aA6 {m:List GObj} {o:GObj} (hm:uQ m) (ho:DO o) (hl:m.length < 1099511627776):uQ (CD m o):=by
 refine⟨by rw [LS];split<;>omega,fun x hx=>?_⟩;rcases XG hx with rfl|hx
 ·exact ho
 exact hm.2 x hx
theorem xR (fv : AV) (l : List GObj) (p : GObj → Bool) (H : aE) (hl : l.length < 4611686018427387904) (hf : ∀ o, o ∈ l → dN Tryz.prog fv [.agg ((aG o).map .pv)] H (fun r H' => r = .pv (.bool (p o)) ∧ H' = H)) :
    aH Tryz.prog 104 [.pv (.sl (l.map aG)),fv] H (fun r H'=>r=.pv (.int .i64 (jY p l))∧H'=H):=by
  refine Bd func104 rfl ntmps104<|Sr<|Dd aO<|Zz<|Sq<|Sr<|Dd aD<|Dd (fK cQ)<|Dd aD<|Zz<|aF ?_;refine bG (σ:=Nat) (fun k=>([(0,.pv (.sl (l.map aG))),(1,fv),(7,.pv (.int .i64 (l.map aG).length)),(8,.pv (.int .i64 (k:Int)))],H)) (fun k=>k≤l.length∧∀ j,j < k→∀ b,l[j]?=some b→p b=false) (fun k=>l.length - k) 0 ⟨by omega,by omega⟩ ?_ ?_
  · exact E0
  · rintro k ⟨hk,hno⟩
    refine Sr<|Dd dD<|Zz<|Sq ?_;refine Cn ?_ ?_<;>intro hc1
    · have hlt:k < l.length:=by simpa using hc1
      obtain ⟨o,ho⟩:=aX hlt;have hi:=bZ (f:=aG) ho;have hfo:=hf o (aJB ho);refine aB<|Sq<|aF<|Sr<|Dd aD<|Dd aO<|Zz<|Sr<|Dd aD<|Dd aD<|Dd aD<|Dd (e8 iK)<|Dd (by exact bQ rfl aY sizeOf49 rfl (by omega) (by simp only [Zl,aG];rfl) rfl)<|Dd (by exact eT rfl rfl rfl (hfo))<|Zz ?_;refine Cn ?_ ?_<;>intro hc2
      · skip
        refine Sr<|Dd aD<|Dd aO<|Zz<|aC ?_;exact cZ (H':=H) (.inr rfl) rfl (aN rfl) Fin.refl ⟨by rw [jY,pE hno ho hc2],rfl⟩
      · skip
        refine aB<|Rg<|Dd eL<|Dd aD<|Zz ?_;refine⟨k+1,⟨by omega,fun j hj b hb=>?_⟩,by omega,E0⟩;by_cases e:j=k
        · subst e;rw [ho] at hb;cases hb;exact hc2
        · exact hno j (by omega) b hb
    · have hge : k = l.length := by have : l.length ≤ k := by simpa using hc1
                                    omega
      subst hge;refine aZ<|Sr<|Dd aO<|Zz<|aC ?_;exact cZ (H':=H) (.inr rfl) rfl (aN rfl) Fin.refl ⟨by rw [jY,pF hno],rfl⟩
theorem FE (fv:AV) (l:List GEdit) (p:GEdit→Bool) (H:aE) (hl:l.length < 4611686018427387904) (hf:∀ o,o∈l→dN Tryz.prog fv [.agg ((aJ o).map .pv)] H (fun r H'=>r=.pv (.bool (p o))∧H'=H)) :
    aH Tryz.prog 89 [.pv (.sl (l.map aJ)),fv] H (fun r H'=>r=.pv (.int .i64 (jY p l))∧H'=H):=by
  refine Bd func89 rfl ntmps89<|Sr<|Dd aO<|Zz<|Sq<|Sr<|Dd aD<|Dd (fK cB)<|Dd aD<|Zz<|aF ?_;refine bG (σ:=Nat) (fun k=>([(0,.pv (.sl (l.map aJ))),(1,fv),(7,.pv (.int .i64 (l.map aJ).length)),(8,.pv (.int .i64 (k:Int)))],H)) (fun k=>k≤l.length∧∀ j,j < k→∀ b,l[j]?=some b→p b=false) (fun k=>l.length - k) 0 ⟨by omega,by omega⟩ ?_ ?_
  · exact E0
  · rintro k ⟨hk,hno⟩
    refine Sr<|Dd dD<|Zz<|Sq ?_;refine Cn ?_ ?_<;>intro hc1
    · have hlt:k < l.length:=by simpa using hc1
      obtain ⟨o,ho⟩:=aX hlt;have hi:=bZ (f:=aJ) ho;have hfo:=hf o (aJB ho);refine aB<|Sq<|aF<|Sr<|Dd aD<|Dd aO<|Zz<|Sr<|Dd aD<|Dd aD<|Dd aD<|Dd (e8 lK)<|Dd (by exact bQ rfl bA aL rfl (by omega) (by simp only [Zl,aJ];rfl) rfl)<|Dd (by exact eT rfl rfl rfl (hfo))<|Zz ?_;refine Cn ?_ ?_<;>intro hc2
      · skip
        refine Sr<|Dd aD<|Dd aO<|Zz<|aC ?_;exact cZ (H':=H) (.inr rfl) rfl (aN rfl) Fin.refl ⟨by rw [jY,pE hno ho hc2],rfl⟩
      · skip
        refine aB<|Rg<|Dd eL<|Dd aD<|Zz ?_;refine⟨k+1,⟨by omega,fun j hj b hb=>?_⟩,by omega,E0⟩;by_cases e:j=k
        · subst e;rw [ho] at hb;cases hb;exact hc2
        · exact hno j (by omega) b hb
    · have hge : k = l.length := by have : l.length ≤ k := by simpa using hc1
                                    omega
      subst hge;refine aZ<|Sr<|Dd aO<|Zz<|aC ?_;exact cZ (H':=H) (.inr rfl) rfl (aN rfl) Fin.refl ⟨by rw [jY,pF hno],rfl⟩
def oJ (id:ByteArray) (o:GObj):Bool:=decide (o.id=id)
def onP (x y:Int):Bool:=decide (0≤min x y)&&decide (max x y < 1048576)
end Go.Proofs.YtlnfjkdacimblaaGreatDoor
