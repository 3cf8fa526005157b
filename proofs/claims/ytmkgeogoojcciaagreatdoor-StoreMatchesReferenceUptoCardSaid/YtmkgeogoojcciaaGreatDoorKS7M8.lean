/-
  Parts of the proof: rules of an abstract program logic, contracts of functions, plain laws. Conditions: each theorem's own.
-/
import Derived.Test.YtmkgeogoojcciaaGreatDoorKS7M7
set_option linter.unusedVariables false
set_option linter.unusedSimpArgs false
set_option maxRecDepth 100000
set_option maxHeartbeats 8000000
namespace Go.Proofs
theorem aHc:type_of% Tryz.call19:=Tryz.call19
theorem aHa:type_of% Tryz.call24:=Tryz.call24
theorem aH7:type_of% Tryz.call51:=Tryz.call51
theorem aH6:type_of% Tryz.call52:=Tryz.call52
theorem aC8:type_of% Tryz.func12:=Tryz.func12
theorem CG:type_of% Tryz.func14:=Tryz.func14
theorem aH1:type_of% Tryz.func21:=Tryz.func21
theorem dJ:type_of% Tryz.isAgg35:=Tryz.isAgg35
theorem Y9:type_of% Tryz.ntmps12:=Tryz.ntmps12
theorem yQ:type_of% Tryz.ntmps14:=Tryz.ntmps14
theorem aHF:type_of% Tryz.ntmps21:=Tryz.ntmps21
theorem dR:type_of% Tryz.underlying25:=Tryz.underlying25
end Go.Proofs
namespace Go.Proofs.YtmkgeogoojcciaaGreatDoor
open Go.Proofs.Tryz
open Go.Abs Go.Lib
def itN:Ob:=⟨0,0,0,gU (.pv .nilm) 0 0 []⟩
theorem aDf {H:aE}:∀ r∈itN.rows,∀ x∈r,Clo H x:=by intro r hr x hx;simp only [itN,gU,List.map_nil,aHu] at hr;subst hr;simp only [aID,aIH,or_false] at hx;rcases hx with rfl|rfl|rfl<;>exact .pv _
abbrev nBx:Ob:=bx 1 33 [.pv .nilm]
theorem ZP (P:List ByteArray) (hP:P.length < 1099511627776) (H:aE) :
  aK Tryz.prog 46 [.pv .nilm,.pv (aX P)] H (fun r H'=>r=iv (bX [] P)∧H'=H):=by
 refine Pu ?_;have hcf:=fun H (h5:H.get 5=some nmB)=>K5 (.clo 94 [.ref 5 0 0 0]) P (fun s=>!cR s) H (by omega) (fun s=>iL.clo call94 (OD s H h5));have hV:bX [] P=if P.any (fun s=>!cR s)=true then 1 else 0:=by
  rw [bX];show (if(false||P.any fun s=>!cR s)=true then(1:Int)else if false=true then 2 else 0)=_;rw [Bool.false_or];rfl
 rw [hV];obtain ⟨ns,hns⟩:∃ b,b=P.any (fun s=>!cR s):=⟨_,rfl⟩;rw [← hns] at hcf ⊢;refine Bd func46 rfl ntmps46<|Sr<|Dd aR<|Zz<|Sr<|Dd (by exact dW (id:=5) rfl aFm rfl rfl)<|Uu (vJ sizeOf53)<|Zz<|Sr<|Dd aR<|Zz<|Sq<|Sr<|Dd aB<|Dd (by exact MS (q:=946) rfl bL rfl rfl)<|Zz<|aJ ?_;refine bG (σ:=Unit) (fun _=>([(0,.pv .nilm),(1,.pv (aX P)),(5,.ref 5 0 0 0),(6,bv false),(10,.it 946 0)],[(946,itN),(5,nmB)])) (fun _=>True) (fun _=>0) () trivial ?_ ?_
 ·exact(cC.wk (Eb<|Eb<|Ea<|Eb<|Ea<|trivial) (Hc aDf<|Hb<|trivial) trivial)
 rintro _ -;refine Sq<|Rg ?_;refine gC rfl rfl (SU rfl rfl rfl rfl rfl) ?_;rintro _ _ (⟨rfl,rfl,hn0⟩|⟨hni,hnp,hn1,hn2,rfl,rfl⟩)
 ·refine Dd eC<|Zz<|Sq ?_;refine Cn ?_ ?_<;>intro hc1
  ·cases hc1
  refine aV<|Sq<|aJ<|Sr<|Dd aB<|Dd (by exact iQ rfl rfl)<|Dd (by exact aA rfl rfl call93 rfl (hcf _ rfl))<|Da ?_;refine Cn ?_ ?_<;>intro hc2
  ·have hn:ns=true:=hc2;rw [aHq hn];exact Sr<|Dd aR<|Zz<|aH<|Rt<|Qq
  have hn:¬ ns=true:=by rw [show ns=false from hc2];decide
  rw [aHp hn];refine Sr<|Dd aB<|Da ?_;refine Cn ?_ ?_<;>intro hc3
  ·cases hc3
  exact aF<|Sr<|Dd aR<|Zz<|aH<|Rt<|Qq
 exact hn1.elim
theorem aDb (H:aE) (h1:H.get 951=none) :
  aK Tryz.prog 55 [.pv .nilm] H (fun r H'=>r=.clo 105 [.ref 951 0 0 0]∧H'=(951,nBx)::H):=by
 refine Bd func55 rfl ntmps55<|Sr<|Dd (by exact jQ (id:=951) rfl rfl rfl rfl h1)<|Dd aR<|Zz<|Sr<|Dd (by exact iQ rfl rfl)<|Dd aR<|Zz<|aH ?_;refine bI (H':=((951,nBx)::H)) (.inr rfl) rfl (aI rfl) Fin.refl ?_;exact Qq
theorem aBC (K:aE) (h1:K.get 951=some nBx):H6 105 [.ref 951 0 0 0] (fun M=>M.Perm []) K:=by
 intro yv Hs hK h6 hcl hf hy0 hy1;have g1:∀ M,(Hs M).get 951=some nBx:=fun M=>hK M _ _ h1;refine Bd func105 rfl ntmps105<|Sr<|Dd (by exact bH rfl dO rfl (g1 []) rfl rfl rfl)<|Dd (by exact MS (q:=946) rfl bL rfl (h6 []))<|Zz<|aJ ?_;refine bG (σ:=Unit) (fun _=>([(0,yv),(5,.it 946 0)],(946,itN)::Hs [])) (fun _=>True) (fun _=>0) () trivial ?_ ?_
 ·exact E0
 rintro _ -;refine Sq<|Rg ?_;refine gC rfl rfl (SU rfl rfl (get_cons_same _ _ _) rfl rfl) ?_;rintro _ _ (⟨rfl,rfl,hn0⟩|⟨hni,hnp,hn1,hn2,rfl,rfl⟩)
 ·refine Dd eC<|Zz<|Sq ?_;refine Cn ?_ ?_<;>intro hc1
  ·cases hc1
  refine aV ?_;exact eQ (H':=Hs []) (.inl rfl) rfl (Fin.pops' [(946,itN)] (by simp) (hcl _) (by simp [h6]) (by simp [h6])) ⟨rfl,[],List.Perm.refl _,rfl⟩
 exact hn1.elim
abbrev tN (g:Nat) (W:List ByteArray):aE:=[(951,nBx),(920,⟨g,1,9,eA W⟩)]
theorem aEg (g:Nat) (W:List ByteArray):bT (tN g W):=bT.of (fun p hp=>by
 simp only [aID,aIH,or_false] at hp;rcases hp with rfl|rfl
 ·intro r hr x hx;simp only [bx,aHu] at hr;subst hr;rw [aHu] at hx;subst hx;exact .pv _
 exact dK _ _)
theorem aCs (P:List ByteArray) (hP:P.length < 1099511627776) (hsz:(bM [] P).length < 35184372088832) (H:aE) :
  aK Tryz.prog 50 [.pv .nilm,.pv (aX P)] H (fun r H'=>r=sv (ofL (bM [] P))∧H'=H):=by
 refine Pu ?_;have hso:=LU (L:=([]:List ByteArray)) (by decide) aHM (tN 0 [fL 0]) (aBC _ rfl) rfl rfl rfl rfl (aEg _ _) (by simp;rfl);have hS:eT []=[]:=List.length_eq_zero_iff.1 (kW []);have hin:=vX hsz;have hpl:(P.map encStr).length=P.length:=aHr _;have hW:eD [] P=[fL 0,fL ((P.map encStr).length:Int)]++P:=by
  rw [eD,hS];rfl
 change aK _ _ _ _ fun r H'=>r=.pv (aX (eT []))∧H'=_ at hso;rw [hS] at hso;refine Bd func50 rfl ntmps50<|Sr<|Dd aR<|Zz<|Sr<|Dd aB<|Dd (by exact aE1 rfl bL rfl)<|Dd (by exact aA rfl rfl vP rfl (uX 0 (by omega) (by omega) _))<|Dd (by exact fX (id:=920) rfl cD rfl rfl rfl rfl (show ∀ r∈eA [fL 0],r.length=1 from by intro r hr;rw [aHu.1 hr];rfl) rfl)<|Dd aR<|Zz<|Sq<|Sr<|Dd aB<|Dd (by exact aA rfl rfl aH4 rfl (aDb _ rfl))<|Dd (by exact aA rfl rfl N0 rfl (hso))<|Dd (jY aO)<|Dd aB<|Zz<|aJ ?_;refine bG (σ:=Unit) (fun _=>([(0,.pv .nilm),(1,.pv (aX P)),(5,.osl 920 0 0 1),(14,.pv (aX [])),(15,iv 0),(16,iv 0)],tN 0 [fL 0])) (fun _=>True) (fun _=>0) () trivial ?_ ?_
 ·exact E0
 rintro _ -;refine Sr<|Dd cP<|Zz<|Sq ?_;refine Cn ?_ ?_<;>intro hc1
 ·(have:=aHn hc1;omega)
 refine aV<|Sr<|Dd aB<|Dd aB<|Dd (jY aO)<|Dd (by exact aA rfl rfl vP rfl (uX ((P.map encStr).length:Int) (by omega) (by omega) _))<|Dd (by exact bD [[.str (fL ((P.map encStr).length:Int))]] rfl cD rfl rfl rfl rfl rfl (by intro r hr;rw [aHu] at hr;subst hr;rfl))<|Dd (by exact dV (ps:=[[.str (fL ((P.map encStr).length:Int))]]) rfl cD IB rfl rfl rfl rfl rfl (eX _) rfl (by intro r hr;rw [aHu] at hr;subst hr;rfl) (m:=1) rfl (by omega) rfl (oA _ _))<|Dd aR<|Zz<|Sr<|Dd aB<|Dd aB<|Dd (by exact dV (ps:=P.map encStr) rfl cD IB rfl rfl rfl rfl rfl (eX _) rfl (by intro r hr;obtain ⟨q,_,rfl⟩:=List.mem_map.1 hr;rfl) (m:=P.length) hpl (by omega) rfl (zF _ P))<|Dd (by exact aA rfl rfl vO rfl (VE (W:=eD [] P) hin (by rw [hW];rfl) (by rw [hW,aHs];rfl))) ?_;exact Dd (by exact bD [[.str (ofL (aT (eD [] P)))]] rfl cD rfl rfl rfl rfl rfl (by intro r hr;rw [aHu] at hr;subst hr;rfl))<|Dd (by exact aA rfl rfl vO rfl (qJ [ofL (aT (eD [] P))] _ hsz))<|Dd aR<|Zz<|aH<|Rt<|Qq
theorem aDx (l:cN) (c:Nat) (H:aE) (h0:H.get 1101=some (cB l c)) (h6:H.get 946=none) (hcl:bT H) :
  aK Tryz.prog 104 [.mp 1101 0,.pv .nilm] H (fun r H'=>r=.tup []∧H'=H):=by
 refine Bd func104 rfl ntmps104<|Sr<|Dd aB<|Dd (by exact MS (q:=946) rfl bL rfl h6)<|Zz<|aJ ?_;refine bG (σ:=Unit) (fun _=>([(0,.mp 1101 0),(7,.it 946 0)],(946,itN)::H)) (fun _=>True) (fun _=>0) () trivial ?_ ?_
 ·exact E0
 rintro _ -;refine Sq<|Rg ?_;refine gC rfl rfl (SU rfl rfl (get_cons_same _ _ _) rfl rfl) ?_;rintro _ _ (⟨rfl,rfl,hn0⟩|⟨hni,hnp,hn1,hn2,rfl,rfl⟩)
 ·refine Dd eC<|Zz<|Sq ?_;refine Cn ?_ ?_<;>intro hc1
  ·cases hc1
  refine aV ?_;exact eQ (H':=H) (.inl rfl) rfl (Fin.pops' [(946,itN)] (by simp) hcl (by simp [h6]) (by simp [h6])) ⟨rfl,rfl⟩
 exact hn1.elim
theorem aCJ (l:cN) (c:Nat) (P:List ByteArray) (H:aE) (hP:P.length < 1099511627776) (h0:H.get 1101=some (cB l c)) (h6:H.get 946=none) (hcl:bT H) :
  aK Tryz.prog 53 [.mp 1101 0,.pv .nilm,.pv (aX P)] H (fun r H'=>r=.tup []∧H'=(1101,cB (qA l P) c)::H):=by
 have hml:(P.map encStr).length=P.length:=aHr _;have hcp:=aDx l c H h0 h6 hcl;refine Bd func53 rfl ntmps53<|Sr<|Dd aB<|Dd aB<|Dd (by exact aA rfl rfl call104 rfl (hcp))<|Zz<|Sr<|Dd aB<|Dd (jY aO)<|Dd aB<|Zz<|aJ ?_;refine bG (σ:=Nat) (fun k=>([(0,.mp 1101 0),(11,.pv (aX P)),(12,iv ((P.map encStr).length:Int)),(13,iv (k:Int))],(1101,cB (qA l (P.take k)) c)::H)) (fun k=>k≤P.length) (fun k=>P.length - k) 0 (aII _) ?_ ?_
 ·exact cC.get' ⟨⟨_,rfl,rfl⟩,⟨_,rfl,rfl⟩,⟨_,rfl,rfl⟩,⟨_,rfl,rfl⟩,trivial⟩ (fun j=>G6 h0 j)
 intro k hk;refine Sr<|Dd cP<|Zz<|Sq ?_;refine Cn ?_ ?_<;>intro hc1
 ·have hlt:k < P.length:=by have:=aHn hc1;omega
  obtain ⟨s,hs⟩:=aY hlt;have hi:=cV (f:=encStr) hs;refine aF<|Sq<|aJ<|Sr<|Dd (sU cD)<|Dd (gW aQ)<|Dd aR<|Zz<|Rg<|Dd aB<|Dd aB<|Uu (by exact P7 (κ:=iU) (l:=cU (qA l (P.take k))) rfl bL aC rfl (get_cons_same _ _ _) rfl rfl rfl rfl (M8 s _))<|Zz<|Rg<|Dd rL<|Dd aB<|Zz ?_;refine⟨k+1,by omega,by omega,?_⟩;rw [KX hs];exact cC.get' ⟨⟨_,rfl,rfl⟩,⟨_,rfl,rfl⟩,⟨_,rfl,rfl⟩,⟨_,rfl,by rfl⟩,trivial⟩ (fun j=>lD _ _ _ _ j)
 have hge:k=P.length:=by have:=aHo hc1;omega
 subst hge;rw [List.take_length];refine aV ?_;exact eQ (H':=(1101,cB (qA l P) c)::H) (.inl rfl) rfl Fin.refl ⟨rfl,rfl⟩
def Q8 (d:DSt) (k a i:Nat):ByteArray:=C3 (2+a*k+i) (cH d (2+a*k+i))
def GU (d:DSt) (k a n:Nat):Bool:=(List.range n).all fun i=>!decide (Q8 d k a i=sNil)
def PO (d:DSt) (k a n:Nat):List UInt8:=(List.range n).flatMap fun i=>(Q8 d k a i).data.toList
def zQ (d:DSt) (k a n:Nat):Bool:=GU d k a n&&((cS (PO d k a n)).2&&(cS (PO d k a n)).1.all fun c=>iK c.data.toList)
def OA (d:DSt) (k a n:Nat):CT:=pT ((cS (PO d k a n)).1.map fun c=>c.data.toList)
def zN (d:DSt) (k:Nat):Bool:=kJ k 1 (cH d 1)
def C7 (d:DSt) (k:Nat):Bool:=zN d k||kJ k 0 (cH d 0)
def sV (d:DSt) (k:Nat):Nat:=if zN d k then pF (cH d 1)else if kJ k 0 (cH d 0)then pF (cH d 0)else 0
def rQ (d:DSt) (k:Nat):Nat:=if zN d k then pE (cH d 1)else if kJ k 0 (cH d 0)then pE (cH d 0)else 0
theorem U1 {p:List UInt8} (h:1≤p.length):¬ ofL p=sNil:=fun e=>by
 have:=congrArg ByteArray.size e;rw [bO] at this;have h0:sNil.size=0:=rfl;omega
theorem QS {d:DSt} {N k a n:Nat} {C:CT} (hc:Calm d N) (h:SInv d.cells k a n C) {Q:List (List UInt8)} (h1:Q.length=n) (h2:LogAt d.cells (2+a*k) Q) {i:Nat} {q:List UInt8} (hq:Q[i]?=some q):Q8 d k a i=ofL q:=by have hp:=h2.p q (aIB hq);rw [Q8,rB hc,h2.at' i q hq];exact PB hp.1 hp.2
theorem aFL {d:DSt} {N k a n:Nat} {C:CT} (hc:Calm d N) (h:SInv d.cells k a n C) {Q:List (List UInt8)} (h1:Q.length=n) (h2:LogAt d.cells (2+a*k) Q):PO d k a n=Q.flatten:=by
 have go:∀ m,m≤n→(List.range m).flatMap (fun i=>(Q8 d k a i).data.toList)=(Q.take m).flatten:=by
  intro m
  induction m with
  | zero=>intro _;rfl
  | succ m ih =>
   intro hm;obtain ⟨q,hq⟩:=aY (l:=Q) (k:=m) (by omega);rw [List.range_succ,List.flatMap_append,ih (by omega),bW hq,List.flatten_append,List.flatMap_cons,List.flatMap_nil,QS hc h h1 h2 hq,bB];rfl
 rw [PO,go n (aHx _),← h1,List.take_length]
theorem YK {d:DSt} {N k a n:Nat} {C:CT} (hc:Calm d N) (h:SInv d.cells k a n C) (hk:k < 10000000) :
  sV d k=a∧rQ d k=n∧(C7 d k=true∨(C7 d k=false∧cH d 0=zS))∧zQ d k a n=true∧OA d k a n=C∧cH d 1=nB 1 a n (C7 d k)∧cH d 0=nB 0 a n (C7 d k):=by
 obtain ⟨Q,T,h1,h2,h3,h4,h5⟩:=h.lg;have hT:PO d k a n=aT (T.map ofL):=(aFL hc h h1 h2).trans h3;have hlen:=AC h2.p;have hnk:=h.nk;have hsp:cS (PO d k a n)=(T.map ofL,true):=by
  rw [hT];refine lT fun x hx=>?_;have:=qV hx;rw [← h3] at this;omega
 have hall:GU d k a n=true:=List.all_eq_true.2 fun i hi=>by
  obtain ⟨q,hq⟩:=aY (l:=Q) (k:=i) (by have:=List.mem_range.1 hi;omega);have hp:=h2.p q (aIB hq);rw [QS hc h h1 h2 hq,decide_eq_false (U1 hp.1)];rfl
 have hok:zQ d k a n=true:=by
  rw [zQ,hall,hsp];simp only [Bool.true_and];refine List.all_eq_true.2 fun x hx=>?_;obtain ⟨t,ht,rfl⟩:=List.mem_map.1 hx;rw [bB];exact h4 t ht
 have hC:OA d k a n=C:=by
  rw [OA,hsp,h5,List.map_map];congr 1;rw [show ((fun c:ByteArray=>c.data.toList)∘ofL)=id from funext fun t=>bB t,List.map_id]
 rcases h.hd with⟨g1,g0⟩|⟨g1,g0,ea,en⟩
 ·have t1:cH d 1=hS 1 a n:=by rw [rB hc,g1];rfl
  have t0:cH d 0=hS 0 a n:=by rw [rB hc,g0];rfl
  obtain ⟨p1,p2,p3⟩:=P1 (place:=1) h.a2 h.nk hk;have hh:zN d k=true:=by rw [zN,t1,p3]
  have hH:C7 d k=true:=by rw [C7,hh];rfl
  exact⟨by rw [sV,hh,aHq rfl,t1,p1],by rw [rQ,hh,aHq rfl,t1,p2],.inl hH,hok,hC,by rw [hH,t1];rfl,by rw [hH,t0];rfl⟩
 have t1:cH d 1=zS:=by rw [rB hc,g1];rfl
 have t0:cH d 0=zS:=by rw [rB hc,g0];rfl
 have hh:zN d k=false:=by rw [zN,t1,AS]
 have hH:C7 d k=false:=by rw [C7,hh,t0,AS];rfl
 exact⟨by rw [sV,hh,aHp (by decide),t0,AS,aHp (by decide),ea],by rw [rQ,hh,aHp (by decide),t0,AS,aHp (by decide),en],.inr ⟨hH,t0⟩,hok,hC,by rw [hH,t1];rfl,by rw [hH,t0];rfl⟩
def cE (l:cN):List UInt8:=if l.length=0 then[] else bM l []
abbrev zR (n:Nat):List ByteArray:=List.replicate n zS
theorem TY:zS.size=64:=by rw [bO,zB,List.length_replicate]
theorem EM (n:Nat):∀ t∈zR n,t.size=64:=fun t ht=>by rw [List.eq_of_mem_replicate ht,TY]
def AP (d:DSt) (k a:Nat) (w:List UInt8):Int×DSt:=if(fR d k (1 - a) 0 w).1=0 then gY (fR d k (1 - a) 0 w).2 (2+a*k+0) (zR (k - 0))else fR d k (1 - a) 0 w
def scL (d:DSt) (k:Nat) (w:List UInt8):Int×DSt:=if(AP d k 1 w).1=0 then gY (AP d k 1 w).2 (2+0*k+dD w) (zR (k - dD w))else AP d k 1 w
def uB (d:DSt) (k a:Nat) (w:List UInt8):Int×DSt:=if a=1 then scL d k w else if(AP d k 0 w).1=0 then scL (AP d k 0 w).2 k w else AP d k 0 w
def oJ (k:Nat) (w:List UInt8) (tl:List ByteArray):List ByteArray:=hS 0 0 (dD w)::hS 1 0 (dD w)::(gG 2 w (dD w)++(zR (k - dD w)++(zR k++tl)))
theorem QP {d:DSt} {n:Nat} (h:Calm d n) {k a:Nat} {w:List UInt8} (hk:2*k+2≤n) (hn:n≤8000) (ha:a < 2) (hw:dD w≤k) :
  (AP d k a w).1=0∧Calm (AP d k a w).2 n∧(AP d k a w).2.cells=pW (((pW d.cells (2+(1 - a)*k+0) (gG (2+(1 - a)*k+0) w (dD w))).set 1 (hS 1 (1 - a) (0+dD w))).set 0 (hS 0 (1 - a) (0+dD w))) (2+a*k+0) (zR (k - 0)):=by
 have hak:a*k≤k:=by
  rcases(show a=0∨a=1 by omega)with e|e<;>subst e<;>omega
 obtain ⟨a1,a2,a3⟩:=B6 h (k:=k) (a:=1 - a) (cn:=0) (t:=w) hk hn (by omega) (by omega);obtain ⟨b1,b2,b3⟩:=B4 a2 (place:=2+a*k+0) (L:=zR (k - 0)) (by rw [List.length_replicate];omega) (EM _) (by rw [List.length_replicate];omega);rw [AP,aHq a1];exact⟨b1,b2,by rw [b3,a3]⟩
theorem QR {d:DSt} {n:Nat} (h:Calm d n) {k:Nat} {w:List UInt8} (hk:2*k+2≤n) (hn:n≤8000) (hw:dD w≤k) :
  (scL d k w).1=0∧Calm (scL d k w).2 n∧(scL d k w).2.cells=oJ k w (d.cells.drop (2*k+2)):=by
 obtain ⟨a1,a2,a3⟩:=QP h (k:=k) (a:=1) (w:=w) hk hn (by omega) hw;obtain ⟨b1,b2,b3⟩:=B4 a2 (place:=2+0*k+dD w) (L:=zR (k - dD w)) (by rw [List.length_replicate];omega) (EM _) (by rw [List.length_replicate];omega);rw [scL,aHq a1];refine⟨b1,b2,?_⟩;have hl:=h.inv.n;rw [b3,a3];refine List.ext_getElem? fun j=>?_;rw [nG,nG,oT,List.length_set,List.length_set,oT,List.length_replicate,List.length_replicate];rw [oJ];rcases(show j=0∨j=1∨∃ i,j=i+2 by
  match j with
  | 0=>exact .inl rfl
  | 1=>exact .inr (.inl rfl)
  | i+2=>exact .inr (.inr ⟨i,rfl⟩))with rfl|rfl|⟨i,rfl⟩
 ·rw [aHp (by omega),aHp (by omega),List.getElem?_set_self (by rw [List.length_set,oT];omega)];rw [aIJ];rfl
 ·rw [aHp (by omega),aHp (by omega),List.getElem?_set_ne (by omega),List.getElem?_set_self (by rw [oT];omega)];rw [aIJ];rfl
 rw [List.getElem?_cons_succ,List.getElem?_cons_succ,List.getElem?_set_ne (by omega),List.getElem?_set_ne (by omega),nG,eB];by_cases h1:i < dD w
 ·rw [aHp (by omega),aHp (by omega),aHq (by omega),List.getElem?_append_left (by rw [eB];exact h1),AY h1,show i+2 - (2+(1 - 1)*k+0)=i by omega,AY h1,show 2+(1 - 1)*k+0=2 by omega]
 rw [List.getElem?_append_right (by rw [eB];omega),eB];by_cases h2:i < k
 ·rw [aHq (by omega),List.getElem?_append_left (by rw [List.length_replicate];omega),List.getElem?_replicate,List.getElem?_replicate,aHq (by omega),aHq (by omega)]
 rw [aHp (by omega),List.getElem?_append_right (by rw [List.length_replicate];omega),List.length_replicate];by_cases h3:i < 2*k
 ·rw [aHq (by omega),List.getElem?_append_left (by rw [List.length_replicate];omega),List.getElem?_replicate,List.getElem?_replicate,aHq (by omega),aHq (by omega)]
 rw [aHp (by omega),aHp (by omega),List.getElem?_append_right (by rw [List.length_replicate];omega),List.length_replicate,List.getElem?_drop];congr 1;omega
theorem aBm {d:DSt} {n:Nat} (h:Calm d n) {k a:Nat} {w:List UInt8} (hk:2*k+2≤n) (hn:n≤8000) (ha:a < 2) (hw:dD w≤k) :
  (uB d k a w).1=0∧Calm (uB d k a w).2 n∧(uB d k a w).2.cells=oJ k w (d.cells.drop (2*k+2)):=by
 rw [uB];by_cases e:a=1
 ·rw [aHq e];exact QR h hk hn hw
 rw [aHp e];obtain ⟨a1,a2,a3⟩:=QP h (k:=k) (a:=0) (w:=w) hk hn (by omega) hw;rw [aHq a1];obtain ⟨b1,b2,b3⟩:=QR a2 hk hn hw;refine⟨b1,b2,?_⟩;rw [b3];congr 1;rw [a3];have hl:=h.inv.n;refine List.ext_getElem? fun j=>?_;rw [List.getElem?_drop,List.getElem?_drop,nG,List.length_replicate,aHp (by omega),List.getElem?_set_ne (by omega),List.getElem?_set_ne (by omega),nG,eB,aHp (by omega)]
theorem RR {cells:List ByteArray} {k a n:Nat} {C:CT} (h:SInv cells k a n C) {l:cN} (hn:gX l) (hl:∀ x,eN l x=C x) (hw:dD (cE l)≤k) (hk:k < 5000) :
  SInv (oJ k (cE l) (cells.drop (2*k+2))) k 0 (dD (cE l)) C:=by
 have hkn:=h.kn;have hwr:=h.wrong hn hl;obtain ⟨w,hW⟩:∃ w,w=cE l:=⟨_,rfl⟩;have hlen:(oJ k w (cells.drop (2*k+2))).length=cells.length:=by
  rw [← hW] at hw;rw [oJ,aHt,aHt,aHs,eB,aHs,aHs,List.length_replicate,List.length_replicate,aIG];omega
 rw [← hW] at hw ⊢;have hat:LogAt (oJ k w (cells.drop (2*k+2))) (2+0*k) ((List.range (dD w)).map (gH w)):=by
  refine⟨fun q hq=>?_,fun i q hq=>?_⟩
  ·obtain ⟨i,hi,rfl⟩:=List.mem_map.1 hq;exact PD (List.mem_range.1 hi)
  rw [aIL] at hq;have hi:i < dD w:=by
   by_cases e:i < dD w
   ·exact e
   rw [List.getElem?_eq_none (by rw [List.length_range];omega)] at hq;cases hq
  rw [List.getElem?_range hi] at hq;cases hq;rw [oJ,show 2+0*k+i=i+2 by omega,List.getElem?_cons_succ,List.getElem?_cons_succ,List.getElem?_append_left (by rw [eB];exact hi),AY hi,Nat.add_comm i 2]
 refine⟨h.k1,by rw [hlen];exact hkn,by omega,hw,.inl ⟨rfl,rfl⟩,?_⟩;have hfl:((List.range (dD w)).map (gH w)).flatten=w:=UU w;by_cases h0:l.length=0
 ·have hw0:w=[]:=by rw [hW,cE,aHq h0]
  refine⟨_,[],?_,hat,by rw [hfl,hw0];rfl,fun t ht=>(by cases ht),?_⟩
  ·rw [aHr,List.length_range]
  funext x;rw [← hl,List.length_eq_zero_iff.1 h0];rfl
 have hwt:w=bM l []:=by rw [hW,cE,aHp h0]
 have hin:=vX (l:=l) (P:=[]) (N:=1000000) (by rw [← hwt];have:=hw;rw [dD] at this;omega);obtain ⟨r1,r2,r3⟩:=L6 hn (P:=[]) List.Pairwise.nil (by omega) hwr (by omega);refine⟨_,[aT (eD l [])],?_,hat,by rw [hfl,hwt];rfl,fun t ht=>by rw [aHu.1 ht];exact r1,?_⟩
 ·rw [aHr,List.length_range]
 funext x;show C x=ctA (fun _=>none) (aT (eD l [])) x;rw [ctA,r3,vC,aHp aIH,r2,hl];cases C x<;>rfl
def swM (i:Nat):Nat:=if i=950 then 1101 else if i=1101 then 950 else i
theorem aCu (i:Nat):swM (swM i)=i:=by
 unfold swM
 repeat' split
 all_goals omega
theorem xK (ρ:Nat→Nat) (l:cN) (c:Nat):lU ρ (cB l c)=cB l c:=by
 show (⟨0,0,c,(jI iU (cU l)).map (kR ρ)⟩:Ob)=⟨0,0,c,jI iU (cU l)⟩;have:∀ r∈jI iU (cU l),kR ρ r=r:=by
  intro r hr;obtain ⟨p,hp,rfl⟩:=List.mem_map.1 hr;obtain ⟨q,_,rfl⟩:=List.mem_map.1 hp;rfl
 rw [List.map_congr_left this,List.map_id']
theorem aAW (l:cN) (c:Nat):jM swM [(950,cB l c)]=[(1101,cB l c)]:=by show [(swM 950,lU swM (cB l c))]=_;rw [xK];rfl
theorem aCr (l:cN) (c:Nat) (P:List ByteArray) (hst:fI l c) (hl:l.length < 1099511627776) (hP:P.length < 1099511627776) (hsz:(bM l P).length < 35184372088832) (H:aE) (h:H.get 1101=some (cB l c)) :
  aK Tryz.prog 50 [.mp 1101 0,.pv (aX P)] H (fun r H'=>r=sv (ofL (bM l P))∧H'=H):=by
 have h1:=aK.ren (ρ:=swM) aCu (T4 l c P hst hl hP hsz) (args':=[.mp 1101 0,.pv (aX P)]) (H':=[(1101,cB l c)]) (r':=sv (ofL (bM l P))) (H1':=[(1101,cB l c)]) rfl (aAW l c) rfl (aAW l c);refine aK.frameS h1 (fun j o ho=>?_) (bT.ofL ⟨aU _ _ _,trivial⟩) (by simp;rfl);simp only [aE.get] at ho;cases e:Nat.beq 1101 j with
 | true =>
  rw [e] at ho;cases ho;rw [← Nat.eq_of_beq_eq_true e];exact h
 | false=>rw [e] at ho;cases ho
theorem OV {d:DSt} {N m:Nat} (h:DInv d N m) (k a n:Nat) (l:cN) (c:Nat) (hk:k < 4000) (hkN:2*k+2≤N) (ha:a < 2) (hn:n≤k) (hm:m≤10) (hst:fI l c) (hl:l.length < 1099511627776) (hsz:(bM l []).length < 100000000000) :
  aK Tryz.prog 21 [.ref 1100 0 0 0] (sH d (dU k a n false) (cB l c)) (fun r H'=>(k < dD (cE l)∧r=iv 21∧H'=sH d (dU k a n false) (cB l c))∨(dD (cE l)≤k∧r=iv (uB d k a (cE l)).1∧∃ a' n',a' < 2∧n'≤k∧((uB d k a (cE l)).1=0→a'=0∧n'=dD (cE l))∧H'=sH (uB d k a (cE l)).2 (dU k a' n' (!decide ((uB d k a (cE l)).1=0))) (cB l c))):=by
 have htx:=fun H hH=>aCr l c [] hst hl (by decide) (by omega) H hH;have hml:(cU l).length=l.length:=aHr _;have hW:cE l=if l.length=0 then[] else bM l []:=rfl
 have hwl:(cE l).length < 100000000000:=by
  rw [hW]
  split
  ·decide
  exact hsz
 refine Bd aH1 rfl aHF<|Sr<|Dd aR<|Zz<|Sq<|aJ<|Sr<|Dd aB<|Dd (by exact bR rfl dR rfl rfl rfl rfl)<|Da ?_;refine Cn ?_ ?_<;>intro hc1
 ·cases hc1
 refine Sr<|Dd aB<|Dd dY<|Dd (cI mE)<|Dd (cW cK)<|Da ?_;refine Cn ?_ ?_<;>intro hc2
 ·cases hc2
 refine aF<|Sr<|Da ?_;refine fZ (fun(_:Unit)=>([(0,.ref 1100 0 0 0),(2,iv 0),(3,sv (ofL (cE l)))],sH d (dU k a n false) (cB l c))) (fun _=>True) ?_ ?_
 ·refine Sr<|Dd aB<|Dd dY<|Dd (cI zX)<|Dd (cW dO)<|Dd (by exact D8 (κ:=iU) (l:=cU l) rfl bL rfl rfl rfl rfl)<|Dd yP<|Zz ?_;refine Cn ?_ ?_<;>intro hc3
  ·have hq:¬ l.length=0:=by have:=aHn hc3;omega
   rw [hW,aHp hq];refine Rg<|Dd aB<|Dd dY<|Dd (cI zX)<|Dd (cW dO)<|Dd (by exact aA rfl rfl CJ rfl (htx _ rfl))<|Da ?_;exact⟨(),trivial,(cC.wk (Ea<|Eb<|Eb<|trivial) (Hc (aM _ _ rfl rfl rfl)<|Hc (aG _ _)<|Hc (aD _ _ _)<|Hc (aP _ _)<|Hc (cF rfl rfl)<|Hc (aU _ _ _)<|trivial) ⟨rfl,rfl,rfl,rfl,rfl,rfl,trivial⟩)⟩
  have hq:l.length=0:=by have:=aHo hc3;omega
  rw [hW,aHq hq];refine aF ?_;exact⟨(),trivial,(cC.wk (Ea<|Eb<|Eb<|trivial) (Hc (aM _ _ rfl rfl rfl)<|Hc (aG _ _)<|Hc (aD _ _ _)<|Hc (aP _ _)<|Hc (cF rfl rfl)<|Hc (aU _ _ _)<|trivial) ⟨rfl,rfl,rfl,rfl,rfl,rfl,trivial⟩)⟩
 rintro _ -;obtain ⟨w,hw⟩:∃ w,w=cE l:=⟨_,rfl⟩;rw [← hw] at hwl ⊢;clear hW htx;have hcn:=fun H=>HM w (by omega) H;refine Sq<|Sq<|bF follows<|Cq aB<|Cq (by exact aA rfl rfl aH7 rfl (hcn _))<|Cq aB<|Cq dY<|Cq (cI zY)<|Cq (cW aL)<|Cq yP<|cA<|Kr ?_;refine Cn ?_ ?_<;>intro hc4
 ·have hq:k < dD w:=by have:=aHn hc4;omega
  refine Sr<|Dd aR<|Zz<|aH ?_;refine bI (H':=(sH d (dU k a n false) (cB l c))) (.inr rfl) rfl (aI rfl) (Fin.wk (by(simp;done)) (Hc (aM _ _ rfl rfl rfl)<|Hc (aG _ _)<|Hc (aD _ _ _)<|Hc (aP _ _)<|Hc (cF rfl rfl)<|Hc (aU _ _ _)<|trivial) ⟨rfl,rfl,rfl,rfl,rfl,rfl,trivial⟩) ?_;exact .inl ⟨hq,rfl,rfl⟩
 have hq:dD w≤k:=by have:=aHo hc4;omega
 refine aF<|aJ ?_;refine YU (fun(d1:DSt) (a1 n1 m1:Nat)=>([(0,.ref 1100 0 0 0),(3,sv (ofL w))],sH d1 (dU k a1 n1 false) (cB l c))) (fun d1 a1 n1 m1=>DInv d1 N m1∧a1 < 2∧n1≤k∧(m1≤10∨(a1=1∧m1≤10010))∧uB d k a w=uB d1 k a1 w) (fun d1 a1 n1 m1=>1 - a1) d a n m ⟨h,ha,hn,.inl hm,rfl⟩ ?_ ?_
 ·exact(cC.wk (Ea<|Eb<|trivial) (Hc (aM _ _ rfl rfl rfl)<|Hc (aG _ _)<|Hc (aD _ _ _)<|Hc (aP _ _)<|Hc (cF rfl rfl)<|Hc (aU _ _ _)<|trivial) ⟨rfl,rfl,rfl,rfl,rfl,rfl,trivial⟩)
 rintro d1 a1 n1 m1 ⟨hi,ha1,hn1,hm1,hsc⟩;rw [hsc];have hwl2:w.length < 100000000:=by rw [dD] at hq;omega
 have hadd:=aCP hi k a1 n1 (1 - a1) 0 false l c w hwl2 (by omega) (by omega) (by omega) (by omega);have hai:=Q2 hi k (1 - a1) 0 w (by omega);rw [aIJ] at hadd;obtain ⟨x,hx⟩:∃ x,x=fR d1 k (1 - a1) 0 w:=⟨_,rfl⟩;rw [← hx] at hadd hai;have hR:AP d1 k a1 w=if x.1=0 then gY x.2 (2+a1*k+0) (zR (k - 0))else x:=by rw [AP,← hx]
 have hS:uB d1 k a1 w=if a1=1 then(if(AP d1 k a1 w).1=0 then gY (AP d1 k a1 w).2 (2+0*k+dD w) (zR (k - dD w))else AP d1 k a1 w)else if(AP d1 k a1 w).1=0 then uB (AP d1 k a1 w).2 k 1 w else AP d1 k a1 w:=by
  rcases(show a1=0∨a1=1 by omega)with e|e<;>subst e<;>rfl
 have hcl:=QO hai k (1 - a1) (dD w) a1 0 false l c (by omega) ha1 (aII _) (by omega);have hyi:=kI hai (2+a1*k+0) (zR (k - 0)) (by rw [List.length_replicate];omega);rw [List.length_replicate] at hyi;obtain ⟨y,hy⟩:∃ y,y=gY x.2 (2+a1*k+0) (zR (k - 0)):=⟨_,rfl⟩;rw [← hy] at hcl hyi hR;have hcl2:=QO hyi k (1 - a1) (dD w) 0 (dD w) false l c (by omega) (by omega) hq (by omega);obtain ⟨z,hz⟩:∃ z,z=gY y.2 (2+0*k+dD w) (zR (k - dD w)):=⟨_,rfl⟩;rw [← hz] at hcl2;clear hx hsc;refine aJ<|Sr<|Dd aB<|Dd dY<|Dd (cI qX)<|Dd (cI AA)<|Dd (cW aL)<|Dd aR<|Zz<|Sr<|Dd aB<|Dd aB<|Dd (by exact dG rfl rfl rfl (show IntKind.i64.wrap (1 - (a1:Int))=((1 - a1:Nat):Int)by rw [eS (by omega) (by omega)];omega))<|Dd (RA YO)<|Dd aB<|Dd (by exact aA rfl rfl aH6 rfl (hadd))<|Dd aR<|Zz<|Sq<|Sr<|Dd aB<|Dd eP<|Zz ?_;refine Cn ?_ ?_<;>intro hc5
 ·have e0:x.1=0:=aHn hc5;rw [aHq e0] at hR ⊢;rw [hR] at hS;refine Rg<|Dd aB<|Dd aB<|Dd (by exact aA rfl rfl call56 rfl (hcl))<|Dd aR<|Zz<|Sq<|Sr<|Dd aB<|Dd tM<|Zz ?_;refine Cn ?_ ?_<;>intro hc6
  ·have e1:¬ y.1=0:=by have h:=hc6;simpa using h
   have hS2:uB d1 k a1 w=y:=by
    rw [hS,aHp e1,aHp e1,ite_self]
   rw [hS2];refine Sr<|Dd aB<|Dd aR<|Zz<|aH ?_;refine bI (H':=(sH y.2 (dU k (1 - a1) (dD w) (false||!decide (y.1=0))) (cB l c))) (.inr rfl) rfl (aI rfl) (Fin.wk (by(simp;done)) (Hc (aM _ _ rfl rfl rfl)<|Hc (aG _ _)<|Hc (aD _ _ _)<|Hc (aP _ _)<|Hc (cF rfl rfl)<|Hc (aU _ _ _)<|trivial) ⟨rfl,rfl,rfl,rfl,rfl,rfl,trivial⟩) ?_;exact .inr ⟨hq,rfl,1 - a1,dD w,by omega,hq,fun h=>absurd h e1,rfl⟩
  have e1:y.1=0:=by have h:=hc6;simpa using h
  rw [aHq e1,aHq e1,← hz] at hS;have hb:(false||!decide (y.1=0))=false:=by rw [e1];rfl
  rw [hb];refine aF<|Sr<|Dd aB<|Dd eP<|Zz ?_;refine Cn ?_ ?_<;>intro hc7
  ·have e2:a1=1:=by have:=aHn hc7;omega
   rw [aHq e2] at hS;rw [hS];refine Sr<|Dd aB<|Dd aB<|Dd dY<|Dd (cI qX)<|Dd (cI sJ)<|Dd (cW aL)<|Dd (by exact aA rfl rfl call56 rfl (hcl2))<|Dd aR<|Zz<|aH ?_;refine bI (H':=(sH z.2 (dU k (1 - a1) (dD w) (false||!decide (z.1=0))) (cB l c))) (.inr rfl) rfl (aI rfl) (Fin.wk (by(simp;done)) (Hc (aM _ _ rfl rfl rfl)<|Hc (aG _ _)<|Hc (aD _ _ _)<|Hc (aP _ _)<|Hc (cF rfl rfl)<|Hc (aU _ _ _)<|trivial) ⟨rfl,rfl,rfl,rfl,rfl,rfl,trivial⟩) ?_;exact .inr ⟨hq,rfl,1 - a1,dD w,by omega,hq,fun _=>⟨by omega,rfl⟩,rfl⟩
  have e2:¬ a1=1:=by have:=aHo hc7;omega
  rw [aHp e2] at hS;have e3:a1=0:=by omega
  subst e3;refine aF ?_;exact⟨y.2,1,dD w,_,⟨hyi,by omega,hq,.inr ⟨rfl,by omega⟩,hS⟩,by omega,(cC.wk (Ea<|Eb<|trivial) (Hc (aM _ _ rfl rfl rfl)<|Hc (aG _ _)<|Hc (aD _ _ _)<|Hc (aP _ _)<|Hc (cF rfl rfl)<|Hc (aU _ _ _)<|trivial) ⟨rfl,rfl,rfl,rfl,rfl,rfl,trivial⟩)⟩
 have e0:¬ x.1=0:=aHo hc5;rw [aHp e0] at hR ⊢;rw [hR] at hS;have hS2:uB d1 k a1 w=x:=by
  rw [hS,aHp e0,aHp e0,ite_self]
 rw [hS2];have hd0:decide (x.1=0)=false:=decide_eq_false e0;refine aF<|Sq<|Sr<|Dd aB<|Dd tM<|Zz ?_;refine Cn ?_ ?_<;>intro hc8
 ·refine Sr<|Dd aB<|Dd aR<|Zz<|aH ?_;refine bI (H':=(sH x.2 (dU k a1 n1 (!decide (x.1=0))) (cB l c))) (.inr rfl) rfl (aI rfl) (by rw [hd0];exact(Fin.wk (by(simp;done)) (Hc (aM _ _ rfl rfl rfl)<|Hc (aG _ _)<|Hc (aD _ _ _)<|Hc (aP _ _)<|Hc (cF rfl rfl)<|Hc (aU _ _ _)<|trivial) ⟨rfl,rfl,rfl,rfl,rfl,rfl,trivial⟩)) ?_;exact .inr ⟨hq,rfl,a1,n1,ha1,hn1,fun h=>absurd h e0,rfl⟩
 (have h:=hc8;simp [e0] at h)
end Go.Proofs.YtmkgeogoojcciaaGreatDoor
namespace Go.Proofs.YtmkgeogoojcciaaGreatDoor
open Go.Proofs.Tryz
open Go.Abs
theorem UA {F:FuncId} {caps:List AV} {L:List ByteArray} (hL:L.length < 1099511627776) (hE:∀ (args:Array Value) (w:World),(callFunc F args).run Tryz.prog w=.ok (.enter F args) w) (K:aE) (hS:H6 F caps (fun M=>M.Perm L) K) (k2:K.get 942=none) (k4:K.get 944=none) (k5:K.get 945=none) (k6:K.get 946=none) (hc:bT K) (hcap:Clo K (.clo F caps)) :
  aK Tryz.prog 48 [.clo F caps] K (fun r H'=>r=.osl 945 L.length 0 L.length∧H'=(945,⟨L.length,1,9,fT (eZ L)⟩)::K):=by
 refine Bd func48 rfl ntmps48<|Sr<|Dd aR<|Zz<|Sr<|Dm ?_;refine gC rfl rfl (aA rfl rfl call95 rfl (QM hE K hS k2 k4 k5 k6 hc hcap)) ?_;rintro r H' ⟨M,hperm,rfl,rfl⟩;have hMl:M.length < 4611686018427387904:=by rw [hperm.length_eq];omega
 have hSo:=FO hperm;have hln:M.length=L.length:=hperm.length_eq;refine Dd aR<|Zz<|Sr<|Dd aB<|Dd (by exact aA rfl rfl call96 rfl (JM M rfl rfl hMl))<|Zz<|Sr<|Dd aB<|Dd aR<|Zz<|aH ?_;refine bI (H':=((945,⟨M.length,1,9,fT (eZ M)⟩)::K)) (.inr rfl) rfl (aI rfl) (Fin.get' (fun j=>lD _ _ _ _ j)) ?_;exact⟨by rw [hln],by rw [hSo,hln]⟩
end Go.Proofs.YtmkgeogoojcciaaGreatDoor
namespace Go.Proofs.YtmkgeogoojcciaaGreatDoor
open Go.Proofs.Tryz
open Go.Abs Go.Lib
structure OnD (d:DSt) (n:Nat):Prop where
 inv:DInv d n 0
 off:d.off=false
structure jA (d:DSt) (n:Nat):Prop where
 inv:DInv d n 0
 off:d.off=true
 na:∀ a w b,d.arm≠.on a w b
theorem OnD.q {d:DSt} {n:Nat} (h:OnD d n):d.q=[]:=List.length_eq_zero_iff.1 (Nat.le_zero.1 h.inv.q)
theorem Calm.on {d:DSt} {n:Nat} (h:Calm d n):OnD d n:=⟨h.inv,h.off⟩
def aER (cells:List ByteArray) (p:Nat) (L c':List ByteArray):Prop:=∃ m,m≤L.length∧(c'=pW cells p (L.take m)∨∃ t j,L[m]?=some t∧1≤j∧j≤64∧c'=(pW cells p (L.take m)).set (p+m) (tJ (t.extract 0 j) ((cells[p+m]?).getD ⟨#[]⟩)))
theorem UM:∀ (L:List ByteArray) (p:Nat),(AQ p L).length=L.length
 | [],_=>rfl
 | t::r,p=>by rw [AQ,aHt,UM r,aHt]
theorem O6:∀ (L:List ByteArray) (p m:Nat),(AQ p L).take m=AQ p (L.take m)
 | [],p,m=>by rw [AQ,List.take_nil,List.take_nil];rfl
 | t::r,p,0=>rfl
 | t::r,p,m+1=>by rw [AQ,List.take_succ_cons,O6 r,List.take_succ_cons,AQ]
theorem UN:∀ (L:List ByteArray) (p m:Nat),(AQ p L)[m]?=(L[m]?).map fun t=>(p+m,t)
 | [],p,m=>rfl
 | t::r,p,0=>rfl
 | t::r,p,m+1=>by
  rw [AQ,List.getElem?_cons_succ,List.getElem?_cons_succ,UN r];congr 1;funext x;rw [Nat.add_assoc,Nat.add_comm 1 m]
theorem KS {cells:List ByteArray} {s:DSt} {place:Nat} {L:List ByteArray} {i:Nat} (hi:i≤L.length) (hq:s.q=AQ place (L.take i)) (hc:s.cells=cells) (w b:Int):aER cells place L (lY s w b):=by
 have hqm:∀ m,m≤i→s.q.take m=AQ place (L.take m):=fun m hm=>by rw [hq,O6,List.take_take,Nat.min_eq_left hm]
 have hql:s.q.length=i:=by rw [hq,UM,aIF];omega
 obtain ⟨m,hM⟩:∃ m,m=yZ s w:=⟨_,rfl⟩;have hmi:m≤i:=by rw [hM,yZ];omega
 rw [lY,← hM,hqm m hmi,ER,hc];refine⟨m,by omega,?_⟩;cases e:s.q[m]? with
 | none=>exact .inl rfl
 | some p =>
  rw [hq,UN] at e;rw [IE];by_cases hb:0 < b
  ·rw [aHq hb];by_cases hmi2:m < i
   ·rw [List.getElem?_take_of_lt hmi2] at e;cases e2:L[m]? with
    | none=>rw [e2] at e;cases e
    | some t =>
     rw [e2] at e;cases e;refine .inr ⟨t,(min b 64).toNat,rfl,by omega,by omega,?_⟩;show (pW cells place (List.take m L)).set (place+m) (tJ (t.extract 0 (min b 64).toNat) (((pW cells place (List.take m L))[place+m]?).getD ⟨#[]⟩))=_;rw [nG,aIF,aHp (by omega)]
   rw [List.getElem?_eq_none (by rw [aIF];omega)] at e;cases e
  rw [aHp hb];exact .inl rfl
theorem KT {s:DSt} {n m:Nat} (h:DInv s n m) (ho:s.off=false) (w b:Int):jA (fV s w b) n:=by have hi:=tP h w b;rw [fV,aHp (by rw [ho];decide)] at hi ⊢;exact⟨⟨hi.ok,hi.arm,hi.n,aII _⟩,rfl,fun a w b e=>(mV e).elim⟩
theorem QK {s:DSt} {n m:Nat} (h:DInv s n m) (ho:s.off=false):(eG s=0∧(eK s).off=false∧(eK s).q=s.q∧(eK s).cells=s.cells)∨(eG s=22∧∃ w b,eK s=fV s w b):=by
 unfold eG eK;cases e:s.arm with
 | never=>exact .inl ⟨rfl,ho,rfl,rfl⟩
 | off a w b=>exact .inl ⟨rfl,ho,rfl,rfl⟩
 | on a w b =>
  by_cases ha:0 < a
  ·refine .inl ?_;simp only [aHq ha];exact⟨trivial,ho,trivial,trivial⟩
  refine .inr ?_;simp only [aHp ha];exact⟨trivial,w,b,rfl⟩
theorem ZQ {d:DSt} {n:Nat} (h:OnD d n) {place:Nat} {L:List ByteArray} (hp:place+L.length≤n) (hs:∀ t∈L,t.size=64) (hm:L.length≤1048575):∀ i,i≤L.length →
  ((oN d place L i).1=0∧(oN d place L i).2.off=false∧(oN d place L i).2.q=AQ place (L.take i)∧(oN d place L i).2.cells=d.cells)∨((oN d place L i).1=22∧jA (oN d place L i).2 n∧aER d.cells place L (oN d place L i).2.cells)
 | 0,_=>.inl ⟨rfl,h.off,by rw [List.take_zero,AQ];exact h.q,rfl⟩
 | i+1,hi=>by
  have hinv:=tY h.inv place L i (by omega);rcases ZQ h hp hs hm i (by omega)with⟨h1,h2,h3,h4⟩|⟨h1,h2,h3⟩
  ·obtain ⟨t,ht⟩:=aY (l:=L) (k:=i) (by omega);have hz:=hs t (aIB ht);have hD:L.getD i sNil=t:=by rw [List.getD_eq_getElem?_getD,ht];rfl
   have hq:AQ place (L.take (i+1))=AQ place (L.take i)++[(place+i,t)]:=by
    rw [bW ht,MB,aIF,Nat.min_eq_left (by omega)];rfl
   obtain ⟨s,hS⟩:∃ s,s=(oN d place L i).2:=⟨_,rfl⟩;rw [← hS] at h2 h3 h4 hinv;have sc:fK s ((place+i:Nat):Int)=true:=by
    rw [fY];exact decide_eq_true (by have:=hinv.n;omega)
   have wi:=KF hinv (by omega) ((place+i:Nat):Int) t;have w1:gK s ((place+i:Nat):Int) t=eG (iS s (place+i) t):=by rw [gK,h2,aHp (by decide),sc,decide_eq_true hz,aHq (show (true&&true)=true from rfl),aIC]
   have w2:gR s ((place+i:Nat):Int) t=eK (iS s (place+i) t):=by rw [gR,h2,aHp (by decide),sc,decide_eq_true hz,aHq (show (true&&true)=true from rfl),aIC]
   rw [oN,aHq h1,hD,hq,← hS,w1,w2];have hqS:(iS s (place+i) t).q=AQ place (L.take (i+1)):=by
    rw [hq,← h3];rfl
   have hok:DInv (iS s (place+i) t) n (0+i+1):=⟨xD hinv.ok (by have:=hinv.n;omega) hz (by have:=hinv.q;omega),hinv.arm,hinv.n,by show (s.q++[(place+i,t)]).length≤_;rw [aHs,List.length_singleton];have:=hinv.q;omega⟩;rcases QK hok h2 with⟨c1,c2,c3,c4⟩|⟨c1,w,b,c2⟩
   ·exact .inl ⟨c1,c2,by rw [c3,hqS,hq],by rw [c4];exact h4⟩
   refine .inr ⟨c1,?_,?_⟩
   ·rw [c2];exact KT hok h2 w b
   rw [c2,fV,aHp (by show ¬ s.off=true;rw [h2];decide)];exact KS hi hqS h4 w b
  rw [oN,aHp (by rw [h1];decide)];exact .inr ⟨h1,h2,h3⟩
theorem RI {d:DSt} {n:Nat} (h:OnD d n) {place:Nat} {L:List ByteArray} (hp:place+L.length≤n) (hs:∀ t∈L,t.size=64) (hm:L.length≤1048575) :
  ((gY d place L).1=0∧OnD (gY d place L).2 n∧(gY d place L).2.cells=pW d.cells place L)∨((gY d place L).1=22∧jA (gY d place L).2 n∧aER d.cells place L (gY d place L).2.cells):=by
 have hi:=kI h.inv place L (by omega);have hk:=tY h.inv place L L.length (by omega);rcases ZQ h hp hs hm L.length (aHx _)with⟨h1,h2,h3,h4⟩|⟨h1,h2,h3⟩
 ·rw [List.take_length] at h3;rw [gY,aHq h1] at hi ⊢;obtain ⟨s,hS⟩:∃ s,s=(oN d place L L.length).2:=⟨_,rfl⟩;rw [← hS] at h2 h3 h4 hk hi ⊢;have e1:mG s=eG s:=by rw [mG,h2,aHp (by decide)]
  rcases QK hk h2 with⟨c1,c2,c3,c4⟩|⟨c1,w,b,c2⟩
  ·have e2:jJ s=AF (eK s):=by rw [jJ,h2,aHp (by decide),aHq c1]
   rw [e2] at hi;refine .inl ⟨by rw [e1];exact c1,?_,?_⟩
   ·show OnD (jJ s) n;rw [e2];exact⟨⟨hi.ok,hi.arm,hi.n,aII _⟩,c2⟩
   show (jJ s).cells=_;rw [e2];show dL (eK s).cells (eK s).q=_;rw [c3,c4,h3,h4,ER]
  have e2:jJ s=fV s w b:=by rw [jJ,h2,aHp (by decide),aHp (by rw [c1];decide),c2]
  refine .inr ⟨by rw [e1];exact c1,?_,?_⟩
  ·show jA (jJ s) n;rw [e2];exact KT hk h2 w b
  show aER _ _ _ (jJ s).cells;rw [e2,fV,aHp (by rw [h2];decide)];exact KS (aHx _) (by rw [List.take_length];exact h3) h4 w b
 rw [gY,aHp (by rw [h1];decide)];exact .inr ⟨h1,h2,h3⟩
abbrev vBx (P:List ByteArray):Ob:=bx 1 31 [.pv (aX P)]
theorem JG (P:List ByteArray) (H:aE) (h1:H.get 951=none) :
  aK Tryz.prog 49 [.pv (aX P)] H (fun r H'=>r=.clo 97 [.ref 951 0 0 0]∧H'=(951,vBx P)::H):=by
 refine Bd func49 rfl ntmps49<|Sr<|Dd (by exact jQ (id:=951) rfl rfl rfl rfl h1)<|Dd aR<|Zz<|Sr<|Dd (by exact iQ rfl rfl)<|Dd aR<|Zz<|aH ?_;refine bI (H':=((951,vBx P)::H)) (.inr rfl) rfl (aI rfl) Fin.refl ?_;exact Qq
def ZF (i:Nat):Nat:=if i=901 then 945 else if i=945 then 901 else i
theorem aCv (i:Nat):ZF (ZF i)=i:=by
 unfold ZF
 repeat' split
 all_goals omega
theorem aAV (ρ:Nat→Nat) (l:List ByteArray):(mW l).map (kR ρ)=mW l:=by
 have:∀ r∈mW l,kR ρ r=r:=by
  intro r hr;obtain ⟨s,_,rfl⟩:=List.mem_map.1 hr;rfl
 rw [List.map_congr_left this,List.map_id']
abbrev cO (g:Nat) (l:List ByteArray):Ob:=⟨g,1,9,mW l⟩
theorem R3 (ρ:Nat→Nat) (g:Nat) (l:List ByteArray):lU ρ (cO g l)=cO g l:=by show (⟨g,1,9,(mW l).map (kR ρ)⟩:Ob)=_;rw [aAV]
theorem YL (id g:Nat) (l:List ByteArray):bT [(id,cO g l)]:=bT.of (fun p hp=>by
 rw [aHu] at hp;subst hp;exact Z4 _ _)
theorem HO (L:List ByteArray) (g:Nat) (H:aE) (h1:H.get 945=some (cO g L)) (hl:L.length < 1099511627776) :
  aK Tryz.prog 47 [.osl 945 g 0 L.length] H (fun r H'=>r=.osl 945 g 0 (dQ L).length∧H'=[(945,cO g (dQ L++List.replicate (L.length - (dQ L).length) sNil)),(945,cO g L)]++H):=by
 have h0:=K6 L g [(901,cO g L)] rfl hl;have e1:jM ZF [(901,cO g L)]=[(945,cO g L)]:=by
  show [(ZF 901,lU ZF (cO g L))]=_;rw [R3];rfl
 have e2:jM ZF [(901,cO g (dQ L++List.replicate (L.length - (dQ L).length) sNil)),(901,cO g L)]=[(945,cO g (dQ L++List.replicate (L.length - (dQ L).length) sNil)),(945,cO g L)]:=by
  show [(ZF 901,lU ZF (cO g (dQ L++List.replicate (L.length - (dQ L).length) sNil))),(ZF 901,lU ZF (cO g L))]=_;rw [R3,R3];rfl
 have h2:=aK.ren (ρ:=ZF) aCv h0 (args':=[.osl 945 g 0 L.length]) (r':=.osl 945 g 0 (dQ L).length) rfl e1 rfl e2;refine h2.frame (LN h1) (YL _ _ _) (by simp;rfl) (fun id h=>.inl ?_);simp only [aE.get] at h ⊢;cases e:Nat.beq 945 id with
 | true=>rfl
 | false=>rw [e] at h;cases h
def fN (P:List ByteArray):List ByteArray:=dQ (eZ P)
def tX (k n:Nat) (b:Bool) (l2:cN) (P:List ByteArray):Int:=if b then 12 else if ¬ bX l2 P=0 then bX l2 P else if l2.length+(fN P).length=0 then 0 else if k < n+dD (bM l2 (fN P))then 21 else -1
theorem gN (l2:cN) (P:List ByteArray):bX l2 P=0∨bX l2 P=1∨bX l2 P=2:=by
 rw [bX]
 split
 ·exact .inr (.inl rfl)
 split
 ·exact .inr (.inr rfl)
 exact .inl rfl
theorem yI (P:List ByteArray):(fN P).length≤P.length:=by have h1:=KI (eZ P);rw [iN] at h1;exact h1
theorem sF {P:List ByteArray} {x:ByteArray}:x∈fN P↔x∈P:=wY.trans (zH P).mem_iff
theorem B3 (P:List ByteArray):qW (fN P):=vE (JN P)
theorem aBg (P R:List ByteArray):(((dQ (eZ P)++R).map encStr).take (0+(dQ (eZ P)).length)).drop 0=(fN P).map encStr:=by rw [List.drop_zero,aIJ,List.map_append];exact List.take_left' (aHr _)
theorem K8 {d:DSt} {N m:Nat} (h:DInv d N m) (k a n:Nat) (b:Bool) (l:cN) (c:Nat) (l2:cN) (c2:Nat) (P:List ByteArray) (hk:k < 4000) (ha:a < 2) (hn:n≤k) (hm:m≤10) (hst:fI l c) (hnd:gX l) (hst2:fI l2 c2) (hnd2:gX l2) (hl2:l2.length < 1000000) (hP:P.length < 1000000) (hsz:bX l2 P=0→(bM l2 (fN P)).length < 100000000) :
  aK Tryz.prog 14 [.ref 1100 0 0 0,.mp 950 0,.pv (aX P)] ((950,cB l2 c2)::sH d (dU k a n b) (cB l c)) (fun r H'=>(¬ tX k n b l2 P = -1∧r=iv (tX k n b l2 P)∧H'=(950,cB l2 c2)::sH d (dU k a n b) (cB l c)) ∨
   (tX k n b l2 P = -1∧¬ (fR d k a n (bM l2 (fN P))).1=0∧r=iv (fR d k a n (bM l2 (fN P))).1∧H'=(950,cB l2 c2)::sH (fR d k a n (bM l2 (fN P))).2 (dU k a n true) (cB l c)) ∨
   (tX k n b l2 P = -1∧(fR d k a n (bM l2 (fN P))).1=0∧r=iv 0∧∃ l' c',fI l' c'∧gX l'∧l'.length≤l.length+l2.length∧(∀ x,eN l' x=vC (eN l) l2 (fN P) x)∧H'=(950,cB l2 c2)::sH (fR d k a n (bM l2 (fN P))).2 (dU k a (n+dD (bM l2 (fN P))) false) (cB l' c'))):=by
 have hR:tX k n b l2 P=if b then 12 else if ¬ bX l2 P=0 then bX l2 P else if l2.length+(fN P).length=0 then 0 else if k < n+dD (bM l2 (fN P))then 21 else -1:=rfl
 have hwr:=fun H hH=>T1 l2 c2 P hst2 (by omega) (by omega) H hH;have hrange:=gN l2 P;have hDl:=yI P;cases b with
 | true =>
  rw [aHq rfl] at hR;rw [hR];refine Bd CG rfl yQ<|Sr<|Dd aR<|Zz<|Sq<|aJ<|Sr<|Dd aB<|Dd (by exact bR rfl dR rfl rfl rfl rfl)<|Da ?_;refine Cn ?_ ?_<;>intro hc1
  ·cases hc1
  refine Sr<|Dd aB<|Dd dY<|Dd (cI mE)<|Dd (cW cK)<|Da ?_;refine Cn ?_ ?_<;>intro hc2
  ·refine Sr<|Dd aR<|Zz<|aH ?_;refine bI (H':=((950,cB l2 c2)::sH d (dU k a n true) (cB l c))) (.inr rfl) rfl (aI rfl) (Fin.wk (by(simp;done)) (Hc (aU _ _ _)<|Hc (aM _ _ rfl rfl rfl)<|Hc (aG _ _)<|Hc (aD _ _ _)<|Hc (aP _ _)<|Hc (by(simp;exact⟨rfl,rfl⟩))<|Hc (aU _ _ _)<|trivial) ⟨rfl,rfl,rfl,rfl,rfl,rfl,rfl,trivial⟩) ?_;exact .inl ⟨by decide,rfl,rfl⟩
  cases hc2
 | false =>
  rw [aHp (by decide)] at hR;refine Bd CG rfl yQ<|Sr<|Dd aR<|Zz<|Sq<|aJ<|Sr<|Dd aB<|Dd (by exact bR rfl dR rfl rfl rfl rfl)<|Da ?_;refine Cn ?_ ?_<;>intro hc1
  ·cases hc1
  refine Sr<|Dd aB<|Dd dY<|Dd (cI mE)<|Dd (cW cK)<|Da ?_;refine Cn ?_ ?_<;>intro hc2
  ·cases hc2
  refine aF<|Sq<|Sr<|Dd aB<|Dd aB<|Dd (by exact aA rfl rfl CK rfl (hwr _ rfl))<|Dd aR<|Zz<|Sr<|Dd aB<|Dd tM<|Zz ?_;refine Cn ?_ ?_<;>intro hc3
  ·have hq:¬ bX l2 P=0:=by have h:=hc3;simpa using h
   rw [aHq hq] at hR;rw [hR];refine Sr<|Dd aB<|Dd aR<|Zz<|aH ?_;refine bI (H':=((950,cB l2 c2)::sH d (dU k a n false) (cB l c))) (.inr rfl) rfl (aI rfl) (Fin.wk (by(simp;done)) (Hc (aU _ _ _)<|Hc (aM _ _ rfl rfl rfl)<|Hc (aG _ _)<|Hc (aD _ _ _)<|Hc (aP _ _)<|Hc (by(simp;exact⟨rfl,rfl⟩))<|Hc (aU _ _ _)<|trivial) ⟨rfl,rfl,rfl,rfl,rfl,rfl,rfl,trivial⟩) ?_;exact .inl ⟨by omega,rfl,rfl⟩
  have hq:bX l2 P=0:=by have h:=hc3;simpa using h
  rw [aHp (fun h=>h hq)] at hR;have hsz:=hsz hq;have hso:=UA (L:=P) (by omega) call97 ((951,vBx P)::(950,cB l2 c2)::sH d (dU k a n false) (cB l c)) (JH P _ (by omega) rfl) rfl rfl rfl rfl (bT.ofL ⟨(by(simp;done)),(by exact aU _ _ _),(by exact aM _ _ rfl rfl rfl),(by exact aG _ _),(by exact aD _ _ _),(by exact aP _ _),(by(simp;exact⟨rfl,rfl⟩)),(by exact aU _ _ _),trivial⟩) (by simp;rfl);refine aF<|Sr<|Dd aB<|Dd (by exact aA rfl rfl call49 rfl (JG P _ rfl))<|Dd (by exact aA rfl rfl N0 rfl (hso))<|Dd (by exact aA rfl rfl aH8 rfl ((by have h:=HO (eZ P) P.length ((945,cO P.length (eZ P))::(951,vBx P)::(950,cB l2 c2)::sH d (dU k a n false) (cB l c)) rfl (by rw [iN];omega);rw [iN] at h;exact h)))<|Dd aR<|Zz<|Sq<|Sq ?_;refine iF.ent (cC.fzG (id:=945) (E':=[(0,.ref 1100 0 0 0),(1,.mp 950 0),(2,.pv (aX (fN P)))]) (H':=(950,cB l2 c2)::sH d (dU k a n false) (cB l c)) ((dQ (eZ P)++List.replicate (P.length - (dQ (eZ P)).length) sNil).map encStr) rfl (by rw [List.map_map];rfl) ?_ rfl ?_ ?_) ?_
  ·intro p hp;simp only [aID,aIH,or_false] at hp;rcases hp with rfl|rfl|rfl
   ·exact⟨_,rfl,.same (by simp;rfl)⟩
   ·exact⟨_,rfl,.same (by simp;rfl)⟩
   exact⟨_,rfl,.osl (aBg P _)⟩
  ·exact⟨⟨_,rfl,rfl,rfl,rfl,dM (aU _ _ _)⟩,⟨_,rfl,rfl,rfl,rfl,dM (aM _ _ rfl rfl rfl)⟩,⟨_,rfl,rfl,rfl,rfl,dM (aG _ _)⟩,⟨_,rfl,rfl,rfl,rfl,dM (aD _ _ _)⟩,⟨_,rfl,rfl,rfl,rfl,dM (aP _ _)⟩,⟨_,rfl,rfl,rfl,rfl,dM (cF rfl rfl)⟩,⟨_,rfl,rfl,rfl,rfl,dM (aU _ _ _)⟩,trivial⟩
  ·exact⟨rfl,rfl,rfl,rfl,rfl,rfl,rfl,trivial⟩
  have hinc:=B3 P;obtain ⟨D,hD⟩:∃ D,D=fN P:=⟨_,rfl⟩;rw [← hD] at hR hsz hDl ⊢;have hmp:(cU l2).length=l2.length:=aHr _;have hmd:(D.map encStr).length=D.length:=aHr _;have htx:=fun H hH=>ZZ l2 c2 D hst2 (by omega) (by omega) (by omega) H hH;obtain ⟨t,ht⟩:∃ t,t=bM l2 D:=⟨_,rfl⟩;rw [← ht] at hR hsz htx ⊢;have hcn:=fun H=>HM t (by omega) H;refine Rg<|Dd aB<|Dd (by exact D8 (κ:=iU) (l:=cU l2) rfl bL rfl rfl rfl rfl)<|Dd aB<|Dd (jY aO)<|Dd (by exact bA rfl rfl rfl (eS (by omega) (by omega)))<|Dd eP<|Zz ?_;refine Cn ?_ ?_<;>intro hc4
  ·have hq2:l2.length+D.length=0:=by have:=aHn hc4;omega
   rw [aHq hq2] at hR;rw [hR];refine Sr<|Dd aR<|Zz<|aH ?_;refine bI (H':=((950,cB l2 c2)::sH d (dU k a n false) (cB l c))) (.inr rfl) rfl (aI rfl) (Fin.wk (by(simp;done)) (Hc (aU _ _ _)<|Hc (aM _ _ rfl rfl rfl)<|Hc (aG _ _)<|Hc (aD _ _ _)<|Hc (aP _ _)<|Hc (by(simp;exact⟨rfl,rfl⟩))<|Hc (aU _ _ _)<|trivial) ⟨rfl,rfl,rfl,rfl,rfl,rfl,rfl,trivial⟩) ?_;exact .inl ⟨by decide,rfl,rfl⟩
  have hq2:¬ l2.length+D.length=0:=by have:=aHo hc4;omega
  rw [aHp hq2] at hR;refine aF<|Sr<|Dd aB<|Dd aB<|Dd (by exact aA rfl rfl CJ rfl (htx _ rfl))<|Dd aR<|Zz<|Sq<|Sq<|bF follows<|Cq aB<|Cq (by exact aA rfl rfl aH7 rfl (hcn _))<|Cq aB<|Cq dY<|Cq (cI zY)<|Cq (cW aL)<|Cq aB<|Cq dY<|Cq (cI qX)<|Cq (cI sJ)<|Cq (cW aL)<|Cq (by exact dG rfl rfl rfl (eS (by omega) (by omega)))<|Cq yP<|cA<|Kr ?_;refine Cn ?_ ?_<;>intro hc5
  ·have hq3:k < n+dD t:=by have:=aHn hc5;omega
   rw [aHq hq3] at hR;rw [hR];refine Sr<|Dd aR<|Zz<|aH ?_;refine bI (H':=((950,cB l2 c2)::sH d (dU k a n false) (cB l c))) (.inr rfl) rfl (aI rfl) (Fin.wk (by(simp;done)) (Hc (aU _ _ _)<|Hc (aM _ _ rfl rfl rfl)<|Hc (aG _ _)<|Hc (aD _ _ _)<|Hc (aP _ _)<|Hc (by(simp;exact⟨rfl,rfl⟩))<|Hc (aU _ _ _)<|trivial) ⟨rfl,rfl,rfl,rfl,rfl,rfl,rfl,trivial⟩) ?_;exact .inl ⟨by decide,rfl,rfl⟩
  have hq3:¬ k < n+dD t:=by have:=aHo hc5;omega
  rw [aHp hq3] at hR;rw [hR];have hadd:=aCP h k a n a n false l c t hsz (by omega) ha hk (by omega);obtain ⟨x,hx⟩:∃ x,x=fR d k a n t:=⟨_,rfl⟩;rw [← hx] at hadd ⊢;clear hx;refine aF<|Sq<|Sr<|Dd aB<|Dd aB<|Dd dY<|Dd (cI qX)<|Dd (ln' fD sizeOf70)<|Dd aB<|Dd (by exact aA rfl rfl aH6 rfl (kQ hadd _ ⟨rfl,rfl,rfl,rfl,rfl,rfl,trivial⟩ (by simp;rfl)))<|Dd aR<|Zz<|Sr<|Dd aB<|Dd tM<|Zz ?_;refine Cn ?_ ?_<;>intro hc6
  ·have e0:¬ x.1=0:=by have h:=hc6;simpa using h
   rw [aHp e0];refine Sr<|Dd aB<|Dd aR<|Zz<|aH ?_;refine bI (H':=((950,cB l2 c2)::sH x.2 (dU k a n true) (cB l c))) (.inr rfl) rfl (aI rfl) (Fin.wk (by(simp;done)) (Hc (aU _ _ _)<|Hc (aM _ _ rfl rfl rfl)<|Hc (aG _ _)<|Hc (aD _ _ _)<|Hc (aP _ _)<|Hc (by(simp;exact⟨rfl,rfl⟩))<|Hc (aU _ _ _)<|trivial) ⟨rfl,rfl,rfl,rfl,rfl,rfl,rfl,trivial⟩) ?_;exact .inr (.inl ⟨rfl,e0,rfl,rfl⟩)
  have e0:x.1=0:=by have h:=hc6;simpa using h
  rw [aHq e0];refine aF<|Sr<|Dd aB<|Dd dY<|Dd (cI zX)<|Dd (cW dO)<|Dd aB<|Dm ?_;refine gC rfl rfl (aA rfl rfl aH5 rfl (aCK l l2 c c2 D _ (by omega) (by omega) hst2 rfl rfl rfl (bT.ofL ⟨(by exact aM _ _ rfl rfl rfl),(by exact aG _ _),(by exact aD _ _ _),(by exact aP _ _),(by(simp;exact⟨rfl,rfl⟩)),(by exact aU _ _ _),(by exact aU _ _ _),(by exact aM _ _ rfl rfl rfl),(by exact aG _ _),(by exact aD _ _ _),(by exact aP _ _),(by(simp;exact⟨rfl,rfl⟩)),(by exact aU _ _ _),trivial⟩))) ?_;rintro r H' ⟨rfl,ps,hps,rfl⟩;obtain ⟨q1,q2,q3,q4⟩:=B9 (D:=D) hst hnd hnd2 hps;refine Zz<|Sr<|Dd aR<|Zz<|aH ?_;refine bI (H':=((950,cB l2 c2)::sH x.2 (dU k a (n+dD t) false) (cB (qA (kH l c ps).1 D) (kH l c ps).2))) (.inr rfl) rfl (aI rfl) (Fin.wk (by(simp;done)) (Hc (aU _ _ _)<|Hc (aM _ _ rfl rfl rfl)<|Hc (aG _ _)<|Hc (aD _ _ _)<|Hc (aP _ _)<|Hc (by(simp;exact⟨rfl,rfl⟩))<|Hc (aU _ _ _)<|trivial) ⟨rfl,rfl,rfl,rfl,rfl,rfl,rfl,trivial⟩) ?_;exact .inr (.inr ⟨rfl,e0,rfl,_,_,q1,q2,q3,q4,rfl⟩)
theorem YF {d:DSt} {N m:Nat} (h:DInv d N m) (k a n:Nat) (b:Bool) (l:cN) (c:Nat) (P:List ByteArray) (hk:k < 4000) (ha:a < 2) (hn:n≤k) (hm:m≤10) (hst:fI l c) (hnd:gX l) (hP:P.length < 1000000) (hsz:bX ([]:cN) P=0→(bM ([]:cN) (fN P)).length < 100000000) :
  aK Tryz.prog 14 [.ref 1100 0 0 0,.pv .nilm,.pv (aX P)] (sH d (dU k a n b) (cB l c)) (fun r H'=>(¬ tX k n b ([]:cN) P = -1∧r=iv (tX k n b ([]:cN) P)∧H'=sH d (dU k a n b) (cB l c)) ∨
   (tX k n b ([]:cN) P = -1∧¬ (fR d k a n (bM ([]:cN) (fN P))).1=0∧r=iv (fR d k a n (bM ([]:cN) (fN P))).1∧H'=sH (fR d k a n (bM ([]:cN) (fN P))).2 (dU k a n true) (cB l c)) ∨
   (tX k n b ([]:cN) P = -1∧(fR d k a n (bM ([]:cN) (fN P))).1=0∧r=iv 0∧∃ l' c',fI l' c'∧gX l'∧l'.length≤l.length+([]:cN).length∧(∀ x,eN l' x=vC (eN l) ([]:cN) (fN P) x)∧H'=sH (fR d k a n (bM ([]:cN) (fN P))).2 (dU k a (n+dD (bM ([]:cN) (fN P))) false) (cB l' c'))):=by
 have hR:tX k n b ([]:cN) P=if b then 12 else if ¬ bX ([]:cN) P=0 then bX ([]:cN) P else if([]:cN).length+(fN P).length=0 then 0 else if k < n+dD (bM ([]:cN) (fN P))then 21 else -1:=rfl
 have hwr:=fun H=>ZP P (by omega) H;have hrange:=gN ([]:cN) P;have hDl:=yI P;cases b with
 | true =>
  rw [aHq rfl] at hR;rw [hR];refine Bd CG rfl yQ<|Sr<|Dd aR<|Zz<|Sq<|aJ<|Sr<|Dd aB<|Dd (by exact bR rfl dR rfl rfl rfl rfl)<|Da ?_;refine Cn ?_ ?_<;>intro hc1
  ·cases hc1
  refine Sr<|Dd aB<|Dd dY<|Dd (cI mE)<|Dd (cW cK)<|Da ?_;refine Cn ?_ ?_<;>intro hc2
  ·refine Sr<|Dd aR<|Zz<|aH ?_;refine bI (H':=(sH d (dU k a n true) (cB l c))) (.inr rfl) rfl (aI rfl) (Fin.wk (by(simp;done)) (Hc (aM _ _ rfl rfl rfl)<|Hc (aG _ _)<|Hc (aD _ _ _)<|Hc (aP _ _)<|Hc (by(simp;exact⟨rfl,rfl⟩))<|Hc (aU _ _ _)<|trivial) ⟨rfl,rfl,rfl,rfl,rfl,rfl,trivial⟩) ?_;exact .inl ⟨by decide,rfl,rfl⟩
  cases hc2
 | false =>
  rw [aHp (by decide)] at hR;refine Bd CG rfl yQ<|Sr<|Dd aR<|Zz<|Sq<|aJ<|Sr<|Dd aB<|Dd (by exact bR rfl dR rfl rfl rfl rfl)<|Da ?_;refine Cn ?_ ?_<;>intro hc1
  ·cases hc1
  refine Sr<|Dd aB<|Dd dY<|Dd (cI mE)<|Dd (cW cK)<|Da ?_;refine Cn ?_ ?_<;>intro hc2
  ·cases hc2
  refine aF<|Sq<|Sr<|Dd aB<|Dd aB<|Dd (by exact aA rfl rfl CK rfl (hwr _))<|Dd aR<|Zz<|Sr<|Dd aB<|Dd tM<|Zz ?_;refine Cn ?_ ?_<;>intro hc3
  ·have hq:¬ bX ([]:cN) P=0:=by have h:=hc3;simpa using h
   rw [aHq hq] at hR;rw [hR];refine Sr<|Dd aB<|Dd aR<|Zz<|aH ?_;refine bI (H':=(sH d (dU k a n false) (cB l c))) (.inr rfl) rfl (aI rfl) (Fin.wk (by(simp;done)) (Hc (aM _ _ rfl rfl rfl)<|Hc (aG _ _)<|Hc (aD _ _ _)<|Hc (aP _ _)<|Hc (by(simp;exact⟨rfl,rfl⟩))<|Hc (aU _ _ _)<|trivial) ⟨rfl,rfl,rfl,rfl,rfl,rfl,trivial⟩) ?_;exact .inl ⟨by omega,rfl,rfl⟩
  have hq:bX ([]:cN) P=0:=by have h:=hc3;simpa using h
  rw [aHp (fun h=>h hq)] at hR;have hsz:=hsz hq;have hso:=UA (L:=P) (by omega) call97 ((951,vBx P)::sH d (dU k a n false) (cB l c)) (JH P _ (by omega) rfl) rfl rfl rfl rfl (bT.ofL ⟨(by(simp;done)),(by exact aM _ _ rfl rfl rfl),(by exact aG _ _),(by exact aD _ _ _),(by exact aP _ _),(by(simp;exact⟨rfl,rfl⟩)),(by exact aU _ _ _),trivial⟩) (by simp;rfl);refine aF<|Sr<|Dd aB<|Dd (by exact aA rfl rfl call49 rfl (JG P _ rfl))<|Dd (by exact aA rfl rfl N0 rfl (hso))<|Dd (by exact aA rfl rfl aH8 rfl ((by have h:=HO (eZ P) P.length ((945,cO P.length (eZ P))::(951,vBx P)::sH d (dU k a n false) (cB l c)) rfl (by rw [iN];omega);rw [iN] at h;exact h)))<|Dd aR<|Zz<|Sq<|Sq ?_;refine iF.ent (cC.fzG (id:=945) (E':=[(0,.ref 1100 0 0 0),(1,.pv .nilm),(2,.pv (aX (fN P)))]) (H':=sH d (dU k a n false) (cB l c)) ((dQ (eZ P)++List.replicate (P.length - (dQ (eZ P)).length) sNil).map encStr) rfl (by rw [List.map_map];rfl) ?_ rfl ?_ ?_) ?_
  ·intro p hp;simp only [aID,aIH,or_false] at hp;rcases hp with rfl|rfl|rfl
   ·exact⟨_,rfl,.same (by simp;rfl)⟩
   ·exact⟨_,rfl,.same (by simp)⟩
   exact⟨_,rfl,.osl (aBg P _)⟩
  ·exact⟨⟨_,rfl,rfl,rfl,rfl,dM (aM _ _ rfl rfl rfl)⟩,⟨_,rfl,rfl,rfl,rfl,dM (aG _ _)⟩,⟨_,rfl,rfl,rfl,rfl,dM (aD _ _ _)⟩,⟨_,rfl,rfl,rfl,rfl,dM (aP _ _)⟩,⟨_,rfl,rfl,rfl,rfl,dM (cF rfl rfl)⟩,⟨_,rfl,rfl,rfl,rfl,dM (aU _ _ _)⟩,trivial⟩
  ·exact⟨rfl,rfl,rfl,rfl,rfl,rfl,trivial⟩
  have hinc:=B3 P;obtain ⟨D,hD⟩:∃ D,D=fN P:=⟨_,rfl⟩;rw [← hD] at hR hsz hDl ⊢;have hmp:([]:cN).length=0:=rfl;have hmd:(D.map encStr).length=D.length:=aHr _;have htx:=fun H=>aCs D (by omega) (by omega) H;obtain ⟨t,ht⟩:∃ t,t=bM ([]:cN) D:=⟨_,rfl⟩;rw [← ht] at hR hsz htx ⊢;have hcn:=fun H=>HM t (by omega) H;refine Rg<|Dd aB<|Dd (by exact aE1 rfl bL rfl)<|Dd aB<|Dd (jY aO)<|Dd (by exact bA rfl rfl rfl (eS (by omega) (by omega)))<|Dd eP<|Zz ?_;refine Cn ?_ ?_<;>intro hc4
  ·have hq2:([]:cN).length+D.length=0:=by have:=aHn hc4;omega
   rw [aHq hq2] at hR;rw [hR];refine Sr<|Dd aR<|Zz<|aH ?_;refine bI (H':=(sH d (dU k a n false) (cB l c))) (.inr rfl) rfl (aI rfl) (Fin.wk (by(simp;done)) (Hc (aM _ _ rfl rfl rfl)<|Hc (aG _ _)<|Hc (aD _ _ _)<|Hc (aP _ _)<|Hc (by(simp;exact⟨rfl,rfl⟩))<|Hc (aU _ _ _)<|trivial) ⟨rfl,rfl,rfl,rfl,rfl,rfl,trivial⟩) ?_;exact .inl ⟨by decide,rfl,rfl⟩
  have hq2:¬ ([]:cN).length+D.length=0:=by have:=aHo hc4;omega
  rw [aHp hq2] at hR;refine aF<|Sr<|Dd aB<|Dd aB<|Dd (by exact aA rfl rfl CJ rfl (htx _))<|Dd aR<|Zz<|Sq<|Sq<|bF follows<|Cq aB<|Cq (by exact aA rfl rfl aH7 rfl (hcn _))<|Cq aB<|Cq dY<|Cq (cI zY)<|Cq (cW aL)<|Cq aB<|Cq dY<|Cq (cI qX)<|Cq (cI sJ)<|Cq (cW aL)<|Cq (by exact dG rfl rfl rfl (eS (by omega) (by omega)))<|Cq yP<|cA<|Kr ?_;refine Cn ?_ ?_<;>intro hc5
  ·have hq3:k < n+dD t:=by have:=aHn hc5;omega
   rw [aHq hq3] at hR;rw [hR];refine Sr<|Dd aR<|Zz<|aH ?_;refine bI (H':=(sH d (dU k a n false) (cB l c))) (.inr rfl) rfl (aI rfl) (Fin.wk (by(simp;done)) (Hc (aM _ _ rfl rfl rfl)<|Hc (aG _ _)<|Hc (aD _ _ _)<|Hc (aP _ _)<|Hc (by(simp;exact⟨rfl,rfl⟩))<|Hc (aU _ _ _)<|trivial) ⟨rfl,rfl,rfl,rfl,rfl,rfl,trivial⟩) ?_;exact .inl ⟨by decide,rfl,rfl⟩
  have hq3:¬ k < n+dD t:=by have:=aHo hc5;omega
  rw [aHp hq3] at hR;rw [hR];have hadd:=aCP h k a n a n false l c t hsz (by omega) ha hk (by omega);obtain ⟨x,hx⟩:∃ x,x=fR d k a n t:=⟨_,rfl⟩;rw [← hx] at hadd ⊢;clear hx;refine aF<|Sq<|Sr<|Dd aB<|Dd aB<|Dd dY<|Dd (cI qX)<|Dd (ln' fD sizeOf70)<|Dd aB<|Dd (by exact aA rfl rfl aH6 rfl (kQ hadd _ ⟨rfl,rfl,rfl,rfl,rfl,rfl,trivial⟩ (by simp;rfl)))<|Dd aR<|Zz<|Sr<|Dd aB<|Dd tM<|Zz ?_;refine Cn ?_ ?_<;>intro hc6
  ·have e0:¬ x.1=0:=by have h:=hc6;simpa using h
   rw [aHp e0];refine Sr<|Dd aB<|Dd aR<|Zz<|aH ?_;refine bI (H':=(sH x.2 (dU k a n true) (cB l c))) (.inr rfl) rfl (aI rfl) (Fin.wk (by(simp;done)) (Hc (aM _ _ rfl rfl rfl)<|Hc (aG _ _)<|Hc (aD _ _ _)<|Hc (aP _ _)<|Hc (by(simp;exact⟨rfl,rfl⟩))<|Hc (aU _ _ _)<|trivial) ⟨rfl,rfl,rfl,rfl,rfl,rfl,trivial⟩) ?_;exact .inr (.inl ⟨rfl,e0,rfl,rfl⟩)
  have e0:x.1=0:=by have h:=hc6;simpa using h
  rw [aHq e0];refine aF<|Sr<|Dd aB<|Dd dY<|Dd (cI zX)<|Dd (cW dO)<|Dd aB<|Dm ?_;refine gC rfl rfl (aA rfl rfl aH5 rfl (aCJ l c D _ (by omega) rfl rfl (bT.ofL ⟨(by exact aM _ _ rfl rfl rfl),(by exact aG _ _),(by exact aD _ _ _),(by exact aP _ _),(by(simp;exact⟨rfl,rfl⟩)),(by exact aU _ _ _),(by exact aM _ _ rfl rfl rfl),(by exact aG _ _),(by exact aD _ _ _),(by exact aP _ _),(by(simp;exact⟨rfl,rfl⟩)),(by exact aU _ _ _),trivial⟩))) ?_;rintro r H' ⟨rfl,rfl⟩;obtain ⟨q1,q2,q3,q4⟩:=B9 (put:=[]) (ps:=[]) (D:=D) hst hnd GO (List.Perm.refl _);refine Zz<|Sr<|Dd aR<|Zz<|aH ?_;refine bI (H':=(sH x.2 (dU k a (n+dD t) false) (cB (qA l D) c))) (.inr rfl) rfl (aI rfl) (Fin.wk (by(simp;done)) (Hc (aM _ _ rfl rfl rfl)<|Hc (aG _ _)<|Hc (aD _ _ _)<|Hc (aP _ _)<|Hc (by(simp;exact⟨rfl,rfl⟩))<|Hc (aU _ _ _)<|trivial) ⟨rfl,rfl,rfl,rfl,rfl,rfl,trivial⟩) ?_;exact .inr (.inr ⟨rfl,e0,rfl,_,_,q1,q2,q3,q4,rfl⟩)
abbrev zbA (l:List UInt8) (g:Nat) (u:Bool):Ob:=vG (.osl 2002 g 0 l.length) u
abbrev zbD (l:List UInt8) (g:Nat):Ob:=⟨g,1,5,bP l⟩
theorem aCm {g g':Nat} {l l':List UInt8} {u u':Bool} {id:Nat} (h:(aE.get (RB g l u) id).isSome=true):(aE.get (RB g' l' u') id).isSome=true:=by
 simp only [RB,aE.get] at h ⊢;cases e1:Nat.beq 2001 id with
 | true=>rfl
 | false =>
  cases e2:Nat.beq 2002 id with
  | true=>rfl
  | false=>rw [e1,e2] at h;cases h
theorem ZL {g:Nat} {l:List UInt8} {u u':Bool} {id:Nat} (h:(aE.get (YR g l u) id).isSome=true):(aE.get (RB g l u) id).isSome=true:=by
 simp only [YR,RB,aE.get] at h ⊢;cases e1:Nat.beq 2001 id with
 | true=>rfl
 | false =>
  cases e2:Nat.beq 2002 id with
  | true=>rfl
  | false=>rw [e1,e2] at h;cases h
theorem ZK {H:aE} {g:Nat} {l:List UInt8} {u:Bool} (h1:H.get 2001=some (zbA l g u)) (h2:H.get 2002=some (zbD l g)):Sub (RB g l u) H:=by
 intro j o h;simp only [RB,aE.get] at h;cases e1:Nat.beq 2001 j with
 | true =>
  rw [e1] at h;cases h;rw [← Nat.eq_of_beq_eq_true e1];exact h1
 | false =>
  rw [e1] at h;cases e2:Nat.beq 2002 j with
  | true =>
   rw [e2] at h;cases h;rw [← Nat.eq_of_beq_eq_true e2];exact h2
  | false=>rw [e2] at h;cases h
theorem aFk {H:aE} {g:Nat} {l:List UInt8} {u:Bool} (s:ByteArray) (h1:H.get 2001=some (zbA l g u)) (h2:H.get 2002=some (zbD l g)) (hl:l.length+s.size < 70368744177664):aK Tryz.prog 86 [.ref 2001 0 0 0,sv s] H (fun r H'=>r=.tup [iv (s.size:Int),.pv SS]∧H'=RB (g+1) (l++s.data.toList) true++H) :=aK.frame (yT g l u s hl) (ZK h1 h2) (bT.ofL ⟨(by exact tV rfl rfl),(by exact yK _ _),trivial⟩) (by simp;rfl) (fun id h=>.inl (aCm h))
theorem aEb {H:aE} {g:Nat} {l:List UInt8} {u:Bool} (h1:H.get 2001=some (zbA l g u)) (h2:H.get 2002=some (zbD l g)) (hl:l.length < 70368744177664):aK Tryz.prog 88 [.ref 2001 0 0 0] H (fun r H'=>r=sv ⟨l.toArray⟩∧H'=YR g l u++H) :=aK.frame (aEU g l u hl) (ZK h1 h2) (bT.ofL ⟨(by exact tV rfl rfl),(by exact yK _ _),trivial⟩) (by simp;rfl) (fun id h=>.inl (ZL (u':=u) h))
def pI (d:DSt) (k a i:Nat):List UInt8:=(List.range i).flatMap fun i=>(Q8 d k a i).data.toList
theorem DB (d:DSt) (k a i:Nat):pI d k a (i+1)=pI d k a i++(Q8 d k a i).data.toList:=by rw [pI,List.range_succ,List.flatMap_append,List.flatMap_cons,List.flatMap_nil,List.append_nil];rfl
theorem J4 (place:Nat) (t:ByteArray) (ht:t.size=64):(C3 place t).size≤46:=by
 rw [C3]
 split
 ·exact aII _
 next hb =>
 split
 ·rw [GE] at hb;simp only [Bool.not_eq_true,aIN,aHz] at hb;rw [XA,ByteArray.size_extract];omega
 exact aII _
theorem BM {d:DSt} (hs:DOk d) {k a:Nat} (n:Nat) (hp:∀ i,i < n→2+a*k+i < d.cells.length):∀ i,i≤n→(pI d k a i).length≤46*i
 | 0,_=>aHx _
 | i+1,hi=>by
  have h1:=BM hs n hp i (by omega);have h2:=J4 (2+a*k+i) (cH d (2+a*k+i)) (kU hs (hp i (by omega)));rw [DB,aHs,dP,Q8];omega
theorem FG:∀ (n:Nat) (t:List UInt8) (acc:List ByteArray),((iJ n t acc).1.map ByteArray.size).sum≤(acc.map ByteArray.size).sum+t.length
 | 0,t,acc=>Nat.le_add_right _ _
 | n+1,t,acc=>by
  rw [iJ]
  split
  ·exact Nat.le_add_right _ _
  split
  ·exact aII _
  have h1:=FG n ((tW t).drop (Q9 t)) (acc++[ofL ((tW t).take (Q9 t))]);have h2:=(TF t).2;rw [List.map_append,List.sum_append,List.map_cons,List.map_nil,List.sum_cons,List.sum_nil,bO,aIF,aIG] at h1;omega
theorem FK (t:List UInt8):((cS t).1.map ByteArray.size).sum≤t.length:=by have:=FG t.length t [];rw [List.map_nil,List.sum_nil,aIJ] at this;exact this
theorem OK (L:List ByteArray) (j:Nat):((L.take j).map ByteArray.size).sum≤(L.map ByteArray.size).sum:=by
 have h:L.map ByteArray.size=(L.take j).map ByteArray.size++(L.drop j).map ByteArray.size:=by rw [← List.map_append,List.take_append_drop]
 rw [h,List.sum_append];omega
def okJ (o:Bool) (L:List ByteArray) (j:Nat):Bool:=o&&(L.take j).all fun c=>iK c.data.toList
theorem aAm {o:Bool} {L:List ByteArray} {j:Nat} {t:ByteArray} (h:L[j]?=some t):okJ o L (j+1)=(okJ o L j&&iK t.data.toList):=by rw [okJ,okJ,bW h,List.all_append,List.all_cons,List.all_nil,Bool.and_true,Bool.and_assoc]
abbrev ctJ (L:List ByteArray) (j:Nat):CT:=pT ((L.take j).map fun c=>c.data.toList)
theorem aBa {L:List ByteArray} {j:Nat} {t:ByteArray} (h:L[j]?=some t):ctJ L (j+1)=ctA (ctJ L j) t.data.toList:=by rw [ctJ,bW h,List.map_append];exact vD _ _
theorem aD6 (d:DSt) (hs:DOk d) (hoff:d.off=false) (k a n:Nat) (b:Bool) (ha:a < 2) (hn:n≤k) (hk:2*k+2≤d.cells.length) :
  aK Tryz.prog 44 [.ref 1100 0 0 0] (sH d (dU k a n b) (cB [] 0)) (fun r H'=>r=bv (zQ d k a n)∧∃ l c,fI l c∧gX l∧l.length≤46*n∧(zQ d k a n=true→∀ x,eN l x=OA d k a n x)∧H'=sH d (dU k a n b) (cB l c)):=by
 have hn2:=hs.n2;have hak:a*k≤k:=by
  rcases(show a=0∨a=1 by omega)with e|e<;>subst e<;>omega
 have hplace:∀ i,i < n→2+a*k+i < d.cells.length:=fun i hi=>by omega
 have hTl:=BM (k:=k) (a:=a) hs n hplace;have hTn:PO d k a n=pI d k a n:=rfl;have hok:zQ d k a n=(GU d k a n&&((cS (PO d k a n)).2&&(cS (PO d k a n)).1.all fun c=>iK c.data.toList)):=rfl;have hC:OA d k a n=pT ((cS (PO d k a n)).1.map fun c=>c.data.toList):=rfl;refine Bd func44 rfl ntmps44<|Sr<|Dd aR<|Zz<|Sr<|Dd (by exact dW (id:=2001) rfl ZI rfl rfl)<|Zz<|Sq<|Sr<|Dd aB<|Dd dY<|Dd (cI qX)<|Dd (cI sJ)<|Dd (cW aL)<|Dd aB<|Zz<|aJ ?_;refine iF.ent (E':=[(0,.ref 1100 0 0 0),(3,.ref 2001 0 0 0),(14,iv (n:Int)),(15,iv 0)]) (H':=(2002,⟨0,1,5,[]⟩)::(2001,vG (.osl 2002 0 0 0) false)::sH d (dU k a n b) (cB [] 0)) (cC.nz 2002 1 5 rfl rfl ⟨⟨_,rfl,(by exact Nz.same (by(simp;rfl)))⟩,⟨_,rfl,(by exact Nz.same (by(simp;rfl)))⟩,⟨_,rfl,(by exact Nz.same (by(simp;done)))⟩,⟨_,rfl,(by exact Nz.same (by(simp;done)))⟩,trivial⟩ ⟨⟨_,rfl,rfl,rfl,rfl,(by exact .inr ⟨_,_,rfl,rfl,(by repeat(first|exact trivial|refine⟨(by first|exact Nz.own|exact Nz.same (by(simp;done))),?_⟩))⟩)⟩,⟨_,rfl,rfl,rfl,rfl,(by exact .inl ⟨rfl,(by exact aM _ _ rfl rfl rfl)⟩)⟩,⟨_,rfl,rfl,rfl,rfl,(by exact .inl ⟨rfl,(by exact aG _ _)⟩)⟩,⟨_,rfl,rfl,rfl,rfl,(by exact .inl ⟨rfl,(by exact aD _ _ _)⟩)⟩,⟨_,rfl,rfl,rfl,rfl,(by exact .inl ⟨rfl,(by exact aP _ _)⟩)⟩,⟨_,rfl,rfl,rfl,rfl,(by exact .inl ⟨rfl,(by exact cF rfl rfl)⟩)⟩,⟨_,rfl,rfl,rfl,rfl,(by exact .inl ⟨rfl,(by exact aU _ _ _)⟩)⟩,trivial⟩ ⟨rfl,rfl,rfl,rfl,rfl,rfl,trivial⟩) ?_;refine yM (fun(i g:Nat) (u:Bool)=>([(0,.ref 1100 0 0 0),(3,.ref 2001 0 0 0),(14,iv (n:Int)),(15,iv (i:Int))],(2001,zbA (pI d k a i) g u)::(2002,zbD (pI d k a i) g)::sH d (dU k a n b) (cB [] 0))) (fun i g u=>i≤n∧∀ j,j < i→¬ Q8 d k a j=sNil) (fun i g u=>n - i) 0 0 false ⟨aII _,fun j hj=>absurd hj (Nat.not_lt_zero _)⟩ ?_ ?_
 ·exact(cC.wk (Ea<|Ea<|Eb<|Eb<|trivial) (Hc (tV rfl rfl)<|Hc (aG _ _)<|Hc (aM _ _ rfl rfl rfl)<|Hc (aG _ _)<|Hc (aD _ _ _)<|Hc (aP _ _)<|Hc (cF rfl rfl)<|Hc (aU _ _ _)<|trivial) ⟨rfl,rfl,rfl,rfl,rfl,rfl,trivial⟩)
 rintro i g u ⟨hi,hz⟩;have hTi:=hTl i hi;have hpl:=GD d k a n a i b [] 0 (by omega) (by omega) (by omega);refine Sr<|Dd cP<|Zz<|Sq ?_;refine Cn ?_ ?_<;>intro hc1
 ·have hlt:i < n:=by have:=aHn hc1;omega
  have hpc:=aDR d hs hoff k a n (2+a*k+i) b [] 0 (hplace i hlt);have hps:=J4 (2+a*k+i) (cH d (2+a*k+i)) (kU hs (hplace i hlt));have hnx:=DB d k a i;have hPi:Q8 d k a i=C3 (2+a*k+i) (cH d (2+a*k+i)):=rfl;rw [← hPi] at hpc hps;obtain ⟨p,hp⟩:∃ p,p=Q8 d k a i:=⟨_,rfl⟩;rw [← hp] at hpc hps hnx;refine aF<|Sq<|aJ<|Sr<|Dd aB<|Dd aR<|Zz<|Sr<|Dd aB<|Dd aB<|Dd aB<|Dd dY<|Dd (cI qX)<|Dd (cI AA)<|Dd (cW aL)<|Dd aB<|Dd (by exact aA rfl rfl aH2 rfl (jL hpl _ ⟨rfl,rfl,rfl,rfl,rfl,rfl,trivial⟩ (by simp;rfl)))<|Dd (by exact aA rfl rfl call84 rfl (jL hpc _ ⟨rfl,rfl,rfl,rfl,rfl,rfl,trivial⟩ (by simp;rfl)))<|Dd aR<|Zz<|Sq<|Sr<|Dd aB<|Dd se'<|Zz ?_;refine Cn ?_ ?_<;>intro hc2
  ·have hq:p=sNil:=aHn hc2;have hf:zQ d k a n=false:=by
    have:GU d k a n=false:=by
     rw [Bool.eq_false_iff];intro h;have:=List.all_eq_true.1 h i (List.mem_range.2 hlt);rw [← hp,hq,decide_eq_true rfl] at this;cases this
    rw [hok,this];rfl
   refine Sr<|Dd aR<|Zz<|aH ?_;refine bI (H':=(sH d (dU k a n b) (cB [] 0))) (.inr rfl) rfl (aI rfl) (Fin.wk (by(simp;done)) (Hc (aM _ _ rfl rfl rfl)<|Hc (aG _ _)<|Hc (aD _ _ _)<|Hc (aP _ _)<|Hc (cF rfl rfl)<|Hc (aU _ _ _)<|trivial) ⟨rfl,rfl,rfl,rfl,rfl,rfl,trivial⟩) ?_;exact⟨by rw [hf],[],0,SR,GO,aII _,fun h=>(by rw [hf] at h;cases h),rfl⟩
  have hq:¬ p=sNil:=aHo hc2;refine aF<|Rg<|Dd aB<|Dd (by exact aA rfl rfl call86 rfl (aFk p rfl rfl (by omega)))<|Zz<|Rg<|Dd rL<|Dd aB<|Zz ?_;refine⟨i+1,g+1,true,⟨by omega,fun j hj=>?_⟩,by omega,?_⟩
  ·rcases Nat.lt_succ_iff_lt_or_eq.1 hj with h1|rfl
   ·exact hz j h1
   rw [← hp];exact hq
  rw [hnx];exact(cC.wk (Ea<|Ea<|Eb<|Eb<|trivial) (Hc (tV rfl rfl)<|Hc (aG _ _)<|Hc (aM _ _ rfl rfl rfl)<|Hc (aG _ _)<|Hc (aD _ _ _)<|Hc (aP _ _)<|Hc (cF rfl rfl)<|Hc (aU _ _ _)<|trivial) ⟨rfl,rfl,rfl,rfl,rfl,rfl,trivial⟩)
 have hge:i=n:=by have:=aHo hc1;omega
 subst hge;have hall:GU d k a i=true:=List.all_eq_true.2 fun j hj=>by
  rw [decide_eq_false (hz j (List.mem_range.1 hj))];rfl
 rw [hall,Bool.true_and,hTn] at hok;rw [hTn] at hC;obtain ⟨T,hT⟩:∃ T,T=pI d k a i:=⟨_,rfl⟩;rw [← hT] at hok hC hTi ⊢;have hspl:=fun H=>OQ T H (by omega);have hsum:=FK T;have hL1:=zG T.length T [];rw [List.length_nil,aIJ] at hL1;change (cS T).1.length≤T.length at hL1;obtain ⟨L,hL⟩:∃ L,L=(cS T).1:=⟨_,rfl⟩;obtain ⟨o,ho⟩:∃ o,o=(cS T).2:=⟨_,rfl⟩;rw [← hL,← ho] at hok;rw [← hL] at hC hsum hL1;simp only [← hL,← ho] at hspl;have hml:(L.map encStr).length=L.length:=aHr _;have hTo:(⟨T.toArray⟩:ByteArray)=ofL T:=rfl;refine aV<|Sr<|Dd (by exact aA rfl rfl call88 rfl (aEb rfl rfl (by omega)))<|Dd (by exact aA rfl rfl call87 rfl (hspl _))<|Dd aB<|Dd eC<|Dd eC<|Dd aR<|Dd aR<|Zz<|Sq<|Sr<|Dd aB<|Dd (jY aO)<|Dd aB<|Zz<|aJ ?_;refine yM (fun(j:Nat) (l:cN) (c:Nat)=>([(0,.ref 1100 0 0 0),(7,bv (okJ o L j)),(38,.pv (aX L)),(39,iv ((L.map encStr).length:Int)),(40,iv (j:Int))],sH d (dU k a i b) (cB l c))) (fun j l c=>j≤L.length∧fI l c∧gX l∧l.length≤((L.take j).map ByteArray.size).sum∧(okJ o L j=true→∀ x,eN l x=ctJ L j x)) (fun j l c=>L.length - j) 0 [] 0 ⟨aII _,SR,GO,aII _,fun _ x=>rfl⟩ ?_ ?_
 ·rw [show okJ o L 0=o by rw [okJ,List.take_zero];exact Bool.and_true o];exact(cC.wk (Ea<|Eb<|Eb<|Eb<|Eb<|trivial) (Hc (aM _ _ rfl rfl rfl)<|Hc (aG _ _)<|Hc (aD _ _ _)<|Hc (aP _ _)<|Hc (cF rfl rfl)<|Hc (aU _ _ _)<|trivial) ⟨rfl,rfl,rfl,rfl,rfl,rfl,trivial⟩)
 rintro j l c ⟨hj,hst,hnd,hll,hct⟩;have hsj:=OK L j;refine Sr<|Dd cP<|Zz<|Sq ?_;refine Cn ?_ ?_<;>intro hc3
 ·have hlt:j < L.length:=by have:=aHn hc3;omega
  obtain ⟨t,ht⟩:=aY hlt;have hit:=cV (f:=encStr) ht;have hsz:((L.take (j+1)).map ByteArray.size).sum=((L.take j).map ByteArray.size).sum+t.size:=by rw [bW ht,List.map_append,List.sum_append];rfl
  have hsj2:=OK L (j+1);have hnx:=aAm (o:=o) ht;have hcx:=aBa ht;have hrp:=WS d k a i b l c t.data.toList hst hnd (by rw [dP];omega);rw [MP,dP] at hrp;obtain ⟨oj,hoj⟩:∃ oj,oj=okJ o L j:=⟨_,rfl⟩;rw [← hoj] at hnx hct ⊢;clear hoj;cases oj
  ·refine aF<|Sq<|aJ<|Sr<|Dd (sU cD)<|Dd (gW aQ)<|Dd aR<|Zz<|Rg<|Dd aB<|Dd aB<|Fo<|Fo<|Fo<|Fo<|Fo<|Fo<|Dd cX<|Dd aR<|Zz<|Rg<|Dd rL<|Dd aB<|Zz ?_;refine⟨j+1,l,c,⟨by omega,hst,hnd,by omega,fun h=>(by rw [hnx] at h;cases h)⟩,by omega,?_⟩;rw [hnx];exact(cC.wk (Ea<|Eb<|Eb<|Eb<|Eb<|trivial) (Hc (aM _ _ rfl rfl rfl)<|Hc (aG _ _)<|Hc (aD _ _ _)<|Hc (aP _ _)<|Hc (cF rfl rfl)<|Hc (aU _ _ _)<|trivial) ⟨rfl,rfl,rfl,rfl,rfl,rfl,trivial⟩)
  refine aF<|Sq<|aJ<|Sr<|Dd (sU cD)<|Dd (gW aQ)<|Dd aR<|Zz<|Rg<|Dd aB<|Dd aB<|On aB<|On dY<|On (cI zX)<|On (cW dO)<|On aB ?_;refine V0 rfl rfl rfl rfl rfl (aA rfl rfl call89 rfl hrp) ?_;rintro _ _ ⟨rfl,l2,c2,q1,q2,q3,q4,rfl⟩;refine Dd cX<|Dd aR<|Zz<|Rg<|Dd rL<|Dd aB<|Zz ?_;refine⟨j+1,l2,c2,⟨by omega,q1,q2,by omega,fun h x=>?_⟩,by omega,?_⟩
  ·rw [hnx,Bool.true_and] at h;rw [q4 h x,hcx,ctA,vC,vC,hct rfl x]
  rw [hnx,Bool.true_and];exact(cC.wk (Ea<|Eb<|Eb<|Eb<|Eb<|trivial) (Hc (aM _ _ rfl rfl rfl)<|Hc (aG _ _)<|Hc (aD _ _ _)<|Hc (aP _ _)<|Hc (cF rfl rfl)<|Hc (aU _ _ _)<|trivial) ⟨rfl,rfl,rfl,rfl,rfl,rfl,trivial⟩)
 have hge:j=L.length:=by have:=aHo hc3;omega
 subst hge;have hoke:zQ d k a i=okJ o L L.length:=by rw [hok,okJ,List.take_length]
 have hCe:OA d k a i=ctJ L L.length:=by rw [hC,ctJ,List.take_length]
 rw [List.take_length] at hll;refine aV<|Sr<|Dd aB<|Dd aR<|Zz<|aH ?_;refine bI (H':=(sH d (dU k a i b) (cB l c))) (.inr rfl) rfl (aI rfl) (Fin.wk (by(simp;done)) (Hc (aM _ _ rfl rfl rfl)<|Hc (aG _ _)<|Hc (aD _ _ _)<|Hc (aP _ _)<|Hc (cF rfl rfl)<|Hc (aU _ _ _)<|trivial) ⟨rfl,rfl,rfl,rfl,rfl,rfl,trivial⟩) ?_;exact⟨by rw [hoke],l,c,hst,hnd,by omega,fun h=>by rw [hCe];exact hct (by rw [← hoke];exact h),rfl⟩
theorem dg8 {place:Nat} (h:place < 100000000):(dg place 8).length=8:=jT (nN _ (by omega) (by omega))
theorem wF {k place:Nat} {t:ByteArray} (h:kJ k place t=true):pF t < 2∧pE t≤k∧hS place (pF t) (pE t)=t:=by rw [kJ] at h;simp only [aIA,aHy] at h;exact⟨h.2.1.1,h.2.1.2,h.2.2⟩
def kK (d:DSt) (k:Nat):Bool:=(!C7 d k&&!decide (cH d 0=zS))||!zQ d k (sV d k) (rQ d k)
theorem xQ (d:DSt) (k:Nat):sV d k < 2∧rQ d k≤k:=by
 rw [sV,rQ];cases h1:zN d k with
 | true =>
  rw [aHq rfl,aHq rfl];rw [zN] at h1;have:=wF h1;exact⟨this.1,this.2.1⟩
 | false =>
  rw [aHp Bool.false_ne_true,aHp Bool.false_ne_true];cases h0:kJ k 0 (cH d 0)with
  | true =>
   rw [aHq rfl,aHq rfl];have:=wF h0;exact⟨this.1,this.2.1⟩
  | false =>
   rw [aHp Bool.false_ne_true,aHp Bool.false_ne_true];exact⟨by omega,by omega⟩
theorem FD (place:Nat) {a n:Nat} (hd:Bool) (ha:a < 10) (hn:n < 10000000):(nB place a n hd).size=64:=by
 cases hd
 ·show zS.size=64;rw [bO,zB,List.length_replicate]
 exact BR place ha hn
theorem aGl:zS.size=64:=by rw [bO,zB,List.length_replicate]
theorem aAR {d:DSt} {N place a n:Nat} {hd:Bool} (h:OnD d N) (hp:place < N) (ha:a < 10) (hn:n < 10000000) (h0:(mB d place a n hd).1=0):OnD (mB d place a n hd).2 N:=by
 rw [mB] at h0 ⊢;by_cases e:cH d place=nB place a n hd
 ·rw [aHq e] at h0 ⊢;exact h
 rw [aHp e] at h0 ⊢;have w1:=RI h (place:=place) (L:=[zS]) (by rw [List.length_singleton];omega) (fun t ht=>by rw [aHu.1 ht];exact aGl) (by rw [List.length_singleton];omega);by_cases e2:(gY d place [zS]).1=0∧hd=true
 ·rw [aHq e2] at h0 ⊢;rcases w1 with⟨q1,q2,q3⟩|⟨q1,q2,q3⟩
  ·have w2:=RI q2 (place:=place) (L:=[nB place a n hd]) (by rw [List.length_singleton];omega) (fun t ht=>by rw [aHu.1 ht];exact FD place hd ha hn) (by rw [List.length_singleton];omega);rcases w2 with⟨p1,p2,p3⟩|⟨p1,p2,p3⟩
   ·exact p2
   rw [p1] at h0;cases h0
  rw [q1] at e2;cases e2.1
 rw [aHp e2] at h0 ⊢;rcases w1 with⟨q1,q2,q3⟩|⟨q1,q2,q3⟩
 ·exact q2
 rw [q1] at h0;cases h0
def UY (i N:Nat):Int:=if i≤N then 0 else 1
abbrev pBx (a n:Nat):Ob:=bx 2 70 [iv (a:Int),iv (n:Int)]
theorem UW {d:DSt} {N:Nat} (h:OnD d N) (hN:4≤N) (k a n:Nat) (hd:Bool) (hk:k=(N - 2) / 2) (hA:a=sV d k) (hNn:n=rQ d k) (hH:hd=C7 d k) :
  aK Tryz.prog 12 [.ref 1000 0 0 0] (bN d) (fun r H'=>(kK d k=true∧r=.tup [.pv .nilp,iv 23]∧H'=bN d) ∨
   (kK d k=false∧¬ (mB d 1 a n hd).1=0∧r=.tup [.pv .nilp,iv (mB d 1 a n hd).1]∧H'=bN (mB d 1 a n hd).2) ∨
   (kK d k=false∧(mB d 1 a n hd).1=0∧¬ (mB (mB d 1 a n hd).2 0 a n hd).1=0∧r=.tup [.pv .nilp,iv (mB (mB d 1 a n hd).2 0 a n hd).1]∧H'=bN (mB (mB d 1 a n hd).2 0 a n hd).2) ∨
   (kK d k=false∧(mB d 1 a n hd).1=0∧(mB (mB d 1 a n hd).2 0 a n hd).1=0∧r=.tup [.ref 1100 0 0 0,iv 0]∧∃ l c,fI l c∧gX l∧l.length≤46*n∧(∀ x,eN l x=OA d k a n x)∧H'=sH (mB (mB d 1 a n hd).2 0 a n hd).2 (dU k a n false) (cB l c))):=by
 have hs:=h.inv.ok;have hoff:=h.off;have hcn:=h.inv.n;have hn2:=hs.n2;have hbd:=xQ d k;rw [← hA,← hNn] at hbd;have hbad:kK d k=((!hd&&!decide (cH d 0=zS))||!zQ d k a n):=by rw [kK,← hA,← hNn,← hH]
 have hrE:∀ i:Nat,fS d (i:Int)=if i < N then 0 else 1:=fun i=>by
  rw [fS,hoff,aHp (by decide),fY,hcn];by_cases e:i < N
  ·rw [aHq (decide_eq_true e),aHq e]
  rw [aHp (by rw [decide_eq_false e];decide),aHp e]
 refine Bd aC8 rfl Y9<|Sr<|Dd aR<|Dd aR<|Zz<|Sq<|Sr<|Dd aB<|Dd (by exact bR rfl dN rfl rfl rfl rfl)<|Zz ?_;refine Cn ?_ ?_<;>intro hc1
 ·cases hc1
 refine aF<|Sr<|Dd aR<|Zz<|Sr<|Dd aR<|Zz<|Sq<|aJ ?_;refine bG (σ:=Nat) (fun i=>([(0,.ref 1000 0 0 0),(4,iv (i:Int)),(5,iv (UY i N))],bN d)) (fun i=>i≤N+1) (fun i=>N+1 - i) 0 (aII _) ?_ ?_
 ·rw [show UY 0 N=0 from aHq (aII _)];exact(cC.wk (Ea<|Eb<|Eb<|trivial) (Hc (aM _ _ rfl rfl rfl)<|Hc (aG _ _)<|Hc (aD _ _ _)<|Hc (aP _ _)<|trivial) ⟨rfl,rfl,rfl,rfl,trivial⟩)
 intro i hi;have hrd:=L9 d (i:Int) hs;rw [hrE i] at hrd;refine Sq<|Sr<|Dd aB<|Dd eP<|Zz ?_;refine Cn ?_ ?_<;>intro hc2
 ·have hq:i≤N:=by have h:=aHn hc2;rw [UY] at h;split at h;exact(by assumption);cases h
  have hnx:UY (i+1) N=if i < N then 0 else 1:=by
   rw [UY];by_cases e:i < N
   ·rw [aHq e,aHq (by omega)]
   rw [aHp e,aHp (by omega)]
  rw [← hnx] at hrd;refine aF<|Sq<|aJ<|Rg<|Dd aB<|Dd aB<|Dd (by exact aA rfl rfl rN rfl (hrd))<|Dd aB<|Dd eC<|Dd eC<|Dd aR<|Zz<|Rg<|Dd aB<|Dd (by exact bA rfl rfl rfl (show IntKind.i64.wrap ((i:Int)+1)=((i+1:Nat):Int)by rw [eS (by omega) (by omega)];omega))<|Da ?_;exact⟨i+1,by omega,by omega,(cC.wk (Ea<|Eb<|Eb<|trivial) (Hc (aM _ _ rfl rfl rfl)<|Hc (aG _ _)<|Hc (aD _ _ _)<|Hc (aP _ _)<|trivial) ⟨rfl,rfl,rfl,rfl,trivial⟩)⟩
 have hq:i=N+1:=by have h:=aHo hc2;rw [UY] at h;split at h;exact absurd rfl h;omega
 have hk1:UY i N=1:=aHp (by omega);rw [hk1];have hp1:=A7 d hs hoff k 0 0 1 false [] 0 (by omega) (by omega);have hp0:=A7 d hs hoff k 0 0 0 false [] 0 (by omega) (by omega);have hrd0:=EQ hs hoff (n:=0) (by omega);refine aV<|Sq<|Sr<|Dd aB<|Dd (by exact dG rfl rfl rfl (show IntKind.i64.wrap ((i:Int) - 1)=(N:Int)by rw [eS (by omega) (by omega)];omega))<|Dd aR<|Zz<|Sr<|Dd aB<|Dd eP<|Zz ?_;refine Cn ?_ ?_<;>intro hc3
 ·cases hc3
 refine aF<|Sq<|Sr<|Dd aB<|Dd cP<|Zz ?_;refine Cn ?_ ?_<;>intro hc4
 ·(have h:=aHn hc4;omega)
 have hkq:IntKind.i64.wrap (((N:Int) - 2).tdiv 2)=(k:Int):=by
  rw [Int.tdiv_eq_ediv_of_nonneg (by omega),eS (by omega) (by omega),hk];omega
 refine aF<|Sr<|Dd aB<|Dd aB<|Dd (by exact dG rfl rfl rfl (eS (by omega) (by omega)))<|Dd (by exact nH rfl rfl rfl (by decide) hkq)<|Dd (by exact oW (id:=1101) iU rfl rfl)<|Dd (RA aHA)<|Dd (by exact jQ (id:=1100) rfl rfl rfl rfl rfl)<|Dd aR<|Zz<|Sq ?_;refine iF.ent (E':=[(0,.ref 1000 0 0 0),(6,.ref 1100 0 0 0)]) (H':=sH d (dU k 0 0 false) (cB [] 0)) (cC.wk (Ea<|Ea<|trivial) (Hc (aM _ _ rfl rfl rfl)<|Hc (aG _ _)<|Hc (aD _ _ _)<|Hc (aP _ _)<|Hc (cF rfl rfl)<|Hc (aU _ _ _)<|trivial) ⟨rfl,rfl,rfl,rfl,trivial⟩) ?_;obtain ⟨h1,hh1⟩:∃ b,b=kJ k 1 (cH d 1):=⟨_,rfl⟩;obtain ⟨h0,hh0⟩:∃ b,b=kJ k 0 (cH d 0):=⟨_,rfl⟩;rw [← hh1] at hp1;rw [← hh0] at hp0;have hHe:hd=(h1||h0):=by rw [hH,C7,zN,← hh1,← hh0]
 have hAe:a=if h1 then pF (cH d 1)else if h0 then pF (cH d 0)else 0:=by rw [hA,sV,zN,← hh1,← hh0]
 have hNe:n=if h1 then pE (cH d 1)else if h0 then pE (cH d 0)else 0:=by rw [hNn,rQ,zN,← hh1,← hh0]
 have hld:=aD6 d hs hoff k a n false hbd.1 hbd.2 (by omega);refine Rg<|Dd aB<|Dd (by exact aA rfl rfl call42 rfl (hp1))<|Dd aB<|Dd eC<|Dd eC<|Dd (by exact dW (id:=7) rfl ZJ rfl rfl)<|Uu (vJ sizeOf70)<|Da ?_;refine fZ (fun(q:Nat×Nat)=>([(0,.ref 1000 0 0 0),(6,.ref 1100 0 0 0),(7,.ref 7 0 0 0),(8,bv hd)],(7,pBx q.1 q.2)::sH d (dU k 0 0 false) (cB [] 0))) (fun q=>hd=true→q.1=a∧q.2=n) ?_ ?_
 ·refine Sr<|Dd aB<|Dd pY<|Zz ?_;refine Cn ?_ ?_<;>intro hc5
  ·have e1:h1=false:=by have h:=hc5;simpa using h
   refine Rg<|Dd aB<|Dd (by exact aA rfl rfl call42 rfl (jL hp0 _ ⟨rfl,rfl,rfl,rfl,rfl,rfl,trivial⟩ (by simp;rfl)))<|Dd aB<|Dd eC<|Dd eC<|Uu (vJ sizeOf70)<|Da ?_;refine⟨(pF (cH d 0),pE (cH d 0)),fun hh=>?_,?_⟩
   ·rw [e1] at hHe hAe hNe;rw [hHe] at hh;have e0:h0=true:=hh;rw [e0] at hAe hNe;exact⟨hAe.symm,hNe.symm⟩
   rw [show hd=h0 by rw [hHe,e1];rfl];exact(cC.wk (Ea<|Ea<|Ea<|Eb<|trivial) (Hb<|Hc (aM _ _ rfl rfl rfl)<|Hc (aG _ _)<|Hc (aD _ _ _)<|Hc (aP _ _)<|Hc (cF rfl rfl)<|Hc (aU _ _ _)<|trivial) ⟨rfl,rfl,rfl,rfl,trivial⟩)
  have e1:h1=true:=by have h:=hc5;simpa using h
  refine aF ?_;refine⟨(pF (cH d 1),pE (cH d 1)),fun hh=>?_,?_⟩
  ·rw [e1] at hAe hNe;exact⟨hAe.symm,hNe.symm⟩
  rw [show hd=h1 by rw [hHe,e1];rfl];exact(cC.wk (Ea<|Ea<|Ea<|Eb<|trivial) (Hb<|Hc (aM _ _ rfl rfl rfl)<|Hc (aG _ _)<|Hc (aD _ _ _)<|Hc (aP _ _)<|Hc (cF rfl rfl)<|Hc (aU _ _ _)<|trivial) ⟨rfl,rfl,rfl,rfl,trivial⟩)
 rintro⟨a',n'⟩ hq0;have hq0:hd=true→a'=a∧n'=n:=hq0;refine Sr<|Dd aB<|Dd (by exact aA rfl rfl rN rfl (hrd0 _ ⟨rfl,rfl,rfl,rfl,trivial⟩))<|Dd aB<|Dd eC<|Dd eC<|Dd aR<|Da ?_;refine fZ (fun(_:Unit)=>([(0,.ref 1000 0 0 0),(6,.ref 1100 0 0 0),(7,.ref 7 0 0 0),(8,bv hd),(9,sv (cH d 0))],(7,pBx a n)::sH d (dU k 0 0 false) (cB [] 0))) (fun _=>True) ?_ ?_
 ·refine Sr<|Dd aB<|Dd pY<|Zz ?_;refine Cn ?_ ?_<;>intro hc6
  ·have e1:hd=false:=by have h:=hc6;simpa using h
   rw [hHe,aIN] at e1;have ha0:a=0:=by rw [hAe,e1.1,e1.2];rfl
   have hn0:n=0:=by rw [hNe,e1.1,e1.2];rfl
   rw [ha0,hn0];refine Rg<|Dd (RA YO)<|Uu (vJ sizeOf70)<|Zz ?_;exact⟨(),trivial,(cC.wk (Ea<|Ea<|Ea<|Eb<|Eb<|trivial) (Hb<|Hc (aM _ _ rfl rfl rfl)<|Hc (aG _ _)<|Hc (aD _ _ _)<|Hc (aP _ _)<|Hc (cF rfl rfl)<|Hc (aU _ _ _)<|trivial) ⟨rfl,rfl,rfl,rfl,trivial⟩)⟩
  have e1:hd=true:=by have h:=hc6;simpa using h
  obtain ⟨rfl,rfl⟩:=hq0 e1;refine aF ?_;exact⟨(),trivial,(cC.wk (Ea<|Ea<|Ea<|Eb<|Eb<|trivial) (Hb<|Hc (aM _ _ rfl rfl rfl)<|Hc (aG _ _)<|Hc (aD _ _ _)<|Hc (aP _ _)<|Hc (cF rfl rfl)<|Hc (aU _ _ _)<|trivial) ⟨rfl,rfl,rfl,rfl,trivial⟩)⟩
 rintro _ -;clear hHe hAe hNe hq0 hp1 hp0 hh1 hh0 hA hNn hH;refine fZ (fun(q:cN×Nat)=>([(6,.ref 1100 0 0 0),(8,bv hd)],sH d (dU k a n false) (cB q.1 q.2))) (fun q=>kK d k=false∧fI q.1 q.2∧gX q.1∧q.1.length≤46*n∧∀ x,eN q.1 x=OA d k a n x) ?_ ?_
 ·refine Sr<|Dd aB<|Dd (ln' fD sizeOf70)<|Dd dY<|Dd (cI qX)<|Uu (by exact T0 rfl sizeOf70 rfl rfl rfl rfl rfl rfl rfl (by simp only [aHt,List.length_nil];omega) (by simp only [Zl,encStr];rfl) (by simp only [Zl,encStr];rfl))<|Zz<|Sq ?_;refine iF.ent (E':=[(0,.ref 1000 0 0 0),(6,.ref 1100 0 0 0),(8,bv hd),(9,sv (cH d 0))]) (H':=sH d (dU k a n false) (cB [] 0)) (cC.wk (Ea<|Ea<|Eb<|Eb<|trivial) (Hc (aM _ _ rfl rfl rfl)<|Hc (aG _ _)<|Hc (aD _ _ _)<|Hc (aP _ _)<|Hc (cF rfl rfl)<|Hc (aU _ _ _)<|trivial) ⟨rfl,rfl,rfl,rfl,trivial⟩) ?_;obtain ⟨ok,hok⟩:∃ ok,ok=zQ d k a n:=⟨_,rfl⟩;rw [← hok] at hld hbad;clear hok;cases hd with
  | true =>
   refine Rg<|Dd aB<|Dd pY<|Dd aB<|Fo<|Fo<|Fo<|Dd cX<|Dd aB<|On aB ?_;refine V0 rfl rfl rfl (by rfl) rfl (aA rfl rfl call44 rfl hld) ?_;rintro _ _ ⟨rfl,l,c,q1,q2,q3,q4,rfl⟩;refine On pY<|Dd cX<|Zz ?_;refine Cn ?_ ?_<;>intro hc7
   ·have hok:ok=false:=by have h:=hc7;simpa using h
    refine Sr<|Dd aR<|Dd aR<|Zz<|aH ?_;refine fF (H':=(bN d)) (.inr rfl) rfl (aI rfl) (aI rfl) (Fin.wk (by(simp;done)) (Hc (aM _ _ rfl rfl rfl)<|Hc (aG _ _)<|Hc (aD _ _ _)<|Hc (aP _ _)<|trivial) ⟨rfl,rfl,rfl,rfl,trivial⟩) ?_;exact .inl ⟨by rw [hbad,hok];rfl,rfl,rfl⟩
   have hok:ok=true:=by have h:=hc7;simpa using h
   refine aF ?_;exact⟨(l,c),⟨by rw [hbad,hok];rfl,q1,q2,q3,q4 hok⟩,(cC.wk (Ea<|Eb<|trivial) (Hc (aM _ _ rfl rfl rfl)<|Hc (aG _ _)<|Hc (aD _ _ _)<|Hc (aP _ _)<|Hc (cF rfl rfl)<|Hc (aU _ _ _)<|trivial) ⟨rfl,rfl,rfl,rfl,trivial⟩)⟩
  | false =>
   cases g69:(!decide (cH d 0=ofL (zB 64)))with
   | true =>
    have hbt:kK d k=true:=by
     rw [hbad,show decide (cH d 0=zS)=false by rw [aIK] at g69;exact g69];rfl
    refine Rg<|Dd aB<|Dd pY<|Dd aB<|On aB<|On (by exact aA rfl rfl vR rfl (vF _))<|On ZG<|Dd cX<|Dd aB<|Fa<|Fa<|Fa<|Dd SA<|Zz ?_;refine Cn ?_ ?_<;>intro hc8
    ·refine Sr<|Dd aR<|Dd aR<|Zz<|aH ?_;refine fF (H':=(bN d)) (.inr rfl) rfl (aI rfl) (aI rfl) (Fin.wk (by(simp;done)) (Hc (aM _ _ rfl rfl rfl)<|Hc (aG _ _)<|Hc (aD _ _ _)<|Hc (aP _ _)<|trivial) ⟨rfl,rfl,rfl,rfl,trivial⟩) ?_;exact .inl ⟨hbt,rfl,rfl⟩
    ((cases hc8;done))
   | false =>
    have hz:decide (cH d 0=zS)=true:=by rw [Bool.not_eq_false'] at g69;exact g69
    rw [hz] at hbad;refine Rg<|Dd aB<|Dd pY<|Dd aB<|On aB<|On (by exact aA rfl rfl vR rfl (vF _))<|On ZG<|Dd cX<|Dd aB<|Oa aB ?_;refine V0 rfl rfl rfl (by assumption) rfl (aA rfl rfl call44 rfl hld) ?_;rintro _ _ ⟨rfl,l,c,q1,q2,q3,q4,rfl⟩;refine Oa pY<|Dd D1<|Zz ?_;refine Cn ?_ ?_<;>intro hc9
    ·have hok:ok=false:=by have h:=hc9;simpa using h
     refine Sr<|Dd aR<|Dd aR<|Zz<|aH ?_;refine fF (H':=(bN d)) (.inr rfl) rfl (aI rfl) (aI rfl) (Fin.wk (by(simp;done)) (Hc (aM _ _ rfl rfl rfl)<|Hc (aG _ _)<|Hc (aD _ _ _)<|Hc (aP _ _)<|trivial) ⟨rfl,rfl,rfl,rfl,trivial⟩) ?_;exact .inl ⟨by rw [hbad,hok];rfl,rfl,rfl⟩
    have hok:ok=true:=by have h:=hc9;simpa using h
    refine aF ?_;exact⟨(l,c),⟨by rw [hbad,hok];rfl,q1,q2,q3,q4 hok⟩,(cC.wk (Ea<|Eb<|trivial) (Hc (aM _ _ rfl rfl rfl)<|Hc (aG _ _)<|Hc (aD _ _ _)<|Hc (aP _ _)<|Hc (cF rfl rfl)<|Hc (aU _ _ _)<|trivial) ⟨rfl,rfl,rfl,rfl,trivial⟩)⟩
 rintro⟨l,c⟩ ⟨hbf,q1,q2,q3,q4⟩;have hl0:([[PV.int .i64 1],[PV.int .i64 0]]:List (List PV))[0]?=some [PV.int .i64 1]:=rfl;have hl1:([[PV.int .i64 1],[PV.int .i64 0]]:List (List PV))[1]?=some [PV.int .i64 0]:=rfl;have hr1:=JV h.inv hoff k a n 1 false hd l c (by decide) (by omega) (by omega) (by omega);have hon:=aAR (place:=1) (a:=a) (n:=n) (hd:=hd) h (by omega) (by omega) (by omega);obtain ⟨x,hx⟩:∃ x,x=mB d 1 a n hd:=⟨_,rfl⟩;rw [← hx] at hr1 hon ⊢;obtain ⟨y,hy⟩:∃ y,y=mB x.2 0 a n hd:=⟨_,rfl⟩;rw [← hy];refine Sq<|Sr<|Dd (by exact bD [[.int .i64 1],[.int .i64 0]] rfl WH rfl rfl rfl rfl rfl (by simp))<|Dd (jY Y3)<|Dd aB<|Zz<|aJ ?_;refine bG (σ:=Nat) (fun i=>([(6,.ref 1100 0 0 0),(8,bv hd),(76,.pv (.sl [[.int .i64 1],[.int .i64 0]])),(77,iv 2),(78,iv (i:Int))],sH (stD d x.2 y.2 i) (dU k a n false) (cB l c))) (fun i=>i≤2∧(0 < i→x.1=0)∧(1 < i→y.1=0)) (fun i=>2 - i) 0 ⟨by omega,fun h=>absurd h (Nat.lt_irrefl _),fun h=>absurd h (by omega)⟩ ?_ ?_
 ·exact(cC.wk (Ea<|Eb<|Eb<|Eb<|Eb<|trivial) (Hc (aM _ _ rfl rfl rfl)<|Hc (aG _ _)<|Hc (aD _ _ _)<|Hc (aP _ _)<|Hc (cF rfl rfl)<|Hc (aU _ _ _)<|trivial) ⟨rfl,rfl,rfl,rfl,trivial⟩)
 rintro i ⟨hi2,hx0,hy0⟩;have h3:i=0∨i=1∨i=2:=by omega
 rcases h3 with rfl|rfl|rfl
 ·refine Sr<|Dd cP<|Zz<|Sq ?_;refine Cn ?_ ?_<;>intro hc10
  ·refine aF<|Sq<|aJ<|Sr<|Dd (by exact aZ (m:=0) rfl WH rfl rfl (by decide) rfl rfl rfl)<|Dd (gW aL)<|Dd aR<|Zz<|Sr<|Dd aB<|Dd aB<|Dd aB<|Dd (by exact aA rfl rfl call45 rfl (hr1))<|Dd aR<|Zz<|Sr<|Dd aB<|Dd tM<|Zz ?_;refine Cn ?_ ?_<;>intro hc11
   ·have he:¬ x.1=0:=by have h:=hc11;simpa using h
    refine Sr<|Dd aB<|Dd aR<|Dd aR<|Zz<|aH ?_;refine fF (H':=(bN x.2)) (.inr rfl) rfl (aI rfl) (aI rfl) (Fin.wk (by(simp;done)) (Hc (aM _ _ rfl rfl rfl)<|Hc (aG _ _)<|Hc (aD _ _ _)<|Hc (aP _ _)<|trivial) ⟨rfl,rfl,rfl,rfl,trivial⟩) ?_;exact .inr (.inl ⟨hbf,he,rfl,rfl⟩)
   have he:x.1=0:=by have h:=hc11;simpa using h
   have hb:(false||!decide (x.1=0))=false:=by rw [he];rfl
   rw [hb];refine aF<|Rg<|Dd rL<|Dd aB<|Zz ?_;refine⟨1,⟨by omega,fun _=>he,fun h=>absurd h (by omega)⟩,by omega,?_⟩;exact(cC.wk (Ea<|Eb<|Eb<|Eb<|Eb<|trivial) (Hc (aM _ _ rfl rfl rfl)<|Hc (aG _ _)<|Hc (aD _ _ _)<|Hc (aP _ _)<|Hc (cF rfl rfl)<|Hc (aU _ _ _)<|trivial) ⟨rfl,rfl,rfl,rfl,trivial⟩)
  cases hc10
 ·have he0:=hx0 (by omega);have hon:=hon he0;have hr0:=JV hon.inv hon.off k a n 0 false hd l c (by decide) (by have:=hon.inv.n;omega) (by omega) (by omega);rw [← hy] at hr0;refine Sr<|Dd cP<|Zz<|Sq ?_;refine Cn ?_ ?_<;>intro hc12
  ·refine aF<|Sq<|aJ<|Sr<|Dd (by exact aZ (m:=1) rfl WH rfl rfl (by decide) rfl rfl rfl)<|Dd (gW aL)<|Dd aR<|Zz<|Sr<|Dd aB<|Dd aB<|Dd aB<|Dd (by exact aA rfl rfl call45 rfl (hr0))<|Dd aR<|Zz<|Sr<|Dd aB<|Dd tM<|Zz ?_;refine Cn ?_ ?_<;>intro hc13
   ·have he:¬ y.1=0:=by have h:=hc13;simpa using h
    refine Sr<|Dd aB<|Dd aR<|Dd aR<|Zz<|aH ?_;refine fF (H':=(bN y.2)) (.inr rfl) rfl (aI rfl) (aI rfl) (Fin.wk (by(simp;done)) (Hc (aM _ _ rfl rfl rfl)<|Hc (aG _ _)<|Hc (aD _ _ _)<|Hc (aP _ _)<|trivial) ⟨rfl,rfl,rfl,rfl,trivial⟩) ?_;exact .inr (.inr (.inl ⟨hbf,he0,he,rfl,rfl⟩))
   have he:y.1=0:=by have h:=hc13;simpa using h
   have hb:(false||!decide (y.1=0))=false:=by rw [he];rfl
   rw [hb];refine aF<|Rg<|Dd rL<|Dd aB<|Zz ?_;refine⟨2,⟨by omega,fun _=>he0,fun _=>he⟩,by omega,?_⟩;exact(cC.wk (Ea<|Eb<|Eb<|Eb<|Eb<|trivial) (Hc (aM _ _ rfl rfl rfl)<|Hc (aG _ _)<|Hc (aD _ _ _)<|Hc (aP _ _)<|Hc (cF rfl rfl)<|Hc (aU _ _ _)<|trivial) ⟨rfl,rfl,rfl,rfl,trivial⟩)
  cases hc12
 have he0:=hx0 (by omega);have he1:=hy0 (by omega);refine Sr<|Dd cP<|Zz<|Sq ?_;refine Cn ?_ ?_<;>intro hc14
 ·cases hc14
 refine aV<|Sr<|Dd aB<|Dd aR<|Dd aR<|Zz<|aH ?_;refine fF (H':=(sH y.2 (dU k a n false) (cB l c))) (.inr rfl) rfl (aI rfl) (aI rfl) (Fin.wk (by(simp;rfl)) (Hc (aM _ _ rfl rfl rfl)<|Hc (aG _ _)<|Hc (aD _ _ _)<|Hc (aP _ _)<|Hc (cF rfl rfl)<|Hc (aU _ _ _)<|trivial) ⟨rfl,rfl,rfl,rfl,trivial⟩) ?_;exact .inr (.inr (.inr ⟨hbf,he0,he1,rfl,l,c,q1,q2,q3,q4,rfl⟩))
end Go.Proofs.YtmkgeogoojcciaaGreatDoor
section
namespace Go.Abs
theorem bS.eqv {P:Program} {N:Nat} {o:Oper} {E:bZ} {H H':aE} {v v':AV} (h:bS P N o E H v H') (e:v=v'):bS P N o E H v' H':=e▸h
end Go.Abs
namespace Go.Proofs.YtmkgeogoojcciaaGreatDoor
open Go.Proofs.Tryz
open Go.Abs Go.Lib
theorem XR (H:aE):aK Tryz.prog 19 [.pv .nilp] H (fun r H'=>r=.pv (aX [])∧H'=H):=by
 refine Pu ?_;refine Bd func19 rfl ntmps19<|Sr<|Dd aR<|Zz<|Sq<|Sr<|Dd aB<|Dd (by exact dF rfl dR rfl rfl)<|Zz ?_;refine Cn ?_ ?_<;>intro hc1
 ·exact Sr<|Dd aR<|Zz<|aH<|Rt<|Qq
 cases hc1
theorem S4 (d:DSt) (k a n:Nat) (b:Bool) (l:cN) (c:Nat) (key:ByteArray) :
  aK Tryz.prog 24 [.ref 1100 0 0 0,sv key] (sH d (dU k a n b) (cB l c)) (fun r H'=>r=.tup [sv (fO l key),bv (eN l key).isSome]∧H'=sH d (dU k a n b) (cB l c)):=by
 have hr:(.tup [((pH (M7 (cU l)) key).getD (sv sNil)),.pv (.bool (pH (M7 (cU l)) key).isSome)]:AV)=.tup [sv (fO l key),bv (eN l key).isSome]:=by
  rw [EV,xV]
 refine Bd func24 rfl ntmps24<|Sr<|Dd aR<|Dd aR<|Zz<|Sq<|Sr<|Dd aB<|Dd (by exact bR rfl dR rfl rfl rfl rfl)<|Zz ?_;refine Cn ?_ ?_<;>intro hc1
 ·cases hc1
 refine aF<|Sr<|Dd aB<|Dd dY<|Dd (cI zX)<|Dd (cW dO)<|Dd aB<|Dd (by exact bS.eqv (D7 (κ:=iU) (k:=key) (l:=cU l) rfl bL aC rfl rfl rfl rfl rfl gM (.inl rfl)) hr)<|Dd aB<|Dd eC<|Dd eC<|Dd aR<|Dd aR<|Zz<|Sr<|Dd aB<|Dd aB<|Dd aR<|Dd aR<|Zz<|aH ?_;refine fF (H':=(sH d (dU k a n b) (cB l c))) (.inr rfl) rfl (aI rfl) (aI rfl) (Fin.wk (by(simp;done)) (Hc (aM _ _ rfl rfl rfl)<|Hc (aG _ _)<|Hc (aD _ _ _)<|Hc (aP _ _)<|Hc (cF rfl rfl)<|Hc (aU _ _ _)<|trivial) ⟨rfl,rfl,rfl,rfl,rfl,rfl,trivial⟩) ?_;exact Qq
theorem VC (d:DSt) (k a n:Nat) (b:Bool) (l:cN) (c:Nat) (hst:fI l c) (hl:l.length < 1099511627776) :
  aK Tryz.prog 19 [.ref 1100 0 0 0] (sH d (dU k a n b) (cB l c)) (fun r H'=>r=.pv (aX (eT l))∧H'=sH d (dU k a n b) (cB l c)):=by
 have hcl:bT ((951,mBx 1101)::sH d (dU k a n b) (cB l c)):=bT.app (D:=[(951,mBx 1101)]) (qD.spec ⟨by
  intro r hr x hx;simp only [bx,aHu] at hr;subst hr;rw [aHu] at hx;subst hx;exact .mp rfl,trivial⟩) (tD _ _ _ _ _ _ _)
 have hso:=LU (L:=l.map Prod.fst) (by rw [aHr];exact hl) aHM ((951,mBx 1101)::sH d (dU k a n b) (cB l c)) (VB 1101 l c _ hl hst rfl rfl (by decide)) rfl rfl rfl rfl hcl (by simp;rfl);change aK _ _ _ _ fun r H'=>r=.pv (aX (eT l))∧H'=_ at hso;refine Bd func19 rfl ntmps19<|Sr<|Dd aR<|Zz<|Sq<|Sr<|Dd aB<|Dd (by exact bR rfl dR rfl rfl rfl rfl)<|Zz ?_;refine Cn ?_ ?_<;>intro hc1
 ·cases hc1
 refine aF<|Sr<|Dd aB<|Dd dY<|Dd (cI zX)<|Dd (cW dO)<|Dd (by exact aA rfl rfl aH4 rfl (VA 1101 _ rfl rfl))<|Dd (by exact aA rfl rfl N0 rfl (hso))<|Dd aR<|Zz<|aH ?_;refine bI (H':=(sH d (dU k a n b) (cB l c))) (.inr rfl) rfl (aI rfl) (Fin.wk (by(simp;done)) (Hc (aM _ _ rfl rfl rfl)<|Hc (aG _ _)<|Hc (aD _ _ _)<|Hc (aP _ _)<|Hc (cF rfl rfl)<|Hc (aU _ _ _)<|trivial) ⟨rfl,rfl,rfl,rfl,rfl,rfl,trivial⟩) ?_;exact Qq
end Go.Proofs.YtmkgeogoojcciaaGreatDoor
end
namespace Go.Proofs.YtmkgeogoojcciaaGreatDoor
open Go.Proofs.Tryz
open Go.Abs Go.Lib
theorem C4 {d:DSt} {N k a n:Nat} {C:CT} (hc:Calm d N) (hI:SInv d.cells k a n C) (hN:4≤N) (hk:k=(N - 2) / 2) :
  aK Tryz.prog 12 [.ref 1000 0 0 0] (bN d) (fun r H'=>r=.tup [.ref 1100 0 0 0,iv 0]∧∃ l c,fI l c∧gX l∧l.length≤46*n∧(∀ x,eN l x=C x)∧H'=sH d (dU k a n false) (cB l c)):=by
 have hn2:=hc.inv.ok.n2;have hcn:=hc.inv.n;obtain ⟨o1,o2,o3,o4,o5,o6,o7⟩:=YK hc hI (by omega);have ho:=UW hc.on hN k a n (C7 d k) hk o1.symm o2.symm rfl;have hb:kK d k=false:=by
  rw [kK,o1,o2,o4];rcases o3 with o3|o3
  ·rw [o3];rfl
  rw [o3.1,o3.2,decide_eq_true rfl];rfl
 have r1:mB d 1 a n (C7 d k)=(0,d):=by rw [mB,aHq o6]
 have r0:mB d 0 a n (C7 d k)=(0,d):=by rw [mB,aHq o7]
 rw [hb,r1,r0] at ho;refine ho.mono ?_;rintro r H' (⟨h,_⟩|⟨_,h,_⟩|⟨_,_,h,_⟩|⟨_,_,_,rfl,l,c,q1,q2,q3,q4,rfl⟩)
 ·cases h
 ·exact absurd rfl h
 ·exact absurd rfl h
 exact⟨rfl,l,c,q1,q2,q3,fun x=>by rw [q4,o5],rfl⟩
theorem wI {s:ByteArray} (h:cR s=true):s.size≤200:=by rw [cR,aIA,aHy] at h;have:=h.2;omega
theorem vV {l2:cN} {P:List ByteArray} (hw:bX l2 P=0) (hl:l2.length≤1000) (hP:P.length≤1000):(bM l2 (fN P)).length < 100000000:=by
 obtain ⟨k1,k2⟩:=qQ hw;have hD:=yI P;have h:=rS (l:=l2) (P:=fN P) (M:=20000) (by decide) (by decide) (fun p hp=>by
  have:=k1 p hp;have:=wI this.1;omega) (fun s hs=>by
  have:=wI (k2 s (sF.1 hs));omega) (by omega)
 have h8:(2*l2.length+2+(fN P).length)*(20000+22)≤3002*20022:=Nat.mul_le_mul (by omega) (by omega);omega
theorem RQ {cells:List ByteArray} {k a n:Nat} {C:CT} (hI:SInv cells k a n C) (hk:k < 4000) {l:cN} (hn:gX l) (hl:∀ x,eN l x=C x):(bM l []).length < 100000000000:=by
 have hw:=hI.wrong hn hl;have hlen:=hI.len hn hl;have hnk:=hI.nk;obtain ⟨k1,k2⟩:=qQ hw;have h:=rS (l:=l) (P:=[]) (M:=20000) (by decide) (by decide) (fun p hp=>by
  have:=k1 p hp;have:=wI this.1;omega) (fun s hs=>by cases hs) (by rw [List.length_nil];omega)
 have h8:(2*l.length+2+([]:List ByteArray).length)*(20000+22)≤400000*20022:=Nat.mul_le_mul (by rw [List.length_nil];omega) (by omega);omega
def JA (k n:Nat) (l2:cN) (P:List ByteArray):Int:=if tX k n false l2 P = -1 then 0 else tX k n false l2 P
theorem QJ {C:CT} {l2:cN} {D:List ByteArray} (h:l2.length+D.length=0):vC C l2 D=C:=by have h1:l2=[]:=List.length_eq_zero_iff.1 (by omega);have h2:D=[]:=List.length_eq_zero_iff.1 (by omega);subst h1 h2;funext x;rw [vC,aHp aIH];show ((none:Option ByteArray).orElse fun _=>C x)=C x;rfl
theorem qL (k n:Nat) (l2:cN) (P:List ByteArray) :
  (tX k n false l2 P=0∧bX l2 P=0∧l2.length+(fN P).length=0)∨(tX k n false l2 P = -1∧bX l2 P=0∧0 < l2.length+(fN P).length∧n+dD (bM l2 (fN P))≤k) ∨
  (tX k n false l2 P=21∧bX l2 P=0∧0 < l2.length+(fN P).length∧k < n+dD (bM l2 (fN P)))∨(tX k n false l2 P=bX l2 P∧¬ bX l2 P=0):=by
 have e:tX k n false l2 P=if ¬ bX l2 P=0 then bX l2 P else if l2.length+(fN P).length=0 then 0 else if k < n+dD (bM l2 (fN P))then 21 else -1:=aHp Bool.false_ne_true
 rw [e];by_cases h1:bX l2 P=0
 ·rw [aHp (fun h=>h h1)];by_cases h2:l2.length+(fN P).length=0
  ·rw [aHq h2];exact .inl ⟨rfl,h1,h2⟩
  rw [aHp h2];by_cases h3:k < n+dD (bM l2 (fN P))
  ·rw [aHq h3];exact .inr (.inr (.inl ⟨rfl,h1,by omega,h3⟩))
  rw [aHp h3];exact .inr (.inl ⟨rfl,h1,by omega,by omega⟩)
 rw [aHq h1];exact .inr (.inr (.inr ⟨rfl,h1⟩))
structure St (N k:Nat) (tl:List ByteArray) (d:DSt) (a n:Nat) (l:cN) (c:Nat) (C:CT):Prop where
 calm:Calm d N
 inv:SInv d.cells k a n C
 st:fI l c
 nd:gX l
 kv:∀ x,eN l x=C x
 tl:d.cells.drop (2*k+2)=tl
theorem aF3 {cells S:List ByteArray} {p k:Nat} {x y:ByteArray} (h:p+S.length≤2*k+2):(((pW cells p S).set 1 x).set 0 y).drop (2*k+2)=cells.drop (2*k+2):=by refine List.ext_getElem? fun j=>?_;rw [List.getElem?_drop,List.getElem?_drop,List.getElem?_set_ne (by omega),List.getElem?_set_ne (by omega),nG,aHp (by omega)]
theorem Z6 {N k:Nat} {tl:List ByteArray} {d:DSt} {a n:Nat} {l l':cN} {c c':Nat} {C:CT} (h:St N k tl d a n l c C) (hk:k < 4000) {l2:cN} {P:List ByteArray} (hn2:gX l2) (hw:bX l2 P=0) (h0:0 < l2.length+(fN P).length) (hfit:n+dD (bM l2 (fN P))≤k) (q1:fI l' c') (q2:gX l') (q4:∀ x,eN l' x=vC (eN l) l2 (fN P) x) :
  (fR d k a n (bM l2 (fN P))).1=0∧St N k tl (fR d k a n (bM l2 (fN P))).2 a (n+dD (bM l2 (fN P))) l' c' (vC C l2 (fN P)):=by
 have hkn:=h.inv.kn;have hcn:=h.calm.inv.n;have hak:a*k≤k:=by
  have:=h.inv.a2;rcases(show a=0∨a=1 by omega)with e|e<;>subst e<;>omega
 obtain ⟨a1,a2,a3⟩:=B6 h.calm (k:=k) (a:=a) (cn:=n) (t:=bM l2 (fN P)) (by omega) (by have:=h.calm.inv.ok.n2;omega) h.inv.a2 hfit;have hw2:bX l2 (fN P)=0:=by
  obtain ⟨k1,k2⟩:=qQ hw;exact zU (fun p hp=>⟨(k1 p hp).1,fun hm=>(k1 p hp).2.1 (sF.1 hm),(k1 p hp).2.2⟩) (fun s hs=>k2 s (sF.1 hs))
 refine⟨a1,a2,?_,q1,q2,fun x=>?_,?_⟩
 ·rw [a3];exact aAC h.inv hn2 (B3 P) h0 hw2 hfit (by omega)
 ·rw [q4,vC,vC,h.kv]
 rw [a3,aF3 (by rw [eB];omega)];exact h.tl
theorem sD {N k:Nat} {tl:List ByteArray} {d:DSt} {a n:Nat} {l:cN} {c:Nat} {C:CT} (h:St N k tl d a n l c C) (hk:k < 4000) (l2:cN) (c2:Nat) (P:List ByteArray) (hst2:fI l2 c2) (hnd2:gX l2) (hl2:l2.length≤1000) (hP:P.length≤1000) :
  aK Tryz.prog 14 [.ref 1100 0 0 0,.mp 950 0,.pv (aX P)] ((950,cB l2 c2)::sH d (dU k a n false) (cB l c)) (fun r H'=>r=iv (JA k n l2 P)∧∃ d' n' l' c',St N k tl d' a n' l' c' (if JA k n l2 P=0 then vC C l2 (fN P)else C)∧n'=(if tX k n false l2 P = -1 then n+dD (bM l2 (fN P))else n)∧H'=(950,cB l2 c2)::sH d' (dU k a n' false) (cB l' c')):=by
 have hcm:=K8 h.calm.inv k a n false l c l2 c2 P hk h.inv.a2 h.inv.nk (by omega) h.st h.nd hst2 hnd2 (by omega) (by omega) (fun hw=>vV hw hl2 hP);refine hcm.mono ?_;have hcs:=qL k n l2 P;rintro r H' (⟨h1,rfl,rfl⟩|⟨h1,h2,rfl,rfl⟩|⟨h1,h2,rfl,l',c',q1,q2,q3,q4,rfl⟩)
 ·have hE:JA k n l2 P=tX k n false l2 P:=aHp h1;rw [hE,aHp h1];refine⟨rfl,d,n,l,c,?_,rfl,rfl⟩;rcases hcs with⟨e1,e2,e3⟩|⟨e1,_⟩|⟨e1,_⟩|⟨e1,e2⟩
  ·rw [aHq e1,QJ e3];exact h
  ·exact absurd e1 h1
  ·rw [aHp (by rw [e1];decide)];exact h
  rw [aHp (by rw [e1];exact e2)];exact h
 ·exfalso;rcases hcs with⟨e1,_⟩|⟨e1,e2,e3,e4⟩|⟨e1,_⟩|⟨e1,e2⟩
  ·rw [h1] at e1;cases e1
  ·exact h2 (B6 h.calm (k:=k) (a:=a) (cn:=n) (t:=bM l2 (fN P)) (by have:=h.inv.kn;have:=h.calm.inv.n;omega) (by have:=h.calm.inv.ok.n2;have:=h.calm.inv.n;omega) h.inv.a2 e4).1
  ·rw [h1] at e1;cases e1
  rw [h1] at e1;have:=gN l2 P;omega
 have hE:JA k n l2 P=0:=aHq h1;rw [hE,aHq rfl,aHq h1];rcases hcs with⟨e1,_⟩|⟨e1,e2,e3,e4⟩|⟨e1,_⟩|⟨e1,e2⟩
 ·rw [h1] at e1;cases e1
 ·exact⟨rfl,_,_,l',c',(Z6 h hk hnd2 e2 e3 e4 q1 q2 q4).2,rfl,rfl⟩
 ·rw [h1] at e1;cases e1
 rw [h1] at e1;have:=gN l2 P;omega
theorem NO {N k:Nat} {tl:List ByteArray} {d:DSt} {a n:Nat} {l:cN} {c:Nat} {C:CT} (h:St N k tl d a n l c C) (hk:k < 4000) (P:List ByteArray) (hP:P.length≤1000) :
  aK Tryz.prog 14 [.ref 1100 0 0 0,.pv .nilm,.pv (aX P)] (sH d (dU k a n false) (cB l c)) (fun r H'=>r=iv (JA k n [] P)∧∃ d' n' l' c',St N k tl d' a n' l' c' (if JA k n [] P=0 then vC C [] (fN P)else C)∧n'=(if tX k n false [] P = -1 then n+dD (bM [] (fN P))else n)∧H'=sH d' (dU k a n' false) (cB l' c')):=by
 have hcm:=YF h.calm.inv k a n false l c P hk h.inv.a2 h.inv.nk (by omega) h.st h.nd (by omega) (fun hw=>vV hw (by decide) hP);refine hcm.mono ?_;have hcs:=qL k n [] P;rintro r H' (⟨h1,rfl,rfl⟩|⟨h1,h2,rfl,rfl⟩|⟨h1,h2,rfl,l',c',q1,q2,q3,q4,rfl⟩)
 ·have hE:JA k n [] P=tX k n false [] P:=aHp h1;rw [hE,aHp h1];refine⟨rfl,d,n,l,c,?_,rfl,rfl⟩;rcases hcs with⟨e1,e2,e3⟩|⟨e1,_⟩|⟨e1,_⟩|⟨e1,e2⟩
  ·rw [aHq e1,QJ e3];exact h
  ·exact absurd e1 h1
  ·rw [aHp (by rw [e1];decide)];exact h
  rw [aHp (by rw [e1];exact e2)];exact h
 ·exfalso;rcases hcs with⟨e1,_⟩|⟨e1,e2,e3,e4⟩|⟨e1,_⟩|⟨e1,e2⟩
  ·rw [h1] at e1;cases e1
  ·exact h2 (B6 h.calm (k:=k) (a:=a) (cn:=n) (t:=bM [] (fN P)) (by have:=h.inv.kn;have:=h.calm.inv.n;omega) (by have:=h.calm.inv.ok.n2;have:=h.calm.inv.n;omega) h.inv.a2 e4).1
  ·rw [h1] at e1;cases e1
  rw [h1] at e1;have:=gN [] P;omega
 have hE:JA k n [] P=0:=aHq h1;rw [hE,aHq rfl,aHq h1];rcases hcs with⟨e1,_⟩|⟨e1,e2,e3,e4⟩|⟨e1,_⟩|⟨e1,e2⟩
 ·rw [h1] at e1;cases e1
 ·exact⟨rfl,_,_,l',c',(Z6 h hk GO e2 e3 e4 q1 q2 q4).2,rfl,rfl⟩
 ·rw [h1] at e1;cases e1
 rw [h1] at e1;have:=gN [] P;omega
def scE (k:Nat) (l:cN):Int:=if k < dD (cE l)then 21 else 0
theorem FU {N k:Nat} {tl:List ByteArray} {d:DSt} {a n:Nat} {l:cN} {c:Nat} {C:CT} (h:St N k tl d a n l c C) (hk:k < 4000) :
  aK Tryz.prog 21 [.ref 1100 0 0 0] (sH d (dU k a n false) (cB l c)) (fun r H'=>r=iv (scE k l)∧∃ d' a' n',St N k tl d' a' n' l c C∧(scE k l=0→d'.cells=oJ k (cE l) tl)∧H'=sH d' (dU k a' n' false) (cB l c)):=by
 have hkn:=h.inv.kn;have hcn:=h.calm.inv.n;have hlen:=h.inv.len h.nd h.kv;have hnk:=h.inv.nk;have hsc:=OV h.calm.inv k a n l c hk (by omega) h.inv.a2 h.inv.nk (by omega) h.st (by omega) (RQ h.inv hk h.nd h.kv);refine hsc.mono ?_;rintro r H' (⟨h1,rfl,rfl⟩|⟨h1,rfl,a',n',q1,q2,q3,rfl⟩)
 ·have hE:scE k l=21:=aHq h1;rw [hE];exact⟨rfl,d,a,n,h,fun e=>(by cases e),rfl⟩
 have hE:scE k l=0:=aHp (by omega);obtain ⟨s1,s2,s3⟩:=aBm h.calm (k:=k) (a:=a) (w:=cE l) (by omega) (by have:=h.calm.inv.ok.n2;omega) h.inv.a2 h1;obtain ⟨rfl,rfl⟩:=q3 s1;rw [hE,s1];have htl:(oJ k (cE l) tl).drop (2*k+2)=tl:=by
  have e1:oJ k (cE l) tl=(hS 0 0 (dD (cE l))::hS 1 0 (dD (cE l))::(gG 2 (cE l) (dD (cE l))++(zR (k - dD (cE l))++zR k)))++tl:=by rw [oJ];simp only [List.cons_append,List.append_assoc]
  rw [e1];exact List.drop_left' (by rw [aHt,aHt,aHs,eB,aHs,List.length_replicate,List.length_replicate];omega)
 rw [h.tl] at s3;have hiv:=RR h.inv h.nd h.kv h1 (by omega);rw [h.tl] at hiv;exact⟨rfl,_,0,dD (cE l),⟨s2,by rw [s3];exact hiv,h.st,h.nd,h.kv,by rw [s3,htl]⟩,fun _=>s3,rfl⟩
theorem aEl {N:Nat} (h1:4≤N) (h2:N≤8000) {l:cN} {c:Nat} (q1:fI l c) (q2:gX l) (q3:∀ x,eN l x=none):St N ((N - 2) / 2) ((pK N).cells.drop (2*((N - 2) / 2)+2)) (pK N) 0 0 l c (fun _=>none) :=⟨B5 (by omega) h2,FQ h1,q1,q2,q3,rfl⟩
end Go.Proofs.YtmkgeogoojcciaaGreatDoor
namespace Go.Abs
section
section
variable {P:Program} {N:Nat} {o:Oper} {E:bZ} {H:aE} {T:TypeId} {x y:Operand}
theorem bC {e:TypeId} {kk:IntKind} {n:Int} {m sz cnt i k k2:Nat} {rows:List (List PV)} (ho:o.op=.indexAddr T x y) (hT:P.underlying T=some (.array cnt e)) (hs:∀ w,(sizeOf e).run P w=.ok sz w)
  (hx:aS E x=some (.pad rows i k)) (hy:aS E y=some (.pv (.int kk n))) (h0:0≤n) (hm:n.toNat=m) (hi:m < cnt) (hk:k+m*sz=k2):bS P N o E H (.pad rows i k2) H :=
 .of_run fun a w I ι hr he=>by
  have h:=aN he hx;have hn:=(aN he hy).int_inv;generalize hc:a.eval x=c at h;subst hk;cases h with
  | pad b off cap sz1 h0' hsz hlen cs hb hcc hp =>
   refine⟨.pointer (some ⟨b,off+i*sz1+(k+m*sz),none⟩),?_,.pad b off cap sz1 h0' hsz hlen cs hb hcc hp⟩;simp only [execOp,ho,hc,hn];have h5:n < (cnt:Int):=by omega
   simp [Instr.indexAt,run_underlying hT,Instr.sureAddr,asIntOf,h0,h5,hs,hm,Addr.add_lit,Nat.add_assoc]
end
end
end Go.Abs
namespace Go.Proofs.YtmkgeogoojcciaaGreatDoor
open Go.Proofs.Tryz
open Go.Abs Go.Lib
structure GOp where
 kind:Int
 put:List (ByteArray×ByteArray)
 drop:List ByteArray
 a:Int
 b:Int
 c:Int
def encKV (p:ByteArray×ByteArray):List PV:=[.str p.1,.str p.2]
def hU (l:List (ByteArray×ByteArray)):PV:=.sl (l.map encKV)
def BZ (o:GOp):List PV:=[.int .i64 o.kind,hU o.put,aX o.drop,.int .i64 o.a,.int .i64 o.b,.int .i64 o.c]
def oQ (l:List GOp):PV:=.sl (l.map BZ)
theorem kT (l:List (ByteArray×ByteArray)):∀ r∈l.map encKV,r.length=2:=fun r hr=>by
 obtain ⟨t,_,rfl⟩:=List.mem_map.1 hr;rfl
theorem PQ (l:cN):2*(eT l).length=(oE l).length:=(lE (fun x=>x) (fO l) (eT l)).symm
theorem Fin.stK {G0 H1 H':aE} {id g n:Nat} {ob:Ob} (l:List ByteArray) (hH:H1.get id=some ob) (hg:ob.g=g) (hps:ob.rows=eA l) (hn:n=l.length) (hno:H'.get id=none) (hHO:N8 H1 H' H') (hk:ZD H' H1 G0) :
  Fin G0 H1 (.osl id g 0 n) H' (.pv (aX l)):=by
 subst hg hn;exact Fin.fz (id:=id) (ob:=ob) (l.map encStr) hH (hps.trans (kV l)) (.osl (gZ encStr l)) hno hHO hk
theorem aAi (key value:ByteArray) (H:aE) (h:H.get 950=none):aK Tryz.prog 23 [sv key,sv value] H (fun r H'=>r=.mp 950 0∧H'=(950,cB (fJ [(key,value)]).1 (fJ [(key,value)]).2)::H):=by refine Bd func23 rfl ntmps23<|Sr<|Dd aR<|Zz<|Sr<|Dd (by exact oW (id:=950) iU rfl h)<|Dd aB<|Dd aB<|Uu (by exact OB (κ:=iU) (.inr rfl) bL aC rfl rfl rfl rfl rfl rfl rfl rfl)<|Dd aB<|Dd aR<|Zz<|aH ?_;refine bI (H':=((950,cB (fJ [(key,value)]).1 (fJ [(key,value)]).2)::H)) (.inr rfl) rfl (aI rfl) (Fin.get' (fun j=>lD _ _ _ _ j)) ?_;exact Qq
theorem wK (l:List (ByteArray×ByteArray)) (H:aE) (h:H.get 950=none) (hl:l.length < 1099511627776):aK Tryz.prog 15 [.pv (hU l)] H (fun r H'=>r=.mp 950 0∧H'=(950,cB (fJ l).1 (fJ l).2)::H):=by
 have hml:(l.map encKV).length=l.length:=aHr _;refine Bd func15 rfl ntmps15<|Sr<|Dd aR<|Zz<|Sr<|Dd (by exact oW (id:=950) iU rfl h)<|Dd aR<|Zz<|Sq<|Sr<|Dd aR<|Zz<|aJ ?_;refine bG (σ:=Nat) (fun k=>([(0,.pv (hU l)),(3,.mp 950 0),(4,iv (k:Int))],(950,cB (fJ (l.take k)).1 (fJ (l.take k)).2)::H)) (fun k=>k≤l.length) (fun k=>l.length - k) 0 (aII _) ?_ ?_
 ·exact E0
 intro k hk;refine Sq<|Sr<|Dd aB<|Dd aB<|Dd (jY bY)<|Dd cP<|Zz ?_;refine Cn ?_ ?_<;>intro hc1
 ·have hlt:k < l.length:=by have:=aHn hc1;omega
  obtain ⟨p,hp⟩:=aY hlt;have hi:=cV (f:=encKV) hp;have hnx:fJ (l.take (k+1))=(lK (fJ (l.take k)).1 p.1 p.2 (fJ (l.take k)).2,uW (fJ (l.take k)).1 p.1 (fJ (l.take k)).2):=by rw [bW hp];exact R9 _ _ _
  refine aF<|Sq<|aJ<|bF follows<|Cs (fun _ _=>aB)<|Cs (fun _ _=>aB)<|Cs (fun _ _=>aB)<|Cs (fun _ _=>(sU gF))<|Cs (fun H1 hH=>by exact bC rfl aW sizeOf9 rfl rfl (by omega) (by exact aIC _) (by decide) rfl)<|Cs (fun _ _=>(gW aQ))<|Cs (fun _ _=>aB)<|Cs (fun _ _=>aB)<|Cs (fun _ _=>(sU gF))<|Cs (fun H1 hH=>by exact bC rfl aW sizeOf9 rfl rfl (by omega) (by exact aIC _) (by decide) rfl)<|Cs (fun _ _=>(gW aQ)) ?_;refine dI (r:=⟨_,none,[_]⟩) (DStep.plain rfl (fun H1 hH=>by exact oY (κ:=iU) (l:=cU (fJ (l.take k)).1) (.inl rfl) bL aC rfl ((hH _ rfl).trans rfl) rfl rfl rfl rfl rfl (yC _ _ _ _) (BX _ _ _))) rfl ?_;refine cA<|Kr<|Rg<|Dd aB<|Dd rL<|Da ?_;refine⟨k+1,by omega,by omega,?_⟩;rw [hnx];exact cC.get' ⟨⟨_,rfl,rfl⟩,⟨_,rfl,rfl⟩,⟨_,rfl,rfl⟩,trivial⟩ (fun j=>lD _ _ _ _ j)
 have hge:k=l.length:=by have:=aHo hc1;omega
 subst hge;rw [List.take_length];refine aV<|Sr<|Dd aB<|Dd aR<|Zz<|aH ?_;refine bI (H':=((950,cB (fJ l).1 (fJ l).2)::H)) (.inr rfl) rfl (aI rfl) Fin.refl ?_;exact Qq
theorem HN (d:DSt) (k a n:Nat) (b:Bool) (l:cN) (c:Nat) (hst:fI l c) (hnd:gX l) (hl:l.length < 1000000000) :
  aK Tryz.prog 18 [.ref 1100 0 0 0] (sH d (dU k a n b) (cB l c)) (fun r H'=>r=.pv (aX (oE l))∧H'=sH d (dU k a n b) (cB l c)):=by
 have hks:=VC d k a n b l c hst (by omega);have hsl:=kW l;have hml:((eT l).map encStr).length=(eT l).length:=aHr _;have hT:∀ i,i≤(eT l).length→(((eT l).take i).flatMap fun x=>[x,fO l x]).length=2*i:=fun i hi=>by rw [lE,aIF];omega
 refine Bd func18 rfl ntmps18<|Sr<|Dd aR<|Zz<|Sr<|Dd aB<|Dd (by exact aA rfl rfl aHc rfl (hks))<|Dd aR<|Zz<|Sr<|Dd (by exact eU (id:=905) (sz:=1) (ty:=9) rfl rfl rfl)<|Zz<|Sq<|Sr<|Dd aR<|Zz<|aJ ?_;refine bG (σ:=Nat) (fun i=>([(0,.ref 1100 0 0 0),(3,.pv (aX (eT l))),(4,.osl 905 i 0 (2*i)),(5,iv (i:Int))],(905,⟨i,1,9,eA (((eT l).take i).flatMap fun x=>[x,fO l x])⟩)::sH d (dU k a n b) (cB l c))) (fun i=>i≤(eT l).length) (fun i=>(eT l).length - i) 0 (aII _) ?_ ?_
 ·exact(cC.wk (Ea<|Eb<|Ea<|Eb<|trivial) (Hc (dK _ _)<|Hc (aM _ _ rfl rfl rfl)<|Hc (aG _ _)<|Hc (aD _ _ _)<|Hc (aP _ _)<|Hc (by(simp;exact⟨rfl,rfl⟩))<|Hc (aU _ _ _)<|trivial) ⟨rfl,rfl,rfl,rfl,rfl,rfl,trivial⟩)
 intro i hi;have hTi:=hT i hi;refine Sq<|Sr<|Dd aB<|Dd aB<|Dd (jY aO)<|Dd cP<|Zz ?_;refine Cn ?_ ?_<;>intro hc1
 ·have hlt:i < (eT l).length:=by have:=aHn hc1;omega
  obtain ⟨s,hs⟩:=aY hlt;have his:=cV (f:=encStr) hs;have hin:(eN l s).isSome=true:=by
   cases e:eN l s with
   | some v=>rfl
   | none=>exact absurd (mO.1 (aIB hs)) (iX.1 e)
  have hg:=S4 d k a n b l c s;rw [hin] at hg;have hnx:((eT l).take (i+1)).flatMap (fun x=>[x,fO l x])=(((eT l).take i).flatMap fun x=>[x,fO l x])++[s,fO l s]:=by rw [bW hs,List.flatMap_append];rfl
  refine aF<|Sq<|aJ<|Sr<|Dd aB<|Dd aB<|Dd aB<|Dd (sU cD)<|Dd (gW aQ)<|Dd (by exact aA rfl rfl aHa rfl (jL hg _ ⟨rfl,rfl,rfl,rfl,rfl,rfl,trivial⟩ (by simp;rfl)))<|Dd aB<|Dd eC<|Dd eC<|Dd aR<|Dd aR<|Zz<|Sq<|Sr<|Dd aB<|Dd pY<|Zz ?_;refine Cn ?_ ?_<;>intro hc2
  ·cases hc2
  refine aF<|Rg<|Dd aB<|Dd aB<|Dd aB<|Dd (sU cD)<|Dd (gW aQ)<|Dd aB<|Dd (by exact bD [[.str s],[.str (fO l s)]] rfl cD rfl rfl rfl rfl rfl (oO s (fO l s)))<|Dd (by exact dV (k:=2*(i+1)) (ps:=[[.str s],[.str (fO l s)]]) rfl cD IB rfl rfl rfl rfl rfl ((eX _).trans hTi) rfl (oO _ _) (m:=2) rfl (by omega) (by omega) (jK _ [s,fO l s]))<|Dd aR<|Zz<|Rg<|Dd aB<|Dd rL<|Da ?_;refine⟨i+1,by omega,by omega,?_⟩;rw [hnx];exact(cC.wk (Ea<|Eb<|Ea<|Eb<|trivial) (Hc (dK _ _)<|Hc (aM _ _ rfl rfl rfl)<|Hc (aG _ _)<|Hc (aD _ _ _)<|Hc (aP _ _)<|Hc (by(simp;exact⟨rfl,rfl⟩))<|Hc (aU _ _ _)<|trivial) ⟨rfl,rfl,rfl,rfl,rfl,rfl,trivial⟩)
 have hge:i=(eT l).length:=by have:=aHo hc1;omega
 subst hge;rw [List.take_length] at hTi ⊢;refine aV<|Sr<|Dd aB<|Dd aR<|Zz<|aH ?_;have hkl:((eT l).flatMap fun x=>[x,fO l x])=oE l:=rfl;refine bI (H':=(sH d (dU k a n b) (cB l c))) (.inr rfl) rfl (aI rfl) (Fin.stK (oE l) rfl rfl rfl (PQ l) rfl ⟨⟨_,rfl,rfl⟩,(by exact aM _ _ rfl rfl rfl),⟨_,rfl,rfl⟩,(by exact aG _ _),⟨_,rfl,rfl⟩,(by exact aD _ _ _),⟨_,rfl,rfl⟩,(by exact aP _ _),⟨_,rfl,rfl⟩,(by(simp;exact⟨rfl,rfl⟩)),⟨_,rfl,rfl⟩,(by exact aU _ _ _),trivial⟩ ⟨rfl,rfl,rfl,rfl,rfl,rfl,trivial⟩) ?_;exact Qq
theorem WL (a b:List ByteArray) (H:aE) (ha:a.length < 1000000000) (hb:b.length < 1000000000):aK Tryz.prog 54 [.pv (aX a),.pv (aX b)] H (fun r H'=>r=bv (decide (a=b))∧H'=H):=by
 refine Pu ?_;have hma:(a.map encStr).length=a.length:=aHr _;have hmb:(b.map encStr).length=b.length:=aHr _;refine Bd func54 rfl ntmps54<|Sr<|Dd aR<|Zz<|Sq<|Sr<|Dd aB<|Dd (jY aO)<|Dd aB<|Dd (jY aO)<|Dd tM<|Zz ?_;refine Cn ?_ ?_<;>intro hc1
 ·have hq:¬ a.length=b.length:=by have h:=hc1;simp at h;omega
  have hf:decide (a=b)=false:=decide_eq_false fun e=>hq (by rw [e]);rw [hf];exact Sr<|Dd aR<|Zz<|aH<|Rt<|Qq
 have hq:a.length=b.length:=by have h:=hc1;simp at h;omega
 refine aF<|Sq<|Sr<|Dd aR<|Zz<|aJ ?_;refine bG (σ:=Nat) (fun k=>([(0,.pv (aX a)),(1,.pv (aX b)),(5,iv (k:Int))],[])) (fun k=>k≤a.length∧a.take k=b.take k) (fun k=>a.length - k) 0 ⟨aII _,rfl⟩ ?_ ?_
 ·exact Wk
 rintro k ⟨hk,hs⟩;refine Sq<|Sr<|Dd aB<|Dd aB<|Dd (jY aO)<|Dd cP<|Zz ?_;refine Cn ?_ ?_<;>intro hc2
 ·have hlt:k < a.length:=by have:=aHn hc2;omega
  obtain ⟨x,hx⟩:=aY hlt;obtain ⟨y,hy⟩:=aY (l:=b) (k:=k) (by omega);have hix:=cV (f:=encStr) hx;have hiy:=cV (f:=encStr) hy;refine aF<|Sq<|aJ<|Sq<|bF follows<|Cq aB<|Cq aB<|Cq (sU cD)<|Cq (gW aQ)<|Cq aB<|Cq aB<|Cq (sU cD)<|Cq (gW aQ)<|Cq ZG<|cA<|Kr ?_;refine Cn ?_ ?_<;>intro hc3
  ·have hne:¬ x=y:=by have h:=hc3;simpa using h
   have hf:decide (a=b)=false:=decide_eq_false fun e=>hne (by rw [e,hy] at hx;cases hx;rfl);rw [hf];exact Sr<|Dd aR<|Zz<|aH<|Rt<|Qq
  have he:x=y:=by have h:=hc3;simpa using h
  refine aF<|Rg<|Dd aB<|Dd rL<|Da ?_;refine⟨k+1,⟨by omega,?_⟩,by omega,Wk⟩;rw [bW hx,bW hy,hs,he]
 have hge:k=a.length:=by have:=aHo hc2;omega
 have ht:decide (a=b)=true:=decide_eq_true (by
  rw [← List.take_length (l:=a),← hge,hs,hge,hq,List.take_length])
 rw [ht];exact aV<|Sr<|Dd aR<|Zz<|aH<|Rt<|Qq
theorem qR (a b:List ByteArray) (H:aE) (ha:a.length < 1000000000) (hb:b.length < 1000000000):aK Tryz.prog 17 [.pv (aX a),.pv (aX b)] H (fun r H'=>r=bv (decide (a=b))∧H'=H):=by refine Pu ?_;exact Bd func17 rfl ntmps17<|Sr<|Dd aR<|Zz<|Sr<|Dd aB<|Dd aB<|Dd (by exact aA rfl rfl call54 rfl (WL a b _ ha hb))<|Dd aR<|Zz<|aH<|Rt<|Qq
def aBW (p:ByteArray×ByteArray):Bool:=decide (p.1.size+p.2.size≤600)
def aBX (s:ByteArray):Bool:=decide (s.size≤600)
def NF (x:GOp):Bool:=(decide (x.put.length≤6)&&decide (x.drop.length≤6))&&(x.put.all aBW&&x.drop.all aBX)
def D9 (l:List GOp):Bool:=l.all NF&&decide (l.length≤12)
theorem NU {α:Type} {l:List α} {p:α→Bool} {i:Nat} {x:α} (h:l[i]?=some x) (hp:p x=false):l.all p=false:=by rw [Bool.eq_false_iff];intro ha;rw [List.all_eq_true.1 ha x (aIB h)] at hp;cases hp
theorem TP {α:Type} {l:List α} {p:α→Bool} (h:∀ i x,i < l.length→l[i]?=some x→p x=true):l.all p=true:=List.all_eq_true.2 fun x hx=>by
 obtain ⟨i,hi⟩:=aIM.1 hx;exact h i x (aHv.1 hi).1 hi
theorem aGI (l:List GOp) (H:aE) (hl:l.length < 1099511627776) (hs:∀ x∈l,x.put.length < 1099511627776∧x.drop.length < 1099511627776∧(∀ p∈x.put,p.1.size < 1099511627776∧p.2.size < 1099511627776)) :
  aK Tryz.prog 11 [.pv (oQ l)] H (fun r H'=>r=bv (D9 l)∧H'=H):=by
 refine Pu ?_;have hml:(l.map BZ).length=l.length:=aHr _;refine Bd func11 rfl ntmps11<|Sr<|Dd aR<|Zz<|Sq<|Sr<|Dd aR<|Zz<|aJ ?_;refine bG (σ:=Nat) (fun i=>([(0,.pv (oQ l)),(3,iv (i:Int))],[])) (fun i=>i≤l.length∧∀ j x,j < i→l[j]?=some x→NF x=true) (fun i=>l.length - i) 0 ⟨aII _,fun j x hj=>absurd hj (Nat.not_lt_zero _)⟩ ?_ ?_
 ·exact Wk
 rintro i ⟨hi,hall⟩;refine Sq<|Sr<|Dd aB<|Dd aB<|Dd (jY sO)<|Dd cP<|Zz ?_;refine Cn ?_ ?_<;>intro hc1
 ·have hlt:i < l.length:=by have:=aHn hc1;omega
  obtain ⟨x,hx⟩:=aY hlt;have hix:=cV (f:=BZ) hx;obtain ⟨s1,s2,s3⟩:=hs x (aIB hx);have hmp:(x.put.map encKV).length=x.put.length:=aHr _;have hmd:(x.drop.map encStr).length=x.drop.length:=aHr _;have bad:NF x=false→D9 l=false:=fun h=>by rw [D9,NU hx h];rfl
  have hO:NF x=((decide (x.put.length≤6)&&decide (x.drop.length≤6))&&(x.put.all aBW&&x.drop.all aBX)):=rfl;refine aF<|Sq<|aJ<|Sq<|Sq ?_;refine cQ (t:=27) (n:=17) (X:=decide ((6:Int) < ((x.put.map encKV).length:Int))||decide ((6:Int) < ((x.drop.map encStr).length:Int))) ?_ ?_
  ·all_goals refine Dd aB ?_
   all_goals refine Dd aB<|Dd (by exact aZ rfl OS rfl rfl (by omega) (by exact aIC _) hix rfl)<|Dd (fp' lN)<|Dd (gW dJ)<|Dd (jY bY)<|Dd yP<|Dm ?_
   all_goals refine Sp 19 (fun h19=>?_) fun h19=>?_
   all_goals try contradiction
   all_goals first|refine Fo<|Fo<|Fo<|Fo<|Fo<|Fo<|Fo ?_|refine On aB<|On aB<|On (by exact aZ rfl OS rfl rfl (by omega) (by exact aIC _) hix rfl)<|On (fp' mF)<|On (gW bJ)<|On (jY aO)<|On yP ?_
   all_goals refine Dd cX<|Zz ?_
   all_goals(exact⟨⟨_,rfl,by(rw [h19];rfl)⟩,rfl,rfl,rfl⟩)
  refine Cn ?_ ?_<;>intro hc2
  ·have hq:6 < x.put.length∨6 < x.drop.length:=by have h:=hc2;rw [Bool.or_eq_true,aHy,aHy] at h;omega
   have hf:NF x=false:=by
    rw [hO];rcases hq with hq|hq
    ·rw [decide_eq_false (show ¬ x.put.length≤6 by omega)];rfl
    rw [decide_eq_false (show ¬ x.drop.length≤6 by omega),Bool.and_false];rfl
   rw [bad hf];exact Sr<|Dd aR<|Zz<|aH<|Rt<|Qq
  have hq:x.put.length≤6∧x.drop.length≤6:=by have h:=hc2;rw [aIN,aHz,aHz] at h;omega
  rw [decide_eq_true hq.1,decide_eq_true hq.2] at hO;refine aF<|Sq<|Sr<|Dd aR<|Zz<|aJ ?_;refine bG (σ:=Nat) (fun k=>([(0,.pv (oQ l)),(3,iv (i:Int)),(4,iv (k:Int))],[])) (fun k=>k≤x.put.length∧∀ j p,j < k→x.put[j]?=some p→aBW p=true) (fun k=>x.put.length - k) 0 ⟨aII _,fun j p hj=>absurd hj (Nat.not_lt_zero _)⟩ ?_ ?_
  ·exact Wk
  rintro k ⟨hk,hpk⟩;refine Sq<|Sr<|Dd aB<|Dd aB<|Dd aB<|Dd (by exact aZ rfl OS rfl rfl (by omega) (by exact aIC _) hix rfl)<|Dd (fp' lN)<|Dd (gW dJ)<|Dd (jY bY)<|Dd cP<|Zz ?_;refine Cn ?_ ?_<;>intro hc3
  ·have hltk:k < x.put.length:=by have:=aHn hc3;omega
   obtain ⟨p,hp⟩:=aY hltk;have hip:=cV (f:=encKV) hp;obtain ⟨t1,t2⟩:=s3 p (aIB hp);refine aF<|Sq<|aJ<|Sq<|bF follows<|Cq aB<|Cq aB<|Cq (by exact aZ rfl OS rfl rfl (by omega) (by exact aIC _) hix rfl)<|Cq (fp' lN)<|Cq (gW dJ)<|Cq aB<|Cq (by exact aZ rfl gF rfl rfl (by omega) (by exact aIC _) hip rfl)<|Cq (by exact bC rfl aW sizeOf9 rfl rfl (by omega) (by exact aIC _) (by decide) rfl)<|Cq (gW aQ)<|Cq (mD aC)<|Cq aB<|Cq aB<|Cq (by exact aZ rfl OS rfl rfl (by omega) (by exact aIC _) hix rfl)<|Cq (fp' lN)<|Cq (gW dJ)<|Cq aB<|Cq (by exact aZ rfl gF rfl rfl (by omega) (by exact aIC _) hip rfl)<|Cq (by exact bC rfl aW sizeOf9 rfl rfl (by omega) (by exact aIC _) (by decide) rfl)<|Cq (gW aQ)<|Cq (mD aC) ?_;refine Cq rL<|Cq yP<|cA<|Kr ?_;refine Cn ?_ ?_<;>intro hc4
   ·have hq2:¬ p.1.size+p.2.size≤600:=by have:=aHn hc4;omega
    have hf:NF x=false:=by rw [hO,NU hp (show aBW p=false from decide_eq_false hq2)];rfl
    rw [bad hf];exact Sr<|Dd aR<|Zz<|aH<|Rt<|Qq
   have hq2:p.1.size+p.2.size≤600:=by have:=aHo hc4;omega
   refine aF<|Rg<|Dd aB<|Dd rL<|Da ?_;refine⟨k+1,⟨by omega,fun j q hj hq=>?_⟩,by omega,Wk⟩;rcases Nat.lt_succ_iff_lt_or_eq.1 hj with h1|rfl
   ·exact hpk j q h1 hq
   rw [hp] at hq;cases hq;exact decide_eq_true hq2
  have hgek:k=x.put.length:=by have:=aHo hc3;omega
  have hP:x.put.all aBW=true:=TP fun j p hj hp=>hpk j p (by omega) hp;rw [hP] at hO;refine aV<|Sr<|Dd aR<|Zz<|aJ ?_;refine bG (σ:=Nat) (fun k=>([(0,.pv (oQ l)),(3,iv (i:Int)),(5,iv (k:Int))],[])) (fun k=>k≤x.drop.length∧∀ j p,j < k→x.drop[j]?=some p→aBX p=true) (fun k=>x.drop.length - k) 0 ⟨aII _,fun j p hj=>absurd hj (Nat.not_lt_zero _)⟩ ?_ ?_
  ·exact Wk
  rintro m ⟨hm,hdk⟩;refine Sq<|Sr<|Dd aB<|Dd aB<|Dd aB<|Dd (by exact aZ rfl OS rfl rfl (by omega) (by exact aIC _) hix rfl)<|Dd (fp' mF)<|Dd (gW bJ)<|Dd (jY aO)<|Dd cP<|Zz ?_;refine Cn ?_ ?_<;>intro hc5
  ·have hltm:m < x.drop.length:=by have:=aHn hc5;omega
   obtain ⟨s,hs2⟩:=aY hltm;have hisd:=cV (f:=encStr) hs2;refine aF<|Sq<|aJ<|Sr<|Dd aB<|Dd aB<|Dd (by exact aZ rfl OS rfl rfl (by omega) (by exact aIC _) hix rfl)<|Dd (fp' mF)<|Dd (gW bJ)<|Dd aB<|Dd (by exact aZ rfl cD rfl rfl (by omega) (by exact aIC _) hisd rfl)<|Dd (gW aQ)<|Dd (mD aC)<|Dd yP<|Zz ?_;refine Cn ?_ ?_<;>intro hc6
   ·have hq2:¬ s.size≤600:=by have:=aHn hc6;omega
    have hf:NF x=false:=by rw [hO,NU hs2 (show aBX s=false from decide_eq_false hq2)];rfl
    rw [bad hf];exact Sr<|Dd aR<|Zz<|aH<|Rt<|Qq
   have hq2:s.size≤600:=by have:=aHo hc6;omega
   refine aF<|Rg<|Dd aB<|Dd rL<|Da ?_;refine⟨m+1,⟨by omega,fun j q hj hq=>?_⟩,by omega,Wk⟩;rcases Nat.lt_succ_iff_lt_or_eq.1 hj with h1|rfl
   ·exact hdk j q h1 hq
   rw [hs2] at hq;cases hq;exact decide_eq_true hq2
  have hgem:m=x.drop.length:=by have:=aHo hc5;omega
  have hDD:x.drop.all aBX=true:=TP fun j p hj hp=>hdk j p (by omega) hp;rw [hDD] at hO;refine aV<|Rg<|Dd aB<|Dd rL<|Da ?_;refine⟨i+1,⟨by omega,fun j y hj hy=>?_⟩,by omega,Wk⟩;rcases Nat.lt_succ_iff_lt_or_eq.1 hj with h1|rfl
  ·exact hall j y h1 hy
  rw [hx] at hy;cases hy;exact hO
 have hge:i=l.length:=by have:=aHo hc1;omega
 have hA:l.all NF=true:=TP fun j x hj hx=>hall j x (by omega) hx;have hG:D9 l=decide (((l.map BZ).length:Int)≤12):=by
  rw [D9,hA,Bool.true_and,hml];exact decide_eq_decide.2 (by omega)
 rw [hG];exact aV<|Sr<|Dd aB<|Dd (jY sO)<|Dd le'<|Dd aR<|Zz<|aH<|Rt<|Qq
theorem ZX {α:Type} {p:α→Bool}:∀ {l:List α} {k:Nat},k≤l.length→(∀ j x,j < k→l[j]?=some x→p x=true)→(k=l.length∨∃ x,l[k]?=some x∧p x=false)→(l.takeWhile p).length=k
 | [],k,hk,_,_=>by
  have:k=0:=by simpa using hk
  subst this;rfl
 | a::l,0,_,_,h=>by
  rcases h with h|⟨x,hx,hp⟩
  ·cases h
  cases hx;rw [List.takeWhile_cons,hp];rfl
 | a::l,k+1,hk,h1,h2=>by
  have ha:=h1 0 a (by omega) rfl;rw [List.takeWhile_cons,ha];show (List.takeWhile p l).length+1=k+1;rw [ZX (k:=k) (by simpa using hk) (fun j x hj hx=>h1 (j+1) x (by omega) hx) (by
   rcases h2 with h2|⟨x,hx,hp⟩
   ·exact .inl (by simpa using h2)
   exact .inr ⟨x,hx,hp⟩)]
theorem LW {a b c:ByteArray} (h1:lI b a=false) (h2:lI c b=false):lI c a=false:=by
 cases e:lI c a with
 | false=>rfl
 | true =>
  cases e2:lI a b with
  | true=>rw [mP e e2] at h2;cases h2
  | false =>
   have:=xG e2 h1;subst this;rw [e] at h2;cases h2
abbrev opB (x:GOp):Ob:=bx 6 37 [iv x.kind,.pv (hU x.put),.pv (aX x.drop),iv x.a,iv x.b,iv x.c]
end Go.Proofs.YtmkgeogoojcciaaGreatDoor
