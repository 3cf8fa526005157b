/-
  Parts of the proof: rules of an abstract program logic, contracts of functions, plain laws. Conditions: each theorem's own.
-/
import Derived.Test.YtlnfjkdacimblaaGreatDoorKW6M9
set_option linter.unusedVariables false
set_option linter.unusedSimpArgs false
set_option maxRecDepth 100000
set_option maxHeartbeats 8000000
namespace Go.Proofs
theorem aCZ:type_of% Tryz.call11:=Tryz.call11
theorem aId:type_of% Tryz.call48:=Tryz.call48
theorem aCW:type_of% Tryz.call51:=Tryz.call51
theorem nE:type_of% Tryz.isAgg22:=Tryz.isAgg22
theorem kJ:type_of% Tryz.isAgg42:=Tryz.isAgg42
theorem YH:type_of% Tryz.isAgg97:=Tryz.isAgg97
theorem RK:type_of% Tryz.sizeOf22:=Tryz.sizeOf22
theorem aHJ:type_of% Tryz.sizeOf99:=Tryz.sizeOf99
end Go.Proofs
namespace Go.Proofs.YtlnfjkdacimblaaGreatDoor
open Go.Proofs.Tryz
open Go.Abs
def jV (l:List GEdit):List (List AV):=l.map fun e=>(aJ e).map AV.pv
theorem iX (l:List GEdit):(jV l).length=l.length:=aIr _
theorem pG (l:List GEdit) (e:GEdit):jV l++[(aJ e).map AV.pv]=jV (l++[e]):=by rw [jV,jV,List.map_append];rfl
theorem bL (H:aE) (l:List GEdit):∀ r∈jV l,∀ a∈r,Clo H a:=by intro r hr a ha;obtain ⟨d,_,rfl⟩:=List.mem_map.1 hr;obtain ⟨p,_,rfl⟩:=List.mem_map.1 ha;simp
theorem NL (H:aE) (s:ByteArray):∀ r∈(lB s).rows,∀ a∈r,Clo H a:=by intro r hr a ha;simp only [lB,bx,aIu] at hr;subst hr;rw [aIu] at ha;subst ha;simp
def pcE (t:ByteArray):dG:=[(0,sv t),(4,.ref 4 0 0 0)]
def lnE (t:ByteArray) (k:Nat):GEdit:=i8 (xB (r6 (gB t k))).data.toList
def DU (t:ByteArray) (k:Nat):List GEdit:=(List.range k).map (lnE t)
theorem W0 (t:ByteArray) (k:Nat):DU t (k+1)=DU t k++[lnE t k]:=by rw [DU,List.range_succ,List.map_append];rfl
theorem HW (t:ByteArray) (k:Nat):(DU t k).length=k:=by rw [DU,aIr,List.length_range]
theorem HX (t:ByteArray):DU t (gM t).length=(kB t.data.toList).map fun s=>i8 (Lib.trimSuffix s [10]):=by
 refine List.ext_getElem? fun k=>?_;rw [DU,aJL,aJL];by_cases h:k < (gM t).length
 ·have h1:=(aD6 h).1;rw [gM,aJL] at h1;cases e:(kB t.data.toList)[k]? with
  | none=>rw [e] at h1;cases h1
  | some w =>
   rw [e] at h1;have h1:ofY w=r6 (gB t k):=Option.some.inj h1;rw [List.getElem?_range h,Option.map_some,Option.map_some,lnE,← h1,ZD,eI];congr 3
 have h2:(kB t.data.toList)[k]?=none:=by
  rw [gM,aIr] at h;exact List.getElem?_eq_none (by omega)
 rw [h2,List.getElem?_eq_none (by simpa using h)];rfl
def pcK (t s:ByteArray) (k:Nat):aE:=[(933,lB s),(905,⟨k,15,51,jV (DU t k)⟩),(4,bx 1 22 [.osl 905 k 0 k])]
theorem aDh {a b c:Ob} {K:aE} (j:Nat):aE.get ((904,b)::(933,a)::K) j=aE.get ((933,a)::(904,b)::(933,c)::K) j:=by
 by_cases h1:j=904
 ·subst h1;rfl
 by_cases h2:j=933
 ·subst h2;rfl
 rw [get_cons_other _ _ h1,get_cons_other _ _ h2,get_cons_other _ _ h2,get_cons_other _ _ h1,get_cons_other _ _ h2]
theorem RP (s:ByteArray):(xB s).size≤s.size:=by
 rw [xB]
 split
 ·rw [← bC,exL,aJF,aJG,bC];omega
 exact aIx _
theorem HZ (s:ByteArray):(r6 s).size≤s.size:=by
 rw [r6]
 split
 ·exact aIx _
 rw [← bC,exL,aJF,aJG,bC];omega
theorem xP {t:ByteArray} {k:Nat} (h:k≤(gM t).length):(xB (r6 (gB t k))).size≤t.size:=Nat.le_trans (RP _) (Nat.le_trans (HZ _) (uN t k h).2)
theorem LB {w:List UInt8} {n:Nat} (h:w.length≤n) (hn:n < 4611686018427387904):(ofL w).size < 4611686018427387904:=by rw [dL];omega
theorem S0 {s:ByteArray} (hs:s.size < 1099511627776):DO (pQ s).1:=by
 rw [pQ]
 split
 ·exact⟨by decide,⟨by decide,fun t h=>by cases h⟩,by decide,fun s hs=>by cases hs⟩
 split
 ·exact K7 hs
 exact⟨by decide,⟨by decide,fun t h=>by cases h⟩,by decide,fun s hs=>by cases hs⟩
theorem nR:DO zObj:=⟨by decide,⟨by decide,fun t h=>by cases h⟩,by decide,fun s hs=>by cases hs⟩
theorem vV:([]:List ByteArray).length < 4611686018427387904∧∀ s∈([]:List ByteArray),s.size < 4611686018427387904:=⟨by decide,fun s hs=>by cases hs⟩
theorem d8:aP.size < 4611686018427387904:=by decide
theorem LT {s:List UInt8} (hs:s.length≤20000):tQ (i8 s):=by
 have hw:∀ i,(ofL ((dO 32 s).getD i [])).size < 4611686018427387904:=fun i=>by
  refine LB (n:=20000) ?_ (by decide);rw [List.getD_eq_getElem?_getD];cases e:(dO 32 s)[i]? with
  | none=>exact aJI _
  | some w=>exact Nat.le_trans (mY 32 (aJB e)) hs
 have hz:∀ (op x y:Int),tQ ⟨op,aP,aP,aP,x,y,aP,aP,[],zObj⟩:=fun op x y=>⟨⟨d8,d8,d8,d8⟩,vV,nR⟩;rw [i8,xG]
 split
 ·exact⟨⟨d8,d8,d8,d8⟩,vV,S0 (by rw [dL,aJG];omega)⟩
 split
 ·exact⟨⟨hw 1,d8,d8,d8⟩,vV,nR⟩
 split
 ·split
  ·exact⟨⟨hw 1,d8,d8,hw 2⟩,vV,nR⟩
  exact hz _ _ _
 split
 ·refine⟨⟨hw 1,d8,d8,d8⟩,⟨?_,fun x hx=>?_⟩,nR⟩
  ·show (List.map _ _).length < _;have:=List.count_le_length (l:=s) (a:=32);rw [aIr,aJG,rS];omega
  obtain ⟨w,hw2,rfl⟩:=List.mem_map.1 hx;exact LB (n:=20000) (Nat.le_trans (mY 32 (List.mem_of_mem_drop hw2)) hs) (by decide)
 split
 ·exact⟨⟨hw 1,d8,d8,d8⟩,vV,nR⟩
 split
 ·exact⟨⟨hw 1,hw 3,hw 2,d8⟩,vV,nR⟩
 split
 ·exact⟨⟨hw 1,hw 2,d8,d8⟩,vV,nR⟩
 exact hz _ _ _
theorem DV:∀ {t:ByteArray} {n:Nat},t.size≤n→(gM t).length≤n
 | t,0,h=>by rw [uR (by omega)];exact aIx _
 | t,n+1,h=>by
  by_cases hp:0 < t.size
  ·rw [(vX hp).1,aIt];refine Nat.succ_le_succ (DV (n:=n) ?_);rw [ES]
   split
   ·exact aJI _
   next h1 =>
   obtain ⟨w,r,e1,e2,e3,e4,e5,e6⟩:=aBD h1;rw [e3,aJC,← szY,e5];omega
  rw [uR hp];exact aJI _
theorem PG (t:ByteArray) (H:aE) (hs:t.size < 1099511627776):aH Tryz.prog 13 [sv t] H (fun r H'=>r=.tup [.pv (cD (jC t).1),iv (jC t).2]∧H'=H):=by
 refine Pu ?_;rw [jC,← HX];refine Bd func13 rfl ntmps13<|Sr<|Dd aO<|Dd aO<|Zz<|Sq<|Sr<|Dd aD<|Dd (jJ underlying9)<|Dd kC<|Zz ?_;refine Cn ?_ ?_<;>intro hc1
 ·have h2:20000 < t.size:=by have:=aIn hc1;omega
  rw [aIq h2];exact Sr<|Dd aO<|Dd aO<|Zz<|aC<|Ru<|Qq
 have h2:¬ 20000 < t.size:=by have:=aIo hc1;omega
 rw [aIp h2];refine aB<|Sr<|Dd (by exact bJ (id:=4) rfl TN rfl rfl)<|Zz<|Sq<|Sr<|Dd aD<|Dd (by exact aA rfl rfl call37 rfl (aD5 t _ rfl))<|Zz<|aF ?_;obtain ⟨n,hn⟩:∃ n,n=(gM t).length:=⟨_,rfl⟩;have hnl:n≤20000:=by rw [hn];exact DV (by omega)
 refine iB.ent (E':=[(0,sv t),(4,.ref 4 0 0 0),(12,.clo 77 [.ref 933 0 0 0])]) (H':=[(905,⟨0,15,51,[]⟩),(933,lB t),(4,bx 1 22 [.osl 905 0 0 0])]) ?_ ?_
 ·exact(cY.nz 905 15 51 rfl rfl ⟨⟨_,rfl,(by exact Nz.same (by(simp;done)))⟩,⟨_,rfl,(by exact Nz.same (by(simp;rfl)))⟩,⟨_,rfl,(by exact Nz.same (by(simp;rfl)))⟩,trivial⟩ ⟨⟨_,rfl,rfl,rfl,rfl,(by exact .inl ⟨rfl,(by exact NL _ _)⟩)⟩,⟨_,rfl,rfl,rfl,rfl,(by exact .inr ⟨_,_,rfl,rfl,(by repeat(first|exact trivial|refine⟨(by exact Nz.own),?_⟩))⟩)⟩,trivial⟩ trivial)
 refine iB.ent (E':=[(0,sv t),(4,.ref 4 0 0 0),(12,.clo 77 [.ref 933 0 0 0])]) (H':=pcK t t 0) (cY.wk (Eb<|Ea<|Ea<|trivial) (Hc (NL _ _)<|Hc (bL _ _)<|Ha<|trivial) trivial) ?_;refine rN (id:=904) (p:=13) (pcE t) rfl call77 rfl rfl (by simp [pcE];exact⟨rfl,rfl⟩) ?_;intro x hx1 hx2 hx3 hx4 hx5 hx6;have hround:∀ k,k < n→dN Tryz.prog (.yld 904 0) [sv (r6 (gB t k))] ((904,LR x (pcE t))::pcK t (gB t (k+1)) k) (fun r H'=>r=bv true∧H'=(904,LR x (pcE t))::pcK t (gB t (k+1)) (k+1)):=by
  intro k hk;have hnx:=W0 t k;have hll:=HW t k;have hls:=xP (t:=t) (k:=k) (by omega);have hla:(r6 (gB t k)).size≤t.size:=Nat.le_trans (HZ _) (uN t k (by omega)).2;refine .inl ⟨904,0,rfl,?_⟩;refine C3 [(0,sv t),(4,.ref 4 0 0 0),(5,sv (r6 (gB t k)))] (pcK t (gB t (k+1)) k) hx1 hx2 hx3 hx4 hx5 hx6 rfl rfl rfl ?_ ?_
  ·refine Rg<|Da ?_;exact(cY.wk (Eb<|Ea<|Eb<|trivial) (Hc (gG (by simp [pcE];rfl))<|Hc (NL _ _)<|Hc (bL _ _)<|Ha<|trivial) ⟨rfl,rfl,rfl,rfl,trivial⟩)
  refine aF<|aU follows<|Cs (fun _ h=>lh nE h)<|Cs (fun _ _=>aD)<|Cs (fun H1 hH=>by exact aA rfl rfl call39 rfl (aEu (r6 (gB t k)) _ (by omega)))<|Cs (fun H1 hH=>by exact aA rfl rfl call38 rfl (aCx (xB (r6 (gB t k))) _ (by omega)))<|Cs (fun H1 hH=>by exact aT [aJ (lnE t k)] rfl lK rfl rfl rfl rfl rfl (by intro r hr;rw [aIu] at hr;subst hr;rfl)) ?_;refine bT (r:=⟨_,none,[_]⟩) (DStep.plain rfl (fun H1 hH=>by exact c6 (ps:=[aJ (lnE t k)]) rfl lK J6 rfl ((hH _ rfl).trans rfl) rfl rfl rfl ((iX _).trans hll) rfl (by intro r hr;rw [aIu] at hr;subst hr;rfl) (m:=1) rfl (by omega) rfl (pG (DU t k) (lnE t k)))) rfl ?_;refine bT (r:=⟨_,none,[_]⟩) (DStep.plain rfl (fun H1 hH=>by exact(by exact cV rfl RK rfl rfl rfl rfl ((hH _ rfl).trans rfl) rfl rfl rfl))) rfl ?_;refine bM<|Kr ?_;exact⟨[(933,lB (gB t (k+1))),(905,⟨k+1,15,51,jV (DU t k++[lnE t k])⟩),(4,bx 1 22 [.osl 905 (k+1) 0 (k+1)])],(cY.wk trivial (Hc (gG (by simp [pcE];rfl))<|Hc (NL _ _)<|Hc (bL _ _)<|Ha<|trivial) ⟨rfl,rfl,rfl,rfl,trivial⟩),rfl,by rw [← hnx];rfl⟩
 refine(aAq t (.yld 904 0) (fun k=>(904,LR x (pcE t))::pcK t (gB t k) k) hs (fun k=>rfl) (fun k hk=>?_)).mono ?_
 ·exact dN.congrG (hround k (by omega)) (fun j=>aDh j) (fun j=>rfl)
 rintro r H' ⟨rfl,rfl⟩;refine⟨x,_,rfl,by rw [hx1];decide,rfl,fun z=>?_⟩;rw [hx2];obtain ⟨L,hL⟩:∃ L,L=DU t n:=⟨_,rfl⟩;have hLl:L.length=n:=by rw [hL];exact HW t n
 rw [← hn,← hL];have hok:∀ e∈L,tQ e:=fun e he=>by
  rw [hL,DU] at he;obtain ⟨k,hk,rfl⟩:=List.mem_map.1 he;have:=xP (t:=t) (k:=k) (by have:=List.mem_range.1 hk;omega);exact LT (by rw [bC];omega)
 refine Sq<|Sq ?_;refine iB.ent (cY.fzG (id:=905) (E':=[(0,sv t),(4,.ref 4 0 0 0)]) (H':=[(4,bx 1 22 [.pv (cD L)])]) (L.map aJ) rfl (by rw [hL];exact pU aJ _) ?_ rfl ?_ ?_) ?_
 ·intro p hp;simp only [aJD,aJH,or_false] at hp;rcases hp with rfl|rfl<;>exact⟨_,rfl,.same (by simp;try rfl)⟩
 ·exact⟨⟨_,rfl,rfl,rfl,rfl,tE rfl (dC (.osl (by rw [← hLl];exact gQ aJ L)) oK)⟩,trivial⟩
 ·exact trivial
 refine Rg<|Dd (cA nE)<|Dd (by exact aA rfl rfl aCZ rfl (FT L _ (by omega) hok))<|Dd aD<|Dd eZ<|Dd eZ<|Dd aO<|Dd aO<|Zz<|Sq ?_;refine bD (t:=31) (n:=8) (X:=!decide ((eJ L).2=0)||!decide ((eJ L).1=t)) ?_ ?_
 ·all_goals refine Dd aD ?_
  all_goals refine Dd tU<|Dm ?_
  all_goals refine Sp 27 (fun h27=>?_) fun h27=>?_
  all_goals try contradiction
  all_goals first|refine Fo<|Fo<|Fo ?_|refine On aD<|On aD<|On JQ ?_
  all_goals refine Dd dI<|Zz ?_
  all_goals(exact⟨⟨_,rfl,by(simp_all;done)⟩,rfl,rfl,rfl⟩)
 refine Cn ?_ ?_<;>intro hc2
 ·have hne:eJ L≠(t,0):=fun e=>by have h:=hc2;rw [e] at h;simp at h
  rw [aIp hne];exact Sr<|Dd aO<|Dd aO<|Zz<|aC<|Ru<|Qq
 have hee:eJ L=(t,0):=by have h:=hc2;simp only [aJN,Bool.not_eq_false',aIy] at h;exact Prod.ext h.2 h.1
 rw [aIq hee];exact aB<|Sr<|Dd (cA nE)<|Dd aO<|Dd aO<|Zz<|aC<|Ru<|Qq
def hY (k:GObj×GObj):List PV:=aG k.1++aG k.2
def tEq (t x:GTag):Bool:=decide (t.key=x.key)&&decide (t.val=x.val)
theorem aBI (l:List GTag) (t:GTag) (H:aE) (hl:l.length < 4611686018427387904):aH Tryz.prog 156 [.pv (iL l),av (aQ t)] H (fun r H'=>r=iv (jY (tEq t) l)∧H'=H):=by
 refine Pu ?_;have hml:(l.map aQ).length=l.length:=aIr _;refine Bd func156 rfl ntmps156<|Sr<|Dd (by exact cE (id:=3) rfl rfl rfl rfl rfl)<|Dd aO<|Zz<|Sq<|Sr<|Dd aD<|Dd (fK cK)<|Dd aD<|Zz<|aF ?_;refine bG (σ:=Nat) (fun k=>([(0,.pv (iL l)),(3,.ref 3 0 0 0),(7,iv ((l.map aQ).length:Int)),(8,iv (k:Int))],[(3,bx 2 117 ((aQ t).map .pv))])) (fun k=>k≤l.length∧∀ j,j < k→∀ b,l[j]?=some b→tEq t b=false) (fun k=>l.length - k) 0 ⟨by omega,by omega⟩ ?_ ?_
 ·exact E0
 rintro k ⟨hk,hno⟩;refine Sr<|Dd dD<|Zz<|Sq ?_;refine Cn ?_ ?_<;>intro hc1
 ·have hlt:k < l.length:=by have:=aIn hc1;omega
  obtain ⟨o,ho⟩:=aX hlt;have hi:=bZ (f:=aQ) ho;refine aB<|Sq<|aF<|Sr<|Dd aD<|Dd aO<|Zz<|Sq<|aU follows<|Cq (by exact aI rfl fX dR rfl rfl rfl rfl (by simp only [Zl,aQ,aG,encStr,aJ,encInt,hY];rfl) rfl)<|Cq aD<|Cq aD<|Cq (e8 lJ)<|Cq (by exact bQ rfl fX dR rfl (by omega) (by simp only [Zl,aQ,aG,encStr,aJ,encInt,hY];rfl) rfl)<|Cq (by exact oC rfl rfl rfl rfl rfl RE (Z4 _ _ _ _))<|bM<|Kr ?_;refine Cn ?_ ?_<;>intro hc2
  ·refine Sr<|Dd aD<|Dd aO<|Zz<|aC<|Rt ?_;exact⟨by rw [jY,pE hno ho hc2],rfl⟩
  refine aB<|Rg<|Dd eL<|Dd aD<|Zz ?_;exact⟨k+1,⟨by omega,j7 hno ho hc2⟩,by omega,E0⟩
 have hge:k=l.length:=by have:=aIo hc1;omega
 subst hge;refine aZ<|Sr<|Dd aO<|Zz<|aC<|Rt ?_;exact⟨by rw [jY,pF hno],rfl⟩
theorem QU (l:List GTag) (t:GTag) (H:aE) (hl:l.length < 4611686018427387904):aH Tryz.prog 111 [.pv (iL l),av (aQ t)] H (fun r H'=>r=bv (inT l t)∧H'=H):=by refine Pu ?_;refine Bd func111 rfl ntmps111<|Sr<|Dd (by exact cE (id:=3) rfl rfl rfl rfl rfl)<|Dd aO<|Zz<|Sr<|Dd aD<|Dd (by exact aI rfl fX dR rfl rfl rfl rfl (by simp only [Zl,aQ,aG,encStr,aJ,encInt,hY];rfl) rfl)<|Dd (by exact aA rfl rfl call156 rfl (aBI l t _ hl))<|Dd wP<|Dd aO<|Zz<|aC<|Rt ?_;exact⟨by rw [uZ];rfl,rfl⟩
theorem aFi (k:GObj×GObj) (H:aE):aH Tryz.prog 106 [av (hY k)] H (fun r H'=>r=.pv (cD (z8 k))∧H'=H):=by
 refine Pu ?_;refine Bd func106 rfl ntmps106<|Sr<|Dd (by exact cE (id:=1) rfl rfl rfl rfl rfl)<|Dd aO<|Zz<|Sq<|Sr<|Dd (bH xV)<|Dd (bH kE)<|Dd (by exact aI rfl dZ sizeOf45 rfl rfl rfl rfl (by simp only [Zl,aQ,aG,encStr,aJ,encInt,hY];rfl) rfl)<|Dd (bH D6)<|Dd (bH kE)<|Dd (by exact aI rfl dZ sizeOf45 rfl rfl rfl rfl (by simp only [Zl,aQ,aG,encStr,aJ,encInt,hY];rfl) rfl)<|Dd (by exact oC rfl rfl rfl rfl rfl gV (MO _ _ _ _))<|Zz ?_;refine Cn ?_ ?_<;>intro hc1
 ·have h:k.1.x=k.2.x∧k.1.y=k.2.y:=by have:=hc1;simpa using this
  rw [z8,aIq h];exact Sr<|Dd aO<|Zz<|aC<|Rt<|Qq
 have h:¬ (k.1.x=k.2.x∧k.1.y=k.2.y):=by have:=hc1;simpa using this
 rw [z8,aIp h];exact aB<|Sr<|Dd (bH xV)<|Dd (bH eK)<|Dd (cA isAgg9)<|Dd (bH D6)<|Dd (bH kE)<|Dd (by exact aI rfl dZ sizeOf45 rfl rfl rfl rfl (by simp only [Zl,aQ,aG,encStr,aJ,encInt,hY];rfl) rfl)<|Dd (jG pI)<|Dd (by exact aT [aJ (UN k.1.id k.2.x k.2.y)] rfl lK rfl rfl rfl rfl rfl (by intro r hr;rw [aIu] at hr;subst hr;rfl))<|Dd aO<|Zz<|aC<|Rt<|Qq
theorem aFh (k:GObj×GObj) (H:aE) (h1:k.1.refs.length < 1099511627776) (h2:k.2.refs.length < 1099511627776):aH Tryz.prog 107 [av (hY k)] H (fun r H'=>r=.pv (cD (z7 k))∧H'=H):=by
 refine Pu ?_;refine Bd func107 rfl ntmps107<|Sr<|Dd (by exact cE (id:=1) rfl rfl rfl rfl rfl)<|Dd aO<|Zz<|Sq<|Sr<|Dd (bH xV)<|Dd (bH dP)<|Dd (cA aV)<|Dd (bH D6)<|Dd (bH dP)<|Dd (cA aV)<|Dd (by exact aA rfl rfl YK rfl (CJ k.1.refs k.2.refs _ (by omega)))<|Zz ?_;refine Cn ?_ ?_<;>intro hc1
 ·have h:k.1.refs=k.2.refs:=aIn hc1;rw [z7,aIq h];exact Sr<|Dd aO<|Zz<|aC<|Rt<|Qq
 have h:¬ k.1.refs=k.2.refs:=aIo hc1;rw [z7,aIp h];exact aB<|Sq<|aU follows<|Cq (bH xV)<|Cq (bH eK)<|Cq (cA isAgg9)<|Cq (bH D6)<|Cq (bH dP)<|Cq (cA aV)<|Cq (by exact aA rfl rfl call108 rfl (ED k.2.refs _ h2))<|Cq (jG pI)<|Cq (by exact aT [aJ (aEX k.1.id k.2.refs)] rfl lK rfl rfl rfl rfl rfl (by intro r hr;rw [aIu] at hr;subst hr;rfl))<|Cq aO<|bM<|Kr<|aC<|Rt<|Qq
def qO (k:GObj×GObj) (i:Nat):List GEdit:=((k.1.tags.take i).filter fun t=>decide (IG k.2.tags t.key=none)).map fun t=>GW k.1.id t.key aP
def qN (k:GObj×GObj) (i:Nat):List GEdit:=((k.2.tags.take i).filter fun t=>!inT k.1.tags t).map fun t=>GW k.1.id t.key t.val
theorem VV {k:GObj×GObj} {i:Nat} {t:GTag} (h:k.1.tags[i]?=some t) (hp:IG k.2.tags t.key=none):qO k (i+1)=qO k i++[GW k.1.id t.key aP]:=by rw [qO,List.take_add_one,h,Option.toList_some,List.filter_append,List.filter_cons_of_pos (by simpa using hp),List.map_append];rfl
theorem ZL {k:GObj×GObj} {i:Nat} {t:GTag} (h:k.1.tags[i]?=some t) (hp:¬ IG k.2.tags t.key=none):qO k (i+1)=qO k i:=by rw [qO,List.take_add_one,h,Option.toList_some,List.filter_append,List.filter_cons_of_neg (by simpa using hp),List.map_append];simp [qO]
theorem VU {k:GObj×GObj} {i:Nat} {t:GTag} (h:k.2.tags[i]?=some t) (hp:inT k.1.tags t=false):qN k (i+1)=qN k i++[GW k.1.id t.key t.val]:=by rw [qN,List.take_add_one,h,Option.toList_some,List.filter_append,List.filter_cons_of_pos (by rw [hp];rfl),List.map_append];rfl
theorem ZK {k:GObj×GObj} {i:Nat} {t:GTag} (h:k.2.tags[i]?=some t) (hp:inT k.1.tags t=true):qN k (i+1)=qN k i:=by rw [qN,List.take_add_one,h,Option.toList_some,List.filter_append,List.filter_cons_of_neg (by rw [hp];decide),List.map_append];simp [qN]
theorem KJ (k:GObj×GObj) (i:Nat):(qO k i).length≤i:=by rw [qO,aIr];exact Nat.le_trans (List.length_filter_le _ _) (by rw [aJF];omega)
theorem KI (k:GObj×GObj) (i:Nat):(qN k i).length≤i:=by rw [qN,aIr];exact Nat.le_trans (List.length_filter_le _ _) (by rw [aJF];omega)
theorem ZJ (k:GObj×GObj):qO k k.1.tags.length++qN k k.2.tags.length=xD k:=by rw [qO,qN,List.take_length,List.take_length,xD,aGZ,List.map_append,List.map_map,List.map_map];rfl
def CL (L:List GEdit):Ob:=⟨L.length,15,51,jV L⟩
theorem yG (L:List GEdit) (e:GEdit):(L++[e]).length=L.length+1:=by simp
theorem x4 (L:List GEdit) (e:GEdit):CL (L++[e])=⟨L.length+1,15,51,jV (L++[e])⟩:=by rw [CL,aIs];rfl
theorem aFg (k:GObj×GObj) (H:aE) (h1:k.1.tags.length < 68719476736) (h2:k.2.tags.length < 68719476736):aH Tryz.prog 109 [av (hY k)] H (fun r H'=>r=.pv (cD (xD k))∧H'=H):=by
 refine Pu ?_;have hm1:(k.1.tags.map aQ).length=k.1.tags.length:=aIr _;have hm2:(k.2.tags.map aQ).length=k.2.tags.length:=aIr _;obtain ⟨kc,hkc⟩:∃ kc,kc=(1,bx 12 96 ((hY k).map .pv)):=⟨_,rfl⟩;refine Bd func109 rfl ntmps109<|Sr<|Dd (by exact cE (id:=1) rfl rfl rfl rfl rfl)<|Dd aO<|Zz<|Sr<|Dd (by exact fI (id:=905) (sz:=15) (ty:=51) rfl rfl rfl)<|Zz<|Sq<|Sr<|Dd (bH xV)<|Dd (bH e9)<|Dd (cA cU)<|Dd (fK cK)<|Dd aD<|Zz<|aF ?_;refine bG (σ:=Nat) (fun i=>([(1,.ref 1 0 0 0),(3,.osl 905 (qO k i).length 0 (qO k i).length),(12,.pv (iL k.1.tags)),(13,iv ((k.1.tags.map aQ).length:Int)),(14,iv (i:Int))],[(905,CL (qO k i)),(1,bx 12 96 ((hY k).map .pv))])) (fun i=>i≤k.1.tags.length) (fun i=>k.1.tags.length - i) 0 (aJI _) ?_ ?_
 ·exact(cY.wk (Ea<|Ea<|Eb<|Eb<|Eb<|trivial) (Hc (bL _ _)<|Hb<|trivial) trivial)
 rintro i hi;have hdl:=KJ k i;refine Sr<|Dd dD<|Zz<|Sq ?_;refine Cn ?_ ?_<;>intro hc1
 ·have hlt:i < k.1.tags.length:=by have:=aIn hc1;omega
  obtain ⟨t,ht⟩:=aX hlt;have hit:=bZ (f:=aQ) ht;refine aB<|Sq<|aF<|Sr<|Dd (e8 lJ)<|Dd (by exact bQ rfl fX dR rfl (by omega) (by simp only [Zl,aQ,aG,encStr,aJ,encInt,hY];rfl) rfl)<|Dd (by exact bJ (id:=5) rfl OH rfl rfl)<|Uu (fP dR)<|Zz<|Sr<|Dd (bH D6)<|Dd (bH e9)<|Dd (cA cU)<|Dd (bH jD)<|Dd (cA isAgg9)<|Dd (by exact aA rfl rfl call110 rfl (ZN k.2.tags t.key _ (by omega)))<|Dd aD<|Dd eZ<|Dd eZ<|Dd aO<|Dd aO<|Zz<|Sr<|Dd aD<|Dd jU<|Zz ?_;refine Cn ?_ ?_<;>intro hc2
  ·have hn:IG k.2.tags t.key=none:=by have:=hc2;simpa using this
   refine Rg<|Dd aD<|Dd (bH xV)<|Dd (bH eK)<|Dd (cA isAgg9)<|Dd (bH jD)<|Dd (cA isAgg9)<|Dd (jG pI)<|Dd (by exact aT [aJ (GW k.1.id t.key aP)] rfl lK rfl rfl rfl rfl rfl (by intro r hr;rw [aIu] at hr;subst hr;rfl))<|Dd (by exact c6 (ps:=[aJ (GW k.1.id t.key aP)]) rfl lK J6 rfl rfl rfl rfl rfl (iX _) rfl (by intro r hr;rw [aIu] at hr;subst hr;rfl) (m:=1) rfl (by omega) rfl (pG (qO k i) (GW k.1.id t.key aP)))<|Dd aO<|Zz<|Rg<|Dd eL<|Dd aD<|Zz ?_;refine⟨i+1,by omega,by omega,?_⟩;rw [VV ht hn,aIs,x4];exact(cY.wk (Ea<|Ea<|Eb<|Eb<|Eb<|trivial) (Hc (bL _ _)<|Hb<|trivial) trivial)
  have hn:¬ IG k.2.tags t.key=none:=by have:=hc2;cases hg:IG k.2.tags t.key<;>simp_all
  refine aB<|Rg<|Dd eL<|Dd aD<|Zz ?_;refine⟨i+1,by omega,by omega,?_⟩;rw [ZL ht hn];exact(cY.wk (Ea<|Ea<|Eb<|Eb<|Eb<|trivial) (Hc (bL _ _)<|Hb<|trivial) trivial)
 have hge:i=k.1.tags.length:=by have:=aIo hc1;omega
 subst hge;obtain ⟨A,hA⟩:∃ A,A=qO k k.1.tags.length:=⟨_,rfl⟩;have hall:=ZJ k;rw [← hA] at hdl hall ⊢;refine aZ<|Sq<|Sr<|Dd (bH D6)<|Dd (bH e9)<|Dd (cA cU)<|Dd (fK cK)<|Dd aD<|Zz<|aF ?_;refine bG (σ:=Nat) (fun i=>([(1,.ref 1 0 0 0),(3,.osl 905 (A++qN k i).length 0 (A++qN k i).length),(41,.pv (iL k.2.tags)),(42,iv ((k.2.tags.map aQ).length:Int)),(43,iv (i:Int))],[(905,CL (A++qN k i)),(1,bx 12 96 ((hY k).map .pv))])) (fun i=>i≤k.2.tags.length) (fun i=>k.2.tags.length - i) 0 (aJI _) ?_ ?_
 ·show cY _ _ _ [(1,_),(3,.osl 905 (A++[]).length 0 (A++[]).length),(41,_),(42,_),(43,_)] [(905,CL (A++[])),(1,_)];rw [List.append_nil];exact(cY.wk (Ea<|Ea<|Eb<|Eb<|Eb<|trivial) (Hc (bL _ _)<|Hb<|trivial) trivial)
 rintro i hi;have hnl:=KI k i;have hal:(A++qN k i).length≤137438953472:=by rw [aIs];omega
 refine Sr<|Dd dD<|Zz<|Sq ?_;refine Cn ?_ ?_<;>intro hc3
 ·have hlt:i < k.2.tags.length:=by have:=aIn hc3;omega
  obtain ⟨t,ht⟩:=aX hlt;have hit:=bZ (f:=aQ) ht;refine aB<|Sq<|aF<|Sr<|Dd (e8 lJ)<|Dd (by exact bQ rfl fX dR rfl (by omega) (by simp only [Zl,aQ,aG,encStr,aJ,encInt,hY];rfl) rfl)<|Dd (by exact bJ (id:=9) rfl OH rfl rfl)<|Uu (fP dR)<|Zz<|Sr<|Dd (bH xV)<|Dd (bH e9)<|Dd (cA cU)<|Dd (by exact aI rfl fX dR rfl rfl rfl rfl (by simp only [Zl,aQ,aG,encStr,aJ,encInt,hY];rfl) rfl)<|Dd (by exact aA rfl rfl call111 rfl (QU k.1.tags t _ (by omega)))<|Dd jU<|Zz ?_;refine Cn ?_ ?_<;>intro hc4
  ·have hn:inT k.1.tags t=false:=by have:=hc4;simpa using this
   refine Rg<|Dd aD<|Dd (bH xV)<|Dd (bH eK)<|Dd (cA isAgg9)<|Dd (bH jD)<|Dd (cA isAgg9)<|Dd (bH kU)<|Dd (cA isAgg9)<|Dd (jG pI)<|Dd (by exact aT [aJ (GW k.1.id t.key t.val)] rfl lK rfl rfl rfl rfl rfl (by intro r hr;rw [aIu] at hr;subst hr;rfl))<|Dd (by exact c6 (ps:=[aJ (GW k.1.id t.key t.val)]) rfl lK J6 rfl rfl rfl rfl rfl (iX _) rfl (by intro r hr;rw [aIu] at hr;subst hr;rfl) (m:=1) rfl (by omega) rfl (pG (A++qN k i) (GW k.1.id t.key t.val)))<|Dd aO<|Zz<|Rg<|Dd eL<|Dd aD<|Zz ?_;refine⟨i+1,by omega,by omega,?_⟩;rw [VU ht hn,← List.append_assoc,yG,x4];exact(cY.wk (Ea<|Ea<|Eb<|Eb<|Eb<|trivial) (Hc (bL _ _)<|Hb<|trivial) trivial)
  have hn:inT k.1.tags t=true:=by have:=hc4;simpa using this
  refine aB<|Rg<|Dd eL<|Dd aD<|Zz ?_;refine⟨i+1,by omega,by omega,?_⟩;rw [ZK ht hn];exact(cY.wk (Ea<|Ea<|Eb<|Eb<|Eb<|trivial) (Hc (bL _ _)<|Hb<|trivial) trivial)
 have hge:i=k.2.tags.length:=by have:=aIo hc3;omega
 subst hge;rw [hall];refine aZ<|Sq ?_;refine iB.ent (cY.fz (id:=905) (E':=[(3,.pv (cD (xD k)))]) (H':=[]) ((xD k).map aJ) rfl (pU aJ _)
  (by intro q hq;rw [aIu] at hq;subst hq;exact⟨_,rfl,.osl (by rw [aJJ,List.drop_zero,List.take_of_length_le (by rw [aIr];exact aIx _)])⟩) rfl trivial trivial) ?_
 refine Rg<|Dd aD<|Dd aO<|Zz<|aC ?_;refine cZ (H':=[]) (.inr rfl) rfl (aN rfl) Fin.refl ?_;exact Qq
def IZ:dG:=[(2,.ref 2 0 0 0),(3,.ref 3 0 0 0),(6,.ref 6 0 0 0),(7,.ref 7 0 0 0),(8,.ref 8 0 0 0),(9,.ref 9 0 0 0)]
theorem dQ.val {P:Program} {N:Nat} {o:Oper} {E:dG} {H H':aE} {b b':Bool} (h:dQ P N o E H (.pv (.bool b)) H') (e:b=b'):dQ P N o E H (.pv (.bool b')) H':=e▸h
def EW (l:List (GObj×GObj)):List (List AV):=l.map fun k=>(hY k).map AV.pv
theorem yV (H:aE) (l:List (GObj×GObj)):∀ r∈EW l,∀ a∈r,Clo H a:=by intro r hr a ha;obtain ⟨d,_,rfl⟩:=List.mem_map.1 hr;obtain ⟨p,_,rfl⟩:=List.mem_map.1 ha;simp
theorem W3 (l:List (GObj×GObj)):(EW l).length=l.length:=aIr _
theorem W4 (l:List (GObj×GObj)) (k:GObj×GObj):EW l++[(hY k).map AV.pv]=EW (l++[k]):=by rw [EW,EW,List.map_append];rfl
theorem y5 (m:List GObj) (H:aE) (hm:uQ m):aH Tryz.prog 51 [.agg [.pv (cO m)]] H (fun r H'=>r=bv (eY m)∧H'=H):=by refine Pu ?_;refine Bd func51 rfl ntmps51<|Sr<|Dd (by exact cE (id:=1) rfl rfl rfl rfl rfl)<|Dd aO<|Zz<|Sr<|Dd (by exact aI rfl bF sizeOf38 rfl rfl rfl rfl (by simp only [Zl,aQ,aG,encStr,aJ,encInt,hY];rfl) rfl)<|Dd (by exact aA rfl rfl call25 rfl (aBu m _ hm))<|Dd aD<|Dd eZ<|Dd eZ<|Dd eZ<|Dd (by exact bJ (id:=3) rfl GI rfl rfl)<|Uu (fP sizeOf38)<|Dd aO<|Dd aO<|Zz<|Sr<|Dd aD<|Dd cI<|Dd aO<|Zz<|aC<|Rt ?_;refine⟨?_,rfl⟩;cases eY m<;>rfl
theorem QE (m:List GObj) (s:ByteArray):decide (jY (oJ s) m < 0)=(m9 m s).isNone:=by
 rcases sB (oJ s) m with⟨e1,e2⟩|⟨q,p,e1,e2,e3⟩
 ·rw [e1,show m9 m s=none from e2];rfl
 rw [e1,show m9 m s=some p from e3];exact decide_eq_false (by omega)
def J8 (a b:List GObj) (X:List ByteArray) (d:Bool) (m:List GObj) (F P L:List GEdit):aE:=[(951,CL F),(952,CL P),(953,CL L),(7,bx 1 22 [.osl 951 F.length 0 F.length]),(8,bx 1 22 [.osl 952 P.length 0 P.length]),(9,bx 1 22 [.osl 953 L.length 0 L.length]),(10,FX X),(6,bx 1 89 [.mp 10 0]),(932,dB d),(931,mB m),(3,mB b),(2,mB a)]
theorem aHA (a b:List GObj) (X:List ByteArray) (d:Bool) (m:List GObj) (F P L:List GEdit) (e:GEdit):J8 a b X d m (F++[e]) P L=[(951,⟨F.length+1,15,51,jV (F++[e])⟩),(952,CL P),(953,CL L),(7,bx 1 22 [.osl 951 (F.length+1) 0 (F.length+1)]),(8,bx 1 22 [.osl 952 P.length 0 P.length]),(9,bx 1 22 [.osl 953 L.length 0 L.length]),(10,FX X),(6,bx 1 89 [.mp 10 0]),(932,dB d),(931,mB m),(3,mB b),(2,mB a)]:=by rw [J8,x4,yG]
theorem aGy (a b:List GObj) (X:List ByteArray) (d:Bool) (m:List GObj) (F P L:List GEdit) (e:GEdit):J8 a b X d m F (P++[e]) L=[(951,CL F),(952,⟨P.length+1,15,51,jV (P++[e])⟩),(953,CL L),(7,bx 1 22 [.osl 951 F.length 0 F.length]),(8,bx 1 22 [.osl 952 (P.length+1) 0 (P.length+1)]),(9,bx 1 22 [.osl 953 L.length 0 L.length]),(10,FX X),(6,bx 1 89 [.mp 10 0]),(932,dB d),(931,mB m),(3,mB b),(2,mB a)]:=by rw [J8,x4,yG]
theorem aGz (a b:List GObj) (X:List ByteArray) (d:Bool) (m:List GObj) (F P L:List GEdit) (e:GEdit):J8 a b X d m F P (L++[e])=[(951,CL F),(952,CL P),(953,⟨L.length+1,15,51,jV (L++[e])⟩),(7,bx 1 22 [.osl 951 F.length 0 F.length]),(8,bx 1 22 [.osl 952 P.length 0 P.length]),(9,bx 1 22 [.osl 953 (L.length+1) 0 (L.length+1)]),(10,FX X),(6,bx 1 89 [.mp 10 0]),(932,dB d),(931,mB m),(3,mB b),(2,mB a)]:=by rw [J8,x4,yG]
def btF (X:List ByteArray) (L:List GObj):List GEdit:=(L.filter fun o=>mH X o.id).map fun o=>mF o.id
def btN (X:List ByteArray) (b L:List GObj):List GEdit:=(L.filter fun o=>!mH X o.id&&(m9 b o.id).isNone).map fun o=>mF o.id
def btP (X:List ByteArray) (a L:List GObj):List GEdit:=(L.filter fun o=>mH X o.id||(m9 a o.id).isNone).map putE
theorem NS {α:Type} {L:List GObj} {p:GObj→Bool} {f:GObj→α} {k:Nat} {o:GObj} (h:L[k]?=some o):((L.take (k+1)).filter p).map f=((L.take k).filter p).map f++(if p o then[f o] else[]):=by
 rw [List.take_add_one,h,Option.toList_some,List.filter_append,List.map_append];congr 1;cases hp:p o with
 | true=>rw [List.filter_cons_of_pos hp];rfl
 | false=>rw [List.filter_cons_of_neg (by rw [hp];decide)];rfl
theorem D7 {α:Type} (L:List GObj) (p:GObj→Bool) (f:GObj→α):((L.filter p).map f).length≤L.length:=by rw [aIr];exact List.length_filter_le _ _
theorem P4 (m:List GObj) (d:Bool):(p0 m d).length≤3*m.length:=by
 have h:∀ p:GObj→Bool,(m.filter p).length≤m.length:=fun p=>List.length_filter_le _ _;cases d
 ·have:=h (fun o=>decide (o.kind.tdiv 2=0));have:=h (fun o=>decide (o.kind.tdiv 2=1));have:=h (fun o=>decide (o.kind.tdiv 2=2));simp only [p0,zs,Bool.false_eq_true,if_false,List.flatMap_cons,List.flatMap_nil,aIs,List.length_nil];omega
 have:=h (fun o=>decide (o.kind.tdiv 2=0));have:=h (fun o=>decide (o.kind.tdiv 2=1));have:=h (fun o=>decide (o.kind.tdiv 2=2));simp only [p0,zs,if_true,List.flatMap_cons,List.flatMap_nil,aIs,List.length_nil];omega
def fS (s:Nat):Nat:=if s=0 then 106 else if s=1 then 107 else 109
def RU (s:Nat) (k:GObj×GObj):List GEdit:=if s=0 then z8 k else if s=1 then z7 k else xD k
def okK (k:GObj×GObj):Prop:=(k.1.refs.length≤2000∧k.2.refs.length≤2000)∧k.1.tags.length≤60∧k.2.tags.length≤60
theorem aFC (s:Nat) (hs:s < 3) (k:GObj×GObj) (hk:okK k) (H:aE):dN Tryz.prog (.pv (.fn (fS s))) [av (hY k)] H (fun r H'=>r=.pv (cD (RU s k))∧H'=H):=by
 obtain ⟨⟨h1,h2⟩,h3,h4⟩:=hk;have h:s=0∨s=1∨s=2:=by omega
 rcases h with rfl|rfl|rfl
 ·exact dN.fn call106 (aFi k H)
 ·exact dN.fn call107 (aFh k H (by omega) (by omega))
 exact dN.fn call109 (aFg k H (by omega) (by omega))
theorem MK (s:Nat) {k:GObj×GObj} (hk:okK k):(RU s k).length≤120:=by
 rw [RU]
 split
 ·rw [z8];split<;>simp
 split
 ·rw [z7];split<;>simp
 have h1:=KJ k k.1.tags.length;have h2:=KI k k.2.tags.length;rw [← ZJ,aIs];have:=hk.2;omega
theorem QJ {B:List (GObj×GObj)} {f:GObj×GObj→List GEdit} {c:Nat} (h:∀ k∈B,(f k).length≤c):(B.flatMap f).length≤c*B.length:=by
 induction B with
 | nil=>simp
 | cons k B ih =>
  have h1:=h k (List.mem_cons_self ..);have h2:=ih fun x hx=>h x (List.mem_cons_of_mem _ hx);rw [List.flatMap_cons,aIs,aIt,Nat.mul_add,Nat.mul_one];omega
theorem aGm (H:aE):aH Tryz.prog 55 [] H (fun r H'=>r=.agg [.pv (.fn 106),.pv (.fn 107),.pv (.fn 109)]∧H'=H):=by refine Pu ?_;refine Bd func55 rfl ntmps55<|Sr<|Dd (by exact bJ (id:=0) rfl aGS rfl rfl)<|Zz<|Sr<|Dd (jG aHs)<|Uu (fP aHJ)<|Zz<|aC ?_;refine cZ (H':=[]) (.inr rfl) rfl (k8 rfl isAgg99 aHJ rfl rfl rfl (by simp only [Zl,aQ,aG,encStr,aJ,encInt,hY];rfl) rfl) (Fin.wk (r:=.agg [.pv (.fn 106),.pv (.fn 107),.pv (.fn 109)]) (.agg (fun a h=>by simp only [aJD,aJH,or_false] at h;rcases h with rfl|rfl|rfl<;>exact .pv _)) trivial trivial) ?_;exact Qq
def qQ (X:List ByteArray) (a:List GObj) (o:GObj):Option (GObj×GObj):=match m9 a o.id with
 | some p=>if mH X o.id then none else some (p,o)
 | none=>none
theorem XW {X:List ByteArray} {a L:List GObj} {k:Nat} {o:GObj} (h:L[k]?=some o):(L.take (k+1)).filterMap (qQ X a)=(L.take k).filterMap (qQ X a)++(qQ X a o).toList:=by
 rw [List.take_add_one,h,Option.toList_some,List.filterMap_append];cases hp:qQ X a o with
 | none=>simp [List.filterMap_cons,hp]
 | some x=>simp [List.filterMap_cons,hp]
theorem Q1 {X:List ByteArray} {a L:List GObj}:(L.filterMap (qQ X a)).length≤L.length:=List.length_filterMap_le _ _
def b4H (a b:List GObj) (X:List ByteArray) (F P L:List GEdit) (B:List (GObj×GObj)):aE:=[(954,⟨B.length,12,96,EW B⟩),(951,CL F),(952,CL P),(953,CL L),(7,bx 1 22 [.osl 951 F.length 0 F.length]),(8,bx 1 22 [.osl 952 P.length 0 P.length]),(9,bx 1 22 [.osl 953 L.length 0 L.length]),(10,FX X),(6,bx 1 89 [.mp 10 0]),(3,mB b),(2,mB a)]
theorem KT (L:List (GObj×GObj)) (e:GObj×GObj):(L++[e]).length=L.length+1:=by simp
theorem aBo (a b:List GObj) (X:List ByteArray) (F P L:List GEdit) (B:List (GObj×GObj)) (k:GObj×GObj):b4H a b X F P L (B++[k])=[(954,⟨B.length+1,12,96,EW (B++[k])⟩),(951,CL F),(952,CL P),(953,CL L),(7,bx 1 22 [.osl 951 F.length 0 F.length]),(8,bx 1 22 [.osl 952 P.length 0 P.length]),(9,bx 1 22 [.osl 953 L.length 0 L.length]),(10,FX X),(6,bx 1 89 [.mp 10 0]),(3,mB b),(2,mB a)]:=by rw [b4H,KT]
theorem rlE (l:List GEdit):∀ r∈l.map aJ,r.length=15:=fun r hr=>by
 obtain ⟨t,_,rfl⟩:=List.mem_map.1 hr;rfl
theorem QS (l:List GEdit):∀ r∈jV l,r.length=15:=fun r hr=>by
 obtain ⟨t,_,rfl⟩:=List.mem_map.1 hr;rfl
theorem LW (F G:List GEdit):jV F++((jV G).drop 0).take G.length=jV (F++G):=by rw [List.drop_zero,List.take_of_length_le (by rw [iX];exact aIx _),jV,jV,jV,List.map_append]
theorem S5 (F G:List GEdit):jV F++(G.map aJ).map (·.map AV.pv)=jV (F++G):=by rw [← pU,jV,jV,List.map_append]
def oHB (g:Nat) (L Q:List GEdit):aE:=[(951,⟨g,15,51,jV L⟩),(953,CL Q),(9,bx 1 22 [.osl 953 Q.length 0 Q.length])]
def aS (B:List (GObj×GObj)) (L:List GEdit):Nat→List GEdit
 | 0=>L
 | s+1=>aS B L s++B.flatMap (RU s)
theorem aBz {B:List (GObj×GObj)} (h:∀ k∈B,okK k) (L:List GEdit):∀ s,(aS B L s).length≤L.length+s*(120*B.length)
 | 0=>by simp [aS]
 | s+1=>by
  have h1:=aBz h L s;have h2:=QJ (B:=B) (f:=RU s) (c:=120) (fun k hk=>MK s (h k hk));rw [aS,aIs,Nat.add_mul,Nat.one_mul];omega
theorem I4 (a b:List GObj) (ha:uQ a) (hb:uQ b) (hc:(!eY a||!eY b)=true) (H:aE) :
  aH Tryz.prog 22 [.agg [.pv (cO a)],.agg [.pv (cO b)]] H (fun r H'=>r=.tup [.pv (cD (mT a b).1),iv (mT a b).2]∧H'=H):=by
 refine Pu ?_;rw [mT,aIq hc];refine Bd func22 rfl ntmps22<|Sr<|Dd (by exact cE (id:=2) rfl rfl rfl rfl rfl)<|Dd (by exact cE (id:=3) rfl rfl rfl rfl rfl)<|Dd aO<|Dd aO<|Zz<|Sq<|Sq ?_;refine bD (t:=30) (n:=9) (X:=!eY a||!eY b) ?_ ?_
 ·all_goals refine Dd (by exact aI rfl bF sizeOf38 rfl rfl rfl rfl (by simp only [Zl,aQ,aG,encStr,aJ,encInt,hY];rfl) rfl) ?_
  all_goals refine Dd (by exact aA rfl rfl aCW rfl (y5 a _ ha))<|Dd jU<|Dm ?_
  all_goals refine Sp 26 (fun h26=>?_) fun h26=>?_
  all_goals try contradiction
  all_goals first|refine Fo<|Fo<|Fo ?_|refine On (by exact aI rfl bF sizeOf38 rfl rfl rfl rfl (by simp only [Zl,aQ,aG,encStr,aJ,encInt,hY];rfl) rfl)<|On (by exact aA rfl rfl aCW rfl (y5 b _ hb))<|On jU ?_
  all_goals refine Dd dI<|Zz ?_
  all_goals(exact⟨⟨_,rfl,by(simp only [*,Zo];done)⟩,rfl,rfl,rfl⟩)
 refine Cn ?_ ?_<;>intro hc1
 ·exact Sr<|Dd aO<|Dd aO<|Zz<|aC<|Ru<|Qq
 rw [hc] at hc1;cases hc1
theorem S8 (a b:List GObj) (ha:uQ a) (hb:uQ b) (hca:eY a=true) (hcb:eY b=true) :
  aH Tryz.prog 22 [.agg [.pv (cO a)],.agg [.pv (cO b)]] [] (fun r H'=>r=.tup [.pv (cD (mT a b).1),iv (mT a b).2]∧H'=[]):=by
 have hga:=mS.1 (nN hca);have hgb:=mS.1 (nN hcb);have hkda:∀ o∈a,1≤o.kind∧o.kind≤5:=fun o ho=>yZ (hga.1 o ho);have hkdb:∀ o∈b,1≤o.kind∧o.kind≤5:=fun o ho=>yZ (hgb.1 o ho);have hal:=hga.2.2;have hbl:=hgb.2.2;obtain ⟨X,hX⟩:∃ X,X=pO a b:=⟨_,rfl⟩;have hren:=WC a b hca (by omega) (by omega);rw [← hX] at hren;have hrenF:∀ H,H.get 10=none→aH Tryz.prog 52 [.agg [.pv (cO a)],.agg [.pv (cO b)]] H (fun r H'=>r=.mp 10 0∧H'=[(10,FX X)]++H):=fun H h=>aH.frame hren (fun id o h=>by cases h) (fun id o h=>by cases h) (by simp) (fun id h'=>.inr (by
  by_cases e:id=10
  ·subst e;exact h
  rw [get_cons_other _ _ e] at h';cases h'))
 have hGB:mT a b=if 200 < (N0 a b).length then([],2)else(N0 a b,0):=by rw [mT,aIp (by rw [hca,hcb];decide)]
 rw [hGB];refine Bd func22 rfl ntmps22<|Sr<|Dd (by exact cE (id:=2) rfl rfl rfl rfl rfl)<|Dd (by exact cE (id:=3) rfl rfl rfl rfl rfl)<|Dd aO<|Dd aO<|Zz<|Sq<|Sq ?_;refine bD (t:=30) (n:=9) (X:=!eY a||!eY b) ?_ ?_
 ·all_goals refine Dd (by exact aI rfl bF sizeOf38 rfl rfl rfl rfl (by simp only [Zl,aQ,aG,encStr,aJ,encInt,hY];rfl) rfl) ?_
  all_goals refine Dd (by exact aA rfl rfl aCW rfl (y5 a _ ha))<|Dd jU<|Dm ?_
  all_goals refine Sp 26 (fun h26=>?_) fun h26=>?_
  all_goals try contradiction
  all_goals first|refine Fo<|Fo<|Fo ?_|refine On (by exact aI rfl bF sizeOf38 rfl rfl rfl rfl (by simp only [Zl,aQ,aG,encStr,aJ,encInt,hY];rfl) rfl)<|On (by exact aA rfl rfl aCW rfl (y5 b _ hb))<|On jU ?_
  all_goals refine Dd dI<|Zz ?_
  all_goals(exact⟨⟨_,rfl,by first|(simp only [*,Zo];done)|(simp_all;done)⟩,rfl,rfl,rfl⟩)
 refine Cn ?_ ?_<;>intro hc1
 ·rw [hca,hcb] at hc1;cases hc1
 refine aB<|Sr<|Dd (by exact aI rfl bF sizeOf38 rfl rfl rfl rfl (by simp only [Zl,aQ,aG,encStr,aJ,encInt,hY];rfl) rfl)<|Dd (by exact aI rfl bF sizeOf38 rfl rfl rfl rfl (by simp only [Zl,aQ,aG,encStr,aJ,encInt,hY];rfl) rfl)<|Dd (by exact aA rfl rfl call52 rfl (hrenF _ rfl))<|Dd (by exact bJ (id:=6) rfl aC1 rfl rfl)<|Uu (fP RJ)<|Zz<|Sr<|Dd (by exact bJ (id:=7) rfl TN rfl rfl)<|Dd (by exact bJ (id:=8) rfl TN rfl rfl)<|Dd (by exact bJ (id:=9) rfl TN rfl rfl)<|Zz<|Sq<|Sq ?_;refine iB.ent (E':=IZ) (H':=[(951,⟨0,15,51,[]⟩),(7,bx 1 22 [.osl 951 0 0 0]),(8,bx 1 22 [.pv .nils]),(9,bx 1 22 [.pv .nils]),(10,FX X),(6,bx 1 89 [.mp 10 0]),(3,mB b),(2,mB a)]) (cY.nz 951 15 51 rfl rfl ⟨⟨_,rfl,(by exact Nz.same (by(simp;rfl)))⟩,⟨_,rfl,(by exact Nz.same (by(simp;rfl)))⟩,⟨_,rfl,(by exact Nz.same (by(simp;rfl)))⟩,⟨_,rfl,(by exact Nz.same (by(simp;rfl)))⟩,⟨_,rfl,(by exact Nz.same (by(simp;rfl)))⟩,⟨_,rfl,(by exact Nz.same (by(simp;rfl)))⟩,trivial⟩ ⟨⟨_,rfl,rfl,rfl,rfl,(by exact .inr ⟨_,_,rfl,rfl,(by repeat(first|exact trivial|refine⟨(by exact Nz.own),?_⟩))⟩)⟩,⟨_,rfl,rfl,rfl,rfl,(by exact .inl ⟨rfl,(by(simp;done))⟩)⟩,⟨_,rfl,rfl,rfl,rfl,(by exact .inl ⟨rfl,(by(simp;done))⟩)⟩,⟨_,rfl,rfl,rfl,rfl,(by exact .inl ⟨rfl,(by exact d7 _ _)⟩)⟩,⟨_,rfl,rfl,rfl,rfl,(by exact .inl ⟨rfl,(by(simp;rfl))⟩)⟩,⟨_,rfl,rfl,rfl,rfl,(by exact .inl ⟨rfl,(by exact c7 _ _)⟩)⟩,⟨_,rfl,rfl,rfl,rfl,(by exact .inl ⟨rfl,(by exact c7 _ _)⟩)⟩,trivial⟩ trivial) ?_;refine iB.ent (E':=IZ) (H':=[(952,⟨0,15,51,[]⟩),(951,⟨0,15,51,[]⟩),(7,bx 1 22 [.osl 951 0 0 0]),(8,bx 1 22 [.osl 952 0 0 0]),(9,bx 1 22 [.pv .nils]),(10,FX X),(6,bx 1 89 [.mp 10 0]),(3,mB b),(2,mB a)]) (cY.nz 952 15 51 rfl rfl ⟨⟨_,rfl,(by exact Nz.same (by(simp;rfl)))⟩,⟨_,rfl,(by exact Nz.same (by(simp;rfl)))⟩,⟨_,rfl,(by exact Nz.same (by(simp;rfl)))⟩,⟨_,rfl,(by exact Nz.same (by(simp;rfl)))⟩,⟨_,rfl,(by exact Nz.same (by(simp;rfl)))⟩,⟨_,rfl,(by exact Nz.same (by(simp;rfl)))⟩,trivial⟩ ⟨⟨_,rfl,rfl,rfl,rfl,(by exact .inl ⟨rfl,(by(simp;done))⟩)⟩,⟨_,rfl,rfl,rfl,rfl,(by exact .inl ⟨rfl,(by(simp;rfl))⟩)⟩,⟨_,rfl,rfl,rfl,rfl,(by exact .inr ⟨_,_,rfl,rfl,(by repeat(first|exact trivial|refine⟨(by exact Nz.own),?_⟩))⟩)⟩,⟨_,rfl,rfl,rfl,rfl,(by exact .inl ⟨rfl,(by(simp;done))⟩)⟩,⟨_,rfl,rfl,rfl,rfl,(by exact .inl ⟨rfl,(by exact d7 _ _)⟩)⟩,⟨_,rfl,rfl,rfl,rfl,(by exact .inl ⟨rfl,(by(simp;rfl))⟩)⟩,⟨_,rfl,rfl,rfl,rfl,(by exact .inl ⟨rfl,(by exact c7 _ _)⟩)⟩,⟨_,rfl,rfl,rfl,rfl,(by exact .inl ⟨rfl,(by exact c7 _ _)⟩)⟩,trivial⟩ trivial) ?_
 refine iB.ent (E':=IZ) (H':=[(953,⟨0,15,51,[]⟩),(952,⟨0,15,51,[]⟩),(951,⟨0,15,51,[]⟩),(7,bx 1 22 [.osl 951 0 0 0]),(8,bx 1 22 [.osl 952 0 0 0]),(9,bx 1 22 [.osl 953 0 0 0]),(10,FX X),(6,bx 1 89 [.mp 10 0]),(3,mB b),(2,mB a)]) (cY.nz 953 15 51 rfl rfl ⟨⟨_,rfl,(by exact Nz.same (by(simp;rfl)))⟩,⟨_,rfl,(by exact Nz.same (by(simp;rfl)))⟩,⟨_,rfl,(by exact Nz.same (by(simp;rfl)))⟩,⟨_,rfl,(by exact Nz.same (by(simp;rfl)))⟩,⟨_,rfl,(by exact Nz.same (by(simp;rfl)))⟩,⟨_,rfl,(by exact Nz.same (by(simp;rfl)))⟩,trivial⟩ ⟨⟨_,rfl,rfl,rfl,rfl,(by exact .inl ⟨rfl,(by(simp;done))⟩)⟩,⟨_,rfl,rfl,rfl,rfl,(by exact .inl ⟨rfl,(by(simp;done))⟩)⟩,⟨_,rfl,rfl,rfl,rfl,(by exact .inl ⟨rfl,(by(simp;rfl))⟩)⟩,⟨_,rfl,rfl,rfl,rfl,(by exact .inl ⟨rfl,(by(simp;rfl))⟩)⟩,⟨_,rfl,rfl,rfl,rfl,(by exact .inr ⟨_,_,rfl,rfl,(by repeat(first|exact trivial|refine⟨(by exact Nz.own),?_⟩))⟩)⟩,⟨_,rfl,rfl,rfl,rfl,(by exact .inl ⟨rfl,(by exact d7 _ _)⟩)⟩,⟨_,rfl,rfl,rfl,rfl,(by exact .inl ⟨rfl,(by(simp;rfl))⟩)⟩,⟨_,rfl,rfl,rfl,rfl,(by exact .inl ⟨rfl,(by exact c7 _ _)⟩)⟩,⟨_,rfl,rfl,rfl,rfl,(by exact .inl ⟨rfl,(by exact c7 _ _)⟩)⟩,trivial⟩ trivial) ?_;refine Rg<|Dd (by exact aI rfl bF sizeOf38 rfl rfl rfl rfl (by simp only [Zl,aQ,aG,encStr,aJ,encInt,hY];rfl) rfl)<|Dd (by exact aA rfl rfl aIc rfl (H5 a true _ rfl rfl))<|Zz<|aF ?_;refine iB.ent (E':=[(2,.ref 2 0 0 0),(3,.ref 3 0 0 0),(6,.ref 6 0 0 0),(7,.ref 7 0 0 0),(8,.ref 8 0 0 0),(9,.ref 9 0 0 0),(35,.clo 103 [.ref 932 0 0 0,.ref 931 0 0 0])]) (H':=J8 a b X true a [] [] []) (cY.wk (Ea<|Ea<|Ea<|Ea<|Ea<|Ea<|Ec (by(simp;exact⟨rfl,rfl⟩))<|trivial) (Hc (bL _ _)<|Hc (bL _ _)<|Hc (bL _ _)<|Ha<|Ha<|Ha<|Hc (d7 _ _)<|Ha<|Hc (lC _ _)<|Hc (c7 _ _)<|Hc (c7 _ _)<|Hc (c7 _ _)<|trivial) trivial) ?_;refine rN (id:=904) (p:=36) IZ rfl aIK rfl rfl (by simp [IZ];exact⟨rfl,rfl,rfl,rfl,rfl,rfl⟩) ?_;intro x hx1 hx2 hx3 hx4 hx5 hx6;obtain ⟨L,hL⟩:∃ L,L=p0 a true:=⟨_,rfl⟩;have hLl:L.length≤3000000:=by have:=P4 a true;rw [← hL] at this;omega
 have hround:∀ k o,L[k]?=some o→dN Tryz.prog (.yld 904 0) [av (aG o)] ((904,LR x IZ)::J8 a b X true a (btF X (L.take k)) [] (btN X b (L.take k))) (fun r H'=>r=bv true∧H'=(904,LR x IZ)::J8 a b X true a (btF X (L.take (k+1))) [] (btN X b (L.take (k+1)))):=by
  intro k o ho;have hs1:btF X (L.take (k+1))=btF X (L.take k)++(if mH X o.id then[mF o.id] else[]):=NS ho;have hs2:btN X b (L.take (k+1))=btN X b (L.take k)++(if !mH X o.id&&(m9 b o.id).isNone then[mF o.id] else[]):=NS (p:=fun o=>!mH X o.id&&(m9 b o.id).isNone) ho;obtain ⟨F,hF⟩:∃ F,F=btF X (L.take k):=⟨_,rfl⟩;obtain ⟨Q,hQ⟩:∃ Q,Q=btN X b (L.take k):=⟨_,rfl⟩;have hFl:F.length≤3000000:=by rw [hF];exact Nat.le_trans (D7 _ _ _) (by rw [aJF];omega)
  have hQl:Q.length≤3000000:=by rw [hQ];exact Nat.le_trans (D7 _ _ _) (by rw [aJF];omega)
  rw [hs1,hs2,← hF,← hQ];refine .inl ⟨904,0,rfl,?_⟩;refine C3 [(2,.ref 2 0 0 0),(3,.ref 3 0 0 0),(6,.ref 6 0 0 0),(7,.ref 7 0 0 0),(8,.ref 8 0 0 0),(9,.ref 9 0 0 0),(10,.ref 110 0 0 0)] ((110,bx 6 49 ((aG o).map .pv))::J8 a b X true a F [] Q) hx1 hx2 hx3 hx4 hx5 hx6 rfl rfl rfl ?_ ?_
  ·refine Rg<|Dd (by exact bJ (id:=110) rfl qU rfl rfl)<|Uu (fP sizeOf49)<|Zz ?_;exact(cY.wk (Ea<|Ea<|Ea<|Ea<|Ea<|Ea<|Ea<|trivial) (Hc (gG (by simp [IZ];exact⟨rfl,rfl,rfl,rfl,rfl,rfl⟩))<|Hb<|Hc (bL _ _)<|Hc (bL _ _)<|Hc (bL _ _)<|Ha<|Ha<|Ha<|Hc (d7 _ _)<|Ha<|Hc (lC _ _)<|Hc (c7 _ _)<|Hc (c7 _ _)<|Hc (c7 _ _)<|trivial) ⟨rfl,rfl,rfl,rfl,rfl,rfl,rfl,rfl,rfl,rfl,rfl,rfl,rfl,trivial⟩)
  refine aF<|Sr<|Dd (bH eK)<|Dd (cA isAgg9)<|Dd (jG pI)<|Dd (by exact bJ (id:=111) rfl BA rfl rfl)<|Uu (fP aL)<|Zz<|Sr<|Dd (cA kI)<|Dd (bH eK)<|Dd (cA isAgg9)<|Dd (by exact jL rfl eD underlying9 rfl rfl rfl rfl rfl gP (.inl rfl))<|Zz ?_;refine Cn ?_ ?_<;>intro hc2
  ·have hi:mH X o.id=true:=hc2;rw [aIq hi,aIp (by rw [hi];simp),List.append_nil];refine Rg<|Dd (cA nE)<|Dd (by exact aI rfl bA aL rfl rfl rfl rfl (by simp only [Zl,aQ,aG,encStr,aJ,encInt,hY];rfl) rfl)<|Dd (by exact aT [aJ (mF o.id)] rfl lK rfl rfl rfl rfl rfl (by intro r hr;rw [aIu] at hr;subst hr;rfl))<|Dd (by exact c6 (ps:=[aJ (mF o.id)]) rfl lK J6 rfl rfl rfl rfl rfl (iX _) rfl (by intro r hr;rw [aIu] at hr;subst hr;rfl) (m:=1) rfl (by omega) rfl (pG F (mF o.id)))<|Uu (fP RK)<|Zz ?_;refine⟨J8 a b X true a (F++[mF o.id]) [] Q,?_,rfl,rfl⟩;rw [aHA];exact(cY.wk trivial (Hc (gG (by simp [IZ];exact⟨rfl,rfl,rfl,rfl,rfl,rfl⟩))<|Hc (bL _ _)<|Hc (bL _ _)<|Hc (bL _ _)<|Ha<|Ha<|Ha<|Hc (d7 _ _)<|Ha<|Hc (lC _ _)<|Hc (c7 _ _)<|Hc (c7 _ _)<|Hc (c7 _ _)<|trivial) ⟨rfl,rfl,rfl,rfl,rfl,rfl,rfl,rfl,rfl,rfl,rfl,rfl,rfl,trivial⟩)
  have hi:mH X o.id=false:=hc2;rw [aIp (by rw [hi];decide),List.append_nil];refine Sr<|Dd (by exact aI rfl bF sizeOf38 rfl rfl rfl rfl (by simp only [Zl,aQ,aG,encStr,aJ,encInt,hY];rfl) rfl)<|Dd (bH eK)<|Dd (cA isAgg9)<|Dd (by exact aA rfl rfl wY rfl (AU b o.id _ (by omega)))<|Dd (by exact dQ.val (by exact yO rfl rfl rfl) (QE b o.id))<|Zz ?_;refine Cn ?_ ?_<;>intro hc3
  ·have hn:(m9 b o.id).isNone=true:=hc3;rw [aIq (by rw [hi,hn];rfl)];refine Rg<|Dd (cA nE)<|Dd (by exact aI rfl bA aL rfl rfl rfl rfl (by simp only [Zl,aQ,aG,encStr,aJ,encInt,hY];rfl) rfl)<|Dd (by exact aT [aJ (mF o.id)] rfl lK rfl rfl rfl rfl rfl (by intro r hr;rw [aIu] at hr;subst hr;rfl))<|Dd (by exact c6 (ps:=[aJ (mF o.id)]) rfl lK J6 rfl rfl rfl rfl rfl (iX _) rfl (by intro r hr;rw [aIu] at hr;subst hr;rfl) (m:=1) rfl (by omega) rfl (pG Q (mF o.id)))<|Uu (fP RK)<|Zz ?_;refine⟨J8 a b X true a F [] (Q++[mF o.id]),?_,rfl,rfl⟩;rw [aGz];exact(cY.wk trivial (Hc (gG (by simp [IZ];exact⟨rfl,rfl,rfl,rfl,rfl,rfl⟩))<|Hc (bL _ _)<|Hc (bL _ _)<|Hc (bL _ _)<|Ha<|Ha<|Ha<|Hc (d7 _ _)<|Ha<|Hc (lC _ _)<|Hc (c7 _ _)<|Hc (c7 _ _)<|Hc (c7 _ _)<|trivial) ⟨rfl,rfl,rfl,rfl,rfl,rfl,rfl,rfl,rfl,rfl,rfl,rfl,rfl,trivial⟩)
  have hn:(m9 b o.id).isNone=false:=hc3;rw [aIp (by rw [hn,Bool.and_false];decide),List.append_nil];refine aB ?_;exact⟨J8 a b X true a F [] Q,(cY.wk trivial (Hc (gG (by simp [IZ];exact⟨rfl,rfl,rfl,rfl,rfl,rfl⟩))<|Hc (bL _ _)<|Hc (bL _ _)<|Hc (bL _ _)<|Ha<|Ha<|Ha<|Hc (d7 _ _)<|Ha<|Hc (lC _ _)<|Hc (c7 _ _)<|Hc (c7 _ _)<|Hc (c7 _ _)<|trivial) ⟨rfl,rfl,rfl,rfl,rfl,rfl,rfl,rfl,rfl,rfl,rfl,rfl,rfl,trivial⟩),rfl,rfl⟩
 refine(DY a true (.yld 904 0) (fun k=>(904,LR x IZ)::J8 a b X true a (btF X (L.take k)) [] (btN X b (L.take k))) (by omega) hkda (fun k=>rfl) (fun k=>rfl) (fun k=>rfl) (fun k=>(dF.ofL ⟨(by exact gG (by simp [IZ];exact⟨rfl,rfl,rfl,rfl,rfl,rfl⟩)),(by exact bL _ _),(by exact bL _ _),(by exact bL _ _),(by(simp;rfl)),(by(simp;rfl)),(by(simp;rfl)),(by exact d7 _ _),(by(simp;rfl)),(by exact lC _ _),(by exact c7 _ _),(by exact c7 _ _),(by exact c7 _ _),trivial⟩)) (fun k=>by simp;rfl) (fun k o h=>hround k o (by rw [hL];exact h))).mono ?_;rintro r H' ⟨rfl,rfl⟩;refine⟨x,_,rfl,by rw [hx1];decide,rfl,fun z=>?_⟩;rw [hx2];have hF1:btF X (L.take (p0 a true).length)=(N1 a b).map fun o=>mF o.id:=by rw [hL,List.take_length,btF,N1,hX]
 have hN1:btN X b (L.take (p0 a true).length)=(VB a b).map fun o=>mF o.id:=by rw [hL,List.take_length,btN,VB,hX]
 rw [hF1,hN1];obtain ⟨F,hF⟩:∃ F,F=(N1 a b).map fun o=>mF o.id:=⟨_,rfl⟩;obtain ⟨Q,hQ⟩:∃ Q,Q=(VB a b).map fun o=>mF o.id:=⟨_,rfl⟩;have hFl:F.length≤3000000:=by rw [hF];exact Nat.le_trans (D7 _ _ _) (by rw [← hL];omega)
 have hQl:Q.length≤3000000:=by rw [hQ];exact Nat.le_trans (D7 _ _ _) (by rw [← hL];omega)
 have hbet:N0 a b=F++((Q5 a b).map putE++((zS a b).flatMap z8++((zS a b).flatMap z7++((zS a b).flatMap xD++Q)))):=by rw [N0,hF,hQ]
 rw [← hF,← hQ];clear hround hx1 hx2 hx3 hx4 hx5 hx6;refine Sq<|Sq ?_;refine iB.ent (E':=IZ) (H':=[(951,CL F),(952,CL []),(953,CL Q),(7,bx 1 22 [.osl 951 F.length 0 F.length]),(8,bx 1 22 [.osl 952 0 0 0]),(9,bx 1 22 [.osl 953 Q.length 0 Q.length]),(10,FX X),(6,bx 1 89 [.mp 10 0]),(3,mB b),(2,mB a)]) (cY.wk (Ea<|Ea<|Ea<|Ea<|Ea<|Ea<|trivial) (Hc (bL _ _)<|Hc (bL _ _)<|Hc (bL _ _)<|Ha<|Ha<|Ha<|Hc (d7 _ _)<|Ha<|Hc (c7 _ _)<|Hc (c7 _ _)<|trivial) trivial) ?_;refine Rg<|Dd (by exact aI rfl bF sizeOf38 rfl rfl rfl rfl (by simp only [Zl,aQ,aG,encStr,aJ,encInt,hY];rfl) rfl)<|Dd (by exact aA rfl rfl aIc rfl (H5 b false _ rfl rfl))<|Zz<|aF ?_;refine iB.ent (E':=[(2,.ref 2 0 0 0),(3,.ref 3 0 0 0),(6,.ref 6 0 0 0),(7,.ref 7 0 0 0),(8,.ref 8 0 0 0),(9,.ref 9 0 0 0),(58,.clo 103 [.ref 932 0 0 0,.ref 931 0 0 0])]) (H':=J8 a b X false b F [] Q) (cY.wk (Ea<|Ea<|Ea<|Ea<|Ea<|Ea<|Ec (by(simp;exact⟨rfl,rfl⟩))<|trivial) (Hc (bL _ _)<|Hc (bL _ _)<|Hc (bL _ _)<|Ha<|Ha<|Ha<|Hc (d7 _ _)<|Ha<|Hc (lC _ _)<|Hc (c7 _ _)<|Hc (c7 _ _)<|Hc (c7 _ _)<|trivial) trivial) ?_;refine rN (id:=904) (p:=59) IZ rfl aIK rfl rfl (by simp [IZ];exact⟨rfl,rfl,rfl,rfl,rfl,rfl⟩) ?_;intro x hx1 hx2 hx3 hx4 hx5 hx6;obtain ⟨M,hM⟩:∃ M,M=p0 b false:=⟨_,rfl⟩;have hMl:M.length≤3000000:=by have:=P4 b false;rw [← hM] at this;omega
 have hround:∀ k o,M[k]?=some o→dN Tryz.prog (.yld 904 0) [av (aG o)] ((904,LR x IZ)::J8 a b X false b F (btP X a (M.take k)) Q) (fun r H'=>r=bv true∧H'=(904,LR x IZ)::J8 a b X false b F (btP X a (M.take (k+1))) Q):=by
  intro k o ho;have hs1:btP X a (M.take (k+1))=btP X a (M.take k)++(if mH X o.id||(m9 a o.id).isNone then[putE o] else[]):=NS (p:=fun o=>mH X o.id||(m9 a o.id).isNone) ho;obtain ⟨G,hG⟩:∃ G,G=btP X a (M.take k):=⟨_,rfl⟩;have hGl:G.length≤3000000:=by rw [hG];exact Nat.le_trans (D7 _ _ _) (by rw [aJF];omega)
  rw [hs1,← hG];refine .inl ⟨904,0,rfl,?_⟩;refine C3 [(2,.ref 2 0 0 0),(3,.ref 3 0 0 0),(6,.ref 6 0 0 0),(7,.ref 7 0 0 0),(8,.ref 8 0 0 0),(9,.ref 9 0 0 0),(12,.ref 112 0 0 0)] ((112,bx 6 49 ((aG o).map .pv))::J8 a b X false b F G Q) hx1 hx2 hx3 hx4 hx5 hx6 rfl rfl rfl ?_ ?_
  ·refine Rg<|Dd (by exact bJ (id:=112) rfl qU rfl rfl)<|Uu (fP sizeOf49)<|Zz ?_;exact(cY.wk (Ea<|Ea<|Ea<|Ea<|Ea<|Ea<|Ea<|trivial) (Hc (gG (by simp [IZ];exact⟨rfl,rfl,rfl,rfl,rfl,rfl⟩))<|Hb<|Hc (bL _ _)<|Hc (bL _ _)<|Hc (bL _ _)<|Ha<|Ha<|Ha<|Hc (d7 _ _)<|Ha<|Hc (lC _ _)<|Hc (c7 _ _)<|Hc (c7 _ _)<|Hc (c7 _ _)<|trivial) ⟨rfl,rfl,rfl,rfl,rfl,rfl,rfl,rfl,rfl,rfl,rfl,rfl,rfl,trivial⟩)
  refine aF<|Sq ?_;refine bD (t:=70) (n:=12) (X:=mH X o.id||(m9 a o.id).isNone) ?_ ?_
  ·all_goals refine Dd (cA kI) ?_
   all_goals refine Dd (bH eK)<|Dd (cA isAgg9)<|Dd (by exact jL rfl eD underlying9 rfl rfl rfl rfl rfl gP (.inl rfl))<|Dm ?_
   all_goals refine Sp 64 (fun h64=>?_) fun h64=>?_
   all_goals try contradiction
   all_goals first|refine Fo<|Fo<|Fo<|Fo<|Fo ?_|refine On (by exact aI rfl bF sizeOf38 rfl rfl rfl rfl (by simp only [Zl,aQ,aG,encStr,aJ,encInt,hY];rfl) rfl)<|On (bH eK)<|On (cA isAgg9)<|On (by exact aA rfl rfl wY rfl (AU a o.id _ (by omega)))<|On (by exact dQ.val (by exact yO rfl rfl rfl) (QE a o.id)) ?_
   all_goals refine Dd dI<|Zz ?_
   all_goals(exact⟨⟨_,rfl,by(simp_all;done)⟩,rfl,rfl,rfl⟩)
  refine Cn ?_ ?_<;>intro hc4
  ·have hi:(mH X o.id||(m9 a o.id).isNone)=true:=hc4;rw [aIq hi];refine Rg<|Dd (cA nE)<|Dd (by exact aI rfl aY sizeOf49 rfl rfl rfl rfl (by simp only [Zl,aQ,aG,encStr,aJ,encInt,hY];rfl) rfl)<|Dd (jG pI)<|Dd (by exact aT [aJ (putE o)] rfl lK rfl rfl rfl rfl rfl (by intro r hr;rw [aIu] at hr;subst hr;rfl))<|Dd (by exact c6 (ps:=[aJ (putE o)]) rfl lK J6 rfl rfl rfl rfl rfl (iX _) rfl (by intro r hr;rw [aIu] at hr;subst hr;rfl) (m:=1) rfl (by omega) rfl (pG G (putE o)))<|Uu (fP RK)<|Zz ?_;refine⟨J8 a b X false b F (G++[putE o]) Q,?_,rfl,rfl⟩;rw [aGy];exact(cY.wk trivial (Hc (gG (by simp [IZ];exact⟨rfl,rfl,rfl,rfl,rfl,rfl⟩))<|Hc (bL _ _)<|Hc (bL _ _)<|Hc (bL _ _)<|Ha<|Ha<|Ha<|Hc (d7 _ _)<|Ha<|Hc (lC _ _)<|Hc (c7 _ _)<|Hc (c7 _ _)<|Hc (c7 _ _)<|trivial) ⟨rfl,rfl,rfl,rfl,rfl,rfl,rfl,rfl,rfl,rfl,rfl,rfl,rfl,trivial⟩)
  have hi:(mH X o.id||(m9 a o.id).isNone)=false:=hc4;rw [aIp (by rw [hi];decide),List.append_nil];refine aB ?_;exact⟨J8 a b X false b F G Q,(cY.wk trivial (Hc (gG (by simp [IZ];exact⟨rfl,rfl,rfl,rfl,rfl,rfl⟩))<|Hc (bL _ _)<|Hc (bL _ _)<|Hc (bL _ _)<|Ha<|Ha<|Ha<|Hc (d7 _ _)<|Ha<|Hc (lC _ _)<|Hc (c7 _ _)<|Hc (c7 _ _)<|Hc (c7 _ _)<|trivial) ⟨rfl,rfl,rfl,rfl,rfl,rfl,rfl,rfl,rfl,rfl,rfl,rfl,rfl,trivial⟩),rfl,rfl⟩
 refine(DY b false (.yld 904 0) (fun k=>(904,LR x IZ)::J8 a b X false b F (btP X a (M.take k)) Q) (by omega) hkdb (fun k=>rfl) (fun k=>rfl) (fun k=>rfl) (fun k=>(dF.ofL ⟨(by exact gG (by simp [IZ];exact⟨rfl,rfl,rfl,rfl,rfl,rfl⟩)),(by exact bL _ _),(by exact bL _ _),(by exact bL _ _),(by(simp;rfl)),(by(simp;rfl)),(by(simp;rfl)),(by exact d7 _ _),(by(simp;rfl)),(by exact lC _ _),(by exact c7 _ _),(by exact c7 _ _),(by exact c7 _ _),trivial⟩)) (fun k=>by simp;rfl) (fun k o h=>hround k o (by rw [hM];exact h))).mono ?_;rintro r H' ⟨rfl,rfl⟩;refine⟨x,_,rfl,by rw [hx1];decide,rfl,fun z=>?_⟩;rw [hx2];have hP1:btP X a (M.take (p0 b false).length)=(Q5 a b).map putE:=by rw [hM,List.take_length,btP,Q5,hX]
 rw [hP1];obtain ⟨G,hG⟩:∃ G,G=(Q5 a b).map putE:=⟨_,rfl⟩;have hGl:G.length≤3000000:=by rw [hG];exact Nat.le_trans (D7 _ _ _) (by rw [← hM];omega)
 rw [← hG] at hbet ⊢;clear hround hx1 hx2 hx3 hx4 hx5 hx6;have hmb:(b.map aG).length=b.length:=aIr _;refine Sr<|Dd (by exact fI (id:=954) (sz:=12) (ty:=96) rfl rfl rfl)<|Zz<|Sq<|Sr<|Dd (bH gZ)<|Dd (cA dJ)<|Dd (fK cQ)<|Dd aD<|Zz<|aF ?_;have hboth:zS a b=b.filterMap (qQ X a):=by rw [zS,hX];rfl
 refine bG (σ:=Nat) (fun i=>([(2,.ref 2 0 0 0),(3,.ref 3 0 0 0),(6,.ref 6 0 0 0),(7,.ref 7 0 0 0),(8,.ref 8 0 0 0),(9,.ref 9 0 0 0),(13,.osl 954 ((b.take i).filterMap (qQ X a)).length 0 ((b.take i).filterMap (qQ X a)).length),(77,.pv (cO b)),(78,iv ((b.map aG).length:Int)),(79,iv (i:Int))],b4H a b X F G Q ((b.take i).filterMap (qQ X a)))) (fun i=>i≤b.length) (fun i=>b.length - i) 0 (aJI _) ?_ ?_
 ·exact(cY.wk (Ea<|Ea<|Ea<|Ea<|Ea<|Ea<|Ea<|Eb<|Eb<|Eb<|trivial) (Hc (yV _ _)<|Hc (bL _ _)<|Hc (bL _ _)<|Hc (bL _ _)<|Ha<|Ha<|Ha<|Hc (d7 _ _)<|Ha<|Hc (c7 _ _)<|Hc (c7 _ _)<|trivial) trivial)
 rintro i hi;obtain ⟨B,hB⟩:∃ B,B=(b.take i).filterMap (qQ X a):=⟨_,rfl⟩;have hBl:B.length≤1000000:=by rw [hB];exact Nat.le_trans Q1 (by rw [aJF];omega)
 rw [← hB];refine Sr<|Dd dD<|Zz<|Sq ?_;refine Cn ?_ ?_<;>intro hc5
 ·have hlt:i < b.length:=by have:=aIn hc5;omega
  obtain ⟨o,ho⟩:=aX hlt;have hio:=bZ (f:=aG) ho;have hsn:=XW (X:=X) (a:=a) ho;rw [← hB] at hsn;rcases sB (oJ o.id) a with⟨e1,e2⟩|⟨q,p,e1,e2,e3⟩
  ·have hb0:qQ X a o=none:=by rw [qQ,show m9 a o.id=none from e2]
   rw [hb0,Option.toList_none,List.append_nil] at hsn;have hF:∀ H,aH Tryz.prog 54 [.agg [.pv (cO a)],sv o.id] H (fun r H'=>r=iv (-1)∧H'=H):=fun H=>by have:=AU a o.id H (by omega);rw [e1] at this;exact this
   refine aB<|Sq<|aF<|Sr<|Dd (e8 iK)<|Dd (by exact bQ rfl aY sizeOf49 rfl (by omega) (by simp only [Zl,aQ,aG,encStr,aJ,encInt,hY];rfl) rfl)<|Dd (by exact bJ (id:=115) rfl qU rfl rfl)<|Uu (fP sizeOf49)<|Zz<|Sr<|Dd (by exact aI rfl bF sizeOf38 rfl rfl rfl rfl (by simp only [Zl,aQ,aG,encStr,aJ,encInt,hY];rfl) rfl)<|Dd (bH eK)<|Dd (cA isAgg9)<|Dd (by exact aA rfl rfl wY rfl (hF _))<|Dd aO<|Zz<|Sr<|Dd aD<|Dd wP<|Dd aD<|Fo<|Fo<|Fo<|Fo<|Fo<|Dd dI<|Zz ?_;refine Cn ?_ ?_<;>intro hc6
   ·cases hc6
   refine aB<|Rg<|Dd eL<|Dd aD<|Zz ?_;refine⟨i+1,by omega,by omega,?_⟩;rw [hsn];exact(cY.wk (Ea<|Ea<|Ea<|Ea<|Ea<|Ea<|Ea<|Eb<|Eb<|Eb<|trivial) (Hc (yV _ _)<|Hc (bL _ _)<|Hc (bL _ _)<|Hc (bL _ _)<|Ha<|Ha<|Ha<|Hc (d7 _ _)<|Ha<|Hc (c7 _ _)<|Hc (c7 _ _)<|trivial) trivial)
  have hlk:m9 a o.id=some p:=e3;have hia:=bZ (f:=aG) e2;have hqa:=(aIv.1 e2).1;have hma:(a.map aG).length=a.length:=aIr _;have hF:∀ H,aH Tryz.prog 54 [.agg [.pv (cO a)],sv o.id] H (fun r H'=>r=iv (q:Int)∧H'=H):=fun H=>by have:=AU a o.id H (by omega);rw [e1] at this;exact this
  have h0:decide ((0:Int)≤(q:Int))=true:=decide_eq_true (by omega);refine aB<|Sq<|aF<|Sr<|Dd (e8 iK)<|Dd (by exact bQ rfl aY sizeOf49 rfl (by omega) (by simp only [Zl,aQ,aG,encStr,aJ,encInt,hY];rfl) rfl)<|Dd (by exact bJ (id:=115) rfl qU rfl rfl)<|Uu (fP sizeOf49)<|Zz<|Sr<|Dd (by exact aI rfl bF sizeOf38 rfl rfl rfl rfl (by simp only [Zl,aQ,aG,encStr,aJ,encInt,hY];rfl) rfl)<|Dd (bH eK)<|Dd (cA isAgg9)<|Dd (by exact aA rfl rfl wY rfl (hF _))<|Dd aO<|Zz<|Sr<|Dd aD<|Dd wP<|Dd aD<|On (cA kI)<|On (bH eK)<|On (cA isAgg9)<|On (by exact jL rfl eD underlying9 rfl rfl rfl rfl rfl gP (.inl rfl))<|On jU<|Dd dI<|Zz ?_;refine Cn ?_ ?_<;>intro hc7
  ·have hin:mH X o.id=false:=by have:=hc7;simpa using this
   have hb1:qQ X a o=some (p,o):=by rw [qQ,hlk];simp only [hin];rfl
   rw [hb1,Option.toList_some] at hsn;refine aU follows<|Cs (fun _ _=>aD)<|Cs (fun _ h=>fh gZ h)<|Cs (fun _ h=>lh dJ h)<|Cs (fun _ _=>aD)<|Cs (fun _ _=>(e8 iK))<|Cs (fun H1 hH=>by exact bQ rfl aY sizeOf49 rfl (by omega) (by simp only [Zl,aQ,aG,encStr,aJ,encInt,hY];rfl) rfl)<|Cs (fun H1 hH=>by exact aI rfl aY sizeOf49 rfl ((hH _ rfl).trans rfl) rfl rfl (by simp only [Zl,aQ,aG,encStr,aJ,encInt,hY];rfl) rfl)<|Cs (fun _ _=>(jG aHt))<|Cs (fun H1 hH=>by exact aT [hY (p,o)] rfl aFF rfl rfl rfl rfl rfl (by intro r hr;rw [aIu] at hr;subst hr;rfl)) ?_;refine bT (r:=⟨_,none,[_]⟩) (DStep.plain rfl (fun H1 hH=>by exact c6 (ps:=[hY (p,o)]) rfl aFF aHo rfl ((hH _ rfl).trans rfl) rfl rfl rfl (W3 _) rfl (by intro r hr;rw [aIu] at hr;subst hr;rfl) (m:=1) rfl (by omega) rfl (W4 B (p,o)))) rfl ?_;refine Cs (fun _ _=>aO)<|bM<|Kr<|Rg<|Dd eL<|Dd aD<|Zz ?_;refine⟨i+1,by omega,by omega,?_⟩;rw [hsn,aBo,KT];exact(cY.wk (Ea<|Ea<|Ea<|Ea<|Ea<|Ea<|Ea<|Eb<|Eb<|Eb<|trivial) (Hc (yV _ _)<|Hc (bL _ _)<|Hc (bL _ _)<|Hc (bL _ _)<|Ha<|Ha<|Ha<|Hc (d7 _ _)<|Ha<|Hc (c7 _ _)<|Hc (c7 _ _)<|trivial) trivial)
  have hin:mH X o.id=true:=by have:=hc7;simpa using this
  have hb1:qQ X a o=none:=by rw [qQ,hlk];simp only [hin];rfl
  rw [hb1,Option.toList_none,List.append_nil] at hsn;refine aB<|Rg<|Dd eL<|Dd aD<|Zz ?_;refine⟨i+1,by omega,by omega,?_⟩;rw [hsn];exact(cY.wk (Ea<|Ea<|Ea<|Ea<|Ea<|Ea<|Ea<|Eb<|Eb<|Eb<|trivial) (Hc (yV _ _)<|Hc (bL _ _)<|Hc (bL _ _)<|Hc (bL _ _)<|Ha<|Ha<|Ha<|Hc (d7 _ _)<|Ha<|Hc (c7 _ _)<|Hc (c7 _ _)<|trivial) trivial)
 have hge:i=b.length:=by have:=aIo hc5;omega
 subst hge;rw [List.take_length,← hboth] at hB;have hokB:∀ k∈B,okK k:=fun k hk=>by
  rw [hB] at hk;obtain ⟨q1,q2,_⟩:=aAk.1 hk;have g1:=k7 (hga.1 k.1 (PY q2));have g2:=k7 (hgb.1 k.2 q1);exact⟨⟨g1.1,g2.1⟩,g1.2.1,g2.2.1⟩
 rw [← hB] at hbet;refine aZ<|Sq ?_;refine iB.ent (cY.fz (id:=954) (E':=[(7,.ref 7 0 0 0),(8,.ref 8 0 0 0),(9,.ref 9 0 0 0),(13,.pv (.sl (B.map hY)))]) (H':=[(951,CL F),(952,CL G),(953,CL Q),(7,bx 1 22 [.osl 951 F.length 0 F.length]),(8,bx 1 22 [.osl 952 G.length 0 G.length]),(9,bx 1 22 [.osl 953 Q.length 0 Q.length])]) (B.map hY) rfl (pU hY B) ?_ rfl ⟨⟨_,rfl,rfl⟩,(by exact bL _ _),⟨_,rfl,rfl⟩,(by exact bL _ _),⟨_,rfl,rfl⟩,(by exact bL _ _),⟨_,rfl,rfl⟩,(by(simp;rfl)),⟨_,rfl,rfl⟩,(by(simp;rfl)),⟨_,rfl,rfl⟩,(by(simp;rfl)),trivial⟩ trivial) ?_
 ·intro q hq;simp only [aJD,aJH,or_false] at hq;rcases hq with rfl|rfl|rfl|rfl
  ·exact⟨_,rfl,.same (by simp;rfl)⟩
  ·exact⟨_,rfl,.same (by simp;rfl)⟩
  ·exact⟨_,rfl,.same (by simp;rfl)⟩
  exact⟨_,rfl,.osl (gQ hY B)⟩
 refine Rg<|Dd (cA nE)<|Dd (cA nE)<|Dd (by exact nS rfl lK J6 rfl rfl rfl rfl rfl (iX F) rfl rfl rfl rfl (QS G) (by simp [CL,iX]) (by omega) rfl (LW F G))<|Dd aO<|Zz<|Sr<|Dd (by exact aA rfl rfl call55 rfl (aGm _))<|Dd (by exact bJ (id:=118) rfl aGS rfl rfl)<|Uu (fP aHJ)<|Zz<|Sq<|Sr<|Dd (bH aFr)<|Dd (cA YH)<|Dd (bH aFq)<|Dd (cA YH)<|Dd (bH aFp)<|Dd (cA YH)<|Dd (by exact aT [[.fn 106],[.fn 107],[.fn 109]] rfl aEW rfl rfl rfl rfl rfl (by intro r hr;simp only [aJD,aJH,or_false] at hr;rcases hr with rfl|rfl|rfl<;>rfl))<|Dd (fK underlying101)<|Dd aD<|Zz<|aF ?_;have hmB:(B.map hY).length=B.length:=aIr _;have hBl:B.length≤1000000:=by rw [hB,hboth];exact Nat.le_trans Q1 (by omega)
 refine bG (σ:=Nat) (fun s=>([(9,.ref 9 0 0 0),(13,.pv (.sl (B.map hY))),(17,.osl 951 (F.length+1+s*B.length) 0 (aS B (F++G) s).length),(117,.pv (.sl [[.fn 106],[.fn 107],[.fn 109]])),(118,iv 3),(119,iv (s:Int))],oHB (F.length+1+s*B.length) (aS B (F++G) s) Q)) (fun s=>s≤3) (fun s=>3 - s) 0 (by omega) ?_ ?_
 ·show cY _ _ _ [(9,_),(13,_),(17,.osl 951 (F.length+1+0*B.length) 0 (F++G).length),(117,_),(118,_),(119,_)] (oHB (F.length+1+0*B.length) (F++G) Q);rw [Nat.zero_mul,Nat.add_zero,aIs];exact(cY.wk (Ea<|Eb<|Ea<|Eb<|Eb<|Eb<|trivial) (Hc (bL _ _)<|Hc (bL _ _)<|Ha<|trivial) trivial)
 rintro s hs;obtain ⟨A,hA⟩:∃ A,A=aS B (F++G) s:=⟨_,rfl⟩;have hAl:A.length≤6000000+s*(120*B.length):=by
  rw [hA];refine Nat.le_trans (aBz hokB (F++G) s) ?_;rw [aIs];omega
 have hnxA:aS B (F++G) (s+1)=A++B.flatMap (RU s):=by rw [hA];rfl
 obtain ⟨g,hg⟩:∃ g,g=F.length+1+s*B.length:=⟨_,rfl⟩;have hg1:F.length+1+(s+1)*B.length=g+B.length:=by rw [hg,Nat.add_mul,Nat.one_mul];omega
 rw [← hA,← hg];refine Sr<|Dd dD<|Zz<|Sq ?_;refine Cn ?_ ?_<;>intro hc8
 ·have hs3:s < 3:=by have:=aIn hc8;omega
  have hAl2:A.length≤246000000:=by
   have:s*(120*B.length)≤2*(120*B.length):=Nat.mul_le_mul_right _ (by omega);omega
  have hfn:([[.fn 106],[.fn 107],[.fn 109]]:List (List PV))[s]?=some [.fn (fS s)]:=by
   have h:s=0∨s=1∨s=2:=by omega
   rcases h with rfl|rfl|rfl<;>rfl
  refine aB<|Sq<|aF<|Sr<|Dd (by exact dU rfl aEW rfl rfl (by omega) (by exact aJC _) hfn rfl)<|Dd (fM YH)<|Dd aO<|Zz<|Sr<|Dd aD<|Dd (fK underlying94)<|Dd aD<|Zz<|aF ?_;refine bG (σ:=Nat) (fun i=>([(9,.ref 9 0 0 0),(13,.pv (.sl (B.map hY))),(17,.osl 951 (g+i) 0 (A++(B.take i).flatMap (RU s)).length),(117,.pv (.sl [[.fn 106],[.fn 107],[.fn 109]])),(118,iv 3),(119,iv (s:Int)),(20,.pv (.fn (fS s))),(123,.pv (.sl (B.map hY))),(124,iv ((B.map hY).length:Int)),(125,iv (i:Int))],oHB (g+i) (A++(B.take i).flatMap (RU s)) Q)) (fun i=>i≤B.length) (fun i=>B.length - i) 0 (aJI _) ?_ ?_
  ·show cY _ _ _ [(9,_),(13,_),(17,.osl 951 g 0 (A++[]).length),(117,_),(118,_),(119,_),(20,_),(123,_),(124,_),(125,_)] (oHB g (A++[]) Q);rw [List.append_nil];exact(cY.wk (Ea<|Eb<|Ea<|Eb<|Eb<|Eb<|Eb<|Eb<|Eb<|Eb<|trivial) (Hc (bL _ _)<|Hc (bL _ _)<|Ha<|trivial) trivial)
  rintro i hi;obtain ⟨C,hC⟩:∃ C,C=A++(B.take i).flatMap (RU s):=⟨_,rfl⟩;have hCl:C.length≤366000000:=by
   have:=QJ (B:=B.take i) (f:=RU s) (c:=120) (fun k hk=>MK s (hokB k (List.mem_of_mem_take hk)));rw [hC,aIs];have h2:(B.take i).length≤1000000:=by rw [aJF];omega
   omega
  rw [← hC];refine Sr<|Dd dD<|Zz<|Sq ?_;refine Cn ?_ ?_<;>intro hc9
  ·have hil:i < B.length:=by have:=aIn hc9;omega
   obtain ⟨k,hk⟩:=aX hil;have hik:=bZ (f:=hY) hk;have hok:=hokB k (aJB hk);have hsl:=MK s hok;have hnx:A++(B.take (i+1)).flatMap (RU s)=C++RU s k:=by rw [hC,List.take_add_one,hk,Option.toList_some,List.flatMap_append,List.flatMap_cons,List.flatMap_nil,List.append_nil,List.append_assoc]
   refine aB<|Sq<|aF<|Sr<|Dd (e8 aFF)<|Dd (by exact bQ rfl isAgg96 RH rfl (by omega) (by simp only [Zl,aQ,aG,encStr,aJ,encInt,hY];rfl) rfl)<|Dd (by exact bJ (id:=122) rfl aH5 rfl rfl)<|Uu (fP RH)<|Zz<|Rg<|Dd aD<|Dd aD<|Dd (by exact aI rfl isAgg96 RH rfl rfl rfl rfl (by simp only [Zl,aQ,aG,encStr,aJ,encInt,hY];rfl) rfl)<|Dd (by exact eT rfl rfl rfl (aFC s hs3 k hok _))<|Dd (by exact c6 (ps:=(RU s k).map aJ) rfl lK J6 rfl rfl rfl rfl rfl (iX C) rfl (rlE _) (m:=(RU s k).length) (aIr _) (by omega) rfl (S5 C (RU s k)))<|Dd aO<|Zz<|Rg<|Dd eL<|Dd aD<|Zz ?_;refine⟨i+1,by omega,by omega,?_⟩;rw [hnx,oHB,aIs];exact(cY.wk (Ea<|Eb<|Ea<|Eb<|Eb<|Eb<|Eb<|Eb<|Eb<|Eb<|trivial) (Hc (bL _ _)<|Hc (bL _ _)<|Ha<|trivial) trivial)
  have hil:i=B.length:=by have:=aIo hc9;omega
  subst hil;rw [List.take_length,← hnxA] at hC;refine aZ<|Rg<|Dd eL<|Dd aD<|Zz ?_;refine⟨s+1,by omega,by omega,?_⟩;rw [hg1,← hC];exact(cY.wk (Ea<|Eb<|Ea<|Eb<|Eb<|Eb<|trivial) (Hc (bL _ _)<|Hc (bL _ _)<|Ha<|trivial) trivial)
 have hs3:s=3:=by have:=aIo hc8;omega
 subst hs3;have hAl3:A.length≤366000000:=by omega
 have hfinal:A++Q=N0 a b:=by
  rw [hbet,hA,← List.append_assoc,← List.append_assoc,← List.append_assoc,← List.append_assoc];rfl
 refine aZ<|Sr<|Dd aD<|Dd (cA nE)<|Dd (by exact nS rfl lK J6 rfl rfl rfl rfl rfl (iX A) rfl rfl rfl rfl (QS Q) (by simp [CL,iX]) (by omega) rfl (LW A Q))<|Dd aO<|Zz<|Sq<|Sr<|Dd aD<|Dd (by exact dV rfl cB rfl rfl rfl)<|Dd kC<|Zz ?_;refine Cn ?_ ?_<;>intro hc10
 ·have h2:200 < (N0 a b).length:=by have:=aIn hc10;rw [← hfinal,aIs];omega
  rw [aIq h2];exact Sr<|Dd aO<|Dd aO<|Zz<|aC<|Ru<|Qq
 have h2:¬ 200 < (N0 a b).length:=by have:=aIo hc10;rw [← hfinal,aIs];omega
 rw [aIp h2,← hfinal];refine aB<|Sq ?_;refine iB.ent (cY.fz (id:=951) (E':=[(17,.pv (cD (A++Q)))]) (H':=[]) ((A++Q).map aJ) rfl (pU aJ _)
  (by intro q hq;rw [aIu] at hq;subst hq;exact⟨_,rfl,.osl (by rw [aJJ,List.drop_zero,List.take_of_length_le (by rw [aIr,aIs];exact aIx _)])⟩) rfl trivial trivial) ?_
 exact Rg<|Dd aD<|Dd aO<|Dd aO<|Zz<|aC<|Ru<|Qq
theorem XX (a b:List GObj) (ha:uQ a) (hb:uQ b) (H:aE) :
  aH Tryz.prog 22 [.agg [.pv (cO a)],.agg [.pv (cO b)]] H (fun r H'=>r=.tup [.pv (cD (mT a b).1),iv (mT a b).2]∧H'=H):=by
 cases h1:eY a with
 | false=>exact I4 a b ha hb (by rw [h1];rfl) H
 | true=>cases h2:eY b with
  | false=>exact I4 a b ha hb (by rw [h2];simp) H
  | true=>exact aH.pure (S8 a b ha hb h1 h2) (by simp) H
end Go.Proofs.YtlnfjkdacimblaaGreatDoor
namespace Go.Proofs.YtlnfjkdacimblaaGreatDoor
open Go.Proofs.Tryz
section
def l6 (u:List Nat) (i:Nat):Nat:=u.getD i i
def zA:Nat→List Nat→Nat→Nat
 | 0,_,i=>i
 | n+1,u,i=>if l6 u i=i then i else zA n u (l6 u i)
def top (u:List Nat) (i:Nat):Nat:=zA i u i
def tZ (u:List Nat):Prop:=∀ i,l6 u i≤i
theorem KG {u:List Nat} (h:tZ u):∀ (n m i:Nat),i≤n→i≤m→zA n u i=zA m u i
 | 0,m,i,h1,h2=>by
  obtain rfl:i=0:=by omega
  cases m with
  | zero=>rfl
  | succ m=>rw [zA,zA,aIq (by have:=h 0;omega)]
 | n+1,0,i,h1,h2=>by
  obtain rfl:i=0:=by omega
  rw [zA,zA,aIq (by have:=h 0;omega)]
 | n+1,m+1,i,h1,h2=>by
  rw [zA,zA];by_cases e:l6 u i=i
  ·rw [aIq e,aIq e]
  rw [aIp e,aIp e];have:=h i;exact KG h n m _ (by omega) (by omega)
theorem OQ {u:List Nat} (h:tZ u) (i:Nat):top u i=if l6 u i=i then i else top u (l6 u i):=by
 by_cases e:l6 u i=i
 ·rw [aIq e,top];cases i with
  | zero=>rfl
  | succ i=>rw [zA,aIq e]
 rw [aIp e,top,top];have:=h i;obtain ⟨j,rfl⟩:∃ j,i=j+1:=⟨i - 1,by omega⟩;rw [zA,aIp e];exact KG h _ _ _ (by omega) (aIx _)
theorem lO {u:List Nat} (h:tZ u) {i:Nat} (e:l6 u i=i):top u i=i:=by rw [OQ h,aIq e]
theorem GO {u:List Nat} (h:tZ u) {i:Nat} (e:l6 u i≠i):top u i=top u (l6 u i):=by rw [OQ h,aIp e]
theorem C9 {u:List Nat} (h:tZ u):∀ n i,i≤n→top u i≤i∧l6 u (top u i)=top u i
 | 0,i,hi=>by
  obtain rfl:i=0:=by omega
  have e:l6 u 0=0:=by have:=h 0;omega
  rw [lO h e];exact⟨aIx _,e⟩
 | n+1,i,hi=>by
  by_cases e:l6 u i=i
  ·rw [lO h e];exact⟨aIx _,e⟩
  have h1:=h i;obtain ⟨h2,h3⟩:=C9 h n (l6 u i) (by omega);rw [GO h e];exact⟨by omega,h3⟩
theorem zW {u:List Nat} (h:tZ u) (i:Nat):top u i≤i:=(C9 h i i (aIx _)).1
theorem OR {u:List Nat} (h:tZ u) (i:Nat):l6 u (top u i)=top u i:=(C9 h i i (aIx _)).2
def oI (u:List Nat) (a b:Nat):List Nat:=u.set (max (top u a) (top u b)) (min (top u a) (top u b))
theorem uW (u:List Nat) (a b:Nat):(oI u a b).length=u.length:=List.length_set
theorem ON {u:List Nat} {M m:Nat} (hM:M < u.length) (i:Nat):l6 (u.set M m) i=if i=M then m else l6 u i:=by
 unfold l6;rw [List.getD_eq_getElem?_getD,List.getD_eq_getElem?_getD,List.getElem?_set];by_cases e:i=M
 ·subst e;rw [aIq rfl,aIq rfl,aIq hM];rfl
 rw [aIp e,aIp (Ne.symm e)]
theorem B9 {u:List Nat} (h:tZ u) {a b:Nat} (ha:a < u.length) (hb:b < u.length):tZ (oI u a b):=by
 intro i;have h1:=zW h a;have h2:=zW h b;rw [oI,ON (by omega)];by_cases e:i=max (top u a) (top u b)
 ·rw [aIq e];omega
 rw [aIp e];exact h i
theorem xC {u:List Nat} (h:tZ u) {a b:Nat} (ha:a < u.length) (hb:b < u.length):∀ n z,z≤n→top (oI u a b) z=if top u z=max (top u a) (top u b)then min (top u a) (top u b)else top u z:=by
 have h1:=zW h a;have h2:=zW h b;have r1:=OR h a;have r2:=OR h b;have h':=B9 h ha hb;have hup:∀ i,l6 (oI u a b) i=if i=max (top u a) (top u b)then min (top u a) (top u b)else l6 u i:=fun i=>ON (by omega) i
 obtain ⟨M,hM⟩:∃ M,M=max (top u a) (top u b):=⟨_,rfl⟩;obtain ⟨m,hm⟩:∃ m,m=min (top u a) (top u b):=⟨_,rfl⟩;have rM:l6 u M=M:=by rcases Nat.le_total (top u a) (top u b)with g|g<;>(rw [hM];first|rw [Nat.max_eq_right g];exact r2|rw [Nat.max_eq_left g];exact r1)
 have rm:l6 u m=m:=by rcases Nat.le_total (top u a) (top u b)with g|g<;>(rw [hm];first|rw [Nat.min_eq_left g];exact r1|rw [Nat.min_eq_right g];exact r2)
 have hmM:m≤M:=by omega
 rw [← hM,← hm] at hup ⊢;intro n
 induction n with
 | zero =>
  intro z hz;obtain rfl:z=0:=by omega
  have e0:l6 u 0=0:=by have:=h 0;omega
  rw [lO h e0];by_cases e:(0:Nat)=M
  ·rw [aIq e,lO h' (by rw [hup,aIq e];omega)];omega
  rw [aIp e,lO h' (by rw [hup,aIp e];exact e0)]
 | succ n ih =>
  intro z hz;by_cases e0:l6 u z=z
  ·rw [lO h e0];by_cases e:z=M
   ·rw [aIq e];by_cases em:m=M
    ·rw [lO h' (by rw [hup,aIq e];omega)];omega
    rw [GO h' (by rw [hup,aIq e];omega),hup,aIq e];exact lO h' (by rw [hup,aIp em];exact rm)
   rw [aIp e,lO h' (by rw [hup,aIp e];exact e0)]
  have hzM:z≠M:=fun e=>e0 (by rw [e];exact rM);have:=h z;rw [GO h' (by rw [hup,aIp hzM];exact e0),hup,aIp hzM,GO h e0];exact ih _ (by omega)
theorem KE (u:List Nat) (i:Nat):l6 (u++[u.length]) i=l6 u i:=by
 unfold l6;rw [List.getD_eq_getElem?_getD,List.getD_eq_getElem?_getD];rcases Nat.lt_trichotomy i u.length with h|h|h
 ·rw [List.getElem?_append_left h]
 ·subst h;simp
 rw [List.getElem?_eq_none (by simp;omega),List.getElem?_eq_none (by omega)]
theorem GP {u v:List Nat} (h:∀ i,l6 u i=l6 v i):∀ n i,zA n u i=zA n v i
 | 0,_=>rfl
 | n+1,i=>by rw [zA,zA,h,GP h n]
theorem ZE (u:List Nat) (i:Nat):top (u++[u.length]) i=top u i:=GP (KE u) _ _
theorem T1 {u:List Nat} (h:tZ u):tZ (u++[u.length]):=fun i=>by rw [KE];exact h i
theorem SL:tZ []:=fun i=>Nat.le_of_eq rfl
theorem aC9 (i:Nat):top [] i=i:=lO SL rfl
def Inv (L:Nat→Nat→Prop) (f:Nat→Nat):Prop:=∀ i k,L i k→f i=f k
structure Snd (L:Nat→Nat→Prop) (u:List Nat):Prop where
 ok:tZ u
 sn:∀ f,Inv L f→∀ x,f (top u x)=f x
theorem Snd.nil (L:Nat→Nat→Prop):Snd L []:=⟨SL,fun f _ x=>by rw [aC9]⟩
theorem Snd.snoc {L:Nat→Nat→Prop} {u:List Nat} (h:Snd L u):Snd L (u++[u.length]):=⟨T1 h.ok,fun f hf x=>by rw [ZE];exact h.sn f hf x⟩
theorem Snd.join {L:Nat→Nat→Prop} {u:List Nat} (h:Snd L u) {a b:Nat} (ha:a < u.length) (hb:b < u.length) (hL:∀ f,Inv L f→f a=f b):Snd L (oI u a b):=by
 refine⟨B9 h.ok ha hb,fun f hf x=>?_⟩;rw [xC h.ok ha hb x x (aIx _)];have e1:=h.sn f hf a;have e2:=h.sn f hf b;have e3:=h.sn f hf x;have e4:=hL f hf;by_cases e:top u x=max (top u a) (top u b)
 ·rw [aIq e,← e3,e];rcases Nat.le_total (top u a) (top u b)with g|g
  ·rw [Nat.min_eq_left g,Nat.max_eq_right g,e1,e2,e4]
  rw [Nat.min_eq_right g,Nat.max_eq_left g,e1,e2,e4]
 rw [aIp e];exact e3
theorem W5 {u:List Nat} (h:tZ u) {a b:Nat} (ha:a < u.length) (hb:b < u.length):top (oI u a b) a=top (oI u a b) b:=by
 rw [xC h ha hb a a (aIx _),xC h ha hb b b (aIx _)];rcases Nat.le_total (top u a) (top u b)with g|g
 ·rw [Nat.min_eq_left g,Nat.max_eq_right g,aIq rfl]
  split
  ·rfl
  rfl
 rw [Nat.min_eq_right g,Nat.max_eq_left g,aIq rfl]
 split<;>rfl
theorem LO {u:List Nat} (h:tZ u) {a b x y:Nat} (ha:a < u.length) (hb:b < u.length) (e:top u x=top u y):top (oI u a b) x=top (oI u a b) y:=by rw [xC h ha hb x x (aIx _),xC h ha hb y y (aIx _),e]
theorem RQ {L:Nat→Nat→Prop} {f g:Nat→Nat} (h1:Inv L f) (h2:Inv L g) (s1:∀ k,Inv L k→∀ x,k (f x)=k x) (s2:∀ k,Inv L k→∀ x,k (g x)=k x) (l1:∀ x,f x≤x) (l2:∀ x,g x≤x) (x:Nat):f x=g x:=by have a1:=s1 g h2 x;have a2:=s2 f h1 x;have b1:=l2 (f x);have b2:=l1 (g x);omega
section
variable {S:Type} [DecidableEq S]
def lZ:List (S×Nat)→S→Option Nat
 | [],_=>none
 | (k,v)::r,s=>if k=s then some v else lZ r s
def JH (i:Nat) (st:List Nat×List (S×Nat)) (s:S):List Nat×List (S×Nat):=match lZ st.2 s with
 | some k=>(oI st.1 i k,st.2)
 | none=>(st.1,st.2++[(s,i)])
def tL (W:Nat→List S):Nat→List Nat×List (S×Nat)
 | 0=>([],[])
 | k+1=>(W k).foldl (JH k) ((tL W k).1++[k],(tL W k).2)
def N9 (F:List (S×Nat)) (i:Nat) (u:List Nat) (s:S):List Nat:=match lZ F s with
 | some k=>oI u i k
 | none=>u
def wS (F:List (S×Nat)) (u:List Nat) (N:Nat→List S):Nat→List Nat
 | 0=>u
 | k+1=>(N k).foldl (N9 F k) (wS F u N k)
theorem CH:∀ (l:List (S×Nat)) (s t:S) (i:Nat),lZ (l++[(t,i)]) s=match lZ l s with
  | some k=>some k
  | none=>if t=s then some i else none
 | [],s,t,i=>rfl
 | (k,v)::r,s,t,i=>by
  rw [List.cons_append,lZ,lZ,CH r s t i];by_cases e:k=s
  ·rw [aIq e,aIq e]
  rw [aIp e,aIp e]
structure I1 (L:Nat→Nat→Prop) (W:Nat→List S) (k m:Nat) (st:List Nat×List (S×Nat)):Prop where
 len:st.1.length=m
 snd:Snd L st.1
 at_:∀ s j,lZ st.2 s=some j→j < m∧s∈W j
 has:∀ j,j < k→∀ s,s∈W j→(lZ st.2 s).isSome=true
theorem MG {i:Nat} {st:List Nat×List (S×Nat)} {s t:S} (h:t=s∨(lZ st.2 t).isSome=true):(lZ (JH i st s).2 t).isSome=true:=by
 unfold JH
 split
 ·next k hk =>
  rcases h with rfl|h
  ·show (lZ st.2 t).isSome=true;rw [hk];rfl
  exact h
 next hk =>
 show (lZ (st.2++[(s,i)]) t).isSome=true;rw [CH]
 split
 ·rfl
 next hn =>
 rcases h with rfl|h
 ·rw [aIq rfl];rfl
 rw [hn] at h;cases h
theorem aE8 {L:Nat→Nat→Prop} {W:Nat→List S} {k:Nat} (hL:∀ j s,j < k+1→s∈W k→s∈W j→∀ f,Inv L f→f k=f j):∀ (ws:List S) (st:List Nat×List (S×Nat)),(∀ s∈ws,s∈W k)→I1 L W k (k+1) st→(∀ s,s∈W k→s∈ws∨(lZ st.2 s).isSome=true)→I1 L W (k+1) (k+1) (ws.foldl (JH k) st)
 | [],st,_,h,hall=>by
  refine⟨h.len,h.snd,h.at_,fun j hj s hs=>?_⟩;by_cases e:j=k
  ·subst e;rcases hall s hs with h1|h1
   ·cases h1
   exact h1
  exact h.has j (by omega) s hs
 | s :: r, st, hw, h, hall => by
  rw [List.foldl_cons];refine aE8 hL r _ (fun x hx=>hw x (List.mem_cons_of_mem _ hx)) ?_ ?_
  ·have hsW:=hw s List.mem_cons_self;refine⟨?_,?_,?_,fun j hj t ht=>MG (.inr (h.has j hj t ht))⟩
   ·unfold JH
    split
    ·rw [uW];exact h.len
    exact h.len
   ·unfold JH
    split
    ·next j hj =>
     obtain ⟨a1,a2⟩:=h.at_ s j hj;exact h.snd.join (by rw [h.len];omega) (by rw [h.len];exact a1) (hL j s a1 hsW a2)
    exact h.snd
   intro t j;unfold JH
   split
   ·exact h.at_ t j
   next hn =>
   intro ht;have ht:lZ (st.2++[(s,k)]) t=some j:=ht;rw [CH] at ht
   split at ht
   ·next k2 hk2=>exact h.at_ t j (by rw [hk2];exact ht)
   by_cases e:s=t
   ·rw [aIq e] at ht;cases ht;exact⟨Nat.lt_succ_self _,e▸hsW⟩
   rw [aIp e] at ht;cases ht
  intro t ht;rcases hall t ht with h1|h1
  ·rcases aJD.1 h1 with rfl|h2
   ·exact .inr (MG (.inl rfl))
   exact .inl h2
  exact .inr (MG (.inr h1))
theorem Y1 {L:Nat→Nat→Prop} {W:Nat→List S} {n:Nat} (hL:∀ i j s,i < n→j < n→s∈W i→s∈W j→∀ f,Inv L f→f i=f j):∀ k,k≤n→I1 L W k k (tL W k)
 | 0,_=>⟨rfl,Snd.nil L,(fun s j h=>by cases h),fun j hj=>absurd hj (Nat.not_lt_zero _)⟩
 | k+1,hk=>by
  have h:=Y1 hL k (Nat.le_of_succ_le hk);rw [tL];refine aE8 (fun j s hj hs hs2=>hL k j s hk (by omega) hs hs2) (W k) _ (fun s hs=>hs) ⟨?_,?_,fun s j hj=>?_,h.has⟩ (fun s hs=>.inl hs)
  ·show ((tL W k).1++[k]).length=k+1;rw [aIs,h.len];rfl
  ·have:=h.snd.snoc;rw [h.len] at this;exact this
  obtain ⟨a,b⟩:=h.at_ s j hj;exact⟨by omega,b⟩
structure I2 (L:Nat→Nat→Prop) (F:List (S×Nat)) (N:Nat→List S) (n k:Nat) (u:List Nat):Prop where
 len:u.length=n
 snd:Snd L u
 same:∀ i,i < k→∀ s,s∈N i→∀ j,lZ F s=some j→top u i=top u j
theorem aBX {L:Nat→Nat→Prop} {F:List (S×Nat)} {N:Nat→List S} {n k:Nat} (hk:k < n) (hF:∀ s j,lZ F s=some j→j < n) (hL:∀ s j,s∈N k→lZ F s=some j→∀ f,Inv L f→f k=f j):∀ (ns:List S) (u:List Nat),(∀ s∈ns,s∈N k)→I2 L F N n k u→(∀ s,s∈N k→s∈ns∨∀ j,lZ F s=some j→top u k=top u j)→I2 L F N n (k+1) (ns.foldl (N9 F k) u)
 | [],u,_,h,hall=>by
  refine⟨h.len,h.snd,fun i hi s hs=>?_⟩;by_cases e:i=k
  ·subst e;rcases hall s hs with h1|h1
   ·cases h1
   exact h1
  exact h.same i (by omega) s hs
 | s :: r, u, hw, h, hall => by
  rw [List.foldl_cons];cases hg:lZ F s with
  | none =>
   have e:N9 F k u s=u:=by unfold N9;rw [hg]
   rw [e];refine aBX hk hF hL r u (fun x hx=>hw x (List.mem_cons_of_mem _ hx)) h (fun t ht=>?_);rcases hall t ht with h1|h1
   ·rcases aJD.1 h1 with rfl|h2
    ·exact .inr fun j hj=>by rw [hg] at hj;cases hj
    exact .inl h2
   exact .inr h1
  | some j =>
   have e:N9 F k u s=oI u k j:=by unfold N9;rw [hg]
   have hj:=hF s j hg;have hkl:k < u.length:=by rw [h.len];exact hk
   have hjl:j < u.length:=by rw [h.len];exact hj
   rw [e];refine aBX hk hF hL r _ (fun x hx=>hw x (List.mem_cons_of_mem _ hx)) ⟨by rw [uW];exact h.len,h.snd.join hkl hjl (hL s j (hw s List.mem_cons_self) hg),fun i hi t ht j2 hj2=>LO h.snd.ok hkl hjl (h.same i hi t ht j2 hj2)⟩ (fun t ht=>?_);rcases hall t ht with h1|h1
   ·rcases aJD.1 h1 with rfl|h2
    ·refine .inr fun j2 hj2=>?_;rw [hg] at hj2;cases hj2;exact W5 h.snd.ok hkl hjl
    exact .inl h2
   exact .inr fun j2 hj2=>LO h.snd.ok hkl hjl (h1 j2 hj2)
theorem YZ {L:Nat→Nat→Prop} {F:List (S×Nat)} {N:Nat→List S} {n:Nat} {u:List Nat} (hu:u.length=n) (hs:Snd L u) (hF:∀ s j,lZ F s=some j→j < n) (hL:∀ i s j,i < n→s∈N i→lZ F s=some j→∀ f,Inv L f→f i=f j):∀ k,k≤n→I2 L F N n k (wS F u N k)
 | 0,_=>⟨hu,hs,fun i hi=>absurd hi (Nat.not_lt_zero _)⟩
 | k+1,hk=>by
  have h:=YZ hu hs hF hL k (Nat.le_of_succ_le hk);rw [wS];exact aBX hk hF (fun s j=>hL k s j hk) (N k) _ (fun s hs=>hs) h (fun s hs=>.inl hs)
def KF (W N:Nat→List S) (n:Nat):List Nat:=wS (tL W n).2 (tL W n).1 N n
def aCI (W N:Nat→List S) (n i k:Nat):Prop:=i < n∧k < n∧∃ s,s∈N i∧s∈W k
def Lnk (W N:Nat→List S) (n:Nat) (i k:Nat):Prop:=aCI W N n i k∨aCI W N n k i
structure Cls (L:Nat→Nat→Prop) (f:Nat→Nat):Prop where
 le:∀ x,f x≤x
 inv:Inv L f
 sn:∀ g,Inv L g→∀ x,g (f x)=g x
theorem aC8 (W N:Nat→List S) (n:Nat) (hWN:∀ i s,s∈W i→s∈N i):Cls (Lnk W N n) (top (KF W N n))∧(KF W N n).length=n∧tZ (KF W N n):=by
 have h1:=Y1 (L:=Lnk W N n) (W:=W) (n:=n) (fun i j s hi hj hs1 hs2 f hf=>hf i j (.inl ⟨hi,hj,s,hWN i s hs1,hs2⟩)) n (aIx _);have h2:=YZ (L:=Lnk W N n) (N:=N) h1.len h1.snd (fun s j h=>(h1.at_ s j h).1) (fun i s j hi hs hj f hf=>hf i j (.inl ⟨hi,(h1.at_ s j hj).1,s,hs,(h1.at_ s j hj).2⟩)) n (aIx _);refine⟨⟨fun x=>zW h2.snd.ok x,?_,h2.snd.sn⟩,h2.len,h2.snd.ok⟩;have key:∀ i k,aCI W N n i k→top (KF W N n) i=top (KF W N n) k:=by
  rintro i k ⟨hi,hk,s,hs1,hs2⟩;have h3:=h1.has k hk s hs2;obtain ⟨j,hj⟩:=Option.isSome_iff_exists.1 h3;exact(h2.same i hi s hs1 j hj).trans (h2.same k hk s (hWN k s hs2) j hj).symm
 intro i k h;rcases h with h|h
 ·exact key i k h
 exact(key k i h).symm
theorem Cls.idem {L:Nat→Nat→Prop} {f:Nat→Nat} (h:Cls L f) (x:Nat):f (f x)=f x:=h.sn f h.inv x
theorem Cls.uniq {L:Nat→Nat→Prop} {f g:Nat→Nat} (h:Cls L f) (h2:Cls L g) (x:Nat):f x=g x:=RQ h.inv h2.inv h.sn h2.sn h.le h2.le x
end
end
def lR (f:Nat→Nat) (n:Nat):List Nat:=(List.range n).filter fun i=>f i=i
def FF (f:Nat→Nat) (n r:Nat):List Nat:=(List.range n).filter fun j=>f j=r
def i7 (f:Nat→Nat) (n:Nat):List (List Nat):=(lR f n).map (FF f n)
theorem DS {f:Nat→Nat} {n r:Nat}:r∈lR f n↔r < n∧f r=r:=by rw [lR,List.mem_filter,List.mem_range,aIy]
theorem NI {f:Nat→Nat} {n r j:Nat}:j∈FF f n r↔j < n∧f j=r:=by rw [FF,List.mem_filter,List.mem_range,aIy]
theorem MV (n:Nat):(List.range n).Pairwise (· < ·):=List.pairwise_lt_range
theorem BM (f:Nat→Nat) (n:Nat):(lR f n).Pairwise (· < ·):=List.Pairwise.filter _ (MV n)
theorem KS {l:List Nat} (h:l.Pairwise (· < ·)) {i j a b:Nat} (hij:i < j) (ha:l[i]?=some a) (hb:l[j]?=some b):a < b:=by obtain ⟨h1,rfl⟩:=aIv.1 ha;obtain ⟨h2,rfl⟩:=aIv.1 hb;exact List.pairwise_iff_getElem.1 h i j h1 h2 hij
theorem RZ {l:List Nat} (h:l.Pairwise (· < ·)) {i j a:Nat} (ha:l[i]?=some a) (hb:l[j]?=some a):i=j:=by
 rcases Nat.lt_trichotomy i j with h1|h1|h1
 ·exact absurd (KS h h1 ha hb) (Nat.lt_irrefl _)
 ·exact h1
 exact absurd (KS h h1 hb ha) (Nat.lt_irrefl _)
theorem ND {l:List Nat} (h:l.Pairwise (· < ·)):l.Nodup:=List.Pairwise.imp (fun h=>Nat.ne_of_lt h) h
end Go.Proofs.YtlnfjkdacimblaaGreatDoor
namespace Go.Proofs.YtlnfjkdacimblaaGreatDoor
open Go.Proofs.Tryz
open Go.Abs
def cM (e:GEdit):List ByteArray:=if e.op=1 then[e.obj.id] else if e.op=6∨e.op=7 then[e.id,e.other] else[e.id]
def sN (l:List GEdit) (i:Nat):List ByteArray:=((l[i]?).map cM).getD []
def tT (l:List GEdit) (i:Nat):List ByteArray:=((l[i]?).map eO).getD []
def uI (l:List GEdit):List Nat:=KF (sN l) (tT l) l.length
def gS (l:List GEdit):List (List Nat):=if eW l then i7 (top (uI l)) l.length else[]
theorem ME {e:GEdit} (hv:dA e=true) {s:ByteArray} (h:s∈cM e):s∈eO e:=by
 obtain ⟨⟨h1,h2⟩,h3,h4⟩:=nB.1 hv;rw [LH hv];rw [cM] at h;by_cases e1:e.op=1
 ·rw [aIq e1,aIu] at h;exact⟨by rw [h];simp [raw],h▸aA5 h3 e1⟩
 rw [aIp e1] at h;by_cases e6:e.op=6∨e.op=7
 ·rw [aIq e6] at h;rcases aJD.1 h with h|h
  ·exact⟨by rw [h];simp [raw],h▸UI h3 e1⟩
  rw [aIu] at h;exact⟨by rw [h];simp [raw],h▸SH h3 e6⟩
 rw [aIp e6,aIu] at h;exact⟨by rw [h];simp [raw],h▸UI h3 e1⟩
theorem qC {l:List GEdit} (h:eW l=true):0 < l.length∧l.length≤200∧∀ e∈l,dA e=true:=by rw [eW,aJA,aJA,aIy,aIy,aJK,List.any_eq_false] at h;obtain ⟨⟨h1,h2⟩,h3⟩:=h;exact⟨by omega,by omega,fun e he=>by have:=h3 e he;simpa using this⟩
theorem aGW {l:List GEdit} (h:eW l=true) (i:Nat) (s:ByteArray) (hs:s∈sN l i):s∈tT l i:=by
 rw [sN] at hs;rw [tT];cases e:l[i]? with
 | none=>rw [e] at hs;cases hs
 | some x =>
  rw [e] at hs;exact ME ((qC h).2.2 x (aJB e)) hs
def FQ (l:List GEdit):Nat→Nat→Prop:=Lnk (sN l) (tT l) l.length
theorem GN {l:List GEdit} (h:eW l=true):Cls (FQ l) (top (uI l))∧(uI l).length=l.length∧tZ (uI l):=aC8 _ _ _ (aGW h)
end Go.Proofs.YtlnfjkdacimblaaGreatDoor
namespace Go.Abs
section
section
variable {P:Program} {N:Nat} {o:Oper} {E:dG} {H:aE} {T:TypeId} {x y:Operand}
theorem MD {e:TypeId} (ho:o.op=.buildSlice T 1 #[(0,.const (.slice none 0 0))]) (hS:eH P T e 1):dQ P N o E H (.pv (.sl [[.nils]])) H:=by
 obtain ⟨hT,hs,hsz,z,hz⟩:=hS;intro a w I ι _ _ hrel he K Q hk;obtain ⟨a',ha'⟩:∃ a':Act,a'={a with tmps:=#[.slice none 0 0]}:=⟨_,rfl⟩;have he':mN w I ι H [(0,.pv .nils)] a':=fun t v ht=>by
  have:=gD ht;rw [aIu] at this;cases this;exact⟨.slice none 0 0,by rw [ha'];rfl,.pv .nils⟩
 obtain ⟨c2,k1,k2,_,k4⟩:=D8 (c:=(Array.range (1*1)).map (z.cells[· % z.cells.size]!)) (ps:=[(0,.tmp 0)]) (aps:=[(0,.pv .nils)]) (rows:=[[.pv .nils]]) (k:=0) he' 1 rfl rfl (fun r hr=>by
  rw [aIu] at hr;subst hr;rfl) (by rw [nK];simp)
 have hev:([((0:Nat),(Operand.tmp 0))].map fun p=>(p.1,a'.eval p.2))=[((0:Nat),Value.slice none 0 0)]:=by rw [ha'];rfl
 rw [hev] at k1;have hsz':c2.size=1:=by rw [k2,nK]
 have hrun:(Instr.buildSlice T 1 (#[((0:Nat),(Operand.const (.slice none 0 0)))].map fun p=>(p.1,a.eval p.2))).run P w=.ok (.slice (some ⟨w.heap.size,0,none⟩) 1 1) (w.alloc (.cells c2 e)):=by
  have h2:(#[((0:Nat),(Operand.const (.slice none 0 0)))].map fun p=>(p.1,a.eval p.2)).toList=[((0:Nat),Value.slice none 0 0)]:=by rw [Array.toList_map];rfl
  simp only [Instr.buildSlice,Sem.run_bind,run_underlying hT,Result.andThen_ok,hs,Sem.run_ite,show ¬ (1*1 > 2 ^ 24)by decide,if_false,show ¬ (1*1=0)by decide,hz,Sem.run_pure,h2,k1,newRow,run_newObj];rfl
 obtain ⟨m1,m2⟩:=Rel.newImm (c:=c2) (t:=e) (w':=w.alloc (.cells c2 e)) hrel rfl rfl rfl rfl;unfold Oper.wpW execOp;simp only [ho,Sem.run_bind,hrun,Result.andThen_ok,Sem.run_pure];refine hk _ _ _ ι _ _ ⟨rfl,rfl⟩ (.pv ?_) m1 m2;have hcell:∀ j,(w.alloc (.cells c2 e)).cell? ⟨w.heap.size,j,none⟩=c2[j]?:=fun j=>World.cell?_alloc_new w c2 e j;have hrow:∀ (i:Nat) (r:List PV),([[PV.nils]]:List (List PV))[i]?=some r→(([[PV.nils]]:List (List PV)).map (·.map AV.pv))[i]?=some (r.map .pv):=fun i r h=>by rw [aJL,h];rfl
 exact PRep.sl (w:=w.alloc (.cells c2 e)) (I:=fun b=>I b∨b=w.heap.size) w.heap.size 0 1 1 [[.nils]] (fun i k=>(c2[i*1+k]?).getD undef) (.inr rfl) Nat.zero_lt_one (fun r hr=>by rw [aIu] at hr;subst hr;rfl) (by simp)
  (fun i r hi k p hk=>by
   obtain ⟨u,q1,q2,q3⟩:=k4 i (r.map .pv) (hrow i r hi) k (.pv p) (by simp [hk]);rw [aJJ] at q1;rw [hcell,aJJ,q1];rfl)
  (fun i r hi k p hk=>by
   obtain ⟨u,q1,q2,q3⟩:=k4 i (r.map .pv) (hrow i r hi) k (.pv p) (by simp [hk]);rw [aJJ] at q1;rw [q1];exact(q3.mono hrel m2).pv_inv)
theorem dQ.nilown {t id sz:Nat} {ty:TypeId} {v:AV} {H2:aE} (hx:E.get t=some (.pv .nils)) (hid:H.get id=none) (hsz:Nat.blt 0 sz=true)
  (h:dQ P N o ((t,.osl id 0 0 0)::E) ((id,⟨0,sz,ty,[]⟩)::H) v H2):dQ P N o E H v H2:=by
 intro a w I ι _ hN hr he K Q hk;have hz:0 < sz:=by simpa [Nat.blt_eq] using hsz
 obtain ⟨c,hc,hv⟩:=he t _ hx;obtain ⟨k1,k2⟩:=Rel.adopt (sz:=sz) (ty:=ty) hr hid hz;have hvn:c=.slice none 0 0:=by
  have:=hv.pv_inv;cases this;rfl
 subst hvn;refine h a w I _ trivial hN k1 (fun u x hu=>?_) K Q (fun c' w' I' ι' r H' hR hv' hr' hs'=>hk c' w' I' ι' r H' hR hv' hr' (k2.trans hs'));by_cases e:t=u
 ·subst e;rw [dG.get_cons_same] at hu;cases hu;exact⟨_,hc,.osl ⟨0,sz,ty,[]⟩ (get_cons_same _ _ _) (aIx _) rfl fun _=>⟨hz,aIx _,.inr ⟨by simp,rfl,rfl,rfl⟩⟩⟩
 rw [dG.get_cons_other _ _ e] at hu;obtain ⟨c,h1,h2⟩:=he u x hu;exact⟨c,h1,h2.mono hr k2⟩
theorem JO {e:TypeId} {t m sz bytes id:Nat} {ps:List (List PV)} {rows':List (List AV)} (ho:o.op=.call {callee:=.builtin .append,args:=#[.tmp t,y],argTypes:=#[T,T]}) (hS:eH P T e sz) (hinf:EI P e sz bytes)
  (hx:E.get t=some (.pv .nils)) (hy:aW ((t,.osl id 0 0 0)::E) y=some (.pv (.sl ps))) (hrl:∀ r∈ps,r.length=sz) (hm:ps.length=m) (hbytes:m*bytes≤140737488355328) (hrows:ps.map (·.map AV.pv)=rows') (hid:H.get id=none) :
  dQ P N o E H (.osl id 1 0 m) ((id,⟨1,sz,e,rows'⟩)::(id,⟨0,sz,e,[]⟩)::H):=by
 have hz:0 < sz:=hS.2.2.1;refine dQ.nilown (id:=id) (sz:=sz) (ty:=e) hx hid (by simpa [Nat.blt_eq] using hz) ?_;exact c6 (ps:=ps) ho hS hinf (n:=0) (m:=m) (ob:=⟨0,sz,e,[]⟩) (by simp [aW,dG.get,jR]) (get_cons_same _ _ _) rfl rfl rfl rfl hy hrl hm (by rw [aJJ];exact hbytes) (aJJ _) (by simpa using hrows)
end
theorem aH.fin {P:Program} {f:FuncId} {args:List AV} {H:aE} {Q Q':AV→aE→Prop} (h:aH P f args H Q) (hq:∀ r H1,Q r H1→∃ r' H2,Fin H H1 r H2 r'∧Q' r' H2):aH P f args H Q' :=fun I ι w vs hr hl hv=>(h I ι w vs hr hl hv).mono fun _ w' ⟨r,H',I',ι',v,e,q,k1,k2,k3⟩=>by
  obtain ⟨r',H2,hf,hq'⟩:=hq r H' q;obtain ⟨I2,ι2,a1,a2,a3⟩:=hf ⟨I,ι,H,w⟩ rfl I' ι' w' v k2 k3 k1;exact⟨r',H2,I2,ι2,v,e,hq',a3,a1,a2⟩
end
end Go.Abs
namespace Go.Proofs.YtlnfjkdacimblaaGreatDoor
open Go.Proofs.Tryz
open Go.Abs
def gX (l:List Nat):List (List AV):=l.map fun(x:Nat)=>[iv (x:Int)]
theorem uY (l:List Nat):(gX l).length=l.length:=aIr _
theorem D4 (l:List Nat) (x:Nat):gX l++[[iv (x:Int)]]=gX (l++[x]):=by rw [gX,gX,List.map_append];rfl
theorem pA {l:List Nat} {i x:Nat} (h:l[i]?=some x):(gX l)[i]?=some [iv (x:Int)]:=by rw [gX,aJL,h];rfl
theorem mA (H:aE) (l:List Nat):∀ r∈gX l,∀ a∈r,Clo H a:=by intro r hr a ha;obtain ⟨d,_,rfl⟩:=List.mem_map.1 hr;rw [aIu] at ha;subst ha;simp
def gObU (g:List Nat):Ob:=⟨g.length,1,3,gX g⟩
def zC:Nat→List (List Nat)→aE
 | _,[]=>[]
 | n,g::r=>(n+960,gObU g)::zC (n+1) r
theorem oM:∀ (G:List (List Nat)) (n id:Nat),aE.get (zC n G) id=if n+960≤id then(G[id - (n+960)]?).map gObU else none
 | [],n,id=>by simp [zC,aE.get]
 | p::r,n,id=>by
  rw [zC];by_cases e:n+960=id
  ·subst e;rw [get_cons_same];simp
  rw [get_cons_other _ _ (Ne.symm e),oM r (n+1) id];by_cases h:n+960≤id
  ·rw [aIq h,aIq (by omega)];have e2:id - (n+960)=(id - (n+1+960))+1:=by omega
   rw [e2,List.getElem?_cons_succ]
  rw [aIp h,aIp (by omega)]
theorem IN:∀ (G:List (List Nat)) (n:Nat) (q:Nat×Ob),q∈zC n G→∃ j g,G[j]?=some g∧q=(n+j+960,gObU g)
 | [],_,_,h=>by cases h
 | p::r,n,q,h=>by
  rw [zC] at h;rcases aJD.1 h with rfl|h
  ·exact⟨0,p,rfl,rfl⟩
  obtain ⟨j,g,h1,h2⟩:=IN r (n+1) q h;exact⟨j+1,g,by simpa using h1,by rw [h2];congr 1;omega⟩
def kA:Nat→List (List Nat)→List (List AV)
 | _,[]=>[]
 | n,g::r=>[.osl (n+960) g.length 0 g.length]::kA (n+1) r
theorem nJ:∀ (G:List (List Nat)) (n k:Nat),(kA n G)[k]?=(G[k]?).map fun g=>[.osl (n+k+960) g.length 0 g.length]
 | [],_,_=>by simp [kA]
 | g::r,n,0=>by simp [kA]
 | g::r,n,k+1=>by
  rw [kA,List.getElem?_cons_succ,List.getElem?_cons_succ,nJ r (n+1) k];have e:n+1+k=n+(k+1):=by omega
  rw [e]
theorem j9:∀ (G:List (List Nat)) (n:Nat),(kA n G).length=G.length
 | [],_=>rfl
 | g::r,n=>by rw [kA,aIt,aIt,j9 r]
theorem WY (G:List (List Nat)) (g:List Nat):kA 0 (G++[g])=(kA 0 G++[[AV.pv .nils]]).set G.length [.osl (0+G.length+960) g.length 0 g.length]:=by
 refine List.ext_getElem? fun k=>?_;rw [nJ,List.getElem?_set,aIs,j9];by_cases e:G.length=k
 ·subst e;rw [aIq rfl,aIq (by simp),List.getElem?_append_right (aIx _),Nat.sub_self];rfl
 rw [aIp e];by_cases h:k < G.length
 ·rw [List.getElem?_append_left h,List.getElem?_append_left (by rw [j9];exact h),nJ]
 rw [List.getElem?_eq_none (by simp;omega),List.getElem?_eq_none (by simp [j9];omega)];rfl
theorem WW (G:List (List Nat)) (k:Nat) (g:List Nat):kA 0 (G.set k g)=(kA 0 G).set k [.osl (0+k+960) g.length 0 g.length]:=by
 refine List.ext_getElem? fun j=>?_;rw [nJ,List.getElem?_set,List.getElem?_set,j9];by_cases e:k=j
 ·subst e;rw [aIq rfl,aIq rfl];by_cases h:k < G.length
  ·rw [aIq h,aIq h];rfl
  rw [aIp h,aIp h];rfl
 rw [aIp e,aIp e,nJ]
theorem WX {H:aE} {G:List (List Nat)} (h:∀ j,j < G.length→(H.get (0+j+960)).isSome=true):∀ r∈kA 0 G,∀ a∈r,Clo H a:=by
 intro r hr a ha;obtain ⟨k,hk⟩:=aJM.1 hr;rw [nJ] at hk;cases e:G[k]? with
 | none=>rw [e] at hk;cases hk
 | some g =>
  rw [e] at hk;obtain rfl:=Option.some.inj hk;rw [aIu] at ha;subst ha;exact .osl (h k (aIv.1 e).1)
def mI (l:List (Int×AV)):Ob:=⟨0,0,l.length,k6 (vY .i64) l⟩
def L6:Nat→List Nat→List (Int×AV)
 | _,[]=>[]
 | n,r::R=>((r:Int),iv (n:Int))::L6 (n+1) R
theorem VD:∀ (R:List Nat) (n i:Nat),i∉R→oH (L6 n R) (i:Int) (iv ((n+R.length:Nat):Int))=L6 n (R++[i])
 | [],_,_,_=>rfl
 | r::R,n,i,h=>by
  rw [aJD,not_or] at h;have e:n+(r::R).length=n+1+R.length:=by rw [aIt];omega
  rw [L6,oH,aIp (fun e=>h.1 (by omega)),e,VD R (n+1) i h.2];rfl
theorem N3:∀ (R:List Nat) (n k r:Nat),R.Nodup→R[k]?=some r→nO (L6 n R) (r:Int)=some (iv ((n+k:Nat):Int))
 | [],_,_,_,_,h=>by cases h
 | q::R,n,0,r,_,h=>by
  obtain rfl:q=r:=by simpa using h
  rw [L6,nO,aIq rfl];rfl
 | q::R,n,k+1,r,hd,h=>by
  rw [List.nodup_cons] at hd;have hr:R[k]?=some r:=by simpa using h
  have hne:(q:Int)≠(r:Int):=fun e=>hd.1 (by rw [Int.ofNat_inj.1 e];exact aJB hr);have e:n+1+k=n+(k+1):=by omega
  rw [L6,nO,aIp hne,N3 R (n+1) k r hd.2 hr,e]
def FH (g:List Nat):List PV:=[DE (g.map fun(x:Nat)=>(x:Int))]
def j5 (G:List (List Nat)):PV:=.sl (G.map FH)
def oT (G:List (List Nat)):List (List AV):=G.map fun g=>(FH g).map .pv
theorem C2 (G:List (List Nat)):(oT G).length=G.length:=aIr _
def AK (g:Nat) (rows:List (List AV)):Ob:=⟨g,1,42,rows⟩
def NH (k:Nat) (G:List (List Nat)):List (List AV):=oT (G.take k)++kA k (G.drop k)
theorem PW (k:Nat) (G:List (List Nat)) (hk:k≤G.length) (i:Nat):(NH k G)[i]?=(G[i]?).map fun g=>if i < k then(FH g).map .pv else[.osl (i+960) g.length 0 g.length]:=by
 rw [NH];have hl:(oT (G.take k)).length=k:=by rw [C2,aJF];omega
 by_cases h:i < k
 ·rw [List.getElem?_append_left (by omega),oT,aJL,List.getElem?_take_of_lt h];simp only [h,if_true]
 rw [List.getElem?_append_right (by omega),hl,nJ,List.getElem?_drop];have e:k+(i - k)=i:=by omega
 rw [e];simp only [h,if_false]
theorem PU (k:Nat) (G:List (List Nat)) (hk:k≤G.length):(NH k G).length=G.length:=by rw [NH,aIs,C2,j9,aJF,aJG];omega
def B5 (m k:Nat) (G:List (List Nat)):aE:=(905,AK m (NH k G))::zC k (G.drop k)
theorem QL {H H':aE} {id g:Nat} {ps:List (List PV)}:∀ {L:aE},(∀ p∈L,H.get p.1=some p.2∧∀ r∈p.2.rows,∀ a∈r,Clo H' a)→FOk H H' id g ps L
 | [],_=>trivial
 | (j,o)::L,h=>⟨⟨o,(h _ (List.mem_cons_self ..)).1,rfl,rfl,rfl,iI (h _ (List.mem_cons_self ..)).2⟩,QL fun p hp=>h p (List.mem_cons_of_mem _ hp)⟩
theorem aBP (g:List Nat):gX g=(g.map fun(x:Nat)=>encInt (x:Int)).map (·.map .pv):=by rw [List.map_map];rfl
theorem aDr {t m:Nat} {G:List (List Nat)} {k:Nat} (hk:k < G.length):cY [] [(t,.osl 905 m 0 G.length)] (B5 m k G) [(t,.osl 905 m 0 G.length)] (B5 m (k+1) G):=by
 obtain ⟨g,hg⟩:∃ g,G[k]?=some g:=⟨_,aIw hk⟩;have hd:G.drop k=g::G.drop (k+1):=by
  rw [List.drop_eq_getElem_cons hk];congr 1;rw [aIw hk] at hg;exact Option.some.inj hg
 have hid:aE.get (B5 m k G) (k+960)=some (gObU g):=by
  rw [B5,get_cons_other _ _ (by omega),oM,aIq (aIx _),Nat.sub_self,hd];rfl
 have hin:∀ j,k < j→j < G.length→(aE.get (B5 m (k+1) G) (j+960)).isSome=true:=fun j h1 h2=>by
  rw [B5,get_cons_other _ _ (by omega),oM,aIq (by omega),List.getElem?_drop];have e:k+1+(j+960 - (k+1+960))=j:=by omega
  rw [e,aIw h2];rfl
 refine cY.fzG (id:=k+960) (g.map fun(x:Nat)=>encInt (x:Int)) hid (aBP g) ?_ ?_ ?_ trivial
 ·intro p hp;rw [aIu] at hp;subst hp;exact⟨_,by simp [dG.get,jR],.same (.osl (by rw [B5,get_cons_same];rfl))⟩
 ·rw [B5,get_cons_other _ _ (by omega),oM,aIp (by omega)]
 refine⟨⟨_,get_cons_same _ _ _,rfl,rfl,rfl,?_,fun i r' hi=>?_⟩,QL fun p hp=>?_⟩
 ·show (NH (k+1) G).length=(NH k G).length;rw [PU _ _ hk,PU _ _ (Nat.le_of_lt hk)]
 ·have hi:(NH (k+1) G)[i]?=some r':=hi;rw [PW _ _ hk] at hi;obtain ⟨x,hx,rfl⟩:=Option.map_eq_some_iff.1 hi;have hil:=(aIv.1 hx).1;refine⟨_,(PW k G (Nat.le_of_lt hk) i).trans (by rw [hx];rfl),?_,?_⟩
  ·dsimp only;by_cases h1:i < k
   ·rw [aIq h1,aIq (by omega)]
   by_cases h2:i < k+1
   ·rw [aIp h1,aIq h2];rfl
   rw [aIp h1,aIp h2]
  intro q a a' ha ha';dsimp only at ha ha';by_cases h1:i < k
  ·rw [aIq h1] at ha;rw [aIq (by omega),ha] at ha';cases ha';obtain ⟨p,_,rfl⟩:=List.mem_map.1 (aJB ha);exact .same (.pv _)
  by_cases h2:i < k+1
  ·obtain rfl:i=k:=by omega
   rw [hg] at hx;cases hx;rw [aIp h1] at ha;rw [aIq h2] at ha'
   match q,ha,ha' with
   | 0,ha,ha' =>
    cases ha;cases ha';refine .osl ?_;rw [aJJ,List.drop_zero,List.take_of_length_le (by rw [aIr];exact aIx _),List.map_map];rfl
  rw [aIp h1] at ha;rw [aIp h2,ha] at ha';cases ha';have:=aJB ha;rw [aIu] at this;subst this;exact .same (.osl (hin i (by omega) hil))
 obtain ⟨j,x,h1,rfl⟩:=IN _ _ _ hp;rw [List.getElem?_drop] at h1;refine⟨?_,mA _ _⟩;rw [B5,get_cons_other _ _ (by omega),oM,aIq (by omega),List.getElem?_drop];have e:k+(k+1+j+960 - (k+960))=k+1+j:=by omega
 rw [e,h1];rfl
theorem aBZ {t m:Nat} {G:List (List Nat)}:∀ k,k≤G.length→cY [] [(t,.osl 905 m 0 G.length)] (B5 m 0 G) [(t,.osl 905 m 0 G.length)] (B5 m k G)
 | 0,_=>cY.refl
 | k+1,h=>(aBZ k (Nat.le_of_succ_le h)).trans (aDr h)
theorem aDs {t m:Nat} (G:List (List Nat)):cY [] [(t,.osl 905 m 0 G.length)] ((905,AK m (kA 0 G))::zC 0 G) [(t,.osl 905 m 0 G.length)] [(905,AK m (oT G))]:=by
 have h:=aBZ (t:=t) (m:=m) (G:=G) G.length (aIx _);have e1:B5 m 0 G=(905,AK m (kA 0 G))::zC 0 G:=rfl;have e2:B5 m G.length G=[(905,AK m (oT G))]:=by
  rw [B5,NH,List.take_length,List.drop_length];simp [kA,zC]
 rw [e1,e2] at h;exact h
theorem YU (e:GEdit) (H:aE):aH Tryz.prog 45 [av (aJ e)] H (fun r H'=>r=.pv (cS (cM e))∧H'=H):=by
 refine Pu ?_;refine Bd func45 rfl ntmps45<|Sr<|Dd (by exact cE (id:=1) rfl rfl rfl rfl rfl)<|Dd aO<|Zz<|Sq<|Sr<|Dd (bH fG)<|Dd (cA isAgg3)<|Zz<|aF<|Sr<|Dd cI<|Da ?_;refine Cn ?_ ?_<;>intro hc1
 ·have h1:e.op=1:=aIn hc1;have hW:cM e=[e.obj.id]:=by rw [cM,aIq h1]
  rw [hW];exact Sr<|Dd (bH iR)<|Dd (bH eK)<|Dd (cA isAgg9)<|Dd (by exact aT [encStr e.obj.id] rfl cC rfl rfl rfl rfl rfl (by intro r hr;rw [aIu] at hr;subst hr;rfl))<|Dd aO<|Zz<|aC<|Rt<|Qq
 have h1:¬ e.op=1:=aIo hc1;refine Sq<|Sr<|Dd cI<|Da ?_;refine Cn ?_ ?_<;>intro hc2
 ·have h6:e.op=6:=aIn hc2;have hW:cM e=[e.id,e.other]:=by rw [cM,aIp h1,aIq (.inl h6)]
  rw [hW];refine aB ?_;refine Cn ?_ ?_<;>intro hc3
  ·exact Sr<|Dd (bH eX)<|Dd (cA isAgg9)<|Dd (bH fR)<|Dd (cA isAgg9)<|Dd (by exact aT [encStr e.id,encStr e.other] rfl cC rfl rfl rfl rfl rfl (by intro r hr;simp only [aJD,aJH,or_false] at hr;rcases hr with rfl|rfl<;>rfl))<|Dd aO<|Zz<|aC<|Rt<|Qq
  ((revert hc3;simp_all;done))
 have h6:¬ e.op=6:=aIo hc2;refine Rg<|Dd cI<|Da ?_;refine Cn ?_ ?_<;>intro hc4
 ·have h7:e.op=7:=aIn hc4;have hW:cM e=[e.id,e.other]:=by rw [cM,aIp h1,aIq (.inr h7)]
  rw [hW];exact Sr<|Dd (bH eX)<|Dd (cA isAgg9)<|Dd (bH fR)<|Dd (cA isAgg9)<|Dd (by exact aT [encStr e.id,encStr e.other] rfl cC rfl rfl rfl rfl rfl (by intro r hr;simp only [aJD,aJH,or_false] at hr;rcases hr with rfl|rfl<;>rfl))<|Dd aO<|Zz<|aC<|Rt<|Qq
 have h7:¬ e.op=7:=aIo hc4;have hW:cM e=[e.id]:=by rw [cM,aIp h1,aIp (by rintro(h|h);exact h6 h;exact h7 h)]
 rw [hW];exact aB<|Sr<|Dd (bH eX)<|Dd (cA isAgg9)<|Dd (by exact aT [encStr e.id] rfl cC rfl rfl rfl rfl rfl (by intro r hr;rw [aIu] at hr;subst hr;rfl))<|Dd aO<|Zz<|aC<|Rt<|Qq
def uO (u:List Nat):Ob:=⟨u.length,1,3,gX u⟩
def sO (u:List Nat):Ob:=bx 2 82 [.osl 910 u.length 0 u.length,.mp 911 0]
def OF (F:List (ByteArray×Nat)):List (ByteArray×AV):=F.map fun p=>(p.1,iv (p.2:Int))
def fO (F:List (ByteArray×Nat)):Ob:=⟨0,0,(OF F).length,k6 oW (OF F)⟩
def sH (u:List Nat) (F:List (ByteArray×Nat)):aE:=[(910,uO u),(911,fO F),(1,sO u)]
theorem OO {u:List Nat} {i:Nat} (h:i < u.length):u[i]?=some (l6 u i):=by rw [l6,List.getD_eq_getElem?_getD,aIw h];rfl
theorem ZF (u:List Nat) (i:Nat) (H:aE) (h1:H.get 1=some (sO u)) (h2:H.get 910=some (uO u)) (hok:tZ u) (hi:i < u.length) (hl:u.length < 1099511627776) :
  aH Tryz.prog 48 [.ref 1 0 0 0,iv (i:Int)] H (fun r H'=>r=iv (top u i:Int)∧H'=H):=by
 refine Bd func48 rfl ntmps48<|Sr<|Dd aO<|Zz<|Sq<|aF ?_;refine bG (σ:=Nat) (fun j=>([(0,.ref 1 0 0 0),(1,iv (j:Int))],H)) (fun j=>j < u.length∧top u j=top u i) (fun j=>j) i ⟨hi,rfl⟩ ?_ ?_
 ·exact E0
 rintro j ⟨hj,ht⟩;have hg:=pA (OO hj);have hil:(gX u).length=u.length:=uY u;have hup:=hok j;refine Sq<|Sr<|Dd aD<|Dd (by exact dS rfl rfl h1 rfl)<|Dd (by exact cJ rfl IK rfl h1 rfl rfl)<|Dd (by exact aR rfl kJ rfl h1 rfl rfl rfl)<|Dd aD<|Dd (by exact cG rfl lP rfl h2 rfl rfl rfl (by omega) (by exact aJC _) hj (aJJ _))<|Dd (by exact aR rfl isAgg3 rfl h2 rfl hg rfl)<|Dd aD<|Dd tU<|Zz ?_;refine Cn ?_ ?_<;>intro hc1
 ·have hne:l6 u j≠j:=by have:=hc1;simp only [aJK,aIz] at this;omega
  refine aB<|aF<|Rg<|Dd aD<|Dd (by exact dS rfl rfl h1 rfl)<|Dd (by exact cJ rfl IK rfl h1 rfl rfl)<|Dd (by exact aR rfl kJ rfl h1 rfl rfl rfl)<|Dd aD<|Dd (by exact cG rfl lP rfl h2 rfl rfl rfl (by omega) (by exact aJC _) hj (aJJ _))<|Dd (by exact aR rfl isAgg3 rfl h2 rfl hg rfl)<|Da ?_;exact⟨l6 u j,⟨by omega,by rw [← ht,GO hok hne]⟩,by omega,E0⟩
 have heq:l6 u j=j:=by have:=hc1;simp only [Bool.not_eq_false',aIy] at this;omega
 refine aZ<|Sr<|Dd aD<|Dd aO<|Zz<|aC ?_;refine cZ (H':=H) (.inr rfl) rfl (aN rfl) Fin.refl ?_;exact⟨by rw [← ht,lO hok heq],rfl⟩
theorem D3 (u:List Nat) (M m:Nat):(gX u).set M [iv (m:Int)]=gX (u.set M m):=by rw [gX,gX,List.map_set]
theorem UX (u:List Nat) (F:List (ByteArray×Nat)) (a b:Nat) (hok:tZ u) (ha:a < u.length) (hb:b < u.length) (hl:u.length < 1099511627776) :
  aH Tryz.prog 46 [.ref 1 0 0 0,iv (a:Int),iv (b:Int)] (sH u F) (fun r H'=>r=.tup []∧H'=sH (oI u a b) F):=by
 have hta:=zW hok a;have htb:=zW hok b;have hil:(gX u).length=u.length:=uY u;have hM:max (top u a) (top u b) < u.length:=by omega
 have e:sH (oI u a b) F=(910,⟨u.length,1,3,gX (oI u a b)⟩)::[(911,fO F),(1,sO u)]:=by rw [sH,uO,sO,uW];rfl
 rw [e];refine Bd func46 rfl ntmps46<|Sr<|Dd aD<|Dd aD<|Dd (by exact aA rfl rfl aId rfl (ZF u a _ rfl rfl hok ha hl))<|Dd aD<|Dd aD<|Dd (by exact aA rfl rfl aId rfl (ZF u b _ rfl rfl hok hb hl))<|Dd aO<|Dd aO<|Zz<|Rg<|Dd aD<|Dd pY<|Dd (bH IK)<|Dd (cA kJ)<|Dd aD<|Dd aD<|Dd (by exact M7 rfl rfl rfl (show max ((top u a:Nat):Int) ((top u b:Nat):Int)=((max (top u a) (top u b):Nat):Int)by omega))<|Dd aD<|Dd aD<|Dd (by exact sZ rfl rfl rfl (show min ((top u a:Nat):Int) ((top u b:Nat):Int)=((min (top u a) (top u b):Nat):Int)by omega))<|Dd (by exact cG rfl lP rfl rfl rfl rfl rfl (by omega) (by exact aJC _) hM (aJJ _))<|Uu (by exact bW rfl sizeOf3 rfl rfl rfl rfl rfl (pA (OO hM)) (by simp) rfl (D3 u _ _))<|Zz ?_;exact qT (H':=(910,⟨u.length,1,3,gX (oI u a b)⟩)::[(911,fO F),(1,sO u)]) (.inl rfl) rfl (Fin.get' (pP _ _ _ _)) ⟨rfl,rfl⟩
end Go.Proofs.YtlnfjkdacimblaaGreatDoor
