/-
  Parts of the proof: rules of an abstract program logic, contracts of functions, plain laws. Conditions: each theorem's own.
-/
import Derived.Test.YtiifmppaejpemaaGreatDoorKR2M10
set_option linter.unusedVariables false
set_option linter.unusedSimpArgs false
set_option maxRecDepth 100000
set_option maxHeartbeats 8000000
namespace Go.Proofs
theorem aNm:type_of% Tryz.call13:=Tryz.call13
theorem aNU:type_of% Tryz.call167:=Tryz.call167
theorem AP:type_of% Tryz.call53:=Tryz.call53
theorem S8:type_of% Tryz.call83:=Tryz.call83
theorem eB:type_of% Tryz.isAgg85:=Tryz.isAgg85
end Go.Proofs
namespace Go.Proofs.YtiifmppaejpemaaGreatDoor
open Go.Proofs.Tryz
open Go.Abs
theorem R8 {α:Type} (f:List UInt8→Option (α×List UInt8)) (P:α→Prop) (b:Nat) (hf:∀ l x q,l.length≤b→f l=some (x,q)→q.length < l.length∧P x):∀ (n:Nat) (l:List UInt8) (xs:List α) (q:List UInt8),l.length≤b→CH f n l=some (xs,q)→q.length+xs.length≤l.length∧∀ x∈xs,P x
 | 0,l,xs,q,_,h=>by rw [CH] at h;cases h;simp
 | n+1,l,xs,q,hb,h=>by
  rw [CH] at h;cases hf':f l with
  | none=>rw [hf'] at h;cases h
  | some p =>
   obtain ⟨x,r⟩:=p;obtain ⟨h1,h2⟩:=hf l x r hb hf';rw [hf'] at h;simp only at h;cases hr:CH f n r with
   | none=>rw [hr] at h;cases h
   | some p2 =>
    obtain ⟨ys,q2⟩:=p2;rw [hr] at h;cases h;obtain ⟨k1,k2⟩:=R8 f P b hf n r ys _ (by omega) hr;refine⟨by rw [aOB];omega,fun y hy=>?_⟩;rcases aOL.1 hy with rfl|hy
    ·exact h2
    exact k2 y hy
theorem vI {l q:List UInt8} {xs:List ByteArray} (h:uU iJ l=some (xs,q)):q.length+xs.length < l.length∧∀ x∈xs,x.size≤l.length:=by
 rw [uU] at h;cases hn:nL l with
 | none=>rw [hn] at h;cases h
 | some p =>
  obtain ⟨n,r⟩:=p;rw [hn] at h;have h1:=(iE hn).1;obtain ⟨k1,k2⟩:=R8 iJ (fun x=>x.size≤r.length) r.length (fun l x q hb hx=>by have:=iZ hx;exact⟨by omega,by omega⟩) n.toNat r xs q (aOF _) h;exact⟨by omega,fun x hx=>Nat.le_trans (k2 x hx) (by omega)⟩
theorem aAD {l q:List UInt8} {p:Int×Int} (h:GW l=some (p,q)):q.length < l.length∧(qT p.1∧qT p.2):=by
 rw [GW] at h;cases hn:nL l with
 | none=>rw [hn] at h;cases h
 | some z =>
  obtain ⟨x,r⟩:=z;rw [hn] at h;simp only at h;cases hm:nL r with
  | none=>rw [hm] at h;cases h
  | some z2 =>
   obtain ⟨y,r2⟩:=z2;rw [hm] at h;cases h;have h1:=iE hn;have h2:=iE hm;exact⟨by omega,h1.2,h2.2⟩
theorem aAN {l q:List UInt8} {xs:List (Int×Int)} (h:uU GW l=some (xs,q)):q.length+xs.length < l.length∧∀ x∈xs,qT x.1∧qT x.2:=by
 rw [uU] at h;cases hn:nL l with
 | none=>rw [hn] at h;cases h
 | some p =>
  obtain ⟨n,r⟩:=p;rw [hn] at h;have h1:=(iE hn).1;obtain ⟨k1,k2⟩:=R8 GW (fun x=>qT x.1∧qT x.2) r.length (fun l x q hb hx=>aAD hx) n.toNat r xs q (aOF _) h;exact⟨by omega,k2⟩
def slA (l:List UInt8):Option (AV×List UInt8):=(RI l).map fun p=>(av (jC p.1),p.2)
theorem Z2 (l:List UInt8) (hl:l.length < 1000000000):AW 55 [LA] [] l (slA l):=by
 refine AW.of (yL l) rfl (by simp;rfl) ?_;have hnu:=lP l hl;have hli:=fun q (hq:q.length < 1000000000)=>SA q hq;have hs:slA l=(match nL l with
  | none=>none
  | some (i,r)=>match uU iJ r with
   | none=>none
   | some (a,q)=>match uU iJ q with
    | none=>none
    | some (b,p)=>some (.agg [iv i,.pv (aX a),.pv (aX b)],p)):=by
  rw [slA,RI];cases nL l with
  | none=>rfl
  | some p =>
   obtain ⟨i,r⟩:=p;simp only;cases uU iJ r with
   | none=>rfl
   | some p =>
    obtain ⟨a,q⟩:=p;simp only;cases uU iJ q with
    | none=>rfl
    | some p=>rfl
 rw [hs];rw [wN] at hnu;have hlen:=fun n q=>iE (l:=l) (x:=n) (q:=q);obtain ⟨O,hO⟩:∃ O,O=nL l:=⟨_,rfl⟩;rw [← hO] at hnu hlen ⊢;clear hO hs;refine eV.body func55 rfl ntmps55 (aOM rfl) ?_;refine Sr<|Dd (by exact bU (id:=2) rfl aAk rfl rfl)<|Zz<|Sq ?_;rcases O with _|⟨i,q1⟩
 ·have hn:AW 52 [LA] [] l none:=hnu;refine fK ?_;refine gL rfl rfl rfl (by exact fO rfl rfl) ?_;exact nZ rfl rfl (eD rfl rfl gW rfl (hn.no rfl (eZ _))) (fun ch H' h=>by obtain ⟨rfl,q,rfl⟩:=h;exact BZ (H':=kN q) (Fin.wk (by simp) (Hb<|trivial) ⟨rfl,trivial⟩) ⟨rfl,rfl,q,rfl⟩)
 have hn:AW 52 [LA] [] l (some (iv i,q1)):=hnu;have h1:=(hlen i q1 rfl).1;have hl1:=hli q1 (by omega);rw [YA] at hl1;have hlen2:=fun xs q=>vI (l:=q1) (xs:=xs) (q:=q);simp only;obtain ⟨O,hO⟩:∃ O,O=uU iJ q1:=⟨_,rfl⟩;rw [← hO] at hl1 hlen2 ⊢;clear hO;rcases O with _|⟨a,q2⟩
 ·have hl1:AW 53 [LA,nxB] [] q1 none:=hl1;refine fK ?_;refine gL rfl rfl rfl (by exact fO rfl rfl) ?_;refine gL rfl rfl rfl (by exact aA rfl rfl gW rfl (hn.yes rfl (eZ _))) ?_;refine gL rfl rfl rfl (by exact fO rfl rfl) ?_;refine gL rfl rfl rfl (by exact fO rfl rfl) ?_;refine gL rfl rfl rfl (by exact mR rfl rfl) ?_;exact nZ rfl rfl (eD rfl rfl AP rfl (hl1.no rfl (eZ _))) (fun ch H' h=>by obtain ⟨rfl,q,rfl⟩:=h;exact BZ (H':=kN q) (Fin.wk (by simp) (Hb<|trivial) ⟨rfl,trivial⟩) ⟨rfl,rfl,q,rfl⟩)
 have hl1:AW 53 [LA,nxB] [] q1 (some (.pv (aX a),q2)):=hl1;have h2:=(hlen2 a q2 rfl).1;have hl2:=hli q2 (by omega);rw [YA] at hl2;have hlen3:=fun xs q=>vI (l:=q2) (xs:=xs) (q:=q);simp only;obtain ⟨O,hO⟩:∃ O,O=uU iJ q2:=⟨_,rfl⟩;rw [← hO] at hl2 hlen3 ⊢;clear hO;rcases O with _|⟨b,q3⟩
 ·have hl2:AW 53 [LA,nxB] [] q2 none:=hl2;refine fK ?_;refine gL rfl rfl rfl (by exact fO rfl rfl) ?_;refine gL rfl rfl rfl (by exact aA rfl rfl gW rfl (hn.yes rfl (eZ _))) ?_;refine gL rfl rfl rfl (by exact fO rfl rfl) ?_;refine gL rfl rfl rfl (by exact fO rfl rfl) ?_;refine gL rfl rfl rfl (by exact mR rfl rfl) ?_;refine gL rfl rfl rfl (by exact aA rfl rfl AP rfl (hl1.yes rfl (eZ _))) ?_;refine gL rfl rfl rfl (by exact fO rfl rfl) ?_;refine gL rfl rfl rfl (by exact fO rfl rfl) ?_;refine gL rfl rfl rfl (by exact mR rfl rfl) ?_;exact nZ rfl rfl (eD rfl rfl AP rfl (hl2.no rfl (eZ _))) (fun ch H' h=>by obtain ⟨rfl,q,rfl⟩:=h;exact BZ (H':=kN q) (Fin.wk (by simp) (Hb<|trivial) ⟨rfl,trivial⟩) ⟨rfl,rfl,q,rfl⟩)
 have hl2:AW 53 [LA,nxB] [] q2 (some (.pv (aX b),q3)):=hl2;refine Rg<|Dd aF<|Dd (by exact aA rfl rfl gW rfl (hn.yes rfl (eZ _)))<|Dd aF<|Dd aF<|Dd (by exact mR rfl rfl)<|Dd (by exact aA rfl rfl AP rfl (hl1.yes rfl (eZ _)))<|Dd aF<|Dd aF<|Dd (by exact mR rfl rfl)<|Dd (by exact aA rfl rfl AP rfl (hl2.yes rfl (eZ _)))<|Dd (uQ aHl)<|Uu (kQ sizeOf25)<|Zz<|aC ?_;refine HY ?_;refine dY (H':=(kN q3)) (.inr rfl) rfl (fV rfl fM sizeOf25 rfl rfl rfl (by simp only [Zl,encStr];rfl) rfl) (Fin.wk (by simp [NA]) (Hb<|trivial) ⟨rfl,trivial⟩) ?_;exact⟨_,rfl,rfl,rfl⟩
abbrev inO:Ob:=bx 1 85 [LA]
abbrev inH:aB:=[(4,inO)]
theorem aAX {H:aB} (h:(H.get 980).isSome=true):∀ r∈inO.rows,∀ a∈r,Clo H a:=by intro r hr a ha;simp only [inO,bx,aOC] at hr;subst hr;rw [aOC] at ha;subst ha;rw [qW];exact h
theorem ME (l:List UInt8):eG (kN l++inH):=eG.ofL ⟨RR l _,aAX rfl,trivial⟩
def ptA (l:List UInt8):Option (AV×List UInt8):=(GW l).map fun p=>(av (gP p.1),p.2)
theorem aD6 (l:List UInt8) (hl:l.length < 1000000000):AW 57 [.ref 4 0 0 0] inH l (ptA l):=by
 refine AW.of (ME l) rfl (by simp;rfl) ?_;have hnu:=lP l hl;have hnu2:=fun q (hq:q.length < 1000000000)=>lP q hq;have hlen:=fun n q=>iE (l:=l) (x:=n) (q:=q);have hs:ptA l=(match nL l with
  | none=>none
  | some (x,r)=>match nL r with
   | none=>none
   | some (y,q)=>some (.agg [iv x,iv y],q)):=by
  rw [ptA,GW];cases nL l with
  | none=>rfl
  | some p =>
   obtain ⟨i,r⟩:=p;simp only;cases nL r with
   | none=>rfl
   | some p=>rfl
 obtain ⟨x,q1,hx⟩:∃ x q1,(nL l).getD (0,l)=(x,q1):=⟨_,_,rfl⟩;obtain ⟨y,q2,hy⟩:∃ y q2,(nL q1).getD (0,q1)=(y,q2):=⟨_,_,rfl⟩;have hq1:q1.length≤l.length:=by
  cases e:nL l with
  | none=>rw [e] at hx;cases hx;exact aOF _
  | some p=>rw [e] at hx;cases hx;exact Nat.le_of_lt (hlen _ _ e).1
 have hx2:(wN l).getD (iv 0,l)=(iv x,q1):=by
  rw [wN];cases e:nL l with
  | none=>rw [e] at hx;cases hx;rfl
  | some p=>rw [e] at hx;cases hx;rfl
 have hy2:(wN q1).getD (iv 0,q1)=(iv y,q2):=by
  rw [wN];cases e:nL q1 with
  | none=>rw [e] at hy;cases hy;rfl
  | some p=>rw [e] at hy;cases hy;rfl
 have hA1:wN l=none→ptA l=none:=fun e=>by
  rw [wN,Option.map_eq_none_iff] at e;rw [hs,e]
 have hA2:(wN l).isSome=true→wN q1=none→ptA l=none:=fun e e2=>by
  rw [wN,Option.map_eq_none_iff] at e2;cases e3:nL l with
  | none=>rw [wN,e3] at e;cases e
  | some p =>
   rw [e3] at hx;cases hx;rw [hs,e3];simp only;rw [e2]
 have hA3:(wN l).isSome=true→(wN q1).isSome=true→ptA l=some (.agg [iv x,iv y],q2):=fun e e2=>by
  cases e3:nL l with
  | none=>rw [wN,e3] at e;cases e
  | some p =>
   rw [e3] at hx;cases hx;rw [hs,e3];simp only;cases e4:nL q1 with
   | none=>rw [wN,e4] at e2;cases e2
   | some p=>rw [e4] at hy;cases hy;rfl
 have hA4:wN q1=none→ptA l=none:=fun e=>by
  cases h:wN l with
  | none=>exact hA1 h
  | some p=>exact hA2 (by rw [h];rfl) e
 clear hs hA2;refine eV.body func57 rfl ntmps57 (aOM rfl) ?_;refine Sr<|Dd (by exact bU (id:=1) rfl aK4 rfl rfl)<|Zz<|Sq ?_;refine uL (fun ch H1 H2=>ptA l=none∧ch=DP∧∃ q,H2=kN q++H1) [] [] [4] rfl follows (fun ch E1 H1 H2 hts hsh hks ⟨e,e2,q,e3⟩=>by subst e3;have h4:aB.get (kN q++H1) 4=some inO:=(hks 4 (aOC.2 rfl)).trans rfl;exact BZ (H':=kN q++inH) (Fin.wk (by simp) ⟨⟨_,rfl,rfl⟩,RR _ _,⟨_,h4,rfl⟩,aAX rfl,trivial⟩ ⟨rfl,h4.symm,trivial⟩) ⟨e,e2,q,rfl⟩) ?_;refine cK (r:=⟨_,some [4],[]⟩) (DStep.plain rfl (fun H1 hH=>by exact(by exact aK rfl eB rfl ((hH _ rfl).trans rfl) rfl rfl rfl))) rfl ?_;refine rK (r:=⟨_,some [980],kN q1⟩) (.pan rfl (fun H1 hH=>by exact eD rfl rfl gW rfl ((hnu.tot hx2 ((hH 980 rfl).trans rfl) (eZ _)).mono (fun _ _ h=>h) (fun ch H' ⟨e,e2,e3⟩=>⟨hA1 e,e2,e3⟩)))) rfl ?_;refine cK (r:=⟨_,some [4],[]⟩) (DStep.plain rfl (fun H1 hH=>by exact(by exact aK rfl eB rfl ((hH _ rfl).trans rfl) rfl rfl rfl))) rfl ?_;refine rK (r:=⟨_,some [980],kN q2⟩) (.pan rfl (fun H1 hH=>by exact eD rfl rfl gW rfl (((hnu2 q1 (by omega)).tot hy2 ((hH 980 rfl).trans rfl) (eZ _)).mono (fun _ _ h=>h) (fun ch H' ⟨e,e2,e3⟩=>⟨hA4 e,e2,e3⟩)))) rfl ?_;refine cK (r:=⟨_,some [],[]⟩) (DStep.plain rfl (fun H1 hH=>by exact JH rfl VZ rfl rfl)) rfl ?_;refine cK (r:=⟨_,some [1],[_]⟩) (DStep.plain rfl (fun H1 hH=>by exact(by exact cJ rfl sizeOf73 rfl rfl rfl rfl ((hH _ rfl).trans rfl) rfl rfl rfl))) rfl ?_;refine F0 ⟨⟨by kernel_rfl,by kernel_rfl,by kernel_rfl⟩,fun hF=>?_⟩;simp only [TA,true_and,and_true] at hF;refine aC ?_;refine HY ?_;refine dY (H':=(kN q2++inH)) (.inr rfl) rfl (fV rfl dQ sizeOf73 rfl rfl rfl (by simp only [Zl,encStr];rfl) rfl) (Fin.wk (by simp [NA]) (Hb<|Ha<|trivial) ⟨rfl,rfl,trivial⟩) ?_;exact⟨_,hA3 hF.1 hF.2,rfl,rfl⟩
abbrev ptB:AV:=.clo 57 [.ref 4 0 0 0]
def yO (A:List (Int×Int)):List (List AV):=(A.map gP).map (·.map AV.pv)
theorem XJ (A:List (Int×Int)):(yO A).length=A.length:=by simp [yO]
theorem XK (A:List (Int×Int)) (p:Int×Int):yO A++[(gP p).map AV.pv]=yO (A++[p]):=by rw [yO,yO,List.map_append,List.map_append];rfl
theorem LD (A:List (Int×Int)) (H:aB):∀ r∈yO A,∀ a∈r,Clo H a:=aA6 _ _ _
def SC (l:List UInt8):Option (AV×List UInt8):=(uU GW l).map fun p=>(.pv (rA p.1),p.2)
theorem aBa {l:List UInt8} (h:nL l=none):SC l=none:=by rw [SC,uU,h];rfl
theorem aB9 {l q:List UInt8} {n:Int} (h:nL l=some (n,q)):SC l=(CH GW n.toNat q).map fun p=>(.pv (rA p.1),p.2):=by rw [SC,uU,h]
theorem aHD (l:List UInt8) (hl:l.length < 1000000000):AW 56 [LA,ptB] inH l (SC l):=by
 refine AW.of (ME l) rfl (by simp;exact⟨rfl,rfl⟩) ?_;have hnu:=lP l hl;have hnone:=aBa (l:=l);have hsome:=fun n q=>aB9 (l:=l) (n:=n) (q:=q);have hlen:=fun n q=>iE (l:=l) (x:=n) (q:=q);rw [wN] at hnu;obtain ⟨O,hO⟩:∃ O,O=nL l:=⟨_,rfl⟩;rw [← hO] at hnu hnone hsome hlen;clear hO;refine eV.body func56 rfl ntmps56 (aOM rfl) ?_;refine Sr<|Dd aN<|Zz<|Sq ?_;rcases O with _|⟨n,q0⟩
 ·rw [hnone rfl];have hn:AW 52 [LA] [] l none:=hnu;refine fK ?_;refine gL rfl rfl rfl (by exact fO rfl rfl) ?_;exact nZ rfl rfl (eD rfl rfl gW rfl (hn.no rfl (eZ _))) (fun ch H' h=>by obtain ⟨rfl,q,rfl⟩:=h;exact BZ (H':=kN q++inH) (Fin.wk (by simp) (Hb<|Ha<|trivial) ⟨rfl,rfl,trivial⟩) ⟨rfl,rfl,q,rfl⟩)
 have hn:AW 52 [LA] [] l (some (iv n,q0)):=hnu;obtain ⟨hq0,hn0,hn1⟩:=hlen n q0 rfl;rw [hsome n q0 rfl];refine Rg<|Dd aF<|Dd (by exact aA rfl rfl gW rfl (hn.yes rfl (eZ _)))<|Dd aN<|Zz<|Sr<|Dd (by exact pJ (id:=905) (sz:=2) (ty:=73) rfl rfl rfl)<|Zz<|Sq<|Sr<|Dd aF<|Dd aF<|Zz<|aG ?_;refine jI (fun(l':List UInt8) (A:List (Int×Int))=>([(0,LA),(1,ptB),(6,.osl 905 A.length 0 A.length),(9,iv n),(10,iv (A.length:Int))],(905,⟨A.length,2,73,yO A⟩)::(kN l'++inH))) (fun l' A=>l'.length+A.length < l.length∧A.length≤n.toNat∧CH GW n.toNat q0=(CH GW (n.toNat - A.length) l').map fun p=>(A++p.1,p.2)) (fun l' A=>l'.length) q0 [] ⟨by rw [List.length_nil];omega,aOQ _,by simp⟩ ?_ ?_
 ·exact(cY.wk (Ea<|Ea<|Ea<|Eb<|Eb<|trivial) (Hc (LD _ _)<|Hb<|Ha<|trivial) ⟨rfl,rfl,trivial⟩)
 rintro l' A ⟨hl',hA,hR⟩;have hnx:=aD6 l' (by omega);have hxl:=fun s q=>aAD (l:=l') (p:=s) (q:=q);have hmore:=fun h=>UV GW (k:=A.length) rfl h hR;rw [ptA] at hnx;obtain ⟨X,hX⟩:∃ X,X=GW l':=⟨_,rfl⟩;rw [← hX] at hnx hxl hmore;clear hX;refine Sr<|Dd dK<|Zz<|Sq ?_;refine Cn ?_ ?_<;>intro hc1
 ·have hlt:A.length < n.toNat:=by have:=aNv hc1;omega
  have hm:=hmore hlt;clear hmore;refine aD<|Sq<|aG ?_;rcases X with _|⟨s,q⟩
  ·have hm:CH GW n.toNat q0=none:=hm;rw [hm];have hnx:AW 57 [.ref 4 0 0 0] inH l' none:=hnx;refine fK ?_;refine gL rfl rfl rfl (by exact fO rfl rfl) ?_;refine gL rfl rfl rfl (by exact fO rfl rfl) ?_;exact nZ rfl rfl (C4 rfl rfl call57 rfl (hnx.no rfl (NJ.sub ⟨rfl,trivial⟩))) (fun ch H' h=>by obtain ⟨rfl,q,rfl⟩:=h;exact BZ (H':=kN q++inH) (Fin.wk (by simp) (Hb<|Ha<|trivial) ⟨rfl,rfl,trivial⟩) ⟨rfl,rfl,q,rfl⟩)
  have hm:CH GW n.toNat q0=(CH GW (n.toNat - (A.length+1)) q).map fun p=>((A++[s])++p.1,p.2):=hm;have hnx:AW 57 [.ref 4 0 0 0] inH l' (some (av (gP s),q)):=hnx;have hxl:=hxl s q rfl;have hnl:(A++[s]).length=A.length+1:=by rw [aOA];rfl
  refine Rg<|Dd aF<|Dd aF<|Dd (by exact AS.opr (C4 rfl rfl call57 rfl (eV.of (hnx.yes rfl (NJ.sub ⟨rfl,trivial⟩)))))<|Dd (by exact aR [gP s] rfl TU rfl rfl rfl rfl rfl (by intro r hr;rw [aOC] at hr;subst hr;rfl))<|Dd (by exact dH (ps:=[gP s]) rfl TU aNE rfl rfl rfl rfl rfl (XJ _) rfl (by intro r hr;rw [aOC] at hr;subst hr;rfl) (m:=1) rfl (by omega) rfl (XK A s))<|Dd aN<|Zz<|Rg<|Dd (by exact cI rfl rfl rfl (show IntKind.i64.wrap ((A.length:Int)+1)=((A.length+1:Nat):Int)by rw [pB (by omega) (by omega)];omega))<|Dd aF<|Zz ?_;refine⟨q,A++[s],⟨by rw [hnl];omega,by rw [hnl];omega,by rw [hnl];exact hm⟩,by omega,?_⟩;dsimp only;rw [hnl];exact(cY.wk (Ea<|Ea<|Ea<|Eb<|Eb<|trivial) (Hc (LD _ _)<|Hb<|Ha<|trivial) ⟨rfl,rfl,trivial⟩)
 have hge:n.toNat=A.length:=by have:=aNw hc1;omega
 have hR2:CH GW n.toNat q0=some (A,l'):=by rw [hR,hge,Nat.sub_self,CH];simp
 rw [hR2];refine bC<|Sr<|Dd aF<|Dd aN<|Zz<|aC ?_;refine HY ?_;refine dY (H':=(kN l'++inH)) (.inr rfl) rfl (aY rfl) (Fin.fz (id:=905) (ob:=⟨A.length,2,73,yO A⟩) (r':=.pv (rA A)) (A.map gP) rfl rfl (.osl (qG gP _)) rfl ⟨⟨_,rfl,rfl⟩,(by(simp;done)),⟨_,rfl,rfl⟩,(by(simp;rfl)),trivial⟩ ⟨rfl,rfl,trivial⟩) ?_;exact⟨_,rfl,rfl,rfl⟩
def EO (h i:Int):Bool:=((decide (h < 0)||decide (8 < h))||decide (i < 0))||decide (((2 ^ h.toNat:Nat):Int)≤i)
def zS:GSeal:=⟨0,[],[]⟩
def xU (s:ByteArray) (h i:Int) (m:ByteArray):GSeal×Int:=if EO h i=true then(zS,1)else(⟨i,EN s i.toNat m,mQ h.toNat (mB s h.toNat) i.toNat⟩,0)
theorem aBC (s m:ByteArray) (h i:Int) (H:aB) (hb:EO h i=true):aI Tryz.prog 36 [sv s,iv h,iv i,sv m] H (fun r H'=>r=.tup [av (jC zS),iv 1]∧H'=H):=by
 refine Pu ?_;have hsh:decide (h < 0)=false→decide (8 < h)=false→IntKind.i64.wrap (1*2 ^ h.toNat)=((2 ^ h.toNat:Nat):Int):=fun h1 h2=>by
  have h1:=aNw h1;have h2:=aNw h2;obtain ⟨n,rfl⟩:∃ n:Nat,h=(n:Int):=⟨h.toNat,by omega⟩;rw [aOK];have:=aGI (h:=n) (by omega)
  rwa [aOK] at this
 have hbe:EO h i=(((decide (h < 0)||decide (8 < h))||decide (i < 0))||decide (((2 ^ h.toNat:Nat):Int)≤i)):=rfl;refine Bd func36 rfl ntmps36<|Sr<|Dd (by exact cH (id:=4) rfl rfl rfl rfl rfl)<|Dd (by exact cH (id:=6) rfl rfl rfl rfl rfl)<|Dd (by exact bU (id:=8) rfl aAk rfl rfl)<|Dd aN<|Zz<|Sq<|Sq ?_;refine mW (t:=30) (n:=16) (X:=EO h i) ?_ ?_
 ·cases hg17:(decide (h < 0):Bool)
  ·cases hg21:(decide (8 < h):Bool)
   ·cases hg25:(decide (i < 0):Bool)
    ·refine aO follows<|Cq aF<|Cq dK<|Cq aF<|Nf aF<|Nf jE<|Cq nS<|Cq aF<|Nf (bM isAgg3)<|Nf dK<|Cq nS<|Cq aF<|Nf (bM isAgg3)<|Nf aF<|Nf (by exact E5 rfl rfl rfl (by have:=aNw hg17;omega) (by have:=aNw hg21;simp [IntKind.bits];omega) (hsh hg17 hg21))<|Nf DT<|Cq nS<|bL<|Kr ?_;exact⟨rfl,⟨_,rfl,by(rw [hbe,hg17,hg21,hg25];rfl)⟩,rfl,rfl,rfl⟩
    refine aO follows<|Cq aF<|Cq dK<|Cq aF<|Nf aF<|Nf jE<|Cq nS<|Cq aF<|Nf (bM isAgg3)<|Nf dK<|Cq nS<|Cq aF<|Of<|Of<|Of<|Of<|Cq wX<|bL<|Kr ?_;exact⟨rfl,⟨_,rfl,by(rw [hbe,hg17,hg21,hg25];rfl)⟩,rfl,rfl,rfl⟩
   refine aO follows<|Cq aF<|Cq dK<|Cq aF<|Nf aF<|Nf jE<|Cq nS<|Cq aF<|Of<|Of<|Cq wX<|Cq aF<|Of<|Of<|Of<|Of<|Cq cW<|bL<|Kr ?_;exact⟨rfl,⟨_,rfl,by(rw [hbe,hg17,hg21];rfl)⟩,rfl,rfl,rfl⟩
  refine aO follows<|Cq aF<|Cq dK<|Cq aF<|Of<|Of<|Cq wX<|Cq aF<|Of<|Of<|Cq cW<|Cq aF<|Of<|Of<|Of<|Of<|Cq cW<|bL<|Kr ?_;exact⟨rfl,⟨_,rfl,by(rw [hbe,hg17];rfl)⟩,rfl,rfl,rfl⟩
 refine Cn ?_ ?_<;>intro hc1
 ·refine Sr<|Dd (uQ aHl)<|Uu (kQ sizeOf25)<|Dd aN<|Zz<|aC ?_;refine uM (H':=[]) (.inr rfl) rfl (fV rfl fM sizeOf25 rfl rfl rfl (by simp only [Zl,encStr];rfl) rfl) (aY rfl) (Fin.wk (by simp [jC]) trivial trivial) ?_;exact Qq
 rw [hb] at hc1;cases hc1
theorem O4 (s m:ByteArray) (h i:Int) (H:aB) (hs:s.size < 1099511627776) (hm:m.size < 1099511627776):aI Tryz.prog 36 [sv s,iv h,iv i,sv m] H (fun r H'=>r=.tup [av (jC (xU s h i m).1),iv (xU s h i m).2]∧H'=H):=by
 rw [xU];by_cases hb:EO h i=true
 ·rw [aNy hb];exact aBC s m h i H hb
 rw [aNx hb];have hb:EO h i=false:=by simpa using hb
 simp only [EO,aOV,aOH] at hb;obtain ⟨⟨⟨h1,h2⟩,h3⟩,h4⟩:=hb;obtain ⟨n,rfl⟩:∃ n:Nat,h=(n:Int):=⟨h.toNat,by omega⟩;obtain ⟨k,rfl⟩:∃ k:Nat,i=(k:Int):=⟨i.toNat,by omega⟩;rw [aOK] at h4 ⊢;rw [aOK];exact aGG s m n k H hs hm (by omega) (by omega)
theorem tG {s m:ByteArray} {h i:Int} (h1:(xU s h i m).2=0):FSeal (xU s h i m).1∧(xU s h i m).1=⟨i,EN s i.toNat m,mQ h.toNat (mB s h.toNat) i.toNat⟩∧(0≤h∧h≤8)∧0≤i∧i < 2 ^ h.toNat:=by
 rw [xU] at h1 ⊢
 split at h1
 ·cases h1
 next hb =>
 rw [aNx hb];have hb:EO h i=false:=by simpa using hb
 simp only [EO,aOV,aOH] at hb;obtain ⟨⟨⟨h1,h2⟩,h3⟩,h4⟩:=hb;have h5:i < 2 ^ h.toNat:=by
  have:(((2 ^ h.toNat:Nat):Int))=2 ^ h.toNat:=by push_cast;rfl
  omega
 have hlt:i.toNat < 2 ^ h.toNat:=by omega
 have h8:2 ^ h.toNat≤256:=sF (by omega);exact⟨⟨by show 0≤i;omega,by show i < 256;omega,by rw [K0];exact aOF _,by rw [GX];omega,TW _ _ _,GY _ _ _ (xI _ _) hlt (CI _ _)⟩,rfl,⟨by omega,by omega⟩,by omega,h5⟩
def zR:GRec:=⟨0,0,0,0,sNil,[],[],sNil,false,0,sNil,zS,⟨sNil,sNil,[],[],zS⟩⟩
def AT (r:GRec):GRec:={r with sl:=zS,priv:={r.priv with sl:=zS}}
def zV (r:GRec):GRec×Int:=if(pE r).2≠0 then(zR,(pE r).2)else(r,0)
def mk1 (r:GRec) (a:GSeal):GRec:={r with sl:=a,priv:={r.priv with sl:=zS}}
def N7 (r:GRec) (a b:GSeal):GRec:={r with sl:=a,priv:={r.priv with sl:=b}}
def FN (r:GRec) (s:ByteArray) (h:Int):GRec×Int :=if dT (AT r)=false then(zR,1)
 else if(xU s h (2*r.number - 2) (nM (AT r))).2≠0 then(zR,(xU s h (2*r.number - 2) (nM (AT r))).2)
 else if gS r.priv=true then zV (mk1 r (xU s h (2*r.number - 2) (nM (AT r))).1)
 else if(xU s h (2*r.number - 1) (rP (AT r))).2≠0 then(zR,(xU s h (2*r.number - 1) (rP (AT r))).2)
 else zV (N7 r (xU s h (2*r.number - 2) (nM (AT r))).1 (xU s h (2*r.number - 1) (rP (AT r))).1)
theorem lZ {s:GSeal} (h:FSeal s):tP s:=by have i0:=h.i0;have i1:=h.i1;have l1:=h.sl;have l2:=h.pl;exact⟨⟨by omega,by omega⟩,⟨by omega,fun t ht=>by have:=sN (h.sa t ht);omega⟩,⟨by omega,fun t ht=>by have:=sN (h.pa t ht);omega⟩⟩
theorem okZ:tP zS:=lZ (kZ (by decide))
theorem X2 {r:GRec} {a b:GSeal} (h:jG r) (ha:tP a) (hb:tP b):jG (N7 r a b):=by obtain ⟨h1,h2,h3,h4,_,p1,p2,p3,p4,_⟩:=h;exact⟨h1,h2,h3,h4,ha,p1,p2,p3,p4,hb⟩
theorem aEA (r:GRec) (s:ByteArray) (h:Int) (hr:jG r) (hp:r.parents.length < 549755813888) (hs:s.size < 1099511627776) (H:aB):aI Tryz.prog 26 [av (cF r),sv s,iv h] H (fun x H'=>x=.tup [av (cF (FN r s h).1),iv (FN r s h).2]∧H'=H):=by
 refine aI.pure ?_ (by simp [cF]) H;have hr0:jG (AT r):=X2 hr okZ okZ;have hv:=fun H=>EG (AT r) hr0 hp H;have hid:=fun H=>MF (AT r) hr0 hp H;have hem:=fun H=>aA1 (mk1 r zS).priv hr0.2.2.2.2.2 H;rw [FN];refine Bd func26 rfl ntmps26<|Sr<|Dd (by exact cH (id:=3) rfl rfl rfl rfl rfl)<|Dd (by exact bU (id:=6) rfl NH rfl rfl)<|Dd aN<|Zz<|Sr<|Dd (uQ aHl)<|Dd (uQ aHl)<|Dd (aV nA)<|Uu (by exact kT rfl sizeOf25 rfl rfl rfl rfl rfl rfl rfl (aOM rfl) rfl rfl)<|Dd (aV fW)<|Dd (aV pU)<|Uu (by exact kT rfl sizeOf25 rfl rfl rfl rfl rfl rfl rfl (aOM rfl) rfl rfl)<|Zz<|Sq<|Sr<|Dd (rQ bD aQ)<|Dd (by exact aA rfl rfl GJ rfl (hv _))<|Dd jS<|Zz ?_;refine Cn ?_ ?_<;>intro hc1
 ·have hb:=not_not hc1;rw [aNy hb];refine Sr<|Dd (uQ WA)<|Uu (kQ aQ)<|Dd aN<|Zz<|aC ?_;refine uM (H':=[]) (.inr rfl) rfl (fV rfl bD aQ rfl rfl rfl (by simp only [Zl,encStr];rfl) rfl) (aY rfl) (Fin.wk (by simp [cF]) trivial trivial) ?_;exact Qq
 have hb:=CG hc1;rw [aNx (by rw [hb];decide)];have hf:=lI hb;have hnu:=hf.nu;have hnr:(AT r).number=r.number:=rfl;rw [hnr] at hnu;have hme:=fun H=>PX (AT r) hr0 hp hb H;have hms:(rP (AT r)).size=16:=jU _;have his:=J5 (AT r);obtain ⟨i0,hi0⟩:∃ i0,i0=nM (AT r):=⟨_,rfl⟩;obtain ⟨m0,hm0⟩:∃ m0,m0=rP (AT r):=⟨_,rfl⟩;rw [← hi0] at hid his ⊢;rw [← hm0] at hme hms ⊢;have hs1:=fun H=>O4 s i0 h (2*r.number - 2) H hs (by omega);have hs2:=fun H=>O4 s m0 h (2*r.number - 1) H hs (by omega);have ho1:=tG (s:=s) (m:=i0) (h:=h) (i:=2*r.number - 2);have ho2:=tG (s:=s) (m:=m0) (h:=h) (i:=2*r.number - 1);obtain ⟨A,hA⟩:∃ A,A=xU s h (2*r.number - 2) i0:=⟨_,rfl⟩;obtain ⟨B,hB⟩:∃ B,B=xU s h (2*r.number - 1) m0:=⟨_,rfl⟩;rw [← hA] at hs1 ho1 ⊢;rw [← hB] at hs2 ho2 ⊢;clear hA hB;refine aD<|Sq<|aO follows<|Cq (rQ bD aQ)<|Cq (by exact aA rfl rfl AR rfl (hid _))<|Cq (rQ bD aQ)<|Cq (by exact aA rfl rfl call85 rfl (hme _))<|Cq aN<|Cq aN<|bL<|Kr<|Sr<|Dd aN<|Zz<|Sq<|Sr<|Dd aF<|Dd aF<|Dd (aV qL)<|Dd (bM isAgg3)<|Dd (by exact sG rfl rfl rfl (pB (by omega) (by omega)))<|Dd (by exact eQ rfl rfl rfl (pB (by omega) (by omega)))<|Dd aF<|Dd (by exact aA rfl rfl call36 rfl (hs1 _))<|Dd aF<|Dd fL<|Dd fL<|Dd (aV nA)<|Uu (by exact kT rfl sizeOf25 rfl rfl rfl rfl rfl rfl rfl (aOM rfl) rfl rfl)<|Dd aN<|Zz<|Sr<|Dd aF<|Dd AI<|Zz ?_;refine Cn ?_ ?_<;>intro hc2
 ·have hne:A.2≠0:=by have:=hc2;intro e;rw [e] at this;exact absurd this (by decide)
  rw [aNy hne];refine Sr<|Dd (uQ WA)<|Dd aF<|Uu (kQ aQ)<|Dd aN<|Zz<|aC ?_;refine uM (H':=[]) (.inr rfl) rfl (fV rfl bD aQ rfl rfl rfl (by simp only [Zl,encStr];rfl) rfl) (aY rfl) (Fin.wk (by simp [cF]) trivial trivial) ?_;exact Qq
 have heq:A.2=0:=by have:=hc2;by_cases e:A.2=0;exact e;rw [decide_eq_false e] at this;cases this
 rw [aNx (by rw [heq];decide)];have ho1:=(ho1 heq).1;obtain ⟨X,hX⟩:∃ X,X=(if gS r.priv=true then zV (mk1 r A.1)else if B.2≠0 then(zR,B.2)else zV (N7 r A.1 B.1)):=⟨_,rfl⟩;rw [← hX];have hX1:gS r.priv=true→X=zV (N7 r A.1 zS):=fun e=>by rw [hX,aNy e];rfl
 have hX2:gS r.priv=false→B.2≠0→X=(zR,B.2):=fun e e2=>by rw [hX,aNx (by rw [e];decide),aNy e2]
 have hX3:gS r.priv=false→B.2=0→X=zV (N7 r A.1 B.1):=fun e e2=>by rw [hX,aNx (by rw [e];decide),aNx (by rw [e2];decide)]
 have hee:gS (mk1 r zS).priv=gS r.priv:=rfl;rw [hee] at hem;clear hX;obtain ⟨em,hemE⟩:∃ em,em=gS r.priv:=⟨_,rfl⟩;rw [← hemE] at hem hX1 hX2 hX3;refine aD ?_;refine gT (fun(b:GSeal)=>([(3,.ref 3 0 0 0),(6,.ref 6 0 0 0)],[(6,bx 21 30 ((cF zR).map .pv)),(3,bx 21 30 ((cF (N7 r A.1 b)).map .pv))])) (fun b=>tP b∧X=zV (N7 r A.1 b)) ?_ ?_
 ·refine Sr<|Dd (aV fW)<|Dd (rQ mI sizeOf28)<|Dd (by exact aA rfl rfl S8 rfl (hem _))<|Dd jS<|Zz ?_;refine Cn ?_ ?_<;>intro hc3
  ·have he:=not_not hc3;refine Sr<|Dd aF<|Dd aF<|Dd (aV qL)<|Dd (bM isAgg3)<|Dd (by exact sG rfl rfl rfl (pB (by omega) (by omega)))<|Dd (by exact eQ rfl rfl rfl (pB (by omega) (by omega)))<|Dd aF<|Dd (by exact aA rfl rfl call36 rfl (hs2 _))<|Dd aF<|Dd fL<|Dd fL<|Dd (aV fW)<|Dd (aV pU)<|Uu (by exact kT rfl sizeOf25 rfl rfl rfl rfl rfl rfl rfl (aOM rfl) rfl rfl)<|Dd aN<|Zz<|Sr<|Dd aF<|Dd AI<|Zz ?_;refine Cn ?_ ?_<;>intro hc4
   ·have hne:B.2≠0:=by have:=hc4;intro e;rw [e] at this;exact absurd this (by decide)
    rw [hX2 he hne];refine Sr<|Dd (uQ WA)<|Dd aF<|Uu (kQ aQ)<|Dd aN<|Zz<|aC ?_;refine uM (H':=[]) (.inr rfl) rfl (fV rfl bD aQ rfl rfl rfl (by simp only [Zl,encStr];rfl) rfl) (aY rfl) (Fin.wk (by simp [cF]) trivial trivial) ?_;exact Qq
   have heq:B.2=0:=by have:=hc4;by_cases e:B.2=0;exact e;rw [decide_eq_false e] at this;cases this
   refine aD ?_;exact⟨B.1,⟨lZ (ho2 heq).1,hX3 he heq⟩,Wk⟩
  have he:=CG hc3;refine aD ?_;exact⟨zS,⟨okZ,hX1 he⟩,Wk⟩
 rintro b ⟨hb2,hX2⟩;rw [hX2,zV];have htx:=fun H=>Q8 (N7 r A.1 b) (X2 hr (lZ ho1) hb2) hp H;obtain ⟨T,hT⟩:∃ T,T=pE (N7 r A.1 b):=⟨_,rfl⟩;rw [← hT] at htx ⊢;refine Sq<|Sr<|Dd (rQ bD aQ)<|Dd (by exact aA rfl rfl aNm rfl (htx _))<|Dd aF<|Dd fL<|Dd fL<|Dd aN<|Dd aN<|Zz<|Sr<|Dd aF<|Dd AI<|Zz ?_;refine Cn ?_ ?_<;>intro hc5
 ·have hne:T.2≠0:=by have:=hc5;intro e;rw [e] at this;exact absurd this (by decide)
  rw [aNy hne];refine Sr<|Dd (uQ WA)<|Dd aF<|Uu (kQ aQ)<|Dd aN<|Zz<|aC ?_;refine uM (H':=[]) (.inr rfl) rfl (fV rfl bD aQ rfl rfl rfl (by simp only [Zl,encStr];rfl) rfl) (aY rfl) (Fin.wk (by simp [cF]) trivial trivial) ?_;exact Qq
 have heq:T.2=0:=by have:=hc5;by_cases e:T.2=0;exact e;rw [decide_eq_false e] at this;cases this
 rw [aNx (by rw [heq];decide)];refine aD<|Sr<|Dd (rQ bD aQ)<|Uu (kQ aQ)<|Dd aN<|Zz<|aC ?_;refine uM (H':=[]) (.inr rfl) rfl (fV rfl bD aQ rfl rfl rfl (by simp only [Zl,encStr];rfl) rfl) (aY rfl) (Fin.wk (by simp [cF]) trivial trivial) ?_;exact Qq
abbrev eOJ (e:Int):Ob:=bx 1 41 [iv e]
abbrev rOJ (x:GRec):Ob:=bx 21 30 ((cF x).map .pv)
abbrev XQ (x:GRec) (e:Int):aB:=[(3,eOJ e),(2,rOJ x)]
abbrev eAJ:Ob:=bx 1 41 [.any]
abbrev rAJ:Ob:=bx 21 30 [.any,.any,.any,.any,.any,.any,.any,.any,.any,.any,.any,.any,.any,.any,.any,.any,.any,.any,.any,.any,.any]
abbrev pAJ:aB:=[(3,eAJ),(2,rAJ)]
abbrev dcJ:List AV:=[.ref 2 0 0 0,.ref 3 0 0 0]
theorem aJC (x:GRec) (e:Int):TB Tryz.prog 50 dcJ (XQ x e) .returning (fun H2=>H2=XQ x e):=by
 refine F9 (x:=G8) (vx:=.nilIface) func50 rfl ntmps50 (aOM rfl) rfl rfl rfl rfl rfl rfl (fun w I=>.sat rfl rfl) (.inl ⟨rfl,rfl⟩) ?_;refine M1 ?_;refine F4 ?_;refine pA ?_;refine IZ rfl rfl rfl (by exact XY rfl GI rfl) ?_;refine CS ?_;refine HV rfl (fun hc1=>?_) (fun hc1=>?_)
 ·refine pA ?_;refine IZ rfl rfl rfl (by exact tO rfl rfl) ?_;refine CS ?_;exact⟨.inl rfl,XQ x e,Fin.wk (by simp) (Hb<|Hb<|trivial) ⟨rfl,rfl,trivial⟩,rfl⟩
 cases hc1
theorem aJD:TB Tryz.prog 50 dcJ pAJ (.panicking DP) (fun H2=>H2=XQ zR 5):=by
 refine F9 (x:=.ifa 84 []) (vx:=.iface 84 (.agg #[])) func50 rfl ntmps50 (aOM rfl) rfl rfl rfl rfl rfl rfl (fun w I=>.ifa _ _ _ rfl (by simp)) (.inr ⟨_,rfl,rfl⟩) ?_;refine M1 ?_;refine F4 ?_;refine pA ?_;refine IZ rfl rfl rfl (by exact XZ rfl GI rfl) ?_;refine CS ?_;refine HV rfl (fun hc1=>?_) (fun hc1=>?_)
 ·cases hc1
 refine F4 ?_;refine pA ?_;refine IZ rfl rfl rfl (by exact LG rfl (dM wD rfl) rfl) ?_;refine IZ rfl rfl rfl (by exact rD rfl rfl rfl) ?_;refine IZ rfl rfl rfl (by exact rD rfl rfl rfl) ?_;refine CS ?_;refine HV rfl (fun hc2=>?_) (fun hc2=>?_)
 ·refine F4 ?_;refine pA ?_;refine IZ rfl rfl rfl (by exact X1 rfl aFS) ?_;refine aFM rfl rfl (by exact XW rfl rfl rfl sizeOf84) ?_;refine CS ?_;refine pA ?_;refine IZ rfl rfl rfl (by exact JH rfl WA rfl rfl) ?_;refine aFM rfl rfl (by exact cJ rfl aQ rfl rfl rfl rfl rfl rfl rfl rfl) ?_;refine aFM rfl rfl (by exact cJ rfl sizeOf41 rfl rfl rfl rfl rfl rfl rfl rfl) ?_;refine CS ?_;exact⟨.inl rfl,XQ zR 5,Fin.wk (by simp) (Hb<|Hb<|trivial) ⟨rfl,rfl,trivial⟩,rfl⟩
 cases hc2
theorem aJb (s:ByteArray) (hs:s.size < 1099511627776) (hok:(iN s).2.1=0):aI Tryz.prog 167 [sv s] [] (fun r H'=>r=.tup [.osl 905 (iN s).1.length 0 (iN s).1.length,iv 0,iv (iN s).2.2]∧H'=[(905,⟨(iN s).1.length,3,196,jZ (iN s).1⟩)]):=by
 refine Bd func167 rfl ntmps167<|Sr<|Dd (by exact bU (id:=2) rfl aIA rfl rfl)<|Dd (by exact bU (id:=3) rfl aIc rfl rfl)<|Dd (by exact bU (id:=4) rfl zo3 rfl rfl)<|Zz<|Sq<|Sr<|Dd aF<|Dd (lH underlying9)<|Dd jE<|Zz ?_;refine Cn ?_ ?_<;>intro hc1
 ·have e:iN s=([],2,-1):=by rw [iN,aNy (by have:=aNv hc1;omega)]
  rw [e] at hok;exact absurd hok (by decide)
 have hsz:¬ 20000 < s.size:=by have:=aNw hc1;omega
 obtain ⟨ds,hds⟩:∃ ds,ds=mT s (s.size+1) 0:=⟨_,rfl⟩;have hg:iN s=lU [] ds:=by rw [iN,aNx hsz,hds]
 refine aD<|Sr<|Dd (by exact bU (id:=5) rfl aC5 rfl rfl)<|Zz<|Sq<|Sr<|Dd aF<|Dd (by exact aA rfl rfl call204 rfl (TN s _ rfl rfl rfl (eG.ofL ⟨(by(simp;done)),(by(simp;done)),(by(simp;done)),(by(simp;done)),trivial⟩)))<|Zz<|aG ?_;refine gK.ent (E':=[(2,.ref 2 0 0 0),(3,.ref 3 0 0 0),(4,.ref 4 0 0 0),(5,.ref 5 0 0 0),(11,.clo 243 [.ref 921 0 0 0,.ref 924 0 0 0])]) (H':=[(905,⟨0,3,196,[]⟩),(5,bx 1 191 [.osl 905 0 0 0]),(924,tA),(923,tC),(921,tS s),(4,bx 1 3 [iv 0]),(3,bx 1 41 [iv 0]),(2,bx 1 191 [.pv (.sl [])])]) ?_ ?_
 ·exact(cY.nz 905 3 196 rfl rfl ⟨⟨_,rfl,(by exact Nz.same (by(simp;rfl)))⟩,⟨_,rfl,(by exact Nz.same (by(simp;rfl)))⟩,⟨_,rfl,(by exact Nz.same (by(simp;rfl)))⟩,⟨_,rfl,(by exact Nz.same (by(simp;rfl)))⟩,⟨_,rfl,(by exact Nz.same (by(simp;exact⟨rfl,rfl⟩)))⟩,trivial⟩ ⟨⟨_,rfl,rfl,rfl,rfl,(by exact .inr ⟨_,_,rfl,rfl,(by repeat(first|exact trivial|refine⟨(by exact Nz.own),?_⟩))⟩)⟩,⟨_,rfl,rfl,rfl,rfl,(by exact .inl ⟨rfl,(by exact pG rfl rfl)⟩)⟩,⟨_,rfl,rfl,rfl,rfl,(by exact .inl ⟨rfl,(by exact iD _)⟩)⟩,⟨_,rfl,rfl,rfl,rfl,(by exact .inl ⟨rfl,(by exact pF _ _)⟩)⟩,⟨_,rfl,rfl,rfl,rfl,(by exact .inl ⟨rfl,(by(simp;done))⟩)⟩,⟨_,rfl,rfl,rfl,rfl,(by exact .inl ⟨rfl,(by(simp;done))⟩)⟩,⟨_,rfl,rfl,rfl,rfl,(by exact .inl ⟨rfl,(by(simp;done))⟩)⟩,trivial⟩ trivial)
 have hdl:ds.length≤s.size+1:=by rw [hds];exact A0 s _ _
 obtain ⟨j,hj⟩:∃ j,j=uT (pL ds) ds.length 0:=⟨_,rfl⟩;have hj1:j≤ds.length:=by have:=(EQ (pL ds) ds.length 0).2;omega
 have hj2:∀ k,k < j→pL ds k=true:=fun k hk=>ES (pL ds) ds.length 0 k (aOQ _) (by rw [← hj];exact hk);have hj3:j < ds.length→pL ds j=false:=fun h=>by have:=wT (pL ds) ds.length 0 (by omega);rwa [← hj] at this
 have hrun:=HE hj1 hj2;refine CR (id:=904) (p:=12) rG rfl call243 rfl rfl (by simp [rG];exact⟨rfl,rfl,rfl,rfl⟩) ?_;intro x hx1 hx2 hx3 hx4 hx5 hx6;have hround:∀ (k:Nat) (d:GFound),ds[k]?=some d→k≤j →
   dD Tryz.prog (.yld 904 0) [.agg ((FX d).map .pv)] ((904,LR x rG)::(926,tF d)::kL s (ds.take k) (.pv (.sl [])) 0 0) (fun r H'=>r=bv (pL ds k)∧H'=(if pL ds k then(904,LR x rG)::(926,tF d)::kL s (ds.take (k+1)) (.pv (.sl [])) 0 0 else(904,LR (left x .ret) rG)::(926,tF d)::kL s (ds.take k) (.pv (.sl [])) (if d.err≠0 then d.err else 2) d.pos)):=by
  intro k d hd hkj;have hok:=FG hd;have hkl:k < ds.length:=(aOD.1 hd).1;have htl:(ds.take k).length=k:=by rw [aON];omega
  have hnx:ds.take (k+1)=ds.take k++[d]:=by rw [List.take_add_one,hd];rfl
  refine .inl ⟨904,0,rfl,?_⟩;refine Q1 [(2,.ref 2 0 0 0),(3,.ref 3 0 0 0),(4,.ref 4 0 0 0),(5,.ref 5 0 0 0),(6,.ref 907 0 0 0)] ((907,tF d)::(926,tF d)::kL s (ds.take k) (.pv (.sl [])) 0 0) hx1 hx2 hx3 hx4 hx5 hx6 rfl rfl rfl ?_ ?_
  ·refine Rg<|Dd (by exact bU (id:=907) rfl aC6 rfl rfl)<|Uu (kQ D9)<|Zz ?_;exact(cY.wk (Ea<|Ea<|Ea<|Ea<|Ea<|trivial) (Hc (kM (by simp [rG];exact⟨rfl,rfl,rfl,rfl⟩))<|Hc (vS _ _)<|Hc (vS _ _)<|Hc (cN _ _)<|Ha<|Hc (pG rfl rfl)<|Hc (iD _)<|Hc (pF _ _)<|Hb<|Hb<|Hb<|trivial) ⟨rfl,rfl,rfl,rfl,rfl,rfl,rfl,rfl,rfl,rfl,trivial⟩)
  refine aG<|Sq<|aG<|Sr<|Dd (aV pV)<|Dd (bM kG)<|Dd AI<|Da ?_;refine Cn ?_ ?_<;>intro hc2
  ·have he:d.err≠0:=by have h:=hc2;rw [aOS,aOH] at h;exact h
   have h0:pL ds k=false:=by rw [hok,decide_eq_false he];rfl
   rw [h0,aNx (by decide),aNy he];refine Sq<|aO follows<|Cr [907] (fun _ h=>fh pV h)<|Cr [907] (fun _ h=>lh kG h)<|Cr [907] (fun _ h=>fh mD h)<|Cr [907] (fun _ h=>fh J7 h)<|Cr [907] (fun _ h=>lh isAgg3 h)<|Cp [2] (fun H1 hH=>by exact cJ rfl lF rfl rfl rfl rfl ((hH _ rfl).trans rfl) rfl rfl rfl)<|Cp [3] (fun H1 hH=>by exact cJ rfl sizeOf41 rfl rfl rfl rfl ((hH _ rfl).trans rfl) rfl rfl rfl)<|Cp [4] (fun H1 hH=>by exact cJ rfl sizeOf3 rfl rfl rfl rfl ((hH _ rfl).trans rfl) rfl rfl rfl)<|bL<|Kr<|aC ?_;exact⟨(926,tF d)::kL s (ds.take k) (.pv (.sl [])) d.err d.pos,(cY.wk trivial (Hc (kM (by simp [rG];exact⟨rfl,rfl,rfl,rfl⟩))<|Hc (vS _ _)<|Hc (cN _ _)<|Ha<|Hc (pG rfl rfl)<|Hc (iD _)<|Hc (pF _ _)<|Hb<|Hb<|Hb<|trivial) ⟨rfl,rfl,rfl,rfl,rfl,rfl,rfl,rfl,rfl,rfl,trivial⟩),rfl,rfl⟩
  have he:d.err=0:=by have h:=hc2;rw [Bool.not_eq_false',aOG] at h;exact h
  refine Sr<|Dd (bM kO)<|Dd (by exact eE rfl gU rfl rfl rfl)<|Dd cT<|Da ?_;refine Cn ?_ ?_<;>intro hc3
  ·have hk5:k=5000:=by have:=aNv hc3;omega
   have h0:pL ds k=false:=by rw [hok,decide_eq_true he,decide_eq_true hk5];rfl
   rw [h0,aNx (by decide),aNx (fun h=>h he)];refine Sq<|aO follows<|Cr [907] (fun _ h=>fh mD h)<|Cr [907] (fun _ h=>fh J7 h)<|Cr [907] (fun _ h=>lh isAgg3 h)<|Cp [2] (fun H1 hH=>by exact cJ rfl lF rfl rfl rfl rfl ((hH _ rfl).trans rfl) rfl rfl rfl)<|Cp [3] (fun H1 hH=>by exact cJ rfl sizeOf41 rfl rfl rfl rfl ((hH _ rfl).trans rfl) rfl rfl rfl)<|Cp [4] (fun H1 hH=>by exact cJ rfl sizeOf3 rfl rfl rfl rfl ((hH _ rfl).trans rfl) rfl rfl rfl)<|bL<|Kr<|aC ?_;exact⟨(926,tF d)::kL s (ds.take k) (.pv (.sl [])) 2 d.pos,(cY.wk trivial (Hc (kM (by simp [rG];exact⟨rfl,rfl,rfl,rfl⟩))<|Hc (vS _ _)<|Hc (cN _ _)<|Ha<|Hc (pG rfl rfl)<|Hc (iD _)<|Hc (pF _ _)<|Hb<|Hb<|Hb<|trivial) ⟨rfl,rfl,rfl,rfl,rfl,rfl,rfl,rfl,rfl,rfl,trivial⟩),rfl,rfl⟩
  have hk5:¬ k=5000:=by have:=aNw hc3;omega
  have h0:pL ds k=true:=by rw [hok,decide_eq_true he,decide_eq_false hk5];rfl
  rw [h0,aNy rfl,hnx,aEQ];refine aD<|Rg<|Dd (bM kO)<|Dd (aV mD)<|Dd (rQ WS sizeOf196)<|Dd (by exact aR [eP d] rfl nG rfl rfl rfl rfl rfl (by intro r hr;rw [aOC] at hr;subst hr;rfl))<|Dd (by exact dH (ps:=[eP d]) rfl nG aEe rfl rfl rfl rfl rfl (yA _) rfl (by intro r hr;rw [aOC] at hr;subst hr;rfl) (m:=1) rfl (by omega) rfl (DI (ds.take k) d))<|Uu (kQ lF)<|Zz ?_;exact⟨(926,tF d)::[(905,⟨(ds.take k).length+1,3,196,jZ (ds.take k++[d])⟩),(5,bx 1 191 [.osl 905 ((ds.take k).length+1) 0 ((ds.take k).length+1)]),(924,tA),(923,tC),(921,tS s),(4,bx 1 3 [iv 0]),(3,bx 1 41 [iv 0]),(2,bx 1 191 [.pv (.sl [])])],(cY.wk trivial (Hc (kM (by simp [rG];exact⟨rfl,rfl,rfl,rfl⟩))<|Hc (vS _ _)<|Hc (cN _ _)<|Ha<|Hc (pG rfl rfl)<|Hc (iD _)<|Hc (pF _ _)<|Hb<|Hb<|Hb<|trivial) ⟨rfl,rfl,rfl,rfl,rfl,rfl,rfl,rfl,rfl,rfl,trivial⟩),rfl,rfl⟩
 rcases Nat.lt_or_ge j ds.length with hlt|hge
 ·obtain ⟨f,hf⟩:=aZ hlt;have hbad:=hj3 hlt;have hdj:ds.drop j=f::ds.drop (j+1):=by
   rw [List.drop_eq_getElem_cons hlt];rw [aOE hlt] at hf;cases hf;rfl
  have hres:iN s=([],(if f.err≠0 then f.err else 2),(f.pos:Int)):=by
   rw [hg,hrun,hdj,lU]
   split
   ·rfl
   rename_i he;have he0:f.err=0:=by
    by_cases h:f.err=0
    ·exact h
    exact absurd h he
   rw [FG hf,decide_eq_true he0,Bool.true_and,Bool.not_eq_false',aOG] at hbad;rw [aNy (by rw [aON];omega)]
  rw [hres] at hok;have hok:(if f.err≠0 then f.err else 2)=0:=hok
  split at hok
  ·next h=>exact absurd hok h
  exact absurd hok (by decide)
 have hje:j=ds.length:=Nat.le_antisymm hj1 hge;rw [hje,List.take_length,List.drop_length] at hrun;rw [hg,hrun,lU];refine(GO s (.yld 904 0) (fun k=>(904,LR x rG)::kL s (ds.take k) (.pv (.sl [])) 0 0) (pL ds) ds.length hs (fun k=>rfl) (fun k=>rfl) (fun k=>rfl) (fun k=>rfl) (fun k=>(eG.ofL ⟨(by exact kM (by simp [rG];exact⟨rfl,rfl,rfl,rfl⟩)),(by exact cN _ _),(by(simp;rfl)),(by exact pG rfl rfl),(by exact iD _),(by exact pF _ _),(by(simp;done)),(by(simp;done)),(by(simp;done)),trivial⟩)) (fun k=>by simp;rfl) (by rw [← hds];exact aOF _) (fun k hk=>hj2 k (by omega)) (.inl (by rw [← hds])) ?_).mono ?_
 ·rw [← hds];intro k d hd hk;have hr:=hround k d hd (by omega);have hok:=hj2 k (by omega);rw [hok,aNy rfl] at hr;rw [hok];exact dD.congrG hr (fun j=>nX (by decide) j) (fun j=>nX (by decide) j)
 rintro r H' ⟨rfl,rfl⟩;rw [List.take_length];refine⟨x,_,rfl,by rw [hx1];decide,rfl,fun z=>?_⟩;rw [hx2];refine Sr<|Dd (bM kO)<|Uu (kQ lF)<|Uu (kQ sizeOf41)<|Uu (kQ sizeOf3)<|Zz<|aC ?_;refine AE (H':=[(905,⟨ds.length,3,196,jZ ds⟩)]) (.inr rfl) rfl (gA rfl kO rfl rfl rfl rfl) (gA rfl kG rfl rfl rfl rfl) (gA rfl isAgg3 rfl rfl rfl rfl) (Fin.wk (by(simp;rfl)) (Hc (cN _ _)<|trivial) trivial) ?_;exact Qq
theorem aJa (s:ByteArray) (H:aB) (hs:s.size < 1099511627776) (hok:(iN s).2.1=0) (hH:H.get 905=none):aI Tryz.prog 167 [sv s] H (fun r H'=>r=.tup [.osl 905 (iN s).1.length 0 (iN s).1.length,iv 0,iv (iN s).2.2]∧H'=(905,⟨(iN s).1.length,3,196,jZ (iN s).1⟩)::H) :=aI.frame (aJb s hs hok) (fun _ _ h=>by cases h) (fun _ _ h=>by cases h) (by simp) (fun id h=>.inr (by
  by_cases e:id=905
  ·rw [e];exact hH
  rw [get_cons_other _ _ e] at h;cases h))
theorem EW {α:Type} (f:α→List PV) (l:List α):l.map (fun e=>(f e).map AV.pv)=(l.map f).map (·.map .pv):=by rw [List.map_map];rfl
theorem sW {α:Type} (f:α→List PV) (l:List α):((l.map f).take (0+l.length)).drop 0=l.map f:=by rw [aOR,List.drop_zero];exact List.take_of_length_le (by rw [aNz];exact aOF _)
theorem aBg (f:GFound) (H:aB):aI Tryz.prog 238 [av (eP f)] H (fun r H'=>r=bv (iF f)∧H'=H):=by
 refine Pu ?_;refine Bd func238 rfl ntmps238<|Sr<|Dd (by exact cH (id:=1) rfl rfl rfl rfl rfl)<|Dd aN<|Zz<|Sq ?_;refine bA (t:=2) (n:=10) (X:=iF f) ?_ ?_
 ·all_goals refine Dd (aV lA) ?_
  all_goals refine Dd (bM isAgg9)<|Dd yJ<|Dm ?_
  all_goals refine Sp 6 (fun h6=>?_) fun h6=>?_
  all_goals try contradiction
  all_goals first|refine Fo<|Fo<|Fo ?_|refine On (aV FV)<|On (bM isAgg3)<|On cT ?_
  all_goals refine Dd cW<|Da ?_
  all_goals(exact⟨⟨_,rfl,by(simp only [iF, *];rfl)⟩,rfl,rfl,rfl⟩)
 exact aC<|Rt<|Qq
theorem HJ (l:List GFound) (H:aB) (hl:l.length < 4611686018427387904) :
  aI Tryz.prog 237 [.pv (RG l),.pv (.fn 238)] H (fun r H'=>r=iv (vY iF l)∧H'=H):=by
 refine Pu ?_;have hml:(l.map eP).length=l.length:=aNz _;refine Bd func237 rfl ntmps237<|Sr<|Dd aN<|Zz<|Sq<|Sr<|Dd aF<|Dd (fY gU)<|Dd aF<|Zz<|aG ?_;refine bT (σ:=Nat) (fun k=>([(0,.pv (RG l)),(1,.pv (.fn 238)),(7,iv ((l.map eP).length:Int)),(8,iv (k:Int))],[])) (fun k=>k≤l.length∧∀ j,j < k→∀ b,l[j]?=some b→iF b=false) (fun k=>l.length - k) 0 ⟨by omega,by omega⟩ ?_ ?_
 ·exact E0
 rintro k ⟨hk,hno⟩;refine Sr<|Dd dK<|Zz<|Sq ?_;refine Cn ?_ ?_<;>intro hc1
 ·have hlt:k < l.length:=by have:=aNv hc1;omega
  obtain ⟨o,ho⟩:=aZ hlt;have hi:=cP (f:=eP) ho;refine aD<|Sq<|aG<|Sr<|Dd aF<|Dd aN<|Zz<|Sr<|Dd aF<|Dd aF<|Dd aF<|Dd (lN nG)<|Dd (by exact dL rfl WS sizeOf196 rfl (by omega) (by simp only [Zl,bJ,bQ,encStr,iR,eP];rfl) rfl)<|Dd (by exact cR rfl rfl rfl (dD.fn call238 (aBg o _)))<|Zz ?_;refine Cn ?_ ?_<;>intro hc2
  ·refine Sr<|Dd aF<|Dd aN<|Zz<|aC<|Rt ?_;exact⟨by rw [vY,QC hno ho hc2],rfl⟩
  refine aD<|Rg<|Dd lR<|Dd aF<|Zz ?_;exact⟨k+1,⟨by omega,tM hno ho hc2⟩,by omega,E0⟩
 have hge:k=l.length:=by have:=aNw hc1;omega
 subst hge;refine bC<|Sr<|Dd aN<|Zz<|aC<|Rt ?_;exact⟨by rw [vY,QD hno],rfl⟩
def EZ (T:List GFound) (k:Nat):List GFound:=T++List.replicate k noF
theorem EY (T:List GFound) (k:Nat):(EZ T k).length=T.length+k:=by rw [EZ,aOA,List.length_replicate]
theorem aD8 (T:List GFound) (k:Nat):jZ (EZ T k)++[(eP noF).map AV.pv]=jZ (EZ T (k+1)):=by rw [DI,EZ,EZ,List.replicate_succ',List.append_assoc]
def kF (s:ByteArray):Nat→Int
 | 0=>0
 | j+1=>if eL ((j+1:Nat):Int)=s then((j+1:Nat):Int)else kF s j
theorem aHK (s:ByteArray):kF s 5=IM s:=by simp only [kF,IM,eq_comm (a:=s)];rfl
theorem KQ:∀ l:List GFound,nT l=eO l (l.length / 3)
 | []=>by simp [nT,eO]
 | [a]=>by simp [nT,eO]
 | [a,b]=>by simp [nT,eO]
 | a::b::c::r=>by
  rw [nT,KQ r];have h1:(a::b::c::r).length=r.length+3:=rfl;rw [h1,Nat.add_div_right _ (by decide),eO,eO,List.range_succ_eq_map,List.map_cons,List.map_map];rfl
theorem aFI (s:ByteArray):atV s=(nI s).1:=by rw [atV,nI];cases h:Lib.atoiAll s.data.toList<;>rfl
abbrev oR (id:ByteArray) (k x y:Int) (n m:Nat):Ob:=bx 6 153 [sv id,iv k,iv x,iv y,.osl 906 n 0 n,.osl 907 m 0 m]
def TC (L:List GFound):Ob:=⟨L.length,3,196,jZ L⟩
def rH (L:List GFound) (id:ByteArray) (k x y:Int) (R:List ByteArray) (G:List GTag):aB:=[(907,⟨G.length,2,206,sD G⟩),(906,⟨R.length,1,9,dS R⟩),(3,oR id k x y R.length G.length),(905,TC L),(2,bx 6 153 ((bQ zObj).map .pv))]
abbrev rE (L:List GFound):cB:=[(0,.osl 905 L.length 0 L.length),(2,.ref 2 0 0 0),(3,.ref 3 0 0 0)]
theorem aMh (L:List GFound) (id:ByteArray) (k x y:Int) (R:List ByteArray) (s:ByteArray) (G:List GTag):rH L id k x y (R++[s]) G=[(907,⟨G.length,2,206,sD G⟩),(906,⟨R.length+1,1,9,dS (R++[s])⟩),(3,oR id k x y (R.length+1) G.length),(905,TC L),(2,bx 6 153 ((bQ zObj).map .pv))]:=by simp [rH]
theorem aLA (L:List GFound) (id:ByteArray) (k x y:Int) (R:List ByteArray) (t:GTag) (G:List GTag):rH L id k x y R (G++[t])=[(907,⟨G.length+1,2,206,sD (G++[t])⟩),(906,⟨R.length,1,9,dS R⟩),(3,oR id k x y R.length (G.length+1)),(905,TC L),(2,bx 6 153 ((bQ zObj).map .pv))]:=by simp [rH]
theorem xZ {L:List GFound} {i:Nat} {f:GFound} (h:L[i]?=some f):(jZ L)[i]?=some [iv f.kind,sv f.text,iv (f.pos:Int)]:=by rw [jZ,aOT,h];rfl
theorem aIv (T:List GFound) (hl:T.length < 549755813888) (hsz:∀ f∈rC T,f.text.size < 1099511627776):aI Tryz.prog 202 [.osl 905 T.length 0 T.length] [(905,TC T)] (fun r H'=>r=av (bQ (lV T))∧H'=[(905,TC (rC T))]):=by
 refine Bd func202 rfl ntmps202<|Sr<|Dd (by exact bU (id:=2) rfl ZB rfl rfl)<|Zz<|Sq<|aG ?_;refine bT (σ:=Nat) (fun k=>([(0,.osl 905 (EZ T k).length 0 (EZ T k).length),(2,.ref 2 0 0 0)],[(905,TC (EZ T k)),(2,bx 6 153 ((bQ zObj).map .pv))])) (fun k=>k≤4 - T.length) (fun k=>4 - T.length - k) 0 (aOQ _) ?_ ?_
 ·rw [show EZ T 0=T by simp [EZ]];exact(cY.wk (Ea<|Ea<|trivial) (Hc (cN _ _)<|Hb<|trivial) ⟨rfl,trivial⟩)
 rintro k hk;have hpl:=EY T k;unfold TC;refine Sq<|Sr<|Dd aF<|Dd (by exact eE rfl gU rfl rfl rfl)<|Dd dK<|Zz ?_;refine Cn ?_ ?_<;>intro hc1
 ·have hlt:T.length+k < 4:=by have:=aNv hc1;rw [hpl] at this;omega
  refine aD<|aG<|Rg<|Dd aF<|Dd (uQ aIZ)<|Dd (by exact aR [eP noF] rfl nG rfl rfl rfl rfl rfl (by intro r hr;rw [aOC] at hr;subst hr;rfl))<|Dd (by exact dH (ps:=[eP noF]) rfl nG aEe rfl rfl rfl rfl rfl (yA _) rfl (by intro r hr;rw [aOC] at hr;subst hr;rfl) (m:=1) rfl (by omega) rfl (aD8 T k))<|Da ?_;refine⟨k+1,by omega,by omega,?_⟩;rw [show (EZ T (k+1)).length=(EZ T k).length+1 by rw [EY,EY];omega];exact(cY.wk (Ea<|Ea<|trivial) (Hc (cN _ _)<|Hb<|trivial) ⟨rfl,trivial⟩)
 have hge:4≤T.length+k:=by have:=aNw hc1;rw [hpl] at this;omega
 obtain rfl:k=4 - T.length:=by omega
 obtain ⟨L,hL⟩:∃ L,L=EZ T (4 - T.length):=⟨_,rfl⟩;have hLp:rC T=L:=by rw [hL];rfl
 have hLl:4≤L.length∧L.length < 549755813893:=by rw [hL,EY];omega
 rw [hLp] at hsz;rw [hLp,← hL];clear hpl;obtain ⟨t0,ht0⟩:=aZ (show 0 < L.length by omega);obtain ⟨t1,ht1⟩:=aZ (show 1 < L.length by omega);obtain ⟨t2,ht2⟩:=aZ (show 2 < L.length by omega);obtain ⟨t3,ht3⟩:=aZ (show 3 < L.length by omega);have hr0:=xZ ht0;have hr1:=xZ ht1;have hr2:=xZ ht2;have hr3:=xZ ht3;have hd:∀ {i:Nat} {f:GFound},L[i]?=some f→L.getD i noF=f:=fun {i f} h=>by rw [List.getD_eq_getElem?_getD,h];rfl
 have hR:=lV.eq_1 T;rw [hLp,hd ht0,hd ht1,hd ht2,hd ht3] at hR;refine bC<|Sr<|Dd aF<|Dd (by exact dI rfl nG rfl rfl rfl rfl rfl (by omega) (by exact aOK _) (show 1 < L.length by omega) rfl)<|Dd (aV lA)<|Dd (by exact aK rfl isAgg9 rfl rfl rfl hr1 rfl)<|Dd (uQ aKE)<|Dd (by exact bU (id:=3) rfl aIb rfl rfl)<|Uu (kQ sizeOf153)<|Zz<|Sq<|Sq ?_;refine gK.ent (E':=rE L) (H':=[(906,⟨0,1,9,[]⟩),(3,bx 6 153 [sv t1.text,iv 0,iv 0,iv 0,.osl 906 0 0 0,.pv .nils]),(905,TC L),(2,bx 6 153 ((bQ zObj).map .pv))]) (cY.nz 906 1 9 rfl rfl ⟨⟨_,rfl,(by exact Nz.same (by(simp;rfl)))⟩,⟨_,rfl,(by exact Nz.same (by(simp;rfl)))⟩,⟨_,rfl,(by exact Nz.same (by(simp;rfl)))⟩,trivial⟩ ⟨⟨_,rfl,rfl,rfl,rfl,(by exact .inr ⟨_,_,rfl,rfl,(by repeat(first|exact trivial|refine⟨(by first|exact Nz.own|exact Nz.same (by(simp;done))),?_⟩))⟩)⟩,⟨_,rfl,rfl,rfl,rfl,(by exact .inl ⟨rfl,(by exact cN _ _)⟩)⟩,⟨_,rfl,rfl,rfl,rfl,(by exact .inl ⟨rfl,(by(simp;done))⟩)⟩,trivial⟩ ⟨rfl,trivial⟩) ?_;refine gK.ent (E':=rE L) (H':=rH L t1.text 0 0 0 [] []) (cY.nz 907 2 206 rfl rfl ⟨⟨_,rfl,(by exact Nz.same (by(simp;rfl)))⟩,⟨_,rfl,(by exact Nz.same (by(simp;rfl)))⟩,⟨_,rfl,(by exact Nz.same (by(simp;rfl)))⟩,trivial⟩ ⟨⟨_,rfl,rfl,rfl,rfl,(by exact .inl ⟨rfl,(by exact cL _ _)⟩)⟩,⟨_,rfl,rfl,rfl,rfl,(by exact .inr ⟨_,_,rfl,rfl,(by repeat(first|exact trivial|refine⟨(by first|exact Nz.own|exact Nz.same (by first|(simp;done)|(simp;rfl))),?_⟩))⟩)⟩,⟨_,rfl,rfl,rfl,rfl,(by exact .inl ⟨rfl,(by exact cN _ _)⟩)⟩,⟨_,rfl,rfl,rfl,rfl,(by exact .inl ⟨rfl,(by(simp;done))⟩)⟩,trivial⟩ ⟨rfl,trivial⟩) ?_;refine Rg<|Dd aN<|Zz<|aG ?_;refine bT (σ:=Nat) (fun j=>(rE L++[(4,iv ((j+1:Nat):Int))],rH L t1.text (kF t0.text j) 0 0 [] [])) (fun j=>j≤5) (fun j=>5 - j) 0 (aOQ _) ?_ ?_
 ·exact(cY.wk (Ea<|Ea<|Ea<|Eb<|trivial) (Hc (kU _ _)<|Hc (cL _ _)<|Hc (by(simp;exact⟨rfl,rfl⟩))<|Hc (cN _ _)<|Hb<|trivial) ⟨rfl,trivial⟩)
 rintro j hj;refine Sq<|Sr<|Dd aF<|Dd MB<|Zz ?_;refine Cn ?_ ?_<;>intro hc2
 ·have hj5:j < 5:=by have:=aNv hc2;omega
  refine aD<|Sq<|aG<|Sq<|aO follows<|Cq aF<|Cq (by exact aA rfl rfl wH rfl (DG ((j+1:Nat):Int) _))<|Cq aF<|Cq (by exact dI rfl nG rfl rfl rfl rfl rfl (by omega) (by exact aOK _) (show 0 < L.length by omega) rfl)<|Cq (aV lA)<|Cq (by exact aK rfl isAgg9 rfl rfl rfl hr0 rfl)<|Cq yJ<|bL<|Kr ?_;refine Cn ?_ ?_<;>intro hc3
  ·have hw:eL ((j+1:Nat):Int)=t0.text:=aNv hc3;refine Rg<|Dd aF<|Dd (aV dX)<|Uu (by exact bH rfl sizeOf3 rfl rfl rfl rfl rfl rfl (by simp only [aOB,List.length_nil];omega) (by simp only [Zl,bJ,bQ,encStr,iR,eP];rfl) (by simp only [Zl,bJ,bQ,encStr,iR,eP];rfl))<|Zz<|Rg<|Dd aF<|Dd lR<|Da ?_;refine⟨j+1,by omega,by omega,?_⟩;rw [show kF t0.text (j+1)=((j+1:Nat):Int)by rw [kF,aNy hw]];exact(cY.wk (Ea<|Ea<|Ea<|Eb<|trivial) (Hc (kU _ _)<|Hc (cL _ _)<|Hc (by(simp;exact⟨rfl,rfl⟩))<|Hc (cN _ _)<|Hb<|trivial) ⟨rfl,trivial⟩)
  have hw:eL ((j+1:Nat):Int)≠t0.text:=aNw hc3;refine aD<|Rg<|Dd aF<|Dd lR<|Da ?_;refine⟨j+1,by omega,by omega,?_⟩;rw [show kF t0.text (j+1)=kF t0.text j by rw [kF,aNx hw]];exact(cY.wk (Ea<|Ea<|Ea<|Eb<|trivial) (Hc (kU _ _)<|Hc (cL _ _)<|Hc (by(simp;exact⟨rfl,rfl⟩))<|Hc (cN _ _)<|Hb<|trivial) ⟨rfl,trivial⟩)
 have hj5:j=5:=by have:=aNw hc2;omega
 subst hj5;rw [aHK];obtain ⟨kd,hkd⟩:∃ kd,kd=IM t0.text:=⟨_,rfl⟩;rw [← hkd] at hR ⊢;have htk:(jZ L).length=L.length:=yA L;refine bC<|Sr<|Dd aF<|Dd (by exact iG (l:=4) (h:=L.length) rfl nG rfl rfl rfl rfl rfl rfl (by omega) (by omega) rfl rfl)<|Dd aN<|Zz<|Sq<|Sr<|Dd (aV dX)<|Dd (bM isAgg3)<|Dd cT<|Zz ?_;refine Cn ?_ ?_<;>intro hc4
 ·have hk1:kd=1:=aNv hc4;have hR2:lV T=⟨t1.text,1,atV t2.text,atV t3.text,[],nT (L.drop 4)⟩:=by rw [hR,aNy hk1]
  subst hk1;refine Sr<|Dd aF<|Dd (by exact dI rfl nG rfl rfl rfl rfl rfl (by omega) (by exact aOK _) (show 2 < L.length by omega) rfl)<|Dd (aV lA)<|Dd (by exact aK rfl isAgg9 rfl rfl rfl hr2 rfl)<|Dd (by exact aA rfl rfl wM rfl (KA t2.text (hsz _ (aOJ ht2)) _))<|Dd aF<|Dd fL<|Dd fL<|Dd (aV lD)<|Dd (aV pS)<|Uu (by exact bH rfl sizeOf3 rfl rfl rfl rfl rfl rfl (by simp only [aOB,List.length_nil];omega) (by simp only [Zl,bJ,bQ,encStr,iR,eP];rfl) (by simp only [Zl,bJ,bQ,encStr,iR,eP];rfl))<|Zz<|Rg<|Dd aF<|Dd (by exact dI rfl nG rfl rfl rfl rfl rfl (by omega) (by exact aOK _) (show 3 < L.length by omega) rfl)<|Dd (aV lA)<|Dd (by exact aK rfl isAgg9 rfl rfl rfl hr3 rfl)<|Dd (by exact aA rfl rfl wM rfl (KA t3.text (hsz _ (aOJ ht3)) _)) ?_;refine Dd aF<|Dd fL<|Dd fL<|Dd (aV lD)<|Dd (aV pR)<|Uu (by exact bH rfl sizeOf3 rfl rfl rfl rfl rfl rfl (by simp only [aOB,List.length_nil];omega) (by simp only [Zl,bJ,bQ,encStr,iR,eP];rfl) (by simp only [Zl,bJ,bQ,encStr,iR,eP];rfl))<|Zz<|Sq<|aG ?_;obtain ⟨D,hD⟩:∃ D,D=L.drop 4:=⟨_,rfl⟩;have hDl:D.length=L.length - 4:=by rw [hD,aOO]
  refine bT (σ:=Nat) (fun j=>(rE L++[(5,.osl 905 L.length (4+3*j) (L.length - 4 - 3*j))],rH L t1.text 1 (nI t2.text).1 (nI t3.text).1 ([]:List ByteArray) (eO D j))) (fun j=>3*j≤D.length) (fun j=>D.length - 3*j) 0 (aOQ _) ?_ ?_
  ·exact(cY.wk (Ea<|Ea<|Ea<|Ea<|trivial) (Hc (kU _ _)<|Hc (cL _ _)<|Hc (by(simp;exact⟨rfl,rfl⟩))<|Hc (cN _ _)<|Hb<|trivial) ⟨rfl,trivial⟩)
  rintro j hj;have hnx:=BP D j;have hfl:=DB D j;refine Sq<|Sr<|Dd aF<|Dd (by exact eE rfl gU rfl rfl rfl)<|Dd jE<|Zz ?_;refine Cn ?_ ?_<;>intro hc5
  ·have hlt:3*j+2 < D.length:=by have:=aNv hc5;omega
   obtain ⟨f0,hf0⟩:∃ f,L[4+3*j]?=some f:=aZ (by omega);obtain ⟨f2,hf2⟩:∃ f,L[4+3*j+2]?=some f:=aZ (by omega);have hr0:=xZ hf0;have hr2:=xZ hf2;have hta:OZ D j=⟨f0.text,f2.text⟩:=by
    rw [OZ,hD,List.getElem?_drop,List.getElem?_drop,hf0,show 4+(3*j+2)=4+3*j+2 from rfl,hf2];rfl
   refine aD<|Sq<|aG<|aO follows<|Cs (fun _ h=>fh eU h)<|Cs (fun _ h=>lh cM h)<|Cs (fun _ _=>aF)<|Cs (fun H1 hH=>by exact dI rfl nG rfl ((hH _ rfl).trans rfl) rfl rfl rfl (by omega) (by exact aOK _) (show 0 < L.length - 4 - 3*j by omega) rfl)<|Cs (fun _ h=>fh lA h)<|Cs (fun H1 hH=>by exact aK rfl isAgg9 rfl ((hH _ rfl).trans rfl) rfl hr0 rfl)<|Cs (fun _ _=>aF)<|Cs (fun H1 hH=>by exact dI rfl nG rfl ((hH _ rfl).trans rfl) rfl rfl rfl (by omega) (by exact aOK _) (show 2 < L.length - 4 - 3*j by omega) rfl)<|Cs (fun _ h=>fh lA h)<|Cs (fun H1 hH=>by exact aK rfl isAgg9 rfl ((hH _ rfl).trans rfl) rfl hr2 rfl)<|Cs (fun _ _=>(uQ aIY))<|Cs (fun H1 hH=>by exact aR [bJ ⟨f0.text,f2.text⟩] rfl jF rfl rfl rfl rfl rfl (by intro r hr;rw [aOC] at hr;subst hr;rfl)) ?_;refine bF (r:=⟨_,none,[_]⟩) (DStep.plain rfl (fun H1 hH=>by exact dH (ps:=[bJ ⟨f0.text,f2.text⟩]) rfl jF aIT rfl ((hH _ rfl).trans rfl) rfl rfl rfl (KL _) rfl (by intro r hr;rw [aOC] at hr;subst hr;rfl) (m:=1) rfl (by omega) rfl (KM (eO D j) ⟨f0.text,f2.text⟩))) rfl ?_;refine Cs (fun _ h=>fh eU h) ?_;refine bF (r:=⟨_,none,[_]⟩) (DStep.plain rfl (fun H1 hH=>by exact(by exact bH rfl sizeOf151 rfl rfl rfl ((hH _ rfl).trans rfl) rfl rfl (by simp only [aOB,List.length_nil];omega) (by simp only [Zl,bJ,bQ,encStr,iR,eP];rfl) (by simp only [Zl,bJ,bQ,encStr,iR,eP];rfl)))) rfl ?_;refine bL<|Kr<|Rg<|Dd aF<|Dd (by exact iG (l:=3) (h:=(L.length - 4 - 3*j)) rfl nG rfl rfl rfl rfl rfl rfl (by omega) (by omega) rfl rfl)<|Da ?_;refine⟨j+1,by omega,by omega,?_⟩;dsimp only;rw [hnx,hta,aLA];exact(cY.wk (Ea<|Ea<|Ea<|Ea<|trivial) (Hc (kU _ _)<|Hc (cL _ _)<|Hc (by(simp;exact⟨rfl,rfl⟩))<|Hc (cN _ _)<|Hb<|trivial) ⟨rfl,trivial⟩)
  have hge:D.length < 3*j+3:=by have:=aNw hc5;omega
  have hdj:D.length / 3=j:=by omega
  have hG:nT D=eO D j:=by rw [KQ,hdj]
  refine bC<|Sq ?_;refine gK.ent (cY.fzG (id:=907) (E':=rE L) (H':=[(906,⟨(([]:List ByteArray)).length,1,9,dS (([]:List ByteArray))⟩),(3,bx 6 153 [sv (t1.text),iv (1),iv ((nI t2.text).1),iv ((nI t3.text).1),.osl 906 (([]:List ByteArray)).length 0 (([]:List ByteArray)).length,.pv (qI (eO D j))]),(905,TC L),(2,bx 6 153 ((bQ zObj).map .pv))]) ((eO D j).map bJ) rfl (EW bJ _) ?_ rfl ?_ ?_) ?_
  ·intro p hp;simp only [aOL,aOP,or_false] at hp;rcases hp with rfl|rfl|rfl<;>exact⟨_,rfl,.same (by simp;rfl)⟩
  ·exact⟨⟨_,rfl,rfl,rfl,rfl,gZ (cL _ _)⟩,⟨_,rfl,rfl,rfl,rfl,pP rfl (dN (.same (by simp)) (dN (.same (by simp)) (dN (.same (by simp)) (dN (.same (by simp)) (dN (.same (by simp;rfl)) (dN (.osl (sW bJ _)) pQ))))))⟩,⟨_,rfl,rfl,rfl,rfl,gZ (cN _ _)⟩,⟨_,rfl,rfl,rfl,rfl,gZ (by simp)⟩,trivial⟩
  ·exact⟨rfl,trivial⟩
  refine gK.ent (cY.fzG (id:=906) (E':=rE L) (H':=[(3,bx 6 153 [sv (t1.text),iv (1),iv ((nI t2.text).1),iv ((nI t3.text).1),.pv (aX (([]:List ByteArray))),.pv (qI (eO D j))]),(905,TC L),(2,bx 6 153 ((bQ zObj).map .pv))]) ((([]:List ByteArray)).map encStr) rfl (fN _) ?_ rfl ?_ ?_) ?_
  ·intro p hp;simp only [aOL,aOP,or_false] at hp;rcases hp with rfl|rfl|rfl<;>exact⟨_,rfl,.same (by simp;rfl)⟩
  ·exact⟨⟨_,rfl,rfl,rfl,rfl,pP rfl (dN (.same (by simp)) (dN (.same (by simp)) (dN (.same (by simp)) (dN (.same (by simp)) (dN (.osl (sW encStr _)) (dN (.same (by simp)) pQ))))))⟩,⟨_,rfl,rfl,rfl,rfl,gZ (cN _ _)⟩,⟨_,rfl,rfl,rfl,rfl,gZ (by simp)⟩,trivial⟩
  ·exact⟨rfl,trivial⟩
  refine Rg<|Dd (by exact aL rfl cU sizeOf153 rfl rfl rfl rfl (by simp only [Zl,bJ,bQ,encStr,iR,eP];rfl) rfl)<|Uu (kQ sizeOf153)<|Zz<|aC ?_;refine dY (H':=[(905,TC L)]) (.inr rfl) rfl (fV rfl cU sizeOf153 rfl rfl rfl (by simp only [Zl,bJ,bQ,encStr,iR,eP];rfl) rfl) (Fin.wk (by(simp;done)) (Hc (cN _ _)<|trivial) ⟨rfl,trivial⟩) ?_;refine⟨?_,rfl⟩;rw [(show lV T=⟨t1.text,1,(nI t2.text).1,(nI t3.text).1,[],nT (L.drop 4)⟩by rw [hR2,aFI,aFI]),← hD,hG];rfl
 have hk1:kd≠1:=aNw hc4;rw [aNx hk1] at hR;have hIx:=HJ L [] (by omega);have hIr:∀ H,H.get 905=some (TC L)→aI Tryz.prog 237 [.osl 905 L.length 0 L.length,.pv (.fn 238)] H (fun r H'=>r=iv (vY iF L)∧H'=H):=fun H hH =>
  RO.calls (RO.lend (id:=905) (H1:=[]) (L.map eP) (RO.of hIx rfl) hH (EW eP L) rfl
   (dN (.osl (sW eP L)) (dN (.same (by simp)) pQ)) (fun _ _ h=>by cases h) (fun _ _ h=>by cases h) rfl)
 refine Sr<|Dd aF<|Dd (by exact aA rfl rfl call237 rfl (hIr _ rfl))<|Dd aN<|Zz<|Sq<|Sr<|Dd aF<|Dd dK<|Zz ?_;refine Cn ?_ ?_<;>intro hc6
 ·have hlo:vY iF L < 3:=aNv hc6;rw [aNy hlo] at hR;rw [hR];refine Sr<|Dd (uQ QS)<|Uu (kQ sizeOf153)<|Zz<|aC ?_;refine dY (H':=[(905,TC L)]) (.inr rfl) rfl (fV rfl cU sizeOf153 rfl rfl rfl (by simp only [Zl,bJ,bQ,encStr,iR,eP];rfl) rfl) (Fin.wk (by(simp;done)) (Hc (cN _ _)<|trivial) ⟨rfl,trivial⟩) ?_;exact Qq
 have hlo:¬ vY iF L < 3:=aNw hc6;rw [aNx hlo] at hR;obtain ⟨q,hq,hqL⟩:∃ q:Nat,vY iF L=(q:Int)∧q < L.length:=by
  rcases YJ iF L with⟨e1,_⟩|⟨q,o,e1,e2,_⟩
  ·rw [e1] at hlo;exact absurd (by decide) hlo
  exact⟨q,e1,(aOD.1 e2).1⟩
 rw [hq] at hR hlo ⊢;rw [aOK] at hR;have hq3:3≤q:=by omega
 obtain ⟨M,hM⟩:∃ M,M=(L.take q).drop 3:=⟨_,rfl⟩;have hMl:M.length=q - 3:=by rw [hM,aOO,aON];omega
 rw [← hM] at hR;refine aD<|Sq<|Sr<|Dd aF<|Dd aF<|Dd (by exact iG (l:=3) (h:=q) rfl nG rfl rfl rfl rfl rfl rfl (by omega) (by omega) rfl rfl)<|Dd (by exact eE rfl gU rfl rfl rfl)<|Dd aF<|Zz<|aG ?_;refine bT (σ:=Nat) (fun i=>(rE L++[(5,.osl 905 L.length 4 (L.length - 4)),(6,iv (q:Int)),(66,.osl 905 L.length 3 (q - 3)),(67,iv ((q - 3:Nat):Int)),(68,iv (i:Int))],rH L t1.text kd 0 0 ((M.take i).map GFound.text) [])) (fun i=>i≤M.length) (fun i=>M.length - i) 0 (aOQ _) ?_ ?_
 ·exact(cY.wk (Ea<|Ea<|Ea<|Ea<|Eb<|Ea<|Eb<|Eb<|trivial) (Hc (kU _ _)<|Hc (cL _ _)<|Hc (by(simp;exact⟨rfl,rfl⟩))<|Hc (cN _ _)<|Hb<|trivial) ⟨rfl,trivial⟩)
 rintro i hi;refine Sr<|Dd dK<|Zz<|Sq ?_;refine Cn ?_ ?_<;>intro hc7
 ·have hiq:i < q - 3:=by have:=aNv hc7;omega
  obtain ⟨f,hf⟩:=aZ (show i < M.length by omega);have hfL:L[3+i]?=some f:=by
   rw [hM,List.getElem?_drop,List.getElem?_take_of_lt (by omega)] at hf;exact hf
  have hrf:=xZ hfL;have hMt:(M.take (i+1)).map GFound.text=(M.take i).map GFound.text++[f.text]:=by rw [List.take_add_one,hf,List.map_append];rfl
  have hRl:((M.take i).map GFound.text).length=i:=by rw [aNz,aON];omega
  refine aD<|Sq<|aG<|Sr<|Dd (by exact dI rfl nG rfl rfl rfl rfl rfl (by omega) (by exact aOK _) (by omega) rfl)<|Dd (by exact aL rfl WS sizeOf196 rfl rfl rfl hrf (by simp only [Zl,bJ,bQ,encStr,iR,eP];rfl) rfl)<|Dd (by exact bU (id:=8) rfl aK9 rfl rfl)<|Uu (kQ sizeOf196)<|Zz<|Rg<|Dd (aV dO)<|Dd (bM aH)<|Dd (aV lA)<|Dd (bM isAgg9)<|Dd (by exact aR [encStr f.text] rfl cA rfl rfl rfl rfl rfl (by intro r hr;rw [aOC] at hr;subst hr;rfl))<|Dd (by exact dH (ps:=[encStr f.text]) rfl cA EC rfl rfl rfl rfl rfl (jY _) rfl (by intro r hr;rw [aOC] at hr;subst hr;rfl) (m:=1) rfl (by omega) rfl (lO ((M.take i).map GFound.text) f.text))<|Dd (aV dO)<|Uu (by exact bH rfl sizeOf22 rfl rfl rfl rfl rfl rfl (by simp only [aOB,List.length_nil];omega) (by simp only [Zl,bJ,bQ,encStr,iR,eP];rfl) (by simp only [Zl,bJ,bQ,encStr,iR,eP];rfl)) ?_;refine Zz<|Rg<|Dd lR<|Dd aF<|Zz ?_;refine⟨i+1,by omega,by omega,?_⟩;dsimp only;rw [hMt,aMh];exact(cY.wk (Ea<|Ea<|Ea<|Ea<|Eb<|Ea<|Eb<|Eb<|trivial) (Hc (kU _ _)<|Hc (cL _ _)<|Hc (by(simp;exact⟨rfl,rfl⟩))<|Hc (cN _ _)<|Hb<|trivial) ⟨rfl,trivial⟩)
 have hiq:i=q - 3:=by have:=aNw hc7;omega
 have hMi:M.take i=M:=List.take_of_length_le (by omega);rw [hMi];refine bC<|Rg<|Dd aF<|Dd aF<|Dd (by exact cI rfl rfl rfl (show IntKind.i64.wrap ((q:Int)+1)=((q+1:Nat):Int)by rw [IntKind.wrap_i64];omega))<|Dd (by exact iG (l:=(q+1)) (h:=L.length) rfl nG rfl rfl rfl rfl rfl rfl (by omega) (by omega) rfl rfl)<|Dd aN<|Zz<|Sq<|aG ?_;rw [← aOR (q+1)] at hR;obtain ⟨D,hD⟩:∃ D,D=L.drop (0+(q+1)):=⟨_,rfl⟩;have hDl:D.length=L.length - (0+(q+1)):=by rw [hD,aOO]
 refine bT (σ:=Nat) (fun j=>(rE L++[(5,.osl 905 L.length ((0+(q+1))+3*j) (L.length - (q+1) - 3*j))],rH L t1.text kd 0 0 (M.map GFound.text) (eO D j))) (fun j=>3*j≤D.length) (fun j=>D.length - 3*j) 0 (aOQ _) ?_ ?_
 ·exact(cY.wk (Ea<|Ea<|Ea<|Ea<|trivial) (Hc (kU _ _)<|Hc (cL _ _)<|Hc (by(simp;exact⟨rfl,rfl⟩))<|Hc (cN _ _)<|Hb<|trivial) ⟨rfl,trivial⟩)
 rintro j hj;have hnx:=BP D j;have hfl:=DB D j;refine Sq<|Sr<|Dd aF<|Dd (by exact eE rfl gU rfl rfl rfl)<|Dd jE<|Zz ?_;refine Cn ?_ ?_<;>intro hc8
 ·have hlt:3*j+2 < D.length:=by have:=aNv hc8;omega
  obtain ⟨f0,hf0⟩:∃ f,L[(0+(q+1))+3*j]?=some f:=aZ (by omega);obtain ⟨f2,hf2⟩:∃ f,L[(0+(q+1))+3*j+2]?=some f:=aZ (by omega);have hr0:=xZ hf0;have hr2:=xZ hf2;have hta:OZ D j=⟨f0.text,f2.text⟩:=by
   rw [OZ,hD,List.getElem?_drop,List.getElem?_drop,hf0,show (0+(q+1))+(3*j+2)=(0+(q+1))+3*j+2 from rfl,hf2];rfl
  refine aD<|Sq<|aG<|aO follows<|Cs (fun _ h=>fh eU h)<|Cs (fun _ h=>lh cM h)<|Cs (fun _ _=>aF)<|Cs (fun H1 hH=>by exact dI rfl nG rfl ((hH _ rfl).trans rfl) rfl rfl rfl (by omega) (by exact aOK _) (show 0 < L.length - (q+1) - 3*j by omega) rfl)<|Cs (fun _ h=>fh lA h)<|Cs (fun H1 hH=>by exact aK rfl isAgg9 rfl ((hH _ rfl).trans rfl) rfl hr0 rfl)<|Cs (fun _ _=>aF)<|Cs (fun H1 hH=>by exact dI rfl nG rfl ((hH _ rfl).trans rfl) rfl rfl rfl (by omega) (by exact aOK _) (show 2 < L.length - (q+1) - 3*j by omega) rfl)<|Cs (fun _ h=>fh lA h)<|Cs (fun H1 hH=>by exact aK rfl isAgg9 rfl ((hH _ rfl).trans rfl) rfl hr2 rfl)<|Cs (fun _ _=>(uQ aIY))<|Cs (fun H1 hH=>by exact aR [bJ ⟨f0.text,f2.text⟩] rfl jF rfl rfl rfl rfl rfl (by intro r hr;rw [aOC] at hr;subst hr;rfl)) ?_;refine bF (r:=⟨_,none,[_]⟩) (DStep.plain rfl (fun H1 hH=>by exact dH (ps:=[bJ ⟨f0.text,f2.text⟩]) rfl jF aIT rfl ((hH _ rfl).trans rfl) rfl rfl rfl (KL _) rfl (by intro r hr;rw [aOC] at hr;subst hr;rfl) (m:=1) rfl (by omega) rfl (KM (eO D j) ⟨f0.text,f2.text⟩))) rfl ?_;refine Cs (fun _ h=>fh eU h) ?_;refine bF (r:=⟨_,none,[_]⟩) (DStep.plain rfl (fun H1 hH=>by exact(by exact bH rfl sizeOf151 rfl rfl rfl ((hH _ rfl).trans rfl) rfl rfl (by simp only [aOB,List.length_nil];omega) (by simp only [Zl,bJ,bQ,encStr,iR,eP];rfl) (by simp only [Zl,bJ,bQ,encStr,iR,eP];rfl)))) rfl ?_;refine bL<|Kr<|Rg<|Dd aF<|Dd (by exact iG (l:=3) (h:=(L.length - (q+1) - 3*j)) rfl nG rfl rfl rfl rfl rfl rfl (by omega) (by omega) rfl rfl)<|Da ?_;refine⟨j+1,by omega,by omega,?_⟩;dsimp only;rw [hnx,hta,aLA];exact(cY.wk (Ea<|Ea<|Ea<|Ea<|trivial) (Hc (kU _ _)<|Hc (cL _ _)<|Hc (by(simp;exact⟨rfl,rfl⟩))<|Hc (cN _ _)<|Hb<|trivial) ⟨rfl,trivial⟩)
 have hge:D.length < 3*j+3:=by have:=aNw hc8;omega
 have hdj:D.length / 3=j:=by omega
 have hG:nT D=eO D j:=by rw [KQ,hdj]
 refine bC<|Sq ?_;refine gK.ent (cY.fzG (id:=907) (E':=rE L) (H':=[(906,⟨((M.map GFound.text)).length,1,9,dS ((M.map GFound.text))⟩),(3,bx 6 153 [sv (t1.text),iv (kd),iv (0),iv (0),.osl 906 ((M.map GFound.text)).length 0 ((M.map GFound.text)).length,.pv (qI (eO D j))]),(905,TC L),(2,bx 6 153 ((bQ zObj).map .pv))]) ((eO D j).map bJ) rfl (EW bJ _) ?_ rfl ?_ ?_) ?_
 ·intro p hp;simp only [aOL,aOP,or_false] at hp;rcases hp with rfl|rfl|rfl<;>exact⟨_,rfl,.same (by simp;rfl)⟩
 ·exact⟨⟨_,rfl,rfl,rfl,rfl,gZ (cL _ _)⟩,⟨_,rfl,rfl,rfl,rfl,pP rfl (dN (.same (by simp)) (dN (.same (by simp)) (dN (.same (by simp)) (dN (.same (by simp)) (dN (.same (by simp;rfl)) (dN (.osl (sW bJ _)) pQ))))))⟩,⟨_,rfl,rfl,rfl,rfl,gZ (cN _ _)⟩,⟨_,rfl,rfl,rfl,rfl,gZ (by simp)⟩,trivial⟩
 ·exact⟨rfl,trivial⟩
 refine gK.ent (cY.fzG (id:=906) (E':=rE L) (H':=[(3,bx 6 153 [sv (t1.text),iv (kd),iv (0),iv (0),.pv (aX ((M.map GFound.text))),.pv (qI (eO D j))]),(905,TC L),(2,bx 6 153 ((bQ zObj).map .pv))]) (((M.map GFound.text)).map encStr) rfl (fN _) ?_ rfl ?_ ?_) ?_
 ·intro p hp;simp only [aOL,aOP,or_false] at hp;rcases hp with rfl|rfl|rfl<;>exact⟨_,rfl,.same (by simp;rfl)⟩
 ·exact⟨⟨_,rfl,rfl,rfl,rfl,pP rfl (dN (.same (by simp)) (dN (.same (by simp)) (dN (.same (by simp)) (dN (.same (by simp)) (dN (.osl (sW encStr _)) (dN (.same (by simp)) pQ))))))⟩,⟨_,rfl,rfl,rfl,rfl,gZ (cN _ _)⟩,⟨_,rfl,rfl,rfl,rfl,gZ (by simp)⟩,trivial⟩
 ·exact⟨rfl,trivial⟩
 refine Rg<|Dd (by exact aL rfl cU sizeOf153 rfl rfl rfl rfl (by simp only [Zl,bJ,bQ,encStr,iR,eP];rfl) rfl)<|Uu (kQ sizeOf153)<|Zz<|aC ?_;refine dY (H':=[(905,TC L)]) (.inr rfl) rfl (fV rfl cU sizeOf153 rfl rfl rfl (by simp only [Zl,bJ,bQ,encStr,iR,eP];rfl) rfl) (Fin.wk (by(simp;done)) (Hc (cN _ _)<|trivial) ⟨rfl,trivial⟩) ?_;refine⟨?_,rfl⟩;rw [hR,← hD,hG];rfl
theorem GN:∀ (l:List UInt8) (p:List UInt8×Nat),pD l=some p→p.1.length≤l.length
 | [],p,h=>by cases h
 | [c],p,h=>by
  rw [pD] at h
  split at h
  ·cases h;exact aOQ _
  cases h
 | c :: e :: r, p, h => by
  rw [pD] at h
  split at h
  ·cases h;exact aOQ _
  split at h
  ·cases h
  split at h
  ·cases hg:BI e with
   | none=>rw [hg] at h;cases h
   | some b =>
    rw [hg] at h;cases hu:pD r with
    | none=>rw [hu] at h;cases h
    | some q =>
     rw [hu] at h;cases h;have:=GN r q hu;show q.1.length+1≤r.length+1+1;omega
  cases hu:pD (e::r)with
  | none=>rw [hu] at h;cases h
  | some q =>
   rw [hu] at h;cases h;have:=GN (e::r) q hu;show q.1.length+1≤r.length+1+1;rw [aOB] at this;omega
theorem lQ (s:ByteArray) (i j:Nat):(s.extract i j).size≤s.size:=by rw [← aW,jP,aON,aOO,aW];omega
theorem aAs (s:ByteArray):(zB s).1.size≤s.size:=by
 rw [zB];cases h:pD (s.data.toList.drop 1)with
 | none=>exact aOQ _
 | some p =>
  have:=GN _ _ h;rw [aOO,aW] at this;show (⟨p.1.toArray⟩:ByteArray).size≤_;rw [← aW];show p.1.length≤_;omega
theorem W6 {s:ByteArray} {i:Nat} {f:GFound} {j:Nat} (h:iP s i=(some f,j)):f.text.size≤s.size:=by
 rw [iP] at h
 split at h
 ·cases h
 split at h
 ·cases h
 split at h
 ·cases h;exact lQ _ _ _
 split at h
 ·cases h;exact lQ _ _ _
 split at h
 ·cases h;rw [OB]
  split
  ·have h1:=aAs (s.extract i s.size);have h2:=lQ s i s.size;show (zB (s.extract i s.size)).1.size≤_;omega
  exact aOQ _
 split at h
 ·cases h;exact lQ _ _ _
 cases h;exact aOQ _
theorem DH (s:ByteArray):∀ (n i:Nat) (f:GFound),f∈mT s n i→f.text.size≤s.size
 | 0,_,_,h=>by cases h
 | n+1,i,f,h=>by
  rw [mT] at h
  split at h
  ·split at h
   ·exact DH s n _ f h
   rename_i g j hg;rcases aOL.1 h with rfl|h
   ·exact W6 hg
   split at h
   ·exact DH s n _ f h
   cases h
  cases h
theorem T1:∀ (ds acc:List GFound) (f:GFound),f∈(lU acc ds).1→f∈acc∨f∈ds
 | [],acc,f,h=>.inl h
 | d::ds,acc,f,h=>by
  rw [lU] at h
  split at h
  ·cases h
  split at h
  ·cases h
  rcases T1 ds _ f h with h|h
  ·rcases List.mem_append.1 h with h|h
   ·exact .inl h
   rw [aOC] at h;subst h;exact .inr List.mem_cons_self
  exact .inr (List.mem_cons_of_mem _ h)
theorem P2 (s:ByteArray) (f:GFound) (h:f∈(iN s).1):f.text.size≤s.size:=by
 rw [iN] at h
 split at h
 ·cases h
 rcases T1 _ _ f h with h|h
 ·cases h
 exact DH s _ _ f h
theorem UH {T:List GFound} {n:Nat} (h:∀ f∈T,f.text.size≤n):∀ f∈rC T,f.text.size≤n:=fun f hf=>by
 rw [rC] at hf;rcases List.mem_append.1 hf with h1|h1
 ·exact h f h1
 rw [(List.mem_replicate.1 h1).2];exact aOQ _
theorem OT:∀ (T:List GFound) (n:Nat),(∀ f∈T,f.text.size≤n)→(nT T).length≤T.length∧∀ t∈nT T,t.key.size≤n∧t.val.size≤n
 | [],n,_=>by simp [nT]
 | [a],n,_=>by simp [nT]
 | [a,b],n,_=>by simp [nT]
 | a::b::c::r,n,h=>by
  obtain ⟨i1,i2⟩:=OT r n fun f hf=>h f (by simp [hf]);rw [nT];refine⟨by simp only [aOB];omega,fun t ht=>?_⟩;rcases aOL.1 ht with rfl|ht
  ·exact⟨h a (by simp),h c (by simp)⟩
  exact i2 t ht
theorem aDa (T:List GFound):(rC T).length≤T.length+4:=by rw [rC,aOA,List.length_replicate];omega
theorem aDM {T:List GFound} {n:Nat} (h:∀ f∈T,f.text.size≤n) (hn:n < 4611686018427387904) (hl:T.length < 549755813888):okO (lV T):=by
 have hp:=UH h;have hpl:=aDa T;have hg:∀ i,((rC T).getD i noF).text.size≤n:=fun i=>by
  rw [List.getD_eq_getElem?_getD];cases e:(rC T)[i]? with
  | none=>exact aOQ _
  | some f=>exact hp f (aOJ e)
 have ht:∀ k,G5 (nT ((rC T).drop k)):=fun k=>by
  obtain ⟨a,b⟩:=OT ((rC T).drop k) n fun f hf=>hp f (List.mem_of_mem_drop hf);rw [aOO] at a;exact⟨by omega,fun t htt=>by have:=b t htt;omega⟩
 rw [lV]
 split
 ·exact⟨Nat.lt_of_le_of_lt (hg 1) hn,ht _,by show 0 < _;omega,fun s hs=>by cases hs⟩
 split
 ·exact⟨by decide,⟨by decide,fun t h=>by cases h⟩,by decide,fun s hs=>by cases hs⟩
 refine⟨Nat.lt_of_le_of_lt (hg 1) hn,ht _,?_,fun s hs=>?_⟩
 ·show (List.map _ _).length < _;rw [aNz,aOO,aON];omega
 obtain ⟨f,hf,rfl⟩:=List.mem_map.1 hs;have:=hp f (List.mem_of_mem_take (List.mem_of_mem_drop hf));omega
theorem tB (c:UInt8):∀ {l w:List UInt8},w∈fC c l→w.length≤l.length
 | [],w,h=>by
  rw [fC,aOC] at h;rw [h];exact aOF _
 | b::l,w,h=>by
  have hp:=yG c l;rw [fC] at h;cases e:fC c l with
  | nil=>rw [e] at hp;exact absurd hp (Nat.lt_irrefl 0)
  | cons x r =>
   have ih:∀ y∈x::r,y.length≤l.length:=fun y hy=>tB c (by rw [e];exact hy);rw [e] at h;rw [aOB]
   split at h
   ·rcases aOL.1 h with rfl|h
    ·exact aOQ _
    exact Nat.le_succ_of_le (ih w h)
   rcases aOL.1 h with rfl|h
   ·exact Nat.succ_le_succ (ih _ List.mem_cons_self)
   exact Nat.le_succ_of_le (ih w (List.mem_cons_of_mem _ h))
theorem PH {s:ByteArray} (hs:s.size < 1099511627776):okO (lV (iN s).1):=aDM (fun f hf=>P2 s f hf) (by omega) (FO s hs)
theorem MR (l:List ByteArray):∀ r∈l.map encStr,r.length=1:=fun r hr=>by
 obtain ⟨s,_,rfl⟩:=List.mem_map.1 hr;rfl
theorem M6 {p q:Prop} [Decidable p] [Decidable q] (h:(decide p&&decide q)=true):p∧q:=by simpa using h
theorem M7 {p q:Prop} [Decidable p] [Decidable q] (h:(decide p&&decide q)=false):¬ (p∧q):=by intro h2;simp [h2] at h
theorem aFz {H:aB} {id:Nat} {o:Ob} (h:H.get id=some o):Sub [(id,o)] H:=fun j x hx=>by
 by_cases e:j=id
 ·subst e;rw [get_cons_same] at hx;cases hx;exact h
 rw [get_cons_other _ _ e] at hx;cases hx
theorem aDo {id j:Nat} {a b:Ob} (h:(aB.get [(id,a)] j).isSome=true):(aB.get [(id,b)] j).isSome=true:=by
 by_cases e:j=id
 ·subst e;rw [get_cons_same];rfl
 rw [get_cons_other _ _ e] at h;cases h
theorem X5 (s:ByteArray) (H:aB) (hs:s.size < 1099511627776):aI Tryz.prog 165 [sv s] H (fun r H'=>r=.tup [av (bQ (qU s).1),iv (qU s).2]∧H'=H):=by
 refine Pu ?_;have hlen:=FO s hs;have hsz:=UH (P2 s);have hoo:=PH hs;rw [qU];refine Bd func165 rfl ntmps165<|Sr<|Dd (by exact bU (id:=2) rfl ZB rfl rfl)<|Dd aN<|Zz<|Sq<|Sr<|Dd aF<|Dd (lH underlying9)<|Dd jE<|Zz ?_;refine Cn ?_ ?_<;>intro hc1
 ·have h2:20000 < s.size:=by have:=aNv hc1;omega
  rw [aNy h2];refine Sr<|Dd (uQ QS)<|Uu (kQ sizeOf153)<|Dd aN<|Zz<|aC ?_;refine uM (H':=[]) (.inr rfl) rfl (XF cU sizeOf153) (aY rfl) (Fin.wk (r:=.tup [av (bQ zObj),iv 2]) (by simp) trivial trivial) ?_;exact Qq
 have h2:¬ 20000 < s.size:=by have:=aNw hc1;omega
 rw [aNx h2];by_cases he:(iN s).2.1=0
 ·have hlo:=fun H h=>aJa s H hs he h;obtain ⟨T,hT⟩:∃ T,T=(iN s).1:=⟨_,rfl⟩;rw [← hT] at hlen hsz hoo ⊢;simp only [← hT] at hlo;have hrd:∀ H,H.get 905=some (TC T)→aI Tryz.prog 202 [.osl 905 T.length 0 T.length] H (fun r H'=>r=av (bQ (lV T))∧H'=[(905,TC (rC T))]++H):=fun H hH =>
   aI.frame (aIv T hlen (fun f hf=>Nat.lt_of_le_of_lt (hsz f hf) hs)) (aFz hH) (eG.ofL ⟨cN _ _,trivial⟩) (by intro a ha;rw [aOC] at ha;subst ha;simp [aB.get]) (fun id h=>.inl (aDo h))
  obtain ⟨o,ho⟩:∃ o,o=lV T:=⟨_,rfl⟩;rw [← ho] at hrd hoo ⊢;refine aD<|Sr<|Dd aF<|Dd (by exact aA rfl rfl aNU rfl (hlo _ rfl))<|Dd aF<|Dd fL<|Dd fL<|Dd fL<|Dd aN<|Dd aN<|Dd aN<|Zz<|Sq<|Sr<|Dd aF<|Dd cT<|Zz ?_;refine Cn ?_ ?_<;>intro hc2
  ·refine Sr<|Dd aF<|Dd (by exact aA rfl rfl call202 rfl (hrd _ rfl))<|Dd (by exact bU (id:=7) rfl ZB rfl rfl)<|Uu (kQ sizeOf153)<|Zz<|Sr<|Dd (rQ cU sizeOf153)<|Dd (by exact aA rfl rfl call203 rfl (PO o _ hoo))<|Dd aF<|Dd fL<|Dd fL<|Dd aN<|Dd aN<|Zz<|Sq ?_;refine bA (t:=35) (n:=8) (X:=decide ((fJ o).2=0)&&decide ((fJ o).1=s)) ?_ ?_
   ·all_goals refine Dd aF ?_
    all_goals refine Dd cT<|Dm ?_
    all_goals refine Sp 31 (fun h31=>?_) fun h31=>?_
    all_goals try contradiction
    all_goals first|refine Fo<|Fo<|Fo ?_|refine On aF<|On aF<|On yJ ?_
    all_goals refine Dd cW<|Zz ?_
    all_goals(exact⟨⟨_,rfl,by(simp_all;done)⟩,rfl,rfl,rfl⟩)
   refine Cn ?_ ?_<;>intro hc3
   ·have hq:=M6 hc3;rw [aNy ⟨he,Prod.ext hq.2 hq.1⟩];refine Sr<|Dd (rQ cU sizeOf153)<|Uu (kQ sizeOf153)<|Dd aN<|Zz<|aC ?_;refine uM (H':=[]) (.inr rfl) rfl (XF cU sizeOf153) (aY rfl) (Fin.wk (r:=.tup [av (bQ o),iv 0]) (by simp) trivial trivial) ?_;exact Qq
   have hq:=M7 hc3;rw [aNx (fun h=>hq ⟨congrArg Prod.snd h.2,congrArg Prod.fst h.2⟩)];refine aD<|Sr<|Dd (uQ QS)<|Uu (kQ sizeOf153)<|Dd aN<|Zz<|aC ?_;refine uM (H':=[]) (.inr rfl) rfl (XF cU sizeOf153) (aY rfl) (Fin.wk (r:=.tup [av (bQ zObj),iv 5]) (by simp) trivial trivial) ?_;exact Qq
  exact absurd rfl (aNw hc2)
 refine aD<|Sr<|Dd aF<|Dd (by exact aA rfl rfl aNU rfl (aIN s _ hs))<|Dd aF<|Dd fL<|Dd fL<|Dd fL<|Dd aN<|Dd aN<|Dd aN<|Zz<|Sq<|Sr<|Dd aF<|Dd cT<|Zz ?_;refine Cn ?_ ?_<;>intro hc4
 ·exact absurd (aNv hc4) he
 refine aD<|Sr<|Dd (uQ QS)<|Uu (kQ sizeOf153)<|Dd aN<|Zz<|aC ?_;rw [aNx (fun h=>he h.1)];refine uM (H':=[]) (.inr rfl) rfl (XF cU sizeOf153) (aY rfl) (Fin.wk (r:=.tup [av (bQ zObj),iv 5]) (by simp) trivial trivial) ?_;exact Qq
theorem aG1 (s:ByteArray) (H:aB) (hs:s.size≤20000):aI Tryz.prog 120 [sv s] H (fun r H'=>r=av (aU (iQ s.data.toList))∧H'=H):=by
 refine Pu ?_;have hsz:=aW s;obtain ⟨W,hW⟩:∃ W,W=fC 32 s.data.toList:=⟨_,rfl⟩;obtain ⟨w0,hw0⟩:∃ w,w=W.headD []:=⟨_,rfl⟩;obtain ⟨rs,hrs⟩:∃ r,r=s.data.toList.drop (w0.length+1):=⟨_,rfl⟩;have hrl:rs.length≤s.size:=by rw [hrs,aOO,hsz];omega
 have hg:iQ s.data.toList=A4 W w0 rs:=by rw [iQ,← hW,← hw0,← hrs]
 have hC:∃ b,∀ H,aI Tryz.prog 117 [sv s,sv sSp] H (fun r H'=>r=.tup [sv (ofL w0),sv (ofL rs),bv b]∧H'=H):=by
  obtain ⟨b,hb⟩:=aH4 s;rw [← hW,← hw0,← hrs] at hb;exact⟨b,fun H=>by rw [← hb];exact aLs s H (by omega)⟩
 obtain ⟨b,hC⟩:=hC;have hSl:(eF s).length=W.length:=by rw [aAz,hW]
 have hml:((eF s).map encStr).length=W.length:=by rw [aNz,hSl]
 have hSg:∀ i,i < W.length→((eF s).map encStr)[i]?=some [.str (ofL (W.getD i []))]:=fun i hi=>by
  rw [hW];exact cP (f:=encStr) (aBA s i (by rw [hSl];exact hi))
 have hWs:∀ i,(ofL (W.getD i [])).size≤s.size:=fun i=>by
  rw [dA,List.getD_eq_getElem?_getD];cases e:W[i]? with
  | none=>exact aOQ _
  | some w =>
   have:=tB 32 (l:=s.data.toList) (w:=w) (by rw [← hW];exact aOJ e);rw [hsz] at this;exact this
 have hWl:W.length≤s.size+1:=by
  rw [hW,tD];have:=List.count_le_length (l:=s.data.toList) (a:=32);omega
 have hjl:((eF s).drop 3).length≤20001:=by rw [aOO,hSl];omega
 have hjs:cV ((eF s).drop 3)≤20000*((eF s).drop 3).length:=mN (fun w hw=>by
  have hw2:=List.mem_of_mem_drop hw;rw [eF,← hW] at hw2;obtain ⟨x,hx,rfl⟩:=List.mem_map.1 hw2;have:=tB 32 (l:=s.data.toList) (w:=x) (by rw [← hW];exact hx);show (ofL x).size≤_;rw [dA];omega)
 rw [hg,A4];refine Bd func120 rfl ntmps120<|Sr<|Dd (by exact bU (id:=2) rfl OM rfl rfl)<|Zz<|Sr<|Dd aF<|Dd (by exact aA rfl rfl call164 rfl (aBB s _ (by omega)))<|Dd aN<|Zz<|Sr<|Dd aF<|Dd (by exact aA rfl rfl call117 rfl (hC _))<|Dd aF<|Dd fL<|Dd fL<|Dd fL<|Dd aN<|Dd aN<|Dd aN<|Zz<|Sq<|aG<|Sr<|Dd aF<|Dd yJ<|Da ?_;refine Cn ?_ ?_<;>intro hc1
 ·have h1:w0=aAq:=pM.1 (aNv hc1);rw [aNy h1];refine Sr<|Dd aF<|Dd (by exact aA rfl rfl call165 rfl (X5 (ofL rs) _ (by rw [dA];omega)))<|Dd aF<|Dd fL<|Dd fL<|Dd (by exact bU (id:=7) rfl ZB rfl rfl)<|Uu (kQ sizeOf153)<|Dd aN<|Zz<|Sr<|Dd (rQ cU sizeOf153)<|Dd (uQ DE)<|Uu (kQ aS)<|Zz<|aC ?_;refine dY (H':=[]) (.inr rfl) rfl (XF bZ aS) (Fin.wk (r:=av (aU ⟨1,sNil,sNil,sNil,0,0,sNil,sNil,[],(qU (ofL rs)).1⟩)) (by simp) trivial trivial) ?_;exact Qq
 have h1:¬ w0=aAq:=fun e=>aNw hc1 (pM.2 e);rw [aNx h1];refine Sq ?_;refine bA (t:=30) (n:=9) (X:=decide (ofL w0=⟨#[109,111,118,101]⟩)&&decide ((((eF s).map encStr).length:Int)=4)) ?_ ?_
 ·all_goals refine Dd aF ?_
  all_goals refine Dd yJ<|Dm ?_
  all_goals refine Sp 33 (fun h33=>?_) fun h33=>?_
  all_goals try contradiction
  all_goals first|refine Fo<|Fo<|Fo ?_|refine On aF<|On (fY aE)<|On cT ?_
  all_goals refine Dd cW<|Da ?_
  all_goals(exact⟨⟨_,rfl,by(simp_all;done)⟩,rfl,rfl,rfl⟩)
 refine Cn ?_ ?_<;>intro hc2
 ·have h2:ofL w0=ofL ZI∧_:=M6 hc2;rw [pM,hml] at h2;rw [aNy ⟨h2.1,by omega⟩];have i1:=hSg 1 (by omega);have i2:=hSg 2 (by omega);have i3:=hSg 3 (by omega);have s2:=hWs 2;have s3:=hWs 3;refine Sq<|aO follows<|Cr [] (fun _ _=>aF)<|Cr [] (fun _ _=>(lN cA))<|Cr [] (fun _ _=>(jA isAgg9))<|Cr [] (fun _ _=>aF)<|Cr [] (fun _ _=>(lN cA))<|Cr [] (fun _ _=>(jA isAgg9))<|Cr [] (fun H1 hH=>by exact aA rfl rfl call166 rfl (US (ofL (W.getD 2 [])) _ (by omega)))<|Cr [] (fun _ _=>aF)<|Cr [] (fun _ _=>(lN cA))<|Cr [] (fun _ _=>(jA isAgg9))<|Cr [] (fun H1 hH=>by exact aA rfl rfl call166 rfl (US (ofL (W.getD 3 [])) _ (by omega)))<|Cr [] (fun _ _=>(uQ VZ))<|Cr [] (fun _ _=>(uQ DE))<|Cp [2] (fun H1 hH=>by exact cJ rfl aS rfl rfl rfl rfl ((hH _ rfl).trans rfl) rfl rfl rfl)<|bL<|Kr<|aC ?_;refine dY (H':=[]) (.inr rfl) rfl (XF bZ aS) (Fin.wk (r:=av (aU ⟨2,ofL (W.getD 1 []),sNil,sNil,N6 (W.getD 2 []),N6 (W.getD 3 []),sNil,sNil,[],zObj⟩)) (by simp) trivial trivial) ?_;exact Qq
 have h2:¬ (ofL w0=ofL ZI∧_):=M7 hc2;rw [pM,hml] at h2;rw [aNx (fun h=>h2 ⟨h.1,by omega⟩)];refine Sq ?_;refine bA (t:=51) (n:=9) (X:=decide (ofL w0=⟨#[116,97,103]⟩)&&decide ((3:Int) < (((eF s).map encStr).length:Int))) ?_ ?_
 ·all_goals refine Dd aF ?_
  all_goals refine Dd yJ<|Dm ?_
  all_goals refine Sp 54 (fun h54=>?_) fun h54=>?_
  all_goals try contradiction
  all_goals first|refine Fo<|Fo<|Fo ?_|refine On aF<|On (fY aE)<|On jE ?_
  all_goals refine Dd cW<|Da ?_
  all_goals(exact⟨⟨_,rfl,by(simp_all;done)⟩,rfl,rfl,rfl⟩)
 refine Cn ?_ ?_<;>intro hc3
 ·have h3:ofL w0=ofL aAn∧_:=M6 hc3;rw [pM,hml] at h3;rw [aNy ⟨h3.1,by omega⟩];have i1:=hSg 1 (by omega);have i2:=hSg 2 (by omega);have hJe:bs ((eF s).drop 3)=W.drop 3:=by
   rw [bs,eF,← hW,List.map_drop,List.map_map];congr 1;exact(List.map_congr_left fun x _=>cZ x).trans (List.map_id _)
  have hj:∀ H,aI Tryz.prog 168 [.pv (aX ((eF s).drop 3)),sv ⟨#[32]⟩] H (fun x H'=>x=sv (ofL (bS [32] (W.drop 3)))∧H'=H):=fun H=>by
   have:=sK ((eF s).drop 3) ⟨#[32]⟩ H (by decide) (by show 1*_+_+_ < _;omega);rw [hJe] at this;exact this
  have hJs:(ofL (bS [32] (W.drop 3))).size < 1099511627776:=by
   have:=eW ((eF s).drop 3);rw [hJe] at this;rw [dA];omega
  obtain ⟨J,hJ⟩:∃ J,J=ofL (bS [32] (W.drop 3)):=⟨_,rfl⟩;rw [← hJ] at hJs ⊢;simp only [← hJ] at hj;have htl:((iN J).1.map eP).length=(iN J).1.length:=aNz _;refine Sr<|Dd aF<|Dd (by exact xW (l:=3) (h:=((eF s).map encStr).length) (rows':=((eF s).drop 3).map encStr) rfl cA rfl (MR _) rfl rfl (by omega) (aOF _) (by rw [List.take_length];exact List.map_drop.symm))<|Dd (by exact aA rfl rfl oN rfl (hj _))<|Dd (by exact aA rfl rfl aNU rfl (aIN J _ hJs))<|Dd aF<|Dd fL<|Dd fL<|Dd fL<|Dd aN<|Dd aN<|Dd aN<|Zz<|Sr<|Dd aF<|Dd (fY gU)<|Dd cT<|Zz ?_;refine Cn ?_ ?_<;>intro hc4
  ·have h4:(iN J).1.length=1:=by have:=aNv hc4;omega
   obtain ⟨f,hf⟩:=List.length_eq_one_iff.1 h4;rw [hf];have hf0:([f].map eP)[0]?=some [.int .i64 f.kind,.str f.text,.int .i64 f.pos]:=rfl;refine Sq<|aO follows<|Cr [] (fun _ _=>aF)<|Cr [] (fun _ _=>(lN cA))<|Cr [] (fun _ _=>(jA isAgg9))<|Cr [] (fun _ _=>aF)<|Cr [] (fun _ _=>(lN cA))<|Cr [] (fun _ _=>(jA isAgg9))<|Cr [] (fun _ _=>aF)<|Cr [] (fun _ _=>(lN nG))<|Cr [] (fun _ _=>(OD lA))<|Cr [] (fun _ _=>(jA isAgg9))<|Cr [] (fun _ _=>(uQ DE))<|Cp [2] (fun H1 hH=>by exact cJ rfl aS rfl rfl rfl rfl ((hH _ rfl).trans rfl) rfl rfl rfl)<|bL<|Kr<|aC ?_;refine dY (H':=[]) (.inr rfl) rfl (XF bZ aS) (Fin.wk (r:=av (aU ⟨3,ofL (W.getD 1 []),sNil,sNil,0,0,ofL (W.getD 2 []),f.text,[],zObj⟩)) (by simp) trivial trivial) ?_;exact Qq
  have h4:(iN J).1.length≠1:=by have:=aNw hc4;omega
  split
  ·next f hf=>rw [hf] at h4;exact absurd rfl h4
  refine aD<|Sr<|Dd (uQ DE)<|Uu (kQ aS)<|Zz<|aC ?_;refine dY (H':=[]) (.inr rfl) rfl (XF bZ aS) (Fin.wk (r:=av (aU VN)) (by simp) trivial trivial) ?_;exact Qq
 have h3:¬ (ofL w0=ofL aAn∧_):=M7 hc3;rw [pM,hml] at h3;rw [aNx (fun h=>h3 ⟨h.1,by omega⟩)];refine Sq ?_;refine bA (t:=81) (n:=9) (X:=decide (ofL w0=⟨#[114,101,102,115]⟩)&&decide ((1:Int) < (((eF s).map encStr).length:Int))) ?_ ?_
 ·all_goals refine Dd aF ?_
  all_goals refine Dd yJ<|Dm ?_
  all_goals refine Sp 84 (fun h84=>?_) fun h84=>?_
  all_goals try contradiction
  all_goals first|refine Fo<|Fo<|Fo ?_|refine On aF<|On (fY aE)<|On jE ?_
  all_goals refine Dd cW<|Da ?_
  all_goals(exact⟨⟨_,rfl,by(simp_all;done)⟩,rfl,rfl,rfl⟩)
 refine Cn ?_ ?_<;>intro hc5
 ·have h4:ofL w0=ofL ZE∧_:=M6 hc5;rw [pM,hml] at h4;rw [aNy ⟨h4.1,by omega⟩];have i1:=hSg 1 (by omega);refine Sq<|aO follows<|Cr [] (fun _ _=>aF)<|Cr [] (fun _ _=>(lN cA))<|Cr [] (fun _ _=>(jA isAgg9))<|Cr [] (fun _ _=>aF)<|Cr [] (fun H1 hH=>by exact xW (l:=2) (h:=((eF s).map encStr).length) (rows':=((W.drop 2).map ofL).map encStr) rfl cA rfl (MR _) rfl rfl (by omega) (aOF _) (by rw [List.take_length,eF,← hW,List.map_drop,List.map_drop];rfl))<|Cr [] (fun _ _=>(uQ DE))<|Cp [2] (fun H1 hH=>by exact cJ rfl aS rfl rfl rfl rfl ((hH _ rfl).trans rfl) rfl rfl rfl)<|bL<|Kr<|aC ?_;refine dY (H':=[]) (.inr rfl) rfl (XF bZ aS) (Fin.wk (r:=av (aU ⟨4,ofL (W.getD 1 []),sNil,sNil,0,0,sNil,sNil,(W.drop 2).map ofL,zObj⟩)) (by simp) trivial trivial) ?_;exact Qq
 have h4:¬ (ofL w0=ofL ZE∧_):=M7 hc5;rw [pM,hml] at h4;rw [aNx (fun h=>h4 ⟨h.1,by omega⟩)];refine Sq ?_;refine bA (t:=95) (n:=9) (X:=decide (ofL w0=⟨#[100,114,111,112]⟩)&&decide ((((eF s).map encStr).length:Int)=2)) ?_ ?_
 ·all_goals refine Dd aF ?_
  all_goals refine Dd yJ<|Dm ?_
  all_goals refine Sp 98 (fun h98=>?_) fun h98=>?_
  all_goals try contradiction
  all_goals first|refine Fo<|Fo<|Fo ?_|refine On aF<|On (fY aE)<|On cT ?_
  all_goals refine Dd cW<|Da ?_
  all_goals(exact⟨⟨_,rfl,by(simp_all;done)⟩,rfl,rfl,rfl⟩)
 refine Cn ?_ ?_<;>intro hc6
 ·have h5:ofL w0=ofL ZK∧_:=M6 hc6;rw [pM,hml] at h5;rw [aNy ⟨h5.1,by omega⟩];have i1:=hSg 1 (by omega);refine Sr<|Dd aF<|Dd (lN cA)<|Dd (jA isAgg9)<|Dd (uQ DE)<|Uu (kQ aS)<|Zz<|aC ?_;refine dY (H':=[]) (.inr rfl) rfl (XF bZ aS) (Fin.wk (r:=av (aU ⟨5,ofL (W.getD 1 []),sNil,sNil,0,0,sNil,sNil,[],zObj⟩)) (by simp) trivial trivial) ?_;exact Qq
 have h5:¬ (ofL w0=ofL ZK∧_):=M7 hc6;rw [pM,hml] at h5;rw [aNx (fun h=>h5 ⟨h.1,by omega⟩)];refine Sq ?_;refine bA (t:=107) (n:=9) (X:=decide (ofL w0=⟨#[115,112,108,105,116]⟩)&&decide ((((eF s).map encStr).length:Int)=4)) ?_ ?_
 ·all_goals refine Dd aF ?_
  all_goals refine Dd yJ<|Dm ?_
  all_goals refine Sp 110 (fun h110=>?_) fun h110=>?_
  all_goals try contradiction
  all_goals first|refine Fo<|Fo<|Fo ?_|refine On aF<|On (fY aE)<|On cT ?_
  all_goals refine Dd cW<|Da ?_
  all_goals(exact⟨⟨_,rfl,by(simp_all;done)⟩,rfl,rfl,rfl⟩)
 refine Cn ?_ ?_<;>intro hc7
 ·have h6:ofL w0=ofL Q4∧_:=M6 hc7;rw [pM,hml] at h6;rw [aNy ⟨h6.1,by omega⟩];have i1:=hSg 1 (by omega);have i2:=hSg 2 (by omega);have i3:=hSg 3 (by omega);refine Sq<|aO follows<|Cr [] (fun _ _=>aF)<|Cr [] (fun _ _=>(lN cA))<|Cr [] (fun _ _=>(jA isAgg9))<|Cr [] (fun _ _=>aF)<|Cr [] (fun _ _=>(lN cA))<|Cr [] (fun _ _=>(jA isAgg9))<|Cr [] (fun _ _=>aF)<|Cr [] (fun _ _=>(lN cA))<|Cr [] (fun _ _=>(jA isAgg9))<|Cr [] (fun _ _=>(uQ DE))<|Cp [2] (fun H1 hH=>by exact cJ rfl aS rfl rfl rfl rfl ((hH _ rfl).trans rfl) rfl rfl rfl)<|bL<|Kr<|aC ?_;refine dY (H':=[]) (.inr rfl) rfl (XF bZ aS) (Fin.wk (r:=av (aU ⟨6,ofL (W.getD 1 []),ofL (W.getD 3 []),ofL (W.getD 2 []),0,0,sNil,sNil,[],zObj⟩)) (by simp) trivial trivial) ?_;exact Qq
 have h6:¬ (ofL w0=ofL Q4∧_):=M7 hc7;rw [pM,hml] at h6;rw [aNx (fun h=>h6 ⟨h.1,by omega⟩)];refine Sq ?_;refine bA (t:=125) (n:=9) (X:=decide (ofL w0=⟨#[106,111,105,110]⟩)&&decide ((((eF s).map encStr).length:Int)=3)) ?_ ?_
 ·all_goals refine Dd aF ?_
  all_goals refine Dd yJ<|Dm ?_
  all_goals refine Sp 128 (fun h128=>?_) fun h128=>?_
  all_goals try contradiction
  all_goals first|refine Fo<|Fo<|Fo ?_|refine On aF<|On (fY aE)<|On cT ?_
  all_goals refine Dd cW<|Da ?_
  all_goals(exact⟨⟨_,rfl,by(simp_all;done)⟩,rfl,rfl,rfl⟩)
 refine Cn ?_ ?_<;>intro hc8
 ·have h7:ofL w0=ofL ZJ∧_:=M6 hc8;rw [pM,hml] at h7;rw [aNy ⟨h7.1,by omega⟩];have i1:=hSg 1 (by omega);have i2:=hSg 2 (by omega);refine Sq<|aO follows<|Cr [] (fun _ _=>aF)<|Cr [] (fun _ _=>(lN cA))<|Cr [] (fun _ _=>(jA isAgg9))<|Cr [] (fun _ _=>aF)<|Cr [] (fun _ _=>(lN cA))<|Cr [] (fun _ _=>(jA isAgg9))<|Cr [] (fun _ _=>(uQ DE))<|Cp [2] (fun H1 hH=>by exact cJ rfl aS rfl rfl rfl rfl ((hH _ rfl).trans rfl) rfl rfl rfl)<|bL<|Kr<|aC ?_;refine dY (H':=[]) (.inr rfl) rfl (XF bZ aS) (Fin.wk (r:=av (aU ⟨7,ofL (W.getD 1 []),ofL (W.getD 2 []),sNil,0,0,sNil,sNil,[],zObj⟩)) (by simp) trivial trivial) ?_;exact Qq
 have h7:¬ (ofL w0=ofL ZJ∧_):=M7 hc8;rw [pM,hml] at h7;rw [aNx (fun h=>h7 ⟨h.1,by omega⟩)];refine aD<|Sr<|Dd (uQ DE)<|Uu (kQ aS)<|Zz<|aC ?_;refine dY (H':=[]) (.inr rfl) rfl (XF bZ aS) (Fin.wk (r:=av (aU VN)) (by simp) trivial trivial) ?_;exact Qq
def IU (l:List GEdit):List (List AV):=l.map fun e=>(aU e).map AV.pv
theorem aBq (l:List GEdit):(IU l).length=l.length:=aNz _
theorem aBr (l:List GEdit) (e:GEdit):IU l++[(aU e).map AV.pv]=IU (l++[e]):=by rw [IU,IU,List.map_append];rfl
theorem HO (H:aB) (l:List GEdit):∀ r∈IU l,∀ a∈r,Clo H a:=by intro r hr a ha;obtain ⟨d,_,rfl⟩:=List.mem_map.1 hr;obtain ⟨p,_,rfl⟩:=List.mem_map.1 ha;simp
theorem SD (H:aB) (s:ByteArray):∀ r∈(lB s).rows,∀ a∈r,Clo H a:=by intro r hr a ha;simp only [lB,bx,aOC] at hr;subst hr;rw [aOC] at ha;subst ha;simp
def pcE (t:ByteArray):cB:=[(0,sv t),(4,.ref 4 0 0 0)]
def lnE (t:ByteArray) (k:Nat):GEdit:=iQ (AZ (tW (gB t k))).data.toList
def HB (t:ByteArray) (k:Nat):List GEdit:=(List.range k).map (lnE t)
theorem aB8 (t:ByteArray) (k:Nat):HB t (k+1)=HB t k++[lnE t k]:=by rw [HB,List.range_succ,List.map_append];rfl
theorem LX (t:ByteArray) (k:Nat):(HB t k).length=k:=by rw [HB,aNz,List.length_range]
theorem LY (t:ByteArray):HB t (gN t).length=(kB t.data.toList).map fun s=>iQ (Lib.trimSuffix s [10]):=by
 refine List.ext_getElem? fun k=>?_;rw [HB,aOT,aOT];by_cases h:k < (gN t).length
 ·have h1:=(aHF h).1;rw [gN,aOT] at h1;cases e:(kB t.data.toList)[k]? with
  | none=>rw [e] at h1;cases h1
  | some w =>
   rw [e] at h1;have h1:ofY w=tW (gB t k):=Option.some.inj h1;rw [List.getElem?_range h,Option.map_some,Option.map_some,lnE,← h1,aCn,cZ];congr 3
 have h2:(kB t.data.toList)[k]?=none:=by
  rw [gN,aNz] at h;exact List.getElem?_eq_none (by omega)
 rw [h2,List.getElem?_eq_none (by simpa using h)];rfl
def pcK (t s:ByteArray) (k:Nat):aB:=[(933,lB s),(905,⟨k,15,155,IU (HB t k)⟩),(4,bx 1 23 [.osl 905 k 0 k])]
theorem aHO {a b c:Ob} {K:aB} (j:Nat):aB.get ((904,b)::(933,a)::K) j=aB.get ((933,a)::(904,b)::(933,c)::K) j:=by
 by_cases h1:j=904
 ·subst h1;rfl
 by_cases h2:j=933
 ·subst h2;rfl
 rw [get_cons_other _ _ h1,get_cons_other _ _ h2,get_cons_other _ _ h2,get_cons_other _ _ h1,get_cons_other _ _ h2]
theorem WZ (s:ByteArray):(AZ s).size≤s.size:=by
 rw [AZ]
 split
 ·rw [← aW,exL,aON,aOO,aW];omega
 exact aOF _
theorem LZ (s:ByteArray):(tW s).size≤s.size:=by
 rw [tW]
 split
 ·exact aOF _
 rw [← aW,exL,aON,aOO,aW];omega
theorem BE {t:ByteArray} {k:Nat} (h:k≤(gN t).length):(AZ (tW (gB t k))).size≤t.size:=Nat.le_trans (WZ _) (Nat.le_trans (LZ _) (wV t k h).2)
theorem PN {w:List UInt8} {n:Nat} (h:w.length≤n) (hn:n < 4611686018427387904):(ofL w).size < 4611686018427387904:=by rw [dA];omega
theorem YM {s:ByteArray} (hs:s.size < 1099511627776):okO (qU s).1:=by
 rw [qU]
 split
 ·exact⟨by decide,⟨by decide,fun t h=>by cases h⟩,by decide,fun s hs=>by cases hs⟩
 split
 ·exact PH hs
 exact⟨by decide,⟨by decide,fun t h=>by cases h⟩,by decide,fun s hs=>by cases hs⟩
theorem xV:okO zObj:=⟨by decide,⟨by decide,fun t h=>by cases h⟩,by decide,fun s hs=>by cases hs⟩
theorem yR:([]:List ByteArray).length < 4611686018427387904∧∀ s∈([]:List ByteArray),s.size < 4611686018427387904:=⟨by decide,fun s hs=>by cases hs⟩
theorem eJ:sNil.size < 4611686018427387904:=by decide
theorem P9 {s:List UInt8} (hs:s.length≤20000):LM (iQ s):=by
 have hw:∀ i,(ofL ((fC 32 s).getD i [])).size < 4611686018427387904:=fun i=>by
  refine PN (n:=20000) ?_ (by decide);rw [List.getD_eq_getElem?_getD];cases e:(fC 32 s)[i]? with
  | none=>exact aOQ _
  | some w=>exact Nat.le_trans (tB 32 (aOJ e)) hs
 have hz:∀ (op x y:Int),LM ⟨op,sNil,sNil,sNil,x,y,sNil,sNil,[],zObj⟩:=fun op x y=>⟨⟨eJ,eJ,eJ,eJ⟩,yR,xV⟩;rw [iQ,A4]
 split
 ·exact⟨⟨eJ,eJ,eJ,eJ⟩,yR,YM (by rw [dA,aOO];omega)⟩
 split
 ·exact⟨⟨hw 1,eJ,eJ,eJ⟩,yR,xV⟩
 split
 ·split
  ·exact⟨⟨hw 1,eJ,eJ,hw 2⟩,yR,xV⟩
  exact hz _ _ _
 split
 ·refine⟨⟨hw 1,eJ,eJ,eJ⟩,⟨?_,fun x hx=>?_⟩,xV⟩
  ·show (List.map _ _).length < _;have:=List.count_le_length (l:=s) (a:=32);rw [aNz,aOO,tD];omega
  obtain ⟨w,hw2,rfl⟩:=List.mem_map.1 hx;exact PN (n:=20000) (Nat.le_trans (tB 32 (List.mem_of_mem_drop hw2)) hs) (by decide)
 split
 ·exact⟨⟨hw 1,eJ,eJ,eJ⟩,yR,xV⟩
 split
 ·exact⟨⟨hw 1,hw 3,hw 2,eJ⟩,yR,xV⟩
 split
 ·exact⟨⟨hw 1,hw 2,eJ,eJ⟩,yR,xV⟩
 exact hz _ _ _
theorem HC:∀ {t:ByteArray} {n:Nat},t.size≤n→(gN t).length≤n
 | t,0,h=>by rw [xG (by omega)];exact aOF _
 | t,n+1,h=>by
  by_cases hp:0 < t.size
  ·rw [(yU hp).1,aOB];refine Nat.succ_le_succ (HC (n:=n) ?_);rw [IJ]
   split
   ·exact aOQ _
   next h1 =>
   obtain ⟨w,r,e1,e2,e3,e4,e5,e6⟩:=aER h1;rw [e3,aOK,← szY,e5];omega
  rw [xG hp];exact aOQ _
theorem aD5 (t:ByteArray) (H:aB) (hs:t.size < 1099511627776):aI Tryz.prog 54 [sv t] H (fun r H'=>r=.tup [.pv (hU (mC t).1),iv (mC t).2]∧H'=H):=by
 refine Pu ?_;rw [mC,← LY];refine Bd func54 rfl ntmps54<|Sr<|Dd aN<|Dd aN<|Zz<|Sq<|Sr<|Dd aF<|Dd (lH underlying9)<|Dd jE<|Zz ?_;refine Cn ?_ ?_<;>intro hc1
 ·have h2:20000 < t.size:=by have:=aNv hc1;omega
  rw [aNy h2];exact Sr<|Dd aN<|Dd aN<|Zz<|aC<|Ru<|Qq
 have h2:¬ 20000 < t.size:=by have:=aNw hc1;omega
 rw [aNx h2];refine aD<|Sr<|Dd (by exact bU (id:=4) rfl aK2 rfl rfl)<|Zz<|Sq<|Sr<|Dd aF<|Dd (by exact aA rfl rfl call119 rfl (aHE t _ rfl))<|Zz<|aG ?_;obtain ⟨n,hn⟩:∃ n,n=(gN t).length:=⟨_,rfl⟩;have hnl:n≤20000:=by rw [hn];exact HC (by omega)
 refine gK.ent (E':=[(0,sv t),(4,.ref 4 0 0 0),(12,.clo 163 [.ref 933 0 0 0])]) (H':=[(905,⟨0,15,155,[]⟩),(933,lB t),(4,bx 1 23 [.osl 905 0 0 0])]) ?_ ?_
 ·exact(cY.nz 905 15 155 rfl rfl ⟨⟨_,rfl,(by exact Nz.same (by(simp;done)))⟩,⟨_,rfl,(by exact Nz.same (by(simp;rfl)))⟩,⟨_,rfl,(by exact Nz.same (by(simp;rfl)))⟩,trivial⟩ ⟨⟨_,rfl,rfl,rfl,rfl,(by exact .inl ⟨rfl,(by exact SD _ _)⟩)⟩,⟨_,rfl,rfl,rfl,rfl,(by exact .inr ⟨_,_,rfl,rfl,(by repeat(first|exact trivial|refine⟨(by exact Nz.own),?_⟩))⟩)⟩,trivial⟩ trivial)
 refine gK.ent (E':=[(0,sv t),(4,.ref 4 0 0 0),(12,.clo 163 [.ref 933 0 0 0])]) (H':=pcK t t 0) (cY.wk (Eb<|Ea<|Ea<|trivial) (Hc (SD _ _)<|Hc (HO _ _)<|Ha<|trivial) trivial) ?_;refine CR (id:=904) (p:=13) (pcE t) rfl call163 rfl rfl (by simp [pcE];exact⟨rfl,rfl⟩) ?_;intro x hx1 hx2 hx3 hx4 hx5 hx6;have hround:∀ k,k < n→dD Tryz.prog (.yld 904 0) [sv (tW (gB t k))] ((904,LR x (pcE t))::pcK t (gB t (k+1)) k) (fun r H'=>r=bv true∧H'=(904,LR x (pcE t))::pcK t (gB t (k+1)) (k+1)):=by
  intro k hk;have hnx:=aB8 t k;have hll:=LX t k;have hls:=BE (t:=t) (k:=k) (by omega);have hla:(tW (gB t k)).size≤t.size:=Nat.le_trans (LZ _) (wV t k (by omega)).2;refine .inl ⟨904,0,rfl,?_⟩;refine Q1 [(0,sv t),(4,.ref 4 0 0 0),(5,sv (tW (gB t k)))] (pcK t (gB t (k+1)) k) hx1 hx2 hx3 hx4 hx5 hx6 rfl rfl rfl ?_ ?_
  ·refine Rg<|Da ?_;exact(cY.wk (Eb<|Ea<|Eb<|trivial) (Hc (kM (by simp [pcE];rfl))<|Hc (SD _ _)<|Hc (HO _ _)<|Ha<|trivial) ⟨rfl,rfl,rfl,rfl,trivial⟩)
  refine aG<|aO follows<|Cs (fun _ h=>lh kI h)<|Cs (fun _ _=>aF)<|Cs (fun H1 hH=>by exact aA rfl rfl call121 rfl (WY (tW (gB t k)) _ (by omega)))<|Cs (fun H1 hH=>by exact aA rfl rfl call120 rfl (aG1 (AZ (tW (gB t k))) _ (by omega)))<|Cs (fun H1 hH=>by exact aR [aU (lnE t k)] rfl RD rfl rfl rfl rfl rfl (by intro r hr;rw [aOC] at hr;subst hr;rfl)) ?_;refine bF (r:=⟨_,none,[_]⟩) (DStep.plain rfl (fun H1 hH=>by exact dH (ps:=[aU (lnE t k)]) rfl RD aLn rfl ((hH _ rfl).trans rfl) rfl rfl rfl ((aBq _).trans hll) rfl (by intro r hr;rw [aOC] at hr;subst hr;rfl) (m:=1) rfl (by omega) rfl (aBr (HB t k) (lnE t k)))) rfl ?_;refine bF (r:=⟨_,none,[_]⟩) (DStep.plain rfl (fun H1 hH=>by exact(by exact cJ rfl sizeOf23 rfl rfl rfl rfl ((hH _ rfl).trans rfl) rfl rfl rfl))) rfl ?_;refine bL<|Kr ?_;exact⟨[(933,lB (gB t (k+1))),(905,⟨k+1,15,155,IU (HB t k++[lnE t k])⟩),(4,bx 1 23 [.osl 905 (k+1) 0 (k+1)])],(cY.wk trivial (Hc (kM (by simp [pcE];rfl))<|Hc (SD _ _)<|Hc (HO _ _)<|Ha<|trivial) ⟨rfl,rfl,rfl,rfl,trivial⟩),rfl,by rw [← hnx];rfl⟩
 refine(aEG t (.yld 904 0) (fun k=>(904,LR x (pcE t))::pcK t (gB t k) k) hs (fun k=>rfl) (fun k hk=>?_)).mono ?_
 ·exact dD.congrG (hround k (by omega)) (fun j=>aHO j) (fun j=>rfl)
 rintro r H' ⟨rfl,rfl⟩;refine⟨x,_,rfl,by rw [hx1];decide,rfl,fun z=>?_⟩;rw [hx2];obtain ⟨L,hL⟩:∃ L,L=HB t n:=⟨_,rfl⟩;have hLl:L.length=n:=by rw [hL];exact LX t n
 rw [← hn,← hL];have hok:∀ e∈L,LM e:=fun e he=>by
  rw [hL,HB] at he;obtain ⟨k,hk,rfl⟩:=List.mem_map.1 he;have:=BE (t:=t) (k:=k) (by have:=List.mem_range.1 hk;omega);exact P9 (by rw [aW];omega)
 refine Sq<|Sq ?_;refine gK.ent (cY.fzG (id:=905) (E':=[(0,sv t),(4,.ref 4 0 0 0)]) (H':=[(4,bx 1 23 [.pv (hU L)])]) (L.map aU) rfl (by rw [hL];exact EW aU _) ?_ rfl ?_ ?_) ?_
 ·intro p hp;simp only [aOL,aOP,or_false] at hp;rcases hp with rfl|rfl<;>exact⟨_,rfl,.same (by simp;try rfl)⟩
 ·exact⟨⟨_,rfl,rfl,rfl,rfl,pP rfl (dN (.osl (by rw [← hLl];exact sW aU L)) pQ)⟩,trivial⟩
 ·exact trivial
 refine Rg<|Dd (bM kI)<|Dd (by exact aA rfl rfl call122 rfl (ZQ L _ (by omega) hok))<|Dd aF<|Dd fL<|Dd fL<|Dd aN<|Dd aN<|Zz<|Sq ?_;refine bA (t:=31) (n:=8) (X:=!decide ((fR L).2=0)||!decide ((fR L).1=t)) ?_ ?_
 ·all_goals refine Dd aF ?_
  all_goals refine Dd AI<|Dm ?_
  all_goals refine Sp 27 (fun h27=>?_) fun h27=>?_
  all_goals try contradiction
  all_goals first|refine Fo<|Fo<|Fo ?_|refine On aF<|On aF<|On JO ?_
  all_goals refine Dd cW<|Zz ?_
  all_goals(exact⟨⟨_,rfl,by(simp_all;done)⟩,rfl,rfl,rfl⟩)
 refine Cn ?_ ?_<;>intro hc2
 ·have hne:fR L≠(t,0):=fun e=>by have h:=hc2;rw [e] at h;simp at h
  rw [aNx hne];exact Sr<|Dd aN<|Dd aN<|Zz<|aC<|Ru<|Qq
 have hee:fR L=(t,0):=by have h:=hc2;simp only [aOV,Bool.not_eq_false',aOG] at h;exact Prod.ext h.2 h.1
 rw [aNy hee];exact aD<|Sr<|Dd (bM kI)<|Dd aN<|Dd aN<|Zz<|aC<|Ru<|Qq
end Go.Proofs.YtiifmppaejpemaaGreatDoor
namespace Go.Proofs.YtiifmppaejpemaaGreatDoor
open Go.Proofs.Tryz
open Go.Abs Go.Lib
theorem XM (t:ByteArray):∀ e∈(mC t).1,LM e:=by
 intro e he;rw [mC] at he
 split at he
 ·cases he
 next hs =>
 split at he
 ·have he:e∈(kB t.data.toList).map fun s=>iQ (Lib.trimSuffix s [10]):=he;rw [← LY,HB] at he;obtain ⟨k,hk,rfl⟩:=List.mem_map.1 he;have:=BE (t:=t) (k:=k) (by have:=List.mem_range.1 hk;omega);exact P9 (by rw [aW];omega)
 cases he
theorem UG (t:ByteArray):(mC t).1.length≤20000:=by
 rw [mC]
 split
 ·exact aOQ _
 next hs =>
 split
 ·show ((kB t.data.toList).map fun s=>iQ (Lib.trimSuffix s [10])).length≤_;rw [← LY,LX];exact HC (by omega)
 exact aOQ _
def GS {α:Type} (f:List UInt8→Option (α×List UInt8)) (d:α) (l:List UInt8):α×List UInt8:=(f l).getD (d,l)
def p0 (t:List UInt8):=GS iJ sNil t
def p1 (t:List UInt8):=GS nL 0 (p0 t).2
def p2 (t:List UInt8):=GS nL 0 (p1 t).2
def p3 (t:List UInt8):=GS nL 0 (p2 t).2
def p4 (t:List UInt8):=GS nL 0 (p3 t).2
def p5 (t:List UInt8):=GS iJ sNil (p4 t).2
def p6 (t:List UInt8):=GS (uU iJ) [] (p5 t).2
def p7 (t:List UInt8):=GS iJ sNil (p6 t).2
def p8 (t:List UInt8):=GS iJ sNil (p7 t).2
def p9 (t:List UInt8):=GS iJ sNil (p8 t).2
def NT (t:List UInt8):=GS nL 0 (p9 t).2
def NS (t:List UInt8):=GS iJ sNil (NT t).2
def NR (t:List UInt8):=GS RI zS (NS t).2
def NQ (t:List UInt8):=GS iJ sNil (NR t).2
def NP (t:List UInt8):=GS iJ sNil (NQ t).2
def NO (t:List UInt8):=GS (uU iJ) [] (NP t).2
def NN (t:List UInt8):=GS (uU GW) [] (NO t).2
def p17 (t:List UInt8):=GS RI zS (NN t).2
def N4:ByteArray:=⟨#[49]⟩
def C3 (t:List UInt8):GRec:=⟨(p1 t).1,(p2 t).1,(p3 t).1,(p4 t).1,(p5 t).1,(p6 t).1,(mC (p7 t).1).1,(p8 t).1,decide ((p9 t).1=N4),(NT t).1,(NS t).1,(NR t).1,⟨(NQ t).1,(NP t).1,(NO t).1,(NN t).1,(p17 t).1⟩⟩
def R4 (t:List UInt8):List Bool:=[(iJ t).isSome,(nL (p0 t).2).isSome,(nL (p1 t).2).isSome,(nL (p2 t).2).isSome,(nL (p3 t).2).isSome,(iJ (p4 t).2).isSome,((uU iJ) (p5 t).2).isSome,(iJ (p6 t).2).isSome,(iJ (p7 t).2).isSome,(iJ (p8 t).2).isSome,(nL (p9 t).2).isSome,(iJ (NT t).2).isSome,(RI (NS t).2).isSome,(iJ (NR t).2).isSome,(iJ (NQ t).2).isSome,((uU iJ) (NP t).2).isSome,((uU GW) (NO t).2).isSome,(RI (NN t).2).isSome]
def sH (t:List UInt8):Bool:=(R4 t).all id
def jM (t:List UInt8):GRec×Int:=if 20000 < t.length then(zR,2)else if sH t=true∧pE (C3 t)=(ofL t,0)then(C3 t,0)else(zR,5)
theorem iY {α:Type} {f:List UInt8→Option (α×List UInt8)} {d:α} {l:List UInt8} {e:α→AV}:((f l).map fun p=>(e p.1,p.2)).getD (e d,l)=(e (GS f d l).1,(GS f d l).2):=by rw [GS];cases f l<;>rfl
theorem lS {α:Type} {f:List UInt8→Option (α×List UInt8)} {d:α} {l:List UInt8} (h:∀ p q,f l=some (p,q)→q.length < l.length):(GS f d l).2.length≤l.length:=by
 rw [GS];cases e:f l with
 | none=>exact aOF _
 | some p=>exact Nat.le_of_lt (h p.1 p.2 e)
theorem RH {l q:List UInt8} {s:GSeal} (h:RI l=some (s,q)):q.length < l.length∧qT s.idx∧(s.sig.length≤l.length∧∀ x∈s.sig,x.size≤l.length)∧(s.path.length≤l.length∧∀ x∈s.path,x.size≤l.length):=by
 rw [RI] at h;cases hn:nL l with
 | none=>rw [hn] at h;cases h
 | some p =>
  obtain ⟨i,r⟩:=p;have h1:=iE hn;rw [hn] at h;simp only at h;cases ha:uU iJ r with
  | none=>rw [ha] at h;cases h
  | some p =>
   obtain ⟨a,r2⟩:=p;have h2:=vI ha;rw [ha] at h;simp only at h;cases hb:uU iJ r2 with
   | none=>rw [hb] at h;cases h
   | some p =>
    obtain ⟨b,r3⟩:=p;have h3:=vI hb;rw [hb] at h;cases h;exact⟨by omega,h1.2,⟨by show a.length≤_;omega,fun x hx=>by have:=h2.2 x hx;omega⟩,by show b.length≤_;omega,fun x hx=>by have:=h3.2 x hx;omega⟩
theorem rZ {α:Type} {f:List UInt8→Option (α×List UInt8)} {d:α} {l:List UInt8} (Q:α→Prop) (hd:Q d) (h:∀ p q,f l=some (p,q)→Q p):Q (GS f d l).1:=by
 rw [GS];cases e:f l with
 | none=>exact hd
 | some p=>exact h p.1 p.2 e
theorem aDh (t:List UInt8):(p0 t).2.length≤t.length:=lS (fun p q h=>by have:=iZ h;omega)
theorem aDf (t:List UInt8):(p1 t).2.length≤t.length:=Nat.le_trans (lS (fun p q h=>(iE h).1)) (aDh t)
theorem aDe (t:List UInt8):(p2 t).2.length≤t.length:=Nat.le_trans (lS (fun p q h=>(iE h).1)) (aDf t)
theorem aDd (t:List UInt8):(p3 t).2.length≤t.length:=Nat.le_trans (lS (fun p q h=>(iE h).1)) (aDe t)
theorem XU (t:List UInt8):(p4 t).2.length≤t.length:=Nat.le_trans (lS (fun p q h=>(iE h).1)) (aDd t)
theorem XT (t:List UInt8):(p5 t).2.length≤t.length:=Nat.le_trans (lS (fun p q h=>by have:=iZ h;omega)) (XU t)
theorem XS (t:List UInt8):(p6 t).2.length≤t.length:=Nat.le_trans (lS (fun p q h=>by have:=(vI h).1;omega)) (XT t)
theorem XR (t:List UInt8):(p7 t).2.length≤t.length:=Nat.le_trans (lS (fun p q h=>by have:=iZ h;omega)) (XS t)
theorem aDc (t:List UInt8):(p8 t).2.length≤t.length:=Nat.le_trans (lS (fun p q h=>by have:=iZ h;omega)) (XR t)
theorem aDb (t:List UInt8):(p9 t).2.length≤t.length:=Nat.le_trans (lS (fun p q h=>by have:=iZ h;omega)) (aDc t)
theorem RZ (t:List UInt8):(NT t).2.length≤t.length:=Nat.le_trans (lS (fun p q h=>(iE h).1)) (aDb t)
theorem RY (t:List UInt8):(NS t).2.length≤t.length:=Nat.le_trans (lS (fun p q h=>by have:=iZ h;omega)) (RZ t)
theorem RX (t:List UInt8):(NR t).2.length≤t.length:=Nat.le_trans (lS (fun p q h=>(RH h).1)) (RY t)
theorem RW (t:List UInt8):(NQ t).2.length≤t.length:=Nat.le_trans (lS (fun p q h=>by have:=iZ h;omega)) (RX t)
theorem RV (t:List UInt8):(NP t).2.length≤t.length:=Nat.le_trans (lS (fun p q h=>by have:=iZ h;omega)) (RW t)
theorem RU (t:List UInt8):(NO t).2.length≤t.length:=Nat.le_trans (lS (fun p q h=>by have:=(vI h).1;omega)) (RV t)
theorem RT (t:List UInt8):(NN t).2.length≤t.length:=Nat.le_trans (lS (fun p q h=>by have:=(aAN h).1;omega)) (RU t)
theorem aGh (t:List UInt8):(p17 t).2.length≤t.length:=Nat.le_trans (lS (fun p q h=>(RH h).1)) (RT t)
theorem aCx {l q:List UInt8} {s:GSeal} {n:Nat} (h:RI l=some (s,q)) (hn:l.length≤n):qT s.idx∧(s.sig.length≤n∧∀ x∈s.sig,x.size≤n)∧(s.path.length≤n∧∀ x∈s.path,x.size≤n):=by obtain ⟨_,h1,h2,h3⟩:=RH h;exact⟨h1,⟨by omega,fun x hx=>by have:=h2.2 x hx;omega⟩,by omega,fun x hx=>by have:=h3.2 x hx;omega⟩
theorem aKd (t:List UInt8):qT zS.idx∧(zS.sig.length≤t.length∧∀ x∈zS.sig,x.size≤t.length)∧(zS.path.length≤t.length∧∀ x∈zS.path,x.size≤t.length):=by simp [zS,qT]
theorem aLT (t:List UInt8):(qT) (p1 t).1:=by unfold p1;exact rZ (f:=nL) (d:=0) (l:=(p0 t).2) (qT) (⟨by decide,by decide⟩) (fun p q h=>(iE h).2)
theorem aLR (t:List UInt8):(qT) (p2 t).1:=by unfold p2;exact rZ (f:=nL) (d:=0) (l:=(p1 t).2) (qT) (⟨by decide,by decide⟩) (fun p q h=>(iE h).2)
theorem aLP (t:List UInt8):(qT) (p3 t).1:=by unfold p3;exact rZ (f:=nL) (d:=0) (l:=(p2 t).2) (qT) (⟨by decide,by decide⟩) (fun p q h=>(iE h).2)
theorem aLN (t:List UInt8):(qT) (p4 t).1:=by unfold p4;exact rZ (f:=nL) (d:=0) (l:=(p3 t).2) (qT) (⟨by decide,by decide⟩) (fun p q h=>(iE h).2)
theorem aLL (t:List UInt8):(fun s:ByteArray=>s.size≤t.length) (p5 t).1:=by unfold p5;exact rZ (f:=iJ) (d:=sNil) (l:=(p4 t).2) (fun s:ByteArray=>s.size≤t.length) ((aOQ _)) (fun p q h=>by have:=iZ h;have:=XU t;omega)
theorem aLJ (t:List UInt8):(fun l:List ByteArray=>l.length≤t.length∧∀ x∈l,x.size≤t.length) (p6 t).1:=by unfold p6;exact rZ (f:=(uU iJ)) (d:=[]) (l:=(p5 t).2) (fun l:List ByteArray=>l.length≤t.length∧∀ x∈l,x.size≤t.length) (⟨aOQ _,by simp⟩) (fun p q h=>by have h1:=vI h;have h2:=XT t;exact⟨by omega,fun x hx=>by have:=h1.2 x hx;omega⟩)
theorem aLH (t:List UInt8):(fun s:ByteArray=>s.size≤t.length) (p7 t).1:=by unfold p7;exact rZ (f:=iJ) (d:=sNil) (l:=(p6 t).2) (fun s:ByteArray=>s.size≤t.length) ((aOQ _)) (fun p q h=>by have:=iZ h;have:=XS t;omega)
theorem aLF (t:List UInt8):(fun s:ByteArray=>s.size≤t.length) (p8 t).1:=by unfold p8;exact rZ (f:=iJ) (d:=sNil) (l:=(p7 t).2) (fun s:ByteArray=>s.size≤t.length) ((aOQ _)) (fun p q h=>by have:=iZ h;have:=XR t;omega)
theorem aJT (t:List UInt8):(qT) (NT t).1:=by unfold NT;exact rZ (f:=nL) (d:=0) (l:=(p9 t).2) (qT) (⟨by decide,by decide⟩) (fun p q h=>(iE h).2)
theorem aJR (t:List UInt8):(fun s:ByteArray=>s.size≤t.length) (NS t).1:=by unfold NS;exact rZ (f:=iJ) (d:=sNil) (l:=(NT t).2) (fun s:ByteArray=>s.size≤t.length) ((aOQ _)) (fun p q h=>by have:=iZ h;have:=RZ t;omega)
theorem aJP (t:List UInt8):(fun s:GSeal=>qT s.idx∧(s.sig.length≤t.length∧∀ x∈s.sig,x.size≤t.length)∧(s.path.length≤t.length∧∀ x∈s.path,x.size≤t.length)) (NR t).1:=by unfold NR;exact rZ (f:=RI) (d:=zS) (l:=(NS t).2) (fun s:GSeal=>qT s.idx∧(s.sig.length≤t.length∧∀ x∈s.sig,x.size≤t.length)∧(s.path.length≤t.length∧∀ x∈s.path,x.size≤t.length)) (aKd t) (fun p q h=>aCx h (RY t))
theorem aJN (t:List UInt8):(fun s:ByteArray=>s.size≤t.length) (NQ t).1:=by unfold NQ;exact rZ (f:=iJ) (d:=sNil) (l:=(NR t).2) (fun s:ByteArray=>s.size≤t.length) ((aOQ _)) (fun p q h=>by have:=iZ h;have:=RX t;omega)
theorem aJL (t:List UInt8):(fun s:ByteArray=>s.size≤t.length) (NP t).1:=by unfold NP;exact rZ (f:=iJ) (d:=sNil) (l:=(NQ t).2) (fun s:ByteArray=>s.size≤t.length) ((aOQ _)) (fun p q h=>by have:=iZ h;have:=RW t;omega)
theorem aJJ (t:List UInt8):(fun l:List ByteArray=>l.length≤t.length∧∀ x∈l,x.size≤t.length) (NO t).1:=by unfold NO;exact rZ (f:=(uU iJ)) (d:=[]) (l:=(NP t).2) (fun l:List ByteArray=>l.length≤t.length∧∀ x∈l,x.size≤t.length) (⟨aOQ _,by simp⟩) (fun p q h=>by have h1:=vI h;have h2:=RV t;exact⟨by omega,fun x hx=>by have:=h1.2 x hx;omega⟩)
theorem aJH (t:List UInt8):(fun l:List (Int×Int)=>l.length≤t.length∧∀ q∈l,qT q.1∧qT q.2) (NN t).1:=by unfold NN;exact rZ (f:=(uU GW)) (d:=[]) (l:=(NO t).2) (fun l:List (Int×Int)=>l.length≤t.length∧∀ q∈l,qT q.1∧qT q.2) (⟨aOQ _,by simp⟩) (fun p q h=>by have h1:=aAN h;have h2:=RU t;exact⟨by omega,h1.2⟩)
theorem aJF (t:List UInt8):(fun s:GSeal=>qT s.idx∧(s.sig.length≤t.length∧∀ x∈s.sig,x.size≤t.length)∧(s.path.length≤t.length∧∀ x∈s.path,x.size≤t.length)) (p17 t).1:=by unfold p17;exact rZ (f:=RI) (d:=zS) (l:=(NN t).2) (fun s:GSeal=>qT s.idx∧(s.sig.length≤t.length∧∀ x∈s.sig,x.size≤t.length)∧(s.path.length≤t.length∧∀ x∈s.path,x.size≤t.length)) (aKd t) (fun p q h=>aCx h (RT t))
theorem aIu {N:Nat} (hN:N≤20000) {k a n c od:Int} {br ta fr nm rs:ByteArray} {pa so:List ByteArray} {ed:List GEdit} {ye:Bool} {sl ps:GSeal} {tr:List (Int×Int)} (h1:qT k) (h2:qT a) (h3:qT n) (h4:qT c) (h10:qT od) (h5:br.size≤N) (h8:ta.size≤N) (h11:fr.size≤N) (h13:nm.size≤N) (h14:rs.size≤N)
  (h6:pa.length≤N∧∀ x∈pa,x.size≤N) (h15:so.length≤N∧∀ x∈so,x.size≤N) (h16:tr.length≤N∧∀ q∈tr,qT q.1∧qT q.2) (he:ed.length≤20000) (he2:∀ e∈ed,LM e)
  (h12:qT sl.idx∧(sl.sig.length≤N∧∀ x∈sl.sig,x.size≤N)∧(sl.path.length≤N∧∀ x∈sl.path,x.size≤N)) (h17:qT ps.idx∧(ps.sig.length≤N∧∀ x∈ps.sig,x.size≤N)∧(ps.path.length≤N∧∀ x∈ps.path,x.size≤N)) :
  jG ⟨k,a,n,c,br,pa,ed,ta,ye,od,fr,sl,⟨nm,rs,so,tr,ps⟩⟩∧pa.length < 549755813888:=by
 have hL:∀ {l:List ByteArray},(l.length≤N∧∀ x∈l,x.size≤N)→N5 l:=fun h=>⟨by omega,fun x hx=>by have:=h.2 x hx;omega⟩;obtain ⟨s1,s2,s3⟩:=h12;obtain ⟨q1,q2,q3⟩:=h17;exact⟨⟨⟨h1,h2,h3,h4,h10⟩,⟨by show br.size < _;omega,by show ta.size < _;omega,by show fr.size < _;omega⟩,hL h6,⟨by show ed.length < _;omega,he2⟩,⟨s1,hL s2,hL s3⟩,by show nm.size < _;omega,by show rs.size < _;omega,hL h15,by show tr.length < _;have:=h16.1;omega,q1,hL q2,hL q3⟩,by have:=h6.1;omega⟩
theorem aDL {t:List UInt8} (ht:t.length≤20000):jG (C3 t)∧(C3 t).parents.length < 549755813888 :=aIu ht (aLT t) (aLR t) (aLP t) (aLN t) (aJT t) (aLL t) (aLF t) (aJR t) (aJN t) (aJL t) (aLJ t) (aJJ t) (aJH t) (UG _) (XM _) (aJP t) (aJF t)
theorem eI {α β:Type} {o:Option α} {g:α→β}:(o.map g=none↔o.isSome=false)∧((o.map g).isSome=o.isSome):=by cases o<;>simp
theorem lT {t:List UInt8} {b:Bool} (h:b∈R4 t) (hb:b=false):sH t=false:=by rw [sH,List.all_eq_false];exact⟨b,h,by rw [hb];decide⟩
theorem aMs (t:List UInt8):(AH t).getD (sv sNil,t)=(sv (p0 t).1,(p0 t).2):=by unfold p0 AH;exact iY (f:=iJ) (d:=sNil) (l:=t) (e:=fun v=>sv v)
theorem aL3 (t:List UInt8) (h:AH t=none):sH t=false:=lT (b:=(iJ t).isSome) (List.mem_of_getElem? (i:=0) rfl) (eI.1.1 h)
theorem aMr (t:List UInt8):(wN (p0 t).2).getD (iv 0,(p0 t).2)=(iv (p1 t).1,(p1 t).2):=by unfold p1 wN;exact iY (f:=nL) (d:=0) (l:=(p0 t).2) (e:=fun v=>iv v)
theorem aLU (t:List UInt8) (h:wN (p0 t).2=none):sH t=false:=lT (b:=(nL (p0 t).2).isSome) (List.mem_of_getElem? (i:=1) rfl) (eI.1.1 h)
theorem aMq (t:List UInt8):(wN (p1 t).2).getD (iv 0,(p1 t).2)=(iv (p2 t).1,(p2 t).2):=by unfold p2 wN;exact iY (f:=nL) (d:=0) (l:=(p1 t).2) (e:=fun v=>iv v)
theorem aLS (t:List UInt8) (h:wN (p1 t).2=none):sH t=false:=lT (b:=(nL (p1 t).2).isSome) (List.mem_of_getElem? (i:=2) rfl) (eI.1.1 h)
theorem aMp (t:List UInt8):(wN (p2 t).2).getD (iv 0,(p2 t).2)=(iv (p3 t).1,(p3 t).2):=by unfold p3 wN;exact iY (f:=nL) (d:=0) (l:=(p2 t).2) (e:=fun v=>iv v)
theorem aLQ (t:List UInt8) (h:wN (p2 t).2=none):sH t=false:=lT (b:=(nL (p2 t).2).isSome) (List.mem_of_getElem? (i:=3) rfl) (eI.1.1 h)
theorem aMo (t:List UInt8):(wN (p3 t).2).getD (iv 0,(p3 t).2)=(iv (p4 t).1,(p4 t).2):=by unfold p4 wN;exact iY (f:=nL) (d:=0) (l:=(p3 t).2) (e:=fun v=>iv v)
theorem aLO (t:List UInt8) (h:wN (p3 t).2=none):sH t=false:=lT (b:=(nL (p3 t).2).isSome) (List.mem_of_getElem? (i:=4) rfl) (eI.1.1 h)
theorem aMn (t:List UInt8):(AH (p4 t).2).getD (sv sNil,(p4 t).2)=(sv (p5 t).1,(p5 t).2):=by unfold p5 AH;exact iY (f:=iJ) (d:=sNil) (l:=(p4 t).2) (e:=fun v=>sv v)
theorem aLM (t:List UInt8) (h:AH (p4 t).2=none):sH t=false:=lT (b:=(iJ (p4 t).2).isSome) (List.mem_of_getElem? (i:=5) rfl) (eI.1.1 h)
theorem aMm (t:List UInt8):(YA (p5 t).2).getD (.pv (aX []),(p5 t).2)=(.pv (aX (p6 t).1),(p6 t).2):=by unfold p6 YA;exact iY (f:=(uU iJ)) (d:=[]) (l:=(p5 t).2) (e:=fun v=>.pv (aX v))
theorem aLK (t:List UInt8) (h:YA (p5 t).2=none):sH t=false:=lT (b:=((uU iJ) (p5 t).2).isSome) (List.mem_of_getElem? (i:=6) rfl) (eI.1.1 h)
theorem aMl (t:List UInt8):(AH (p6 t).2).getD (sv sNil,(p6 t).2)=(sv (p7 t).1,(p7 t).2):=by unfold p7 AH;exact iY (f:=iJ) (d:=sNil) (l:=(p6 t).2) (e:=fun v=>sv v)
theorem aLI (t:List UInt8) (h:AH (p6 t).2=none):sH t=false:=lT (b:=(iJ (p6 t).2).isSome) (List.mem_of_getElem? (i:=7) rfl) (eI.1.1 h)
theorem aMk (t:List UInt8):(AH (p7 t).2).getD (sv sNil,(p7 t).2)=(sv (p8 t).1,(p8 t).2):=by unfold p8 AH;exact iY (f:=iJ) (d:=sNil) (l:=(p7 t).2) (e:=fun v=>sv v)
theorem aLG (t:List UInt8) (h:AH (p7 t).2=none):sH t=false:=lT (b:=(iJ (p7 t).2).isSome) (List.mem_of_getElem? (i:=8) rfl) (eI.1.1 h)
theorem aMj (t:List UInt8):(AH (p8 t).2).getD (sv sNil,(p8 t).2)=(sv (p9 t).1,(p9 t).2):=by unfold p9 AH;exact iY (f:=iJ) (d:=sNil) (l:=(p8 t).2) (e:=fun v=>sv v)
theorem aLE (t:List UInt8) (h:AH (p8 t).2=none):sH t=false:=lT (b:=(iJ (p8 t).2).isSome) (List.mem_of_getElem? (i:=9) rfl) (eI.1.1 h)
theorem aL2 (t:List UInt8):(wN (p9 t).2).getD (iv 0,(p9 t).2)=(iv (NT t).1,(NT t).2):=by unfold NT wN;exact iY (f:=nL) (d:=0) (l:=(p9 t).2) (e:=fun v=>iv v)
theorem aJU (t:List UInt8) (h:wN (p9 t).2=none):sH t=false:=lT (b:=(nL (p9 t).2).isSome) (List.mem_of_getElem? (i:=10) rfl) (eI.1.1 h)
theorem aL1 (t:List UInt8):(AH (NT t).2).getD (sv sNil,(NT t).2)=(sv (NS t).1,(NS t).2):=by unfold NS AH;exact iY (f:=iJ) (d:=sNil) (l:=(NT t).2) (e:=fun v=>sv v)
theorem aJS (t:List UInt8) (h:AH (NT t).2=none):sH t=false:=lT (b:=(iJ (NT t).2).isSome) (List.mem_of_getElem? (i:=11) rfl) (eI.1.1 h)
theorem aL0 (t:List UInt8):(slA (NS t).2).getD (av (jC zS),(NS t).2)=(av (jC (NR t).1),(NR t).2):=by unfold NR slA;exact iY (f:=RI) (d:=zS) (l:=(NS t).2) (e:=fun v=>av (jC v))
theorem aJQ (t:List UInt8) (h:slA (NS t).2=none):sH t=false:=lT (b:=(RI (NS t).2).isSome) (List.mem_of_getElem? (i:=12) rfl) (eI.1.1 h)
theorem aLZ (t:List UInt8):(AH (NR t).2).getD (sv sNil,(NR t).2)=(sv (NQ t).1,(NQ t).2):=by unfold NQ AH;exact iY (f:=iJ) (d:=sNil) (l:=(NR t).2) (e:=fun v=>sv v)
theorem aJO (t:List UInt8) (h:AH (NR t).2=none):sH t=false:=lT (b:=(iJ (NR t).2).isSome) (List.mem_of_getElem? (i:=13) rfl) (eI.1.1 h)
theorem aLY (t:List UInt8):(AH (NQ t).2).getD (sv sNil,(NQ t).2)=(sv (NP t).1,(NP t).2):=by unfold NP AH;exact iY (f:=iJ) (d:=sNil) (l:=(NQ t).2) (e:=fun v=>sv v)
theorem aJM (t:List UInt8) (h:AH (NQ t).2=none):sH t=false:=lT (b:=(iJ (NQ t).2).isSome) (List.mem_of_getElem? (i:=14) rfl) (eI.1.1 h)
theorem aLX (t:List UInt8):(YA (NP t).2).getD (.pv (aX []),(NP t).2)=(.pv (aX (NO t).1),(NO t).2):=by unfold NO YA;exact iY (f:=(uU iJ)) (d:=[]) (l:=(NP t).2) (e:=fun v=>.pv (aX v))
theorem aJK (t:List UInt8) (h:YA (NP t).2=none):sH t=false:=lT (b:=((uU iJ) (NP t).2).isSome) (List.mem_of_getElem? (i:=15) rfl) (eI.1.1 h)
theorem aLW (t:List UInt8):(SC (NO t).2).getD (.pv (rA []),(NO t).2)=(.pv (rA (NN t).1),(NN t).2):=by unfold NN SC;exact iY (f:=(uU GW)) (d:=[]) (l:=(NO t).2) (e:=fun v=>.pv (rA v))
theorem aJI (t:List UInt8) (h:SC (NO t).2=none):sH t=false:=lT (b:=((uU GW) (NO t).2).isSome) (List.mem_of_getElem? (i:=16) rfl) (eI.1.1 h)
theorem aLV (t:List UInt8):(slA (NN t).2).getD (av (jC zS),(NN t).2)=(av (jC (p17 t).1),(p17 t).2):=by unfold p17 slA;exact iY (f:=RI) (d:=zS) (l:=(NN t).2) (e:=fun v=>av (jC v))
theorem aJG (t:List UInt8) (h:slA (NN t).2=none):sH t=false:=lT (b:=(RI (NN t).2).isSome) (List.mem_of_getElem? (i:=17) rfl) (eI.1.1 h)
theorem aGl (t:List UInt8) (h0:(AH t).isSome=true) (h1:(wN (p0 t).2).isSome=true) (h2:(wN (p1 t).2).isSome=true) (h3:(wN (p2 t).2).isSome=true) (h4:(wN (p3 t).2).isSome=true) (h5:(AH (p4 t).2).isSome=true) (h6:(YA (p5 t).2).isSome=true) (h7:(AH (p6 t).2).isSome=true) (h8:(AH (p7 t).2).isSome=true) (h9:(AH (p8 t).2).isSome=true) (h10:(wN (p9 t).2).isSome=true) (h11:(AH (NT t).2).isSome=true) (h12:(slA (NS t).2).isSome=true) (h13:(AH (NR t).2).isSome=true) (h14:(AH (NQ t).2).isSome=true) (h15:(YA (NP t).2).isSome=true) (h16:(SC (NO t).2).isSome=true) (h17:(slA (NN t).2).isSome=true):sH t=true:=by unfold sH R4;simp only [List.all_cons,List.all_nil,id,Bool.and_true,aOI];exact⟨eI.2▸h0,eI.2▸h1,eI.2▸h2,eI.2▸h3,eI.2▸h4,eI.2▸h5,eI.2▸h6,eI.2▸h7,eI.2▸h8,eI.2▸h9,eI.2▸h10,eI.2▸h11,eI.2▸h12,eI.2▸h13,eI.2▸h14,eI.2▸h15,eI.2▸h16,eI.2▸h17⟩
end Go.Proofs.YtiifmppaejpemaaGreatDoor
