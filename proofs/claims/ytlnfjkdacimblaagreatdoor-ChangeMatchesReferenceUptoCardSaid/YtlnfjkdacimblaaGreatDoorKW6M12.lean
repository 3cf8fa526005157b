/-
  Parts of the proof: rules of an abstract program logic, contracts of functions, plain laws. Conditions: each theorem's own.
-/
import Derived.Test.YtlnfjkdacimblaaGreatDoorKW6M11
set_option linter.unusedVariables false
set_option linter.unusedSimpArgs false
set_option maxRecDepth 100000
set_option maxHeartbeats 8000000
namespace Go.Proofs
theorem aIg:type_of% Tryz.call16:=Tryz.call16
theorem aID:type_of% Tryz.call187:=Tryz.call187
theorem aCT:type_of% Tryz.call73:=Tryz.call73
theorem wX:type_of% Tryz.call74:=Tryz.call74
theorem C1:type_of% Tryz.call75:=Tryz.call75
theorem aIa:type_of% Tryz.call76:=Tryz.call76
end Go.Proofs
namespace Go.Proofs.YtlnfjkdacimblaaGreatDoor
open Go.Proofs.Tryz
open Go.Abs
theorem mW (H:aE) (G:List (List Nat)):∀ r∈oT G,∀ a∈r,Clo H a:=by intro r hr a ha;obtain ⟨g,_,rfl⟩:=List.mem_map.1 hr;obtain ⟨p,hp,rfl⟩:=List.mem_map.1 ha;simp
theorem RC {l m:List ByteArray}:l.any (mH m)=m.any (mH l):=by
 rw [Bool.eq_iff_iff,List.any_eq_true,List.any_eq_true];constructor
 ·rintro⟨s,h1,h2⟩;exact⟨s,qA.1 h2,qA.2 h1⟩
 rintro⟨s,h1,h2⟩;exact⟨s,qA.1 h2,qA.2 h1⟩
theorem WI (a b:GEdit) (H:aE) (ha:tQ a) (hb:tQ b) (sa:a.refs.length+a.obj.refs.length < 1000000000) (sb:b.refs.length+b.obj.refs.length < 1000000000) :
  aH Tryz.prog 49 [av (aJ a),av (aJ b)] H (fun r H'=>r=bv (SM a b)∧H'=H):=by
 refine Pu ?_;have la:=HT (e:=a) (by omega);have lb:=HT (e:=b) (by omega);have hwl:∀ e:GEdit,(cM e).length≤2:=fun e=>by
  rw [cM]
  split
  ·simp
  split<;>simp
 have wa:=hwl a;have wb:=hwl b;have hla:((cM a).map encStr).length=(cM a).length:=aIr _;have hlb:((cM b).map encStr).length=(cM b).length:=aIr _;have hlnk:SM a b=((cM a).any (mH (eO b))||(cM b).any (mH (eO a))):=by rw [SM,RC (l:=eO a),RC (l:=eO b),Bool.or_comm]
 rw [hlnk];refine Bd func49 rfl ntmps49<|Sr<|Dd (by exact cE (id:=2) rfl rfl rfl rfl rfl)<|Dd (by exact cE (id:=3) rfl rfl rfl rfl rfl)<|Dd aO<|Zz<|Sr<|Dd (by exact aI rfl bA aL rfl rfl rfl rfl (by simp only [Zl,aQ,aG,encStr,aJ,encInt];rfl) rfl)<|Dd (by exact aA rfl rfl call28 rfl (KX a _))<|Dd aO<|Zz<|Sr<|Dd (by exact aI rfl bA aL rfl rfl rfl rfl (by simp only [Zl,aQ,aG,encStr,aJ,encInt];rfl) rfl)<|Dd (by exact aA rfl rfl call28 rfl (KX b _))<|Dd aO<|Zz<|Sq<|Sr<|Dd aO<|Zz<|aF ?_;refine bG (σ:=Nat) (fun i=>([(2,.ref 2 0 0 0),(3,.ref 3 0 0 0),(5,.pv (cS (cM a))),(6,.pv (cS (cM b))),(7,iv (i:Int))],[(3,bx 15 51 ((aJ b).map .pv)),(2,bx 15 51 ((aJ a).map .pv))])) (fun i=>i≤(cM a).length∧((cM a).take i).any (mH (eO b))=false) (fun i=>(cM a).length - i) 0 ⟨aJI _,rfl⟩ ?_ ?_
 ·exact Wk
 rintro i ⟨hi,hno⟩;refine Sq<|Sr<|Dd aD<|Dd aD<|Dd (fK aK)<|Dd dD<|Zz ?_;refine Cn ?_ ?_<;>intro hc1
 ·have hlt:i < (cM a).length:=by have:=aIn hc1;omega
  obtain ⟨s,hs⟩:=aX hlt;have his:=bZ (f:=encStr) hs;have hnx:=RD (p:=mH (eO b)) hs;rw [hno,Bool.false_or] at hnx;refine aB<|Sq<|aF<|Sq<|aU follows<|Cq (by exact aI rfl bA aL rfl rfl rfl rfl (by simp only [Zl,aQ,aG,encStr,aJ,encInt];rfl) rfl)<|Cq (by exact aA rfl rfl call99 rfl (LI b _ hb sb))<|Cq aD<|Cq aD<|Cq (e8 cC)<|Cq (fM isAgg9)<|Cq (by exact aA rfl rfl call59 rfl (aBN (eO b) s _ lb))<|bM<|Kr ?_;refine Cn ?_ ?_<;>intro hc2
  ·have hy:mH (eO b) s=true:=hc2;refine Sr<|Dd aO<|Zz<|aC<|Rt ?_;exact⟨by rw [aBt hs hy,Bool.true_or],rfl⟩
  have hy:mH (eO b) s=false:=hc2;refine aB<|Rg<|Dd aD<|Dd eL<|Da ?_;exact⟨i+1,⟨by omega,by rw [hnx,hy]⟩,by omega,Wk⟩
 have hge:i=(cM a).length:=by have:=aIo hc1;omega
 subst hge;rw [List.take_length] at hno;refine aZ<|Sq<|Sr<|Dd aO<|Zz<|aF ?_;refine bG (σ:=Nat) (fun i=>([(2,.ref 2 0 0 0),(6,.pv (cS (cM b))),(8,iv (i:Int))],[(2,bx 15 51 ((aJ a).map .pv))])) (fun i=>i≤(cM b).length∧((cM b).take i).any (mH (eO a))=false) (fun i=>(cM b).length - i) 0 ⟨aJI _,rfl⟩ ?_ ?_
 ·exact Wk
 rintro i ⟨hi,hno2⟩;refine Sq<|Sr<|Dd aD<|Dd aD<|Dd (fK aK)<|Dd dD<|Zz ?_;refine Cn ?_ ?_<;>intro hc3
 ·have hlt:i < (cM b).length:=by have:=aIn hc3;omega
  obtain ⟨s,hs⟩:=aX hlt;have his:=bZ (f:=encStr) hs;have hnx:=RD (p:=mH (eO a)) hs;rw [hno2,Bool.false_or] at hnx;refine aB<|Sq<|aF<|Sq<|aU follows<|Cq (by exact aI rfl bA aL rfl rfl rfl rfl (by simp only [Zl,aQ,aG,encStr,aJ,encInt];rfl) rfl)<|Cq (by exact aA rfl rfl call99 rfl (LI a _ ha sa))<|Cq aD<|Cq aD<|Cq (e8 cC)<|Cq (fM isAgg9)<|Cq (by exact aA rfl rfl call59 rfl (aBN (eO a) s _ la))<|bM<|Kr ?_;refine Cn ?_ ?_<;>intro hc4
  ·have hy:mH (eO a) s=true:=hc4;refine Sr<|Dd aO<|Zz<|aC<|Rt ?_;exact⟨by rw [aBt hs hy,Bool.or_true],rfl⟩
  have hy:mH (eO a) s=false:=hc4;refine aB<|Rg<|Dd aD<|Dd eL<|Da ?_;exact⟨i+1,⟨by omega,by rw [hnx,hy]⟩,by omega,Wk⟩
 have hge:i=(cM b).length:=by have:=aIo hc3;omega
 subst hge;rw [List.take_length] at hno2;refine aZ<|Sr<|Dd aO<|Zz<|aC<|Rt ?_;exact⟨by rw [hno,hno2];rfl,rfl⟩
theorem aFj {G:List (List Nat)} {i:Nat} {g:List Nat} (h:G[i]?=some g):(G.map FH)[i]?=some [DE (zI g)]:=by rw [aJL,h];rfl
theorem aD3 (G:List (List Nat)) (H:aE) (hG:G.length < 4611686018427387904) (hg:∀ g∈G,g.length < 4611686018427387904):aH Tryz.prog 18 [.pv (j5 G),.pv (j5 G)] H (fun r H'=>r=bv true∧H'=H):=by
 refine Pu ?_;have hGl:(G.map FH).length=G.length:=aIr _;refine Bd func18 rfl ntmps18<|Sr<|Dd aO<|Zz<|Sq<|Sr<|Dd aD<|Dd (fK lL)<|Dd aD<|Dd (fK lL)<|Dd tU<|Zz ?_;refine Cn ?_ ?_<;>intro hc1
 ·have h:=hc1;simp at h
 refine aB<|Sq<|Sr<|Dd aO<|Zz<|aF ?_;refine bG (σ:=Nat) (fun i=>([(0,.pv (j5 G)),(1,.pv (j5 G)),(5,iv (i:Int))],[])) (fun i=>i≤G.length) (fun i=>G.length - i) 0 (aJI _) ?_ ?_
 ·exact Wk
 rintro i hi;refine Sq<|Sr<|Dd aD<|Dd aD<|Dd (fK lL)<|Dd dD<|Zz ?_;refine Cn ?_ ?_<;>intro hc2
 ·have hlt:i < G.length:=by have:=aIn hc2;omega
  obtain ⟨g,hgi⟩:=aX hlt;have higs:=aFj hgi;have hzl:=aEp g;have hgl:=hg g (aJB hgi);refine aB<|Sq<|aF<|Sq<|Sq<|aU follows<|Cq aD<|Cq aD<|Cq (e8 DD)<|Cq (fM kJ)<|Cq (fK oP)<|Cq aD<|Cq aD<|Cq (e8 DD)<|Cq (fM kJ)<|Cq (fK oP)<|Cq tU<|bM<|Kr ?_;refine Cn ?_ ?_<;>intro hc3
  ·have h:=hc3;simp at h
  refine aB<|Sr<|Dd aO<|Zz<|aF ?_;refine bG (σ:=Nat) (fun j=>([(0,.pv (j5 G)),(1,.pv (j5 G)),(5,iv (i:Int)),(6,iv (j:Int))],[])) (fun j=>j≤g.length) (fun j=>g.length - j) 0 (aJI _) ?_ ?_
  ·exact Wk
  rintro j hj;refine Sq<|Sr<|Dd aD<|Dd aD<|Dd aD<|Dd (e8 DD)<|Dd (fM kJ)<|Dd (fK oP)<|Dd dD<|Zz ?_;refine Cn ?_ ?_<;>intro hc4
  ·have hjl:j < g.length:=by have:=aIn hc4;omega
   obtain ⟨x,hx⟩:=aX hjl;have hix:=aEq hx;refine aB<|Sq<|aF<|Sq<|aU follows<|Cq aD<|Cq aD<|Cq (e8 DD)<|Cq (fM kJ)<|Cq aD<|Cq (e8 lP)<|Cq (fM isAgg3)<|Cq aD<|Cq aD<|Cq (e8 DD)<|Cq (fM kJ)<|Cq aD<|Cq (e8 lP)<|Cq (fM isAgg3)<|Cq tU<|bM<|Kr ?_;refine Cn ?_ ?_<;>intro hc5
   ·have h:=hc5;simp at h
   refine aB<|Rg<|Dd aD<|Dd eL<|Da ?_;exact⟨j+1,by omega,by omega,Wk⟩
  refine aZ<|Rg<|Dd aD<|Dd eL<|Da ?_;exact⟨i+1,by omega,by omega,Wk⟩
 exact aZ<|Sr<|Dd aO<|Zz<|aC<|Rt<|Qq
def uV (U:List Nat) (x:Nat):Nat:=U.getD x 0
theorem GL {U:List Nat} {x:Nat} (h:x < U.length):U[x]?=some (uV U x):=by rw [uV,List.getD_eq_getElem?_getD,aIw h];rfl
theorem Y9 {U:List Nat} {x v y:Nat} (h:x < U.length):uV (U.set x v) y=if y=x then v else uV U y:=by
 rw [uV,uV,List.getD_eq_getElem?_getD,List.getD_eq_getElem?_getD];by_cases e:y=x
 ·subst e;rw [aIq rfl,List.getElem?_set_self h];rfl
 rw [aIp e,List.getElem?_set_ne (fun h=>e h.symm)]
structure RI (l:List GEdit) (n i k:Nat) (U:List Nat):Prop where
 len:U.length=n
 sn:∀ g,Inv (FQ l) g→∀ x,x < n→g (uV U x)=g x
 le:∀ x,x < n→uV U x≤x
 hi:∀ x,i < x→x < n→uV U x=x
 dn:∀ p q,q < p→p < n→(p < i∨(p=i∧q < k))→FQ l p q→uV U p=uV U q
theorem RI.zero {l:List GEdit} {n:Nat} {U:List Nat} (hl:U.length=n) (h:∀ x,x < n→uV U x=x):RI l n 0 0 U:=⟨hl,fun g _ x hx=>by rw [h x hx],fun x hx=>by rw [h x hx];exact aIx _,fun x _ hx=>h x hx,fun p q _ _ h=>by omega⟩
theorem RI.row {l:List GEdit} {n i:Nat} {U:List Nat} (h:RI l n i i U):RI l n (i+1) 0 U:=⟨h.len,h.sn,h.le,fun x hx=>h.hi x (by omega),fun p q hq hp hpq=>h.dn p q hq hp (by omega)⟩
theorem RI.skip {l:List GEdit} {n i k:Nat} {U:List Nat} (h:RI l n i k U) (hk:FQ l i k→uV U i=uV U k):RI l n i (k+1) U:=⟨h.len,h.sn,h.le,h.hi,fun p q hq hp hpq hL=>by
 by_cases e:p=i∧q=k
 ·obtain ⟨rfl,rfl⟩:=e;exact hk hL
 exact h.dn p q hq hp (by omega) hL⟩
theorem RI.merge {l:List GEdit} {n i k:Nat} {U V:List Nat} (h:RI l n i k U) (hi:i < n) (hk:k < i) (hL:FQ l i k) (hVl:V.length=n)
  (hV:∀ y,y < n→uV V y=if y≤i∧uV U y=max (uV U i) (uV U k)then min (uV U i) (uV U k)else uV U y):RI l n i (k+1) V:=by
 have l1:=h.le i hi;have l2:=h.le k (by omega);have hV2:∀ y,y < n→uV V y=if uV U y=max (uV U i) (uV U k)then min (uV U i) (uV U k)else uV U y:=fun y hy=>by
  rw [hV y hy];by_cases e:uV U y=max (uV U i) (uV U k)
  ·rw [aIq e];by_cases e2:y≤i
   ·rw [aIq ⟨e2,e⟩]
   have:=h.hi y (by omega) hy;omega
  rw [aIp e,aIp (fun h=>e h.2)]
 have gab:∀ g,Inv (FQ l) g→g (uV U i)=g (uV U k):=fun g hg=>by rw [h.sn g hg i hi,h.sn g hg k (by omega)];exact hg i k hL
 have gmm:∀ g,Inv (FQ l) g→g (min (uV U i) (uV U k))=g (max (uV U i) (uV U k)):=fun g hg=>by
  have:=gab g hg;rcases Nat.le_total (uV U i) (uV U k)with e|e
  ·rw [Nat.min_eq_left e,Nat.max_eq_right e];exact this
  rw [Nat.min_eq_right e,Nat.max_eq_left e];exact this.symm
 refine⟨hVl,fun g hg x hx=>?_,fun x hx=>?_,fun x hx1 hx=>?_,fun p q hq hp hpq hLp=>?_⟩
 ·rw [hV2 x hx]
  split
  ·next e=>rw [gmm g hg,← e];exact h.sn g hg x hx
  exact h.sn g hg x hx
 ·have:=h.le x hx;rw [hV2 x hx]
  split
  ·next e=>omega
  exact this
 ·have:=h.hi x hx1 hx;rw [hV2 x hx,aIp (by omega),this]
 rw [hV2 p hp,hV2 q (by omega)];by_cases e:p=i∧q=k
 ·obtain ⟨rfl,rfl⟩:=e;rcases Nat.le_total (uV U p) (uV U q)with e|e
  ·rw [Nat.min_eq_left e,Nat.max_eq_right e,aIq (rfl:uV U q=uV U q)]
   split<;>rfl
  rw [Nat.min_eq_right e,Nat.max_eq_left e,aIq (rfl:uV U p=uV U p)]
  split<;>rfl
 rw [h.dn p q hq hp (by omega) hLp]
theorem RI.top {l:List GEdit} {U:List Nat} (hl:eW l=true) (h:RI l l.length l.length 0 U) (x:Nat) (hx:x < l.length):uV U x=top (uI l) x:=by
 have hcl:=(GN hl).1;have hc:Cls (FQ l) (fun x=>if x < l.length then uV U x else x):=by
  refine⟨fun x=>?_,fun i k hL=>?_,fun g hg x=>?_⟩
  ·show (if x < l.length then uV U x else x)≤x
   split
   ·next e=>exact h.le x e
   exact aIx _
  ·have hik:i < l.length∧k < l.length:=by rcases hL with⟨h1,h2,_⟩|⟨h1,h2,_⟩<;>exact⟨by omega,by omega⟩
   show (if i < l.length then uV U i else i)=(if k < l.length then uV U k else k);rw [aIq hik.1,aIq hik.2];rcases Nat.lt_trichotomy i k with e|e|e
   ·exact(h.dn k i e hik.2 (.inl hik.2) (aAp hL)).symm
   ·rw [e]
   exact h.dn i k e hik.1 (.inl hik.1) hL
  show g (if x < l.length then uV U x else x)=g x
  split
  ·next e=>exact h.sn g hg x e
  rfl
 have:=hc.uniq hcl x;rw [aIq hx] at this;exact this
theorem aDf {f:Nat→Nat} (hid:∀ x,f (f x)=f x) {n i:Nat} (hi:i < n):0 < (FF f n i).length↔f i=i:=by
 constructor
 ·intro h;obtain ⟨k,hk⟩:=List.exists_mem_of_length_pos h;have:=(NI.1 hk).2;rw [← this,hid,this]
 intro h;exact List.length_pos_of_mem (NI.2 ⟨hi,h⟩)
theorem aBS (f:Nat→Nat) (k r:Nat):FF f (k+1) r=FF f k r++(if f k=r then[k] else[]):=by rw [FF,FF,List.range_succ,List.filter_append];congr 1;by_cases e:f k=r<;>simp [e]
def tP (f:Nat→Nat) (n i:Nat):List (List Nat):=(lR f i).map (FF f n)
theorem WM (f:Nat→Nat) (n i:Nat):tP f n (i+1)=tP f n i++(if f i=i then[FF f n i] else[]):=by rw [tP,tP,lR,lR,List.range_succ,List.filter_append,List.map_append];congr 1;by_cases e:f i=i<;>simp [e]
theorem aAU (f:Nat→Nat) (n i:Nat):(tP f n i).length≤i:=by rw [tP,aIr,lR];exact Nat.le_trans (List.length_filter_le _ _) (by rw [List.length_range];exact aIx _)
theorem aBO (g:List Nat):gX g=((zI g).map encInt).map (·.map .pv):=by rw [zI,gX,List.map_map,List.map_map];rfl
theorem aCb (g:List Nat):(((zI g).map encInt).take (0+g.length)).drop 0=(zI g).map encInt:=by
 have:=gQ encInt (zI g)
 rwa [show (zI g).length=g.length from aIr _] at this
theorem VO (G:List (List Nat)) (g:List Nat):oT G++[(FH g).map AV.pv]=oT (G++[g]):=by rw [oT,oT,List.map_append];rfl
theorem aAE (l:List GEdit) (H:aE) (hU:∀ e∈l,tQ e∧e.refs.length+e.obj.refs.length < 1000000000) (hll:l.length < 1000000000) :
  aH Tryz.prog 20 [.pv (cD l)] H (fun r H'=>r=.pv (j5 (gS l))∧H'=H):=by
 refine Pu ?_;have hle:∀ e∈l,tQ e:=fun e he=>(hU e he).1;have hml0:(l.map aJ).length=l.length:=aIr _;obtain ⟨n,hn⟩:∃ n,n=l.length:=⟨_,rfl⟩;have hml:(l.map aJ).length=n:=by rw [hn];exact hml0
 refine Bd func20 rfl ntmps20<|Sr<|Dd aO<|Zz<|Sq<|Sr<|Dd aD<|Dd (by exact aA rfl rfl aIg rfl (DL l _ (by omega) hle (fun e he=>by have:=(hU e he).2;omega)))<|Dd jU<|Zz ?_;refine Cn ?_ ?_<;>intro hc1
 ·have hv:eW l=false:=by have h:=hc1;rwa [aJK] at h
  have hg:gS l=[]:=by rw [gS,hv];rfl
  rw [hg];refine Sr<|Dd aO<|Zz<|aC ?_;refine cZ (H':=[]) (.inr rfl) rfl (aN rfl) (Fin.wk (r:=.pv (j5 [])) (by simp) trivial trivial) ?_;exact Qq
 have hv:eW l=true:=by have h:=hc1;rwa [Bool.not_eq_false'] at h
 have hn200:n≤200:=by rw [hn];exact(qC hv).2.1
 have hgu:gS l=tP (top (uI l)) n n:=by rw [gS,aIq hv,i7,hn];rfl
 have hcl:=(GN hv).1;have hrep:=W9 n;refine aB<|Sr<|Dd aD<|Dd (fK cB)<|Dd (by exact EL (id:=908) rfl lP ei3 zo3 rfl rfl rfl (by omega) (by omega) (by exact aJC _) (by exact aJC _) (by omega) rfl)<|Dd aO<|Zz<|Sq<|Sr<|Dd aO<|Zz<|aF ?_;rw [hml];refine gU (fun(i:Nat) (U:List Nat)=>([(0,.pv (cD l)),(3,.osl 908 0 0 n),(4,iv (i:Int))],[(908,⟨0,1,3,gX U⟩)])) (fun i U=>i≤n∧U.length=n∧∀ x,x < i→uV U x=x) (fun i _=>n - i) 0 (List.replicate n 0) ⟨aJI _,List.length_replicate,fun x hx=>absurd hx (Nat.not_lt_zero _)⟩ ?_ ?_
 ·rw [hrep];exact Wk
 rintro i U ⟨hi,hUl,hUv⟩;refine Sq<|Sr<|Dd aD<|Dd aD<|Dd (fK cB)<|Dd dD<|Zz ?_;refine Cn ?_ ?_<;>intro hc2
 ·have hil:i < n:=by have:=aIn hc2;omega
  have hget:=pA (GL (U:=U) (x:=i) (by omega));refine aB<|Sq<|aF<|Rg<|Dd aD<|Dd aD<|Dd aD<|Dd (by exact cG rfl lP rfl rfl rfl rfl rfl (by omega) (by exact aJC _) hil (aJJ _))<|Uu (by exact bW rfl sizeOf3 rfl rfl rfl rfl rfl hget Nat.zero_lt_one rfl (D3 U i i))<|Zz<|Rg<|Dd aD<|Dd eL<|Da ?_;refine⟨i+1,U.set i i,⟨by omega,by rw [List.length_set];exact hUl,fun x hx=>?_⟩,by omega,(cY.wk (Eb<|Ea<|Eb<|trivial) (Hc (eV _ _)<|trivial) trivial)⟩;rw [Y9 (by omega)]
  split
  ·next e=>exact e.symm
  exact hUv x (by omega)
 have hil:i=n:=by have:=aIo hc2;omega
 have hR0:RI l n 0 0 U:=.zero hUl (fun x hx=>hUv x (by omega));refine aZ<|Sq<|Sr<|Dd aO<|Zz<|aF ?_;refine gU (fun(i:Nat) (U:List Nat)=>([(0,.pv (cD l)),(3,.osl 908 0 0 n),(5,iv (i:Int))],[(908,⟨0,1,3,gX U⟩)])) (fun i U=>i≤n∧RI l n i 0 U) (fun i _=>n - i) 0 U ⟨aJI _,hR0⟩ ?_ ?_
 ·exact(cY.wk (Eb<|Ea<|Eb<|trivial) (Hc (eV _ _)<|trivial) trivial)
 rintro i U ⟨hi,hR⟩;refine Sq<|Sr<|Dd aD<|Dd aD<|Dd (fK cB)<|Dd dD<|Zz ?_;refine Cn ?_ ?_<;>intro hc3
 ·have hil:i < n:=by have:=aIn hc3;omega
  obtain ⟨a,ha⟩:=aX (l:=l) (k:=i) (by omega);have hia:=bZ (f:=aJ) ha;have ham:=aJB ha;refine aB<|Sq<|aF<|Sr<|Dd aO<|Zz<|aF ?_;refine gU (fun(k:Nat) (U:List Nat)=>([(0,.pv (cD l)),(3,.osl 908 0 0 n),(5,iv (i:Int)),(6,iv (k:Int))],[(908,⟨0,1,3,gX U⟩)])) (fun k U=>k≤i∧RI l n i k U) (fun k _=>i - k) 0 U ⟨aJI _,hR⟩ ?_ ?_
  ·exact(cY.wk (Eb<|Ea<|Eb<|Eb<|trivial) (Hc (eV _ _)<|trivial) trivial)
  rintro k U ⟨hk,hR⟩;refine Sq<|Sr<|Dd aD<|Dd aD<|Dd dD<|Zz ?_;refine Cn ?_ ?_<;>intro hc4
  ·have hkl:k < i:=by have:=aIn hc4;omega
   obtain ⟨b,hb⟩:=aX (l:=l) (k:=k) (by omega);have hib:=bZ (f:=aJ) hb;have hbm:=aJB hb;have hkn:k < n:=by omega
   have hUl:=hR.len;have hgi:=pA (GL (U:=U) (x:=i) (by omega));have hgk:=pA (GL (U:=U) (x:=k) (by omega));have hli:=aD1 ha hb;refine aB<|Sq<|aF<|Sq<|Sq ?_;refine nD (t:=61) (n:=21) (X:=decide ((uV U i:Int)=(uV U k:Int))||!SM a b) ?_ ?_
   ·cases hg50:(decide ((uV U i:Int)=(uV U k:Int)):Bool)
    ·refine aU follows<|Cq aD<|Cq aD<|Cq (by exact cG rfl lP rfl rfl rfl rfl rfl (by omega) (by exact aJC _) hil (aJJ _))<|Cq (by exact aR rfl isAgg3 rfl rfl rfl hgi rfl)<|Cq aD<|Cq aD<|Cq (by exact cG rfl lP rfl rfl rfl rfl rfl (by omega) (by exact aJC _) hkn (aJJ _))<|Cq (by exact aR rfl isAgg3 rfl rfl rfl hgk rfl)<|Cq cI<|Cq aD<|Nf aD<|Nf aD<|Nf (e8 lK)<|Nf (by exact bQ rfl bA aL rfl (by omega) (by simp only [Zl,aQ,aG,encStr,aJ,encInt];rfl) rfl)<|Nf aD<|Nf aD<|Nf (e8 lK)<|Nf (by exact bQ rfl bA aL rfl (by omega) (by simp only [Zl,aQ,aG,encStr,aJ,encInt];rfl) rfl)<|Nf (by exact aA rfl rfl call49 rfl (WI a b _ (hle a ham) (hle b hbm) (hU a ham).2 (hU b hbm).2)) ?_;refine Nf jU<|Cq rJ<|bM<|Kr ?_;exact⟨rfl,⟨_,rfl,by rfl⟩,rfl,rfl,rfl⟩
    refine aU follows<|Cq aD<|Cq aD<|Cq (by exact cG rfl lP rfl rfl rfl rfl rfl (by omega) (by exact aJC _) hil (aJJ _))<|Cq (by exact aR rfl isAgg3 rfl rfl rfl hgi rfl)<|Cq aD<|Cq aD<|Cq (by exact cG rfl lP rfl rfl rfl rfl rfl (by omega) (by exact aJC _) hkn (aJJ _))<|Cq (by exact aR rfl isAgg3 rfl rfl rfl hgk rfl)<|Cq cI<|Cq aD<|Of<|Of<|Of<|Of<|Of<|Of<|Of<|Of<|Of<|Of<|Cq xI<|bM<|Kr ?_;exact⟨rfl,⟨_,rfl,by rfl⟩,rfl,rfl,rfl⟩
   refine Cn ?_ ?_<;>intro hc5
   ·have hs:FQ l i k→uV U i=uV U k:=fun hL=>by have h:=hc5;rw [hli.2 hL,Bool.not_true,Bool.or_false,aIy] at h;omega
    have hR2:=hR.skip hs;refine aZ<|Rg<|Dd aD<|Dd eL<|Da ?_;exact⟨k+1,U,⟨by omega,hR2⟩,by omega,(cY.wk (Eb<|Ea<|Eb<|Eb<|trivial) (Hc (eV _ _)<|trivial) trivial)⟩
   have hs:SM a b=true:=by have h:=hc5;rw [aJN,Bool.not_eq_false'] at h;exact h.2
   have hL:=hli.1 hs;obtain ⟨A,hA⟩:∃ A,A=min (uV U i) (uV U k):=⟨_,rfl⟩;obtain ⟨B,hB⟩:∃ B,B=max (uV U i) (uV U k):=⟨_,rfl⟩;have hmg:=fun V h1 h2=>hR.merge (V:=V) hil hkl hL h1 h2;rw [← hA,← hB] at hmg;refine aB<|Sq<|aU follows<|Cq aD<|Cq aD<|Cq (by exact cG rfl lP rfl rfl rfl rfl rfl (by omega) (by exact aJC _) hil (aJJ _))<|Cq (by exact aR rfl isAgg3 rfl rfl rfl hgi rfl)<|Cq aD<|Cq aD<|Cq (by exact cG rfl lP rfl rfl rfl rfl rfl (by omega) (by exact aJC _) hkn (aJJ _))<|Cq (by exact aR rfl isAgg3 rfl rfl rfl hgk rfl)<|Cq (by exact sZ rfl rfl rfl (show min ((uV U i:Nat):Int) ((uV U k:Nat):Int)=((A:Nat):Int)by omega))<|Cq aO<|bM<|Kr<|Sq<|aU follows<|Cq aD<|Cq aD<|Cq (by exact cG rfl lP rfl rfl rfl rfl rfl (by omega) (by exact aJC _) hil (aJJ _))<|Cq (by exact aR rfl isAgg3 rfl rfl rfl hgi rfl)<|Cq aD<|Cq aD<|Cq (by exact cG rfl lP rfl rfl rfl rfl rfl (by omega) (by exact aJC _) hkn (aJJ _)) ?_;refine Cq (by exact aR rfl isAgg3 rfl rfl rfl hgk rfl)<|Cq (by exact M7 rfl rfl rfl (show max ((uV U i:Nat):Int) ((uV U k:Nat):Int)=((B:Nat):Int)by omega))<|Cq aO<|bM<|Kr<|Sr<|Dd aO<|Zz<|aF ?_;refine gU (fun(x:Nat) (V:List Nat)=>([(0,.pv (cD l)),(3,.osl 908 0 0 n),(5,iv (i:Int)),(6,iv (k:Int)),(7,iv (A:Int)),(8,iv (B:Int)),(9,iv (x:Int))],[(908,⟨0,1,3,gX V⟩)])) (fun x V=>x≤i+1∧V.length=n∧∀ y,y < n→uV V y=if y < x∧uV U y=B then A else uV U y) (fun x _=>i+1 - x) 0 U ⟨aJI _,hUl,fun y hy=>by rw [aIp (by omega)]⟩ ?_ ?_
   ·exact(cY.wk (Eb<|Ea<|Eb<|Eb<|Eb<|Eb<|Eb<|trivial) (Hc (eV _ _)<|trivial) trivial)
   rintro x V ⟨hx,hVl,hVv⟩;refine Sq<|Sr<|Dd aD<|Dd aD<|Dd JK<|Zz ?_;refine Cn ?_ ?_<;>intro hc6
   ·have hxi:x≤i:=by have:=aIn hc6;omega
    have hxn:x < n:=by omega
    have hgx:=pA (GL (U:=V) (x:=x) (by omega));have hvx:=hVv x hxn;rw [aIp (by omega)] at hvx;rw [hvx] at hgx;refine aB<|Sq<|aF<|Sr<|Dd aD<|Dd aD<|Dd (by exact cG rfl lP rfl rfl rfl rfl rfl (by omega) (by exact aJC _) hxn (aJJ _))<|Dd (by exact aR rfl isAgg3 rfl rfl rfl hgx rfl)<|Dd aD<|Dd cI<|Zz ?_;refine Cn ?_ ?_<;>intro hc7
    ·have hq:uV U x=B:=by have:=aIn hc7;omega
     refine Rg<|Dd aD<|Dd aD<|Dd aD<|Dd (by exact cG rfl lP rfl rfl rfl rfl rfl (by omega) (by exact aJC _) hxn (aJJ _))<|Uu (by exact bW rfl sizeOf3 rfl rfl rfl rfl rfl hgx Nat.zero_lt_one rfl (D3 V x A))<|Zz<|Rg<|Dd aD<|Dd eL<|Da ?_;refine⟨x+1,V.set x A,⟨by omega,by rw [List.length_set];exact hVl,fun y hy=>?_⟩,by omega,(cY.wk (Eb<|Ea<|Eb<|Eb<|Eb<|Eb<|Eb<|trivial) (Hc (eV _ _)<|trivial) trivial)⟩;rw [Y9 (by omega)];by_cases e:y=x
     ·subst e;rw [aIq rfl,aIq ⟨by omega,hq⟩]
     rw [aIp e,hVv y hy];by_cases e2:uV U y=B
     ·by_cases e3:y < x
      ·rw [aIq ⟨e3,e2⟩,aIq ⟨by omega,e2⟩]
      rw [aIp (fun h=>e3 h.1),aIp (fun h=>by have:=h.1;omega)]
     rw [aIp (fun h=>e2 h.2),aIp (fun h=>e2 h.2)]
    have hq:uV U x≠B:=by have:=aIo hc7;omega
    refine aB<|Rg<|Dd aD<|Dd eL<|Da ?_;refine⟨x+1,V,⟨by omega,hVl,fun y hy=>?_⟩,by omega,(cY.wk (Eb<|Ea<|Eb<|Eb<|Eb<|Eb<|Eb<|trivial) (Hc (eV _ _)<|trivial) trivial)⟩;rw [hVv y hy];by_cases e2:uV U y=B
    ·by_cases e3:y < x
     ·rw [aIq ⟨e3,e2⟩,aIq ⟨by omega,e2⟩]
     have e4:y≠x:=fun e=>by subst e;exact hq e2
     rw [aIp (fun h=>e3 h.1),aIp (fun h=>by have:=h.1;omega)]
    rw [aIp (fun h=>e2 h.2),aIp (fun h=>e2 h.2)]
   have hxi:x=i+1:=by have:=aIo hc6;omega
   have hR2:=hmg V hVl (fun y hy=>by
    rw [hVv y hy];by_cases e2:uV U y=B
    ·by_cases e3:y≤i
     ·rw [aIq ⟨by omega,e2⟩,aIq ⟨e3,e2⟩]
     rw [aIp (fun h=>by have:=h.1;omega),aIp (fun h=>e3 h.1)]
    rw [aIp (fun h=>e2 h.2),aIp (fun h=>e2 h.2)])
   refine aZ<|Rg<|Dd aD<|Dd eL<|Da ?_;exact⟨k+1,V,⟨by omega,hR2⟩,by omega,(cY.wk (Eb<|Ea<|Eb<|Eb<|trivial) (Hc (eV _ _)<|trivial) trivial)⟩
  have hkl:k=i:=by have:=aIo hc4;omega
  subst hkl;have hR2:=hR.row;refine aZ<|Rg<|Dd aD<|Dd eL<|Da ?_;exact⟨k+1,U,⟨by omega,hR2⟩,by omega,(cY.wk (Eb<|Ea<|Eb<|trivial) (Hc (eV _ _)<|trivial) trivial)⟩
 have hil:i=n:=by have:=aIo hc3;omega
 have hUl:=hR.len;rw [hil,hn] at hR;have htop:=hR.top hv;rw [← hn] at htop;obtain ⟨f,hf⟩:∃ f,f=top (uI l):=⟨_,rfl⟩;rw [← hf] at htop hcl hgu;have hget:∀ x,x < n→(gX U)[x]?=some [iv ((f x:Nat):Int)]:=fun x hx=>by
  have:=pA (GL (U:=U) (x:=x) (by omega))
  rwa [htop x hx] at this
 refine aZ<|Sr<|Dd (by exact fI (id:=905) (sz:=1) (ty:=42) rfl rfl rfl)<|Zz<|Sq<|Sr<|Dd aO<|Zz<|aF ?_;refine bG (σ:=Nat) (fun i=>([(0,.pv (cD l)),(3,.osl 908 0 0 n),(10,.osl 905 (tP f n i).length 0 (tP f n i).length),(11,iv (i:Int))],[(905,⟨(tP f n i).length,1,42,oT (tP f n i)⟩),(908,⟨0,1,3,gX U⟩)])) (fun i=>i≤n) (fun i=>n - i) 0 (aJI _) ?_ ?_
 ·exact(cY.wk (Eb<|Ea<|Ea<|Eb<|trivial) (Hc (mW _ _)<|Hc (eV _ _)<|trivial) trivial)
 rintro i hi;have hol:=aAU f n i;have hnx:=WM f n i;refine Sq<|Sr<|Dd aD<|Dd aD<|Dd (fK cB)<|Dd dD<|Zz ?_;refine Cn ?_ ?_<;>intro hc8
 ·have hil:i < n:=by have:=aIn hc8;omega
  have hgp:=aDf hcl.idem hil;refine aB<|Sq<|aF<|Sr<|Dd (by exact fI (id:=909) (sz:=1) (ty:=3) rfl rfl rfl)<|Zz<|Sq<|Sr<|Dd aO<|Zz<|aF ?_;refine bG (σ:=Nat) (fun k=>([(0,.pv (cD l)),(3,.osl 908 0 0 n),(10,.osl 905 (tP f n i).length 0 (tP f n i).length),(11,iv (i:Int)),(12,.osl 909 (FF f k i).length 0 (FF f k i).length),(13,iv (k:Int))],[(909,⟨(FF f k i).length,1,3,gX (FF f k i)⟩),(905,⟨(tP f n i).length,1,42,oT (tP f n i)⟩),(908,⟨0,1,3,gX U⟩)])) (fun k=>k≤n) (fun k=>n - k) 0 (aJI _) ?_ ?_
  ·exact(cY.wk (Eb<|Ea<|Ea<|Eb<|Ea<|Eb<|trivial) (Hc (eV _ _)<|Hc (mW _ _)<|Hc (eV _ _)<|trivial) trivial)
  rintro k hk;have hgs:=SV f k i;have hgn:=aBS f k i;refine Sq<|Sr<|Dd aD<|Dd aD<|Dd (fK cB)<|Dd dD<|Zz ?_;refine Cn ?_ ?_<;>intro hc9
  ·have hkl:k < n:=by have:=aIn hc9;omega
   have hgk:=hget k hkl;refine aB<|Sq<|aF<|Sr<|Dd aD<|Dd aD<|Dd (by exact cG rfl lP rfl rfl rfl rfl rfl (by omega) (by exact aJC _) hkl (aJJ _))<|Dd (by exact aR rfl isAgg3 rfl rfl rfl hgk rfl)<|Dd aD<|Dd cI<|Zz ?_;refine Cn ?_ ?_<;>intro hc10
   ·have hq:f k=i:=by have:=aIn hc10;omega
    rw [aIq hq] at hgn;have hnl:(FF f k i++[k]).length=(FF f k i).length+1:=by rw [aIs];rfl
    refine Rg<|Dd aD<|Dd aD<|Dd (by exact aT [encInt (k:Int)] rfl lP rfl rfl rfl rfl rfl (by intro r hr;rw [aIu] at hr;subst hr;rfl))<|Dd (by exact c6 (ps:=[encInt (k:Int)]) rfl lP ei3 rfl rfl rfl rfl rfl (uY _) rfl (by intro r hr;rw [aIu] at hr;subst hr;rfl) (m:=1) rfl (by omega) rfl (D4 _ k))<|Dd aO<|Zz<|Rg<|Dd aD<|Dd eL<|Da ?_;refine⟨k+1,by omega,by omega,?_⟩;rw [hgn,hnl];exact(cY.wk (Eb<|Ea<|Ea<|Eb<|Ea<|Eb<|trivial) (Hc (eV _ _)<|Hc (mW _ _)<|Hc (eV _ _)<|trivial) trivial)
   have hq:f k≠i:=by have:=aIo hc10;omega
   rw [aIp hq,List.append_nil] at hgn;refine aB<|Rg<|Dd aD<|Dd eL<|Da ?_;refine⟨k+1,by omega,by omega,?_⟩;rw [hgn];exact(cY.wk (Eb<|Ea<|Ea<|Eb<|Ea<|Eb<|trivial) (Hc (eV _ _)<|Hc (mW _ _)<|Hc (eV _ _)<|trivial) trivial)
  have hkl:k=n:=by have:=aIo hc9;omega
  subst hkl;obtain ⟨g,hg⟩:∃ g,g=FF f k i:=⟨_,rfl⟩;rw [← hg] at hgp hgs hnx;rw [← hg];refine aZ<|Sr<|Dd aD<|Dd (by exact dV rfl oP rfl rfl rfl)<|Dd kC<|Zz ?_;refine Cn ?_ ?_<;>intro hc11
  ·have hq:f i=i:=hgp.1 (by have:=aIn hc11;omega);rw [aIq hq] at hnx;have hnl:(tP f k i++[g]).length=(tP f k i).length+1:=by rw [aIs];rfl
   refine iB.ent (cY.fzG (id:=909) (E':=[(0,.pv (cD l)),(3,.osl 908 0 0 k),(10,.osl 905 (tP f k i).length 0 (tP f k i).length),(11,iv (i:Int)),(12,.pv (DE (zI g)))]) (H':=[(905,⟨(tP f k i).length,1,42,oT (tP f k i)⟩),(908,⟨0,1,3,gX U⟩)]) ((zI g).map encInt) rfl (aBO g) ?_ rfl ?_ ?_) ?_
   ·intro p hp;simp only [aJD,aJH,or_false] at hp;rcases hp with rfl|rfl|rfl|rfl|rfl
    ·exact⟨_,rfl,.same (by simp;try rfl)⟩
    ·exact⟨_,rfl,.same (by simp;try rfl)⟩
    ·exact⟨_,rfl,.same (by simp;try rfl)⟩
    ·exact⟨_,rfl,.same (by simp;try rfl)⟩
    exact⟨_,rfl,.osl (aCb g)⟩
   ·exact⟨⟨_,rfl,rfl,rfl,rfl,iI (mW _ _)⟩,⟨_,rfl,rfl,rfl,rfl,iI (eV _ _)⟩,trivial⟩
   ·exact trivial
   refine Rg<|Dd aD<|Dd aD<|Dd (by exact aT [FH g] rfl DD rfl rfl rfl rfl rfl (by intro r hr;rw [aIu] at hr;subst hr;rfl))<|Dd (by exact c6 (ps:=[FH g]) rfl DD aGp rfl rfl rfl rfl rfl (C2 _) rfl (by intro r hr;rw [aIu] at hr;subst hr;rfl) (m:=1) rfl (by omega) rfl (VO _ g))<|Dd aO<|Zz<|Rg<|Dd aD<|Dd eL<|Da ?_;refine⟨i+1,by omega,by omega,?_⟩;rw [hnx,hnl];exact(cY.wk (Eb<|Ea<|Ea<|Eb<|trivial) (Hc (mW _ _)<|Hc (eV _ _)<|trivial) trivial)
  have hq:¬ f i=i:=fun e=>by have:=hgp.2 e;have:=aIo hc11;omega
  rw [aIp hq,List.append_nil] at hnx;refine aB<|Rg<|Dd aD<|Dd eL<|Da ?_;refine⟨i+1,by omega,by omega,?_⟩;rw [hnx];exact(cY.wk (Eb<|Ea<|Ea<|Eb<|trivial) (Hc (mW _ _)<|Hc (eV _ _)<|trivial) trivial)
 have hil:i=n:=by have:=aIo hc8;omega
 subst hil;rw [← hgu];refine aZ<|Sr<|Dd aD<|Dd aO<|Zz<|aC ?_;refine cZ (H':=[]) (.inr rfl) rfl (aN rfl) (Fin.fz (id:=905) ((gS l).map FH) rfl (OI _) (.osl (gQ FH _)) rfl trivial trivial) ?_;exact Qq
end Go.Proofs.YtlnfjkdacimblaaGreatDoor
namespace Go.Proofs.YtlnfjkdacimblaaGreatDoor
open Go.Proofs.Tryz
open Go.Abs Go.Lib
theorem aFO (u:Nat):∀ H,u < 1000000000→aH Tryz.prog 75 [iv (u:Int)] H (fun r H'=>r=sv (ofL (decDigits u))∧H'=H):=by
 induction u using Nat.strongRecOn with
 | ind u ih =>
  intro H hu;refine Pu ?_;refine Bd func75 rfl ntmps75<|Sr<|Dd aO<|Zz<|Sq<|Sr<|Dd aD<|Dd dD<|Zz ?_;refine Cn ?_ ?_<;>intro hc1
  ·have hl:u < 10:=by have:=aIn hc1;omega
   have h10:(⟨#[48,49,50,51,52,53,54,55,56,57]⟩:ByteArray).size=10:=rfl;have hr:(⟨#[48,49,50,51,52,53,54,55,56,57]⟩:ByteArray).extract u (u+1)=ofL (decDigits u):=by
    rw [decDigits,dif_pos hl];have h:u=0∨u=1∨u=2∨u=3∨u=4∨u=5∨u=6∨u=7∨u=8∨u=9:=by omega
    rcases h with rfl|rfl|rfl|rfl|rfl|rfl|rfl|rfl|rfl|rfl<;>rfl
   exact Sr<|Dd aD<|Dd aD<|Dd eL<|Dd (by exact cW (l:=u) (h:=u+1) rfl underlying9 rfl rfl rfl (by omega) (by omega) hr)<|Dd aO<|Zz<|aC<|Rt<|Qq
  have hl:¬ u < 10:=by have:=aIo hc1;omega
  have hq:IntKind.i64.wrap ((u:Int).tdiv 10)=((u / 10:Nat):Int):=by
   rw [show (u:Int).tdiv 10=((u / 10:Nat):Int)from rfl];exact OL (by omega) (by omega)
  have hs1:(ofL (decDigits (u / 10))).size≤9:=by rw [dL];exact eM (by omega) (by decide)
  have hs2:(ofL (decDigits (u % 10))).size≤1:=by rw [dL];exact eM (by omega) (by decide)
  have hj:ofL (decDigits (u / 10))++ofL (decDigits (u % 10))=ofL (decDigits u):=S4 (by
   rw [show (ofL (decDigits (u / 10))++ofL (decDigits (u % 10))).data.toList=(ofL (decDigits (u / 10))).data.toList++(ofL (decDigits (u % 10))).data.toList by simp,eI,eI,eI];rw [show decDigits u=decDigits (u / 10)++[UInt8.ofNat (48+u % 10)] by rw [decDigits,dif_neg hl]];congr 1;rw [decDigits,dif_pos (by omega)])
  exact aB<|Sr<|Dd aD<|Dd (by exact FZ rfl rfl rfl (by decide) hq)<|Dd (by exact aA rfl rfl C1 rfl (ih (u / 10) (by omega) _ (by omega)))<|Dd aD<|Dd (by exact aDJ rfl rfl rfl (by decide) (rfl:(u:Int).tmod 10=((u % 10:Nat):Int)))<|Dd (by exact aA rfl rfl C1 rfl (ih (u % 10) (by omega) _ (by omega)))<|Dd (by exact cP rfl rfl rfl (by omega) hj)<|Dd aO<|Zz<|aC<|Rt<|Qq
theorem uU {ws:List ByteArray} {k:Nat} {w:ByteArray} (h:ws[k]?=some w):ofL (bS [32] (bs (ws.take (k+1))))=(if 0 < k then ofL (bS [32] (bs (ws.take k)))++⟨#[32]⟩else ofL (bS [32] (bs (ws.take k))))++w:=by
 have hk:=(aIv.1 h).1;refine S4 ?_;rw [List.take_add_one,h,Option.toList_some,bs,List.map_append];cases k with
 | zero =>
  rw [aIp (by omega),List.take_zero];simp [bS,bs,ofL]
 | succ k =>
  rw [aIq (by omega)];cases ws with
  | nil=>cases hk
  | cons x l =>
   rw [List.take_succ_cons];simp [ofL,bs,bS]
theorem yA (ws:List ByteArray) (H:aE) (hb:dH ws+ws.length < 1099511627776):aH Tryz.prog 74 [.pv (cS ws)] H (fun r H'=>r=sv (ofL (bS [32] (bs ws)))∧H'=H):=by
 refine Pu ?_;have hmw:(ws.map encStr).length=ws.length:=aIr _;refine Bd func74 rfl ntmps74<|Sr<|Dd aO<|Zz<|Sr<|Dd aO<|Zz<|Sq<|Sr<|Dd aO<|Zz<|aF ?_;refine bG (σ:=Nat) (fun k=>([(0,.pv (cS ws)),(3,sv (ofL (bS [32] (bs (ws.take k))))),(4,iv (k:Int))],[])) (fun k=>k≤ws.length) (fun k=>ws.length - k) 0 (aJI _) ?_ ?_
 ·exact Wk
 rintro k hk;have hsz:(ofL (bS [32] (bs (ws.take k)))).size≤dH ws+ws.length:=by
  rw [dL];have h1:=fC (ws.take k);have h2:=kZ ws k;have h3:(ws.take k).length≤ws.length:=by rw [aJF];exact Nat.min_le_right _ _
  omega
 refine Sq<|Sr<|Dd aD<|Dd aD<|Dd (fK aK)<|Dd dD<|Zz ?_;refine Cn ?_ ?_<;>intro hc1
 ·have hlt:k < ws.length:=by have:=aIn hc1;omega
  obtain ⟨w,hw⟩:=aX hlt;have hiw:=bZ (f:=encStr) hw;have hnx:=uU hw;have hws:w.size≤dH ws:=by
   have h1:=rT hw;have h2:=kZ ws (k+1);omega
  have h32:(⟨#[32]⟩:ByteArray).size=1:=rfl;have hs2:(ofL (bS [32] (bs (ws.take k)))++⟨#[32]⟩).size=(ofL (bS [32] (bs (ws.take k)))).size+1:=by rw [ByteArray.size_append];rfl
  refine aB<|Sq<|aF<|Sq<|Sr<|Dd aD<|Dd kC<|Zz ?_;refine Cn ?_ ?_<;>intro hc2
  ·have hq:0 < k:=by have:=aIn hc2;omega
   rw [aIq hq] at hnx;refine Rg<|Dd aD<|Dd (by exact cP rfl rfl rfl (by omega) rfl)<|Dd aO<|Zz<|Rg<|Dd aD<|Dd aD<|Dd aD<|Dd (e8 cC)<|Dd (fM isAgg9)<|Dd (by exact cP rfl rfl rfl (by omega) rfl)<|Dd aO<|Zz<|Rg<|Dd aD<|Dd eL<|Da ?_;refine⟨k+1,by omega,by omega,?_⟩;rw [hnx];exact Wk
  have hq:¬ 0 < k:=by have:=aIo hc2;omega
  rw [aIp hq] at hnx;refine aB<|Rg<|Dd aD<|Dd aD<|Dd aD<|Dd (e8 cC)<|Dd (fM isAgg9)<|Dd (by exact cP rfl rfl rfl (by omega) rfl)<|Dd aO<|Zz<|Rg<|Dd aD<|Dd eL<|Da ?_;refine⟨k+1,by omega,by omega,?_⟩;rw [hnx];exact Wk
 have hge:k=ws.length:=by have:=aIo hc1;omega
 subst hge;rw [List.take_length];exact aZ<|Sr<|Dd aD<|Dd aO<|Zz<|aC<|Rt<|Qq
end Go.Proofs.YtlnfjkdacimblaaGreatDoor
namespace Go.Proofs.YtlnfjkdacimblaaGreatDoor
open Go.Proofs.Tryz
open Go.Abs
def IB (s:ByteArray) (n:Int):Bool:=(List.range s.size).any fun j=>decide (bP s j=n)
theorem aBR (s:ByteArray) (n:Int) (H:aE) (hs:s.size < 4611686018427387904):aH Tryz.prog 187 [sv s,.pv (.int .u8 n)] H (fun r H'=>r=bv (IB s n)∧H'=H):=by
 refine Pu ?_;refine Bd func187 rfl ntmps187<|Sr<|Dd aO<|Zz<|Sq<|Sr<|Dd aO<|Zz<|aF ?_;refine bG (σ:=Nat) (fun k=>([(0,sv s),(1,.pv (.int .u8 n)),(5,iv (k:Int))],[])) (fun k=>k≤s.size∧∀ j,j < k→decide (bP s j=n)=false) (fun k=>s.size - k) 0 ⟨by omega,by omega⟩ ?_ ?_
 ·exact E0
 rintro k ⟨hk,hno⟩;refine Sq<|Sr<|Dd aD<|Dd aD<|Dd (jJ underlying9)<|Dd dD<|Zz ?_;refine Cn ?_ ?_<;>intro hc1
 ·have hlt:k < s.size:=by have:=aIn hc1;omega
  refine aB<|Sq<|aF<|Sr<|Dd aD<|Dd aD<|Dd (by exact cF rfl underlying9 rfl rfl (by omega) (by exact aJC _) (by omega) rfl)<|Dd aD<|Dd cI<|Zz ?_;refine Cn ?_ ?_<;>intro hc2
  ·refine Sr<|Dd aO<|Zz<|aC<|Rt ?_;exact⟨by rw [IB,m4 hlt hc2],rfl⟩
  refine aB<|Rg<|Dd aD<|Dd eL<|Da ?_;refine⟨k+1,⟨by omega,fun j hj=>?_⟩,by omega,E0⟩;by_cases e:j=k
  ·subst e;exact hc2
  exact hno j (by omega)
 have hge:k=s.size:=by have:=aIo hc1;omega
 subst hge;refine aZ<|Sr<|Dd aO<|Zz<|aC<|Rt ?_;exact⟨by rw [IB,oZ hno],rfl⟩
theorem aDc:∀ n:Fin 256,(IB ⟨#[32,9,10]⟩ (n.val:Int)=decide (sF (n.val:Int)=1))∧(decide ((n.val:Int)=35)=decide (sF (n.val:Int)=2))∧(IB ⟨#[59,44,46,58,40,41,123,125,91,93,61,60,62,47,45]⟩ (n.val:Int)=decide (sF (n.val:Int)=6))∧(decide ((n.val:Int)=34)=decide (sF (n.val:Int)=7))∧(IB ⟨#[92,34,110]⟩ (n.val:Int)=(nA (UInt8.ofNat n.val)).isSome):=by decide +kernel
theorem NO (s:ByteArray) (k:Nat):(IB ⟨#[32,9,10]⟩ (bP s k)=decide (sF (bP s k)=1))∧(decide (bP s k=35)=decide (sF (bP s k)=2))∧(IB ⟨#[59,44,46,58,40,41,123,125,91,93,61,60,62,47,45]⟩ (bP s k)=decide (sF (bP s k)=6))∧(decide (bP s k=34)=decide (sF (bP s k)=7))∧(IB ⟨#[92,34,110]⟩ (bP s k)=(nA (lH s k)).isSome):=by
 have h:=aDc ⟨(bP s k).toNat,u5 s k⟩;simp only [Int.toNat_of_nonneg (u4 s k)] at h;have e:UInt8.ofNat (bP s k).toNat=lH s k:=by rw [oO,aJC,UInt8.ofNat_toNat]
 rw [e] at h;exact h
theorem szW (w:List UInt8):(⟨w.toArray⟩:ByteArray).size=w.length:=by rw [← bC]
theorem qF (w:List UInt8) (t:ByteArray):(⟨w.toArray⟩:ByteArray)++t=⟨(w++t.data.toList).toArray⟩:=EF (by simp)
theorem QM {s:ByteArray} {i:Nat} (h:i < s.size):(s.extract i (i+1)).data.toList=[lH s i]:=by rw [kV,Nat.add_sub_cancel_left,sD h];rfl
theorem TZ (s:ByteArray) (at0:Nat) (H:aE) (hs:s.size < 1099511627776) (ha:at0 < s.size):aH Tryz.prog 189 [sv s,iv (at0:Int)] H (fun r H'=>r=.tup [sv (rQ (kP (s.data.toList.drop (at0+1))) [] (at0+1)).1,iv (rQ (kP (s.data.toList.drop (at0+1))) [] (at0+1)).2,bv (kP (s.data.toList.drop (at0+1))).isSome]∧H'=H):=by
 refine Pu ?_;obtain ⟨res,hres⟩:∃ res,res=rQ (kP (s.data.toList.drop (at0+1))) [] (at0+1):=⟨_,rfl⟩;obtain ⟨ok,hok⟩:∃ ok,ok=(kP (s.data.toList.drop (at0+1))).isSome:=⟨_,rfl⟩;rw [← hres,← hok];refine Bd func189 rfl ntmps189<|Sr<|Dd aO<|Dd aO<|Dd aO<|Zz<|Sr<|Dd aO<|Zz<|Sq<|Sr<|Dd aD<|Dd eL<|Dd aO<|Zz<|aF ?_;refine gU (fun(i:Nat) (w:List UInt8)=>([(0,sv s),(7,sv ⟨w.toArray⟩),(8,iv (i:Int))],[])) (fun i w=>w.length≤i∧i < 2199023255552∧res=rQ (kP (s.data.toList.drop i)) w i∧ok=(kP (s.data.toList.drop i)).isSome) (fun i w=>s.size+1 - i) (at0+1) [] ⟨aJI _,by omega,hres,hok⟩ ?_ ?_
 ·exact E0
 rintro i w ⟨hwl,hib,hinv,hinv2⟩;have hsw:=szW w;refine Sq<|Sr<|Dd aD<|Dd aD<|Dd (jJ underlying9)<|Dd dD<|Zz ?_;refine Cn ?_ ?_<;>intro hc1
 ·have hlt:i < s.size:=by have:=aIn hc1;omega
  have hd:=sD hlt;have hx1:=QM hlt;have hcat:(⟨w.toArray⟩:ByteArray)++s.extract i (i+1)=⟨(w++[lH s i]).toArray⟩:=by rw [qF,hx1]
  have hxs:=fD s i (i+1);refine aB<|Sq<|aF<|Sr<|Dd aD<|Dd aD<|Dd (by exact cF rfl underlying9 rfl rfl (by omega) (by exact aJC _) (by omega) rfl)<|Dd aO<|Zz<|Sq<|Sr<|Dd aD<|Dd cI<|Zz ?_;refine Cn ?_ ?_<;>intro hc2
  ·have hb:lH s i=34:=aIn (u6 (n:=34) (by decide) hc2);have hr:res=(⟨w.toArray⟩,((i+1:Nat):Int)):=by rw [hinv,hd,hb,vE,rQ,List.append_nil]
   have hr2:ok=true:=by rw [hinv2,hd,hb,vE];rfl
   rw [hr,hr2];refine Sr<|Dd aD<|Dd aD<|Dd eL<|Dd aO<|Dd aO<|Dd aO<|Zz<|aC ?_;refine jX (H':=[]) (.inr rfl) rfl (aN rfl) (aN rfl) (aN rfl) (Fin.wk (by simp) trivial trivial) ?_;exact Qq
  have hb34:lH s i≠34:=aIo (u6 (n:=34) (by decide) hc2);refine aB<|Sq<|Sr<|Dd aD<|Dd cI<|Zz ?_;refine Cn ?_ ?_<;>intro hc3
  ·have hb:lH s i=10:=aIn (u6 (n:=10) (by decide) hc3);have hr:res=(aP,0):=by rw [hinv,hd,hb,C7,rQ]
   have hr2:ok=false:=by rw [hinv2,hd,hb,C7];rfl
   rw [hr,hr2];refine Sr<|Dd aO<|Dd aO<|Dd aO<|Zz<|aC ?_;refine jX (H':=[]) (.inr rfl) rfl (aN rfl) (aN rfl) (aN rfl) (Fin.wk (by simp) trivial trivial) ?_;exact Qq
  have hb10:lH s i≠10:=aIo (u6 (n:=10) (by decide) hc3);refine aB<|Sq<|Sr<|Dd aD<|Dd tU<|Zz ?_;refine Cn ?_ ?_<;>intro hc4
  ·have hb92:lH s i≠92:=by
    have h:decide (bP s i=92)=false:=by simpa using hc4
    exact aIo (u6 (n:=92) (by decide) h)
   refine Sr<|Dd aD<|Dd aD<|Dd aD<|Dd aD<|Dd eL<|Dd (by exact cW (l:=i) (h:=(i+1)) rfl underlying9 rfl rfl rfl (by omega) (by omega) rfl)<|Dd (by exact cP rfl rfl rfl (by omega) hcat)<|Dd aO<|Zz<|aZ<|Rg<|Dd aD<|Dd eL<|Da ?_;refine⟨i+1,w++[lH s i],⟨by rw [aIs,List.length_singleton];omega,by omega,?_,?_⟩,by omega,E0⟩
   ·rw [hinv,hd,vF hb34 hb10 hb92,uH]
   rw [hinv2,hd,vF hb34 hb10 hb92,Option.isSome_map]
  have hb:lH s i=92:=by
   have h:decide (bP s i=92)=true:=by simpa using hc4
   exact aIn (u6 (n:=92) (by decide) h)
  by_cases hl2:i+1 < s.size
  ·have hge:decide ((s.size:Int)≤(i:Int)+1)=false:=decide_eq_false (by omega);have hd2:=sD hl2;have hhas:=(NO s (i+1)).2.2.2.2;have hx2:=QM hl2;have hxs2:=fD s (i+1) (i+1+1);have hcat2:(⟨w.toArray⟩:ByteArray)++s.extract (i+1) (i+1+1)=⟨(w++[lH s (i+1)]).toArray⟩:=by rw [qF,hx2]
   have hcat3:(⟨w.toArray⟩:ByteArray)++⟨#[10]⟩=⟨(w++[10]).toArray⟩:=by rw [qF]
   refine aB<|Sr<|Dd aD<|Dd eL<|Dd aO<|Zz<|Sq<|Sr<|Dd aD<|Dd aD<|Dd (jJ underlying9)<|Dd (by exact dQ.val (by exact yP rfl rfl rfl) (hge))<|Dd aD<|On aD<|On aD<|On (by exact cF rfl underlying9 rfl rfl (by omega) (by exact aJC _) (by omega) rfl)<|On (by exact aA rfl rfl aID rfl (aBR ⟨#[92,34,110]⟩ (bP s (i+1)) _ (by decide)))<|On jU<|Dd dI<|Zz ?_;refine Cn ?_ ?_<;>intro hc5
   ·have hn:nA (lH s (i+1))=none:=by
     rw [hhas] at hc5;cases hg:nA (lH s (i+1))with
     | none=>rfl
     | some b=>rw [hg] at hc5;cases hc5
    have hr:res=(aP,0):=by rw [hinv,hd,hb,hd2,pM,hn];rfl
    have hr2:ok=false:=by rw [hinv2,hd,hb,hd2,pM,hn];rfl
    rw [hr,hr2];refine Sr<|Dd aO<|Dd aO<|Dd aO<|Zz<|aC ?_;refine jX (H':=[]) (.inr rfl) rfl (aN rfl) (aN rfl) (aN rfl) (Fin.wk (by simp) trivial trivial) ?_;exact Qq
   obtain ⟨b,hg⟩:∃ b,nA (lH s (i+1))=some b:=by
    rw [hhas] at hc5;cases hg:nA (lH s (i+1))with
    | none=>rw [hg] at hc5;cases hc5
    | some b=>exact⟨b,rfl⟩
   refine aB<|Sr<|Dd aD<|Dd aD<|Dd (by exact cF rfl underlying9 rfl rfl (by omega) (by exact aJC _) (by omega) rfl)<|Dd cI<|Zz ?_;refine Cn ?_ ?_<;>intro hc6
   ·have hb2:lH s (i+1)=110:=aIn (u6 (n:=110) (by decide) hc6);have hbb:b=10:=by rw [hb2] at hg;exact(Option.some.inj hg).symm
    refine Rg<|Dd aD<|Dd (by exact cP rfl rfl rfl (by show (⟨w.toArray⟩:ByteArray).size+1≤_;omega) hcat3)<|Dd aO<|Zz<|Rg<|Dd aD<|Dd eL<|Da ?_;refine⟨i+1+1,w++[10],⟨by rw [aIs,List.length_singleton];omega,by omega,?_,?_⟩,by omega,E0⟩
    ·rw [hinv,hd,hb,hd2,pM,hg,hbb];exact uH
    rw [hinv2,hd,hb,hd2,pM,hg];exact Option.isSome_map
   have hb2:lH s (i+1)≠110:=aIo (u6 (n:=110) (by decide) hc6);have hbb:b=lH s (i+1):=by
    rw [nA] at hg
    split at hg
    ·rename_i e;rw [e];exact(Option.some.inj hg).symm
    split at hg
    ·rename_i e;rw [e];exact(Option.some.inj hg).symm
    first
    | cases hg
    | (rw [aIp hb2] at hg;cases hg)
   refine Rg<|Dd aD<|Dd aD<|Dd aD<|Dd aD<|Dd eL<|Dd (by exact cW (l:=(i+1)) (h:=(i+1+1)) rfl underlying9 rfl rfl rfl (by omega) (by omega) rfl)<|Dd (by exact cP rfl rfl rfl (by omega) hcat2)<|Dd aO<|Zz<|Rg<|Dd aD<|Dd eL<|Da ?_;refine⟨i+1+1,w++[lH s (i+1)],⟨by rw [aIs,List.length_singleton];omega,by omega,?_,?_⟩,by omega,E0⟩
   ·rw [hinv,hd,hb,hd2,pM,hg,hbb];exact uH
   rw [hinv2,hd,hb,hd2,pM,hg];exact Option.isSome_map
  have hge:decide ((s.size:Int)≤(i:Int)+1)=true:=decide_eq_true (by omega);have hr:res=(aP,0):=by rw [hinv,hd,hb,u3 (by omega)];rfl
  have hr2:ok=false:=by rw [hinv2,hd,hb,u3 (by omega)];rfl
  rw [hr,hr2];refine aB<|Sr<|Dd aD<|Dd eL<|Dd aO<|Zz<|Sq<|Sr<|Dd aD<|Dd aD<|Dd (jJ underlying9)<|Dd (by exact dQ.val (by exact yP rfl rfl rfl) (hge))<|Dd aD<|Fo<|Fo<|Fo<|Fo<|Fo<|Dd dI<|Zz ?_;refine Cn ?_ ?_<;>intro hc7
  ·refine Sr<|Dd aO<|Dd aO<|Dd aO<|Zz<|aC ?_;refine jX (H':=[]) (.inr rfl) rfl (aN rfl) (aN rfl) (aN rfl) (Fin.wk (by simp) trivial trivial) ?_;exact Qq
  ((cases hc7;done))
 have hge:s.size≤i:=by have:=aIo hc1;omega
 have hr:res=(aP,0):=by rw [hinv,u3 hge];rfl
 have hr2:ok=false:=by rw [hinv2,u3 hge];rfl
 rw [hr,hr2];refine aZ<|Sr<|Dd aO<|Dd aO<|Dd aO<|Zz<|aC ?_;refine jX (H':=[]) (.inr rfl) rfl (aN rfl) (aN rfl) (aN rfl) (Fin.wk (by simp) trivial trivial) ?_;exact Qq
theorem DM (s:ByteArray) (H:aE) (hs:s.size < 17592186044416):aH Tryz.prog 76 [sv s] H (fun r H'=>r=sv ⟨(dE s.data.toList).toArray⟩∧H'=H):=by
 refine Pu ?_;have hsl:=bC s;refine Bd func76 rfl ntmps76<|Sr<|Dd aO<|Zz<|Sr<|Dd aO<|Zz<|Sr<|Dd aO<|Zz<|Sq<|Sr<|Dd aO<|Zz<|aF ?_;refine L5 (fun(i f:Nat) (w:List UInt8)=>([(0,sv s),(3,sv ⟨w.toArray⟩),(4,iv (f:Int)),(5,iv (i:Int))],[])) (fun i f w=>f≤i∧i≤s.size∧w.length≤(jE s i).length∧w++(s.data.toList.drop f).take (i - f)=jE s i) (fun i f w=>s.size - i) 0 0 [34] ⟨aIx _,aJI _,aIx _,rfl⟩ ?_ ?_
 ·exact E0
 rintro i f w ⟨hf,hi,hwl,hinv⟩;have hq:=PC (s:=s) (k:=i) hs;have hsw:=szW w;refine Sq<|Sr<|Dd aD<|Dd aD<|Dd (jJ underlying9)<|Dd dD<|Zz ?_;refine Cn ?_ ?_<;>intro hc1
 ·have hlt:i < s.size:=by have:=aIn hc1;omega
  have hnx:=K5 hlt;have hexl:=kV s f i;have hcat:(⟨w.toArray⟩:ByteArray)++s.extract f i=⟨(jE s i).toArray⟩:=by rw [qF,hexl,hinv]
  have hsq:=szW (jE s i);have hcat2:(⟨(jE s i).toArray⟩:ByteArray)++⟨#[92,110]⟩=⟨(jE s i++[92,110]).toArray⟩:=by rw [qF]
  have hcat3:(⟨(jE s i).toArray⟩:ByteArray)++⟨#[92]⟩=⟨(jE s i++[92]).toArray⟩:=by rw [qF]
  have hxs:=fD s f i;refine aB<|Sq<|aF<|Sr<|Dd aD<|Dd aD<|Dd (by exact cF rfl underlying9 rfl rfl (by omega) (by exact aJC _) (by omega) rfl)<|Dd cI<|Zz ?_;refine Cn ?_ ?_<;>intro hc2
  ·have hb:lH s i=10:=aIn (u6 (n:=10) (by decide) hc2);have he:lW (lH s i)=[92,110]:=by rw [lW,aIq hb]
   rw [he] at hnx;refine Sr<|Dd aD<|Dd aD<|Dd aD<|Dd aD<|Dd (by exact cW (l:=f) (h:=i) rfl underlying9 rfl rfl rfl (by omega) (by omega) rfl)<|Dd (by exact cP rfl rfl rfl (by omega) hcat)<|Dd (by exact cP rfl rfl rfl (by show (⟨(jE s i).toArray⟩:ByteArray).size+2≤_;omega) hcat2)<|Dd aO<|Zz<|Rg<|Dd aD<|Dd eL<|Dd aO<|Zz<|Rg<|Dd aD<|Dd eL<|Da ?_;refine⟨i+1,i+1,jE s i++[92,110],⟨aIx _,hlt,by rw [hnx];exact aIx _,by rw [hnx,Nat.sub_self,List.take_zero,List.append_nil]⟩,by omega,E0⟩
  have hb10:¬ lH s i=10:=aIo (u6 (n:=10) (by decide) hc2);refine Sq ?_;refine bD (t:=34) (n:=11) (X:=decide (bP s i=34)||decide (bP s i=92)) ?_ ?_
  ·all_goals refine Dd aD ?_
   all_goals refine Dd aD<|Dd (by exact cF rfl underlying9 rfl rfl (by omega) (by exact aJC _) (by omega) rfl)<|Dd cI<|Dm ?_
   all_goals refine Sp 29 (fun h29=>?_) fun h29=>?_
   all_goals try contradiction
   all_goals first|refine Fo<|Fo<|Fo<|Fo ?_|refine On aD<|On aD<|On (by exact cF rfl underlying9 rfl rfl (by omega) (by exact aJC _) (by omega) rfl)<|On cI ?_
   all_goals refine Dd dI<|Zz ?_
   all_goals(exact⟨⟨_,rfl,by(rw [h29];rfl)⟩,rfl,rfl,rfl⟩)
  refine Cn ?_ ?_<;>intro hc3
  ·have hb:lH s i=34∨lH s i=92:=by
    rw [Bool.or_eq_true] at hc3;rcases hc3 with h|h
    ·exact .inl (aIn (u6 (n:=34) (by decide) h))
    exact .inr (aIn (u6 (n:=92) (by decide) h))
   have he:lW (lH s i)=[92,lH s i]:=by rw [lW,aIp hb10,aIq hb]
   rw [he] at hnx;refine Sr<|Dd aD<|Dd aD<|Dd aD<|Dd aD<|Dd (by exact cW (l:=f) (h:=i) rfl underlying9 rfl rfl rfl (by omega) (by omega) rfl)<|Dd (by exact cP rfl rfl rfl (by omega) hcat)<|Dd (by exact cP rfl rfl rfl (by show (⟨(jE s i).toArray⟩:ByteArray).size+1≤_;omega) hcat3)<|Dd aO<|Zz<|Rg<|Dd aD<|Dd aO<|Zz<|Rg<|Dd aD<|Dd eL<|Da ?_;refine⟨i+1,i,jE s i++[92],⟨Nat.le_succ _,hlt,by rw [hnx,aIs,aIs];exact Nat.add_le_add_left (by show 1≤2;omega) _,by rw [hnx,Nat.add_sub_cancel_left,sD hlt,List.append_assoc];rfl⟩,by omega,E0⟩
  have hb:¬ (lH s i=34∨lH s i=92):=by
   rw [aJN] at hc3;rintro(h|h)
   ·exact absurd h (aIo (u6 (n:=34) (by decide) hc3.1))
   exact absurd h (aIo (u6 (n:=92) (by decide) hc3.2))
  have he:lW (lH s i)=[lH s i]:=by rw [lW,aIp hb10,aIp hb]
  rw [he] at hnx;have htk:(s.data.toList.drop f).take (i+1 - f)=(s.data.toList.drop f).take (i - f)++[lH s i]:=by
   have e1:i+1 - f=(i - f)+1:=by omega
   have e2:(s.data.toList.drop f)[i - f]?=some (lH s i):=by
    rw [List.getElem?_drop,show f+(i - f)=i by omega];have hd:=sD hlt;exact(H8 hd).1
   rw [e1,List.take_add_one,e2];rfl
  refine aB<|Rg<|Dd aD<|Dd eL<|Da ?_;refine⟨i+1,f,w,⟨by omega,hlt,by rw [hnx,aIs];omega,by rw [htk,← List.append_assoc,hinv,hnx]⟩,by omega,E0⟩
 have hge:i=s.size:=by have:=aIo hc1;omega
 subst hge;have hexl:=kV s f s.size;have hcat:(⟨w.toArray⟩:ByteArray)++s.extract f s.size=⟨(jE s s.size).toArray⟩:=by rw [qF,hexl,hinv]
 have hsq:=szW (jE s s.size);have hxs:=fD s f s.size;have hend:(⟨(jE s s.size).toArray⟩:ByteArray)++⟨#[34]⟩=⟨(dE s.data.toList).toArray⟩:=by
  rw [qF,jE,List.take_of_length_le (by omega),dE];rfl
 exact aZ<|Sr<|Dd aD<|Dd aD<|Dd aD<|Dd (by exact cW (l:=f) (h:=s.size) rfl underlying9 rfl rfl rfl (by omega) (by omega) rfl)<|Dd (by exact cP rfl rfl rfl (by omega) hcat)<|Dd (by exact cP rfl rfl rfl (by show (⟨(jE s s.size).toArray⟩:ByteArray).size+1≤_;omega) hend)<|Dd aO<|Zz<|aC<|Rt<|Qq
abbrev oBx (o:GObj):Ob:=bx 6 49 ((aG o).map .pv)
def G9 (l:List ByteArray):List (List AV):=l.map fun s=>[sv s]
theorem MP (l:List ByteArray):(G9 l).length=l.length:=aIr _
theorem jO (H:aE) (l:List ByteArray):∀ r∈G9 l,∀ a∈r,Clo H a:=by intro r hr a ha;obtain ⟨x,_,rfl⟩:=List.mem_map.1 hr;rw [aIu] at ha;subst ha;simp
theorem MQ {l:List ByteArray} {k:Nat} {s:ByteArray} (h:l[k]?=some s):(G9 l)[k]?=some [sv s]:=by rw [G9,aJL,h];rfl
theorem MR (l:List ByteArray) (s:ByteArray):G9 l++[(encStr s).map AV.pv]=G9 (l++[s]):=by rw [G9,G9,List.map_append];rfl
theorem Z7 (l:List ByteArray):G9 l=(l.map encStr).map (·.map .pv):=by rw [G9,List.map_map];rfl
theorem fmC {α β:Type} {f g:α→List β}:∀ {l:List α},(∀ x∈l,f x=g x)→l.flatMap f=l.flatMap g
 | [],_=>rfl
 | x::l,h=>by rw [List.flatMap_cons,List.flatMap_cons,h x List.mem_cons_self,fmC fun y hy=>h y (List.mem_cons_of_mem _ hy)]
end Go.Proofs.YtlnfjkdacimblaaGreatDoor
namespace Go.Proofs.YtlnfjkdacimblaaGreatDoor
open Go.Proofs.Tryz
open Go.Abs Go.Lib
theorem aBE {x:Int} (h:0≤x):cR x=ofL (decDigits x.toNat):=by rw [cR,iG _ h];rfl
theorem FY (x:Int) (H:aE) (h0:0≤x) (h1:x < 1000000000):aH Tryz.prog 75 [iv x] H (fun r H'=>r=sv (cR x)∧H'=H):=by obtain ⟨u,rfl⟩:=Int.eq_ofNat_of_zero_le h0;rw [aBE h0];exact aFO u H (by omega)
def wO (o:GObj) (M:List ByteArray) (k:Nat):List ByteArray:=[dW o.kind,o.id]++M++(o.tags.take k).map gF
theorem TS {o:GObj} {M:List ByteArray} {k:Nat} {t:GTag} (h:o.tags[k]?=some t):wO o M (k+1)=wO o M k++[gF t]:=by rw [wO,wO,List.take_add_one,h,Option.toList_some,List.map_append,← List.append_assoc];rfl
theorem yH (a b:List ByteArray):dH (a++b)=dH a+dH b:=by rw [dH,dH,dH,List.map_append,List.sum_append]
theorem SJ {o:GObj} (hg:iC o=true):eB o=if 20000 < (o9 o).size then(aP,2)else(o9 o,0):=by
 rw [eB,aIq hg];by_cases h:0 < o.tags.length∧(gY o.tags).2≠0
 ·have htg:=(k7 hg).2.2.1;rw [aIq h];have h2:=h.2;rw [gY,aIq htg] at h2 ⊢
  split at h2
  ·next hb =>
   rw [aIq hb,aIq ?_];rw [o9,← bC];show 20000 < (m7 o).length;rw [m7,aIs];cases e:o.tags with
   | nil=>rw [e] at h;exact absurd h.1 (by decide)
   | cons t l =>
    rw [e] at hb;have:=KO t l;have h3:=congrArg List.length this;rw [bC] at h3;rw [jF,List.flatMap_cons,aIs,aIt];rw [aIs,jF] at h3;omega
  exact absurd rfl h2
 rw [aIp h]
theorem TT (o:GObj) (M:List ByteArray):(ofL (bS [32] (bs (wO o M o.tags.length)))).data.toList=(dW o.kind).data.toList++32::(o.id.data.toList++M.flatMap fun s=>32::s.data.toList)++jF o.tags:=by rw [eI,wO,List.take_length,List.cons_append,List.cons_append,bs,List.map_cons,bS,jF];simp only [List.map_cons,List.map_append,List.flatMap_cons,List.flatMap_append,List.flatMap_map,List.nil_append,List.append_assoc,List.cons_append];congr 3;congr 1;refine fmC fun t _=>?_;rw [DW]
theorem TU {o:GObj} {M:List ByteArray} (hM:(dW o.kind).data.toList++32::(o.id.data.toList++M.flatMap fun s=>32::s.data.toList)=jP o):ofL (bS [32] (bs (wO o M o.tags.length)))=o9 o:=S4 (by
 rw [TT,hM];rfl)
theorem LN:∀ (l:List ByteArray) (k:Nat),(bS [32] (bs (l.take k))).length≤(bS [32] (bs l)).length
 | [],k=>by rw [List.take_nil];exact aIx _
 | x::l,0=>by rw [List.take_zero];exact aJI _
 | x::l,k+1=>by
  rw [List.take_succ_cons,r9,r9,aIs,aIs,y4,y4];have h1:=kZ l k;have h2:(l.take k).length≤l.length:=by rw [aJF];exact Nat.min_le_right _ _
  omega
theorem sW (a b:ByteArray):(a++b).size=a.size+b.size:=ByteArray.size_append
theorem vR (o:GObj) (H:aE) (ho:DO o):aH Tryz.prog 73 [av (aG o)] H (fun r H'=>r=.tup [sv (eB o).1,iv (eB o).2]∧H'=H):=by
 refine Pu ?_;have hmt:(o.tags.map aQ).length=o.tags.length:=aIr _;have hmr:(o.refs.map encStr).length=o.refs.length:=aIr _;refine Bd func73 rfl ntmps73<|Sr<|Dd (by exact cE (id:=1) rfl rfl rfl rfl rfl)<|Dd aO<|Dd aO<|Zz<|Sq<|Sr<|Dd (by exact aI rfl aY sizeOf49 rfl rfl rfl rfl (by simp only [Zl,aQ,aG,encStr,aJ,encInt];rfl) rfl)<|Dd (by exact aA rfl rfl call94 rfl (aAK o _ ho))<|Dd jU<|Zz ?_;refine Cn ?_ ?_<;>intro hc1
 ·have hg:iC o=false:=by have h:=hc1;rwa [aJK] at h
  have e:eB o=(aP,1):=by rw [eB,aIp (by rw [hg];decide)]
  rw [e];exact Sr<|Dd aO<|Dd aO<|Zz<|aC<|Ru<|Qq
 have hg:iC o=true:=by have h:=hc1;rwa [Bool.not_eq_false'] at h
 obtain ⟨hr,ht,htg,hid,_⟩:=k7 hg;obtain ⟨hx,hy,hn,hz⟩:=Q9 hg;have hw:=(uE (yU hg)).1;have hws:=dK hw;have his:=dK hid;have hT:=SJ hg;have hTb:∀ t∈o.tags,t.key.size≤24∧t.val.size≤200:=fun t ht=>by
  obtain ⟨p1,_,_⟩:=rL.1 htg;have:=p1 t ht;exact⟨dK this.1,this.2.2⟩
 have hTs:∀ k,dH ((o.tags.take k).map gF)≤60*427:=fun k=>by
  have h1:∀ l:List GTag,(∀ t∈l,t∈o.tags)→dH (l.map gF)≤l.length*427:=by
   intro l
   induction l with
   | nil=>intro _;exact aJI _
   | cons t l ih =>
    intro h;rw [List.map_cons,cL,aIt,Nat.add_mul];have h2:=ih fun x hx=>h x (List.mem_cons_of_mem _ hx);have h3:=hTb t (h t List.mem_cons_self);have h4:=LK h3.1 h3.2;omega
  have h2:=h1 (o.tags.take k) fun t ht=>List.mem_of_mem_take ht;have h3:(o.tags.take k).length≤60:=by rw [aJF];omega
  have h4:(o.tags.take k).length*427≤60*427:=Nat.mul_le_mul_right _ h3;omega
 refine aB<|Sq<|aU follows<|Cs (fun _ h=>fh dT h)<|Cs (fun _ h=>lh isAgg3 h)<|Cs (fun H1 hH=>by exact aA rfl rfl YJ rfl (yM o.kind _))<|Cs (fun _ h=>fh eK h)<|Cs (fun _ h=>lh isAgg9 h) ?_;refine bT (r:=⟨_,none,[_]⟩) (DStep.plain rfl (fun H1 hH=>by exact eN (id:=901) rfl cC rfl rfl rfl rfl (by intro r hr;simp only [aJD,aJH,or_false] at hr;rcases hr with rfl|rfl<;>rfl) ((hH _ rfl).trans rfl))) rfl ?_;refine Cs (fun _ _=>aO)<|bM<|Kr<|Sq<|Sq ?_;refine iB.ent (E':=[(1,.ref 1 0 0 0),(4,.osl 901 0 0 2)]) (H':=[(901,⟨0,1,9,G9 [dW o.kind,o.id]⟩),(1,oBx o)]) (cY.wk (Ea<|Ea<|trivial) (Hc (jO _ _)<|Hb<|trivial) trivial) ?_;refine Rg<|Dd (bH dT)<|Dd (cA isAgg3)<|Dd cI<|Zz ?_;refine Cn ?_ ?_<;>intro hc2
 ·have hk:o.kind=1:=aIn hc2;have six:(cR o.x).size≤7:=by rw [← bC];show (Lib.itoa o.x).length≤7;rw [iG _ hx.1];exact eM (by omega) (by decide)
  have siy:(cR o.y).size≤7:=by rw [← bC];show (Lib.itoa o.y).length≤7;rw [iG _ hy.1];exact eM (by omega) (by decide)
  have hMs:dH [cR o.x,cR o.y]=(cR o.x).size+((cR o.y).size+0):=by rw [cL,cL];rfl
  have hMl:([cR o.x,cR o.y]:List ByteArray).length=2:=rfl;have hHd:(dW o.kind).data.toList++32::(o.id.data.toList++([cR o.x,cR o.y]:List ByteArray).flatMap fun s=>32::s.data.toList)=jP o:=by
   rw [jP,aIq hk];simp [cR]
  have hFT:eB o=if 20000 < (ofL (bS [32] (bs (wO o [cR o.x,cR o.y] o.tags.length)))).size then(aP,2)else(ofL (bS [32] (bs (wO o [cR o.x,cR o.y] o.tags.length))),0):=by rw [TU hHd];exact hT
  refine aU follows<|Cs (fun _ _=>aD)<|Cs (fun _ h=>fh kE h)<|Cs (fun _ h=>fh qL h)<|Cs (fun _ h=>lh isAgg3 h)<|Cs (fun H1 hH=>by exact aA rfl rfl C1 rfl (FY o.x _ (by omega) (by omega)))<|Cs (fun _ h=>fh kE h)<|Cs (fun _ h=>fh qK h)<|Cs (fun _ h=>lh isAgg3 h)<|Cs (fun H1 hH=>by exact aA rfl rfl C1 rfl (FY o.y _ (by omega) (by omega)))<|Cs (fun H1 hH=>by exact aT [encStr (cR o.x),encStr (cR o.y)] rfl cC rfl rfl rfl rfl rfl (by intro r hr;simp only [aJD,aJH,or_false] at hr;rcases hr with rfl|rfl<;>rfl)) ?_;refine bT (r:=⟨_,none,[_]⟩) (DStep.plain rfl (fun H1 hH=>by exact c6 (ps:=[encStr (cR o.x),encStr (cR o.y)]) rfl cC E4 rfl ((hH _ rfl).trans rfl) rfl rfl rfl rfl rfl (by intro r hr;simp only [aJD,aJH,or_false] at hr;rcases hr with rfl|rfl<;>rfl) (m:=2) rfl (by omega) rfl (rfl:_=G9 (wO o [cR o.x,cR o.y] 0)))) rfl ?_;refine Cs (fun _ _=>aO)<|bM<|Kr<|Sq<|Sr<|Dd aO<|Zz<|aF ?_;have hMs2:dH ([dW o.kind,o.id]++[cR o.x,cR o.y])≤70000:=by rw [yH];have:dH [dW o.kind,o.id]=(dW o.kind).size+(o.id.size+0):=(by rw [cL,cL];rfl);omega
  have hWl:∀ k,k≤o.tags.length→(wO o [cR o.x,cR o.y] k).length≤64:=fun k hk=>by rw [wO,aIs,aIs,aIr,aJF];show 2+_+_≤_;omega
  have hWs:∀ k,dH (wO o [cR o.x,cR o.y] k)≤100000:=fun k=>by
   rw [wO,yH];have h1:=hTs k;omega
  refine bG (σ:=Nat) (fun k=>([(1,.ref 1 0 0 0),(4,.osl 901 (1+k) 0 (wO o [cR o.x,cR o.y] k).length),(7,iv (k:Int))],[(901,⟨1+k,1,9,G9 (wO o [cR o.x,cR o.y] k)⟩),(1,oBx o)])) (fun k=>k≤o.tags.length) (fun k=>o.tags.length - k) 0 (aJI _) ?_ ?_
  ·exact(cY.wk (Ea<|Ea<|Eb<|trivial) (Hc (jO _ _)<|Hb<|trivial) trivial)
  rintro k hk;have hwl:=hWl k hk;refine Sq<|Sr<|Dd aD<|Dd (bH e9)<|Dd (cA cU)<|Dd (fK cK)<|Dd dD<|Zz ?_;refine Cn ?_ ?_<;>intro hc3
  ·have hlt:k < o.tags.length:=by have:=aIn hc3;omega
   obtain ⟨t,ht⟩:=aX hlt;have hit:=bZ (f:=aQ) ht;have hnx:=TS (M:=[cR o.x,cR o.y]) ht;have hnl:(wO o [cR o.x,cR o.y] k++[gF t]).length=(wO o [cR o.x,cR o.y] k).length+1:=by rw [aIs];rfl
   obtain ⟨hks,hvs⟩:=hTb t (aJB ht);have hq:=m6 t.val;have h61:(⟨#[61]⟩:ByteArray).size=1:=rfl;have hk1:(t.key++(⟨#[61]⟩:ByteArray)).size=t.key.size+1:=sW _ _;refine aB<|Sq<|aF<|aU follows<|Cs (fun _ _=>aD)<|Cs (fun _ h=>fh e9 h)<|Cs (fun _ h=>lh cU h)<|Cs (fun _ _=>aD)<|Cs (fun _ _=>(e8 lJ))<|Cs (fun _ _=>(wB jD))<|Cs (fun _ _=>(fM isAgg9))<|Cs (fun H1 hH=>by exact cP rfl rfl rfl (by omega) rfl)<|Cs (fun _ h=>fh e9 h)<|Cs (fun _ h=>lh cU h)<|Cs (fun _ _=>aD)<|Cs (fun _ _=>(e8 lJ))<|Cs (fun _ _=>(wB kU))<|Cs (fun _ _=>(fM isAgg9))<|Cs (fun H1 hH=>by exact aA rfl rfl aIa rfl (DM t.val _ (by omega)))<|Cs (fun H1 hH=>by exact cP rfl rfl rfl (by omega) rfl)<|Cs (fun H1 hH=>by exact aT [encStr (gF t)] rfl cC rfl rfl rfl rfl rfl (by intro r hr;rw [aIu] at hr;subst hr;rfl)) ?_;refine bT (r:=⟨_,none,[_]⟩) (DStep.plain rfl (fun H1 hH=>by exact c6 (ps:=[encStr (gF t)]) rfl cC E4 rfl ((hH _ rfl).trans rfl) rfl rfl rfl (MP _) rfl (by intro r hr;rw [aIu] at hr;subst hr;rfl) (m:=1) rfl (by omega) rfl (MR _ (gF t)))) rfl ?_;refine Cs (fun _ _=>aO)<|bM<|Kr<|Rg<|Dd aD<|Dd eL<|Da ?_;refine⟨k+1,by omega,by omega,?_⟩;rw [hnx,hnl];exact(cY.wk (Ea<|Ea<|Eb<|trivial) (Hc (jO _ _)<|Hb<|trivial) trivial)
  have hge:k=o.tags.length:=by have:=aIo hc3;omega
  subst hge;obtain ⟨W,hW⟩:∃ W,W=wO o [cR o.x,cR o.y] o.tags.length:=⟨_,rfl⟩;have hWs2:=hWs o.tags.length;rw [← hW] at hwl hWs2 hFT;rw [← hW];obtain ⟨F,hF⟩:∃ F,F=ofL (bS [32] (bs W)):=⟨_,rfl⟩;rw [← hF] at hFT;refine aZ<|Sr<|Dd aO<|Zz<|Sq<|Sr<|Dd aO<|Zz<|aF ?_;refine bG (σ:=Nat) (fun k=>([(4,.osl 901 (1+o.tags.length) 0 W.length),(8,sv (ofL (bS [32] (bs (W.take k))))),(9,iv (k:Int))],[(901,⟨1+o.tags.length,1,9,G9 W⟩)])) (fun k=>k≤W.length) (fun k=>W.length - k) 0 (aJI _) ?_ ?_
  ·exact(cY.wk (Ea<|Eb<|Eb<|trivial) (Hc (jO _ _)<|trivial) trivial)
  rintro k hk;have hsz:(ofL (bS [32] (bs (W.take k)))).size≤100064:=by
   rw [dL];have h1:=fC (W.take k);have h2:=kZ W k;have h3:(W.take k).length≤W.length:=by rw [aJF];exact Nat.min_le_right _ _
   omega
  refine Sq<|Sr<|Dd aD<|Dd aD<|Dd (by exact dV rfl aK rfl rfl rfl)<|Dd dD<|Zz ?_;refine Cn ?_ ?_<;>intro hc4
  ·have hlt:k < W.length:=by have:=aIn hc4;omega
   obtain ⟨w,hw⟩:=aX hlt;have hiw:=MQ hw;have hnx:=uU hw;have hws:w.size≤100000:=by
    have h1:=rT hw;have h2:=kZ W (k+1);omega
   have h32:(⟨#[32]⟩:ByteArray).size=1:=rfl;have hs2:(ofL (bS [32] (bs (W.take k)))++⟨#[32]⟩).size=(ofL (bS [32] (bs (W.take k)))).size+1:=sW _ _;refine aB<|Sq<|aF<|Sq<|Sr<|Dd aD<|Dd kC<|Zz ?_;refine Cn ?_ ?_<;>intro hc5
   ·have hq:0 < k:=by have:=aIn hc5;omega
    rw [aIq hq] at hnx;refine Rg<|Dd aD<|Dd (by exact cP rfl rfl rfl (by omega) rfl)<|Dd aO<|Zz<|Rg<|Dd aD<|Dd aD<|Dd aD<|Dd (by exact cG rfl cC rfl rfl rfl rfl rfl (by omega) (by exact aJC _) hlt (aJJ _))<|Dd (by exact aR rfl isAgg9 rfl rfl rfl hiw rfl)<|Dd (by exact cP rfl rfl rfl (by omega) rfl)<|Dd aO<|Zz<|Rg<|Dd aD<|Dd eL<|Da ?_;refine⟨k+1,by omega,by omega,?_⟩;rw [hnx];exact(cY.wk (Ea<|Eb<|Eb<|trivial) (Hc (jO _ _)<|trivial) trivial)
   have hq:¬ 0 < k:=by have:=aIo hc5;omega
   rw [aIp hq] at hnx;refine aB<|Rg<|Dd aD<|Dd aD<|Dd aD<|Dd (by exact cG rfl cC rfl rfl rfl rfl rfl (by omega) (by exact aJC _) hlt (aJJ _))<|Dd (by exact aR rfl isAgg9 rfl rfl rfl hiw rfl)<|Dd (by exact cP rfl rfl rfl (by omega) rfl)<|Dd aO<|Zz<|Rg<|Dd aD<|Dd eL<|Da ?_;refine⟨k+1,by omega,by omega,?_⟩;rw [hnx];exact(cY.wk (Ea<|Eb<|Eb<|trivial) (Hc (jO _ _)<|trivial) trivial)
  have hge:k=W.length:=by have:=aIo hc4;omega
  subst hge;rw [List.take_length,← hF];refine aZ<|Sq<|Sr<|Dd aD<|Dd (jJ underlying9)<|Dd kC<|Zz ?_;refine Cn ?_ ?_<;>intro hc6
  ·have hbig:20000 < F.size:=by have:=aIn hc6;omega
   rw [hFT,aIq hbig];exact Sr<|Dd aO<|Dd aO<|Zz<|aC<|Ru<|Qq
  have hbig:¬ 20000 < F.size:=by have:=aIo hc6;omega
  rw [hFT,aIp hbig];exact aB<|Sr<|Dd aD<|Dd aO<|Dd aO<|Zz<|aC<|Ru<|Qq
 have hk:o.kind≠1:=aIo hc2;have hsz:dH o.refs≤24*o.refs.length:=lQ (fun s hs=>dK (oX hg s hs));have hjl:=fC o.refs;have hSz:∀ k,(ofL (bS [32] (bs (o.refs.take k)))).size≤50000:=fun k=>by
  rw [dL];have:=LN o.refs k;omega
 refine Sr<|Dd aO<|Zz<|Sq<|Sr<|Dd aO<|Zz<|aF ?_;refine bG (σ:=Nat) (fun k=>([(1,.ref 1 0 0 0),(4,.osl 901 0 0 2),(5,sv (ofL (bS [32] (bs (o.refs.take k))))),(6,iv (k:Int))],[(901,⟨0,1,9,G9 [dW o.kind,o.id]⟩),(1,oBx o)])) (fun k=>k≤o.refs.length) (fun k=>o.refs.length - k) 0 (aJI _) ?_ ?_
 ·exact(cY.wk (Ea<|Ea<|Eb<|Eb<|trivial) (Hc (jO _ _)<|Hb<|trivial) trivial)
 rintro k hkr;have hsk:=hSz k;refine Sq<|Sq ?_;refine bD (t:=42) (n:=11) (X:=decide ((k:Int) < ((o.refs.map encStr).length:Int))&&decide (((ofL (bS [32] (bs (o.refs.take k)))).size:Int)≤20000)) ?_ ?_
 ·all_goals refine Dd aD ?_
  all_goals refine Dd (bH dP)<|Dd (cA aV)<|Dd (fK aK)<|Dd dD<|Dm ?_
  all_goals refine Sp 38 (fun h38=>?_) fun h38=>?_
  all_goals try contradiction
  all_goals first|refine Fo<|Fo<|Fo ?_|refine On aD<|On (jJ underlying9)<|On JK ?_
  all_goals refine Dd dI<|Zz ?_
  all_goals(exact⟨⟨_,rfl,by(rw [h38];rfl)⟩,rfl,rfl,rfl⟩)
 refine Cn ?_ ?_<;>intro hc7
 ·have hlt:k < o.refs.length:=by have h:=hc7;rw [aJA,aIy] at h;omega
  obtain ⟨w,hw2⟩:=aX hlt;have hiw:=bZ (f:=encStr) hw2;have hnx:=uU hw2;have hwsz:=dK (oX hg w (aJB hw2));have h32:(⟨#[32]⟩:ByteArray).size=1:=rfl;have hs2:(ofL (bS [32] (bs (o.refs.take k)))++⟨#[32]⟩).size=(ofL (bS [32] (bs (o.refs.take k)))).size+1:=sW _ _;refine aB<|Sq<|aF<|Sq<|Sr<|Dd aD<|Dd kC<|Zz ?_;refine Cn ?_ ?_<;>intro hc8
  ·have hq:0 < k:=by have:=aIn hc8;omega
   rw [aIq hq] at hnx;refine Rg<|Dd aD<|Dd (by exact cP rfl rfl rfl (by omega) rfl)<|Dd aO<|Zz<|Rg<|Dd aD<|Dd (bH dP)<|Dd (cA aV)<|Dd aD<|Dd (e8 cC)<|Dd (fM isAgg9)<|Dd (by exact cP rfl rfl rfl (by omega) rfl)<|Dd aO<|Zz<|Rg<|Dd aD<|Dd eL<|Da ?_;refine⟨k+1,by omega,by omega,?_⟩;rw [hnx];exact(cY.wk (Ea<|Ea<|Eb<|Eb<|trivial) (Hc (jO _ _)<|Hb<|trivial) trivial)
  have hq:¬ 0 < k:=by have:=aIo hc8;omega
  rw [aIp hq] at hnx;refine aB<|Rg<|Dd aD<|Dd (bH dP)<|Dd (cA aV)<|Dd aD<|Dd (e8 cC)<|Dd (fM isAgg9)<|Dd (by exact cP rfl rfl rfl (by omega) rfl)<|Dd aO<|Zz<|Rg<|Dd aD<|Dd eL<|Da ?_;refine⟨k+1,by omega,by omega,?_⟩;rw [hnx];exact(cY.wk (Ea<|Ea<|Eb<|Eb<|trivial) (Hc (jO _ _)<|Hb<|trivial) trivial)
 have hend:k=o.refs.length∨20000 < (ofL (bS [32] (bs (o.refs.take k)))).size:=by have h:=hc7;simp only [Bool.and_eq_false_iff,aIz] at h;omega
 obtain ⟨S,hS⟩:∃ S,S=ofL (bS [32] (bs (o.refs.take k))):=⟨_,rfl⟩;obtain ⟨B,hB⟩:∃ B,B=(⟨#[40]⟩:ByteArray)++S++⟨#[41]⟩:=⟨_,rfl⟩;rw [← hS] at hsk hend;rw [← hS];have h40:(⟨#[40]⟩:ByteArray).size=1:=rfl;have h41:(⟨#[41]⟩:ByteArray).size=1:=rfl;have hA:((⟨#[40]⟩:ByteArray)++S).size=1+S.size:=sW _ _;have hBs:B.size=1+S.size+1:=by rw [hB,sW,hA];rfl
 have hMs:dH [B]=B.size+0:=by rw [cL];rfl
 have hMl:([B]:List ByteArray).length=1:=rfl;have hFT:eB o=if 20000 < (ofL (bS [32] (bs (wO o [B] o.tags.length)))).size then(aP,2)else(ofL (bS [32] (bs (wO o [B] o.tags.length))),0):=by
  by_cases he:k=o.refs.length
  ·have hHd:(dW o.kind).data.toList++32::(o.id.data.toList++([B]:List ByteArray).flatMap fun s=>32::s.data.toList)=jP o:=by
    rw [jP,aIp hk,hB,hS,he,List.take_length];simp [ofL]
   rw [TU hHd];exact hT
  have hbig:20000 < S.size:=by rcases hend with h|h;exact absurd h he;exact h
  have h1:=congrArg List.length (TT o [B]);rw [bC] at h1;have h2:(o9 o).size=(m7 o).length:=by rw [← bC];rfl
  have h3:=LN o.refs k;have h4:S.size=(bS [32] (bs (o.refs.take k))).length:=by rw [hS,dL]
  have h5:(m7 o).length≥(bS [32] (bs o.refs)).length:=by
   rw [m7,jP,aIp hk];simp only [aIs,aIt];omega
  have h6:([B]:List ByteArray).flatMap (fun s=>32::s.data.toList)=32::B.data.toList:=by simp
  rw [h6] at h1;simp only [aIs,aIt,bC] at h1;rw [hT,aIq (by omega),aIq (by omega)]
 refine aZ<|Rg<|Dd aD<|Dd aD<|Dd (by exact cP rfl rfl rfl (by omega) rfl)<|Dd (by exact cP rfl rfl rfl (by omega) hB.symm)<|Dd (by exact aT [encStr B] rfl cC rfl rfl rfl rfl rfl (by intro r hr;rw [aIu] at hr;subst hr;rfl))<|Dd (by exact c6 (ps:=[encStr B]) rfl cC E4 rfl rfl rfl rfl rfl rfl rfl (by intro r hr;rw [aIu] at hr;subst hr;rfl) (m:=1) rfl (by omega) rfl (rfl:_=G9 (wO o [B] 0)))<|Dd aO<|Zz<|Sq<|Sr<|Dd aO<|Zz<|aF ?_;have hMs2:dH ([dW o.kind,o.id]++[B])≤70000:=by rw [yH];have:dH [dW o.kind,o.id]=(dW o.kind).size+(o.id.size+0):=(by rw [cL,cL];rfl);omega
 have hWl:∀ k,k≤o.tags.length→(wO o [B] k).length≤64:=fun k hk=>by rw [wO,aIs,aIs,aIr,aJF];show 2+_+_≤_;omega
 have hWs:∀ k,dH (wO o [B] k)≤100000:=fun k=>by
  rw [wO,yH];have h1:=hTs k;omega
 refine bG (σ:=Nat) (fun k=>([(1,.ref 1 0 0 0),(4,.osl 901 (1+k) 0 (wO o [B] k).length),(7,iv (k:Int))],[(901,⟨1+k,1,9,G9 (wO o [B] k)⟩),(1,oBx o)])) (fun k=>k≤o.tags.length) (fun k=>o.tags.length - k) 0 (aJI _) ?_ ?_
 ·exact(cY.wk (Ea<|Ea<|Eb<|trivial) (Hc (jO _ _)<|Hb<|trivial) trivial)
 rintro k hk;have hwl:=hWl k hk;refine Sq<|Sr<|Dd aD<|Dd (bH e9)<|Dd (cA cU)<|Dd (fK cK)<|Dd dD<|Zz ?_;refine Cn ?_ ?_<;>intro hc9
 ·have hlt:k < o.tags.length:=by have:=aIn hc9;omega
  obtain ⟨t,ht⟩:=aX hlt;have hit:=bZ (f:=aQ) ht;have hnx:=TS (M:=[B]) ht;have hnl:(wO o [B] k++[gF t]).length=(wO o [B] k).length+1:=by rw [aIs];rfl
  obtain ⟨hks,hvs⟩:=hTb t (aJB ht);have hq:=m6 t.val;have h61:(⟨#[61]⟩:ByteArray).size=1:=rfl;have hk1:(t.key++(⟨#[61]⟩:ByteArray)).size=t.key.size+1:=sW _ _;refine aB<|Sq<|aF<|aU follows<|Cs (fun _ _=>aD)<|Cs (fun _ h=>fh e9 h)<|Cs (fun _ h=>lh cU h)<|Cs (fun _ _=>aD)<|Cs (fun _ _=>(e8 lJ))<|Cs (fun _ _=>(wB jD))<|Cs (fun _ _=>(fM isAgg9))<|Cs (fun H1 hH=>by exact cP rfl rfl rfl (by omega) rfl)<|Cs (fun _ h=>fh e9 h)<|Cs (fun _ h=>lh cU h)<|Cs (fun _ _=>aD)<|Cs (fun _ _=>(e8 lJ))<|Cs (fun _ _=>(wB kU))<|Cs (fun _ _=>(fM isAgg9))<|Cs (fun H1 hH=>by exact aA rfl rfl aIa rfl (DM t.val _ (by omega)))<|Cs (fun H1 hH=>by exact cP rfl rfl rfl (by omega) rfl)<|Cs (fun H1 hH=>by exact aT [encStr (gF t)] rfl cC rfl rfl rfl rfl rfl (by intro r hr;rw [aIu] at hr;subst hr;rfl)) ?_;refine bT (r:=⟨_,none,[_]⟩) (DStep.plain rfl (fun H1 hH=>by exact c6 (ps:=[encStr (gF t)]) rfl cC E4 rfl ((hH _ rfl).trans rfl) rfl rfl rfl (MP _) rfl (by intro r hr;rw [aIu] at hr;subst hr;rfl) (m:=1) rfl (by omega) rfl (MR _ (gF t)))) rfl ?_;refine Cs (fun _ _=>aO)<|bM<|Kr<|Rg<|Dd aD<|Dd eL<|Da ?_;refine⟨k+1,by omega,by omega,?_⟩;rw [hnx,hnl];exact(cY.wk (Ea<|Ea<|Eb<|trivial) (Hc (jO _ _)<|Hb<|trivial) trivial)
 have hge:k=o.tags.length:=by have:=aIo hc9;omega
 subst hge;obtain ⟨W,hW⟩:∃ W,W=wO o [B] o.tags.length:=⟨_,rfl⟩;have hWs2:=hWs o.tags.length;rw [← hW] at hwl hWs2 hFT;rw [← hW];obtain ⟨F,hF⟩:∃ F,F=ofL (bS [32] (bs W)):=⟨_,rfl⟩;rw [← hF] at hFT;refine aZ<|Sr<|Dd aO<|Zz<|Sq<|Sr<|Dd aO<|Zz<|aF ?_;refine bG (σ:=Nat) (fun k=>([(4,.osl 901 (1+o.tags.length) 0 W.length),(8,sv (ofL (bS [32] (bs (W.take k))))),(9,iv (k:Int))],[(901,⟨1+o.tags.length,1,9,G9 W⟩)])) (fun k=>k≤W.length) (fun k=>W.length - k) 0 (aJI _) ?_ ?_
 ·exact(cY.wk (Ea<|Eb<|Eb<|trivial) (Hc (jO _ _)<|trivial) trivial)
 rintro k hk;have hsz:(ofL (bS [32] (bs (W.take k)))).size≤100064:=by
  rw [dL];have h1:=fC (W.take k);have h2:=kZ W k;have h3:(W.take k).length≤W.length:=by rw [aJF];exact Nat.min_le_right _ _
  omega
 refine Sq<|Sr<|Dd aD<|Dd aD<|Dd (by exact dV rfl aK rfl rfl rfl)<|Dd dD<|Zz ?_;refine Cn ?_ ?_<;>intro hc10
 ·have hlt:k < W.length:=by have:=aIn hc10;omega
  obtain ⟨w,hw⟩:=aX hlt;have hiw:=MQ hw;have hnx:=uU hw;have hws:w.size≤100000:=by
   have h1:=rT hw;have h2:=kZ W (k+1);omega
  have h32:(⟨#[32]⟩:ByteArray).size=1:=rfl;have hs2:(ofL (bS [32] (bs (W.take k)))++⟨#[32]⟩).size=(ofL (bS [32] (bs (W.take k)))).size+1:=sW _ _;refine aB<|Sq<|aF<|Sq<|Sr<|Dd aD<|Dd kC<|Zz ?_;refine Cn ?_ ?_<;>intro hc11
  ·have hq:0 < k:=by have:=aIn hc11;omega
   rw [aIq hq] at hnx;refine Rg<|Dd aD<|Dd (by exact cP rfl rfl rfl (by omega) rfl)<|Dd aO<|Zz<|Rg<|Dd aD<|Dd aD<|Dd aD<|Dd (by exact cG rfl cC rfl rfl rfl rfl rfl (by omega) (by exact aJC _) hlt (aJJ _))<|Dd (by exact aR rfl isAgg9 rfl rfl rfl hiw rfl)<|Dd (by exact cP rfl rfl rfl (by omega) rfl)<|Dd aO<|Zz<|Rg<|Dd aD<|Dd eL<|Da ?_;refine⟨k+1,by omega,by omega,?_⟩;rw [hnx];exact(cY.wk (Ea<|Eb<|Eb<|trivial) (Hc (jO _ _)<|trivial) trivial)
  have hq:¬ 0 < k:=by have:=aIo hc11;omega
  rw [aIp hq] at hnx;refine aB<|Rg<|Dd aD<|Dd aD<|Dd aD<|Dd (by exact cG rfl cC rfl rfl rfl rfl rfl (by omega) (by exact aJC _) hlt (aJJ _))<|Dd (by exact aR rfl isAgg9 rfl rfl rfl hiw rfl)<|Dd (by exact cP rfl rfl rfl (by omega) rfl)<|Dd aO<|Zz<|Rg<|Dd aD<|Dd eL<|Da ?_;refine⟨k+1,by omega,by omega,?_⟩;rw [hnx];exact(cY.wk (Ea<|Eb<|Eb<|trivial) (Hc (jO _ _)<|trivial) trivial)
 have hge:k=W.length:=by have:=aIo hc10;omega
 subst hge;rw [List.take_length,← hF];refine aZ<|Sq<|Sr<|Dd aD<|Dd (jJ underlying9)<|Dd kC<|Zz ?_;refine Cn ?_ ?_<;>intro hc12
 ·have hbig:20000 < F.size:=by have:=aIn hc12;omega
  rw [hFT,aIq hbig];exact Sr<|Dd aO<|Dd aO<|Zz<|aC<|Ru<|Qq
 have hbig:¬ 20000 < F.size:=by have:=aIo hc12;omega
 rw [hFT,aIp hbig];exact aB<|Sr<|Dd aD<|Dd aO<|Dd aO<|Zz<|aC<|Ru<|Qq
theorem YV (ws:List ByteArray) (H:aE) (id g:Nat) (hH:H.get id=some ⟨g,1,9,G9 ws⟩) (hb:dH ws+ws.length < 1099511627776):aH Tryz.prog 74 [.osl id g 0 ws.length] H (fun r H'=>r=sv (ofL (bS [32] (bs ws)))∧H'=H):=by
 refine Bd func74 rfl ntmps74<|Sr<|Dd aO<|Zz<|Sr<|Dd aO<|Zz<|Sq<|Sr<|Dd aO<|Zz<|aF ?_;refine bG (σ:=Nat) (fun k=>([(0,.osl id g 0 ws.length),(3,sv (ofL (bS [32] (bs (ws.take k))))),(4,iv (k:Int))],H)) (fun k=>k≤ws.length) (fun k=>ws.length - k) 0 (aJI _) ?_ ?_
 ·exact E0
 rintro k hk;have hsz:(ofL (bS [32] (bs (ws.take k)))).size≤dH ws+ws.length:=by
  rw [dL];have h1:=fC (ws.take k);have h2:=kZ ws k;have h3:(ws.take k).length≤ws.length:=by rw [aJF];exact Nat.min_le_right _ _
  omega
 refine Sq<|Sr<|Dd aD<|Dd aD<|Dd (by exact dV rfl aK rfl hH rfl)<|Dd dD<|Zz ?_;refine Cn ?_ ?_<;>intro hc1
 ·have hlt:k < ws.length:=by have:=aIn hc1;omega
  obtain ⟨w,hw⟩:=aX hlt;have hiw:=MQ hw;have hnx:=uU hw;have hws:w.size≤dH ws:=by
   have h1:=rT hw;have h2:=kZ ws (k+1);omega
  have h32:(⟨#[32]⟩:ByteArray).size=1:=rfl;have hs2:(ofL (bS [32] (bs (ws.take k)))++⟨#[32]⟩).size=(ofL (bS [32] (bs (ws.take k)))).size+1:=sW _ _;refine aB<|Sq<|aF<|Sq<|Sr<|Dd aD<|Dd kC<|Zz ?_;refine Cn ?_ ?_<;>intro hc2
  ·have hq:0 < k:=by have:=aIn hc2;omega
   rw [aIq hq] at hnx;refine Rg<|Dd aD<|Dd (by exact cP rfl rfl rfl (by omega) rfl)<|Dd aO<|Zz<|Rg<|Dd aD<|Dd aD<|Dd aD<|Dd (by exact cG rfl cC rfl hH rfl rfl rfl (by omega) (by exact aJC _) hlt (aJJ _))<|Dd (by exact aR rfl isAgg9 rfl hH rfl hiw rfl)<|Dd (by exact cP rfl rfl rfl (by omega) rfl)<|Dd aO<|Zz<|Rg<|Dd aD<|Dd eL<|Da ?_;refine⟨k+1,by omega,by omega,?_⟩;rw [hnx];exact E0
  have hq:¬ 0 < k:=by have:=aIo hc2;omega
  rw [aIp hq] at hnx;refine aB<|Rg<|Dd aD<|Dd aD<|Dd aD<|Dd (by exact cG rfl cC rfl hH rfl rfl rfl (by omega) (by exact aJC _) hlt (aJJ _))<|Dd (by exact aR rfl isAgg9 rfl hH rfl hiw rfl)<|Dd (by exact cP rfl rfl rfl (by omega) rfl)<|Dd aO<|Zz<|Rg<|Dd aD<|Dd eL<|Da ?_;refine⟨k+1,by omega,by omega,?_⟩;rw [hnx];exact E0
 have hge:k=ws.length:=by have:=aIo hc1;omega
 subst hge;rw [List.take_length];refine aZ<|Sr<|Dd aD<|Dd aO<|Zz<|aC ?_;refine cZ (H':=H) (.inr rfl) rfl (aN rfl) Fin.refl ?_;exact Qq
theorem KD {e:GEdit} {ws:List ByteArray} (h1:e.op≠1) (h:bs ws=fL e):ofL (bS [32] (bs ws))++⟨#[10]⟩=ofL (eA e++[10]):=r7 h1 h
theorem aCz (e:GEdit) (H:aE) (he:tQ e) (hv:dA e=true):aH Tryz.prog 36 [av (aJ e)] H (fun r H'=>r=.tup [sv (ofL (eA e++[10])),bv (decide (fA e=0))]∧H'=H):=by
 refine Pu ?_;obtain ⟨⟨o1,o2⟩,o3,o4⟩:=nB.1 hv;rw [lU] at o3;have hval:=wA hv;have hs0:dH []=0:=rfl;refine Bd func36 rfl ntmps36<|Sr<|Dd (by exact cE (id:=1) rfl rfl rfl rfl rfl)<|Dd aO<|Dd aO<|Zz<|Sq<|Sr<|Dd (bH fG)<|Dd (cA isAgg3)<|Zz<|aF<|Sr<|Dd cI<|Da ?_;refine Cn ?_ ?_<;>intro hc1
 ·have h1:e.op=1:=aIn hc1;have hos:=DQ (o:=e.obj);have h3:(⟨#[112,117,116]⟩:ByteArray).size=3:=rfl;have h10:(⟨#[10]⟩:ByteArray).size=1:=rfl;have hjs:(ofL (bS [32] (bs [⟨#[112,117,116]⟩,(eB e.obj).1]))).size≤70000:=by
   rw [dL];have:=fC [⟨#[112,117,116]⟩,(eB e.obj).1];simp only [cL,aIt,List.length_nil] at this;omega
  have hout:ofL (bS [32] (bs [⟨#[112,117,116]⟩,(eB e.obj).1]))++⟨#[10]⟩=ofL (eA e++[10]):=S4 (by
   rw [eI,eA,aIq h1];simp [ofL,bs,bS,wPut])
  refine Sr<|Dd (bH iR)<|Dd (by exact aI rfl aY sizeOf49 rfl rfl rfl rfl (by simp only [Zl,aQ,aG,encStr,aJ,encInt];rfl) rfl)<|Dd (by exact aA rfl rfl aCT rfl (vR e.obj _ he.2.2))<|Dd aD<|Dd eZ<|Dd eZ<|Dd aO<|Dd aO<|Zz<|Sr<|Dd aD<|Dd (by exact aT [encStr ⟨#[112,117,116]⟩,encStr (eB e.obj).1] rfl cC rfl rfl rfl rfl rfl (iW [⟨#[112,117,116]⟩,(eB e.obj).1]))<|Dd (by exact aA rfl rfl wX rfl (yA [⟨#[112,117,116]⟩,(eB e.obj).1] _ (by simp only [cL,aIt,List.length_nil];omega)))<|Dd (by exact cP rfl rfl rfl (by omega) hout)<|Dd aD<|Dd cI<|Dd aO<|Dd aO<|Zz<|aC<|Ru ?_;rw [show fA e=(eB e.obj).2 from aIq h1];exact Qq
 have h1:e.op≠1:=aIo hc1;rw [aIp h1,aJA] at o3;obtain ⟨o5,o6⟩:=o3;have hid:=dK o5;refine Sr<|Dd cI<|Da ?_;refine Cn ?_ ?_<;>intro hc2
 ·have h2:e.op=2:=aIn hc2;rw [aIq h2,onP,aJA,aIy,aIy] at o6;have hx:0≤e.x∧e.x < 1048576:=by omega
  have hy:0≤e.y∧e.y < 1048576:=by omega
  have six:(cR e.x).size≤7:=by rw [← bC];show (Lib.itoa e.x).length≤7;rw [iG _ hx.1];exact eM (by omega) (by decide)
  have siy:(cR e.y).size≤7:=by rw [← bC];show (Lib.itoa e.y).length≤7;rw [iG _ hy.1];exact eM (by omega) (by decide)
  have hw0:(⟨#[109,111,118,101]⟩:ByteArray).size=4:=rfl;have hw:bs [⟨#[109,111,118,101]⟩,e.id,cR e.x,cR e.y]=fL e:=by
   rw [fL]
   (rw [aIq h2];rfl)
  have hne:e.op≠1:=by omega
  have hjs:(ofL (bS [32] (bs [⟨#[109,111,118,101]⟩,e.id,cR e.x,cR e.y]))).size≤70000:=by
   rw [dL];have:=fC [⟨#[109,111,118,101]⟩,e.id,cR e.x,cR e.y];simp only [cL,aIt,List.length_nil] at this;omega
  have h10:(⟨#[10]⟩:ByteArray).size=1:=rfl;refine Sq<|aU follows<|Cq (bH eX)<|Cq (cA isAgg9)<|Cq (bH iS)<|Cq (bH qL)<|Cq (cA isAgg3)<|Cq (by exact aA rfl rfl C1 rfl (FY e.x _ (by omega) (by omega)))<|Cq (bH iS)<|Cq (bH qK)<|Cq (cA isAgg3)<|Cq (by exact aA rfl rfl C1 rfl (FY e.y _ (by omega) (by omega)))<|Cq (by exact aT (([⟨#[109,111,118,101]⟩,e.id,cR e.x,cR e.y]:List ByteArray).map encStr) rfl cC rfl rfl rfl rfl rfl (iW _))<|Cq (by exact aA rfl rfl wX rfl (yA [⟨#[109,111,118,101]⟩,e.id,cR e.x,cR e.y] _ (by simp only [cL,aIt,List.length_nil];omega)))<|Cq (by exact cP rfl rfl rfl (by omega) rfl)<|Cq aO<|Cq aO<|bM<|Kr<|aC<|Ru ?_;rw [KD hne hw,show fA e=0 from aIp hne];exact Qq
 have h2:e.op≠2:=aIo hc2;rw [aIp h2] at o6;refine Sr<|Dd cI<|Da ?_;refine Cn ?_ ?_<;>intro hc3
 ·have h3:e.op=3:=aIn hc3;rw [aIq h3,aJA,aIy] at o6;have hks:=dK o6.1;have hq:=m6 e.val;have hw0:(⟨#[116,97,103]⟩:ByteArray).size=3:=rfl;have hw:bs [⟨#[116,97,103]⟩,e.id,e.key,⟨(dE e.val.data.toList).toArray⟩]=fL e:=by
   rw [fL]
   (rw [aIp h2,aIq h3];rfl)
  have hne:e.op≠1:=by omega
  have hjs:(ofL (bS [32] (bs [⟨#[116,97,103]⟩,e.id,e.key,⟨(dE e.val.data.toList).toArray⟩]))).size≤70000:=by
   rw [dL];have:=fC [⟨#[116,97,103]⟩,e.id,e.key,⟨(dE e.val.data.toList).toArray⟩];simp only [cL,aIt,List.length_nil] at this;omega
  have h10:(⟨#[10]⟩:ByteArray).size=1:=rfl;refine Sq<|aU follows<|Cq (bH eX)<|Cq (cA isAgg9)<|Cq (bH lA)<|Cq (cA isAgg9)<|Cq (bH lX)<|Cq (cA isAgg9)<|Cq (by exact aA rfl rfl aIa rfl (DM e.val _ (by omega)))<|Cq (by exact aT (([⟨#[116,97,103]⟩,e.id,e.key,⟨(dE e.val.data.toList).toArray⟩]:List ByteArray).map encStr) rfl cC rfl rfl rfl rfl rfl (iW _))<|Cq (by exact aA rfl rfl wX rfl (yA [⟨#[116,97,103]⟩,e.id,e.key,⟨(dE e.val.data.toList).toArray⟩] _ (by simp only [cL,aIt,List.length_nil];omega)))<|Cq (by exact cP rfl rfl rfl (by omega) rfl)<|Cq aO<|Cq aO<|bM<|Kr<|aC<|Ru ?_;rw [KD hne hw,show fA e=0 from aIp hne];exact Qq
 have h3:e.op≠3:=aIo hc3;rw [aIp h3] at o6;refine Sr<|Dd cI<|Da ?_;refine Cn ?_ ?_<;>intro hc4
 ·have h4:e.op=4:=aIn hc4;rw [aIq h4,aJA,aJA,aIy,aIy,List.all_eq_true] at o6;obtain ⟨⟨r1,r2⟩,r3⟩:=o6;have hrs:dH e.refs≤24*e.refs.length:=lQ (fun s hs=>dK (r3 s hs));have hw0:(⟨#[114,101,102,115]⟩:ByteArray).size=4:=rfl;have hwd:∀ H,H.get 901=some ⟨1,1,9,G9 (⟨#[114,101,102,115]⟩::e.id::e.refs)⟩→aH Tryz.prog 74 [.osl 901 1 0 (⟨#[114,101,102,115]⟩::e.id::e.refs).length] H (fun r H'=>r=sv (ofL (bS [32] (bs (⟨#[114,101,102,115]⟩::e.id::e.refs))))∧H'=H):=fun H hH=>YV _ H 901 1 hH (by simp only [cL,aIt];omega);have hw:bs (⟨#[114,101,102,115]⟩::e.id::e.refs)=fL e:=by rw [fL,aIp h2,aIp h3,aIq h4];rfl
  have hjs:(ofL (bS [32] (bs (⟨#[114,101,102,115]⟩::e.id::e.refs)))).size≤70000:=by
   rw [dL];have:=fC (⟨#[114,101,102,115]⟩::e.id::e.refs);simp only [cL,aIt] at this;omega
  have h10:(⟨#[10]⟩:ByteArray).size=1:=rfl;have hmr:(e.refs.map encStr).length=e.refs.length:=aIr _;have hrw:G9 [⟨#[114,101,102,115]⟩,e.id]++(e.refs.map encStr).map (·.map .pv)=G9 (⟨#[114,101,102,115]⟩::e.id::e.refs):=by rw [← Z7];rfl
  refine Sr<|Dd (bH eX)<|Dd (cA isAgg9)<|Dd (by exact eN (id:=901) rfl cC rfl rfl rfl rfl (by intro r hr;simp only [aJD,aJH,or_false] at hr;rcases hr with rfl|rfl<;>rfl) rfl)<|Dd (bH gA)<|Dd (cA aV)<|Dd (by exact c6 (ps:=e.refs.map encStr) rfl cC E4 rfl rfl rfl rfl rfl rfl rfl (iW e.refs) (m:=e.refs.length) hmr (by omega) (Nat.add_comm 2 _:2+e.refs.length=(⟨#[114,101,102,115]⟩::e.id::e.refs).length) hrw)<|Dd (by exact aA rfl rfl wX rfl (hwd _ rfl))<|Dd (by exact cP rfl rfl rfl (by omega) rfl)<|Dd aO<|Dd aO<|Zz<|aC<|Ru ?_;rw [KD h1 hw,show fA e=0 from aIp h1];exact Qq
 have h4:e.op≠4:=aIo hc4;rw [aIp h4] at o6;refine Sr<|Dd cI<|Da ?_;refine Cn ?_ ?_<;>intro hc5
 ·have h5:e.op=5:=aIn hc5;have hw0:(⟨#[100,114,111,112]⟩:ByteArray).size=4:=rfl;have hw:bs [⟨#[100,114,111,112]⟩,e.id]=fL e:=by
   rw [fL]
   (rw [aIp h2,aIp h3,aIp h4,aIq h5];rfl)
  have hne:e.op≠1:=by omega
  have hjs:(ofL (bS [32] (bs [⟨#[100,114,111,112]⟩,e.id]))).size≤70000:=by
   rw [dL];have:=fC [⟨#[100,114,111,112]⟩,e.id];simp only [cL,aIt,List.length_nil] at this;omega
  have h10:(⟨#[10]⟩:ByteArray).size=1:=rfl;refine Sr<|Dd (bH eX)<|Dd (cA isAgg9)<|Dd (by exact aT (([⟨#[100,114,111,112]⟩,e.id]:List ByteArray).map encStr) rfl cC rfl rfl rfl rfl rfl (iW _))<|Dd (by exact aA rfl rfl wX rfl (yA [⟨#[100,114,111,112]⟩,e.id] _ (by simp only [cL,aIt,List.length_nil];omega)))<|Dd (by exact cP rfl rfl rfl (by omega) rfl)<|Dd aO<|Dd aO<|Zz<|aC<|Ru ?_;rw [KD hne hw,show fA e=0 from aIp hne];exact Qq
 have h5:e.op≠5:=aIo hc5;rw [aIp h5] at o6;refine Sr<|Dd cI<|Da ?_;refine Cn ?_ ?_<;>intro hc6
 ·have h6:e.op=6:=aIn hc6;rw [aIq h6,aJA] at o6;have hns:=dK o6.1;have hos:=dK o6.2;have hw0:(⟨#[115,112,108,105,116]⟩:ByteArray).size=5:=rfl;have hw:bs [⟨#[115,112,108,105,116]⟩,e.id,e.node,e.other]=fL e:=by
   rw [fL]
   (rw [aIp h2,aIp h3,aIp h4,aIp h5,aIq h6];rfl)
  have hne:e.op≠1:=by omega
  have hjs:(ofL (bS [32] (bs [⟨#[115,112,108,105,116]⟩,e.id,e.node,e.other]))).size≤70000:=by
   rw [dL];have:=fC [⟨#[115,112,108,105,116]⟩,e.id,e.node,e.other];simp only [cL,aIt,List.length_nil] at this;omega
  have h10:(⟨#[10]⟩:ByteArray).size=1:=rfl;refine Sr<|Dd (bH eX)<|Dd (cA isAgg9)<|Dd (bH lY)<|Dd (cA isAgg9)<|Dd (bH fR)<|Dd (cA isAgg9)<|Dd (by exact aT (([⟨#[115,112,108,105,116]⟩,e.id,e.node,e.other]:List ByteArray).map encStr) rfl cC rfl rfl rfl rfl rfl (iW _))<|Dd (by exact aA rfl rfl wX rfl (yA [⟨#[115,112,108,105,116]⟩,e.id,e.node,e.other] _ (by simp only [cL,aIt,List.length_nil];omega)))<|Dd (by exact cP rfl rfl rfl (by omega) rfl)<|Dd aO<|Dd aO<|Zz<|aC<|Ru ?_;rw [KD hne hw,show fA e=0 from aIp hne];exact Qq
 have h6:e.op≠6:=aIo hc6;rw [aIp h6] at o6;have hos:=dK o6;have hw0:(⟨#[106,111,105,110]⟩:ByteArray).size=4:=rfl;have hw:bs [⟨#[106,111,105,110]⟩,e.id,e.other]=fL e:=by
  rw [fL]
  (rw [aIp h2,aIp h3,aIp h4,aIp h5,aIp h6];rfl)
 have hne:e.op≠1:=by omega
 have hjs:(ofL (bS [32] (bs [⟨#[106,111,105,110]⟩,e.id,e.other]))).size≤70000:=by
  rw [dL];have:=fC [⟨#[106,111,105,110]⟩,e.id,e.other];simp only [cL,aIt,List.length_nil] at this;omega
 have h10:(⟨#[10]⟩:ByteArray).size=1:=rfl;refine aB<|Sr<|Dd (bH eX)<|Dd (cA isAgg9)<|Dd (bH fR)<|Dd (cA isAgg9)<|Dd (by exact aT (([⟨#[106,111,105,110]⟩,e.id,e.other]:List ByteArray).map encStr) rfl cC rfl rfl rfl rfl rfl (iW _))<|Dd (by exact aA rfl rfl wX rfl (yA [⟨#[106,111,105,110]⟩,e.id,e.other] _ (by simp only [cL,aIt,List.length_nil];omega)))<|Dd (by exact cP rfl rfl rfl (by omega) rfl)<|Dd aO<|Dd aO<|Zz<|aC<|Ru ?_;rw [KD hne hw,show fA e=0 from aIp hne];exact Qq
theorem O8 (l:List GEdit) (H:aE) (hl:l.length < 1099511627776) (he:∀ e∈l,tQ e) (hr:∀ e∈l,e.refs.length < 1099511627776):aH Tryz.prog 12 [.pv (cD l)] H (fun r H'=>r=.tup [sv (eJ l).1,iv (eJ l).2]∧H'=H):=by
 refine Pu ?_;have hml:(l.map aJ).length=l.length:=aIr _;refine Bd func12 rfl ntmps12<|Sr<|Dd aO<|Dd aO<|Zz<|Sq<|Sr<|Dd aD<|Dd (by exact aA rfl rfl aIg rfl (DL l _ hl he hr))<|Dd jU<|Zz ?_;refine Cn ?_ ?_<;>intro hc1
 ·have hg:eW l=false:=by have h:=hc1;rwa [aJK] at h
  rw [show eJ l=(aP,1)by rw [eJ,hg];rfl];exact Sr<|Dd aO<|Dd aO<|Zz<|aC<|Ru<|Qq
 have hg:eW l=true:=by have h:=hc1;rwa [Bool.not_eq_false'] at h
 have hv:=(qC hg).2.2;have hT:eJ l=(ofL (nF [] l).1,(nF [] l).2):=by rw [eJ,hg];rfl
 refine aB<|Sr<|Dd aO<|Zz<|Sq<|Sr<|Dd aO<|Zz<|aF ?_;refine bG (σ:=Nat) (fun k=>([(0,.pv (cD l)),(4,sv (ofL (mE l k))),(5,iv (k:Int))],[])) (fun k=>k≤l.length∧nF [] l=nF (mE l k) (l.drop k)∧(mE l k).length≤20000) (fun k=>l.length - k) 0 ⟨aJI _,rfl,aJI _⟩ ?_ ?_
 ·exact Wk
 rintro k ⟨hk,hF,hA⟩;refine Sq<|Sr<|Dd aD<|Dd aD<|Dd (fK cB)<|Dd dD<|Zz ?_;refine Cn ?_ ?_<;>intro hc2
 ·have hlt:k < l.length:=by have:=aIn hc2;omega
  obtain ⟨e,hke⟩:=aX hlt;have hi:=bZ (f:=aJ) hke;have hem:=aJB hke;have hnx:=L9 hke;have hYl:=LM (hv e hem);have hdr:l.drop k=e::l.drop (k+1):=by
   rw [List.drop_eq_getElem_cons hlt];rw [aIw hlt] at hke;cases hke;rfl
  rw [hdr,nF] at hF;have hsA:(ofL (mE l k)).size=(mE l k).length:=dL _;have hsz:(ofL (eA e++[10])).size=(eA e).length+1:=by rw [dL,aIs];rfl
  have hjo:ofL (mE l k)++ofL (eA e++[10])=ofL (mE l (k+1)):=S4 (by
   rw [show (ofL (mE l k)++ofL (eA e++[10])).data.toList=(ofL (mE l k)).data.toList++(ofL (eA e++[10])).data.toList by simp,eI,eI,eI,hnx])
  have hsB:(ofL (mE l (k+1))).size=(mE l (k+1)).length:=dL _;refine aB<|Sq<|aF<|Sr<|Dd aD<|Dd aD<|Dd (e8 lK)<|Dd (by exact bQ rfl bA aL rfl (by omega) (by simp only [Zl,aQ,aG,encStr,aJ,encInt];rfl) rfl)<|Dd (by exact aA rfl rfl call36 rfl (aCz e _ (he e hem) (hv e hem)))<|Dd aD<|Dd eZ<|Dd eZ<|Dd aO<|Dd aO<|Zz<|Sr<|Dd aD<|Dd aD<|Dd (by exact cP rfl rfl rfl (by omega) hjo)<|Dd aO<|Zz<|Sq ?_;refine bD (t:=34) (n:=8) (X:=!decide (fA e=0)||decide ((20000:Int) < ((ofL (mE l (k+1))).size:Int))) ?_ ?_
  ·all_goals refine Dd aD ?_
   all_goals refine Dd jU<|Dm ?_
   all_goals refine Sp 30 (fun h30=>?_) fun h30=>?_
   all_goals try contradiction
   all_goals first|refine Fo<|Fo<|Fo ?_|refine On aD<|On (jJ underlying9)<|On kC ?_
   all_goals refine Dd dI<|Zz ?_
   all_goals(exact⟨⟨_,rfl,by(simp only [*,Zo];done)⟩,rfl,rfl,rfl⟩)
  refine Cn ?_ ?_<;>intro hc3
  ·have hbad:fA e≠0∨20000 < (mE l k++(eA e++[10])).length:=by have h:=hc3;rw [← hnx];simp only [Bool.or_eq_true,aJK,aIz,aIy] at h;omega
   rw [aIq hbad] at hF;rw [hT,hF];exact Sr<|Dd aO<|Dd aO<|Zz<|aC<|Ru<|Qq
  have hfine:¬ (fA e≠0∨20000 < (mE l k++(eA e++[10])).length):=by have h:=hc3;rw [← hnx];simp only [aJN,Bool.not_eq_false',aIz,aIy] at h;omega
  rw [aIp hfine,← hnx] at hF;rw [← hnx] at hfine;refine aB<|Rg<|Dd aD<|Dd eL<|Da ?_;exact⟨k+1,⟨hlt,hF,by omega⟩,by omega,Wk⟩
 have hge:k=l.length:=by have:=aIo hc2;omega
 subst hge;rw [List.drop_length,nF] at hF;rw [hT,hF];exact aZ<|Sr<|Dd aD<|Dd aO<|Dd aO<|Zz<|aC<|Ru<|Qq
def YN (s:ByteArray) (k:Nat):Bool:=!(decide (bP s k < 48)||decide (57 < bP s k))
def MX (s:ByteArray):Nat→Int
 | 0=>0
 | k+1=>10*MX s k+(bP s k - 48)
def BR (s:ByteArray):Int:=if s.size=0 then -1 else if(List.range s.size).all (YN s)&&decide (s.size≤7)then MX s s.size else -1
theorem T6 {s:ByteArray}:∀ {k:Nat},(∀ j,j < k→YN s j=true)→0≤MX s k∧MX s k < 10 ^ k
 | 0,_=>⟨Int.le_refl 0,by show (0:Int) < 1;omega⟩
 | k+1,h=>by
  obtain ⟨h1,h2⟩:=T6 (s:=s) (k:=k) fun j hj=>h j (by omega);have h3:=h k (by omega);rw [YN,aJK,aJN,aIz,aIz] at h3;rw [MX,Int.pow_succ];omega
theorem aG6 {k:Nat} (h:k≤7):(10:Int) ^ k≤10000000:=by
 have h3:k=0∨k=1∨k=2∨k=3∨k=4∨k=5∨k=6∨k=7:=by omega
 rcases h3 with rfl|rfl|rfl|rfl|rfl|rfl|rfl|rfl<;>decide
theorem K0 (s:ByteArray) (H:aE) (hs:s.size < 1099511627776):aH Tryz.prog 87 [sv s] H (fun r H'=>r=iv (BR s)∧H'=H):=by
 refine Pu ?_;refine Bd func87 rfl ntmps87<|Sr<|Dd aO<|Zz<|Sr<|Dd aO<|Zz<|Sq<|Sr<|Dd aO<|Zz<|aF ?_;refine bG (σ:=Nat) (fun k=>([(0,sv s),(3,iv (MX s k)),(4,iv (k:Int))],[])) (fun k=>k≤s.size∧(∀ j,j < k→YN s j=true)∧(0 < k→s.size≤7)) (fun k=>s.size - k) 0 ⟨aJI _,fun j hj=>absurd hj (Nat.not_lt_zero _),fun h=>absurd h (Nat.lt_irrefl 0)⟩ ?_ ?_
 ·exact Wk
 rintro k ⟨hk,hd,h7⟩;refine Sq<|Sr<|Dd aD<|Dd aD<|Dd (jJ underlying9)<|Dd dD<|Zz ?_;refine Cn ?_ ?_<;>intro hc1
 ·have hlt:k < s.size:=by have:=aIn hc1;omega
  refine aB<|Sq<|aF<|Sq<|Sq ?_;refine bD (t:=25) (n:=17) (X:=(decide (bP s k < 48)||decide (57 < bP s k))||decide (7 < (s.size:Int))) ?_ ?_
  ·all_goals refine Dd aD ?_
   all_goals refine Dd aD<|Dd (by exact cF rfl underlying9 rfl rfl (by omega) (by exact aJC _) (by omega) rfl)<|Dd dD<|Dm ?_
   all_goals refine Sp 15 (fun h15=>?_) fun h15=>?_
   all_goals try contradiction
   all_goals first|refine Fo<|Fo<|Fo<|Fo ?_|refine On aD<|On aD<|On (by exact cF rfl underlying9 rfl rfl (by omega) (by exact aJC _) (by omega) rfl)<|On kC ?_
   all_goals refine Dd dI<|Dm ?_
   all_goals refine Sp 21 (fun h21=>?_) fun h21=>?_
   all_goals try contradiction
   all_goals first|refine Fo<|Fo<|Fo ?_|refine On aD<|On (jJ underlying9)<|On kC ?_
   all_goals refine Dd dI<|Zz ?_
   all_goals(exact⟨⟨_,rfl,by first|(rw [h15];rfl)|(rw [h15,h21];rfl)⟩,rfl,rfl,rfl⟩)
  refine Cn ?_ ?_<;>intro hc2
  ·have hbad:YN s k=false∨7 < s.size:=by have h:=hc2;rw [YN];simp only [Bool.or_eq_true,aIy] at h;rcases h with h|h;exact .inl (by simp only [Bool.not_eq_false',Bool.or_eq_true,aIy];exact h);exact .inr (by omega)
   have hr:BR s = -1:=by
    rw [BR,aIp (by omega),aIp ?_];intro h;rw [aJA,List.all_eq_true,aIy] at h;rcases hbad with h1|h1
    ·have:=h.1 k (List.mem_range.2 hlt);rw [h1] at this;cases this
    omega
   rw [hr];exact Sr<|Dd aO<|Zz<|aC<|Rt<|Qq
  have hfine:YN s k=true∧s.size≤7:=by have h:=hc2;rw [aJN,aIz] at h;exact⟨by rw [YN,h.1];rfl,by omega⟩
  have hbd:=T6 hd;have hp:=aG6 (k:=k) (by omega);have hdk:=hfine.1;rw [YN,aJK,aJN,aIz,aIz] at hdk;have hdn:∀ j,j < k+1→YN s j=true:=fun j hj=>by
   by_cases e:j=k
   ·subst e;exact hfine.1
   exact hd j (by omega)
  refine aB<|Rg<|Dd aD<|Dd (by exact F0 rfl rfl rfl (by exact OL (by omega) (by omega)))<|Dd aD<|Dd aD<|Dd (by exact cF rfl underlying9 rfl rfl (by omega) (by exact aJC _) (by omega) rfl)<|Dd (by exact gC rfl rfl rfl (by exact wu8 (by omega) (by omega)))<|Dd (by exact oA rfl qG underlying3 rfl (by exact OL (by omega) (by omega)))<|Dd eL<|Dd aO<|Zz<|Rg<|Dd aD<|Dd eL<|Da ?_;exact⟨k+1,⟨by omega,hdn,fun _=>hfine.2⟩,by omega,Wk⟩
 have hge:k=s.size:=by have:=aIo hc1;omega
 subst hge;refine aZ<|Sq<|Sr<|Dd aD<|Dd sQ<|Zz ?_;refine Cn ?_ ?_<;>intro hc3
 ·have h0:s=⟨#[]⟩:=aIn hc3;have hr:BR s = -1:=by rw [h0];rfl
  rw [hr];exact Sr<|Dd aO<|Zz<|aC<|Rt<|Qq
 have h0:s.size≠0:=fun e=>aIo hc3 (S4 (List.length_eq_zero_iff.1 (by rw [bC];exact e)));have hr:BR s=MX s s.size:=by
  rw [BR,aIp h0,aIq ?_];rw [aJA,List.all_eq_true,aIy];exact⟨fun j hj=>hd j (List.mem_range.1 hj),h7 (by omega)⟩
 rw [hr];exact aB<|Sr<|Dd aD<|Dd aO<|Zz<|aC<|Rt<|Qq
def BQ (s:ByteArray):Nat→Int
 | 0=>0
 | k+1=>10*BQ s k+IntKind.u8.wrap (bP s k - 48)
theorem aES (x:Int):0≤IntKind.u8.wrap x∧IntKind.u8.wrap x≤255:=by have:IntKind.u8.wrap x=x % 256:=rfl;rw [this];omega
theorem O7 (s:ByteArray):∀ k:Nat,k≤7→0≤BQ s k∧BQ s k+255≤255*10 ^ k
 | 0,_=>⟨Int.le_refl 0,by show (0:Int)+255≤255*1;omega⟩
 | k+1,h=>by
  obtain ⟨h1,h2⟩:=O7 s k (by omega);have h3:=aES (bP s k - 48);have h4:(1:Int)≤10 ^ k:=Int.pow_pos (by decide);rw [BQ,Int.pow_succ];omega
theorem HG (s:ByteArray) (H:aE) (hs:s.size < 1099511627776):aH Tryz.prog 137 [sv s] H (fun r H'=>r=iv (BQ s (min s.size 7))∧H'=H):=by
 refine Pu ?_;refine Bd func137 rfl ntmps137<|Sr<|Dd aO<|Zz<|Sr<|Dd aO<|Zz<|Sq<|Sr<|Dd aO<|Zz<|aF ?_;refine bG (σ:=Nat) (fun k=>([(0,sv s),(3,iv (BQ s k)),(4,iv (k:Int))],[])) (fun k=>k≤s.size∧k≤7) (fun k=>s.size - k) 0 ⟨aJI _,aJI _⟩ ?_ ?_
 ·exact Wk
 rintro k ⟨hk,h7⟩;refine Sq<|Sq ?_;refine bD (t:=12) (n:=9) (X:=decide ((k:Int) < (s.size:Int))&&decide ((k:Int) < 7)) ?_ ?_
 ·all_goals refine Dd aD ?_
  all_goals refine Dd aD<|Dd (jJ underlying9)<|Dd dD<|Dm ?_
  all_goals refine Sp 9 (fun h9=>?_) fun h9=>?_
  all_goals try contradiction
  all_goals first|refine Fo<|Fo ?_|refine On aD<|On dD ?_
  all_goals refine Dd dI<|Zz ?_
  all_goals(exact⟨⟨_,rfl,by(rw [h9];rfl)⟩,rfl,rfl,rfl⟩)
 refine Cn ?_ ?_<;>intro hc1
 ·have hlt:k < s.size∧k < 7:=by have h:=hc1;rw [aJA,aIy,aIy] at h;omega
  obtain ⟨hlt,hl7⟩:=hlt;have hbd:=O7 s k h7;have hp:=aG6 h7;have hw:=aES (bP s k - 48);refine aB<|Sq<|aF<|Rg<|Dd aD<|Dd (by exact F0 rfl rfl rfl (by exact OL (by omega) (by omega)))<|Dd aD<|Dd aD<|Dd (by exact cF rfl underlying9 rfl rfl (by omega) (by exact aJC _) (by omega) rfl)<|Dd (by exact gC rfl rfl rfl rfl)<|Dd (by exact oA rfl qG underlying3 rfl (by exact OL (by omega) (by omega)))<|Dd eL<|Dd aO<|Zz<|Rg<|Dd aD<|Dd eL<|Da ?_;exact⟨k+1,⟨by omega,by omega⟩,by omega,Wk⟩
 have hge:k=min s.size 7:=by have h:=hc1;rw [Bool.and_eq_false_iff,aIz,aIz] at h;omega
 refine aZ<|Sr<|Dd aD<|Dd aO<|Zz<|aC<|Rt ?_;exact⟨by rw [hge],rfl⟩
def RY (s:ByteArray) (f:Nat):List ByteArray:=(dO 32 (s.data.toList.drop f)).map ofL
theorem V4 (s:ByteArray):cN s=RY s 0:=rfl
theorem aB3 {s:ByteArray} {f i:Nat} (hf:f≤i) (hi:i < s.size):s.data.toList.drop f=(s.data.toList.drop f).take (i - f)++lH s i::s.data.toList.drop (i+1):=by
 have hl:=bC s;have h1:(s.data.toList.drop f).drop (i - f)=lH s i::s.data.toList.drop (i+1):=by
  rw [List.drop_drop,show f+(i - f)=i by omega,List.drop_eq_getElem_cons (by omega)];congr 1;rw [lH,aIw (by omega)];rfl
 rw [← h1,List.take_append_drop]
theorem aFD {s:ByteArray} {f i:Nat} (hf:f≤i) (hi:i < s.size) (hb:lH s i=32) (hno:(32:UInt8)∉(s.data.toList.drop f).take (i - f)):RY s f=ofL ((s.data.toList.drop f).take (i - f))::RY s (i+1):=by have h:=aB3 hf hi;rw [hb] at h;have h2:=congrArg (fun l=>(dO 32 l).map ofL) h;simp only [gR hno,List.map_cons] at h2;exact h2
theorem aCl {s:ByteArray} {f:Nat} (hno:(32:UInt8)∉s.data.toList.drop f):RY s f=[ofL (s.data.toList.drop f)]:=by rw [RY,nH hno];rfl
theorem aDP {s:ByteArray} {f i:Nat} (hf:f≤i) (hi:i < s.size) (hb:lH s i≠32) (hno:(32:UInt8)∉(s.data.toList.drop f).take (i - f)):(32:UInt8)∉(s.data.toList.drop f).take (i+1 - f):=by
 have hl:=bC s;rw [show i+1 - f=(i - f)+1 by omega,List.take_add_one,List.getElem?_drop,show f+(i - f)=i by omega,aIw (by omega)];intro h;rcases List.mem_append.1 h with h|h
 ·exact hno h
 rw [Option.toList_some,aIu] at h;exact hb (by rw [lH,aIw (by omega)];exact h.symm)
theorem aAF (s:ByteArray) (H:aE) (hs:s.size < 1000000000):aH Tryz.prog 85 [sv s] H (fun r H'=>r=.pv (cS (cN s))∧H'=H):=by
 refine Pu ?_;have hl:=bC s;refine Bd func85 rfl ntmps85<|Sr<|Dd aO<|Zz<|Sr<|Dd (by exact fI (id:=906) (sz:=1) (ty:=9) rfl rfl rfl)<|Zz<|Sr<|Dd aO<|Zz<|Sq<|Sr<|Dd aO<|Zz<|aF ?_;refine L5 (fun(i f:Nat) (out:List ByteArray)=>([(0,sv s),(3,.osl 906 out.length 0 out.length),(4,iv (f:Int)),(5,iv (i:Int))],[(906,⟨out.length,1,9,G9 out⟩)])) (fun i f out=>i≤s.size+1∧f≤i∧out.length≤i∧(i≤s.size→cN s=out++RY s f∧(32:UInt8)∉(s.data.toList.drop f).take (i - f))∧(i=s.size+1→cN s=out)) (fun i _ _=>s.size+1 - i) 0 0 [] ⟨by omega,aIx _,aIx _,fun _=>⟨V4 s,by simp⟩,fun h=>by omega⟩ ?_ ?_
 ·exact(cY.wk (Eb<|Ea<|Eb<|Eb<|trivial) (Hc (jO _ _)<|trivial) trivial)
 rintro i f out ⟨hi,hf,hol,hA,hB⟩;refine Sq<|Sr<|Dd aD<|Dd aD<|Dd (jJ underlying9)<|Dd JK<|Zz ?_;refine Cn ?_ ?_<;>intro hc1
 ·have hil:i≤s.size:=by have:=aIn hc1;omega
  obtain ⟨hA1,hno⟩:=hA hil;have hb32:bP s i=((lH s i).toNat:Int):=oO s i;refine aB<|Sq<|aF<|Sq ?_;refine bD (t:=21) (n:=11) (X:=decide ((i:Int)=(s.size:Int))||decide (bP s i=32)) ?_ ?_
  ·all_goals refine Dd aD ?_
   all_goals refine Dd aD<|Dd (jJ underlying9)<|Dd cI<|Dm ?_
   all_goals refine Sp 16 (fun h16=>?_) fun h16=>?_
   all_goals try contradiction
   all_goals first|refine Fo<|Fo<|Fo<|Fo ?_|refine On aD<|On aD<|On (by exact cF rfl underlying9 rfl rfl (by omega) (by exact aJC _) (by have:=aIo h16;omega) rfl)<|On cI ?_
   all_goals refine Dd dI<|Zz ?_
   all_goals(exact⟨⟨_,rfl,by(rw [h16];rfl)⟩,rfl,rfl,rfl⟩)
  refine Cn ?_ ?_<;>intro hc2
  ·have hq:i=s.size∨bP s i=32:=by have h:=hc2;rw [Bool.or_eq_true,aIy,aIy] at h;rcases h with h|h;exact .inl (by omega);exact .inr h
   obtain ⟨w,hw⟩:∃ w,w=ofL ((s.data.toList.drop f).take (i - f)):=⟨_,rfl⟩;have hx:s.extract f i=w:=by rw [hw];exact S4 (by rw [kV,eI])
   have hnl:(out++[w]).length=out.length+1:=by rw [aIs];rfl
   have hN:(i+1≤s.size→cN s=(out++[w])++RY s (i+1)∧(32:UInt8)∉(s.data.toList.drop (i+1)).take (i+1 - (i+1)))∧(i+1=s.size+1→cN s=out++[w]):=by
    constructor
    ·intro h;have hb:lH s i=32:=by
      rcases hq with e|e
      ·omega
      rw [hb32] at e;exact UInt8.toNat_inj.1 (by show (lH s i).toNat=32;omega)
     refine⟨?_,by rw [Nat.sub_self,List.take_zero];exact aJH⟩;rw [hA1,aFD hf (by omega) hb hno,hw,List.append_assoc];rfl
    intro h;have e:(s.data.toList.drop f).take (i - f)=s.data.toList.drop f:=List.take_of_length_le (by rw [aJG];omega);rw [e] at hno hw;rw [hA1,aCl hno,hw]
   refine Sr<|Dd aD<|Dd aD<|Dd aD<|Dd aD<|Dd (by exact cW (l:=f) (h:=i) rfl underlying9 rfl rfl rfl hf hil hx)<|Dd (by exact aT [encStr w] rfl cC rfl rfl rfl rfl rfl (by intro r hr;rw [aIu] at hr;subst hr;rfl))<|Dd (by exact c6 (ps:=[encStr w]) rfl cC E4 rfl rfl rfl rfl rfl (MP _) rfl (by intro r hr;rw [aIu] at hr;subst hr;rfl) (m:=1) rfl (by omega) rfl (MR _ w))<|Dd aO<|Zz<|Rg<|Dd aD<|Dd eL<|Dd aO<|Zz<|Rg<|Dd aD<|Dd eL<|Da ?_;refine⟨i+1,i+1,out++[w],⟨by omega,aIx _,by omega,hN.1,hN.2⟩,by omega,?_⟩;rw [hnl];exact(cY.wk (Eb<|Ea<|Eb<|Eb<|trivial) (Hc (jO _ _)<|trivial) trivial)
  have hq:i < s.size∧bP s i≠32:=by have h:=hc2;rw [aJN,aIz,aIz] at h;exact⟨by omega,h.2⟩
  have hb:lH s i≠32:=fun e=>hq.2 (by rw [hb32,e];rfl);have hno2:=aDP hf hq.1 hb hno;refine aB<|Rg<|Dd aD<|Dd eL<|Da ?_;exact⟨i+1,f,out,⟨by omega,by omega,by omega,fun _=>⟨hA1,hno2⟩,fun h=>by omega⟩,by omega,(cY.wk (Eb<|Ea<|Eb<|Eb<|trivial) (Hc (jO _ _)<|trivial) trivial)⟩
 have hil:i=s.size+1:=by have:=aIo hc1;omega
 have hR:=hB hil;rw [hR];refine aZ<|Sr<|Dd aD<|Dd aO<|Zz<|aC ?_;refine cZ (H':=[]) (.inr rfl) rfl (aN rfl) (Fin.fz (id:=906) (out.map encStr) rfl (Z7 _) (.osl (gQ encStr _)) rfl trivial trivial) ?_;exact Qq
def VT (b c:GFound):Bool:=decide (b.text=⟨#[61]⟩)&&decide (c.kind=3)
abbrev mkT (a c:GFound):GTag:=⟨a.text,c.text⟩
def CW:List GTag→List GFound→List GTag×Bool
 | acc,[]=>(acc,true)
 | acc,a::b::c::r=>if VT b c then CW (acc++[mkT a c]) r else([],false)
 | _,[_]=>([],false)
 | _,[_,_]=>([],false)
theorem Fin.tg2 {H1:aE} {id g n:Nat} {ob:Ob} (l:List GTag) (v:AV) (hH:H1.get id=some ob) (hg:ob.g=g) (hps:ob.rows=mV l) (hn:n=l.length) (hv:Clo [] v) :
  Fin [] H1 (.tup [.osl id g 0 n,v]) [] (.tup [.pv (iL l),v]):=by
 subst hg hn;exact Fin.fz (id:=id) (ob:=ob) (l.map aQ) hH (hps.trans (by rw [mV,List.map_map];rfl)) (.tup rfl (dC (.osl (gQ aQ l)) (dC (.same hv) oK))) rfl trivial trivial
theorem aGr {T:List GFound} {i:Nat} {a b c:GFound} (ha:T[i]?=some a) (hb:T[i+1]?=some b) (hc:T[i+2]?=some c):T.drop i=a::b::c::T.drop (i+3):=by obtain ⟨h1,e1⟩:=aIv.1 ha;obtain ⟨h2,e2⟩:=aIv.1 hb;obtain ⟨h3,e3⟩:=aIv.1 hc;rw [List.drop_eq_getElem_cons h1,List.drop_eq_getElem_cons h2,List.drop_eq_getElem_cons h3,e1,e2,e3]
theorem WF {acc:List GTag} {T:List GFound} (h0:0 < T.length) (h:T.length < 3):CW acc T=([],false):=by
 match T with
 | []=>exact absurd h0 (Nat.lt_irrefl 0)
 | [_]=>rfl
 | [_,_]=>rfl
 | _::_::_::_=>rw [aIt,aIt,aIt] at h;omega
theorem DI (T:List GFound) (H:aE) (hT:T.length < 1000000000):aH Tryz.prog 138 [.pv (vO T)] H (fun r H'=>r=.tup [.pv (iL (CW [] T).1),bv (CW [] T).2]∧H'=H):=by
 refine Pu ?_;have hmT:(T.map encTok).length=T.length:=aIr _;refine Bd func138 rfl ntmps138<|Sr<|Dd aO<|Dd aO<|Zz<|Sr<|Dd (by exact fI (id:=906) (sz:=2) (ty:=117) rfl rfl rfl)<|Zz<|Sq<|Sr<|Dd aO<|Zz<|aF ?_;refine gU (fun(i:Nat) (A:List GTag)=>([(0,.pv (vO T)),(4,.osl 906 A.length 0 A.length),(5,iv (i:Int))],[(906,⟨A.length,2,117,mV A⟩)])) (fun i A=>i≤T.length∧A.length≤i∧CW [] T=CW A (T.drop i)) (fun i _=>T.length - i) 0 [] ⟨aJI _,aIx _,rfl⟩ ?_ ?_
 ·exact(cY.wk (Eb<|Ea<|Eb<|trivial) (Hc (iZ _ _)<|trivial) trivial)
 rintro i A ⟨hi,hA,hR⟩;refine Sq<|Sr<|Dd aD<|Dd aD<|Dd (fK cT)<|Dd dD<|Zz ?_;refine Cn ?_ ?_<;>intro hc1
 ·have hlt:i < T.length:=by have:=aIn hc1;omega
  obtain ⟨a,ha⟩:=aX hlt;have hia:=bZ (f:=encTok) ha;by_cases h3:i+2 < T.length
  ·obtain ⟨b,hb⟩:=aX (l:=T) (k:=i+1) (by omega);obtain ⟨c,hc⟩:=aX h3;have hib:=bZ (f:=encTok) hb;have hic:=bZ (f:=encTok) hc;have hdr:=aGr ha hb hc;rw [hdr,CW] at hR;have k17:¬ (decide (((T.map encTok).length:Int)≤(i:Int)+2)=true):=by rw [aIy];omega
   refine aB<|Sq<|aF<|Sq<|Sq ?_;refine bD (t:=34) (n:=25) (X:=!VT b c) ?_ ?_
   ·all_goals refine Dd aD ?_
    all_goals refine Dd eL<|Dd aD<|Dd (fK cT)<|Dd wP<|Dm ?_
    all_goals refine Sp 17 (fun h17=>?_) fun h17=>?_
    all_goals try contradiction
    all_goals refine On aD<|On aD<|On eL<|On (by exact dU rfl fZ rfl rfl (by omega) (show ((i:Int)+1).toNat=i+1 by omega) hib rfl)<|On (wB f7)<|On (fM isAgg9)<|On JQ<|Dd dI<|Dm ?_
    all_goals refine Sp 26 (fun h26=>?_) fun h26=>?_
    all_goals try contradiction
    all_goals first|refine Fo<|Fo<|Fo<|Fo<|Fo<|Fo<|Fo ?_|refine On aD<|On aD<|On eL<|On (by exact dU rfl fZ rfl rfl (by omega) (show ((i:Int)+2).toNat=i+2 by omega) hic rfl)<|On (wB pR)<|On (fM isAgg3)<|On tU ?_
    all_goals refine Dd dI<|Zz ?_
    all_goals(exact⟨⟨_,rfl,by(rw [VT];simp_all;done)⟩,rfl,rfl,rfl⟩)
   refine Cn ?_ ?_<;>intro hc2
   ·have hq:VT b c=false:=by have h:=hc2;rwa [aJK] at h
    rw [hq,aIp (by simp)] at hR;rw [hR];refine Sr<|Dd aO<|Dd aO<|Zz<|aC ?_;refine iD (H':=[]) (.inr rfl) rfl (aN rfl) (aN rfl) (Fin.wk (r:=.tup [.pv (iL []),bv false]) (by simp) trivial trivial) ?_;exact Qq
   have hq:VT b c=true:=by have h:=hc2;rwa [Bool.not_eq_false'] at h
   rw [hq,aIq rfl] at hR;have hnl:(A++[mkT a c]).length=A.length+1:=by rw [aIs];rfl
   refine aB<|aU follows<|Cs (fun _ _=>aD)<|Cs (fun _ _=>aD)<|Cs (fun _ _=>aD)<|Cs (fun _ _=>(e8 fZ))<|Cs (fun _ _=>(wB f7))<|Cs (fun _ _=>(fM isAgg9))<|Cs (fun _ _=>aD)<|Cs (fun _ _=>aD)<|Cs (fun _ _=>eL)<|Cs (fun H1 hH=>by exact dU rfl fZ rfl rfl (by omega) (show ((i:Int)+2).toNat=i+2 by omega) hic rfl)<|Cs (fun _ _=>(wB f7))<|Cs (fun _ _=>(fM isAgg9))<|Cs (fun _ _=>(jG aBe))<|Cs (fun H1 hH=>by exact aT [aQ (mkT a c)] rfl lJ rfl rfl rfl rfl rfl (by intro r hr;rw [aIu] at hr;subst hr;rfl)) ?_;refine bT (r:=⟨_,none,[_]⟩) (DStep.plain rfl (fun H1 hH=>by exact c6 (ps:=[aQ (mkT a c)]) rfl lJ aB2 rfl ((hH _ rfl).trans rfl) rfl rfl rfl (zY _) rfl (by intro r hr;rw [aIu] at hr;subst hr;rfl) (m:=1) rfl (by omega) rfl (zZ _ (mkT a c)))) rfl ?_;refine Cs (fun _ _=>aO)<|bM<|Kr<|Rg<|Dd aD<|Dd eL<|Da ?_;refine⟨i+3,A++[mkT a c],⟨by omega,by omega,hR⟩,by omega,?_⟩;rw [hnl];exact(cY.wk (Eb<|Ea<|Eb<|trivial) (Hc (iZ _ _)<|trivial) trivial)
  have hS:CW [] T=([],false):=by rw [hR];exact WF (by rw [aJG];omega) (by rw [aJG];omega)
  have k17:¬ (decide (((T.map encTok).length:Int)≤(i:Int)+2)=false):=by rw [aIz];omega
  rw [hS];refine aB<|Sq<|aF<|Sq<|Sq ?_;refine bD (t:=34) (n:=25) (X:=true) ?_ ?_
  ·all_goals refine Dd aD ?_
   all_goals refine Dd eL<|Dd aD<|Dd (fK cT)<|Dd wP<|Dm ?_
   all_goals refine Sp 17 (fun h17=>?_) fun h17=>?_
   all_goals try contradiction
   all_goals refine Fo<|Fo<|Fo<|Fo<|Fo<|Fo<|Fo<|Dd dI<|Dm ?_
   all_goals refine Sp 26 (fun h26=>?_) fun h26=>?_
   all_goals try contradiction
   all_goals refine Fo<|Fo<|Fo<|Fo<|Fo<|Fo<|Fo<|Dd dI<|Zz ?_
   all_goals(exact⟨⟨_,rfl,by rfl⟩,rfl,rfl,rfl⟩)
  refine Cn ?_ ?_<;>intro hc3
  ·refine Sr<|Dd aO<|Dd aO<|Zz<|aC ?_;refine iD (H':=[]) (.inr rfl) rfl (aN rfl) (aN rfl) (Fin.wk (r:=.tup [.pv (iL []),bv false]) (by simp) trivial trivial) ?_;exact Qq
  cases hc3
 have hge:i=T.length:=by have:=aIo hc1;omega
 rw [hge,List.drop_length,CW] at hR;rw [hR];refine aZ<|Sr<|Dd aD<|Dd aO<|Dd aO<|Zz<|aC ?_;refine iD (H':=[]) (.inr rfl) rfl (aN rfl) (aN rfl) (Fin.tg2 A (bv true) rfl rfl rfl rfl (by simp)) ?_;exact Qq
end Go.Proofs.YtlnfjkdacimblaaGreatDoor
namespace Go.Proofs.YtlnfjkdacimblaaGreatDoor
open Go.Proofs.Tryz
open Go.Abs
theorem XP (l:List GEdit):jV l=(l.map aJ).map (·.map .pv):=by rw [jV,List.map_map];rfl
end Go.Proofs.YtlnfjkdacimblaaGreatDoor
namespace Go.Proofs.YtlnfjkdacimblaaGreatDoor
open Go.Proofs.Tryz
open Go.Abs Go.Lib
def w7 (rE:ByteArray→GEdit) (s:ByteArray):Nat→Nat×List GEdit
 | 0=>(0,[])
 | i+1=>if decide (bP s i=10)then(i+1,(w7 rE s i).2++[rE (s.extract (w7 rE s i).1 i)])else w7 rE s i
theorem aAH (rE:ByteArray→GEdit) (s:ByteArray):∀ i,(w7 rE s i).1≤i∧(w7 rE s i).2.length≤i
 | 0=>⟨aIx _,aIx _⟩
 | i+1=>by
  obtain ⟨h1,h2⟩:=aAH rE s i;rw [w7]
  split
  ·exact⟨aIx _,by rw [aIs];show _+1≤_;omega⟩
  exact⟨by omega,by omega⟩
theorem PA (rE:ByteArray→GEdit) (s:ByteArray) (i:Nat):∀ d,(w7 rE s i).2.length≤(w7 rE s (i+d)).2.length
 | 0=>aIx _
 | d+1=>by
  refine Nat.le_trans (PA rE s i d) ?_;rw [show i+(d+1)=(i+d)+1 by omega,w7]
  split
  ·rw [aIs];omega
  exact aIx _
theorem MY {rE:ByteArray→GEdit} {s:ByteArray} {Q:GEdit→Prop} (h:∀ x:ByteArray,x.size≤s.size→Q (rE x)):∀ i,∀ e∈(w7 rE s i).2,Q e
 | 0,e,he=>by cases he
 | i+1,e,he=>by
  rw [w7] at he
  split at he
  ·rcases List.mem_append.1 he with h1|h1
   ·exact MY h i e h1
   rw [aIu.1 h1];exact h _ (fD s _ _)
  exact MY h i e he
def gPr (rE:ByteArray→GEdit) (t:ByteArray):List GEdit×Int:=if 20000 < t.size then([],2)else if eJ (w7 rE t t.size).2=(t,0)then((w7 rE t t.size).2,0)else([],5)
theorem WG {rE:ByteArray→GEdit} (hok:∀ x:ByteArray,x.size≤20000→tQ (rE x)∧(rE x).refs.length < 1099511627776) (hE:∀ (x:ByteArray) (H:aE),x.size≤20000→aH Tryz.prog 40 [sv x] H (fun r H'=>r=av (aJ (rE x))∧H'=H)) (t:ByteArray) (H:aE) (hs:t.size < 1000000000) :
  aH Tryz.prog 14 [sv t] H (fun r H'=>r=.tup [.pv (cD (gPr rE t).1),iv (gPr rE t).2]∧H'=H):=by
 refine Pu ?_;refine Bd func14 rfl ntmps14<|Sr<|Dd aO<|Dd aO<|Zz<|Sq<|Sr<|Dd aD<|Dd (jJ underlying9)<|Dd kC<|Zz ?_;refine Cn ?_ ?_<;>intro hc1
 ·have h2:20000 < t.size:=by have:=aIn hc1;omega
  rw [gPr,aIq h2];refine Sr<|Dd aO<|Dd aO<|Zz<|aC ?_;refine iD (H':=[]) (.inr rfl) rfl (aN rfl) (aN rfl) (Fin.wk (r:=.tup [.pv (cD []),iv 2]) (by simp) trivial trivial) ?_;exact Qq
 have h2:¬ 20000 < t.size:=by have:=aIo hc1;omega
 rw [gPr,aIp h2];refine aB<|Sr<|Dd (by exact fI (id:=905) (sz:=15) (ty:=51) rfl rfl rfl)<|Zz<|Sr<|Dd aO<|Zz<|Sq<|Sr<|Dd aO<|Zz<|aF ?_;refine bG (σ:=Nat) (fun i=>([(0,sv t),(4,.osl 905 (w7 rE t i).2.length 0 (w7 rE t i).2.length),(5,iv ((w7 rE t i).1:Int)),(6,iv (i:Int))],[(905,⟨(w7 rE t i).2.length,15,51,jV (w7 rE t i).2⟩)])) (fun i=>i≤t.size) (fun i=>t.size - i) 0 (aJI _) ?_ ?_
 ·exact(cY.wk (Eb<|Ea<|Eb<|Eb<|trivial) (Hc (bL _ _)<|trivial) trivial)
 rintro i hi;obtain ⟨hf,hll⟩:=aAH rE t i;have hnx:w7 rE t (i+1)=if decide (bP t i=10)then(i+1,(w7 rE t i).2++[rE (t.extract (w7 rE t i).1 i)])else w7 rE t i:=rfl;have hmo:=PA rE t i (t.size - i);rw [show i+(t.size - i)=t.size by omega] at hmo;have hokL:=MY (rE:=rE) (s:=t) (Q:=fun e=>tQ e∧e.refs.length < 1099511627776) (fun x hx=>hok x (by omega)) i;rcases hp:w7 rE t i with⟨f,L⟩;simp only [hp] at hf hll hnx hmo hokL ⊢;refine Sq<|Sq ?_;refine bD (t:=20) (n:=10) (X:=decide ((i:Int) < (t.size:Int))&&decide ((L.length:Int)≤200)) ?_ ?_
 ·all_goals refine Dd aD ?_
  all_goals refine Dd aD<|Dd (jJ underlying9)<|Dd dD<|Dm ?_
  all_goals refine Sp 16 (fun h16=>?_) fun h16=>?_
  all_goals try contradiction
  all_goals first|refine Fo<|Fo<|Fo ?_|refine On aD<|On (by exact dV rfl cB rfl rfl rfl)<|On JK ?_
  all_goals refine Dd dI<|Zz ?_
  all_goals(exact⟨⟨_,rfl,by(rw [h16];rfl)⟩,rfl,rfl,rfl⟩)
 refine Cn ?_ ?_<;>intro hc2
 ·have hlt:i < t.size:=by have h:=hc2;rw [aJA,aIy] at h;omega
  refine aB<|Sq<|aF<|Sr<|Dd aD<|Dd aD<|Dd (by exact cF rfl underlying9 rfl rfl (by omega) (by exact aJC _) (by omega) rfl)<|Dd cI<|Zz ?_;refine Cn ?_ ?_<;>intro hc3
  ·have hq:decide (bP t i=10)=true:=hc3;rw [hq,aIq rfl] at hnx;obtain ⟨x,hx⟩:∃ x,x=t.extract f i:=⟨_,rfl⟩;have hxs:x.size≤20000:=by rw [hx];have:=fD t f i;omega
   rw [← hx] at hnx;have hnl:(L++[rE x]).length=L.length+1:=by rw [aIs];rfl
   refine Sr<|Dd aD<|Dd aD<|Dd aD<|Dd aD<|Dd (by exact cW (l:=f) (h:=i) rfl underlying9 rfl rfl rfl hf hi hx.symm)<|Dd (by exact aA rfl rfl call40 rfl (hE x _ hxs))<|Dd (by exact aT [aJ (rE x)] rfl lK rfl rfl rfl rfl rfl (by intro r hr;rw [aIu] at hr;subst hr;rfl))<|Dd (by exact c6 (ps:=[aJ (rE x)]) rfl lK J6 rfl rfl rfl rfl rfl (iX _) rfl (by intro r hr;rw [aIu] at hr;subst hr;rfl) (m:=1) rfl (by omega) rfl (pG L (rE x)))<|Dd aO<|Zz<|Rg<|Dd aD<|Dd eL<|Dd aO<|Zz<|Rg<|Dd aD<|Dd eL<|Da ?_;refine⟨i+1,by omega,by omega,?_⟩;rw [hnx];simp only;rw [hnl];exact(cY.wk (Eb<|Ea<|Eb<|Eb<|trivial) (Hc (bL _ _)<|trivial) trivial)
  have hq:decide (bP t i=10)=false:=hc3;rw [hq,aIp (by simp)] at hnx;refine aB<|Rg<|Dd aD<|Dd eL<|Da ?_;refine⟨i+1,by omega,by omega,?_⟩;rw [hnx];exact(cY.wk (Eb<|Ea<|Eb<|Eb<|trivial) (Hc (bL _ _)<|trivial) trivial)
 have hend:i=t.size∨200 < L.length:=by have h:=hc2;rw [Bool.and_eq_false_iff,aIz,aIz] at h;omega
 have hans:(if eJ (w7 rE t t.size).2=(t,0)then((w7 rE t t.size).2,(0:Int))else([],5))=if eJ L=(t,0)then(L,0)else([],5):=by
  rcases hend with e|e
  ·rw [← e,hp]
  have hno:∀ M:List GEdit,200 < M.length→¬ eJ M=(t,0):=fun M hM h=>by
   rw [eJ] at h
   split at h
   ·next hg=>have:=(qC hg).2.1;omega
   have:=congrArg Prod.snd h;cases this
  rw [aIp (hno _ (by omega)),aIp (hno _ e)]
 rw [hans];refine iB.ent (cY.fzG (id:=905) (E':=[(0,sv t),(4,.pv (cD L))]) (H':=[]) (L.map aJ) rfl (XP L) ?_ rfl ?_ ?_) ?_
 ·intro p hp;simp only [aJD,aJH,or_false] at hp;rcases hp with rfl|rfl
  ·exact⟨_,rfl,.same (by simp;try rfl)⟩
  exact⟨_,rfl,.osl (gQ aJ L)⟩
 ·exact trivial
 ·exact trivial
 refine aZ<|Sr<|Dd aD<|Dd (by exact aA rfl rfl call12 rfl (O8 L _ (by omega) (fun e h=>(hokL e h).1) (fun e h=>(hokL e h).2)))<|Dd aD<|Dd eZ<|Dd eZ<|Dd aO<|Dd aO<|Zz<|Sq<|Sq ?_;refine bD (t:=48) (n:=8) (X:=!decide ((eJ L).2=0)||!decide ((eJ L).1=t)) ?_ ?_
 ·all_goals refine Dd aD ?_
  all_goals refine Dd tU<|Dm ?_
  all_goals refine Sp 44 (fun h44=>?_) fun h44=>?_
  all_goals try contradiction
  all_goals first|refine Fo<|Fo<|Fo ?_|refine On aD<|On aD<|On JQ ?_
  all_goals refine Dd dI<|Zz ?_
  all_goals(exact⟨⟨_,rfl,by(rw [h44];rfl)⟩,rfl,rfl,rfl⟩)
 refine Cn ?_ ?_<;>intro hc4
 ·have hne:eJ L≠(t,0):=fun e=>by have h:=hc4;rw [e] at h;simp at h
  rw [aIp hne];refine Sr<|Dd aO<|Dd aO<|Zz<|aC ?_;refine iD (H':=[]) (.inr rfl) rfl (aN rfl) (aN rfl) (Fin.wk (r:=.tup [.pv (cD []),iv 5]) (by simp) trivial trivial) ?_;exact Qq
 have hee:eJ L=(t,0):=by have h:=hc4;simp only [aJN,Bool.not_eq_false',aIy] at h;exact Prod.ext h.2 h.1
 rw [aIq hee];exact aB<|Sr<|Dd aD<|Dd aO<|Dd aO<|Zz<|aC<|Ru<|Qq
end Go.Proofs.YtlnfjkdacimblaaGreatDoor
namespace Go.Proofs.YtlnfjkdacimblaaGreatDoor
open Go.Proofs.Tryz
open Go.Abs
theorem PI {s:ByteArray} {i:Nat} (hi:i < s.size) (h:kG s i=2):oV s i=true:=by rw [kG,aIq hi] at h;have h2:=(NO s i).2.1;rw [h] at h2;have e:bP s i=35:=aIn (h2.trans rfl);rw [oV,decide_eq_true hi,e];rfl
theorem DB {s:ByteArray} {i j:Nat} (h:eF s i=(none,j)) (hi:i < s.size):i < j∧j≤s.size:=by
 rw [eF] at h
 split at h
 ·cases h;omega
 split at h
 ·rename_i h2;cases h;have hp:=PI hi h2;obtain ⟨l1,l2⟩:=yJ (oV s) (s.size - i) i;rw [yS];refine⟨?_,by omega⟩;rcases Nat.lt_or_ge i (qX (oV s) (s.size - i) i)with h|h
  ·exact h
  have e:qX (oV s) (s.size - i) i=i:=by omega
  have:=rI (oV s) (s.size - i) i (by omega);rw [e,hp] at this;cases this
 split at h
 ·cases h
 split at h
 ·cases h
 split at h
 ·cases h
 split at h<;>cases h
theorem yD (s:ByteArray):∀ (n m i:Nat),s.size - i < n→s.size - i < m→iH s n i=iH s m i
 | 0,_,_,h,_=>by omega
 | _+1,0,_,_,h=>by omega
 | n + 1, m + 1, i, h1, h2 => by
  rw [iH,iH];by_cases hi:i < s.size
  ·rw [aIq hi,aIq hi];cases hs:eF s i with
   | mk o j =>
    cases o with
    | none =>
     have:=DB hs hi;exact yD s n m j (by omega) (by omega)
    | some f =>
     show f::_=f::_;congr 1;by_cases he:f.err=0
     ·have:=FV hs he hi;rw [aIq he,aIq he];exact yD s n m j (by omega) (by omega)
     rw [aIp he,aIp he]
  rw [aIp hi,aIp hi]
def zB (s:ByteArray) (i:Nat):List GFound:=iH s (s.size+1) i
theorem KH {s:ByteArray} {i j:Nat} (hi:i < s.size) (h:eF s i=(none,j)):zB s i=zB s j:=by have:=DB h hi;rw [zB,iH,aIq hi,h];exact yD s _ _ j (by omega) (by omega)
theorem VS {s:ByteArray} {i j:Nat} {f:GFound} (hi:i < s.size) (h:eF s i=(some f,j)) (he:f.err=0):zB s i=f::zB s j:=by have:=FV h he hi;rw [zB,iH,aIq hi,h];show f::(if f.err=0 then _ else _)=_;rw [aIq he];congr 1;exact yD s _ _ j (by omega) (by omega)
theorem ZG {s:ByteArray} {i j:Nat} {f:GFound} (hi:i < s.size) (h:eF s i=(some f,j)) (he:f.err≠0):zB s i=[f]:=by rw [zB,iH,aIq hi,h];show f::(if f.err=0 then _ else _)=_;rw [aIp he]
theorem ZH {s:ByteArray} {i:Nat} (hi:¬ i < s.size):zB s i=[]:=by rw [zB,iH,aIp hi]
theorem UZ (s:ByteArray) (i0:Nat) (H:aE) (hs:s.size < 1099511627776) (h0:i0≤s.size):aH Tryz.prog 139 [sv s,iv (i0:Int)] H (fun r H'=>∃ j,r=iv ((j:Nat):Int)∧i0≤j∧j≤s.size∧zB s i0=zB s j∧(j < s.size→kG s j≠1∧kG s j≠2)∧H'=H):=by
 refine Bd func139 rfl ntmps139<|Sr<|Dd aO<|Zz<|Sq<|aF ?_;refine bG (σ:=Nat) (fun i=>([(0,sv s),(1,iv (i:Int))],H)) (fun i=>i0≤i∧i≤s.size∧zB s i0=zB s i) (fun i=>s.size - i) i0 ⟨aIx _,h0,rfl⟩ ?_ ?_
 ·exact E0
 rintro i ⟨hge,hi,hinv⟩;refine Sq<|Sr<|Dd aD<|Dd aD<|Dd (jJ underlying9)<|Dd dD<|Zz ?_;refine Cn ?_ ?_<;>intro hc1
 ·have hlt:i < s.size:=by have:=aIn hc1;omega
  have hat:kG s i=sF (bP s i):=by rw [kG,aIq hlt]
  obtain ⟨q1,q2,_⟩:=NO s i;rw [← hat] at q1 q2;refine aB<|aF<|Sr<|Dd aD<|Dd aD<|Dd (by exact cF rfl underlying9 rfl rfl (by omega) (by exact aJC _) (by omega) rfl)<|Dd (by exact aA rfl rfl aID rfl (aBR ⟨#[32,9,10]⟩ (bP s i) _ (by decide)))<|Zz ?_;refine Cn ?_ ?_<;>intro hc2
  ·have h1:kG s i=1:=aIn (q1.symm.trans hc2);have hst:eF s i=(none,i+1):=by rw [eF,aIq h1]
   refine Rg<|Dd aD<|Dd eL<|Da ?_;exact⟨i+1,⟨by omega,hlt,hinv.trans (KH hlt hst)⟩,by omega,E0⟩
  have h1:kG s i≠1:=aIo (q1.symm.trans hc2);refine Sr<|Dd aD<|Dd aD<|Dd (by exact cF rfl underlying9 rfl rfl (by omega) (by exact aJC _) (by omega) rfl)<|Dd cI<|Zz ?_;refine Cn ?_ ?_<;>intro hc3
  ·have h2:kG s i=2:=aIn (q2.symm.trans hc3);have hst:eF s i=(none,yS s i):=by rw [eF,aIp h1,aIq h2]
   refine aF ?_;refine bG (σ:=Nat) (fun k=>([(0,sv s),(1,iv (k:Int))],H)) (fun k=>i≤k∧k≤s.size∧∀ j,i≤j→j < k→oV s j=true) (fun k=>s.size - k) i ⟨aIx _,hi,fun j h1 h2=>by omega⟩ ?_ ?_
   ·exact E0
   rintro k ⟨hik,hk,hall⟩;refine Sq<|Sq ?_;refine bD (t:=28) (n:=11) (X:=decide ((k:Int) < (s.size:Int))&&!decide (bP s k=10)) ?_ ?_
   ·all_goals refine Dd aD ?_
    all_goals refine Dd aD<|Dd (jJ underlying9)<|Dd dD<|Dm ?_
    all_goals refine Sp 23 (fun h23=>?_) fun h23=>?_
    all_goals try contradiction
    all_goals first|refine Fo<|Fo<|Fo<|Fo ?_|refine On aD<|On aD<|On (by exact cF rfl underlying9 rfl rfl (by omega) (by exact aJC _) (by have:=aIn h23;omega) rfl)<|On tU ?_
    all_goals refine Dd dI<|Zz ?_
    all_goals(exact⟨⟨_,rfl,by(rw [h23];rfl)⟩,rfl,rfl,rfl⟩)
   refine Cn ?_ ?_<;>intro hc4
   ·have h:=hc4;rw [aJA,aIy] at h;have hkl:k < s.size:=by omega
    have hp:oV s k=true:=by rw [oV,decide_eq_true hkl,Bool.true_and];exact h.2
    refine aB<|aF<|Rg<|Dd aD<|Dd eL<|Da ?_;refine⟨k+1,⟨by omega,hkl,fun j h1 h2=>?_⟩,by omega,E0⟩;rcases Nat.lt_or_ge j k with h|h
    ·exact hall j h1 h
    obtain rfl:j=k:=by omega
    exact hp
   have hend:yS s i=k:=by
    refine sV (oV s) hik (by omega) hall ?_;rcases Nat.lt_or_ge k s.size with h|h
    ·left;have h':=hc4;rw [decide_eq_true (show (k:Int) < (s.size:Int)by omega),Bool.true_and] at h';rw [oV,h',Bool.and_false]
    right;omega
   rw [hend] at hst;have hgo:=DB hst hlt;refine aZ ?_;exact⟨k,⟨by omega,hk,hinv.trans (KH hlt hst)⟩,by omega,E0⟩
  have h2:kG s i≠2:=aIo (q2.symm.trans hc3);refine Sr<|Dd aD<|Dd aO<|Zz<|aC ?_;refine cZ (H':=H) (.inr rfl) rfl (aN rfl) Fin.refl ?_;exact⟨i,rfl,hge,hi,hinv,fun _=>⟨h1,h2⟩,rfl⟩
 have hge2:i=s.size:=by have:=aIo hc1;omega
 subst hge2;refine aZ<|Sr<|Dd aD<|Dd aO<|Zz<|aC ?_;refine cZ (H':=H) (.inr rfl) rfl (aN rfl) Fin.refl ?_;exact⟨s.size,rfl,hge,hi,hinv,fun h=>absurd h (Nat.lt_irrefl _),rfl⟩
end Go.Proofs.YtlnfjkdacimblaaGreatDoor
