/-
  Parts of the proof: rules of an abstract program logic, contracts of functions, plain laws. Conditions: each theorem's own.
-/
import Derived.Test.YtlnfjkdacimblaaGreatDoorKW6M5
import Derived.Shelf.SortM.Plain
import Derived.Shelf.SortM.SortNone
import Derived.Ground.SlgmProg
import Derived.Test.YtlnfjkdacimblaaGreatDoorRows
import Derived.OpenShut
import Derived.JoinedCond
import Derived.Carry
set_option linter.unusedVariables false
set_option linter.unusedSimpArgs false
set_option maxRecDepth 100000
set_option maxHeartbeats 8000000
namespace Go.Proofs
theorem YJ:type_of% Tryz.call129:=Tryz.call129
theorem aIG:type_of% Tryz.call150:=Tryz.call150
theorem aIF:type_of% Tryz.call151:=Tryz.call151
theorem aIC:type_of% Tryz.call188:=Tryz.call188
theorem aIb:type_of% Tryz.call66:=Tryz.call66
theorem gK:type_of% Tryz.call95:=Tryz.call95
theorem aI7:type_of% Tryz.call97:=Tryz.call97
theorem aI3:type_of% Tryz.isAgg0:=Tryz.isAgg0
theorem aHO:type_of% Tryz.isAgg186:=Tryz.isAgg186
theorem aHN:type_of% Tryz.isAgg233:=Tryz.isAgg233
theorem aHM:type_of% Tryz.isAgg235:=Tryz.isAgg235
theorem kK:type_of% Tryz.isAgg25:=Tryz.isAgg25
theorem aHx:type_of% Tryz.sizeOf0:=Tryz.sizeOf0
theorem aGE:type_of% Tryz.sizeOf186:=Tryz.sizeOf186
theorem aGD:type_of% Tryz.sizeOf233:=Tryz.sizeOf233
theorem aGC:type_of% Tryz.sizeOf235:=Tryz.sizeOf235
theorem aHw:type_of% Tryz.sizeOf4:=Tryz.sizeOf4
theorem aCD:type_of% Tryz.underlying0:=Tryz.underlying0
theorem TH:type_of% Tryz.underlying233:=Tryz.underlying233
theorem TG:type_of% Tryz.underlying235:=Tryz.underlying235
theorem FO:type_of% Tryz.underlying4:=Tryz.underlying4
theorem aEM:type_of% Tryz.zeroValue0:=Tryz.zeroValue0
theorem YA:type_of% Tryz.zeroValue186:=Tryz.zeroValue186
theorem X9:type_of% Tryz.zeroValue233:=Tryz.zeroValue233
theorem X8:type_of% Tryz.zeroValue235:=Tryz.zeroValue235
end Go.Proofs
namespace Go.Proofs.YtlnfjkdacimblaaGreatDoor
open Go.Proofs.Tryz
open Go.Abs
theorem Fin.clT {m:List GObj} {H1:aE} (p:PV) (n:Int) (h14:H1.get 14=some (x7 m)) (h12:H1.get 12=some (J2 m)):Fin (cH m) H1 (.tup [.agg [.pv p],iv n]) (cH m) (.tup [.agg [.pv p],iv n]) :=Fin.wk (by simp) ⟨⟨_,h14,rfl⟩,by simp;rfl,⟨_,h12,rfl⟩,gE _ _,trivial⟩ ⟨h14.symm,h12.symm,trivial⟩
theorem WJ {m:List GObj} {e:GEdit}:(dX m e).put.length≤2:=by
 have hn:∀ n,(tX n).put.length≤2:=fun n=>by show 0≤2;omega
 unfold dX
 repeat' split
 all_goals first|exact hn _|(simp only [aIt,List.length_nil];omega)|skip
 ·unfold SY
  repeat' split
  all_goals first|exact hn _|(simp only [aIt,List.length_nil];omega)
 unfold aBW
 repeat' split
 all_goals first|exact hn _|(simp only [aIt,List.length_nil];omega)
theorem X7 (m:List GObj) (e:GEdit) (hm:uQ m) (he:tQ e) (hl:m.length < 549755813888) (hpo:dA e=true→∀ o,o∈(dX m e).put→DO o) (hps:(dX m e).put.length≤2)
  (hpf0:dA e=true→aH Tryz.prog 118 [.ref 14 0 0 0,av (aJ e)] (cH m) (fun r H'=>r=av (oN (dX m e))∧H'=cH m)) :
  aH Tryz.prog 65 [.ref 14 0 0 0,av (aJ e)] (cH m) (fun r H'=>r=.tup [.agg [.pv (cO (AT m e).1)],iv (AT m e).2]∧H'=cH m):=by
 refine Bd func65 rfl ntmps65<|Sr<|Dd (by exact cE (id:=3) rfl rfl rfl rfl rfl)<|Dd (by exact bJ (id:=4) rfl GI rfl rfl)<|Dd aO<|Zz<|Sq<|Sr<|Dd (qZ bA aL)<|Dd (by exact aA rfl rfl aIe rfl (x3 e _ he))<|Dd jU<|Zz ?_;refine Cn ?_ ?_<;>intro hc1
 ·have hga:AT m e=([],1):=by rw [AT,aIq hc1]
  rw [hga];refine Sr<|Dd (jG FL)<|Uu (fP sizeOf38)<|Dd aO<|Zz<|aC ?_;refine iD (H':=(cH m)) (.inr rfl) rfl (nZ bF sizeOf38) (aN rfl) (Fin.clT (m:=m) (cO []) 1 rfl rfl) ?_;exact Qq
 have hv:dA e=true:=by
  have h:=hc1;revert h;cases dA e<;>simp
 have hpo:=hpo hv;have hga:AT m e=(if !decide ((dX m e).err=0)then([],(dX m e).err)else if !decide ((n8 m (dX m e).put).2=0)then n8 m (dX m e).put else if !decide ((dX m e).drop=aP)then tW (n8 m (dX m e).put).1 (dX m e).drop else((n8 m (dX m e).put).1,0)):=by
  rw [AT,aIp (by rw [hc1];simp)]
 obtain ⟨R,hR⟩:∃ R,R=dX m e:=⟨_,rfl⟩;have hpf:∀ H,H.get 14=some (x7 m)→H.get 12=some (J2 m)→aH Tryz.prog 118 [.ref 14 0 0 0,av (aJ e)] H (fun r H'=>r=av (oN (dX m e))∧H'=H):=fun H h14 h12=>aB8 (hpf0 hv) h14 h12 (by simp;rfl);clear hpf0;rw [← hR] at hpo hps hga hpf;rw [hga];refine aB<|Sr<|Dd aD<|Dd (qZ bA aL)<|Dd (by exact aA rfl rfl call118 rfl (hpf _ rfl rfl))<|Dd (by exact bJ (id:=6) rfl TP rfl rfl)<|Uu (fP eG)<|Zz<|Sq<|Sr<|Dd (bH U1)<|Dd (cA kK)<|Dd tU<|Zz ?_;refine Cn ?_ ?_<;>intro hc2
 ·rw [aIq hc2];refine Sq<|aU follows<|Cr [] (fun _ _=>(jG FL))<|Cr [6] (fun _ h=>fh U1 h)<|Cr [6] (fun _ h=>lh kK h)<|Cp [4] (fun H1 hH=>by exact cV rfl sizeOf38 rfl rfl rfl rfl ((hH _ rfl).trans rfl) rfl rfl rfl)<|Cr [] (fun _ _=>aO)<|bM<|Kr<|aC ?_;refine iD (H':=(cH m)) (.inr rfl) rfl (nZ bF sizeOf38) (aN rfl) (Fin.clT (m:=m) (cO []) R.err rfl rfl) ?_;exact Qq
 rw [aIp (by rw [hc2];simp)];refine aB<|Sr<|Dd aD<|Dd pY<|Dd (bH y0)<|Dd (qZ bF sizeOf38)<|Dd (by exact bJ (id:=7) rfl GI rfl rfl)<|Uu (fP sizeOf38)<|Zz<|Sq<|Sr<|Dd (bH aDn)<|Dd (cA dJ)<|Dd (fK cQ)<|Dd aD<|Zz<|aF ?_;have hml:(R.put.map aG).length=R.put.length:=aIr _;refine gU (fun(k:Nat) (mk:List GObj)=>([(0,.ref 14 0 0 0),(4,.ref 4 0 0 0),(6,.ref 6 0 0 0),(7,.ref 7 0 0 0),(30,.pv (cO R.put)),(31,iv ((R.put.map aG).length:Int)),(32,iv (k:Int))],[(7,bx 1 38 [.pv (cO mk)]),(6,bx 3 154 [.pv (cO R.put),sv R.drop,iv R.err]),(4,bx 1 38 [lv []]),(14,x7 m),(12,J2 m)])) (fun k mk=>k≤R.put.length∧uQ mk∧mk.length≤m.length+k∧n8 m R.put=n8 mk (R.put.drop k)) (fun k mk=>R.put.length - k) 0 m ⟨by omega,hm,by omega,rfl⟩ ?_ ?_
 ·exact(cY.wk (Ea<|Ea<|Ea<|Ea<|Eb<|Eb<|Eb<|trivial) (Hb<|Hb<|Hb<|Ha<|Hc (gE _ _)<|trivial) ⟨rfl,rfl,trivial⟩)
 rintro k mk ⟨hk,hmk,hmkl,hpa⟩;refine Sr<|Dd dD<|Zz<|Sq ?_;refine Cn ?_ ?_<;>intro hc3
 ·have hlt:k < R.put.length:=by have:=aIn hc3;omega
  obtain ⟨o,ho⟩:=aX hlt;have hi:=bZ (f:=aG) ho;have hoo:=hpo o (aJB ho);have hdr:R.put.drop k=o::R.put.drop (k+1):=by
   obtain ⟨hl1,he1⟩:=aIv.1 ho;rw [List.drop_eq_getElem_cons hl1,he1]
  rw [hdr,n8] at hpa;obtain ⟨q1,q2⟩:=aBV hmk hoo (by omega);refine aB<|Sq<|aF<|Sr<|Dd (e8 iK)<|Dd (by exact bQ rfl aY sizeOf49 rfl (by omega) rfl rfl)<|Dd (by exact bJ (id:=9) rfl qU rfl rfl)<|Uu (fP sizeOf49)<|Zz<|Sr<|Dd (qZ bF sizeOf38)<|Dd (qZ aY sizeOf49)<|Dd (by exact aA rfl rfl call119 rfl (aFR mk o _ hmk hoo (by omega)))<|Dd aD<|Dd eZ<|Dd eZ<|Dd (by exact bJ (id:=10) rfl GI rfl rfl)<|Uu (fP sizeOf38)<|Dd aO<|Zz<|Sq<|Sr<|Dd aD<|Dd tU<|Zz ?_;refine Cn ?_ ?_<;>intro hc4
  ·rw [aIq hc4] at hpa;have hne:(!decide ((n8 m R.put).2=0))=true:=by rw [hpa];exact hc4
   rw [aIq hne,hpa];refine Sr<|Dd (jG FL)<|Dd aD<|Uu (fP sizeOf38)<|Dd aO<|Zz<|aC ?_;refine iD (H':=(cH m)) (.inr rfl) rfl (nZ bF sizeOf38) (aN rfl) (Fin.clT (m:=m) (cO []) (tD mk o).2 rfl rfl) ?_;exact Qq
  rw [aIp (by rw [hc4];simp)] at hpa;refine aB<|Rg<|Dd (qZ bF sizeOf38)<|Uu (fP sizeOf38)<|Zz<|Rg<|Dd eL<|Dd aD<|Zz ?_;exact⟨k+1,(tD mk o).1,⟨by omega,q1,by omega,hpa⟩,by omega,(cY.wk (Ea<|Ea<|Ea<|Ea<|Eb<|Eb<|Eb<|trivial) (Hb<|Hb<|Hb<|Ha<|Hc (gE _ _)<|trivial) ⟨rfl,rfl,trivial⟩)⟩
 have hge:k=R.put.length:=by have:=aIo hc3;omega
 subst hge;rw [List.drop_length,n8] at hpa;rw [hpa];rw [aIp (show ¬ ((!decide (((mk,(0:Int)):List GObj×Int).2=0))=true)by simp)];refine aZ<|Sq<|Sr<|Dd (bH U2)<|Dd (cA isAgg9)<|Dd JQ<|Zz ?_;refine Cn ?_ ?_<;>intro hc5
 ·rw [aIq hc5];refine Sr<|Dd (qZ bF sizeOf38)<|Dd (bH U2)<|Dd (cA isAgg9)<|Dd (by exact aA rfl rfl call120 rfl (aFt mk R.drop _ hmk (by omega)))<|Dd eZ<|Dd eZ<|Uu (fP sizeOf38)<|Dd aO<|Zz<|aC ?_;refine iD (H':=(cH m)) (.inr rfl) rfl (nZ bF sizeOf38) (aN rfl) (Fin.clT (m:=m) (cO (tW mk R.drop).1) (tW mk R.drop).2 rfl rfl) ?_;exact Qq
 rw [aIp (by rw [hc5];simp)];refine aB<|Sr<|Dd (qZ bF sizeOf38)<|Uu (fP sizeOf38)<|Dd aO<|Zz<|aC ?_;refine iD (H':=(cH m)) (.inr rfl) rfl (nZ bF sizeOf38) (aN rfl) (Fin.clT (m:=m) (cO mk) 0 rfl rfl) ?_;exact Qq
theorem nN {m:List GObj} (h:eY m=true):qJ m=true:=by rw [eY,aJA] at h;exact h.1
abbrev m9 (m:List GObj) (s:ByteArray):Option GObj:=m.find? (oJ s)
theorem aD0 {m:List GObj} {s:ByteArray} {o:GObj} (h:m9 m s=some o):o.id=s:=aIn (show oJ s o=true from List.find?_some h)
theorem PY {m:List GObj} {s:ByteArray} {o:GObj} (h:m9 m s=some o):o∈m:=List.mem_of_find?_eq_some h
theorem PX {m:List GObj} {o:GObj} (hu:Y2 m) (h:o∈m):m9 m o.id=some o:=by
 cases hf:m9 m o.id with
 | none =>
  have:=List.find?_eq_none.1 hf o h;exact absurd (show oJ o.id o=true from decide_eq_true rfl) this
 | some x =>
  have hx:=aD0 hf;obtain ⟨i,hi⟩:=aJM.1 h;obtain ⟨j,hj⟩:=aJM.1 (PY hf);rcases Nat.lt_trichotomy i j with h1|h1|h1
  ·have:=tH (f:=GObj.id) hu h1 hi hj;rw [hx,kQ] at this;cases this
  ·subst h1;rw [hi] at hj;cases hj;rfl
  have:=tH (f:=GObj.id) hu h1 hj hi;rw [hx,kQ] at this;cases this
theorem aBs {α:Type} {f:α→ByteArray}:∀ {a b:List α},asc f a→asc f b→(∀ x,x∈a↔x∈b)→a=b
 | [],[],_,_,_=>rfl
 | [],y::b,_,_,h=>by have:=(h y).2 List.mem_cons_self;cases this
 | x::a,[],_,_,h=>by have:=(h x).1 List.mem_cons_self;cases this
 | x::a,y::b,ha,hb,h=>by
  obtain ⟨ha1,ha2⟩:=List.pairwise_cons.1 ha;obtain ⟨hb1,hb2⟩:=List.pairwise_cons.1 hb;have hxy:x=y:=by
   rcases aJD.1 ((h x).1 List.mem_cons_self)with e|e
   ·exact e
   rcases aJD.1 ((h y).2 List.mem_cons_self)with e'|e'
   ·exact e'.symm
   have h1:=hb1 x e;have h2:=ha1 y e';have:=l8 h1 h2;rw [kQ] at this;cases this
  subst hxy;rw [aBs ha2 hb2 (fun z=>⟨fun hz=>?_,fun hz=>?_⟩)]
  ·rcases aJD.1 ((h z).1 (List.mem_cons_of_mem _ hz))with e|e
   ·subst e;have:=ha1 z hz;rw [kQ] at this;cases this
   exact e
  rcases aJD.1 ((h z).2 (List.mem_cons_of_mem _ hz))with e|e
  ·subst e;have:=hb1 z hz;rw [kQ] at this;cases this
  exact e
theorem yZ {o:GObj} (h:iC o=true):1≤o.kind∧o.kind≤5:=by
 rw [iC,aJA,aJK,CE,pD] at h;have h1:=h.1;simp only [aJN,aIz] at h1;have hw:=h1.1.1.1.1;unfold dW at hw;by_cases a:o.kind=1
 ·omega
 by_cases b:o.kind=2
 ·omega
 by_cases c:o.kind=3
 ·omega
 by_cases d:o.kind=4
 ·omega
 by_cases f:o.kind=5
 ·omega
 rw [aIp a,aIp b,aIp c,aIp d,aIp f] at hw;exact absurd rfl hw
end Go.Proofs.YtlnfjkdacimblaaGreatDoor
namespace Go.Abs
open Go.Proofs
theorem Rel.grown {I:Nat→Prop} {ι:fF} {H:aE} {w:World} (os:Array Obj) (hr:Rel I ι H w):Rel I ι H (Sort.grow w os)∧Step I ι H w I ι H (Sort.grow w os):=by
 have hk:∀ b,b < w.heap.size→(Sort.grow w os).heap[b]?=w.heap[b]?:=fun b hb=>by
  show (w.heap++os)[b]?=_;rw [Array.getElem?_append_left hb]
 have hst:Step I ι H w I ι H (Sort.grow w os):=by
  refine⟨rfl,rfl,rfl,?_,fun a ha _=>?_,fun _ h=>h,fun _ h=>.inl h,fun _ h=>.inl h,fun b hb _=>hk b hb,fun _ o h=>⟨o,h,aIx _,fun _=>⟨rfl,rfl,fun _=>aIx _⟩⟩⟩
  ·show w.heap.size≤(w.heap++os).size;simp
  unfold World.frozen?;rw [hk _ ha]
 refine⟨⟨fun b hb=>?_,fun j o hj=>?_,hr.inj,hst.glob hr⟩,hst⟩
 ·have:=hr.imm b hb;show b < (w.heap++os).size;simp;omega
 exact(hr.obj j o hj).keep rfl (fun b c _ hb=>⟨hk b hb,fun h=>h⟩) (fun r _ a _ v hv=>hv.mono hr hst)
def eU (l:List ByteArray):List (List AV):=l.map fun s=>[.pv (.str s)]
def OT (s:ByteArray):List UInt8:=s.data.toList
def ofU (l:List UInt8):ByteArray:=⟨l.toArray⟩
theorem UL (s:ByteArray):ofU (OT s)=s:=by cases s;simp [ofU,OT]
def j4 (l:List ByteArray):List ByteArray:=((l.map OT).mergeSort fun x y=>decide (x≤y)).map ofU
theorem l7 (l:List ByteArray):(j4 l).length=l.length:=by simp [j4,List.length_mergeSort]
theorem UO (l:List ByteArray):(l.map OT).map ofU=l:=by
 rw [List.map_map]
 conv=>rhs;rw [← List.map_id l]
 exact List.map_congr_left fun s _=>UL s
theorem G6 (l:List ByteArray):(j4 l).Perm l:=by have h:=(List.mergeSort_perm (l.map OT) (fun x y=>decide (x≤y))).map ofU;rw [UO] at h;exact h
theorem P8 {w:World} {b:Nat} {cs:Array Value} {t:TypeId} {f:Nat×Nat} (h:w.heap[b]?=some (.cells cs t f)) (d:Array (List UInt8)):(Sort.putRow Proofs.encStr w b 0 d)=w.setRow b (Sort.putCells Proofs.encStr 0 d cs):=by
 unfold Sort.putRow Sort.mapBlock World.setRow;congr 1;apply Array.ext_getElem?;intro k;simp only [Array.getElem?_modify];by_cases e:b=k
 ·subst e;simp [h,Sort.onCells]
 simp [e]
theorem aFE {P:Program} {ρ:Shelf.Ren} (Ly:SlLaysM.n6 P ρ) (ss:List ByteArray) {id g n ty:Nat} {H:aE} (hH:H.get id=some ⟨g,1,ty,eU ss⟩) (hn:n=ss.length) (hl:ss.length < 4611686018427387904) :
  aH P (ρ.f 6) [.osl id g 0 n] H (fun r H'=>r=.tup []∧H'=(id,⟨g,1,ty,eU (j4 ss)⟩)::H):=by
 subst hn;intro I ι w vs hr hvl hv;obtain ⟨v,rfl⟩:∃ v,vs=#[v]:=by
  match vs,hvl with
  | ⟨[v]⟩,_=>exact⟨v,rfl⟩
 have h1:=hv 0 v _ rfl rfl;obtain ⟨_,hcase⟩:=gH h1 hH rfl;have hrowlen:∀ r∈eU (j4 ss),r.length=1:=fun r hr=>by
  obtain ⟨s,_,rfl⟩:=List.mem_map.1 hr;rfl
 have g1:aE.get ((id,⟨g,1,ty,eU (j4 ss)⟩)::H) id=some ⟨g,1,ty,eU (j4 ss)⟩:=by simp [aE.get,jR]
 have g2:∀ j,j≠id→aE.get ((id,⟨g,1,ty,eU (j4 ss)⟩)::H) j=H.get j:=fun j hj=>by simp [aE.get,pJ (Ne.symm hj)]
 rcases hcase with⟨b,cap,oo,c1,c2,c3⟩|⟨c1,c2,_,c4⟩
 ·have hoo:oo=0:=by rw [c3 (.inr rfl)];simp
  subst hoo c2;have hobj:=(hr.obj id _ hH).cells (Nat.succ_pos 0);obtain ⟨p1,p2,⟨b',cap',cs,e1,e2,e3,e4,e5,e5',e6⟩|⟨e1,_⟩⟩:=hobj
  ·rw [c1] at e1;cases e1;simp only [Nat.mul_one] at e4 e6;have hlen:(eU ss).length=ss.length:=by simp [eU]
   simp only [hlen] at e5;have hcs:∀ (i:Nat) (s:ByteArray),ss[i]?=some s→cs[i]?=some (.string s):=fun i s hs=>by
    obtain ⟨u,q1,q2,q3⟩:=e6 i [.pv (.str s)] (by rw [eU,aJL,hs];rfl) 0 _ rfl;rw [q3.str_inv] at q1;exact q1
   have hholds:Sort.Holds Proofs.encStr w b 0 (ss.map OT).toArray:=by
    intro j hj;simp only [List.size_toArray,aIr] at hj;refine⟨?_,?_⟩
    ·have:=hcs j _ (aIw hj);rw [aJJ];simp only [World.cell?,e2,this];congr 1;rw [getElem!_pos _ _ (by simpa using hj)];simp only [List.getElem_toArray,List.getElem_map];show some (Value.string ss[j])=some (Value.string (ofU (OT ss[j])));rw [UL]
    simp [World.frozen?,e2]
   have hrun:=AnyM.slices_Sort_string Ly b 0 (cap - 0) (ss.map OT) w hholds (Array.getElem?_eq_some_iff.1 e2).1 (by rw [aIr];exact hl);rw [aIr] at hrun;refine hrun.mono ?_;rintro e w' ⟨rfl,n,os,rfl⟩;obtain ⟨k1,k2⟩:=Rel.drawn (w':=Sort.ahead w n) hr rfl rfl rfl rfl;have e2':(Sort.ahead w n).heap[b]?=some (.cells cs ty (0,0)):=e2;rw [P8 e2'];obtain ⟨m1,m2⟩:=Rel.update (H':=(id,⟨g,1,ty,eU (j4 ss)⟩)::H) (ob':=⟨g,1,ty,eU (j4 ss)⟩) (cs':=Sort.putCells Proofs.encStr 0 ((ss.map OT).mergeSort fun x y=>decide (x≤y)).toArray cs) k1 hH c1 e2' (aIx _) rfl rfl
    (fun _=>by simp [eU,l7]) (by rw [Sort.putCells];simp;omega) (by simp only [eU,aIr,l7];omega) hrowlen (fun i r hi k a hk=>by
     rw [eU,aJL] at hi;obtain ⟨s,hs,rfl⟩:=Option.map_eq_some_iff.1 hi;cases k with
     | succ k=>simp at hk
     | zero =>
      cases hk;have hil:=(aIv.1 hs).1;rw [l7] at hil;have hics:i < cs.size:=by omega
      refine⟨.string s,?_,rfl,.pv (.str s)⟩;rw [Nat.mul_one,Nat.add_zero,Sort.putCells,Array.getElem?_mapIdx,Array.getElem?_eq_getElem hics,Option.map_some];have hsz:i < ((ss.map OT).mergeSort fun x y=>decide (x≤y)).length:=by rw [List.length_mergeSort,aIr];exact hil
      rw [aIq ⟨aJI _,by simpa using hsz⟩];congr 1;rw [Nat.sub_zero,getElem!_pos _ _ (by simpa using hsz)];rw [j4,aJL] at hs;obtain ⟨u,hu,rfl⟩:=Option.map_eq_some_iff.1 hs;simp only [List.getElem_toArray];rw [(aIv.1 hu).2];rfl) g1 g2
   obtain ⟨n1,n2⟩:=Rel.grown os m1;exact⟨_,_,I,ι,.tuple #[],rfl,⟨rfl,rfl⟩,.tup rfl (by simp),n1,(k2.trans m2).trans n2⟩
  rw [c1] at e1;cases e1
 subst c2;have h0:ss=[]:=List.eq_nil_of_length_eq_zero c4;subst h0;refine(AnyM.slices_Sort_string_none Ly none 0 w).mono ?_;rintro e w' ⟨rfl,rfl⟩;have hg:∀ j,aE.get ((id,⟨g,1,ty,eU (j4 [])⟩)::H) j=H.get j:=fun j=>by
  by_cases e:j=id
  ·subst e;rw [g1,hH,show j4 []=[] by simp [j4]]
  exact g2 j e
 obtain ⟨k1,k2⟩:=hr.congr hg;exact⟨_,_,I,ι,.tuple #[],rfl,⟨rfl,rfl⟩,.tup rfl (by simp),k1,k2⟩
end Go.Abs
section
namespace Go.Proofs
open Go.RowKit Go.Sort Go.Shelf
def aIh:Go.Shelf.Ren:=⟨fun|6=>98|8=>153|9=>152|19=>200|20=>201|21=>191|22=>192|23=>193|24=>194|25=>195|26=>196|27=>197|28=>198|29=>199|36=>236|31=>237|32=>238|37=>239|38=>240|39=>241|41=>257|n=>n,fun|27=>46|29=>9|3=>3|32=>186|26=>46|0=>0|44=>233|46=>235|4=>4|36=>227|35=>226|41=>83|5=>5|9=>9|53=>263|57=>267|63=>282|64=>283|n=>n,fun|n=>n⟩
theorem aIk:Go.Proofs.SlLaysM.n6 Tryz.prog aIh:={
  mixed:=by kernel_rfl
  f6:=⟨Tryz.f98.name,by decide,Tryz.func98.trans (congrArg some (by kernel_rfl))⟩
  f8:=Tryz.func153.trans (congrArg some (by kernel_rfl))
  f9:=⟨Tryz.f152.name,by decide,Tryz.func152.trans (congrArg some (by kernel_rfl))⟩
  f19:=Tryz.func200.trans (congrArg some (by kernel_rfl))
  f20:=Tryz.func201.trans (congrArg some (by kernel_rfl))
  f21:=⟨Tryz.f191.name,by decide,Tryz.func191.trans (congrArg some (by kernel_rfl))⟩
  f22:=⟨Tryz.f192.name,by decide,Tryz.func192.trans (congrArg some (by kernel_rfl))⟩
  f23:=⟨Tryz.f193.name,by decide,Tryz.func193.trans (congrArg some (by kernel_rfl))⟩
  f24:=⟨Tryz.f194.name,by decide,Tryz.func194.trans (congrArg some (by kernel_rfl))⟩
  f25:=⟨Tryz.f195.name,by decide,Tryz.func195.trans (congrArg some (by kernel_rfl))⟩
  f26:=⟨Tryz.f196.name,by decide,Tryz.func196.trans (congrArg some (by kernel_rfl))⟩
  f27:=⟨Tryz.f197.name,by decide,Tryz.func197.trans (congrArg some (by kernel_rfl))⟩
  f28:=⟨Tryz.f198.name,by decide,Tryz.func198.trans (congrArg some (by kernel_rfl))⟩
  f29:=⟨Tryz.f199.name,by decide,Tryz.func199.trans (congrArg some (by kernel_rfl))⟩
  f31:=Tryz.func237.trans (congrArg some (by kernel_rfl))
  f32:=Tryz.func238.trans (congrArg some (by kernel_rfl))
  f36:=⟨Tryz.f236.name,by decide,Tryz.func236.trans (congrArg some (by kernel_rfl))⟩
  f37:=⟨Tryz.f239.name,by decide,Tryz.func239.trans (congrArg some (by kernel_rfl))⟩
  f38:=⟨Tryz.f240.name,by decide,Tryz.func240.trans (congrArg some (by kernel_rfl))⟩
  f39:=⟨Tryz.f241.name,by decide,Tryz.func241.trans (congrArg some (by kernel_rfl))⟩
  f41:=⟨Tryz.f257.name,by decide,Tryz.func257.trans (congrArg some (by kernel_rfl))⟩
  t0:=aCD
  a0:=aI3
  z0:=aHx
  v0:=aEM
  t3:=Tryz.underlying3
  a3:=Tryz.isAgg3
  z3:=Tryz.sizeOf3
  v3:=eC
  t4:=FO
  a4:=N6
  z4:=aHw
  v4:=gP
  t5:=qG
  a5:=N5
  z5:=dY
  v5:=JM
  t9:=Tryz.underlying9
  a9:=Tryz.isAgg9
  z9:=Tryz.sizeOf9
  v9:=rO
  t26:=aK
  a26:=aV
  z26:=Tryz.sizeOf46
  v26:=FM
  t27:=aK
  a27:=aV
  z27:=Tryz.sizeOf46
  v27:=FM
  t29:=Tryz.underlying9
  a29:=Tryz.isAgg9
  z29:=Tryz.sizeOf9
  v29:=rO
  t32:=sK
  a32:=aHO
  z32:=aGE
  v32:=YA
  t35:=Tryz.underlying226
  a35:=Tryz.isAgg226
  z35:=Tryz.sizeOf226
  v35:=Tryz.zeroValue226
  t36:=Tryz.underlying227
  a36:=Tryz.isAgg227
  z36:=Tryz.sizeOf227
  v36:=Tryz.zeroValue227
  t41:=Tryz.underlying83
  a41:=Tryz.isAgg83
  z41:=Tryz.sizeOf83
  v41:=Tryz.zeroValue83
  t44:=TH
  a44:=aHN
  z44:=aGD
  v44:=X9
  t46:=TG
  a46:=aHM
  z46:=aGC
  v46:=X8
  t53:=Tryz.underlying263
  a53:=Tryz.isAgg263
  z53:=Tryz.sizeOf263
  v53:=Tryz.zeroValue263
  t57:=Tryz.underlying267
  a57:=Tryz.isAgg267
  z57:=Tryz.sizeOf267
  v57:=Tryz.zeroValue267
  t63:=Tryz.underlying282
  a63:=Tryz.isAgg282
  z63:=Tryz.sizeOf282
  v63:=Tryz.zeroValue282
  t64:=Tryz.underlying283
  a64:=Tryz.isAgg283
  z64:=Tryz.sizeOf283
  v64:=Tryz.zeroValue283}
end Go.Proofs
namespace Go.Proofs.YtlnfjkdacimblaaGreatDoor
open Go.Proofs.Tryz
open Go.Abs
theorem V5 (ss:List ByteArray) {id g n ty:Nat} {H:aE} (hH:H.get id=some ⟨g,1,ty,eU ss⟩) (hn:n=ss.length) (hl:ss.length < 4611686018427387904) :
  aH Tryz.prog 98 [.osl id g 0 n] H (fun r H'=>r=.tup []∧H'=(id,⟨g,1,ty,eU (j4 ss)⟩)::H):=aFE aIk ss hH hn hl
theorem B3:∀ (n:Nat) (l:List Nat),l.Nodup→(∀ i∈l,i < n)→l.length≤n
 | 0,l,_,h=>by
  cases l with
  | nil=>simp
  | cons a l=>have:=h a (by simp);omega
 | n+1,l,hd,h=>by
  by_cases e:n∈l
  ·have h1:=B3 n (l.erase n) (hd.erase n) (fun i hi=>by
    rw [hd.mem_erase_iff] at hi;have:=h i hi.2;omega)
   rw [List.length_erase_of_mem e] at h1;have:=List.length_pos_of_mem e;omega
  have:=B3 n l hd (fun i hi=>by
   have h2:=h i hi;have:i≠n:=fun e2=>e (e2▸hi);omega)
  omega
def pick (L:List ByteArray) (seen:List Nat):List ByteArray:=seen.map fun i=>(L[i]?).getD ⟨#[]⟩
theorem aAQ {L:List ByteArray} {seen:List Nat} (hd:seen.Nodup) (h1:∀ i∈seen,i < L.length) (h2:∀ i,i < L.length→i∈seen):(pick L seen).Perm L:=by
 have hp:seen.Perm (List.range L.length):=(List.perm_ext_iff_of_nodup hd List.nodup_range).2 fun a=>⟨fun h=>List.mem_range.2 (h1 a h),fun h=>h2 a (List.mem_range.1 h)⟩;have h3:=hp.map (fun i=>(L[i]?).getD ⟨#[]⟩);have h4:(List.range L.length).map (fun i=>(L[i]?).getD ⟨#[]⟩)=L:=by
  apply List.ext_getElem
  ·simp
  intro i h5 h6;simp [h6]
 rw [h4] at h3;exact h3
theorem EN (a b:List UInt8):decide (a≤b)||decide (b≤a):=by rcases List.le_total a b with h|h<;>simp [h]
theorem OY {a b:List ByteArray} (h:a.Perm b):j4 a=j4 b:=by
 unfold j4;congr 1;have hs:∀ l:List ByteArray,((l.map OT).mergeSort fun x y=>decide (x≤y)).Pairwise (fun x y=>decide (x≤y)=true):=fun l =>
  List.pairwise_mergeSort (le:=fun(x y:List UInt8)=>decide (x≤y)) (fun a b c h1 h2=>decide_eq_true (List.le_trans (aIn h1) (aIn h2))) EN _
 exact List.Perm.eq_of_pairwise (fun x y _ _ h3 h4=>List.le_antisymm (aIn h3) (aIn h4)) (hs a) (hs b) (((List.mergeSort_perm _ _).trans (h.map OT)).trans (List.mergeSort_perm _ _).symm)
end Go.Proofs.YtlnfjkdacimblaaGreatDoor
end
namespace Go.Proofs.YtlnfjkdacimblaaGreatDoor
open Go.Proofs.Tryz
open Go.Abs
theorem d7 (l:List ByteArray) (H:aE):∀ r∈(FX l).rows,∀ a∈r,Clo H a:=by intro r hr a ha;obtain ⟨i,hi⟩:=aJM.1 hr;obtain ⟨p,hp,rfl⟩:=rK.1 hi;simp only [sP,aJL] at hp;obtain ⟨q,_,rfl⟩:=Option.map_eq_some_iff.1 hp;simp only [aJD,aJH,or_false] at ha;rcases ha with rfl|rfl|rfl<;>simp
theorem AQ {H:aE} {id g:Nat} (h:(H.get id).isSome=true) (a b:Nat) (l:List Nat):∀ r∈nL (.mp id g) a b l,∀ x∈r,Clo H x:=by
 intro r hr x hx;rw [nL] at hr;rcases aJD.1 hr with rfl|hr
 ·simp only [aJD,aJH,or_false] at hx;rcases hx with rfl|rfl|rfl
  ·exact .mp h
  ·exact .pv _
  exact .pv _
 obtain ⟨n,_,rfl⟩:=List.mem_map.1 hr;rw [aIu] at hx;subst hx;exact .pv _
theorem Z9 {α:Type} (f:α→List PV) (l:List α):l.map (fun e=>(f e).map AV.pv)=(l.map f).map (·.map .pv):=by rw [List.map_map];rfl
theorem W2 {α:Type} (l:List α) (a:α):l.length+1=(l++[a]).length:=by simp
def fJ (L l:List ByteArray):List ByteArray:=l.foldl nX L
theorem XK {H:aE} {id:Nat} {o:Ob} (h:H.get id=some o) (j:Nat):aE.get ((id,o)::H) j=H.get j:=by
 by_cases e:j=id
 ·subst e;rw [get_cons_same,h]
 exact get_cons_other _ _ e
theorem DR (L l:List ByteArray) (T:Nat) (H:aE) (h3:H.get 3=some (bx 1 T [.mp 10 0])) (h10:H.get 10=some (FX L)) (hl:l.length < 4611686018427387904) :
  aH Tryz.prog 97 [.pv (cS l),.ref 3 0 0 0] H (fun r H'=>r=.tup []∧H'=(10,FX (fJ L l))::H):=by
 have hml:(l.map encStr).length=l.length:=aIr _;refine Bd func97 rfl ntmps97<|Sr<|Dd aD<|Dd (fK aK)<|Dd aD<|Zz<|aF ?_;refine bG (σ:=Nat) (fun k=>([(1,.ref 3 0 0 0),(5,.pv (cS l)),(6,iv ((l.map encStr).length:Int)),(7,iv (k:Int))],(10,FX (fJ L (l.take k)))::H)) (fun k=>k≤l.length) (fun k=>l.length - k) 0 (by omega) ?_ ?_
 ·exact cY.get' ⟨⟨_,rfl,rfl⟩,⟨_,rfl,rfl⟩,⟨_,rfl,rfl⟩,⟨_,rfl,rfl⟩,trivial⟩ (XK h10)
 intro k hk;have h3':aE.get ((10,FX (fJ L (l.take k)))::H) 3=some (bx 1 T [.mp 10 0]):=h3;refine Sr<|Dd dD<|Zz<|Sq ?_;refine Cn ?_ ?_<;>intro hc1
 ·have hlt:k < l.length:=by have:=aIn hc1;omega
  obtain ⟨s,hs⟩:=aX hlt;have hi:=bZ (f:=encStr) hs;have hst:fJ L (l.take (k+1))=nX (fJ L (l.take k)) s:=by rw [fJ,List.take_add_one,hs,List.foldl_append];rfl
  refine aB<|Sq<|aF<|Sr<|Dd (e8 cC)<|Dd (fM isAgg9)<|Dd aO<|Zz<|Rg<|Dd (by exact aR rfl kI rfl h3' rfl rfl rfl)<|Dd aD<|Uu (by exact uD (.inl rfl) eD underlying9 rfl rfl rfl rfl rfl rfl rfl)<|Zz<|Rg<|Dd eL<|Dd aD<|Zz ?_;refine⟨k+1,by omega,by omega,?_⟩;rw [hst];exact cY.dup ⟨⟨_,rfl,rfl⟩,⟨_,rfl,rfl⟩,⟨_,rfl,rfl⟩,⟨_,rfl,rfl⟩,trivial⟩
 have hge:k=l.length:=by have:=aIo hc1;omega
 subst hge;rw [List.take_length];refine aZ ?_;exact qT (.inl rfl) rfl Fin.refl ⟨rfl,rfl⟩
def nonE (s:ByteArray):Bool:=!decide (s=aP)
def s9 (e:GEdit):List ByteArray:=fJ (fJ (fJ [] [e.id,e.other,e.node,e.obj.id]) e.refs) e.obj.refs
def eO (e:GEdit):List ByteArray:=if dA e then j4 ((s9 e).filter nonE)else[]
theorem jT:∀ (l L:List ByteArray),(fJ L l).length≤L.length+l.length
 | [],L=>by simp [fJ]
 | s::l,L=>by
  have:=jT l (nX L s);have h2:(nX L s).length≤L.length+1:=by
   unfold nX
   split
   ·omega
   simp
  rw [fJ,List.foldl_cons] at *;simp only [aIt];omega
abbrev z6 (l:List ByteArray):List (List AV):=l.map (fun e=>(encStr e).map .pv)
theorem SC {L:List ByteArray} {seen:List Nat} {i:Nat} {s:ByteArray} (h:L[i]?=some s):pick L (seen++[i])=pick L seen++[s]:=by simp only [pick,List.map_append,List.map_cons,List.map_nil,h,Option.getD_some]
theorem aAh (e:GEdit) (H:aE) (he:tQ e) (hsz:e.refs.length+e.obj.refs.length < 1099511627776):aH Tryz.prog 47 [av (aJ e)] H (fun r H'=>r=.pv (cS (eO e))∧H'=H):=by
 refine Pu ?_;have he':=he;obtain ⟨⟨h1,h2,h3,h4⟩,⟨h5,h6⟩,h7⟩:=he';rw [eO];refine Bd func47 rfl ntmps47<|Sr<|Dd (by exact cE (id:=1) rfl rfl rfl rfl rfl)<|Dd aO<|Zz<|Sq<|Sr<|Dd (qZ bA aL)<|Dd (by exact aA rfl rfl aIe rfl (x3 e _ he))<|Dd jU<|Zz ?_;refine Cn ?_ ?_<;>intro hc1
 ·have hf:dA e=false:=by
   have h:=hc1
   simpa using h
  rw [hf,aIp (by simp)];exact Sr<|Dd aO<|Zz<|aC<|Rt<|Qq
 have hv:dA e=true:=by
  have h:=hc1
  simpa using h
 rw [aIq hv];obtain ⟨L,hL⟩:∃ L,L=s9 e:=⟨_,rfl⟩;have hsl:L.length < 1099511627780:=by
  have q1:=jT e.obj.refs (fJ (fJ [] [e.id,e.other,e.node,e.obj.id]) e.refs);have q2:=jT e.refs (fJ [] [e.id,e.other,e.node,e.obj.id]);have q3:=jT [e.id,e.other,e.node,e.obj.id] [];simp only [aIt,List.length_nil] at q3;rw [hL,s9];omega
 refine aB<|Sr<|Dd (by exact iT (id:=10) oW rfl rfl)<|Dd (by exact bJ (id:=3) rfl aC1 rfl rfl)<|Uu (fP RJ)<|Zz<|Sr<|Dd (by exact fU rfl rfl)<|Dd aO<|Zz<|Sr<|Dd aD<|Dd (bH eX)<|Dd (cA isAgg9)<|Dd (bH fR)<|Dd (cA isAgg9)<|Dd (bH lY)<|Dd (cA isAgg9)<|Dd (bH iR)<|Dd (bH eK)<|Dd (cA isAgg9)<|Dd (by exact aT ([e.id,e.other,e.node,e.obj.id].map encStr) rfl cC rfl rfl rfl rfl rfl (by simp [encStr]))<|Dd (by exact eT rfl rfl rfl (dN.clo aI7 (DR [] [e.id,e.other,e.node,e.obj.id] 89 _ rfl rfl (by show 4 < _;omega))))<|Zz<|Sr<|Dd aD<|Dd (bH gA)<|Dd (cA aV)<|Dd (by exact eT rfl rfl rfl (dN.clo aI7 (DR (fJ [] [e.id,e.other,e.node,e.obj.id]) e.refs 89 _ rfl rfl h5)))<|Zz<|Sr<|Dd aD<|Dd (bH iR) ?_;refine Dd (bH dP)<|Dd (cA aV)<|Dd (by exact eT rfl rfl rfl (dN.clo aI7 (DR (fJ (fJ [] [e.id,e.other,e.node,e.obj.id]) e.refs) e.obj.refs 89 _ rfl rfl h7.2.2.1)))<|Zz<|Sr<|Dd (by exact fI (id:=5) (sz:=1) (ty:=9) rfl rfl rfl)<|Zz<|Sq<|Sr<|Dd (cA kI)<|Dd (by exact WN (q:=34) (κ:=oW) rfl eD rfl rfl rfl rfl rfl rfl)<|Zz<|aF ?_;rw [s9] at hL;rw [← s9,← hL.trans (s9.eq_1 e).symm];refine gU (fun(seen:List Nat) (g:Nat)=>([(5,.osl 5 g 0 ((pick L seen).filter nonE).length),(34,.it 34 0)],[(34,⟨0,0,0,nL (.mp 10 0) (sP L).length (sP L).length seen⟩),(5,⟨g,1,9,z6 ((pick L seen).filter nonE)⟩),(10,FX L)])) (fun seen g=>seen.Nodup∧∀ i∈seen,i < L.length) (fun seen g=>L.length - seen.length) [] 0 ⟨.nil,by simp⟩ ?_ ?_
 ·rw [hL];exact(cY.wk (Ea<|Ea<|trivial) (Hc (AQ rfl _ _ _)<|Hc (GF _ _ _)<|Hc (d7 _ _)<|trivial) trivial)
 rintro seen g ⟨hnd,hlt⟩;have hse:=B3 L.length seen hnd hlt;have hfl:((pick L seen).filter nonE).length≤seen.length:=by have:=List.length_filter_le nonE (pick L seen);rw [pick,aIr] at this;exact this
 refine Sq<|Rg ?_;refine TD rfl rfl (aAV (κ:=oW) rfl rfl rfl rfl rfl rfl rfl rfl rfl (by omega) (by omega)) ?_;rintro _ _ (⟨rfl,rfl,hn0⟩|⟨hni,hnp,hn1,hn2,rfl,rfl⟩)
 ·refine Dd eZ<|Zz<|Sq ?_;refine Cn ?_ ?_<;>intro hc2
  ·cases hc2
  have hpm:=aAQ (L:=L) hnd hlt (fun i hi=>hn0 i (by rw [EP];exact hi));refine aZ<|Sr<|Dd aD<|Dd (by exact aA rfl rfl call98 rfl (V5 ((pick L seen).filter nonE) (id:=5) (g:=g) (ty:=9) rfl rfl (by omega)))<|Zz<|Sr<|Dd aD<|Dd aO<|Zz<|aC ?_;rw [← OY (hpm.filter nonE)];refine cZ (H':=[]) (.inr rfl) rfl (aN rfl) (Fin.slice0 (id:=5) ((j4 ((pick L seen).filter nonE)).map encStr) rfl rfl (Z9 encStr _) (by rw [aIr,l7])) ⟨rfl,rfl⟩
 refine Dd eZ<|Zz<|Sq ?_;refine Cn ?_ ?_<;>intro hc3
 ·have hlen:=(aIv.1 hn1).1;rw [EP] at hlen;obtain ⟨s,hs⟩:=aX hlen;have hp:hnp=(s,bv true):=by
   rw [sP,aJL,hs] at hn1;exact(Option.some.inj hn1).symm
  subst hp;have hnd2:(seen++[hni]).Nodup:=List.nodup_append.2 ⟨hnd,by simp,fun a ha b hb e=>by rw [aIu] at hb;subst hb;subst e;exact hn2 ha⟩;have hlt2:∀ i∈seen++[hni],i < L.length:=fun i hi=>by
   rcases List.mem_append.1 hi with hi|hi
   ·exact hlt i hi
   rw [aIu] at hi;subst hi;exact hlen
  have hmu:L.length - (seen++[hni]).length < L.length - seen.length:=by
   have:=B3 L.length (seen++[hni]) hnd2 hlt2;simp only [aIs,aIt,List.length_nil] at this ⊢;omega
  have hpk:(pick L (seen++[hni])).filter nonE=(pick L seen).filter nonE++[s].filter nonE:=by rw [SC hs,List.filter_append]
  refine aB<|aF<|Sr<|Dd (by exact WQ rfl rfl rfl rfl rfl rfl rfl rfl rfl hn1)<|Dd eZ<|Dd aO<|Zz<|Sr<|Dd aD<|Dd JQ<|Zz ?_;refine Cn ?_ ?_<;>intro hc4
  ·have hns:nonE s=true:=hc4;have hpk2:(pick L (seen++[hni])).filter nonE=(pick L seen).filter nonE++[s]:=by rw [hpk,List.filter_cons,hns];rfl
   refine Rg<|Dd aD<|Dd aD<|Dd (by exact aT [encStr s] rfl cC rfl rfl rfl rfl rfl (by simp [encStr]))<|Dd (by exact c6 rfl cC E4 rfl rfl rfl rfl rfl (aIr _) rfl (by simp [encStr]) (rfl:_=1) (by omega) (W2 _ s) ((List.map_append (l₂:=[s])).symm))<|Da ?_;refine⟨seen++[hni],g+1,⟨hnd2,hlt2⟩,hmu,?_⟩;rw [hpk2];exact(cY.wk (Ea<|Ea<|trivial) (Hc (AQ rfl _ _ _)<|Hc (GF _ _ _)<|Hc (d7 _ _)<|trivial) trivial)
  have hns:nonE s=false:=hc4;have hpk2:(pick L (seen++[hni])).filter nonE=(pick L seen).filter nonE:=by rw [hpk,List.filter_cons,hns];simp
  refine aB ?_;refine⟨seen++[hni],g,⟨hnd2,hlt2⟩,hmu,?_⟩;rw [hpk2];exact(cY.wk (Ea<|Ea<|trivial) (Hc (AQ rfl _ _ _)<|Hc (GF _ _ _)<|Hc (d7 _ _)<|trivial) trivial)
 cases hc3
def raw (e:GEdit) (s:ByteArray):Prop:=s=e.id∨s=e.other∨s=e.node∨s=e.obj.id∨s∈e.refs∨s∈e.obj.refs
theorem V0 {l:List ByteArray} {s x:ByteArray}:x∈nX l s↔x∈l∨x=s:=by
 unfold nX
 split
 ·next h =>
  have:=yX.1 h;constructor
  ·exact .inl
  rintro(h|rfl)
  ·exact h
  exact this
 rw [List.mem_append,aIu]
theorem wL:∀ {l L:List ByteArray} {x:ByteArray},x∈fJ L l↔x∈L∨x∈l
 | [],L,x=>by simp [fJ]
 | s::l,L,x=>by
  show x∈fJ (nX L s) l↔_;rw [wL,V0,aJD,or_assoc]
theorem LH {e:GEdit} {s:ByteArray} (hv:dA e=true):s∈eO e↔raw e s∧s≠aP:=by rw [eO,aIq hv,(G6 _).mem_iff,List.mem_filter,s9,wL,wL,wL];simp only [nonE,aJK,aIz,aJH,false_or,aJD,or_false,raw,or_assoc]
theorem aDj {o:GObj} (h:iC o=true):o.id≠aP:=qB (k7 h).2.2.2.1
theorem UI {e:GEdit} (h:lU e=true) (h1:e.op≠1):e.id≠aP:=by rw [lU,aIp h1,aJA] at h;exact qB h.1
theorem SH {e:GEdit} (h:lU e=true) (h1:e.op=6∨e.op=7):e.other≠aP:=by
 rw [lU,aIp (by omega),aJA,aIp (by omega),aIp (by omega),aIp (by omega),aIp (by omega)] at h;have h2:=h.2
 split at h2
 ·rw [aJA] at h2;exact qB h2.2
 exact qB h2
theorem aA5 {e:GEdit} (h:lU e=true) (h1:e.op=1):e.obj.id≠aP:=by rw [lU,aIq h1] at h;exact aDj h
def lE (n:Int) (s:ByteArray):Bool:=decide (n < (s.size:Int))
def aAm (n:Int) (t:GTag):Bool:=decide (n < IntKind.i64.wrap ((t.key.size:Int)+(t.val.size:Int)))
def aEZ (o:GObj):Prop:=o.refs.length < 4611686018427387904∧o.tags.length < 4611686018427387904
def CP (o:GObj) (n:Int):Bool:=(lE 300 o.id||decide (n < (o.refs.length:Int))||decide (65 < (o.tags.length:Int)))||o.refs.any (lE 300)||o.tags.any (aAm 600)
theorem aDq (o:GObj) (n:Int) (H:aE) (hok:aEZ o) :
  aH Tryz.prog 31 [av (aG o),iv n] H (fun r H'=>r=bv (!CP o n)∧H'=H):=by
 refine Pu ?_;have hrl:(o.refs.map encStr).length=o.refs.length:=aIr _;have htl:(o.tags.map aQ).length=o.tags.length:=aIr _;have h1:=hok.1;have h2:=hok.2;refine Bd func31 rfl ntmps31<|Sr<|Dd (by exact cE (id:=2) rfl rfl rfl rfl rfl)<|Dd aO<|Zz<|Sq<|Sq ?_;refine bD (t:=23) (n:=19) (X:=lE 300 o.id||decide (n < ((o.refs.map encStr).length:Int))||decide (65 < ((o.tags.map aQ).length:Int))) ?_ ?_
 ·all_goals refine Dd (bH eK) ?_
  all_goals refine Dd (cA isAgg9)<|Dd (jJ underlying9)<|Dd kC<|Dm ?_
  all_goals refine Sp 11 (fun h11=>?_) fun h11=>?_
  all_goals try contradiction
  all_goals first|refine Fo<|Fo<|Fo<|Fo<|Fo ?_|refine On (bH dP)<|On (cA aV)<|On (fK aK)<|On aD<|On kC ?_
  all_goals refine Dd dI<|Dm ?_
  all_goals refine Sp 18 (fun h18=>?_) fun h18=>?_
  all_goals try contradiction
  all_goals first|refine Fo<|Fo<|Fo<|Fo ?_|refine On (bH e9)<|On (cA cU)<|On (fK cK)<|On kC ?_
  all_goals refine Dd dI<|Zz ?_
  all_goals(exact⟨⟨_,rfl,by first|(simp only [lE, *];rfl)|(simp_all [lE];done)|(simp_all [lE];omega)⟩,rfl,rfl,rfl⟩)
 refine Cn ?_ ?_<;>intro hc1
 ·rw [hrl,htl] at hc1;refine Sr<|Dd aO<|Zz<|aC<|Rt ?_;exact⟨by rw [CP,hc1];rfl,rfl⟩
 rw [hrl,htl] at hc1;have hb1:CP o n=(o.refs.any (lE 300)||o.tags.any (aAm 600)):=by rw [CP,hc1];rfl
 refine aB<|Sq<|Sr<|Dd aO<|Zz<|aF ?_;refine bG (σ:=Nat) (fun q=>([(2,.ref 2 0 0 0),(5,iv (q:Int))],[(2,bx 6 49 ((aG o).map .pv))])) (fun q=>q≤o.refs.length∧∀ j,j < q→∀ b,o.refs[j]?=some b→lE 300 b=false) (fun q=>o.refs.length - q) 0 ⟨by omega,by omega⟩ ?_ ?_
 ·exact Wk
 rintro q ⟨hq,hnr⟩;refine Sq<|Sr<|Dd aD<|Dd (bH dP)<|Dd (cA aV)<|Dd (fK aK)<|Dd dD<|Zz ?_;refine Cn ?_ ?_<;>intro hc2
 ·have hlt2:q < o.refs.length:=by simpa using hc2
  obtain ⟨s,hs⟩:=aX hlt2;have hse:=bZ (f:=encStr) hs;refine aB<|Sq<|aF<|Sr<|Dd (bH dP)<|Dd (cA aV)<|Dd aD<|Dd (e8 cC)<|Dd (fM isAgg9)<|Dd (jJ underlying9)<|Dd kC<|Zz ?_;refine Cn ?_ ?_<;>intro hc3
  ·have hbad:CP o n=true:=by rw [hb1,sI hs hc3];rfl
   refine Sr<|Dd aO<|Zz<|aC<|Rt ?_;exact⟨by rw [hbad];rfl,rfl⟩
  refine aB<|Rg<|Dd aD<|Dd eL<|Da ?_;exact⟨q+1,⟨by omega,j7 hnr hs hc3⟩,by omega,Wk⟩
 have hge:q=o.refs.length:=by
  have:o.refs.length≤q:=by simpa using hc2
  omega
 subst hge;rw [u9 hnr,Bool.false_or] at hb1;refine aZ<|Sq<|Sr<|Dd aO<|Zz<|aF ?_;refine bG (σ:=Nat) (fun q=>([(2,.ref 2 0 0 0),(6,iv (q:Int))],[(2,bx 6 49 ((aG o).map .pv))])) (fun q=>q≤o.tags.length∧∀ j,j < q→∀ b,o.tags[j]?=some b→aAm 600 b=false) (fun q=>o.tags.length - q) 0 ⟨by omega,by omega⟩ ?_ ?_
 ·exact Wk
 rintro q ⟨hq,hnt⟩;refine Sq<|Sr<|Dd aD<|Dd (bH e9)<|Dd (cA cU)<|Dd (fK cK)<|Dd dD<|Zz ?_;refine Cn ?_ ?_<;>intro hc4
 ·have hlt2:q < o.tags.length:=by simpa using hc4
  obtain ⟨s,hs⟩:=aX hlt2;have hse:=bZ (f:=aQ) hs;refine aB<|Sq<|aF<|Sq<|aU follows<|Cq (bH e9)<|Cq (cA cU)<|Cq aD<|Cq (e8 lJ)<|Cq (wB jD)<|Cq (fM isAgg9)<|Cq (jJ underlying9)<|Cq (bH e9)<|Cq (cA cU)<|Cq aD<|Cq (e8 lJ)<|Cq (wB kU)<|Cq (fM isAgg9)<|Cq (jJ underlying9)<|Cq (by exact iM rfl rfl rfl rfl)<|Cq kC<|bM<|Kr ?_;refine Cn ?_ ?_<;>intro hc5
  ·have hbad:CP o n=true:=by rw [hb1,sI hs hc5]
   refine Sr<|Dd aO<|Zz<|aC<|Rt ?_;exact⟨by rw [hbad];rfl,rfl⟩
  refine aB<|Rg<|Dd aD<|Dd eL<|Da ?_;exact⟨q+1,⟨by omega,j7 hnt hs hc5⟩,by omega,Wk⟩
 have hge:q=o.tags.length:=by
  have:o.tags.length≤q:=by simpa using hc4
  omega
 subst hge;have hgood:CP o n=false:=by rw [hb1,u9 hnt]
 refine aZ<|Sr<|Dd aO<|Zz<|aC<|Rt ?_;exact⟨by rw [hgood];rfl,rfl⟩
def E7 (e:GEdit):Bool:=(lE 300 e.id||lE 300 e.other||lE 300 e.node||lE 300 e.key||lE 300 e.val||decide (20 < (e.refs.length:Int))||CP e.obj 20||decide (20 < (e.obj.tags.length:Int)))||e.refs.any (lE 300)
def U4 (l:List GEdit) (n:Int):Bool:=!(decide (n < (l.length:Int)))&&!(l.any E7)
def aA9 (e:GEdit):Prop:=e.refs.length < 4611686018427387904∧aEZ e.obj
theorem aDp (l:List GEdit) (n:Int) (H:aE) (hl:l.length < 4611686018427387904) (ho:∀ e,e∈l→aA9 e) :
  aH Tryz.prog 10 [.pv (cD l),iv n] H (fun r H'=>r=bv (U4 l n)∧H'=H):=by
 refine Pu ?_;have hml:(l.map aJ).length=l.length:=aIr _;refine Bd func10 rfl ntmps10<|Sr<|Dd aO<|Zz<|Sq<|Sr<|Dd aD<|Dd (fK cB)<|Dd aD<|Dd kC<|Zz ?_;refine Cn ?_ ?_<;>intro hc1
 ·have hb:decide (n < (l.length:Int))=true:=by rw [← hml];exact hc1
  refine Sr<|Dd aO<|Zz<|aC<|Rt ?_;exact⟨by rw [U4,hb];rfl,rfl⟩
 have hb:decide (n < (l.length:Int))=false:=by rw [← hml];exact hc1
 rw [U4,hb,Bool.not_false,Bool.true_and];refine aB<|Sq<|Sr<|Dd aO<|Zz<|aF ?_;refine bG (σ:=Nat) (fun i=>([(0,.pv (cD l)),(5,iv (i:Int))],[])) (fun i=>i≤l.length∧∀ j,j < i→∀ b,l[j]?=some b→E7 b=false) (fun i=>l.length - i) 0 ⟨by omega,by omega⟩ ?_ ?_
 ·exact Wk
 rintro i ⟨hi,hno⟩;refine Sq<|Sr<|Dd aD<|Dd aD<|Dd (fK cB)<|Dd dD<|Zz ?_;refine Cn ?_ ?_<;>intro hc2
 ·have hlt:i < l.length:=by simpa using hc2
  obtain ⟨e,hoi⟩:=aX hlt;have hie:=bZ (f:=aJ) hoi;have hok:=ho e (aJB hoi);have hrl:(e.refs.map encStr).length=e.refs.length:=aIr _;have htl:(e.obj.tags.map aQ).length=e.obj.tags.length:=aIr _;have h1:=hok.1;refine aB<|Sq<|aF<|Sr<|Dd aD<|Dd aD<|Dd (e8 lK)<|Dd (by exact bQ rfl bA aL rfl (by omega) (by simp only [Zl,aQ,aG,aJ];rfl) rfl)<|Dd (by exact bJ (id:=6) rfl BA rfl rfl)<|Uu (fP aL)<|Zz<|Sq<|Sq ?_;refine bD (t:=68) (n:=54) (X:=lE 300 e.id||lE 300 e.other||lE 300 e.node||lE 300 e.key||lE 300 e.val||decide (20 < ((e.refs.map encStr).length:Int))||CP e.obj 20||decide (20 < ((e.obj.tags.map aQ).length:Int))) ?_ ?_
  ·all_goals refine Dd (bH eX) ?_
   all_goals refine Dd (cA isAgg9)<|Dd (jJ underlying9)<|Dd kC<|Dm ?_
   all_goals refine Sp 26 (fun h26=>?_) fun h26=>?_
   all_goals try contradiction
   all_goals first|refine Fo<|Fo<|Fo<|Fo ?_|refine On (bH fR)<|On (cA isAgg9)<|On (jJ underlying9)<|On kC ?_
   all_goals refine Dd dI<|Dm ?_
   all_goals refine Sp 32 (fun h32=>?_) fun h32=>?_
   all_goals try contradiction
   all_goals first|refine Fo<|Fo<|Fo<|Fo ?_|refine On (bH lY)<|On (cA isAgg9)<|On (jJ underlying9)<|On kC ?_
   all_goals refine Dd dI<|Dm ?_
   all_goals refine Sp 38 (fun h38=>?_) fun h38=>?_
   all_goals try contradiction
   all_goals first|refine Fo<|Fo<|Fo<|Fo ?_|refine On (bH lA)<|On (cA isAgg9)<|On (jJ underlying9)<|On kC ?_
   all_goals refine Dd dI<|Dm ?_
   all_goals refine Sp 44 (fun h44=>?_) fun h44=>?_
   all_goals try contradiction
   all_goals first|refine Fo<|Fo<|Fo<|Fo ?_|refine On (bH lX)<|On (cA isAgg9)<|On (jJ underlying9)<|On kC ?_
   all_goals refine Dd dI<|Dm ?_
   all_goals refine Sp 50 (fun h50=>?_) fun h50=>?_
   all_goals try contradiction
   all_goals first|refine Fo<|Fo<|Fo<|Fo ?_|refine On (bH gA)<|On (cA aV)<|On (fK aK)<|On kC ?_
   all_goals refine Dd dI<|Dm ?_
   all_goals refine Sp 56 (fun h56=>?_) fun h56=>?_
   all_goals try contradiction
   all_goals first|refine Fo<|Fo<|Fo<|Fo ?_|refine On (bH iR)<|On (by exact aI rfl aY sizeOf49 rfl rfl rfl rfl (by simp only [Zl,aQ,aG,aJ];rfl) rfl)<|On (by exact aA rfl rfl call31 rfl (aDq e.obj 20 _ hok.2))<|On jU ?_
   all_goals refine Dd dI<|Dm ?_
   all_goals refine Sp 62 (fun h62=>?_) fun h62=>?_
   all_goals try contradiction
   all_goals first|refine Fo<|Fo<|Fo<|Fo<|Fo ?_|refine On (bH iR)<|On (bH e9)<|On (cA cU)<|On (fK cK)<|On kC ?_
   all_goals refine Dd dI<|Zz ?_
   all_goals(exact⟨⟨_,rfl,by first|(simp only [lE, *];rfl)|(simp_all [lE];done)|(simp_all [lE];omega)⟩,rfl,rfl,rfl⟩)
  refine Cn ?_ ?_<;>intro hc3
  ·have hbad:E7 e=true:=by
    rw [hrl,htl] at hc3;rw [E7,hc3];rfl
   refine Sr<|Dd aO<|Zz<|aC<|Rt ?_;exact⟨by rw [sI hoi hbad];rfl,rfl⟩
  rw [hrl,htl] at hc3;have hb1:E7 e=(e.refs.any (lE 300)):=by rw [E7,hc3];rfl
  refine aB<|Sr<|Dd aO<|Zz<|aF ?_;refine bG (σ:=Nat) (fun q=>([(0,.pv (cD l)),(5,iv (i:Int)),(6,.ref 6 0 0 0),(7,iv (q:Int))],[(6,bx 15 51 ((aJ e).map .pv))])) (fun q=>q≤e.refs.length∧∀ j,j < q→∀ b,e.refs[j]?=some b→lE 300 b=false) (fun q=>e.refs.length - q) 0 ⟨by omega,by omega⟩ ?_ ?_
  ·exact Wk
  rintro q ⟨hq,hnr⟩;refine Sq<|Sr<|Dd aD<|Dd (bH gA)<|Dd (cA aV)<|Dd (fK aK)<|Dd dD<|Zz ?_;refine Cn ?_ ?_<;>intro hc4
  ·have hlt2:q < e.refs.length:=by simpa using hc4
   obtain ⟨s,hs⟩:=aX hlt2;have hse:=bZ (f:=encStr) hs;refine aB<|Sq<|aF<|Sr<|Dd (bH gA)<|Dd (cA aV)<|Dd aD<|Dd (e8 cC)<|Dd (fM isAgg9)<|Dd (jJ underlying9)<|Dd kC<|Zz ?_;refine Cn ?_ ?_<;>intro hc5
   ·have hbad:E7 e=true:=by rw [hb1,sI hs hc5]
    refine Sr<|Dd aO<|Zz<|aC<|Rt ?_;exact⟨by rw [sI hoi hbad];rfl,rfl⟩
   refine aB<|Rg<|Dd aD<|Dd eL<|Da ?_;exact⟨q+1,⟨by omega,j7 hnr hs hc5⟩,by omega,Wk⟩
  have hge:q=e.refs.length:=by
   have:e.refs.length≤q:=by simpa using hc4
   omega
  subst hge;have hgood:E7 e=false:=by rw [hb1,u9 hnr]
  refine aZ<|Rg<|Dd aD<|Dd eL<|Da ?_;exact⟨i+1,⟨by omega,j7 hno hoi hgood⟩,by omega,Wk⟩
 have hge:i=l.length:=by
  have:l.length≤i:=by simpa using hc2
  omega
 subst hge;refine aZ<|Sr<|Dd aO<|Zz<|aC<|Rt ?_;exact⟨by rw [u9 hno];rfl,rfl⟩
instance decGObj:DecidableEq GObj:=fun a b=>if h:pC a b=true then isTrue (pB.1 h)else isFalse (fun e=>h (pB.2 e))
def st1 (c:UInt8):ByteArray:=⟨#[c]⟩
def aE1 (c:UInt8):GObj:=⟨st1 c,1,(c.toNat:Int),0,[],[]⟩
def cs3:List UInt8:=[97,98,99]
def aH8:GObj:=⟨st1 119,2,0,0,cs3.map st1,[]⟩
def s0:List GObj:=cs3.map aE1++[aH8]
def x1:List GObj:=cs3.map aE1++[⟨st1 118,2,0,0,[st1 98,st1 99],[]⟩,⟨st1 119,2,0,0,[st1 97,st1 98],[]⟩]
end Go.Proofs.YtlnfjkdacimblaaGreatDoor
namespace Go.Abs
open Go.Proofs.YtlnfjkdacimblaaGreatDoor
section
theorem aB9 {H:Type} (d:DataW H):1≤Rows.uptoBulk d:=by
 cases d with
 | lit l=>cases l<;>simp [Rows.uptoBulk]
 | _=>simp [Rows.uptoBulk]
theorem aBa {H:Type} {d:DataW H} {l:List (DataW H)} (h:d∈l):Rows.uptoBulk d≤Rows.uptoBulkAll l:=by
 induction l with
 | nil=>cases h
 | cons x r ih =>
  simp only [Rows.uptoBulkAll];rcases aJD.1 h with e|e
  ·subst e;omega
  have:=ih e;omega
theorem aBb {H:Type} (l:List (DataW H)):l.length≤Rows.uptoBulkAll l:=by
 induction l with
 | nil=>simp
 | cons x r ih=>have:=aB9 x;simp only [Rows.uptoBulkAll,aIt];omega
inductive PL (w:World) (I:Nat→Prop):List Value→List PV→Prop
 | nil:PL w I [] []
 | cons {c:Value} {p:PV} {cs:List Value} {ps:List PV} (h:PRep w I c p) (r:PL w I cs ps):PL w I (c::cs) (p::ps)
theorem PL.length {w:World} {I:Nat→Prop} {cs:List Value} {ps:List PV} (h:PL w I cs ps):cs.length=ps.length:=by
 induction h with
 | nil=>rfl
 | cons h r ih=>simp [ih]
theorem PL.append {w:World} {I:Nat→Prop} {cs cs':List Value} {ps ps':List PV} (h:PL w I cs ps) (h':PL w I cs' ps'):PL w I (cs++cs') (ps++ps'):=by
 induction h with
 | nil=>exact h'
 | cons h r ih=>exact .cons h ih
theorem PL.get {w:World} {I:Nat→Prop} {cs:List Value} {ps:List PV} (h:PL w I cs ps):∀ (k:Nat) (c:Value) (p:PV),cs[k]?=some c→ps[k]?=some p→PRep w I c p:=by
 induction h with
 | nil=>intro k c p h;simp at h
 | cons h r ih =>
  intro k c p hc hp;cases k with
  | zero=>cases hc;cases hp;exact h
  | succ k=>exact ih k c p hc hp
def A0 (P:Program):Nat→List Field→Nat→Bool
 | o,[],n=>Nat.beq o n
 | o,f::r,n=>Nat.beq f.offset o&&A0 P (o+P.cellsOf f.type) r n
def E9 (P:Program) (e:TypeId):Nat→Nat→List Field
 | _,0=>[]
 | o,k+1=>⟨"",e,o,false, "", "",0⟩::E9 P e (o+P.cellsOf e) k
theorem EG {P:Program} {e:TypeId}:∀ {o k:Nat},(E9 P e o k).length=k
 | _,0=>rfl
 | o,k+1=>congrArg Nat.succ (EG (o:=o+P.cellsOf e) (k:=k))
theorem L8 {P:Program} {e:TypeId}:∀ {k o i:Nat} {f:Field},(E9 P e o k)[i]?=some f→f.type=e∧f.offset=o+i*P.cellsOf e
 | 0,o,i,f,h=>by cases h
 | k+1,o,0,f,h=>by
  obtain rfl:=Option.some.inj h;exact⟨rfl,by rw [Nat.zero_mul];rfl⟩
 | k+1,o,i+1,f,h=>by
  have:=L8 (k:=k) (i:=i) (show (E9 P e (o+P.cellsOf e) k)[i]?=some f from h);refine⟨this.1,?_⟩;rw [this.2,Nat.add_mul];omega
def wN (P:Program):Nat→TypeId→Bool
 | 0,_=>false
 | n+1,t=>match P.underlying t with
  | some .bool=>true
  | some (.int _)=>true
  | some .string=>true
  | some (.slice e)=>wN P n e&&Nat.blt 0 (P.cellsOf e)
  | some (.struct fs)=>A0 P 0 fs.toList (P.cellsOf t)&&fs.toList.all fun f=>wN P n f.type
  | some (.array k e)=>A0 P 0 (E9 P e 0 k) (P.cellsOf t)&&(E9 P e 0 k).all fun f=>wN P n f.type
  | _=>false
def ShF (S:TypeId→List PV→Prop) (c:TypeId→Nat):List Field→List PV→Prop
 | [],ps=>ps=[]
 | f::r,ps=>∃ a b,ps=a++b∧a.length=c f.type∧S f.type a∧ShF S c r b
def Sh (P:Program) (B:Nat):Nat→TypeId→List PV→Prop
 | 0,_,_=>False
 | n+1,t,ps=>match P.underlying t with
  | some .bool=>∃ b,ps=[.bool b]
  | some (.int k)=>∃ i,ps=[.int k i]∧(Lit.int k i).wf=true
  | some .string=>∃ s,ps=[.str s]∧s.size≤B
  | some (.slice e)=>∃ rows,ps=[.sl rows]∧rows.length≤B∧∀ r∈rows,r.length=P.cellsOf e∧Sh P B n e r
  | some (.struct fs)=>ShF (fun t ps=>Sh P B n t ps) P.cellsOf fs.toList ps
  | some (.array k e)=>ShF (fun t ps=>Sh P B n t ps) P.cellsOf (E9 P e 0 k) ps
  | _=>False
abbrev VK (W:World):Nat→Prop:=fun b=>b < W.heap.size
theorem aA3 {W:World} {a:Addr} {v:Value} (h:W.cell? a=some v):a.spot=none∧VK W a.block:=by
 unfold World.cell? at h
 split at h
 ·next c t fr e =>
  refine⟨?_,(Array.getElem?_eq_some_iff.1 e).1⟩;cases hs:a.spot with
  | none=>rfl
  | some k=>rw [hs] at h;simp at h
 cases h
section
variable {H:Type} {enc:TypeId×Value→H} {P:Program} {W:World} {B:Nat}
theorem LX {P:Program}:∀ {fs:List Field} {o n:Nat},A0 P o fs n=true→o≤n
 | [],o,n,h=>Nat.le_of_eq (Nat.eq_of_beq_eq_true h)
 | f::fs,o,n,h=>by
  simp only [A0,aJA] at h;have:=LX h.2;omega
theorem D9 {m n:Nat} {cs:List Value} (hn:∀ (t:TypeId) (cs:List Value) (x:DataW H×List MemPlace),wN P n t=true→DataW.trod enc P W 0 (fun _=>true) true m t cs=some x→Rows.uptoBulk x.1≤B→∃ ps,PL W (VK W) cs ps∧Sh P B n t ps) :
  ∀ (fs:List Field) (xs:List (DataW H×List MemPlace)) (o:Nat),A0 P o fs cs.length=true→(fs.all fun f=>wN P n f.type)=true→xs.length=fs.length →
   (∀ (i:Nat) (f:Field),fs[i]?=some f→DataW.trod enc P W 0 (fun _=>true) true m f.type ((cs.drop f.offset).take (P.cellsOf f.type))=xs[i]?)→Rows.uptoBulkAll (xs.map (·.1))≤B →
   ∃ ps,PL W (VK W) (cs.drop o) ps∧ShF (fun t ps=>Sh P B n t ps) P.cellsOf fs ps
 | [],xs,o,hc,_,hl,hx,hb=>by
  have:o=cs.length:=Nat.eq_of_beq_eq_true hc;subst this;exact⟨[],by rw [List.drop_length];exact .nil,rfl⟩
 | f::fs,[],o,hc,_,hl,hx,hb=>by simp at hl
 | f::fs,x::xs,o,hc,hp,hl,hx,hb=>by
  simp only [A0,aJA] at hc;have ho:f.offset=o:=Nat.eq_of_beq_eq_true hc.1;simp only [List.all_cons,aJA] at hp;simp only [List.map_cons,Rows.uptoBulkAll] at hb;have h0:=hx 0 f rfl;simp only [List.getElem?_cons_zero] at h0;rw [ho] at h0;obtain ⟨a,a1,a2⟩:=hn f.type _ x hp.1 h0 (by omega);obtain ⟨b,b1,b2⟩:=D9 hn fs xs (o+P.cellsOf f.type) hc.2 hp.2 (by simpa using hl) (fun i g hg=>hx (i+1) g hg) (by omega);have hle:=LX hc.2;have hal:a.length=P.cellsOf f.type:=by
   rw [← a1.length,aJF,aJG];omega
  refine⟨a++b,?_,a,b,rfl,hal,a2,b2⟩;have:=a1.append b1
  rwa [← List.drop_drop,List.take_append_drop] at this
theorem FS:∀ (n:Nat) (t:TypeId),wN P n t=true→∀ (m:Nat) (cs:List Value) (x:DataW H×List MemPlace),DataW.trod enc P W 0 (fun _=>true) true m t cs=some x→Rows.uptoBulk x.1≤B→∃ ps,PL W (VK W) cs ps∧Sh P B n t ps
 | 0,t,hp,m,cs,x,h,hb=>by cases hp
 | n + 1, t, hp, m, cs, x, h, hb => by
  unfold wN at hp
  split at hp
  ·next ht =>
   obtain ⟨b,rfl,rfl⟩:=DataW.trod_bool ht h;exact⟨[.bool b],.cons (.bool b) .nil,by unfold Sh;rw [ht];exact⟨b,rfl⟩⟩
  ·next k ht =>
   obtain ⟨i,rfl,rfl,hw⟩:=DataW.trod_int ht h;exact⟨[.int k i],.cons (.int k i) .nil,by unfold Sh;rw [ht];exact⟨i,rfl,hw⟩⟩
  ·next ht =>
   obtain ⟨s,rfl,rfl,hs⟩:=DataW.trod_string ht h;have hsz:s.size≤B:=by
    have e1:s.data.toList.length=s.size:=Array.length_toList;simp only [Rows.uptoBulk] at hb;omega
   exact⟨[.str s],.cons (.str s) .nil,by unfold Sh;rw [ht];exact⟨s,rfl,hsz⟩⟩
  ·next e ht =>
   simp only [aJA,Nat.blt_eq] at hp;obtain ⟨hpe,hsz⟩:=hp;rcases DataW.trod_slice ht h with⟨rfl,rfl⟩|⟨a,len,cap,elems,rest,m',rfl,rfl,rfl,_,hlc,hmax,hlen,hel,hre,_⟩
   ·exact⟨[.sl []],.cons .nilsl .nil,by unfold Sh;rw [ht];exact⟨[],rfl,by simp,by simp⟩⟩
   obtain ⟨hrl,hre⟩:=hre rfl;simp only [Rows.uptoBulk] at hb;rcases Nat.eq_zero_or_pos cap with hc0|hcpos
   ·have hl0:len=0:=by omega
    subst hl0 hc0;exact⟨[.sl []],.cons (.empsl a) .nil,by unfold Sh;rw [ht];exact⟨[],rfl,by simp,by simp⟩⟩
   have hcell:∃ v,W.cell? a=some v:=by
    rcases Nat.eq_zero_or_pos len with hl0|hlp
    ·subst hl0;have h0:=hre 0 (by omega);have hr0:=List.getElem?_eq_getElem (l:=rest) (i:=0) (by omega);rw [hr0,Option.bind_eq_some_iff] at h0;obtain ⟨c0,q1,_⟩:=h0;obtain ⟨_,q2,q3⟩:=World.cells?_some q1;have:=q3 0 hsz;simp only [Nat.add_zero,Nat.zero_mul] at this;rw [Addr.add_zero',Addr.add_zero',aIw (by omega)] at this;exact⟨_,this⟩
    have h0:=hel 0 hlp;have hr0:=List.getElem?_eq_getElem (l:=elems) (i:=0) (by omega);rw [hr0,Option.bind_eq_some_iff] at h0;obtain ⟨c0,q1,_⟩:=h0;obtain ⟨_,q2,q3⟩:=World.cells?_some q1;have:=q3 0 hsz;simp only [Nat.zero_mul] at this;rw [Addr.add_zero',Addr.add_zero',aIw (by omega)] at this;exact⟨_,this⟩
   obtain ⟨v0,hv0⟩:=hcell;obtain ⟨hspot,hold⟩:=aA3 hv0;obtain ⟨b,off,sp⟩:=a;simp only at hspot hold;subst hspot;have hrow:∀ i,i < len→∃ ps:List PV,∃ ci,W.cells? 0 (Addr.add ⟨b,off,none⟩ (i*P.cellsOf e)) (P.cellsOf e)=some ci∧PL W (VK W) ci ps∧Sh P B n e ps:=by
    intro i hi;have h0:=hel i hi;have hr0:=List.getElem?_eq_getElem (l:=elems) (i:=i) (by omega);rw [hr0,Option.bind_eq_some_iff] at h0;obtain ⟨ci,q1,q2⟩:=h0;have hbi:Rows.uptoBulk (elems[i]'(by omega)).1≤B:=by
     have:=aBa (List.mem_map_of_mem (f:=fun x:DataW H×List MemPlace=>x.1) (List.getElem_mem (l:=elems) (n:=i) (by omega)));omega
    obtain ⟨ps,s1,s2⟩:=FS n e hpe m' ci _ q2 hbi;exact⟨ps,ci,q1,s1,s2⟩
   obtain ⟨rows,r1,r2⟩:∃ rows:List (List PV),rows.length=len∧∀ i r,rows[i]?=some r→∃ ci,W.cells? 0 (Addr.add ⟨b,off,none⟩ (i*P.cellsOf e)) (P.cellsOf e)=some ci∧PL W (VK W) ci r∧Sh P B n e r:=by
    refine⟨(List.range len).map (fun i=>if h:i < len then(hrow i h).choose else[]),by simp,fun i r hr=>?_⟩;rw [aJL] at hr;obtain ⟨j,hj,rfl⟩:=Option.map_eq_some_iff.1 hr;obtain ⟨hlt,hj⟩:=aIv.1 hj;rw [List.getElem_range] at hj;subst hj;have hi:i < len:=by simpa using hlt
    rw [dif_pos hi];exact(hrow i hi).choose_spec
   have hcl:∀ (i:Nat) (r:List PV),rows[i]?=some r→r.length=P.cellsOf e:=fun i r hr=>by
    obtain ⟨ci,c1,c2,c3⟩:=r2 i r hr;rw [← c2.length];exact(World.cells?_some c1).2.1
   refine⟨[.sl rows],.cons ?_ .nil,by
    unfold Sh;rw [ht];refine⟨rows,rfl,?_,fun r hr=>?_⟩
    ·have:=aBb (elems.map (·.1));simp only [aIr] at this;omega
    obtain ⟨i,hi⟩:=aJM.1 hr;obtain ⟨ci,c1,c2,c3⟩:=r2 i r hi;exact⟨hcl i r hi,c3⟩⟩
   rw [← r1];have hcells:∀ (i:Nat) (r:List PV),rows[i]?=some r→∀ (k:Nat) (p:PV),r[k]?=some p→∃ v,W.cell? ⟨b,off+i*P.cellsOf e+k,none⟩=some v∧PRep W (VK W) v p:=by
    intro i r hr k p hk;obtain ⟨ci,c1,c2,c3⟩:=r2 i r hr;obtain ⟨_,d1,d2⟩:=World.cells?_some c1;have hkl:k < P.cellsOf e:=by rw [← hcl i r hr];exact(aIv.1 hk).1
    have e1:=d2 k hkl;rw [Addr.add_lit,Addr.add_lit] at e1;have e2:ci[k]?=some (ci[k]'(by omega)):=aIw (by omega);exact⟨_,e1.trans e2,c2.get k _ p e2 hk⟩
   refine PRep.sl b off cap (P.cellsOf e) rows (fun i k=>(W.cell? ⟨b,off+i*P.cellsOf e+k,none⟩).getD undef) hold hsz (fun r hr=>?_) (by omega) (fun i r hr k p hk=>?_) (fun i r hr k p hk=>?_)
   ·obtain ⟨i,hi⟩:=aJM.1 hr;exact hcl i r hi
   ·obtain ⟨v,v1,v2⟩:=hcells i r hr k p hk;simp [v1]
   obtain ⟨v,v1,v2⟩:=hcells i r hr k p hk;simp [v1,v2]
  ·next fs ht =>
   simp only [aJA] at hp;obtain ⟨xs,m',rfl,rfl,hl,hxl,hf⟩:=DataW.trod_struct ht h;simp only [Rows.uptoBulk] at hb;obtain ⟨ps,p1,p2⟩:=D9 (n:=n) (m:=m') (B:=B) (fun t cs x a b c=>FS n t a m' cs x b c) fs.toList xs 0 (by rw [hl];exact hp.1) hp.2 (by simpa using hxl) (fun i f hi=>hf i f (by simpa using hi)) (by omega);exact⟨ps,by simpa using p1,by unfold Sh;rw [ht];exact p2⟩
  ·next k e ht =>
   simp only [aJA] at hp;obtain ⟨xs,m',rfl,rfl,hl,hxl,hf⟩:=DataW.trod_array ht h;simp only [Rows.uptoBulk] at hb;obtain ⟨ps,p1,p2⟩:=D9 (n:=n) (m:=m') (B:=B) (fun t cs x a b c=>FS n t a m' cs x b c) (E9 P e 0 k) xs 0 (by rw [hl];exact hp.1) hp.2 (by rw [EG,hxl]) (fun i f hi=>by
    obtain ⟨g1,g2⟩:=L8 hi;have hlt:i < k:=by
     have:=(aIv.1 hi).1
     rwa [EG] at this
    rw [g1,g2,aJJ];exact hf i hlt) (by omega)
   exact⟨ps,by simpa using p1,by unfold Sh;rw [ht];exact p2⟩
  cases hp
end
end
end Go.Abs
namespace Go.Abs
open Go.Proofs.YtlnfjkdacimblaaGreatDoor Go.ChangeShapes Go.WideShapes Go.ChangeAt Go.RowKit
section
def VF (P:Program) (t:TypeId) (ps:List PV):AV :=match P.underlying t with
 | some (.struct _)=>.agg (ps.map .pv)
 | some (.array _ _)=>.agg (ps.map .pv)
 | _=>match ps with
  | [p]=>.pv p
  | _=>.any
section
variable {H:Type} {enc:TypeId×Value→H} {P:Program} {W:World} {B:Nat}
theorem PL.toV {I:Nat→Prop} {ι:fF} {Hp:aE} {cs:List Value} {ps:List PV} (h:PL W I cs ps) (i:Nat) (v:Value) (a:AV) (h1:cs[i]?=some v) (h2:(ps.map AV.pv)[i]?=some a):VRel W I ι Hp v a∧v.oneCell'=true:=by rw [aJL] at h2;obtain ⟨p,hp,rfl⟩:=Option.map_eq_some_iff.1 h2;have:=h.get i v p h1 hp;exact⟨.pv this,this.oneCell⟩
theorem aG8 {n:Nat} {t:TypeId} {v:Value} {base:Nat} (hp:wN P n t=true) (hval:Value.okWide P W .any base t v) (hno:∀ fs,P.underlying t=some (.struct fs)→False) (hno2:∀ k e,P.underlying t=some (.array k e)→False):v.cells.toList=[v]:=by
 cases n with
 | zero=>cases hp
 | succ n =>
  unfold wN at hp;unfold Value.okWide at hval
  split at hp
  ·next ht=>cases v<;>first|rfl|(simp [Cell.okWide,Cell.ok,ht] at hval)
  ·next k ht=>cases v<;>first|rfl|(simp [Cell.okWide,Cell.ok,ht] at hval)
  ·next ht=>cases v<;>first|rfl|(simp [Cell.okWide,Cell.ok,ht] at hval)
  ·next e ht=>cases v<;>first|rfl|(simp [Cell.okWide,Cell.ok,ht] at hval)
  ·next fs ht=>exact(hno fs ht).elim
  ·next k e ht=>exact(hno2 k e ht).elim
  cases hp
theorem aEK {n:Nat} {t:TypeId} {v:Value} {d:DataW H} {p:List MemPlace} {base:Nat} (ι:fF) (Hp:aE) (hp:wN P n t=true) (hval:Value.okWide P W .any base t v) (h:DataW.Trod enc P W 0 (fun _=>true) true t v d p) (hb:Rows.uptoBulk d≤B) :
  ∃ ps,Sh P B n t ps∧VRel W (VK W) ι Hp v (VF P t ps):=by
 obtain ⟨m,hm⟩:=h;obtain ⟨ps,h1,h2⟩:=FS (B:=B) n t hp m _ _ hm hb;refine⟨ps,h2,?_⟩;unfold VF
 split
 ·next fs ht =>
  unfold Value.okWide at hval;rw [ht] at hval;obtain ⟨cs,rfl,_,_⟩:=hval;have hl:=h1.length;simp only [Value.cells,Array.length_toList] at hl;refine .agg (by simpa using hl) (fun i v hv=>?_) (fun i v a hv ha=>?_)
  ·have hlt:=(Array.getElem?_eq_some_iff.1 hv).1;exact(PL.toV (ι:=ι) (Hp:=Hp) h1 i v (.pv (ps[i]'(by omega))) (by simpa [Value.cells] using hv) (by rw [aJL,aIw (by omega)];rfl)).2
  exact(PL.toV h1 i v a (by simpa [Value.cells] using hv) ha).1
 ·next k e ht =>
  unfold Value.okWide at hval;rw [ht] at hval;obtain ⟨cs,rfl,_,_⟩:=hval;have hl:=h1.length;simp only [Value.cells,Array.length_toList] at hl;refine .agg (by simpa using hl) (fun i v hv=>?_) (fun i v a hv ha=>?_)
  ·have hlt:=(Array.getElem?_eq_some_iff.1 hv).1;exact(PL.toV (ι:=ι) (Hp:=Hp) h1 i v (.pv (ps[i]'(by omega))) (by simpa [Value.cells] using hv) (by rw [aJL,aIw (by omega)];rfl)).2
  exact(PL.toV h1 i v a (by simpa [Value.cells] using hv) ha).1
 next hno hno2 =>
 split
 ·next q =>
  have hone:=aG8 hp hval (fun fs h=>hno fs h) (fun k e h=>hno2 k e h);rw [hone] at h1;exact(PL.toV h1 0 _ _ rfl rfl).1
 exact .any v
def E8 (P:Program):List TypeId→List (List PV)→List AV
 | t::ts,p::ps=>VF P t p::E8 P ts ps
 | _,_=>[]
def MA (P:Program) (B n:Nat):List TypeId→List (List PV)→Prop
 | [],[]=>True
 | t::ts,p::ps=>Sh P B n t p∧MA P B n ts ps
 | _,_=>False
theorem V8 {n:Nat} {pss:List (List PV)} (h:MA P B n [] pss):pss=[]:=by
 cases pss with
 | nil=>rfl
 | cons p ps=>exact h.elim
theorem G8 {n:Nat} {t:TypeId} {ts:List TypeId} {pss:List (List PV)} (h:MA P B n (t::ts) pss):∃ p ps,pss=p::ps∧Sh P B n t p∧MA P B n ts ps:=by
 cases pss with
 | nil=>exact h.elim
 | cons p ps=>exact⟨p,ps,rfl,h.1,h.2⟩
theorem RB {n:Nat} {base:Nat} (ι:fF) (Hp:aE):∀ {ts:List TypeId} {vs:List Value} {ds:List (DataW H)} {p:List MemPlace},DataW.TrodAll enc P W 0 (fun _=>true) true ts vs ds p→ts.all (wN P n)=true →
  (∀ (j:Nat) t v,ts[j]?=some t→vs[j]?=some v→Value.okWide P W .any base t v)→Rows.uptoBulkAll ds≤B →
  ∃ pss,MA P B n ts pss∧vs.length=(E8 P ts pss).length∧∀ (i:Nat) (v:Value) (a:AV),vs[i]?=some v→(E8 P ts pss)[i]?=some a→VRel W (VK W) ι Hp v a
 | [],vs,ds,p,h,hp,hv,hb=>by
  obtain ⟨rfl,rfl,rfl⟩:=trodAll_nil h;exact⟨[],trivial,rfl,fun i v a h=>by simp at h⟩
 | t::ts,vs,ds,p,h,hp,hv,hb=>by
  obtain ⟨v,vs',d,ds',p1,p2,rfl,rfl,rfl,h1,h2⟩:=trodAll_cons h;simp only [List.all_cons,aJA] at hp;simp only [Rows.uptoBulkAll] at hb;obtain ⟨ps,a1,a2⟩:=aEK (B:=B) ι Hp hp.1 (hv 0 t v rfl rfl) h1 (by omega);obtain ⟨pss,b1,b2,b3⟩:=RB ι Hp h2 hp.2 (fun j t v h1 h2=>hv (j+1) t v h1 h2) (by omega);refine⟨ps::pss,⟨a1,b1⟩,by simp [E8,b2],fun i v a h1 h2=>?_⟩;cases i with
  | zero=>cases h1;cases h2;exact a2
  | succ i=>exact b3 i v a h1 h2
theorem aCt (ι:fF) (W:World) (hg:JF (VK W) W):Rel (VK W) ι [] W:=⟨fun _ h=>h,fun _ _ h=>(by cases h),fun _ _ _ _ _ _ _ h=>(by cases h),hg⟩
theorem S9 {I I':Nat→Prop} {ι ι':fF} {H':aE} {w w':World} (h:Step I ι [] w I' ι' H' w'):Below w.heap.size w w' :=⟨h.os,h.tape,h.output,h.size,fun k hk=>h.keep k hk (fun⟨_,_,_,hx,_⟩=>by cases hx)⟩
theorem I9 (hl:laidOutB P=true) {W':World} (hb:Below W.heap.size W W') {sp:Nat→Bool}:∀ {ts:List TypeId} {vs:List Value} {ds:List (DataW H)} {p:List MemPlace},DataW.TrodAll enc P W 0 (fun _=>true) true ts vs ds p →
  (ts.all fun t=>P.readableRec t&&Nat.blt t P.types.size)=true→(∀ x∈p,x.block < W.heap.size)→(∀ x∈p,sp x.block=true)→DataW.TrodAll enc P W' 0 sp true ts vs ds p
 | [],vs,ds,p,h,hp,hlt,hsp=>by
  obtain ⟨rfl,rfl,rfl⟩:=trodAll_nil h;exact trodAll_mk0
 | t::ts,vs,ds,p,h,hp,hlt,hsp=>by
  obtain ⟨v,vs',d,ds',p1,p2,rfl,rfl,rfl,h1,h2⟩:=trodAll_cons h;simp only [List.all_cons,aJA,Nat.blt_eq] at hp;exact trodAll_cons_mk (WideElems.Trod_stays hl hp.1.1 hp.1.2 h1 (fun x hx=>hb.same (hlt x (by simp [hx]))) (fun x hx=>hsp x (by simp [hx])))
   (I9 hl hb h2 hp.2 (fun x hx=>hlt x (by simp [hx])) (fun x hx=>hsp x (by simp [hx])))
theorem SB {f:Func} {s:ChangeSpec} {apart fresh handsOn again:Bool} {W W':World} {args:Array Value} {v:Value} {ds gs:List (DataW H)} {eR pa pv:List MemPlace}
  (hW:DataW.Whole enc P f.params.toList s.vars apart W args.toList ds gs eR)
  (hres:∀ (b:Nat) (sp:Nat→Bool) (hd:Bool),DataW.TrodAll enc P W' b sp hd f.resultTypes.toList (v.resultList f.resultTypes.size) (s.fn H (ds++gs)).results [])
  (hargs:∀ sp:Nat→Bool,(∀ p∈eR,sp p.block=true)→DataW.TrodAll enc P W' 0 sp true f.params.toList args.toList (s.fn H (ds++gs)).args pa)
  (hvars:∀ sp:Nat→Bool,(∀ p∈eR,sp p.block=true)→DataW.TrodVars enc P W' sp s.vars (s.fn H (ds++gs)).vars pv)
  (hps:eR=pa++pv) (hb:Below W.heap.size W W')
  (hok:∀ (j:Nat) (t:TypeId) (r:Value),f.resultTypes[j]?=some t→(v.resultList f.resultTypes.size)[j]?=some r→Value.okWide P W' .any 0 t r) :
  s.post enc P f apart fresh handsOn again W args v W':=by
 have hlt:∀ p∈eR,p.block < W.heap.size:=fun p hp=>hW.lt p hp;have hold:∀ p∈eR,(fun b=>decide (b < W.heap.size)) p.block=true:=fun p hp=>by simpa using hlt p hp
 refine⟨ds,gs,eR,[],pa,pv,hW,hres _ _ _,hargs _ hold,hvars _ hold,World.keptBut_mono (fun p hp=>⟨hp,?_⟩) (hb.frame (·∈eR)),fun _=>?_⟩
 ·rw [hps,List.mem_append] at hp;exact Or.inr hp
 obtain ⟨_,_,_,_,_,hz,hn⟩:=hW;refine⟨hok,_,_,([]++pa)++pv,⟨[]++pa,pv,trodAll_append (hargs _ (fun _ _=>rfl)) (hres _ _ _),hvars _ (fun _ _=>rfl),rfl,?_,?_⟩,?_⟩
 ·intro b off hp;have hin:MemPlace.cell b off∈eR:=by rw [hps];simpa using hp
  rw [hb.frozen (hlt _ hin)];exact hz b off hin
 ·intro ha;have:=hn ha;rw [hps] at this
  simpa using this
 intro p hp _;rw [hps]
 simpa using hp
theorem aAx {n:Nat} {fid:FuncId} {f:Func} {s:ChangeSpec} {apart fresh handsOn again:Bool} {args:Array Value} {ds gs:List (DataW H)} {eR:List MemPlace} {base:Nat} {bt:TypeId}
  (hl:laidOutB P=true) (hpar:(f.params.toList.all fun t=>P.readableRec t&&Nat.blt t P.types.size)=true) (hpure:f.params.toList.all (wN P n)=true) (hvars:s.vars=[])
  (hfn:∀ ds:List (DataW H),ds.length=f.params.toList.length→(s.fn H ds).results=[.lit (.bool true)]∧(s.fn H ds).args=ds∧(s.fn H ds).vars=[])
  (hres:f.resultTypes=#[bt]) (hbt:P.underlying bt=some .bool)
  (hval:∀ (j:Nat) t v,f.params[j]?=some t→args[j]?=some v→Value.okWide P W .any base t v)
  (hW:DataW.Whole enc P f.params.toList s.vars apart W args.toList ds gs eR) (hB:Rows.uptoBulkAll ds≤B)
  (hc:∀ pss,MA P B n f.params.toList pss→aH P fid (E8 P f.params.toList pss) [] (fun r H'=>r=.pv (.bool true)∧H'=[])) (hg:JF (VK W) W:=by exact fun p hp=>by cases hp) :
  Calls P fid args W fun e W'=>∃ v,e=.returned v∧s.post enc P f apart fresh handsOn again W args v W':=by
 have hW':=hW;obtain ⟨p,q,hA,hV,rfl,hfz,hnd⟩:=hW;rw [hvars] at hV;obtain ⟨rfl,rfl⟩:=trodVars_none hV;obtain ⟨pss,h1,h2,h3⟩:=RB (B:=B) (base:=base) (fun _=>none) [] hA hpure (fun j t v ht hv=>hval j t v (by simpa using ht) (by simpa using hv)) hB;have hlen:ds.length=f.params.toList.length:=by
  clear h1 h2 h3 hc hfn hpar hpure hval hW' hB hfz hnd;revert hA;generalize f.params.toList=ts;generalize args.toList=vs;intro hA;clear hV
  induction ts generalizing vs ds p with
  | nil=>obtain ⟨_,rfl,_⟩:=trodAll_nil hA;rfl
  | cons t ts ih =>
   obtain ⟨v,vs',d,ds',p1,p2,_,rfl,_,_,h2⟩:=trodAll_cons hA;simp [ih _ _ h2]
 refine(hc pss h1 (VK W) (fun _=>none) W args (aCt _ W hg) (by simpa using h2) (fun i v a ha hb=>h3 i v a (by simpa using ha) hb)).mono ?_;rintro e W' ⟨r,H',I',ι',v,rfl,⟨rfl,rfl⟩,hv,hr,hst⟩;have hvb:v=.bool true:=hv.bool_inv;subst hvb;have hbel:=S9 hst;obtain ⟨f1,f2,f3⟩:=hfn (ds++[]) (by simpa using hlen);refine⟨_,rfl,SB (pa:=p) (pv:=[]) hW' (fun b sp hd=>?_) (fun sp hsp=>?_) (fun sp hsp=>?_) rfl hbel (ok_one hres rfl (okWide_bool_mk hbt _))⟩
 ·rw [f1,hres];exact trodAll_cons_mk (shut_bool hbt _) trodAll_mk0
 ·rw [f2,List.append_nil];exact I9 hl hbel hA hpar (fun x hx=>hW'.lt x (by simp [hx])) (fun x hx=>hsp x (by simp [hx]))
 rw [f3,hvars];rfl
theorem MN {n:Nat} {t:TypeId} {k:IntKind} {ps:List PV} (ht:P.underlying t=some (.int k)) (h:Sh P B (n+1) t ps):∃ i,ps=[.int k i]∧(Lit.int k i).wf=true:=by unfold Sh at h;rw [ht] at h;exact h
theorem tN {n:Nat} {t:TypeId} {ps:List PV} (ht:P.underlying t=some .string) (h:Sh P B (n+1) t ps):∃ s,ps=[.str s]∧s.size≤B:=by unfold Sh at h;rw [ht] at h;exact h
theorem yI {n:Nat} {t:TypeId} {fs:Array Field} {ps:List PV} (ht:P.underlying t=some (.struct fs)) (h:Sh P B (n+1) t ps):ShF (fun t ps=>Sh P B n t ps) P.cellsOf fs.toList ps:=by unfold Sh at h;rw [ht] at h;exact h
theorem MM {n:Nat} {t e:TypeId} {ps:List PV} {α:Type} {f:α→List PV} {good:α→Prop} (ht:P.underlying t=some (.slice e)) (h:Sh P B (n+1) t ps) (hd:∀ r,Sh P B n e r→∃ a,r=f a∧good a) :
  ∃ l:List α,ps=[.sl (l.map f)]∧l.length≤B∧∀ a,a∈l→good a:=by
 unfold Sh at h;rw [ht] at h;obtain ⟨rows,rfl,hlen,hr⟩:=h;obtain ⟨l,h1,h2⟩:∃ l:List α,rows=l.map f∧∀ a,a∈l→good a:=by
  clear hlen
  induction rows with
  | nil=>exact⟨[],rfl,by simp⟩
  | cons r rs ih =>
   obtain ⟨l,h1,h2⟩:=ih (fun r h=>hr r (by simp [h]));obtain ⟨a,a1,a2⟩:=hd r (hr r (by simp)).2;refine⟨a::l,by simp [a1,h1],fun b hb=>?_⟩;rcases aJD.1 hb with e|e
   ·subst e;exact a2
   exact h2 b e
 subst h1;exact⟨l,rfl,by simpa using hlen,h2⟩
end
end
end Go.Abs
namespace Go.Proofs.YtlnfjkdacimblaaGreatDoor
open Go.Proofs.Tryz
open Go.Abs
section
def wfI (n:Int):Prop:=(Lit.int .i64 n).wf=true
def ZO (B:Nat) (t:GTag):Prop:=t.key.size≤B∧t.val.size≤B
def RS (B:Nat) (l:List ByteArray):Prop:=l.length≤B∧∀ s,s∈l→s.size≤B
def RR (B:Nat) (l:List GTag):Prop:=l.length≤B∧∀ s,s∈l→ZO B s
def ZP (B:Nat) (o:GObj):Prop:=o.id.size≤B∧wfI o.kind∧wfI o.x∧wfI o.y∧RS B o.refs∧RR B o.tags
def MJ (B:Nat) (e:GEdit):Prop:=wfI e.op∧e.id.size≤B∧e.other.size≤B∧e.node.size≤B∧wfI e.x∧wfI e.y∧e.key.size≤B∧e.val.size≤B∧RS B e.refs∧ZP B e.obj
def MI (B:Nat) (l:List GEdit):Prop:=l.length≤B∧∀ e,e∈l→MJ B e
section
variable {B n:Nat} {ps:List PV}
theorem aB5 (h:Sh Tryz.prog B (n+2) 46 ps):∃ l,ps=[cS l]∧RS B l:=by
 obtain ⟨l,rfl,h1,h2⟩:=MM (f:=encStr) (good:=fun s=>s.size≤B) aK h (fun r hr=>by
  obtain ⟨s,rfl,hs⟩:=tN underlying9 hr;exact⟨s,rfl,hs⟩)
 exact⟨l,rfl,h1,h2⟩
theorem aGu (h:Sh Tryz.prog B (n+2) 117 ps):∃ t,ps=aQ t∧ZO B t:=by obtain ⟨a,b,rfl,_,h1,a2,b2,rfl,_,h2,rfl⟩:=yI underlying117 h;obtain ⟨k,rfl,hk⟩:=tN underlying9 h1;obtain ⟨v,rfl,hv⟩:=tN underlying9 h2;exact⟨⟨k,v⟩,rfl,hk,hv⟩
theorem aFu (h:Sh Tryz.prog B (n+3) 47 ps):∃ l,ps=[iL l]∧RR B l:=by obtain ⟨l,rfl,h1,h2⟩:=MM (f:=aQ) (good:=ZO B) cK h (fun r hr=>aGu hr);exact⟨l,rfl,h1,h2⟩
theorem U9 (h:Sh Tryz.prog B (n+2) 45 ps):∃ x y,ps=[.int .i64 x,.int .i64 y]∧wfI x∧wfI y:=by obtain ⟨a,b,rfl,_,h1,a2,b2,rfl,_,h2,rfl⟩:=yI underlying45 h;obtain ⟨x,rfl,hx⟩:=MN underlying3 h1;obtain ⟨y,rfl,hy⟩:=MN underlying3 h2;exact⟨x,y,rfl,hx,hy⟩
theorem aGw (h:Sh Tryz.prog B (n+4) 49 ps):∃ o,ps=aG o∧ZP B o:=by obtain ⟨_,_,rfl,_,h1,_,_,rfl,_,h2,_,_,rfl,_,h3,_,_,rfl,_,h4,_,_,rfl,_,h5,rfl⟩:=yI jS h;obtain ⟨id,rfl,q1⟩:=tN underlying9 h1;obtain ⟨k,rfl,q2⟩:=MN underlying3 h2;obtain ⟨x,y,rfl,q3,q4⟩:=U9 h3;obtain ⟨rs,rfl,q5⟩:=aB5 h4;obtain ⟨ts,rfl,q6⟩:=aFu h5;exact⟨⟨id,k,x,y,rs,ts⟩,rfl,q1,q2,q3,q4,q5,q6⟩
end
theorem WV {B:Nat} {l:List GTag} (hB:B < 4611686018427387904) (h:RR B l):rW l:=⟨by have:=h.1;omega,fun t ht=>⟨by have:=(h.2 t ht).1;omega,by have:=(h.2 t ht).2;omega⟩⟩
theorem aFZ {B:Nat} {o:GObj} (hB:B < 4611686018427387904) (h:ZP B o):DO o :=⟨by have:=h.1;omega,WV hB h.2.2.2.2.2,by have:=h.2.2.2.2.1.1;omega,fun s hs=>by have:=h.2.2.2.2.1.2 s hs;omega⟩
section
variable {B n:Nat} {ps:List PV}
theorem aGv (h:Sh Tryz.prog B (n+1) 9 ps):∃ s,ps=[.str s]∧s.size≤B:=by obtain ⟨k,rfl,hk⟩:=tN underlying9 h;exact⟨k,rfl,hk⟩
end
end
end Go.Proofs.YtlnfjkdacimblaaGreatDoor
namespace Go.Proofs.YtlnfjkdacimblaaGreatDoor
open Go.Proofs.Tryz
open Go.Abs Go.ChangeShapes Go.WideShapes Go.ChangeAt Go.RowKit
theorem own:ownKnob Tryz.prog.godebug=none:=by kernel_rfl
theorem UU:laidOutB Tryz.prog=true:=by kernel_rfl
theorem RM {H:Type} {l:List (DataW H)} (hk:Rows.uptoSmall H l=true):Rows.uptoBulkAll l≤1048576:=aIn hk
theorem XV {H:Type} {l r:List (DataW H)} {n:Nat} (h:Rows.uptoBulkAll (l++r)≤n):Rows.uptoBulkAll l≤n:=by
 induction l generalizing n with
 | nil=>simp [Rows.uptoBulkAll]
 | cons x l ih =>
  simp only [List.cons_append,Rows.uptoBulkAll] at h ⊢;have:=ih (n:=n - Rows.uptoBulk x) (by omega);omega
end Go.Proofs.YtlnfjkdacimblaaGreatDoor
namespace Go.Proofs.YtlnfjkdacimblaaGreatDoor
open Go.Proofs.Tryz
open Go.Abs
section
section
variable {B n:Nat} {ps:List PV}
theorem aFv (h:Sh Tryz.prog B (n+5) 51 ps):∃ o,ps=aJ o∧MJ B o:=by obtain ⟨_,_,rfl,_,h1,_,_,rfl,_,h2,_,_,rfl,_,h3,_,_,rfl,_,h4,_,_,rfl,_,h5,_,_,rfl,_,h6,_,_,rfl,_,h7,_,_,rfl,_,h8,_,_,rfl,_,h9,rfl⟩:=yI fN h;obtain ⟨op,rfl,q1⟩:=MN underlying3 h1;obtain ⟨id,rfl,q2⟩:=tN underlying9 h2;obtain ⟨ot,rfl,q3⟩:=tN underlying9 h3;obtain ⟨nd,rfl,q4⟩:=tN underlying9 h4;obtain ⟨x,y,rfl,q5,q6⟩:=U9 h5;obtain ⟨k,rfl,q7⟩:=tN underlying9 h6;obtain ⟨v,rfl,q8⟩:=tN underlying9 h7;obtain ⟨rs,rfl,q9⟩:=aB5 h8;obtain ⟨o,rfl,q10⟩:=aGw h9;exact⟨⟨op,id,ot,nd,x,y,k,v,rs,o⟩,rfl,q1,q2,q3,q4,q5,q6,q7,q8,q9,q10⟩
theorem aDy (h:Sh Tryz.prog B (n+6) 22 ps):∃ l,ps=[cD l]∧MI B l:=by obtain ⟨l,rfl,h1,h2⟩:=MM (f:=aJ) (good:=MJ B) cB h (fun r hr=>aFv hr);exact⟨l,rfl,h1,h2⟩
end
end
theorem qY {α:Type} (f:α→List PV) (l:List α):l.map (fun e=>(f e).map AV.pv)=(l.map f).map (·.map .pv):=by rw [List.map_map];rfl
def nm (i:Nat):ByteArray:=⟨#[110,49+UInt8.ofNat i]⟩
theorem aF1 {B:Nat} {e:GEdit} (hB:B < 4611686018427387904) (h:MJ B e):tQ e :=⟨⟨by have:=h.2.1;omega,by have:=h.2.2.1;omega,by have:=h.2.2.2.1;omega,by have:=h.2.2.2.2.2.2.1;omega⟩,
  ⟨by have:=h.2.2.2.2.2.2.2.2.1.1;omega,fun s hs=>by have:=h.2.2.2.2.2.2.2.2.1.2 s hs;omega⟩,aFZ hB h.2.2.2.2.2.2.2.2.2⟩
theorem DK (n:Int) (H:aE):aH Tryz.prog 151 [.pv (.int .u8 n)] H (fun r H'=>r=bv (p8 n)∧H'=H):=by
 refine Pu ?_;refine Bd func151 rfl ntmps151<|Sr<|Dd aO<|Zz<|Sq ?_;refine bD (t:=2) (n:=18) (X:=p8 n) ?_ ?_
 ·all_goals refine Dd aD ?_
  all_goals refine Dd wP<|Dm ?_
  all_goals refine Sp 5 (fun h5=>?_) fun h5=>?_
  all_goals try contradiction
  all_goals first|refine Fo<|Fo ?_|refine On aD<|On JK ?_
  all_goals refine Dd dI<|Dm ?_
  all_goals refine Sp 9 (fun h9=>?_) fun h9=>?_
  all_goals try contradiction
  all_goals first|refine Fo<|Fo<|Fo ?_|refine On aD<|On wP<|On aD ?_
  all_goals(first|refine Sp 12 (fun h12=>?_) fun h12=>?_|refine x8 (t:=12) rfl ?_)
  all_goals try contradiction
  all_goals first|refine Fo ?_|refine Fu ?_|refine On aD ?_
  all_goals first|refine Fo ?_|refine Fu ?_|refine On JK ?_
  all_goals first|refine Fo ?_|refine On dI ?_
  all_goals refine Dd dI<|Da ?_
  all_goals(exact⟨⟨_,rfl,by(simp only [p8, *];rfl)⟩,rfl,rfl,rfl⟩)
 exact aC<|Rt<|Qq
theorem HH (n:Int) (H:aE):aH Tryz.prog 188 [.pv (.int .u8 n)] H (fun r H'=>r=bv (sA n)∧H'=H):=by
 refine Pu ?_;refine Bd func188 rfl ntmps188<|Sr<|Dd aO<|Zz<|Sq ?_;refine bD (t:=2) (n:=8) (X:=sA n) ?_ ?_
 ·all_goals refine Dd aD ?_
  all_goals refine Dd wP<|Dm ?_
  all_goals refine Sp 5 (fun h5=>?_) fun h5=>?_
  all_goals try contradiction
  all_goals first|refine Fo<|Fo ?_|refine On aD<|On JK ?_
  all_goals refine Dd dI<|Da ?_
  all_goals(exact⟨⟨_,rfl,by(simp only [sA, *];rfl)⟩,rfl,rfl,rfl⟩)
 exact aC<|Rt<|Qq
def W7 (n:Int):Bool:=(p8 n||sA n)||decide (n=95)
theorem MW (n:Int) (H:aE):aH Tryz.prog 150 [.pv (.int .u8 n)] H (fun r H'=>r=bv (W7 n)∧H'=H):=by
 refine Pu ?_;refine Bd func150 rfl ntmps150<|Sr<|Dd aO<|Zz<|Sq ?_;refine bD (t:=2) (n:=13) (X:=W7 n) ?_ ?_
 ·all_goals refine Dd aD ?_
  all_goals refine Dd (by exact aA rfl rfl aIF rfl (DK n _))<|Dm ?_
  all_goals refine Sp 5 (fun h5=>?_) fun h5=>?_
  all_goals try contradiction
  all_goals first|refine Fo<|Fo ?_|refine On aD<|On (by exact aA rfl rfl aIC rfl (HH n _)) ?_
  all_goals refine Dd dI<|Dm ?_
  all_goals refine Sp 9 (fun h9=>?_) fun h9=>?_
  all_goals try contradiction
  all_goals first|refine Fo<|Fo ?_|refine On aD<|On cI ?_
  all_goals refine Dd dI<|Da ?_
  all_goals(exact⟨⟨_,rfl,by(simp only [W7, *];rfl)⟩,rfl,rfl,rfl⟩)
 exact aC<|Rt<|Qq
theorem aEB:∀ n:Fin 256,(decide (sF (n.val:Int)=3)=p8 (n.val:Int))∧(decide (sF (n.val:Int)=4)=sA (n.val:Int))∧(decide (sF (n.val:Int)=5)=decide ((n.val:Int)=95)):=by decide +kernel
theorem IX (s:ByteArray) (k:Nat):(decide (sF (bP s k)=3)=p8 (bP s k))∧(decide (sF (bP s k)=4)=sA (bP s k))∧(decide (sF (bP s k)=5)=decide (bP s k=95)):=by have h:=aEB ⟨(bP s k).toNat,u5 s k⟩;simp only [Int.toNat_of_nonneg (u4 s k)] at h;exact h
def aEJ (s:ByteArray) (k:Nat):Bool:=!W7 (bP s k)
def K4 (s:ByteArray):Bool:=!((List.range s.size).any (aEJ s))&&(decide ((0:Int) < (s.size:Int))&&decide ((s.size:Int)≤24)&&p8 (bP s 0))
theorem O1 {s:ByteArray}:s=aP↔s.size=0:=by
 constructor
 ·rintro rfl;rfl
 intro h;exact ByteArray.ext (Array.eq_empty_of_size_eq_zero h)
theorem aAL (s:ByteArray):K4 s=bU s:=by
 have hb:∀ k,KB s k=(!p8 (bP s k)&&(decide ((k:Int)=0)||(!sA (bP s k)&&!decide (bP s k=95)))):=fun k=>by
  obtain ⟨a,b,c⟩:=IX s k;rw [KB,a,b,c]
 rw [Bool.eq_iff_iff,K4,bU];simp only [aJA,aJK,aIy,aIz,List.any_eq_false,List.mem_range,O1,aEJ,hb];constructor
 ·rintro⟨h1,⟨h2,h3⟩,h4⟩;refine⟨fun k hk=>?_,by omega,h3⟩;have:=h1 k hk;by_cases k0:k=0
  ·subst k0;simp [h4]
  have hw:W7 (bP s k)=true:=by
   cases e:W7 (bP s k)with
   | true=>rfl
   | false=>exact absurd e this
  simp only [W7,Bool.or_eq_true,aIy] at hw;rcases hw with(h|h)|h
  ·simp [h]
  ·simp [h,k0]
  simp [h,k0]
 rintro⟨h1,h2,h3⟩;refine⟨fun k hk=>?_,⟨by omega,h3⟩,?_⟩
 ·have:=h1 k hk;intro hw;apply this;simp only [W7,aJK,aJN] at hw;simp [hw.1.1,hw.1.2,hw.2]
 have:=h1 0 (by omega);cases hl:p8 (bP s 0)with
 | true=>rfl
 | false=>exact absurd (by simp [hl]) this
theorem aAM (s:ByteArray) (H:aE) (hs:s.size < 4611686018427387904):aH Tryz.prog 95 [sv s] H (fun r H'=>r=bv (K4 s)∧H'=H):=by
 refine Pu ?_;refine Bd func95 rfl ntmps95<|Sr<|Dd aO<|Zz<|Sq<|Sr<|Dd aO<|Zz<|aF ?_;refine bG (σ:=Nat) (fun k=>([(0,sv s),(3,iv (k:Int))],[])) (fun k=>k≤s.size∧∀ j,j < k→aEJ s j=false) (fun k=>s.size - k) 0 ⟨by omega,by omega⟩ ?_ ?_
 ·exact E0
 rintro k ⟨hk,hno⟩;refine Sq<|Sr<|Dd aD<|Dd aD<|Dd (jJ underlying9)<|Dd dD<|Zz ?_;refine Cn ?_ ?_<;>intro hc1
 ·have hlt:k < s.size:=by have:=aIn hc1;omega
  refine aB<|Sq<|aF<|Sr<|Dd aD<|Dd aD<|Dd (by exact cF rfl underlying9 rfl rfl (by omega) (by exact aJC _) (by omega) rfl)<|Dd (by exact aA rfl rfl aIG rfl (MW (bP s k) _))<|Dd jU<|Zz ?_;refine Cn ?_ ?_<;>intro hc2
  ·have hb:aEJ s k=true:=hc2;refine Sr<|Dd aO<|Zz<|aC<|Rt ?_;exact⟨by rw [K4,m4 hlt hb];rfl,rfl⟩
  refine aB<|Rg<|Dd aD<|Dd eL<|Da ?_;refine⟨k+1,⟨by omega,fun j hj=>?_⟩,by omega,E0⟩;by_cases e:j=k
  ·subst e;exact hc2
  exact hno j (by omega)
 have hge:k=s.size:=by have:=aIo hc1;omega
 have hr:K4 s=(decide ((0:Int) < (s.size:Int))&&decide ((s.size:Int)≤24)&&p8 (bP s 0)):=by
  subst hge;rw [K4,oZ hno];rfl
 rw [hr];clear hr;by_cases h0:(0:Int) < (s.size:Int)
 ·have d0:=decide_eq_true h0;have h00:0 < s.size:=by omega
  rw [d0,Bool.true_and];by_cases h24:(s.size:Int)≤24
  ·have d1:=decide_eq_true h24;rw [d1,Bool.true_and];exact aZ<|Sr<|Dd aD<|Dd (jJ underlying9)<|Dd kC<|Dd aD<|Oa aD<|Oa (jJ underlying9)<|Oa JK<|Dd xI<|Dd aD<|Oa aD<|Oa (by exact cF rfl underlying9 rfl rfl (by omega) (by exact aJC _) (by omega) rfl)<|Oa (by exact aA rfl rfl aIF rfl (DK (bP s 0) _))<|Dd xI<|Dd aO<|Zz<|aC<|Rt<|Qq
  have d1:=decide_eq_false h24;rw [d1];exact aZ<|Sr<|Dd aD<|Dd (jJ underlying9)<|Dd kC<|Dd aD<|Oa aD<|Oa (jJ underlying9)<|Oa JK<|Dd xI<|Dd aD<|Fa<|Fa<|Fa<|Dd rJ<|Dd aO<|Zz<|aC<|Rt<|Qq
 have d0:=decide_eq_false h0;rw [d0];exact aZ<|Sr<|Dd aD<|Dd (jJ underlying9)<|Dd kC<|Dd aD<|Fa<|Fa<|Fa<|Dd rJ<|Dd aD<|Fo<|Fo<|Fo<|Dd dI<|Dd aO<|Zz<|aC<|Rt<|Qq
theorem jZ (s:ByteArray) (H:aE) (hs:s.size < 4611686018427387904):aH Tryz.prog 95 [sv s] H (fun r H'=>r=bv (bU s)∧H'=H):=by rw [← aAL];exact aAM s H hs
theorem aEY (x y:Int) (H:aE):aH Tryz.prog 96 [.agg [iv x,iv y]] H (fun r H'=>r=bv (QI x y)∧H'=H):=by
 refine Pu ?_;refine Bd func96 rfl ntmps96<|Sr<|Dd (by exact cE (id:=1) rfl rfl rfl rfl rfl)<|Dd aO<|Zz<|Sq ?_;refine bD (t:=2) (n:=22) (X:=QI x y) ?_ ?_
 ·all_goals refine Dd (bH qL) ?_
  all_goals refine Dd (cA isAgg3)<|Dd wP<|Dm ?_
  all_goals refine Sp 6 (fun h6=>?_) fun h6=>?_
  all_goals try contradiction
  all_goals first|refine Fo<|Fo<|Fo ?_|refine On (bH qL)<|On (cA isAgg3)<|On dD ?_
  all_goals refine Dd dI<|Dm ?_
  all_goals refine Sp 11 (fun h11=>?_) fun h11=>?_
  all_goals try contradiction
  all_goals first|refine Fo<|Fo<|Fo ?_|refine On (bH qK)<|On (cA isAgg3)<|On wP ?_
  all_goals refine Dd dI<|Dm ?_
  all_goals refine Sp 16 (fun h16=>?_) fun h16=>?_
  all_goals try contradiction
  all_goals first|refine Fo<|Fo<|Fo ?_|refine On (bH qK)<|On (cA isAgg3)<|On dD ?_
  all_goals refine Dd dI<|Da ?_
  all_goals(exact⟨⟨_,rfl,by(simp only [QI, *];rfl)⟩,rfl,rfl,rfl⟩)
 exact aC<|Rt<|Qq
theorem WA {n:Nat} (h0:1≤n) (h1:n≤5):[encStr aP,encStr ⟨#[110,111,100,101]⟩,encStr ⟨#[119,97,121]⟩,encStr ⟨#[97,114,101,97]⟩,encStr ⟨#[114,111,117,116,101]⟩,encStr ⟨#[116,117,114,110]⟩][n]?=some (encStr (dW (n:Int))):=by
 match n,h0,h1 with
 | 1,_,_=>rfl
 | 2,_,_=>rfl
 | 3,_,_=>rfl
 | 4,_,_=>rfl
 | 5,_,_=>rfl
 | n+6,_,h=>exact absurd h (by omega)
theorem yM (k:Int) (H:aE):aH Tryz.prog 129 [iv k] H (fun r H'=>r=sv (dW k)∧H'=H):=by
 refine Pu ?_;refine Bd func129 rfl ntmps129<|Sr<|Dd aO<|Zz<|Sr<|Dd (by exact aT [encStr aP,encStr ⟨#[110,111,100,101]⟩,encStr ⟨#[119,97,121]⟩,encStr ⟨#[97,114,101,97]⟩,encStr ⟨#[114,111,117,116,101]⟩,encStr ⟨#[116,117,114,110]⟩] rfl cC rfl rfl rfl rfl rfl (by simp [encStr]))<|Dd aO<|Zz<|Sq<|Sq ?_;refine bD (t:=10) (n:=7) (X:=decide (k < 1)||decide (5 < k)) ?_ ?_
 ·all_goals refine Dd aD ?_
  all_goals refine Dd dD<|Dm ?_
  all_goals refine Sp 7 (fun h7=>?_) fun h7=>?_
  all_goals try contradiction
  all_goals first|refine Fo<|Fo ?_|refine On aD<|On kC ?_
  all_goals refine Dd dI<|Zz ?_
  all_goals(exact⟨⟨_,rfl,by(simp only [*,Zo];done)⟩,rfl,rfl,rfl⟩)
 refine Cn ?_ ?_<;>intro hc1
 ·have hn:¬ (k=1)∧¬ (k=2)∧¬ (k=3)∧¬ (k=4)∧¬ (k=5):=by
   simp only [Bool.or_eq_true,aIy] at hc1;omega
  refine Sr<|Dd aO<|Zz<|aC<|Rt ?_;exact⟨by simp only [dW,hn.1,hn.2.1,hn.2.2.1,hn.2.2.2.1,hn.2.2.2.2,if_false],rfl⟩
 obtain ⟨n,rfl⟩:∃ n:Nat,k=(n:Int):=⟨k.toNat,by simp only [aJN,aIz] at hc1;omega⟩;have hb:1≤n∧n≤5:=by
  simp only [aJN,aIz] at hc1;omega
 have hi:=WA hb.1 hb.2;exact aB<|Sr<|Dd aD<|Dd aD<|Dd (e8 cC)<|Dd (fM isAgg9)<|Dd aO<|Zz<|aC<|Rt<|Qq
theorem XZ (l:List GTag) (k:Nat) (t pt:GTag) (hp:0 < k→l[k - 1]?=some pt):(((!bU t.key||decide ((t.val.size:Int) < 1))||decide (200 < (t.val.size:Int)))||(decide ((0:Int) < (k:Int))&&!kR pt.key t.key))=wF (eR GTag.key l k) t:=by
 have hv:decide ((t.val.size:Int) < 1)=decide (t.val=aP):=decide_eq_decide.2 (by rw [O1];omega);rw [hv,wF];cases hg:bU t.key with
 | false=>simp
 | true =>
  have hs:sle t.key (eR GTag.key l k)=(decide ((0:Int) < (k:Int))&&!kR pt.key t.key):=by
   cases k with
   | zero =>
    have:kR aP t.key=true:=by
     cases e:kR aP t.key with
     | true=>rfl
     | false=>exact absurd (sU (ML _) e) (qB hg)
    rw [eR,BK.2 this];rfl
   | succ k =>
    have h:=hp (by omega);rw [show k+1 - 1=k from rfl] at h;rw [kO h,decide_eq_true (show (0:Int) < ((k+1:Nat):Int)by omega),Bool.true_and];cases e:kR pt.key t.key with
    | true=>rw [BK.2 e];rfl
    | false =>
     cases e2:sle t.key pt.key with
     | true=>rfl
     | false=>rw [BK] at e2;rw [e] at e2;cases e2
  rw [← hs];cases sle t.key (eR GTag.key l k)<;>cases decide (t.val=aP)<;>cases decide (200 < (t.val.size:Int))<;>rfl
theorem T7 (l:List GTag) (H:aE) (hl:rW l):aH Tryz.prog 148 [.pv (iL l)] H (fun r H'=>r=bv (nM l)∧H'=H):=by
 refine Pu ?_;obtain ⟨hl,hks⟩:=hl;have hml:(l.map aQ).length=l.length:=aIr _;refine Bd func148 rfl ntmps148<|Sr<|Dd aO<|Zz<|Sq<|Sr<|Dd aD<|Dd (fK cK)<|Dd kC<|Zz ?_;refine Cn ?_ ?_<;>intro hc1
 ·have h60:decide ((l.length:Int)≤60)=false:=by
   have:=aIn hc1;exact decide_eq_false (by omega)
  refine Sr<|Dd aO<|Zz<|aC<|Rt ?_;exact⟨by rw [nM,h60,Bool.and_false],rfl⟩
 have h60:decide ((l.length:Int)≤60)=true:=by
  have:=aIo hc1;exact decide_eq_true (by omega)
 rw [nM,h60,Bool.and_true];refine aB<|Sq<|Sr<|Dd aO<|Zz<|aF ?_;refine bG (σ:=Nat) (fun k=>([(0,.pv (iL l)),(3,iv (k:Int))],[])) (fun k=>k≤l.length∧∀ j,j < k→zR wF GTag.key l j=false) (fun k=>l.length - k) 0 ⟨by omega,by omega⟩ ?_ ?_
 ·exact E0
 rintro k ⟨hk,hno⟩;refine Sq<|Sr<|Dd aD<|Dd aD<|Dd (fK cK)<|Dd dD<|Zz ?_;refine Cn ?_ ?_<;>intro hc2
 ·have hlt:k < l.length:=by have:=aIn hc2;omega
  obtain ⟨t,ht⟩:=aX hlt;have hi:=bZ (f:=aQ) ht;have hkt:=hks t (aJB ht);obtain ⟨pt,hp⟩:∃ pt,0 < k→l[k - 1]?=some pt:=by
   by_cases k0:0 < k
   ·obtain ⟨pt,hp⟩:=aX (l:=l) (k:=k - 1) (by omega);exact⟨pt,fun _=>hp⟩
   exact⟨t,fun h=>absurd h k0⟩
  have hpv:0 < k→(l.map aQ)[k - 1]?=some (aQ pt):=fun h=>bZ (f:=aQ) (hp h);have hbe:=XZ l k t pt hp;refine aB<|Sq<|aF<|Sq ?_;refine nD (t:=55) (n:=43) (X:=((!bU t.key||decide ((t.val.size:Int) < 1))||decide (200 < (t.val.size:Int)))||(decide ((0:Int) < (k:Int))&&!kR pt.key t.key)) ?_ ?_
  ·cases hg20:(!bU t.key:Bool)
   ·cases hg29:(decide ((t.val.size:Int) < 1):Bool)
    ·cases hg38:(decide (200 < (t.val.size:Int)):Bool)
     ·cases hg41:(decide ((0:Int) < (k:Int)):Bool)
      ·refine aU follows<|Cq aD<|Cq aD<|Cq (e8 lJ)<|Cq (wB jD)<|Cq (fM isAgg9)<|Cq (by exact aA rfl rfl gK rfl (jZ t.key _ hkt.1))<|Cq jU<|Cq aD<|Nf aD<|Nf aD<|Nf (e8 lJ)<|Nf (wB kU)<|Nf (fM isAgg9)<|Nf (jJ underlying9)<|Nf dD<|Cq rJ<|Cq aD<|Nf aD<|Nf aD<|Nf (e8 lJ)<|Nf (wB kU)<|Nf (fM isAgg9)<|Nf (jJ underlying9)<|Nf kC<|Cq rJ<|Cq aD<|Nf aD<|Nf kC<|Nf aD<|Ot<|Ot<|Ot<|Ot<|Ot<|Ot<|Ot<|Ot<|Ot<|Ot<|Ot<|Ot<|Nf rJ<|Cq rJ<|bM<|Kr ?_;exact⟨rfl,⟨_,rfl,by rfl⟩,rfl,rfl,rfl⟩
      refine aU follows<|Cq aD<|Cq aD<|Cq (e8 lJ)<|Cq (wB jD)<|Cq (fM isAgg9)<|Cq (by exact aA rfl rfl gK rfl (jZ t.key _ hkt.1))<|Cq jU<|Cq aD<|Nf aD<|Nf aD<|Nf (e8 lJ)<|Nf (wB kU)<|Nf (fM isAgg9)<|Nf (jJ underlying9)<|Nf dD<|Cq rJ<|Cq aD<|Nf aD<|Nf aD<|Nf (e8 lJ)<|Nf (wB kU)<|Nf (fM isAgg9)<|Nf (jJ underlying9)<|Nf kC<|Cq rJ<|Cq aD<|Nf aD<|Nf kC<|Nf aD<|Nt aD<|Nt aD<|Nt (by exact gC rfl rfl rfl (by exact OL (by omega) (by omega)))<|Nt (by exact dU rfl lJ rfl rfl (by have:=aIn hg41;omega) (show ((k:Int) - 1).toNat=k - 1 by omega) (hpv (by have:=aIn hg41;omega)) rfl)<|Nt (wB jD)<|Nt (by exact mQ rfl isAgg9 rfl (hpv (by have:=aIn hg41;omega)) rfl)<|Nt aD<|Nt aD<|Nt (e8 lJ)<|Nt (wB jD)<|Nt (fM isAgg9) ?_;refine Nt (by exact aAX rfl rfl rfl)<|Nf xI<|Cq rJ<|bM<|Kr ?_;exact⟨rfl,⟨_,rfl,by rfl⟩,rfl,rfl,rfl⟩
     refine aU follows<|Cq aD<|Cq aD<|Cq (e8 lJ)<|Cq (wB jD)<|Cq (fM isAgg9)<|Cq (by exact aA rfl rfl gK rfl (jZ t.key _ hkt.1))<|Cq jU<|Cq aD<|Nf aD<|Nf aD<|Nf (e8 lJ)<|Nf (wB kU)<|Nf (fM isAgg9)<|Nf (jJ underlying9)<|Nf dD<|Cq rJ<|Cq aD<|Nf aD<|Nf aD<|Nf (e8 lJ)<|Nf (wB kU)<|Nf (fM isAgg9)<|Nf (jJ underlying9)<|Nf kC<|Cq rJ<|Cq aD<|Of<|Of<|Of<|Ou<|Ou<|Ou<|Ou<|Ou<|Ou<|Ou<|Ou<|Ou<|Ou<|Ou<|Ou<|Of<|Cq xI<|bM<|Kr ?_;exact⟨rfl,⟨_,rfl,by rfl⟩,rfl,rfl,rfl⟩
    refine aU follows<|Cq aD<|Cq aD<|Cq (e8 lJ)<|Cq (wB jD)<|Cq (fM isAgg9)<|Cq (by exact aA rfl rfl gK rfl (jZ t.key _ hkt.1))<|Cq jU<|Cq aD<|Nf aD<|Nf aD<|Nf (e8 lJ)<|Nf (wB kU)<|Nf (fM isAgg9)<|Nf (jJ underlying9)<|Nf dD<|Cq rJ<|Cq aD<|Of<|Of<|Of<|Of<|Of<|Of<|Of<|Cq xI<|Cq aD<|Of<|Of<|Of<|Ou<|Ou<|Ou<|Ou<|Ou<|Ou<|Ou<|Ou<|Ou<|Ou<|Ou<|Ou<|Of<|Cq dI<|bM<|Kr ?_;exact⟨rfl,⟨_,rfl,by rfl⟩,rfl,rfl,rfl⟩
   refine aU follows<|Cq aD<|Cq aD<|Cq (e8 lJ)<|Cq (wB jD)<|Cq (fM isAgg9)<|Cq (by exact aA rfl rfl gK rfl (jZ t.key _ hkt.1))<|Cq jU<|Cq aD<|Of<|Of<|Of<|Of<|Of<|Of<|Of<|Cq xI<|Cq aD<|Of<|Of<|Of<|Of<|Of<|Of<|Of<|Cq dI<|Cq aD<|Of<|Of<|Of<|Ou<|Ou<|Ou<|Ou<|Ou<|Ou<|Ou<|Ou<|Ou<|Ou<|Ou<|Ou<|Of<|Cq dI<|bM<|Kr ?_;exact⟨rfl,⟨_,rfl,by rfl⟩,rfl,rfl,rfl⟩
  refine Cn ?_ ?_<;>intro hc3
  ·rw [hbe] at hc3;refine Sr<|Dd aO<|Zz<|aC<|Rt ?_;exact⟨by rw [m4 hlt ((l5 ht).trans hc3)];rfl,rfl⟩
  rw [hbe] at hc3;refine aB<|Rg<|Dd aD<|Dd eL<|Da ?_;refine⟨k+1,⟨by omega,fun j hj=>?_⟩,by omega,E0⟩;by_cases e:j=k
  ·subst e;exact(l5 ht).trans hc3
  exact hno j (by omega)
 have hge:k=l.length:=by have:=aIo hc2;omega
 subst hge;refine aZ<|Sr<|Dd aO<|Zz<|aC<|Rt ?_;exact⟨by rw [oZ hno];rfl,rfl⟩
theorem YT (o:GObj) (k:Nat) (s p:ByteArray) (hp:0 < k→o.refs[k - 1]?=some p) :
  ((!bU s||((decide (o.kind=2)&&decide ((0:Int) < (k:Int)))&&decide (p=s)))||(decide (o.kind=3)&&mH (uL o.refs k) s))=D5 o (eR id o.refs k) (uL o.refs k) s:=by
 rw [D5,ID];cases hg:bU s with
 | false=>simp
 | true =>
  have hs:(decide ((0:Int) < (k:Int))&&decide (p=s))=decide (s=eR id o.refs k):=by
   cases k with
   | zero=>rw [eR,decide_eq_false (qB hg)];rfl
   | succ k =>
    have h:=hp (by omega);rw [show k+1 - 1=k from rfl] at h;rw [kO h,decide_eq_true (show (0:Int) < ((k+1:Nat):Int)by omega),Bool.true_and];exact decide_eq_decide.2 eq_comm
  rw [← hs];simp [Bool.and_assoc]
theorem Z3 {l:List ByteArray} {k:Nat} {s:ByteArray} (h:l[k]?=some s):uL l (k+1)=nX (uL l k) s:=by rw [uL,h];rfl
def aFn (k n:Int):Bool:=if k=1 then decide (n=0)else if k=2 then decide (2≤n)else if k=3 then decide (3≤n)else if k=4 then decide (1≤n)else decide (n=3)
def HF (o:GObj):Bool:=(decide ((o.refs.length:Int)≤2000)&&!((List.range o.refs.length).any (nT o)))&&aFn o.kind (o.refs.length:Int)
theorem T9 (o:GObj) (H:aE) (ho:DO o):aH Tryz.prog 149 [av (aG o)] H (fun r H'=>r=bv (HF o)∧H'=H):=by
 refine Pu ?_;obtain ⟨h1,h2,h3,h4⟩:=ho;have hml:(o.refs.map encStr).length=o.refs.length:=aIr _;refine Bd func149 rfl ntmps149<|Sr<|Dd (by exact cE (id:=1) rfl rfl rfl rfl rfl)<|Dd aO<|Zz<|Sr<|Dd (bH dP)<|Dd (cA aV)<|Dd (fK aK)<|Dd aO<|Zz<|Sq<|Sr<|Dd aD<|Dd kC<|Zz ?_;refine Cn ?_ ?_<;>intro hc1
 ·have hb:decide ((o.refs.length:Int)≤2000)=false:=by
   have:=aIn hc1;exact decide_eq_false (by omega)
  refine Sr<|Dd aO<|Zz<|aC<|Rt ?_;exact⟨by rw [HF,hb];rfl,rfl⟩
 have hb:decide ((o.refs.length:Int)≤2000)=true:=by
  have:=aIo hc1;exact decide_eq_true (by omega)
 rw [HF,hb,Bool.true_and];refine aB<|Sr<|Dd (by exact iT (id:=11) oW rfl rfl)<|Dd aO<|Zz<|Sq<|Sr<|Dd aO<|Zz<|aF ?_;refine bG (σ:=Nat) (fun k=>([(1,.ref 1 0 0 0),(3,iv ((o.refs.map encStr).length:Int)),(4,.mp 11 0),(5,iv (k:Int))],[(11,FX (uL o.refs k)),(1,bx 6 49 ((aG o).map .pv))])) (fun k=>k≤o.refs.length∧∀ j,j < k→nT o j=false) (fun k=>o.refs.length - k) 0 ⟨by omega,by omega⟩ ?_ ?_
 ·exact(cY.wk (Ea<|Eb<|Ea<|Eb<|trivial) (Hc (FW _ _)<|Hb<|trivial) trivial)
 rintro k ⟨hk,hno⟩;refine Sq<|Sr<|Dd aD<|Dd aD<|Dd dD<|Zz ?_;refine Cn ?_ ?_<;>intro hc2
 ·have hlt:k < o.refs.length:=by have:=aIn hc2;omega
  obtain ⟨s,hs⟩:=aX hlt;have hi:=bZ (f:=encStr) hs;obtain ⟨p,hp⟩:∃ p,0 < k→o.refs[k - 1]?=some p:=by
   by_cases k0:0 < k
   ·obtain ⟨p,hp⟩:=aX (l:=o.refs) (k:=k - 1) (by omega);exact⟨p,fun _=>hp⟩
   exact⟨s,fun h=>absurd h k0⟩
  have hpv:0 < k→(o.refs.map encStr)[k - 1]?=some (encStr p):=fun h=>bZ (f:=encStr) (hp h);have hbe:=YT o k s p hp;have hw:nT o k=D5 o (eR id o.refs k) (uL o.refs k) s:=by rw [nT,hs]
  have hse:=Z3 hs;refine aB<|Sq<|aF<|Sq<|Sq ?_;refine nD (t:=60) (n:=44) (X:=(!bU s||((decide (o.kind=2)&&decide ((0:Int) < (k:Int)))&&decide (p=s)))||(decide (o.kind=3)&&mH (uL o.refs k) s)) ?_ ?_
  ·cases hg24:(!bU s:Bool)
   ·cases hg28:(decide (o.kind=2):Bool)
    ·cases hg51:(decide (o.kind=3):Bool)
     ·refine aU follows<|Cq (bH dP)<|Cq (cA aV)<|Cq aD<|Cq (e8 cC)<|Cq (fM isAgg9)<|Cq (by exact aA rfl rfl gK rfl (jZ s _ (h4 s (aJB hs))))<|Cq jU<|Cq aD<|Nf (bH dT)<|Nf (cA isAgg3)<|Nf cI<|Nf aD<|Ot<|Ot<|Nf rJ<|Nf aD<|Ot<|Ot<|Ot<|Ot<|Ot<|Ot<|Ot<|Ot<|Ot<|Ot<|Ot<|Ot<|Nf dI<|Cq rJ<|Cq aD<|Nf (bH dT)<|Nf (cA isAgg3)<|Nf cI<|Nf aD<|Ot<|Ot<|Ot<|Ot<|Ot<|Ot<|Ot<|Nf rJ<|Cq dI<|bM<|Kr ?_;exact⟨rfl,⟨_,rfl,by rfl⟩,rfl,rfl,rfl⟩
     refine aU follows<|Cq (bH dP)<|Cq (cA aV)<|Cq aD<|Cq (e8 cC)<|Cq (fM isAgg9)<|Cq (by exact aA rfl rfl gK rfl (jZ s _ (h4 s (aJB hs))))<|Cq jU<|Cq aD<|Nf (bH dT)<|Nf (cA isAgg3)<|Nf cI<|Nf aD<|Ot<|Ot<|Nf rJ<|Nf aD<|Ot<|Ot<|Ot<|Ot<|Ot<|Ot<|Ot<|Ot<|Ot<|Ot<|Ot<|Ot<|Nf dI<|Cq rJ<|Cq aD<|Nf (bH dT)<|Nf (cA isAgg3)<|Nf cI<|Nf aD<|Nt aD<|Nt (bH dP)<|Nt (cA aV)<|Nt aD<|Nt (e8 cC)<|Nt (fM isAgg9)<|Nt (by exact jL rfl eD underlying9 rfl rfl rfl rfl rfl gP (.inl rfl))<|Nf xI<|Cq dI<|bM<|Kr ?_;exact⟨rfl,⟨_,rfl,by rfl⟩,rfl,rfl,rfl⟩
    cases hg32:(decide ((0:Int) < (k:Int)):Bool)
    ·cases hg51:(decide (o.kind=3):Bool)
     ·refine aU follows<|Cq (bH dP)<|Cq (cA aV)<|Cq aD<|Cq (e8 cC)<|Cq (fM isAgg9)<|Cq (by exact aA rfl rfl gK rfl (jZ s _ (h4 s (aJB hs))))<|Cq jU<|Cq aD<|Nf (bH dT)<|Nf (cA isAgg3)<|Nf cI<|Nf aD<|Nt aD<|Nt kC<|Nf xI<|Nf aD<|Ot<|Ot<|Ot<|Ot<|Ot<|Ot<|Ot<|Ot<|Ot<|Ot<|Ot<|Ot<|Nf rJ<|Cq rJ<|Cq aD<|Nf (bH dT)<|Nf (cA isAgg3)<|Nf cI<|Nf aD<|Ot<|Ot<|Ot<|Ot<|Ot<|Ot<|Ot<|Nf rJ<|Cq dI<|bM<|Kr ?_;exact⟨rfl,⟨_,rfl,by rfl⟩,rfl,rfl,rfl⟩
     refine aU follows<|Cq (bH dP)<|Cq (cA aV)<|Cq aD<|Cq (e8 cC)<|Cq (fM isAgg9)<|Cq (by exact aA rfl rfl gK rfl (jZ s _ (h4 s (aJB hs))))<|Cq jU<|Cq aD<|Nf (bH dT)<|Nf (cA isAgg3)<|Nf cI<|Nf aD<|Nt aD<|Nt kC<|Nf xI<|Nf aD<|Ot<|Ot<|Ot<|Ot<|Ot<|Ot<|Ot<|Ot<|Ot<|Ot<|Ot<|Ot<|Nf rJ<|Cq rJ<|Cq aD<|Nf (bH dT)<|Nf (cA isAgg3)<|Nf cI<|Nf aD<|Nt aD<|Nt (bH dP)<|Nt (cA aV)<|Nt aD<|Nt (e8 cC)<|Nt (fM isAgg9)<|Nt (by exact jL rfl eD underlying9 rfl rfl rfl rfl rfl gP (.inl rfl))<|Nf xI<|Cq dI<|bM<|Kr ?_;exact⟨rfl,⟨_,rfl,by rfl⟩,rfl,rfl,rfl⟩
    cases hg47:(decide (p=s):Bool)
    ·cases hg51:(decide (o.kind=3):Bool)
     ·refine aU follows<|Cq (bH dP)<|Cq (cA aV)<|Cq aD<|Cq (e8 cC)<|Cq (fM isAgg9)<|Cq (by exact aA rfl rfl gK rfl (jZ s _ (h4 s (aJB hs))))<|Cq jU<|Cq aD<|Nf (bH dT)<|Nf (cA isAgg3)<|Nf cI<|Nf aD<|Nt aD<|Nt kC<|Nf xI<|Nf aD<|Nt (bH dP)<|Nt (cA aV)<|Nt aD<|Nt (by exact gC rfl rfl rfl (by exact OL (by omega) (by omega)))<|Nt (by exact dU rfl cC rfl rfl (by have:=aIn hg32;omega) (show ((k:Int) - 1).toNat=k - 1 by omega) (hpv (by have:=aIn hg32;omega)) rfl)<|Nt (by exact mQ rfl isAgg9 rfl (hpv (by have:=aIn hg32;omega)) rfl)<|Nt (bH dP)<|Nt (cA aV)<|Nt aD<|Nt (e8 cC)<|Nt (fM isAgg9)<|Nt sQ<|Nf xI<|Cq rJ<|Cq aD<|Nf (bH dT)<|Nf (cA isAgg3)<|Nf cI<|Nf aD<|Ot<|Ot<|Ot<|Ot<|Ot ?_;refine Ot<|Ot<|Nf rJ<|Cq rJ<|bM<|Kr ?_;exact⟨rfl,⟨_,rfl,by rfl⟩,rfl,rfl,rfl⟩
     refine aU follows<|Cq (bH dP)<|Cq (cA aV)<|Cq aD<|Cq (e8 cC)<|Cq (fM isAgg9)<|Cq (by exact aA rfl rfl gK rfl (jZ s _ (h4 s (aJB hs))))<|Cq jU<|Cq aD<|Nf (bH dT)<|Nf (cA isAgg3)<|Nf cI<|Nf aD<|Nt aD<|Nt kC<|Nf xI<|Nf aD<|Nt (bH dP)<|Nt (cA aV)<|Nt aD<|Nt (by exact gC rfl rfl rfl (by exact OL (by omega) (by omega)))<|Nt (by exact dU rfl cC rfl rfl (by have:=aIn hg32;omega) (show ((k:Int) - 1).toNat=k - 1 by omega) (hpv (by have:=aIn hg32;omega)) rfl)<|Nt (by exact mQ rfl isAgg9 rfl (hpv (by have:=aIn hg32;omega)) rfl)<|Nt (bH dP)<|Nt (cA aV)<|Nt aD<|Nt (e8 cC)<|Nt (fM isAgg9)<|Nt sQ<|Nf xI<|Cq rJ<|Cq aD<|Nf (bH dT)<|Nf (cA isAgg3)<|Nf cI<|Nf aD<|Nt aD<|Nt (bH dP) ?_;refine Nt (cA aV)<|Nt aD<|Nt (e8 cC)<|Nt (fM isAgg9)<|Nt (by exact jL rfl eD underlying9 rfl rfl rfl rfl rfl gP (.inl rfl))<|Nf xI<|Cq rJ<|bM<|Kr ?_;exact⟨rfl,⟨_,rfl,by rfl⟩,rfl,rfl,rfl⟩
    refine aU follows<|Cq (bH dP)<|Cq (cA aV)<|Cq aD<|Cq (e8 cC)<|Cq (fM isAgg9)<|Cq (by exact aA rfl rfl gK rfl (jZ s _ (h4 s (aJB hs))))<|Cq jU<|Cq aD<|Nf (bH dT)<|Nf (cA isAgg3)<|Nf cI<|Nf aD<|Nt aD<|Nt kC<|Nf xI<|Nf aD<|Nt (bH dP)<|Nt (cA aV)<|Nt aD<|Nt (by exact gC rfl rfl rfl (by exact OL (by omega) (by omega)))<|Nt (by exact dU rfl cC rfl rfl (by have:=aIn hg32;omega) (show ((k:Int) - 1).toNat=k - 1 by omega) (hpv (by have:=aIn hg32;omega)) rfl)<|Nt (by exact mQ rfl isAgg9 rfl (hpv (by have:=aIn hg32;omega)) rfl)<|Nt (bH dP)<|Nt (cA aV)<|Nt aD<|Nt (e8 cC)<|Nt (fM isAgg9)<|Nt sQ<|Nf xI<|Cq rJ<|Cq aD<|Of<|Of<|Of<|Of<|Ou<|Ou<|Ou<|Ou<|Ou<|Ou<|Ou<|Of<|Cq xI<|bM<|Kr ?_;exact⟨rfl,⟨_,rfl,by rfl⟩,rfl,rfl,rfl⟩
   refine aU follows<|Cq (bH dP)<|Cq (cA aV)<|Cq aD<|Cq (e8 cC)<|Cq (fM isAgg9)<|Cq (by exact aA rfl rfl gK rfl (jZ s _ (h4 s (aJB hs))))<|Cq jU<|Cq aD<|Of<|Of<|Of<|Of<|Ou<|Ou<|Of<|Of<|Ou<|Ou<|Ou<|Ou<|Ou<|Ou<|Ou<|Ou<|Ou<|Ou<|Ou<|Ou<|Of<|Cq xI<|Cq aD<|Of<|Of<|Of<|Of<|Ou<|Ou<|Ou<|Ou<|Ou<|Ou<|Ou<|Of<|Cq dI<|bM<|Kr ?_;exact⟨rfl,⟨_,rfl,by rfl⟩,rfl,rfl,rfl⟩
  refine Cn ?_ ?_<;>intro hc3
  ·rw [hbe,← hw] at hc3;refine Sr<|Dd aO<|Zz<|aC<|Rt ?_;exact⟨by rw [m4 hlt hc3];rfl,rfl⟩
  rw [hbe,← hw] at hc3;refine aB<|Rg<|Dd aD<|Dd (bH dP)<|Dd (cA aV)<|Dd aD<|Dd (e8 cC)<|Dd (fM isAgg9)<|Uu (by exact uD (.inl rfl) eD underlying9 rfl rfl rfl rfl rfl rfl rfl)<|Zz<|Rg<|Dd aD<|Dd eL<|Da ?_;refine⟨k+1,⟨by omega,fun j hj=>?_⟩,by omega,?_⟩
  ·by_cases e:j=k
   ·subst e;exact hc3
   exact hno j (by omega)
  rw [hse];exact(cY.wk (Ea<|Eb<|Ea<|Eb<|trivial) (Hc (FW _ _)<|Hb<|trivial) trivial)
 have hge:k=o.refs.length:=by have:=aIo hc2;omega
 subst hge;rw [oZ hno,Bool.not_false,Bool.true_and,aFn,← hml];refine aZ<|Sq<|Sr<|Dd (bH dT)<|Dd (cA isAgg3)<|Zz<|aF<|Sr<|Dd cI<|Da ?_;refine Cn ?_ ?_<;>intro hc4
 ·rw [aIq (aIn hc4)];exact Sr<|Dd aD<|Dd cI<|Dd aO<|Zz<|aC<|Rt<|Qq
 rw [aIp (aIo hc4)];refine Sr<|Dd cI<|Da ?_;refine Cn ?_ ?_<;>intro hc5
 ·rw [aIq (aIn hc5)];exact Sr<|Dd aD<|Dd wP<|Dd aO<|Zz<|aC<|Rt<|Qq
 rw [aIp (aIo hc5)];refine Sr<|Dd cI<|Da ?_;refine Cn ?_ ?_<;>intro hc6
 ·rw [aIq (aIn hc6)];exact Sr<|Dd aD<|Dd wP<|Dd aO<|Zz<|aC<|Rt<|Qq
 rw [aIp (aIo hc6)];refine Sr<|Dd cI<|Da ?_;refine Cn ?_ ?_<;>intro hc7
 ·rw [aIq (aIn hc7)];exact Sr<|Dd aD<|Dd wP<|Dd aO<|Zz<|aC<|Rt<|Qq
 rw [aIp (aIo hc7)];exact aB<|Sr<|Dd aD<|Dd cI<|Dd aO<|Zz<|aC<|Rt<|Qq
def atO (o:GObj):Bool:=if o.kind=1 then QI o.x o.y else(decide (o.x=0)&&decide (o.y=0))
theorem aCy (o:GObj):((((bU o.id&&!decide (dW o.kind=aP))&&atO o)&&nM o.tags)&&HF o)=iC o:=by
 cases hw:decide (dW o.kind=aP)with
 | true=>simp [iC,CE,pD,hw]
 | false =>
  have hk:=uF hw;have hk0:¬ o.kind=0:=fun e=>by rw [e] at hw;simp [dW] at hw
  simp only [iC,CE,pD,hw,HF,atO,IF,aFn,xT];generalize bU o.id=a;generalize nM o.tags=b;generalize (List.range o.refs.length).any (nT o)=w;generalize QI o.x o.y=c;generalize (decide (o.x=0)&&decide (o.y=0))=d;generalize (o.refs.length:Int)=n;generalize o.kind=k at *;rcases(by omega:k=1∨k=2∨k=3∨k=4∨k=5)with rfl|rfl|rfl|rfl|rfl<;>cases a<;>cases b<;>cases w<;>cases c<;>cases d<;>rw [Bool.eq_iff_iff]<;>simp<;>omega
theorem aAK (o:GObj) (H:aE) (ho:DO o):aH Tryz.prog 94 [av (aG o)] H (fun r H'=>r=bv (iC o)∧H'=H):=by
 refine Pu ?_;rw [← aCy];refine Bd func94 rfl ntmps94<|Sr<|Dd (by exact cE (id:=1) rfl rfl rfl rfl rfl)<|Dd aO<|Zz<|Sr<|Dd (bH kE)<|Dd (by exact aI rfl dZ sizeOf45 rfl rfl rfl rfl (by simp only [Zl,aQ,aG,encStr];rfl) rfl)<|Dd (by exact aA rfl rfl call96 rfl (aEY o.x o.y _))<|Dd aO<|Zz<|Sq<|Sr<|Dd (bH dT)<|Dd (cA isAgg3)<|Dd tU<|Zz ?_;refine Cn ?_ ?_<;>intro hc1
 ·have hat:atO o=(decide (o.x=0)&&decide (o.y=0)):=by
   have h:(!decide (o.kind=1))=true:=hc1;rw [atO,aIp (by simpa using h)]
  refine Rg<|Dd (bH kE)<|Dd (by exact aI rfl dZ sizeOf45 rfl rfl rfl rfl (by simp only [Zl,aQ,aG,encStr];rfl) rfl)<|Dd (jG J9)<|Dd (by exact oC rfl rfl rfl rfl rfl gV (MO _ _ _ _))<|Dd aO<|Zz<|Sq ?_;refine bD (t:=2) (n:=26) (X:=(((bU o.id&&!decide (dW o.kind=aP))&&atO o)&&nM o.tags)&&HF o) ?_ ?_
  ·all_goals refine Dd (bH eK) ?_
   all_goals refine Dd (cA isAgg9)<|Dd (by exact aA rfl rfl gK rfl (jZ o.id _ ho.1))<|Dm ?_
   all_goals refine Sp 17 (fun h17=>?_) fun h17=>?_
   all_goals try contradiction
   all_goals first|refine Fo<|Fo<|Fo<|Fo ?_|refine On (bH dT)<|On (cA isAgg3)<|On (by exact aA rfl rfl YJ rfl (yM o.kind _))<|On JQ ?_
   all_goals refine Dd dI<|Dm ?_
   all_goals refine Sp 23 (fun h23=>?_) fun h23=>?_
   all_goals try contradiction
   all_goals first|refine Fo ?_|refine On aD ?_
   all_goals refine Dd dI<|Dm ?_
   all_goals refine Sp 26 (fun h26=>?_) fun h26=>?_
   all_goals try contradiction
   all_goals first|refine Fo<|Fo<|Fo ?_|refine On (bH e9)<|On (cA cU)<|On (by exact aA rfl rfl call148 rfl (T7 o.tags _ ho.2.1)) ?_
   all_goals refine Dd dI<|Dm ?_
   all_goals refine Sp 31 (fun h31=>?_) fun h31=>?_
   all_goals try contradiction
   all_goals first|refine Fo<|Fo ?_|refine On (by exact aI rfl aY sizeOf49 rfl rfl rfl rfl (by simp only [Zl,aQ,aG,encStr];rfl) rfl)<|On (by exact aA rfl rfl call149 rfl (T9 o _ ho)) ?_
   all_goals refine Dd dI<|Da ?_
   all_goals(exact⟨⟨_,rfl,by(simp only [hat, *];rfl)⟩,rfl,rfl,rfl⟩)
  exact aC<|Rt<|Qq
 have hat:atO o=QI o.x o.y:=by
  have h:(!decide (o.kind=1))=false:=hc1;rw [atO,aIq (by simpa using h)]
 refine aB<|Sq ?_;refine bD (t:=2) (n:=26) (X:=(((bU o.id&&!decide (dW o.kind=aP))&&atO o)&&nM o.tags)&&HF o) ?_ ?_
 ·all_goals refine Dd (bH eK) ?_
  all_goals refine Dd (cA isAgg9)<|Dd (by exact aA rfl rfl gK rfl (jZ o.id _ ho.1))<|Dm ?_
  all_goals refine Sp 17 (fun h17=>?_) fun h17=>?_
  all_goals try contradiction
  all_goals first|refine Fo<|Fo<|Fo<|Fo ?_|refine On (bH dT)<|On (cA isAgg3)<|On (by exact aA rfl rfl YJ rfl (yM o.kind _))<|On JQ ?_
  all_goals refine Dd dI<|Dm ?_
  all_goals refine Sp 23 (fun h23=>?_) fun h23=>?_
  all_goals try contradiction
  all_goals first|refine Fo ?_|refine On aD ?_
  all_goals refine Dd dI<|Dm ?_
  all_goals refine Sp 26 (fun h26=>?_) fun h26=>?_
  all_goals try contradiction
  all_goals first|refine Fo<|Fo<|Fo ?_|refine On (bH e9)<|On (cA cU)<|On (by exact aA rfl rfl call148 rfl (T7 o.tags _ ho.2.1)) ?_
  all_goals refine Dd dI<|Dm ?_
  all_goals refine Sp 31 (fun h31=>?_) fun h31=>?_
  all_goals try contradiction
  all_goals first|refine Fo<|Fo ?_|refine On (by exact aI rfl aY sizeOf49 rfl rfl rfl rfl (by simp only [Zl,aQ,aG,encStr];rfl) rfl)<|On (by exact aA rfl rfl call149 rfl (T9 o _ ho)) ?_
  all_goals refine Dd dI<|Da ?_
  all_goals(exact⟨⟨_,rfl,by(simp only [hat, *];rfl)⟩,rfl,rfl,rfl⟩)
 exact aC<|Rt<|Qq
def FG {α:Type} (e:α→α→Bool) (a b:List α):Bool:=decide (a.length=b.length)&&(List.range a.length).all fun k=>match a[k]?,b[k]? with|some x,some y=>e x y|_,_=>true
theorem IP {α:Type} {e:α→α→Bool} (he:∀ x y,e x y=true↔x=y) {a b:List α}:FG e a b=true↔a=b:=by
 constructor
 ·intro h;simp only [FG,aJA,aIy,List.all_eq_true,List.mem_range] at h;apply List.ext_getElem h.1;intro k h1 h2;have:=h.2 k h1;rw [aIw h1,aIw h2] at this;exact(he _ _).1 this
 rintro rfl;simp only [FG,aJA,aIy,List.all_eq_true,List.mem_range,true_and];intro k hk;rw [aIw hk];exact(he _ _).2 rfl
theorem IQ {α:Type} {e:α→α→Bool} {a b:List α} {k:Nat} {x y:α} (hx:a[k]?=some x) (hy:b[k]?=some y) (h:e x y=false):FG e a b=false:=by have hk:=(aIv.1 hx).1;rw [FG,Bool.and_eq_false_iff];right;rw [List.all_eq_false];exact⟨k,List.mem_range.2 hk,by rw [hx,hy];simp [h]⟩
theorem aB1 {α:Type} {e:α→α→Bool} {a b:List α} (h:¬ a.length=b.length):FG e a b=false:=by simp [FG,h]
theorem EA {α:Type} {e:α→α→Bool} {a b:List α} (hl:a.length=b.length) (h:∀ k,k < a.length→∀ x y,a[k]?=some x→b[k]?=some y→e x y=true):FG e a b=true:=by simp only [FG,aJA,aIy,List.all_eq_true,List.mem_range];refine⟨hl,fun k hk=>?_⟩;rw [aIw hk,aIw (by omega)];exact h k hk _ _ (aIw hk) (aIw (by omega))
def EO (a b:ByteArray):Bool:=decide (a=b)
theorem VX (a b:ByteArray):EO a b=true↔a=b:=by simp [EO]
def AR (a b:GObj):Bool:=decide (a.id=b.id)&&decide (a.kind=b.kind)&&(decide (a.x=b.x)&&decide (a.y=b.y))&&decide (a.refs.length=b.refs.length)&&decide (a.tags.length=b.tags.length)
def qI (a b:GObj):Bool:=AR a b&&(FG EO a.refs b.refs&&FG qP a.tags b.tags)
theorem IE {a b:GObj}:qI a b=true↔a=b:=by
 rw [qI,aJA,aJA,IP VX,IP KP];cases a;cases b;simp only [AR,aJA,aIy,GObj.mk.injEq];constructor
 ·rintro⟨⟨⟨⟨⟨a1,a2⟩,a3,a4⟩,a5⟩,a6⟩,a7,a8⟩;exact⟨a1,a2,a3,a4,a7,a8⟩
 rintro⟨a1,a2,a3,a4,a7,a8⟩;exact⟨⟨⟨⟨⟨a1,a2⟩,a3,a4⟩,by rw [a7]⟩,by rw [a8]⟩,a7,a8⟩
def H9 (a b:GObj) (n1 n2 n3 n4:Int):Bool:=!decide (a.id=b.id)||!decide (a.kind=b.kind)||!(decide (a.x=b.x)&&decide (a.y=b.y))||!decide (n1=n2)||!decide (n3=n4)
theorem LP (a b:GObj):H9 a b ((a.refs.map encStr).length:Int) ((b.refs.map encStr).length:Int) ((a.tags.map aQ).length:Int) ((b.tags.map aQ).length:Int)=!AR a b:=by simp only [H9,AR,aIr,Bool.not_and,Int.natCast_inj]
theorem O0 (a b:GObj) (H:aE) (ha:a.refs.length < 4611686018427387904) (ha2:a.tags.length < 4611686018427387904):aH Tryz.prog 66 [av (aG a),av (aG b)] H (fun r H'=>r=bv (qI a b)∧H'=H):=by
 refine Pu ?_;have hra:(a.refs.map encStr).length=a.refs.length:=aIr _;have hta:(a.tags.map aQ).length=a.tags.length:=aIr _;refine Bd func66 rfl ntmps66<|Sr<|Dd (by exact cE (id:=2) rfl rfl rfl rfl rfl)<|Dd (by exact cE (id:=3) rfl rfl rfl rfl rfl)<|Dd aO<|Zz<|Sq<|Sq ?_;refine bD (t:=43) (n:=41) (X:=H9 a b ((a.refs.map encStr).length:Int) ((b.refs.map encStr).length:Int) ((a.tags.map aQ).length:Int) ((b.tags.map aQ).length:Int)) ?_ ?_
 ·all_goals refine Dd (bH eK) ?_
  all_goals refine Dd (cA isAgg9)<|Dd (bH eK)<|Dd (cA isAgg9)<|Dd JQ<|Dm ?_
  all_goals refine Sp 12 (fun h12=>?_) fun h12=>?_
  all_goals try contradiction
  all_goals first|refine Fo<|Fo<|Fo<|Fo<|Fo ?_|refine On (bH dT)<|On (cA isAgg3)<|On (bH dT)<|On (cA isAgg3)<|On tU ?_
  all_goals refine Dd dI<|Dm ?_
  all_goals refine Sp 19 (fun h19=>?_) fun h19=>?_
  all_goals try contradiction
  all_goals first|refine Fo<|Fo<|Fo<|Fo<|Fo ?_|refine On (bH kE)<|On (by exact aI rfl dZ sizeOf45 rfl rfl rfl rfl (by simp only [Zl,aQ,aG,encStr];rfl) rfl)<|On (bH kE)<|On (by exact aI rfl dZ sizeOf45 rfl rfl rfl rfl (by simp only [Zl,aQ,aG,encStr];rfl) rfl)<|On (by exact B0 rfl rfl rfl rfl rfl gV (MO _ _ _ _)) ?_
  all_goals refine Dd dI<|Dm ?_
  all_goals refine Sp 26 (fun h26=>?_) fun h26=>?_
  all_goals try contradiction
  all_goals first|refine Fo<|Fo<|Fo<|Fo<|Fo<|Fo<|Fo ?_|refine On (bH dP)<|On (cA aV)<|On (fK aK)<|On (bH dP)<|On (cA aV)<|On (fK aK)<|On tU ?_
  all_goals refine Dd dI<|Dm ?_
  all_goals refine Sp 35 (fun h35=>?_) fun h35=>?_
  all_goals try contradiction
  all_goals first|refine Fo<|Fo<|Fo<|Fo<|Fo<|Fo<|Fo ?_|refine On (bH e9)<|On (cA cU)<|On (fK cK)<|On (bH e9)<|On (cA cU)<|On (fK cK)<|On tU ?_
  all_goals refine Dd dI<|Zz ?_
  all_goals(exact⟨⟨_,rfl,by first|(simp only [H9, *];rfl)|(simp_all [H9];done)⟩,rfl,rfl,rfl⟩)
 refine Cn ?_ ?_<;>intro hc1
 ·rw [LP] at hc1;refine Sr<|Dd aO<|Zz<|aC<|Rt ?_;refine⟨?_,rfl⟩;have:AR a b=false:=by simpa using hc1
  rw [qI,this];rfl
 rw [LP] at hc1;have hh:AR a b=true:=by simpa using hc1
 have hlens:a.refs.length=b.refs.length∧a.tags.length=b.tags.length:=by
  simp only [AR,aJA,aIy] at hh;exact⟨hh.1.2,hh.2⟩
 obtain ⟨hl1,hl2⟩:=hlens;rw [qI,hh,Bool.true_and];refine aB<|Sq<|Sr<|Dd aO<|Zz<|aF ?_;refine bG (σ:=Nat) (fun k=>([(2,.ref 2 0 0 0),(3,.ref 3 0 0 0),(5,iv (k:Int))],[(3,bx 6 49 ((aG b).map .pv)),(2,bx 6 49 ((aG a).map .pv))])) (fun k=>k≤a.refs.length∧∀ j,j < k→∀ x y,a.refs[j]?=some x→b.refs[j]?=some y→EO x y=true) (fun k=>a.refs.length - k) 0 ⟨by omega,by omega⟩ ?_ ?_
 ·exact Wk
 rintro k ⟨hk,hall⟩;refine Sq<|Sr<|Dd aD<|Dd (bH dP)<|Dd (cA aV)<|Dd (fK aK)<|Dd dD<|Zz ?_;refine Cn ?_ ?_<;>intro hc2
 ·have hlt:k < a.refs.length:=by have:=aIn hc2;omega
  obtain ⟨x,hx⟩:=aX hlt;obtain ⟨y,hy⟩:=aX (l:=b.refs) (k:=k) (by omega);have hi:=bZ (f:=encStr) hx;have hi2:=bZ (f:=encStr) hy;refine aB<|Sq<|aF<|Sq<|aU follows<|Cq (bH dP)<|Cq (cA aV)<|Cq aD<|Cq (e8 cC)<|Cq (fM isAgg9)<|Cq (bH dP)<|Cq (cA aV)<|Cq aD<|Cq (e8 cC)<|Cq (fM isAgg9)<|Cq JQ<|bM<|Kr ?_;refine Cn ?_ ?_<;>intro hc3
  ·have ht:EO x y=false:=by
    have h:(!EO x y)=true:=hc3
    simpa using h
   refine Sr<|Dd aO<|Zz<|aC<|Rt ?_;exact⟨by rw [IQ hx hy ht];rfl,rfl⟩
  have ht:EO x y=true:=by
   have h:(!EO x y)=false:=hc3
   simpa using h
  refine aB<|Rg<|Dd aD<|Dd eL<|Da ?_;refine⟨k+1,⟨by omega,fun j hj x' y' h1 h2=>?_⟩,by omega,Wk⟩;by_cases e:j=k
  ·subst e;rw [hx] at h1;rw [hy] at h2;cases h1;cases h2;exact ht
  exact hall j (by omega) x' y' h1 h2
 have hge:k=a.refs.length:=by have:=aIo hc2;omega
 subst hge;rw [EA hl1 hall,Bool.true_and];refine aZ<|Sq<|Sr<|Dd aO<|Zz<|aF ?_;refine bG (σ:=Nat) (fun k=>([(2,.ref 2 0 0 0),(3,.ref 3 0 0 0),(6,iv (k:Int))],[(3,bx 6 49 ((aG b).map .pv)),(2,bx 6 49 ((aG a).map .pv))])) (fun k=>k≤a.tags.length∧∀ j,j < k→∀ x y,a.tags[j]?=some x→b.tags[j]?=some y→qP x y=true) (fun k=>a.tags.length - k) 0 ⟨by omega,by omega⟩ ?_ ?_
 ·exact Wk
 rintro k ⟨hk,hall2⟩;refine Sq<|Sr<|Dd aD<|Dd (bH e9)<|Dd (cA cU)<|Dd (fK cK)<|Dd dD<|Zz ?_;refine Cn ?_ ?_<;>intro hc4
 ·have hlt:k < a.tags.length:=by have:=aIn hc4;omega
  obtain ⟨x,hx⟩:=aX hlt;obtain ⟨y,hy⟩:=aX (l:=b.tags) (k:=k) (by omega);have hi:=bZ (f:=aQ) hx;have hi2:=bZ (f:=aQ) hy;refine aB<|Sq<|aF<|Sq<|aU follows<|Cq (bH e9)<|Cq (cA cU)<|Cq aD<|Cq (e8 lJ)<|Cq (by exact bQ rfl fX dR rfl (by omega) (by simp only [Zl,aQ,aG,encStr];rfl) rfl)<|Cq (bH e9)<|Cq (cA cU)<|Cq aD<|Cq (e8 lJ)<|Cq (by exact bQ rfl fX dR rfl (by omega) (by simp only [Zl,aQ,aG,encStr];rfl) rfl)<|Cq (by exact B0 rfl rfl rfl rfl rfl RE (Z4 _ _ _ _))<|bM<|Kr ?_;refine Cn ?_ ?_<;>intro hc5
  ·have ht:qP x y=false:=by
    have h:(!qP x y)=true:=hc5
    simpa using h
   refine Sr<|Dd aO<|Zz<|aC<|Rt ?_;exact⟨by rw [IQ hx hy ht],rfl⟩
  have ht:qP x y=true:=by
   have h:(!qP x y)=false:=hc5
   simpa using h
  refine aB<|Rg<|Dd aD<|Dd eL<|Da ?_;refine⟨k+1,⟨by omega,fun j hj x' y' h1 h2=>?_⟩,by omega,Wk⟩;by_cases e:j=k
  ·subst e;rw [hx] at h1;rw [hy] at h2;cases h1;cases h2;exact ht
  exact hall2 j (by omega) x' y' h1 h2
 have hge:k=a.tags.length:=by have:=aIo hc4;omega
 subst hge;refine aZ<|Sr<|Dd aO<|Zz<|aC<|Rt ?_;exact⟨by rw [EA hl2 hall2],rfl⟩
def NQ (a b:List GObj):Bool:=FG qI a b
theorem SZ {a b:List GObj}:NQ a b=true↔a=b:=IP (fun _ _=>IE)
def okL (m:List GObj):Prop:=m.length < 4611686018427387904∧∀ o∈m,o.refs.length < 4611686018427387904∧o.tags.length < 4611686018427387904
theorem Z6 (a b:List GObj) (H:aE) (ha:okL a):aH Tryz.prog 26 [.agg [.pv (cO a)],.agg [.pv (cO b)]] H (fun r H'=>r=bv (NQ a b)∧H'=H):=by
 refine Pu ?_;have hma:(a.map aG).length=a.length:=aIr _;have hmb:(b.map aG).length=b.length:=aIr _;have hl:=ha.1;rw [NQ];refine Bd func26 rfl ntmps26<|Sr<|Dd (by exact cE (id:=2) rfl rfl rfl rfl rfl)<|Dd (by exact cE (id:=3) rfl rfl rfl rfl rfl)<|Dd aO<|Zz<|Sq<|Sr<|Dd (bH gZ)<|Dd (cA dJ)<|Dd (fK cQ)<|Dd (bH gZ)<|Dd (cA dJ)<|Dd (fK cQ)<|Dd tU<|Zz ?_;refine Cn ?_ ?_<;>intro hc1
 ·have hne:¬ a.length=b.length:=by
   simp only [hma,hmb,aJK,aIz] at hc1;omega
  refine Sr<|Dd aO<|Zz<|aC<|Rt ?_;exact⟨by rw [aB1 hne],rfl⟩
 have heq:a.length=b.length:=by
  simp only [hma,hmb,Bool.not_eq_false',aIy] at hc1;omega
 refine aB<|Sq<|Sr<|Dd aO<|Zz<|aF ?_;refine bG (σ:=Nat) (fun k=>([(2,.ref 2 0 0 0),(3,.ref 3 0 0 0),(5,iv (k:Int))],[(3,bx 1 38 [.pv (cO b)]),(2,bx 1 38 [.pv (cO a)])])) (fun k=>k≤a.length∧∀ j,j < k→∀ x y,a[j]?=some x→b[j]?=some y→qI x y=true) (fun k=>a.length - k) 0 ⟨by omega,by omega⟩ ?_ ?_
 ·exact Wk
 rintro k ⟨hk,hall⟩;refine Sq<|Sr<|Dd aD<|Dd (bH gZ)<|Dd (cA dJ)<|Dd (fK cQ)<|Dd dD<|Zz ?_;refine Cn ?_ ?_<;>intro hc2
 ·have hlt:k < a.length:=by have:=aIn hc2;omega
  obtain ⟨x,hx⟩:=aX hlt;obtain ⟨y,hy⟩:=aX (l:=b) (k:=k) (by omega);have hi:=bZ (f:=aG) hx;have hi2:=bZ (f:=aG) hy;have hox:=ha.2 x (aJB hx);refine aB<|Sq<|aF<|Sq<|aU follows<|Cq (bH gZ)<|Cq (cA dJ)<|Cq aD<|Cq (e8 iK)<|Cq (by exact bQ rfl aY sizeOf49 rfl (by omega) (by simp only [Zl,aQ,aG,encStr];rfl) rfl)<|Cq (bH gZ)<|Cq (cA dJ)<|Cq aD<|Cq (e8 iK)<|Cq (by exact bQ rfl aY sizeOf49 rfl (by omega) (by simp only [Zl,aQ,aG,encStr];rfl) rfl)<|Cq (by exact aA rfl rfl aIb rfl (O0 x y _ hox.1 hox.2))<|Cq jU<|bM<|Kr ?_;refine Cn ?_ ?_<;>intro hc3
  ·have ht:qI x y=false:=by
    have h:(!qI x y)=true:=hc3
    simpa using h
   refine Sr<|Dd aO<|Zz<|aC<|Rt ?_;exact⟨by rw [IQ hx hy ht],rfl⟩
  have ht:qI x y=true:=by
   have h:(!qI x y)=false:=hc3
   simpa using h
  refine aB<|Rg<|Dd aD<|Dd eL<|Da ?_;refine⟨k+1,⟨by omega,fun j hj x' y' h1 h2=>?_⟩,by omega,Wk⟩;by_cases e:j=k
  ·subst e;rw [hx] at h1;rw [hy] at h2;cases h1;cases h2;exact ht
  exact hall j (by omega) x' y' h1 h2
 have hge:k=a.length:=by have:=aIo hc2;omega
 subst hge;refine aZ<|Sr<|Dd aO<|Zz<|aC<|Rt ?_;exact⟨by rw [EA heq hall],rfl⟩
theorem XH (a b:GObj):qI a b=pC a b:=by rw [Bool.eq_iff_iff,IE,pB]
theorem T8 (a b:GObj) (H:aE) (ha:a.refs.length < 4611686018427387904) (ha2:a.tags.length < 4611686018427387904):aH Tryz.prog 66 [av (aG a),av (aG b)] H (fun r H'=>r=bv (pC a b)∧H'=H):=by rw [← XH];exact O0 a b H ha ha2
end Go.Proofs.YtlnfjkdacimblaaGreatDoor
namespace Go.Abs
def aGF (H' H:aE):Prop:=∀ j o',H'.get j=some o'→∃ o,H.get j=some o∧o'.g=o.g∧o'.sz=o.sz∧o'.rows.length=o.rows.length
theorem VRel.restrictG {w:World} {I:Nat→Prop} {ι:fF} {H H':aE} (hs:aGF H' H) {v:Value} {a:AV} (h:VRel w I ι H v a):Clo H' a→VRel w I ι H' v a:=by
 induction h with
 | any v=>exact fun _=>.any v
 | pv h=>exact fun _=>.pv h
 | ref o h1 h2 h3 h4 =>
  intro hc;cases hc with
  | ref hc =>
   obtain ⟨o',ho'⟩:=Option.isSome_iff_exists.1 hc;obtain ⟨o2,e1,e2,e3,e4⟩:=hs _ _ ho';rw [h1] at e1;cases e1;exact .ref o' ho' (by omega) h3 (fun hg=>by rw [e3];exact h4 (by omega))
 | pad b off cap sz h1 h2 h3 cs h4 h5 h6=>exact fun _=>.pad b off cap sz h1 h2 h3 cs h4 h5 h6
 | osl o h1 h2 h3 h4 =>
  intro hc;cases hc with
  | osl hc =>
   obtain ⟨o',ho'⟩:=Option.isSome_iff_exists.1 hc;obtain ⟨o2,e1,e2,e3,e4⟩:=hs _ _ ho';rw [h1] at e1;cases e1;exact .osl o' ho' (by omega) h3 (fun hg=>by rw [e3,e4];exact h4 (by omega))
 | clo hl h ih =>
  intro hc;cases hc with|clo hc=>exact .clo hl fun i v a hv ha=>ih i v a hv ha (hc a (aJB ha))
 | agg hl h1 h ih =>
  intro hc;cases hc with|agg hc=>exact .agg hl h1 fun i v a hv ha=>ih i v a hv ha (hc a (aJB ha))
 | tup hl h ih =>
  intro hc;cases hc with|tup hc=>exact .tup hl fun i v a hv ha=>ih i v a hv ha (hc a (aJB ha))
 | mp o h1 h2 h3 h4 =>
  intro hc;cases hc with
  | mp hc =>
   obtain ⟨o',ho'⟩:=Option.isSome_iff_exists.1 hc;obtain ⟨o2,e1,e2,e3,e4⟩:=hs _ _ ho';rw [h1] at e1;cases e1;exact .mp o' ho' (by omega) h3 (fun hg=>by rw [e3];exact h4 (by omega))
 | it o h1 h2 h3 h4 =>
  intro hc;cases hc with
  | it hc =>
   obtain ⟨o',ho'⟩:=Option.isSome_iff_exists.1 hc;obtain ⟨o2,e1,e2,e3,e4⟩:=hs _ _ ho';rw [h1] at e1;cases e1;exact .it o' ho' (by omega) h3 (fun hg=>by rw [e3];exact h4 (by omega))
 | yld o h1 h2 h3 h4 =>
  intro hc;cases hc with
  | yld hc =>
   obtain ⟨o',ho'⟩:=Option.isSome_iff_exists.1 hc;obtain ⟨o2,e1,e2,e3,e4⟩:=hs _ _ ho';rw [h1] at e1;cases e1;exact .yld o' ho' (by omega) h3 (fun hg=>by rw [e3];exact h4 (by omega))
 | osc o h1 h2 h3 h4 =>
  intro hc;cases hc with
  | osc hc =>
   obtain ⟨o',ho'⟩:=Option.isSome_iff_exists.1 hc;obtain ⟨o2,e1,e2,e3,e4⟩:=hs _ _ ho';rw [h1] at e1;cases e1;exact .osc o' ho' (by omega) h3 (fun hg=>by rw [e3];exact h4 (by omega))
theorem VRel.freezeG {w:World} {I:Nat→Prop} {ι:fF} {H H':aE} {id:Nat} {ob:Ob} {ps:List (List PV)} (hr:Rel I ι H w) (hs:aGF H' H) (hH:H.get id=some ob) (hps:ob.rows=ps.map (·.map .pv)) {a a':AV} (hf:Fz H' id ob.g ps a a') :
  ∀ {v:Value},VRel w I ι H v a→VRel w (lI I ι id) ι H' v a':=by
 induction hf with
 | same h=>exact fun hv=>(hv.restrictG hs h).mono' (fun _ _=>rfl) (fun _ h=>.inl h) (fun _ o h=>⟨o,h,aIx _,fun _=>⟨rfl,rfl,fun _=>aIx _⟩⟩)
 | osl hq =>
  intro v hv;subst hq;exact .pv (xU hr hH hps hv)
 | agg hl h ih =>
  intro v hv;cases hv with
  | agg h1 h2 h3 =>
   refine .agg (h1.trans hl) h2 fun i u a' hu ha'=>?_;have hi:=(aIv.1 ha').1;exact ih i _ a' (aIw (by omega)) ha' (h3 i u _ hu (aIw (by omega)))
 | tup hl h ih =>
  intro v hv;cases hv with
  | tup h1 h3 =>
   refine .tup (h1.trans hl) fun i u a' hu ha'=>?_;have hi:=(aIv.1 ha').1;exact ih i _ a' (aIw (by omega)) ha' (h3 i u _ hu (aIw (by omega)))
def JG (H':aE) (id g:Nat) (ps:List (List PV)) (rows rows':List (List AV)):Prop :=rows'.length=rows.length∧∀ (i:Nat) (r':List AV),rows'[i]?=some r'→∃ r,rows[i]?=some r∧r.length=r'.length∧∀ (k:Nat) (a a':AV),r[k]?=some a→r'[k]?=some a'→Fz H' id g ps a a'
theorem iI {H':aE} {id g:Nat} {ps:List (List PV)} {rows:List (List AV)} (h:∀ r∈rows,∀ a∈r,Clo H' a):JG H' id g ps rows rows :=⟨rfl,fun i r hi=>⟨r,hi,rfl,fun k a a' h1 h2=>by rw [h1] at h2;cases h2;exact .same (h r (aJB hi) a (aJB h1))⟩⟩
theorem tE {H':aE} {id g:Nat} {ps:List (List PV)} {r r':List AV} (hl:r.length=r'.length) (h:∀ (k:Nat) (a a':AV),r[k]?=some a→r'[k]?=some a'→Fz H' id g ps a a'):JG H' id g ps [r] [r'] :=⟨rfl,fun i x hi=>by
  match i,hi with
  | 0,hi=>cases hi;exact⟨r,rfl,hl,h⟩⟩
def FOk (H H':aE) (id g:Nat) (ps:List (List PV)):aE→Prop
 | []=>True
 | (j,o')::r=>(∃ o,H.get j=some o∧o'.g=o.g∧o'.sz=o.sz∧o'.ty=o.ty∧JG H' id g ps o.rows o'.rows)∧FOk H H' id g ps r
theorem FOk.spec {H H':aE} {id g:Nat} {ps:List (List PV)} {L:aE} (h:FOk H H' id g ps L):∀ p∈L,∃ o,H.get p.1=some o∧p.2.g=o.g∧p.2.sz=o.sz∧p.2.ty=o.ty∧JG H' id g ps o.rows p.2.rows:=by
 induction L with
 | nil=>simp
 | cons x r ih =>
  obtain ⟨t,v⟩:=x;obtain ⟨h1,h2⟩:=h;intro p hp;rcases aJD.1 hp with e|e
  ·subst e;exact h1
  exact ih h2 p e
theorem cY.fzG {G0:aE} {E E':dG} {H H':aE} {id:Nat} {ob:Ob} (ps:List (List PV)) (hH:H.get id=some ob) (hps:ob.rows=ps.map (·.map .pv)) (hE:∀ p∈E',∃ v0,E.get p.1=some v0∧Fz H' id ob.g ps v0 p.2) (hno:H'.get id=none)
    (hF:FOk H H' id ob.g ps H') (hk:YO H' H G0):cY G0 E H E' H':=by
  intro G hG N a w hs;obtain ⟨I,ι,hr,hst,he⟩:=hs.rel;subst hG;have hf:∀ j o',H'.get j=some o'→∃ o,H.get j=some o∧o'.g=o.g∧o'.sz=o.sz∧o'.ty=o.ty∧JG H' id ob.g ps o.rows o'.rows:=fun j o' hj=>hF.spec _ (d6 hj);have hsub:aGF H' H:=fun j o' hj=>by
    obtain ⟨o,e1,e2,e3,_,e5⟩:=hf j o' hj;exact⟨o,e1,e2,e3,e5.1⟩
  have hown:∀ b,FP ι H' b→FP ι H b:=fun b ⟨j,o',c,h1,h2⟩=>by
    obtain ⟨o,e1,_⟩:=hf j o' h1;exact⟨j,o,c,e1,h2⟩
  have hrel:Rel (lI I ι id) ι H' w:=by
    refine⟨fun b hb=>?_,fun j o' hj=>?_,fun j j' o o' b c c' h1 h2=>?_,hr.glob.mono (fun _ _=>rfl) (fun _ h=>.inl h)⟩
    · rcases hb with hb|⟨cap,hb⟩
      · exact hr.imm b hb
      · exact hr.lt ⟨id,ob,cap,hH,hb⟩
    · obtain ⟨o,e1,e2,e3,e4,e5,e6⟩:=hf j o' hj
      refine(hr.obj j o e1).keepG e3 e4 e5 (O5 e5.symm (fun i r' hi=>by
        obtain ⟨r,z1,z2,z3⟩:=e6 i r' hi;exact⟨r,z1,z2,fun k a a' h1 h2 y ts e=>(z3 k a a' h1 h2).raw e⟩)) rfl (fun b' cap' q1 _=>⟨rfl,fun q3=>?_⟩) (fun i r' hi=>?_)
      · rintro(h|⟨cap,h⟩)
        · exact q3 h
        · have:j=id:=hr.inj j id o ob b' cap' cap e1 hH q1 h
          rw [this,hno] at hj;cases hj
      · obtain ⟨r,z1,z2,z3⟩:=e6 i r' hi
        exact⟨r,z1,z2,fun k a a' h1 h2 v hv=>VRel.freezeG hr hsub hH hps (z3 k a a' h1 h2) hv⟩
    · obtain ⟨p,e1,_⟩:=hf j o h1
      obtain ⟨p',e1',_⟩:=hf j' o' h2;exact hr.inj j j' p p' b c c' e1 e1'
  have hstep:Step G.I G.ι G.H G.w (lI I ι id) ι H' w :=
    { os := hst.os, tape := hst.tape, output := hst.output, size := hst.size, froz := hst.froz, keep := hst.keep
      imm:=fun b hb=>.inl (hst.imm b hb)
      immNew:=fun b hb=>by
        rcases hb with hb|⟨cap,hb⟩
        · exact hst.immNew b hb
        · rcases hst.own b ⟨id,ob,cap,hH,hb⟩with h1|h1
          · exact .inr (.inl h1)
          · exact .inr (.inr h1)
      own:=fun b hb=>hst.own b (hown b hb)
      objs:=fun j o ho=>by
        obtain ⟨o',h1,h2⟩:=hst.objs j o ho;exact⟨o',(hk.kept j (by simp [ho])).trans h1,h2⟩}
  refine⟨hs.defers,hs.size,_,ι,hrel,hstep,fun t v ht=>?_⟩;obtain ⟨v0,h1,h2⟩:=hE _ (gD ht);obtain ⟨c,hc,hv⟩:=he t v0 h1;exact⟨c,hc,VRel.freezeG hr hsub hH hps h2 hv⟩
end Go.Abs
