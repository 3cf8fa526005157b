/-
  Parts of the proof: rules of an abstract program logic, contracts of functions, plain laws. Conditions: each theorem's own.
-/
import Derived.Test.YtlnfjkdacimblaaGreatDoorKW6M7
import Derived.Lib.Bytealg
import Derived.Lib.Strings
import Derived.Lib.AtoiTie
import Derived.Lib.ItoaMem
import Derived.Lib.ItoaLen
import Derived.Shelf.Strconv.Itoa3
import Derived.Shelf.Bits.Mul64
import Derived.Shelf.LaysM
import Derived.Ground.NamesProg
set_option linter.unusedVariables false
set_option linter.unusedSimpArgs false
set_option maxRecDepth 100000
set_option maxHeartbeats 8000000
namespace Go.Proofs
theorem aIK:type_of% Tryz.call103:=Tryz.call103
theorem aIE:type_of% Tryz.call178:=Tryz.call178
theorem wZ:type_of% Tryz.call34:=Tryz.call34
theorem aIc:type_of% Tryz.call53:=Tryz.call53
theorem kN:type_of% Tryz.isAgg133:=Tryz.isAgg133
theorem gO:type_of% Tryz.isAgg137:=Tryz.isAgg137
theorem kX:type_of% Tryz.sizeOf133:=Tryz.sizeOf133
end Go.Proofs
namespace Go.Proofs.YtlnfjkdacimblaaGreatDoor
open Go.Proofs.Tryz
open Go.Abs
def encTok (f:GFound):List PV:=[.int .i64 f.kind,.str f.text,.int .i64 f.pos]
def vO (l:List GFound):PV:=.sl (l.map encTok)
def jH (l:List GFound):List (List AV):=l.map fun f=>(encTok f).map AV.pv
theorem rR (l:List GFound):(jH l).length=l.length:=aIr _
theorem vJ (l:List GFound) (f:GFound):jH l++[(encTok f).map AV.pv]=jH (l++[f]):=by rw [jH,jH,List.map_append];rfl
theorem cX (H:aE) (l:List GFound):∀ r∈jH l,∀ a∈r,Clo H a:=by intro r hr a ha;obtain ⟨d,_,rfl⟩:=List.mem_map.1 hr;obtain ⟨p,_,rfl⟩:=List.mem_map.1 ha;simp
theorem nW {H:aE} (h1:(H.get 921).isSome=true) (h2:(H.get 923).isSome=true):∀ r∈tA.rows,∀ a∈r,Clo H a:=by intro r hr a ha;simp only [tA,bx,aIu] at hr;subst hr;rw [aIu] at ha;subst ha;simp [h1,h2]
theorem nV (H:aE) (s:ByteArray):∀ r∈(tS s).rows,∀ a∈r,Clo H a:=by intro r hr a ha;simp only [tS,bx,aIu] at hr;subst hr;rw [aIu] at ha;subst ha;simp
def iN:List GFound→List GFound→List GFound×Int×Int
 | acc,[]=>(acc,0,0)
 | acc,f::r=>if f.err≠0 then([],f.err,f.pos)else if acc.length=5000 then([],2,f.pos)else iN (acc++[f]) r
def eP (s:ByteArray):List GFound×Int×Int:=if 20000 < s.size then([],2,-1)else iN [] (iH s (s.size+1) 0)
def oF (ds:List GFound) (k:Nat):Bool:=match ds[k]? with
 | some f=>decide (f.err=0)&&!decide (k=5000)
 | none=>true
theorem DX {ds:List GFound}:∀ {k:Nat},k≤ds.length→(∀ j,j < k→oF ds j=true)→iN [] ds=iN (ds.take k) (ds.drop k)
 | 0,_,_=>rfl
 | k+1,hk,h=>by
  rw [DX (Nat.le_of_succ_le hk) (fun j hj=>h j (by omega))];have hd:ds.drop k=ds[k]::ds.drop (k+1):=List.drop_eq_getElem_cons hk;have hok:=h k (Nat.lt_succ_self k);rw [oF,aIw hk] at hok;simp only [aJA,aIy,aJK,aIz] at hok;have htl:(ds.take k).length=k:=by rw [aJF];omega
  rw [hd,iN,aIp (fun h=>h hok.1),aIp (by rw [htl];exact hok.2),List.take_add_one,aIw hk];rfl
theorem uJ (s:ByteArray):∀ (n i:Nat),(iH s n i).length≤n
 | 0,_=>aJI _
 | n+1,i=>by
  rw [iH]
  split
  ·split
   ·exact Nat.le_succ_of_le (uJ s n _)
   rw [aIt]
   split
   ·exact Nat.succ_le_succ (uJ s n _)
   exact Nat.succ_le_succ (aJI _)
  exact aJI _
def kL (s:ByteArray) (L:List GFound) (a:AV) (e p:Int):aE:=[(905,⟨L.length,3,137,jH L⟩),(5,bx 1 133 [.osl 905 L.length 0 L.length]),(924,tA),(923,tC),(921,tS s),(4,bx 1 3 [iv p]),(3,bx 1 25 [iv e]),(2,bx 1 133 [a])]
theorem aBC (s:ByteArray) (L:List GFound) (f:GFound) (a:AV) (e p:Int):kL s (L++[f]) a e p=[(905,⟨L.length+1,3,137,jH (L++[f])⟩),(5,bx 1 133 [.osl 905 (L.length+1) 0 (L.length+1)]),(924,tA),(923,tC),(921,tS s),(4,bx 1 3 [iv p]),(3,bx 1 25 [iv e]),(2,bx 1 133 [a])]:=by simp [kL]
def pZ:dG:=[(2,.ref 2 0 0 0),(3,.ref 3 0 0 0),(4,.ref 4 0 0 0),(5,.ref 5 0 0 0)]
theorem B1 {ds:List GFound} {k:Nat} {f:GFound} (h:ds[k]?=some f):oF ds k=(decide (f.err=0)&&!decide (k=5000)):=by rw [oF,h]
theorem aE5 (s:ByteArray) (H:aE) (hs:s.size < 1099511627776):aH Tryz.prog 83 [sv s] H (fun r H'=>r=.tup [.pv (vO (eP s).1),iv (eP s).2.1,iv (eP s).2.2]∧H'=H):=by
 refine Pu ?_;refine Bd func83 rfl ntmps83<|Sr<|Dd (by exact bJ (id:=2) rfl aER rfl rfl)<|Dd (by exact bJ (id:=3) rfl aGT rfl rfl)<|Dd (by exact bJ (id:=4) rfl zo3 rfl rfl)<|Zz<|Sq<|Sr<|Dd aD<|Dd (jJ underlying9)<|Dd kC<|Zz ?_;refine Cn ?_ ?_<;>intro hc1
 ·have e:eP s=([],2,-1):=by rw [eP,aIq (by have:=aIn hc1;omega)]
  rw [e];refine Sr<|Uu (fP kX)<|Uu (fP sizeOf25)<|Uu (fP sizeOf3)<|Zz<|aC ?_;refine jX (H':=[]) (.inr rfl) rfl (iE rfl kN rfl rfl rfl rfl) (iE rfl kK rfl rfl rfl rfl) (iE rfl isAgg3 rfl rfl rfl rfl) (Fin.wk (by simp) trivial trivial) ?_;exact Qq
 have hsz:¬ 20000 < s.size:=by have:=aIo hc1;omega
 obtain ⟨ds,hds⟩:∃ ds,ds=iH s (s.size+1) 0:=⟨_,rfl⟩;have hg:eP s=iN [] ds:=by rw [eP,aIp hsz,hds]
 refine aB<|Sr<|Dd (by exact bJ (id:=5) rfl YQ rfl rfl)<|Zz<|Sq<|Sr<|Dd aD<|Dd (by exact aA rfl rfl call135 rfl (OS s _ rfl rfl rfl (dF.ofL ⟨(by(simp;done)),(by(simp;done)),(by(simp;done)),(by(simp;done)),trivial⟩)))<|Zz<|aF ?_;refine iB.ent (E':=[(2,.ref 2 0 0 0),(3,.ref 3 0 0 0),(4,.ref 4 0 0 0),(5,.ref 5 0 0 0),(11,.clo 185 [.ref 921 0 0 0,.ref 924 0 0 0])]) (H':=[(905,⟨0,3,137,[]⟩),(5,bx 1 133 [.osl 905 0 0 0]),(924,tA),(923,tC),(921,tS s),(4,bx 1 3 [iv 0]),(3,bx 1 25 [iv 0]),(2,bx 1 133 [.pv (.sl [])])]) ?_ ?_
 ·exact(cY.nz 905 3 137 rfl rfl ⟨⟨_,rfl,(by exact Nz.same (by(simp;rfl)))⟩,⟨_,rfl,(by exact Nz.same (by(simp;rfl)))⟩,⟨_,rfl,(by exact Nz.same (by(simp;rfl)))⟩,⟨_,rfl,(by exact Nz.same (by(simp;rfl)))⟩,⟨_,rfl,(by exact Nz.same (by(simp;exact⟨rfl,rfl⟩)))⟩,trivial⟩ ⟨⟨_,rfl,rfl,rfl,rfl,(by exact .inr ⟨_,_,rfl,rfl,(by repeat(first|exact trivial|refine⟨(by exact Nz.own),?_⟩))⟩)⟩,⟨_,rfl,rfl,rfl,rfl,(by exact .inl ⟨rfl,(by exact nW rfl rfl)⟩)⟩,⟨_,rfl,rfl,rfl,rfl,(by exact .inl ⟨rfl,(by exact iJ _)⟩)⟩,⟨_,rfl,rfl,rfl,rfl,(by exact .inl ⟨rfl,(by exact nV _ _)⟩)⟩,⟨_,rfl,rfl,rfl,rfl,(by exact .inl ⟨rfl,(by(simp;done))⟩)⟩,⟨_,rfl,rfl,rfl,rfl,(by exact .inl ⟨rfl,(by(simp;done))⟩)⟩,⟨_,rfl,rfl,rfl,rfl,(by exact .inl ⟨rfl,(by(simp;done))⟩)⟩,trivial⟩ trivial)
 have hdl:ds.length≤s.size+1:=by rw [hds];exact uJ s _ _
 obtain ⟨j,hj⟩:∃ j,j=qX (oF ds) ds.length 0:=⟨_,rfl⟩;have hj1:j≤ds.length:=by have:=(yJ (oF ds) ds.length 0).2;omega
 have hj2:∀ k,k < j→oF ds k=true:=fun k hk=>BL (oF ds) ds.length 0 k (aJI _) (by rw [← hj];exact hk);have hj3:j < ds.length→oF ds j=false:=fun h=>by have:=rI (oF ds) ds.length 0 (by omega);rwa [← hj] at this
 have hrun:=DX hj1 hj2;refine rN (id:=904) (p:=12) pZ rfl call185 rfl rfl (by simp [pZ];exact⟨rfl,rfl,rfl,rfl⟩) ?_;intro x hx1 hx2 hx3 hx4 hx5 hx6;have hround:∀ (k:Nat) (d:GFound),ds[k]?=some d→k≤j →
   dN Tryz.prog (.yld 904 0) [.agg ((CK d).map .pv)] ((904,LR x pZ)::(926,tF d)::kL s (ds.take k) (.pv (.sl [])) 0 0) (fun r H'=>r=bv (oF ds k)∧H'=(if oF ds k then(904,LR x pZ)::(926,tF d)::kL s (ds.take (k+1)) (.pv (.sl [])) 0 0 else(904,LR (left x .ret) pZ)::(926,tF d)::kL s (ds.take k) (.pv (.sl [])) (if d.err≠0 then d.err else 2) d.pos)):=by
  intro k d hd hkj;have hok:=B1 hd;have hkl:k < ds.length:=(aIv.1 hd).1;have htl:(ds.take k).length=k:=by rw [aJF];omega
  have hnx:ds.take (k+1)=ds.take k++[d]:=by rw [List.take_add_one,hd];rfl
  refine .inl ⟨904,0,rfl,?_⟩;refine C3 [(2,.ref 2 0 0 0),(3,.ref 3 0 0 0),(4,.ref 4 0 0 0),(5,.ref 5 0 0 0),(6,.ref 907 0 0 0)] ((907,tF d)::(926,tF d)::kL s (ds.take k) (.pv (.sl [])) 0 0) hx1 hx2 hx3 hx4 hx5 hx6 rfl rfl rfl ?_ ?_
  ·refine Rg<|Dd (by exact bJ (id:=907) rfl YR rfl rfl)<|Uu (fP A9)<|Zz ?_;exact(cY.wk (Ea<|Ea<|Ea<|Ea<|Ea<|trivial) (Hc (gG (by simp [pZ];exact⟨rfl,rfl,rfl,rfl⟩))<|Hc (tM _ _)<|Hc (tM _ _)<|Hc (cX _ _)<|Ha<|Hc (nW rfl rfl)<|Hc (iJ _)<|Hc (nV _ _)<|Hb<|Hb<|Hb<|trivial) ⟨rfl,rfl,rfl,rfl,rfl,rfl,rfl,rfl,rfl,rfl,trivial⟩)
  refine aF<|Sq<|aF<|Sr<|Dd (bH oL)<|Dd (cA kK)<|Dd tU<|Da ?_;refine Cn ?_ ?_<;>intro hc2
  ·have he:d.err≠0:=by have h:=hc2;rw [aJK,aIz] at h;exact h
   have h0:oF ds k=false:=by rw [hok,decide_eq_false he];rfl
   rw [h0,aIp (by decide),aIq he];refine Sq<|aU follows<|Cr [907] (fun _ h=>fh oL h)<|Cr [907] (fun _ h=>lh kK h)<|Cr [907] (fun _ h=>fh lF h)<|Cr [907] (fun _ h=>fh GD h)<|Cr [907] (fun _ h=>lh isAgg3 h)<|Cp [2] (fun H1 hH=>by exact cV rfl kX rfl rfl rfl rfl ((hH _ rfl).trans rfl) rfl rfl rfl)<|Cp [3] (fun H1 hH=>by exact cV rfl sizeOf25 rfl rfl rfl rfl ((hH _ rfl).trans rfl) rfl rfl rfl)<|Cp [4] (fun H1 hH=>by exact cV rfl sizeOf3 rfl rfl rfl rfl ((hH _ rfl).trans rfl) rfl rfl rfl)<|bM<|Kr<|aC ?_;exact⟨(926,tF d)::kL s (ds.take k) (.pv (.sl [])) d.err d.pos,(cY.wk trivial (Hc (gG (by simp [pZ];exact⟨rfl,rfl,rfl,rfl⟩))<|Hc (tM _ _)<|Hc (cX _ _)<|Ha<|Hc (nW rfl rfl)<|Hc (iJ _)<|Hc (nV _ _)<|Hb<|Hb<|Hb<|trivial) ⟨rfl,rfl,rfl,rfl,rfl,rfl,rfl,rfl,rfl,rfl,trivial⟩),rfl,rfl⟩
  have he:d.err=0:=by have h:=hc2;rw [Bool.not_eq_false',aIy] at h;exact h
  refine Sr<|Dd (cA kN)<|Dd (by exact dV rfl cT rfl rfl rfl)<|Dd cI<|Da ?_;refine Cn ?_ ?_<;>intro hc3
  ·have hk5:k=5000:=by have:=aIn hc3;omega
   have h0:oF ds k=false:=by rw [hok,decide_eq_true he,decide_eq_true hk5];rfl
   rw [h0,aIp (by decide),aIp (fun h=>h he)];refine Sq<|aU follows<|Cr [907] (fun _ h=>fh lF h)<|Cr [907] (fun _ h=>fh GD h)<|Cr [907] (fun _ h=>lh isAgg3 h)<|Cp [2] (fun H1 hH=>by exact cV rfl kX rfl rfl rfl rfl ((hH _ rfl).trans rfl) rfl rfl rfl)<|Cp [3] (fun H1 hH=>by exact cV rfl sizeOf25 rfl rfl rfl rfl ((hH _ rfl).trans rfl) rfl rfl rfl)<|Cp [4] (fun H1 hH=>by exact cV rfl sizeOf3 rfl rfl rfl rfl ((hH _ rfl).trans rfl) rfl rfl rfl)<|bM<|Kr<|aC ?_;exact⟨(926,tF d)::kL s (ds.take k) (.pv (.sl [])) 2 d.pos,(cY.wk trivial (Hc (gG (by simp [pZ];exact⟨rfl,rfl,rfl,rfl⟩))<|Hc (tM _ _)<|Hc (cX _ _)<|Ha<|Hc (nW rfl rfl)<|Hc (iJ _)<|Hc (nV _ _)<|Hb<|Hb<|Hb<|trivial) ⟨rfl,rfl,rfl,rfl,rfl,rfl,rfl,rfl,rfl,rfl,trivial⟩),rfl,rfl⟩
  have hk5:¬ k=5000:=by have:=aIo hc3;omega
  have h0:oF ds k=true:=by rw [hok,decide_eq_true he,decide_eq_false hk5];rfl
  rw [h0,aIq rfl,hnx,aBC];refine aB<|Rg<|Dd (cA kN)<|Dd (bH lF)<|Dd (qZ gO sizeOf137)<|Dd (by exact aT [encTok d] rfl fZ rfl rfl rfl rfl rfl (by intro r hr;rw [aIu] at hr;subst hr;rfl))<|Dd (by exact c6 (ps:=[encTok d]) rfl fZ U6 rfl rfl rfl rfl rfl (rR _) rfl (by intro r hr;rw [aIu] at hr;subst hr;rfl) (m:=1) rfl (by omega) rfl (vJ (ds.take k) d))<|Uu (fP kX)<|Zz ?_;exact⟨(926,tF d)::[(905,⟨(ds.take k).length+1,3,137,jH (ds.take k++[d])⟩),(5,bx 1 133 [.osl 905 ((ds.take k).length+1) 0 ((ds.take k).length+1)]),(924,tA),(923,tC),(921,tS s),(4,bx 1 3 [iv 0]),(3,bx 1 25 [iv 0]),(2,bx 1 133 [.pv (.sl [])])],(cY.wk trivial (Hc (gG (by simp [pZ];exact⟨rfl,rfl,rfl,rfl⟩))<|Hc (tM _ _)<|Hc (cX _ _)<|Ha<|Hc (nW rfl rfl)<|Hc (iJ _)<|Hc (nV _ _)<|Hb<|Hb<|Hb<|trivial) ⟨rfl,rfl,rfl,rfl,rfl,rfl,rfl,rfl,rfl,rfl,trivial⟩),rfl,rfl⟩
 rcases Nat.lt_or_ge j ds.length with hlt|hge
 ·obtain ⟨f,hf⟩:=aX hlt;have hbad:=hj3 hlt;have hdj:ds.drop j=f::ds.drop (j+1):=by
   rw [List.drop_eq_getElem_cons hlt];rw [aIw hlt] at hf;cases hf;rfl
  have hres:eP s=([],(if f.err≠0 then f.err else 2),(f.pos:Int)):=by
   rw [hg,hrun,hdj,iN]
   split
   ·rfl
   rename_i he;have he0:f.err=0:=by
    by_cases h:f.err=0
    ·exact h
    exact absurd h he
   rw [B1 hf,decide_eq_true he0,Bool.true_and,Bool.not_eq_false',aIy] at hbad;rw [aIq (by rw [aJF];omega)]
  rw [hres];refine(DA s (.yld 904 0) (fun k=>if k≤j then(904,LR x pZ)::kL s (ds.take k) (.pv (.sl [])) 0 0 else(904,LR (left x .ret) pZ)::kL s (ds.take j) (.pv (.sl [])) (if f.err≠0 then f.err else 2) f.pos) (oF ds) (j+1) hs (fun k=>?_) (fun k=>?_) (fun k=>?_) (fun k=>?_) (fun k=>?_) (fun k=>?_) (by rw [← hds];exact hlt) (fun k hk=>hj2 k (by omega)) (.inr ⟨Nat.succ_pos _,by rw [Nat.add_sub_cancel];exact hbad⟩) ?_).mono ?_
  ·split<;>rfl
  ·split<;>rfl
  ·split<;>rfl
  ·split<;>rfl
  ·split
   ·exact(dF.ofL ⟨(by exact gG (by simp [pZ];exact⟨rfl,rfl,rfl,rfl⟩)),(by exact cX _ _),(by(simp;rfl)),(by exact nW rfl rfl),(by exact iJ _),(by exact nV _ _),(by(simp;done)),(by(simp;done)),(by(simp;done)),trivial⟩)
   exact(dF.ofL ⟨(by exact gG (by simp [pZ];exact⟨rfl,rfl,rfl,rfl⟩)),(by exact cX _ _),(by(simp;rfl)),(by exact nW rfl rfl),(by exact iJ _),(by exact nV _ _),(by(simp;done)),(by(simp;done)),(by(simp;done)),trivial⟩)
  ·split<;>(simp;rfl)
  ·rw [← hds];intro k d hd hk;have hr:=hround k d hd (by omega);rw [aIq (by omega)];by_cases hkj:k=j
   ·subst hkj;rw [hf] at hd;cases hd;rw [hbad,aIp (by decide)] at hr;rw [aIp (by omega),hbad];exact dN.congrG hr (fun j=>mR (by decide) j) (fun j=>mR (by decide) j)
   have hok:=hj2 k (by omega);rw [hok,aIq rfl] at hr;rw [aIq (by omega),hok];exact dN.congrG hr (fun j=>mR (by decide) j) (fun j=>mR (by decide) j)
  rintro r H' ⟨rfl,rfl⟩;rw [aIp (by omega)];refine⟨left x .ret,_,rfl,by simp [left],rfl,fun z=>?_⟩;show N8 _ _ _ _ _ _ _;refine jX (H':=[]) (.inr rfl) rfl (iE rfl kN rfl rfl rfl rfl) (iE rfl kK rfl rfl rfl rfl) (iE rfl isAgg3 rfl rfl rfl rfl) (Fin.wk (by simp) trivial trivial) ?_;exact Qq
 have hje:j=ds.length:=Nat.le_antisymm hj1 hge;rw [hje,List.take_length,List.drop_length] at hrun;rw [hg,hrun,iN];refine(DA s (.yld 904 0) (fun k=>(904,LR x pZ)::kL s (ds.take k) (.pv (.sl [])) 0 0) (oF ds) ds.length hs (fun k=>rfl) (fun k=>rfl) (fun k=>rfl) (fun k=>rfl) (fun k=>(dF.ofL ⟨(by exact gG (by simp [pZ];exact⟨rfl,rfl,rfl,rfl⟩)),(by exact cX _ _),(by(simp;rfl)),(by exact nW rfl rfl),(by exact iJ _),(by exact nV _ _),(by(simp;done)),(by(simp;done)),(by(simp;done)),trivial⟩)) (fun k=>by simp;rfl) (by rw [← hds];exact aIx _) (fun k hk=>hj2 k (by omega)) (.inl (by rw [← hds])) ?_).mono ?_
 ·rw [← hds];intro k d hd hk;have hr:=hround k d hd (by omega);have hok:=hj2 k (by omega);rw [hok,aIq rfl] at hr;rw [hok];exact dN.congrG hr (fun j=>mR (by decide) j) (fun j=>mR (by decide) j)
 rintro r H' ⟨rfl,rfl⟩;rw [List.take_length];refine⟨x,_,rfl,by rw [hx1];decide,rfl,fun z=>?_⟩;rw [hx2];refine Sr<|Dd (cA kN)<|Uu (fP kX)<|Uu (fP sizeOf25)<|Uu (fP sizeOf3)<|Zz<|aC ?_;refine jX (H':=[]) (.inr rfl) rfl (iE rfl kN rfl rfl rfl rfl) (iE rfl kK rfl rfl rfl rfl) (iE rfl isAgg3 rfl rfl rfl rfl) (Fin.fz (r':=.tup [.pv (vO ds),iv 0,iv 0]) (id:=905) (ob:=⟨ds.length,3,137,jH ds⟩) (ds.map encTok) rfl (by rw [List.map_map];rfl) (.tup rfl (dC (.osl (qs:=ds.map encTok) (by rw [aJJ,List.drop_zero];exact List.take_of_length_le (Nat.le_of_eq (aIr encTok)))) (dC (.same (by simp)) (dC (.same (by simp)) oK)))) rfl trivial trivial) ?_;exact Qq
def vK:List GFound→Option (List GTag)
 | []=>some []
 | a::_::c::r=>(vK r).map fun l=>⟨a.text,c.text⟩::l
 | _=>none
def KQ (l:List GFound) (k:Nat):GTag:=⟨((l[3*k]?).map GFound.text).getD aP,((l[3*k+2]?).map GFound.text).getD aP⟩
def eQ (l:List GFound) (k:Nat):List GTag:=(List.range k).map (KQ l)
theorem xX (l:List GFound) (k:Nat):eQ l (k+1)=eQ l k++[KQ l k]:=by rw [eQ,List.range_succ,List.map_append];rfl
theorem zO (l:List GFound) (k:Nat):(eQ l k).length=k:=by rw [eQ,aIr,List.length_range]
def mV (l:List GTag):List (List AV):=l.map fun t=>(aQ t).map AV.pv
theorem zY (l:List GTag):(mV l).length=l.length:=aIr _
theorem zZ (l:List GTag) (t:GTag):mV l++[(aQ t).map AV.pv]=mV (l++[t]):=by rw [mV,mV,List.map_append];rfl
theorem iZ (H:aE) (l:List GTag):∀ r∈mV l,∀ a∈r,Clo H a:=by intro r hr a ha;obtain ⟨d,_,rfl⟩:=List.mem_map.1 hr;obtain ⟨p,_,rfl⟩:=List.mem_map.1 ha;simp
theorem AP:∀ (r acc:List GFound),(iN acc r).1.length≤acc.length+r.length
 | [],acc=>aIx _
 | f::r,acc=>by
  rw [iN]
  split
  ·exact aJI _
  split
  ·exact aJI _
  have:=AP r (acc++[f]);rw [aIs,List.length_singleton] at this;rw [aIt];omega
theorem rA (s:ByteArray) (h:s.size < 1099511627776):(eP s).1.length < 549755813888:=by
 unfold eP
 split
 ·decide
 have h1:=AP (iH s (s.size+1) 0) [];have h2:=uJ s (s.size+1) 0;rw [List.length_nil] at h1;omega
end Go.Proofs.YtlnfjkdacimblaaGreatDoor
section
namespace Go.Proofs.YtlnfjkdacimblaaGreatDoor
open Go.Proofs.Tryz
open Go.Abs
structure M3 where
 k:ByteArray
 b:ByteArray
 o:ByteArray
 t:ByteArray
end Go.Proofs.YtlnfjkdacimblaaGreatDoor
namespace Go.Abs
end Go.Abs
namespace Go.Proofs.YtlnfjkdacimblaaGreatDoor
open Go.Proofs.Tryz
open Go.Abs
end Go.Proofs.YtlnfjkdacimblaaGreatDoor
end
namespace Go.Proofs.YtlnfjkdacimblaaGreatDoor
open Go.Proofs.Tryz
open Go.Abs
def m1 (p:M3):ByteArray×Bool:=if p.t=p.o then(p.o,false)else if p.t=p.b then(p.o,false)else if p.o=p.b then(p.t,false)else(p.b,true)
instance decMemB (s:ByteArray) (l:List ByteArray):Decidable (s∈l):=decidable_of_iff (mH l s=true) yX
def mF (s:ByteArray):GEdit:=⟨5,s,aP,aP,0,0,aP,aP,[],zObj⟩
def putE (o:GObj):GEdit:=⟨1,aP,aP,aP,0,0,aP,aP,[],o⟩
def UN (s:ByteArray) (x y:Int):GEdit:=⟨2,s,aP,aP,x,y,aP,aP,[],zObj⟩
def aEX (s:ByteArray) (r:List ByteArray):GEdit:=⟨4,s,aP,aP,0,0,aP,aP,r,zObj⟩
def GW (s k v:ByteArray):GEdit:=⟨3,s,aP,aP,0,0,k,v,[],zObj⟩
theorem bC (s:ByteArray):s.data.toList.length=s.size:=by simp
theorem EF {a b:ByteArray} (h:a.data.toList=b.data.toList):a=b:=by cases a with|mk a=>cases b with|mk b=>cases a;cases b;simp at h;rw [h]
theorem kV (s:ByteArray) (i j:Nat):(s.extract i j).data.toList=(s.data.toList.drop i).take (j - i):=by rw [ByteArray.data_extract,Array.toList_extract,List.extract_eq_take_drop]
theorem mG {s:ByteArray} {i:Nat} {c:UInt8} {r:List UInt8} (h:s.data.toList.drop i=c::r):i < s.size∧bP s i=(c.toNat:Int)∧s.data.toList.drop (i+1)=r:=by obtain ⟨h1,h2⟩:=H8 h;refine⟨by rw [← bC];exact(aIv.1 h1).1,by rw [bP,h1];rfl,h2⟩
theorem A4 {s:ByteArray} {i:Nat} {c:UInt8} {r:List UInt8} (h:s.data.toList.drop i=c::r):kG s i=sF (c.toNat:Int):=by obtain ⟨h1,h2,_⟩:=mG h;rw [kG,aIq h1,h2]
theorem VE {s:ByteArray} {i:Nat} (h:s.data.toList.drop i=[]):kG s i=0:=by have:=List.drop_eq_nil_iff.1 h;rw [bC] at this;rw [kG,aIp (by omega)]
theorem eS {s:ByteArray} {i:Nat} {w r:List UInt8} (h:s.data.toList.drop i=w++r):s.data.toList.drop (i+w.length)=r:=by rw [← List.drop_drop,h,List.drop_left]
theorem U7 {s:ByteArray} {i k:Nat} {w r:List UInt8} {c:UInt8} (h:s.data.toList.drop i=w++r) (hk:w[k]?=some c):s.data.toList.drop (i+k)=c::((w.drop (k+1))++r):=by
 have hlt:=(aIv.1 hk).1;have e:w=w.take k++c::w.drop (k+1):=by
  conv=>lhs;rw [← List.take_append_drop k w]
  rw [List.drop_eq_getElem_cons hlt,(aIv.1 hk).2]
 have h2:s.data.toList.drop i=w.take k++(c::w.drop (k+1)++r):=by
  rw [h];exact(congrArg (·++r) e).trans (List.append_assoc _ _ _)
 have h3:=eS h2;rw [aJF,Nat.min_eq_left (by omega)] at h3;exact h3
theorem tG {s:ByteArray} {i:Nat} {w r:List UInt8} (h:s.data.toList.drop i=w++r):s.extract i (i+w.length)=⟨w.toArray⟩:=by refine EF ?_;rw [kV,h,Nat.add_sub_cancel_left,List.take_left]
theorem xY {s:ByteArray} {i:Nat}:(s.extract i s.size).data.toList=s.data.toList.drop i:=by rw [kV];exact List.take_of_length_le (by rw [aJG,bC];exact aIx _)
theorem vW {k:ByteArray} (h:bU k=true):0 < k.size∧k.size≤24∧sF (bP k 0)=3∧∀ j,j < k.size→(sF (bP k j)=3∨sF (bP k j)=4∨sF (bP k j)=5):=by
 rw [bU,aJA,aJA,aJK,aJK,List.any_eq_false,aIz,aIy] at h;obtain ⟨h1,h2,h3⟩:=h;have hpos:0 < k.size:=by
  rcases Nat.eq_zero_or_pos k.size with e|e
  ·refine absurd (EF ?_) h2;rw [← bC] at e;rw [List.length_eq_zero_iff.1 e]
  exact e
 have hb:∀ j,j < k.size→KB k j=false:=fun j hj=>by
  have:=h1 j (List.mem_range.2 hj)
  simpa using this
 refine⟨hpos,by omega,?_,fun j hj=>?_⟩
 ·have:=hb 0 hpos
  simpa [KB] using this
 have:=hb j hj;rw [KB] at this;by_cases e1:sF (bP k j)=3
 ·exact .inl e1
 by_cases e2:sF (bP k j)=4
 ·exact .inr (.inl e2)
 by_cases e3:sF (bP k j)=5
 ·exact .inr (.inr e3)
 simp [e1,e2,e3] at this
theorem aD4 {k:ByteArray} {j:Nat} (h:j < k.size):∃ c,k.data.toList[j]?=some c∧bP k j=(c.toNat:Int):=by rw [← bC] at h;exact⟨_,aIw h,by rw [bP,aIw h];rfl⟩
theorem VZ {s k:ByteArray} {i:Nat} {r:List UInt8} (h:s.data.toList.drop i=k.data.toList++r) (hk:bU k=true) (hr:∀ c r',r=c::r'→sF (c.toNat:Int)≠3∧sF (c.toNat:Int)≠4∧sF (c.toNat:Int)≠5) :
  eF s i=(some ⟨1,k,i,0⟩,i+k.size):=by
 obtain ⟨hpos,hle,h0,hall⟩:=vW hk;have hat:∀ j,j < k.size→kG s (i+j)=sF (bP k j):=fun j hj=>by
  obtain ⟨c,hc,e⟩:=aD4 hj;rw [A4 (U7 h hc),e]
 have hlen:i+k.size≤s.size:=by
  have:=congrArg List.length h;rw [aJG,aIs,bC,bC] at this;omega
 have ha0:kG s i=3:=by
  have:=hat 0 hpos;rw [Nat.add_zero,h0] at this;exact this
 have hend:vC s i=i+k.size:=by
  refine sV (pW s) (by omega) (by omega) (fun j h1 h2=>?_) ?_
  ·have:=hat (j - i) (by omega);rw [show i+(j - i)=j by omega] at this;rw [pW,this];rcases hall (j - i) (by omega)with e|e|e<;>rw [e]<;>rfl
  left;have hd:=eS h;rw [bC] at hd;cases r with
  | nil=>rw [pW,VE hd];rfl
  | cons c r' =>
   obtain ⟨e1,e2,e3⟩:=hr c r' rfl;rw [pW,A4 hd,decide_eq_false e1,decide_eq_false e2,decide_eq_false e3];rfl
 have hex:=tG h;rw [bC] at hex;have hkk:(⟨k.data.toList.toArray⟩:ByteArray)=k:=EF (by simp);rw [eF,aIp (by rw [ha0];decide),aIp (by rw [ha0];decide),aIq ha0,hend,tV,hex,hkk,aIp (by omega)]
theorem aCi {s:ByteArray} {i:Nat} {r:List UInt8} (h:s.data.toList.drop i=32::r):eF s i=(none,i+1):=by
 have ha:kG s i=1:=by rw [A4 h];rfl
 rw [eF,aIq ha]
theorem OP:∀ (v r:List UInt8),kP (v.flatMap lW++34::r)=some (v,(v.flatMap lW).length+1)
 | [],r=>vE
 | b::v,r=>by
  have ih:=OP v r;rw [List.flatMap_cons,List.append_assoc,aIs];by_cases h1:b=10
  ·have e:lW b=[92,110]:=by rw [lW,aIq h1]
   rw [e];show kP (92::110::(v.flatMap lW++34::r))=_;rw [pM,ih,h1];show some (10::v,_)=some (10::v,_);congr 2;show (v.flatMap lW).length+1+2=2+_+1;omega
  by_cases h2:b=34∨b=92
  ·have e:lW b=[92,b]:=by rw [lW,aIp h1,aIq h2]
   have hu:nA b=some b:=by
    rcases h2 with e|e<;>subst e<;>rfl
   rw [e];show kP (92::b::(v.flatMap lW++34::r))=_;rw [pM,ih,hu];show some (b::v,_)=some (b::v,_);congr 2;show (v.flatMap lW).length+1+2=2+_+1;omega
  have e:lW b=[b]:=by rw [lW,aIp h1,aIp h2]
  have h3:b≠34∧b≠92:=⟨fun e=>h2 (.inl e),fun e=>h2 (.inr e)⟩;rw [e];show kP (b::(v.flatMap lW++34::r))=_;rw [vF h3.1 h1 h3.2,ih];show some (b::v,_)=some (b::v,_);congr 2;show (v.flatMap lW).length+1+1=1+_+1;omega
theorem BJ {s v:ByteArray} {i:Nat} {r:List UInt8} (h:s.data.toList.drop i=dE v.data.toList++r):eF s i=(some ⟨3,v,i,0⟩,i+(dE v.data.toList).length):=by
 have h':s.data.toList.drop i=34::(v.data.toList.flatMap lW++34::r):=by rw [h,dE];simp
 have ha:kG s i=7:=by rw [A4 h'];rfl
 have hu:sC (s.extract i s.size)=(v,(((v.data.toList.flatMap lW).length+1+1:Nat):Int)):=by
  rw [sC,xY,h',List.drop_succ_cons,List.drop_zero,OP]
 have hs:xS s i=(⟨3,v,i,0⟩,i+(dE v.data.toList).length):=by
  rw [xS,hu,aIq (by show (0:Int) < ((_:Nat):Int);omega)];congr 1;show i+_=i+_;congr 1;rw [aJC,dE,aIt,aIs,List.length_singleton]
 rw [eF,aIp (by rw [ha];decide),aIp (by rw [ha];decide),aIp (by rw [ha];decide),aIp (by rw [ha];decide),aIq ha,hs]
def HY (t:GTag):List UInt8:=t.key.data.toList++61::dE t.val.data.toList
theorem DW (t:GTag):(gF t).data.toList=HY t:=by rw [gF,HY];simp
def jF (l:List GTag):List UInt8:=l.flatMap fun t=>32::HY t
def JE (T:List GFound) (l:List GTag):Prop:=vK T=some l∧(∀ f,f∈T→f.err=0)∧T.length=3*l.length
theorem JE.cons {T:List GFound} {l:List GTag} {a b c:GFound} (h:JE T l) (ha:a.err=0) (hb:b.err=0) (hc:c.err=0):JE (a::b::c::T) (⟨a.text,c.text⟩::l):=by
 obtain ⟨h1,h2,h3⟩:=h;refine⟨by rw [vK,h1];rfl,fun f hf=>?_,by rw [aIt,aIt,aIt,aIt,h3];omega⟩;rcases aJD.1 hf with rfl|hf
 ·exact ha
 rcases aJD.1 hf with rfl|hf
 ·exact hb
 rcases aJD.1 hf with rfl|hf
 ·exact hc
 exact h2 f hf
theorem KO (t:GTag) (l:List GTag):(EY (t::l)).data.toList=HY t++jF l:=by show bS [32] (bs ((t::l).map gF))=_;rw [bs,List.map_map,List.map_cons,bS];show (gF t).data.toList++_=_;rw [DW,jF,List.flatMap_map];congr 1;congr 1;funext x;show [32]++(gF x).data.toList=_;rw [DW];rfl
theorem uS:∀ (T acc:List GFound),(∀ f,f∈T→f.err=0)→acc.length+T.length≤5000→iN acc T=(acc++T,0,0)
 | [],acc,_,_=>by rw [iN,List.append_nil]
 | f::T,acc,h,hl=>by
  rw [aIt] at hl;rw [iN,aIp (fun e=>e (h f List.mem_cons_self)),aIp (by omega),uS T (acc++[f]) (fun g hg=>h g (List.mem_cons_of_mem _ hg)) (by rw [aIs,List.length_singleton];omega),List.append_assoc];rfl
end Go.Proofs.YtlnfjkdacimblaaGreatDoor
namespace Go.Abs
def dO (c:UInt8):List UInt8→List (List UInt8)
 | []=>[[]]
 | b::l=>if b=c then[]::dO c l else((b::(dO c l).headD [])::(dO c l).tail)
theorem m0 (c:UInt8) (l:List UInt8):0 < (dO c l).length:=by
 cases l with
 | nil=>exact Nat.zero_lt_one
 | cons b l=>rw [dO];split<;>simp
theorem nH {c:UInt8}:∀ {w:List UInt8},c∉w→dO c w=[w]
 | [],_=>rfl
 | b::w,h=>by
  rw [aJD,not_or] at h;rw [dO,aIp (fun e=>h.1 e.symm),nH h.2];rfl
theorem gR {c:UInt8} {l:List UInt8}:∀ {w:List UInt8},c∉w→dO c (w++c::l)=w::dO c l
 | [],_=>by rw [List.nil_append,dO,aIq rfl]
 | b::w,h=>by
  rw [aJD,not_or] at h;rw [List.cons_append,dO,aIp (fun e=>h.1 e.symm),gR h.2];rfl
theorem rS (c:UInt8):∀ l:List UInt8,(dO c l).length=l.count c+1
 | []=>rfl
 | b::l=>by
  have ih:=rS c l;rw [dO];by_cases h:b=c
  ·rw [aIq h,aIt,ih,h,List.count_cons_self]
  rw [aIp h,aIt,List.length_tail,ih,List.count_cons_of_ne h];omega
def kB:List UInt8→List (List UInt8)
 | []=>[]
 | b::l=>if b=10 then[10]::kB l else match kB l with
  | []=>[[b]]
  | w::r=>(b::w)::r
theorem AO {l:List UInt8}:∀ {w:List UInt8},(10:UInt8)∉w→kB (w++10::l)=(w++[10])::kB l
 | [],_=>by rw [List.nil_append,kB,aIq rfl];rfl
 | b::w,h=>by
  rw [aJD,not_or] at h;rw [List.cons_append,kB,aIp (fun e=>h.1 e.symm),AO h.2];rfl
theorem ET:∀ {w:List UInt8},(10:UInt8)∉w→w≠[]→kB w=[w]
 | [],_,h=>absurd rfl h
 | b::w,h,_=>by
  rw [aJD,not_or] at h;rw [kB,aIp (fun e=>h.1 e.symm)];by_cases e:w=[]
  ·subst e;rfl
  rw [ET h.2 e]
theorem zM:∀ {ls:List (List UInt8)},(∀ w∈ls,(10:UInt8)∉w)→kB (ls.flatMap (·++[10]))=ls.map (·++[10])
 | [],_=>rfl
 | w::ls,h=>by
  rw [List.flatMap_cons,List.append_assoc,List.singleton_append,AO (h w List.mem_cons_self),zM fun x hx=>h x (List.mem_cons_of_mem _ hx)];rfl
theorem vZ {c:UInt8}:∀ {l:List UInt8},Lib.indexByte l c = -1↔c∉l
 | []=>by simp [Lib.indexByte]
 | b::l=>by
  have ih:=vZ (c:=c) (l:=l);have hg:=Lib.indexByte_ge l c;rw [Lib.indexByte];by_cases h:b=c
  ·subst h;simp
  simp only [beq_iff_eq,h,if_false,aJD,not_or];constructor
  ·intro h2
   split at h2
   ·exact⟨fun e=>h e.symm,ih.1 (by assumption)⟩
   omega
  rintro⟨_,h2⟩;rw [ih.2 h2];rfl
theorem xQ {c:UInt8}:∀ {l:List UInt8},Lib.indexByte l c ≠ -1→∃ w r,l=w++c::r∧c∉w∧Lib.indexByte l c=(w.length:Int)
 | [],h=>absurd rfl h
 | b::l,h=>by
  by_cases e:b=c
  ·subst e;exact⟨[],l,rfl,by simp,by simp [Lib.indexByte]⟩
  have e1:Lib.indexByte l c ≠ -1:=fun e2=>h (by rw [Lib.indexByte];simp [e,e2]);obtain ⟨w,r,h1,h2,h3⟩:=xQ e1;refine⟨b::w,r,by rw [h1];rfl,by rw [aJD,not_or];exact⟨fun x=>e x.symm,h2⟩,?_⟩;rw [Lib.indexByte];simp only [beq_iff_eq,e,if_false,e1,h3,aIt];rw [aIp (by omega)]
  push_cast
  rfl
end Go.Abs
namespace Go.Abs
open Go.Lib
theorem U8 {d:Nat} (h:d < 10):digitVal (UInt8.ofNat (48+d))=some d:=by
 have e:(UInt8.ofNat (48+d)).toNat=48+d:=by rw [UInt8.toNat_ofNat'];omega
 rw [digitVal,e,aIq (by omega)];congr 1;omega
theorem wD {b:UInt8} {d:Nat} (hb:digitVal b=some d):∀ (l:List UInt8) (acc:Nat),decFrom acc (l++[b])=(decFrom acc l).map fun n=>n*10+d
 | [],acc=>by
  simp [decFrom,hb]
 | c::l,acc=>by
  rw [List.cons_append,decFrom,decFrom];cases h:digitVal c with
  | none=>rfl
  | some x=>exact wD hb l _
theorem rC (u:Nat):decDigits u≠[]:=by
 rw [decDigits]
 split
 ·simp
 simp
theorem x5 (u:Nat):decFrom 0 (decDigits u)=some u:=by
 induction u using Nat.strongRecOn with
 | ind u ih =>
  rw [decDigits]
  split
  ·rename_i h;rw [← List.nil_append [_],wD (U8 h)];simp [decFrom]
  rename_i h;rw [wD (U8 (Nat.mod_lt u (by decide))),ih (u / 10) (by omega)];simp only [Option.map_some];congr 1;omega
theorem sE {b:UInt8}:∀ (u:Nat),b∈decDigits u→48≤b.toNat∧b.toNat≤57:=by
 intro u
 induction u using Nat.strongRecOn with
 | ind u ih =>
  rw [decDigits]
  split
  ·rename_i h;intro hb;rw [aIu] at hb;subst hb;rw [UInt8.toNat_ofNat'];omega
  rename_i h;intro hb;rcases List.mem_append.1 hb with hb|hb
  ·exact ih (u / 10) (by omega) hb
  rw [aIu] at hb;subst hb;rw [UInt8.toNat_ofNat'];omega
theorem iG (n:Int) (h:0≤n):itoa n=decDigits n.toNat:=by rw [itoa,aIp (by omega)]
theorem X5 {n:Int} (h:0≤n):atoi (itoa n)=some n:=by
 rw [iG n h];obtain ⟨u,hu⟩:∃ u,u=n.toNat:=⟨_,rfl⟩;rw [← hu];have hd:=x5 u;have hm:∀ b∈decDigits u,48≤b.toNat∧b.toNat≤57:=fun b=>sE u;cases e:decDigits u with
 | nil=>exact absurd e (rC u)
 | cons b r =>
  have hb:=hm b (by rw [e];exact List.mem_cons_self);have e2:decNat (b::r)=some u:=by rw [decNat,← e,hd];simp [rC]
  unfold atoi;simp only [e2];have h43:b≠43:=fun h=>by rw [h] at hb;exact absurd hb.1 (by decide)
  have h45:b≠45:=fun h=>by rw [h] at hb;exact absurd hb.1 (by decide)
  split<;>simp_all
  omega
theorem eM:∀ {k u:Nat},u < 10 ^ k→0 < k→(decDigits u).length≤k
 | 0,_,_,h=>absurd h (Nat.lt_irrefl 0)
 | k+1,u,h,_=>by
  rw [decDigits]
  split
  ·simp
  rename_i h1;rw [aIs,List.length_singleton];have hk:0 < k:=by
   rcases Nat.eq_zero_or_pos k with e|e
   ·subst e;omega
   exact e
  have hd:u / 10 < 10 ^ k:=by rw [Nat.pow_succ] at h;omega
  have:=eM hd hk;omega
theorem CR {n:Int} (h:0≤n) (h2:n < 1000000000000000000):atoiAll (itoa n)=.ok n:=by
 have hl:(itoa n).length≤18:=by
  rw [iG n h];exact eM (by omega) (by decide)
 rw [atoiAll_short _ hl,X5 h];rfl
end Go.Abs
namespace Go.Abs
open Go.Proofs
def cR (n:Int):ByteArray:=⟨(Lib.itoa n).toArray⟩
theorem itoa_c {P:Program} {ρ:Shelf.Ren} (L:LaysM.n171 P ρ) {G:Nat} (hg:(G,GV.ints .u64 Lib.pow10Tab)∈NP) (hn:P.globalNamed "internal/strconv.uint64pow10" = some G) (n:Int) (h0 : -9223372036854775808≤n) (h1:n≤9223372036854775807) (H:aE) :
  aH P (ρ.f 171) [.pv (.int .i64 n)] H (fun r H'=>r=.pv (.str (cR n))∧H'=H):=by
 intro I ι w vs hr hvl hv;obtain ⟨v,rfl⟩:∃ v,vs=#[v]:=by
  match vs,hvl with
  | ⟨[v]⟩,_=>exact⟨v,rfl⟩
 have e1:=(hv 0 v _ rfl rfl).int_inv;subst e1;have htab:Lib.TabIs P w "internal/strconv.uint64pow10" .u64 Lib.pow10Tab:=by
  obtain ⟨_,cs,t,f,h2,h3⟩:=hr.glob _ hg;have h3':cs=(Lib.pow10Tab.map fun z=>Value.int .u64 z).toArray:=h3;subst h3';simp only [Lib.TabIs,World.var?,hn,Option.bind_some,h2]
 refine(Any.strconv_Itoa L n h0 h1 w htab).mono ?_;rintro e w' ⟨rfl,k,os,rfl⟩;obtain ⟨k1,k2⟩:=Rel.drawn (w':=w.drewN k) hr rfl rfl rfl rfl;obtain ⟨m1,m2⟩:=Rel.grown os k1;exact⟨_,_,I,ι,_,rfl,⟨rfl,rfl⟩,.pv (.str _),m1,k2.trans m2⟩
end Go.Abs
namespace Go.Proofs.YtlnfjkdacimblaaGreatDoor
open Go.Proofs.Tryz
open Go.Abs
def jP (o:GObj):List UInt8:=(dW o.kind).data.toList++32::(o.id.data.toList++32::(if o.kind=1 then Lib.itoa o.x++32::Lib.itoa o.y else 40::(bS [32] (bs o.refs)++[41])))
def m7 (o:GObj):List UInt8:=jP o++jF o.tags
def o9 (o:GObj):ByteArray:=⟨(m7 o).toArray⟩
def eB (o:GObj):ByteArray×Int:=if iC o then(if 0 < o.tags.length∧(gY o.tags).2≠0 then(aP,(gY o.tags).2)else if 20000 < (o9 o).size then(aP,2)else(o9 o,0))else(aP,1)
def atV (s:ByteArray):Int:=match Lib.atoiAll s.data.toList with
 | .ok v=>v
 | .range=>Lib.atoiSat s.data.toList
 | _=>0
def AM:GFound:=⟨0,aP,0,0⟩
def pV (T:List GFound):List GFound:=T++List.replicate (4 - T.length) AM
def uT (s:ByteArray):Int:=if s=dW 5 then 5 else if s=dW 4 then 4 else if s=dW 3 then 3 else if s=dW 2 then 2 else if s=dW 1 then 1 else 0
def iO (f:GFound):Bool:=decide (f.text=⟨#[41]⟩)&&decide (f.kind=4)
def mP:List GFound→List GTag
 | a::_::c::r=>⟨a.text,c.text⟩::mP r
 | _=>[]
theorem GR:∀ {T:List GFound} {l:List GTag},vK T=some l→mP T=l
 | [],l,h=>by rw [vK] at h;cases h;rfl
 | [_],l,h=>by rw [vK] at h<;>(cases h;done)
 | [_,_],l,h=>by rw [vK] at h<;>(cases h;done)
 | a::b::c::r,l,h=>by
  rw [vK] at h;cases e:vK r with
  | none=>rw [e] at h;cases h
  | some q =>
   rw [e] at h;cases h;rw [mP,GR e]
def k9 (T:List GFound):GObj :=if uT ((pV T).getD 0 AM).text=1 then⟨((pV T).getD 1 AM).text,1,atV ((pV T).getD 2 AM).text,atV ((pV T).getD 3 AM).text,[],mP ((pV T).drop 4)⟩
 else if jY iO (pV T) < 3 then zObj
 else⟨((pV T).getD 1 AM).text,uT ((pV T).getD 0 AM).text,0,0,(((pV T).take (jY iO (pV T)).toNat).drop 3).map GFound.text,mP ((pV T).drop ((jY iO (pV T)).toNat+1))⟩
def x9 (s:ByteArray) (i:Nat) (r:List UInt8) (T:List GFound):Prop:=∀ n,r.length≤n→iH s n i=T
theorem wI {s:ByteArray} {i j:Nat} {w r:List UInt8} {f:GFound} {T:List GFound} (hs:eF s i=(some f,j)) (hf:f.err=0) (hi:i < s.size) (hw:0 < w.length) (hT:x9 s j r T):x9 s i (w++r) (f::T):=by intro n hn;rw [aIs] at hn;obtain ⟨m,rfl⟩:∃ m,n=m+1:=⟨n - 1,by omega⟩;rw [iH,aIq hi,hs];show f::(if f.err=0 then iH s m j else[])=_;rw [aIq hf,hT m (by omega)]
theorem pK {s:ByteArray} {i:Nat} {r:List UInt8} {T:List GFound} (h:s.data.toList.drop i=32::r) (hT:x9 s (i+1) r T):x9 s i (32::r) T:=by intro n hn;rw [aIt] at hn;obtain ⟨m,rfl⟩:∃ m,n=m+1:=⟨n - 1,by omega⟩;rw [iH,aIq (mG h).1,aCi h];exact hT m (by omega)
theorem all_nil {s:ByteArray} {i:Nat} (h:s.data.toList.drop i=[]):x9 s i [] []:=by
 intro n _;have hge:¬ i < s.size:=by
  have:=List.drop_eq_nil_iff.1 h;rw [bC] at this;omega
 cases n with
 | zero=>rfl
 | succ n=>rw [iH,aIp hge]
theorem m8 {s:ByteArray} {i:Nat} {w r:List UInt8} (h:s.data.toList.drop i=w++r) (hw:0 < w.length):i < s.size:=by
 rcases Nat.lt_or_ge i s.size with h1|h1
 ·exact h1
 rw [List.drop_eq_nil_of_le (by rw [bC];exact h1)] at h;have:=congrArg List.length h;rw [List.length_nil,aIs] at this;omega
def zF (r:List UInt8):Prop:=∀ c r',r=c::r'→sF (c.toNat:Int)≠3∧sF (c.toNat:Int)≠4∧sF (c.toNat:Int)≠5
theorem VY:zF []:=fun c r' h=>by cases h
theorem jN (r:List UInt8):zF (32::r):=fun c r' h=>by cases h;exact⟨by decide,by decide,by decide⟩
theorem BI (r:List UInt8):zF (41::r):=fun c r' h=>by cases h;exact⟨by decide,by decide,by decide⟩
theorem kH {s k:ByteArray} {i:Nat} {r:List UInt8} {T:List GFound} (h:s.data.toList.drop i=k.data.toList++r) (hk:bU k=true) (hr:zF r) (hT:x9 s (i+k.size) r T):x9 s i (k.data.toList++r) (⟨1,k,i,0⟩::T):=by have hp:=(vW hk).1;exact wI (VZ h hk hr) rfl (m8 h (by rw [bC];exact hp)) (by rw [bC];exact hp) hT
theorem y8 {s:ByteArray} {i:Nat} {r:List UInt8} {c:UInt8} {T:List GFound} (h:s.data.toList.drop i=c::r) (hc:sF (c.toNat:Int)=6) (hT:x9 s (i+1) r T):x9 s i (c::r) (⟨4,⟨#[c]⟩,i,0⟩::T):=by
 have ha:kG s i=6:=by rw [A4 h];exact hc
 have hx:=tG (w:=[c]) (r:=r) h;have hs:eF s i=(some ⟨4,⟨#[c]⟩,i,0⟩,i+1):=by
  rw [eF,aIp (by rw [ha];decide),aIp (by rw [ha];decide),aIp (by rw [ha];decide),aIp (by rw [ha];decide),aIp (by rw [ha];decide),aIq ha];rw [List.length_singleton] at hx;rw [hx]
 exact wI (w:=[c]) hs rfl (mG h).1 Nat.zero_lt_one hT
theorem aDx:∀ b:UInt8,48≤b.toNat→b.toNat≤57→sF (b.toNat:Int)=4:=by
 intro b h1 h2;have h:∀ n:Fin 256,48≤n.val→n.val≤57→sF (n.val:Int)=4:=by decide +kernel
 exact h ⟨b.toNat,b.toNat_lt⟩ h1 h2
theorem GG {s:ByteArray} {i:Nat} {x:Int} {r:List UInt8} {T:List GFound} (h:s.data.toList.drop i=Lib.itoa x++r) (h0:0≤x) (h1:x < 10000000) (hr:zF r) (hT:x9 s (i+(Lib.itoa x).length) r T):x9 s i (Lib.itoa x++r) (⟨2,cR x,i,0⟩::T):=by
 have hw:=iG x h0;have hne:0 < (Lib.itoa x).length:=by rw [hw];exact List.length_pos_iff.2 (rC _)
 have hle:(Lib.itoa x).length≤7:=by rw [hw];exact eM (by omega) (by decide)
 have hat:∀ j,j < (Lib.itoa x).length→kG s (i+j)=4:=fun j hj=>by
  have hc:=aIw hj;rw [A4 (U7 h hc)];have hm:(Lib.itoa x)[j]∈Lib.decDigits x.toNat:=by rw [← hw];exact List.getElem_mem hj
  obtain ⟨d1,d2⟩:=sE _ hm;exact aDx _ d1 d2
 have hlen:i+(Lib.itoa x).length≤s.size:=by
  have:=congrArg List.length h;rw [aJG,aIs,bC] at this;have:=m8 h hne;omega
 have ha0:kG s i=4:=hat 0 hne;have hd:=eS h;have hstop:kG s (i+(Lib.itoa x).length)≠3∧kG s (i+(Lib.itoa x).length)≠4∧kG s (i+(Lib.itoa x).length)≠5:=by
  cases r with
  | nil=>rw [VE hd];exact⟨by decide,by decide,by decide⟩
  | cons c r'=>rw [A4 hd];exact hr c r' rfl
 have hend:AZ s i=i+(Lib.itoa x).length:=by
  refine sV (FC s) (by omega) (by omega) (fun j h1 h2=>?_) (.inl ?_)
  ·have:=hat (j - i) (by omega);rw [show i+(j - i)=j by omega] at this;rw [FC,this];rfl
  rw [FC,decide_eq_false hstop.2.1]
 have hs:eF s i=(some ⟨2,cR x,i,0⟩,i+(Lib.itoa x).length):=by
  rw [eF,aIp (by rw [ha0];decide),aIp (by rw [ha0];decide),aIp (by rw [ha0];decide),aIq ha0,hend,zN,tG h,decide_eq_false hstop.1,decide_eq_false hstop.2.2,decide_eq_false (by omega)];rfl
 exact wI hs rfl (m8 h hne) hne hT
theorem JB {s:ByteArray}:∀ (l:List GTag) (i:Nat),(∀ t,t∈l→bU t.key=true)→s.data.toList.drop i=jF l→∃ T,x9 s i (jF l) T∧JE T l
 | [],i,_,h=>⟨[],all_nil h,rfl,(fun f hf=>by cases hf),rfl⟩
 | t::l,i,hk,h=>by
  have hm:jF (t::l)=32::(t.key.data.toList++61::(dE t.val.data.toList++jF l)):=by
   rw [jF,List.flatMap_cons,HY];simp [jF]
  rw [hm] at h ⊢;have h1:=(mG h).2.2;have h2:=eS h1;rw [bC] at h2;have h3:=(mG h2).2.2;have h4:=eS h3;obtain ⟨T,hT,hR⟩:=JB l _ (fun t ht=>hk t (List.mem_cons_of_mem _ ht)) h4;have hq:0 < (dE t.val.data.toList).length:=by rw [dE,aIt];omega
  have b3:=wI (BJ h3) rfl (m8 h3 hq) hq hT;have b2:=y8 h2 (by decide) b3;have b1:=kH h1 (hk t List.mem_cons_self) (fun c r' e=>by cases e;exact⟨by decide,by decide,by decide⟩) b2;exact⟨_,pK h b1,JE.cons hR rfl rfl rfl⟩
theorem yU {o:GObj} (h:iC o=true):o.kind=1∨o.kind=2∨o.kind=3∨o.kind=4∨o.kind=5:=by have:=yZ h;omega
theorem uE {k:Int} (h:k=1∨k=2∨k=3∨k=4∨k=5):bU (dW k)=true∧uT (dW k)=k:=by
 rcases h with rfl|rfl|rfl|rfl|rfl
 ·exact⟨by kernel_rfl,by decide⟩
 ·exact⟨by kernel_rfl,by decide⟩
 ·exact⟨by kernel_rfl,by decide⟩
 ·exact⟨by kernel_rfl,by decide⟩
 exact⟨by kernel_rfl,by decide⟩
theorem oX {o:GObj} (h:iC o=true):∀ s∈o.refs,bU s=true:=fun s hs=>by
 rw [iC,aJA,aJA,aJK,aJK] at h;obtain ⟨i,hi⟩:=aJM.1 hs;have hlt:=(aIv.1 hi).1;have h1:=List.any_eq_false.1 h.2.1 i (List.mem_range.2 hlt);rw [nT,hi] at h1;simp only [D5,Bool.or_eq_true,not_or,Bool.not_eq_true,Bool.not_eq_false'] at h1;exact h1.2
theorem Q9 {o:GObj} (h:iC o=true):(0≤o.x∧o.x < 1048576)∧(0≤o.y∧o.y < 1048576)∧(o.kind=1→o.refs=[])∧(o.kind≠1→o.x=0∧o.y=0):=by
 rw [iC,aJA,aJA] at h;have h:=h.2.2;unfold IF at h
 split at h
 ·rename_i h1;rw [aJA,QI] at h;simp only [aJA,aIy] at h;refine⟨by omega,by omega,fun _=>List.length_eq_zero_iff.1 (by omega),fun e=>absurd h1 e⟩
 rename_i h1
 split at h<;>simp only [aJA,aIy] at h<;>exact⟨by omega,by omega,fun e=>absurd e h1,fun _=>by omega⟩
theorem JA {s:ByteArray}:∀ (l:List ByteArray) (i:Nat) (r:List UInt8) (T:List GFound),(∀ k,k∈l→bU k=true)→s.data.toList.drop i=l.flatMap (fun k=>32::k.data.toList)++r→zF r →
  x9 s (i+(l.flatMap fun k=>32::k.data.toList).length) r T→∃ R:List GFound,x9 s i (l.flatMap (fun k=>32::k.data.toList)++r) (R++T)∧R.map GFound.text=l∧∀ f∈R,f.kind=1∧f.err=0
 | [],i,r,T,_,h,_,hT=>⟨[],hT,rfl,(fun f hf=>by cases hf)⟩
 | k::l,i,r,T,hk,h,hr,hT=>by
  have hm:(k::l).flatMap (fun k=>32::k.data.toList)++r=32::(k.data.toList++(l.flatMap (fun k=>32::k.data.toList)++r)):=by
   rw [List.flatMap_cons];simp
  have hln:((k::l).flatMap fun k=>32::k.data.toList).length=1+k.size+(l.flatMap fun k=>32::k.data.toList).length:=by
   rw [List.flatMap_cons,aIs,aIt,bC];omega
  rw [hm] at h ⊢;have h1:=(mG h).2.2;have h2:=eS h1;rw [bC] at h2;obtain ⟨R,hR,e1,e2⟩:=JA l (i+1+k.size) r T (fun x hx=>hk x (List.mem_cons_of_mem _ hx)) h2 hr (by rw [hln] at hT;rw [show i+1+k.size+(l.flatMap fun k=>32::k.data.toList).length=i+(1+k.size+(l.flatMap fun k=>32::k.data.toList).length)by omega];exact hT);have hst:zF (l.flatMap (fun k=>32::k.data.toList)++r):=by
   cases l with
   | nil=>exact hr
   | cons a l=>rw [List.flatMap_cons];exact jN _
  refine⟨⟨1,k,i+1,0⟩::R,pK h (kH h1 (hk k List.mem_cons_self) hst hR),by rw [List.map_cons,e1],fun f hf=>?_⟩;rcases aJD.1 hf with rfl|hf
  ·exact⟨rfl,rfl⟩
  exact e2 f hf
theorem r9 (k:ByteArray) (l:List ByteArray):bS [32] (bs (k::l))=k.data.toList++l.flatMap (fun k=>32::k.data.toList):=by rw [bs,List.map_cons,bS,List.flatMap_map];rfl
theorem aBT {α:Type} {p:α→Bool} {c:α} {B:List α}:∀ {A:List α},(∀ a,a∈A→p a=false)→p c=true→jY p (A++c::B)=(A.length:Int):=by
 intro A hA hc;have h:(A++c::B).findIdx? p=some A.length:=by
  induction A with
  | nil=>rw [List.nil_append,List.findIdx?_cons,aIq hc];rfl
  | cons a A ih =>
   rw [List.cons_append,List.findIdx?_cons,aIp (by rw [hA a List.mem_cons_self];decide),ih fun x hx=>hA x (List.mem_cons_of_mem _ hx)];rfl
 rw [jY,h]
theorem GX (l:List GTag):zF (jF l):=by
 cases l with
 | nil=>exact VY
 | cons t l=>rw [jF,List.flatMap_cons];exact jN _
theorem RA {x:Int} (h:0≤x) (h2:x < 1000000000000000000):atV (cR x)=x:=by rw [atV];show (match Lib.atoiAll (Lib.itoa x)with|.ok v=>v|.range=>_|_=>0)=x;rw [CR h h2]
theorem KV {o:GObj} (h:iC o=true) (hk:o.kind≠1):∃ k l,o.refs=k::l:=by
 have hk5:=yU h;rw [iC,aJA,aJK,CE,pD] at h;have h1:=h.1;simp only [aJN,Bool.not_eq_false',aIz] at h1;have h4:=h1.1.2;have hl:1≤xT o.kind:=by
  rcases hk5 with e|e|e|e|e
  ·exact absurd e hk
  ·rw [e];decide
  ·rw [e];decide
  ·rw [e];decide
  rw [e];decide
 cases e:o.refs with
 | nil=>rw [e] at h4;exact absurd (show ((([]:List ByteArray).length:Nat):Int) < xT o.kind by show (0:Int) < _;omega) h4
 | cons k l=>exact⟨k,l,rfl⟩
theorem UF {T:List GFound} (h:4≤T.length):pV T=T:=by rw [pV,show 4 - T.length=0 by omega,List.replicate_zero,List.append_nil]
theorem LE (o:GObj):(o9 o).data.toList.drop 0=m7 o:=rfl
theorem F5 {o:GObj} {i:ByteArray} {k x y:Int} {r:List ByteArray} {t:List GTag} (h1:o.id=i) (h2:o.kind=k) (h3:o.x=x) (h4:o.y=y) (h5:o.refs=r) (h6:o.tags=t):(⟨i,k,x,y,r,t⟩:GObj)=o:=by subst h1 h2 h3 h4 h5 h6;rfl
theorem aAC {o:GObj} (hg:iC o=true):∃ T,x9 (o9 o) 0 (m7 o) T∧(∀ f,f∈T→f.err=0)∧T.length≤5000∧k9 T=o:=by
 obtain ⟨hr,ht,htg,hid,_⟩:=k7 hg;obtain ⟨hx,hy,hn,hz⟩:=Q9 hg;obtain ⟨hw,hkw⟩:=uE (yU hg);have hkey:∀ t,t∈o.tags→bU t.key=true:=fun t h=>((rL.1 htg).1 t h).1;have h0:=LE o;by_cases hk:o.kind=1
 ·have e:m7 o=(dW o.kind).data.toList++32::(o.id.data.toList++32::(Lib.itoa o.x++32::(Lib.itoa o.y++jF o.tags))):=by
   rw [m7,jP,aIq hk];simp
  rw [e] at h0 ⊢;have h1:=eS h0;rw [bC] at h1;have h2:=(mG h1).2.2;have h3:=eS h2;rw [bC] at h3;have h4:=(mG h3).2.2;have h5:=eS h4;have h6:=(mG h5).2.2;have h7:=eS h6;obtain ⟨T,hT,r1,r2,r3⟩:=JB o.tags _ hkey h7;have b:=kH h0 hw (jN _) (pK h1 (kH h2 hid (jN _) (pK h3 (GG h4 hx.1 (by omega) (jN _) (pK h5 (GG h6 hy.1 (by omega) (GX _) hT))))));refine⟨_,b,fun f hf=>?_,?_,?_⟩
  ·simp only [aJD] at hf;rcases hf with rfl|rfl|rfl|rfl|hf
   ·rfl
   ·rfl
   ·rfl
   ·rfl
   exact r2 f hf
  ·simp only [aIt];omega
  rw [k9,UF (by simp only [aIt];omega)];simp only [List.getD_cons_zero,List.getD_cons_succ,List.drop_succ_cons,List.drop_zero];rw [hkw,aIq hk,GR r1,RA hx.1 (by omega),RA hy.1 (by omega)];exact F5 rfl hk rfl rfl (hn hk) rfl
 obtain ⟨k,l,hkl⟩:=KV hg hk;have hnm:=oX hg;rw [hkl] at hnm;have e:m7 o=(dW o.kind).data.toList++32::(o.id.data.toList++32::(40::(k.data.toList++(l.flatMap (fun k=>32::k.data.toList)++41::jF o.tags)))):=by
  rw [m7,jP,aIp hk,hkl,r9];simp
 rw [e] at h0 ⊢;have h1:=eS h0;rw [bC] at h1;have h2:=(mG h1).2.2;have h3:=eS h2;rw [bC] at h3;have h4:=(mG h3).2.2;have h5:=(mG h4).2.2;have h6:=eS h5;rw [bC] at h6;have h7:=eS h6;have h8:=(mG h7).2.2;obtain ⟨T,hT,r1,r2,r3⟩:=JB o.tags _ hkey h8;have hcl:=y8 h7 (by decide) hT;obtain ⟨R,hR,q1,q2⟩:=JA l _ _ _ (fun x hx=>hnm x (List.mem_cons_of_mem _ hx)) h6 (BI _) hcl;have hst:zF (l.flatMap (fun k=>32::k.data.toList)++41::jF o.tags):=by
  cases l with
  | nil=>exact BI _
  | cons a l=>rw [List.flatMap_cons];exact jN _
 have b:=kH h0 hw (jN _) (pK h1 (kH h2 hid (jN _) (pK h3 (y8 h4 (by decide) (kH h5 (hnm k List.mem_cons_self) hst hR)))));have hRl:R.length=l.length:=by rw [← q1,aIr]
 have hrl:o.refs.length=l.length+1:=by rw [hkl,aIt]
 refine⟨_,b,fun f hf=>?_,?_,?_⟩
 ·simp only [aJD,List.mem_append] at hf;rcases hf with rfl|rfl|rfl|rfl|hf|rfl|hf
  ·rfl
  ·rfl
  ·rfl
  ·rfl
  ·exact(q2 f hf).2
  ·rfl
  exact r2 f hf
 ·simp only [aIt,aIs];omega
 obtain ⟨A,hA⟩:∃ A:List GFound,A=⟨1,dW o.kind,0,0⟩::⟨1,o.id,0+(dW o.kind).size+1,0⟩::⟨4,⟨#[40]⟩,0+(dW o.kind).size+1+o.id.size+1,0⟩::⟨1,k,0+(dW o.kind).size+1+o.id.size+1+1,0⟩::R:=⟨_,rfl⟩;have hAl:A.length=R.length+4:=by rw [hA];rfl
 have hAc:∀ a,a∈A→iO a=false:=by
  intro a ha;rw [hA] at ha;simp only [aJD] at ha;rcases ha with rfl|rfl|rfl|rfl|ha
  ·rw [iO,decide_eq_false (show ¬ ((1:Int)=4)by decide),Bool.and_false]
  ·rw [iO,decide_eq_false (show ¬ ((1:Int)=4)by decide),Bool.and_false]
  ·rfl
  ·rw [iO,decide_eq_false (show ¬ ((1:Int)=4)by decide),Bool.and_false]
  rw [iO,(q2 a ha).1,decide_eq_false (show ¬ ((1:Int)=4)by decide),Bool.and_false]
 have hdrop:∀ c:GFound,(A++c::T).drop (A.length+1)=T:=fun c=>by
  rw [show A++c::T=(A++[c])++T by simp,show A.length+1=(A++[c]).length by simp,List.drop_left]
 have hx:=fun j=>aBT (p:=iO) (c:=⟨4,⟨#[41]⟩,j,0⟩) (B:=T) hAc rfl;have hTT:∀ j,(⟨1,dW o.kind,0,0⟩::⟨1,o.id,0+(dW o.kind).size+1,0⟩::⟨4,⟨#[40]⟩,0+(dW o.kind).size+1+o.id.size+1,0⟩::⟨1,k,0+(dW o.kind).size+1+o.id.size+1+1,0⟩::(R++⟨4,⟨#[41]⟩,j,0⟩::T):List GFound)=A++⟨4,⟨#[41]⟩,j,0⟩::T:=fun j=>by rw [hA];rfl
 rw [k9,hTT,UF (by rw [aIs,hAl];omega),hx,aIp (by rw [hA];show ¬ uT (dW o.kind)=1;rw [hkw];exact hk),aIp (by rw [hAl];omega),aJC,List.take_left,hdrop,GR r1];obtain ⟨z1,z2⟩:=hz hk;refine F5 ?_ ?_ z1 z2 ?_ rfl
 ·rw [hA];rfl
 ·rw [hA];show o.kind=uT (dW o.kind);rw [hkw]
 rw [hkl,hA];show k::l=k::R.map GFound.text;rw [q1]
theorem V6 {l:List ByteArray} (hn:l.Pairwise (fun a b=>a≠b)) (hle:(j4 l).Pairwise (fun a b=>kR b a=false)):(j4 l).Pairwise (fun a b=>kR a b=true):=by
 have hp:(j4 l).Pairwise (fun a b=>a≠b):=(G6 l).symm.pairwise hn (fun {a b} h=>h.symm);refine(hp.and hle).imp fun {a b} h=>?_;obtain ⟨h1,h2⟩:=h;cases hc:kR a b with
 | true=>rfl
 | false=>exact absurd (sU hc h2) h1
theorem aCm (a b:ByteArray):kR a b=decide (OT a < OT b):=by unfold kR;rw [kW,ByteArray.toList_eq,ByteArray.toList_eq];rfl
theorem TW (l:List UInt8):OT (ofU l)=l:=by simp [OT,ofU]
theorem ZU (l:List ByteArray):(j4 l).Pairwise (fun a b=>kR b a=false):=by unfold j4;rw [List.pairwise_map];refine List.Pairwise.imp (R:=fun(x y:List UInt8)=>decide (x≤y)=true) (fun {x y} h=>?_) (List.pairwise_mergeSort (le:=fun(x y:List UInt8)=>decide (x≤y)) (fun a b c h1 h2=>decide_eq_true (List.le_trans (aIn h1) (aIn h2))) EN _);rw [aCm,TW,TW];exact decide_eq_false (List.not_lt.2 (aIn h))
theorem RV {l:List ByteArray} {s:ByteArray} (h:l.Pairwise (fun a b=>a≠b)):(nX l s).Pairwise (fun a b=>a≠b):=by
 unfold nX
 split
 ·exact h
 next hn =>
 rw [List.pairwise_append];refine⟨h,List.pairwise_singleton _ _,fun a ha b hb e=>?_⟩;rw [aIu] at hb;subst hb;subst e;exact hn (yX.2 ha)
theorem rD:∀ {l L:List ByteArray},L.Pairwise (fun a b=>a≠b)→(fJ L l).Pairwise (fun a b=>a≠b)
 | [],L,h=>h
 | s::l,L,h=>by
  show (fJ (nX L s) l).Pairwise _;exact rD (RV h)
theorem WZ (e:GEdit):(eO e).Pairwise (fun a b=>kR a b=true):=by
 unfold eO
 split
 ·exact V6 ((rD (rD (rD .nil))).filter _) (ZU _)
 exact .nil
def aEw (p o:GObj):List GTag:=p.tags.filter fun t=>decide (IG o.tags t.key=none)
def inT (l:List GTag) (t:GTag):Bool:=l.any fun x=>decide (t.key=x.key)&&decide (t.val=x.val)
def aEv (p o:GObj):List GTag:=o.tags.filter fun t=>!inT p.tags t
def aGZ (p o:GObj):List (ByteArray×ByteArray):=(aEw p o).map (fun t=>(t.key,aP))++(aEv p o).map (fun t=>(t.key,t.val))
def zs (down:Bool):List Int:=if down then[2,1,0] else[0,1,2]
def p0 (m:List GObj) (down:Bool):List GObj:=(zs down).flatMap fun z=>m.filter fun o=>decide (o.kind.tdiv 2=z)
theorem aAj {m:List GObj} {d:Bool} (hk:∀ o∈m,1≤o.kind∧o.kind≤5) {o:GObj}:o∈p0 m d↔o∈m:=by
 rw [p0,List.mem_flatMap];constructor
 ·rintro⟨z,_,h⟩;exact(List.mem_filter.1 h).1
 intro h;obtain ⟨h1,h2⟩:=hk o h;refine⟨o.kind.tdiv 2,?_,List.mem_filter.2 ⟨h,decide_eq_true rfl⟩⟩;have h3:o.kind=1∨o.kind=2∨o.kind=3∨o.kind=4∨o.kind=5:=by omega
 rcases h3 with e|e|e|e|e<;>rw [e]<;>cases d<;>decide
theorem P0 {m:List GObj} (hu:Y2 m) {R:Int→Int→Prop} (hR:∀ z,R z z):∀ {Z:List Int},Z.Pairwise (fun a b=>a≠b∧R a b)→(Z.flatMap fun z=>m.filter fun o=>decide (o.kind.tdiv 2=z)).Pairwise (fun x y=>x.id≠y.id∧R (x.kind.tdiv 2) (y.kind.tdiv 2))
 | [],_=>List.Pairwise.nil
 | z::Z,h=>by
  rw [List.pairwise_cons] at h;rw [List.flatMap_cons,List.pairwise_append];refine⟨?_,P0 hu hR h.2,fun x hx y hy=>?_⟩
  ·have h1:(m.filter fun o=>decide (o.kind.tdiv 2=z)).Pairwise (fun x y=>kR x.id y.id=true):=List.Pairwise.filter _ hu;refine List.Pairwise.imp_of_mem (fun {x y} hx hy hxy=>?_) h1;have e1:=aIn (List.mem_filter.1 hx).2;have e2:=aIn (List.mem_filter.1 hy).2;rw [e1,e2];exact⟨(fun e=>by rw [e,kQ] at hxy;cases hxy),hR z⟩
  obtain ⟨z2,hz2,hy2⟩:=List.mem_flatMap.1 hy;have e1:=aIn (List.mem_filter.1 hx).2;have e2:=aIn (List.mem_filter.1 hy2).2;rw [e1,e2];obtain ⟨h3,h4⟩:=h.1 z2 hz2;refine⟨fun e=>h3 ?_,h4⟩;have a1:=PX hu (List.mem_filter.1 hx).1;have a2:=PX hu (List.mem_filter.1 hy2).1;rw [e,a2] at a1;cases a1;rw [← e1,← e2]
theorem aFc {m:List GObj} (hu:Y2 m):(p0 m false).Pairwise (fun x y=>x.id≠y.id∧x.kind.tdiv 2≤y.kind.tdiv 2):=P0 hu (R:=fun a b=>a≤b) (fun _=>Int.le_refl _) (Z:=[0,1,2]) (by decide)
def IU (b:List GObj) (o:GObj):Bool:=match m9 b o.id with
 | some p=>!decide (p.kind=o.kind)||(decide (o.kind=5)&&!decide (o.refs=p.refs))
 | none=>false
def rnB (b:List GObj) (X:List ByteArray) (o:GObj):Bool:=IU b o||o.refs.any (mH X)
def OB (b:List GObj):List ByteArray→List GObj→List ByteArray
 | X,[]=>X
 | X,o::L=>OB b (if rnB b X o then X++[o.id] else X) L
def pO (a b:List GObj):List ByteArray:=OB b [] (p0 a false)
theorem T5 (b:List GObj):∀ (L1 L2:List GObj) (X:List ByteArray),OB b X (L1++L2)=OB b (OB b X L1) L2
 | [],_,_=>rfl
 | o::L1,L2,X=>T5 b L1 L2 _
theorem O4 (b:List GObj):∀ (L:List GObj) {X:List ByteArray} {s:ByteArray},s∈OB b X L→s∈X∨∃ o∈L,o.id=s
 | [],_,_,h=>.inl h
 | o::L,X,s,h=>by
  rcases O4 b L h with h1|⟨x,hx,e⟩
  ·split at h1
   ·rcases List.mem_append.1 h1 with h2|h2
    ·exact .inl h2
    exact .inr ⟨o,List.mem_cons_self,(aIu.1 h2).symm⟩
   exact .inl h1
  exact .inr ⟨x,List.mem_cons_of_mem _ hx,e⟩
end Go.Proofs.YtlnfjkdacimblaaGreatDoor
namespace Go.Abs
section
section
variable {P:Program} {H:aE}
theorem XO (s:ByteArray) (c:Int):YL P Extern.BytealgCount.count H [.pv (.str s),.pv (.int .u8 c)] (.pv (.int .i64 ((Lib.countByte s.data.toList c.toNat.toUInt8:Nat):Int))):=by intro w I ι cs hl h;obtain ⟨u,v,rfl,h1,h2⟩:=BG hl h;rw [h1.str_inv,h2.int_inv];exact⟨_,Lib.run_countString s c w,.pv (.int _ _)⟩
end
end
end Go.Abs
namespace Go.Proofs.YtlnfjkdacimblaaGreatDoor
open Go.Proofs.Tryz
open Go.Abs
abbrev sSp:ByteArray:=⟨#[32]⟩
theorem KU (s:ByteArray) (H:aE):aH Tryz.prog 178 [sv s,sv sSp] H (fun r H'=>r=iv (Lib.indexByte s.data.toList 32)∧H'=H):=by
 refine Pu ?_;refine Bd func178 rfl ntmps178<|Sr<|Dd aO<|Zz<|Sr<|Dd aD<|Dd (jJ underlying9)<|Dd aO<|Zz<|Sq<|aF<|Sq ?_;refine bD (t:=16) (n:=9) (X:=decide (sSp=s)) ?_ ?_
 ·all_goals refine Dd aD ?_
  all_goals refine Dd cI<|Dm ?_
  all_goals refine Sp 19 (fun h19=>?_) fun h19=>?_
  all_goals try contradiction
  all_goals refine On aD<|On aD<|On sQ<|Dd dI<|Da ?_
  all_goals(exact⟨⟨_,rfl,by rfl⟩,rfl,rfl,rfl⟩)
 refine Cn ?_ ?_<;>intro hc1
 ·have hs:=aIn hc1;subst hs;exact Sr<|Dd aO<|Zz<|aC<|Rt<|Qq
 refine Sr<|Dd aD<|Dd cI<|Da ?_;refine Cn ?_ ?_<;>intro hc2
 ·exact Sr<|Dd aD<|Dd aD<|Dd (by exact cF rfl underlying9 rfl rfl (by omega) (by exact aJC _) (show 0 < (⟨#[32]⟩:ByteArray).size from Nat.zero_lt_one) rfl)<|Dd (by exact aA rfl rfl call130 rfl (zG s 32 _))<|Dd aO<|Zz<|aC<|Rt<|Qq
 cases hc2
theorem aDa (s:ByteArray) (H:aE):aH Tryz.prog 177 [sv s,sv sSp] H (fun r H'=>r=iv (Lib.indexByte s.data.toList 32)∧H'=H):=by refine Pu ?_;exact Bd func177 rfl ntmps177<|Sr<|Dd aO<|Zz<|Sr<|Dd aD<|Dd aD<|Dd (by exact aA rfl rfl aIE rfl (KU s _))<|Dd aO<|Zz<|aC<|Rt<|Qq
def QT (s:ByteArray):AV:=if Lib.indexByte s.data.toList 32 = -1 then .tup [sv s,sv ⟨#[]⟩,bv false] else .tup [sv (s.extract 0 (Lib.indexByte s.data.toList 32).toNat),sv (s.extract ((Lib.indexByte s.data.toList 32).toNat+1) s.size),bv true]
theorem aCp (s:ByteArray) (H:aE) (hs:s.size < 1099511627776):aH Tryz.prog 132 [sv s,sv sSp] H (fun r H'=>r=QT s∧H'=H):=by
 refine Pu ?_;have hI:=fun H=>KU s H;rw [QT];rcases Classical.em (Lib.indexByte s.data.toList 32 = -1)with h1|h1
 ·rw [aIq h1];simp only [h1] at hI;refine Bd func132 rfl ntmps132<|Sr<|Dd aO<|Dd aO<|Dd aO<|Zz<|Sq<|Sr<|Dd aD<|Dd aD<|Dd (by exact aA rfl rfl aIE rfl (hI _))<|Dd aO<|Zz<|Sr<|Dd aD<|Dd wP<|Zz ?_;refine Cn ?_ ?_<;>intro hc1
  ·cases hc1
  refine aB<|Sr<|Dd aD<|Dd aO<|Dd aO<|Dd aO<|Zz<|aC ?_;refine jX (H':=[]) (.inr rfl) rfl (aN rfl) (aN rfl) (aN rfl) (Fin.wk (by simp) trivial trivial) ?_;exact Qq
 rw [aIp h1];obtain ⟨w,r,e1,e2,e3⟩:=xQ h1;simp only [e3] at hI;rw [e3,aJC];have hl:w.length+1+r.length=s.size:=by rw [← show s.data.toList.length=s.size by simp,e1,aIs,aIt];omega
 refine Bd func132 rfl ntmps132<|Sr<|Dd aO<|Dd aO<|Dd aO<|Zz<|Sq<|Sr<|Dd aD<|Dd aD<|Dd (by exact aA rfl rfl aIE rfl (hI _))<|Dd aO<|Zz<|Sr<|Dd aD<|Dd wP<|Zz ?_;refine Cn ?_ ?_<;>intro hc1
 ·refine Sq<|aU follows<|Cq aD<|Cq aD<|Cq (by exact cW (l:=0) (h:=(w.length)) rfl underlying9 rfl rfl rfl (by omega) (by omega) rfl)<|Cq aD<|Cq aD<|Cq aD<|Cq (jJ underlying9)<|Cq (by exact iM rfl rfl rfl (show IntKind.i64.wrap ((w.length:Int)+1)=((w.length+1:Nat):Int)by rw [IntKind.wrap_i64];omega))<|Cq (by exact cW (l:=(w.length+1)) (h:=s.size) rfl underlying9 rfl rfl rfl (by omega) (by omega) rfl)<|Cq aO<|Cq aO<|Cq aO<|bM<|Kr<|aC ?_;refine jX (H':=[]) (.inr rfl) rfl (aN rfl) (aN rfl) (aN rfl) (Fin.wk (by simp) trivial trivial) ?_;exact Qq
 have hx:=aIo hc1;omega
theorem aGx (s:ByteArray) (H:aE) (hs:s.size < 1099511627776):aH Tryz.prog 80 [sv s,sv sSp] H (fun r H'=>r=QT s∧H'=H):=by
 refine Pu ?_;have hC:=fun H=>aCp s H hs;rw [QT] at *;rcases Classical.em (Lib.indexByte s.data.toList 32 = -1)with h1|h1
 ·simp only [QT,aIq h1] at hC ⊢;refine Bd func80 rfl ntmps80<|Sr<|Dd aO<|Dd aO<|Dd aO<|Zz<|Sr<|Dd aD<|Dd aD<|Dd (by exact aA rfl rfl call132 rfl (hC _))<|Dd eZ<|Dd eZ<|Dd eZ<|Dd aO<|Dd aO<|Dd aO<|Zz<|aC ?_;refine jX (H':=[]) (.inr rfl) rfl (aN rfl) (aN rfl) (aN rfl) (Fin.wk (by simp) trivial trivial) ?_;exact Qq
 simp only [QT,aIp h1] at hC ⊢;refine Bd func80 rfl ntmps80<|Sr<|Dd aO<|Dd aO<|Dd aO<|Zz<|Sr<|Dd aD<|Dd aD<|Dd (by exact aA rfl rfl call132 rfl (hC _))<|Dd eZ<|Dd eZ<|Dd eZ<|Dd aO<|Dd aO<|Dd aO<|Zz<|aC ?_;refine jX (H':=[]) (.inr rfl) rfl (aN rfl) (aN rfl) (aN rfl) (Fin.wk (by simp) trivial trivial) ?_;exact Qq
abbrev sNl:ByteArray:=⟨#[10]⟩
def wC (s:ByteArray):Bool:=decide ((1:Int)≤(s.size:Int))&&decide (s.extract (s.size - 1) s.size=sNl)
def xB (s:ByteArray):ByteArray:=if wC s then s.extract 0 (s.size - 1)else s
theorem P9 (s:ByteArray) (H:aE) (hs:s.size < 1099511627776):aH Tryz.prog 136 [sv s,sv sNl] H (fun r H'=>r=bv (wC s)∧H'=H):=by
 refine Pu ?_;refine Bd func136 rfl ntmps136<|Sr<|Dd aO<|Zz<|Sq ?_;refine bD (t:=4) (n:=18) (X:=wC s) ?_ ?_
 ·all_goals refine Dd aD ?_
  all_goals refine Dd (jJ underlying9)<|Dd aD<|Dd (jJ underlying9)<|Dd wP<|Dm ?_
  all_goals refine Sp 10 (fun h10=>?_) fun h10=>?_
  all_goals try contradiction
  all_goals first|refine Fo<|Fo<|Fo<|Fo<|Fo<|Fo<|Fo<|Fo<|Fo ?_|refine On aD<|On aD<|On (jJ underlying9)<|On aD<|On (jJ underlying9)<|On (by exact gC rfl rfl rfl (show IntKind.i64.wrap ((s.size:Int) - 1)=((s.size - 1:Nat):Int)by have h11:(1:Int)≤(s.size:Int):=aIn h10;rw [IntKind.wrap_i64];omega))<|On (by exact cW (l:=(s.size - 1)) (h:=s.size) rfl underlying9 rfl rfl rfl (by omega) (by omega) rfl)<|On aD<|On sQ ?_
  all_goals refine Dd dI<|Da ?_
  all_goals(exact⟨⟨_,rfl,by(simp only [wC];rw [show decide ((1:Int)≤(s.size:Int))=_ from h10];rfl)⟩,rfl,rfl,rfl⟩)
 exact aC<|Rt<|Qq
theorem ZZ (s:ByteArray) (H:aE) (hs:s.size < 1099511627776):aH Tryz.prog 84 [sv s,sv sNl] H (fun r H'=>r=sv (xB s)∧H'=H):=by
 refine Pu ?_;refine Bd func84 rfl ntmps84<|Sr<|Dd aO<|Zz<|Sq<|Sr<|Dd aD<|Dd aD<|Dd (by exact aA rfl rfl call136 rfl (P9 s _ hs))<|Zz ?_;refine Cn ?_ ?_<;>intro hc1
 ·have h1:1≤s.size:=by
   have h:=hc1;rw [wC,aJA,aIy] at h;omega
  rw [xB,aIq hc1];exact Sr<|Dd aD<|Dd aD<|Dd (jJ underlying9)<|Dd aD<|Dd (jJ underlying9)<|Dd (by exact gC rfl rfl rfl (show IntKind.i64.wrap ((s.size:Int) - 1)=((s.size - 1:Nat):Int)by rw [IntKind.wrap_i64];omega))<|Dd (by exact cW (l:=0) (h:=(s.size - 1)) rfl underlying9 rfl rfl rfl (by omega) (by omega) rfl)<|Dd aO<|Zz<|aC<|Rt<|Qq
 rw [xB,aIp (by rw [hc1];decide)];exact aB<|Sr<|Dd aD<|Dd aO<|Zz<|aC<|Rt<|Qq
theorem aEu (s:ByteArray) (H:aE) (hs:s.size < 1099511627776):aH Tryz.prog 39 [sv s,sv sNl] H (fun r H'=>r=sv (xB s)∧H'=H):=by refine Pu ?_;exact Bd func39 rfl ntmps39<|Sr<|Dd aO<|Zz<|Sr<|Dd aD<|Dd aD<|Dd (by exact aA rfl rfl call84 rfl (ZZ s _ hs))<|Dd aO<|Zz<|aC<|Rt<|Qq
theorem aEA (s:ByteArray) (H:aE):aH Tryz.prog 176 [sv s,sv sSp] H (fun r H'=>r=iv ((s.data.toList.count 32:Nat):Int)∧H'=H):=by
 refine Pu ?_;refine Bd func176 rfl ntmps176<|Sr<|Dd aO<|Zz<|Sq<|Sr<|Dd aD<|Dd (jJ underlying9)<|Dd cI<|Zz ?_;refine Cn ?_ ?_<;>intro hc1
 ·cases hc1
 refine aB<|Sq<|Sr<|Dd aD<|Dd (jJ underlying9)<|Dd cI<|Zz ?_;refine Cn ?_ ?_<;>intro hc2
 ·exact Sr<|Dd aD<|Dd aD<|Dd (by exact cF rfl underlying9 rfl rfl (by omega) (by exact aJC _) (show 0 < (⟨#[32]⟩:ByteArray).size from Nat.zero_lt_one) rfl)<|Dd (by exact BY rfl rfl func227 rfl rfl rfl rfl rfl (XO s 32))<|Dd aO<|Zz<|aC<|Rt<|Qq
 cases hc2
def ofY (l:List UInt8):ByteArray:=⟨l.toArray⟩
def cN (s:ByteArray):List ByteArray:=(dO 32 s.data.toList).map ofY
def vN (D:List ByteArray) (m:Nat):List (List AV):=D.map (fun e=>(encStr e).map AV.pv)++List.replicate m [sv ⟨#[]⟩]
theorem KR (D:List ByteArray) (m:Nat):(vN D (m+1))[D.length]?=some [sv ⟨#[]⟩]:=by rw [vN,List.getElem?_append_right (by rw [aIr];exact aIx _),aIr,Nat.sub_self];rfl
theorem RW {s:ByteArray} (h:(cN s).length=1):cN s=[s]:=by rw [cN,aIr,rS] at h;have h0:(32:UInt8)∉s.data.toList:=List.count_eq_zero.1 (by omega);rw [cN,nH h0];rfl
theorem G4 (D:List ByteArray) (m:Nat) (x:ByteArray):(vN D (m+1)).set D.length [sv x]=vN (D++[x]) m:=by unfold vN;rw [List.set_append_right _ _ (by rw [aIr];exact aIx _),aIr,Nat.sub_self,List.map_append,List.append_assoc];rfl
theorem G5 (H:aE) (D:List ByteArray) (m:Nat):∀ r∈vN D m,∀ a∈r,Clo H a:=by
 intro r hr a ha;rcases List.mem_append.1 hr with hr|hr
 ·obtain ⟨d,_,rfl⟩:=List.mem_map.1 hr;obtain ⟨p,_,rfl⟩:=List.mem_map.1 ha;simp
 rw [List.eq_of_mem_replicate hr,aIu] at ha;subst ha;simp
theorem exL (s:ByteArray) (i j:Nat):(s.extract i j).data.toList=(s.data.toList.drop i).take (j - i):=by rw [ByteArray.data_extract,Array.toList_extract,List.extract_eq_take_drop]
theorem S4 {a b:ByteArray} (h:a.data.toList=b.data.toList):a=b:=by cases a;cases b;simp_all [Array.toList_inj]
theorem aAd {s:ByteArray} {w r:List UInt8} (h:s.data.toList=w++32::r):s.extract 0 w.length=ofY w∧(s.extract (w.length+1) s.size).data.toList=r:=by
 have hl:s.size=w.length+1+r.length:=by
  show s.data.size=_;rw [← Array.length_toList,h,aIs,aIt];omega
 constructor
 ·refine S4 ?_;rw [exL,List.drop_zero,Nat.sub_zero,h,List.take_left];simp [ofY]
 rw [exL,h,hl,show w++32::r=(w++[32])++r by simp,show w.length+1=(w++[(32:UInt8)]).length by simp,List.drop_left];exact List.take_of_length_le (by omega)
theorem aHn {H1:aE} {id g n:Nat} {ob:Ob} (ps:List (List PV)) (hH:H1.get id=some ob) (hg:ob.g=g) (hps:ob.rows=ps.map (·.map .pv)) (hn:ps.length=n):Fin [] H1 (.osl id g 0 n) [] (.pv (.sl ps)):=by subst hg hn;exact Fin.fz (id:=id) (ob:=ob) ps hH hps (.osl (by rw [aJJ,List.drop_zero,List.take_length])) rfl trivial trivial
theorem SX (s0:ByteArray) (H:aE) (hs:s0.size < 1099511627776):aH Tryz.prog 131 [sv s0,sv sSp,iv 0,iv (-1)] H (fun r H'=>r=.pv (cS (cN s0))∧H'=H):=by
 refine Pu ?_;obtain ⟨N,hN⟩:∃ N,N=s0.data.toList.count 32:=⟨_,rfl⟩;have hNs:N≤s0.size:=by rw [hN];exact Nat.le_trans List.count_le_length (by simp)
 have hC:=fun H=>aEA s0 H;rw [← hN] at hC;have hlen:(dO 32 s0.data.toList).length=N+1:=by rw [rS,hN]
 refine Bd func131 rfl ntmps131<|Sr<|Dd aO<|Zz<|Sq<|Sr<|Dd aD<|Dd cI<|Zz ?_;refine Cn ?_ ?_<;>intro hc1
 ·cases hc1
 refine aB<|Sq<|Sr<|Dd aD<|Dd sQ<|Zz ?_;refine Cn ?_ ?_<;>intro hc2
 ·have:=aIn hc2;cases this
 refine aB<|Sq<|Sr<|Dd aD<|Dd dD<|Zz ?_;refine Cn ?_ ?_<;>intro hc3
 ·refine Rg<|Dd aD<|Dd aD<|Dd (by exact aA rfl rfl call176 rfl (hC _))<|Dd (by exact iM rfl rfl rfl (show IntKind.i64.wrap ((N:Int)+1)=((N+1:Nat):Int)by rw [IntKind.wrap_i64];omega))<|Dd aO<|Zz<|Sr<|Dd aD<|Dd aD<|Dd (jJ underlying9)<|Dd (by exact iM rfl rfl rfl (show IntKind.i64.wrap ((s0.size:Int)+1)=((s0.size+1:Nat):Int)by rw [IntKind.wrap_i64];omega))<|Dd (by exact sZ (r:=((N+1:Nat):Int)) rfl rfl rfl (by omega))<|Dd aO<|Zz<|Sr<|Dd aD<|Dd (by exact EL (id:=31) rfl cC E4 zo9 rfl rfl rfl (by omega) (by omega) (by exact aJC _) (by exact aJC _) (by omega) rfl)<|Dd aO<|Zz<|Sr<|Dd aD<|Dd (by exact gC rfl rfl rfl (show IntKind.i64.wrap (((N+1:Nat):Int) - 1)=(N:Int)by rw [IntKind.wrap_i64];omega))<|Dd aO<|Zz<|Sr<|Dd aO<|Zz<|Sq<|aF ?_;refine gU (fun(D:List ByteArray) (rest:ByteArray)=>([(0,sv rest),(1,sv sSp),(2,iv 0),(3,iv (N:Int)),(8,.pv (.sl [])),(9,.osl 31 0 0 (N+1)),(10,iv (D.length:Int))],[(31,⟨0,1,9,vN D (N+1 - D.length)⟩)])) (fun D rest=>cN s0=D++cN rest∧rest.size≤s0.size) (fun D rest=>N - D.length) [] s0 ⟨rfl,aIx _⟩ ?_ ?_
  ·exact(cY.wk (Eb<|Eb<|Eb<|Eb<|Eb<|Ea<|Eb<|trivial) (Hc (G5 _ _ _)<|trivial) trivial)
  rintro D rest ⟨hD,hr⟩;have hln:D.length+(cN rest).length=N+1:=by
   have:=congrArg List.length hD;rw [aIs,cN,aIr,hlen] at this;exact this.symm
  have hpos:0 < (cN rest).length:=by rw [cN,aIr];exact m0 _ _
  obtain ⟨m,hm⟩:∃ m,N+1 - D.length=m+1:=⟨N - D.length,by omega⟩;have hI:=fun H=>aDa rest H;rw [hm];rcases Nat.lt_or_ge D.length N with hlt|hge
  ·have h1:Lib.indexByte rest.data.toList 32 ≠ -1:=fun h=>by
    have h2:=nH (vZ.1 h);rw [cN,h2] at hln;have:D.length+1=N+1:=hln;omega
   obtain ⟨w,r,e1,e2,e3⟩:=xQ h1;obtain ⟨x1,x2⟩:=aAd e1;have hl:w.length+1+r.length=rest.size:=by rw [← show rest.data.toList.length=rest.size by simp,e1,aIs,aIt];omega
   have hsp:cN rest=rest.extract 0 w.length::cN (rest.extract (w.length+1) rest.size):=by
    rw [cN,e1,gR e2,List.map_cons,x1,cN,x2]
   simp only [e3] at hI;refine Sq<|Sr<|Dd aD<|Dd aD<|Dd dD<|Zz ?_;refine Cn ?_ ?_<;>intro hc4
   ·refine aB<|aF<|Sr<|Dd aD<|Dd aD<|Dd (by exact aA rfl rfl call177 rfl (hI _))<|Dd aO<|Zz<|Sq<|Sr<|Dd aD<|Dd dD<|Zz ?_;refine Cn ?_ ?_<;>intro hc5
    ·have:=aIn hc5;omega
    refine aB<|Sr<|Dd aD<|Dd aD<|Dd aD<|Dd aD<|Dd aD<|Dd (by exact iM rfl rfl rfl (show IntKind.i64.wrap ((w.length:Int)+0)=(w.length:Int)by rw [IntKind.wrap_i64];omega))<|Dd (by exact cW (l:=0) (h:=w.length) rfl underlying9 rfl rfl rfl (by omega) (by omega) rfl)<|Dd (by exact cG rfl cC rfl rfl rfl rfl rfl (by omega) (by exact aJC _) (by omega) (aJJ _))<|Uu (by exact bW rfl sizeOf9 rfl rfl rfl rfl rfl (KR D m) Nat.zero_lt_one rfl (G4 D m _))<|Zz<|Sr<|Dd aD<|Dd aD<|Dd aD<|Dd (jJ underlying9)<|Dd (by exact iM rfl rfl rfl (show IntKind.i64.wrap ((w.length:Int)+1)=((w.length+1:Nat):Int)by rw [IntKind.wrap_i64];omega))<|Dd (by exact cW (l:=(w.length+1)) (h:=rest.size) rfl underlying9 rfl rfl rfl (by omega) (by omega) rfl)<|Dd aO<|Zz<|Rg<|Dm ?_;refine Dd (by exact iM rfl rfl rfl (show IntKind.i64.wrap ((D.length:Int)+1)=((D.length+1:Nat):Int)by rw [IntKind.wrap_i64];omega))<|Da ?_;have e5:(D++[rest.extract 0 w.length]).length=D.length+1:=by simp
    have hsz:(rest.extract (w.length+1) rest.size).size≤s0.size:=by rw [← show (rest.extract (w.length+1) rest.size).data.toList.length=(rest.extract (w.length+1) rest.size).size by simp,x2];omega
    refine⟨D++[rest.extract 0 w.length],rest.extract (w.length+1) rest.size,⟨by rw [hD,hsp,List.append_assoc];rfl,hsz⟩,by rw [e5];omega,?_⟩;rw [e5,show N+1 - (D.length+1)=m by omega];exact(cY.wk (Eb<|Eb<|Eb<|Eb<|Eb<|Ea<|Eb<|trivial) (Hc (G5 _ _ _)<|trivial) trivial)
   have:=aIo hc4;omega
  have hDN:D.length=N:=by omega
  have hone:cN rest=[rest]:=RW (by omega);have hm0:m=0:=by omega
  subst hm0;refine Sq<|Sr<|Dd aD<|Dd aD<|Dd dD<|Zz ?_;refine Cn ?_ ?_<;>intro hc6
  ·have:=aIn hc6;omega
  refine aZ<|Sr<|Dd aD<|Dd aD<|Dd aD<|Dd (by exact cG rfl cC rfl rfl rfl rfl rfl (by omega) (by exact aJC _) (by omega) (aJJ _))<|Uu (by exact bW rfl sizeOf9 rfl rfl rfl rfl rfl (KR D 0) Nat.zero_lt_one rfl (G4 D 0 _))<|Zz<|Sr<|Dd aD<|Dd aD<|Dd (by exact iM rfl rfl rfl (show IntKind.i64.wrap ((D.length:Int)+1)=((D.length+1:Nat):Int)by rw [IntKind.wrap_i64];omega))<|Dd (by exact jK (l:=0) (h:=(D.length+1)) rfl cC rfl rfl rfl rfl rfl rfl (by omega) (by omega) rfl rfl)<|Dd aO<|Zz<|aC ?_;have hps:(D++[rest]).map encStr=(cN s0).map encStr:=by rw [hD,hone]
  refine cZ (H':=[]) (.inr rfl) rfl (aN rfl) (aHn (id:=31) ((D++[rest]).map encStr) rfl rfl (by show vN (D++[rest]) 0=_;rw [vN,List.replicate_zero,List.append_nil,List.map_map];rfl) (by simp)) ⟨?_,rfl⟩;rw [cS,hps]
 cases hc3
theorem V3 (s:ByteArray) (H:aE) (hs:s.size < 1099511627776):aH Tryz.prog 79 [sv s,sv sSp] H (fun r H'=>r=.pv (cS (cN s))∧H'=H):=by refine Pu ?_;exact Bd func79 rfl ntmps79<|Sr<|Dd aO<|Zz<|Sr<|Dd aD<|Dd aD<|Dd (by exact aA rfl rfl call131 rfl (SX s _ hs))<|Dd aO<|Zz<|aC<|Rt<|Qq
def r6 (t:ByteArray):ByteArray:=if Lib.indexByte t.data.toList 10 = -1 then t else t.extract 0 ((Lib.indexByte t.data.toList 10).toNat+1)
def ES (t:ByteArray):ByteArray:=if Lib.indexByte t.data.toList 10 = -1 then⟨#[]⟩else t.extract ((Lib.indexByte t.data.toList 10).toNat+1) t.size
def gB (s:ByteArray):Nat→ByteArray
 | 0=>s
 | k+1=>ES (gB s k)
def gM (s:ByteArray):List ByteArray:=(kB s.data.toList).map ofY
theorem aAc (s:ByteArray):ofY s.data.toList=s:=S4 (by simp [ofY])
theorem szY (s:ByteArray):s.data.toList.length=s.size:=by simp
theorem aBD {t:ByteArray} (h:Lib.indexByte t.data.toList 10 ≠ -1):∃ w r,t.data.toList=w++10::r∧(10:UInt8)∉w∧Lib.indexByte t.data.toList 10=(w.length:Int)∧t.extract 0 (w.length+1)=ofY (w++[10])∧(t.extract (w.length+1) t.size).data.toList=r∧w.length+1+r.length=t.size:=by
 obtain ⟨w,r,e1,e2,e3⟩:=xQ h;have hl:w.length+1+r.length=t.size:=by rw [← szY,e1,aIs,aIt];omega
 have e4:t.data.toList=(w++[10])++r:=by rw [e1];simp
 refine⟨w,r,e1,e2,e3,S4 ?_,?_,hl⟩
 ·rw [exL,List.drop_zero,Nat.sub_zero,e4,show w.length+1=(w++[(10:UInt8)]).length by simp,List.take_left];simp [ofY]
 rw [exL,e4,show w.length+1=(w++[(10:UInt8)]).length by simp,List.drop_left];exact List.take_of_length_le (by rw [aIs,List.length_singleton];omega)
theorem uR {t:ByteArray} (h:¬ 0 < t.size):gM t=[]:=by have:t.data.toList=[]:=List.length_eq_zero_iff.1 (by rw [szY];omega);rw [gM,this];rfl
theorem vX {t:ByteArray} (h:0 < t.size):gM t=r6 t::gM (ES t)∧(ES t).size≤t.size:=by
 rw [r6,ES];by_cases h1:Lib.indexByte t.data.toList 10 = -1
 ·rw [aIq h1,aIq h1];refine⟨?_,aJI _⟩;rw [gM,ET (vZ.1 h1) (fun e=>by rw [← szY,e] at h;exact absurd h (Nat.lt_irrefl 0))];show [ofY t.data.toList]=_;rw [aAc];rfl
 rw [aIp h1,aIp h1];obtain ⟨w,r,e1,e2,e3,e4,e5,e6⟩:=aBD h1;rw [e3,aJC,e4];refine⟨?_,by rw [← szY,e5];omega⟩;rw [gM,e1,AO e2,List.map_cons,gM,e5]
theorem uN (s:ByteArray):∀ k,k≤(gM s).length→gM (gB s k)=(gM s).drop k∧(gB s k).size≤s.size
 | 0,_=>⟨rfl,aIx _⟩
 | k+1,h=>by
  obtain ⟨i1,i2⟩:=uN s k (Nat.le_of_succ_le h);have hp:0 < (gB s k).size:=by
   rcases Nat.lt_or_ge 0 (gB s k).size with h1|h1
   ·exact h1
   have h2:=uR (t:=gB s k) (by omega);rw [h2] at i1;have:=congrArg List.length i1;rw [aJG,List.length_nil] at this;omega
  obtain ⟨j1,j2⟩:=vX hp;rw [j1] at i1;refine⟨?_,Nat.le_trans j2 i2⟩;show gM (ES (gB s k))=_;have:=congrArg List.tail i1;rw [List.tail_cons,List.tail_drop] at this;exact this
theorem aD6 {s:ByteArray} {k:Nat} (h:k < (gM s).length):(gM s)[k]?=some (r6 (gB s k))∧0 < (gB s k).size:=by
 obtain ⟨i1,i2⟩:=uN s k (Nat.le_of_lt h);have hp:0 < (gB s k).size:=by
  rcases Nat.lt_or_ge 0 (gB s k).size with h1|h1
  ·exact h1
  have h2:=uR (t:=gB s k) (by omega);rw [h2] at i1;have:=congrArg List.length i1;rw [aJG,List.length_nil] at this;omega
 refine⟨?_,hp⟩;rw [(vX hp).1] at i1;have:=congrArg List.head? i1;rw [List.head?_cons,List.head?_drop] at this;exact this.symm
def lB (s:ByteArray):Ob:=bx 1 9 [sv s]
theorem aD5 (s:ByteArray) (H:aE) (h1:H.get 933=none):aH Tryz.prog 37 [sv s] H (fun r H'=>r=.clo 77 [.ref 933 0 0 0]∧H'=(933,lB s)::H):=by refine Bd func37 rfl ntmps37<|Sr<|Dd (by exact cE (id:=933) rfl rfl rfl rfl h1)<|Dd aO<|Zz<|Sr<|Dd (by exact fU rfl rfl)<|Dd aO<|Zz<|aC ?_;refine cZ (H':=((933,lB s)::H)) (.inr rfl) rfl (aN rfl) Fin.refl ?_;exact Qq
theorem aAq (s:ByteArray) (fv:AV) (Hs:Nat→aE) (hs:s.size < 1099511627776) (h1:∀ k,(Hs k).get 933=some (lB (gB s k)))
  (hy:∀ k,k < (gM s).length→dN Tryz.prog fv [sv (r6 (gB s k))] ((933,lB (gB s (k+1)))::Hs k) (fun r H'=>r=bv true∧H'=Hs (k+1))) :
  aH Tryz.prog 77 [fv,.ref 933 0 0 0] (Hs 0) (fun r H'=>r=.tup []∧H'=Hs (gM s).length):=by
 refine Bd func77 rfl ntmps77<|aF ?_;refine bG (σ:=Nat) (fun k=>([(0,fv),(1,.ref 933 0 0 0)],Hs k)) (fun k=>k≤(gM s).length) (fun k=>(gM s).length - k) 0 (aJI _) ?_ ?_
 ·exact E0
 rintro k hk;obtain ⟨i1,i2⟩:=uN s k hk;have hI:=fun H=>p9 (gB s k) 10 H;have hnx:gB s (k+1)=ES (gB s k):=rfl;refine Sq<|Sr<|Dd (by exact aR rfl isAgg9 rfl (h1 k) rfl rfl rfl)<|Dd (jJ underlying9)<|Dd kC<|Zz ?_;refine Cn ?_ ?_<;>intro hc1
 ·have hp:0 < (gB s k).size:=by have:=aIn hc1;omega
  have hlt:k < (gM s).length:=by
   rcases Nat.lt_or_ge k (gM s).length with h|h
   ·exact h
   rw [(vX hp).1,List.drop_eq_nil_of_le h] at i1;cases i1
  have hyk:=hy k hlt;rw [hnx,ES,r6] at hyk;rcases Classical.em (Lib.indexByte (gB s k).data.toList 10 = -1)with e0|e0
  ·rw [aIq e0,aIq e0] at hyk;have hI2:∀ H,aH Tryz.prog 78 [sv (gB s k),.pv (.int .u8 10)] H (fun r H'=>r=iv (-1)∧H'=H):=fun H=>by
    have:=hI H
    rwa [show Lib.indexByte (gB s k).data.toList ((10:Int).toNat.toUInt8) = -1 from e0] at this
   refine aB<|aF<|Sr<|Dd aO<|Zz<|Sq<|Sr<|Dd (by exact aR rfl isAgg9 rfl (h1 k) rfl rfl rfl)<|Dd (by exact aA rfl rfl C0 rfl (hI2 _))<|Dd aO<|Zz<|Sr<|Dd aD<|Dd wP<|Zz ?_;refine Cn ?_ ?_<;>intro hc2
   ·cases hc2
   refine Rg<|Dd (by exact aR rfl isAgg9 rfl (h1 k) rfl rfl rfl)<|Dd aO<|Uu (by exact cV rfl sizeOf9 rfl rfl rfl rfl (h1 k) rfl rfl rfl)<|Zz<|Sr<|Dd aD<|Dd aD<|Dd (by exact eT rfl rfl rfl (hyk))<|Dd jU<|Zz ?_;refine Cn ?_ ?_<;>intro hc3
   ·cases hc3
   refine aB ?_;exact⟨k+1,by omega,by omega,E0⟩
  rw [aIp e0,aIp e0] at hyk;obtain ⟨w,r,e1,e2,e3,e4,e5,e6⟩:=aBD e0;rw [e3,aJC] at hyk;have hI2:∀ H,aH Tryz.prog 78 [sv (gB s k),.pv (.int .u8 10)] H (fun r H'=>r=iv (w.length:Int)∧H'=H):=fun H=>by
   have:=hI H
   rwa [show Lib.indexByte (gB s k).data.toList ((10:Int).toNat.toUInt8)=(w.length:Int)from e3] at this
  refine aB<|aF<|Sr<|Dd aO<|Zz<|Sq<|Sr<|Dd (by exact aR rfl isAgg9 rfl (h1 k) rfl rfl rfl)<|Dd (by exact aA rfl rfl C0 rfl (hI2 _))<|Dd aO<|Zz<|Sr<|Dd aD<|Dd wP<|Zz ?_;refine Cn ?_ ?_<;>intro hc4
  ·refine aU follows<|Cr [933] (fun H1 hH=>by exact aR rfl isAgg9 rfl ((hH _ rfl).trans (h1 k)) rfl rfl rfl)<|Cr [] (fun _ _=>aD)<|Cr [] (fun H1 hH=>by exact iM rfl rfl rfl (show IntKind.i64.wrap ((w.length:Int)+1)=((w.length+1:Nat):Int)by rw [IntKind.wrap_i64];omega))<|Cr [] (fun H1 hH=>by exact cW (l:=0) (h:=(w.length+1)) rfl underlying9 rfl rfl rfl (by omega) (by omega) rfl)<|Cr [933] (fun H1 hH=>by exact aR rfl isAgg9 rfl ((hH _ rfl).trans (h1 k)) rfl rfl rfl)<|Cr [] (fun _ _=>aD)<|Cr [] (fun H1 hH=>by exact iM rfl rfl rfl (show IntKind.i64.wrap ((w.length:Int)+1)=((w.length+1:Nat):Int)by rw [IntKind.wrap_i64];omega))<|Cr [] (fun H1 hH=>by exact cW (l:=(w.length+1)) (h:=(gB s k).size) rfl underlying9 rfl rfl rfl (by omega) (by omega) rfl)<|Cr [] (fun _ _=>aO) ?_;refine Cp [933] (fun H1 hH=>by exact cV rfl sizeOf9 rfl rfl rfl rfl ((hH _ rfl).trans (h1 k)) rfl rfl rfl)<|bM<|Kr<|Sr<|Dd aD<|Dd aD<|Dd (by exact eT rfl rfl rfl (hyk))<|Dd jU<|Zz ?_;refine Cn ?_ ?_<;>intro hc5
   ·cases hc5
   refine aB ?_;exact⟨k+1,by omega,by omega,E0⟩
  have:=aIo hc4;omega
 have hn:¬ 0 < (gB s k).size:=by have:=aIo hc1;omega
 have hge:k=(gM s).length:=by
  rw [uR hn] at i1;have:=congrArg List.length i1;rw [List.length_nil,aJG] at this;omega
 subst hge;refine aZ ?_;exact qT (H':=Hs (gM s).length) (.inl rfl) rfl Fin.refl ⟨rfl,rfl⟩
end Go.Proofs.YtlnfjkdacimblaaGreatDoor
namespace Go.Abs
theorem cY.fzP {G0:aE} {E E':dG} {H H':aE} {id g t:Nat} {ob:Ob} (row:List PV) (ht:E.get t=some (.ref id g 0 0)) (hH:H.get id=some ob) (hg:ob.g=g) (hrow:ob.rows=[row.map .pv]) (hz:ob.sz=row.length) (h0:0 < row.length)
  (hE:∀ p∈E',p=(t,.pad [row] 0 0)∨(E.get p.1=some p.2∧Clo H' p.2)) (hno:H'.get id=none) (hs:Sub H' H) (hc:dF H') (hk:w6 G0 H' H):cY G0 E H E' H':=by
 intro G hG N a w hst;obtain ⟨I,ι,hr,hs',he⟩:=hst.rel;subst hG;refine⟨hst.defers,hst.size,_,ι,hr.freeze hs hc hH hno,hs'.freeze hs hk hH,fun u v hu=>?_⟩;rcases hE _ (gD hu)with e|⟨e1,e2⟩
 ·obtain ⟨rfl,rfl⟩:=Prod.mk.inj e;obtain ⟨c,hc1,hv⟩:=he _ _ ht;refine⟨c,hc1,?_⟩;obtain ⟨b,cap,h1,h2⟩:=l9 hv hH hg;obtain ⟨p1,p2,⟨b',cap',cs,f1,f2,f3,f4,f5,f5',f6⟩|⟨f1,_⟩⟩:=(hr.obj id ob hH).cells (by omega)
  rotate_left
  ·rw [h1] at f1;cases f1
  rw [h1] at f1;cases f1;have hcells:∀ (i:Nat) (r:List PV),[row][i]?=some r→∀ (k:Nat) (p:PV),r[k]?=some p→∃ u,cs[i*ob.sz+k]?=some u∧VRel w I ι H u (.pv p):=fun i r hi k p hk=>by
   cases i with
   | succ i=>simp at hi
   | zero =>
    obtain rfl:row=r:=by simpa using hi
    obtain ⟨u,q1,_,q3⟩:=f6 0 (row.map .pv) (by rw [hrow];rfl) k (.pv p) (by rw [aJL,hk];rfl);exact⟨u,q1,q3⟩
  have hI:lI I ι id b:=.inr ⟨cap,h1⟩;have hlen:∀ r∈[row],r.length=ob.sz:=fun r hr'=>by rw [aIu] at hr';rw [hr',hz]
  have hcell:∀ (i:Nat) (r:List PV),[row][i]?=some r→∀ (k:Nat) (p:PV),r[k]?=some p→w.cell? ⟨b,0+i*ob.sz+k,none⟩=some ((cs[i*ob.sz+k]?).getD undef):=fun i r hi k p hk=>by
   obtain ⟨u,q1,_⟩:=hcells i r hi k p hk;rw [aJJ,cell_of_row w b _ cs ob.ty (0,0) f2,q1];rfl
  have hrep:∀ (i:Nat) (r:List PV),[row][i]?=some r→∀ (k:Nat) (p:PV),r[k]?=some p→PRep w (lI I ι id) ((cs[i*ob.sz+k]?).getD undef) p:=fun i r hi k p hk=>by
   obtain ⟨u,q1,q2⟩:=hcells i r hi k p hk;rw [q1];exact q2.pv_inv.mono (fun _ _=>rfl) (fun _ h=>.inl h)
  have hsl:PRep w (lI I ι id) (.slice (some ⟨b,0,none⟩) [row].length cap) (.sl [row]) :=
   .sl b 0 cap ob.sz [row] (fun i k=>(cs[i*ob.sz+k]?).getD undef) hI (by omega) hlen (by rw [hrow] at f5;simpa using f5) hcell hrep
  have e:c=.pointer (some ⟨b,0+0*ob.sz+0,none⟩):=by rw [h2];simp
  rw [e];exact .pad b 0 cap ob.sz hsl (by omega) hlen (fun i k=>(cs[i*ob.sz+k]?).getD undef) hI hcell hrep
 obtain ⟨c,hc1,hv⟩:=he _ _ e1;exact⟨c,hc1,(hv.restrict hs e2).mono' (fun _ _=>rfl) (fun _ h=>.inl h) (fun _ o h=>⟨o,h,aIx _,fun _=>⟨rfl,rfl,fun _=>aIx _⟩⟩)⟩
end Go.Abs
namespace Go.Proofs.YtlnfjkdacimblaaGreatDoor
open Go.Proofs.Tryz
open Go.Abs
def YS (d:Bool) (z:Nat):Int:=if d then 2 - (z:Int)else(z:Int)
theorem aEm (d:Bool):∀ z,z < 3→(zs d)[z]?=some (YS d z)
 | 0,_=>by cases d<;>rfl
 | 1,_=>by cases d<;>rfl
 | 2,_=>by cases d<;>rfl
theorem aEl (d:Bool):(zs d).length=3:=by cases d<;>rfl
def inZ (d:Bool) (z:Nat) (o:GObj):Bool:=decide (o.kind.tdiv 2=YS d z)
def P3 (m:List GObj) (d:Bool) (z:Nat):List GObj:=((zs d).take z).flatMap fun z=>m.filter fun o=>decide (o.kind.tdiv 2=z)
def sR (m:List GObj) (d:Bool) (z i:Nat):Nat:=(P3 m d z).length+((m.take i).filter (inZ d z)).length
theorem DZ (m:List GObj) (d:Bool) {z:Nat} (h:z < 3):P3 m d (z+1)=P3 m d z++m.filter (inZ d z):=by rw [P3,List.take_add_one,aEm d z h,Option.toList_some,List.flatMap_append,P3,List.flatMap_cons,List.flatMap_nil,List.append_nil];rfl
theorem P2 (m:List GObj) (d:Bool):P3 m d 3=p0 m d:=by rw [P3,List.take_of_length_le (by rw [aEl];exact aIx _)];rfl
theorem P1 (m:List GObj) (d:Bool):∀ n z,z+n=3→∃ r,p0 m d=P3 m d z++r
 | 0,z,h=>⟨[],by rw [List.append_nil,← P2];congr 1;omega⟩
 | n+1,z,h=>by
  obtain ⟨r,hr⟩:=P1 m d n (z+1) (by omega);exact⟨m.filter (inZ d z)++r,by rw [hr,DZ m d (by omega),List.append_assoc]⟩
theorem XN {m:List GObj} {p:GObj→Bool} {i:Nat} {o:GObj} (h:m[i]?=some o) (hp:p o=true):(m.filter p)[((m.take i).filter p).length]?=some o:=by
 have hi:=(aIv.1 h).1;have e:m=m.take i++o::m.drop (i+1):=by
  have h2:=List.take_append_drop i m;rw [List.drop_eq_getElem_cons hi] at h2;rw [aIw hi] at h;rw [Option.some.inj h] at h2;exact h2.symm
 have e2:m.filter p=(m.take i).filter p++o::(m.drop (i+1)).filter p:=by
  rw [e,List.filter_append,List.filter_cons_of_pos hp,← e]
 rw [e2,List.getElem?_append_right (aIx _),Nat.sub_self];rfl
theorem aFd {m:List GObj} {d:Bool} {z i:Nat} {o:GObj} (hz:z < 3) (h:m[i]?=some o) (hp:inZ d z o=true):(p0 m d)[sR m d z i]?=some o:=by obtain ⟨r,hr⟩:=P1 m d (2 - z) (z+1) (by omega);have hf:=XN h hp;have hl:=(aIv.1 hf).1;rw [hr,DZ m d hz,sR,List.append_assoc,List.getElem?_append_right (Nat.le_add_right _ _),Nat.add_sub_cancel_left,List.getElem?_append_left hl];exact hf
theorem aAu {m:List GObj} {d:Bool} {z i:Nat} {o:GObj} (h:m[i]?=some o) (hp:inZ d z o=true):sR m d z (i+1)=sR m d z i+1:=by rw [sR,List.take_add_one,h,Option.toList_some,List.filter_append,List.filter_cons_of_pos hp,aIs];show _+(_+1)=_;rw [sR];omega
theorem aD9 {m:List GObj} {d:Bool} {z i:Nat} {o:GObj} (h:m[i]?=some o) (hp:inZ d z o=false):sR m d z (i+1)=sR m d z i:=by rw [sR,List.take_add_one,h,Option.toList_some,List.filter_append,List.filter_cons_of_neg (by rw [hp];decide),aIs];show _+(_+0)=_;rw [sR];omega
theorem aAv (m:List GObj) (d:Bool) {z:Nat} (hz:z < 3):sR m d z m.length=sR m d (z+1) 0:=by rw [sR,List.take_length,sR,DZ m d hz,aIs,List.take_zero];rfl
theorem aAw (m:List GObj) (d:Bool):sR m d 3 0=(p0 m d).length:=by rw [sR,P2,List.take_zero];rfl
def dB (d:Bool):Ob:=bx 1 4 [bv d]
def mB (m:List GObj):Ob:=bx 1 38 [.pv (cO m)]
theorem lC (H:aE) (d:Bool):∀ r∈(dB d).rows,∀ a∈r,Clo H a:=by intro r hr a ha;simp only [dB,bx,aIu] at hr;subst hr;rw [aIu] at ha;subst ha;simp
theorem c7 (H:aE) (m:List GObj):∀ r∈(mB m).rows,∀ a∈r,Clo H a:=by intro r hr a ha;simp only [mB,bx,aIu] at hr;subst hr;rw [aIu] at ha;subst ha;simp
theorem H5 (m:List GObj) (d:Bool) (H:aE) (h1:H.get 931=none) (h2:H.get 932=none):aH Tryz.prog 53 [.agg [.pv (cO m)],bv d] H (fun r H'=>r=.clo 103 [.ref 932 0 0 0,.ref 931 0 0 0]∧H'=(932,dB d)::(931,mB m)::H):=by have h2':aE.get ((931,mB m)::H) 932=none:=h2;refine Bd func53 rfl ntmps53<|Sr<|Dd (by exact cE (id:=931) rfl rfl rfl rfl h1)<|Dd (by exact cE (id:=932) rfl rfl rfl rfl h2')<|Dd aO<|Zz<|Sr<|Dd (by exact fU rfl rfl)<|Dd aO<|Zz<|aC ?_;refine cZ (H':=((932,dB d)::(931,mB m)::H)) (.inr rfl) rfl (aN rfl) Fin.refl ?_;exact Qq
theorem UV {k:Int} (h1:1≤k) (h2:k≤5):IntKind.i64.wrap (k.tdiv 2)=k.tdiv 2:=by
 have h3:k=1∨k=2∨k=3∨k=4∨k=5:=by omega
 rcases h3 with e|e|e|e|e<;>rw [e]<;>decide
theorem aCe {K:aE} {o1 o2:Ob} (h:K.get 934=none):Sub K ((934,o1)::(934,o2)::K):=fun id o e=>by
 by_cases h1:id=934
 ·subst h1;rw [h] at e;cases e
 rw [get_cons_other _ _ h1,get_cons_other _ _ h1];exact e
theorem aBA {G K:aE} {o1 o2:Ob} (h:G.get 934=none):w6 G K ((934,o1)::(934,o2)::K):=fun id e=>by
 by_cases h1:id=934
 ·subst h1;rw [h] at e;cases e
 rw [get_cons_other _ _ h1,get_cons_other _ _ h1]
theorem DY (m:List GObj) (d:Bool) (fv:AV) (Hs:Nat→aE) (hm:m.length < 1099511627776) (hk:∀ o∈m,1≤o.kind∧o.kind≤5) (h1:∀ k,(Hs k).get 931=some (mB m)) (h2:∀ k,(Hs k).get 932=some (dB d)) (h3:∀ k,(Hs k).get 934=none) (hcl:∀ k,dF (Hs k))
  (hfv:∀ k,Clo (Hs k) fv)
  (hy:∀ k o,(p0 m d)[k]?=some o→dN Tryz.prog fv [av (aG o)] (Hs k) (fun r H'=>r=bv true∧H'=Hs (k+1))) :
  aH Tryz.prog 103 [fv,.ref 932 0 0 0,.ref 931 0 0 0] (Hs 0) (fun r H'=>r=.tup []∧H'=Hs (p0 m d).length):=by
 have hml:(m.map aG).length=m.length:=aIr _;refine Bd func103 rfl ntmps103<|Sr<|Dd aD<|Zz<|aF ?_;refine bG (σ:=Nat) (fun z=>([(0,fv),(1,.ref 932 0 0 0),(2,.ref 931 0 0 0),(7,iv (z:Int))],Hs (sR m d z 0))) (fun z=>z≤3) (fun z=>3 - z) 0 (by omega) ?_ ?_
 ·exact E0
 rintro z hz;refine Sr<|Dd dD<|Zz<|Sq ?_;refine Cn ?_ ?_<;>intro hc1
 ·have hz3:z < 3:=by have:=aIn hc1;omega
  refine aB<|Sq<|aF<|Sr<|Dd aD<|Da ?_;refine gT (fun(_:Unit)=>([(0,fv),(1,.ref 932 0 0 0),(2,.ref 931 0 0 0),(7,iv (z:Int)),(4,iv (YS d z))],Hs (sR m d z 0))) (fun _=>True) ?_ ?_
  ·refine Sr<|Dd (by exact aR rfl N6 rfl (h2 _) rfl rfl rfl)<|Zz ?_;refine Cn ?_ ?_<;>intro hc2
   ·have hd:d=true:=hc2;refine Rg<|Dd aD<|Dd (by exact gC rfl rfl rfl (show IntKind.i64.wrap (2 - (z:Int))=YS d z by rw [IntKind.wrap_i64,YS,aIq hd];omega))<|Da ?_;exact⟨(),trivial,E0⟩
   have hd:d=false:=hc2;have e:YS d z=(z:Int):=by rw [YS,aIp (by rw [hd];decide)]
   rw [e];refine aB ?_;exact⟨(),trivial,E0⟩
  rintro _ _;refine Sr<|Dd (by exact cJ rfl gZ rfl (h1 _) rfl rfl)<|Dd (by exact aR rfl dJ rfl (h1 _) rfl rfl rfl)<|Dd (fK cQ)<|Dd aD<|Zz<|aF ?_;refine bG (σ:=Nat) (fun i=>([(0,fv),(1,.ref 932 0 0 0),(2,.ref 931 0 0 0),(7,iv (z:Int)),(4,iv (YS d z)),(14,.pv (cO m)),(15,iv ((m.map aG).length:Int)),(16,iv (i:Int))],Hs (sR m d z i))) (fun i=>i≤m.length) (fun i=>m.length - i) 0 (aJI _) ?_ ?_
  ·exact E0
  rintro i hi;refine Sr<|Dd dD<|Zz<|Sq ?_;refine Cn ?_ ?_<;>intro hc3
  ·have hlt:i < m.length:=by have:=aIn hc3;omega
   obtain ⟨o,ho⟩:=aX hlt;have hio:=bZ (f:=aG) ho;obtain ⟨hk1,hk5⟩:=hk o (aJB ho);refine aB<|Sq<|aF<|Sr<|Dd (e8 iK)<|Dd (by exact bQ rfl aY sizeOf49 rfl (by omega) (by simp only [Zl,aQ,aG,encStr,aJ,encInt];rfl) rfl)<|Dd (by exact bJ (id:=934) rfl qU rfl (h3 _))<|Uu (fP sizeOf49)<|Zz<|Sq ?_;refine iB.ent (cY.fzP (t:=6) (id:=934) (E':=[(6,.pad [aG o] 0 0),(0,fv),(1,.ref 932 0 0 0),(2,.ref 931 0 0 0),(7,iv (z:Int)),(4,iv (YS d z)),(14,.pv (cO m)),(15,iv ((m.map aG).length:Int)),(16,iv (i:Int))]) (H':=Hs (sR m d z i)) (aG o) rfl rfl rfl rfl rfl (Nat.zero_lt_succ _) ?_ (h3 _) (aCe (h3 _)) (hcl _) (aBA (h3 0))) ?_
   ·intro p hp;simp only [aJD,aJH,or_false] at hp;rcases hp with rfl|rfl|rfl|rfl|rfl|rfl|rfl|rfl|rfl
    ·exact .inl rfl
    ·exact .inr ⟨rfl,hfv _⟩
    ·exact .inr ⟨rfl,.ref (by rw [h2];rfl)⟩
    ·exact .inr ⟨rfl,.ref (by rw [h1];rfl)⟩
    ·exact .inr ⟨rfl,.pv _⟩
    ·exact .inr ⟨rfl,.pv _⟩
    ·exact .inr ⟨rfl,.pv _⟩
    ·exact .inr ⟨rfl,.pv _⟩
    exact .inr ⟨rfl,.pv _⟩
   cases hz:inZ d z o with
   | true =>
    have hz':decide (o.kind.tdiv 2=YS d z)=true:=hz;refine Rg<|Dd (wB dT)<|Dd (fM isAgg3 (hi:=rfl))<|Dd (by exact FZ rfl rfl rfl (by decide) (UV hk1 hk5))<|Dd aD<|Dd cI<|Dd aD<|Oa aD<|Oa (by exact bQ rfl aY sizeOf49 rfl rfl (by simp only [Zl,aQ,aG,encStr,aJ,encInt];rfl) rfl)<|Oa (by exact eT rfl rfl rfl (hy (sR m d z i) o (aFd hz3 ho hz)))<|Oa jU<|Dd xI<|Zz ?_;refine Cn ?_ ?_<;>intro hc4
    ·cases hc4
    refine aB<|Rg<|Dd eL<|Dd aD<|Zz ?_;refine⟨i+1,by omega,by omega,?_⟩;rw [aAu ho hz];exact E0
   | false =>
    have hz':decide (o.kind.tdiv 2=YS d z)=false:=hz;refine Rg<|Dd (wB dT)<|Dd (fM isAgg3 (hi:=rfl))<|Dd (by exact FZ rfl rfl rfl (by decide) (UV hk1 hk5))<|Dd aD<|Dd cI<|Dd aD<|Fa<|Fa<|Fa<|Fa<|Dd rJ<|Zz ?_;refine Cn ?_ ?_<;>intro hc5
    ·cases hc5
    refine aB<|Rg<|Dd eL<|Dd aD<|Zz ?_;refine⟨i+1,by omega,by omega,?_⟩;rw [aD9 ho hz];exact E0
  have hge:i=m.length:=by have:=aIo hc3;omega
  subst hge;rw [aAv m d hz3];refine aZ<|Rg<|Dd eL<|Dd aD<|Zz ?_;exact⟨z+1,by omega,by omega,E0⟩
 have hge:z=3:=by have:=aIo hc1;omega
 subst hge;rw [← aAw];refine aZ ?_;exact qT (H':=Hs (sR m d 3 0)) (.inl rfl) rfl Fin.refl ⟨rfl,rfl⟩
def rnE:dG:=[(2,.ref 2 0 0 0),(3,.ref 3 0 0 0),(5,.ref 5 0 0 0)]
def aHb:Ob:=bx 1 89 [.mp 10 0]
def rnH (a b:List GObj) (X:List ByteArray):aE:=[(10,FX X),(5,bx 1 89 [.mp 10 0]),(932,dB false),(931,mB a),(3,mB b),(2,mB a)]
theorem X6 (l:List ByteArray) (q:ByteArray→Bool):(List.range l.length).any (fun k=>((l[k]?).map q).getD false)=l.any q:=by
 rw [Bool.eq_iff_iff,List.any_eq_true,List.any_eq_true];constructor
 ·rintro⟨k,hk,h⟩;have hl:=List.mem_range.1 hk;rw [aIw hl] at h;exact⟨_,List.getElem_mem hl,h⟩
 rintro⟨s,hs,h⟩;obtain ⟨k,hk⟩:=aJM.1 hs;exact⟨k,List.mem_range.2 (aIv.1 hk).1,by rw [hk];exact h⟩
theorem LY (fv:AV) (l:List ByteArray) (q:ByteArray→Bool) (H:aE) (hl:l.length < 4611686018427387904) (hf:∀ s,dN Tryz.prog fv [sv s] H (fun r H'=>r=bv (q s)∧H'=H)) :
  aH Tryz.prog 101 [.pv (cS l),fv] H (fun r H'=>r=bv (l.any q)∧H'=H):=by
 have h:=pS fv l (fun k=>((l[k]?).map q).getD false) (fun _=>H) hl (fun k s hs=>by rw [hs];exact hf s);rw [X6] at h;exact h
theorem HD (X:List ByteArray) (s:ByteArray) (H:aE) (h5:H.get 5=some aHb) (h10:H.get 10=some (FX X)):aH Tryz.prog 102 [sv s,.ref 5 0 0 0] H (fun r H'=>r=bv (mH X s)∧H'=H):=by refine Bd func102 rfl ntmps102<|Sr<|Dd aO<|Zz<|Sr<|Dd (by exact aR rfl kI rfl h5 rfl rfl rfl)<|Dd aD<|Dd (by exact jL rfl eD underlying9 rfl h10 rfl rfl rfl gP (.inl rfl))<|Dd aO<|Zz<|aC ?_;refine cZ (H':=H) (.inr rfl) rfl (aN rfl) Fin.refl ?_;exact Qq
theorem aCr {b:List GObj} {L:List GObj} {k:Nat} {o:GObj} (h:L[k]?=some o):OB b [] (L.take (k+1))=if rnB b (OB b [] (L.take k)) o then OB b [] (L.take k)++[o.id] else OB b [] (L.take k):=by rw [List.take_add_one,h,Option.toList_some,T5];rfl
theorem aFI {a b:List GObj} (hu:Y2 a) {k:Nat} {o:GObj} (h:(p0 a false)[k]?=some o):mH (OB b [] ((p0 a false).take k)) o.id=false:=by
 cases hb:mH (OB b [] ((p0 a false).take k)) o.id with
 | false=>rfl
 | true =>
  rcases O4 b _ (yX.1 hb)with h1|⟨p,hp,hi⟩
  ·cases h1
  obtain ⟨j,hj⟩:=aJM.1 hp;have hjk:j < k:=by
   have:=(aIv.1 hj).1;rw [aJF] at this;omega
  rw [List.getElem?_take_of_lt hjk] at hj;have hp2:=aFc hu;rw [List.pairwise_iff_getElem] at hp2;obtain ⟨q1,q2⟩:=aIv.1 hj;obtain ⟨q3,q4⟩:=aIv.1 h;have:=(hp2 j k q1 q3 hjk).1;rw [q2,q4] at this;exact absurd hi this
theorem WC (a b:List GObj) (ha:eY a=true) (hal:a.length < 1099511627776) (hbl:b.length < 1099511627776) :
  aH Tryz.prog 52 [.agg [.pv (cO a)],.agg [.pv (cO b)]] [] (fun r H'=>r=.mp 10 0∧H'=[(10,FX (pO a b))]):=by
 have hg:=mS.1 (nN ha);have hkd:∀ o∈a,1≤o.kind∧o.kind≤5:=fun o ho=>yZ (hg.1 o ho);obtain ⟨L,hL⟩:∃ L,L=p0 a false:=⟨_,rfl⟩;refine Bd func52 rfl ntmps52<|Sr<|Dd (by exact cE (id:=2) rfl rfl rfl rfl rfl)<|Dd (by exact cE (id:=3) rfl rfl rfl rfl rfl)<|Dd aO<|Zz<|Sr<|Dd (by exact iT (id:=10) oW rfl rfl)<|Dd (by exact bJ (id:=5) rfl aC1 rfl rfl)<|Uu (fP RJ)<|Zz<|Sq<|Sr<|Dd (by exact aI rfl bF sizeOf38 rfl rfl rfl rfl (by simp only [Zl,aQ,aG,encStr,aJ,encInt];rfl) rfl)<|Dd (by exact aA rfl rfl aIc rfl (H5 a false _ rfl rfl))<|Zz<|aF ?_;refine iB.ent (E':=[(2,.ref 2 0 0 0),(3,.ref 3 0 0 0),(5,.ref 5 0 0 0),(12,.clo 103 [.ref 932 0 0 0,.ref 931 0 0 0])]) (H':=rnH a b []) (cY.wk (Ea<|Ea<|Ea<|Ec (by(simp;exact⟨rfl,rfl⟩))<|trivial) (Hc (d7 _ _)<|Ha<|Hc (lC _ _)<|Hc (c7 _ _)<|Hc (c7 _ _)<|Hc (c7 _ _)<|trivial) trivial) ?_;refine rN (id:=904) (p:=13) rnE rfl aIK rfl rfl (by simp [rnE];exact⟨rfl,rfl,rfl⟩) ?_;intro x hx1 hx2 hx3 hx4 hx5 hx6;have hround:∀ k o,L[k]?=some o→dN Tryz.prog (.yld 904 0) [av (aG o)] ((904,LR x rnE)::rnH a b (OB b [] (L.take k))) (fun r H'=>r=bv true∧H'=(904,LR x rnE)::rnH a b (OB b [] (L.take (k+1)))):=by
  intro k o ho;have hst:=aCr (b:=b) ho;have hnew:mH (OB b [] (L.take k)) o.id=false:=by rw [hL] at ho ⊢;exact aFI hg.2.1 ho
  obtain ⟨X,hX⟩:∃ X,X=OB b [] (L.take k):=⟨_,rfl⟩;rw [← hX] at hst hnew ⊢;have hoa:o∈a:=by
   have:=aJB ho;rw [hL] at this;exact(aAj hkd).1 this
  have hor:o.refs.length < 4611686018427387904:=by
   have:=(k7 (hg.1 o hoa)).1;omega
  refine .inl ⟨904,0,rfl,?_⟩;refine C3 [(2,.ref 2 0 0 0),(3,.ref 3 0 0 0),(5,.ref 5 0 0 0),(6,.ref 6 0 0 0)] ((6,bx 6 49 ((aG o).map .pv))::rnH a b X) hx1 hx2 hx3 hx4 hx5 hx6 rfl rfl rfl ?_ ?_
  ·refine Rg<|Dd (by exact bJ (id:=6) rfl qU rfl rfl)<|Uu (fP sizeOf49)<|Zz ?_;exact(cY.wk (Ea<|Ea<|Ea<|Ea<|trivial) (Hc (gG (by simp [rnE];exact⟨rfl,rfl,rfl⟩))<|Hb<|Hc (d7 _ _)<|Ha<|Hc (lC _ _)<|Hc (c7 _ _)<|Hc (c7 _ _)<|Hc (c7 _ _)<|trivial) ⟨rfl,rfl,rfl,rfl,rfl,rfl,rfl,trivial⟩)
  rcases sB (oJ o.id) b with⟨e1,e2⟩|⟨q,p,e1,e2,e3⟩
  ·have hdir:IU b o=(false||false):=by rw [IU,show m9 b o.id=none from e2];rfl
   have hF:∀ H,aH Tryz.prog 54 [.agg [.pv (cO b)],sv o.id] H (fun r H'=>r=iv (-1)∧H'=H):=fun H=>by have:=AU b o.id H (by omega);rw [e1] at this;exact this
   refine aF<|Sr<|Dd (by exact aI rfl bF sizeOf38 rfl rfl rfl rfl (by simp only [Zl,aQ,aG,encStr,aJ,encInt];rfl) rfl)<|Dd (bH eK)<|Dd (cA isAgg9)<|Dd (by exact aA rfl rfl wY rfl (hF _))<|Dd aO<|Zz<|Sq<|aU follows<|Cq aD<|Cq wP<|Cq aD<|Ot<|Ot<|Ot<|Ot<|Ot<|Ot<|Ot<|Ot<|Ot<|Cq dI<|Cq aO<|bM<|Kr<|Sq<|aU follows<|Cq aD<|Cq wP<|Cq aD<|Ot<|Ot<|Ot<|Cq dI<|Cq aD<|Ot<|Ot<|Ot<|Ot<|Ot<|Ot<|Ot<|Ot<|Ot<|Ot<|Cq dI<|Cq aO<|bM<|Kr<|Sq ?_;refine bD (t:=59) (n:=12) (X:=(false||false)||o.refs.any (mH X)) ?_ ?_
   ·all_goals refine Dd aD ?_
    all_goals refine Dm ?_
    all_goals refine Sp 51 (fun h51=>?_) fun h51=>?_
    all_goals try contradiction
    all_goals refine On aD<|Dd dI<|Dm ?_
    all_goals refine Sp 54 (fun h54=>?_) fun h54=>?_
    all_goals try contradiction
    all_goals refine On (bH dP)<|On (cA aV)<|On (by exact fU rfl rfl)<|On (by exact aA rfl rfl JD rfl (LY _ o.refs (mH X) _ hor (fun s=>dN.clo call102 (HD X s _ rfl rfl))))<|Dd dI<|Zz ?_
    all_goals(exact⟨⟨_,rfl,by rfl⟩,rfl,rfl,rfl⟩)
   refine Cn ?_ ?_<;>intro hc1
   ·have hB:rnB b X o=true:=by rw [rnB,hdir];exact hc1
    rw [aIq hB] at hst;refine Rg<|Dd (cA kI)<|Dd (bH eK)<|Dd (cA isAgg9)<|Uu (by exact uD (.inl rfl) eD underlying9 rfl rfl rfl rfl rfl rfl rfl)<|Zz ?_;have hsp:nX X o.id=X++[o.id]:=by rw [nX,aIp (by rw [hnew];decide)]
    exact⟨rnH a b (nX X o.id),(cY.wk trivial (Hc (gG (by simp [rnE];exact⟨rfl,rfl,rfl⟩))<|Hc (d7 _ _)<|Ha<|Hc (lC _ _)<|Hc (c7 _ _)<|Hc (c7 _ _)<|Hc (c7 _ _)<|trivial) ⟨rfl,rfl,rfl,rfl,rfl,rfl,rfl,trivial⟩),rfl,by rw [hst,hsp]⟩
   have hB:rnB b X o=false:=by rw [rnB,hdir];exact hc1
   rw [aIp (by rw [hB];decide)] at hst;refine aB ?_;exact⟨rnH a b X,(cY.wk trivial (Hc (gG (by simp [rnE];exact⟨rfl,rfl,rfl⟩))<|Hc (d7 _ _)<|Ha<|Hc (lC _ _)<|Hc (c7 _ _)<|Hc (c7 _ _)<|Hc (c7 _ _)<|trivial) ⟨rfl,rfl,rfl,rfl,rfl,rfl,rfl,trivial⟩),rfl,by rw [hst]⟩
  have hdir:IU b o=(!decide (p.kind=o.kind)||(decide (o.kind=5)&&!decide (o.refs=p.refs))):=by rw [IU,show m9 b o.id=some p from e3]
  have hbi:=bZ (f:=aG) e2;have hq:=(aIv.1 e2).1;have hF:∀ H,aH Tryz.prog 54 [.agg [.pv (cO b)],sv o.id] H (fun r H'=>r=iv (q:Int)∧H'=H):=fun H=>by have:=AU b o.id H (by omega);rw [e1] at this;exact this
  have h0:decide ((0:Int)≤(q:Int))=true:=decide_eq_true (by omega);refine aF<|Sr<|Dd (by exact aI rfl bF sizeOf38 rfl rfl rfl rfl (by simp only [Zl,aQ,aG,encStr,aJ,encInt];rfl) rfl)<|Dd (bH eK)<|Dd (cA isAgg9)<|Dd (by exact aA rfl rfl wY rfl (hF _))<|Dd aO<|Zz<|Sq ?_;refine nD (t:=8) (n:=14) (X:=!decide (p.kind=o.kind)) ?_ ?_
  ·refine aU follows<|Cq aD<|Cq wP<|Cq aD<|Nt (bH gZ)<|Nt (cA dJ)<|Nt aD<|Nt (e8 iK)<|Nt (wB dT)<|Nt (fM isAgg3)<|Nt (bH dT)<|Nt (cA isAgg3)<|Nt tU<|Cq dI<|Cq aO<|bM<|Kr ?_;exact⟨rfl,⟨_,rfl,by rfl⟩,rfl,rfl,rfl⟩
  refine Sq ?_;refine nD (t:=9) (n:=20) (X:=decide (o.kind=5)&&!decide (o.refs=p.refs)) ?_ ?_
  ·cases hg38:(decide (o.kind=5):Bool)
   ·refine aU follows<|Cq aD<|Cq wP<|Cq aD<|Nt (bH dT)<|Nt (cA isAgg3)<|Nt cI<|Cq dI<|Cq aD<|Ot<|Ot<|Ot<|Ot<|Ot<|Ot<|Ot<|Ot<|Ot<|Ot<|Cq rJ<|Cq aO<|bM<|Kr ?_;exact⟨rfl,⟨_,rfl,by rfl⟩,rfl,rfl,rfl⟩
   refine aU follows<|Cq aD<|Cq wP<|Cq aD<|Nt (bH dT)<|Nt (cA isAgg3)<|Nt cI<|Cq dI<|Cq aD<|Nt (bH dP)<|Nt (cA aV)<|Nt (bH gZ)<|Nt (cA dJ)<|Nt aD<|Nt (e8 iK)<|Nt (wB dP)<|Nt (fM aV)<|Nt (by exact aA rfl rfl YK rfl (CJ o.refs p.refs _ hor))<|Nt jU<|Cq xI<|Cq aO<|bM<|Kr ?_;exact⟨rfl,⟨_,rfl,by rfl⟩,rfl,rfl,rfl⟩
  refine Sq ?_;refine bD (t:=59) (n:=12) (X:=((!decide (p.kind=o.kind))||(decide (o.kind=5)&&!decide (o.refs=p.refs)))||o.refs.any (mH X)) ?_ ?_
  ·all_goals refine Dd aD ?_
   all_goals refine Dm ?_
   all_goals refine Sp 51 (fun h51=>?_) fun h51=>?_
   all_goals try contradiction
   all_goals first|refine Fo ?_|refine On aD ?_
   all_goals refine Dd dI<|Dm ?_
   all_goals refine Sp 54 (fun h54=>?_) fun h54=>?_
   all_goals try contradiction
   all_goals first|refine Fo<|Fo<|Fo<|Fo ?_|refine On (bH dP)<|On (cA aV)<|On (by exact fU rfl rfl)<|On (by exact aA rfl rfl JD rfl (LY _ o.refs (mH X) _ hor (fun s=>dN.clo call102 (HD X s _ rfl rfl)))) ?_
   all_goals refine Dd dI<|Zz ?_
   all_goals(exact⟨⟨_,rfl,by(simp_all;done)⟩,rfl,rfl,rfl⟩)
  refine Cn ?_ ?_<;>intro hc2
  ·have hB:rnB b X o=true:=by rw [rnB,hdir];exact hc2
   rw [aIq hB] at hst;refine Rg<|Dd (cA kI)<|Dd (bH eK)<|Dd (cA isAgg9)<|Uu (by exact uD (.inl rfl) eD underlying9 rfl rfl rfl rfl rfl rfl rfl)<|Zz ?_;have hsp:nX X o.id=X++[o.id]:=by rw [nX,aIp (by rw [hnew];decide)]
   exact⟨rnH a b (nX X o.id),(cY.wk trivial (Hc (gG (by simp [rnE];exact⟨rfl,rfl,rfl⟩))<|Hc (d7 _ _)<|Ha<|Hc (lC _ _)<|Hc (c7 _ _)<|Hc (c7 _ _)<|Hc (c7 _ _)<|trivial) ⟨rfl,rfl,rfl,rfl,rfl,rfl,rfl,trivial⟩),rfl,by rw [hst,hsp]⟩
  have hB:rnB b X o=false:=by rw [rnB,hdir];exact hc2
  rw [aIp (by rw [hB];decide)] at hst;refine aB ?_;exact⟨rnH a b X,(cY.wk trivial (Hc (gG (by simp [rnE];exact⟨rfl,rfl,rfl⟩))<|Hc (d7 _ _)<|Ha<|Hc (lC _ _)<|Hc (c7 _ _)<|Hc (c7 _ _)<|Hc (c7 _ _)<|trivial) ⟨rfl,rfl,rfl,rfl,rfl,rfl,rfl,trivial⟩),rfl,by rw [hst]⟩
 refine(DY a false (.yld 904 0) (fun k=>(904,LR x rnE)::rnH a b (OB b [] (L.take k))) hal hkd (fun k=>rfl) (fun k=>rfl) (fun k=>rfl) (fun k=>(dF.ofL ⟨(by exact gG (by simp [rnE];exact⟨rfl,rfl,rfl⟩)),(by exact d7 _ _),(by(simp;rfl)),(by exact lC _ _),(by exact c7 _ _),(by exact c7 _ _),(by exact c7 _ _),trivial⟩)) (fun k=>by simp;rfl) (fun k o h=>hround k o (by rw [hL];exact h))).mono ?_;rintro r H' ⟨rfl,rfl⟩;refine⟨x,_,rfl,by rw [hx1];decide,rfl,fun z=>?_⟩;rw [hx2];have hfin:OB b [] (L.take (p0 a false).length)=pO a b:=by rw [hL,List.take_length];rfl
 rw [hfin];refine Sr<|Dd (cA kI)<|Dd aO<|Zz<|aC ?_;refine cZ (H':=[(10,FX (pO a b))]) (.inr rfl) rfl (aN rfl) (Fin.wk (by(simp;rfl)) (Hc (d7 _ _)<|trivial) trivial) ?_;exact Qq
section
def N1 (a b:List GObj):List GObj:=(p0 a true).filter fun o=>mH (pO a b) o.id
def VB (a b:List GObj):List GObj:=(p0 a true).filter fun o=>!mH (pO a b) o.id&&(m9 b o.id).isNone
def Q5 (a b:List GObj):List GObj:=(p0 b false).filter fun o=>mH (pO a b) o.id||(m9 a o.id).isNone
def zS (a b:List GObj):List (GObj×GObj):=b.filterMap fun o=>match m9 a o.id with
 | some p=>if mH (pO a b) o.id then none else some (p,o)
 | none=>none
def z8 (k:GObj×GObj):List GEdit:=if k.1.x=k.2.x∧k.1.y=k.2.y then[] else[UN k.1.id k.2.x k.2.y]
def z7 (k:GObj×GObj):List GEdit:=if k.1.refs=k.2.refs then[] else[aEX k.1.id k.2.refs]
def xD (k:GObj×GObj):List GEdit:=(aGZ k.1 k.2).map fun p=>GW k.1.id p.1 p.2
def N0 (a b:List GObj):List GEdit:=(N1 a b).map (fun o=>mF o.id)++((Q5 a b).map putE++((zS a b).flatMap z8++((zS a b).flatMap z7++((zS a b).flatMap xD++(VB a b).map fun o=>mF o.id))))
def mT (a b:List GObj):List GEdit×Int:=if !eY a||!eY b then([],1)else if 200 < (N0 a b).length then([],2)else(N0 a b,0)
theorem aAk {a b:List GObj} {k:GObj×GObj}:k∈zS a b↔k.2∈b∧m9 a k.2.id=some k.1∧k.2.id∉pO a b:=by
 rw [zS,List.mem_filterMap];constructor
 ·rintro⟨o,ho,h⟩
  split at h
  ·next p hp =>
   split at h
   ·cases h
   next hx =>
   cases h;exact⟨ho,hp,fun h=>hx (yX.2 h)⟩
  cases h
 rintro⟨h1,h2,h3⟩;refine⟨k.2,h1,?_⟩;rw [h2];simp only;rw [aIp fun h=>h3 (yX.1 h)]
section
variable {a b:List GObj}
def mid (a b:List GObj) (s:ByteArray):Option GObj:=if s∈pO a b∨m9 a s=none then m9 b s else m9 a s
def c1 (k:GObj×GObj):GObj:=⟨k.1.id,k.1.kind,k.2.x,k.2.y,k.1.refs,k.1.tags⟩
def c2 (k:GObj×GObj):GObj:=⟨k.1.id,k.1.kind,k.2.x,k.2.y,k.2.refs,k.1.tags⟩
def c3 (k:GObj×GObj):GObj:=⟨k.1.id,k.1.kind,k.2.x,k.2.y,k.2.refs,k.2.tags⟩
end
end
end Go.Proofs.YtlnfjkdacimblaaGreatDoor
namespace Go.Abs
section
section
variable {P:Program} {N:Nat} {o:Oper} {E:dG} {H:aE} {S T t:TypeId} {x:Operand} {id g n m:Nat} {ob:Ob}
theorem AH (ho:o.op=.convert S T x) (hS:P.underlying S=some .unsafePointer) (hT:P.underlying T=some (.pointer t)) (hi:(P.info? t).map (·.size)=some (n+1)) (hc:P.cellsOf ob.ty=m+1) (hx:aW E x=some (.ref id g 0 0)) (hH:H.get id=some ob) (hg:ob.g=g) (hne:ob.rows≠[]) (hsz:ob.sz=m+1) (hl:∀ c,liesAt P P.depth ob.ty (c+1) 0 t 1=true):dQ P N o E H (.ref id g 0 0) H :=.of_run fun a w I ι hr he=>by
  have hv:=aM he hx;obtain ⟨b,cap,e1,e2,e3,e4⟩:=DG hr hv hH hg hne;obtain ⟨j,h1,h2⟩:=uX hi;rw [e1] at hv;refine⟨_,?_,hv⟩;simp only [execOp,ho,e1];have hq:cap*ob.sz / P.cellsOf ob.ty=(cap - 1)+1:=by rw [hc,hsz,Nat.mul_div_cancel _ (by omega)];omega
  rw [Sem.run_bind,Lib.run_from_unsafe w ⟨b,0,none⟩ hS hT h1 e2 (by rw [hq];exact hl _)];rfl
end
end
end Go.Abs
namespace Go.Proofs.YtlnfjkdacimblaaGreatDoor
open Go.Proofs.Tryz
open Go.Abs
theorem aGc (c:Nat):liesAt Tryz.prog Tryz.prog.depth 159 (c+1) 0 62 1=true:=by kernel_rfl
def A3 (buf:AV) (u:Bool):Ob:=⟨0,2,159,[[Q7 u,buf]]⟩
def mL (g:Nat) (l:List UInt8) (u:Bool):aE:=[(2001,A3 (.osl 2002 g 0 l.length) u),(2002,⟨g,1,5,fT l⟩)]
theorem I8 {H:aE} {g n:Nat} {u:Bool} (h1:(H.get 2001).isSome=true) (h2:(H.get 2002).isSome=true):∀ r∈(A3 (.osl 2002 g 0 n) u).rows,∀ a∈r,Clo H a:=by
 intro r hr a ha;simp only [A3,aIu] at hr;subst hr;simp only [aJD,aJH,or_false] at ha;rcases ha with rfl|rfl
 ·cases u<;>simp [Q7,h1]
 simp [h2]
theorem CM (buf:AV) (u:Bool) (K:aE):aH Tryz.prog 72 [.ref 2001 0 0 0] ((2001,A3 buf u)::K) (fun r H'=>r=.tup []∧H'=(2001,A3 buf true)::K):=by
 cases u with
 | false =>
  refine Bd aCQ rfl YF<|Sr<|Dd aD<|Dd pY<|Dd (bH xW)<|Dd (cA zE)<|Dd (by exact xL rfl gJ rfl rfl)<|Zz ?_;refine Cn ?_ ?_<;>intro hc1
  ·refine Rg<|Dd aD<|Dd aD<|Dd (by exact zJ (n:=1) rfl gJ A5 (by kernel_rfl) rfl rfl rfl (by simp [A3]))<|Dd (by exact BY rfl rfl func128 rfl rfl rfl rfl rfl (QN (.ref 2001 0 0 0)))<|Dd (by exact AH (n:=1) (m:=1) rfl A5 gJ (by kernel_rfl) (by kernel_rfl) rfl rfl rfl (by simp [A3]) rfl aGc)<|Dd pY<|Dd (bH xW)<|Uu (by exact bW rfl aHK rfl rfl rfl rfl rfl rfl (aJE rfl) rfl rfl)<|Zz ?_;exact qT (.inl rfl) rfl (Fin.get' (H':=(2001,A3 buf true)::K) (fun j=>pP 2001 (A3 buf true) (A3 buf false) K j)) ⟨rfl,rfl⟩
  cases hc1
 | true =>
  refine Bd aCQ rfl YF<|Sr<|Dd aD<|Dd pY<|Dd (bH xW)<|Dd (cA zE)<|Dd (by exact sY rfl gJ rfl rfl rfl rfl)<|Zz ?_;refine Cn ?_ ?_<;>intro hc1
  ·cases hc1
  refine Sr<|Dd aD<|Dd pY<|Dd (bH xW)<|Dd (cA zE)<|Dd aD<|Dd (by exact BV (n:=1) rfl gJ (by kernel_rfl) rfl rfl rfl rfl)<|Zz ?_;refine Cn ?_ ?_<;>intro hc2
  ·cases hc2
  refine aB ?_;exact qT (.inl rfl) rfl Fin.refl ⟨rfl,rfl⟩
theorem Q2 (g:Nat) (l m:List UInt8) {n:Nat} (h:m.length=n):mL (g+1) (l++m) true=[(2001,A3 (.osl 2002 (g+1) 0 (l.length+n)) true),(2002,⟨g+1,1,5,fT (l++m)⟩)]:=by subst h;simp [mL]
theorem MF (g:Nat) (l:List UInt8) (u:Bool) (c:UInt8) (hl:l.length < 70368744177664):aH Tryz.prog 125 [.ref 2001 0 0 0,.pv (.int .u8 c.toNat)] (mL g l u) (fun r H'=>r=.pv J1∧H'=mL (g+1) (l++[c]) true):=by refine Bd func125 rfl ntmps125<|Sr<|Dd aO<|Zz<|Sr<|Dd aD<|Dd (by exact aA rfl rfl N7 rfl (CM _ u _))<|Zz<|Sr<|Dd aD<|Dd aD<|Dd pY<|Dd (bH iQ)<|Dd (cA d9)<|Dd aD<|Dd (by exact aT [[.int .u8 c.toNat]] rfl OZ rfl rfl rfl rfl rfl (by intro r hr;rw [aIu] at hr;subst hr;rfl))<|Dd (by exact c6 (ps:=[[.int .u8 c.toNat]]) rfl OZ ei5 rfl rfl rfl rfl rfl (y6 l) rfl (by intro r hr;rw [aIu] at hr;subst hr;rfl) (m:=1) rfl (by omega) rfl (y7 l [c]))<|Dd pY<|Dd (bH iQ)<|Uu (by exact bW rfl nP rfl rfl rfl rfl rfl rfl (aJE rfl) rfl rfl)<|Zz<|Sr<|Dd aO<|Zz<|aC ?_;rw [Q2 g l [c] (n:=1) rfl];refine cZ (H':=[(2001,A3 (.osl 2002 (g+1) 0 (l.length+1)) true),(2002,⟨g+1,1,5,fT (l++[c])⟩)]) (.inr rfl) rfl (aN rfl) (Fin.get' (fun j=>CC (by decide) j)) ?_;exact Qq
theorem w9 (g:Nat) (l:List UInt8) (u:Bool) (s:ByteArray) (hl:l.length+s.size < 70368744177664):aH Tryz.prog 33 [.ref 2001 0 0 0,sv s] (mL g l u) (fun r H'=>r=.tup [iv (s.size:Int),.pv J1]∧H'=mL (g+1) (l++s.data.toList) true):=by refine Bd func33 rfl ntmps33<|Sr<|Dd aO<|Dd aO<|Zz<|Sr<|Dd aD<|Dd (by exact aA rfl rfl N7 rfl (CM _ u _))<|Zz<|Sr<|Dd aD<|Dd aD<|Dd pY<|Dd (bH iQ)<|Dd (cA d9)<|Dd aD<|Dd (by exact BB rfl OZ underlying9 ei5 TR rfl rfl rfl rfl rfl (y6 l) rfl (by omega) rfl (y7 l s.data.toList))<|Dd pY<|Dd (bH iQ)<|Uu (by exact bW rfl nP rfl rfl rfl rfl rfl rfl (aJE rfl) rfl rfl)<|Zz<|Sr<|Dd aD<|Dd (jJ underlying9)<|Dd aO<|Dd aO<|Zz<|aC ?_;rw [Q2 g l s.data.toList (n:=s.size) rfl];refine iD (H':=[(2001,A3 (.osl 2002 (g+1) 0 (l.length+s.size)) true),(2002,⟨g+1,1,5,fT (l++s.data.toList)⟩)]) (.inr rfl) rfl (aN rfl) (aN rfl) (Fin.get' (fun j=>CC (by decide) j)) ?_;exact Qq
def Q6 (g:Nat) (l:List UInt8) (u:Bool):aE:=[(2002,⟨g+1,1,5,[]⟩),(2001,A3 (.osl 2002 g 0 l.length) u)]
theorem aFA (g:Nat) (l:List UInt8) (u:Bool) (hl:l.length < 70368744177664):aH Tryz.prog 35 [.ref 2001 0 0 0] (mL g l u) (fun r H'=>r=sv ⟨l.toArray⟩∧H'=Q6 g l u):=by
 by_cases h0:l=[]
 ·subst h0;refine Bd aCR rfl YG<|Sr<|Dd aO<|Zz<|Sq<|aU follows<|Cq aD<|Cq pY<|Cq (bH iQ)<|Cq (cA d9)<|Cq (by exact xJ rfl sL rfl rfl rfl)<|Cq aD<|Cq pY<|Cq (bH iQ)<|Cq (cA d9)<|Cq (by exact dV rfl eE rfl rfl rfl)<|Cq (by exact sX rfl rfl rfl)<|Cq aO<|bM<|Kr<|aC ?_;refine cZ (H':=(Q6 g [] u)) (.inr rfl) rfl (aN rfl) (Fin.trans (Fin.deadO (id:=2002) (k:=g+1) (ob:=⟨g,1,5,fT []⟩) rfl (Nat.lt_succ_self g) Nat.zero_lt_one rfl rfl) (Fin.get' (fun j=>GB (by decide) j))) ?_;exact Qq
 have hpos:0 < l.length:=List.length_pos_iff.2 h0;refine Bd aCR rfl YG<|Sr<|Dd aO<|Zz<|Sq<|aU follows<|Cr [2001] (fun _ _=>aD)<|Cr [2001] (fun H1 hH=>by exact dS rfl rfl ((hH _ rfl).trans rfl) rfl)<|Cr [2001] (fun _ h=>fh iQ h)<|Cr [2001] (fun _ h=>lh d9 h)<|Cr [2002] (fun H1 hH=>by exact zL rfl rfl ((hH _ rfl).trans rfl) rfl hpos)<|Cr [2001] (fun _ _=>aD)<|Cr [2001] (fun H1 hH=>by exact dS rfl rfl ((hH _ rfl).trans rfl) rfl)<|Cr [2001] (fun _ h=>fh iQ h)<|Cr [2001] (fun _ h=>lh d9 h)<|Cr [2002] (fun H1 hH=>by exact dV rfl eE rfl ((hH _ rfl).trans rfl) rfl)<|Cp [2001,2002] (fun H1 hH=>by exact uP (l:=l) rfl sL (by kernel_rfl) rfl rfl ((hH _ rfl).trans rfl) rfl rfl rfl rfl rfl hpos (by omega) rfl)<|Cr [] (fun _ _=>aO)<|bM<|Kr<|aC ?_;refine cZ (H':=(Q6 g l u)) (.inr rfl) rfl (aN rfl) (Fin.get' (fun j=>GB (by decide) j)) ?_;exact Qq
theorem aAr (g:Nat) (l:List UInt8) (u:Bool):aH Tryz.prog 34 [.ref 2001 0 0 0] (mL g l u) (fun r H'=>r=iv (l.length:Int)∧H'=mL g l u):=by refine Bd func34 rfl ntmps34<|Sr<|Dd aO<|Zz<|Sr<|Dd aD<|Dd pY<|Dd (bH iQ)<|Dd (cA d9)<|Dd (by exact dV rfl eE rfl rfl rfl)<|Dd aO<|Zz<|aC ?_;refine cZ (H':=(mL g l u)) (.inr rfl) rfl (aN rfl) Fin.refl ?_;exact Qq
def WK (l:List UInt8) (s:ByteArray):List UInt8:=if l=[] then s.data.toList else l++32::s.data.toList
theorem aG5 (g:Nat) (l:List UInt8) (u:Bool) (s:ByteArray) (hl:l.length+s.size < 70368744177663):aH Tryz.prog 121 [.ref 2001 0 0 0,sv s] (mL g l u) (fun r H'=>r=.tup []∧H'=mL (if l=[] then g+1 else g+2) (WK l s) true):=by
 have hB:=MF g l u 32 (by omega);have hL:=aAr g l u;rw [WK];by_cases h0:l=[]
 ·subst h0;have hS:=w9 g [] u s (by omega);rw [aIq rfl,aIq rfl];rw [List.nil_append] at hS;refine Bd func121 rfl ntmps121<|Sq<|Sr<|Dd aD<|Dd pY<|Dd (bH mC)<|Dd (by exact aA rfl rfl wZ rfl (hL))<|Dd kC<|Zz ?_;refine Cn ?_ ?_<;>intro hc1
  ·cases hc1
  refine aB<|Rg<|Dd aD<|Dd pY<|Dd (bH mC)<|Dd aD<|Dd (by exact aA rfl rfl w5 rfl (hS))<|Zz ?_;exact qT (H':=mL (g+1) s.data.toList true) (.inl rfl) rfl Fin.refl ⟨rfl,rfl⟩
 have hpos:0 < l.length:=List.length_pos_iff.2 h0;have hS:=w9 (g+1) (l++[32]) true s (by rw [aIs,List.length_singleton];omega);rw [aIp h0,aIp h0];rw [List.append_assoc] at hS;refine Bd func121 rfl ntmps121<|Sq<|Sr<|Dd aD<|Dd pY<|Dd (bH mC)<|Dd (by exact aA rfl rfl wZ rfl (hL))<|Dd kC<|Zz ?_;refine Cn ?_ ?_<;>intro hc1
 ·refine Rg<|Dd aD<|Dd pY<|Dd (bH mC)<|Dd (by exact aA rfl rfl lM rfl (hB))<|Zz<|Rg<|Dd aD<|Dd pY<|Dd (bH mC)<|Dd aD<|Dd (by exact aA rfl rfl w5 rfl (hS))<|Zz ?_;exact qT (H':=mL (g+2) (l++32::s.data.toList) true) (.inl rfl) rfl Fin.refl ⟨rfl,rfl⟩
 have:=aIo hc1;omega
end Go.Proofs.YtlnfjkdacimblaaGreatDoor
section
namespace Go.Proofs
open Go.RowKit Go.Sort Go.Shelf
def aIj:Go.Shelf.Ren:=⟨fun|171=>68|243=>124|246=>172|283=>220|284=>221|285=>222|286=>223|129=>201|317=>248|318=>249|319=>250|320=>251|337=>261|338=>262|n=>n,fun|3=>3|9=>9|2=>2|4=>4|171=>250|0=>0|53=>235|37=>52|5=>5|173=>252|212=>272|51=>233|20=>20|213=>273|46=>186|232=>294|233=>295|n=>n,fun|17=>1|18=>6|19=>7|n=>n⟩
theorem aIl:Go.Proofs.LaysM.n171 Tryz.prog aIj:={
  mixed:=by kernel_rfl
  f129:=Tryz.func201.trans (congrArg some (by kernel_rfl))
  f171:=Tryz.func68.trans (congrArg some (by kernel_rfl))
  f243:=Tryz.func124.trans (congrArg some (by kernel_rfl))
  f246:=Tryz.func172.trans (congrArg some (by kernel_rfl))
  f283:=Tryz.func220.trans (congrArg some (by kernel_rfl))
  f284:=Tryz.func221.trans (congrArg some (by kernel_rfl))
  f285:=Tryz.func222.trans (congrArg some (by kernel_rfl))
  f286:=Tryz.func223.trans (congrArg some (by kernel_rfl))
  f317:=Tryz.func248.trans (congrArg some (by kernel_rfl))
  f318:=Tryz.func249.trans (congrArg some (by kernel_rfl))
  f319:=Tryz.func250.trans (congrArg some (by kernel_rfl))
  f320:=Tryz.func251.trans (congrArg some (by kernel_rfl))
  f337:=Tryz.func261.trans (congrArg some (by kernel_rfl))
  f338:=Tryz.func262.trans (congrArg some (by kernel_rfl))
  t0:=aCD
  a0:=aI3
  z0:=aHx
  v0:=aEM
  t2:=Tryz.underlying2
  a2:=Tryz.isAgg2
  z2:=Tryz.sizeOf2
  v2:=Tryz.zeroValue2
  t3:=Tryz.underlying3
  a3:=Tryz.isAgg3
  z3:=Tryz.sizeOf3
  v3:=eC
  t4:=FO
  a4:=N6
  z4:=aHw
  v4:=gP
  t5:=qG
  a5:=N5
  z5:=dY
  v5:=JM
  t9:=Tryz.underlying9
  a9:=Tryz.isAgg9
  z9:=Tryz.sizeOf9
  v9:=rO
  t20:=Tryz.underlying20
  a20:=Tryz.isAgg20
  z20:=Tryz.sizeOf20
  v20:=Tryz.zeroValue20
  t37:=eE
  a37:=d9
  z37:=nP
  v37:=Tryz.zeroValue52
  t46:=sK
  a46:=aHO
  z46:=aGE
  v46:=YA
  t51:=TH
  a51:=aHN
  z51:=aGD
  v51:=X9
  t53:=TG
  a53:=aHM
  z53:=aGC
  v53:=X8
  t171:=Tryz.underlying250
  a171:=Tryz.isAgg250
  z171:=Tryz.sizeOf250
  v171:=Tryz.zeroValue250
  t173:=Tryz.underlying252
  a173:=Tryz.isAgg252
  z173:=Tryz.sizeOf252
  v173:=Tryz.zeroValue252
  t212:=Tryz.underlying272
  a212:=Tryz.isAgg272
  z212:=Tryz.sizeOf272
  v212:=Tryz.zeroValue272
  t213:=Tryz.underlying273
  a213:=Tryz.isAgg273
  z213:=Tryz.sizeOf273
  t232:=Tryz.underlying294
  a232:=Tryz.isAgg294
  z232:=Tryz.sizeOf294
  v232:=Tryz.zeroValue294
  t233:=Tryz.underlying295
  a233:=Tryz.isAgg295
  z233:=Tryz.sizeOf295
  v233:=Tryz.zeroValue295
  g17:=by kernel_rfl
  g18:=by kernel_rfl
  g19:=by kernel_rfl
  i0:=by kernel_rfl
  i2:=by kernel_rfl
  i3:=by kernel_rfl
  i4:=by kernel_rfl
  i5:=by kernel_rfl
  i9:=by kernel_rfl
  i20:=by kernel_rfl
  i37:=by kernel_rfl
  i46:=by kernel_rfl
  i51:=by kernel_rfl
  i53:=by kernel_rfl
  i171:=by kernel_rfl
  i173:=by kernel_rfl
  i212:=by kernel_rfl
  i232:=by kernel_rfl
  i233:=by kernel_rfl
  m17:=by kernel_rfl
  m18:=by kernel_rfl
  m19:=by kernel_rfl}
end Go.Proofs
namespace Go.Proofs.YtlnfjkdacimblaaGreatDoor
open Go.Proofs.Tryz
open Go.Abs
theorem GA (n:Int) (h0 : -9223372036854775808≤n) (h1:n≤9223372036854775807) (H:aE):aH Tryz.prog 68 [iv n] H (fun r H'=>r=sv (cR n)∧H'=H) :=Go.Abs.itoa_c aIl (G:=1) (by unfold NP;exact .head _) (by kernel_rfl) n h0 h1 H
end Go.Proofs.YtlnfjkdacimblaaGreatDoor
end
namespace Go.Proofs.YtlnfjkdacimblaaGreatDoor
open Go.Proofs.Tryz
open Go.Abs
theorem aEz {g:Nat} {l:List UInt8} {u:Bool} {K:aE}:Sub (mL g l u) (mL g l u++K):=by intro j o h;rw [jQ,h]
theorem aGd {g g':Nat} {l l':List UInt8} {u u':Bool} {id:Nat} (h:(aE.get (mL g l u) id).isSome=true):(aE.get (mL g' l' u') id).isSome=true:=aAz h
theorem aGn {g g':Nat} {l l':List UInt8} {u u':Bool} {K:aE} (j:Nat):aE.get (mL g l u++(mL g' l' u'++K)) j=aE.get (mL g l u++K) j:=by show aE.get ((2001,_)::(2002,_)::(2001,_)::(2002,_)::K) j=aE.get ((2001,_)::(2002,_)::K) j;exact(CC (by decide) j).symm
theorem aAP (K:aE) (g:Nat) (l:List UInt8) (u:Bool) (s:ByteArray) (hl:l.length+s.size < 70368744177663):aH Tryz.prog 121 [.ref 2001 0 0 0,sv s] (mL g l u++K) (fun r H'=>r=.tup []∧H'=mL (if l=[] then g+1 else g+2) (WK l s) true++K) :=(aH.frame (aG5 g l u s hl) aEz (dF.ofL ⟨(by exact I8 rfl rfl),(by exact fH _ _),trivial⟩) (by simp;rfl) (fun id h=>.inl (aGd h))).congrH fun j=>(aGn j).symm
theorem F9 (K:aE) (g:Nat) (l:List UInt8) (u:Bool):aH Tryz.prog 34 [.ref 2001 0 0 0] (mL g l u++K) (fun r H'=>r=iv (l.length:Int)∧H'=mL g l u++K) :=(aH.frame (aAr g l u) aEz (dF.ofL ⟨(by exact I8 rfl rfl),(by exact fH _ _),trivial⟩) (by simp;rfl) (fun id h=>.inl h)).congrH fun j=>(aGn j).symm
def ofL (l:List UInt8):ByteArray:=⟨l.toArray⟩
theorem eI (l:List UInt8):(ofL l).data.toList=l:=by simp [ofL]
theorem iF (s:ByteArray):ofL s.data.toList=s:=EF (eI _)
theorem dL (l:List UInt8):(ofL l).size=l.length:=by rw [← bC,eI]
def pQ (s:ByteArray):GObj×Int:=if 20000 < s.size then(zObj,2)else if(eP s).2.1=0∧eB (k9 (eP s).1)=(s,0)then(k9 (eP s).1,0)else(zObj,5)
theorem F6 {o:GObj} (h:(eB o).2=0):iC o=true∧eB o=(o9 o,0)∧(o9 o).size≤20000:=by
 rw [eB] at h ⊢;by_cases hg:iC o=true
 ·rw [aIq hg] at h ⊢;by_cases h1:0 < o.tags.length∧(gY o.tags).2≠0
  ·rw [aIq h1] at h;exact absurd h h1.2
  rw [aIp h1] at h ⊢;by_cases h2:20000 < (o9 o).size
  ·rw [aIq h2] at h;cases h
  rw [aIp h2];exact⟨hg,rfl,by omega⟩
 rw [aIp hg] at h;cases h
theorem SE {o:GObj} (h:(eB o).2=0):pQ (eB o).1=(o,0):=by
 obtain ⟨hg,ht,hs⟩:=F6 h;obtain ⟨T,hT,h1,h2,h3⟩:=aAC hg;have hlex:eP (o9 o)=(T,0,0):=by
  rw [eP,aIp (by omega),hT _ (by rw [← bC];exact Nat.le_succ _),uS T [] h1 (by rw [List.length_nil];omega),List.nil_append]
 rw [ht,pQ,aIp (by show ¬ 20000 < (o9 o).size;omega)];show (if(eP (o9 o)).2.1=0∧eB (k9 (eP (o9 o)).1)=(o9 o,0)then(k9 (eP (o9 o)).1,(0:Int))else(zObj,5))=(o,0);rw [hlex];show (if(0:Int)=0∧eB (k9 T)=(o9 o,0)then(k9 T,(0:Int))else(zObj,5))=(o,0);rw [h3,aIq ⟨rfl,ht⟩]
def wPut:List UInt8:=[112,117,116]
def BD:List UInt8:=[109,111,118,101]
def uG:List UInt8:=[116,97,103]
def BC:List UInt8:=[114,101,102,115]
def BF:List UInt8:=[100,114,111,112]
def vD:List UInt8:=[115,112,108,105,116]
def BE:List UInt8:=[106,111,105,110]
def fL (e:GEdit):List (List UInt8) :=if e.op=2 then[BD,e.id.data.toList,Lib.itoa e.x,Lib.itoa e.y] else if e.op=3 then[uG,e.id.data.toList,e.key.data.toList,dE e.val.data.toList]
 else if e.op=4 then BC::e.id.data.toList::bs e.refs else if e.op=5 then[BF,e.id.data.toList]
 else if e.op=6 then[vD,e.id.data.toList,e.node.data.toList,e.other.data.toList] else[BE,e.id.data.toList,e.other.data.toList]
def eA (e:GEdit):List UInt8:=if e.op=1 then wPut++32::(eB e.obj).1.data.toList else bS [32] (fL e)
def fA (e:GEdit):Int:=if e.op=1 then(eB e.obj).2 else 0
def nF:List UInt8→List GEdit→List UInt8×Int
 | acc,[]=>(acc,0)
 | acc,e::r=>if fA e≠0∨20000 < (acc++(eA e++[10])).length then([],2)else nF (acc++(eA e++[10])) r
def eJ (l:List GEdit):ByteArray×Int:=if eW l then(ofL (nF [] l).1,(nF [] l).2)else(aP,1)
def J0 (s:List UInt8):Int:=match Lib.atoiAll s with
 | .ok v=>v
 | _ => -1
def E5:GEdit:=⟨0,aP,aP,aP,0,0,aP,aP,[],zObj⟩
def xG (w:List (List UInt8)) (word rest:List UInt8):GEdit :=if word=wPut then⟨1,aP,aP,aP,0,0,aP,aP,[],(pQ (ofL rest)).1⟩
 else if word=BD∧w.length=4 then⟨2,ofL (w.getD 1 []),aP,aP,J0 (w.getD 2 []),J0 (w.getD 3 []),aP,aP,[],zObj⟩
 else if word=uG∧3 < w.length then(match (eP (ofL (bS [32] (w.drop 3)))).1 with
  | [f]=>⟨3,ofL (w.getD 1 []),aP,aP,0,0,ofL (w.getD 2 []),f.text,[],zObj⟩
  | _=>E5)
 else if word=BC∧1 < w.length then⟨4,ofL (w.getD 1 []),aP,aP,0,0,aP,aP,(w.drop 2).map ofL,zObj⟩
 else if word=BF∧w.length=2 then⟨5,ofL (w.getD 1 []),aP,aP,0,0,aP,aP,[],zObj⟩
 else if word=vD∧w.length=4 then⟨6,ofL (w.getD 1 []),ofL (w.getD 3 []),ofL (w.getD 2 []),0,0,aP,aP,[],zObj⟩
 else if word=BE∧w.length=3 then⟨7,ofL (w.getD 1 []),ofL (w.getD 2 []),aP,0,0,aP,aP,[],zObj⟩
 else E5
def i8 (s:List UInt8):GEdit:=xG (dO 32 s) ((dO 32 s).headD []) (s.drop (((dO 32 s).headD []).length+1))
def jC (t:ByteArray):List GEdit×Int :=if 20000 < t.size then([],2)else if eJ ((kB t.data.toList).map fun s=>i8 (Lib.trimSuffix s [10]))=(t,0)then((kB t.data.toList).map fun s=>i8 (Lib.trimSuffix s [10]),0)else([],5)
theorem LJ {k:ByteArray} (hk:bU k=true) {b:UInt8} (hb:b∈k.data.toList):sF (b.toNat:Int)=3∨sF (b.toNat:Int)=4∨sF (b.toNat:Int)=5:=by
 obtain ⟨j,hj⟩:=aJM.1 hb;have hlt:=(aIv.1 hj).1;rw [bC] at hlt;have h:=(vW hk).2.2.2 j hlt;have e:bP k j=(b.toNat:Int):=by rw [bP,hj];rfl
 rwa [e] at h
theorem j3 {k:ByteArray} (hk:bU k=true):(32:UInt8)∉k.data.toList∧(10:UInt8)∉k.data.toList:=by
 constructor
 ·intro h;have:=LJ hk h;revert this;decide
 intro h;have:=LJ hk h;revert this;decide
theorem yW {x:Int} (h:0≤x):(32:UInt8)∉Lib.itoa x∧(10:UInt8)∉Lib.itoa x:=by
 rw [iG x h];constructor
 ·intro h;have:=(sE _ h).1;revert this;decide
 intro h;have:=(sE _ h).1;revert this;decide
theorem PB (l:List UInt8):(10:UInt8)∉dE l:=by
 rw [dE];simp only [aJD,List.mem_append,List.mem_flatMap,aJH,or_false,not_or];refine⟨by decide,?_,by decide⟩;rintro⟨b,_,h⟩;rw [lW] at h;by_cases h1:b=10
 ·rw [aIq h1] at h;revert h;decide
 rw [aIp h1] at h;by_cases h2:b=34∨b=92
 ·rw [aIq h2] at h;simp only [aJD,aJH,or_false] at h;rcases h with h|h
  ·revert h;decide
  exact h1 h.symm
 rw [aIp h2,aIu] at h;exact h1 h.symm
theorem r8 {b:UInt8} (hb:b≠32):∀ {l:List (List UInt8)},(∀ w∈l,b∉w)→b∉bS [32] l
 | [],_,h=>by cases h
 | x::l,hl,h=>by
  rw [bS] at h;rcases List.mem_append.1 h with h|h
  ·exact hl x List.mem_cons_self h
  obtain ⟨y,hy,h⟩:=List.mem_flatMap.1 h;rcases List.mem_append.1 h with h|h
  ·rw [aIu] at h;exact hb h
  exact hl y (List.mem_cons_of_mem _ hy) h
theorem aDX {l:List GTag} (h:∀ t,t∈l→bU t.key=true):(10:UInt8)∉jF l:=by
 intro hm;obtain ⟨t,ht,hm⟩:=List.mem_flatMap.1 hm;rw [HY] at hm;simp only [aJD,List.mem_append] at hm;rcases hm with h1|h1|h1|h1
 ·revert h1;decide
 ·exact(j3 (h t ht)).2 h1
 ·revert h1;decide
 exact PB _ h1
theorem aF3 {o:GObj} (hg:iC o=true):(10:UInt8)∉m7 o:=by
 obtain ⟨hr,ht,htg,hid,_⟩:=k7 hg;obtain ⟨hx,hy,_,_⟩:=Q9 hg;have hkey:∀ t,t∈o.tags→bU t.key=true:=fun t h=>((rL.1 htg).1 t h).1;intro h;rw [m7,jP] at h;simp only [aJD,List.mem_append] at h;rcases h with(h|h|h|h|h)|h
 ·exact(j3 (uE (yU hg)).1).2 h
 ·revert h;decide
 ·exact(j3 hid).2 h
 ·revert h;decide
 ·split at h
  ·simp only [aJD,List.mem_append] at h;rcases h with h|h|h
   ·exact(yW hx.1).2 h
   ·revert h;decide
   exact(yW hy.1).2 h
  simp only [aJD,List.mem_append,aJH,or_false] at h;rcases h with h|h|h
  ·revert h;decide
  ·refine r8 (by decide) (fun w hw=>?_) h;obtain ⟨s,hs,rfl⟩:=List.mem_map.1 hw;exact(j3 (oX hg s hs)).2
  revert h;decide
 exact aDX hkey h
end Go.Proofs.YtlnfjkdacimblaaGreatDoor
