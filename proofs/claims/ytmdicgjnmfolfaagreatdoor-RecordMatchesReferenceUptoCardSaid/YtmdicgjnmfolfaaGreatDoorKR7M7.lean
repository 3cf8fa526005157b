/-
  Parts of the proof: rules of a program logic, contracts, plain laws. Conditions: each theorem's own.
-/
import Derived.Test.YtmdicgjnmfolfaaGreatDoorKR7M6
import Derived.Lib.Bytealg
import Derived.Lib.Strings
import Derived.Lib.AtoiTie
import Derived.Lib.ItoaMem
import Derived.Lib.ItoaLen
set_option linter.unusedVariables false
set_option linter.unusedSimpArgs false
set_option maxRecDepth 100000
set_option maxHeartbeats 8000000
namespace Go.Proofs
open Tryz
theorem vr:type_of% call150:=call150
theorem RK:type_of% call188:=call188
theorem zL:type_of% call234:=call234
theorem vm:type_of% func113:=func113
theorem vk:type_of% func150:=func150
theorem mO:type_of% isAgg182:=isAgg182
theorem iK:type_of% isAgg187:=isAgg187
theorem jJ:type_of% isAgg23:=isAgg23
theorem dj:type_of% ntmps113:=ntmps113
theorem dh:type_of% ntmps150:=ntmps150
theorem nF:type_of% sizeOf182:=sizeOf182
end Go.Proofs
namespace Go.Proofs.YtmdicgjnmfolfaaGreatDoor
open Go.Proofs.Tryz
open Go.Abs
variable{s:ByteArray}{i:Nat}{r:List UInt8}
def encTok(f:GFound):List PV:=[.int .i64 f.kind,.str f.text,.int .i64 f.pos]
def BP(l:List GFound):PV:=.sl (l.map encTok)
def kT(l:List GFound):List (List AV):=l.map fun f=>(encTok f).map AV.pv
theorem wP(l):(kT l).length=l.length:=aCf _
theorem BI(l)(f):kT l++[(encTok f).map AV.pv]=kT (l++[f]):=by rw[kT,kT,List.map_append];rfl
theorem cP(H)(l):∀r∈kT l,∀a∈r,Clo H a:=by intro r c a b;obtain ⟨d,_,rfl⟩:=List.mem_map.1 c;obtain ⟨p,_,rfl⟩:=List.mem_map.1 b;simp
theorem rQ{H}(e:(H.get 921).isSome=true)(f:(H.get 923).isSome=true):∀r∈tA.rows,∀a∈r,Clo H a:=by intro r c a d;simp[tA,bx,aCi]at c;subst c;rw[aCi]at d;subst d;simp[e,f]
theorem rO(H)(s):∀r∈(tS s).rows,∀a∈r,Clo H a:=by intro r c a b;simp[tS,bx,aCi]at c;subst c;rw[aCi]at b;subst b;simp
def jP:List GFound->List GFound->List GFound×Int×Int
 |acc,[]=>(acc,0,0)
 |acc,f::r=>if f.err≠0 then([],f.err,f.pos)else if acc.length=5000 then([],2,f.pos)else jP (acc++[f]) r
def eX(s:ByteArray):List GFound×Int×Int:=if 20000<s.size then([],2,-1)else jP [] (jM s (s.size+1) 0)
def sA(ds:List GFound)(k:Nat):Bool:=match ds[k]? with
 |some f=>decide (f.err=0)&&!decide (k=5000)
 |none=>true
theorem KL{b}:∀ {k},k<=b.length->(∀j,j<k->sA b j=true)->jP [] b=jP (b.take k) (b.drop k)
 |0,_,_=>rfl
 |k+1,c,h=>by
  rw[KL (Nat.le_of_succ_le c) (fun j hj=>h j (by omega))];have d:=List.drop_eq_getElem_cons c;have a:=h k (Nat.lt_succ_self k);rw[sA,aCk c]at a;simp[aCo,aCm,aCy,aCn]at a;have htl:(b.take k).length=k:=by grind
  rw[d,jP,aCd (fun h=>h a.1),aCd (by omega),List.take_add_one,aCk _];rfl
theorem zZ(s):∀(n i),(jM s n i).length<=n
 |0,_=>aCw _
 | n+1,i=>by
  rw[jM]
  split
  ·split
   ·exact Nat.le_succ_of_le (zZ s n _)
   split
   ·exact Nat.succ_le_succ (zZ s n _)
   simp_all
  simp_all
def kL(s:ByteArray)(L:List GFound)(a:AV)(e p:Int):aG:=[(905,⟨L.length,3,187,kT L⟩),(5,bx 1 182 [.osl 905 L.length 0 L.length]),(924,tA),(923,tC),(921,tS s),(4,bx 1 3 [iv p]),(3,bx 1 41 [iv e]),(2,bx 1 182 [a])]
theorem Cx(s)(L)(f)(a)(e p):kL s (L++[f]) a e p=[(905,⟨L.length+1,3,187,kT (L++[f])⟩),(5,bx 1 182 [.osl 905 (L.length+1) 0 (L.length+1)]),(924,tA),(923,tC),(921,tS s),(4,bx 1 3 [iv p]),(3,bx 1 41 [iv e]),(2,bx 1 182 [a])]:=by simp[kL]
def uI:dC:=[(2,.ref 2 0 0 0),(3,.ref 3 0 0 0),(4,.ref 4 0 0 0),(5,.ref 5 0 0 0)]
theorem IH{a}{k}{f}(h:a[k]?=some f):sA a k=(decide (f.err=0)&&!decide (k=5000)):=by rw[sA,h]
theorem Qb(s:ByteArray)(H:aG)(Z:s.size<1099511627776):RC 157 [sv s] (.tup [.pv (BP (eX s).1),iv (eX s).2.1,iv (eX s).2.2]) H:=by
 refine Pu ?_;refine Bd func157 rfl ntmps157<|Sd (kl 2 Pb)<|Dd (kl 3 Qu)<|Zd (kl 4 Qv)<|Sq<|Sd aC<|Dd (gF underlying9)<|Zd gX ?_;refine Cn ?_ ?_<;>intro hc1
 ·have e:eX s=([],2,-1):=by rw[eX,aCe (by have:=aCb hc1;omega)]
  rw[e];refine Sr<|Uu (iP nF)<|Uu (iP sizeOf41)<|Uu (iP sizeOf3)<|Zz<|aB ?_;refine lH (H':=[]) (.inr rfl) rfl (gZ rfl mO rfl rfl rfl rfl) (gZ rfl mI rfl rfl rfl rfl) (gZ rfl isAgg3 rfl rfl rfl rfl) (Fin.wk (by simp) trivial trivial) ?_;exact Qq
 have S:¬ 20000<s.size:=by have:=aCc hc1;omega
 obtain ⟨ds,hds⟩:∃ds,ds=jM s (s.size+1) 0:=⟨_,rfl⟩;have Y:eX s=jP [] ds:=by rw[eX,aCd S,hds]
 refine aA<|Sz (kl 5 wh)<|Sq<|Sd aC<|Zd (kc call197 (YM s _ rfl rfl rfl (eE.ofL ⟨(by simp_all),(by simp_all),(by simp_all),(by simp_all),trivial⟩)))<|aE ?_;refine gC.ent (E':=[(2,.ref 2 0 0 0),(3,.ref 3 0 0 0),(4,.ref 4 0 0 0),(5,.ref 5 0 0 0),(11,.clo 237 [.ref 921 0 0 0,.ref 924 0 0 0])]) (H':=[(905,⟨0,3,187,[]⟩),(5,bx 1 182 [.osl 905 0 0 0]),(924,tA),(923,tC),(921,tS s),(4,bx 1 3 [iv 0]),(3,bx 1 41 [iv 0]),(2,bx 1 182 [.pv (.sl [])])]) ?_ ?_
 ·exact(cQ.nz 905 3 187 rfl rfl ⟨⟨_,rfl,(by exact Nz.same (by(simp;rfl)))⟩,⟨_,rfl,(by exact Nz.same (by(simp;rfl)))⟩,⟨_,rfl,(by exact Nz.same (by(simp;rfl)))⟩,⟨_,rfl,(by exact Nz.same (by(simp;rfl)))⟩,⟨_,rfl,(by exact Nz.same (by(simp;exact⟨rfl,rfl⟩)))⟩,trivial⟩ ⟨⟨_,rfl,rfl,rfl,rfl,(by exact .inr ⟨_,_,rfl,rfl,(by repeat(first|exact trivial|refine⟨(by exact Nz.own),?_⟩))⟩)⟩,⟨_,rfl,rfl,rfl,rfl,(by exact .inl ⟨rfl,(by exact rQ rfl rfl)⟩)⟩,⟨_,rfl,rfl,rfl,rfl,(by exact .inl ⟨rfl,(by exact jN _)⟩)⟩,⟨_,rfl,rfl,rfl,rfl,(by exact .inl ⟨rfl,(by exact rO _ _)⟩)⟩,⟨_,rfl,rfl,rfl,rfl,(by exact .inl ⟨rfl,(by simp_all)⟩)⟩,⟨_,rfl,rfl,rfl,rfl,(by exact .inl ⟨rfl,(by simp_all)⟩)⟩,⟨_,rfl,rfl,rfl,rfl,(by exact .inl ⟨rfl,(by simp_all)⟩)⟩,trivial⟩ trivial)
 have hdl:ds.length<=s.size+1:=by rw[hds];exact zZ s _ _
 obtain ⟨j,hj⟩:∃j,j=xZ (sA ds) ds.length 0:=⟨_,rfl⟩;have hj1:j<=ds.length:=by have:=(EP (sA ds) ds.length 0).2;omega
 have hj2:∀k,k<j->sA ds k=true:=fun k hk=>HR (sA ds) ds.length 0 k (aCw _) (by omega);have X:j<ds.length->sA ds j=false:=fun h=>by have:=wF (sA ds) ds.length 0 (by omega);rwa [<-hj]at this
 have t:=KL hj1 hj2;refine FA (id:=904) (p:=12) uI rfl call237 rfl rfl (by simp[uI];exact⟨rfl,rfl,rfl,rfl⟩) ?_;intro x hx1 A U V W R;have hround:∀(k:Nat) (d:GFound),ds[k]?=some d->k<=j ->
   dI Tryz.prog (.yld 904 0) [.agg ((IZ d).map .pv)] ((904,LR x uI)::(926,tF d)::kL s (ds.take k) (.pv (.sl [])) 0 0) (fun r H'=>r=bv (sA ds k)/\H'=(if sA ds k then(904,LR x uI)::(926,tF d)::kL s (ds.take (k+1)) (.pv (.sl [])) 0 0 else(904,LR (left x .ret) uI)::(926,tF d)::kL s (ds.take k) (.pv (.sl [])) (if d.err≠0 then d.err else 2) d.pos)):=by
  intro k d u D;have hok:=IH u;have hkl:k<ds.length:=(aCj.1 u).1;have htl:(ds.take k).length=k:=by rw[aCt];omega
  have hnx:ds.take (k+1)=ds.take k++[d]:=by rw[List.take_add_one,u];rfl
  refine .inl ⟨904,0,rfl,?_⟩;refine VB [(2,.ref 2 0 0 0),(3,.ref 3 0 0 0),(4,.ref 4 0 0 0),(5,.ref 5 0 0 0),(6,.ref 907 0 0 0)] ((907,tF d)::(926,tF d)::kL s (ds.take k) (.pv (.sl [])) 0 0) hx1 A U V W R rfl rfl rfl ?_ ?_
  ·refine Rd (kl 907 wj)<|Uu (iP HA)<|Zz ?_;exact(cQ.wk (Ea<|Ea<|Ea<|Ea<|Ea<|trivial) (Hc (mL (by simp[uI];exact⟨rfl,rfl,rfl,rfl⟩))<|Hc (yW _ _)<|Hc (yW _ _)<|Hc (cP _ _)<|Ha<|Hc (rQ rfl rfl)<|Hc (jN _)<|Hc (rO _ _)<|Hb<|Hb<|Hb<|trivial) ⟨rfl,rfl,rfl,rfl,rfl,rfl,rfl,rfl,rfl,rfl,trivial⟩)
  refine aE<|Sq<|aE<|Sd (aV sK)<|Dd (bD mI)<|Dd rI<|Da ?_;refine Cn ?_ ?_<;>intro y
  ·have v:d.err≠0:=by have h:=y;rw[aCy,aCn]at h;exact h
   have h0:sA ds k=false:=by rw[hok,decide_eq_false v];rfl
   rw[h0,aCd (by decide),aCe v];refine Sq<|aL follows<|Cr [907] (fun _ h=>fh sK h)<|Cr [907] (fun _ h=>lh mI h)<|Cr [907] (fun _ h=>fh nV h)<|Cr [907] (fun _ h=>fh NU h)<|Cr [907] (fun _ h=>lh isAgg3 h)<|Cp [2] (fun _ h=>sa nF h)<|Cp [3] (fun _ h=>sa sizeOf41 h)<|Cp [4] (fun _ h=>sa sizeOf3 h)<|bF<|Kr<|aB ?_;exact⟨(926,tF d)::kL s (ds.take k) (.pv (.sl [])) d.err d.pos,(cQ.wk trivial (Hc (mL (by simp[uI];exact⟨rfl,rfl,rfl,rfl⟩))<|Hc (yW _ _)<|Hc (cP _ _)<|Ha<|Hc (rQ rfl rfl)<|Hc (jN _)<|Hc (rO _ _)<|Hb<|Hb<|Hb<|trivial) ⟨rfl,rfl,rfl,rfl,rfl,rfl,rfl,rfl,rfl,rfl,trivial⟩),rfl,rfl⟩
  have v:d.err=0:=by have h:=y;rw[Bool.not_eq_false',aCm]at h;exact h
  refine Sd (bD mO)<|Dd (by exact dU rfl cN rfl rfl rfl)<|Dd cF<|Da ?_;refine Cn ?_ ?_<;>intro hc3
  ·have w:k=5000:=by have:=aCb hc3;omega
   have h0:sA ds k=false:=by rw[hok,decide_eq_true v,decide_eq_true w];rfl
   rw[h0,aCd (by decide),aCd (fun h=>h v)];refine Sq<|aL follows<|Cr [907] (fun _ h=>fh nV h)<|Cr [907] (fun _ h=>fh NU h)<|Cr [907] (fun _ h=>lh isAgg3 h)<|Cp [2] (fun _ h=>sa nF h)<|Cp [3] (fun _ h=>sa sizeOf41 h)<|Cp [4] (fun _ h=>sa sizeOf3 h)<|bF<|Kr<|aB ?_;exact⟨(926,tF d)::kL s (ds.take k) (.pv (.sl [])) 2 d.pos,(cQ.wk trivial (Hc (mL (by simp[uI];exact⟨rfl,rfl,rfl,rfl⟩))<|Hc (yW _ _)<|Hc (cP _ _)<|Ha<|Hc (rQ rfl rfl)<|Hc (jN _)<|Hc (rO _ _)<|Hb<|Hb<|Hb<|trivial) ⟨rfl,rfl,rfl,rfl,rfl,rfl,rfl,rfl,rfl,rfl,trivial⟩),rfl,rfl⟩
  have w:¬ k=5000:=by have:=aCc hc3;omega
  have h0:sA ds k=true:=by rw[hok,decide_eq_true v,decide_eq_false w];rfl
  rw[h0,aCe rfl,hnx,Cx];refine aA<|Rd (bD mO)<|Dd (aV nV)<|Dd (kY iK sizeOf187)<|Dd (by exact aN [encTok d] rfl gR rfl rfl rfl rfl rfl (by intro r hr;rw[aCi]at hr;subst hr;rfl))<|Dd (by exact cG (ps:=[encTok d]) rfl gR ov rfl rfl rfl rfl rfl (wP _) rfl (by intro r hr;rw[aCi]at hr;subst hr;rfl) (m:=1) rfl (by omega) rfl (BI (ds.take k) d))<|Uu (iP nF)<|Zz ?_;exact⟨(926,tF d)::[(905,⟨(ds.take k).length+1,3,187,kT (ds.take k++[d])⟩),(5,bx 1 182 [.osl 905 ((ds.take k).length+1) 0 ((ds.take k).length+1)]),(924,tA),(923,tC),(921,tS s),(4,bx 1 3 [iv 0]),(3,bx 1 41 [iv 0]),(2,bx 1 182 [.pv (.sl [])])],(cQ.wk trivial (Hc (mL (by simp[uI];exact⟨rfl,rfl,rfl,rfl⟩))<|Hc (yW _ _)<|Hc (cP _ _)<|Ha<|Hc (rQ rfl rfl)<|Hc (jN _)<|Hc (rO _ _)<|Hb<|Hb<|Hb<|trivial) ⟨rfl,rfl,rfl,rfl,rfl,rfl,rfl,rfl,rfl,rfl,trivial⟩),rfl,rfl⟩
 rcases Nat.lt_or_ge j ds.length with q|hge
 ·obtain ⟨f,hf⟩:=aT q;have hbad:=X q;have Q:ds.drop j=f::ds.drop (j+1):=by
   rw[List.drop_eq_getElem_cons q];rw[aCk q]at hf;cases hf;rfl
  have C:eX s=([],(if f.err≠0 then f.err else 2),(f.pos:Int)):=by
   rw[Y,t,Q,jP]
   split
   ·rfl
   rename_i v;have T:f.err=0:=by
    by_cases h:f.err=0
    ·exact h
    exact absurd h v
   rw[IH hf,decide_eq_true T,Bool.true_and,Bool.not_eq_false',aCm]at hbad;rw[aCe (by rw[aCt];omega)]
  rw[C];refine(JU s (.yld 904 0) (fun k=>if k<=j then(904,LR x uI)::kL s (ds.take k) (.pv (.sl [])) 0 0 else(904,LR (left x .ret) uI)::kL s (ds.take j) (.pv (.sl [])) (if f.err≠0 then f.err else 2) f.pos) (sA ds) (j+1) Z (fun k=>?_) (fun k=>?_) (fun k=>?_) (fun k=>?_) (fun k=>?_) (fun k=>?_) (by rw[<-hds];exact q) (fun k hk=>hj2 k (by omega)) (.inr ⟨Nat.succ_pos _,by rw[Nat.add_sub_cancel];exact hbad⟩) ?_).mono ?_
  ·split<;>rfl
  ·split<;>rfl
  ·split<;>rfl
  ·split<;>rfl
  ·split
   ·exact(eE.ofL ⟨(by exact mL (by simp[uI];exact⟨rfl,rfl,rfl,rfl⟩)),(by exact cP _ _),(by(simp;rfl)),(by exact rQ rfl rfl),(by exact jN _),(by exact rO _ _),(by(simp;done)),(by(simp;done)),(by(simp;done)),trivial⟩)
   exact(eE.ofL ⟨(by exact mL (by simp[uI];exact⟨rfl,rfl,rfl,rfl⟩)),(by exact cP _ _),(by(simp;rfl)),(by exact rQ rfl rfl),(by exact jN _),(by exact rO _ _),(by(simp;done)),(by(simp;done)),(by(simp;done)),trivial⟩)
  ·split<;>(simp;rfl)
  ·rw[<-hds];intro k d u hk;have hr:=hround k d u (by omega);rw[aCe (by omega)];by_cases D:k=j
   ·subst D;rw[hf]at u;cases u;rw[hbad,aCd (by decide)]at hr;rw[aCd (by omega),hbad];exact dI.congrG hr (fun j=>pM (by decide) j) (fun j=>pM (by decide) j)
   have hok:=hj2 k (by omega);rw[hok,aCe rfl]at hr;rw[aCe (by omega),hok];exact dI.congrG hr (fun j=>pM (by decide) j) (fun j=>pM (by decide) j)
  rintro r H' ⟨rfl,rfl⟩;rw[aCd (by omega)];refine⟨left x .ret,_,rfl,by simp[left],rfl,fun z=>?_⟩;show LG _ _ _ _ _ _ _;refine lH (H':=[]) (.inr rfl) rfl (gZ rfl mO rfl rfl rfl rfl) (gZ rfl mI rfl rfl rfl rfl) (gZ rfl isAgg3 rfl rfl rfl rfl) (Fin.wk (by simp) trivial trivial) ?_;exact Qq
 have P:j=ds.length:=Nat.le_antisymm hj1 hge;rw[P,List.take_length,List.drop_length]at t;rw[Y,t,jP];refine(JU s (.yld 904 0) (fun k=>(904,LR x uI)::kL s (ds.take k) (.pv (.sl [])) 0 0) (sA ds) ds.length Z (fun k=>rfl) (fun k=>rfl) (fun k=>rfl) (fun k=>rfl) (fun k=>(eE.ofL ⟨(by exact mL (by simp[uI];exact⟨rfl,rfl,rfl,rfl⟩)),(by exact cP _ _),(by(simp;rfl)),(by exact rQ rfl rfl),(by exact jN _),(by exact rO _ _),(by(simp;done)),(by(simp;done)),(by(simp;done)),trivial⟩)) (fun k=>by simp;rfl) (by rw[<-hds];exact aCl _) (fun k hk=>hj2 k (by omega)) (.inl (by rw[<-hds])) ?_).mono ?_
 ·rw[<-hds];intro k d u hk;have hr:=hround k d u (by omega);have hok:=hj2 k (by omega);rw[hok,aCe rfl]at hr;rw[hok];exact dI.congrG hr (fun j=>pM (by decide) j) (fun j=>pM (by decide) j)
 rintro r H' ⟨rfl,rfl⟩;rw[List.take_length];refine⟨x,_,rfl,by rw[hx1];decide,rfl,fun z=>?_⟩;rw[A];refine Sd (bD mO)<|Uu (iP nF)<|Uu (iP sizeOf41)<|Uu (iP sizeOf3)<|Zz<|aB ?_;refine lH (H':=[]) (.inr rfl) rfl (gZ rfl mO rfl rfl rfl rfl) (gZ rfl mI rfl rfl rfl rfl) (gZ rfl isAgg3 rfl rfl rfl rfl) (Fin.fz (r':=.tup [.pv (BP ds),iv 0,iv 0]) (id:=905) (ob:=⟨ds.length,3,187,kT ds⟩) (ds.map encTok) rfl (by rw[List.map_map];rfl) (.tup rfl (cA (.osl (qs:=ds.map encTok) (by rw[aCx,List.drop_zero];exact List.take_of_length_le (Nat.le_of_eq (aCf encTok)))) (cA (.same (by simp)) (cA (.same (by simp)) mD)))) rfl trivial trivial) ?_;exact Qq
def DF:List GFound->Option (List GTag)
 | []=>some []
 |a::_::c::r=>(DF r).map fun l=>⟨a.text,c.text⟩::l
 |_=>none
def SZ(l:List GFound)(k:Nat):GTag:=⟨((l[3*k]?).map GFound.text).getD sNil,((l[3*k+2]?).map GFound.text).getD sNil⟩
def eZ(l:List GFound)(k:Nat):List GTag:=(List.range k).map (SZ l)
theorem D1(l)(k):eZ l (k+1)=eZ l k++[SZ l k]:=by rw[eZ,List.range_succ,List.map_append];rfl
theorem F0(l)(k):(eZ l k).length=k:=by rw[eZ,aCf,List.length_range]
def rM(l:List GTag):List (List AV):=l.map fun t=>(bM t).map AV.pv
theorem F9(l):(rM l).length=l.length:=aCf _
theorem GA(l)(t):rM l++[(bM t).map AV.pv]=rM (l++[t]):=by rw[rM,rM,List.map_append];rfl
theorem kC(H)(l):∀r∈rM l,∀a∈r,Clo H a:=by intro r c a b;obtain ⟨d,_,rfl⟩:=List.mem_map.1 c;obtain ⟨p,_,rfl⟩:=List.mem_map.1 b;simp
theorem GO:∀(r acc),(jP acc r).1.length<=acc.length+r.length
 | [],acc=>aCl _
 |f::r,acc=>by
  rw[jP]
  split
  ·simp_all
  split
  ·simp_all
  have:=GO r (acc++[f]);rw[aCg,List.length_singleton]at this;rw[aCh];omega
theorem vT(s)(h:s.size<1099511627776):(eX s).1.length<549755813888:=by
 unfold eX
 split
 ·decide
 have a:=GO (jM s (s.size+1) 0) [];have h2:=zZ s (s.size+1) 0;rw[List.length_nil]at a;omega
theorem bC(s:ByteArray):s.data.toList.length=s.size:=rfl
theorem pD{a b:ByteArray}(h:a.data.toList=b.data.toList):a=b:=by cases a with|mk a=>simp_all
theorem jS(s:ByteArray)(i j):(s.extract i j).data.toList=(s.data.toList.drop i).take (j - i):=by simp
theorem oZ{s}{i}{c}{r}(h:s.data.toList.drop i=c::r):i<s.size/\bH s i=(c.toNat)/\s.data.toList.drop (i+1)=r:=by obtain ⟨a,b⟩:=P5 h;refine⟨by rw[<-bC];grind,by rw[bH,a];rfl,b⟩
theorem G4{s}{i}{c}{r}(h:s.data.toList.drop i=c::r):mG s i=xN (c.toNat):=by obtain ⟨a,b,_⟩:=oZ h;rw[mG,aCe a,b]
theorem pk{s}{i}(h:s.data.toList.drop i=[]):mG s i=0:=by have:=List.drop_eq_nil_iff.1 h;rw[bC]at this;rw[mG,aCd (by omega)]
theorem eY{i}{w r}(h:s.data.toList.drop i=w++r):s.data.toList.drop (i+w.length)=r:=by rw[<-List.drop_drop,h,List.drop_left]
theorem oy{k:Nat}{w r}{c:UInt8}(h:s.data.toList.drop i=w++r)(b:w[k]?=some c):s.data.toList.drop (i+k)=c::((w.drop (k+1))++r):=by
 have a:=(aCj.1 b).1;have e:w=w.take k++c::w.drop (k+1):=by
  conv=>lhs;rw[<-List.take_append_drop k w]
  rw[List.drop_eq_getElem_cons a,(aCj.1 b).2]
 have f:s.data.toList.drop i=w.take k++(c::w.drop (k+1)++r):=by
  grind
 have d:=eY f;rw[aCt,Nat.min_eq_left (by omega)]at d;exact d
theorem yR{i}{w r}(h:s.data.toList.drop i=w++r):s.extract i (i+w.length)=⟨w.toArray⟩:=by
 refine pD ?_
 simp_all
theorem uL{i}:(s.extract i s.size).data.toList=s.data.toList.drop i:=by rw[jS];exact List.take_of_length_le (by simp)
theorem B2{k}(h:bS k=true):0<k.size/\k.size<=24/\xN (bH k 0)=3/\∀j,j<k.size->(xN (bH k j)=3\/xN (bH k j)=4\/xN (bH k j)=5):=by
 rw[bS,aCo,aCo,aCy,aCy,List.any_eq_false,aCn,aCm]at h;obtain ⟨i,l,h3⟩:=h;have a:0<k.size:=by
  rcases Nat.eq_zero_or_pos k.size with e|e
  ·refine absurd (pD ?_) l
   simp_all
  exact e
 have f:=fun j b=>by
  have:=i j (List.mem_range.2 b)
  simpa using this
 refine⟨a,by omega,?_,fun j b=>?_⟩
 ·have:=f 0 a
  simpa[cb]using this
 have:=f j b;rw[cb]at this;by_cases c:xN (bH k j)=3
 ·exact .inl c
 by_cases g:xN (bH k j)=4
 ·exact .inr (.inl g)
 by_cases d:xN (bH k j)=5
 ·exact .inr (.inr d)
 simp[c,g,d]at this
theorem Mc{k}{j}(h:j<k.size):∃c,k.data.toList[j]?=some c/\bH k j=(c.toNat):=by exact⟨_,aCk h,by rw[bH,aCk h];rfl⟩
theorem qm{k:ByteArray}(h:s.data.toList.drop i=k.data.toList++r)(w:bS k=true)(x:∀c r',r=c::r'->xN (c.toNat:Int)≠3/\xN (c.toNat:Int)≠4/\xN (c.toNat:Int)≠5):
  eN s i=(some ⟨1,k,i,0⟩,i+k.size):=by
 obtain ⟨a,hle,v,b⟩:=B2 w;have g:∀j,j<k.size->mG s (i+j)=xN (bH k j):=fun j u=>by
  obtain ⟨c,p,e⟩:=Mc u;rw[G4 (oy h p),e]
 have hlen:=by
  have:=congrArg List.length h;rw[aCu,aCg,bC,bC]at this;omega
 have l:mG s i=3:=by
  have:=g 0 a;rw[Nat.add_zero,v]at this;exact this
 have d:BD s i=i+k.size:=by
  refine yG (uE s) (by omega) (by omega) (fun j h1 h2=>?_) ?_
  ·have:=g (j - i) (by omega);rw[show i+(j - i)=j by omega]at this;rw[uE,this];rcases b (j - i) (by omega)with e|e|e<;>rw[e]<;>rfl
  left;have n:=eY h;rw[bC]at n;cases r with
  |nil=>rw[uE,pk n];rfl
  |cons c r' =>
   obtain ⟨t,o,q⟩:=x c r' rfl;rw[uE,G4 n,decide_eq_false t,decide_eq_false o,decide_eq_false q];rfl
 have f:=yR h;rw[bC]at f;have m:(⟨k.data.toList.toArray⟩:ByteArray)=k:=pD (by simp);rw[eN,aCd (by omega),aCd (by omega),aCe l,d,zE,f,m,aCd (by omega)]
theorem Jc{s}{i}{r}(h:s.data.toList.drop i=32::r):eN s i=(none,i+1):=by
 have a:mG s i=1:=by rw[G4 h];rfl
 rw[eN,aCe a]
theorem YK:∀(v r),nG (v.flatMap pN++34::r)=some (v,(v.flatMap pN).length+1)
 | [],r=>BF
 | b::v,r=>by
  have d:=YK v r;rw[List.flatMap_cons,List.append_assoc];by_cases a:b=10
  ·have e:pN b=[92,110]:=by rw[pN,aCe a]
   rw[e];show nG (92::110::(v.flatMap pN++34::r))=_;rw[tT,d,a];show some _=some _
   grind
  by_cases c:b=34\/b=92
  ·have e:pN b=[92,b]:=by rw[pN,aCd a,aCe c]
   have g:sD b=some b:=by
    rcases c with e|e<;>subst e<;>rfl
   rw[e];show nG (92::b::(v.flatMap pN++34::r))=_;rw[tT,d,g]
   grind
  have e:pN b=[b]:=by rw[pN,aCd a,aCd c]
  have f:b≠34/\b≠92:=⟨fun e=>c (.inl e),fun e=>c (.inr e)⟩;rw[e];show nG (b::(v.flatMap pN++34::r))=_;rw[BG f.1 a f.2,d]
  grind
theorem HN{v:ByteArray}(h:s.data.toList.drop i=cX v.data.toList++r):eN s i=(some ⟨3,v,i,0⟩,i+(cX v.data.toList).length):=by
 have b:s.data.toList.drop i=34::(v.data.toList.flatMap pN++34::r):=by rw[h,cX];simp
 have c:mG s i=7:=by rw[G4 b];rfl
 have d:zF (s.extract i s.size)=(v,(((v.data.toList.flatMap pN).length+1+1:Nat):Int)):=by
  rw[zF,uL,b,List.drop_succ_cons,List.drop_zero,YK]
 have e:DY s i=(⟨3,v,i,0⟩,i+(cX v.data.toList).length):=by
  rw[DY,d,aCe (by omega)];congr 1;congr 1;rw[aCq,cX,aCh,aCg,List.length_singleton]
 rw[eN,aCd (by omega),aCd (by omega),aCd (by omega),aCd (by omega),aCe c,e]
def PZ(t:GTag):List UInt8:=t.key.data.toList++61::cX t.val.data.toList
theorem KK(t):(iH t).data.toList=PZ t:=by rw[iH,PZ];simp
def mR(l:List GTag):List UInt8:=l.flatMap fun t=>32::PZ t
def RM(T:List GFound)(l:List GTag):Prop:=DF T=some l/\(∀f,f∈T->f.err=0)/\T.length=3*l.length
theorem RM.cons{T}{l}{a b c}(h:RM T l)(ha:a.err=0)(hb:b.err=0)(hc:c.err=0):RM (a::b::c::T) (⟨a.text,c.text⟩::l):=by
 obtain ⟨d,h2,h3⟩:=h;refine⟨by rw[DF,d];rfl,fun f hf=>?_,by grind⟩
 grind
theorem SX(t)(l):(UF (t::l)).data.toList=PZ t++mR l:=by show bU _ (bs ((t::l).map _))=_;rw[bs,List.map_map];show (iH t).data.toList++_=_;rw[KK,List.flatMap_map];congr 1;congr 1;funext x;show [32]++(iH x).data.toList=_;rw[KK];rfl
theorem KM:∀(T acc),(∀f,f∈T->f.err=0)->acc.length+T.length<=5000->jP acc T=(acc++T,0,0)
 | [],acc,_,_=>by rw[jP,List.append_nil]
 |f::T,acc,h,b=>by
  rw[aCh]at b;rw[jP,aCd (fun e=>e (h f List.mem_cons_self)),aCd (by omega),KM T _ (fun g a=>h g (List.mem_cons_of_mem _ a)) (by grind),List.append_assoc];rfl
end Go.Proofs.YtmdicgjnmfolfaaGreatDoor
namespace Go.Abs
def dP(c:UInt8):List UInt8->List (List UInt8)
 | []=>[[]]
 |b::l=>if b=c then[]::dP c l else((b::(dP c l).headD [])::(dP c l).tail)
theorem qB(c)(l):0<(dP c l).length:=by
 cases l with
 |nil=>exact Nat.zero_lt_one
 |cons b l=>rw[dP];all_goals grind
theorem qW{c}:∀ {w},c∉w->dP c w=[w]
 | [],_=>rfl
 |b::w,h=>by
  rw[aCr,not_or]at h;rw[dP,aCd (fun e=>h.1 e.symm),qW h.2];rfl
theorem jI{c}{l}:∀ {w},c∉w->dP c (w++c::l)=w::dP c l
 | [],_=>by rw[List.nil_append,dP,aCe rfl]
 |b::w,h=>by
  rw[aCr,not_or]at h;rw[List.cons_append,dP,aCd (fun e=>h.1 e.symm),jI h.2];rfl
theorem wQ(c):∀l,(dP c l).length=l.count c+1
 | []=>rfl
 |b::l=>by
  have a:=wQ c l;rw[dP];by_cases h:b=c
  ·rw[aCe h,aCh,a,h,List.count_cons_self]
  rw[aCd h,aCh,List.length_tail,List.count_cons_of_ne h];omega
def qI:List UInt8->List (List UInt8)
 | []=>[]
 |b::l=>if b=10 then[10]::qI l else match qI l with
  | []=>[[b]]
  |w::r=>(b::w)::r
theorem GN{l}:∀ {w},10∉w->qI (w++10::l)=(w++[10])::qI l
 | [],_=>rfl
 |b::w,h=>by
  rw[aCr,not_or]at h;rw[List.cons_append,qI,aCd (fun e=>h.1 e.symm),GN h.2];rfl
theorem LW:∀ {w},10∉w->w≠[]->qI w=[w]
 | [],_,h=>absurd rfl h
 |b::w,h,_=>by
  rw[aCr,not_or]at h;rw[qI,aCd (fun e=>h.1 e.symm)];by_cases e:w=[]
  ·subst e;rfl
  rw[LW h.2 e]
theorem FY:∀ {ls:List _},(∀w∈ls,10∉w)->qI (ls.flatMap (·++[10]))=ls.map (·++[10])
 | [],_=>rfl
 |w::ls,h=>by
  rw[List.flatMap_cons,List.append_assoc,List.singleton_append,GN (h w List.mem_cons_self),FY fun x a=>h x (List.mem_cons_of_mem _ a)];rfl
theorem xG{c}:∀ {l},Lib.indexByte l c = -1↔c∉l
 | []=>by simp[Lib.indexByte]
 |b::l=>by
  have ih:=xG (c:=c) (l:=l);have hg:=Lib.indexByte_ge l c;rw[Lib.indexByte];all_goals grind
theorem xI{c}:∀ {l},Lib.indexByte l c ≠ -1->∃w r,l=w++c::r/\c∉w/\Lib.indexByte l c=(w.length)
 | [],h=>absurd rfl h
 |b::l,h=>by
  by_cases e:b=c
  ·subst e;exact⟨[],l,rfl,by simp,by simp[Lib.indexByte]⟩
  have d:Lib.indexByte l c ≠ -1:=fun e2=>h (by rw[Lib.indexByte];simp_all);obtain ⟨w,r,h1,h2,h3⟩:=xI d;refine⟨b::w,r,by simp_all,by grind,?_⟩;rw[Lib.indexByte]
  simp_all
end Go.Abs
namespace Go.Abs
open Go.Lib
theorem pb{d}(h:d<10):digitVal (UInt8.ofNat (48+d))=some d:=by
 have e:(UInt8.ofNat (48+d)).toNat=48+d:=by rw[UInt8.toNat_ofNat'];omega
 rw[digitVal,aCe (by omega)];congr 1;omega
theorem CI{b}{d}(a:digitVal b=some d):∀(l) (acc),decFrom acc (l++[b])=(decFrom acc l).map fun n=>n*10+d
 | [],acc=>by
  simp[decFrom,a]
 |c::l,acc=>by
  rw[List.cons_append,decFrom,decFrom];cases h:digitVal c with
  |none=>rfl
  |some x=>exact CI a l _
theorem sL(u:Nat):decDigits u≠[]:=by
 rw[decDigits]
 split
 ·simp
 simp
theorem oN(u):decFrom 0 (decDigits u)=some u:=by
 induction u using Nat.strongRecOn with
 |ind u ih =>
  rw[decDigits]
  split
  ·rename_i h;rw[<-List.nil_append [_],CI (pb h)];simp[decFrom]
  rw[CI (pb (Nat.mod_lt u (by simp)))]
  grind
theorem qL{b}:∀(u),b∈decDigits u->48<=b.toNat/\b.toNat<=57:=by
 intro u
 induction u using Nat.strongRecOn with
 |ind u ih =>
  rw[decDigits]
  split
  ·intro a;rw[aCi]at a;subst a;rw[UInt8.toNat_ofNat'];omega
  intro a;rcases List.mem_append.1 a with a|a
  ·grind
  rw[aCi]at a;subst a;rw[UInt8.toNat_ofNat'];omega
theorem jL(n)(h:0<=n):itoa n=decDigits n.toNat:=by rw[itoa,aCd (by omega)]
theorem vc{n}(h:0<=n):atoi (itoa n)=some n:=by
 rw[jL n h];obtain ⟨u,a⟩:∃u,u=n.toNat:=⟨_,rfl⟩;rw[<-a];have hd:=oN u;have hm:∀b∈decDigits u,48<=b.toNat/\b.toNat<=57:=fun b=>qL u;cases e:decDigits u with
 |nil=>exact absurd e (sL u)
 |cons b r =>
  have c:decNat (b::r)=some u:=by rw[decNat];simp_all
  unfold atoi;simp[c];have h43:b≠43:=fun h=>by simp_all
  split<;>simp_all
  omega
theorem dF:∀ {k u},u<10 ^ k->0<k->(decDigits u).length<=k
 |0,_,_,h=>absurd h (Nat.lt_irrefl 0)
 | k+1,u,h,_=>by
  rw[decDigits]
  split
  ·simp
  rw[aCg,List.length_singleton];have b:0<k:=by
   grind
  have a:u / 10<10 ^ k:=by omega
  have:=dF a b;omega
theorem CN{n}(h:0<=n)(h2:n<1000000000000000000):atoiAll (itoa n)=.ok n:=by
 have a:(itoa n).length<=18:=by
  rw[jL n h];exact dF (by omega) (by simp)
 rw[atoiAll_short _ a,vc h];rfl
end Go.Abs
namespace Go.Proofs.YtmdicgjnmfolfaaGreatDoor
open Go.Proofs.Tryz
open Go.Abs
variable{s:ByteArray}{o:GObj}
def lF(o:GObj):List UInt8:=(dZ o.kind).data.toList++32::(o.id.data.toList++32::(if o.kind=1 then Lib.itoa o.x++32::Lib.itoa o.y else 40::(bU [32] (bs o.refs)++[41])))
def rG(o:GObj):List UInt8:=lF o++mR o.tags
def C1(o:GObj):ByteArray:=⟨(rG o).toArray⟩
def eS(o:GObj):ByteArray×Int:=if nA o then(if 0<o.tags.length/\(jH o.tags).2≠0 then(sNil,(jH o.tags).2)else if 20000<(C1 o).size then(sNil,2)else(C1 o,0))else(sNil,1)
def Vr(s:ByteArray):Int:=match Lib.atoiAll s.data.toList with
 |.ok v=>v
 |.range=>Lib.atoiSat s.data.toList
 |_=>0
def IL:GFound:=⟨0,sNil,0,0⟩
def uT(T:List GFound):List GFound:=T++List.replicate (4 - T.length) IL
def CW(s:ByteArray):Int:=if s=dZ 5 then 5 else if s=dZ 4 then 4 else if s=dZ 3 then 3 else if s=dZ 2 then 2 else if s=dZ 1 then 1 else 0
def jQ(f:GFound):Bool:=decide (f.text=⟨#[41]⟩)&&decide (f.kind=4)
def qU:List GFound->List GTag
 |a::_::c::r=>⟨a.text,c.text⟩::qU r
 |_=>[]
theorem OC:∀ {T} {l},DF T=some l->qU T=l
 | [],l,h=>by cases h;rfl
 | [_],l,h=>by rw[DF]at h<;>(simp_all)
 | [_,_],l,h=>by rw[DF]at h<;>(simp_all)
 | a::b::c::r,l,h=>by
  rw[DF]at h;cases e:DF r with
  |none=>simp_all
  |some q =>
   rw[e]at h;cases h;rw[qU,OC e]
def sG(T:List GFound):GObj :=if CW ((uT T).getD 0 IL).text=1 then⟨((uT T).getD 1 IL).text,1,Vr ((uT T).getD 2 IL).text,Vr ((uT T).getD 3 IL).text,[],qU ((uT T).drop 4)⟩
 else if zD jQ (uT T)<3 then zObj
 else⟨((uT T).getD 1 IL).text,CW ((uT T).getD 0 IL).text,0,0,(((uT T).take (zD jQ (uT T)).toNat).drop 3).map GFound.text,qU ((uT T).drop ((zD jQ (uT T)).toNat+1))⟩
def EC(s:ByteArray)(i:Nat)(r:List UInt8)(T:List GFound):Prop:=∀n,r.length<=n->jM s n i=T
theorem CO{s}{i j}{w r}{f}{T}(d:eN s i=(some f,j))(c:f.err=0)(hi:i<s.size)(hw:0<w.length)(b:EC s j r T):EC s i (w++r) (f::T):=by intro n a;rw[aCg]at a;obtain ⟨m,rfl⟩:∃m,n=m+1:=⟨n - 1,by omega⟩;rw[jM,aCe hi,d];show f::(if f.err=0 then jM s m j else[])=_;rw[aCe c,b m (by omega)]
theorem tP{s}{i}{r}{T}(h:s.data.toList.drop i=32::r)(b:EC s (i+1) r T):EC s i (32::r) T:=by intro n a;rw[aCh]at a;obtain ⟨m,rfl⟩:∃m,n=m+1:=⟨n - 1,by omega⟩;rw[jM,aCe (oZ h).1,Jc h];exact b m (by omega)
theorem all_nil{s}{i}(h:s.data.toList.drop i=[]):EC s i [] []:=by
 intro n _;have a:¬ i<s.size:=by
  have:=List.drop_eq_nil_iff.1 h;rw[bC]at this;omega
 cases n with
 |zero=>rfl
 |succ n=>rw[jM,aCd a]
theorem qG{i}{w r}(h:s.data.toList.drop i=w++r)(hw:0<w.length):i<s.size:=by
 rcases Nat.lt_or_ge i _ with a|a
 ·exact a
 rw[List.drop_eq_nil_of_le (by simp_all)]at h;have:=congrArg List.length h;rw[List.length_nil,aCg]at this;omega
def FP(r:List UInt8):Prop:=∀c r',r=c::r'->xN (c.toNat:Int)≠3/\xN (c.toNat:Int)≠4/\xN (c.toNat:Int)≠5
theorem ql:FP []:=fun c r' h=>by cases h
theorem lC(r):FP (32::r):=fun c r' h=>by cases h;exact⟨by decide,by decide,by decide⟩
theorem HM(r):FP (41::r):=fun c r' h=>by cases h;exact⟨by decide,by decide,by decide⟩
theorem mH{s k}{i}{r}{T}(h:s.data.toList.drop i=k.data.toList++r)(a:bS k=true)(c:FP r)(b:EC s (i+k.size) r T):EC s i (k.data.toList++r) (⟨1,k,i,0⟩::T):=by have hp:=(B2 a).1;exact CO (qm h a c) rfl (qG h (by simp_all)) (by simp_all) b
theorem FC{s}{i}{r}{c}{T}(h:s.data.toList.drop i=c::r)(a:xN (c.toNat)=6)(b:EC s (i+1) r T):EC s i (c::r) (⟨4,⟨#[c]⟩,i,0⟩::T):=by
 have ha:mG s i=6:=by rw[G4 h];exact a
 have hx:=yR (w:=[c]) h;have d:eN s i=(some ⟨4,⟨#[c]⟩,i,0⟩,i+1):=by
  rw[eN]
  simp_all
 exact CO (w:=[c]) d rfl (oZ h).1 Nat.zero_lt_one b
theorem Nb:∀b:UInt8,48<=b.toNat->b.toNat<=57->xN (b.toNat)=4:=by
 intro b a c;have h:∀n:Fin 256,48<=n.val->n.val<=57->xN (n.val)=4:=by decide +kernel
 exact h _ a c
theorem NZ{i:Nat}{x:Int}{r:List UInt8}{T:List GFound}(h:s.data.toList.drop i=Lib.itoa x++r)(A:0<=x)(v:x<10000000)(t:FP r)(w:EC s (i+(Lib.itoa x).length) r T):EC s i (Lib.itoa x++r) (⟨2,aY x,i,0⟩::T):=by
 have l:=jL x A;have e:0<(Lib.itoa x).length:=by rw[l];exact List.length_pos_iff.2 (sL _)
 have hle:(Lib.itoa x).length<=7:=by rw[l];exact dF (by omega) (by decide)
 have f:∀j,j<(Lib.itoa x).length->mG s (i+j)=4:=fun j p=>by
  have q:=aCk p;rw[G4 (oy h q)];have o:(Lib.itoa x)[j]∈Lib.decDigits x.toNat:=by simp_all
  obtain ⟨u,z⟩:=qL _ o;exact Nb _ u z
 have hlen:i+(Lib.itoa x).length<=s.size:=by
  have:=congrArg List.length h;rw[aCu,aCg,bC]at this;have:=qG h e;omega
 have k:mG s i=4:=f 0 e;have m:=eY h;have d:mG s (i+(Lib.itoa x).length)≠3/\mG s (i+(Lib.itoa x).length)≠4/\mG s (i+(Lib.itoa x).length)≠5:=by
  cases r with
  |nil=>rw[pk m];omega
  |cons c y=>rw[G4 m];exact t c y rfl
 have g:GX s i=i+(Lib.itoa x).length:=by
  refine yG (ML s) (by omega) (by omega) (fun j v h2=>?_) (.inl ?_)
  ·have:=f (j - i) (by omega);rw[show i+(j - i)=j by omega]at this;rw[ML,this];rfl
  rw[ML,decide_eq_false d.2.1]
 have n:eN s i=(some ⟨2,aY x,i,0⟩,i+(Lib.itoa x).length):=by
  rw[eN,aCd (by omega),aCd (by omega),aCd (by omega),aCe k,g,FZ,yR h,decide_eq_false d.1,decide_eq_false d.2.2,decide_eq_false (by omega)];rfl
 exact CO n rfl (qG h e) e w
theorem RG{s}:∀(l) (i),(∀t,t∈l->bS t.key=true)->s.data.toList.drop i=mR l->∃T,EC s i (mR l) T/\RM T l
 | [],i,_,h=>⟨[],all_nil h,rfl,(fun f r=>by cases r),rfl⟩
 | t::l,i,g,h=>by
  have k:mR (t::l)=32::(t.key.data.toList++61::(cX t.val.data.toList++mR l)):=by
   rw[mR,List.flatMap_cons,PZ];simp[mR]
  rw[k]at h |-;have b:=(oZ h).2.2;have j:=eY b;have a:=(oZ j).2.2;have v:=eY a;obtain ⟨T,o,u⟩:=RG l _ (fun t p=>g t (List.mem_cons_of_mem _ p)) v;have d:0<(cX t.val.data.toList).length:=by rw[cX,aCh];omega
  have q:=CO (HN a) rfl (qG a d) d o;have n:=FC j (rfl) q;have m:=mH b (g t List.mem_cons_self) (fun c r' e=>by cases e;exact⟨by decide,by decide,by decide⟩) n;exact⟨_,tP h m,RM.cons u rfl rfl rfl⟩
theorem E4{o}(h:nA o=true):o.kind=1\/o.kind=2\/o.kind=3\/o.kind=4\/o.kind=5:=by have:=tv h;omega
theorem zU{k}(h:k=1\/k=2\/k=3\/k=4\/k=5):bS (dZ k)=true/\CW (dZ k)=k:=by
 rcases h with rfl|rfl|rfl|rfl|rfl
 ·exact⟨rfl,rfl⟩
 ·exact⟨rfl,rfl⟩
 ·exact⟨rfl,rfl⟩
 ·exact⟨rfl,rfl⟩
 exact⟨rfl,rfl⟩
theorem tD{o}(h:nA o=true):∀s∈o.refs,bS s=true:=fun s d=>by
 rw[nA,aCo,aCo,aCy,aCy]at h;obtain ⟨i,c⟩:=aDA.1 d;have b:=(aCj.1 c).1;have a:=List.any_eq_false.1 h.2.1 i (List.mem_range.2 b);rw[tR,c]at a;simp[KR,Bool.or_eq_true,not_or,Bool.not_eq_true,Bool.not_eq_false']at a;exact a.2
theorem cg{o}(h:nA o=true):(0<=o.x/\o.x<1048576)/\(0<=o.y/\o.y<1048576)/\(o.kind=1->o.refs=[])/\(o.kind≠1->o.x=0/\o.y=0):=by
 rw[nA,aCo]at h;unfold QB at h
 split at h
 ·rename_i a;rw[W4]at h;simp only[aCo,aCm]at h;refine⟨by omega,by omega,fun _=>List.length_eq_zero_iff.1 (by omega),fun e=>absurd a e⟩
 rename_i a
 split at h<;>simp[aCo,aCm]at h<;>exact⟨by omega,by omega,fun e=>absurd e a,fun _=>by omega⟩
theorem RE{s:ByteArray}:∀(l:List ByteArray) (i:Nat) (r:List UInt8) (T:List GFound),(∀k,k∈l->bS k=true)->s.data.toList.drop i=l.flatMap (fun k=>32::k.data.toList)++r->FP r ->
  EC s (i+(l.flatMap fun k=>32::k.data.toList).length) r T->∃R:List GFound,EC s i (l.flatMap (fun k=>32::k.data.toList)++r) (R++T)/\R.map GFound.text=l/\∀f∈R,f.kind=1/\f.err=0
 | [],i,r,T,_,h,_,d=>⟨[],d,rfl,(fun f o=>by cases o)⟩
 | k::l,i,r,T,m,h,j,d=>by
  have q:(k::l).flatMap (fun k=>32::k.data.toList)++r=32::(k.data.toList++(l.flatMap (fun k=>32::k.data.toList)++r)):=by
   simp_all
  have g:((k::l).flatMap fun k=>32::k.data.toList).length=1+k.size+(l.flatMap fun k=>32::k.data.toList).length:=by
   rw[List.flatMap_cons,aCg,aCh,bC];omega
  rw[q]at h |-;have n:=(oZ h).2.2;have p:=eY n;rw[bC]at p;obtain ⟨R,t,e1,e2⟩:=RE l (i+1+k.size) r T (fun x u=>m x (List.mem_cons_of_mem _ u)) p j (by rw[g]at d;rw[show i+1+k.size+(l.flatMap _).length=i+(1+k.size+(l.flatMap fun k=>32::k.data.toList).length)by omega];exact d);have e:FP (l.flatMap (fun k=>32::k.data.toList)++r):=by
   cases l with
   |nil=>exact j
   |cons a l=>exact lC _
  refine⟨⟨1,k,i+1,0⟩::R,tP h (mH n (m k List.mem_cons_self) e t),by simp_all,fun f o=>?_⟩
  grind
theorem xE(k)(l):bU [32] (bs (k::l))=k.data.toList++l.flatMap (fun k=>32::k.data.toList):=by rw[bs,List.map_cons,bU,List.flatMap_map];rfl
theorem Dq{α:Type}{p}{c:α}{B}:∀ {A},(∀a,a∈A->p a=false)->p c=true->zD p (A++c::B)=(A.length):=by
 intro A hA hc;have h:(A++c::B).findIdx? p=some A.length:=by
  grind
 rw[zD,h]
theorem OH(l):FP (mR l):=by
 cases l with
 |nil=>exact ql
 |cons t l=>exact lC _
theorem cj{x}(h:0<=x)(b:x<1000000000000000000):Vr (aY x)=x:=by show (match Lib.atoiAll (Lib.itoa x)with|.ok v=>v|.range=>_|_=>0)=x;rw[CN h b]
theorem TB{o}(h:nA o=true)(d:o.kind≠1):∃k l,o.refs=k::l:=by
 have a:=E4 h;rw[nA,aCo,aCy,LZ,uV]at h;have c:=h.1;simp only[aDB,Bool.not_eq_false',aCn]at c;have b:=c.1.2;have hl:1<=DZ o.kind:=by
  rcases a with e|e|e|e|e
  ·exact absurd e d
  ·rw[e];decide
  ·rw[e];decide
  ·rw[e];decide
  rw[e];decide
 cases e:o.refs with
 |nil=>rw[e]at b;exact absurd (show (([].length:Nat):Int)<DZ _ by show 0<_;omega) b
 |cons k l=>exact⟨k,l,rfl⟩
theorem nb{T}(h:4<=T.length):uT T=T:=by rw[uT,show 4 - T.length=0 by omega,List.replicate_zero,List.append_nil]
theorem TT(o):(C1 o).data.toList.drop 0=rG o:=rfl
theorem NL{i}{k x y}{r}{t}(f:o.id=i)(e:o.kind=k)(b:o.x=x)(d:o.y=y)(a:o.refs=r)(c:o.tags=t):(⟨i,k,x,y,r,t⟩)=o:=by subst f e b d a c;rfl
theorem zh(B:nA o=true):∃T,EC (C1 o) 0 (rG o) T/\(∀f,f∈T->f.err=0)/\T.length<=5000/\sG T=o:=by
 obtain ⟨hr,ht,O,E,_⟩:=A0 B;obtain ⟨w,V,hn,hz⟩:=cg B;obtain ⟨X,G⟩:=zU (E4 B);have m:∀t,t∈o.tags->bS t.key=true:=fun t h=>((wI.1 O).1 t h).1;have v:=TT o;by_cases i:o.kind=1
 ·have e:rG o=(dZ o.kind).data.toList++32::(o.id.data.toList++32::(Lib.itoa o.x++32::(Lib.itoa o.y++mR o.tags))):=by
   rw[rG,lF,aCe i];simp
  rw[e]at v |-;have r:=eY v;rw[bC]at r;have y:=(oZ r).2.2;have n:=eY y;rw[bC]at n;have z:=(oZ n).2.2;have F:=eY z;have u:=(oZ F).2.2;have J:=eY u;obtain ⟨T,U,L,N,r3⟩:=RG o.tags _ m J;have b:=mH v X (lC _) (tP r (mH y E (lC _) (tP n (NZ z w.1 (by omega) (lC _) (tP F (NZ u V.1 (by omega) (OH _) U))))));refine⟨_,b,fun f g=>?_,?_,?_⟩
  ·simp only[aCr]at g;rcases g with rfl|rfl|rfl|rfl|g
   ·rfl
   ·rfl
   ·rfl
   ·rfl
   exact N f g
  ·simp only[aCh];omega
  rw[sG,nb (by simp only[aCh];omega)];simp only[List.getD_cons_zero,List.getD_cons_succ,List.drop_succ_cons,List.drop_zero];rw[G,aCe i,OC L,cj w.1 (by omega),cj V.1 (by omega)];exact NL rfl i rfl rfl (hn i) rfl
 obtain ⟨k,l,q⟩:=TB B i;have s:=tD B;rw[q]at s;have e:rG o=(dZ o.kind).data.toList++32::(o.id.data.toList++32::(40::(k.data.toList++(l.flatMap (fun k=>32::k.data.toList)++41::mR o.tags)))):=by
  rw[rG,lF,aCd i,q,xE];simp
 rw[e]at v |-;have r:=eY v;rw[bC]at r;have y:=(oZ r).2.2;have n:=eY y;rw[bC]at n;have z:=(oZ n).2.2;have F:=(oZ z).2.2;have u:=eY F;rw[bC]at u;have J:=eY u;have h8:=(oZ J).2.2;obtain ⟨T,U,L,N,r3⟩:=RG o.tags _ m h8;have Q:=FC J (by decide) U;obtain ⟨R,hR,q1,W⟩:=RE l _ _ _ (fun x w=>s x (List.mem_cons_of_mem _ w)) u (HM _) Q;have K:FP (l.flatMap (fun k=>32::k.data.toList)++41::mR o.tags):=by
  cases l with
  |nil=>exact HM _
  |cons a l=>rw[List.flatMap_cons];exact lC _
 have b:=mH v X (lC _) (tP r (mH y E (lC _) (tP n (FC z (by decide) (mH F (s k List.mem_cons_self) K hR)))));have hRl:R.length=l.length:=by rw[<-q1,aCf]
 have hrl:o.refs.length=l.length+1:=by rw[q,aCh]
 refine⟨_,b,fun f g=>?_,?_,?_⟩
 ·simp only[aCr,List.mem_append]at g;rcases g with rfl|rfl|rfl|rfl|g|rfl|g
  ·rfl
  ·rfl
  ·rfl
  ·rfl
  ·exact(W f g).2
  ·rfl
  exact N f g
 ·simp only[aCh,aCg];omega
 obtain ⟨A,I⟩:∃A:List GFound,A=⟨1,dZ o.kind,0,0⟩::⟨1,o.id,0+(dZ o.kind).size+1,0⟩::⟨4,⟨#[40]⟩,0+(dZ o.kind).size+1+o.id.size+1,0⟩::⟨1,k,0+(dZ o.kind).size+1+o.id.size+1+1,0⟩::R:=⟨_,rfl⟩;have H:A.length=R.length+4:=by rw[I];rfl
 have M:∀a,a∈A->jQ a=false:=by
  intro a D;rw[I]at D;simp only[aCr]at D;rcases D with rfl|rfl|rfl|rfl|D
  ·rw[jQ,decide_eq_false (show ¬ ((1:Int)=4)by decide),Bool.and_false]
  ·rw[jQ,decide_eq_false (show ¬ ((1:Int)=4)by decide),Bool.and_false]
  ·rfl
  ·rw[jQ,decide_eq_false (show ¬ ((1:Int)=4)by decide),Bool.and_false]
  rw[jQ,(W a D).1,decide_eq_false (show ¬ ((1:Int)=4)by decide),Bool.and_false]
 have p:∀c:GFound,(A++c::T).drop (A.length+1)=T:=fun c=>by
  rw[show A++c::T=(A++[c])++T by simp,show A.length+1=(A++[c]).length by simp,List.drop_left]
 have w:=fun j=>Dq (p:=jQ) (c:=⟨4,⟨#[41]⟩,j,0⟩) (B:=T) M rfl;have P:∀j,(⟨1,dZ o.kind,0,0⟩::⟨1,o.id,0+(dZ o.kind).size+1,0⟩::⟨4,⟨#[40]⟩,0+(dZ o.kind).size+1+o.id.size+1,0⟩::⟨1,k,0+(dZ o.kind).size+1+o.id.size+1+1,0⟩::(R++⟨4,⟨#[41]⟩,j,0⟩::T):List GFound)=A++⟨4,⟨#[41]⟩,j,0⟩::T:=fun j=>by rw[I];rfl
 rw[sG,P,nb (by rw[aCg,H];omega),w,aCd (by rw[I];show ¬ CW (dZ o.kind)=1;rw[G];exact i),aCd (by rw[H];omega),aCq,List.take_left,p,OC L];obtain ⟨Z,Y⟩:=hz i;refine NL ?_ ?_ Z Y ?_ rfl;all_goals simp_all
def ofL(l:List UInt8):ByteArray:=⟨l.toArray⟩
theorem dD(l):(ofL l).data.toList=l:=rfl
theorem hY(s):ofL s.data.toList=s:=pD (dD _)
theorem cM(l):(ofL l).size=l.length:=rfl
def tZ(s:ByteArray):GObj×Int:=if 20000<s.size then(zObj,2)else if(eX s).2.1=0/\eS (sG (eX s).1)=(s,0)then(sG (eX s).1,0)else(zObj,5)
theorem NM{o}(h:(eS o).2=0):nA o=true/\eS o=(C1 o,0)/\(C1 o).size<=20000:=by
 rw[eS]at h |-
 grind
theorem fq{o}(h:(eS o).2=0):tZ (eS o).1=(o,0):=by
 obtain ⟨c,ht,hs⟩:=NM h;obtain ⟨T,b,a,h2,h3⟩:=zh c;have hlex:eX (C1 o)=(T,0,0):=by
  rw[eX,aCd (by omega),b _ (by exact Nat.le_succ _),KM T _ a (by simp_all),List.nil_append]
 rw[tZ]
 simp_all
def wPut:List UInt8:=[112,117,116]
def HF:List UInt8:=[109,111,118,101]
def zW:List UInt8:=[116,97,103]
def HE:List UInt8:=[114,101,102,115]
def HH:List UInt8:=[100,114,111,112]
def BE:List UInt8:=[115,112,108,105,116]
def HG:List UInt8:=[106,111,105,110]
def fV(e:GEdit):List (List UInt8) :=if e.op=2 then[HF,e.id.data.toList,Lib.itoa e.x,Lib.itoa e.y]else if e.op=3 then[zW,e.id.data.toList,e.key.data.toList,cX e.val.data.toList]
 else if e.op=4 then HE::e.id.data.toList::bs e.refs else if e.op=5 then[HH,e.id.data.toList]
 else if e.op=6 then[BE,e.id.data.toList,e.node.data.toList,e.other.data.toList]else[HG,e.id.data.toList,e.other.data.toList]
def fD(e:GEdit):List UInt8:=if e.op=1 then wPut++32::(eS e.obj).1.data.toList else bU [32] (fV e)
def fG(e:GEdit):Int:=if e.op=1 then(eS e.obj).2 else 0
def qT:List UInt8->List GEdit->List UInt8×Int
 |acc,[]=>(acc,0)
 |acc,e::r=>if fG e≠0\/20000<(acc++(fD e++[10])).length then([],2)else qT (acc++(fD e++[10])) r
def dS(l:List GEdit):ByteArray×Int:=if kP l then(ofL (qT [] l).1,(qT [] l).2)else(sNil,1)
def R8(s:List UInt8):Int:=match Lib.atoiAll s with
 |.ok v=>v
 |_ => -1
def MB:GEdit:=⟨0,sNil,sNil,sNil,0,0,sNil,sNil,[],zObj⟩
def DJ(w:List (List UInt8))(word rest:List UInt8):GEdit :=if word=wPut then⟨1,sNil,sNil,sNil,0,0,sNil,sNil,[],(tZ (ofL rest)).1⟩
 else if word=HF/\w.length=4 then⟨2,ofL (w.getD 1 []),sNil,sNil,R8 (w.getD 2 []),R8 (w.getD 3 []),sNil,sNil,[],zObj⟩
 else if word=zW/\3<w.length then(match (eX (ofL (bU [32] (w.drop 3)))).1 with
  | [f]=>⟨3,ofL (w.getD 1 []),sNil,sNil,0,0,ofL (w.getD 2 []),f.text,[],zObj⟩
  |_=>MB)
 else if word=HE/\1<w.length then⟨4,ofL (w.getD 1 []),sNil,sNil,0,0,sNil,sNil,(w.drop 2).map ofL,zObj⟩
 else if word=HH/\w.length=2 then⟨5,ofL (w.getD 1 []),sNil,sNil,0,0,sNil,sNil,[],zObj⟩
 else if word=BE/\w.length=4 then⟨6,ofL (w.getD 1 []),ofL (w.getD 3 []),ofL (w.getD 2 []),0,0,sNil,sNil,[],zObj⟩
 else if word=HG/\w.length=3 then⟨7,ofL (w.getD 1 []),ofL (w.getD 2 []),sNil,0,0,sNil,sNil,[],zObj⟩
 else MB
def mZ(s:List UInt8):GEdit:=DJ (dP 32 s) ((dP 32 s).headD []) (s.drop (((dP 32 s).headD []).length+1))
def gT(t:ByteArray):List GEdit×Int :=if 20000<t.size then([],2)else if dS ((qI t.data.toList).map fun s=>mZ (Lib.trimSuffix s [10]))=(t,0)then((qI t.data.toList).map fun s=>mZ (Lib.trimSuffix s [10]),0)else([],5)
theorem TW{k}(f:bS k=true){b}(d:b∈k.data.toList):xN (b.toNat)=3\/xN (b.toNat)=4\/xN (b.toNat)=5:=by
 obtain ⟨j,c⟩:=aDA.1 d;have a:=(aCj.1 c).1;have h:=(B2 f).2.2.2 j a;have e:bH k j=(b.toNat):=by rw[bH,c];rfl
 rwa [e]at h
theorem lU{k}(a:bS k=true):32∉k.data.toList/\10∉k.data.toList:=by
 constructor
 ·intro h;have:=TW a h;revert this;decide
 intro h;have:=TW a h;revert this;decide
theorem E6{x}(h:0<=x):32∉Lib.itoa x/\10∉Lib.itoa x:=by
 rw[jL x h];constructor
 ·intro h;have:=(qL _ h).1;revert this;decide
 intro h;have:=(qL _ h).1;revert this;decide
theorem ZE(l):10∉cX l:=by
 rw[cX];simp only[aCr,List.mem_append,List.mem_flatMap,aCv,or_false,not_or];refine⟨by simp,?_,by simp⟩;rintro⟨b,_,h⟩;rw[pN]at h
 grind
theorem xD{b}(hb:b≠32):∀ {l},(∀w∈l,b∉w)->b∉bU [32] l
 | [],_,h=>by cases h
 |x::l,hl,h=>by
  rw[bU]at h
  grind
theorem Lv{l}(h:∀t,t∈l->bS t.key=true):10∉mR l:=by
 intro a;obtain ⟨t,c,a⟩:=List.mem_flatMap.1 a;rw[PZ]at a;simp only[aCr,List.mem_append]at a;rcases a with b|b|b|b
 ·simp_all
 ·exact(lU (h t c)).2 b
 ·simp_all
 exact ZE _ b
theorem Tv(b:nA o=true):10∉rG o:=by
 obtain ⟨hr,ht,c,d,_⟩:=A0 b;obtain ⟨g,f,_,_⟩:=cg b;have a:=fun t h=>((wI.1 c).1 t h).1;intro h;rw[rG,lF]at h;simp only[aCr,List.mem_append]at h;rcases h with(h|h|h|h|h)|h
 ·exact(lU (zU (E4 b)).1).2 h
 ·simp_all
 ·exact(lU d).2 h
 ·simp_all
 ·split at h
  ·simp only[aCr,List.mem_append]at h;rcases h with h|h|h
   ·exact(E6 g.1).2 h
   ·revert h;decide
   exact(E6 f.1).2 h
  simp only[aCr,List.mem_append,aCv,or_false]at h;rcases h with h|h|h
  ·revert h;decide
  ·refine xD (by decide) (fun w e=>?_) h;obtain ⟨s,i,rfl⟩:=List.mem_map.1 e;exact(lU (tD b s i)).2
  revert h;decide
 exact Lv a h
abbrev oB(o:GObj):aG:=[(1,bx 6 151 ((bG o).map .pv))]
theorem Kl{l}(h:l≠[])(s):Ah l s=l++32::s.data.toList:=by rw[Ah,aCd h]
theorem aBL(K)(s)(hl:s.size<70368744177663):aW Tryz.prog 234 [.ref 2001 0 0 0,sv s] (pP 0 [] false++K) (fun r H'=>r=.tup []/\H'=pP 1 s.data.toList true++K):=by
 have h:=Ag K 0 [] false s (by simp_all)
 rwa [aCe rfl]at h
theorem rv(K)(g)(l)(s)(a:l≠[])(b:l.length+s.size<70368744177663):aW Tryz.prog 234 [.ref 2001 0 0 0,sv s] (pP g l true++K) (fun r H'=>r=.tup []/\H'=pP (g+2) (l++32::s.data.toList) true++K):=by
 have h:=Ag K g l true s b
 rwa [aCd a,Kl a]at h
theorem M4(K)(g)(l)(u)(a:l.length<70368744177664):aW Tryz.prog 111 [.ref 2001 0 0 0] (pP g l u++K) (fun r H'=>r=sv ⟨l.toArray⟩/\H'=cc g l u++(pP g l u++K)) :=aW.frame (Ro g l u a) Rn (eE.ofL ⟨(QY rfl rfl),(eP _ _),trivial⟩) (by simp;rfl) (fun id h=>.inl (by
  simp[cc,pP,aG.get]at h |-
  grind))
theorem TS{o}(a:nA o=true)(h:0<o.tags.length/\(jH o.tags).2≠0):eS o=(sNil,(jH o.tags).2):=by rw[eS,aCe a,aCe h]
theorem EU{o}{L}(b:nA o=true)(h:¬ (0<o.tags.length/\(jH o.tags).2≠0))(a:rG o=L)(h2:20000<L.length):eS o=(sNil,2):=by
 have hs:(C1 o).size=L.length:=by rw[<-a];rfl
 rw[eS,aCe b,aCd h,aCe (by omega)]
theorem EV{o}{L}(b:nA o=true)(h:¬ (0<o.tags.length/\(jH o.tags).2≠0))(a:rG o=L)(h2:¬ 20000<L.length):eS o=(⟨L.toArray⟩,0):=by
 have hs:(C1 o).size=L.length:=by rw[<-a];rfl
 rw[eS,aCe b,aCd h,aCd (by omega),C1,a]
theorem wE{l}(h0:0<l.length)(h:(jH l).2=0):32::(jH l).1.data.toList=mR l/\(jH l).1.size<=20000:=by
 rw[jH]at h |-;by_cases c:sE l=true
 ·rw[aCe c]at h |-;by_cases b:20000<(UF l).size
  ·simp_all
  rw[aCd b];refine⟨?_,by simp_all⟩;cases l with
  |nil=>simp_all
  |cons t l =>
   rw[SX];rfl
 simp_all
theorem E8:∀l,(l.flatMap fun k=>32::k.data.toList).length=l.length+cZ l
 | []=>rfl
 |k::l=>by
  have a:=E8 l;rw[List.flatMap_cons,aCg,aCh,aCh,a,bC,cZ,cZ,List.map_cons,List.sum_cons];omega
theorem fK(l):(bU [32] (bs l)).length<=l.length+cZ l:=by
 cases l with
 |nil=>exact aCw _
 |cons k l =>
  rw[xE,aCg,E8,bC,aCh,cZ,cZ,List.map_cons,List.sum_cons];omega
theorem TR(o:GObj)(H:aG)(S:ZU o):RC 196 [av (bG o)] (.tup [sv (eS o).1,iv (eS o).2]) H:=by
 refine Pu ?_;refine Bd func196 rfl ntmps196<|Sd (kb 1)<|Dd aH<|Zd aH<|Sq<|Sd (kY bZ sizeOf151)<|Dd (kc call233 (PM o _ S))<|Zd iJ ?_;refine Cn ?_ ?_<;>intro hc1
 ·have hg:nA o=false:=by simp_all
  have e:eS o=(sNil,1):=by rw[eS,aCd (by simp_all)]
  rw[e];exact Sd aH<|Zd aH<|aB<|Ru<|Qq
 have hg:nA o=true:=by simp_all
 obtain ⟨hr,ht,htg,R,_⟩:=A0 hg;obtain ⟨hx,hy,hn,hz⟩:=cg hg;have Y:=(zU (E4 hg)).1;have hws:=dL Y;have his:=dL R;have hwp:=(B2 Y).1;have V:(dZ o.kind).data.toList≠[]:=fun e=>by have:=congrArg List.length e;rw[bC,List.length_nil]at this;omega
 refine aA<|Sz (kl 2001 Qs)<|Sq ?_;refine gC.ent (E':=[(1,.ref 1 0 0 0),(2,sv sNil),(3,iv 0),(4,.ref 2001 0 0 0)]) (H':=[(2002,⟨0,1,5,[]⟩),(2001,K6 (.osl 2002 0 0 0) false),(1,bx 6 151 ((bG o).map .pv))]) (cQ.nz 2002 1 5 rfl rfl ⟨⟨_,rfl,(by exact Nz.same (by(simp;rfl)))⟩,⟨_,rfl,(by exact Nz.same (by(simp;done)))⟩,⟨_,rfl,(by exact Nz.same (by(simp;done)))⟩,⟨_,rfl,(by exact Nz.same (by(simp;rfl)))⟩,trivial⟩ ⟨⟨_,rfl,rfl,rfl,rfl,(by exact .inr ⟨_,_,rfl,rfl,(by repeat(first|exact trivial|refine⟨(by first|exact Nz.own|exact Nz.same (by(simp;done))),?_⟩))⟩)⟩,⟨_,rfl,rfl,rfl,rfl,(by exact .inl ⟨rfl,(by simp_all)⟩)⟩,trivial⟩ trivial) ?_;refine gC.ent (E':=[(1,.ref 1 0 0 0),(2,sv sNil),(3,iv 0),(4,.ref 2001 0 0 0)]) (H':=pP 0 [] false++oB o) (cQ.get (fun _=>rfl) (fun j=>pM (by decide) j)) ?_;refine Rd (aV dW)<|Dd (bD isAgg3)<|Dd (kc zM (F6 o.kind _))<|Zd (kc zL (aBL (oB o) (dZ o.kind) (by omega)))<|Sd (aV oW)<|Dd (bD isAgg9)<|Zd (kc zL (rv (oB o) 1 (dZ o.kind).data.toList o.id V (by rw[bC];omega)))<|Sq<|Sq ?_;obtain ⟨L1,hL1⟩:∃L,L=(dZ o.kind).data.toList++32::o.id.data.toList:=⟨_,rfl⟩;have I:L1≠[]:=by simp_all
 have hl1:L1.length<=49:=by rw[hL1,aCg,aCh,bC,bC];omega
 rw[<-hL1];by_cases Q:o.kind=1
 ·have Rv:(aY o.x).size<=7:=by rw[<-bC];show (Lib.itoa o.x).length<=7;rw[jL _ hx.1];exact dF (by omega) (by decide)
  have siy:(aY o.y).size<=7:=by rw[<-bC];show (Lib.itoa o.y).length<=7;rw[jL _ hy.1];exact dF (by omega) (by decide)
  obtain ⟨P,hL2⟩:∃L,L=L1++32::(aY o.x).data.toList:=⟨_,rfl⟩;have X:P≠[]:=by simp_all
  have hl2:P.length<=57:=by rw[hL2,aCg,aCh,bC];omega
  have p2:=rv (oB o) (1+2) L1 (aY o.x) I (by omega);rw[<-hL2]at p2;obtain ⟨L3,hL3⟩:∃L,L=P++32::(aY o.y).data.toList:=⟨_,rfl⟩;have hn3:L3≠[]:=by simp_all
  have hl3:L3.length<=200000:=by rw[hL3,aCg,aCh,bC];omega
  have F:=rv (oB o) (1+2+2) P (aY o.y) X (by omega);rw[<-hL3]at F;have G:lF o=L3:=by
   rw[lF,aCe Q,hL3,hL2,hL1];show _=(_++32::Lib.itoa o.x)++32::Lib.itoa o.y;simp
  refine Rd (aV dW)<|Dd (bD isAgg3)<|Zd cF ?_;refine Cn ?_ ?_<;>intro W
  ·refine Sd (aV lV)<|Dd (aV pC)<|Dd (bD isAgg3)<|Dd (kc qR (vX o.x (by omega) (by omega) _))<|Zd (kc zL (p2))<|Rd (aV lV)<|Dd (aV pB)<|Dd (bD isAgg3)<|Dd (kc qR (vX o.y (by omega) (by omega) _))<|Zd (kc zL (F))<|Sq<|Sd (aV eT)<|Dd (bD cU)<|Dd (eR cY)<|Zd gX ?_;refine Cn ?_ ?_<;>intro N
   ·have htp:0<o.tags.length:=by have:=aCb N;rw[aCf]at this;omega
    refine Sd (aV eT)<|Dd (bD cU)<|Dd (kc call235 (SW o.tags _ S.2.1))<|Dd aC<|Dd eG<|Dd eG<|Dd aH<|Zd aH<|Sq<|Sd aC<|Zd rI ?_;refine Cn ?_ ?_<;>intro O
    ·have hte:(jH o.tags).2≠0:=by have hq:=O;rw[aCy,aCn]at hq;exact hq
     rw[TS hg ⟨htp,hte⟩];exact Sd aC<|Dd aH<|Zd aH<|aB<|Ru<|Qq
    have hte:(jH o.tags).2=0:=by have hq:=O;rw[Bool.not_eq_false',aCm]at hq;exact hq
    have hlen2:(L3++32::(jH o.tags).1.data.toList).length<=300000:=by have:=hl3;have:=(wE htp hte).2;rw[aCg,aCh,bC];omega
    have hLL:rG o=L3++32::(jH o.tags).1.data.toList:=by rw[(wE htp hte).1,rG,G]
    refine aA<|Rd aC<|Zd (kc zL (rv (oB o) (1+2+2+2) L3 (jH o.tags).1 hn3 (by have:=hl3;have:=(wE htp hte).2;omega)))<|Sq<|Sd (aV oT)<|Dd (kc zO (NO (oB o) ((1+2+2+2)+2) (L3++32::(jH o.tags).1.data.toList) true))<|Zd gX ?_;refine Cn ?_ ?_<;>intro C
    ·have hlong:=aCb C;rw[EU hg (fun h=>h.2 hte) hLL (by omega)];exact Sd aH<|Zd aH<|aB<|Ru<|Qq
    have hlong:=aCc C;rw[EV hg (fun h=>h.2 hte) hLL (by omega)];exact aA<|Sd (aV oT)<|Dd (kc oC (M4 (oB o) ((1+2+2+2)+2) (L3++32::(jH o.tags).1.data.toList) true (by have:=hlen2;omega)))<|Dd aH<|Zd aH<|aB<|Ru<|Qq
   have htp:¬ 0<o.tags.length:=by have:=aCc N;rw[aCf]at this;omega
   have hLL:rG o=L3:=by rw[rG,G,List.length_eq_zero_iff.1 (by omega:o.tags.length=0)];exact List.append_nil _
   refine aA<|Sq<|Sd (aV oT)<|Dd (kc zO (NO (oB o) (1+2+2+2) L3 true))<|Zd gX ?_;refine Cn ?_ ?_<;>intro K
   ·have hlong:=aCb K;rw[EU hg (fun h=>htp h.1) hLL (by omega)];exact Sd aH<|Zd aH<|aB<|Ru<|Qq
   have hlong:=aCc K;rw[EV hg (fun h=>htp h.1) hLL (by omega)];exact aA<|Sd (aV oT)<|Dd (kc oC (M4 (oB o) (1+2+2+2) L3 true (by have:=hl3;omega)))<|Dd aH<|Zd aH<|aB<|Ru<|Qq
  exact absurd Q (aCc W)
 have hsz:cZ o.refs<=24*o.refs.length:=oH (fun s hs=>dL (tD hg s hs));have hjl:=fK o.refs;obtain ⟨J,Z⟩:∃J:ByteArray,J=⟨(bU [32] (bs o.refs)).toArray⟩:=⟨_,rfl⟩;have hj:∀H,RC 158 [.pv (aU o.refs),sv ⟨#[32]⟩] (sv J) H:=fun H=>by
  rw[Z];exact vV o.refs ⟨#[32]⟩ H (by decide) (by show 1*_+_+_<_;omega)
 have E:J.data.toList=bU [32] (bs o.refs):=by rw[Z]
 obtain ⟨L3,hL3⟩:∃L,L=L1++32::((⟨#[40]⟩:ByteArray)++J++⟨#[41]⟩).data.toList:=⟨_,rfl⟩;have hQ:((⟨#[40]⟩:ByteArray)++J++⟨#[41]⟩).data.toList=40::(bU [32] (bs o.refs)++[41]):=by rw[<-E];simp
 have hQs:((⟨#[40]⟩:ByteArray)++J++⟨#[41]⟩).size<=60000:=by rw[<-bC,hQ,aCh,aCg,List.length_singleton];omega
 have hJs:J.size<=52000:=by rw[<-bC,E];omega
 have T:(⟨#[40]⟩:ByteArray).size=1:=rfl;have h41:(⟨#[41]⟩:ByteArray).size=1:=rfl;have hAs:((⟨#[40]⟩:ByteArray)++J).size=1+J.size:=by rw[ByteArray.size_append,T]
 have hn3:L3≠[]:=by rw[hL3];simp
 have hl3:L3.length<=200000:=by rw[hL3,aCg,aCh,bC];omega
 have F:=rv (oB o) (1+2) L1 ((⟨#[40]⟩:ByteArray)++J++⟨#[41]⟩) I (by omega);rw[<-hL3]at F;have G:lF o=L3:=by
  rw[lF,aCd Q,hL3,hL1,hQ];simp
 refine Rd (aV dW)<|Dd (bD isAgg3)<|Zd cF ?_;refine Cn ?_ ?_<;>intro U
 ·exact absurd (aCb U) Q
 refine Rd (aV dQ)<|Dd (bD aF)<|Dd (kc qQ (hj _))<|Dd kq<|Dd kq<|Zd (kc zL (F))<|Sq<|Sd (aV eT)<|Dd (bD cU)<|Dd (eR cY)<|Zd gX ?_;refine Cn ?_ ?_<;>intro M
 ·have htp:0<o.tags.length:=by have:=aCb M;rw[aCf]at this;omega
  refine Sd (aV eT)<|Dd (bD cU)<|Dd (kc call235 (SW o.tags _ S.2.1))<|Dd aC<|Dd eG<|Dd eG<|Dd aH<|Zd aH<|Sq<|Sd aC<|Zd rI ?_;refine Cn ?_ ?_<;>intro D
  ·have hte:(jH o.tags).2≠0:=by have hq:=D;rw[aCy,aCn]at hq;exact hq
   rw[TS hg ⟨htp,hte⟩];exact Sd aC<|Dd aH<|Zd aH<|aB<|Ru<|Qq
  have hte:(jH o.tags).2=0:=by have hq:=D;rw[Bool.not_eq_false',aCm]at hq;exact hq
  have hlen2:(L3++32::(jH o.tags).1.data.toList).length<=300000:=by have:=hl3;have:=(wE htp hte).2;rw[aCg,aCh,bC];omega
  have hLL:rG o=L3++32::(jH o.tags).1.data.toList:=by rw[(wE htp hte).1,rG,G]
  refine aA<|Rd aC<|Zd (kc zL (rv (oB o) (1+2+2) L3 (jH o.tags).1 hn3 (by have:=hl3;have:=(wE htp hte).2;omega)))<|Sq<|Sd (aV oT)<|Dd (kc zO (NO (oB o) ((1+2+2)+2) (L3++32::(jH o.tags).1.data.toList) true))<|Zd gX ?_;refine Cn ?_ ?_<;>intro hc10
  ·have hlong:=aCb hc10;rw[EU hg (fun h=>h.2 hte) hLL (by omega)];exact Sd aH<|Zd aH<|aB<|Ru<|Qq
  have hlong:=aCc hc10;rw[EV hg (fun h=>h.2 hte) hLL (by omega)];exact aA<|Sd (aV oT)<|Dd (kc oC (M4 (oB o) ((1+2+2)+2) (L3++32::(jH o.tags).1.data.toList) true (by have:=hlen2;omega)))<|Dd aH<|Zd aH<|aB<|Ru<|Qq
 have htp:¬ 0<o.tags.length:=by have:=aCc M;rw[aCf]at this;omega
 have hLL:rG o=L3:=by rw[rG,G,List.length_eq_zero_iff.1 (by omega:o.tags.length=0)];exact List.append_nil _
 refine aA<|Sq<|Sd (aV oT)<|Dd (kc zO (NO (oB o) (1+2+2) L3 true))<|Zd gX ?_;refine Cn ?_ ?_<;>intro hc11
 ·have hlong:=aCb hc11;rw[EU hg (fun h=>htp h.1) hLL (by omega)];exact Sd aH<|Zd aH<|aB<|Ru<|Qq
 have hlong:=aCc hc11;rw[EV hg (fun h=>htp h.1) hLL (by omega)];exact aA<|Sd (aV oT)<|Dd (kc oC (M4 (oB o) (1+2+2) L3 true (by have:=hl3;omega)))<|Dd aH<|Zd aH<|aB<|Ru<|Qq
theorem kE:∀ {l} {w},32∉w->(∀x∈l,32∉x)->dP 32 (bU [32] (w::l))=w::l
 | [],w,h,_=>by rw[bU,List.flatMap_nil,List.append_nil];exact qW h
 |a::l,w,h,b=>by
  have e:bU [32] (w::a::l)=w++32::bU _ (a::l):=rfl;rw[e,jI h,kE (b a List.mem_cons_self) fun x c=>b x (List.mem_cons_of_mem _ c)]
theorem P2:∀l,bU [32] (dP 32 l)=l
 | []=>rfl
 | b::l=>by
  have a:=P2 l;have c:=qB 32 l;rw[dP];cases e:dP _ l with
  |nil=>rw[e]at c;exact absurd c (Nat.lt_irrefl 0)
  |cons x r =>
   rw[e,bU]at a;by_cases h:b=32
   ·rw[aCe h,bU,List.flatMap_cons,List.append_assoc,a,h];rfl
   rw[aCd h,bU,List.headD_cons,List.tail_cons,List.cons_append,a]
theorem TU{x}(h:0<=x)(a:x<1000000000000000000):R8 (Lib.itoa x)=x:=by rw[R8,CN h a]
theorem Fi(l):(bs l).map ofL=l:=by rw[bs,List.map_map];exact(List.map_congr_left fun s _=>hY s).trans (List.map_id _)
theorem QF:∀l:List _,(l.flatMap pN).length<=2*l.length
 | []=>aCl _
 | b::l=>by
  have ih:=QF l;have h:(pN b).length<=2:=by
   rw[pN]
   grind
  rw[List.flatMap_cons,aCg,aCh];omega
theorem tj{v}(hv:v.size<=200):(eX (ofL (cX v.data.toList))).1=[⟨3,v,0,0⟩]:=by
 have b:(ofL (cX v.data.toList)).data.toList.drop 0=cX v.data.toList++[]:=by rw[List.append_nil];rfl
 have hl:(cX v.data.toList).length<=402:=by
  have:=QF v.data.toList;rw[bC]at this;rw[cX,aCh,aCg,List.length_singleton];omega
 have c:0<(cX v.data.toList).length:=by rw[cX,aCh];omega
 have d:=CO (HN b) rfl (qG b c) c (all_nil (eY b));rw[eX,aCd (by rw[cM];omega),d _ (by rw[cM,List.append_nil];omega)];rfl
theorem CA{w:List UInt8}{r}:(w::r).headD []=w:=rfl
theorem J1{e:GEdit}(B:dT e=true)(t:fG e=0):mZ (fD e)=e/\(10:UInt8)∉fD e:=by
 obtain ⟨⟨o1,o7⟩,c,i⟩:=tI.1 B;rw[fG]at t;by_cases j:e.op=1
 ·rw[aCe j]at t;obtain ⟨E,z,_⟩:=NM t;have A:=fq t;rw[BC,aCe j,j]at i;rw[fD,aCe j];constructor
  ·rw[mZ,jI (by decide),CA,DJ,aCe rfl];show (⟨1,sNil,sNil,sNil,0,0,sNil,sNil,[],(tZ (ofL (eS e.obj).1.data.toList)).1⟩:GEdit)=e;rw[hY,A];exact i
  rw[z];intro h;rcases List.mem_append.1 h with h|h
  ·revert h;decide
  rcases aCr.1 h with h|h
  ·simp_all
  exact Tv E h
 rw[rY,aCd j,aCo]at c;obtain ⟨u,c⟩:=c;have l:=lU u;rw[fD,aCd j];by_cases d:e.op=2
 ·rw[aCe d]at c;have n:(0<=e.x/\e.x<1048576)/\0<=e.y/\e.y<1048576:=by
   rw[Bl]at c
   grind
  rw[BC,aCd j,aCe d,d]at i;rw[fV,aCe d];have n1:=E6 n.1.1;have n2:=E6 n.2.1;refine⟨?_,xD (by decide) ?_⟩
  ·rw[mZ,kE (by decide) (by simp_all),CA,DJ,aCd (by decide),aCe ⟨rfl,rfl⟩];show (⟨2,ofL e.id.data.toList,sNil,sNil,R8 (Lib.itoa e.x),R8 (Lib.itoa e.y),sNil,sNil,[],zObj⟩:GEdit)=e;rw[hY,TU n.1.1 (by omega),TU n.2.1 (by omega)];exact i
  intro w a;simp only[aCr,aCv,or_false]at a;rcases a with rfl|rfl|rfl|rfl;all_goals first|exact(by decide)|grind|grind|grind
 by_cases g:e.op=3
 ·rw[aCd d,aCe g,aCo,aCm]at c;have q:=lU c.1;rw[BC,aCd j,aCd d,aCe g,g]at i;rw[fV,aCd d,aCe g];refine⟨?_,xD (by decide) ?_⟩
  ·have D:bU [32] [zW,e.id.data.toList,e.key.data.toList,cX e.val.data.toList]=zW++32::(e.id.data.toList++32::(e.key.data.toList++32::cX e.val.data.toList)):=by simp[bU]
   have x:=qB 32 (cX e.val.data.toList);rw[D,mZ,jI (by decide),jI l.1,jI q.1,CA,DJ,aCd (by decide),aCd (fun h=>absurd h.1 (by decide)),aCe ⟨rfl,by simp_all⟩];show (match (eX (ofL (bU [32] (dP 32 (cX e.val.data.toList))))).1 with
    | [f]=>(⟨3,ofL e.id.data.toList,sNil,sNil,0,0,ofL e.key.data.toList,f.text,[],zObj⟩:GEdit)
    |_=>MB)=e
   rw[P2,tj (by omega),hY,hY];exact i
  intro w a;simp only[aCr,aCv,or_false]at a;rcases a with rfl|rfl|rfl|rfl;all_goals first|exact(by decide)|exact l.2|exact q.2|exact ZE _
 by_cases k:e.op=4
 ·rw[aCd d,aCd g,aCe k,aCo,aCo,List.all_eq_true]at c;have C:=c.2;rw[BC,aCd j,aCd d,aCd g,aCe k,k]at i;rw[fV,aCd d,aCd g,aCe k];have r:∀(b:UInt8),(b=32\/b=10)->∀w∈bs e.refs,b∉w:=by
   intro b r w a;obtain ⟨s,x,rfl⟩:=List.mem_map.1 a;have:=lU (C s x);rcases r with rfl|rfl;all_goals first|exact this.1|exact this.2
  refine⟨?_,xD (by decide) ?_⟩
  ·rw[mZ,kE (by decide) (by intro w a;rcases aCr.1 a with rfl|a;all_goals first|exact l.1|exact r 32 (.inl rfl) w a),CA,DJ,aCd (by decide),aCd (fun h=>absurd h.1 (by decide)),aCd (fun h=>absurd h.1 (by decide)),aCe ⟨rfl,by simp only[aCh];omega⟩];show (⟨4,ofL e.id.data.toList,sNil,sNil,0,0,sNil,sNil,(bs e.refs).map ofL,zObj⟩:GEdit)=e;rw[hY,Fi];exact i
  intro w a;rcases aCr.1 a with rfl|a
  ·decide
  rcases aCr.1 a with rfl|a;all_goals first|exact l.2|exact r 10 (.inr rfl) w a
 by_cases m:e.op=5
 ·rw[BC,aCd j,aCd d,aCd g,aCd k,aCe m,m]at i;rw[fV,aCd d,aCd g,aCd k,aCe m];refine⟨?_,xD (by decide) ?_⟩
  ·rw[mZ,kE (by decide) (by intro w a;rw[aCi]at a;subst a;exact l.1),CA,DJ,aCd (by decide),aCd (fun h=>absurd h.1 (by decide)),aCd (fun h=>absurd h.1 (by decide)),aCd (fun h=>absurd h.1 (by decide)),aCe ⟨rfl,rfl⟩];show (⟨5,ofL e.id.data.toList,sNil,sNil,0,0,sNil,sNil,[],zObj⟩:GEdit)=e;rw[hY];exact i
  intro w a;simp only[aCr,aCv,or_false]at a;rcases a with rfl|rfl;all_goals first|exact(by decide)|exact l.2
 by_cases o:e.op=6
 ·rw[aCd d,aCd g,aCd k,aCd m,aCe o,aCo]at c;have q:=lU c.1;have p:=lU c.2;rw[BC,aCd j,aCd d,aCd g,aCd k,aCd m,aCe o,o]at i;rw[fV,aCd d,aCd g,aCd k,aCd m,aCe o];refine⟨?_,xD (by decide) ?_⟩
  ·rw[mZ,kE (by decide) (by intro w a;simp only[aCr,aCv,or_false]at a;rcases a with rfl|rfl|rfl;all_goals first|exact l.1|exact q.1|exact p.1),CA,DJ,aCd (by decide),aCd (fun h=>absurd h.1 (by decide)),aCd (fun h=>absurd h.1 (by decide)),aCd (fun h=>absurd h.1 (by decide)),aCd (fun h=>absurd h.1 (by decide)),aCe ⟨rfl,rfl⟩];show (⟨6,ofL e.id.data.toList,ofL e.other.data.toList,ofL e.node.data.toList,0,0,sNil,sNil,[],zObj⟩:GEdit)=e;rw[hY,hY,hY];exact i
  intro w a;simp only[aCr,aCv,or_false]at a;rcases a with rfl|rfl|rfl|rfl;all_goals first|exact(by decide)|exact l.2|exact q.2|exact p.2
 have y:e.op=7:=by omega
 rw[aCd d,aCd g,aCd k,aCd m,aCd o]at c;have p:=lU c;rw[BC,aCd j,aCd d,aCd g,aCd k,aCd m,aCd o,y]at i;rw[fV,aCd d,aCd g,aCd k,aCd m,aCd o];refine⟨?_,xD (by decide) ?_⟩
 ·rw[mZ,kE (by decide) (by intro w a;simp only[aCr,aCv,or_false]at a;rcases a with rfl|rfl;all_goals first|exact l.1|exact p.1),CA,DJ,aCd (by decide),aCd (fun h=>absurd h.1 (by decide)),aCd (fun h=>absurd h.1 (by decide)),aCd (fun h=>absurd h.1 (by decide)),aCd (fun h=>absurd h.1 (by decide)),aCd (fun h=>absurd h.1 (by decide)),aCe ⟨rfl,rfl⟩];show (⟨7,ofL e.id.data.toList,ofL e.other.data.toList,sNil,0,0,sNil,sNil,[],zObj⟩:GEdit)=e;rw[hY,hY];exact i
 intro w a;simp only[aCr,aCv,or_false]at a;rcases a with rfl|rfl|rfl;all_goals first|exact(by decide)|exact l.2|exact p.2
end Go.Proofs.YtmdicgjnmfolfaaGreatDoor
namespace Go.Abs
section
section
variable{P:Program}{H:aG}
theorem tz(s)(c):Ox P Extern.BytealgCount.count H [.pv (.str s),.pv (.int .u8 c)] (.pv (.int .i64 ((Lib.countByte s.data.toList c.toNat.toUInt8)))):=by intro w I ι cs b h;obtain ⟨u,v,rfl,d,e⟩:=YL b h;rw[d.str_inv,e.int_inv];exact⟨_,Lib.run_countString s c w,.pv (.int _ _)⟩
end
end
end Go.Abs
namespace Go.Proofs.YtmdicgjnmfolfaaGreatDoor
open Go.Proofs.Tryz
open Go.Abs
abbrev Ht:ByteArray:=⟨#[32]⟩
theorem S2(s)(H:aG):RC 188 [sv s,sv Ht] (iv (Lib.indexByte s.data.toList 32)) H:=by
 refine Pu ?_;refine Bd func188 rfl ntmps188<|Sz aH<|Sd aC<|Dd (gF underlying9)<|Zd aH<|Sq<|aE<|Sq ?_;refine aQ (t:=16) (n:=9) (X:=decide (Ht=s)) ?_ ?_
 ·all_goals refine Dd aC ?_
  all_goals refine Dd cF<|Dm ?_<;>(refine Sp 19 (fun c=>?_) fun c=>?_)<;>(try contradiction)<;>refine On aC<|On aC<|On vF<|Dd cD<|Da ?_<;>(exact⟨⟨_,rfl,by rfl⟩,rfl,rfl,rfl⟩)
 refine Cn ?_ ?_<;>intro d
 ·have e:=aCb d;subst e;exact Sz aH<|aB<|Rt<|Qq
 refine Sd aC<|Dd cF<|Da ?_;refine Cn ?_ ?_<;>intro b
 ·exact Sd aC<|Dd aC<|Dd (by exact cR rfl underlying9 rfl rfl (by omega) (by rfl) (show 0<(⟨#[32]⟩:ByteArray).size from Nat.zero_lt_one) rfl)<|Dd (kc aBm (yX s 32 _))<|Zd aH<|aB<|Rt<|Qq
 cases b
theorem Mm(s)(H):RC 229 [sv s,sv Ht] (iv (Lib.indexByte s.data.toList 32)) H:=by refine Pu ?_;exact Bd func229 rfl ntmps229<|Sz aH<|Sd aC<|Dd aC<|Dd (bL rfl rfl RK rfl (S2 s _))<|Zd aH<|aB<|Rt<|Qq
def ji(s:ByteArray):AV:=if Lib.indexByte s.data.toList 32 = -1 then .tup [sv s,sv ⟨#[]⟩,bv false]else .tup [sv (s.extract 0 (Lib.indexByte s.data.toList 32).toNat),sv (s.extract ((Lib.indexByte s.data.toList 32).toNat+1) s.size),bv true]
theorem Jj(s:ByteArray)(H:aG)(hs:s.size<1099511627776):RC 150 [sv s,sv Ht] (ji s) H:=by
 refine Pu ?_;have d:=fun H=>S2 s H;rw[ji];rcases Classical.em (Lib.indexByte s.data.toList 32 = -1)with c|c
 ·rw[aCe c];simp only[c]at d;refine Bd vk rfl dh<|Sd aH<|Dd aH<|Zd aH<|Sq<|Sd aC<|Dd aC<|Dd (kc RK (d _))<|Zd aH<|Sd aC<|Zd CX ?_;refine Cn ?_ ?_<;>intro b
  ·cases b
  refine aA<|Sd aC<|Dd aH<|Dd aH<|Zd aH<|aB ?_;refine lH (H':=[]) (.inr rfl) rfl (aJ rfl) (aJ rfl) (aJ rfl) (Fin.wk (by simp) trivial trivial) ?_;exact Qq
 rw[aCd c];obtain ⟨w,r,f,e2,e⟩:=xI c;simp only[e]at d;rw[e,aCq];have hl:w.length+1+r.length=s.size:=by rw[<-show s.data.toList.length=s.size by simp,f,aCg,aCh];omega
 refine Bd vk rfl dh<|Sd aH<|Dd aH<|Zd aH<|Sq<|Sd aC<|Dd aC<|Dd (kc RK (d _))<|Zd aH<|Sd aC<|Zd CX ?_;refine Cn ?_ ?_<;>intro b
 ·refine Sq<|aL follows<|Cq aC<|Cq aC<|Cq (by exact cB (l:=0) (h:=(w.length)) rfl underlying9 rfl rfl rfl (by omega) (by omega) rfl)<|Cq aC<|Cq aC<|Cq aC<|Cq (gF underlying9)<|Cq kp<|Cq (by exact cB (l:=(w.length+1)) (h:=s.size) rfl underlying9 rfl rfl rfl (by omega) (by omega) rfl)<|Cq aH<|Cq aH<|Cq aH<|bF<|Kr<|aB ?_;refine lH (H':=[]) (.inr rfl) rfl (aJ rfl) (aJ rfl) (aJ rfl) (Fin.wk (by simp) trivial trivial) ?_;exact Qq
 have hx:=aCc b;omega
theorem aA0(s)(H:aG)(d:s.size<1099511627776):RC 113 [sv s,sv Ht] (ji s) H:=by
 refine Pu ?_;have b:=fun H=>Jj s H d;rcases Classical.em (Lib.indexByte s.data.toList 32 = -1)with c|c
 ·simp only[ji,aCe c]at b |-;refine Bd vm rfl dj<|Sd aH<|Dd aH<|Zd aH<|Sd aC<|Dd aC<|Dd (kc vr (b _))<|Dd eG<|Dd eG<|Dd eG<|Dd aH<|Dd aH<|Zd aH<|aB ?_;refine lH (H':=[]) (.inr rfl) rfl (aJ rfl) (aJ rfl) (aJ rfl) (Fin.wk (by simp) trivial trivial) ?_;exact Qq
 simp only[ji,aCd c]at b |-;refine Bd vm rfl dj<|Sd aH<|Dd aH<|Zd aH<|Sd aC<|Dd aC<|Dd (kc vr (b _))<|Dd eG<|Dd eG<|Dd eG<|Dd aH<|Dd aH<|Zd aH<|aB ?_;refine lH (H':=[]) (.inr rfl) rfl (aJ rfl) (aJ rfl) (aJ rfl) (Fin.wk (by simp) trivial trivial) ?_;exact Qq
abbrev Yf:ByteArray:=⟨#[10]⟩
def CH(s:ByteArray):Bool:=decide ((1:Int)<=(s.size:Int))&&decide (s.extract (s.size - 1) s.size=Yf)
def DE(s:ByteArray):ByteArray:=if CH s then s.extract 0 (s.size - 1)else s
theorem ai(s:ByteArray)(H:aG)(hs:s.size<1099511627776):RC 199 [sv s,sv Yf] (bv (CH s)) H:=by
 refine Pu ?_;refine Bd func199 rfl ntmps199<|Sz aH<|Sq ?_;refine aQ (t:=4) (n:=18) (X:=CH s) ?_ ?_
 ·all_goals refine Dd aC ?_
  all_goals refine Dd (gF underlying9)<|Dd aC<|Dd (gF underlying9)<|Dd CX<|Dm ?_<;>(refine Sp 10 (fun b=>?_) fun b=>?_)<;>(first|contradiction|refine Fo<|Fo<|Fo<|Fo<|Fo<|Fo<|Fo<|Fo<|Fo ?_|refine On aC<|On aC<|On (gF underlying9)<|On aC<|On (gF underlying9)<|On (by exact dB rfl rfl rfl (show IntKind.i64.wrap ((s.size:Int) - 1)=((s.size - 1:Nat):Int)by have h11:(1:Int)<=(s.size:Int):=aCb b;rw[IntKind.wrap_i64];omega))<|On (by exact cB (l:=(s.size - 1)) (h:=s.size) rfl underlying9 rfl rfl rfl (by omega) (by omega) rfl)<|On aC<|On vF ?_)<;>refine Dd cD<|Da ?_<;>(exact⟨⟨_,rfl,by(simp only[CH];rw[show decide ((1:Int)<=(s.size:Int))=_ from b];rfl)⟩,rfl,rfl,rfl⟩)
 exact aB<|Rt<|Qq
theorem yf(s:ByteArray)(H:aG)(c:s.size<1099511627776):RC 159 [sv s,sv Yf] (sv (DE s)) H:=by
 refine Pu ?_;refine Bd func159 rfl ntmps159<|Sz aH<|Sq<|Sd aC<|Dd aC<|Zd (kc call199 (ai s _ c)) ?_;refine Cn ?_ ?_<;>intro b
 ·have h1:=by
   have h:=b;rw[CH,aCo,aCm]at h;omega
  rw[DE,aCe b];exact Sd aC<|Dd aC<|Dd (gF underlying9)<|Dd aC<|Dd (gF underlying9)<|Dd (by exact dB rfl rfl rfl (show IntKind.i64.wrap ((s.size:Int) - 1)=((s.size - 1:Nat):Int)by rw[IntKind.wrap_i64];omega))<|Dd (by exact cB (l:=0) rfl underlying9 rfl rfl rfl (by omega) (by omega) rfl)<|Zd aH<|aB<|Rt<|Qq
 rw[DE,aCd (by simp_all)];exact aA<|Sd aC<|Zd aH<|aB<|Rt<|Qq
theorem dx(s)(H)(b:s.size<1099511627776):RC 117 [sv s,sv Yf] (sv (DE s)) H:=by refine Pu ?_;exact Bd func117 rfl ntmps117<|Sz aH<|Sd aC<|Dd aC<|Dd (bL rfl rfl call159 rfl (yf s _ b))<|Zd aH<|aB<|Rt<|Qq
theorem Nk(s:ByteArray)(H:aG):RC 228 [sv s,sv Ht] (iv ((s.data.toList.count 32:Nat):Int)) H:=by
 refine Pu ?_;refine Bd func228 rfl ntmps228<|Sz aH<|Sq<|Sd aC<|Dd (gF underlying9)<|Zd cF ?_;refine Cn ?_ ?_<;>intro c
 ·cases c
 refine aA<|Sq<|Sd aC<|Dd (gF underlying9)<|Zd cF ?_;refine Cn ?_ ?_<;>intro b
 ·exact Sd aC<|Dd aC<|Dd (by exact cR rfl underlying9 rfl rfl (by omega) (by rfl) (show 0<(⟨#[32]⟩:ByteArray).size from Nat.zero_lt_one) rfl)<|Dd (by exact NI rfl rfl func260 rfl rfl rfl rfl rfl (tz s 32))<|Zd aH<|aB<|Rt<|Qq
 cases b
def ofY(l:List UInt8):ByteArray:=⟨l.toArray⟩
def cL(s:ByteArray):List ByteArray:=(dP 32 s.data.toList).map ofY
def BO(D:List ByteArray)(m:Nat):List (List AV):=D.map (fun e=>(encStr e).map AV.pv)++List.replicate m [sv ⟨#[]⟩]
theorem S1(D)(m):(BO D (m+1))[D.length]?=some [sv ⟨#[]⟩]:=by rw[BO,List.getElem?_append_right (by simp),aCf,Nat.sub_self];rfl
theorem ei{s}(h:(cL s).length=1):cL s=[s]:=by rw[cL,aCf,wQ]at h;have a:32∉s.data.toList:=List.count_eq_zero.1 (by omega);rw[cL,qW a];rfl
theorem OJ(D)(m)(x):(BO D (m+1)).set D.length [sv x]=BO (D++[x]) m:=by unfold BO;rw[List.set_append_right _ _ (by simp),aCf,Nat.sub_self,List.map_append,List.append_assoc];rfl
theorem OK(H)(D)(m):∀r∈BO D m,∀a∈r,Clo H a:=by
 intro r b a c;rcases List.mem_append.1 b with b|b
 ·obtain ⟨d,_,rfl⟩:=List.mem_map.1 b;obtain ⟨p,_,rfl⟩:=List.mem_map.1 c;simp
 rw[List.eq_of_mem_replicate b,aCi]at c;subst c;simp
theorem Uw(s:ByteArray)(i j):(s.extract i j).data.toList=(s.data.toList.drop i).take (j - i):=by simp
theorem ja{a b:ByteArray}(h:a.data.toList=b.data.toList):a=b:=by cases a;simp_all
theorem Bq{s:ByteArray}{w r}(h:s.data.toList=w++32::r):s.extract 0 w.length=ofY w/\(s.extract (w.length+1) s.size).data.toList=r:=by
 have hl:s.size=w.length+1+r.length:=by
  show s.data.size=_;rw[<-Array.length_toList,h,aCg,aCh];omega
 constructor
 ·refine ja ?_;rw[Uw,List.drop_zero,Nat.sub_zero,h,List.take_left];rfl
 simp_all
theorem aB4{H1}{id g n}{ob}(ps)(b:H1.get id=some ob)(c:ob.g=g)(a:ob.rows=ps.map (·.map .pv))(d:ps.length=n):Fin [] H1 (.osl id g 0 n) [] (.pv (.sl ps)):=by subst c d;exact Fin.fz _ b a (.osl (by simp)) rfl trivial trivial
theorem ir(d:ByteArray)(H:aG)(hs:d.size<1099511627776):RC 194 [sv d,sv Ht,iv 0,iv (-1)] (.pv (aU (cL d))) H:=by
 refine Pu ?_;obtain ⟨N,o⟩:∃N,N=d.data.toList.count 32:=⟨_,rfl⟩;have hNs:N<=d.size:=by rw[o];exact Nat.le_trans List.count_le_length (by simp)
 have x:=fun H=>Nk d H;rw[<-o]at x;have e:(dP 32 d.data.toList).length=N+1:=by rw[wQ,o]
 refine Bd func194 rfl ntmps194<|Sz aH<|Sq<|Sd aC<|Zd cF ?_;refine Cn ?_ ?_<;>intro p
 ·cases p
 refine aA<|Sq<|Sd aC<|Zd vF ?_;refine Cn ?_ ?_<;>intro u
 ·have:=aCb u;cases this
 refine aA<|Sq<|Sd aC<|Zd cJ ?_;refine Cn ?_ ?_<;>intro k
 ·refine Rd aC<|Dd aC<|Dd (kc call228 (x _))<|Dd kp<|Zd aH<|Sd aC<|Dd aC<|Dd (gF underlying9)<|Dd kp<|Dd (by exact BZ (r:=((N+1:Nat):Int)) rfl rfl rfl (by omega))<|Zd aH<|Sd aC<|Dd (by exact DB (id:=31) rfl bT zT Ig rfl rfl rfl (by omega) (by omega) (by exact aCq _) (by exact aCq _) (by omega) rfl)<|Zd aH<|Sd aC<|Dd (by exact dB rfl rfl rfl (show IntKind.i64.wrap (((N+1:Nat):Int) - 1)=(N:Int)by rw[IntKind.wrap_i64];omega))<|Zd aH<|Sz aH<|Sq<|aE ?_;refine fZ (fun(D:List ByteArray) (a:ByteArray)=>([(0,sv a),(1,sv Ht),(2,iv 0),(3,iv (N:Int)),(8,.pv (.sl [])),(9,.osl 31 0 0 (N+1)),(10,iv (D.length:Int))],[(31,⟨0,1,9,BO D (N+1 - D.length)⟩)])) (fun D a=>cL d=D++cL a/\a.size<=d.size) (fun D a=>N - D.length) [] d ⟨rfl,aCl _⟩ ?_ ?_
  ·exact(cQ.wk (Eb<|Eb<|Eb<|Eb<|Eb<|Ea<|Eb<|trivial) (Hc (OK _ _ _)<|trivial) trivial)
  rintro D a ⟨C,hr⟩;have g:D.length+(cL a).length=N+1:=by
   have:=congrArg List.length C;rw[aCg,cL,aCf,e]at this;exact this.symm
  have hpos:0<(cL a).length:=by rw[cL,aCf];exact qB _ _
  obtain ⟨m,J⟩:∃m,N+1 - D.length=m+1:=⟨N - D.length,by omega⟩;have z:=fun H=>Mm a H;rw[J];rcases Nat.lt_or_ge D.length N with hlt|hge
  ·have E:Lib.indexByte a.data.toList 32 ≠ -1:=fun h=>by
    have A:=qW (xG.1 h);rw[cL,A]at g;have:D.length+1=N+1:=g;omega
   obtain ⟨w,r,q,F,B⟩:=xI E;obtain ⟨I,y⟩:=Bq q;have hl:w.length+1+r.length=a.size:=by rw[<-show a.data.toList.length=a.size by simp,q,aCg,aCh];omega
   have hsp:cL a=a.extract 0 w.length::cL (a.extract (w.length+1) a.size):=by
    rw[cL,q,jI F,List.map_cons,I,cL,y]
   simp only[B]at z;refine Sq<|Sd aC<|Dd aC<|Zd cJ ?_;refine Cn ?_ ?_<;>intro v
   ·refine aA<|aE<|Sd aC<|Dd aC<|Dd (kc call229 (z _))<|Zd aH<|Sq<|Sd aC<|Zd cJ ?_;refine Cn ?_ ?_<;>intro l
    ·have:=aCb l;omega
    refine aA<|Sd aC<|Dd aC<|Dd aC<|Dd aC<|Dd aC<|Dd (by exact eA rfl rfl rfl (show IntKind.i64.wrap ((w.length:Int)+0)=(w.length:Int)by rw[IntKind.wrap_i64];omega))<|Dd (by exact cB (l:=0) (h:=w.length) rfl underlying9 rfl rfl rfl (by omega) (by omega) rfl)<|Dd (by exact dN rfl bT rfl rfl rfl rfl rfl (by omega) (by exact aCq _) (by omega) (aCx _))<|Uu (by exact cV rfl sizeOf9 rfl rfl rfl rfl rfl (S1 D m) Nat.zero_lt_one rfl (OJ D m _))<|Zz<|Sd aC<|Dd aC<|Dd aC<|Dd (gF underlying9)<|Dd kp<|Dd (by exact cB (l:=(w.length+1)) (h:=a.size) rfl underlying9 rfl rfl rfl (by omega) (by omega) rfl)<|Zd aH<|Rg<|Dm ?_;refine Dd kp<|Da ?_;have G:(D++[a.extract 0 w.length]).length=D.length+1:=by simp
    have t:(a.extract (w.length+1) a.size).size<=d.size:=by rw[<-show (a.extract (w.length+1) a.size).data.toList.length=(a.extract (w.length+1) a.size).size by simp,y];omega
    refine⟨D++[a.extract 0 w.length],a.extract (w.length+1) a.size,⟨by simp_all,t⟩,by omega,?_⟩;rw[G,show N+1 - (D.length+1)=m by omega];exact(cQ.wk (Eb<|Eb<|Eb<|Eb<|Eb<|Ea<|Eb<|trivial) (Hc (OK _ _ _)<|trivial) trivial)
   have:=aCc v;omega
  have hDN:D.length=N:=by omega
  have hone:cL a=[a]:=ei (by omega);have j:m=0:=by omega
  subst j;refine Sq<|Sd aC<|Dd aC<|Zd cJ ?_;refine Cn ?_ ?_<;>intro n
  ·have:=aCb n;omega
  refine aS<|Sd aC<|Dd aC<|Dd aC<|Dd (by exact dN rfl bT rfl rfl rfl rfl rfl (by omega) (by exact aCq _) (by omega) (aCx _))<|Uu (by exact cV rfl sizeOf9 rfl rfl rfl rfl rfl (S1 D 0) Nat.zero_lt_one rfl (OJ D 0 _))<|Zz<|Sd aC<|Dd aC<|Dd kp<|Dd (by exact jU (l:=0) (h:=(D.length+1)) rfl bT rfl rfl rfl rfl rfl rfl (by omega) (by omega) rfl rfl)<|Zd aH<|aB ?_;have s:(D++[a]).map encStr=(cL d).map encStr:=by simp_all
  refine dA (H':=[]) (.inr rfl) rfl (aJ rfl) (aB4 (id:=31) ((D++[a]).map encStr) rfl rfl (by show BO (D++[a]) 0=_;rw[BO,List.replicate_zero,List.append_nil,List.map_map];rfl) (by simp)) ⟨?_,rfl⟩;rw[aU,s]
 cases k
theorem qp(s)(H)(b:s.size<1099511627776):RC 154 [sv s,sv Ht] (.pv (aU (cL s))) H:=by refine Pu ?_;exact Bd func154 rfl ntmps154<|Sz aH<|Sd aC<|Dd aC<|Dd (bL rfl rfl call194 rfl (ir s _ b))<|Zd aH<|aB<|Rt<|Qq
def yM(t:ByteArray):ByteArray:=if Lib.indexByte t.data.toList 10 = -1 then t else t.extract 0 ((Lib.indexByte t.data.toList 10).toNat+1)
def PS(t:ByteArray):ByteArray:=if Lib.indexByte t.data.toList 10 = -1 then⟨#[]⟩else t.extract ((Lib.indexByte t.data.toList 10).toNat+1) t.size
def jD(s:ByteArray):Nat->ByteArray
 |0=>s
 |k+1=>PS (jD s k)
def iR(s:ByteArray):List ByteArray:=(qI s.data.toList).map ofY
theorem Zy(s):ofY s.data.toList=s:=ja (rfl)
theorem szY(s:ByteArray):s.data.toList.length=s.size:=rfl
theorem Cy{t:ByteArray}(h:Lib.indexByte t.data.toList 10 ≠ -1):∃w r,t.data.toList=w++10::r/\(10:UInt8)∉w/\Lib.indexByte t.data.toList 10=(w.length:Int)/\t.extract 0 (w.length+1)=ofY (w++[10])/\(t.extract (w.length+1) t.size).data.toList=r/\w.length+1+r.length=t.size:=by
 obtain ⟨w,r,d,g,e⟩:=xI h;have f:w.length+1+r.length=t.size:=by rw[<-szY,d,aCg,aCh];omega
 have c:t.data.toList=(w++[10])++r:=by simp_all
 refine⟨w,r,d,g,e,ja ?_,?_,f⟩
 ·rw[Uw,List.drop_zero,Nat.sub_zero,c,show w.length+1=(w++[(10:UInt8)]).length by simp,List.take_left];rfl
 rw[Uw,c,show w.length+1=(w++[(10:UInt8)]).length by simp,List.drop_left];exact List.take_of_length_le (by grind)
theorem AQ{t}(h:¬ 0<t.size):iR t=[]:=by have:t.data.toList=[]:=List.length_eq_zero_iff.1 (by simp_all);rw[iR,this];rfl
theorem B4{t}(h:0<t.size):iR t=yM t::iR (PS t)/\(PS t).size<=t.size:=by
 rw[yM,PS];by_cases a:Lib.indexByte t.data.toList 10 = -1
 ·rw[aCe a,aCe a];refine⟨?_,aCw _⟩;rw[iR,LW (xG.1 a) (fun e=>by rw[<-szY]at h;simp_all)];rfl
 rw[aCd a,aCd a];obtain ⟨w,r,c,f,g,d,b,e6⟩:=Cy a;rw[g,aCq,d];refine⟨?_,by simp⟩;rw[iR,c,GN f,List.map_cons,iR,b]
theorem AD(s):∀k,k<=(iR s).length->iR (jD s k)=(iR s).drop k/\(jD s k).size<=s.size
 |0,_=>⟨rfl,aCl _⟩
 | k+1,h=>by
  obtain ⟨b,d⟩:=AD s k (Nat.le_of_succ_le h);have i:0<(jD s k).size:=by
   rcases Nat.lt_or_ge 0 _ with c|c
   ·exact c
   have g:=AQ (t:=jD s k) (by omega);rw[g]at b;have:=congrArg List.length b;rw[aCu,List.length_nil]at this;omega
  obtain ⟨f,e⟩:=B4 i;rw[f]at b;refine⟨?_,Nat.le_trans e d⟩;have:=congrArg List.tail b;rw[List.tail_drop]at this;exact this
theorem Mf{s}{k}(h:k<(iR s).length):(iR s)[k]?=some (yM (jD s k))/\0<(jD s k).size:=by
 obtain ⟨b,i2⟩:=AD s k (Nat.le_of_lt h);have c:0<(jD s k).size:=by
  rcases Nat.lt_or_ge 0 _ with d|d
  ·exact d
  have e:=AQ (t:=jD s k) (by omega);rw[e]at b;have:=congrArg List.length b;rw[aCu,List.length_nil]at this;omega
 refine⟨?_,c⟩;rw[(B4 c).1]at b;have:=congrArg List.head? b;rw[List.head?_drop]at this;exact this.symm
def lB(s:ByteArray):Ob:=bx 1 9 [sv s]
theorem Me(s)(H)(b:H.get 933=none):aW Tryz.prog 115 [sv s] H (fun r H'=>r=.clo 153 [.ref 933 0 0 0]/\H'=(933,lB s)::H):=by refine Bd func115 rfl ntmps115<|Sd (rW rfl rfl rfl rfl b)<|Zd aH<|Sd (hU rfl rfl)<|Zd aH<|aB ?_;refine dA (.inr rfl) rfl (aJ rfl) Fin.refl ?_;exact Qq
theorem Ci(s:ByteArray)(y:AV)(j:Nat->aG)(hs:s.size<1099511627776)(f:∀k,(j k).get 933=some (lB (jD s k)))
  (E:∀k,k<(iR s).length->dI Tryz.prog y [sv (yM (jD s k))] ((933,lB (jD s (k+1)))::j k) (fun r H'=>r=bv true/\H'=j (k+1))) :
  aW Tryz.prog 153 [y,.ref 933 0 0 0] (j 0) (fun r H'=>r=.tup []/\H'=j (iR s).length):=by
 refine Bd func153 rfl ntmps153<|aE ?_;refine bJ (σ:=Nat) (fun k=>([(0,y),(1,.ref 933 0 0 0)],j k)) (fun k=>k<=(iR s).length) (fun k=>(iR s).length - k) 0 (aCw _) ?_ ?_
 ·exact E0
 rintro k F;obtain ⟨q,i2⟩:=AD s k F;have D:=fun H=>rB (jD s k) 10 H;have A:jD s (k+1)=PS (jD s k):=rfl;refine Sq<|Sd (by exact bA rfl isAgg9 rfl (f k) rfl rfl rfl)<|Dd (gF underlying9)<|Zd gX ?_;refine Cn ?_ ?_<;>intro o
 ·have I:0<(jD s k).size:=by have:=aCb o;omega
  have x:k<(iR s).length:=by
   rcases Nat.lt_or_ge k (iR s).length with h|h
   ·exact h
   rw[(B4 I).1,List.drop_eq_nil_of_le h]at q;cases q
  have c:=E k x;rw[A,PS,yM]at c;rcases Classical.em (Lib.indexByte (jD s k).data.toList 10 = -1)with i|i
  ·rw[aCe i,aCe i]at c;have l:∀H,RC 140 [sv (jD s k),.pv (.int .u8 10)] (iv (-1)) H:=fun H=>by
    have:=D H
    rwa [show Lib.indexByte (jD s k).data.toList ((10:Int).toNat.toUInt8) = -1 from i]at this
   refine aA<|aE<|Sz aH<|Sq<|Sd (by exact bA rfl isAgg9 rfl (f k) rfl rfl rfl)<|Dd (kc zP (l _))<|Zd aH<|Sd aC<|Zd CX ?_;refine Cn ?_ ?_<;>intro B
   ·cases B
   refine Rd (by exact bA rfl isAgg9 rfl (f k) rfl rfl rfl)<|Dd aH<|Uu (by exact kZ rfl sizeOf9 rfl rfl rfl rfl (f k) rfl rfl rfl)<|Zz<|Sd aC<|Dd aC<|Dd (by exact cW rfl rfl rfl (c))<|Zd iJ ?_;refine Cn ?_ ?_<;>intro u
   ·cases u
   refine aA ?_;exact⟨k+1,by omega,by omega,E0⟩
  rw[aCd i,aCd i]at c;obtain ⟨w,r,e1,e2,C,e4,e5,e6⟩:=Cy i;rw[C,aCq]at c;have l:∀H,RC 140 [sv (jD s k),.pv (.int .u8 10)] (iv (w.length:Int)) H:=fun H=>by
   have:=D H
   rwa [show Lib.indexByte (jD s k).data.toList ((10:Int).toNat.toUInt8)=(w.length:Int)from C]at this
  refine aA<|aE<|Sz aH<|Sq<|Sd (by exact bA rfl isAgg9 rfl (f k) rfl rfl rfl)<|Dd (kc zP (l _))<|Zd aH<|Sd aC<|Zd CX ?_;refine Cn ?_ ?_<;>intro t
  ·refine aL follows<|Cr [933] (fun n d=>by exact bA rfl isAgg9 rfl ((d _ rfl).trans (f k)) rfl rfl rfl)<|Cr [] (fun _ _=>aC)<|Cr [] (fun n d=>by exact eA rfl rfl rfl (show IntKind.i64.wrap ((w.length:Int)+1)=((w.length+1:Nat):Int)by rw[IntKind.wrap_i64];omega))<|Cr [] (fun n d=>by exact cB (l:=0) (h:=(w.length+1)) rfl underlying9 rfl rfl rfl (by omega) (by omega) rfl)<|Cr [933] (fun n d=>by exact bA rfl isAgg9 rfl ((d _ rfl).trans (f k)) rfl rfl rfl)<|Cr [] (fun _ _=>aC)<|Cr [] (fun n d=>by exact eA rfl rfl rfl (show IntKind.i64.wrap ((w.length:Int)+1)=((w.length+1:Nat):Int)by rw[IntKind.wrap_i64];omega))<|Cr [] (fun n d=>by exact cB (l:=(w.length+1)) (h:=(jD s k).size) rfl underlying9 rfl rfl rfl (by omega) (by omega) rfl)<|Cr [] (fun _ _=>aH) ?_;refine Cp [933] (fun n d=>by exact kZ rfl sizeOf9 rfl rfl rfl rfl ((d _ rfl).trans (f k)) rfl rfl rfl)<|bF<|Kr<|Sd aC<|Dd aC<|Dd (by exact cW rfl rfl rfl (c))<|Zd iJ ?_;refine Cn ?_ ?_<;>intro z
   ·cases z
   refine aA ?_;exact⟨k+1,by omega,by omega,E0⟩
  have:=aCc t;omega
 have G:¬ 0<(jD s k).size:=by have:=aCc o;omega
 have v:k=(iR s).length:=by
  rw[AQ G]at q;have:=congrArg List.length q;rw[List.length_nil,aCu]at this;omega
 subst v;refine aS ?_;exact uP (H':=j (iR s).length) (.inl rfl) rfl Fin.refl ⟨rfl,rfl⟩
theorem xn(w):Lib.trimSuffix (w++[10]) [10]=w:=by rw[Lib.trimSuffix,Lib.hasSuffix];simp
theorem xp(s:ByteArray):DE s=ofL (Lib.trimSuffix s.data.toList [10]):=by
 have hz:=szY s;rw[DE];cases h:CH s with
 | true =>
  rw[CH,aCo,aCm,aCm]at h;obtain ⟨h1,f⟩:=h;have e:s.data.toList.drop (s.size - 1)=[10]:=by
   have:=congrArg (fun x=>x.data.toList) f;rw[Uw]at this;refine Eq.trans ?_ (show Yf.data.toList=[10]from rfl);rw[<-this];exact(List.take_of_length_le (by simp_all)).symm
  have b:s.data.toList=s.data.toList.take (s.size - 1)++[10]:=by rw[<-e,List.take_append_drop]
  refine ja ?_;rw[aCe rfl,Uw,dD,b,xn,List.drop_zero,Nat.sub_zero,<-b]
 | false =>
  rw[aCd (by decide),Lib.trimSuffix,aCd,hY];intro c;obtain ⟨w,d⟩:=List.isSuffixOf_iff_suffix.1 (show ([10]:List UInt8).isSuffixOf s.data.toList=true from c);have hl:s.size=w.length+1:=by grind
  have:CH s=true:=by
   rw[CH,aCo,aCm,aCm];refine⟨by omega,ja ?_⟩;rw[Uw,<-d,show s.size - 1=w.length by omega,List.drop_left];exact List.take_of_length_le (by rw[List.length_singleton];omega)
  rw[h]at this;cases this
theorem Ni(s):∃b,ji s=.tup [sv (ofL ((dP 32 s.data.toList).headD [])),sv (ofL (s.data.toList.drop (((dP 32 s.data.toList).headD []).length+1))),bv b]:=by
 rw[ji];by_cases h:Lib.indexByte s.data.toList 32 = -1
 ·refine⟨false,?_⟩;rw[aCe h,qW (xG.1 h),List.headD_cons,List.drop_eq_nil_of_le (Nat.le_succ _),hY];rfl
 obtain ⟨w,r,d,e,f⟩:=xI h;refine⟨true,?_⟩;obtain ⟨j,g⟩:=Bq d;have i:s.data.toList.drop (w.length+1)=r:=by
  simp_all
 have c:(dP 32 s.data.toList).headD []=w:=by rw[d,jI e];rfl
 rw[aCd h,c,i,f,aCq,j,show s.extract _ s.size=ofL r from ja (by rw[g,dD])];rfl
theorem qo(s)(i)(h:i<(cL s).length):(cL s)[i]?=some (ofL ((dP 32 s.data.toList).getD i [])):=by rw[cL,aCf]at h;rw[cL,aCz,List.getD_eq_getElem?_getD,aCk h];rfl
theorem qn(s):(cL s).length=(dP 32 s.data.toList).length:=aCf _
theorem sB{a b}:ofL a=ofL b↔a=b:=⟨fun h=>by rw[<-dD a,h,dD],fun h=>by rw[h]⟩
theorem cI(s)(l):cZ (s::l)=s.size+cZ l:=rfl
theorem xC{e}{a}(b:e.op≠1)(h:bs a=fV e):(⟨(bU [32] (bs a)).toArray⟩)++⟨#[10]⟩=ofL (fD e++[10]):=ja (by
 rw[dD,fD,aCd b,<-h];simp)
theorem Kk{e}(a:e.op=1):(⟨#[112,117,116,32]⟩)++(eS e.obj).1++⟨#[10]⟩=ofL (fD e++[10]):=ja (by
 rw[fD,aCe a];rfl)
theorem KE{o}:(eS o).1.size<=20000:=by
 rw[eS]
 split
 ·split
  ·exact aCw _
  split
  ·exact aCw _
  simp_all
 exact aCw _
theorem Uc(e:GEdit)(H:aG)(he:KD e)(hv:dT e=true):RC 161 [av (aZ e)] (.tup [sv (ofL (fD e++[10])),iv (fG e)]) H:=by
 refine Pu ?_;obtain ⟨⟨o1,o2⟩,F,o4⟩:=tI.1 hv;rw[rY]at F;have hval:=GT hv;have hs0:cZ []=0:=rfl;refine Bd func161 rfl ntmps161<|Sd (kb 1)<|Dd aH<|Zd aH<|Sz aH<|Sq<|Sd (aV gN)<|Zd (bD isAgg3)<|aE<|Sd cF<|Da ?_;refine Cn ?_ ?_<;>intro A
 ·have E:e.op=1:=aCb A;have y:=KE (o:=e.obj);have h4:(⟨#[112,117,116,32]⟩:ByteArray).size=4:=rfl;have h10:(⟨#[10]⟩:ByteArray).size=1:=rfl;have h4s:((⟨#[112,117,116,32]⟩:ByteArray)++(eS e.obj).1).size=4+(eS e.obj).1.size:=by simp_all
  refine Sd (aV oV)<|Dd (kY bZ sizeOf151)<|Dd (kc call196 (TR e.obj _ he.2.2))<|Dd aC<|Dd eG<|Dd eG<|Dd aH<|Zd aH<|Sd aC<|Dd kq<|Dd kq<|Dd aC<|Dd aH<|Zd aH<|aB<|Ru ?_;rw[Kk E,show fG e=(eS e.obj).2 from aCe E];exact Qq
 have E:e.op≠1:=aCc A;rw[aCd E,aCo]at F;obtain ⟨o5,o6⟩:=F;have hid:=dL o5;refine Sd cF<|Da ?_;refine Cn ?_ ?_<;>intro D
 ·have h2:e.op=2:=aCb D;rw[aCe h2,Bl,aCo,aCm,aCm]at o6;have hx:0<=e.x/\e.x<1048576:=by omega
  have hy:0<=e.y/\e.y<1048576:=by omega
  have Rv:(aY e.x).size<=7:=by rw[<-bC];show (Lib.itoa e.x).length<=7;rw[jL _ hx.1];exact dF (by omega) (by decide)
  have siy:(aY e.y).size<=7:=by rw[<-bC];show (Lib.itoa e.y).length<=7;rw[jL _ hy.1];exact dF (by omega) (by decide)
  have hw0:(⟨#[109,111,118,101]⟩:ByteArray).size=4:=rfl;refine aL follows<|Cq (aV iE)<|Cq (bD isAgg9)<|Cq (aV iD)<|Cq (aV pC)<|Cq (bD isAgg3)<|Cq (kc qR (vX e.x (by omega) (by omega) _))<|Cq (aV iD)<|Cq (aV pB)<|Cq (bD isAgg3)<|Cq (kc qR (vX e.y (by omega) (by omega) _))<|Cq (by exact aN (([⟨#[109,111,118,101]⟩,e.id,aY e.x,aY e.y]:List ByteArray).map encStr) rfl bT rfl rfl rfl rfl rfl (iS _))<|Cq aH<|bF<|Kr<|Sr<|Dm ?_;have hw:bs [⟨#[109,111,118,101]⟩,e.id,aY e.x,aY e.y]=fV e:=by
   rw[fV]
   (rw[aCe h2];rfl)
  have hne:e.op≠1:=by omega
  have hj:∀H,RC 158 [.pv (aU [⟨#[109,111,118,101]⟩,e.id,aY e.x,aY e.y]),sv ⟨#[32]⟩] (sv ⟨(bU [32] (bs [⟨#[109,111,118,101]⟩,e.id,aY e.x,aY e.y])).toArray⟩) H:=fun H=>vV [⟨#[109,111,118,101]⟩,e.id,aY e.x,aY e.y] ⟨#[32]⟩ H (by decide) (by show 1*_+_+_<_;simp only[cI,aCh,List.length_nil];omega);have hjs:(⟨(bU [32] (bs [⟨#[109,111,118,101]⟩,e.id,aY e.x,aY e.y])).toArray⟩:ByteArray).size<=70000:=by
   show (bU [32] (bs [⟨#[109,111,118,101]⟩,e.id,aY e.x,aY e.y])).length<=_;have:=fK [⟨#[109,111,118,101]⟩,e.id,aY e.x,aY e.y];simp only[cI,aCh,List.length_nil]at this;omega
  have h10:(⟨#[10]⟩:ByteArray).size=1:=rfl;refine Dd (kc qQ (hj _))<|Dd kq<|Dd aH<|Zd aH<|aB<|Ru ?_;rw[xC hne hw,show fG e=0 from aCd hne];exact Qq
 have h2:e.op≠2:=aCc D;rw[aCd h2]at o6;refine Sd cF<|Da ?_;refine Cn ?_ ?_<;>intro B
 ·have h3:e.op=3:=aCb B;rw[aCe h3,aCo,aCm]at o6;have hks:=dL o6.1;have hq:=qD e.val;have hw0:(⟨#[116,97,103]⟩:ByteArray).size=3:=rfl;refine aL follows<|Cq (aV iE)<|Cq (bD isAgg9)<|Cq (aV kQ)<|Cq (bD isAgg9)<|Cq (aV lG)<|Cq (bD isAgg9)<|Cq (kc call203 (mz e.val _ (by omega)))<|Cq (by exact aN (([⟨#[116,97,103]⟩,e.id,e.key,⟨(cX e.val.data.toList).toArray⟩]:List ByteArray).map encStr) rfl bT rfl rfl rfl rfl rfl (iS _))<|Cq aH<|bF<|Kr<|Sr<|Dm ?_;have hw:bs [⟨#[116,97,103]⟩,e.id,e.key,⟨(cX e.val.data.toList).toArray⟩]=fV e:=by
   rw[fV]
   (rw[aCd h2,aCe h3];rfl)
  have hne:e.op≠1:=by omega
  have hj:∀H,RC 158 [.pv (aU [⟨#[116,97,103]⟩,e.id,e.key,⟨(cX e.val.data.toList).toArray⟩]),sv ⟨#[32]⟩] (sv ⟨(bU [32] (bs [⟨#[116,97,103]⟩,e.id,e.key,⟨(cX e.val.data.toList).toArray⟩])).toArray⟩) H:=fun H=>vV [⟨#[116,97,103]⟩,e.id,e.key,⟨(cX e.val.data.toList).toArray⟩] ⟨#[32]⟩ H (by decide) (by show 1*_+_+_<_;simp only[cI,aCh,List.length_nil];omega);have hjs:(⟨(bU [32] (bs [⟨#[116,97,103]⟩,e.id,e.key,⟨(cX e.val.data.toList).toArray⟩])).toArray⟩:ByteArray).size<=70000:=by
   show (bU [32] (bs [⟨#[116,97,103]⟩,e.id,e.key,⟨(cX e.val.data.toList).toArray⟩])).length<=_;have:=fK [⟨#[116,97,103]⟩,e.id,e.key,⟨(cX e.val.data.toList).toArray⟩];simp only[cI,aCh,List.length_nil]at this;omega
  have h10:(⟨#[10]⟩:ByteArray).size=1:=rfl;refine Dd (kc qQ (hj _))<|Dd kq<|Dd aH<|Zd aH<|aB<|Ru ?_;rw[xC hne hw,show fG e=0 from aCd hne];exact Qq
 have h3:e.op≠3:=aCc B;rw[aCd h3]at o6;refine Sd cF<|Da ?_;refine Cn ?_ ?_<;>intro hc4
 ·have h4:e.op=4:=aCb hc4;rw[aCe h4,aCo,aCo,aCm,aCm,List.all_eq_true]at o6;obtain ⟨⟨r1,r2⟩,r3⟩:=o6;have hrs:cZ e.refs<=24*e.refs.length:=oH (fun s hs=>dL (r3 s hs));have hw0:(⟨#[114,101,102,115]⟩:ByteArray).size=4:=rfl;have hfl:(([[⟨#[114,101,102,115]⟩,e.id],e.refs]:List (List ByteArray)).flatten).length<1099511627776:=by grind
  refine Rd (aV iE)<|Dd (bD isAgg9)<|Dd (by exact aN (([⟨#[114,101,102,115]⟩,e.id]:List ByteArray).map encStr) rfl bT rfl rfl rfl rfl rfl (iS _))<|Dd (aV fB)<|Dd (bD aF)<|Dd (by exact aN (([[⟨#[114,101,102,115]⟩,e.id],e.refs]:List (List ByteArray)).map (fun l=>[.sl (l.map encStr)])) rfl LM rfl rfl rfl rfl rfl (by simp))<|Dd (kc call204 (KZ [[⟨#[114,101,102,115]⟩,e.id],e.refs] _ (by simp_all) hfl))<|Zd aH<|Sr<|Dm ?_;rw[show ([[⟨#[114,101,102,115]⟩,e.id],e.refs]:List (List ByteArray)).flatten=⟨#[114,101,102,115]⟩::e.id::e.refs by simp];have hw:bs (⟨#[114,101,102,115]⟩::e.id::e.refs)=fV e:=by
   rw[fV]
   (rw[aCd h2,aCd h3,aCe h4];rfl)
  have hne:e.op≠1:=by omega
  have hj:∀H,RC 158 [.pv (aU (⟨#[114,101,102,115]⟩::e.id::e.refs)),sv ⟨#[32]⟩] (sv ⟨(bU [32] (bs (⟨#[114,101,102,115]⟩::e.id::e.refs))).toArray⟩) H:=fun H=>vV (⟨#[114,101,102,115]⟩::e.id::e.refs) ⟨#[32]⟩ H (by decide) (by show 1*_+_+_<_;simp only[cI,aCh,List.length_nil];omega);have hjs:(⟨(bU [32] (bs (⟨#[114,101,102,115]⟩::e.id::e.refs))).toArray⟩:ByteArray).size<=70000:=by
   show (bU [32] (bs (⟨#[114,101,102,115]⟩::e.id::e.refs))).length<=_;have:=fK (⟨#[114,101,102,115]⟩::e.id::e.refs);simp only[cI,aCh,List.length_nil]at this;omega
  have h10:(⟨#[10]⟩:ByteArray).size=1:=rfl;refine Dd (kc qQ (hj _))<|Dd kq<|Dd aH<|Zd aH<|aB<|Ru ?_;rw[xC hne hw,show fG e=0 from aCd hne];exact Qq
 have h4:e.op≠4:=aCc hc4;rw[aCd h4]at o6;refine Sd cF<|Da ?_;refine Cn ?_ ?_<;>intro w
 ·have z:e.op=5:=aCb w;have hw0:(⟨#[100,114,111,112]⟩:ByteArray).size=4:=rfl;refine Rd (aV iE)<|Dd (bD isAgg9)<|Dd (by exact aN (([⟨#[100,114,111,112]⟩,e.id]:List ByteArray).map encStr) rfl bT rfl rfl rfl rfl rfl (iS _))<|Zd aH<|Sr<|Dm ?_;have hw:bs [⟨#[100,114,111,112]⟩,e.id]=fV e:=by
   rw[fV]
   (rw[aCd h2,aCd h3,aCd h4,aCe z];rfl)
  have hne:e.op≠1:=by omega
  have hj:∀H,RC 158 [.pv (aU [⟨#[100,114,111,112]⟩,e.id]),sv ⟨#[32]⟩] (sv ⟨(bU [32] (bs [⟨#[100,114,111,112]⟩,e.id])).toArray⟩) H:=fun H=>vV [⟨#[100,114,111,112]⟩,e.id] ⟨#[32]⟩ H (by decide) (by show 1*_+_+_<_;simp only[cI,aCh,List.length_nil];omega);have hjs:(⟨(bU [32] (bs [⟨#[100,114,111,112]⟩,e.id])).toArray⟩:ByteArray).size<=70000:=by
   show (bU [32] (bs [⟨#[100,114,111,112]⟩,e.id])).length<=_;have:=fK [⟨#[100,114,111,112]⟩,e.id];simp only[cI,aCh,List.length_nil]at this;omega
  have h10:(⟨#[10]⟩:ByteArray).size=1:=rfl;refine Dd (kc qQ (hj _))<|Dd kq<|Dd aH<|Zd aH<|aB<|Ru ?_;rw[xC hne hw,show fG e=0 from aCd hne];exact Qq
 have z:e.op≠5:=aCc w;rw[aCd z]at o6;refine Sd cF<|Da ?_;refine Cn ?_ ?_<;>intro hc6
 ·have C:e.op=6:=aCb hc6;rw[aCe C,aCo]at o6;have hns:=dL o6.1;have y:=dL o6.2;have hw0:(⟨#[115,112,108,105,116]⟩:ByteArray).size=5:=rfl;refine Rd (aV iE)<|Dd (bD isAgg9)<|Dd (aV nC)<|Dd (bD isAgg9)<|Dd (aV iL)<|Dd (bD isAgg9)<|Dd (by exact aN (([⟨#[115,112,108,105,116]⟩,e.id,e.node,e.other]:List ByteArray).map encStr) rfl bT rfl rfl rfl rfl rfl (iS _))<|Zd aH<|Sr<|Dm ?_;have hw:bs [⟨#[115,112,108,105,116]⟩,e.id,e.node,e.other]=fV e:=by
   rw[fV]
   (rw[aCd h2,aCd h3,aCd h4,aCd z,aCe C];rfl)
  have hne:e.op≠1:=by omega
  have hj:∀H,RC 158 [.pv (aU [⟨#[115,112,108,105,116]⟩,e.id,e.node,e.other]),sv ⟨#[32]⟩] (sv ⟨(bU [32] (bs [⟨#[115,112,108,105,116]⟩,e.id,e.node,e.other])).toArray⟩) H:=fun H=>vV [⟨#[115,112,108,105,116]⟩,e.id,e.node,e.other] ⟨#[32]⟩ H (by decide) (by show 1*_+_+_<_;simp only[cI,aCh,List.length_nil];omega);have hjs:(⟨(bU [32] (bs [⟨#[115,112,108,105,116]⟩,e.id,e.node,e.other])).toArray⟩:ByteArray).size<=70000:=by
   show (bU [32] (bs [⟨#[115,112,108,105,116]⟩,e.id,e.node,e.other])).length<=_;have:=fK [⟨#[115,112,108,105,116]⟩,e.id,e.node,e.other];simp only[cI,aCh,List.length_nil]at this;omega
  have h10:(⟨#[10]⟩:ByteArray).size=1:=rfl;refine Dd (kc qQ (hj _))<|Dd kq<|Dd aH<|Zd aH<|aB<|Ru ?_;rw[xC hne hw,show fG e=0 from aCd hne];exact Qq
 have C:e.op≠6:=aCc hc6;rw[aCd C]at o6;have y:=dL o6;have hw0:(⟨#[106,111,105,110]⟩:ByteArray).size=4:=rfl;refine Rd (aV iE)<|Dd (bD isAgg9)<|Dd (aV iL)<|Dd (bD isAgg9)<|Dd (by exact aN (([⟨#[106,111,105,110]⟩,e.id,e.other]:List ByteArray).map encStr) rfl bT rfl rfl rfl rfl rfl (iS _))<|Zd aH<|Sr<|Dm ?_;have hw:bs [⟨#[106,111,105,110]⟩,e.id,e.other]=fV e:=by
  rw[fV]
  (rw[aCd h2,aCd h3,aCd h4,aCd z,aCd C];rfl)
 have hne:e.op≠1:=by omega
 have hj:∀H,RC 158 [.pv (aU [⟨#[106,111,105,110]⟩,e.id,e.other]),sv ⟨#[32]⟩] (sv ⟨(bU [32] (bs [⟨#[106,111,105,110]⟩,e.id,e.other])).toArray⟩) H:=fun H=>vV [⟨#[106,111,105,110]⟩,e.id,e.other] ⟨#[32]⟩ H (by decide) (by show 1*_+_+_<_;simp only[cI,aCh,List.length_nil];omega);have hjs:(⟨(bU [32] (bs [⟨#[106,111,105,110]⟩,e.id,e.other])).toArray⟩:ByteArray).size<=70000:=by
  show (bU [32] (bs [⟨#[106,111,105,110]⟩,e.id,e.other])).length<=_;have:=fK [⟨#[106,111,105,110]⟩,e.id,e.other];simp only[cI,aCh,List.length_nil]at this;omega
 have h10:(⟨#[10]⟩:ByteArray).size=1:=rfl;refine Dd (kc qQ (hj _))<|Dd kq<|Dd aH<|Zd aH<|aB<|Ru ?_;rw[xC hne hw,show fG e=0 from aCd hne];exact Qq
theorem OA:∀ {l} {acc},(qT acc l).2=0->(∀e∈l,fG e=0)/\qT acc l=(acc++l.flatMap fun e=>fD e++[10],0)/\(acc.length<=20000->(qT acc l).1.length<=20000)
 | [],acc,_=>⟨(fun e h=>by cases h),by rw[qT,List.flatMap_nil,List.append_nil],fun h=>h⟩
 |e::l,acc,h=>by
  rw[qT]at h |-;by_cases b:fG e≠0\/20000<(acc++(fD e++[10])).length
  ·simp_all
  rw[aCd b]at h |-;obtain ⟨i1,i2,i3⟩:=OA h
  simp_all
theorem GU{l}(h:kP l=true):l≠[]/\∀e∈l,dT e=true:=by
 rw[kP,aCo]at h
 grind
theorem Iv(w):Lib.trimSuffix (w++[10]) [10]=w:=by rw[Lib.trimSuffix,Lib.hasSuffix];simp
theorem DK{l}(h:(dS l).2=0):gT (dS l).1=(l,0):=by
 have b:kP l=true:=by
  rw[dS]at h
  grind
 obtain ⟨hne,d⟩:=GU b;rw[dS,aCe b]at h;obtain ⟨c,f,h3⟩:=OA h;rw[List.nil_append]at f;have j:dS l=(ofL (l.flatMap fun e=>fD e++[10]),0):=by rw[dS,aCe b,f]
 have hsz:(ofL (l.flatMap fun e=>fD e++[10])).size<=20000:=by rw[cM];simp_all
 have hl:(qI (ofL (l.flatMap fun e=>fD e++[10])).data.toList).map (fun s=>mZ (Lib.trimSuffix s [10]))=l:=by
  have g:=FY (fun w i=>by
   obtain ⟨e,a,rfl⟩:=List.mem_map.1 i;exact(J1 (d e a) (c e a)).2)
  rw[List.flatMap_map]at g;rw[dD,g,List.map_map,List.map_map];refine(List.map_congr_left fun e a=>?_).trans (List.map_id l);show mZ _=e;rw[Iv];exact(J1 (d e a) (c e a)).1
 rw[j,gT]
 simp_all
theorem Uh(g)(l)(u):aW Tryz.prog 162 [.ref 2001 0 0 0] (yA g l u) (fun r H'=>r=iv (l.length)/\H'=yA g l u):=by refine Bd func162 rfl ntmps162<|Sz aH<|Sd aC<|Dd vS<|Dd (aV gV)<|Dd (bD dX)<|Dd (by exact dU rfl dG rfl rfl rfl)<|Zd aH<|aB ?_;refine dA (.inr rfl) rfl (aJ rfl) Fin.refl ?_;exact Qq
abbrev Fp(l:List UInt8)(g:Nat)(u:Bool):Ob:=C3 (.osl 2002 g 0 l.length) u
abbrev Fm(l:List UInt8)(g:Nat):Ob:=⟨g,1,5,fE l⟩
theorem aAJ{g c}{l b}{u u'}{id}(h:(aG.get (yA g l u) id).isSome=true):(aG.get (yA c b u') id).isSome=true:=nt h
theorem aAI{g}{l}{u u':Bool}{id}(h:(aG.get (uy g l u) id).isSome=true):(aG.get (yA g l u) id).isSome=true:=by
 simp[uy,yA,aG.get]at h |-
 grind
theorem Xb{H}{g}{l}{u}(s)(b:H.get 2001=some (Fp l g u))(a:H.get 2002=some (Fm l g))(c:l.length+s.size<70368744177664):aW Tryz.prog 109 [.ref 2001 0 0 0,sv s] H (fun r H'=>r=.tup [iv (s.size),.pv KG]/\H'=yA (g+1) (l++s.data.toList) true++H) :=aW.frame (jV g l u s c) (Sub.of2 b a) (eE.ofL ⟨(gM rfl rfl),(eP _ _),trivial⟩) (by simp;rfl) (fun id h=>.inl (aAJ h))
theorem Ug{H}{g}{l}{u}(a:H.get 2001=some (Fp l g u))(b:H.get 2002=some (Fm l g)):RC 162 [.ref 2001 0 0 0] (iv (l.length)) H :=aW.frameS (Uh g l u) (Sub.of2 a b) (eE.ofL ⟨(gM rfl rfl),(eP _ _),trivial⟩) (by simp;rfl)
theorem Rp{H}{g}{l}{u}(b:H.get 2001=some (Fp l g u))(a:H.get 2002=some (Fm l g))(c:l.length<70368744177664):aW Tryz.prog 111 [.ref 2001 0 0 0] H (fun r H'=>r=sv ⟨l.toArray⟩/\H'=uy g l u++H) :=aW.frame (S0 g l u c) (Sub.of2 b a) (eE.ofL ⟨(gM rfl rfl),(eP _ _),trivial⟩) (by simp;rfl) (fun id h=>.inl (aAI (u':=u) h))
def uK:Nat->Bool
 |0=>false
 |_+1=>true
def oX(l:List GEdit)(k:Nat):List UInt8:=(l.take k).flatMap fun e=>fD e++[10]
theorem U7{l}{k}{e}(h:l[k]?=some e):oX l (k+1)=oX l k++(fD e++[10]):=by rw[oX,List.take_add_one,h];simp[oX]
theorem T6{e:GEdit}(r:dT e=true):(fD e).length<=100000:=by
 obtain ⟨⟨o1,o2⟩,o,o4⟩:=tI.1 r;rw[rY]at o;have hval:=GT r;by_cases q:e.op=1
 ·rw[fD,aCe q,aCg,aCh,bC];have:=KE (o:=e.obj);show 3+_<=_;omega
 rw[aCd q,aCo]at o;obtain ⟨t,c⟩:=o;have hid:=dL t;have d:∀k:List ByteArray,bs k=fV e->k.length+cZ k<=100000->(fD e).length<=100000:=fun k h g=>by
  rw[fD,aCd q,<-h];exact Nat.le_trans (fK k) g
 by_cases g:e.op=2
 ·rw[aCe g,Bl,aCo,aCm,aCm]at c;have Rv:(aY e.x).size<=7:=by rw[<-bC];show (Lib.itoa e.x).length<=7;rw[jL _ (by omega)];exact dF (by omega) (by decide)
  have siy:(aY e.y).size<=7:=by rw[<-bC];show (Lib.itoa e.y).length<=7;rw[jL _ (by omega)];exact dF (by omega) (by decide)
  have f:(⟨#[109,111,118,101]⟩:ByteArray).size=4:=rfl;exact d [⟨#[109,111,118,101]⟩,e.id,aY e.x,aY e.y] (by rw[fV,aCe g];rfl) (by simp only[cI,aCh,List.length_nil,show cZ []=0 from rfl];omega)
 rw[aCd g]at c;by_cases i:e.op=3
 ·rw[aCe i,aCo]at c;have hks:=dL c.1;have hq:=qD e.val;have f:(⟨#[116,97,103]⟩:ByteArray).size=3:=rfl;exact d [⟨#[116,97,103]⟩,e.id,e.key,⟨(cX e.val.data.toList).toArray⟩] (by rw[fV,aCd g,aCe i];rfl) (by simp only[cI,aCh,List.length_nil,show cZ []=0 from rfl];omega)
 rw[aCd i]at c;by_cases j:e.op=4
 ·rw[aCe j,aCo,aCo,aCm,aCm,List.all_eq_true]at c;obtain ⟨⟨r1,r2⟩,v⟩:=c;have hrs:cZ e.refs<=24*e.refs.length:=oH (fun s u=>dL (v s u));have f:(⟨#[114,101,102,115]⟩:ByteArray).size=4:=rfl;exact d (⟨#[114,101,102,115]⟩::e.id::e.refs) (by rw[fV,aCd g,aCd i,aCe j];rfl) (by simp only[cI,aCh];omega)
 rw[aCd j]at c;by_cases m:e.op=5
 ·have f:(⟨#[100,114,111,112]⟩:ByteArray).size=4:=rfl;exact d [⟨#[100,114,111,112]⟩,e.id] (by rw[fV,aCd g,aCd i,aCd j,aCe m];rfl) (by simp only[cI,aCh,List.length_nil,show cZ []=0 from rfl];omega)
 rw[aCd m]at c;by_cases l:e.op=6
 ·rw[aCe l,aCo]at c;have hns:=dL c.1;have n:=dL c.2;have f:(⟨#[115,112,108,105,116]⟩:ByteArray).size=5:=rfl;exact d [⟨#[115,112,108,105,116]⟩,e.id,e.node,e.other] (by rw[fV,aCd g,aCd i,aCd j,aCd m,aCe l];rfl) (by simp only[cI,aCh,List.length_nil,show cZ []=0 from rfl];omega)
 rw[aCd l]at c;have n:=dL c;have f:(⟨#[106,111,105,110]⟩:ByteArray).size=4:=rfl;exact d [⟨#[106,111,105,110]⟩,e.id,e.other] (by rw[fV,aCd g,aCd i,aCd j,aCd m,aCd l];rfl) (by simp only[cI,aCh,List.length_nil,show cZ []=0 from rfl];omega)
theorem lj(l:List GEdit)(H:aG)(A:l.length<4611686018427387904)(y:∀e∈l,KD e):RC 118 [.pv (fX l)] (.tup [sv (dS l).1,iv (dS l).2]) H:=by
 refine Pu ?_;have hml:(l.map aZ).length=l.length:=aCf _;refine Bd func118 rfl ntmps118<|Sd aH<|Zd aH<|Sq<|Sd aC<|Dd (kc call160 (SJ l _ A y))<|Zd iJ ?_;refine Cn ?_ ?_<;>intro m
 ·have s:kP l=false:=by have h:=m;rwa [aCy]at h
  rw[show dS l=(sNil,1)by rw[dS,s];rfl];exact Sd aH<|Zd aH<|aB<|Ru<|Qq
 have s:kP l=true:=by have h:=m;rwa [Bool.not_eq_false']at h
 have x:=(GU s).2;have z:dS l=(ofL (qT [] l).1,(qT [] l).2):=by rw[dS,aCe s]
 refine aA<|Sz (kl 2001 JR)<|Sq<|Sq ?_;refine gC.ent (E':=[(0,.pv (fX l)),(4,.ref 2001 0 0 0)]) (H':=[(2002,⟨0,1,5,[]⟩),(2001,C3 (.osl 2002 0 0 0) false)]) (cQ.nz 2002 1 5 rfl rfl ⟨⟨_,rfl,(by exact Nz.same (by(simp;done)))⟩,⟨_,rfl,(by exact Nz.same (by(simp;rfl)))⟩,trivial⟩ ⟨⟨_,rfl,rfl,rfl,rfl,(by exact .inr ⟨_,_,rfl,rfl,(by repeat(first|exact trivial|refine⟨(by first|exact Nz.own|exact Nz.same (by(simp;done))),?_⟩))⟩)⟩,trivial⟩ trivial) ?_;refine Rd aC<|Dd (eR cT)<|Zd aC<|aE ?_;refine bJ (σ:=Nat) (fun k=>([(4,.ref 2001 0 0 0),(12,.pv (fX l)),(13,iv ((l.map aZ).length:Int)),(14,iv (k:Int))],[(2001,Fp (oX l k) k (uK k)),(2002,Fm (oX l k) k)])) (fun k=>k<=l.length/\qT [] l=qT (oX l k) (l.drop k)/\(oX l k).length<=20000) (fun k=>l.length - k) 0 ⟨aCw _,rfl,aCw _⟩ ?_ ?_
 ·exact(cQ.wk (Ea<|Eb<|Eb<|Eb<|trivial) (Hc (gM rfl rfl)<|Hc (eP _ _)<|trivial) trivial)
 rintro k ⟨hk,f,hA⟩;refine Sz cJ<|Sq ?_;refine Cn ?_ ?_<;>intro n
 ·have g:k<l.length:=by have:=aCb n;omega
  obtain ⟨e,j⟩:=aT g;have hi:=cE (f:=aZ) j;have i:=aCp j;have c:=U7 j;have hYl:=T6 (x e i);have w:l.drop k=e::l.drop (k+1):=by
   rw[List.drop_eq_getElem_cons g]
   simp_all
  rw[w,qT]at f;have hsz:(ofL (fD e++[10])).size=(fD e).length+1:=by rw[cM,aCg];rfl
  have t:yA (k+1) (oX l k++(ofL (fD e++[10])).data.toList) true=yA (k+1) (oX l (k+1)) true:=by rw[dD,c]
  have hnl:(oX l (k+1)).length=(oX l k).length+((fD e).length+1):=by simp_all
  have D:∀H,H.get 2001=some (Fp (oX l k) k (uK k))->H.get 2002=some (Fm (oX l k) k)->aW Tryz.prog 109 [.ref 2001 0 0 0,sv (ofL (fD e++[10]))] H (fun r H'=>r=.tup [iv ((ofL (fD e++[10])).size:Int),.pv KG]/\H'=yA (k+1) (oX l (k+1)) true++H):=fun H B C=>by
   have:=Xb (H:=H) (ofL (fD e++[10])) B C (by omega)
   rwa [t]at this
  refine aA<|Sq<|aE<|Sd (jE OP)<|Dd (by exact dM rfl bW aR rfl (by omega) rfl rfl)<|Dd (kl 6 N2)<|Uu (iP aR)<|Zz<|Sd (kY bW aR)<|Dd (kc call161 (Uc e _ (y e i) (x e i)))<|Dd aC<|Dd eG<|Dd eG<|Dd aH<|Zd aH<|Sd aC<|Zd (kc oD (D _ rfl rfl))<|Sq ?_;refine aQ (t:=30) (n:=7) (X:=!decide (fG e=0)||decide ((20000:Int)<((oX l (k+1)).length:Int))) ?_ ?_
  ·all_goals refine Dd aC ?_
   all_goals refine Dd rI<|Dm ?_<;>(refine Sp 27 (fun u=>?_) fun u=>?_)<;>(first|contradiction|refine Fo<|Fo ?_|refine On (kc zO (Ug (l:=oX l (k+1)) (g:=k+1) (u:=true) rfl rfl))<|On gX ?_)<;>refine Zd cD ?_<;>(exact⟨⟨_,rfl,by simp_all⟩,rfl,rfl,rfl⟩)
  refine Cn ?_ ?_<;>intro p
  ·have q:fG e≠0\/20000<(oX l k++(fD e++[10])).length:=by have h:=p;rw[<-c];simp only[Bool.or_eq_true,aCy,aCn,aCm]at h;omega
   rw[aCe q]at f;rw[z,f];exact Sd aH<|Zd aH<|aB<|Ru<|Qq
  have d:¬ (fG e≠0\/20000<(oX l k++(fD e++[10])).length):=by have h:=p;rw[<-c];simp only[aDB,Bool.not_eq_false',aCn,aCm]at h;omega
  rw[aCd d,<-c]at f;rw[<-c]at d;refine aA<|Rd iF<|Zd aC ?_;exact⟨k+1,⟨g,f,by omega⟩,by omega,(cQ.wk (Ea<|Eb<|Eb<|Eb<|trivial) (Hc (gM rfl rfl)<|Hc (eP _ _)<|trivial) trivial)⟩
 have v:k=l.length:=by have:=aCc n;omega
 subst v;rw[List.drop_length,qT]at f;rw[z,f];exact aS<|Sd (kc oC (Rp (l:=oX l l.length) (g:=l.length) (u:=uK l.length) rfl rfl (by omega)))<|Dd aH<|Zd aH<|aB<|Ru<|Qq
theorem ZJ(s):(qF s).data.toList=(aY (s.size)).data.toList++[58]++s.data.toList:=rfl
theorem T8(l:List ByteArray)(H:aG)(hl:(aP l).length<35184372088832):RC 41 [.pv (aU l)] (sv ⟨(aP l).toArray⟩) H:=by
 refine Pu ?_;have hml:(l.map encStr).length=l.length:=aCf _;have hll:=DW l;refine Bd func41 rfl ntmps41<|Sz aH<|Sz (kl 2001 JR)<|Sq<|Sq ?_;refine gC.ent (E':=[(0,.pv (aU l)),(3,.ref 2001 0 0 0)]) (H':=yA 0 [] false) (cQ.bld0 ⟨⟨_,rfl,.same (by simp)⟩,⟨_,rfl,.same (by simp;rfl)⟩,trivial⟩) ?_;refine Rd aC<|Dd (eR underlying72)<|Zd aC<|aE ?_;refine A6 (fun(k g:Nat) (u:Bool)=>([(3,.ref 2001 0 0 0),(6,.pv (aU l)),(7,iv ((l.map encStr).length:Int)),(8,iv (k:Int))],yA g (aP (l.take k)) u)) (fun k g u=>k<=l.length) (fun k g u=>l.length - k) 0 0 false (aCw _) ?_ ?_
 ·exact(cQ.wk (Ea<|Eb<|Eb<|Eb<|trivial) (Hc (gM rfl rfl)<|Hc (eP _ _)<|trivial) trivial)
 intro k g u hk;have hle:=B9 l k;refine Sz cJ<|Sq ?_;refine Cn ?_ ?_<;>intro e
 ·have m:k<l.length:=by have:=aCb e;omega
  obtain ⟨s,j⟩:=aT m;have n:=cE (f:=encStr) j;have d:=B9 l (k+1);rw[kA j,vW,aCg,qX,qY]at d;have hsz:s.size<35184372088832:=by omega
  have h:aP (l.take (k+1))=aP (l.take k)++(aY (s.size:Int)).data.toList++[58]++s.data.toList:=by
   rw[kA j,vW,ZJ,List.append_assoc,List.append_assoc,List.append_assoc]
  have hl1:(aP (l.take k)++(aY (s.size:Int)).data.toList).length=(aP (l.take k)).length+(aY (s.size:Int)).size:=by simp_all
  have hl2:(aP (l.take k)++(aY (s.size:Int)).data.toList++[58]).length=(aP (l.take k)).length+(aY (s.size:Int)).size+1:=by grind
  refine aA<|Sq<|aE<|Sd (by exact bP rfl ep rfl rfl (by omega) (by rfl) n rfl)<|Dd (fO isAgg9 (hi:=n))<|Zd aH<|Sd aC<|Dd (gF underlying9)<|Dd (kc qR (vX (s.size:Int) (by omega) (by omega) _))<|Zd (kc oD (jV g (aP (l.take k)) u (aY (s.size:Int)) (by omega)))<|Sz (kc mJ (jW (g+1) (aP (l.take k)++(aY (s.size:Int)).data.toList) true 58 (by omega)))<|Rd aC<|Zd (kc oD (jV (g+1+1) (aP (l.take k)++(aY (s.size:Int)).data.toList++[58]) true s (by omega)))<|Rd kp ?_;refine Zd aC ?_;refine⟨k+1,g+1+1+1,true,by omega,by omega,?_⟩;rw[h];exact(cQ.wk (Ea<|Eb<|Eb<|Eb<|trivial) (Hc (gM rfl rfl)<|Hc (eP _ _)<|trivial) trivial)
 have i:k=l.length:=by have:=aCc e;omega
 subst i;rw[List.take_length];exact aS<|Sd (kc oC (S0 g (aP l) u (by omega)))<|Zd aH<|aB<|Rt<|Qq
def jK(l:List GEdit):ByteArray×Bool:=if l.length=0 then(sNil,true)else((dS l).1,decide ((dS l).2=0))
theorem lg(l)(H)(hl:l.length<1099511627776)(f:∀e∈l,KD e):RC 72 [.pv (fX l)] (.tup [sv (jK l).1,bv (jK l).2]) H:=by
 refine Pu ?_;have hml:(l.map aZ).length=l.length:=aCf _;have c:=fun H=>lj l H (by omega) f;have i:l.length=0->jK l=(sNil,true):=fun h=>by rw[jK,aCe h]
 have g:l.length≠0->jK l=((dS l).1,decide _):=fun h=>by rw[jK,aCd h]
 obtain ⟨T,hT⟩:∃T,T=dS l:=⟨_,rfl⟩;refine Bd func72 rfl ntmps72<|Sd aH<|Zd aH<|Sq<|Sd aC<|Dd (eR cT)<|Zd cF ?_;refine Cn ?_ ?_<;>intro b
 ·have d:l.length=0:=by have:=aCb b;omega
  rw[i d];exact Sd aH<|Zd aH<|aB<|Ru<|Qq
 have d:l.length≠0:=by have:=aCc b;omega
 rw[g d];exact aA<|Sd aC<|Dd (bL rfl rfl call118 rfl (c _))<|Dd aC<|Dd eG<|Dd eG<|Dd aH<|Zd aH<|Sd aC<|Dd aC<|Dd cF<|Dd aH<|Zd aH<|aB<|Ru<|Qq
def J0:ByteArray:=⟨#[114,101,99,111,114,100]⟩
def J6(r:GRec)(T:ByteArray):List IV:=[.t J0,.n r.kind,.n r.author,.n r.number,.n r.clock,.t r.branch,.l r.parents,.t T,.t r.target,.b r.yes,.n r.order,.t r.from']
def gE(r:GRec):Prop:=(pL r.kind/\pL r.author/\pL r.number/\pL r.clock/\pL r.order)/\(r.branch.size<1099511627776/\r.target.size<1099511627776/\r.from'.size<1099511627776)/\FH r.parents/\(r.edits.length<1099511627776/\∀e∈r.edits,KD e)/\tH r.sl/\PJ r.priv
theorem Km{r}(h:gE r)(T):∀v∈J6 r T,Zw v:=by
 obtain ⟨⟨f,c,g,b,e⟩,_,d,_⟩:=h;intro v a;simp[J6,aCr,aCv,or_false]at a;rcases a with rfl|rfl|rfl|rfl|rfl|rfl|rfl|rfl|rfl|rfl|rfl|rfl
 ·exact trivial
 ·exact f
 ·exact c
 ·exact g
 ·exact b
 ·exact trivial
 ·exact d.1
 ·exact trivial
 ·exact trivial
 ·exact trivial
 ·exact e
 exact trivial
theorem ZG{r}(T):(uB (J6 r T)).length=r.parents.length+12:=by simp[J6,uB,fI]
def pG(r:GRec):List ByteArray:=uB (J6 r (jK r.edits).1)
def fo(r:GRec):Nat:=oi (J6 r (jK r.edits).1)
theorem TI(r:GRec)(f:gE r)(hp:r.parents.length<549755813888):aW Tryz.prog 39 [av (cC r)] [] (fun x H'=>x=.osl 971 (fo r) 0 (pG r).length/\H'=[(971,⟨fo r,1,9,cH (pG r)⟩)]):=by
 have d:=fun H=>lg r.edits H f.2.2.2.1.1 f.2.2.2.1.2;rw[pG,fo];obtain ⟨T,g⟩:∃T,T=(jK r.edits).1:=⟨_,rfl⟩;obtain ⟨b,h⟩:∃b,b=(jK r.edits).2:=⟨_,rfl⟩;rw[<-g,<-h]at d;rw[<-g];have hlen:=ZG (r:=r) T;have c:=ju (J6 r T) (Km f T) 0 [] (show 12<1099511627776 by decide) (by grind);rw[aCx,List.nil_append]at c;refine Bd func39 rfl ntmps39<|Sd (kb 1)<|Zd aH<|Sz (kl 970 Wq)<|Sd (aV uX)<|Dd (bD jJ)<|Dd (kc call72 (d _))<|Dd aC<|Dd eG<|Dd eG<|Dd aH<|Zd aH<|Sq ?_;refine gC.ent (E':=[(1,.ref 1 0 0 0),(3,.ref 970 0 0 0),(4,sv T)]) (H':=(971,⟨0,1,9,[]⟩)::(970,bx 1 72 [.osl 971 0 0 0])::(1,bx 21 30 ((cC r).map .pv))::[]) ?_ ?_
 ·exact(cQ.nz 971 1 9 rfl rfl ⟨⟨_,rfl,(by exact Nz.same (by(simp;rfl)))⟩,⟨_,rfl,(by exact Nz.same (by(simp;rfl)))⟩,⟨_,rfl,(by exact Nz.same (by(simp;done)))⟩,trivial⟩ ⟨⟨_,rfl,rfl,rfl,rfl,(by exact .inr ⟨_,_,rfl,rfl,(by repeat(first|exact trivial|refine⟨(by exact Nz.own),?_⟩))⟩)⟩,⟨_,rfl,rfl,rfl,rfl,(by exact .inl ⟨rfl,(by simp_all)⟩)⟩,trivial⟩ trivial)
 refine Rd (by exact fR (p:=.str J0) rfl (dR underlying9 rfl) rfl)<|Dd (aV mF)<|Dd (bD isAgg3)<|Dd (by exact fR (p:=.int .i64 r.kind) rfl (dR underlying3 rfl) rfl)<|Dd (aV sJ)<|Dd (bD isAgg3)<|Dd (by exact fR (p:=.int .i64 r.author) rfl (dR underlying3 rfl) rfl)<|Dd (aV mE)<|Dd (bD isAgg3)<|Dd (by exact fR (p:=.int .i64 r.number) rfl (dR underlying3 rfl) rfl)<|Dd (aV uZ)<|Dd (bD isAgg3)<|Dd (by exact fR (p:=.int .i64 r.clock) rfl (dR underlying3 rfl) rfl)<|Dd (aV uY)<|Dd (bD isAgg9)<|Dd (by exact fR (p:=.str r.branch) rfl (dR underlying9 rfl) rfl)<|Dd (aV lM)<|Dd (bD aF)<|Dd (by exact fR (p:=aU r.parents) rfl (dR aD rfl) rfl)<|Dd aC<|Dd (by exact fR (p:=.str T) rfl (dR underlying9 rfl) rfl) ?_;refine Dd (aV uW)<|Dd (bD isAgg9)<|Dd (by exact fR (p:=.str r.target) rfl (dR underlying9 rfl) rfl)<|Dd (aV CD)<|Dd (bD mN)<|Dd (by exact fR (p:=.bool r.yes) rfl (dR eM rfl) rfl)<|Dd (aV tJ)<|Dd (bD isAgg3)<|Dd (by exact fR (p:=.int .i64 r.order) rfl (dR underlying3 rfl) rfl)<|Dd (aV pT)<|Dd (bD isAgg9)<|Dd (by exact fR (p:=.str r.from') rfl (dR underlying9 rfl) rfl)<|Dd (by exact aN ((J6 r T).map zG) rfl yF rfl rfl rfl rfl rfl (QH (J6 r T)))<|Zd (kc xY (cn c ⟨rfl,rfl,trivial⟩ (by simp;rfl)))<|Sd (bD FL)<|Zd aH<|aB ?_;refine dA (H':=[(971,⟨oi (J6 r T),1,9,cH (uB (J6 r T))⟩)]) (.inr rfl) rfl (aJ rfl) (Fin.wk (by(simp;rfl)) (Hc (bQ _ _)<|trivial) trivial) ?_;exact Qq
end Go.Proofs.YtmdicgjnmfolfaaGreatDoor
