/-
  Parts of the proof: rules of an abstract program logic, contracts of functions, plain laws. Conditions: each theorem's own.
-/
import Derived.Test.YtiifmppaejpemaaGreatDoorKR2M8
set_option linter.unusedVariables false
set_option linter.unusedSimpArgs false
set_option maxRecDepth 100000
set_option maxHeartbeats 8000000
namespace Go.Proofs
theorem aNR:type_of% Tryz.call212:=Tryz.call212
theorem qQ:type_of% Tryz.call64:=Tryz.call64
theorem gJ:type_of% Tryz.call77:=Tryz.call77
theorem mX:type_of% Tryz.isAgg101:=Tryz.isAgg101
end Go.Proofs
section
namespace Go.Abs
section
variable {P:Program} {N:Nat} {o:Oper} {E:cB} {H:aB} {t t':TypeId} {x:Operand}
abbrev aJo (b:Bool):PV:=bif b then aBm else G8
theorem UJ {b:Bool} (ho:o.op=.binOp .neq t x (.const .nilIface) t') (ht:P.underlying t=some (.interface (P.methodsAt t))) (hx:aP E x=some (.pv (aJo b))):dF P N o E H (.pv (.bool b)) H:=by
 cases b
 ·exact LH ho ht hx
 exact DM ho ht hx
end
def nY (s:ByteArray):Int:=(nI s).1
def vQ (s:ByteArray):Bool:=match Lib.atoiAll s.data.toList with
 | .ok _=>false
 | _=>true
theorem aFH (s:ByteArray):nI s=(nY s,aJo (vQ s)):=by rw [nY,vQ,nI];cases Lib.atoiAll s.data.toList<;>rfl
open Go.Lib
theorem aCL {l:List UInt8} {u:Nat} (hne:l≠[]) (hm:∀ b∈l,48≤b.toNat∧b.toNat≤57) (hd:decFrom 0 l=some u):atoi l=some (u:Int):=by
 cases l with
 | nil=>exact absurd rfl hne
 | cons b r =>
  have hb:=hm b List.mem_cons_self;have e2:decNat (b::r)=some u:=by rw [decNat,hd];rfl
  have h43:¬ (b == 43)=true:=fun h=>by rw [beq_iff_eq] at h;rw [h] at hb;exact absurd hb.1 (by decide)
  have h45:¬ (b == 45)=true:=fun h=>by rw [beq_iff_eq] at h;rw [h] at hb;exact absurd hb.1 (by decide)
  rw [atoi,aNx h45,aNx h43,e2];rfl
theorem SY {l:List UInt8} {u:Nat} (hl:l.length≤18) (hne:l≠[]) (hm:∀ b∈l,48≤b.toNat∧b.toNat≤57) (hd:decFrom 0 l=some u):atoiAll l=.ok (u:Int):=by rw [atoiAll_short _ hl,aCL hne hm hd];rfl
end Go.Abs
namespace Go.Proofs.YtiifmppaejpemaaGreatDoor
open Go.Proofs.Tryz
open Go.Abs Go.Lib
theorem aA8 (s:ByteArray) (hs:s.size < 1099511627776) (H:aB):aI Tryz.prog 118 [sv s] H (fun r H'=>r=.tup [iv (nY s),.pv (aJo (vQ s))]∧H'=H):=by
 have:=KA s hs H
 rwa [aFH] at this
abbrev sCo:ByteArray:=⟨#[58]⟩
theorem XB (s:ByteArray) (H:aB):aI Tryz.prog 195 [sv s,sv sCo] H (fun r H'=>r=iv (Lib.indexByte s.data.toList 58)∧H'=H):=by
 refine Pu ?_;refine Bd func195 rfl ntmps195<|Sr<|Dd aN<|Zz<|Sr<|Dd aF<|Dd (lH underlying9)<|Dd aN<|Zz<|Sq<|aG<|Sq ?_;refine bA (t:=16) (n:=9) (X:=decide (sCo=s)) ?_ ?_
 ·all_goals refine Dd aF ?_
  all_goals refine Dd cT<|Dm ?_
  all_goals refine Sp 19 (fun h19=>?_) fun h19=>?_
  all_goals try contradiction
  all_goals refine On aF<|On aF<|On yJ<|Dd cW<|Da ?_
  all_goals(exact⟨⟨_,rfl,by rfl⟩,rfl,rfl,rfl⟩)
 refine Cn ?_ ?_<;>intro hc1
 ·have hs:=aNv hc1;subst hs;exact Sr<|Dd aN<|Zz<|aC<|Rt<|Qq
 refine Sr<|Dd aF<|Dd cT<|Da ?_;refine Cn ?_ ?_<;>intro hc2
 ·exact Sr<|Dd aF<|Dd aF<|Dd (by exact dV rfl underlying9 rfl rfl (by omega) (by exact aOK _) (show 0 < (⟨#[58]⟩:ByteArray).size from Nat.zero_lt_one) rfl)<|Dd (by exact aA rfl rfl aNT rfl (vT s 58 _))<|Dd aN<|Zz<|aC<|Rt<|Qq
 cases hc2
def VT (s:ByteArray):AV:=if Lib.indexByte s.data.toList 58 = -1 then .tup [sv s,sv ⟨#[]⟩,bv false] else .tup [sv (s.extract 0 (Lib.indexByte s.data.toList 58).toNat),sv (s.extract ((Lib.indexByte s.data.toList 58).toNat+1) s.size),bv true]
theorem aCy (s:ByteArray) (H:aB) (hs:s.size < 1099511627776):aI Tryz.prog 160 [sv s,sv sCo] H (fun r H'=>r=VT s∧H'=H):=by
 refine Pu ?_;have hI:=fun H=>XB s H;rw [VT];rcases Classical.em (Lib.indexByte s.data.toList 58 = -1)with h1|h1
 ·rw [aNy h1];simp only [h1] at hI;refine Bd aCR rfl WO<|Sr<|Dd aN<|Dd aN<|Dd aN<|Zz<|Sq<|Sr<|Dd aF<|Dd aF<|Dd (by exact aA rfl rfl NB rfl (hI _))<|Dd aN<|Zz<|Sr<|Dd aF<|Dd DT<|Zz ?_;refine Cn ?_ ?_<;>intro hc1
  ·cases hc1
  refine aD<|Sr<|Dd aF<|Dd aN<|Dd aN<|Dd aN<|Zz<|aC ?_;refine AE (H':=[]) (.inr rfl) rfl (aY rfl) (aY rfl) (aY rfl) (Fin.wk (by simp) trivial trivial) ?_;exact Qq
 rw [aNx h1];obtain ⟨w,r,e1,e2,e3⟩:=uC h1;simp only [e3] at hI;rw [e3,aOK];have hl:w.length+1+r.length=s.size:=by rw [← show s.data.toList.length=s.size by simp,e1,aOA,aOB];omega
 refine Bd aCR rfl WO<|Sr<|Dd aN<|Dd aN<|Dd aN<|Zz<|Sq<|Sr<|Dd aF<|Dd aF<|Dd (by exact aA rfl rfl NB rfl (hI _))<|Dd aN<|Zz<|Sr<|Dd aF<|Dd DT<|Zz ?_;refine Cn ?_ ?_<;>intro hc1
 ·refine Sq<|aO follows<|Cq aF<|Cq aF<|Cq (by exact cO (l:=0) (h:=(w.length)) rfl underlying9 rfl rfl rfl (by omega) (by omega) rfl)<|Cq aF<|Cq aF<|Cq aF<|Cq (lH underlying9)<|Cq (by exact cI rfl rfl rfl (show IntKind.i64.wrap ((w.length:Int)+1)=((w.length+1:Nat):Int)by rw [IntKind.wrap_i64];omega))<|Cq (by exact cO (l:=(w.length+1)) (h:=s.size) rfl underlying9 rfl rfl rfl (by omega) (by omega) rfl)<|Cq aN<|Cq aN<|Cq aN<|bL<|Kr<|aC ?_;refine AE (H':=[]) (.inr rfl) rfl (aY rfl) (aY rfl) (aY rfl) (Fin.wk (by simp) trivial trivial) ?_;exact Qq
 have hx:=aNw hc1;omega
theorem aJx (s:ByteArray) (H:aB) (hs:s.size < 1099511627776):aI Tryz.prog 117 [sv s,sv sCo] H (fun r H'=>r=VT s∧H'=H):=by
 refine Pu ?_;have hC:=fun H=>aCy s H hs;rw [VT] at *;rcases Classical.em (Lib.indexByte s.data.toList 58 = -1)with h1|h1
 ·simp only [VT,aNy h1] at hC ⊢;refine Bd aCT rfl WQ<|Sr<|Dd aN<|Dd aN<|Dd aN<|Zz<|Sr<|Dd aF<|Dd aF<|Dd (by exact aA rfl rfl aCW rfl (hC _))<|Dd fL<|Dd fL<|Dd fL<|Dd aN<|Dd aN<|Dd aN<|Zz<|aC ?_;refine AE (H':=[]) (.inr rfl) rfl (aY rfl) (aY rfl) (aY rfl) (Fin.wk (by simp) trivial trivial) ?_;exact Qq
 simp only [VT,aNx h1] at hC ⊢;refine Bd aCT rfl WQ<|Sr<|Dd aN<|Dd aN<|Dd aN<|Zz<|Sr<|Dd aF<|Dd aF<|Dd (by exact aA rfl rfl aCW rfl (hC _))<|Dd fL<|Dd fL<|Dd fL<|Dd aN<|Dd aN<|Dd aN<|Zz<|aC ?_;refine AE (H':=[]) (.inr rfl) rfl (aY rfl) (aY rfl) (aY rfl) (Fin.wk (by simp) trivial trivial) ?_;exact Qq
def TE (l:List UInt8):List UInt8:=l.takeWhile fun b=>!decide (b=58)
def TF (l:List UInt8):List UInt8:=(l.dropWhile fun b=>!decide (b=58)).drop 1
theorem aEn {w r:List UInt8} (h:(58:UInt8)∉w):TE (w++58::r)=w∧TF (w++58::r)=r:=by
 induction w with
 | nil=>exact⟨rfl,rfl⟩
 | cons b w ih =>
  have hb:b≠58:=fun e=>h (by rw [e];exact List.mem_cons_self);obtain ⟨h1,h2⟩:=ih (fun e=>h (List.mem_cons_of_mem _ e));rw [TE] at h1 ⊢;rw [TF] at h2 ⊢;rw [List.cons_append,List.takeWhile_cons,List.dropWhile_cons,aNy (by simp [hb]),aNy (by simp [hb]),h1];exact⟨rfl,h2⟩
theorem aEm:∀ {l:List UInt8},(58:UInt8)∉l→TE l=l∧TF l=[]
 | [],_=>⟨rfl,rfl⟩
 | b::l,h=>by
  have hb:b≠58:=fun e=>h (by rw [e];exact List.mem_cons_self);obtain ⟨h1,h2⟩:=aEm (l:=l) (fun e=>h (List.mem_cons_of_mem _ e));rw [TE] at h1 ⊢;rw [TF] at h2 ⊢;rw [List.takeWhile_cons,List.dropWhile_cons,aNy (by simp [hb]),aNy (by simp [hb]),h1];exact⟨rfl,h2⟩
theorem aH5 (l:List UInt8):VT (ofL l)=.tup [sv (ofL (TE l)),sv (ofL (TF l)),bv (decide ((58:UInt8)∈l))]:=by
 rw [VT,cZ];by_cases h:Lib.indexByte l 58 = -1
 ·rw [aNy h];have hm:=uB.1 h;rw [(aEm hm).1,(aEm hm).2,decide_eq_false hm];rfl
 rw [aNx h];obtain ⟨w,r,e1,e2,e3⟩:=uC h;rw [e3,aOK];subst e1;rw [(aEn e2).1,(aEn e2).2,decide_eq_true (by simp)];have x1:(ofL (w++58::r)).extract 0 w.length=ofL w:=rW (by rw [jP,cZ,cZ,List.drop_zero,Nat.sub_zero,List.take_left]);have x2:(ofL (w++58::r)).extract (w.length+1) (ofL (w++58::r)).size=ofL r:=rW (by
  rw [BQ,cZ,cZ,← List.drop_drop,List.drop_left];rfl)
 rw [x1,x2]
theorem aCM (s:ByteArray) : -9223372036854775808≤nY s∧nY s≤9223372036854775807:=by
 rw [nY,nI];cases e:Lib.atoiAll s.data.toList with
 | ok v=>exact Lib.atoiAll_bounds e
 | range =>
  show _≤Lib.atoiSat _∧Lib.atoiSat _≤_;rw [Lib.atoiSat]
  split
  ·exact⟨by decide,by decide⟩
  exact⟨by decide,by decide⟩
 | _ =>
  show (-9223372036854775808:Int)≤0∧(0:Int)≤9223372036854775807;exact⟨by decide,by decide⟩
theorem aJy (l:List UInt8):(TE l).length≤l.length∧(TF l).length≤l.length:=by
 constructor
 ·exact(List.takeWhile_sublist _).length_le
 rw [TF,aOO];have:=(List.dropWhile_sublist (l:=l) fun b=>!decide (b=58)).length_le;omega
theorem aFG {l:List UInt8} {u:Nat} (hl:l.length≤18) (hne:l≠[]) (hm:∀ b∈l,48≤b.toNat∧b.toNat≤57) (hd:decFrom 0 l=some u):vQ (ofL l)=false∧nY (ofL l)=(u:Int):=by
 have h:=SY hl hne hm hd;constructor
 ·rw [vQ,cZ,h]
 rw [nY,nI,cZ,h]
theorem P6 (n:Nat):(aT (n:Int)).data.toList=decDigits n:=by show (Lib.itoa (n:Int)).toArray.toList=_;rw [iA _ (Int.natCast_nonneg n),aOK]
theorem vK (x:ByteArray) (L:List ByteArray):aM (x::L)=decDigits x.size++58::(x.data.toList++aM L):=by
 have h1:aM (x::L)=(nJ x).data.toList++aM L:=by rw [aM,List.flatMap_cons];rfl
 rw [h1,nJ,ByteArray.data_append,Array.toList_append,ByteArray.data_append,Array.toList_append,P6];simp
theorem aEi (n:Nat):(58:UInt8)∉decDigits n:=fun h=>by
 have:=qM n h;exact absurd this.2 (by decide)
theorem BG (A B:List ByteArray):aM (A++B)=aM A++aM B:=List.flatMap_append
end Go.Proofs.YtiifmppaejpemaaGreatDoor
end
namespace Go.Proofs.YtiifmppaejpemaaGreatDoor
open Go.Proofs.Tryz
open Go.Abs Go.Lib
def C9 (l:List UInt8):Bool:=((!decide ((58:UInt8)∈l)||vQ (ofL (TE l)))||decide (nY (ofL (TE l)) < 0))||decide (((TF l).length:Int) < nY (ofL (TE l)))
def nxN (l:List UInt8):Nat:=(nY (ofL (TE l))).toNat
def iJ (l:List UInt8):Option (ByteArray×List UInt8):=if C9 l=true then none else some (ofL ((TF l).take (nxN l)),(TF l).drop (nxN l))
def nL (l:List UInt8):Option (Int×List UInt8):=match iJ l with
 | none=>none
 | some (s,r)=>if vQ s=true then none else some (nY s,r)
def CH {α:Type} (f:List UInt8→Option (α×List UInt8)):Nat→List UInt8→Option (List α×List UInt8)
 | 0,l=>some ([],l)
 | n+1,l=>match f l with
  | none=>none
  | some (x,r)=>match CH f n r with
   | none=>none
   | some (xs,q)=>some (x::xs,q)
def uU {α:Type} (f:List UInt8→Option (α×List UInt8)) (l:List UInt8):Option (List α×List UInt8):=match nL l with
 | none=>none
 | some (n,r)=>CH f n.toNat r
def GW (l:List UInt8):Option ((Int×Int)×List UInt8):=match nL l with
 | none=>none
 | some (x,r)=>match nL r with
  | none=>none
  | some (y,q)=>some ((x,y),q)
def RI (l:List UInt8):Option (GSeal×List UInt8):=match nL l with
 | none=>none
 | some (i,r)=>match uU iJ r with
  | none=>none
  | some (a,q)=>match uU iJ q with
   | none=>none
   | some (b,p)=>some (⟨i,a,b⟩,p)
def DK (x:ByteArray):Prop:=x.size < 1000000000000000000
theorem jQ {x:ByteArray} (L:List ByteArray) (hx:DK x):iJ (aM (x::L))=some (x,aM L):=by
 obtain ⟨e1,e2⟩:=aEn (r:=x.data.toList++aM L) (aEi x.size);rw [← vK] at e1 e2;obtain ⟨n1,n2⟩:=aFG (l:=decDigits x.size) (u:=x.size) (dU (k:=18) (show x.size < 10 ^ 18 from hx) (by decide)) (sS _) (fun b=>qM _) (BT _);have hm:(58:UInt8)∈aM (x::L):=by rw [vK];simp
 have hb:C9 (aM (x::L))=false:=by
  rw [C9,e1,e2,n1,n2,decide_eq_true hm,decide_eq_false (by omega),decide_eq_false (by rw [aOA,aW];omega)];rfl
 rw [iJ,aNx (by rw [hb];decide),nxN,e1,n2,e2,aOK,List.drop_left' (aW x),List.take_left' (aW x),oG]
theorem IN {n:Int} (h0:0≤n) (h1:n < 1000000000000000000):DK (aT n):=Nat.lt_of_le_of_lt (oH (by omega) (by omega)) (by decide)
theorem Y3 {n:Int} (h0:0≤n) (h1:n < 1000000000000000000):vQ (aT n)=false∧nY (aT n)=n:=by
 have h:=zO h0 h1;have e:(aT n).data.toList=itoa n:=by show (Lib.itoa n).toArray.toList=_;simp
 constructor
 ·rw [vQ,e,h]
 rw [nY,nI,e,h]
theorem jR {n:Int} (L:List ByteArray) (h0:0≤n) (h1:n < 1000000000000000000):nL (aM (aT n::L))=some (n,aM L):=by obtain ⟨a1,a2⟩:=Y3 h0 h1;rw [nL,jQ L (IN h0 h1)];show (if vQ (aT n)=true then none else some (nY (aT n),aM L))=_;rw [aNx (by rw [a1];decide),a2]
theorem LW:∀ (ts L:List ByteArray),(∀ t∈ts,DK t)→CH iJ ts.length (aM (ts++L))=some (ts,aM L)
 | [],L,_=>rfl
 | t::ts,L,h=>by
  rw [aOB,CH,List.cons_append,jQ _ (h t List.mem_cons_self)];simp only [LW ts L fun x hx=>h x (List.mem_cons_of_mem _ hx)]
theorem yV (ts L:List ByteArray) (h:∀ t∈ts,DK t) (hl:ts.length < 1000000000000000000):uU iJ (aM (aT (ts.length:Int)::(ts++L)))=some (ts,aM L):=by rw [uU,jR _ (by omega) (by omega)];show CH iJ ((ts.length:Int)).toNat (aM (ts++L))=_;rw [aOK,LW ts L h]
theorem KZ (s:GSeal) (L:List ByteArray) (h0:0≤s.idx) (h1:s.idx < 1000000000000000000) (ha:∀ t∈s.sig,DK t) (hb:∀ t∈s.path,DK t) (hal:s.sig.length < 1000000000000000000) (hbl:s.path.length < 1000000000000000000) :
  RI (aM (fI (.z s.idx s.sig s.path)++L))=some (s,aM L):=by
 have e:fI (.z s.idx s.sig s.path)++L=aT s.idx::(aT (s.sig.length:Int)::(s.sig++(aT (s.path.length:Int)::(s.path++L)))):=by simp [fI]
 rw [e,RI,jR _ h0 h1];show (match uU iJ (aM (aT (s.sig.length:Int)::(s.sig++(aT (s.path.length:Int)::(s.path++L)))))with|none=>none|some (a,q)=>match uU iJ q with|none=>none|some (b,p)=>some ((⟨s.idx,a,b⟩:GSeal),p))=_;rw [yV _ _ ha hal];show (match uU iJ (aM (aT (s.path.length:Int)::(s.path++L)))with|none=>none|some (b,p)=>some ((⟨s.idx,s.sig,b⟩:GSeal),p))=_;rw [yV _ _ hb hbl]
theorem LV:∀ (ps:List (Int×Int)) (L:List ByteArray),(∀ q∈ps,(0≤q.1∧q.1 < 1000000000000000000)∧(0≤q.2∧q.2 < 1000000000000000000))→CH GW ps.length (aM (NG ps++L))=some (ps,aM L)
 | [],L,_=>rfl
 | p::ps,L,h=>by
  obtain ⟨⟨a1,a2⟩,a3,a4⟩:=h p List.mem_cons_self;have e:NG (p::ps)++L=aT p.1::(aT p.2::(NG ps++L)):=rfl;have e2:GW (aM (NG (p::ps)++L))=some (p,aM (NG ps++L)):=by
   rw [e,GW,jR _ a1 a2];show (match nL (aM (aT p.2::(NG ps++L)))with|none=>none|some (y,q)=>some ((p.1,y),q))=_;rw [jR _ a3 a4]
  rw [aOB,CH,e2];simp only [LV ps L fun x hx=>h x (List.mem_cons_of_mem _ hx)]
theorem X9 (ps:List (Int×Int)) (L:List ByteArray) (h:∀ q∈ps,(0≤q.1∧q.1 < 1000000000000000000)∧(0≤q.2∧q.2 < 1000000000000000000)) (hl:ps.length < 1000000000000000000):uU GW (aM (fI (.p ps)++L))=some (ps,aM L):=by have e:fI (.p ps)++L=aT (ps.length:Int)::(NG ps++L):=rfl;rw [e,uU,jR _ (by omega) (by omega)];show CH GW ((ps.length:Int)).toNat (aM (NG ps++L))=_;rw [aOK,LV ps L h]
end Go.Proofs.YtiifmppaejpemaaGreatDoor
namespace Go.Proofs.YtiifmppaejpemaaGreatDoor
open Go.Proofs.Tryz
open Go.Abs
theorem YF (fv:AV) (l:List (Int×Int)) (p:Nat→Bool) (Hs:Nat→aB) (hl:l.length < 4611686018427387904) (hf:∀ k s,l[k]?=some s→dD Tryz.prog fv [av (gP s)] (Hs k) (fun r H'=>r=bv (p k)∧H'=Hs (k+1))) :
  aI Tryz.prog 125 [.pv (rA l),fv] (Hs 0) (fun r H'=>r=iv (IP p l.length)∧H'=Hs (zT p l.length)):=by
 have hml:(l.map gP).length=l.length:=aNz _;refine Bd func125 rfl ntmps125<|Sr<|Dd aN<|Zz<|Sq<|Sr<|Dd aF<|Dd (fY eR)<|Dd aF<|Zz<|aG ?_;refine bT (σ:=Nat) (fun k=>([(0,.pv (rA l)),(1,fv),(7,iv ((l.map gP).length:Int)),(8,iv (k:Int))],Hs k)) (fun k=>k≤l.length∧∀ j,j < k→p j=false) (fun k=>l.length - k) 0 ⟨by omega,by omega⟩ ?_ ?_
 ·exact E0
 rintro k ⟨hk,hno⟩;refine Sr<|Dd dK<|Zz<|Sq ?_;refine Cn ?_ ?_<;>intro hc1
 ·have hlt:k < l.length:=by have:=aNv hc1;omega
  obtain ⟨s,hs⟩:=aZ hlt;have hi:=cP (f:=gP) hs;have hfo:=hf k s hs;refine aD<|Sq<|aG<|Sr<|Dd aF<|Dd aN<|Zz<|Sr<|Dd aF<|Dd aF<|Dd aF<|Dd (lN TU)<|Dd (by exact dL rfl dQ sizeOf73 rfl (by omega) (by simp only [Zl,gP];rfl) rfl)<|Dd (by exact cR rfl rfl rfl (hfo))<|Zz ?_;refine Cn ?_ ?_<;>intro hc2
  ·refine Sr<|Dd aF<|Dd aN<|Zz<|aC ?_;exact dY (H':=Hs (k+1)) (.inr rfl) rfl (aY rfl) Fin.refl ⟨by rw [IP,zH hlt hc2 hno],by rw [zT,zH hlt hc2 hno]⟩
  refine aD<|Rg<|Dd lR<|Dd aF<|Zz ?_;refine⟨k+1,⟨by omega,fun j hj=>?_⟩,by omega,E0⟩;by_cases e:j=k
  ·subst e;exact hc2
  exact hno j (by omega)
 have hge:k=l.length:=by have:=aNw hc1;omega
 subst hge;refine bC<|Sr<|Dd aN<|Zz<|aC ?_;exact dY (H':=Hs l.length) (.inr rfl) rfl (aY rfl) Fin.refl ⟨by rw [IP,zI hno],by rw [zT,zI hno]⟩
theorem OI (fv:AV) (l:List (Int×Int)) (p:Nat→Bool) (Hs:Nat→aB) (hl:l.length < 4611686018427387904) (hf:∀ k s,l[k]?=some s→dD Tryz.prog fv [av (gP s)] (Hs k) (fun r H'=>r=bv (p k)∧H'=Hs (k+1))) :
  aI Tryz.prog 68 [.pv (rA l),fv] (Hs 0) (fun r H'=>r=bv ((List.range l.length).any p)∧H'=Hs (zT p l.length)):=by
 refine Bd func68 rfl ntmps68<|Sr<|Dd aN<|Zz<|Sr<|Dd aF<|Dd aF<|Dd (by exact aA rfl rfl call125 rfl (YF fv l p Hs hl hf))<|Dd DT<|Dd aN<|Zz<|aC ?_;exact dY (H':=Hs (zT p l.length)) (.inr rfl) rfl (aY rfl) Fin.refl ⟨by rw [P8],rfl⟩
def R5 (q:Int×Int):Bool:=!(decide (0≤q.1)&&decide (q.1≤1048575))||!(decide (0≤q.2)&&decide (q.2≤1048575))
def wiO:Ob:=bx 1 101 [.pv (.fn 64)]
theorem uY (H:aB):∀ r∈wiO.rows,∀ a∈r,Clo H a:=by intro r hr a ha;simp only [wiO,bx,aOC] at hr;subst hr;rw [aOC] at ha;subst ha;simp
theorem aL9 (q:Int×Int):aI Tryz.prog 69 [av (gP q),.ref 3 0 0 0] [(3,wiO)] (fun r H'=>r=bv (R5 q)∧H'=[(3,wiO)]):=by
 have hw1:=fun H=>KE q.1 0 1048575 H;have hw2:=fun H=>KE q.2 0 1048575 H;have hof:R5 q=(!(decide (0≤q.1)&&decide (q.1≤1048575))||!(decide (0≤q.2)&&decide (q.2≤1048575))):=rfl;obtain ⟨u,hu⟩:∃ u,u=(decide (0≤q.1)&&decide (q.1≤1048575)):=⟨_,rfl⟩;obtain ⟨v,hv⟩:∃ v,v=(decide (0≤q.2)&&decide (q.2≤1048575)):=⟨_,rfl⟩;rw [← hu] at hw1 hof;rw [← hv] at hw2 hof;clear hu hv;refine Bd func69 rfl ntmps69<|Sr<|Dd (by exact cH (id:=2) rfl rfl rfl rfl rfl)<|Dd aN<|Zz<|Sq ?_;refine bA (t:=3) (n:=14) (X:=R5 q) ?_ ?_
 ·all_goals refine Dd (bM mX) ?_
  all_goals refine Dd (aV pS)<|Dd (bM isAgg3)<|Dd (by exact cR rfl rfl rfl (dD.fn qQ (hw1 _)))<|Dd jS<|Dm ?_
  all_goals refine Sp 9 (fun h9=>?_) fun h9=>?_
  all_goals try contradiction
  all_goals first|refine Fo<|Fo<|Fo<|Fo<|Fo ?_|refine On (bM mX)<|On (aV pR)<|On (bM isAgg3)<|On (by exact cR rfl rfl rfl (dD.fn qQ (hw2 _)))<|On jS ?_
  all_goals refine Dd cW<|Da ?_
  all_goals(exact⟨⟨_,rfl,by(rw [hof,h9];rfl)⟩,rfl,rfl,rfl⟩)
 refine aC ?_;refine dY (H':=[(3,wiO)]) (.inr rfl) rfl (aY rfl) (Fin.wk (by(simp;done)) (Hc (uY _)<|trivial) ⟨rfl,trivial⟩) ?_;exact Qq
theorem Y4 (l:List (Int×Int)) (q:Int×Int→Bool):((List.range l.length).any fun k=>match l[k]? with|some s=>q s|none=>false)=l.any q:=by
 rw [Bool.eq_iff_iff,List.any_eq_true,List.any_eq_true];constructor
 ·rintro⟨k,hk,h⟩;have hk:=List.mem_range.1 hk;rw [aOE hk] at h;exact⟨_,List.getElem_mem hk,h⟩
 rintro⟨s,hs,h⟩;obtain ⟨k,hk⟩:=aOU.1 hs;exact⟨k,List.mem_range.2 (aOD.1 hk).1,by rw [hk];exact h⟩
def aIz (l:List (Int×Int)) (k:Nat):Bool:=match l[k]? with|some s=>R5 s|none=>false
theorem aJ1 (l:List (Int×Int)) (hl:l.length < 1099511627776):aI Tryz.prog 68 [.pv (rA l),.clo 69 [.ref 3 0 0 0]] [(3,wiO)] (fun r H'=>r=bv (l.any R5)∧H'=[(3,wiO)]):=by
 have hc:=OI (.clo 69 [.ref 3 0 0 0]) l (aIz l) (fun _=>[(3,wiO)]) (by omega) (fun k s hk=>by
  rw [aIz,hk];exact dD.clo call69 (aL9 s))
 rw [show (List.range l.length).any (aIz l)=l.any R5 from Y4 l R5] at hc;exact hc
theorem aEU (s:ByteArray) (H:aB):aI Tryz.prog 177 [sv s] H (fun r H'=>r=bv false∧H'=H):=by refine Pu ?_;refine Bd func177 rfl ntmps177<|Sr<|Dd aN<|Zz<|Sr<|Dd aF<|Dd aF<|Dd JO<|Dd aN<|Zz<|aC<|Rt ?_;exact⟨by simp,rfl⟩
theorem aHG (s t:ByteArray) (H:aB):aI Tryz.prog 126 [sv s,sv t] H (fun r H'=>r=bv (AG s t)∧H'=H):=by
 refine Pu ?_;refine Bd func126 rfl ntmps126<|Sr<|Dd aN<|Zz<|Sq ?_;refine bA (t:=4) (n:=15) (X:=AG s t) ?_ ?_
 ·all_goals refine Dd aF ?_
  all_goals refine Dd (by exact aA rfl rfl call177 rfl (aEU _ _))<|Dm ?_
  all_goals refine Sp 7 (fun h7=>?_) fun h7=>?_
  all_goals try contradiction
  all_goals refine Fo<|Fo<|Fo<|Dd cW<|Dm ?_
  all_goals refine Sp 12 (fun h12=>?_) fun h12=>?_
  all_goals try contradiction
  all_goals refine On aF<|On aF<|On (by exact aDj rfl rfl rfl)<|Dd cW<|Da ?_
  all_goals(exact⟨⟨_,rfl,by rfl⟩,rfl,rfl,rfl⟩)
 exact aC<|Rt<|Qq
def lX:List ByteArray→Bool
 | a::b::r=>!AG b a&&lX (b::r)
 | _=>true
theorem RC {a:ByteArray} {l:List ByteArray} (h:lX (a::l)=true):lX l=true:=by
 cases l with
 | nil=>rfl
 | cons b r=>exact(aOI _ _▸h:_∧_).2
theorem EM:∀ (i:Nat) {l:List ByteArray},lX l=true→lX (l.drop i)=true
 | 0,_,h=>h
 | i+1,[],_=>rfl
 | i+1,a::l,h=>EM i (RC h)
theorem W8 {l:List ByteArray} {k:Nat} {a b:ByteArray} (ha:l[k]?=some a) (hb:l[k+1]?=some b):lX (l.drop k)=(!AG b a&&lX (l.drop (k+1))):=by obtain ⟨h1,e1⟩:=aOD.1 ha;obtain ⟨h2,e2⟩:=aOD.1 hb;rw [List.drop_eq_getElem_cons h1,List.drop_eq_getElem_cons h2,e1,e2];rfl
theorem U1 (l:List ByteArray) (H:aB) (hl:l.length < 1099511627776):aI Tryz.prog 71 [.pv (aX l)] H (fun r H'=>r=bv (lX l)∧H'=H):=by
 refine Pu ?_;have hml:(l.map encStr).length=l.length:=aNz _;refine Bd func71 rfl ntmps71<|Sr<|Dd aN<|Zz<|Sq<|Sr<|Dd aF<|Dd (fY aE)<|Dd (by exact eQ rfl rfl rfl (show IntKind.i64.wrap (((l.map encStr).length:Int) - 1)=((l.map encStr).length:Int) - 1 by rw [IntKind.wrap_i64];omega))<|Dd aN<|Zz<|aG ?_;refine bT (σ:=Nat) (fun k=>([(0,.pv (aX l)),(3,iv ((k:Int) - 1))],[])) (fun k=>k≤l.length∧lX (l.drop (k - 1))=true) (fun k=>k) l.length ⟨aOF _,?_⟩ ?_ ?_
 ·have:(l.drop (l.length - 1)).length≤1:=by rw [aOO];omega
  match l.drop (l.length - 1),this with
  | [],_=>rfl
  | [a],_=>rfl
 ·rw [hml];exact Wk
 rintro k ⟨hk,hs⟩;refine Sq<|Sr<|Dd aF<|Dd jE<|Zz ?_;refine Cn ?_ ?_<;>intro hc1
 ·have hlt:2≤k:=by have:=aNv hc1;omega
  obtain ⟨m,rfl⟩:∃ m,k=m+2:=⟨k - 2,by omega⟩;obtain ⟨b,hb⟩:=aZ (l:=l) (k:=m+1) (by omega);obtain ⟨a,ha⟩:=aZ (l:=l) (k:=m) (by omega);have hib:=cP (f:=encStr) hb;have hia:=cP (f:=encStr) ha;have hat:=W8 ha hb;rw [show m+2 - 1=m+1 by omega] at hs;rw [hs,Bool.and_true] at hat;refine aD<|Sq<|aG<|Sq<|aO follows<|Cq aF<|Cq aF<|Cq (by exact bW (m:=m+1) rfl cA rfl rfl (by omega) (show (((m+2:Nat):Int) - 1).toNat=m+1 by omega) hib rfl)<|Cq (jA isAgg9)<|Cq aF<|Cq aF<|Cq (by exact eQ rfl rfl rfl (show IntKind.i64.wrap ((((m+2:Nat):Int) - 1) - 1)=((m:Nat):Int)by rw [IntKind.wrap_i64];omega))<|Cq (lN cA)<|Cq (jA isAgg9)<|Cq (by exact aA rfl rfl call126 rfl (aHG b a _))<|bL<|Kr ?_;refine Cn ?_ ?_<;>intro hc2
  ·have hlt2:AG b a=true:=hc2;have h0:lX l=false:=by
    rw [Bool.eq_false_iff];intro h;rw [EM m h,hlt2] at hat;cases hat
   rw [h0];exact Sr<|Dd aN<|Zz<|aC<|Rt<|Qq
  have hlt2:AG b a=false:=hc2;refine aD<|Rg<|Dd aF<|Dd (by exact eQ rfl rfl rfl (show IntKind.i64.wrap ((((m+2:Nat):Int) - 1) - 1)=((m+1:Nat):Int) - 1 by rw [IntKind.wrap_i64];omega))<|Da ?_;refine⟨m+1,⟨by omega,?_⟩,by omega,?_⟩
  ·rw [show m+1 - 1=m by omega,hat,hlt2];rfl
  exact Wk
 have hge:k≤1:=by have:=aNw hc1;omega
 have h0:lX l=true:=by rw [show k - 1=0 by omega] at hs;exact hs
 rw [h0];exact bC<|Sr<|Dd aN<|Zz<|aC<|Rt<|Qq
abbrev rN (l:List ByteArray):List (List AV):=l.map (fun e=>(encStr e).map .pv)
theorem aKs (l:List ByteArray):∀ r∈l.map encStr,r.length=1:=fun r hr=>by
 obtain ⟨t,_,rfl⟩:=List.mem_map.1 hr;rfl
theorem aEo (l:List ByteArray) (H:aB) (hc:eG H) (h1:H.get 901=none) (hl:l.length < 1099511627776) :
  aI Tryz.prog 73 [.pv (aX l)] H (fun r H'=>r=.osl 901 1 0 l.length∧H'=(901,⟨1,1,9,rN l⟩)::H):=by
 have hml:(l.map encStr).length=l.length:=aNz _;refine Bd func73 rfl ntmps73<|Sr<|Dd aN<|Zz<|Sq<|Sr<|Dm ?_;refine aKK rfl rfl (XV rfl aE rfl) ?_;rintro _ H2 ⟨e2,b,rfl,hb⟩;rw [e2];clear e2 H2;refine Zz ?_;refine Cn ?_ ?_<;>intro hc1
 ·have h0:=hb hc1;have h00:l=[]:=List.map_eq_nil_iff.1 h0;subst h00;refine Sr<|Dd (by exact pJ (id:=901) (sz:=1) (ty:=9) rfl h1 rfl)<|Zz<|aC ?_;refine dY (H':=((901,⟨1,1,9,[]⟩)::H)) (.inr rfl) rfl (aY rfl) ((Fin.bump (g:=0) (k:=1) rfl rfl (by decide) rfl rfl rfl).trans (Fin.get' (fun j=>vL _ _ _ _ j))) ?_;exact Qq
 refine aD<|Sr<|Dd (by exact iL (id:=901) rfl cA rfl rfl rfl rfl (by simp) h1)<|Dd aF<|Dd (by exact dH rfl cA EC rfl rfl rfl rfl rfl rfl rfl (aKs l) hml (by omega) (aOR _) (show []++(l.map encStr).map (·.map AV.pv)=rN l by rw [List.nil_append,List.map_map];rfl))<|Dd aN<|Zz<|aC ?_;refine dY (H':=((901,⟨1,1,9,rN l⟩)::H)) (.inr rfl) rfl (aY rfl) (Fin.get' (fun j=>vL _ _ _ _ j)) ?_;exact Qq
theorem PC (n:Int) (H:aB):aI Tryz.prog 130 [.pv (.int .u8 n)] H (fun r H'=>r=bv (rI n)∧H'=H):=by
 refine Pu ?_;refine Bd func130 rfl ntmps130<|Sr<|Dd aN<|Zz<|Sq ?_;refine bA (t:=2) (n:=18) (X:=rI n) ?_ ?_
 ·all_goals refine Dd aF ?_
  all_goals refine Dd DT<|Dm ?_
  all_goals refine Sp 5 (fun h5=>?_) fun h5=>?_
  all_goals try contradiction
  all_goals first|refine Fo<|Fo ?_|refine On aF<|On MB ?_
  all_goals refine Dd cW<|Dm ?_
  all_goals refine Sp 9 (fun h9=>?_) fun h9=>?_
  all_goals try contradiction
  all_goals first|refine Fo<|Fo<|Fo ?_|refine On aF<|On DT<|On aF ?_
  all_goals(first|refine Sp 12 (fun h12=>?_) fun h12=>?_|refine rX (t:=12) rfl ?_)
  all_goals try contradiction
  all_goals first|refine Fo ?_|refine Fu ?_|refine On aF ?_
  all_goals first|refine Fo ?_|refine Fu ?_|refine On MB ?_
  all_goals first|refine Fo ?_|refine On cW ?_
  all_goals refine Dd cW<|Da ?_
  all_goals(exact⟨⟨_,rfl,by(simp only [rI, *];rfl)⟩,rfl,rfl,rfl⟩)
 exact aC<|Rt<|Qq
theorem aDU (n:Int) (H:aB):aI Tryz.prog 178 [.pv (.int .u8 n)] H (fun r H'=>r=bv (zX n)∧H'=H):=by
 refine Pu ?_;refine Bd func178 rfl ntmps178<|Sr<|Dd aN<|Zz<|Sq ?_;refine bA (t:=2) (n:=8) (X:=zX n) ?_ ?_
 ·all_goals refine Dd aF ?_
  all_goals refine Dd DT<|Dm ?_
  all_goals refine Sp 5 (fun h5=>?_) fun h5=>?_
  all_goals try contradiction
  all_goals first|refine Fo<|Fo ?_|refine On aF<|On MB ?_
  all_goals refine Dd cW<|Da ?_
  all_goals(exact⟨⟨_,rfl,by(simp only [zX, *];rfl)⟩,rfl,rfl,rfl⟩)
 exact aC<|Rt<|Qq
def isW (n:Int):Bool:=(rI n||zX n)||decide (n=95)
theorem aG2 (n:Int) (H:aB):aI Tryz.prog 129 [.pv (.int .u8 n)] H (fun r H'=>r=bv (isW n)∧H'=H):=by
 refine Pu ?_;refine Bd func129 rfl ntmps129<|Sr<|Dd aN<|Zz<|Sq ?_;refine bA (t:=2) (n:=13) (X:=isW n) ?_ ?_
 ·all_goals refine Dd aF ?_
  all_goals refine Dd (by exact aA rfl rfl call130 rfl (PC n _))<|Dm ?_
  all_goals refine Sp 5 (fun h5=>?_) fun h5=>?_
  all_goals try contradiction
  all_goals first|refine Fo<|Fo ?_|refine On aF<|On (by exact aA rfl rfl call178 rfl (aDU n _)) ?_
  all_goals refine Dd cW<|Dm ?_
  all_goals refine Sp 9 (fun h9=>?_) fun h9=>?_
  all_goals try contradiction
  all_goals first|refine Fo<|Fo ?_|refine On aF<|On cT ?_
  all_goals refine Dd cW<|Da ?_
  all_goals(exact⟨⟨_,rfl,by(simp only [isW, *];rfl)⟩,rfl,rfl,rfl⟩)
 exact aC<|Rt<|Qq
theorem aH8:∀ n:Fin 256,(decide (BX (n.val:Int)=3)=rI (n.val:Int))∧(decide (BX (n.val:Int)=4)=zX (n.val:Int))∧(decide (BX (n.val:Int)=5)=decide ((n.val:Int)=95)):=by decide +kernel
theorem aJz (s:ByteArray) (k:Nat):(decide (BX (dB s k)=3)=rI (dB s k))∧(decide (BX (dB s k)=4)=zX (dB s k))∧(decide (BX (dB s k)=5)=decide (dB s k=95)):=by have h:=aH8 ⟨(dB s k).toNat,CQ s k⟩;simp only [Int.toNat_of_nonneg (CP s k)] at h;exact h
def aHo (s:ByteArray) (k:Nat):Bool:=!isW (dB s k)
def PB (s:ByteArray):Bool:=!((List.range s.size).any (aHo s))&&(decide ((0:Int) < (s.size:Int))&&decide ((s.size:Int)≤24)&&rI (dB s 0))
theorem T0 {s:ByteArray}:s=sNil↔s.size=0:=by
 constructor
 ·rintro rfl;rfl
 intro h;exact ByteArray.ext (Array.eq_empty_of_size_eq_zero h)
theorem aDS (s:ByteArray):PB s=bP s:=by
 have hb:∀ k,OK s k=(!rI (dB s k)&&(decide ((k:Int)=0)||(!zX (dB s k)&&!decide (dB s k=95)))):=fun k=>by
  obtain ⟨a,b,c⟩:=aJz s k;rw [OK,a,b,c]
 rw [Bool.eq_iff_iff,PB,bP];simp only [aOI,aOS,aOG,aOH,List.any_eq_false,List.mem_range,T0,aHo,hb];constructor
 ·rintro⟨h1,⟨h2,h3⟩,h4⟩;refine⟨fun k hk=>?_,by omega,h3⟩;have:=h1 k hk;by_cases k0:k=0
  ·subst k0;simp [h4]
  have hw:isW (dB s k)=true:=by
   cases e:isW (dB s k)with
   | true=>rfl
   | false=>exact absurd e this
  simp only [isW,Bool.or_eq_true,aOG] at hw;rcases hw with(h|h)|h
  ·simp [h]
  ·simp [h,k0]
  simp [h,k0]
 rintro⟨h1,h2,h3⟩;refine⟨fun k hk=>?_,⟨by omega,h3⟩,?_⟩
 ·have:=h1 k hk;intro hw;apply this;simp only [isW,aOS,aOV] at hw;simp [hw.1.1,hw.1.2,hw.2]
 have:=h1 0 (by omega);cases hl:rI (dB s 0)with
 | true=>rfl
 | false=>exact absurd (by simp [hl]) this
theorem aDT (s:ByteArray) (H:aB) (hs:s.size < 4611686018427387904):aI Tryz.prog 77 [sv s] H (fun r H'=>r=bv (PB s)∧H'=H):=by
 refine Pu ?_;refine Bd func77 rfl ntmps77<|Sr<|Dd aN<|Zz<|Sq<|Sr<|Dd aN<|Zz<|aG ?_;refine bT (σ:=Nat) (fun k=>([(0,sv s),(3,iv (k:Int))],[])) (fun k=>k≤s.size∧∀ j,j < k→aHo s j=false) (fun k=>s.size - k) 0 ⟨by omega,by omega⟩ ?_ ?_
 ·exact E0
 rintro k ⟨hk,hno⟩;refine Sq<|Sr<|Dd aF<|Dd aF<|Dd (lH underlying9)<|Dd dK<|Zz ?_;refine Cn ?_ ?_<;>intro hc1
 ·have hlt:k < s.size:=by have:=aNv hc1;omega
  refine aD<|Sq<|aG<|Sr<|Dd aF<|Dd aF<|Dd (by exact dV rfl underlying9 rfl rfl (by omega) (by exact aOK _) (by omega) rfl)<|Dd (by exact aA rfl rfl call129 rfl (aG2 (dB s k) _))<|Dd jS<|Zz ?_;refine Cn ?_ ?_<;>intro hc2
  ·have hb:aHo s k=true:=hc2;refine Sr<|Dd aN<|Zz<|aC<|Rt ?_;exact⟨by rw [PB,tK hlt hb];rfl,rfl⟩
  refine aD<|Rg<|Dd aF<|Dd lR<|Da ?_;refine⟨k+1,⟨by omega,fun j hj=>?_⟩,by omega,E0⟩;by_cases e:j=k
  ·subst e;exact hc2
  exact hno j (by omega)
 have hge:k=s.size:=by have:=aNw hc1;omega
 have hr:PB s=(decide ((0:Int) < (s.size:Int))&&decide ((s.size:Int)≤24)&&rI (dB s 0)):=by
  subst hge;rw [PB,wW hno];rfl
 rw [hr];clear hr;by_cases h0:(0:Int) < (s.size:Int)
 ·have d0:=decide_eq_true h0;have h00:0 < s.size:=by omega
  rw [d0,Bool.true_and];by_cases h24:(s.size:Int)≤24
  ·have d1:=decide_eq_true h24;rw [d1,Bool.true_and];exact bC<|Sr<|Dd aF<|Dd (lH underlying9)<|Dd jE<|Dd aF<|Oa aF<|Oa (lH underlying9)<|Oa MB<|Dd wX<|Dd aF<|Oa aF<|Oa (by exact dV rfl underlying9 rfl rfl (by omega) (by exact aOK _) (by omega) rfl)<|Oa (by exact aA rfl rfl call130 rfl (PC (dB s 0) _))<|Dd wX<|Dd aN<|Zz<|aC<|Rt<|Qq
  have d1:=decide_eq_false h24;rw [d1];exact bC<|Sr<|Dd aF<|Dd (lH underlying9)<|Dd jE<|Dd aF<|Oa aF<|Oa (lH underlying9)<|Oa MB<|Dd wX<|Dd aF<|Fa<|Fa<|Fa<|Dd nS<|Dd aN<|Zz<|aC<|Rt<|Qq
 have d0:=decide_eq_false h0;rw [d0];exact bC<|Sr<|Dd aF<|Dd (lH underlying9)<|Dd jE<|Dd aF<|Fa<|Fa<|Fa<|Dd nS<|Dd aF<|Fo<|Fo<|Fo<|Dd cW<|Dd aN<|Zz<|aC<|Rt<|Qq
theorem jW (s:ByteArray) (H:aB) (hs:s.size < 4611686018427387904):aI Tryz.prog 77 [sv s] H (fun r H'=>r=bv (bP s)∧H'=H):=by rw [← aDS];exact aDT s H hs
theorem aIH (x y:Int) (H:aB):aI Tryz.prog 132 [.agg [iv x,iv y]] H (fun r H'=>r=bv (U7 x y)∧H'=H):=by
 refine Pu ?_;refine Bd func132 rfl ntmps132<|Sr<|Dd (by exact cH (id:=1) rfl rfl rfl rfl rfl)<|Dd aN<|Zz<|Sq ?_;refine bA (t:=2) (n:=22) (X:=U7 x y) ?_ ?_
 ·all_goals refine Dd (aV pS) ?_
  all_goals refine Dd (bM isAgg3)<|Dd DT<|Dm ?_
  all_goals refine Sp 6 (fun h6=>?_) fun h6=>?_
  all_goals try contradiction
  all_goals first|refine Fo<|Fo<|Fo ?_|refine On (aV pS)<|On (bM isAgg3)<|On dK ?_
  all_goals refine Dd cW<|Dm ?_
  all_goals refine Sp 11 (fun h11=>?_) fun h11=>?_
  all_goals try contradiction
  all_goals first|refine Fo<|Fo<|Fo ?_|refine On (aV pR)<|On (bM isAgg3)<|On DT ?_
  all_goals refine Dd cW<|Dm ?_
  all_goals refine Sp 16 (fun h16=>?_) fun h16=>?_
  all_goals try contradiction
  all_goals first|refine Fo<|Fo<|Fo ?_|refine On (aV pR)<|On (bM isAgg3)<|On dK ?_
  all_goals refine Dd cW<|Da ?_
  all_goals(exact⟨⟨_,rfl,by(simp only [U7, *];rfl)⟩,rfl,rfl,rfl⟩)
 exact aC<|Rt<|Qq
theorem aBJ {n:Nat} (h0:1≤n) (h1:n≤5):[encStr sNil,encStr ⟨#[110,111,100,101]⟩,encStr ⟨#[119,97,121]⟩,encStr ⟨#[97,114,101,97]⟩,encStr ⟨#[114,111,117,116,101]⟩,encStr ⟨#[116,117,114,110]⟩][n]?=some (encStr (eL (n:Int))):=by
 match n,h0,h1 with
 | 1,_,_=>rfl
 | 2,_,_=>rfl
 | 3,_,_=>rfl
 | 4,_,_=>rfl
 | 5,_,_=>rfl
 | n+6,_,h=>exact absurd h (by omega)
theorem GT (k:Int) (H:aB):aI Tryz.prog 212 [iv k] H (fun r H'=>r=sv (eL k)∧H'=H):=by
 refine Pu ?_;refine Bd func212 rfl ntmps212<|Sr<|Dd aN<|Zz<|Sr<|Dd (by exact aR [encStr sNil,encStr ⟨#[110,111,100,101]⟩,encStr ⟨#[119,97,121]⟩,encStr ⟨#[97,114,101,97]⟩,encStr ⟨#[114,111,117,116,101]⟩,encStr ⟨#[116,117,114,110]⟩] rfl cA rfl rfl rfl rfl rfl (by simp [encStr]))<|Dd aN<|Zz<|Sq<|Sq ?_;refine bA (t:=10) (n:=7) (X:=decide (k < 1)||decide (5 < k)) ?_ ?_
 ·all_goals refine Dd aF ?_
  all_goals refine Dd dK<|Dm ?_
  all_goals refine Sp 7 (fun h7=>?_) fun h7=>?_
  all_goals try contradiction
  all_goals first|refine Fo<|Fo ?_|refine On aF<|On jE ?_
  all_goals refine Dd cW<|Zz ?_
  all_goals(exact⟨⟨_,rfl,by(simp only [*,Zo];done)⟩,rfl,rfl,rfl⟩)
 refine Cn ?_ ?_<;>intro hc1
 ·have hn:¬ (k=1)∧¬ (k=2)∧¬ (k=3)∧¬ (k=4)∧¬ (k=5):=by
   simp only [Bool.or_eq_true,aOG] at hc1;omega
  refine Sr<|Dd aN<|Zz<|aC<|Rt ?_;exact⟨by simp only [eL,hn.1,hn.2.1,hn.2.2.1,hn.2.2.2.1,hn.2.2.2.2,if_false],rfl⟩
 obtain ⟨n,rfl⟩:∃ n:Nat,k=(n:Int):=⟨k.toNat,by simp only [aOV,aOH] at hc1;omega⟩;have hb:1≤n∧n≤5:=by
  simp only [aOV,aOH] at hc1;omega
 have hi:=aBJ hb.1 hb.2;exact aD<|Sr<|Dd aF<|Dd aF<|Dd (lN cA)<|Dd (jA isAgg9)<|Dd aN<|Zz<|aC<|Rt<|Qq
theorem aCE (l:List GTag) (k:Nat) (t pt:GTag) (hp:0 < k→l[k - 1]?=some pt):(((!bP t.key||decide ((t.val.size:Int) < 1))||decide (200 < (t.val.size:Int)))||(decide ((0:Int) < (k:Int))&&!AG pt.key t.key))=zL (eX GTag.key l k) t:=by
 have hv:decide ((t.val.size:Int) < 1)=decide (t.val=sNil):=decide_eq_decide.2 (by rw [T0];omega);rw [hv,zL];cases hg:bP t.key with
 | false=>simp
 | true =>
  have hs:sle t.key (eX GTag.key l k)=(decide ((0:Int) < (k:Int))&&!AG pt.key t.key):=by
   cases k with
   | zero =>
    have:AG sNil t.key=true:=by
     cases e:AG sNil t.key with
     | true=>rfl
     | false=>exact absurd (RE (ZX _) e) (ML hg)
    rw [eX,JP.2 this];rfl
   | succ k =>
    have h:=hp (by omega);rw [show k+1 - 1=k from rfl] at h;rw [vO h,decide_eq_true (show (0:Int) < ((k+1:Nat):Int)by omega),Bool.true_and];cases e:AG pt.key t.key with
    | true=>rw [JP.2 e];rfl
    | false =>
     cases e2:sle t.key pt.key with
     | true=>rfl
     | false=>rw [JP] at e2;rw [e] at e2;cases e2
  rw [← hs];cases sle t.key (eX GTag.key l k)<;>cases decide (t.val=sNil)<;>cases decide (200 < (t.val.size:Int))<;>rfl
theorem Z9 (l:List GTag) (H:aB) (hl:G5 l):aI Tryz.prog 253 [.pv (qI l)] H (fun r H'=>r=bv (pN l)∧H'=H):=by
 refine Pu ?_;obtain ⟨hl,hks⟩:=hl;have hml:(l.map bJ).length=l.length:=aNz _;refine Bd func253 rfl ntmps253<|Sr<|Dd aN<|Zz<|Sq<|Sr<|Dd aF<|Dd (fY cS)<|Dd jE<|Zz ?_;refine Cn ?_ ?_<;>intro hc1
 ·have h60:decide ((l.length:Int)≤60)=false:=by
   have:=aNv hc1;exact decide_eq_false (by omega)
  refine Sr<|Dd aN<|Zz<|aC<|Rt ?_;exact⟨by rw [pN,h60,Bool.and_false],rfl⟩
 have h60:decide ((l.length:Int)≤60)=true:=by
  have:=aNw hc1;exact decide_eq_true (by omega)
 rw [pN,h60,Bool.and_true];refine aD<|Sq<|Sr<|Dd aN<|Zz<|aG ?_;refine bT (σ:=Nat) (fun k=>([(0,.pv (qI l)),(3,iv (k:Int))],[])) (fun k=>k≤l.length∧∀ j,j < k→MZ zL GTag.key l j=false) (fun k=>l.length - k) 0 ⟨by omega,by omega⟩ ?_ ?_
 ·exact E0
 rintro k ⟨hk,hno⟩;refine Sq<|Sr<|Dd aF<|Dd aF<|Dd (fY cS)<|Dd dK<|Zz ?_;refine Cn ?_ ?_<;>intro hc2
 ·have hlt:k < l.length:=by have:=aNv hc2;omega
  obtain ⟨t,ht⟩:=aZ hlt;have hi:=cP (f:=bJ) ht;have hkt:=hks t (aOJ ht);obtain ⟨pt,hp⟩:∃ pt,0 < k→l[k - 1]?=some pt:=by
   by_cases k0:0 < k
   ·obtain ⟨pt,hp⟩:=aZ (l:=l) (k:=k - 1) (by omega);exact⟨pt,fun _=>hp⟩
   exact⟨t,fun h=>absurd h k0⟩
  have hpv:0 < k→(l.map bJ)[k - 1]?=some (bJ pt):=fun h=>cP (f:=bJ) (hp h);have hbe:=aCE l k t pt hp;refine aD<|Sq<|aG<|Sq ?_;refine mW (t:=55) (n:=43) (X:=((!bP t.key||decide ((t.val.size:Int) < 1))||decide (200 < (t.val.size:Int)))||(decide ((0:Int) < (k:Int))&&!AG pt.key t.key)) ?_ ?_
  ·cases hg20:(!bP t.key:Bool)
   ·cases hg29:(decide ((t.val.size:Int) < 1):Bool)
    ·cases hg38:(decide (200 < (t.val.size:Int)):Bool)
     ·cases hg41:(decide ((0:Int) < (k:Int)):Bool)
      ·refine aO follows<|Cq aF<|Cq aF<|Cq (lN jF)<|Cq (OD mE)<|Cq (jA isAgg9)<|Cq (by exact aA rfl rfl gJ rfl (jW t.key _ hkt.1))<|Cq jS<|Cq aF<|Nf aF<|Nf aF<|Nf (lN jF)<|Nf (OD nC)<|Nf (jA isAgg9)<|Nf (lH underlying9)<|Nf dK<|Cq nS<|Cq aF<|Nf aF<|Nf aF<|Nf (lN jF)<|Nf (OD nC)<|Nf (jA isAgg9)<|Nf (lH underlying9)<|Nf jE<|Cq nS<|Cq aF<|Nf aF<|Nf jE<|Nf aF<|Ot<|Ot<|Ot<|Ot<|Ot<|Ot<|Ot<|Ot<|Ot<|Ot<|Ot<|Ot<|Nf nS<|Cq nS<|bL<|Kr ?_;exact⟨rfl,⟨_,rfl,by rfl⟩,rfl,rfl,rfl⟩
      refine aO follows<|Cq aF<|Cq aF<|Cq (lN jF)<|Cq (OD mE)<|Cq (jA isAgg9)<|Cq (by exact aA rfl rfl gJ rfl (jW t.key _ hkt.1))<|Cq jS<|Cq aF<|Nf aF<|Nf aF<|Nf (lN jF)<|Nf (OD nC)<|Nf (jA isAgg9)<|Nf (lH underlying9)<|Nf dK<|Cq nS<|Cq aF<|Nf aF<|Nf aF<|Nf (lN jF)<|Nf (OD nC)<|Nf (jA isAgg9)<|Nf (lH underlying9)<|Nf jE<|Cq nS<|Cq aF<|Nf aF<|Nf jE<|Nf aF<|Nt aF<|Nt aF<|Nt (by exact eQ rfl rfl rfl (by exact pB (by omega) (by omega)))<|Nt (by exact bW rfl jF rfl rfl (by have:=aNv hg41;omega) (show ((k:Int) - 1).toNat=k - 1 by omega) (hpv (by have:=aNv hg41;omega)) rfl)<|Nt (OD mE)<|Nt (by exact nU rfl isAgg9 rfl (hpv (by have:=aNv hg41;omega)) rfl)<|Nt aF<|Nt aF<|Nt (lN jF)<|Nt (OD mE)<|Nt (jA isAgg9) ?_;refine Nt (by exact aDl rfl rfl rfl)<|Nf wX<|Cq nS<|bL<|Kr ?_;exact⟨rfl,⟨_,rfl,by rfl⟩,rfl,rfl,rfl⟩
     refine aO follows<|Cq aF<|Cq aF<|Cq (lN jF)<|Cq (OD mE)<|Cq (jA isAgg9)<|Cq (by exact aA rfl rfl gJ rfl (jW t.key _ hkt.1))<|Cq jS<|Cq aF<|Nf aF<|Nf aF<|Nf (lN jF)<|Nf (OD nC)<|Nf (jA isAgg9)<|Nf (lH underlying9)<|Nf dK<|Cq nS<|Cq aF<|Nf aF<|Nf aF<|Nf (lN jF)<|Nf (OD nC)<|Nf (jA isAgg9)<|Nf (lH underlying9)<|Nf jE<|Cq nS<|Cq aF<|Of<|Of<|Of<|Ou<|Ou<|Ou<|Ou<|Ou<|Ou<|Ou<|Ou<|Ou<|Ou<|Ou<|Ou<|Of<|Cq wX<|bL<|Kr ?_;exact⟨rfl,⟨_,rfl,by rfl⟩,rfl,rfl,rfl⟩
    refine aO follows<|Cq aF<|Cq aF<|Cq (lN jF)<|Cq (OD mE)<|Cq (jA isAgg9)<|Cq (by exact aA rfl rfl gJ rfl (jW t.key _ hkt.1))<|Cq jS<|Cq aF<|Nf aF<|Nf aF<|Nf (lN jF)<|Nf (OD nC)<|Nf (jA isAgg9)<|Nf (lH underlying9)<|Nf dK<|Cq nS<|Cq aF<|Of<|Of<|Of<|Of<|Of<|Of<|Of<|Cq wX<|Cq aF<|Of<|Of<|Of<|Ou<|Ou<|Ou<|Ou<|Ou<|Ou<|Ou<|Ou<|Ou<|Ou<|Ou<|Ou<|Of<|Cq cW<|bL<|Kr ?_;exact⟨rfl,⟨_,rfl,by rfl⟩,rfl,rfl,rfl⟩
   refine aO follows<|Cq aF<|Cq aF<|Cq (lN jF)<|Cq (OD mE)<|Cq (jA isAgg9)<|Cq (by exact aA rfl rfl gJ rfl (jW t.key _ hkt.1))<|Cq jS<|Cq aF<|Of<|Of<|Of<|Of<|Of<|Of<|Of<|Cq wX<|Cq aF<|Of<|Of<|Of<|Of<|Of<|Of<|Of<|Cq cW<|Cq aF<|Of<|Of<|Of<|Ou<|Ou<|Ou<|Ou<|Ou<|Ou<|Ou<|Ou<|Ou<|Ou<|Ou<|Ou<|Of<|Cq cW<|bL<|Kr ?_;exact⟨rfl,⟨_,rfl,by rfl⟩,rfl,rfl,rfl⟩
  refine Cn ?_ ?_<;>intro hc3
  ·rw [hbe] at hc3;refine Sr<|Dd aN<|Zz<|aC<|Rt ?_;exact⟨by rw [tK hlt ((zM ht).trans hc3)];rfl,rfl⟩
  rw [hbe] at hc3;refine aD<|Rg<|Dd aF<|Dd lR<|Da ?_;refine⟨k+1,⟨by omega,fun j hj=>?_⟩,by omega,E0⟩;by_cases e:j=k
  ·subst e;exact(zM ht).trans hc3
  exact hno j (by omega)
 have hge:k=l.length:=by have:=aNw hc2;omega
 subst hge;refine bC<|Sr<|Dd aN<|Zz<|aC<|Rt ?_;exact⟨by rw [wW hno];rfl,rfl⟩
theorem aCa (o:GObj) (k:Nat) (s p:ByteArray) (hp:0 < k→o.refs[k - 1]?=some p) :
  ((!bP s||((decide (o.kind=2)&&decide ((0:Int) < (k:Int)))&&decide (p=s)))||(decide (o.kind=3)&&inB (wS o.refs k) s))=HL o (eX id o.refs k) (wS o.refs k) s:=by
 rw [HL,MJ];cases hg:bP s with
 | false=>simp
 | true =>
  have hs:(decide ((0:Int) < (k:Int))&&decide (p=s))=decide (s=eX id o.refs k):=by
   cases k with
   | zero=>rw [eX,decide_eq_false (ML hg)];rfl
   | succ k =>
    have h:=hp (by omega);rw [show k+1 - 1=k from rfl] at h;rw [vO h,decide_eq_true (show (0:Int) < ((k+1:Nat):Int)by omega),Bool.true_and];exact decide_eq_decide.2 eq_comm
  rw [← hs];simp [Bool.and_assoc]
theorem aDE {l:List ByteArray} {k:Nat} {s:ByteArray} (h:l[k]?=some s):wS l (k+1)=I9 (wS l k) s:=by rw [wS,h];rfl
def aJl (k n:Int):Bool:=if k=1 then decide (n=0)else if k=2 then decide (2≤n)else if k=3 then decide (3≤n)else if k=4 then decide (1≤n)else decide (n=3)
def LB (o:GObj):Bool:=(decide ((o.refs.length:Int)≤2000)&&!((List.range o.refs.length).any (pC o)))&&aJl o.kind (o.refs.length:Int)
theorem aAB (o:GObj) (H:aB) (ho:okO o):aI Tryz.prog 254 [av (bQ o)] H (fun r H'=>r=bv (LB o)∧H'=H):=by
 refine Pu ?_;obtain ⟨h1,h2,h3,h4⟩:=ho;have hml:(o.refs.map encStr).length=o.refs.length:=aNz _;refine Bd func254 rfl ntmps254<|Sr<|Dd (by exact cH (id:=1) rfl rfl rfl rfl rfl)<|Dd aN<|Zz<|Sr<|Dd (aV dO)<|Dd (bM aH)<|Dd (fY aE)<|Dd aN<|Zz<|Sq<|Sr<|Dd aF<|Dd jE<|Zz ?_;refine Cn ?_ ?_<;>intro hc1
 ·have hb:decide ((o.refs.length:Int)≤2000)=false:=by
   have:=aNv hc1;exact decide_eq_false (by omega)
  refine Sr<|Dd aN<|Zz<|aC<|Rt ?_;exact⟨by rw [LB,hb];rfl,rfl⟩
 have hb:decide ((o.refs.length:Int)≤2000)=true:=by
  have:=aNw hc1;exact decide_eq_true (by omega)
 rw [LB,hb,Bool.true_and];refine aD<|Sr<|Dd (by exact A9 (id:=11) TP rfl rfl)<|Dd aN<|Zz<|Sq<|Sr<|Dd aN<|Zz<|aG ?_;refine bT (σ:=Nat) (fun k=>([(1,.ref 1 0 0 0),(3,iv ((o.refs.map encStr).length:Int)),(4,.mp 11 0),(5,iv (k:Int))],[(11,sob (wS o.refs k)),(1,bx 6 153 ((bQ o).map .pv))])) (fun k=>k≤o.refs.length∧∀ j,j < k→pC o j=false) (fun k=>o.refs.length - k) 0 ⟨by omega,by omega⟩ ?_ ?_
 ·exact(cY.wk (Ea<|Eb<|Ea<|Eb<|trivial) (Hc (JN _ _)<|Hb<|trivial) trivial)
 rintro k ⟨hk,hno⟩;refine Sq<|Sr<|Dd aF<|Dd aF<|Dd dK<|Zz ?_;refine Cn ?_ ?_<;>intro hc2
 ·have hlt:k < o.refs.length:=by have:=aNv hc2;omega
  obtain ⟨s,hs⟩:=aZ hlt;have hi:=cP (f:=encStr) hs;obtain ⟨p,hp⟩:∃ p,0 < k→o.refs[k - 1]?=some p:=by
   by_cases k0:0 < k
   ·obtain ⟨p,hp⟩:=aZ (l:=o.refs) (k:=k - 1) (by omega);exact⟨p,fun _=>hp⟩
   exact⟨s,fun h=>absurd h k0⟩
  have hpv:0 < k→(o.refs.map encStr)[k - 1]?=some (encStr p):=fun h=>cP (f:=encStr) (hp h);have hbe:=aCa o k s p hp;have hw:pC o k=HL o (eX id o.refs k) (wS o.refs k) s:=by rw [pC,hs]
  have hse:=aDE hs;refine aD<|Sq<|aG<|Sq<|Sq ?_;refine mW (t:=60) (n:=44) (X:=(!bP s||((decide (o.kind=2)&&decide ((0:Int) < (k:Int)))&&decide (p=s)))||(decide (o.kind=3)&&inB (wS o.refs k) s)) ?_ ?_
  ·cases hg24:(!bP s:Bool)
   ·cases hg28:(decide (o.kind=2):Bool)
    ·cases hg51:(decide (o.kind=3):Bool)
     ·refine aO follows<|Cq (aV dO)<|Cq (bM aH)<|Cq aF<|Cq (lN cA)<|Cq (jA isAgg9)<|Cq (by exact aA rfl rfl gJ rfl (jW s _ (h4 s (aOJ hs))))<|Cq jS<|Cq aF<|Nf (aV dX)<|Nf (bM isAgg3)<|Nf cT<|Nf aF<|Ot<|Ot<|Nf nS<|Nf aF<|Ot<|Ot<|Ot<|Ot<|Ot<|Ot<|Ot<|Ot<|Ot<|Ot<|Ot<|Ot<|Nf cW<|Cq nS<|Cq aF<|Nf (aV dX)<|Nf (bM isAgg3)<|Nf cT<|Nf aF<|Ot<|Ot<|Ot<|Ot<|Ot<|Ot<|Ot<|Nf nS<|Cq cW<|bL<|Kr ?_;exact⟨rfl,⟨_,rfl,by rfl⟩,rfl,rfl,rfl⟩
     refine aO follows<|Cq (aV dO)<|Cq (bM aH)<|Cq aF<|Cq (lN cA)<|Cq (jA isAgg9)<|Cq (by exact aA rfl rfl gJ rfl (jW s _ (h4 s (aOJ hs))))<|Cq jS<|Cq aF<|Nf (aV dX)<|Nf (bM isAgg3)<|Nf cT<|Nf aF<|Ot<|Ot<|Nf nS<|Nf aF<|Ot<|Ot<|Ot<|Ot<|Ot<|Ot<|Ot<|Ot<|Ot<|Ot<|Ot<|Ot<|Nf cW<|Cq nS<|Cq aF<|Nf (aV dX)<|Nf (bM isAgg3)<|Nf cT<|Nf aF<|Nt aF<|Nt (aV dO)<|Nt (bM aH)<|Nt aF<|Nt (lN cA)<|Nt (jA isAgg9)<|Nt (by exact sB rfl oK underlying9 rfl rfl rfl rfl rfl mG (.inl rfl))<|Nf wX<|Cq cW<|bL<|Kr ?_;exact⟨rfl,⟨_,rfl,by rfl⟩,rfl,rfl,rfl⟩
    cases hg32:(decide ((0:Int) < (k:Int)):Bool)
    ·cases hg51:(decide (o.kind=3):Bool)
     ·refine aO follows<|Cq (aV dO)<|Cq (bM aH)<|Cq aF<|Cq (lN cA)<|Cq (jA isAgg9)<|Cq (by exact aA rfl rfl gJ rfl (jW s _ (h4 s (aOJ hs))))<|Cq jS<|Cq aF<|Nf (aV dX)<|Nf (bM isAgg3)<|Nf cT<|Nf aF<|Nt aF<|Nt jE<|Nf wX<|Nf aF<|Ot<|Ot<|Ot<|Ot<|Ot<|Ot<|Ot<|Ot<|Ot<|Ot<|Ot<|Ot<|Nf nS<|Cq nS<|Cq aF<|Nf (aV dX)<|Nf (bM isAgg3)<|Nf cT<|Nf aF<|Ot<|Ot<|Ot<|Ot<|Ot<|Ot<|Ot<|Nf nS<|Cq cW<|bL<|Kr ?_;exact⟨rfl,⟨_,rfl,by rfl⟩,rfl,rfl,rfl⟩
     refine aO follows<|Cq (aV dO)<|Cq (bM aH)<|Cq aF<|Cq (lN cA)<|Cq (jA isAgg9)<|Cq (by exact aA rfl rfl gJ rfl (jW s _ (h4 s (aOJ hs))))<|Cq jS<|Cq aF<|Nf (aV dX)<|Nf (bM isAgg3)<|Nf cT<|Nf aF<|Nt aF<|Nt jE<|Nf wX<|Nf aF<|Ot<|Ot<|Ot<|Ot<|Ot<|Ot<|Ot<|Ot<|Ot<|Ot<|Ot<|Ot<|Nf nS<|Cq nS<|Cq aF<|Nf (aV dX)<|Nf (bM isAgg3)<|Nf cT<|Nf aF<|Nt aF<|Nt (aV dO)<|Nt (bM aH)<|Nt aF<|Nt (lN cA)<|Nt (jA isAgg9)<|Nt (by exact sB rfl oK underlying9 rfl rfl rfl rfl rfl mG (.inl rfl))<|Nf wX<|Cq cW<|bL<|Kr ?_;exact⟨rfl,⟨_,rfl,by rfl⟩,rfl,rfl,rfl⟩
    cases hg47:(decide (p=s):Bool)
    ·cases hg51:(decide (o.kind=3):Bool)
     ·refine aO follows<|Cq (aV dO)<|Cq (bM aH)<|Cq aF<|Cq (lN cA)<|Cq (jA isAgg9)<|Cq (by exact aA rfl rfl gJ rfl (jW s _ (h4 s (aOJ hs))))<|Cq jS<|Cq aF<|Nf (aV dX)<|Nf (bM isAgg3)<|Nf cT<|Nf aF<|Nt aF<|Nt jE<|Nf wX<|Nf aF<|Nt (aV dO)<|Nt (bM aH)<|Nt aF<|Nt (by exact eQ rfl rfl rfl (by exact pB (by omega) (by omega)))<|Nt (by exact bW rfl cA rfl rfl (by have:=aNv hg32;omega) (show ((k:Int) - 1).toNat=k - 1 by omega) (hpv (by have:=aNv hg32;omega)) rfl)<|Nt (by exact nU rfl isAgg9 rfl (hpv (by have:=aNv hg32;omega)) rfl)<|Nt (aV dO)<|Nt (bM aH)<|Nt aF<|Nt (lN cA)<|Nt (jA isAgg9)<|Nt yJ<|Nf wX<|Cq nS<|Cq aF<|Nf (aV dX)<|Nf (bM isAgg3)<|Nf cT<|Nf aF<|Ot<|Ot<|Ot<|Ot ?_;refine Ot<|Ot<|Ot<|Nf nS<|Cq nS<|bL<|Kr ?_;exact⟨rfl,⟨_,rfl,by rfl⟩,rfl,rfl,rfl⟩
     refine aO follows<|Cq (aV dO)<|Cq (bM aH)<|Cq aF<|Cq (lN cA)<|Cq (jA isAgg9)<|Cq (by exact aA rfl rfl gJ rfl (jW s _ (h4 s (aOJ hs))))<|Cq jS<|Cq aF<|Nf (aV dX)<|Nf (bM isAgg3)<|Nf cT<|Nf aF<|Nt aF<|Nt jE<|Nf wX<|Nf aF<|Nt (aV dO)<|Nt (bM aH)<|Nt aF<|Nt (by exact eQ rfl rfl rfl (by exact pB (by omega) (by omega)))<|Nt (by exact bW rfl cA rfl rfl (by have:=aNv hg32;omega) (show ((k:Int) - 1).toNat=k - 1 by omega) (hpv (by have:=aNv hg32;omega)) rfl)<|Nt (by exact nU rfl isAgg9 rfl (hpv (by have:=aNv hg32;omega)) rfl)<|Nt (aV dO)<|Nt (bM aH)<|Nt aF<|Nt (lN cA)<|Nt (jA isAgg9)<|Nt yJ<|Nf wX<|Cq nS<|Cq aF<|Nf (aV dX)<|Nf (bM isAgg3)<|Nf cT<|Nf aF<|Nt aF<|Nt (aV dO) ?_;refine Nt (bM aH)<|Nt aF<|Nt (lN cA)<|Nt (jA isAgg9)<|Nt (by exact sB rfl oK underlying9 rfl rfl rfl rfl rfl mG (.inl rfl))<|Nf wX<|Cq nS<|bL<|Kr ?_;exact⟨rfl,⟨_,rfl,by rfl⟩,rfl,rfl,rfl⟩
    refine aO follows<|Cq (aV dO)<|Cq (bM aH)<|Cq aF<|Cq (lN cA)<|Cq (jA isAgg9)<|Cq (by exact aA rfl rfl gJ rfl (jW s _ (h4 s (aOJ hs))))<|Cq jS<|Cq aF<|Nf (aV dX)<|Nf (bM isAgg3)<|Nf cT<|Nf aF<|Nt aF<|Nt jE<|Nf wX<|Nf aF<|Nt (aV dO)<|Nt (bM aH)<|Nt aF<|Nt (by exact eQ rfl rfl rfl (by exact pB (by omega) (by omega)))<|Nt (by exact bW rfl cA rfl rfl (by have:=aNv hg32;omega) (show ((k:Int) - 1).toNat=k - 1 by omega) (hpv (by have:=aNv hg32;omega)) rfl)<|Nt (by exact nU rfl isAgg9 rfl (hpv (by have:=aNv hg32;omega)) rfl)<|Nt (aV dO)<|Nt (bM aH)<|Nt aF<|Nt (lN cA)<|Nt (jA isAgg9)<|Nt yJ<|Nf wX<|Cq nS<|Cq aF<|Of<|Of<|Of<|Of<|Ou<|Ou<|Ou<|Ou<|Ou<|Ou<|Ou<|Of<|Cq wX<|bL<|Kr ?_;exact⟨rfl,⟨_,rfl,by rfl⟩,rfl,rfl,rfl⟩
   refine aO follows<|Cq (aV dO)<|Cq (bM aH)<|Cq aF<|Cq (lN cA)<|Cq (jA isAgg9)<|Cq (by exact aA rfl rfl gJ rfl (jW s _ (h4 s (aOJ hs))))<|Cq jS<|Cq aF<|Of<|Of<|Of<|Of<|Ou<|Ou<|Of<|Of<|Ou<|Ou<|Ou<|Ou<|Ou<|Ou<|Ou<|Ou<|Ou<|Ou<|Ou<|Ou<|Of<|Cq wX<|Cq aF<|Of<|Of<|Of<|Of<|Ou<|Ou<|Ou<|Ou<|Ou<|Ou<|Ou<|Of<|Cq cW<|bL<|Kr ?_;exact⟨rfl,⟨_,rfl,by rfl⟩,rfl,rfl,rfl⟩
  refine Cn ?_ ?_<;>intro hc3
  ·rw [hbe,← hw] at hc3;refine Sr<|Dd aN<|Zz<|aC<|Rt ?_;exact⟨by rw [tK hlt hc3];rfl,rfl⟩
  rw [hbe,← hw] at hc3;refine aD<|Rg<|Dd aF<|Dd (aV dO)<|Dd (bM aH)<|Dd aF<|Dd (lN cA)<|Dd (jA isAgg9)<|Uu (by exact ON (.inl rfl) oK underlying9 rfl rfl rfl rfl rfl rfl rfl)<|Zz<|Rg<|Dd aF<|Dd lR<|Da ?_;refine⟨k+1,⟨by omega,fun j hj=>?_⟩,by omega,?_⟩
  ·by_cases e:j=k
   ·subst e;exact hc3
   exact hno j (by omega)
  rw [hse];exact(cY.wk (Ea<|Eb<|Ea<|Eb<|trivial) (Hc (JN _ _)<|Hb<|trivial) trivial)
 have hge:k=o.refs.length:=by have:=aNw hc2;omega
 subst hge;rw [wW hno,Bool.not_false,Bool.true_and,aJl,← hml];refine bC<|Sq<|Sr<|Dd (aV dX)<|Dd (bM isAgg3)<|Zz<|aG<|Sr<|Dd cT<|Da ?_;refine Cn ?_ ?_<;>intro hc4
 ·rw [aNy (aNv hc4)];exact Sr<|Dd aF<|Dd cT<|Dd aN<|Zz<|aC<|Rt<|Qq
 rw [aNx (aNw hc4)];refine Sr<|Dd cT<|Da ?_;refine Cn ?_ ?_<;>intro hc5
 ·rw [aNy (aNv hc5)];exact Sr<|Dd aF<|Dd DT<|Dd aN<|Zz<|aC<|Rt<|Qq
 rw [aNx (aNw hc5)];refine Sr<|Dd cT<|Da ?_;refine Cn ?_ ?_<;>intro hc6
 ·rw [aNy (aNv hc6)];exact Sr<|Dd aF<|Dd DT<|Dd aN<|Zz<|aC<|Rt<|Qq
 rw [aNx (aNw hc6)];refine Sr<|Dd cT<|Da ?_;refine Cn ?_ ?_<;>intro hc7
 ·rw [aNy (aNv hc7)];exact Sr<|Dd aF<|Dd DT<|Dd aN<|Zz<|aC<|Rt<|Qq
 rw [aNx (aNw hc7)];exact aD<|Sr<|Dd aF<|Dd cT<|Dd aN<|Zz<|aC<|Rt<|Qq
def atO (o:GObj):Bool:=if o.kind=1 then U7 o.x o.y else(decide (o.x=0)&&decide (o.y=0))
theorem aG3 (o:GObj):((((bP o.id&&!decide (eL o.kind=sNil))&&atO o)&&pN o.tags)&&LB o)=kR o:=by
 cases hw:decide (eL o.kind=sNil)with
 | true=>simp [kR,IR,rR,hw]
 | false =>
  have hk:=wP hw;have hk0:¬ o.kind=0:=fun e=>by rw [e] at hw;simp [eL] at hw
  simp only [kR,IR,rR,hw,LB,atO,MM,aJl,BK];generalize bP o.id=a;generalize pN o.tags=b;generalize (List.range o.refs.length).any (pC o)=w;generalize U7 o.x o.y=c;generalize (decide (o.x=0)&&decide (o.y=0))=d;generalize (o.refs.length:Int)=n;generalize o.kind=k at *;rcases(by omega:k=1∨k=2∨k=3∨k=4∨k=5)with rfl|rfl|rfl|rfl|rfl<;>cases a<;>cases b<;>cases w<;>cases c<;>cases d<;>rw [Bool.eq_iff_iff]<;>simp<;>omega
theorem aDR (o:GObj) (H:aB) (ho:okO o):aI Tryz.prog 222 [av (bQ o)] H (fun r H'=>r=bv (kR o)∧H'=H):=by
 refine Pu ?_;rw [← aG3];refine Bd func222 rfl ntmps222<|Sr<|Dd (by exact cH (id:=1) rfl rfl rfl rfl rfl)<|Dd aN<|Zz<|Sr<|Dd (aV lD)<|Dd (by exact aL rfl dQ sizeOf73 rfl rfl rfl rfl (by simp only [Zl,bJ,bQ,encStr];rfl) rfl)<|Dd (by exact aA rfl rfl call132 rfl (aIH o.x o.y _))<|Dd aN<|Zz<|Sq<|Sr<|Dd (aV dX)<|Dd (bM isAgg3)<|Dd AI<|Zz ?_;refine Cn ?_ ?_<;>intro hc1
 ·have hat:atO o=(decide (o.x=0)&&decide (o.y=0)):=by
   have h:(!decide (o.kind=1))=true:=hc1;rw [atO,aNx (by simpa using h)]
  refine Rg<|Dd (aV lD)<|Dd (by exact aL rfl dQ sizeOf73 rfl rfl rfl rfl (by simp only [Zl,bJ,bQ,encStr];rfl) rfl)<|Dd (uQ VZ)<|Dd (by exact xC rfl rfl rfl rfl rfl gV (RM _ _ _ _))<|Dd aN<|Zz<|Sq ?_;refine bA (t:=2) (n:=26) (X:=(((bP o.id&&!decide (eL o.kind=sNil))&&atO o)&&pN o.tags)&&LB o) ?_ ?_
  ·all_goals refine Dd (aV nE) ?_
   all_goals refine Dd (bM isAgg9)<|Dd (by exact aA rfl rfl gJ rfl (jW o.id _ ho.1))<|Dm ?_
   all_goals refine Sp 17 (fun h17=>?_) fun h17=>?_
   all_goals try contradiction
   all_goals first|refine Fo<|Fo<|Fo<|Fo ?_|refine On (aV dX)<|On (bM isAgg3)<|On (by exact aA rfl rfl aNR rfl (GT o.kind _))<|On JO ?_
   all_goals refine Dd cW<|Dm ?_
   all_goals refine Sp 23 (fun h23=>?_) fun h23=>?_
   all_goals try contradiction
   all_goals first|refine Fo ?_|refine On aF ?_
   all_goals refine Dd cW<|Dm ?_
   all_goals refine Sp 26 (fun h26=>?_) fun h26=>?_
   all_goals try contradiction
   all_goals first|refine Fo<|Fo<|Fo ?_|refine On (aV eU)<|On (bM cM)<|On (by exact aA rfl rfl call253 rfl (Z9 o.tags _ ho.2.1)) ?_
   all_goals refine Dd cW<|Dm ?_
   all_goals refine Sp 31 (fun h31=>?_) fun h31=>?_
   all_goals try contradiction
   all_goals first|refine Fo<|Fo ?_|refine On (by exact aL rfl cU sizeOf153 rfl rfl rfl rfl (by simp only [Zl,bJ,bQ,encStr];rfl) rfl)<|On (by exact aA rfl rfl call254 rfl (aAB o _ ho)) ?_
   all_goals refine Dd cW<|Da ?_
   all_goals(exact⟨⟨_,rfl,by(simp only [hat, *];rfl)⟩,rfl,rfl,rfl⟩)
  exact aC<|Rt<|Qq
 have hat:atO o=U7 o.x o.y:=by
  have h:(!decide (o.kind=1))=false:=hc1;rw [atO,aNy (by simpa using h)]
 refine aD<|Sq ?_;refine bA (t:=2) (n:=26) (X:=(((bP o.id&&!decide (eL o.kind=sNil))&&atO o)&&pN o.tags)&&LB o) ?_ ?_
 ·all_goals refine Dd (aV nE) ?_
  all_goals refine Dd (bM isAgg9)<|Dd (by exact aA rfl rfl gJ rfl (jW o.id _ ho.1))<|Dm ?_
  all_goals refine Sp 17 (fun h17=>?_) fun h17=>?_
  all_goals try contradiction
  all_goals first|refine Fo<|Fo<|Fo<|Fo ?_|refine On (aV dX)<|On (bM isAgg3)<|On (by exact aA rfl rfl aNR rfl (GT o.kind _))<|On JO ?_
  all_goals refine Dd cW<|Dm ?_
  all_goals refine Sp 23 (fun h23=>?_) fun h23=>?_
  all_goals try contradiction
  all_goals first|refine Fo ?_|refine On aF ?_
  all_goals refine Dd cW<|Dm ?_
  all_goals refine Sp 26 (fun h26=>?_) fun h26=>?_
  all_goals try contradiction
  all_goals first|refine Fo<|Fo<|Fo ?_|refine On (aV eU)<|On (bM cM)<|On (by exact aA rfl rfl call253 rfl (Z9 o.tags _ ho.2.1)) ?_
  all_goals refine Dd cW<|Dm ?_
  all_goals refine Sp 31 (fun h31=>?_) fun h31=>?_
  all_goals try contradiction
  all_goals first|refine Fo<|Fo ?_|refine On (by exact aL rfl cU sizeOf153 rfl rfl rfl rfl (by simp only [Zl,bJ,bQ,encStr];rfl) rfl)<|On (by exact aA rfl rfl call254 rfl (aAB o _ ho)) ?_
  all_goals refine Dd cW<|Da ?_
  all_goals(exact⟨⟨_,rfl,by(simp only [hat, *];rfl)⟩,rfl,rfl,rfl⟩)
 exact aC<|Rt<|Qq
def SM {α:Type} (e:α→α→Bool) (a b:List α):Bool:=decide (a.length=b.length)&&(List.range a.length).all fun k=>match a[k]?,b[k]? with|some x,some y=>e x y|_,_=>true
theorem VH {α:Type} {e:α→α→Bool} (he:∀ x y,e x y=true↔x=y) {a b:List α}:SM e a b=true↔a=b:=by
 constructor
 ·intro h;simp only [SM,aOI,aOG,List.all_eq_true,List.mem_range] at h;apply List.ext_getElem h.1;intro k h1 h2;have:=h.2 k h1;rw [aOE h1,aOE h2] at this;exact(he _ _).1 this
 rintro rfl;simp only [SM,aOI,aOG,List.all_eq_true,List.mem_range,true_and];intro k hk;rw [aOE hk];exact(he _ _).2 rfl
theorem VI {α:Type} {e:α→α→Bool} {a b:List α} {k:Nat} {x y:α} (hx:a[k]?=some x) (hy:b[k]?=some y) (h:e x y=false):SM e a b=false:=by have hk:=(aOD.1 hx).1;rw [SM,Bool.and_eq_false_iff];right;rw [List.all_eq_false];exact⟨k,List.mem_range.2 hk,by rw [hx,hy];simp [h]⟩
theorem QF {α:Type} {e:α→α→Bool} {a b:List α} (hl:a.length=b.length) (h:∀ k,k < a.length→∀ x y,a[k]?=some x→b[k]?=some y→e x y=true):SM e a b=true:=by simp only [SM,aOI,aOG,List.all_eq_true,List.mem_range];refine⟨hl,fun k hk=>?_⟩;rw [aOE hk,aOE (by omega)];exact h k hk _ _ (aOE hk) (aOE (by omega))
def IC (a b:ByteArray):Bool:=decide (a=b)
theorem aAv (a b:ByteArray):IC a b=true↔a=b:=by simp [IC]
def DS (a b:GObj):Bool:=decide (a.id=b.id)&&decide (a.kind=b.kind)&&(decide (a.x=b.x)&&decide (a.y=b.y))&&decide (a.refs.length=b.refs.length)&&decide (a.tags.length=b.tags.length)
def HM (a b:GObj):Bool:=DS a b&&(SM IC a.refs b.refs&&SM rY a.tags b.tags)
theorem YL {a b:GObj}:HM a b=true↔a=b:=by
 rw [HM,aOI,aOI,VH aAv,VH OY];cases a;cases b;simp only [DS,aOI,aOG,GObj.mk.injEq];constructor
 ·rintro⟨⟨⟨⟨⟨a1,a2⟩,a3,a4⟩,a5⟩,a6⟩,a7,a8⟩;exact⟨a1,a2,a3,a4,a7,a8⟩
 rintro⟨a1,a2,a3,a4,a7,a8⟩;exact⟨⟨⟨⟨⟨a1,a2⟩,a3,a4⟩,by rw [a7]⟩,by rw [a8]⟩,a7,a8⟩
def MH (a b:GObj) (n1 n2 n3 n4:Int):Bool:=!decide (a.id=b.id)||!decide (a.kind=b.kind)||!(decide (a.x=b.x)&&decide (a.y=b.y))||!decide (n1=n2)||!decide (n3=n4)
theorem P7 (a b:GObj):MH a b ((a.refs.map encStr).length:Int) ((b.refs.map encStr).length:Int) ((a.tags.map bJ).length:Int) ((b.tags.map bJ).length:Int)=!DS a b:=by simp only [MH,DS,aNz,Bool.not_and,Int.natCast_inj]
theorem aDH (a b:GObj) (H:aB) (ha:a.refs.length < 4611686018427387904) (ha2:a.tags.length < 4611686018427387904):aI Tryz.prog 182 [av (bQ a),av (bQ b)] H (fun r H'=>r=bv (HM a b)∧H'=H):=by
 refine Pu ?_;have hra:(a.refs.map encStr).length=a.refs.length:=aNz _;have hta:(a.tags.map bJ).length=a.tags.length:=aNz _;refine Bd func182 rfl ntmps182<|Sr<|Dd (by exact cH (id:=2) rfl rfl rfl rfl rfl)<|Dd (by exact cH (id:=3) rfl rfl rfl rfl rfl)<|Dd aN<|Zz<|Sq<|Sq ?_;refine bA (t:=43) (n:=41) (X:=MH a b ((a.refs.map encStr).length:Int) ((b.refs.map encStr).length:Int) ((a.tags.map bJ).length:Int) ((b.tags.map bJ).length:Int)) ?_ ?_
 ·all_goals refine Dd (aV nE) ?_
  all_goals refine Dd (bM isAgg9)<|Dd (aV nE)<|Dd (bM isAgg9)<|Dd JO<|Dm ?_
  all_goals refine Sp 12 (fun h12=>?_) fun h12=>?_
  all_goals try contradiction
  all_goals first|refine Fo<|Fo<|Fo<|Fo<|Fo ?_|refine On (aV dX)<|On (bM isAgg3)<|On (aV dX)<|On (bM isAgg3)<|On AI ?_
  all_goals refine Dd cW<|Dm ?_
  all_goals refine Sp 19 (fun h19=>?_) fun h19=>?_
  all_goals try contradiction
  all_goals first|refine Fo<|Fo<|Fo<|Fo<|Fo ?_|refine On (aV lD)<|On (by exact aL rfl dQ sizeOf73 rfl rfl rfl rfl (by simp only [Zl,bJ,bQ,encStr];rfl) rfl)<|On (aV lD)<|On (by exact aL rfl dQ sizeOf73 rfl rfl rfl rfl (by simp only [Zl,bJ,bQ,encStr];rfl) rfl)<|On (by exact xB rfl rfl rfl rfl rfl gV (RM _ _ _ _)) ?_
  all_goals refine Dd cW<|Dm ?_
  all_goals refine Sp 26 (fun h26=>?_) fun h26=>?_
  all_goals try contradiction
  all_goals first|refine Fo<|Fo<|Fo<|Fo<|Fo<|Fo<|Fo ?_|refine On (aV dO)<|On (bM aH)<|On (fY aE)<|On (aV dO)<|On (bM aH)<|On (fY aE)<|On AI ?_
  all_goals refine Dd cW<|Dm ?_
  all_goals refine Sp 35 (fun h35=>?_) fun h35=>?_
  all_goals try contradiction
  all_goals first|refine Fo<|Fo<|Fo<|Fo<|Fo<|Fo<|Fo ?_|refine On (aV eU)<|On (bM cM)<|On (fY cS)<|On (aV eU)<|On (bM cM)<|On (fY cS)<|On AI ?_
  all_goals refine Dd cW<|Zz ?_
  all_goals(exact⟨⟨_,rfl,by first|(simp only [MH, *];rfl)|(simp_all [MH];done)⟩,rfl,rfl,rfl⟩)
 refine Cn ?_ ?_<;>intro hc1
 ·rw [P7] at hc1;refine Sr<|Dd aN<|Zz<|aC<|Rt ?_;refine⟨?_,rfl⟩;have:DS a b=false:=by simpa using hc1
  rw [HM,this];rfl
 rw [P7] at hc1;have hh:DS a b=true:=by simpa using hc1
 have hlens:a.refs.length=b.refs.length∧a.tags.length=b.tags.length:=by
  simp only [DS,aOI,aOG] at hh;exact⟨hh.1.2,hh.2⟩
 obtain ⟨hl1,hl2⟩:=hlens;rw [HM,hh,Bool.true_and];refine aD<|Sq<|Sr<|Dd aN<|Zz<|aG ?_;refine bT (σ:=Nat) (fun k=>([(2,.ref 2 0 0 0),(3,.ref 3 0 0 0),(5,iv (k:Int))],[(3,bx 6 153 ((bQ b).map .pv)),(2,bx 6 153 ((bQ a).map .pv))])) (fun k=>k≤a.refs.length∧∀ j,j < k→∀ x y,a.refs[j]?=some x→b.refs[j]?=some y→IC x y=true) (fun k=>a.refs.length - k) 0 ⟨by omega,by omega⟩ ?_ ?_
 ·exact Wk
 rintro k ⟨hk,hall⟩;refine Sq<|Sr<|Dd aF<|Dd (aV dO)<|Dd (bM aH)<|Dd (fY aE)<|Dd dK<|Zz ?_;refine Cn ?_ ?_<;>intro hc2
 ·have hlt:k < a.refs.length:=by have:=aNv hc2;omega
  obtain ⟨x,hx⟩:=aZ hlt;obtain ⟨y,hy⟩:=aZ (l:=b.refs) (k:=k) (by omega);have hi:=cP (f:=encStr) hx;have hi2:=cP (f:=encStr) hy;refine aD<|Sq<|aG<|Sq<|aO follows<|Cq (aV dO)<|Cq (bM aH)<|Cq aF<|Cq (lN cA)<|Cq (jA isAgg9)<|Cq (aV dO)<|Cq (bM aH)<|Cq aF<|Cq (lN cA)<|Cq (jA isAgg9)<|Cq JO<|bL<|Kr ?_;refine Cn ?_ ?_<;>intro hc3
  ·have ht:IC x y=false:=by
    have h:(!IC x y)=true:=hc3
    simpa using h
   refine Sr<|Dd aN<|Zz<|aC<|Rt ?_;exact⟨by rw [VI hx hy ht];rfl,rfl⟩
  have ht:IC x y=true:=by
   have h:(!IC x y)=false:=hc3
   simpa using h
  refine aD<|Rg<|Dd aF<|Dd lR<|Da ?_;refine⟨k+1,⟨by omega,fun j hj x' y' h1 h2=>?_⟩,by omega,Wk⟩;by_cases e:j=k
  ·subst e;rw [hx] at h1;rw [hy] at h2;cases h1;cases h2;exact ht
  exact hall j (by omega) x' y' h1 h2
 have hge:k=a.refs.length:=by have:=aNw hc2;omega
 subst hge;rw [QF hl1 hall,Bool.true_and];refine bC<|Sq<|Sr<|Dd aN<|Zz<|aG ?_;refine bT (σ:=Nat) (fun k=>([(2,.ref 2 0 0 0),(3,.ref 3 0 0 0),(6,iv (k:Int))],[(3,bx 6 153 ((bQ b).map .pv)),(2,bx 6 153 ((bQ a).map .pv))])) (fun k=>k≤a.tags.length∧∀ j,j < k→∀ x y,a.tags[j]?=some x→b.tags[j]?=some y→rY x y=true) (fun k=>a.tags.length - k) 0 ⟨by omega,by omega⟩ ?_ ?_
 ·exact Wk
 rintro k ⟨hk,hall2⟩;refine Sq<|Sr<|Dd aF<|Dd (aV eU)<|Dd (bM cM)<|Dd (fY cS)<|Dd dK<|Zz ?_;refine Cn ?_ ?_<;>intro hc4
 ·have hlt:k < a.tags.length:=by have:=aNv hc4;omega
  obtain ⟨x,hx⟩:=aZ hlt;obtain ⟨y,hy⟩:=aZ (l:=b.tags) (k:=k) (by omega);have hi:=cP (f:=bJ) hx;have hi2:=cP (f:=bJ) hy;refine aD<|Sq<|aG<|Sq<|aO follows<|Cq (aV eU)<|Cq (bM cM)<|Cq aF<|Cq (lN jF)<|Cq (by exact dL rfl sU jH rfl (by omega) (by simp only [Zl,bJ,bQ,encStr];rfl) rfl)<|Cq (aV eU)<|Cq (bM cM)<|Cq aF<|Cq (lN jF)<|Cq (by exact dL rfl sU jH rfl (by omega) (by simp only [Zl,bJ,bQ,encStr];rfl) rfl)<|Cq (by exact xB rfl rfl rfl rfl rfl eqGuardType206 (aIF _ _ _ _))<|bL<|Kr ?_;refine Cn ?_ ?_<;>intro hc5
  ·have ht:rY x y=false:=by
    have h:(!rY x y)=true:=hc5
    simpa using h
   refine Sr<|Dd aN<|Zz<|aC<|Rt ?_;exact⟨by rw [VI hx hy ht],rfl⟩
  have ht:rY x y=true:=by
   have h:(!rY x y)=false:=hc5
   simpa using h
  refine aD<|Rg<|Dd aF<|Dd lR<|Da ?_;refine⟨k+1,⟨by omega,fun j hj x' y' h1 h2=>?_⟩,by omega,Wk⟩;by_cases e:j=k
  ·subst e;rw [hx] at h1;rw [hy] at h2;cases h1;cases h2;exact ht
  exact hall2 j (by omega) x' y' h1 h2
 have hge:k=a.tags.length:=by have:=aNw hc4;omega
 subst hge;refine bC<|Sr<|Dd aN<|Zz<|aC<|Rt ?_;exact⟨by rw [QF hl2 hall2],rfl⟩
theorem aBj (a b:GObj):HM a b=pO a b:=by rw [Bool.eq_iff_iff,YL,zC]
theorem aAA (a b:GObj) (H:aB) (ha:a.refs.length < 4611686018427387904) (ha2:a.tags.length < 4611686018427387904):aI Tryz.prog 182 [av (bQ a),av (bQ b)] H (fun r H'=>r=bv (pO a b)∧H'=H):=by rw [← aBj];exact aDH a b H ha ha2
def raw (e:GEdit) (s:ByteArray):Prop:=s=e.id∨s=e.other∨s=e.node∨s=e.obj.id∨s∈e.refs∨s∈e.obj.refs
def rb (b:GEdit):Bool:=((((((!decide (b.id=sNil)||!decide (b.other=sNil))||!decide (b.node=sNil))||!(decide (b.x=0)&&decide (b.y=0)))||!decide (b.key=sNil))||!decide (b.val=sNil))||decide ((0:Int) < ((b.refs.map encStr).length:Int)))||!pO b.obj zObj
theorem DL (b:GEdit):rb b=false↔(b.id=sNil∧b.other=sNil∧b.node=sNil∧(b.x=0∧b.y=0)∧b.key=sNil∧b.val=sNil∧b.refs=[]∧b.obj=zObj):=by
 have hr:decide ((0:Int) < ((b.refs.map encStr).length:Int))=false↔b.refs=[]:=by
  rw [aOH,aNz];constructor
  ·intro h;exact List.eq_nil_of_length_eq_zero (by omega)
  intro h;rw [h];simp
 simp only [rb,aOV,Bool.not_eq_false',aOI,aOG,hr,zC];constructor
 ·rintro⟨⟨⟨⟨⟨⟨⟨a,b⟩,c⟩,d⟩,e⟩,f⟩,g⟩,i⟩;exact⟨a,b,c,d,e,f,g,i⟩
 rintro⟨a,b,c,d,e,f,g,i⟩;exact⟨⟨⟨⟨⟨⟨⟨a,b⟩,c⟩,d⟩,e⟩,f⟩,g⟩,i⟩
theorem pK (x y:Int):onP x y=U7 x y:=by rw [Bool.eq_iff_iff];simp only [onP,U7,aOI,aOG];omega
theorem tT:(sNil.size:Int)≤200:=by decide
def aFC (e:GEdit):GEdit:=⟨e.op,e.id,e.other,e.node,e.x,e.y,e.key,e.val,e.refs,zObj⟩
theorem ed1 (e:GEdit) (ho:e.op=1):dP e=(!rb (aFC e)&&kR e.obj):=by
 obtain ⟨op,id,other,node,x,y,key,val,refs,obj⟩:=e;simp only at ho;subst ho;have hb:=DL (aFC ⟨1,id,other,node,x,y,key,val,refs,obj⟩);rw [Bool.eq_iff_iff];simp only [aFC] at hb ⊢;simp only [dP,aOI,aOS,hb,mU,pK,pY,C1];simp only [Int.reduceEq,if_true,if_false,reduceIte,Int.reduceLE,decide_true,GEdit.mk.injEq,true_and,and_true,List.all_cons,List.all_nil,Bool.and_true,aOI,pK,aOG,aOS,aOV,aOH,aNz,eq_comm (a:=sNil),eq_comm (a:=(0:Int)),eq_comm (a:=zObj),eq_comm (a:=([]:List ByteArray))];constructor
 ·intro h;have hs:=tT
  simp_all
  try omega
 intro h
 simp_all
 try omega
def aFB (e:GEdit):GEdit:=⟨e.op,sNil,e.other,e.node,0,0,e.key,e.val,e.refs,e.obj⟩
theorem ed2 (e:GEdit) (ho:e.op=2):dP e=(!rb (aFB e)&&([e.id].all bP&&(decide ((e.val.size:Int)≤200)&&U7 e.x e.y))):=by
 obtain ⟨op,id,other,node,x,y,key,val,refs,obj⟩:=e;simp only at ho;subst ho;have hb:=DL (aFB ⟨2,id,other,node,x,y,key,val,refs,obj⟩);rw [Bool.eq_iff_iff];simp only [aFB] at hb ⊢;simp only [dP,aOI,aOS,hb,mU,pK,pY,C1];simp only [Int.reduceEq,if_true,if_false,reduceIte,Int.reduceLE,decide_true,GEdit.mk.injEq,true_and,and_true,List.all_cons,List.all_nil,Bool.and_true,aOI,pK,aOG,aOS,aOV,aOH,aNz,eq_comm (a:=sNil),eq_comm (a:=(0:Int)),eq_comm (a:=zObj),eq_comm (a:=([]:List ByteArray))];constructor
 ·intro h;have hs:=tT
  simp_all
  try omega
 intro h
 simp_all
 try omega
def aFA (e:GEdit):GEdit:=⟨e.op,sNil,e.other,e.node,e.x,e.y,sNil,sNil,e.refs,e.obj⟩
theorem ed3 (e:GEdit) (ho:e.op=3):dP e=(!rb (aFA e)&&([e.id,e.key].all bP&&decide ((e.val.size:Int)≤200))):=by
 obtain ⟨op,id,other,node,x,y,key,val,refs,obj⟩:=e;simp only at ho;subst ho;have hb:=DL (aFA ⟨3,id,other,node,x,y,key,val,refs,obj⟩);rw [Bool.eq_iff_iff];simp only [aFA] at hb ⊢;simp only [dP,aOI,aOS,hb,mU,pK,pY,C1];simp only [Int.reduceEq,if_true,if_false,reduceIte,Int.reduceLE,decide_true,GEdit.mk.injEq,true_and,and_true,List.all_cons,List.all_nil,Bool.and_true,aOI,pK,aOG,aOS,aOV,aOH,aNz,eq_comm (a:=sNil),eq_comm (a:=(0:Int)),eq_comm (a:=zObj),eq_comm (a:=([]:List ByteArray))];constructor
 ·intro h;have hs:=tT
  simp_all
  try omega
 intro h
 simp_all
 try omega
def aEz (e:GEdit):GEdit:=⟨e.op,sNil,e.other,e.node,e.x,e.y,e.key,e.val,[],e.obj⟩
theorem ed4 (e:GEdit) (ho:e.op=4):dP e=(!rb (aEz e)&&((e.id::e.refs).all bP&&(!(decide (((e.refs.map encStr).length:Int) < 1)||decide (2000 < ((e.refs.map encStr).length:Int)))&&decide ((e.val.size:Int)≤200)))):=by
 obtain ⟨op,id,other,node,x,y,key,val,refs,obj⟩:=e;simp only at ho;subst ho;have hb:=DL (aEz ⟨4,id,other,node,x,y,key,val,refs,obj⟩);rw [Bool.eq_iff_iff];simp only [aEz] at hb ⊢;simp only [dP,aOI,aOS,hb,mU,pK,pY,C1];simp only [Int.reduceEq,if_true,if_false,reduceIte,Int.reduceLE,decide_true,GEdit.mk.injEq,true_and,and_true,List.all_cons,List.all_nil,Bool.and_true,aOI,pK,aOG,aOS,aOV,aOH,aNz,eq_comm (a:=sNil),eq_comm (a:=(0:Int)),eq_comm (a:=zObj),eq_comm (a:=([]:List ByteArray))];constructor
 ·intro h;have hs:=tT
  simp_all
  try omega
 intro h
 simp_all
 try omega
def aEy (e:GEdit):GEdit:=⟨e.op,sNil,e.other,e.node,e.x,e.y,e.key,e.val,e.refs,e.obj⟩
theorem ed5 (e:GEdit) (ho:e.op=5):dP e=(!rb (aEy e)&&([e.id].all bP&&decide ((e.val.size:Int)≤200))):=by
 obtain ⟨op,id,other,node,x,y,key,val,refs,obj⟩:=e;simp only at ho;subst ho;have hb:=DL (aEy ⟨5,id,other,node,x,y,key,val,refs,obj⟩);rw [Bool.eq_iff_iff];simp only [aEy] at hb ⊢;simp only [dP,aOI,aOS,hb,mU,pK,pY,C1];simp only [Int.reduceEq,if_true,if_false,reduceIte,Int.reduceLE,decide_true,GEdit.mk.injEq,true_and,and_true,List.all_cons,List.all_nil,Bool.and_true,aOI,pK,aOG,aOS,aOV,aOH,aNz,eq_comm (a:=sNil),eq_comm (a:=(0:Int)),eq_comm (a:=zObj),eq_comm (a:=([]:List ByteArray))];constructor
 ·intro h;have hs:=tT
  simp_all
  try omega
 intro h
 simp_all
 try omega
def aEx (e:GEdit):GEdit:=⟨e.op,sNil,sNil,sNil,e.x,e.y,e.key,e.val,e.refs,e.obj⟩
theorem ed6 (e:GEdit) (ho:e.op=6):dP e=(!rb (aEx e)&&([e.id,e.node,e.other].all bP&&decide ((e.val.size:Int)≤200))):=by
 obtain ⟨op,id,other,node,x,y,key,val,refs,obj⟩:=e;simp only at ho;subst ho;have hb:=DL (aEx ⟨6,id,other,node,x,y,key,val,refs,obj⟩);rw [Bool.eq_iff_iff];simp only [aEx] at hb ⊢;simp only [dP,aOI,aOS,hb,mU,pK,pY,C1];simp only [Int.reduceEq,if_true,if_false,reduceIte,Int.reduceLE,decide_true,GEdit.mk.injEq,true_and,and_true,List.all_cons,List.all_nil,Bool.and_true,aOI,pK,aOG,aOS,aOV,aOH,aNz,eq_comm (a:=sNil),eq_comm (a:=(0:Int)),eq_comm (a:=zObj),eq_comm (a:=([]:List ByteArray))];constructor
 ·intro h;have hs:=tT
  simp_all
  try omega
 intro h
 simp_all
 try omega
def aEw (e:GEdit):GEdit:=⟨e.op,sNil,sNil,e.node,e.x,e.y,e.key,e.val,e.refs,e.obj⟩
theorem ed7 (e:GEdit) (ho:e.op=7):dP e=(!rb (aEw e)&&([e.id,e.other].all bP&&decide ((e.val.size:Int)≤200))):=by
 obtain ⟨op,id,other,node,x,y,key,val,refs,obj⟩:=e;simp only at ho;subst ho;have hb:=DL (aEw ⟨7,id,other,node,x,y,key,val,refs,obj⟩);rw [Bool.eq_iff_iff];simp only [aEw] at hb ⊢;simp only [dP,aOI,aOS,hb,mU,pK,pY,C1];simp only [Int.reduceEq,if_true,if_false,reduceIte,Int.reduceLE,decide_true,GEdit.mk.injEq,true_and,and_true,List.all_cons,List.all_nil,Bool.and_true,aOI,pK,aOG,aOS,aOV,aOH,aNz,eq_comm (a:=sNil),eq_comm (a:=(0:Int)),eq_comm (a:=zObj),eq_comm (a:=([]:List ByteArray))];constructor
 ·intro h;have hs:=tT
  simp_all
  try omega
 intro h
 simp_all
 try omega
abbrev lW (l:List ByteArray):List (List AV):=l.map (fun s=>(encStr s).map .pv)
theorem vA (l m:List ByteArray):lW l++(m.map encStr).map (·.map .pv)=lW (l++m):=by rw [← Z5 encStr m,lW,lW,List.map_append]
theorem sE (H:aB) (l:List ByteArray):∀ r∈lW l,∀ a∈r,Clo H a:=aA6 _ _ _
theorem EJ (l:List ByteArray):∀ r∈l.map encStr,r.length=1:=fun r hr=>by
 obtain ⟨o,_,rfl⟩:=List.mem_map.1 hr;rfl
def bI (e:GEdit):ByteArray:=if e.op=1 then e.id else sNil
def bB (e:GEdit):GObj:=if e.op=1 then zObj else e.obj
def bX (e:GEdit):Int:=if e.op=2 then 0 else e.x
def bY (e:GEdit):Int:=if e.op=2 then 0 else e.y
def bK (e:GEdit):ByteArray:=if e.op=3 then sNil else e.key
def bV (e:GEdit):ByteArray:=if e.op=3 then sNil else e.val
def bR (e:GEdit):List ByteArray:=if e.op=4 then[] else e.refs
def bN (e:GEdit):ByteArray:=if e.op=6 then sNil else e.node
def bO (e:GEdit):ByteArray:=if(decide (e.op=6)||decide (e.op=7))=true then sNil else e.other
def sA (e:GEdit):GEdit:=⟨e.op,bI e,bO e,bN e,bX e,bY e,bK e,bV e,bR e,bB e⟩
abbrev bE (e:GEdit):Ob:=bx 15 155 ((aU e).map .pv)
def eNo:GEdit:=⟨0,sNil,sNil,sNil,0,0,sNil,sNil,[],zObj⟩
theorem aKH (e:GEdit) (H:aB):aI Tryz.prog 221 [av (aU e)] H (fun r H'=>r=av (aU (sA e))∧H'=H):=by
 refine Pu ?_;rw [sA];obtain ⟨i,hi⟩:∃ x,x=bI e:=⟨_,rfl⟩;obtain ⟨b,hb⟩:∃ x,x=bB e:=⟨_,rfl⟩;obtain ⟨x,hx⟩:∃ x,x=bX e:=⟨_,rfl⟩;obtain ⟨y,hy⟩:∃ x,x=bY e:=⟨_,rfl⟩;obtain ⟨k,hk⟩:∃ x,x=bK e:=⟨_,rfl⟩;obtain ⟨v,hv⟩:∃ x,x=bV e:=⟨_,rfl⟩;obtain ⟨r,hr⟩:∃ x,x=bR e:=⟨_,rfl⟩;obtain ⟨n,hn⟩:∃ x,x=bN e:=⟨_,rfl⟩;obtain ⟨o,ho⟩:∃ x,x=bO e:=⟨_,rfl⟩;rw [← hi,← hb,← hx,← hy,← hk,← hv,← hr,← hn,← ho];refine Bd func221 rfl ntmps221<|Sr<|Dd (by exact cH (id:=1) rfl rfl rfl rfl rfl)<|Dd (by exact bU (id:=2) rfl OM rfl rfl)<|Zz ?_;refine gT (fun(_:Unit)=>([(1,.ref 1 0 0 0),(2,.ref 2 0 0 0)],[(1,bE ⟨e.op,i,e.other,e.node,e.x,e.y,e.key,e.val,e.refs,b⟩),(2,bE eNo)])) (fun _=>True) ?_ ?_
 ·refine Sr<|Dd (aV fT)<|Dd (bM isAgg3)<|Dd cT<|Zz ?_;refine Cn ?_ ?_<;>intro hc1
  ·have h:=aNv hc1
   (rw [hi,hb,bI,bB,aNy h,aNy h])
   refine Rg<|Dd (uQ QS)<|Dd (aV nD)<|Uu (by exact kT rfl sizeOf153 rfl rfl rfl rfl rfl rfl rfl (aOM rfl) rfl rfl)<|Zz ?_;exact⟨(),trivial,Wk⟩
  have h:=aNw hc1
  (rw [hi,hb,bI,bB,aNx h,aNx h])
  refine Rg<|Dd (aV gG)<|Uu (by exact bH rfl sizeOf9 rfl rfl rfl rfl rfl rfl (aOM rfl) rfl rfl)<|Zz ?_;exact⟨(),trivial,Wk⟩
 rintro _ -;refine gT (fun(_:Unit)=>([(1,.ref 1 0 0 0),(2,.ref 2 0 0 0)],[(1,bE ⟨e.op,i,e.other,e.node,x,y,e.key,e.val,e.refs,b⟩),(2,bE eNo)])) (fun _=>True) ?_ ?_
 ·refine Sr<|Dd (aV fT)<|Dd (bM isAgg3)<|Dd cT<|Zz ?_;refine Cn ?_ ?_<;>intro hc2
  ·have h:=aNv hc2
   (rw [hx,hy,bX,bY,aNy h,aNy h])
   refine Rg<|Dd (uQ VZ)<|Dd (aV gF)<|Uu (by exact kT rfl sizeOf73 rfl rfl rfl rfl rfl rfl rfl (aOM rfl) rfl rfl)<|Zz ?_;exact⟨(),trivial,Wk⟩
  have h:=aNw hc2
  (rw [hx,hy,bX,bY,aNx h,aNx h])
  refine aD ?_;exact⟨(),trivial,Wk⟩
 rintro _ -;refine gT (fun(_:Unit)=>([(1,.ref 1 0 0 0),(2,.ref 2 0 0 0)],[(1,bE ⟨e.op,i,e.other,e.node,x,y,k,v,e.refs,b⟩),(2,bE eNo)])) (fun _=>True) ?_ ?_
 ·refine Sr<|Dd (aV fT)<|Dd (bM isAgg3)<|Dd cT<|Zz ?_;refine Cn ?_ ?_<;>intro hc3
  ·have h:=aNv hc3
   (rw [hk,hv,bK,bV,aNy h,aNy h])
   refine Sr<|Dd (aV jB)<|Uu (by exact bH rfl sizeOf9 rfl rfl rfl rfl rfl rfl (aOM rfl) rfl rfl)<|Zz<|Rg<|Dd (aV jO)<|Uu (by exact bH rfl sizeOf9 rfl rfl rfl rfl rfl rfl (aOM rfl) rfl rfl)<|Zz ?_;exact⟨(),trivial,Wk⟩
  have h:=aNw hc3
  (rw [hk,hv,bK,bV,aNx h,aNx h])
  refine aD ?_;exact⟨(),trivial,Wk⟩
 rintro _ -;refine gT (fun(_:Unit)=>([(1,.ref 1 0 0 0),(2,.ref 2 0 0 0)],[(1,bE ⟨e.op,i,e.other,e.node,x,y,k,v,r,b⟩),(2,bE eNo)])) (fun _=>True) ?_ ?_
 ·refine Sr<|Dd (aV fT)<|Dd (bM isAgg3)<|Dd cT<|Zz ?_;refine Cn ?_ ?_<;>intro hc4
  ·have h:=aNv hc4
   (rw [hr,bR,aNy h])
   refine Rg<|Dd (aV eT)<|Uu (by exact bH rfl sizeOf22 rfl rfl rfl rfl rfl rfl (aOM rfl) rfl rfl)<|Zz ?_;exact⟨(),trivial,Wk⟩
  have h:=aNw hc4
  (rw [hr,bR,aNx h])
  refine aD ?_;exact⟨(),trivial,Wk⟩
 rintro _ -;refine gT (fun(_:Unit)=>([(1,.ref 1 0 0 0),(2,.ref 2 0 0 0)],[(1,bE ⟨e.op,i,e.other,n,x,y,k,v,r,b⟩),(2,bE eNo)])) (fun _=>True) ?_ ?_
 ·refine Sr<|Dd (aV fT)<|Dd (bM isAgg3)<|Dd cT<|Zz ?_;refine Cn ?_ ?_<;>intro hc5
  ·have h:=aNv hc5
   (rw [hn,bN,aNy h])
   refine Rg<|Dd (aV lC)<|Uu (by exact bH rfl sizeOf9 rfl rfl rfl rfl rfl rfl (aOM rfl) rfl rfl)<|Zz ?_;exact⟨(),trivial,Wk⟩
  have h:=aNw hc5
  (rw [hn,bN,aNx h])
  refine aD ?_;exact⟨(),trivial,Wk⟩
 rintro _ -;refine gT (fun(_:Unit)=>([(1,.ref 1 0 0 0),(2,.ref 2 0 0 0)],[(1,bE ⟨e.op,i,o,n,x,y,k,v,r,b⟩),(2,bE eNo)])) (fun _=>True) ?_ ?_
 ·refine Sq ?_;refine bA (t:=34) (n:=9) (X:=decide (e.op=6)||decide (e.op=7)) ?_ ?_
  ·all_goals refine Dd (aV fT) ?_
   all_goals refine Dd (bM isAgg3)<|Dd cT<|Dm ?_
   all_goals refine Sp 30 (fun h30=>?_) fun h30=>?_
   all_goals try contradiction
   all_goals first|refine Fo<|Fo<|Fo ?_|refine On (aV fT)<|On (bM isAgg3)<|On cT ?_
   all_goals refine Dd cW<|Zz ?_
   all_goals(exact⟨⟨_,rfl,by(simp only [*,Zo];done)⟩,rfl,rfl,rfl⟩)
  refine Cn ?_ ?_<;>intro hc6
  ·have h:=hc6;rw [ho,bO,aNy h];refine Rg<|Dd (aV gO)<|Uu (by exact bH rfl sizeOf9 rfl rfl rfl rfl rfl rfl (aOM rfl) rfl rfl)<|Zz ?_;exact⟨(),trivial,Wk⟩
  have h:=hc6;rw [ho,bO,aNx (by rw [h];decide)];refine aD ?_;exact⟨(),trivial,Wk⟩
 rintro _ -;refine Sr<|Dd (rQ bZ aS)<|Uu (kQ aS)<|Zz<|aC ?_;refine dY (H':=[]) (.inr rfl) rfl (XF bZ aS) (Fin.wk (r:=av (aU ⟨e.op,i,o,n,x,y,k,v,r,b⟩)) (by simp) trivial trivial) ?_;exact Qq
def PT (e:GEdit):List ByteArray:=if e.op=3 then[e.id]++[e.key] else[e.id]
def R6 (e:GEdit):List ByteArray:=if e.op=4 then PT e++e.refs else PT e
def TD (e:GEdit):List ByteArray:=if e.op=6 then R6 e++[e.node] else R6 e
def nm4 (e:GEdit):List ByteArray:=if(decide (e.op=6)||decide (e.op=7))=true then TD e++[e.other] else TD e
def aLw (e:GEdit):Bool:=decide (((e.refs.map encStr).length:Int) < 1)||decide (2000 < ((e.refs.map encStr).length:Int))
def vG (e:GEdit):Bool:=!rb (sA e)&&(if e.op=1 then kR e.obj else(nm4 e).all bP&&(!(decide (e.op=4)&&aLw e)&&(decide ((e.val.size:Int)≤200)&&(!decide (e.op=2)||U7 e.x e.y))))
theorem aKn (e:GEdit) (h:1≤e.op∧e.op≤7):dP e=vG e:=by
 obtain ⟨op,id,other,node,x,y,key,val,refs,obj⟩:=e;simp only at h;rcases(by omega:op=1∨op=2∨op=3∨op=4∨op=5∨op=6∨op=7)with rfl|rfl|rfl|rfl|rfl|rfl|rfl
 ·rw [ed1 _ rfl];rfl
 ·rw [ed2 _ rfl];rfl
 ·rw [ed3 _ rfl,vG];show _=(_&&(_&&(true&&(_&&true))));rw [Bool.and_true,Bool.true_and];rfl
 ·rw [ed4 _ rfl,vG];show _=(_&&(_&&(!(true&&_)&&(_&&true))));rw [Bool.and_true,Bool.true_and];rfl
 ·rw [ed5 _ rfl,vG];show _=(_&&(_&&(true&&(_&&true))));rw [Bool.and_true,Bool.true_and];rfl
 ·rw [ed6 _ rfl,vG];show _=(_&&(_&&(true&&(_&&true))));rw [Bool.and_true,Bool.true_and];rfl
 rw [ed7 _ rfl,vG];show _=(_&&(_&&(true&&(_&&true))));rw [Bool.and_true,Bool.true_and];rfl
theorem aAJ (e:GEdit):(nm4 e).length≤e.refs.length+5:=by
 rw [nm4,TD,R6,PT]
 repeat' split
 all_goals simp only [aOA,aOB,List.length_nil];omega
theorem aGr (e:GEdit):(PT e).length≤e.refs.length+5:=by
 rw [PT]
 split<;>(simp only [aOA,aOB,List.length_nil];omega)
theorem aGq (e:GEdit):(R6 e).length≤e.refs.length+5:=by
 rw [R6,PT]
 repeat' split
 all_goals simp only [aOA,aOB,List.length_nil];omega
theorem aGp (e:GEdit):(TD e).length≤e.refs.length+5:=by
 rw [TD,R6,PT]
 repeat' split
 all_goals simp only [aOA,aOB,List.length_nil];omega
theorem FK {α:Type} {P:α→Prop} {p:Prop} [Decidable p] {a b:List α} (ha:∀ s∈a,P s) (hb:∀ s∈b,P s):∀ s∈(if p then a else b),P s:=by
 split
 ·exact ha
 exact hb
theorem FL {α:Type} {P:α→Prop} {a b:List α} (ha:∀ s∈a,P s) (hb:∀ s∈b,P s):∀ s∈a++b,P s:=fun s hs=>(List.mem_append.1 hs).elim (ha s) (hb s)
theorem BD {α:Type} {P:α→Prop} {a:α} (h:P a):∀ s∈[a],P s:=fun s hs=>by
 rw [aOC.1 hs];exact h
theorem aGn {e:GEdit} (he:LM e):∀ s∈nm4 e,s.size < 4611686018427387904:=by obtain ⟨⟨h1,h2,h3,h4⟩,⟨h5,h6⟩,h7⟩:=he;have m1:∀ s∈PT e,s.size < 4611686018427387904:=FK (FL (BD h1) (BD h4)) (BD h1);have m2:∀ s∈R6 e,s.size < 4611686018427387904:=FK (FL m1 h6) m1;have m3:∀ s∈TD e,s.size < 4611686018427387904:=FK (FL m2 (BD h3)) m2;exact FK (FL m3 (BD h2)) m3
def nm0 (e:GEdit):List ByteArray:=[e.id]
theorem aBN (e:GEdit) (H:aB) (he:LM e) (hr:e.refs.length < 1099511627776):aI Tryz.prog 188 [av (aU e)] H (fun r H'=>r=bv (dP e)∧H'=H):=by
 refine Pu ?_;have hnm:=aGn he;have hnl:=aAJ e;have hrl:(e.refs.map encStr).length=e.refs.length:=aNz _;have hbo:(sA e).obj.refs.length < 4611686018427387904∧(sA e).obj.tags.length < 4611686018427387904:=by
  show (bB e).refs.length < _∧(bB e).tags.length < _;rw [bB]
  split
  ·exact⟨by decide,by decide⟩
  exact⟨he.2.2.2.2.1,he.2.2.2.1.1⟩
 refine Bd func188 rfl ntmps188<|Sr<|Dd (by exact cH (id:=1) rfl rfl rfl rfl rfl)<|Dd aN<|Zz<|Sq<|Sq ?_;refine bA (t:=13) (n:=9) (X:=decide (e.op < 1)||decide (7 < e.op)) ?_ ?_
 ·all_goals refine Dd (aV fT) ?_
  all_goals refine Dd (bM isAgg3)<|Dd dK<|Dm ?_
  all_goals refine Sp 9 (fun h9=>?_) fun h9=>?_
  all_goals try contradiction
  all_goals first|refine Fo<|Fo<|Fo ?_|refine On (aV fT)<|On (bM isAgg3)<|On jE ?_
  all_goals refine Dd cW<|Zz ?_
  all_goals(exact⟨⟨_,rfl,by(rw [h9];rfl)⟩,rfl,rfl,rfl⟩)
 refine Cn ?_ ?_<;>intro hc1
 ·have h:=hc1;have hs:dP e=false:=by
   simp only [Bool.or_eq_true,aOG] at h;rw [dP,Bool.and_eq_false_iff,Bool.and_eq_false_iff,aOH,aOH];omega
  rw [hs];exact Sr<|Dd aN<|Zz<|aC<|Rt<|Qq
 have h:=hc1;simp only [aOV,aOH] at h;rw [aKn e (by omega),vG];have hrb:rb (sA e)=(((((((!decide ((sA e).id=sNil)||!decide ((sA e).other=sNil))||!decide ((sA e).node=sNil))||!(decide ((sA e).x=0)&&decide ((sA e).y=0)))||!decide ((sA e).key=sNil))||!decide ((sA e).val=sNil))||decide ((0:Int) < (((sA e).refs.map encStr).length:Int)))||!pO (sA e).obj zObj):=rfl;have hbc:=fun H=>aKH e H;obtain ⟨G,hG⟩:∃ G,G=sA e:=⟨_,rfl⟩;simp only [← hG] at hrb hbo hbc;rw [← hG];clear hG;obtain ⟨g0,g1,g2,g3,g4,g5,g6,g7,g8,g9⟩:=G;simp only at hrb hbo;refine aD<|Sr<|Dd (by exact aL rfl bZ aS rfl rfl rfl rfl (by simp only [Zl,bJ,bQ,encStr,aU,zObj];rfl) rfl)<|Dd (by exact aA rfl rfl call221 rfl (hbc _))<|Dd (by exact bU (id:=3) rfl OM rfl rfl)<|Uu (kQ aS)<|Zz<|Sq<|Sq ?_;refine bA (t:=57) (n:=49) (X:=rb ⟨g0,g1,g2,g3,g4,g5,g6,g7,g8,g9⟩) ?_ ?_
 ·all_goals refine Dd (aV gG) ?_
  all_goals refine Dd (bM isAgg9)<|Dd JO<|Dm ?_
  all_goals refine Sp 19 (fun h19=>?_) fun h19=>?_
  all_goals(try(with_reducible contradiction))
  all_goals first|refine Fo<|Fo<|Fo ?_|refine On (aV gO)<|On (bM isAgg9)<|On JO ?_
  all_goals refine Dd cW<|Dm ?_
  all_goals refine Sp 24 (fun h24=>?_) fun h24=>?_
  all_goals(try(with_reducible contradiction))
  all_goals first|refine Fo<|Fo<|Fo ?_|refine On (aV lC)<|On (bM isAgg9)<|On JO ?_
  all_goals refine Dd cW<|Dm ?_
  all_goals refine Sp 29 (fun h29=>?_) fun h29=>?_
  all_goals(try(with_reducible contradiction))
  all_goals first|refine Fo<|Fo<|Fo<|Fo ?_|refine On (aV gF)<|On (by exact aL rfl dQ sizeOf73 rfl rfl rfl rfl (by simp only [Zl,bJ,bQ,encStr,aU,zObj];rfl) rfl)<|On (uQ VZ)<|On (by exact xB rfl rfl rfl rfl rfl gV (RM _ _ _ _)) ?_
  all_goals refine Dd cW<|Dm ?_
  all_goals refine Sp 35 (fun h35=>?_) fun h35=>?_
  all_goals(try(with_reducible contradiction))
  all_goals first|refine Fo<|Fo<|Fo ?_|refine On (aV jB)<|On (bM isAgg9)<|On JO ?_
  all_goals refine Dd cW<|Dm ?_
  all_goals refine Sp 40 (fun h40=>?_) fun h40=>?_
  all_goals(try(with_reducible contradiction))
  all_goals first|refine Fo<|Fo<|Fo ?_|refine On (aV jO)<|On (bM isAgg9)<|On JO ?_
  all_goals refine Dd cW<|Dm ?_
  all_goals refine Sp 45 (fun h45=>?_) fun h45=>?_
  all_goals(try(with_reducible contradiction))
  all_goals first|refine Fo<|Fo<|Fo<|Fo ?_|refine On (aV eT)<|On (bM aH)<|On (fY aE)<|On jE ?_
  all_goals refine Dd cW<|Dm ?_
  all_goals refine Sp 51 (fun h51=>?_) fun h51=>?_
  all_goals(try(with_reducible contradiction))
  all_goals first|refine Fo<|Fo<|Fo<|Fo<|Fo ?_|refine On (aV nD)<|On (by exact aL rfl cU sizeOf153 rfl rfl rfl rfl (by simp only [Zl,bJ,bQ,encStr,aU,zObj];rfl) rfl)<|On (uQ QS)<|On (by exact aA rfl rfl call182 rfl (aAA g9 zObj _ hbo.1 hbo.2))<|On jS ?_
  all_goals refine Dd cW<|Zz ?_
  all_goals(exact⟨⟨_,rfl,by rw [hrb];first|(rw [h19];rfl)|(rw [h19,h24];rfl)|(rw [h19,h24,h29];rfl)|(rw [h19,h24,h29,h35];rfl)|(rw [h19,h24,h29,h35,h40];rfl)|(rw [h19,h24,h29,h35,h40,h45];rfl)|(rw [h19,h24,h29,h35,h40,h45,h51];rfl)⟩,rfl,rfl,rfl⟩)
 refine Cn ?_ ?_<;>intro hc2
 ·have h2:=hc2;rw [h2,Bool.not_true,Bool.false_and];exact Sr<|Dd aN<|Zz<|aC<|Rt<|Qq
 have h2:=hc2;rw [h2,Bool.not_false,Bool.true_and];clear hrb hbo h2;refine aD<|Sq<|Sr<|Dd (aV fT)<|Dd (bM isAgg3)<|Dd cT<|Zz ?_;refine Cn ?_ ?_<;>intro hc3
 ·have h3:e.op=1:=aNv hc3;rw [aNy h3];exact Sr<|Dd (aV nD)<|Dd (by exact aL rfl cU sizeOf153 rfl rfl rfl rfl (by simp only [Zl,bJ,bQ,encStr,aU,zObj];rfl) rfl)<|Dd (by exact aA rfl rfl call222 rfl (aDR e.obj _ he.2.2))<|Dd aN<|Zz<|aC<|Rt<|Qq
 have h3:¬ e.op=1:=aNw hc3;rw [aNx h3];refine aD<|Sr<|Dd (aV gG)<|Dd (bM isAgg9)<|Dd (by exact iL (id:=66) rfl cA rfl rfl rfl rfl (by simp) rfl)<|Da ?_;refine gT (fun(g:Nat)=>([(1,.ref 1 0 0 0),(4,.osl 66 g 0 (PT e).length)],[(1,bE e),(66,⟨g,1,9,lW (PT e)⟩)])) (fun _=>True) ?_ ?_
 ·refine Sr<|Dd (aV fT)<|Dd (bM isAgg3)<|Dd cT<|Zz ?_;refine Cn ?_ ?_<;>intro hc4
  ·have h:=aNv hc4;have hm:PT e=nm0 e++[e.key]:=aNy h;have hl:(nm0 e).length+([e.key]).length=(nm0 e++[e.key]).length:=aOA.symm;have hb:(nm0 e++[e.key]).length < 8796093022208:=by rw [← hm];have:=aGr e;omega
   rw [hm];refine Rg<|Dd aF<|Dd (aV jB)<|Dd (bM isAgg9)<|Dd (by exact aR [encStr e.key] rfl cA rfl rfl rfl rfl rfl (by simp [encStr]))<|Dd (by exact dH (ps:=([e.key]).map encStr) rfl cA EC rfl rfl rfl rfl rfl (show (lW (nm0 e)).length=(nm0 e).length from aNz _) rfl (EJ _) (m:=([e.key]).length) (aNz _) (by omega) hl (vA (nm0 e) [e.key]))<|Da ?_;exact⟨0+1,trivial,(cY.wk (Ea<|Ea<|trivial) (Hb<|Hc (sE _ _)<|trivial) trivial)⟩
  have h:=hc4;have hm:PT e=nm0 e:=aNx (by exact aNw h);rw [hm];refine aD ?_;exact⟨0,trivial,Wk⟩
 rintro g -;refine gT (fun(g:Nat)=>([(1,.ref 1 0 0 0),(4,.osl 66 g 0 (R6 e).length)],[(1,bE e),(66,⟨g,1,9,lW (R6 e)⟩)])) (fun _=>True) ?_ ?_
 ·refine Sr<|Dd (aV fT)<|Dd (bM isAgg3)<|Dd cT<|Zz ?_;refine Cn ?_ ?_<;>intro hc5
  ·have h:=aNv hc5;have hm:R6 e=PT e++e.refs:=aNy h;have hl:(PT e).length+(e.refs).length=(PT e++e.refs).length:=aOA.symm;have hb:(PT e++e.refs).length < 8796093022208:=by rw [← hm];have:=aGq e;omega
   rw [hm];refine Rg<|Dd aF<|Dd (aV eT)<|Dd (bM aH)<|Dd (by exact dH (ps:=(e.refs).map encStr) rfl cA EC rfl rfl rfl rfl rfl (show (lW (PT e)).length=(PT e).length from aNz _) rfl (EJ _) (m:=(e.refs).length) (aNz _) (by omega) hl (vA (PT e) e.refs))<|Da ?_;exact⟨g+1,trivial,(cY.wk (Ea<|Ea<|trivial) (Hb<|Hc (sE _ _)<|trivial) trivial)⟩
  have h:=hc5;have hm:R6 e=PT e:=aNx (by exact aNw h);rw [hm];refine aD ?_;exact⟨g,trivial,Wk⟩
 rintro g -;refine gT (fun(g:Nat)=>([(1,.ref 1 0 0 0),(4,.osl 66 g 0 (TD e).length)],[(1,bE e),(66,⟨g,1,9,lW (TD e)⟩)])) (fun _=>True) ?_ ?_
 ·refine Sr<|Dd (aV fT)<|Dd (bM isAgg3)<|Dd cT<|Zz ?_;refine Cn ?_ ?_<;>intro hc6
  ·have h:=aNv hc6;have hm:TD e=R6 e++[e.node]:=aNy h;have hl:(R6 e).length+([e.node]).length=(R6 e++[e.node]).length:=aOA.symm;have hb:(R6 e++[e.node]).length < 8796093022208:=by rw [← hm];have:=aGp e;omega
   rw [hm];refine Rg<|Dd aF<|Dd (aV lC)<|Dd (bM isAgg9)<|Dd (by exact aR [encStr e.node] rfl cA rfl rfl rfl rfl rfl (by simp [encStr]))<|Dd (by exact dH (ps:=([e.node]).map encStr) rfl cA EC rfl rfl rfl rfl rfl (show (lW (R6 e)).length=(R6 e).length from aNz _) rfl (EJ _) (m:=([e.node]).length) (aNz _) (by omega) hl (vA (R6 e) [e.node]))<|Da ?_;exact⟨g+1,trivial,(cY.wk (Ea<|Ea<|trivial) (Hb<|Hc (sE _ _)<|trivial) trivial)⟩
  have h:=hc6;have hm:TD e=R6 e:=aNx (by exact aNw h);rw [hm];refine aD ?_;exact⟨g,trivial,Wk⟩
 rintro g -;refine gT (fun(g:Nat)=>([(1,.ref 1 0 0 0),(4,.osl 66 g 0 (nm4 e).length)],[(1,bE e),(66,⟨g,1,9,lW (nm4 e)⟩)])) (fun _=>True) ?_ ?_
 ·refine Sq ?_;refine bA (t:=97) (n:=9) (X:=decide (e.op=6)||decide (e.op=7)) ?_ ?_
  ·all_goals refine Dd (aV fT) ?_
   all_goals refine Dd (bM isAgg3)<|Dd cT<|Dm ?_
   all_goals refine Sp 93 (fun h93=>?_) fun h93=>?_
   all_goals(try(with_reducible contradiction))
   all_goals first|refine Fo<|Fo<|Fo ?_|refine On (aV fT)<|On (bM isAgg3)<|On cT ?_
   all_goals refine Dd cW<|Zz ?_
   all_goals(exact⟨⟨_,rfl,by(rw [h93];rfl)⟩,rfl,rfl,rfl⟩)
  refine Cn ?_ ?_<;>intro hc7
  ·have h:=id hc7;have hm:nm4 e=TD e++[e.other]:=aNy h;have hl:(TD e).length+([e.other]).length=(TD e++[e.other]).length:=aOA.symm;have hb:(TD e++[e.other]).length < 8796093022208:=by rw [← hm];have:=aAJ e;omega
   rw [hm];refine Rg<|Dd aF<|Dd (aV gO)<|Dd (bM isAgg9)<|Dd (by exact aR [encStr e.other] rfl cA rfl rfl rfl rfl rfl (by simp [encStr]))<|Dd (by exact dH (ps:=([e.other]).map encStr) rfl cA EC rfl rfl rfl rfl rfl (show (lW (TD e)).length=(TD e).length from aNz _) rfl (EJ _) (m:=([e.other]).length) (aNz _) (by omega) hl (vA (TD e) [e.other]))<|Da ?_;exact⟨g+1,trivial,(cY.wk (Ea<|Ea<|trivial) (Hb<|Hc (sE _ _)<|trivial) trivial)⟩
  have h:=hc7;have hm:nm4 e=TD e:=aNx (by(rw [h];decide));rw [hm];refine aD ?_;exact⟨g,trivial,Wk⟩
 rintro g -;obtain ⟨N,hN⟩:∃ N,N=nm4 e:=⟨_,rfl⟩;rw [← hN] at hnm hnl;rw [← hN];clear hN;have hNl:(N.map encStr).length=N.length:=aNz _;refine Sq<|Sq ?_;refine gK.ent (cY.fz (id:=66) (E':=[(1,.ref 1 0 0 0),(4,.pv (aX N))]) (H':=[(1,bE e)]) (N.map encStr) rfl (Z5 encStr N)
  (by intro p hp;simp only [aOL,aOP,or_false] at hp;rcases hp with rfl|rfl;exact⟨_,rfl,.same (.ref rfl)⟩;exact⟨_,rfl,.osl (by rw [aOR,List.drop_zero,← List.length_map (f:=encStr),List.take_length])⟩) rfl ⟨⟨_,rfl,rfl⟩,(by(simp;done)),trivial⟩ trivial) ?_
 refine Rg<|Dd aN<|Zz<|aG ?_;refine bT (σ:=Nat) (fun q=>([(1,.ref 1 0 0 0),(4,.pv (aX N)),(5,iv (q:Int))],[(1,bE e)])) (fun q=>q≤N.length∧∀ j,j < q→∀ b,N[j]?=some b→(!bP b)=false) (fun q=>N.length - q) 0 ⟨by omega,by omega⟩ ?_ ?_
 ·exact Wk
 rintro q ⟨hq,hno⟩;refine Sq<|Sr<|Dd aF<|Dd aF<|Dd (fY aE)<|Dd dK<|Zz ?_;refine Cn ?_ ?_<;>intro hc8
 ·have hlt:q < N.length:=by have:=aNv hc8;omega
  obtain ⟨s,hs⟩:=aZ hlt;have hi:=cP (f:=encStr) hs;refine aD<|Sq<|aG<|Sr<|Dd aF<|Dd aF<|Dd (lN cA)<|Dd (jA isAgg9)<|Dd (by exact aA rfl rfl gJ rfl (jW s _ (hnm s (aOJ hs))))<|Dd jS<|Zz ?_;refine Cn ?_ ?_<;>intro hc9
  ·have hb:(!bP s)=true:=hc9;have hall:N.all bP=false:=by
    rw [List.all_eq_false];exact⟨s,aOJ hs,by simpa using hb⟩
   rw [hall];exact Sr<|Dd aN<|Zz<|aC<|Rt<|Qq
  have hb:(!bP s)=false:=hc9;refine aD<|Rg<|Dd aF<|Dd lR<|Da ?_;exact⟨q+1,⟨by omega,tM hno hs hb⟩,by omega,Wk⟩
 have hge:q=N.length:=by have:=aNw hc8;omega
 subst hge;have hall:N.all bP=true:=by
  rw [List.all_eq_true];intro s hs;obtain ⟨j,hj⟩:=aOU.1 hs;have:=hno j (aOD.1 hj).1 s hj
  simpa using this
 rw [hall,Bool.true_and,aLw];clear hnm hnl hno hall he;refine bC<|Sq<|Sq ?_;refine bA (t:=129) (n:=17) (X:=decide (e.op=4)&&(decide (((e.refs.map encStr).length:Int) < 1)||decide (2000 < ((e.refs.map encStr).length:Int)))) ?_ ?_
 ·all_goals refine Dd (aV fT) ?_
  all_goals refine Dd (bM isAgg3)<|Dd cT<|Dm ?_
  all_goals refine Sp 118 (fun h118=>?_) fun h118=>?_
  all_goals(try(with_reducible contradiction))
  all_goals first|refine Fo<|Fo<|Fo<|Fo<|Fo ?_|refine On (aV eT)<|On (bM aH)<|On (fY aE)<|On dK<|On aF ?_
  all_goals(first|refine Sp 123 (fun h123=>?_) fun h123=>?_|refine rX (t:=123) rfl ?_)
  all_goals(try(with_reducible contradiction))
  all_goals first|refine Fo ?_|refine Fu ?_|refine On (aV eT) ?_
  all_goals first|refine Fo ?_|refine Fu ?_|refine On (bM aH) ?_
  all_goals first|refine Fo ?_|refine Fu ?_|refine On (fY aE) ?_
  all_goals first|refine Fo ?_|refine Fu ?_|refine On jE ?_
  all_goals first|refine Fo ?_|refine On cW ?_
  all_goals refine Dd cW<|Zz ?_
  all_goals(exact⟨⟨_,rfl,by first|(rw [h118];rfl)|(rw [h118,h123];rfl)⟩,rfl,rfl,rfl⟩)
 refine Cn ?_ ?_<;>intro hc10
 ·have h5:=hc10;rw [h5];exact Sr<|Dd aN<|Zz<|aC<|Rt<|Qq
 have h5:=hc10;rw [h5,Bool.not_false,Bool.true_and];refine aD<|Sq ?_;refine bA (t:=2) (n:=17) (X:=decide ((e.val.size:Int)≤200)&&(!decide (e.op=2)||U7 e.x e.y)) ?_ ?_
 ·all_goals refine Dd (aV jO) ?_
  all_goals refine Dd (bM isAgg9)<|Dd (lH underlying9)<|Dd MB<|Dm ?_
  all_goals refine Sp 134 (fun h134=>?_) fun h134=>?_
  all_goals(try(with_reducible contradiction))
  all_goals first|refine Fo<|Fo<|Fo<|Fo ?_|refine On (aV fT)<|On (bM isAgg3)<|On AI<|On aF ?_
  all_goals(first|refine Sp 138 (fun h138=>?_) fun h138=>?_|refine rX (t:=138) rfl ?_)
  all_goals(try(with_reducible contradiction))
  all_goals first|refine Fo ?_|refine Fu ?_|refine On (aV gF) ?_
  all_goals first|refine Fo ?_|refine Fu ?_|refine On (by exact aL rfl dQ sizeOf73 rfl rfl rfl rfl (by simp only [Zl,bJ,bQ,encStr,aU,zObj];rfl) rfl) ?_
  all_goals first|refine Fo ?_|refine Fu ?_|refine On (by exact aA rfl rfl call132 rfl (aIH e.x e.y _)) ?_
  all_goals first|refine Fo ?_|refine On cW ?_
  all_goals refine Dd cW<|Da ?_
  all_goals(exact⟨⟨_,rfl,by first|(rw [h134];rfl)|(rw [h134,h138];rfl)⟩,rfl,rfl,rfl⟩)
 exact aC<|Rt<|Qq
theorem aBO (l:List GEdit) (H:aB) (hl:l.length < 1099511627776) (he:∀ e∈l,LM e) (hr:∀ e∈l,e.refs.length < 1099511627776):aI Tryz.prog 154 [.pv (hU l)] H (fun r H'=>r=bv (jN l)∧H'=H):=by
 refine Pu ?_;have hml:(l.map aU).length=l.length:=aNz _;refine Bd func154 rfl ntmps154<|Sr<|Dd aN<|Zz<|Sq<|Sq ?_;refine bA (t:=11) (n:=9) (X:=decide (((l.map aU).length:Int) < 1)||decide (200 < ((l.map aU).length:Int))) ?_ ?_
 ·all_goals refine Dd aF ?_
  all_goals refine Dd (fY cX)<|Dd dK<|Dm ?_
  all_goals refine Sp 7 (fun h7=>?_) fun h7=>?_
  all_goals try contradiction
  all_goals first|refine Fo<|Fo<|Fo ?_|refine On aF<|On (fY cX)<|On jE ?_
  all_goals refine Dd cW<|Zz ?_
  all_goals(exact⟨⟨_,rfl,by first|(simp_all;done)|(simp_all;omega)⟩,rfl,rfl,rfl⟩)
 refine Cn ?_ ?_<;>intro hc1
 ·have hs:jN l=false:=by
   simp only [Bool.or_eq_true,aOG] at hc1;rw [jN,Bool.and_eq_false_iff,Bool.and_eq_false_iff,aOH,aOH];left;omega
  refine Sr<|Dd aN<|Zz<|aC<|Rt ?_;exact⟨by rw [hs],rfl⟩
 have hs:jN l=!(l.any (fun e=>!dP e)):=by
  simp only [aOV,aOH] at hc1;rw [jN,decide_eq_true (by omega:(0:Int) < (l.length:Int)),decide_eq_true (by omega:(l.length:Int)≤200)];rfl
 rw [hs];refine aD<|Sq<|Sr<|Dd aN<|Zz<|aG ?_;refine bT (σ:=Nat) (fun k=>([(0,.pv (hU l)),(3,iv (k:Int))],[])) (fun k=>k≤l.length∧∀ j,j < k→∀ b,l[j]?=some b→(!dP b)=false) (fun k=>l.length - k) 0 ⟨by omega,by omega⟩ ?_ ?_
 ·exact E0
 rintro k ⟨hk,hno⟩;refine Sq<|Sr<|Dd aF<|Dd aF<|Dd (fY cX)<|Dd dK<|Zz ?_;refine Cn ?_ ?_<;>intro hc2
 ·have hlt:k < l.length:=by have:=aNv hc2;omega
  obtain ⟨e,hx⟩:=aZ hlt;have hi:=cP (f:=aU) hx;refine aD<|Sq<|aG<|Sr<|Dd aF<|Dd aF<|Dd (lN RD)<|Dd (by exact dL rfl bZ aS rfl (by omega) (by simp only [Zl,bJ,bQ,encStr,aU,zObj];rfl) rfl)<|Dd (by exact aA rfl rfl call188 rfl (aBN e _ (he e (aOJ hx)) (hr e (aOJ hx))))<|Dd jS<|Zz ?_;refine Cn ?_ ?_<;>intro hc3
  ·refine Sr<|Dd aN<|Zz<|aC<|Rt ?_;exact⟨by rw [xR hx hc3];rfl,rfl⟩
  refine aD<|Rg<|Dd aF<|Dd lR<|Da ?_;exact⟨k+1,⟨by omega,tM hno hx hc3⟩,by omega,E0⟩
 have hge:k=l.length:=by have:=aNw hc2;omega
 subst hge;refine bC<|Sr<|Dd aN<|Zz<|aC<|Rt ?_;exact⟨by rw [B0 hno];rfl,rfl⟩
end Go.Proofs.YtiifmppaejpemaaGreatDoor
section
namespace Go.Abs
theorem N0 {P:Program} {N:Nat} {o:Oper} {E:cB} {H:aB} {T:TypeId} {t:Tmp} {e:TypeId} {id g off len sz:Nat} {ob:Ob} {row:List AV} {rows':List (List AV)} (ho:o.op=.call {callee:=.builtin .clear,args:=#[.tmp t],argTypes:=#[T]}) (hS:eY P T e sz) (hZ:eM P e row) (hrow:row.length=sz)
  (hx:E.get t=some (.osl id g off len)) (hH:H.get id=some ob) (hg:ob.g=g) (hosz:ob.sz=sz) (hoff:off≤ob.rows.length) (hrows:ob.rows.take off++(List.replicate len row++ob.rows.drop (off+len))=rows') :
  dF P N o E H .any ((id,⟨g,sz,ob.ty,rows'⟩)::H):=by
 intro a w I ι h1 h2 hr he K Q hkk;obtain ⟨v,hv,hvr⟩:=he t _ hx;obtain ⟨c,h3,h4,h5⟩:=aAF hr hvr hH hg;refine aBZ (x:=.tmp t) (E:=(t,.osc id g off len c)::E) ho hS hZ hrow (cB.get_cons_same _ _ _) hH hg hosz hoff hrows a w I ι h1 h2 hr (fun u x hu=>?_) K Q hkk;by_cases e:t=u
 ·subst e;rw [cB.get_cons_same] at hu;cases hu;exact⟨v,hv,h5⟩
 rw [cB.get_cons_other _ _ e] at hu;exact he u x hu
end Go.Abs
namespace Go.Proofs.YtiifmppaejpemaaGreatDoor
open Go.Proofs.Tryz
open Go.Abs
def kS:List ByteArray→List ByteArray
 | []=>[]
 | [x]=>[x]
 | x::y::r=>if x=y then kS (y::r)else x::kS (y::r)
theorem HS:∀ (l:List ByteArray) (x y:ByteArray),kS (l++[x,y])=kS (l++[x])++(if x=y then[] else[y])
 | [],x,y=>by
  show (if x=y then kS [y] else x::kS [y])=[x]++_;by_cases e:x=y
  ·rw [aNy e,aNy e,e];rfl
  rw [aNx e,aNx e];rfl
 | [a],x,y=>by
  show (if a=x then kS [x,y] else a::kS [x,y])=(if a=x then kS [x] else a::kS [x])++_;have:=HS [] x y;rw [show kS [x,y]=kS ([]++[x,y])from rfl,this]
  split<;>rfl
 | a::b::l,x,y=>by
  have:=HS (b::l) x y;show (if a=b then kS ((b::l)++[x,y])else a::kS ((b::l)++[x,y]))=(if a=b then kS ((b::l)++[x])else a::kS ((b::l)++[x]))++_;rw [this]
  split<;>rfl
theorem QM {L:List ByteArray} {k:Nat} {x y:ByteArray} (hk:1≤k) (hx:L[k - 1]?=some x) (hy:L[k]?=some y):kS (L.take (k+1))=kS (L.take k)++(if x=y then[] else[y]):=by
 obtain ⟨j,rfl⟩:∃ j,k=j+1:=⟨k - 1,by omega⟩;rw [show j+1 - 1=j by omega] at hx;have h1:L.take (j+1)=L.take j++[x]:=by rw [List.take_add_one,hx];rfl
 have h2:L.take (j+1+1)=L.take j++[x,y]:=by rw [List.take_add_one,h1,hy,List.append_assoc];rfl
 rw [h2,h1,HS]
theorem EK {l:List ByteArray} {i:Nat} {s:ByteArray} (h:l[i]?=some s):(rN l)[i]?=some ((encStr s).map .pv):=by rw [aOT,h];rfl
theorem X8 {P L:List ByteArray} {j:Nat} {s:ByteArray} (h:P.length≤j) (hs:L[j]?=some s):(P++L.drop P.length)[j]?=some s:=by rw [List.getElem?_append_right h,List.getElem?_drop,show P.length+(j - P.length)=j by omega];exact hs
theorem YO {H:aB} {id:Nat} {o:Ob} (h:H.get id=some o) (j:Nat):aB.get ((id,o)::H) j=H.get j:=by
 by_cases e:j=id
 ·subst e;rw [get_cons_same,h]
 exact get_cons_other _ _ e
theorem aBx (L:List ByteArray) (g:Nat) (H:aB) (h1:H.get 901=some ⟨g,1,9,rN L⟩) (hl:L.length < 1099511627776) :
  aI Tryz.prog 72 [.osl 901 g 0 L.length] H (fun r H'=>r=.osl 901 g 0 (kS L).length∧H'=(901,⟨g,1,9,rN (kS L++List.replicate (L.length - (kS L).length) sNil)⟩)::H):=by
 refine Bd func72 rfl ntmps72 ?_;refine gK.ent (E':=[(0,.osl 901 g 0 L.length)]) (H':=(901,⟨g,1,9,rN L⟩)::H) (cY.get' ⟨⟨_,rfl,rfl⟩,trivial⟩ (YO h1)) ?_;refine Sr<|Dd aN<|Zz<|Sq<|Sr<|Dd aF<|Dd (by exact eE rfl aE rfl rfl rfl)<|Dd dK<|Zz ?_;refine Cn ?_ ?_<;>intro hc1
 ·have hlt:L.length < 2:=by have:=aNv hc1;omega
  have hc0:kS L=L:=by
   match L,hlt with
   | [],_=>rfl
   | [a],_=>rfl
  refine Sr<|Dd aF<|Dd aN<|Zz<|aC ?_;refine dY (H':=(901,⟨g,1,9,rN L⟩)::H) (.inr rfl) rfl (aY rfl) Fin.refl ⟨by rw [hc0],by rw [hc0,Nat.sub_self,List.replicate_zero,List.append_nil]⟩
 have hge:2≤L.length:=by have:=aNw hc1;omega
 refine aD<|Sq<|Sr<|Dd aN<|Zz<|aG ?_;refine bT (σ:=Nat) (fun i=>([(0,.osl 901 g 0 L.length),(3,iv (i:Int))],(901,⟨g,1,9,rN L⟩)::H)) (fun i=>1≤i∧i≤L.length∧kS (L.take i)=L.take i) (fun i=>L.length - i) 1 ⟨by omega,by omega,by
  obtain ⟨x,hx⟩:=aZ (l:=L) (k:=0) (by omega);rw [List.take_add_one,hx];rfl⟩ ?_ ?_
 ·exact cY.get' ⟨⟨_,rfl,rfl⟩,⟨_,rfl,rfl⟩,trivial⟩ (fun j=>rfl)
 rintro i ⟨hi1,hi2,hi3⟩;refine Sq<|Sr<|Dd aF<|Dd aF<|Dd (by exact eE rfl aE rfl rfl rfl)<|Dd dK<|Zz ?_;refine Cn ?_ ?_<;>intro hc2
 ·have hil:i < L.length:=by have:=aNv hc2;omega
  obtain ⟨y,hy⟩:=aZ hil;obtain ⟨x,hx⟩:=aZ (l:=L) (k:=i - 1) (by omega);have ht:=QM hi1 hx hy;refine aD<|Sq<|aG<|Sq<|aO follows<|Cq aF<|Cq aF<|Cq (by exact dI rfl cA rfl rfl rfl rfl rfl (by omega) (by exact aOK _) hil (aOR _))<|Cq (by exact aK rfl isAgg9 rfl rfl rfl (EK hy) rfl)<|Cq aF<|Cq aF<|Cq (by exact eQ rfl rfl rfl (by exact pB (by omega) (by omega)))<|Cq (by exact dI (m:=i - 1) rfl cA rfl rfl rfl rfl rfl (by omega) (show ((i:Int) - 1).toNat=i - 1 by omega) (by omega) (aOR _))<|Cq (by exact aK rfl isAgg9 rfl rfl rfl (EK hx) rfl)<|Cq yJ<|bL<|Kr ?_;refine Cn ?_ ?_<;>intro hc3
  ·have hyx:=aNv hc3;rw [aNy hyx.symm,List.append_nil,hi3] at ht;refine Sr<|Dd aF<|Dd aF<|Dd (by exact iG (l:=i) (h:=L.length) rfl cA rfl rfl rfl rfl rfl rfl (by omega) (aOF _) (aOR _) rfl)<|Dd aN<|Zz<|Sq<|Sr<|Dd aN<|Zz<|aG ?_;refine jI (fun(k:Nat) (R:List ByteArray)=>([(0,.osl 901 g 0 L.length),(3,iv (R.length:Int)),(4,.osl 901 g i (L.length - i)),(5,iv (k:Int))],(901,⟨g,1,9,rN (R++L.drop R.length)⟩)::H)) (fun k R=>1≤k∧i+k≤L.length∧R=kS (L.take (i+k))∧R.length+1≤i+k) (fun k R=>L.length - (i+k)) 1 (L.take i) ⟨by omega,by omega,ht.symm,by rw [aON];omega⟩ ?_ ?_
   ·have hti:(L.take i).length=i:=by rw [aON];omega
    rw [hti,List.take_append_drop];exact cY.get' ⟨⟨_,rfl,rfl⟩,⟨_,rfl,rfl⟩,⟨_,rfl,rfl⟩,⟨_,rfl,rfl⟩,trivial⟩ (fun j=>rfl)
   rintro k R ⟨hk1,hk2,hk3,hk4⟩;refine Sq<|Sr<|Dd aF<|Dd aF<|Dd (by exact eE rfl aE rfl rfl rfl)<|Dd dK<|Zz ?_;refine Cn ?_ ?_<;>intro hc4
   ·have hkl:i+k < L.length:=by have:=aNv hc4;omega
    obtain ⟨v,hv⟩:=aZ hkl;obtain ⟨u,hu⟩:=aZ (l:=L) (k:=i+k - 1) (by omega);have ht2:=QM (by omega) hu hv;have hv2:=EK (X8 (P:=R) (by omega) hv);have hu2:=EK (X8 (P:=R) (by omega) hu);refine aD<|Sq<|aG<|Sq<|aO follows<|Cq aF<|Cq aF<|Cq (by exact dI (m:=k) rfl cA rfl rfl rfl rfl rfl (by omega) (aOK _) (by omega) rfl)<|Cq (by exact aK rfl isAgg9 rfl rfl rfl hv2 rfl)<|Cq aF<|Cq aF<|Cq (by exact eQ rfl rfl rfl (by exact pB (by omega) (by omega)))<|Cq (by exact dI (m:=k - 1) (m2:=i+k - 1) rfl cA rfl rfl rfl rfl rfl (by omega) (show ((k:Int) - 1).toNat=k - 1 by omega) (by omega) (by omega))<|Cq (by exact aK rfl isAgg9 rfl rfl rfl hu2 rfl)<|Cq JO<|bL<|Kr ?_;refine Cn ?_ ?_<;>intro hc5
    ·have hne:¬ u=v:=fun e=>by
      have h:=hc5;rw [e] at h;simp at h
     rw [aNx hne,← hk3] at ht2;have hR0:∃ z,L[R.length]?=some z:=aZ (by omega);obtain ⟨z,hz⟩:=hR0;have hat:(rN (R++L.drop R.length))[R.length]?=some ((encStr z).map .pv):=EK (X8 (P:=R) (aOF _) hz);have hset:(rN (R++L.drop R.length)).set R.length [sv v]=rN ((R++[v])++L.drop (R++[v]).length):=by
      have hd:L.drop R.length=z::L.drop (R.length+1):=by
       obtain ⟨p,q⟩:=aOD.1 hz;rw [List.drop_eq_getElem_cons p,q]
      rw [hd,aOA,List.length_singleton,rN,List.map_append,List.map_cons,List.set_append_right _ _ (by rw [aNz];exact aOF _),aNz,Nat.sub_self,List.set_cons_zero,List.append_assoc,rN,List.map_append,List.map_append];rfl
     refine Sr<|Dd aF<|Dd aF<|Dd aF<|Dd aF<|Dd (by exact dI (m:=k) rfl cA rfl rfl rfl rfl rfl (by omega) (aOK _) (by omega) rfl)<|Dd (by exact aK rfl isAgg9 rfl rfl rfl hv2 rfl)<|Dd (by exact dI rfl cA rfl rfl rfl rfl rfl (by omega) (by exact aOK _) (by omega:R.length < L.length) (aOR _))<|Uu (by exact bH rfl sizeOf9 rfl rfl rfl rfl rfl hat (by simp [encStr]) rfl hset)<|Zz<|Rg<|Dd aF<|Dd lR<|Dd aN<|Zz<|Rg<|Dd aF<|Dd lR<|Da ?_;refine⟨k+1,R++[v],⟨by omega,by omega,ht2.symm,by rw [aOA,List.length_singleton];omega⟩,by omega,?_⟩;rw [show (((R++[v]).length:Nat):Int)=(R.length:Int)+1 by rw [aOA,List.length_singleton];rfl];exact cY.dup ⟨⟨_,rfl,rfl⟩,⟨_,rfl,rfl⟩,⟨_,rfl,rfl⟩,⟨_,rfl,rfl⟩,trivial⟩
    have he:u=v:=by
     have h:=hc5;have h2:v=u:=by simpa using h
     exact h2.symm
    rw [aNy he,List.append_nil,← hk3] at ht2;refine aD<|Rg<|Dd aF<|Dd lR<|Da ?_;refine⟨k+1,R,⟨by omega,by omega,ht2.symm,by omega⟩,by omega,?_⟩;exact cY.get' ⟨⟨_,rfl,rfl⟩,⟨_,rfl,rfl⟩,⟨_,rfl,rfl⟩,⟨_,rfl,rfl⟩,trivial⟩ (fun j=>rfl)
   have hge2:i+k=L.length:=by have:=aNw hc4;omega
   rw [hge2,List.take_length] at hk3;have hRl:R.length≤L.length:=by omega
   have hmix:(rN (R++L.drop R.length)).length=L.length:=by
    rw [aNz,aOA,aOO];omega
   have hcl:(rN (R++L.drop R.length)).take R.length++(List.replicate (L.length - R.length) [sv sNil]++(rN (R++L.drop R.length)).drop (R.length+(L.length - R.length)))=rN (R++List.replicate (L.length - R.length) sNil):=by
    have hd0:(rN (R++L.drop R.length)).drop (R.length+(L.length - R.length))=[]:=List.drop_eq_nil_of_le (by rw [hmix];omega);rw [hd0,List.append_nil,rN,List.map_append,List.take_left' (aNz _),rN,List.map_append,List.map_replicate];rfl
   refine bC<|Sr<|Dd aF<|Dd aF<|Dd (by exact iG (l:=R.length) (h:=L.length) rfl cA rfl rfl rfl rfl rfl rfl hRl (aOF _) (aOR _) rfl)<|Uu (by exact N0 rfl cA zo9 rfl rfl rfl rfl rfl (by rw [hmix];exact hRl) hcl)<|Zz<|Sr<|Dd aF<|Dd aF<|Dd (by exact iG (l:=0) (h:=R.length) rfl cA rfl rfl rfl rfl rfl rfl (aOQ _) hRl (aOR _) rfl)<|Dd aN<|Zz<|aC ?_;refine dY (H':=(901,⟨g,1,9,rN (R++List.replicate (L.length - R.length) sNil)⟩)::H) (.inr rfl) rfl (aY rfl) (Fin.get' (fun j=>vL _ _ _ _ j)) ⟨by rw [hk3];rfl,by rw [hk3]⟩
  have hyx:=aNw hc3;rw [aNx (fun e=>hyx e.symm),hi3] at ht;refine aD<|Rg<|Dd aF<|Dd lR<|Da ?_;refine⟨i+1,⟨by omega,by omega,?_⟩,by omega,cY.get' ⟨⟨_,rfl,rfl⟩,⟨_,rfl,rfl⟩,trivial⟩ (fun j=>rfl)⟩;rw [ht,List.take_add_one,hy];rfl
 have hge3:i=L.length:=by have:=aNw hc2;omega
 subst hge3;rw [List.take_length] at hi3;refine bC<|Sr<|Dd aF<|Dd aN<|Zz<|aC ?_;refine dY (H':=(901,⟨g,1,9,rN L⟩)::H) (.inr rfl) rfl (aY rfl) Fin.refl ⟨by rw [hi3],by rw [hi3,Nat.sub_self,List.replicate_zero,List.append_nil]⟩
end Go.Proofs.YtiifmppaejpemaaGreatDoor
end
namespace Go.Proofs.YtiifmppaejpemaaGreatDoor
open Go.Proofs.Tryz
open Go.Abs
def oA (n a b:Int):Bool:=decide (a≤n)&&decide (n≤b)
def v1G (r:GRec):Bool:=(((((r.priv.trace.any R5||!(!([r.priv.name,r.priv.reason].any IK)))||!(!r.priv.sources.any IK))||decide (16 < ((r.priv.sources.map encStr).length:Int)))||decide (200 < ((r.priv.trace.map gP).length:Int)))||!kD r.priv.sl)||!kD r.sl
def aJh (l:List ByteArray):Bool:=lX l&&decide (((kS l).length:Int)=((l.map encStr).length:Int))
theorem aKA (l:List ByteArray) (hl:l.length < 1099511627776) {H:aB} (hno:H.get 901=none):aI Tryz.prog 73 [.pv (aX l)] H (fun r H'=>r=.osl 901 1 0 l.length∧H'=(901,⟨1,1,9,rN l⟩)::H) :=aI.frame (aEo l [] (fun _ _ h=>by cases h) rfl hl) (fun _ _ h=>by cases h) (fun _ _ h=>by cases h) (by simp) (fun id h=>.inr (by
  by_cases e:901=id
  ·subst e;exact hno
  simp [aB.get,kE e] at h))
def OR (r:GRec):Bool:=(((((!oA r.author 0 59||!oA r.number 1 128)||!oA r.clock 1 1000000)||!bP r.branch)||decide (16 < ((r.parents.map encStr).length:Int)))||!r.parents.all isJ)||!aJh r.parents
end Go.Proofs.YtiifmppaejpemaaGreatDoor
