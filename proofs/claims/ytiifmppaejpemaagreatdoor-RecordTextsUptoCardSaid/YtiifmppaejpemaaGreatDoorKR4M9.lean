/-
  Parts of the proof: rules of an abstract program logic, contracts of functions, plain laws. Conditions: each theorem's own.
-/
import Derived.Test.YtiifmppaejpemaaGreatDoorKR4M8
set_option linter.unusedVariables false
set_option linter.unusedSimpArgs false
set_option maxRecDepth 100000
set_option maxHeartbeats 8000000
namespace Go.Proofs
theorem oK:type_of% Tryz.call17:=Tryz.call17
theorem QI:type_of% Tryz.call19:=Tryz.call19
theorem oJ:type_of% Tryz.call64:=Tryz.call64
theorem lF:type_of% Tryz.isAgg101:=Tryz.isAgg101
theorem kT:type_of% Tryz.isAgg28:=Tryz.isAgg28
theorem aR:type_of% Tryz.isAgg30:=Tryz.isAgg30
end Go.Proofs
section
namespace Go.Abs
section
variable {P:Program} {N:Nat} {o:Oper} {E:bO} {H:aB} {t t':TypeId} {x:Operand}
abbrev aH8 (b:Bool):PV:=bif b then aAM else EN
theorem RU {b:Bool} (ho:o.op=.binOp .neq t x (.const .nilIface) t') (ht:P.underlying t=some (.interface (P.methodsAt t))) (hx:aN E x=some (.pv (aH8 b))):cB P N o E H (.pv (.bool b)) H:=by
 cases b
 ·exact IX ho ht hx
 exact BF ho ht hx
end
def mB (s:ByteArray):Int:=(lO s).1
def sW (s:ByteArray):Bool:=match Lib.atoiAll s.data.toList with
 | .ok _=>false
 | _=>true
theorem aDJ (s:ByteArray):lO s=(mB s,aH8 (sW s)):=by rw [mB,sW,lO];cases Lib.atoiAll s.data.toList<;>rfl
open Go.Lib
theorem aA9 {l:List UInt8} {u:Nat} (hne:l≠[]) (hm:∀ b∈l,48≤b.toNat∧b.toNat≤57) (hd:decFrom 0 l=some u):atoi l=some (u:Int):=by
 cases l with
 | nil=>exact absurd rfl hne
 | cons b r =>
  have hb:=hm b List.mem_cons_self;have e2:decNat (b::r)=some u:=by rw [decNat,hd];rfl
  have h43:¬ (b == 43)=true:=fun h=>by rw [beq_iff_eq] at h;rw [h] at hb;exact absurd hb.1 (by decide)
  have h45:¬ (b == 45)=true:=fun h=>by rw [beq_iff_eq] at h;rw [h] at hb;exact absurd hb.1 (by decide)
  rw [atoi,aLR h45,aLR h43,e2];rfl
theorem P5 {l:List UInt8} {u:Nat} (hl:l.length≤18) (hne:l≠[]) (hm:∀ b∈l,48≤b.toNat∧b.toNat≤57) (hd:decFrom 0 l=some u):atoiAll l=.ok (u:Int):=by rw [atoiAll_short _ hl,aA9 hne hm hd];rfl
end Go.Abs
namespace Go.Proofs.YtiifmppaejpemaaGreatDoor
open Go.Proofs.Tryz
open Go.Abs Go.Lib
theorem YI (s:ByteArray) (hs:s.size < 1099511627776) (H:aB):aH Tryz.prog 118 [sv s] H (fun r H'=>r=.tup [iv (mB s),.pv (aH8 (sW s))]∧H'=H):=by
 have:=HJ s hs H
 rwa [aDJ] at this
abbrev sCo:ByteArray:=⟨#[58]⟩
theorem UK (s:ByteArray) (H:aB):aH Tryz.prog 195 [sv s,sv sCo] H (fun r H'=>r=iv (Lib.indexByte s.data.toList 58)∧H'=H):=by
 refine Pu ?_;refine Bd func195 rfl ntmps195<|Sr<|Dd aP<|Zz<|Sr<|Dd aF<|Dd (nT underlying9)<|Dd aP<|Zz<|Sq<|aG<|Sq ?_;refine bD (t:=16) (n:=9) (X:=decide (sCo=s)) ?_ ?_
 ·all_goals refine Dd aF ?_
  all_goals refine Dd cY<|Dm ?_
  all_goals refine Sp 19 (fun h19=>?_) fun h19=>?_
  all_goals try contradiction
  all_goals refine On aF<|On aF<|On zZ<|Dd cE<|Da ?_
  all_goals(exact⟨⟨_,rfl,by rfl⟩,rfl,rfl,rfl⟩)
 refine Cn ?_ ?_<;>intro hc1
 ·have hs:=aLP hc1;subst hs;exact Sr<|Dd aP<|Zz<|aC<|Rt<|Qq
 refine Sr<|Dd aF<|Dd cY<|Da ?_;refine Cn ?_ ?_<;>intro hc2
 ·exact Sr<|Dd aF<|Dd aF<|Dd (by exact eI rfl underlying9 rfl rfl (by omega) (by exact aL4 _) (show 0 < (⟨#[58]⟩:ByteArray).size from Nat.zero_lt_one) rfl)<|Dd (by exact aA rfl rfl aKq rfl (sZ s 58 _))<|Dd aP<|Zz<|aC<|Rt<|Qq
 cases hc2
def S5 (s:ByteArray):AV:=if Lib.indexByte s.data.toList 58 = -1 then .tup [sv s,sv ⟨#[]⟩,bv false] else .tup [sv (s.extract 0 (Lib.indexByte s.data.toList 58).toNat),sv (s.extract ((Lib.indexByte s.data.toList 58).toNat+1) s.size),bv true]
theorem aBV (s:ByteArray) (H:aB) (hs:s.size < 1099511627776):aH Tryz.prog 160 [sv s,sv sCo] H (fun r H'=>r=S5 s∧H'=H):=by
 refine Pu ?_;have hI:=fun H=>UK s H;rw [S5];rcases Classical.em (Lib.indexByte s.data.toList 58 = -1)with h1|h1
 ·rw [aLS h1];simp only [h1] at hI;refine Bd aAg rfl TS<|Sr<|Dd aP<|Dd aP<|Dd aP<|Zz<|Sq<|Sr<|Dd aF<|Dd aF<|Dd (by exact aA rfl rfl KH rfl (hI _))<|Dd aP<|Zz<|Sr<|Dd aF<|Dd JR<|Zz ?_;refine Cn ?_ ?_<;>intro hc1
  ·cases hc1
  refine aE<|Sr<|Dd aF<|Dd aP<|Dd aP<|Dd aP<|Zz<|aC ?_;refine xL (H':=[]) (.inr rfl) rfl (aT rfl) (aT rfl) (aT rfl) (Fin.wk (by simp) trivial trivial) ?_;exact Qq
 rw [aLR h1];obtain ⟨w,r,e1,e2,e3⟩:=rP h1;simp only [e3] at hI;rw [e3,aL4];have hl:w.length+1+r.length=s.size:=by rw [← show s.data.toList.length=s.size by simp,e1,aLU,aLV];omega
 refine Bd aAg rfl TS<|Sr<|Dd aP<|Dd aP<|Dd aP<|Zz<|Sq<|Sr<|Dd aF<|Dd aF<|Dd (by exact aA rfl rfl KH rfl (hI _))<|Dd aP<|Zz<|Sr<|Dd aF<|Dd JR<|Zz ?_;refine Cn ?_ ?_<;>intro hc1
 ·refine Sq<|aQ follows<|Cq aF<|Cq aF<|Cq (by exact cK (l:=0) (h:=(w.length)) rfl underlying9 rfl rfl rfl (by omega) (by omega) rfl)<|Cq aF<|Cq aF<|Cq aF<|Cq (nT underlying9)<|Cq (by exact cA rfl rfl rfl (show IntKind.i64.wrap ((w.length:Int)+1)=((w.length+1:Nat):Int)by rw [IntKind.wrap_i64];omega))<|Cq (by exact cK (l:=(w.length+1)) (h:=s.size) rfl underlying9 rfl rfl rfl (by omega) (by omega) rfl)<|Cq aP<|Cq aP<|Cq aP<|bJ<|Kr<|aC ?_;refine xL (H':=[]) (.inr rfl) rfl (aT rfl) (aT rfl) (aT rfl) (Fin.wk (by simp) trivial trivial) ?_;exact Qq
 have hx:=aLQ hc1;omega
theorem aHg (s:ByteArray) (H:aB) (hs:s.size < 1099511627776):aH Tryz.prog 117 [sv s,sv sCo] H (fun r H'=>r=S5 s∧H'=H):=by
 refine Pu ?_;have hC:=fun H=>aBV s H hs;rw [S5] at *;rcases Classical.em (Lib.indexByte s.data.toList 58 = -1)with h1|h1
 ·simp only [S5,aLS h1] at hC ⊢;refine Bd aAi rfl TU<|Sr<|Dd aP<|Dd aP<|Dd aP<|Zz<|Sr<|Dd aF<|Dd aF<|Dd (by exact aA rfl rfl aAl rfl (hC _))<|Dd dV<|Dd dV<|Dd dV<|Dd aP<|Dd aP<|Dd aP<|Zz<|aC ?_;refine xL (H':=[]) (.inr rfl) rfl (aT rfl) (aT rfl) (aT rfl) (Fin.wk (by simp) trivial trivial) ?_;exact Qq
 simp only [S5,aLR h1] at hC ⊢;refine Bd aAi rfl TU<|Sr<|Dd aP<|Dd aP<|Dd aP<|Zz<|Sr<|Dd aF<|Dd aF<|Dd (by exact aA rfl rfl aAl rfl (hC _))<|Dd dV<|Dd dV<|Dd dV<|Dd aP<|Dd aP<|Dd aP<|Zz<|aC ?_;refine xL (H':=[]) (.inr rfl) rfl (aT rfl) (aT rfl) (aT rfl) (Fin.wk (by simp) trivial trivial) ?_;exact Qq
def QN (l:List UInt8):List UInt8:=l.takeWhile fun b=>!decide (b=58)
def QO (l:List UInt8):List UInt8:=(l.dropWhile fun b=>!decide (b=58)).drop 1
theorem aCv {w r:List UInt8} (h:(58:UInt8)∉w):QN (w++58::r)=w∧QO (w++58::r)=r:=by
 induction w with
 | nil=>exact⟨rfl,rfl⟩
 | cons b w ih =>
  have hb:b≠58:=fun e=>h (by rw [e];exact List.mem_cons_self);obtain ⟨h1,h2⟩:=ih (fun e=>h (List.mem_cons_of_mem _ e));rw [QN] at h1 ⊢;rw [QO] at h2 ⊢;rw [List.cons_append,List.takeWhile_cons,List.dropWhile_cons,aLS (by simp [hb]),aLS (by simp [hb]),h1];exact⟨rfl,h2⟩
theorem aCu:∀ {l:List UInt8},(58:UInt8)∉l→QN l=l∧QO l=[]
 | [],_=>⟨rfl,rfl⟩
 | b::l,h=>by
  have hb:b≠58:=fun e=>h (by rw [e];exact List.mem_cons_self);obtain ⟨h1,h2⟩:=aCu (l:=l) (fun e=>h (List.mem_cons_of_mem _ e));rw [QN] at h1 ⊢;rw [QO] at h2 ⊢;rw [List.takeWhile_cons,List.dropWhile_cons,aLS (by simp [hb]),aLS (by simp [hb]),h1];exact⟨rfl,h2⟩
theorem aF0 (l:List UInt8):S5 (ofL l)=.tup [sv (ofL (QN l)),sv (ofL (QO l)),bv (decide ((58:UInt8)∈l))]:=by
 rw [S5,dW];by_cases h:Lib.indexByte l 58 = -1
 ·rw [aLS h];have hm:=rO.1 h;rw [(aCu hm).1,(aCu hm).2,decide_eq_false hm];rfl
 rw [aLR h];obtain ⟨w,r,e1,e2,e3⟩:=rP h;rw [e3,aL4];subst e1;rw [(aCv e2).1,(aCv e2).2,decide_eq_true (by simp)];have x1:(ofL (w++58::r)).extract 0 w.length=ofL w:=zK (by rw [nQ,dW,dW,List.drop_zero,Nat.sub_zero,List.take_left]);have x2:(ofL (w++58::r)).extract (w.length+1) (ofL (w++58::r)).size=ofL r:=zK (by
  rw [zC,dW,dW,← List.drop_drop,List.drop_left];rfl)
 rw [x1,x2]
theorem aAa (s:ByteArray) : -9223372036854775808≤mB s∧mB s≤9223372036854775807:=by
 rw [mB,lO];cases e:Lib.atoiAll s.data.toList with
 | ok v=>exact Lib.atoiAll_bounds e
 | range =>
  show _≤Lib.atoiSat _∧Lib.atoiSat _≤_;rw [Lib.atoiSat]
  split
  ·exact⟨by decide,by decide⟩
  exact⟨by decide,by decide⟩
 | _ =>
  show (-9223372036854775808:Int)≤0∧(0:Int)≤9223372036854775807;exact⟨by decide,by decide⟩
theorem aHh (l:List UInt8):(QN l).length≤l.length∧(QO l).length≤l.length:=by
 constructor
 ·exact(List.takeWhile_sublist _).length_le
 rw [QO,aL8];have:=(List.dropWhile_sublist (l:=l) fun b=>!decide (b=58)).length_le;omega
theorem aDI {l:List UInt8} {u:Nat} (hl:l.length≤18) (hne:l≠[]) (hm:∀ b∈l,48≤b.toNat∧b.toNat≤57) (hd:decFrom 0 l=some u):sW (ofL l)=false∧mB (ofL l)=(u:Int):=by
 have h:=P5 hl hne hm hd;constructor
 ·rw [sW,dW,h]
 rw [mB,lO,dW,h]
theorem aAF (n:Nat):(bL (n:Int)).data.toList=decDigits n:=by show (Lib.itoa (n:Int)).toArray.toList=_;rw [lD _ (Int.natCast_nonneg n),aL4]
theorem F4 (x:ByteArray) (L:List ByteArray):aO (x::L)=decDigits x.size++58::(x.data.toList++aO L):=by
 have h1:aO (x::L)=(lP x).data.toList++aO L:=by rw [aO,List.flatMap_cons];rfl
 rw [h1,lP,ByteArray.data_append,Array.toList_append,ByteArray.data_append,Array.toList_append,aAF];simp
theorem aCq (n:Nat):(58:UInt8)∉decDigits n:=fun h=>by
 have:=oF n h;exact absurd this.2 (by decide)
end Go.Proofs.YtiifmppaejpemaaGreatDoor
end
namespace Go.Proofs.YtiifmppaejpemaaGreatDoor
open Go.Proofs.Tryz
open Go.Abs Go.Lib
def A2 (l:List UInt8):Bool:=((!decide ((58:UInt8)∈l)||sW (ofL (QN l)))||decide (mB (ofL (QN l)) < 0))||decide (((QO l).length:Int) < mB (ofL (QN l)))
def nxN (l:List UInt8):Nat:=(mB (ofL (QN l))).toNat
def gL (l:List UInt8):Option (ByteArray×List UInt8):=if A2 l=true then none else some (ofL ((QO l).take (nxN l)),(QO l).drop (nxN l))
def lR (l:List UInt8):Option (Int×List UInt8):=match gL l with
 | none=>none
 | some (s,r)=>if sW s=true then none else some (mB s,r)
def AE {α:Type} (f:List UInt8→Option (α×List UInt8)):Nat→List UInt8→Option (List α×List UInt8)
 | 0,l=>some ([],l)
 | n+1,l=>match f l with
  | none=>none
  | some (x,r)=>match AE f n r with
   | none=>none
   | some (xs,q)=>some (x::xs,q)
def sG {α:Type} (f:List UInt8→Option (α×List UInt8)) (l:List UInt8):Option (List α×List UInt8):=match lR l with
 | none=>none
 | some (n,r)=>AE f n.toNat r
def EF (l:List UInt8):Option ((Int×Int)×List UInt8):=match lR l with
 | none=>none
 | some (x,r)=>match lR r with
  | none=>none
  | some (y,q)=>some ((x,y),q)
def OL (l:List UInt8):Option (GSeal×List UInt8):=match lR l with
 | none=>none
 | some (i,r)=>match sG gL r with
  | none=>none
  | some (a,q)=>match sG gL q with
   | none=>none
   | some (b,p)=>some (⟨i,a,b⟩,p)
def BC (x:ByteArray):Prop:=x.size < 1000000000000000000
theorem iJ {x:ByteArray} (L:List ByteArray) (hx:BC x):gL (aO (x::L))=some (x,aO L):=by
 obtain ⟨e1,e2⟩:=aCv (r:=x.data.toList++aO L) (aCq x.size);rw [← F4] at e1 e2;obtain ⟨n1,n2⟩:=aDI (l:=decDigits x.size) (u:=x.size) (fS (k:=18) (show x.size < 10 ^ 18 from hx) (by decide)) (qN _) (fun b=>oF _) (zG _);have hm:(58:UInt8)∈aO (x::L):=by rw [F4];simp
 have hb:A2 (aO (x::L))=false:=by
  rw [A2,e1,e2,n1,n2,decide_eq_true hm,decide_eq_false (by omega),decide_eq_false (by rw [aLU,aY];omega)];rfl
 rw [gL,aLR (by rw [hb];decide),nxN,e1,n2,e2,aL4,List.drop_left' (aY x),List.take_left' (aY x),jS]
theorem F5 {n:Int} (h0:0≤n) (h1:n < 1000000000000000000):BC (bL n):=Nat.lt_of_le_of_lt (mH (by omega) (by omega)) (by decide)
theorem WN {n:Int} (h0:0≤n) (h1:n < 1000000000000000000):sW (bL n)=false∧mB (bL n)=n:=by
 have h:=wT h0 h1;have e:(bL n).data.toList=itoa n:=by show (Lib.itoa n).toArray.toList=_;simp
 constructor
 ·rw [sW,e,h]
 rw [mB,lO,e,h]
theorem iK {n:Int} (L:List ByteArray) (h0:0≤n) (h1:n < 1000000000000000000):lR (aO (bL n::L))=some (n,aO L):=by obtain ⟨a1,a2⟩:=WN h0 h1;rw [lR,iJ L (F5 h0 h1)];show (if sW (bL n)=true then none else some (mB (bL n),aO L))=_;rw [aLR (by rw [a1];decide),a2]
theorem JG:∀ (ts L:List ByteArray),(∀ t∈ts,BC t)→AE gL ts.length (aO (ts++L))=some (ts,aO L)
 | [],L,_=>rfl
 | t::ts,L,h=>by
  rw [aLV,AE,List.cons_append,iJ _ (h t List.mem_cons_self)];simp only [JG ts L fun x hx=>h x (List.mem_cons_of_mem _ hx)]
theorem wE (ts L:List ByteArray) (h:∀ t∈ts,BC t) (hl:ts.length < 1000000000000000000):sG gL (aO (bL (ts.length:Int)::(ts++L)))=some (ts,aO L):=by rw [sG,iK _ (by omega) (by omega)];show AE gL ((ts.length:Int)).toNat (aO (ts++L))=_;rw [aL4,JG ts L h]
theorem IG (s:GSeal) (L:List ByteArray) (h0:0≤s.idx) (h1:s.idx < 1000000000000000000) (ha:∀ t∈s.sig,BC t) (hb:∀ t∈s.path,BC t) (hal:s.sig.length < 1000000000000000000) (hbl:s.path.length < 1000000000000000000) :
  OL (aO (fI (.z s.idx s.sig s.path)++L))=some (s,aO L):=by
 have e:fI (.z s.idx s.sig s.path)++L=bL s.idx::(bL (s.sig.length:Int)::(s.sig++(bL (s.path.length:Int)::(s.path++L)))):=by simp [fI]
 rw [e,OL,iK _ h0 h1];show (match sG gL (aO (bL (s.sig.length:Int)::(s.sig++(bL (s.path.length:Int)::(s.path++L)))))with|none=>none|some (a,q)=>match sG gL q with|none=>none|some (b,p)=>some ((⟨s.idx,a,b⟩:GSeal),p))=_;rw [wE _ _ ha hal];show (match sG gL (aO (bL (s.path.length:Int)::(s.path++L)))with|none=>none|some (b,p)=>some ((⟨s.idx,s.sig,b⟩:GSeal),p))=_;rw [wE _ _ hb hbl]
theorem JF:∀ (ps:List (Int×Int)) (L:List ByteArray),(∀ q∈ps,(0≤q.1∧q.1 < 1000000000000000000)∧(0≤q.2∧q.2 < 1000000000000000000))→AE EF ps.length (aO (KL ps++L))=some (ps,aO L)
 | [],L,_=>rfl
 | p::ps,L,h=>by
  obtain ⟨⟨a1,a2⟩,a3,a4⟩:=h p List.mem_cons_self;have e:KL (p::ps)++L=bL p.1::(bL p.2::(KL ps++L)):=rfl;have e2:EF (aO (KL (p::ps)++L))=some (p,aO (KL ps++L)):=by
   rw [e,EF,iK _ a1 a2];show (match lR (aO (bL p.2::(KL ps++L)))with|none=>none|some (y,q)=>some ((p.1,y),q))=_;rw [iK _ a3 a4]
  rw [aLV,AE,e2];simp only [JF ps L fun x hx=>h x (List.mem_cons_of_mem _ hx)]
theorem VI (ps:List (Int×Int)) (L:List ByteArray) (h:∀ q∈ps,(0≤q.1∧q.1 < 1000000000000000000)∧(0≤q.2∧q.2 < 1000000000000000000)) (hl:ps.length < 1000000000000000000):sG EF (aO (fI (.p ps)++L))=some (ps,aO L):=by have e:fI (.p ps)++L=bL (ps.length:Int)::(KL ps++L):=rfl;rw [e,sG,iK _ (by omega) (by omega)];show AE EF ((ps.length:Int)).toNat (aO (KL ps++L))=_;rw [aL4,JF ps L h]
end Go.Proofs.YtiifmppaejpemaaGreatDoor
namespace Go.Proofs.YtiifmppaejpemaaGreatDoor
open Go.Proofs.Tryz
open Go.Abs
theorem VO (fv:AV) (l:List (Int×Int)) (p:Nat→Bool) (Hs:Nat→aB) (hl:l.length < 4611686018427387904) (hf:∀ k s,l[k]?=some s→cC Tryz.prog fv [av (fM s)] (Hs k) (fun r H'=>r=bv (p k)∧H'=Hs (k+1))) :
  aH Tryz.prog 125 [.pv (pA l),fv] (Hs 0) (fun r H'=>r=iv (F6 p l.length)∧H'=Hs (wX p l.length)):=by
 have hml:(l.map fM).length=l.length:=aLT _;refine Bd func125 rfl ntmps125<|Sr<|Dd aP<|Zz<|Sq<|Sr<|Dd aF<|Dd (fY dP)<|Dd aF<|Zz<|aG ?_;refine bQ (σ:=Nat) (fun k=>([(0,.pv (pA l)),(1,fv),(7,iv ((l.map fM).length:Int)),(8,iv (k:Int))],Hs k)) (fun k=>k≤l.length∧∀ j,j < k→p j=false) (fun k=>l.length - k) 0 ⟨by omega,by omega⟩ ?_ ?_
 ·exact E0
 rintro k ⟨hk,hno⟩;refine Sr<|Dd dK<|Zz<|Sq ?_;refine Cn ?_ ?_<;>intro hc1
 ·have hlt:k < l.length:=by have:=aLP hc1;omega
  obtain ⟨s,hs⟩:=bE hlt;have hi:=cJ (f:=fM) hs;have hfo:=hf k s hs;refine aE<|Sq<|aG<|Sr<|Dd aF<|Dd aP<|Zz<|Sr<|Dd aF<|Dd aF<|Dd aF<|Dd (xZ Q5)<|Dd (by exact cQ rfl dQ sizeOf73 rfl (by omega) (by simp only [Zl,fM];rfl) rfl)<|Dd (by exact bY rfl rfl rfl (hfo))<|Zz ?_;refine Cn ?_ ?_<;>intro hc2
  ·refine Sr<|Dd aF<|Dd aP<|Zz<|aC ?_;exact dF (H':=Hs (k+1)) (.inr rfl) rfl (aT rfl) Fin.refl ⟨by rw [F6,wO hlt hc2 hno],by rw [wX,wO hlt hc2 hno]⟩
  refine aE<|Rg<|Dd pM<|Dd aF<|Zz ?_;refine⟨k+1,⟨by omega,fun j hj=>?_⟩,by omega,E0⟩;by_cases e:j=k
  ·subst e;exact hc2
  exact hno j (by omega)
 have hge:k=l.length:=by have:=aLQ hc1;omega
 subst hge;refine bG<|Sr<|Dd aP<|Zz<|aC ?_;exact dF (H':=Hs l.length) (.inr rfl) rfl (aT rfl) Fin.refl ⟨by rw [F6,wP hno],by rw [wX,wP hno]⟩
theorem LU (fv:AV) (l:List (Int×Int)) (p:Nat→Bool) (Hs:Nat→aB) (hl:l.length < 4611686018427387904) (hf:∀ k s,l[k]?=some s→cC Tryz.prog fv [av (fM s)] (Hs k) (fun r H'=>r=bv (p k)∧H'=Hs (k+1))) :
  aH Tryz.prog 68 [.pv (pA l),fv] (Hs 0) (fun r H'=>r=bv ((List.range l.length).any p)∧H'=Hs (wX p l.length)):=by
 refine Bd func68 rfl ntmps68<|Sr<|Dd aP<|Zz<|Sr<|Dd aF<|Dd aF<|Dd (by exact aA rfl rfl call125 rfl (VO fv l p Hs hl hf))<|Dd JR<|Dd aP<|Zz<|aC ?_;exact dF (H':=Hs (wX p l.length)) (.inr rfl) rfl (aT rfl) Fin.refl ⟨by rw [NE],rfl⟩
def O8 (q:Int×Int):Bool:=!(decide (0≤q.1)&&decide (q.1≤1048575))||!(decide (0≤q.2)&&decide (q.2≤1048575))
def wiO:Ob:=bx 1 101 [.pv (.fn 64)]
theorem sK (H:aB):∀ r∈wiO.rows,∀ a∈r,Clo H a:=by intro r hr a ha;simp only [wiO,bx,aLW] at hr;subst hr;rw [aLW] at ha;subst ha;simp
theorem aJR (q:Int×Int):aH Tryz.prog 69 [av (fM q),.ref 3 0 0 0] [(3,wiO)] (fun r H'=>r=bv (O8 q)∧H'=[(3,wiO)]):=by
 have hw1:=fun H=>HN q.1 0 1048575 H;have hw2:=fun H=>HN q.2 0 1048575 H;have hof:O8 q=(!(decide (0≤q.1)&&decide (q.1≤1048575))||!(decide (0≤q.2)&&decide (q.2≤1048575))):=rfl;obtain ⟨u,hu⟩:∃ u,u=(decide (0≤q.1)&&decide (q.1≤1048575)):=⟨_,rfl⟩;obtain ⟨v,hv⟩:∃ v,v=(decide (0≤q.2)&&decide (q.2≤1048575)):=⟨_,rfl⟩;rw [← hu] at hw1 hof;rw [← hv] at hw2 hof;clear hu hv;refine Bd func69 rfl ntmps69<|Sr<|Dd (by exact bZ (id:=2) rfl rfl rfl rfl rfl)<|Dd aP<|Zz<|Sq ?_;refine bD (t:=3) (n:=14) (X:=O8 q) ?_ ?_
 ·all_goals refine Dd (bK lF) ?_
  all_goals refine Dd (bB tK)<|Dd (bK isAgg3)<|Dd (by exact bY rfl rfl rfl (cC.fn oJ (hw1 _)))<|Dd lI<|Dm ?_
  all_goals refine Sp 9 (fun h9=>?_) fun h9=>?_
  all_goals try contradiction
  all_goals first|refine Fo<|Fo<|Fo<|Fo<|Fo ?_|refine On (bK lF)<|On (bB tJ)<|On (bK isAgg3)<|On (by exact bY rfl rfl rfl (cC.fn oJ (hw2 _)))<|On lI ?_
  all_goals refine Dd cE<|Da ?_
  all_goals(exact⟨⟨_,rfl,by(rw [hof,h9];rfl)⟩,rfl,rfl,rfl⟩)
 refine aC ?_;refine dF (H':=[(3,wiO)]) (.inr rfl) rfl (aT rfl) (Fin.wk (by(simp;done)) (Hc (sK _)<|trivial) ⟨rfl,trivial⟩) ?_;exact Qq
theorem WO (l:List (Int×Int)) (q:Int×Int→Bool):((List.range l.length).any fun k=>match l[k]? with|some s=>q s|none=>false)=l.any q:=by
 rw [Bool.eq_iff_iff,List.any_eq_true,List.any_eq_true];constructor
 ·rintro⟨k,hk,h⟩;have hk:=List.mem_range.1 hk;rw [aLY hk] at h;exact⟨_,List.getElem_mem hk,h⟩
 rintro⟨s,hs,h⟩;obtain ⟨k,hk⟩:=aLe.1 hs;exact⟨k,List.mem_range.2 (aLX.1 hk).1,by rw [hk];exact h⟩
def aGj (l:List (Int×Int)) (k:Nat):Bool:=match l[k]? with|some s=>O8 s|none=>false
theorem aHM (l:List (Int×Int)) (hl:l.length < 1099511627776):aH Tryz.prog 68 [.pv (pA l),.clo 69 [.ref 3 0 0 0]] [(3,wiO)] (fun r H'=>r=bv (l.any O8)∧H'=[(3,wiO)]):=by
 have hc:=LU (.clo 69 [.ref 3 0 0 0]) l (aGj l) (fun _=>[(3,wiO)]) (by omega) (fun k s hk=>by
  rw [aGj,hk];exact cC.clo call69 (aJR s))
 rw [show (List.range l.length).any (aGj l)=l.any O8 from WO l O8] at hc;exact hc
theorem aC2 (s:ByteArray) (H:aB):aH Tryz.prog 177 [sv s] H (fun r H'=>r=bv false∧H'=H):=by refine Pu ?_;refine Bd func177 rfl ntmps177<|Sr<|Dd aP<|Zz<|Sr<|Dd aF<|Dd aF<|Dd Q6<|Dd aP<|Zz<|aC<|Rt ?_;exact⟨by simp,rfl⟩
theorem aFC (s t:ByteArray) (H:aB):aH Tryz.prog 126 [sv s,sv t] H (fun r H'=>r=bv (CA s t)∧H'=H):=by
 refine Pu ?_;refine Bd func126 rfl ntmps126<|Sr<|Dd aP<|Zz<|Sq ?_;refine bD (t:=4) (n:=15) (X:=CA s t) ?_ ?_
 ·all_goals refine Dd aF ?_
  all_goals refine Dd (by exact aA rfl rfl call177 rfl (aC2 _ _))<|Dm ?_
  all_goals refine Sp 7 (fun h7=>?_) fun h7=>?_
  all_goals try contradiction
  all_goals refine Fo<|Fo<|Fo<|Dd cE<|Dm ?_
  all_goals refine Sp 12 (fun h12=>?_) fun h12=>?_
  all_goals try contradiction
  all_goals refine On aF<|On aF<|On (by exact aBu rfl rfl rfl)<|Dd cE<|Da ?_
  all_goals(exact⟨⟨_,rfl,by rfl⟩,rfl,rfl,rfl⟩)
 exact aC<|Rt<|Qq
def kJ:List ByteArray→Bool
 | a::b::r=>!CA b a&&kJ (b::r)
 | _=>true
theorem OI {a:ByteArray} {l:List ByteArray} (h:kJ (a::l)=true):kJ l=true:=by
 cases l with
 | nil=>rfl
 | cons b r=>exact(aL2 _ _▸h:_∧_).2
theorem CF:∀ (i:Nat) {l:List ByteArray},kJ l=true→kJ (l.drop i)=true
 | 0,_,h=>h
 | i+1,[],_=>rfl
 | i+1,a::l,h=>CF i (OI h)
theorem UG {l:List ByteArray} {k:Nat} {a b:ByteArray} (ha:l[k]?=some a) (hb:l[k+1]?=some b):kJ (l.drop k)=(!CA b a&&kJ (l.drop (k+1))):=by obtain ⟨h1,e1⟩:=aLX.1 ha;obtain ⟨h2,e2⟩:=aLX.1 hb;rw [List.drop_eq_getElem_cons h1,List.drop_eq_getElem_cons h2,e1,e2];rfl
theorem SC (l:List ByteArray) (H:aB) (hl:l.length < 1099511627776):aH Tryz.prog 71 [.pv (aU l)] H (fun r H'=>r=bv (kJ l)∧H'=H):=by
 refine Pu ?_;have hml:(l.map encStr).length=l.length:=aLT _;refine Bd func71 rfl ntmps71<|Sr<|Dd aP<|Zz<|Sq<|Sr<|Dd aF<|Dd (fY aD)<|Dd (by exact eB rfl rfl rfl (show IntKind.i64.wrap (((l.map encStr).length:Int) - 1)=((l.map encStr).length:Int) - 1 by rw [IntKind.wrap_i64];omega))<|Dd aP<|Zz<|aG ?_;refine bQ (σ:=Nat) (fun k=>([(0,.pv (aU l)),(3,iv ((k:Int) - 1))],[])) (fun k=>k≤l.length∧kJ (l.drop (k - 1))=true) (fun k=>k) l.length ⟨aLZ _,?_⟩ ?_ ?_
 ·have:(l.drop (l.length - 1)).length≤1:=by rw [aL8];omega
  match l.drop (l.length - 1),this with
  | [],_=>rfl
  | [a],_=>rfl
 ·rw [hml];exact Wk
 rintro k ⟨hk,hs⟩;refine Sq<|Sr<|Dd aF<|Dd mI<|Zz ?_;refine Cn ?_ ?_<;>intro hc1
 ·have hlt:2≤k:=by have:=aLP hc1;omega
  obtain ⟨m,rfl⟩:∃ m,k=m+2:=⟨k - 2,by omega⟩;obtain ⟨b,hb⟩:=bE (l:=l) (k:=m+1) (by omega);obtain ⟨a,ha⟩:=bE (l:=l) (k:=m) (by omega);have hib:=cJ (f:=encStr) hb;have hia:=cJ (f:=encStr) ha;have hat:=UG ha hb;rw [show m+2 - 1=m+1 by omega] at hs;rw [hs,Bool.and_true] at hat;refine aE<|Sq<|aG<|Sq<|aQ follows<|Cq aF<|Cq aF<|Cq (by exact bN (m:=m+1) rfl cP rfl rfl (by omega) (show (((m+2:Nat):Int) - 1).toNat=m+1 by omega) hib rfl)<|Cq (pH isAgg9)<|Cq aF<|Cq aF<|Cq (by exact eB rfl rfl rfl (show IntKind.i64.wrap ((((m+2:Nat):Int) - 1) - 1)=((m:Nat):Int)by rw [IntKind.wrap_i64];omega))<|Cq (xZ cP)<|Cq (pH isAgg9)<|Cq (by exact aA rfl rfl call126 rfl (aFC b a _))<|bJ<|Kr ?_;refine Cn ?_ ?_<;>intro hc2
  ·have hlt2:CA b a=true:=hc2;have h0:kJ l=false:=by
    rw [Bool.eq_false_iff];intro h;rw [CF m h,hlt2] at hat;cases hat
   rw [h0];exact Sr<|Dd aP<|Zz<|aC<|Rt<|Qq
  have hlt2:CA b a=false:=hc2;refine aE<|Rg<|Dd aF<|Dd (by exact eB rfl rfl rfl (show IntKind.i64.wrap ((((m+2:Nat):Int) - 1) - 1)=((m+1:Nat):Int) - 1 by rw [IntKind.wrap_i64];omega))<|Da ?_;refine⟨m+1,⟨by omega,?_⟩,by omega,?_⟩
  ·rw [show m+1 - 1=m by omega,hat,hlt2];rfl
  exact Wk
 have hge:k≤1:=by have:=aLQ hc1;omega
 have h0:kJ l=true:=by rw [show k - 1=0 by omega] at hs;exact hs
 rw [h0];exact bG<|Sr<|Dd aP<|Zz<|aC<|Rt<|Qq
abbrev pP (l:List ByteArray):List (List AV):=l.map (fun e=>(encStr e).map .pv)
theorem aI9 (l:List ByteArray):∀ r∈l.map encStr,r.length=1:=fun r hr=>by
 obtain ⟨t,_,rfl⟩:=List.mem_map.1 hr;rfl
theorem aCw (l:List ByteArray) (H:aB) (hc:cZ H) (h1:H.get 901=none) (hl:l.length < 1099511627776) :
  aH Tryz.prog 73 [.pv (aU l)] H (fun r H'=>r=.osl 901 1 0 l.length∧H'=(901,⟨1,1,9,pP l⟩)::H):=by
 have hml:(l.map encStr).length=l.length:=aLT _;refine Bd func73 rfl ntmps73<|Sr<|Dd aP<|Zz<|Sq<|Sr<|Dm ?_;refine aHr rfl rfl (U4 rfl aD rfl) ?_;rintro _ H2 ⟨e2,b,rfl,hb⟩;rw [e2];clear e2 H2;refine Zz ?_;refine Cn ?_ ?_<;>intro hc1
 ·have h0:=hb hc1;have h00:l=[]:=List.map_eq_nil_iff.1 h0;subst h00;refine Sr<|Dd (by exact nG (id:=901) (sz:=1) (ty:=9) rfl h1 rfl)<|Zz<|aC ?_;refine dF (H':=((901,⟨1,1,9,[]⟩)::H)) (.inr rfl) rfl (aT rfl) ((Fin.bump (g:=0) (k:=1) rfl rfl (by decide) rfl rfl rfl).trans (Fin.get' (fun j=>sT _ _ _ _ j))) ?_;exact Qq
 refine aE<|Sr<|Dd (by exact uB (id:=901) rfl cP rfl rfl rfl rfl (by simp) h1)<|Dd aF<|Dd (by exact eK rfl cP TQ rfl rfl rfl rfl rfl rfl rfl (aI9 l) hml (by omega) (aLb _) (show []++(l.map encStr).map (·.map AV.pv)=pP l by rw [List.nil_append,List.map_map];rfl))<|Dd aP<|Zz<|aC ?_;refine dF (H':=((901,⟨1,1,9,pP l⟩)::H)) (.inr rfl) rfl (aT rfl) (Fin.get' (fun j=>sT _ _ _ _ j)) ?_;exact Qq
def PU {α:Type} (e:α→α→Bool) (a b:List α):Bool:=decide (a.length=b.length)&&(List.range a.length).all fun k=>match a[k]?,b[k]? with|some x,some y=>e x y|_,_=>true
theorem SR {α:Type} {e:α→α→Bool} (he:∀ x y,e x y=true↔x=y) {a b:List α}:PU e a b=true↔a=b:=by
 constructor
 ·intro h;simp only [PU,aL2,aL0,List.all_eq_true,List.mem_range] at h;apply List.ext_getElem h.1;intro k h1 h2;have:=h.2 k h1;rw [aLY h1,aLY h2] at this;exact(he _ _).1 this
 rintro rfl;simp only [PU,aL2,aL0,List.all_eq_true,List.mem_range,true_and];intro k hk;rw [aLY hk];exact(he _ _).2 rfl
theorem SS {α:Type} {e:α→α→Bool} {a b:List α} {k:Nat} {x y:α} (hx:a[k]?=some x) (hy:b[k]?=some y) (h:e x y=false):PU e a b=false:=by have hk:=(aLX.1 hx).1;rw [PU,Bool.and_eq_false_iff];right;rw [List.all_eq_false];exact⟨k,List.mem_range.2 hk,by rw [hx,hy];simp [h]⟩
theorem NO {α:Type} {e:α→α→Bool} {a b:List α} (hl:a.length=b.length) (h:∀ k,k < a.length→∀ x y,a[k]?=some x→b[k]?=some y→e x y=true):PU e a b=true:=by simp only [PU,aL2,aL0,List.all_eq_true,List.mem_range];refine⟨hl,fun k hk=>?_⟩;rw [aLY hk,aLY (by omega)];exact h k hk _ _ (aLY hk) (aLY (by omega))
def FQ (a b:ByteArray):Bool:=decide (a=b)
theorem Y5 (a b:ByteArray):FQ a b=true↔a=b:=by simp [FQ]
def BM (a b:GObj):Bool:=decide (a.id=b.id)&&decide (a.kind=b.kind)&&(decide (a.x=b.x)&&decide (a.y=b.y))&&decide (a.refs.length=b.refs.length)&&decide (a.tags.length=b.tags.length)
def EY (a b:GObj):Bool:=BM a b&&(PU FQ a.refs b.refs&&PU pX a.tags b.tags)
theorem VV {a b:GObj}:EY a b=true↔a=b:=by
 rw [EY,aL2,aL2,SR Y5,SR MF];cases a;cases b;simp only [BM,aL2,aL0,GObj.mk.injEq];constructor
 ·rintro⟨⟨⟨⟨⟨a1,a2⟩,a3,a4⟩,a5⟩,a6⟩,a7,a8⟩;exact⟨a1,a2,a3,a4,a7,a8⟩
 rintro⟨a1,a2,a3,a4,a7,a8⟩;exact⟨⟨⟨⟨⟨a1,a2⟩,a3,a4⟩,by rw [a7]⟩,by rw [a8]⟩,a7,a8⟩
def JP (a b:GObj) (n1 n2 n3 n4:Int):Bool:=!decide (a.id=b.id)||!decide (a.kind=b.kind)||!(decide (a.x=b.x)&&decide (a.y=b.y))||!decide (n1=n2)||!decide (n3=n4)
theorem ND (a b:GObj):JP a b ((a.refs.map encStr).length:Int) ((b.refs.map encStr).length:Int) ((a.tags.map bF).length:Int) ((b.tags.map bF).length:Int)=!BM a b:=by simp only [JP,BM,aLT,Bool.not_and,Int.natCast_inj]
theorem aB3 (a b:GObj) (H:aB) (ha:a.refs.length < 4611686018427387904) (ha2:a.tags.length < 4611686018427387904):aH Tryz.prog 182 [av (bH a),av (bH b)] H (fun r H'=>r=bv (EY a b)∧H'=H):=by
 refine Pu ?_;have hra:(a.refs.map encStr).length=a.refs.length:=aLT _;have hta:(a.tags.map bF).length=a.tags.length:=aLT _;refine Bd func182 rfl ntmps182<|Sr<|Dd (by exact bZ (id:=2) rfl rfl rfl rfl rfl)<|Dd (by exact bZ (id:=3) rfl rfl rfl rfl rfl)<|Dd aP<|Zz<|Sq<|Sq ?_;refine bD (t:=43) (n:=41) (X:=JP a b ((a.refs.map encStr).length:Int) ((b.refs.map encStr).length:Int) ((a.tags.map bF).length:Int) ((b.tags.map bF).length:Int)) ?_ ?_
 ·all_goals refine Dd (bB oS) ?_
  all_goals refine Dd (bK isAgg9)<|Dd (bB oS)<|Dd (bK isAgg9)<|Dd Q6<|Dm ?_
  all_goals refine Sp 12 (fun h12=>?_) fun h12=>?_
  all_goals try contradiction
  all_goals first|refine Fo<|Fo<|Fo<|Fo<|Fo ?_|refine On (bB gG)<|On (bK isAgg3)<|On (bB gG)<|On (bK isAgg3)<|On uL ?_
  all_goals refine Dd cE<|Dm ?_
  all_goals refine Sp 19 (fun h19=>?_) fun h19=>?_
  all_goals try contradiction
  all_goals first|refine Fo<|Fo<|Fo<|Fo<|Fo ?_|refine On (bB nP)<|On (by exact aM rfl dQ sizeOf73 rfl rfl rfl rfl (by simp only [Zl,bF,bH,encStr];rfl) rfl)<|On (bB nP)<|On (by exact aM rfl dQ sizeOf73 rfl rfl rfl rfl (by simp only [Zl,bF,bH,encStr];rfl) rfl)<|On (by exact yQ rfl rfl rfl rfl rfl jX (UM _ _ _ _)) ?_
  all_goals refine Dd cE<|Dm ?_
  all_goals refine Sp 26 (fun h26=>?_) fun h26=>?_
  all_goals try contradiction
  all_goals first|refine Fo<|Fo<|Fo<|Fo<|Fo<|Fo<|Fo ?_|refine On (bB gF)<|On (bK aJ)<|On (fY aD)<|On (bB gF)<|On (bK aJ)<|On (fY aD)<|On uL ?_
  all_goals refine Dd cE<|Dm ?_
  all_goals refine Sp 35 (fun h35=>?_) fun h35=>?_
  all_goals try contradiction
  all_goals first|refine Fo<|Fo<|Fo<|Fo<|Fo<|Fo<|Fo ?_|refine On (bB fK)<|On (bK cU)<|On (fY cM)<|On (bB fK)<|On (bK cU)<|On (fY cM)<|On uL ?_
  all_goals refine Dd cE<|Zz ?_
  all_goals(exact⟨⟨_,rfl,by first|(simp only [JP, *];rfl)|(simp_all [JP];done)⟩,rfl,rfl,rfl⟩)
 refine Cn ?_ ?_<;>intro hc1
 ·rw [ND] at hc1;refine Sr<|Dd aP<|Zz<|aC<|Rt ?_;refine⟨?_,rfl⟩;have:BM a b=false:=by simpa using hc1
  rw [EY,this];rfl
 rw [ND] at hc1;have hh:BM a b=true:=by simpa using hc1
 have hlens:a.refs.length=b.refs.length∧a.tags.length=b.tags.length:=by
  simp only [BM,aL2,aL0] at hh;exact⟨hh.1.2,hh.2⟩
 obtain ⟨hl1,hl2⟩:=hlens;rw [EY,hh,Bool.true_and];refine aE<|Sq<|Sr<|Dd aP<|Zz<|aG ?_;refine bQ (σ:=Nat) (fun k=>([(2,.ref 2 0 0 0),(3,.ref 3 0 0 0),(5,iv (k:Int))],[(3,bx 6 153 ((bH b).map .pv)),(2,bx 6 153 ((bH a).map .pv))])) (fun k=>k≤a.refs.length∧∀ j,j < k→∀ x y,a.refs[j]?=some x→b.refs[j]?=some y→FQ x y=true) (fun k=>a.refs.length - k) 0 ⟨by omega,by omega⟩ ?_ ?_
 ·exact Wk
 rintro k ⟨hk,hall⟩;refine Sq<|Sr<|Dd aF<|Dd (bB gF)<|Dd (bK aJ)<|Dd (fY aD)<|Dd dK<|Zz ?_;refine Cn ?_ ?_<;>intro hc2
 ·have hlt:k < a.refs.length:=by have:=aLP hc2;omega
  obtain ⟨x,hx⟩:=bE hlt;obtain ⟨y,hy⟩:=bE (l:=b.refs) (k:=k) (by omega);have hi:=cJ (f:=encStr) hx;have hi2:=cJ (f:=encStr) hy;refine aE<|Sq<|aG<|Sq<|aQ follows<|Cq (bB gF)<|Cq (bK aJ)<|Cq aF<|Cq (xZ cP)<|Cq (pH isAgg9)<|Cq (bB gF)<|Cq (bK aJ)<|Cq aF<|Cq (xZ cP)<|Cq (pH isAgg9)<|Cq Q6<|bJ<|Kr ?_;refine Cn ?_ ?_<;>intro hc3
  ·have ht:FQ x y=false:=by
    have h:(!FQ x y)=true:=hc3
    simpa using h
   refine Sr<|Dd aP<|Zz<|aC<|Rt ?_;exact⟨by rw [SS hx hy ht];rfl,rfl⟩
  have ht:FQ x y=true:=by
   have h:(!FQ x y)=false:=hc3
   simpa using h
  refine aE<|Rg<|Dd aF<|Dd pM<|Da ?_;refine⟨k+1,⟨by omega,fun j hj x' y' h1 h2=>?_⟩,by omega,Wk⟩;by_cases e:j=k
  ·subst e;rw [hx] at h1;rw [hy] at h2;cases h1;cases h2;exact ht
  exact hall j (by omega) x' y' h1 h2
 have hge:k=a.refs.length:=by have:=aLQ hc2;omega
 subst hge;rw [NO hl1 hall,Bool.true_and];refine bG<|Sq<|Sr<|Dd aP<|Zz<|aG ?_;refine bQ (σ:=Nat) (fun k=>([(2,.ref 2 0 0 0),(3,.ref 3 0 0 0),(6,iv (k:Int))],[(3,bx 6 153 ((bH b).map .pv)),(2,bx 6 153 ((bH a).map .pv))])) (fun k=>k≤a.tags.length∧∀ j,j < k→∀ x y,a.tags[j]?=some x→b.tags[j]?=some y→pX x y=true) (fun k=>a.tags.length - k) 0 ⟨by omega,by omega⟩ ?_ ?_
 ·exact Wk
 rintro k ⟨hk,hall2⟩;refine Sq<|Sr<|Dd aF<|Dd (bB fK)<|Dd (bK cU)<|Dd (fY cM)<|Dd dK<|Zz ?_;refine Cn ?_ ?_<;>intro hc4
 ·have hlt:k < a.tags.length:=by have:=aLP hc4;omega
  obtain ⟨x,hx⟩:=bE hlt;obtain ⟨y,hy⟩:=bE (l:=b.tags) (k:=k) (by omega);have hi:=cJ (f:=bF) hx;have hi2:=cJ (f:=bF) hy;refine aE<|Sq<|aG<|Sq<|aQ follows<|Cq (bB fK)<|Cq (bK cU)<|Cq aF<|Cq (xZ wY)<|Cq (by exact cQ rfl qQ iC rfl (by omega) (by simp only [Zl,bF,bH,encStr];rfl) rfl)<|Cq (bB fK)<|Cq (bK cU)<|Cq aF<|Cq (xZ wY)<|Cq (by exact cQ rfl qQ iC rfl (by omega) (by simp only [Zl,bF,bH,encStr];rfl) rfl)<|Cq (by exact yQ rfl rfl rfl rfl rfl eqGuardType206 (aGB _ _ _ _))<|bJ<|Kr ?_;refine Cn ?_ ?_<;>intro hc5
  ·have ht:pX x y=false:=by
    have h:(!pX x y)=true:=hc5
    simpa using h
   refine Sr<|Dd aP<|Zz<|aC<|Rt ?_;exact⟨by rw [SS hx hy ht],rfl⟩
  have ht:pX x y=true:=by
   have h:(!pX x y)=false:=hc5
   simpa using h
  refine aE<|Rg<|Dd aF<|Dd pM<|Da ?_;refine⟨k+1,⟨by omega,fun j hj x' y' h1 h2=>?_⟩,by omega,Wk⟩;by_cases e:j=k
  ·subst e;rw [hx] at h1;rw [hy] at h2;cases h1;cases h2;exact ht
  exact hall2 j (by omega) x' y' h1 h2
 have hge:k=a.tags.length:=by have:=aLQ hc4;omega
 subst hge;refine bG<|Sr<|Dd aP<|Zz<|aC<|Rt ?_;exact⟨by rw [NO hl2 hall2],rfl⟩
theorem aAJ (a b:GObj):EY a b=pS a b:=by rw [Bool.eq_iff_iff,VV,BO]
theorem aE3 (a b:GObj) (H:aB) (ha:a.refs.length < 4611686018427387904) (ha2:a.tags.length < 4611686018427387904):aH Tryz.prog 182 [av (bH a),av (bH b)] H (fun r H'=>r=bv (pS a b)∧H'=H):=by rw [← aAJ];exact aB3 a b H ha ha2
def raw (e:GEdit) (s:ByteArray):Prop:=s=e.id∨s=e.other∨s=e.node∨s=e.obj.id∨s∈e.refs∨s∈e.obj.refs
end Go.Proofs.YtiifmppaejpemaaGreatDoor
section
namespace Go.Abs
theorem LC {P:Program} {N:Nat} {o:Oper} {E:bO} {H:aB} {T:TypeId} {t:Tmp} {e:TypeId} {id g off len sz:Nat} {ob:Ob} {row:List AV} {rows':List (List AV)} (ho:o.op=.call {callee:=.builtin .clear,args:=#[.tmp t],argTypes:=#[T]}) (hS:dZ P T e sz) (hZ:dN P e row) (hrow:row.length=sz)
  (hx:E.get t=some (.osl id g off len)) (hH:H.get id=some ob) (hg:ob.g=g) (hosz:ob.sz=sz) (hoff:off≤ob.rows.length) (hrows:ob.rows.take off++(List.replicate len row++ob.rows.drop (off+len))=rows') :
  cB P N o E H .any ((id,⟨g,sz,ob.ty,rows'⟩)::H):=by
 intro a w I ι h1 h2 hr he K Q hkk;obtain ⟨v,hv,hvr⟩:=he t _ hx;obtain ⟨c,h3,h4,h5⟩:=XR hr hvr hH hg;refine ZX (x:=.tmp t) (E:=(t,.osc id g off len c)::E) ho hS hZ hrow (bO.get_cons_same _ _ _) hH hg hosz hoff hrows a w I ι h1 h2 hr (fun u x hu=>?_) K Q hkk;by_cases e:t=u
 ·subst e;rw [bO.get_cons_same] at hu;cases hu;exact⟨v,hv,h5⟩
 rw [bO.get_cons_other _ _ e] at hu;exact he u x hu
end Go.Abs
namespace Go.Proofs.YtiifmppaejpemaaGreatDoor
open Go.Proofs.Tryz
open Go.Abs
def jM:List ByteArray→List ByteArray
 | []=>[]
 | [x]=>[x]
 | x::y::r=>if x=y then jM (y::r)else x::jM (y::r)
theorem E9:∀ (l:List ByteArray) (x y:ByteArray),jM (l++[x,y])=jM (l++[x])++(if x=y then[] else[y])
 | [],x,y=>by
  show (if x=y then jM [y] else x::jM [y])=[x]++_;by_cases e:x=y
  ·rw [aLS e,aLS e,e];rfl
  rw [aLR e,aLR e];rfl
 | [a],x,y=>by
  show (if a=x then jM [x,y] else a::jM [x,y])=(if a=x then jM [x] else a::jM [x])++_;have:=E9 [] x y;rw [show jM [x,y]=jM ([]++[x,y])from rfl,this]
  split<;>rfl
 | a::b::l,x,y=>by
  have:=E9 (b::l) x y;show (if a=b then jM ((b::l)++[x,y])else a::jM ((b::l)++[x,y]))=(if a=b then jM ((b::l)++[x])else a::jM ((b::l)++[x]))++_;rw [this]
  split<;>rfl
theorem NU {L:List ByteArray} {k:Nat} {x y:ByteArray} (hk:1≤k) (hx:L[k - 1]?=some x) (hy:L[k]?=some y):jM (L.take (k+1))=jM (L.take k)++(if x=y then[] else[y]):=by
 obtain ⟨j,rfl⟩:∃ j,k=j+1:=⟨k - 1,by omega⟩;rw [show j+1 - 1=j by omega] at hx;have h1:L.take (j+1)=L.take j++[x]:=by rw [List.take_add_one,hx];rfl
 have h2:L.take (j+1+1)=L.take j++[x,y]:=by rw [List.take_add_one,h1,hy,List.append_assoc];rfl
 rw [h2,h1,E9]
theorem CD {l:List ByteArray} {i:Nat} {s:ByteArray} (h:l[i]?=some s):(pP l)[i]?=some ((encStr s).map .pv):=by rw [aLd,h];rfl
theorem VH {P L:List ByteArray} {j:Nat} {s:ByteArray} (h:P.length≤j) (hs:L[j]?=some s):(P++L.drop P.length)[j]?=some s:=by rw [List.getElem?_append_right h,List.getElem?_drop,show P.length+(j - P.length)=j by omega];exact hs
theorem VZ {H:aB} {id:Nat} {o:Ob} (h:H.get id=some o) (j:Nat):aB.get ((id,o)::H) j=H.get j:=by
 by_cases e:j=id
 ·subst e;rw [get_cons_same,h]
 exact get_cons_other _ _ e
theorem aAV (L:List ByteArray) (g:Nat) (H:aB) (h1:H.get 901=some ⟨g,1,9,pP L⟩) (hl:L.length < 1099511627776) :
  aH Tryz.prog 72 [.osl 901 g 0 L.length] H (fun r H'=>r=.osl 901 g 0 (jM L).length∧H'=(901,⟨g,1,9,pP (jM L++List.replicate (L.length - (jM L).length) sNil)⟩)::H):=by
 refine Bd func72 rfl ntmps72 ?_;refine fE.ent (E':=[(0,.osl 901 g 0 L.length)]) (H':=(901,⟨g,1,9,pP L⟩)::H) (cD.get' ⟨⟨_,rfl,rfl⟩,trivial⟩ (VZ h1)) ?_;refine Sr<|Dd aP<|Zz<|Sq<|Sr<|Dd aF<|Dd (by exact dS rfl aD rfl rfl rfl)<|Dd dK<|Zz ?_;refine Cn ?_ ?_<;>intro hc1
 ·have hlt:L.length < 2:=by have:=aLP hc1;omega
  have hc0:jM L=L:=by
   match L,hlt with
   | [],_=>rfl
   | [a],_=>rfl
  refine Sr<|Dd aF<|Dd aP<|Zz<|aC ?_;refine dF (H':=(901,⟨g,1,9,pP L⟩)::H) (.inr rfl) rfl (aT rfl) Fin.refl ⟨by rw [hc0],by rw [hc0,Nat.sub_self,List.replicate_zero,List.append_nil]⟩
 have hge:2≤L.length:=by have:=aLQ hc1;omega
 refine aE<|Sq<|Sr<|Dd aP<|Zz<|aG ?_;refine bQ (σ:=Nat) (fun i=>([(0,.osl 901 g 0 L.length),(3,iv (i:Int))],(901,⟨g,1,9,pP L⟩)::H)) (fun i=>1≤i∧i≤L.length∧jM (L.take i)=L.take i) (fun i=>L.length - i) 1 ⟨by omega,by omega,by
  obtain ⟨x,hx⟩:=bE (l:=L) (k:=0) (by omega);rw [List.take_add_one,hx];rfl⟩ ?_ ?_
 ·exact cD.get' ⟨⟨_,rfl,rfl⟩,⟨_,rfl,rfl⟩,trivial⟩ (fun j=>rfl)
 rintro i ⟨hi1,hi2,hi3⟩;refine Sq<|Sr<|Dd aF<|Dd aF<|Dd (by exact dS rfl aD rfl rfl rfl)<|Dd dK<|Zz ?_;refine Cn ?_ ?_<;>intro hc2
 ·have hil:i < L.length:=by have:=aLP hc2;omega
  obtain ⟨y,hy⟩:=bE hil;obtain ⟨x,hx⟩:=bE (l:=L) (k:=i - 1) (by omega);have ht:=NU hi1 hx hy;refine aE<|Sq<|aG<|Sq<|aQ follows<|Cq aF<|Cq aF<|Cq (by exact dI rfl cP rfl rfl rfl rfl rfl (by omega) (by exact aL4 _) hil (aLb _))<|Cq (by exact aK rfl isAgg9 rfl rfl rfl (CD hy) rfl)<|Cq aF<|Cq aF<|Cq (by exact eB rfl rfl rfl (by exact pO (by omega) (by omega)))<|Cq (by exact dI (m:=i - 1) rfl cP rfl rfl rfl rfl rfl (by omega) (show ((i:Int) - 1).toNat=i - 1 by omega) (by omega) (aLb _))<|Cq (by exact aK rfl isAgg9 rfl rfl rfl (CD hx) rfl)<|Cq zZ<|bJ<|Kr ?_;refine Cn ?_ ?_<;>intro hc3
  ·have hyx:=aLP hc3;rw [aLS hyx.symm,List.append_nil,hi3] at ht;refine Sr<|Dd aF<|Dd aF<|Dd (by exact gH (l:=i) (h:=L.length) rfl cP rfl rfl rfl rfl rfl rfl (by omega) (aLZ _) (aLb _) rfl)<|Dd aP<|Zz<|Sq<|Sr<|Dd aP<|Zz<|aG ?_;refine jB (fun(k:Nat) (R:List ByteArray)=>([(0,.osl 901 g 0 L.length),(3,iv (R.length:Int)),(4,.osl 901 g i (L.length - i)),(5,iv (k:Int))],(901,⟨g,1,9,pP (R++L.drop R.length)⟩)::H)) (fun k R=>1≤k∧i+k≤L.length∧R=jM (L.take (i+k))∧R.length+1≤i+k) (fun k R=>L.length - (i+k)) 1 (L.take i) ⟨by omega,by omega,ht.symm,by rw [aL7];omega⟩ ?_ ?_
   ·have hti:(L.take i).length=i:=by rw [aL7];omega
    rw [hti,List.take_append_drop];exact cD.get' ⟨⟨_,rfl,rfl⟩,⟨_,rfl,rfl⟩,⟨_,rfl,rfl⟩,⟨_,rfl,rfl⟩,trivial⟩ (fun j=>rfl)
   rintro k R ⟨hk1,hk2,hk3,hk4⟩;refine Sq<|Sr<|Dd aF<|Dd aF<|Dd (by exact dS rfl aD rfl rfl rfl)<|Dd dK<|Zz ?_;refine Cn ?_ ?_<;>intro hc4
   ·have hkl:i+k < L.length:=by have:=aLP hc4;omega
    obtain ⟨v,hv⟩:=bE hkl;obtain ⟨u,hu⟩:=bE (l:=L) (k:=i+k - 1) (by omega);have ht2:=NU (by omega) hu hv;have hv2:=CD (VH (P:=R) (by omega) hv);have hu2:=CD (VH (P:=R) (by omega) hu);refine aE<|Sq<|aG<|Sq<|aQ follows<|Cq aF<|Cq aF<|Cq (by exact dI (m:=k) rfl cP rfl rfl rfl rfl rfl (by omega) (aL4 _) (by omega) rfl)<|Cq (by exact aK rfl isAgg9 rfl rfl rfl hv2 rfl)<|Cq aF<|Cq aF<|Cq (by exact eB rfl rfl rfl (by exact pO (by omega) (by omega)))<|Cq (by exact dI (m:=k - 1) (m2:=i+k - 1) rfl cP rfl rfl rfl rfl rfl (by omega) (show ((k:Int) - 1).toNat=k - 1 by omega) (by omega) (by omega))<|Cq (by exact aK rfl isAgg9 rfl rfl rfl hu2 rfl)<|Cq Q6<|bJ<|Kr ?_;refine Cn ?_ ?_<;>intro hc5
    ·have hne:¬ u=v:=fun e=>by
      have h:=hc5;rw [e] at h;simp at h
     rw [aLR hne,← hk3] at ht2;have hR0:∃ z,L[R.length]?=some z:=bE (by omega);obtain ⟨z,hz⟩:=hR0;have hat:(pP (R++L.drop R.length))[R.length]?=some ((encStr z).map .pv):=CD (VH (P:=R) (aLZ _) hz);have hset:(pP (R++L.drop R.length)).set R.length [sv v]=pP ((R++[v])++L.drop (R++[v]).length):=by
      have hd:L.drop R.length=z::L.drop (R.length+1):=by
       obtain ⟨p,q⟩:=aLX.1 hz;rw [List.drop_eq_getElem_cons p,q]
      rw [hd,aLU,List.length_singleton,pP,List.map_append,List.map_cons,List.set_append_right _ _ (by rw [aLT];exact aLZ _),aLT,Nat.sub_self,List.set_cons_zero,List.append_assoc,pP,List.map_append,List.map_append];rfl
     refine Sr<|Dd aF<|Dd aF<|Dd aF<|Dd aF<|Dd (by exact dI (m:=k) rfl cP rfl rfl rfl rfl rfl (by omega) (aL4 _) (by omega) rfl)<|Dd (by exact aK rfl isAgg9 rfl rfl rfl hv2 rfl)<|Dd (by exact dI rfl cP rfl rfl rfl rfl rfl (by omega) (by exact aL4 _) (by omega:R.length < L.length) (aLb _))<|Uu (by exact bA rfl sizeOf9 rfl rfl rfl rfl rfl hat (by simp [encStr]) rfl hset)<|Zz<|Rg<|Dd aF<|Dd pM<|Dd aP<|Zz<|Rg<|Dd aF<|Dd pM<|Da ?_;refine⟨k+1,R++[v],⟨by omega,by omega,ht2.symm,by rw [aLU,List.length_singleton];omega⟩,by omega,?_⟩;rw [show (((R++[v]).length:Nat):Int)=(R.length:Int)+1 by rw [aLU,List.length_singleton];rfl];exact cD.dup ⟨⟨_,rfl,rfl⟩,⟨_,rfl,rfl⟩,⟨_,rfl,rfl⟩,⟨_,rfl,rfl⟩,trivial⟩
    have he:u=v:=by
     have h:=hc5;have h2:v=u:=by simpa using h
     exact h2.symm
    rw [aLS he,List.append_nil,← hk3] at ht2;refine aE<|Rg<|Dd aF<|Dd pM<|Da ?_;refine⟨k+1,R,⟨by omega,by omega,ht2.symm,by omega⟩,by omega,?_⟩;exact cD.get' ⟨⟨_,rfl,rfl⟩,⟨_,rfl,rfl⟩,⟨_,rfl,rfl⟩,⟨_,rfl,rfl⟩,trivial⟩ (fun j=>rfl)
   have hge2:i+k=L.length:=by have:=aLQ hc4;omega
   rw [hge2,List.take_length] at hk3;have hRl:R.length≤L.length:=by omega
   have hmix:(pP (R++L.drop R.length)).length=L.length:=by
    rw [aLT,aLU,aL8];omega
   have hcl:(pP (R++L.drop R.length)).take R.length++(List.replicate (L.length - R.length) [sv sNil]++(pP (R++L.drop R.length)).drop (R.length+(L.length - R.length)))=pP (R++List.replicate (L.length - R.length) sNil):=by
    have hd0:(pP (R++L.drop R.length)).drop (R.length+(L.length - R.length))=[]:=List.drop_eq_nil_of_le (by rw [hmix];omega);rw [hd0,List.append_nil,pP,List.map_append,List.take_left' (aLT _),pP,List.map_append,List.map_replicate];rfl
   refine bG<|Sr<|Dd aF<|Dd aF<|Dd (by exact gH (l:=R.length) (h:=L.length) rfl cP rfl rfl rfl rfl rfl rfl hRl (aLZ _) (aLb _) rfl)<|Uu (by exact LC rfl cP zo9 rfl rfl rfl rfl rfl (by rw [hmix];exact hRl) hcl)<|Zz<|Sr<|Dd aF<|Dd aF<|Dd (by exact gH (l:=0) (h:=R.length) rfl cP rfl rfl rfl rfl rfl rfl (aLa _) hRl (aLb _) rfl)<|Dd aP<|Zz<|aC ?_;refine dF (H':=(901,⟨g,1,9,pP (R++List.replicate (L.length - R.length) sNil)⟩)::H) (.inr rfl) rfl (aT rfl) (Fin.get' (fun j=>sT _ _ _ _ j)) ⟨by rw [hk3];rfl,by rw [hk3]⟩
  have hyx:=aLQ hc3;rw [aLR (fun e=>hyx e.symm),hi3] at ht;refine aE<|Rg<|Dd aF<|Dd pM<|Da ?_;refine⟨i+1,⟨by omega,by omega,?_⟩,by omega,cD.get' ⟨⟨_,rfl,rfl⟩,⟨_,rfl,rfl⟩,trivial⟩ (fun j=>rfl)⟩;rw [ht,List.take_add_one,hy];rfl
 have hge3:i=L.length:=by have:=aLQ hc2;omega
 subst hge3;rw [List.take_length] at hi3;refine bG<|Sr<|Dd aF<|Dd aP<|Zz<|aC ?_;refine dF (H':=(901,⟨g,1,9,pP L⟩)::H) (.inr rfl) rfl (aT rfl) Fin.refl ⟨by rw [hi3],by rw [hi3,Nat.sub_self,List.replicate_zero,List.append_nil]⟩
end Go.Proofs.YtiifmppaejpemaaGreatDoor
end
namespace Go.Proofs.YtiifmppaejpemaaGreatDoor
open Go.Proofs.Tryz
open Go.Abs
def mZ (n a b:Int):Bool:=decide (a≤n)&&decide (n≤b)
def Y0 (r:GRec):Bool:=(((((r.priv.trace.any O8||!(!([r.priv.name,r.priv.reason].any F0)))||!(!r.priv.sources.any F0))||decide (16 < ((r.priv.sources.map encStr).length:Int)))||decide (200 < ((r.priv.trace.map fM).length:Int)))||!iY r.priv.sl)||!iY r.sl
def aH3 (l:List ByteArray):Bool:=kJ l&&decide (((jM l).length:Int)=((l.map encStr).length:Int))
theorem aHi (l:List ByteArray) (hl:l.length < 1099511627776) {H:aB} (hno:H.get 901=none):aH Tryz.prog 73 [.pv (aU l)] H (fun r H'=>r=.osl 901 1 0 l.length∧H'=(901,⟨1,1,9,pP l⟩)::H) :=aH.frame (aCw l [] (fun _ _ h=>by cases h) rfl hl) (fun _ _ h=>by cases h) (fun _ _ h=>by cases h) (by simp) (fun id h=>.inr (by
  by_cases e:901=id
  ·subst e;exact hno
  simp [aB.get,jA e] at h))
def LZ (r:GRec):Bool:=(((((!mZ r.author 0 59||!mZ r.number 1 128)||!mZ r.clock 1 1000000)||!bI r.branch)||decide (16 < ((r.parents.map encStr).length:Int)))||!r.parents.all isJ)||!aH3 r.parents
def ndG (r:GRec):Bool:=decide (r.kind=2)||decide (r.kind=3)
def KM (r:GRec):Bool:=if r.kind=3 then mZ r.order 1 4 else if r.kind=4 then(bI r.from'&&!decide (r.from'=r.branch))else decide (1≤r.kind∧r.kind≤5)
def QT (r:GRec):ByteArray:=if r.kind=2∨r.kind=3 then r.target else sNil
def wYG (r:GRec):Bool:=if r.kind=2 then r.yes else false
def wOG (r:GRec):Int:=if r.kind=3 then r.order else 0
def wFG (r:GRec):ByteArray:=if r.kind=4 then r.from' else sNil
def wEG (r:GRec):Bool:=if r.kind=1 then true else if r.kind=3 then decide (r.order=3)else false
def v5G (r:GRec):Bool:=((((decide (r.target=QT r)&&(r.yes == wYG r))&&decide (r.order=wOG r))&&decide (r.from'=wFG r))&&(decide (0 < ((r.edits.map aZ).length:Int)) == wEG r))&&(!ndG r||isJ (QT r))
def dH (r:GRec):Bool:=(((!Y0 r&&!LZ r)&&(jL r.edits).2)&&KM r)&&v5G r
abbrev W5:=ByteArray×Bool×Int×ByteArray×Bool
def wW (r:GRec):W5:=(QT r,wYG r,wOG r,wFG r,wEG r)
theorem aI2 {r:GRec} (h:r.kind=1):KM r=true∧(sNil,false,0,sNil,true)=wW r:=by simp [KM,wW,QT,wYG,wOG,wFG,wEG,h]
theorem aI1 {r:GRec} (h:r.kind=2):KM r=true∧(r.target,r.yes,0,sNil,false)=wW r:=by simp [KM,wW,QT,wYG,wOG,wFG,wEG,h]
theorem aI0 {r:GRec} (h:r.kind=3) (hw:mZ r.order 1 4=true):KM r=true∧(r.target,false,r.order,sNil,decide (r.order=3))=wW r:=by simp [KM,wW,QT,wYG,wOG,wFG,wEG,h,hw]
theorem aIZ {r:GRec} (h:r.kind=4) (hn:bI r.from'=true) (hb:r.from'≠r.branch):KM r=true∧(sNil,false,0,r.from',false)=wW r:=by simp [KM,wW,QT,wYG,wOG,wFG,wEG,h,hn,hb]
theorem aIY {r:GRec} (h:r.kind=5):KM r=true∧(sNil,false,0,sNil,false)=wW r:=by simp [KM,wW,QT,wYG,wOG,wFG,wEG,h]
theorem aDs {r:GRec} (h:Y0 r=true):dH r=false:=by simp [dH,h]
theorem W6 {r:GRec} (h:LZ r=true):dH r=false:=by simp [dH,h]
theorem aDr {r:GRec} (h:(jL r.edits).2=false):dH r=false:=by simp [dH,h]
theorem OC {r:GRec} (h:KM r=false):dH r=false:=by simp [dH,h]
theorem aDq {r:GRec} (h1:Y0 r=false) (h2:LZ r=false) (h3:(jL r.edits).2=true) (h4:KM r=true):dH r=v5G r:=by simp [dH,h1,h2,h3,h4]
theorem aAy {r:GRec} (h:r.target.size < 1099511627776):(QT r).size < 1099511627776:=by
 rw [QT]
 split
 ·exact h
 exact(by decide:(0:Nat) < 1099511627776)
theorem zU (r:GRec) (hr:iE r) (hp:r.parents.length < 549755813888) (H:aB):aH Tryz.prog 17 [av (bM r)] H (fun x H'=>x=bv (dH r)∧H'=H):=by
 refine Pu ?_;obtain ⟨_,⟨b1,b2,b3⟩,hpa,hed,hs,hpv⟩:=hr;have htx:=fun H=>W9 r.edits H hed.1 hed.2;obtain ⟨p1,p2,p3,p4,p5⟩:=hpv;have hoffs:=aHM r.priv.trace p4;have hsh1:=fun H=>XG [r.priv.name,r.priv.reason] (show 2 < 1099511627776 by decide) H;have hsh2:=fun H=>XG r.priv.sources p3.1 H;have hf1:=fun H=>SL r.priv.sl p5 H;have hf2:=fun H=>SL r.sl hs H;have hso:=fun H=>SC r.parents H (by omega);have hdg:=fun H=>E6 r.parents hpa H;have hnm:=fun H=>wC r.branch H (by omega);have hnf:=fun H=>wC r.from' H (by omega)
 have hwt:=aAy b2;have hw:∀ (n a b:Int) (H:aB),aH Tryz.prog 64 [iv n,iv a,iv b] H (fun r H'=>r=bv (mZ n a b)∧H'=H):=fun n a b H=>HN n a b H;refine Bd func17 rfl ntmps17<|Sr<|Dd (by exact bZ (id:=1) rfl rfl rfl rfl rfl)<|Dd aP<|Zz<|Sr<|Dd (by exact bC (id:=3) rfl aIV rfl rfl)<|Uu (iH sizeOf101)<|Zz<|Sr<|Dd aP<|Zz<|Sr<|Dd (bB eV)<|Dd (pZ kT sizeOf28)<|Dd (by exact bC (id:=5) rfl aG4 rfl rfl)<|Uu (iH sizeOf28)<|Zz<|Sr<|Dd (bB rQ)<|Dd (bK jD)<|Dd (by exact eZ rfl rfl)<|Dd (by exact aA rfl rfl call68 rfl ((aH.frameS hoffs (KP.sub ⟨rfl,trivial⟩) (cZ.ofL ⟨sK _,trivial⟩) (by simp;rfl))))<|Dd aP<|Zz<|Sq<|Sq ?_;refine bD (t:=63) (n:=48) (X:=Y0 r) ?_ ?_
 ·all_goals refine Dd aF ?_
  all_goals refine Dm ?_
  all_goals refine Sp 23 (fun h23=>?_) fun h23=>?_
  all_goals try contradiction
  all_goals first|refine Fo<|Fo<|Fo<|Fo<|Fo ?_|refine On aF<|On (bB BT)<|On (bK isAgg9)<|On (bB BS)<|On (bK isAgg9) ?_
  all_goals first|refine Fo ?_|refine On (by exact aS [[.str r.priv.name],[.str r.priv.reason]] rfl cP rfl rfl rfl rfl rfl (by intro r hr;simp only [aL5,aL9,or_false] at hr;rcases hr with rfl|rfl<;>rfl)) ?_
  all_goals first|refine Fo<|Fo ?_|refine On (by exact bY rfl rfl rfl (cC.fn call65 (hsh1 _)))<|On lI ?_
  all_goals refine Dd cE<|Dm ?_
  all_goals refine Sp 33 (fun h33=>?_) fun h33=>?_
  all_goals try contradiction
  all_goals first|refine Fo<|Fo<|Fo<|Fo<|Fo ?_|refine On aF<|On (bB zA)<|On (bK aJ)<|On (by exact bY rfl rfl rfl (cC.fn call65 (hsh2 _)))<|On lI ?_
  all_goals refine Dd cE<|Dm ?_
  all_goals refine Sp 40 (fun h40=>?_) fun h40=>?_
  all_goals try contradiction
  all_goals first|refine Fo<|Fo<|Fo<|Fo ?_|refine On (bB zA)<|On (bK aJ)<|On (fY aD)<|On mI ?_
  all_goals refine Dd cE<|Dm ?_
  all_goals refine Sp 46 (fun h46=>?_) fun h46=>?_
  all_goals try contradiction
  all_goals first|refine Fo<|Fo<|Fo<|Fo ?_|refine On (bB rQ)<|On (bK jD)<|On (fY dP)<|On mI ?_
  all_goals refine Dd cE<|Dm ?_
  all_goals refine Sp 52 (fun h52=>?_) fun h52=>?_
  all_goals try contradiction
  all_goals first|refine Fo<|Fo<|Fo<|Fo ?_|refine On (bB nM)<|On (pZ eM sizeOf25)<|On (by exact aA rfl rfl call70 rfl (hf1 _))<|On lI ?_
  all_goals refine Dd cE<|Dm ?_
  all_goals refine Sp 58 (fun h58=>?_) fun h58=>?_
  all_goals try contradiction
  all_goals first|refine Fo<|Fo<|Fo<|Fo ?_|refine On (bB lK)<|On (pZ eM sizeOf25)<|On (by exact aA rfl rfl call70 rfl (hf2 _))<|On lI ?_
  all_goals refine Dd cE<|Zz ?_
  all_goals(exact⟨⟨_,rfl,by first|(rw [Y0,h23];rfl)|(rw [Y0,h23,h33];rfl)|(rw [Y0,h23,h33,h40];rfl)|(rw [Y0,h23,h33,h40,h46];rfl)|(rw [Y0,h23,h33,h40,h46,h52];rfl)|(rw [Y0,h23,h33,h40,h46,h52,h58];rfl)⟩,rfl,rfl,rfl⟩)
 refine Cn ?_ ?_<;>intro hc1
 ·rw [aDs hc1];exact Sr<|Dd aP<|Zz<|aC<|Rt<|Qq
 have h1:=hc1;have hin:aH3 r.parents=(kJ r.parents&&decide (((jM r.parents).length:Int)=((r.parents.map encStr).length:Int))):=rfl;obtain ⟨so,hsoe⟩:∃ so,so=kJ r.parents:=⟨_,rfl⟩;rw [← hsoe] at hso hin;refine aE<|Sq ?_;refine fE.ent (E':=[(1,.ref 1 0 0 0),(3,.ref 3 0 0 0),(5,.ref 5 0 0 0),(4,.pv (.fn 65))]) (H':=[(5,bx 7 28 ((qM r.priv).map .pv)),(3,wiO),(1,bx 21 30 ((bM r).map .pv))]) (cD.wk (Ea<|Ea<|Ea<|Eb<|trivial) (Hb<|Hc (sK _)<|Hb<|trivial) trivial) ?_;cases so with
 | false =>
  have h2:LZ r=true:=by rw [LZ,hin,Bool.false_and,Bool.not_false,Bool.or_true]
  rw [W6 h2];refine aQ follows<|Cr [1] (fun _ h=>fh oE h)<|Cr [1] (fun _ h=>lh aJ h)<|Cr [] (fun H1 hH=>by exact aA rfl rfl call71 rfl (hso _))<|Cr [] (fun _ _=>aF)<|Ot<|Ot<|Ot<|Ot<|Ot<|Ot<|Ot<|Ot<|Ot<|Cr [] (fun _ _=>cE)<|Cr [] (fun _ _=>aP)<|bJ<|Kr<|Sq<|Sq ?_;refine bD (t:=118) (n:=47) (X:=LZ r) ?_ ?_
  ·all_goals refine Dd (bK lF) ?_
   all_goals refine Dd (bB yZ)<|Dd (bK isAgg3)<|Dd (by exact bY rfl rfl rfl (cC.fn oJ (hw r.author 0 59 _)))<|Dd lI<|Dm ?_
   all_goals refine Sp 83 (fun h83=>?_) fun h83=>?_
   all_goals try contradiction
   all_goals first|refine Fo<|Fo<|Fo<|Fo<|Fo ?_|refine On (bK lF)<|On (bB pT)<|On (bK isAgg3)<|On (by exact bY rfl rfl rfl (cC.fn oJ (hw r.number 1 128 _)))<|On lI ?_
   all_goals refine Dd cE<|Dm ?_
   all_goals refine Sp 90 (fun h90=>?_) fun h90=>?_
   all_goals try contradiction
   all_goals first|refine Fo<|Fo<|Fo<|Fo<|Fo ?_|refine On (bK lF)<|On (bB yY)<|On (bK isAgg3)<|On (by exact bY rfl rfl rfl (cC.fn oJ (hw r.clock 1 1000000 _)))<|On lI ?_
   all_goals refine Dd cE<|Dm ?_
   all_goals refine Sp 97 (fun h97=>?_) fun h97=>?_
   all_goals try contradiction
   all_goals first|refine Fo<|Fo<|Fo<|Fo ?_|refine On (bB yX)<|On (bK isAgg9)<|On (by exact aA rfl rfl mD rfl (hnm _))<|On lI ?_
   all_goals refine Dd cE<|Dm ?_
   all_goals refine Sp 103 (fun h103=>?_) fun h103=>?_
   all_goals try contradiction
   all_goals first|refine Fo<|Fo<|Fo<|Fo ?_|refine On (bB oE)<|On (bK aJ)<|On (fY aD)<|On mI ?_
   all_goals refine Dd cE<|Dm ?_
   all_goals refine Sp 109 (fun h109=>?_) fun h109=>?_
   all_goals try contradiction
   all_goals first|refine Fo<|Fo<|Fo<|Fo ?_|refine On (bB oE)<|On (bK aJ)<|On (by exact aA rfl rfl aDe rfl (hdg _))<|On lI ?_
   all_goals refine Dd cE<|Dm ?_
   all_goals refine Sp 115 (fun h115=>?_) fun h115=>?_
   all_goals try contradiction
   all_goals first|refine Fo<|Fo ?_|refine On aF<|On lI ?_
   all_goals refine Dd cE<|Zz ?_
   all_goals(exact⟨⟨_,rfl,by first|(rw [LZ,hin,h83];rfl)|(rw [LZ,hin,h83,h90];rfl)|(rw [LZ,hin,h83,h90,h97];rfl)|(rw [LZ,hin,h83,h90,h97,h103];rfl)|(rw [LZ,hin,h83,h90,h97,h103,h109];rfl)|(rw [LZ,hin,h83,h90,h97,h103,h109,h115];rfl)⟩,rfl,rfl,rfl⟩)
  refine Cn ?_ ?_<;>intro hc2
  ·exact Sr<|Dd aP<|Zz<|aC<|Rt<|Qq
  rw [h2] at hc2;cases hc2
 | true =>
  refine aQ follows<|Cr [1] (fun _ h=>fh oE h)<|Cr [1] (fun _ h=>lh aJ h)<|Cr [] (fun H1 hH=>by exact aA rfl rfl call71 rfl (hso _))<|Cr [] (fun _ _=>aF) ?_;refine aX (r:=⟨_,some [1],[]⟩) (bP rfl rfl rfl (by rfl) (fun H1 hH=>by exact(by exact aW rfl oE rfl ((hH _ rfl).trans rfl) rfl rfl))) rfl ?_;refine aX (r:=⟨_,some [1],[]⟩) (bP rfl rfl rfl (by rfl) (fun H1 hH=>by exact(by exact aK rfl aJ rfl ((hH _ rfl).trans rfl) rfl rfl rfl))) rfl ?_;refine aX (r:=⟨_,some [901],[_]⟩) (bP rfl rfl rfl (by rfl) (fun H1 hH=>by exact aA rfl rfl call73 rfl (aHi r.parents (by omega) ((hH _ rfl).trans rfl)))) rfl ?_;refine aX (r:=⟨_,some [901],[_]⟩) (bP rfl rfl rfl (by rfl) (fun H1 hH=>by exact aA rfl rfl call72 rfl (aAV r.parents 1 _ ((hH _ rfl).trans rfl) (by omega)))) rfl ?_;refine aX (r:=⟨_,some [901],[]⟩) (bP rfl rfl rfl (by rfl) (fun H1 hH=>by exact(by exact dS rfl aD rfl ((hH _ rfl).trans rfl) rfl))) rfl ?_;refine aX (r:=⟨_,some [1],[]⟩) (bP rfl rfl rfl (by rfl) (fun H1 hH=>by exact(by exact aW rfl oE rfl ((hH _ rfl).trans rfl) rfl rfl))) rfl ?_;refine aX (r:=⟨_,some [1],[]⟩) (bP rfl rfl rfl (by rfl) (fun H1 hH=>by exact(by exact aK rfl aJ rfl ((hH _ rfl).trans rfl) rfl rfl rfl))) rfl ?_;refine aX (r:=⟨_,some [],[]⟩) (bP rfl rfl rfl (by rfl) (fun H1 hH=>by exact(by exact jR rfl aD rfl))) rfl ?_;refine aX (r:=⟨_,some [],[]⟩) (bP rfl rfl rfl (by rfl) (fun H1 hH=>by exact gC rfl rfl rfl)) rfl ?_;refine Cr [] (fun _ _=>cE)<|Cr [] (fun _ _=>aP)<|bJ<|Kr<|Sq<|Sq ?_;refine bD (t:=118) (n:=47) (X:=LZ r) ?_ ?_
  ·all_goals refine Dd (bK lF) ?_
   all_goals refine Dd (bB yZ)<|Dd (bK isAgg3)<|Dd (by exact bY rfl rfl rfl (cC.fn oJ (hw r.author 0 59 _)))<|Dd lI<|Dm ?_
   all_goals refine Sp 83 (fun h83=>?_) fun h83=>?_
   all_goals try contradiction
   all_goals first|refine Fo<|Fo<|Fo<|Fo<|Fo ?_|refine On (bK lF)<|On (bB pT)<|On (bK isAgg3)<|On (by exact bY rfl rfl rfl (cC.fn oJ (hw r.number 1 128 _)))<|On lI ?_
   all_goals refine Dd cE<|Dm ?_
   all_goals refine Sp 90 (fun h90=>?_) fun h90=>?_
   all_goals try contradiction
   all_goals first|refine Fo<|Fo<|Fo<|Fo<|Fo ?_|refine On (bK lF)<|On (bB yY)<|On (bK isAgg3)<|On (by exact bY rfl rfl rfl (cC.fn oJ (hw r.clock 1 1000000 _)))<|On lI ?_
   all_goals refine Dd cE<|Dm ?_
   all_goals refine Sp 97 (fun h97=>?_) fun h97=>?_
   all_goals try contradiction
   all_goals first|refine Fo<|Fo<|Fo<|Fo ?_|refine On (bB yX)<|On (bK isAgg9)<|On (by exact aA rfl rfl mD rfl (hnm _))<|On lI ?_
   all_goals refine Dd cE<|Dm ?_
   all_goals refine Sp 103 (fun h103=>?_) fun h103=>?_
   all_goals try contradiction
   all_goals first|refine Fo<|Fo<|Fo<|Fo ?_|refine On (bB oE)<|On (bK aJ)<|On (fY aD)<|On mI ?_
   all_goals refine Dd cE<|Dm ?_
   all_goals refine Sp 109 (fun h109=>?_) fun h109=>?_
   all_goals try contradiction
   all_goals first|refine Fo<|Fo<|Fo<|Fo ?_|refine On (bB oE)<|On (bK aJ)<|On (by exact aA rfl rfl aDe rfl (hdg _))<|On lI ?_
   all_goals refine Dd cE<|Dm ?_
   all_goals refine Sp 115 (fun h115=>?_) fun h115=>?_
   all_goals try contradiction
   all_goals first|refine Fo<|Fo ?_|refine On aF<|On lI ?_
   all_goals refine Dd cE<|Zz ?_
   all_goals(exact⟨⟨_,rfl,by first|(rw [LZ,hin,h83];rfl)|(rw [LZ,hin,h83,h90];rfl)|(rw [LZ,hin,h83,h90,h97];rfl)|(rw [LZ,hin,h83,h90,h97,h103];rfl)|(rw [LZ,hin,h83,h90,h97,h103,h109];rfl)|(rw [LZ,hin,h83,h90,h97,h103,h109,h115];rfl)⟩,rfl,rfl,rfl⟩)
  refine Cn ?_ ?_<;>intro hc3
  ·rw [W6 hc3];exact Sr<|Dd aP<|Zz<|aC<|Rt<|Qq
  have h2:=hc3;obtain ⟨tx,htxe⟩:∃ tx,tx=(jL r.edits).1:=⟨_,rfl⟩;obtain ⟨tb,htbe⟩:∃ tb,tb=(jL r.edits).2:=⟨_,rfl⟩;rw [← htxe,← htbe] at htx;refine aE<|Sq<|Sr<|Dd (bB BR)<|Dd (bK mM)<|Dd (by exact aA rfl rfl call76 rfl (htx _))<|Dd aF<|Dd dV<|Dd dV<|Dd aP<|Dd aP<|Zz<|Sr<|Dd aF<|Dd lI<|Zz ?_;refine Cn ?_ ?_<;>intro hc4
  ·have hb:tb=false:=by have:=hc4;cases tb;rfl;cases this
   rw [aDr (htbe.symm.trans hb)];exact Sr<|Dd aP<|Zz<|aC<|Rt<|Qq
  have hb:tb=true:=by have:=hc4;cases tb;cases this;rfl
  have h3:(jL r.edits).2=true:=htbe.symm.trans hb;have hyes:=fun h4=>aDq h1 h2 h3 h4;clear htxe htbe;refine aE<|Sr<|Dd aP<|Dd aP<|Dd aP<|Dd aP<|Da ?_;refine BZ (fun(p:W5)=>([(1,.ref 1 0 0 0),(3,.ref 3 0 0 0),(10,sv p.1),(11,bv p.2.1),(12,iv p.2.2.1),(13,sv p.2.2.2.1),(14,bv p.2.2.2.2)],[(5,bx 7 28 ((qM r.priv).map .pv)),(3,wiO),(1,bx 21 30 ((bM r).map .pv))])) (fun p=>KM r=true∧p=wW r) ?_ ?_
  ·refine Sr<|Dd (bB tL)<|Dd (bK isAgg3)<|Zz<|aG<|Sr<|Dd cY<|Da ?_;refine Cn ?_ ?_<;>intro hc5
   ·have hk:=aI2 (aLP hc5);refine Rg<|Da ?_;exact⟨_,hk,(cD.wk (Ea<|Ea<|Eb<|Eb<|Eb<|Eb<|Eb<|trivial) (Hb<|Hc (sK _)<|Hb<|trivial) trivial)⟩
   have hk1:=aLQ hc5;refine Sr<|Dd cY<|Da ?_;refine Cn ?_ ?_<;>intro hc6
   ·have hk:=aI1 (aLP hc6);refine aQ follows<|Cq (bB yW)<|Cq (bK isAgg9)<|Cq (bB EZ)<|Cq (bK sD)<|Cq aP<|Cq aP<|bJ<|Kr ?_;exact⟨_,hk,(cD.wk (Ea<|Ea<|Eb<|Eb<|Eb<|Eb<|Eb<|trivial) (Hb<|Hc (sK _)<|Hb<|trivial) trivial)⟩
   have hk2:=aLQ hc6;refine Sr<|Dd cY<|Da ?_;refine Cn ?_ ?_<;>intro hc7
   ·have hk3:=aLP hc7;refine Sq<|aQ follows<|Cq (bB yW)<|Cq (bK isAgg9)<|Cq (bB BQ)<|Cq (bK isAgg3)<|Cq (bB BQ)<|Cq (bK isAgg3)<|Cq cY<|Cq aP<|Cq aP<|Cq aP<|bJ<|Kr<|Sr<|Dd (bK lF)<|Dd aF<|Dd (by exact bY rfl rfl rfl (cC.fn oJ (hw r.order 1 4 _)))<|Dd lI<|Zz ?_;refine Cn ?_ ?_<;>intro hc8
    ·have hk:mZ r.order 1 4=false:=by have:=hc8;revert this;cases mZ r.order 1 4<;>simp
     rw [OC (by rw [KM,aLS hk3];exact hk)];exact Sr<|Dd aP<|Zz<|aC<|Rt<|Qq
    have hk:=aI0 hk3 (by have:=hc8;revert this;cases mZ r.order 1 4<;>simp);refine aE ?_;exact⟨_,hk,(cD.wk (Ea<|Ea<|Eb<|Eb<|Eb<|Eb<|Eb<|trivial) (Hb<|Hc (sK _)<|Hb<|trivial) trivial)⟩
   have hk3:=aLQ hc7;refine Sr<|Dd cY<|Da ?_;refine Cn ?_ ?_<;>intro hc9
   ·have hk4:=aLP hc9;refine Sr<|Dd (bB wM)<|Dd (bK isAgg9)<|Dd aP<|Zz<|Sq ?_;refine bD (t:=162) (n:=10) (X:=!bI r.from'||decide (r.from'=r.branch)) ?_ ?_
    ·all_goals refine Dd aF ?_
     all_goals refine Dd (by exact aA rfl rfl mD rfl (hnf _))<|Dd lI<|Dm ?_
     all_goals refine Sp 157 (fun h157=>?_) fun h157=>?_
     all_goals try contradiction
     all_goals first|refine Fo<|Fo<|Fo<|Fo ?_|refine On aF<|On (bB yX)<|On (bK isAgg9)<|On zZ ?_
     all_goals refine Dd cE<|Zz ?_
     all_goals(exact⟨⟨_,rfl,by(rw [h157];rfl)⟩,rfl,rfl,rfl⟩)
    refine Cn ?_ ?_<;>intro hc10
    ·have hk:(bI r.from'&&!decide (r.from'=r.branch))=false:=by have:=hc10;revert this;cases bI r.from'<;>cases decide (r.from'=r.branch)<;>simp
     rw [OC (by rw [KM,aLR hk3,aLS hk4];exact hk)];exact Sr<|Dd aP<|Zz<|aC<|Rt<|Qq
    have hk:bI r.from'=true∧¬ r.from'=r.branch:=by have:=hc10;rw [aLf,Bool.not_eq_false',aL1] at this;exact this
    have hk:=aIZ hk4 hk.1 hk.2;refine aE ?_;exact⟨_,hk,(cD.wk (Ea<|Ea<|Eb<|Eb<|Eb<|Eb<|Eb<|trivial) (Hb<|Hc (sK _)<|Hb<|trivial) trivial)⟩
   have hk4:=aLQ hc9;refine Sr<|Dd cY<|Da ?_;refine Cn ?_ ?_<;>intro hc11
   ·have hk:=aIY (aLP hc11);refine aE ?_;exact⟨_,hk,(cD.wk (Ea<|Ea<|Eb<|Eb<|Eb<|Eb<|Eb<|trivial) (Hb<|Hc (sK _)<|Hb<|trivial) trivial)⟩
   have hk5:=aLQ hc11;rw [OC (by rw [KM,aLR hk3,aLR hk4,decide_eq_false (by omega)])];exact Sr<|Dd aP<|Zz<|aC<|Rt<|Qq
  rintro _ ⟨h4,rfl⟩;rw [hyes h4];have hdT:=fun H=>aC3 (QT r) hwt H;have hv5:v5G r=(((((decide (r.target=QT r)&&(r.yes == wYG r))&&decide (r.order=wOG r))&&decide (r.from'=wFG r))&&(decide (0 < ((r.edits.map aZ).length:Int)) == wEG r))&&(!ndG r||isJ (QT r))):=rfl;rw [wW];refine Sq ?_;refine bD (t:=15) (n:=10) (X:=ndG r) ?_ ?_
  ·all_goals refine Dd (bB tL) ?_
   all_goals refine Dd (bK isAgg3)<|Dd cY<|Dm ?_
   all_goals refine Sp 168 (fun h168=>?_) fun h168=>?_
   all_goals try contradiction
   all_goals first|refine Fo<|Fo<|Fo ?_|refine On (bB tL)<|On (bK isAgg3)<|On cY ?_
   all_goals refine Dd cE<|Da ?_
   all_goals(exact⟨⟨_,rfl,by(rw [ndG,h168];rfl)⟩,rfl,rfl,rfl⟩)
  refine Sq ?_;refine bD (t:=2) (n:=45) (X:=v5G r) ?_ ?_
  ·all_goals refine Dd (bB yW) ?_
   all_goals refine Dd (bK isAgg9)<|Dd aF<|Dd zZ<|Dm ?_
   all_goals refine Sp 177 (fun h177=>?_) fun h177=>?_
   all_goals try contradiction
   all_goals first|refine Fo<|Fo<|Fo<|Fo ?_|refine On (bB EZ)<|On (bK sD)<|On aF<|On (by exact yP rfl cL rfl rfl) ?_
   all_goals refine Dd cE<|Dm ?_
   all_goals refine Sp 183 (fun h183=>?_) fun h183=>?_
   all_goals try contradiction
   all_goals first|refine Fo<|Fo<|Fo<|Fo ?_|refine On (bB BQ)<|On (bK isAgg3)<|On aF<|On cY ?_
   all_goals refine Dd cE<|Dm ?_
   all_goals refine Sp 189 (fun h189=>?_) fun h189=>?_
   all_goals try contradiction
   all_goals first|refine Fo<|Fo<|Fo<|Fo ?_|refine On (bB wM)<|On (bK isAgg9)<|On aF<|On zZ ?_
   all_goals refine Dd cE<|Dm ?_
   all_goals refine Sp 195 (fun h195=>?_) fun h195=>?_
   all_goals try contradiction
   all_goals first|refine Fo<|Fo<|Fo<|Fo<|Fo<|Fo ?_|refine On (bB BR)<|On (bK mM)<|On (fY dD)<|On mI<|On aF<|On (by exact yP rfl cL rfl rfl) ?_
   all_goals refine Dd cE<|Dm ?_
   all_goals refine Sp 203 (fun h203=>?_) fun h203=>?_
   all_goals try contradiction
   all_goals first|refine Fo<|Fo<|Fo ?_|refine On aF<|On lI<|On aF ?_
   all_goals(first|refine Sp 206 (fun h206=>?_) fun h206=>?_|refine wU (t:=206) rfl ?_)
   all_goals try contradiction
   all_goals first|refine Fo ?_|refine Fu ?_|refine On aF ?_
   all_goals first|refine Fo ?_|refine Fu ?_|refine On (by exact aA rfl rfl aLG rfl (hdT _)) ?_
   all_goals first|refine Fo ?_|refine On cE ?_
   all_goals refine Dd cE<|Da ?_
   all_goals(exact⟨⟨_,rfl,by first|(rw [hv5,h177];rfl)|(rw [hv5,h177,h183];rfl)|(rw [hv5,h177,h183,h189];rfl)|(rw [hv5,h177,h183,h189,h195];rfl)|(rw [hv5,h177,h183,h189,h195,h203];rfl)|(rw [hv5,h177,h183,h189,h195,h203,h206];rfl)⟩,rfl,rfl,rfl⟩)
  exact aC<|Rt<|Qq
end Go.Proofs.YtiifmppaejpemaaGreatDoor
namespace Go.Proofs.YtiifmppaejpemaaGreatDoor
open Go.Proofs.Tryz
open Go.Abs Go.Lib
structure FSeal (s:GSeal):Prop where
 i0:0≤s.idx
 i1:s.idx < 256
 sl:s.sig.length≤18
 pl:s.path.length≤8
 sa:∀ t∈s.sig,isJ t=true
 pa:∀ t∈s.path,isJ t=true
theorem TZ {s:GSeal} (h:sI s=true):s=⟨0,[],[]⟩:=by rw [sI,aL2,aL0,aL0,aLT,aLT] at h;obtain ⟨i,a,b⟩:=s;obtain ⟨h1,h2⟩:=h;simp only at h1 h2;have ha:a=[]:=List.eq_nil_of_length_eq_zero (by omega);have hb:b=[]:=List.eq_nil_of_length_eq_zero (by omega);subst h1 ha hb;rfl
theorem jT {s:GSeal} (h:iY s=true):FSeal s:=by
 rw [iY,Bool.or_eq_true] at h;rcases h with h|h
 ·have:=TZ h;subst this;exact⟨by decide,by decide,by decide,by decide,by simp,by simp⟩
 simp only [aL2,aL0,aLT,List.all_eq_true] at h;obtain ⟨⟨⟨⟨⟨h1,h2⟩,h3⟩,h4⟩,h5⟩,h6⟩:=h;exact⟨h1,h2,by omega,by omega,h5,h6⟩
structure VF (r:GRec):Prop where
 tr:∀ q∈r.priv.trace,(0≤q.1∧q.1≤1048575)∧(0≤q.2∧q.2≤1048575)
 nm:r.priv.name.size≤200
 rs:r.priv.reason.size≤200
 so:∀ s∈r.priv.sources,s.size≤200
 sol:r.priv.sources.length≤16
 trl:r.priv.trace.length≤200
 psl:iY r.priv.sl=true
 sl:iY r.sl=true
 au:0≤r.author∧r.author≤59
 nu:1≤r.number∧r.number≤128
 cl:1≤r.clock∧r.clock≤1000000
 br:bI r.branch=true
 pal:r.parents.length≤16
 pa:∀ p∈r.parents,isJ p=true
 inc:aH3 r.parents=true
 tx:(jL r.edits).2=true
 k:KM r=true
 ta:r.target=QT r
 ye:r.yes=wYG r
 od:r.order=wOG r
 fr:r.from'=wFG r
 ed:decide (0 < r.edits.length)=wEG r
 nd:ndG r=true→isJ (QT r)=true
theorem PB {s:ByteArray}:F0 s=false↔s.size≤200:=by rw [F0,aL1];omega
theorem oX {r:GRec} (h:dH r=true):VF r:=by
 simp only [dH,aL2,aLc] at h;obtain ⟨⟨⟨⟨h1,h2⟩,h3⟩,h4⟩,h5⟩:=h;simp only [Y0,aLf,Bool.not_eq_false',aLc,aL1,aLT,List.any_eq_false,Bool.not_eq_true] at h1;obtain ⟨⟨⟨⟨⟨⟨a1,a2⟩,a3⟩,a4⟩,a5⟩,a6⟩,a7⟩:=h1;simp only [LZ,aLf,Bool.not_eq_false',aL1,aLT,List.all_eq_true,mZ,aL2,aL0] at h2;obtain ⟨⟨⟨⟨⟨⟨b1,b2⟩,b3⟩,b4⟩,b5⟩,b6⟩,b7⟩:=h2;simp only [v5G,aL2,aL0,beq_iff_eq,aLT,Bool.or_eq_true,aLc] at h5;obtain ⟨⟨⟨⟨⟨c1,c2⟩,c3⟩,c4⟩,c5⟩,c6⟩:=h5;refine⟨fun q hq=>?_,PB.1 (a2 _ (by simp)),PB.1 (a2 _ (by simp)),fun s hs=>PB.1 (a3 s hs),by omega,by omega,a6,a7,b1,b2,b3,b4,by omega,b6,b7,h3,h4,c1,c2,c3,c4,?_,fun hn=>?_⟩
 ·have:=a1 q hq;simp only [O8,aLf,Bool.not_eq_false',aL2,aL0] at this;exact this
 ·rw [← c5];congr 1;exact propext ⟨fun h=>by omega,fun h=>by omega⟩
 rcases c6 with h|h
 ·rw [hn] at h;cases h
 exact h
theorem NB {r:GRec} (h:KM r=true):1≤r.kind∧r.kind≤5:=by
 rw [KM] at h
 split at h
 ·omega
 split at h
 ·omega
 exact aLP h
theorem EO {s:ByteArray} (h:bI s=true):s.size≤24:=by simp only [bI,aL2,aL0] at h;omega
theorem T8 {l:List GEdit} (h:(fZ l).2=0):(fZ l).1.size≤20000:=by
 have h2:=FT h;rw [kN] at h2
 split at h2
 ·have:=congrArg Prod.snd h2;cases this
 omega
theorem HZ {l:List GEdit} (h:(jL l).2=true):(jL l).1.size≤20000:=by
 rw [jL] at h ⊢
 split at h
 ·next h0 =>
  rw [aLS h0];exact(by decide:(0:Nat)≤20000)
 next h0 =>
 rw [aLR h0];exact T8 (aLP h)
theorem qI {s:ByteArray} (h:isJ s=true):s.size≤16:=Nat.le_of_eq (rN h)
theorem VF.target {r:GRec} (h:VF r):r.target.size≤16:=by
 rw [h.ta];by_cases hn:ndG r=true
 ·exact qI (h.nd hn)
 have:QT r=sNil:=by
  rw [QT,aLR];rintro(e|e)<;>simp [ndG,e] at hn
 rw [this];decide
theorem VF.from {r:GRec} (h:VF r):r.from'.size≤24:=by
 rw [h.fr,wFG]
 split
 ·next e =>
  have hk:=h.k;rw [KM,aLR (by omega),aLS e,aL2] at hk;exact EO hk.1
 decide
theorem VF.order {r:GRec} (h:VF r):0≤r.order∧r.order≤4:=by
 rw [h.od,wOG]
 split
 ·next e =>
  have hk:=h.k;rw [KM,aLS e,mZ,aL2,aL0,aL0] at hk;omega
 decide
def TO (p:GPriv):List IV:=[.t p.name,.t p.reason,.l p.sources,.p p.trace]
def CI (r:GRec):List IV:=[.z r.sl.idx r.sl.sig r.sl.path,.t r.priv.name,.t r.priv.reason,.l r.priv.sources,.p r.priv.trace,.z r.priv.sl.idx r.priv.sl.sig r.priv.sl.path]
def qP (r:GRec):List ByteArray:=oD r++tN (CI r)
def sB (r:GRec):ByteArray:=if dH r=true then zF (oD r)else sNil
def eD (r:GRec):ByteArray×Int:=if dH r=true then(if 20000 < (aO (qP r)).length then(sNil,2)else(ofL (aO (qP r)),0))else(sNil,1)
def prW:ByteArray:=⟨#[112,114,105,118,97,116,101]⟩
def pR (r:GRec):ByteArray:=zF ([prW,sB r]++tN (TO r.priv))
def le2 (x:ByteArray):Prop:=x.size≤20000
theorem lZ {n:Int} (h0 : -9223372036854775808≤n) (h1:n≤9223372036854775807):le2 (bL n):=Nat.le_trans (mH h0 h1) (by decide)
theorem C3 {n:Nat} (h:n < 1099511627776):le2 (bL (n:Int)):=lZ (by omega) (by omega)
theorem RB {s:GSeal} (h:FSeal s):∀ x∈fI (.z s.idx s.sig s.path),le2 x:=by
 intro x hx;have i0:=h.i0;have i1:=h.i1;have l1:=h.sl;have l2:=h.pl;simp only [fI,aL5,List.mem_append] at hx;rcases hx with rfl|(rfl|hx)|(rfl|hx)
 ·exact lZ (by omega) (by omega)
 ·exact C3 (by omega)
 ·exact Nat.le_trans (qI (h.sa x hx)) (by decide)
 ·exact C3 (by omega)
 exact Nat.le_trans (qI (h.pa x hx)) (by decide)
theorem RA {s:GSeal} (h:FSeal s):(fI (.z s.idx s.sig s.path)).length≤29:=by have l1:=h.sl;have l2:=h.pl;simp only [fI,aLV,aLU];omega
theorem XO {r:GRec} (h:VF r):∀ x∈oD r,le2 x:=by
 intro x hx;obtain ⟨v,hv,hx⟩:=List.mem_flatMap.1 hx;have hk:=NB h.k;have h1:=h.au;have h2:=h.nu;have h3:=h.cl;have h4:=h.order;have hn:=EO h.br;have ht:=h.target;have hf:=h.from
 have hl:=h.pal;simp only [EC,aL5,aL9,or_false] at hv;rcases hv with rfl|rfl|rfl|rfl|rfl|rfl|rfl|rfl|rfl|rfl|rfl|rfl<;>simp only [fI,aL5,aL9,or_false] at hx
 ·subst hx;exact(by decide:UR.size≤20000)
 ·subst hx;exact lZ (by omega) (by omega)
 ·subst hx;exact lZ (by omega) (by omega)
 ·subst hx;exact lZ (by omega) (by omega)
 ·subst hx;exact lZ (by omega) (by omega)
 ·subst hx;exact Nat.le_trans hn (by decide)
 ·rcases hx with rfl|hx
  ·exact C3 (by omega)
  exact Nat.le_trans (qI (h.pa x hx)) (by decide)
 ·subst hx;exact HZ h.tx
 ·subst hx;exact Nat.le_trans ht (by decide)
 ·subst hx;split<;>exact lZ (by decide) (by decide)
 ·subst hx;exact lZ (by omega) (by omega)
 subst hx;exact Nat.le_trans hf (by decide)
theorem OT {r:GRec} (h:VF r):(oD r).length≤28:=by have:=h.pal;rw [oD,RL];omega
theorem aBa {r:GRec} (h:VF r):∀ x∈tN (TO r.priv),le2 x:=by
 intro x hx;obtain ⟨v,hv,hx⟩:=List.mem_flatMap.1 hx;have h1:=h.nm;have h2:=h.rs;have h3:=h.sol;have h4:=h.trl;simp only [TO,aL5,aL9,or_false] at hv;rcases hv with rfl|rfl|rfl|rfl<;>simp only [fI,aL5,aL9,or_false,List.mem_flatMap] at hx
 ·subst hx;exact Nat.le_trans h1 (by decide)
 ·subst hx;exact Nat.le_trans h2 (by decide)
 ·rcases hx with rfl|hx
  ·exact C3 (by omega)
  exact Nat.le_trans (h.so x hx) (by decide)
 rcases hx with rfl|⟨q,hq,hx⟩
 ·exact C3 (by omega)
 obtain ⟨q1,q2⟩:=h.tr q hq;rcases hx with rfl|rfl
 ·exact lZ (by omega) (by omega)
 exact lZ (by omega) (by omega)
theorem aBg (ps:List (Int×Int)):(fI (.p ps)).length=1+2*ps.length:=by rw [show fI (.p ps)=bL (ps.length:Int)::KL ps from rfl,aLV,GX];omega
theorem aB9 {r:GRec} (h:VF r):(tN (TO r.priv)).length≤420:=by have h3:=h.sol;have h4:=h.trl;have:=aBg r.priv.trace;simp only [tN,TO,List.flatMap_cons,List.flatMap_nil,aLU,this];simp only [fI,aLV,List.length_nil];omega
theorem aB1 (r:GRec):tN (CI r)=fI (.z r.sl.idx r.sl.sig r.sl.path)++(tN (TO r.priv)++fI (.z r.priv.sl.idx r.priv.sl.sig r.priv.sl.path)):=by simp [tN,CI,TO,List.flatMap_cons]
theorem aEW {r:GRec} (h:VF r):∀ x∈tN (CI r),le2 x:=by
 intro x hx;rw [aB1] at hx;rcases List.mem_append.1 hx with hx|hx
 ·exact RB (jT h.sl) x hx
 rcases List.mem_append.1 hx with hx|hx
 ·exact aBa h x hx
 exact RB (jT h.psl) x hx
theorem XI {r:GRec} (h:VF r):(tN (CI r)).length≤478:=by have h1:=RA (jT h.sl);have h2:=RA (jT h.psl);have h3:=aB9 h;rw [aB1,aLU,aLU];omega
theorem wG {M:Nat} (hM:M < 1000000000000000000):∀ (L:List ByteArray),(∀ s∈L,s.size≤M)→(aO L).length≤L.length*(M+22)
 | [],_=>aLa _
 | s::L,h=>by
  have ih:=wG hM L fun x hx=>h x (List.mem_cons_of_mem _ hx);have hs:=h s List.mem_cons_self;have hi:=mH (n:=(s.size:Int)) (by omega) (by omega);rw [show aO (s::L)=(lP s).data.toList++aO L by rw [aO,List.flatMap_cons];rfl,aLU,kX,mS,aLV,Nat.succ_mul];omega
theorem BK {L:List ByteArray} (h:∀ x∈L,le2 x) {n:Nat} (hn:L.length≤n):(aO L).length≤n*20022:=Nat.le_trans (wG (M:=20000) (by decide) L h) (Nat.mul_le_mul_right _ hn)
end Go.Proofs.YtiifmppaejpemaaGreatDoor
namespace Go.Abs
theorem aH.fin {P:Program} {f:FuncId} {args:List AV} {H:aB} {Q Q':AV→aB→Prop} (h:aH P f args H Q) (hq:∀ r H1,Q r H1→∃ r' H2,Fin H H1 r H2 r'∧Q' r' H2):aH P f args H Q' :=fun I ι w vs hr hl hv=>(h I ι w vs hr hl hv).mono fun _ w' ⟨r,H',I',ι',v,e,q,k1,k2,k3⟩=>by
  obtain ⟨r',H2,hf,hq'⟩:=hq r H' q;obtain ⟨I2,ι2,a1,a2,a3⟩:=hf ⟨I,ι,H,w,[]⟩ rfl I' ι' w' v k2 k3 k1;exact⟨r',H2,I2,ι2,v,e,hq',a3,a1,a2⟩
end Go.Abs
namespace Go.Proofs.YtiifmppaejpemaaGreatDoor
open Go.Proofs.Tryz
open Go.Abs
theorem not_not {b:Bool} (h:(!b)=true):b=false:=by cases b;rfl;cases h
theorem AD {b:Bool} (h:(!b)=false):b=true:=by cases b;cases h;rfl
theorem qV {α:Type} (f:α→List PV) (l:List α):((l.map f).take (0+l.length)).drop 0=l.map f:=by rw [aLb,List.drop_zero];exact List.take_of_length_le (by rw [aLT];exact aLZ _)
theorem S3 (l:List ByteArray):pU ⟨(aO l).toArray⟩=zF l:=rfl
theorem ZQ (r:GRec) (hr:iE r) (hp:r.parents.length < 549755813888) (H:aB):aH Tryz.prog 45 [av (bM r)] H (fun x H'=>x=.pv (aU (oD r))∧H'=H):=by refine aH.pure ((MS r hr hp).fin ?_) (by simp [bM]) H;rintro _ _ ⟨rfl,rfl⟩;exact⟨_,[],Fin.fz (id:=971) (ob:=⟨RM r,1,9,dO (oD r)⟩) ((oD r).map encStr) rfl (fW _) (.osl (qV encStr _)) rfl trivial trivial,rfl,rfl⟩
theorem ZR (r:GRec) (hr:iE r) (hp:r.parents.length < 549755813888) {H:aB} (hno:H.get 971=none):aH Tryz.prog 45 [av (bM r)] H (fun x H'=>x=.osl 971 (RM r) 0 (oD r).length∧H'=(971,⟨RM r,1,9,dO (oD r)⟩)::H) :=aH.frame (MS r hr hp) (fun _ _ h=>by cases h) (fun _ _ h=>by cases h) (by simp [bM]) (fun id h=>.inr (by
  by_cases e:971=id
  ·subst e;exact hno
  simp [aB.get,jA e] at h))
theorem SE (r:GRec) (hr:iE r) (hp:r.parents.length < 549755813888) (H:aB):aH Tryz.prog 19 [av (bM r)] H (fun x H'=>x=sv (sB r)∧H'=H):=by
 refine aH.pure ?_ (by simp [bM]) H;have hv:=fun H=>zU r hr hp H;have hpu:=fun H=>ZQ r hr hp H;rw [sB];refine Bd func19 rfl ntmps19<|Sr<|Dd (by exact bZ (id:=1) rfl rfl rfl rfl rfl)<|Dd aP<|Zz<|Sq<|Sr<|Dd (pZ aR aL)<|Dd (by exact aA rfl rfl oK rfl (hv _))<|Dd lI<|Zz ?_;refine Cn ?_ ?_<;>intro hc1
 ·have hb:=not_not hc1;rw [aLR (by rw [hb];decide)];exact Sr<|Dd aP<|Zz<|aC<|Rt<|Qq
 have hb:=AD hc1;have hf:=oX hb;have hsz:=BK (XO hf) (OT hf);rw [aLS hb];have hjo:=fun H=>NC (oD r) H (by omega);have hsu:=fun H=>Q0 ⟨(aO (oD r)).toArray⟩ H (by rw [show (⟨(aO (oD r)).toArray⟩:ByteArray).size=(aO (oD r)).length from by simp [ByteArray.size]];omega);rw [S3] at hsu;exact aE<|Sr<|Dd (pZ aR aL)<|Dd (by exact aA rfl rfl call45 rfl (hpu _))<|Dd (by exact aA rfl rfl call47 rfl (hjo _))<|Dd (by exact aA rfl rfl QH rfl (hsu _))<|Dd aP<|Zz<|aC<|Rt<|Qq
theorem aEX {r:GRec} (h:iE r) (hv:VF r):∀ v∈CI r,okI v:=by
 obtain ⟨_,_,_,_,⟨a1,a2,a3⟩,b1,b2,b3,b4,c1,c2,c3⟩:=h;intro v hv';simp only [CI,aL5,aL9,or_false] at hv';rcases hv' with rfl|rfl|rfl|rfl|rfl|rfl
 ·exact⟨a1,a2.1,a3.1⟩
 ·exact trivial
 ·exact trivial
 ·exact b3.1
 ·exact⟨b4,fun q hq=>by
   obtain ⟨⟨q1,q2⟩,q3,q4⟩:=hv.tr q hq;exact⟨⟨by omega,by omega⟩,by omega,by omega⟩⟩
 exact⟨c1,c2.1,c3.1⟩
theorem aGl {r:GRec} (h:iE r) (hv:VF r):∀ v∈TO r.priv,okI v:=by
 obtain ⟨_,_,_,_,_,b1,b2,b3,b4,c1,c2,c3⟩:=h;intro v hv';simp only [TO,aL5,aL9,or_false] at hv';rcases hv' with rfl|rfl|rfl|rfl
 ·exact trivial
 ·exact trivial
 ·exact b3.1
 exact⟨b4,fun q hq=>by
  obtain ⟨⟨q1,q2⟩,q3,q4⟩:=hv.tr q hq;exact⟨⟨by omega,by omega⟩,by omega,by omega⟩⟩
theorem zW (r:GRec) (hr:iE r) (hp:r.parents.length < 549755813888) (H:aB):aH Tryz.prog 13 [av (bM r)] H (fun x H'=>x=.tup [sv (eD r).1,iv (eD r).2]∧H'=H):=by
 refine aH.pure ?_ (by simp [bM]) H;have hv:=fun H=>zU r hr hp H;have hpu:=fun H hno=>ZR r hr hp (H:=H) hno;rw [eD];refine Bd func13 rfl ntmps13<|Sr<|Dd (by exact bZ (id:=1) rfl rfl rfl rfl rfl)<|Dd aP<|Dd aP<|Zz<|Sq<|Sr<|Dd (pZ aR aL)<|Dd (by exact aA rfl rfl oK rfl (hv _))<|Dd lI<|Zz ?_;refine Cn ?_ ?_<;>intro hc1
 ·have hb:=not_not hc1;rw [aLR (by rw [hb];decide)];exact Sr<|Dd aP<|Dd aP<|Zz<|aC<|Ru<|Qq
 have hb:=AD hc1;have hf:=oX hb;have hsz:=BK (L:=qP r) (n:=506) (fun x hx=>(List.mem_append.1 hx).elim (XO hf x) (aEW hf x)) (by
  have:=OT hf;have:=XI hf;rw [qP,aLU];omega)
 have hpl:=OT hf;have hsl:=XI hf;rw [aLS hb];have hadd:=WR (CI r) (aEX hr hf) (RM r) (oD r) (show 6 < 1099511627776 by decide) (by omega);have hjo:=fun H=>NC (qP r) H (by omega);have hal:qP r=oD r++tN (CI r):=rfl;rw [← hal] at hadd;obtain ⟨S,hS⟩:∃ S,S=qP r:=⟨_,rfl⟩;obtain ⟨g,hg⟩:∃ g,g=RM r+VY (CI r):=⟨_,rfl⟩;rw [← hS] at hadd hjo hsz ⊢;rw [← hg] at hadd;have hof:(⟨(aO S).toArray⟩:ByteArray)=ofL (aO S):=rfl;rw [hof] at hjo;have hos:(ofL (aO S)).size=(aO S).length:=fU _;refine aE<|Sr<|Dd (pZ aR aL)<|Dd (by exact aA rfl rfl call45 rfl (hpu _ rfl))<|Dd (by exact bC (id:=970) rfl aIM rfl rfl)<|Uu (iH FI)<|Zz<|Sr<|Dd (bB lK)<|Dd (pZ eM sizeOf25)<|Dd (by exact CU (ps:=iB r.sl) rfl (cG fC rfl) rfl)<|Dd (bB eV)<|Dd (bB BT)<|Dd (bK isAgg9)<|Dd (by exact eC (p:=.str r.priv.name) rfl (cG underlying9 rfl) rfl)<|Dd (bB eV)<|Dd (bB BS)<|Dd (bK isAgg9)<|Dd (by exact eC (p:=.str r.priv.reason) rfl (cG underlying9 rfl) rfl)<|Dd (bB eV)<|Dd (bB zA)<|Dd (bK aJ)<|Dd (by exact eC (p:=aU r.priv.sources) rfl (cG aD rfl) rfl)<|Dd (bB eV)<|Dd (bB rQ)<|Dd (bK jD)<|Dd (by exact eC (p:=pA r.priv.trace) rfl (cG dP rfl) rfl) ?_;refine Dd (bB eV)<|Dd (bB nM)<|Dd (pZ eM sizeOf25)<|Dd (by exact CU (ps:=iB r.priv.sl) rfl (cG fC rfl) rfl)<|Dd (by exact aS ((CI r).map tO) rfl sN rfl rfl rfl rfl rfl (JZ (CI r)))<|Dd (by exact aA rfl rfl sE rfl (TK hadd ⟨rfl,rfl,trivial⟩ (by simp;rfl)))<|Zz<|Sq ?_;refine fE.ent (cD.fzG (id:=971) (E':=[(4,.ref 970 0 0 0)]) (H':=[(970,bx 1 77 [.pv (aU S)])]) (S.map encStr) rfl (fW _) ?_ rfl ?_ ?_) ?_
 ·intro p hp;simp only [aL5,aL9,or_false] at hp;rcases hp with rfl;exact⟨_,rfl,.same (by simp;rfl)⟩
 ·exact⟨⟨_,rfl,rfl,rfl,rfl,nK rfl (cI (.osl (qV encStr _)) nL)⟩,trivial⟩
 ·exact trivial
 refine Rg<|Dd (bK AT)<|Dd (by exact aA rfl rfl call47 rfl (hjo _))<|Dd aP<|Zz<|Sq<|Sr<|Dd aF<|Dd (nT underlying9)<|Dd mI<|Zz ?_;refine Cn ?_ ?_<;>intro hc2
 ·have hlt:20000 < (aO S).length:=by have:=aLP hc2;omega
  rw [aLS hlt];exact Sr<|Dd aP<|Dd aP<|Zz<|aC<|Ru<|Qq
 have hlt:¬ 20000 < (aO S).length:=by have:=aLQ hc2;omega
 rw [aLR hlt];exact aE<|Sr<|Dd aF<|Dd aP<|Dd aP<|Zz<|aC<|Ru<|Qq
theorem PN (r:GRec):(sB r).size≤20000:=by
 by_cases h:dH r=true
 ·rw [sB,aLS h];exact Nat.le_trans (Nat.le_of_eq (iM _)) (by decide)
 rw [sB,aLR h];decide
theorem M6 (r:GRec) (hr:iE r) (hp:r.parents.length < 549755813888) (hb:dH r=true) (H:aB):aH Tryz.prog 85 [av (bM r)] H (fun x H'=>x=sv (pR r)∧H'=H):=by
 refine aH.pure ?_ (by simp [bM]) H;have hid:=fun H=>SE r hr hp H;have hf:=oX hb;have hpl:=aB9 hf;have hadd:=WR (TO r.priv) (aGl hr hf) 0 [prW,sB r] (show 4 < 1099511627776 by decide) (by simp only [aLV,List.length_nil];omega);have his:=PN r;have hsz:=BK (L:=[prW,sB r]++tN (TO r.priv)) (n:=422) (fun x hx=>(List.mem_append.1 hx).elim (fun hx=>by
   simp only [aL5,aL9,or_false] at hx;rcases hx with rfl|rfl
   ·exact(by decide:prW.size≤20000)
   exact his) (aBa hf x)) (by rw [aLU,aLV,aLV,List.length_nil];omega)
 rw [pR];have hli:=fun H=>aCO ([prW,sB r]++tN (TO r.priv)) H (by omega);obtain ⟨S,hS⟩:∃ S,S=[prW,sB r]++tN (TO r.priv):=⟨_,rfl⟩;obtain ⟨g,hg⟩:∃ g,g=0+VY (TO r.priv):=⟨_,rfl⟩;rw [← hS] at hadd hli ⊢;rw [← hg] at hadd;obtain ⟨i,hi⟩:∃ i,i=sB r:=⟨_,rfl⟩;rw [← hi] at hid hadd;refine Bd func85 rfl ntmps85<|Sr<|Dd (by exact bZ (id:=1) rfl rfl rfl rfl rfl)<|Dd aP<|Zz<|Sr<|Dd (pZ aR aL)<|Dd (by exact aA rfl rfl QI rfl (hid _))<|Dd (by exact uB (id:=971) rfl UH rfl rfl rfl rfl (by intro r hr;simp only [aL5,aL9,or_false] at hr;rcases hr with rfl|rfl<;>rfl) rfl)<|Dd (by exact bC (id:=970) rfl aIM rfl rfl)<|Uu (iH FI)<|Zz<|Sr<|Dd (bB eV)<|Dd (bB BT)<|Dd (bK isAgg9)<|Dd (by exact eC (p:=.str r.priv.name) rfl (cG underlying9 rfl) rfl)<|Dd (bB eV)<|Dd (bB BS)<|Dd (bK isAgg9)<|Dd (by exact eC (p:=.str r.priv.reason) rfl (cG underlying9 rfl) rfl)<|Dd (bB eV)<|Dd (bB zA)<|Dd (bK aJ)<|Dd (by exact eC (p:=aU r.priv.sources) rfl (cG aD rfl) rfl) ?_;refine Dd (bB eV)<|Dd (bB rQ)<|Dd (bK jD)<|Dd (by exact eC (p:=pA r.priv.trace) rfl (cG dP rfl) rfl)<|Dd (by exact aS ((TO r.priv).map tO) rfl sN rfl rfl rfl rfl rfl (JZ (TO r.priv)))<|Dd (by exact aA rfl rfl sE rfl (TK hadd ⟨rfl,rfl,trivial⟩ (by simp;rfl)))<|Zz<|Sq ?_;refine fE.ent (cD.fzG (id:=971) (E':=[(3,.ref 970 0 0 0)]) (H':=[(970,bx 1 77 [.pv (aU S)])]) (S.map encStr) rfl (fW _) ?_ rfl ?_ ?_) ?_
 ·intro p hp;simp only [aL5,aL9,or_false] at hp;rcases hp with rfl;exact⟨_,rfl,.same (by simp;rfl)⟩
 ·exact⟨⟨_,rfl,rfl,rfl,rfl,nK rfl (cI (.osl (qV encStr _)) nL)⟩,trivial⟩
 ·exact trivial
 exact Rg<|Dd (bK AT)<|Dd (by exact aA rfl rfl call133 rfl (hli _))<|Dd aP<|Zz<|aC<|Rt<|Qq
def qA (r:GRec):GRec:={r with priv:=⟨sNil,sNil,[],[],⟨0,[],[]⟩⟩}
theorem aFi (r:GRec) (H:aB):aH Tryz.prog 24 [av (bM r)] H (fun x H'=>x=av (bM (qA r))∧H'=H):=by refine aH.pure ?_ (by simp [bM]) H;refine Bd func24 rfl ntmps24<|Sr<|Dd (by exact bZ (id:=1) rfl rfl rfl rfl rfl)<|Dd (by exact bC (id:=2) rfl xN rfl rfl)<|Zz<|Sr<|Dd (uX aHn)<|Dd (bB eV)<|Uu (by exact lG rfl sizeOf28 rfl rfl rfl rfl rfl rfl rfl (aL6 rfl) rfl rfl)<|Zz<|Sr<|Dd (pZ aR aL)<|Uu (iH aL)<|Zz<|aC ?_;refine dF (H':=[]) (.inr rfl) rfl (eU rfl aR aL rfl rfl rfl (by simp only [Zl,encStr];rfl) rfl) (Fin.wk (by simp [bM]) trivial trivial) ?_;exact Qq
end Go.Proofs.YtiifmppaejpemaaGreatDoor
namespace Go.Abs
section
abbrev D2:=List PanicEntry
def xV (P:Program) (N:Nat) (o:Oper) (E:bO) (H:aB) (R:AV→aB→Prop) (PP:D2→aB→Prop):Prop :=∀ (a:Act) (w:World) (I:Nat→Prop) (ι:dR),a.tmps.size=N→Rel I ι H w→gQ w I ι H E a→∀ (K:Act→World→Prop) (Q:Exit→Act→World→Prop),
  (∀ c w' I' ι' r H',R r H'→VRel w' I' ι' H' c r→Rel I' ι' H' w'→Step I ι H w I' ι' H' w'→K (a.put o.dst c) w') →
  (∀ ch w' I' ι' H',PP ch H'→Rel I' ι' H' w'→Step I ι H w I' ι' H' w'→Q (.panic ch) a w')→o.wpW P a w K Q
theorem xV.of {P:Program} {N:Nat} {o:Oper} {E:bO} {H:aB} {R:AV→aB→Prop} {PP:D2→aB→Prop} (h:WT P N o E H R):xV P N o E H R PP :=fun a w I ι hs hr he K Q hk _=>h a w I ι trivial hs hr he K Q hk
theorem xV.opr {P:Program} {N:Nat} {o:Oper} {E:bO} {H:aB} {R:AV→aB→Prop} (h:xV P N o E H R (fun _ _=>False)):WT P N o E H R :=fun a w I ι _ hs hr he K Q hk=>h a w I ι hs hr he K Q hk (fun _ _ _ _ _ hf=>hf.elim)
def dX (P:Program) (f:FuncId) (args:List AV) (H:aB) (Q:AV→aB→Prop) (PP:D2→aB→Prop):Prop :=∀ (I:Nat→Prop) (ι:dR) (w:World) (vs:Array Value),Rel I ι H w→vs.size=args.length→(∀ (i:Nat) (v:Value) (a:AV),vs[i]?=some v→args[i]?=some a→VRel w I ι H v a) →
  Calls P f vs w fun e w'=>(∃ r H' I' ι' v,e=.returned v∧Q r H'∧VRel w' I' ι' H' v r∧Rel I' ι' H' w'∧Step I ι H w I' ι' H' w')∨(∃ ch H' I' ι',e=.panicked ch∧PP ch H'∧Rel I' ι' H' w'∧Step I ι H w I' ι' H' w')
section
variable {P:Program} {f:FuncId} {args:List AV} {H:aB} {Q:AV→aB→Prop} {PP:D2→aB→Prop}
theorem dX.of (h:aH P f args H Q):dX P f args H Q PP:=fun I ι w vs hr hl hv=>(h I ι w vs hr hl hv).mono fun _ _ h=>.inl h
theorem dX.mono {Q':AV→aB→Prop} {PP':D2→aB→Prop} (h:dX P f args H Q PP) (hq:∀ r H',Q r H'→Q' r H') (hp:∀ ch H',PP ch H'→PP' ch H'):dX P f args H Q' PP' :=fun I ι w vs hr hl hv=>(h I ι w vs hr hl hv).mono fun _ _ h=>h.elim (fun⟨r,H',I',ι',v,e,q,rest⟩=>.inl ⟨r,H',I',ι',v,e,hq _ _ q,rest⟩) (fun⟨ch,H',I',ι',e,q,rest⟩=>.inr ⟨ch,H',I',ι',e,hp _ _ q,rest⟩)
theorem dX.calls (h:dX P f args H Q PP) (hn:∀ ch H',¬ PP ch H'):aH P f args H Q :=fun I ι w vs hr hl hv=>(h I ι w vs hr hl hv).mono fun _ _ h=>h.elim id (fun⟨ch,H',_,_,_,q,_⟩=>(hn ch H' q).elim)
end
section
variable {P:Program} {N:Nat} {o:Oper} {E:bO} {H:aB} {Q:AV→aB→Prop} {PP:D2→aB→Prop}
theorem cW {F:FuncId} {f:Operand} {args:Array Operand} {at_:Array TypeId} {vs:List AV} (ho:o.op=.call {callee:=.value f,args:=args,argTypes:=at_}) (hf:aN E f=some (.pv (.fn F)))
  (hc:∀ (args:Array Value) (w:World),(callFunc F args).run P w=.ok (.enter F args) w) (hv:sX E args.toList=some vs) (h:dX P F vs H Q PP):xV P N o E H Q PP:=by
 intro a w I ι _ hr he K QQ hk hp;have hfv:=(aI he hf).fn_inv;obtain ⟨h1,h2⟩:=lC he (jV hv);unfold Oper.wpW execOp;simp only [ho,resolve,hfv,Deferred.ofValue,Sem.run_bind,Sem.run_pure,Result.andThen_ok,invoke,hc,Oper.uponW_enter];refine(h I ι w _ hr (by simpa using h1) (fun i v b hv hb=>h2 i v b (by simpa using hv) hb)).mono ?_;rintro e w' (⟨r,H',I',ι',v,rfl,hq,k1,k2,k3⟩|⟨ch,H',I',ι',rfl,hq,k2,k3⟩)
 ·exact hk v w' I' ι' r H' hq k1 k2 k3
 exact hp ch w' I' ι' H' hq k2 k3
theorem AX {F:FuncId} {f:Operand} {args:Array Operand} {at_:Array TypeId} {vs caps:List AV} (ho:o.op=.call {callee:=.value f,args:=args,argTypes:=at_}) (hf:aN E f=some (.clo F caps))
  (hc:∀ (args:Array Value) (w:World),(callFunc F args).run P w=.ok (.enter F args) w) (hv:sX E args.toList=some vs) (h:dX P F (vs++caps) H Q PP):xV P N o E H Q PP:=by
 intro a w I ι _ hr he K QQ hk hp;have hfv:=aI he hf;generalize hfc:a.eval f=fc at hfv;obtain ⟨h1,h2⟩:=lC he (jV hv);cases hfv with
 | @clo _ us _ hl hh =>
  unfold Oper.wpW execOp;simp only [ho,resolve,hfc,Deferred.ofValue,Sem.run_bind,Sem.run_pure,Result.andThen_ok,invoke,hc,Oper.uponW_enter,Array.empty_append];have h1':args.size=vs.length:=by simpa using h1
  refine(h I ι w _ hr (by simp [hl,h1']) (fun i v b hv hb=>?_)).mono ?_
  ·by_cases hi:i < args.size
   ·rw [Array.getElem?_append_left (by simpa using hi)] at hv;rw [List.getElem?_append_left (by omega)] at hb;exact h2 i v b (by simpa using hv) hb
   rw [Array.getElem?_append_right (by simp;omega)] at hv;rw [List.getElem?_append_right (by omega)] at hb;simp only [Array.size_map] at hv;rw [h1'] at hv;exact hh _ v b hv hb
  rintro e w' (⟨r,H',I',ι',v,rfl,hq,k1,k2,k3⟩|⟨ch,H',I',ι',rfl,hq,k2,k3⟩)
  ·exact hk v w' I' ι' r H' hq k1 k2 k3
  exact hp ch w' I' ι' H' hq k2 k3
end
section
variable {P:Program} {N:Nat} {o:Oper} {E:bO} {H:aB} {Q:AV→aB→Prop} {PP:D2→aB→Prop} {t t' T:TypeId} {x y:Operand}
theorem lA {f:FuncId} {xs:Array Operand} {vs:List AV} (ho:o.op=.makeFunc (.func f) xs #[]) (hv:sX E xs.toList=some vs):cB P N o E H (.bnd f vs) H :=.of_run fun a w I ι _ he=>by
  obtain ⟨h1,h2⟩:=lC he (jV hv);exact⟨.func (.func f) (xs.map a.eval) #[],by simp [execOp,ho,Instr.makeFunc],.bnd (by simpa using h1) (fun i v b hv hb=>h2 i v b (by simpa using hv) hb)⟩
theorem AY {F:FuncId} {f:Operand} {args:Array Operand} {at_:Array TypeId} {vs xs:List AV} (ho:o.op=.call {callee:=.value f,args:=args,argTypes:=at_}) (hf:aN E f=some (.bnd F xs))
  (hc:∀ (args:Array Value) (w:World),(callFunc F args).run P w=.ok (.enter F args) w) (hv:sX E args.toList=some vs) (h:dX P F (xs++vs) H Q PP):xV P N o E H Q PP:=by
 intro a w I ι _ hr he K QQ hk hp;have hfv:=aI he hf;generalize hfc:a.eval f=fc at hfv;obtain ⟨h1,h2⟩:=lC he (jV hv);cases hfv with
 | @bnd _ us _ hl hh =>
  unfold Oper.wpW execOp;simp only [ho,resolve,hfc,Deferred.ofValue,Sem.run_bind,Sem.run_pure,Result.andThen_ok,invoke,hc,Oper.uponW_enter,Array.append_empty];have h1':args.size=vs.length:=by simpa using h1
  refine(h I ι w _ hr (by simp [hl,h1']) (fun i v b hv hb=>?_)).mono ?_
  ·by_cases hi:i < us.size
   ·rw [Array.getElem?_append_left hi] at hv;rw [List.getElem?_append_left (by omega)] at hb;exact hh i v b hv hb
   rw [Array.getElem?_append_right (by omega)] at hv;rw [List.getElem?_append_right (by omega)] at hb;rw [hl] at hv;exact h2 _ v b (by simpa using hv) hb
  rintro e w' (⟨r,H',I',ι',v,rfl,hq,k1,k2,k3⟩|⟨ch,H',I',ι',rfl,hq,k2,k3⟩)
  ·exact hk v w' I' ι' r H' hq k1 k2 k3
  exact hp ch w' I' ι' H' hq k2 k3
abbrev ms (t:TypeId):D2:=[{v:=.iface t (.agg #[]),recovered:=false}]
theorem MW (ho:o.op=.panic x) (hx:aN E x=some (.pv (.ifa t []))):xV P N o E H (fun _ _=>False) (fun ch H'=>ch=ms t∧H'=H):=by intro a w I ι _ hr he K QQ hk hp;obtain ⟨cs,e1,hl,_⟩:=(aI he hx).ifa_inv;have:cs=#[]:=Array.eq_empty_of_size_eq_zero (by simpa using hl);subst this;unfold Oper.wpW execOp;simp only [ho,e1];exact hp _ w I ι H ⟨rfl,rfl⟩ hr (Step.refl _ _ _ _)
end
section
variable {P:Program} {G0:aB} {N:Nat} {E:bO} {H:aB} {ops:Array Oper} {Q:Exit→bO→aB→Prop} {o:Oper} {rest:List Oper} {R:AV→aB→Prop} {PP:D2→aB→Prop}
def ALP (P:Program) (G0:aB) (N:Nat) (ops:Array Oper) (Q:Exit→bO→aB→Prop) (l:List Oper) (E:bO) (H:aB):Prop :=∀ G:Entry,G.H=G0→∀ a w,St G N E H a w→∀ ro,(ro=none∨l.all Oper.noDefer=true)→wpListIn (RF ro) 0 P ops (fun e a w=>∃ E H,Q e E H∧St G N E H a w) l a w
theorem HK (h:Q .normal E H):ALP P G0 N ops Q [] E H:=fun _ _ a w hs _ _=>⟨E,H,h,hs⟩
theorem St.opP {G:Entry} {a:Act} {w:World} (hs:St G N E H a w) (hd:gM N o.dst=true) (h:xV P N o E H R PP) {K:Act→World→Prop} {Q:Exit→Act→World→Prop}
  (hk:∀ r H' a' w',R r H'→St G N (iI E o.dst r) H' a' w'→K a' w') (hp:∀ ch H' w',PP ch H'→St G N E H' a w'→Q (.panic ch) a w') {ro:Option Nat} (hn:ro=none∨o.noDefer=true):o.wpIn (RF ro) 0 P a w K Q:=by
 refine Oper.wpW_in hn ?_;obtain ⟨I,ι,hr,hst,he⟩:=hs.rel;refine h a w I ι hs.size hr he K Q ?_ ?_
 ·intro c w' I' ι' r H' hR hv hr' hs';refine hk r H' _ w' hR ⟨?_,?_,I',ι',hr',hst.trans hs',gQ.put hr hs' he hv (by rw [hs.size];exact hd)⟩
  ·rw [fN];exact hs.defers.step hr hs'
  have:=hs.size;cases o.dst<;>simpa [Act.put] using this
 intro ch w' I' ι' H' hP hr' hs';exact hp ch H' w' hP ⟨hs.defers.step hr hs',hs.size,I',ι',hr',hst.trans hs',fun t v ht=>let ⟨c,h1,h2⟩:=he t v ht;⟨c,h1,h2.mono hr hs'⟩⟩
theorem aDN (hg:o.guard=none) (hd:gM N o.dst=true) (h:xV P N o E H R PP) (hp:∀ ch H',PP ch H'→Q (.panic ch) E H') (hk:∀ r H',R r H'→ALP P G0 N ops Q rest (iI E o.dst r) H'):ALP P G0 N ops Q (o::rest) E H:=by intro G hG a w hs ro hro;refine wpListIn_plain hg fun K' hK=>?_;exact hs.opP hd h (fun r H' a' w' hR hs'=>hK _ _ (hk r H' hR G hG a' w' hs' ro (jQ hro).2)) (fun ch H' w' hP hs'=>⟨E,H',hp ch H' hP,hs'⟩) (jQ hro).1
theorem aGT (hg:o.guard=none) (hd:gM N o.dst=true) (h:WT P N o E H R) (hk:∀ r H',R r H'→ALP P G0 N ops Q rest (iI E o.dst r) H'):ALP P G0 N ops Q (o::rest) E H :=aDN (PP:=fun _ _=>False) hg hd (.of h) (fun _ _ h=>h.elim) hk
theorem fD {d:Tmp} {v:AV} {H2:aB} (hg:o.guard=none) (hd:o.dst=some d) (hn:Nat.blt d N=true) (h:cB P N o E H v H2) (hk:ALP P G0 N ops Q rest ((d,v)::E) H2):ALP P G0 N ops Q (o::rest) E H :=aGT hg (by rw [hd];exact hn) h fun r H' ⟨e1,e2⟩=>by subst e1 e2;rw [hd];exact hk
theorem aDO {v:AV} {H2:aB} (hg:o.guard=none) (hd:o.dst=none) (h:cB P N o E H v H2) (hk:ALP P G0 N ops Q rest E H2):ALP P G0 N ops Q (o::rest) E H :=aGT hg (by rw [hd];rfl) h fun r H' ⟨e1,e2⟩=>by subst e1 e2;rw [hd];exact hk
theorem P7 {d:Tmp} {v:AV} {H2:aB} {F:Prop} (hg:o.guard=none) (hd:o.dst=some d) (hn:Nat.blt d N=true) (h:xV P N o E H (fun r H'=>r=v∧H'=H2∧F) PP) (hp:∀ ch H',PP ch H'→Q (.panic ch) E H') (hk:F→ALP P G0 N ops Q rest ((d,v)::E) H2):ALP P G0 N ops Q (o::rest) E H :=aDN hg (by rw [hd];exact hn) h hp fun r H' ⟨e1,e2,e3⟩=>by subst e1 e2;rw [hd];exact hk e3
theorem mC (hg:o.guard=none) (hd:gM N o.dst=true) (h:xV P N o E H (fun _ _=>False) PP) (hp:∀ ch H',PP ch H'→Q (.panic ch) E H'):ALP P G0 N ops Q (o::rest) E H:=aDN hg hd h hp (fun _ _ h=>h.elim)
theorem eL {id:Nat} (h:ALP P G0 N ops Q ops.toList E H):fE P G0 N (.region id ops false) Q E H:=fun G hG a w hs ro hr=>wpIn_region_list (h G hG a w hs ro hr)
end
def aD7 (P:Program) (fn:Func) (G0:aB) (Q:AV→aB→Prop) (PP:D2→aB→Prop) (e:Exit) (E:bO) (H:aB):Prop :=FL P fn G0 Q e E H∨∃ ch H',e=.panic ch∧Fin G0 H (.tup []) H' (.tup [])∧PP ch H'
theorem FH {P:Program} {fn:Func} {G0 H:aB} {Q:AV→aB→Prop} {PP:D2→aB→Prop} {e:Exit} {E:bO} (h:FL P fn G0 Q e E H):aD7 P fn G0 Q PP e E H:=.inl h
theorem zL {P:Program} {fn:Func} {G0 H H':aB} {Q:AV→aB→Prop} {PP:D2→aB→Prop} {ch:D2} {E:bO} (hf:Fin G0 H (.tup []) H' (.tup [])) (hp:PP ch H'):aD7 P fn G0 Q PP (.panic ch) E H:=.inr ⟨ch,H',rfl,hf,hp⟩
theorem dX.body {P:Program} {f:FuncId} {fn:Func} {c:Code} {args:List AV} {H:aB} {Q:AV→aB→Prop} {PP:D2→aB→Prop} {N:Nat} (hf:P.funcs[f]?=some fn) (hb:fn.body=some c) (hN:fn.ntmps=N) (hlen:args.length≤N)
  (h:fE P H N c (aD7 P fn H Q PP) (kA args) H):dX P f args H Q PP:=by
 intro I ι w vs hr hl hv;refine callsIn_wide.1 (callsIn_of_wp_marks (F:=Fence.wide) (n:=0) hf hb trivial ?_);have hst:St ⟨I,ι,H,w,[]⟩ N (kA args) H {tmps:=vs++Array.replicate (fn.ntmps - vs.size) undef,defers:=[]} w:=by
  refine⟨nY.nil _ _ _,?_,I,ι,hr,Step.refl _ _ _ _,fun t a ht=>?_⟩
  ·simp;omega
  have ha:=qL ht;have hlt:t < vs.size:=by rw [hl];exact(aLX.1 ha).1
  have hu:vs[t]?=some vs[t]:=Array.getElem?_eq_getElem hlt;exact⟨vs[t],by rw [Array.getElem?_append_left hlt];exact hu,hv t _ a hu ha⟩
 refine wpIn_mono (h ⟨I,ι,H,w,[]⟩ rfl _ w hst none (.inl rfl)) ?_;rintro e a' w' ⟨E',H',(⟨he,r,hres,r',H'',hfin,hq⟩|⟨ch,H'',rfl,hfin,hq⟩),hs⟩
 ·have key:LeavesInM Fence.wide 0 P fn a'.tmps (fun e w'=>(∃ r H' I' ι' v,e=.returned v∧Q r H'∧VRel w' I' ι' H' v r∧Rel I' ι' H' w'∧Step I ι H w I' ι' H' w')∨(∃ ch H' I' ι',e=.panicked ch∧PP ch H'∧Rel I' ι' H' w'∧Step I ι H w I' ι' H' w')) a'.defers .returning w':=by
   obtain ⟨I',ι',hr',hst',hE'⟩:=hs.rel;refine qE hs.defers hr' hst' hE' ?_;intro w2 hr2 hst2 hE2;obtain ⟨v,h1,h2⟩:=hres a' w2 I' ι' hr2 hE2;obtain ⟨I2,ι2,k1,k2,k3⟩:=hfin ⟨I,ι,H,w,[]⟩ rfl I' ι' w2 v hr2 hst2 h2;exact⟨v,h1,.inl ⟨r',H'',I2,ι2,v,rfl,hq,k3,k1,k2⟩⟩
  rcases he with rfl|rfl
  ·exact key
  exact key
 obtain ⟨I',ι',hr',hst',hE'⟩:=hs.rel;show LeavesInM Fence.wide 0 P fn a'.tmps _ a'.defers (.panicking ch) w';refine tG (by simp) hs.defers hr' hst' hE' ?_;intro w2 hr2 hst2 hE2;obtain ⟨I2,ι2,k1,k2,k3⟩:=hfin ⟨I,ι,H,w,[]⟩ rfl I' ι' w2 (.tuple #[]) hr2 hst2 (.tup rfl (by simp));exact .inr ⟨ch,H'',I2,ι2,rfl,hq,k1,k2⟩
theorem JW {I I':Nat→Prop} {ι ι':dR} {H0 H H':aB} {w w':World} (hr:Rel I ι H w) (hs:Sub H0 H) (k2:Rel I' ι' H' w') (k3:Step I ι H0 w I' ι' H' w') (hk:∀ id,(H'.get id).isSome=true→(H0.get id).isSome=true∨H.get id=none) :
  ∃ ι2,Rel I' ι2 (H'++H) w'∧Step I ι H w I' ι2 (H'++H) w'∧∀ v a,VRel w' I' ι' H' v a→VRel w' I' ι2 (H'++H) v a:=by
 obtain ⟨ι2,hι2⟩:∃ ι2:dR,ι2=(fun j=>if(H'.get j).isSome=true then ι' j else ι j):=⟨_,rfl⟩;have i1:∀ j o,H'.get j=some o→ι2 j=ι' j:=fun j o hj=>by rw [hι2];simp [hj]
 have i2:∀ j,H'.get j=none→ι2 j=ι j:=fun j hj=>by rw [hι2];simp [hj]
 have g1:∀ j o,H'.get j=some o→aB.get (H'++H) j=some o:=fun j o hj=>by rw [eO,hj]
 have g2:∀ j,H'.get j=none→aB.get (H'++H) j=H.get j:=fun j hj=>by rw [eO,hj]
 have hfr:∀ j o,H.get j=some o→H'.get j=none→H0.get j=none:=fun j o hj hn=>by
  cases e:H0.get j with
  | none=>rfl
  | some o0 =>
   obtain ⟨o',e1,_⟩:=k3.objs j o0 e;rw [hn] at e1;cases e1
 have hno:∀ j o b c,H.get j=some o→H'.get j=none→ι j=some (b,c)→¬ GG ι H0 b:=fun j o b c hj hn hb ⟨j',o',c',hj',hb'⟩=>by
  have:=hr.inj j j' o o' b c c' hj (hs _ _ hj') hb hb';subst this;rw [hfr j o hj hn] at hj';cases hj'
 have hst:Step I ι H w I' ι2 (H'++H) w':=by
  refine⟨k3.os,k3.tape,k3.output,k3.size,fun a ha hn=>k3.froz a ha (fun h=>hn (h.sub hs)),k3.imm,fun b hb=>?_,?_,?_,?_⟩
  ·rcases k3.immNew b hb with h1|h1|h1
   ·exact .inl h1
   ·exact .inr (.inl (h1.sub hs))
   exact .inr (.inr h1)
  ·rintro b ⟨j,o,c,hj,hc⟩;cases e:H'.get j with
   | some o' =>
    rw [i1 j o' e] at hc;rcases k3.own b ⟨j,o',c,e,hc⟩with h1|h1
    ·exact .inl (h1.sub hs)
    exact .inr h1
   | none =>
    rw [i2 j e] at hc;rw [g2 j e] at hj;exact .inl ⟨j,o,c,hj,hc⟩
  ·intro b hb hn;exact k3.keep b hb (fun h=>hn (h.sub hs))
  intro j o hj;cases e:H'.get j with
  | some o' =>
   rcases hk j (by rw [e];rfl)with h1|h1
   ·obtain ⟨o0,e0⟩:=Option.isSome_iff_exists.1 h1;have:=hs _ _ e0;rw [hj] at this;cases this;obtain ⟨o2,q1,q2,q3⟩:=k3.objs j o e0;exact⟨o2,g1 j o2 q1,q2,fun e=>by rw [i1 j o2 q1];exact q3 e⟩
   rw [hj] at h1;cases h1
  | none=>exact⟨o,(g2 j e).trans hj,aLZ _,fun _=>⟨i2 j e,rfl,fun _=>aLZ _⟩⟩
 have hv':∀ {v:Value} {a:AV},VRel w' I' ι' H' v a→VRel w' I' ι2 (H'++H) v a:=fun hva =>
  hva.mono' (fun _ _=>rfl) (fun _ h=>h) (fun id o ho=>⟨o,g1 id o ho,aLZ _,fun _=>⟨i1 id o ho,rfl,fun _=>aLZ _⟩⟩)
 refine⟨ι2,⟨k2.imm,fun j o hj=>?_,fun j j' o o' b c c' hj hj' hc hc'=>?_,k2.glob⟩,hst,fun v a h=>hv' h⟩
 ·cases e:H'.get j with
  | some o' =>
   rw [g1 j o' e] at hj;obtain rfl:o'=o:=Option.some.inj hj;exact(k2.obj j o' e).keep (i1 j o' e) (fun _ _ _ _=>⟨rfl,fun h=>h⟩) (fun r _ a _ v hv=>hv' hv)
  | none =>
   rw [g2 j e] at hj;refine(hr.obj j o hj).keep (i2 j e) (fun b' cap' e1 hlt=>⟨k3.keep b' hlt (hno j o b' cap' hj e e1),fun e3 hi=>?_⟩) (fun r _ a _ v hv=>hv.mono hr hst);rcases k3.immNew b' hi with h1|h1|h1
   ·exact e3 h1
   ·exact hno j o b' cap' hj e e1 h1
   omega
 cases e:H'.get j with
 | some q =>
  rw [i1 j q e] at hc;cases e':H'.get j' with
  | some q' =>
   rw [i1 j' q' e'] at hc';exact k2.inj j j' q q' b c c' e e' hc hc'
  | none =>
   rw [i2 j' e'] at hc';rw [g2 j' e'] at hj';have hlt:=hr.lt ⟨j',o',c',hj',hc'⟩;rcases k3.own b ⟨j,q,c,e,hc⟩with h1|h1
   ·exact absurd h1 (hno j' o' b c' hj' e' hc')
   omega
 | none =>
  rw [i2 j e] at hc;rw [g2 j e] at hj;cases e':H'.get j' with
  | some q' =>
   rw [i1 j' q' e'] at hc';have hlt:=hr.lt ⟨j,o,c,hj,hc⟩;rcases k3.own b ⟨j',q',c',e',hc'⟩with h1|h1
   ·exact absurd h1 (hno j o b c hj e hc)
   omega
  | none =>
   rw [i2 j' e'] at hc';rw [g2 j' e'] at hj';exact hr.inj j j' o o' b c c' hj hj' hc hc'
theorem dX.conv {P:Program} {f:FuncId} {args:List AV} {H:aB} {Q Q':AV→aB→Prop} {PP PP':D2→aB→Prop} (h:dX P f args H Q PP) (hq:∀ r H',Q r H'→∃ H2,(∀ j,H2.get j=H'.get j)∧Q' r H2) (hp:∀ ch H',PP ch H'→∃ H2,(∀ j,H2.get j=H'.get j)∧PP' ch H2):dX P f args H Q' PP' :=fun I ι w vs hr hl hv=>(h I ι w vs hr hl hv).mono fun _ _ h=>by
  rcases h with⟨r,H',I',ι',v,e,q,k1,k2,k3⟩|⟨ch,H',I',ι',e,q,k2,k3⟩
  ·obtain ⟨H2,hH,hq'⟩:=hq r H' q;obtain ⟨x1,x2⟩:=k2.congr hH;exact .inl ⟨r,H2,I',ι',v,e,hq',k1.mono k2 x2,x1,k3.trans x2⟩
  obtain ⟨H2,hH,hq'⟩:=hp ch H' q;obtain ⟨x1,x2⟩:=k2.congr hH;exact .inr ⟨ch,H2,I',ι',e,hq',x1,k3.trans x2⟩
theorem dX.frame {P:Program} {f:FuncId} {args:List AV} {H0 H:aB} {R:AV→aB→Prop} {PP:D2→aB→Prop} (h:dX P f args H0 R PP) (hs:Sub H0 H) (hc:cZ H0) (ha:∀ a∈args,Clo H0 a)
  (hk0:∀ r H1,R r H1→∀ id,(H1.get id).isSome=true→(H0.get id).isSome=true∨H.get id=none) (hk1:∀ ch H1,PP ch H1→∀ id,(H1.get id).isSome=true→(H0.get id).isSome=true∨H.get id=none) :
  dX P f args H (fun r H'=>∃ K,R r K∧H'=K++H) (fun ch H'=>∃ K,PP ch K∧H'=K++H):=by
 intro I ι w vs hr hl hv;refine(h I ι w vs (hr.restrict hs hc) hl (fun i v a h1 h2=>(hv i v a h1 h2).restrict hs (ha a (aL3 h2)))).mono ?_;rintro e w' (⟨r,H',I',ι',v,rfl,hR,k1,k2,k3⟩|⟨ch,H',I',ι',rfl,hR,k2,k3⟩)
 ·obtain ⟨ι2,q1,q2,q3⟩:=JW hr hs k2 k3 (hk0 r H' hR);exact .inl ⟨r,H'++H,I',ι2,v,rfl,⟨H',hR,rfl⟩,q3 _ _ k1,q1,q2⟩
 obtain ⟨ι2,q1,q2,q3⟩:=JW hr hs k2 k3 (hk1 ch H' hR);exact .inr ⟨ch,H'++H,I',ι2,rfl,⟨H',hR,rfl⟩,q1,q2⟩
end
end Go.Abs
