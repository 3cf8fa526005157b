/-
  Parts of the proof: rules of an abstract program logic, contracts of functions, plain laws. Conditions: each theorem's own.
-/
import Derived.Test.YtiifmppaejpemaaGreatDoorKR1M8
set_option linter.unusedVariables false
set_option linter.unusedSimpArgs false
set_option maxRecDepth 100000
set_option maxHeartbeats 8000000
namespace Go.Proofs
theorem DY:type_of% Tryz.call17:=Tryz.call17
theorem mD:type_of% Tryz.call19:=Tryz.call19
theorem oL:type_of% Tryz.call64:=Tryz.call64
theorem lH:type_of% Tryz.isAgg101:=Tryz.isAgg101
theorem iA:type_of% Tryz.isAgg28:=Tryz.isAgg28
theorem aR:type_of% Tryz.isAgg30:=Tryz.isAgg30
end Go.Proofs
section
namespace Go.Abs
section
variable {P:Program} {N:Nat} {o:Oper} {E:bN} {H:aA} {t t':TypeId} {x:Operand}
abbrev aH2 (b:Bool):PV:=bif b then aAJ else EL
theorem RT {b:Bool} (ho:o.op=.binOp .neq t x (.const .nilIface) t') (ht:P.underlying t=some (.interface (P.methodsAt t))) (hx:aN E x=some (.pv (aH2 b))):cD P N o E H (.pv (.bool b)) H:=by
 cases b
 ·exact IW ho ht hx
 exact A8 ho ht hx
end
def mA (s:ByteArray):Int:=(lO s).1
def sT (s:ByteArray):Bool:=match Lib.atoiAll s.data.toList with
 | .ok _=>false
 | _=>true
theorem aDF (s:ByteArray):lO s=(mA s,aH2 (sT s)):=by rw [mA,sT,lO];cases Lib.atoiAll s.data.toList<;>rfl
open Go.Lib
theorem aA6 {l:List UInt8} {u:Nat} (hne:l≠[]) (hm:∀ b∈l,48≤b.toNat∧b.toNat≤57) (hd:decFrom 0 l=some u):atoi l=some (u:Int):=by
 cases l with
 | nil=>exact absurd rfl hne
 | cons b r =>
  have hb:=hm b List.mem_cons_self;have e2:decNat (b::r)=some u:=by rw [decNat,hd];rfl
  have h43:¬ (b == 43)=true:=fun h=>by rw [beq_iff_eq] at h;rw [h] at hb;exact absurd hb.1 (by decide)
  have h45:¬ (b == 45)=true:=fun h=>by rw [beq_iff_eq] at h;rw [h] at hb;exact absurd hb.1 (by decide)
  rw [atoi,aLN h45,aLN h43,e2];rfl
theorem P9 {l:List UInt8} {u:Nat} (hl:l.length≤18) (hne:l≠[]) (hm:∀ b∈l,48≤b.toNat∧b.toNat≤57) (hd:decFrom 0 l=some u):atoiAll l=.ok (u:Int):=by rw [atoiAll_short _ hl,aA6 hne hm hd];rfl
end Go.Abs
namespace Go.Proofs.YtiifmppaejpemaaGreatDoor
open Go.Proofs.Tryz
open Go.Abs Go.Lib
theorem YH (s:ByteArray) (hs:s.size < 1099511627776) (H:aA):aG Tryz.prog 118 [sv s] H (fun r H'=>r=.tup [iv (mA s),.pv (aH2 (sT s))]∧H'=H):=by
 have:=HJ s hs H
 rwa [aDF] at this
abbrev sCo:ByteArray:=⟨#[58]⟩
theorem UG (s:ByteArray) (H:aA):aG Tryz.prog 195 [sv s,sv sCo] H (fun r H'=>r=iv (Lib.indexByte s.data.toList 58)∧H'=H):=by
 refine Pu ?_;refine Bd func195 rfl ntmps195<|Sr<|Dd aP<|Zz<|Sr<|Dd aI<|Dd (nV underlying9)<|Dd aP<|Zz<|Sq<|aF<|Sq ?_;refine bC (t:=16) (n:=9) (X:=decide (sCo=s)) ?_ ?_
 ·all_goals refine Dd aI ?_
  all_goals refine Dd dC<|Dm ?_
  all_goals refine Sp 19 (fun h19=>?_) fun h19=>?_
  all_goals try contradiction
  all_goals refine On aI<|On aI<|On AJ<|Dd cL<|Da ?_
  all_goals(exact⟨⟨_,rfl,by rfl⟩,rfl,rfl,rfl⟩)
 refine Cn ?_ ?_<;>intro hc1
 ·have hs:=aLL hc1;subst hs;exact Sr<|Dd aP<|Zz<|aC<|Rt<|Qq
 refine Sr<|Dd aI<|Dd dC<|Da ?_;refine Cn ?_ ?_<;>intro hc2
 ·exact Sr<|Dd aI<|Dd aI<|Dd (by exact eH rfl underlying9 rfl rfl (by omega) (by exact aL0 _) (show 0 < (⟨#[58]⟩:ByteArray).size from Nat.zero_lt_one) rfl)<|Dd (by exact aB rfl rfl aKj rfl (sW s 58 _))<|Dd aP<|Zz<|aC<|Rt<|Qq
 cases hc2
def S2 (s:ByteArray):AV:=if Lib.indexByte s.data.toList 58 = -1 then .tup [sv s,sv ⟨#[]⟩,bv false] else .tup [sv (s.extract 0 (Lib.indexByte s.data.toList 58).toNat),sv (s.extract ((Lib.indexByte s.data.toList 58).toNat+1) s.size),bv true]
theorem aBQ (s:ByteArray) (H:aA) (hs:s.size < 1099511627776):aG Tryz.prog 160 [sv s,sv sCo] H (fun r H'=>r=S2 s∧H'=H):=by
 refine Pu ?_;have hI:=fun H=>UG s H;rw [S2];rcases Classical.em (Lib.indexByte s.data.toList 58 = -1)with h1|h1
 ·rw [aLO h1];simp only [h1] at hI;refine Bd aAd rfl TP<|Sr<|Dd aP<|Dd aP<|Dd aP<|Zz<|Sq<|Sr<|Dd aI<|Dd aI<|Dd (by exact aB rfl rfl KI rfl (hI _))<|Dd aP<|Zz<|Sr<|Dd aI<|Dd JS<|Zz ?_;refine Cn ?_ ?_<;>intro hc1
  ·cases hc1
  refine aE<|Sr<|Dd aI<|Dd aP<|Dd aP<|Dd aP<|Zz<|aC ?_;refine xE (H':=[]) (.inr rfl) rfl (aT rfl) (aT rfl) (aT rfl) (Fin.wk (by simp) trivial trivial) ?_;exact Qq
 rw [aLN h1];obtain ⟨w,r,e1,e2,e3⟩:=rL h1;simp only [e3] at hI;rw [e3,aL0];have hl:w.length+1+r.length=s.size:=by rw [← show s.data.toList.length=s.size by simp,e1,aLQ,aLR];omega
 refine Bd aAd rfl TP<|Sr<|Dd aP<|Dd aP<|Dd aP<|Zz<|Sq<|Sr<|Dd aI<|Dd aI<|Dd (by exact aB rfl rfl KI rfl (hI _))<|Dd aP<|Zz<|Sr<|Dd aI<|Dd JS<|Zz ?_;refine Cn ?_ ?_<;>intro hc1
 ·refine Sq<|aQ follows<|Cq aI<|Cq aI<|Cq (by exact cJ (l:=0) (h:=(w.length)) rfl underlying9 rfl rfl rfl (by omega) (by omega) rfl)<|Cq aI<|Cq aI<|Cq aI<|Cq (nV underlying9)<|Cq (by exact cA rfl rfl rfl (show IntKind.i64.wrap ((w.length:Int)+1)=((w.length+1:Nat):Int)by rw [IntKind.wrap_i64];omega))<|Cq (by exact cJ (l:=(w.length+1)) (h:=s.size) rfl underlying9 rfl rfl rfl (by omega) (by omega) rfl)<|Cq aP<|Cq aP<|Cq aP<|bJ<|Kr<|aC ?_;refine xE (H':=[]) (.inr rfl) rfl (aT rfl) (aT rfl) (aT rfl) (Fin.wk (by simp) trivial trivial) ?_;exact Qq
 have hx:=aLM hc1;omega
theorem aH9 (s:ByteArray) (H:aA) (hs:s.size < 1099511627776):aG Tryz.prog 117 [sv s,sv sCo] H (fun r H'=>r=S2 s∧H'=H):=by
 refine Pu ?_;have hC:=fun H=>aBQ s H hs;rw [S2] at *;rcases Classical.em (Lib.indexByte s.data.toList 58 = -1)with h1|h1
 ·simp only [S2,aLO h1] at hC ⊢;refine Bd aAf rfl TR<|Sr<|Dd aP<|Dd aP<|Dd aP<|Zz<|Sr<|Dd aI<|Dd aI<|Dd (by exact aB rfl rfl aAi rfl (hC _))<|Dd eS<|Dd eS<|Dd eS<|Dd aP<|Dd aP<|Dd aP<|Zz<|aC ?_;refine xE (H':=[]) (.inr rfl) rfl (aT rfl) (aT rfl) (aT rfl) (Fin.wk (by simp) trivial trivial) ?_;exact Qq
 simp only [S2,aLN h1] at hC ⊢;refine Bd aAf rfl TR<|Sr<|Dd aP<|Dd aP<|Dd aP<|Zz<|Sr<|Dd aI<|Dd aI<|Dd (by exact aB rfl rfl aAi rfl (hC _))<|Dd eS<|Dd eS<|Dd eS<|Dd aP<|Dd aP<|Dd aP<|Zz<|aC ?_;refine xE (H':=[]) (.inr rfl) rfl (aT rfl) (aT rfl) (aT rfl) (Fin.wk (by simp) trivial trivial) ?_;exact Qq
def QR (l:List UInt8):List UInt8:=l.takeWhile fun b=>!decide (b=58)
def QS (l:List UInt8):List UInt8:=(l.dropWhile fun b=>!decide (b=58)).drop 1
theorem aCr {w r:List UInt8} (h:(58:UInt8)∉w):QR (w++58::r)=w∧QS (w++58::r)=r:=by
 induction w with
 | nil=>exact⟨rfl,rfl⟩
 | cons b w ih =>
  have hb:b≠58:=fun e=>h (by rw [e];exact List.mem_cons_self);obtain ⟨h1,h2⟩:=ih (fun e=>h (List.mem_cons_of_mem _ e));rw [QR] at h1 ⊢;rw [QS] at h2 ⊢;rw [List.cons_append,List.takeWhile_cons,List.dropWhile_cons,aLO (by simp [hb]),aLO (by simp [hb]),h1];exact⟨rfl,h2⟩
theorem aCq:∀ {l:List UInt8},(58:UInt8)∉l→QR l=l∧QS l=[]
 | [],_=>⟨rfl,rfl⟩
 | b::l,h=>by
  have hb:b≠58:=fun e=>h (by rw [e];exact List.mem_cons_self);obtain ⟨h1,h2⟩:=aCq (l:=l) (fun e=>h (List.mem_cons_of_mem _ e));rw [QR] at h1 ⊢;rw [QS] at h2 ⊢;rw [List.takeWhile_cons,List.dropWhile_cons,aLO (by simp [hb]),aLO (by simp [hb]),h1];exact⟨rfl,h2⟩
theorem aFW (l:List UInt8):S2 (ofL l)=.tup [sv (ofL (QR l)),sv (ofL (QS l)),bv (decide ((58:UInt8)∈l))]:=by
 rw [S2,dV];by_cases h:Lib.indexByte l 58 = -1
 ·rw [aLO h];have hm:=rK.1 h;rw [(aCq hm).1,(aCq hm).2,decide_eq_false hm];rfl
 rw [aLN h];obtain ⟨w,r,e1,e2,e3⟩:=rL h;rw [e3,aL0];subst e1;rw [(aCr e2).1,(aCr e2).2,decide_eq_true (by simp)];have x1:(ofL (w++58::r)).extract 0 w.length=ofL w:=zD (by rw [nR,dV,dV,List.drop_zero,Nat.sub_zero,List.take_left]);have x2:(ofL (w++58::r)).extract (w.length+1) (ofL (w++58::r)).size=ofL r:=zD (by
  rw [yW,dV,dV,← List.drop_drop,List.drop_left];rfl)
 rw [x1,x2]
theorem aA7 (s:ByteArray) : -9223372036854775808≤mA s∧mA s≤9223372036854775807:=by
 rw [mA,lO];cases e:Lib.atoiAll s.data.toList with
 | ok v=>exact Lib.atoiAll_bounds e
 | range =>
  show _≤Lib.atoiSat _∧Lib.atoiSat _≤_;rw [Lib.atoiSat]
  split
  ·exact⟨by decide,by decide⟩
  exact⟨by decide,by decide⟩
 | _ =>
  show (-9223372036854775808:Int)≤0∧(0:Int)≤9223372036854775807;exact⟨by decide,by decide⟩
theorem aHa (l:List UInt8):(QR l).length≤l.length∧(QS l).length≤l.length:=by
 constructor
 ·exact(List.takeWhile_sublist _).length_le
 rw [QS,aL4];have:=(List.dropWhile_sublist (l:=l) fun b=>!decide (b=58)).length_le;omega
theorem aDE {l:List UInt8} {u:Nat} (hl:l.length≤18) (hne:l≠[]) (hm:∀ b∈l,48≤b.toNat∧b.toNat≤57) (hd:decFrom 0 l=some u):sT (ofL l)=false∧mA (ofL l)=(u:Int):=by
 have h:=P9 hl hne hm hd;constructor
 ·rw [sT,dV,h]
 rw [mA,lO,dV,h]
theorem aAC (n:Nat):(bK (n:Int)).data.toList=decDigits n:=by show (Lib.itoa (n:Int)).toArray.toList=_;rw [lE _ (Int.natCast_nonneg n),aL0]
theorem F1 (x:ByteArray) (L:List ByteArray):aO (x::L)=decDigits x.size++58::(x.data.toList++aO L):=by
 have h1:aO (x::L)=(lP x).data.toList++aO L:=by rw [aO,List.flatMap_cons];rfl
 rw [h1,lP,ByteArray.data_append,Array.toList_append,ByteArray.data_append,Array.toList_append,aAC];simp
theorem aCm (n:Nat):(58:UInt8)∉decDigits n:=fun h=>by
 have:=oH n h;exact absurd this.2 (by decide)
end Go.Proofs.YtiifmppaejpemaaGreatDoor
end
namespace Go.Proofs.YtiifmppaejpemaaGreatDoor
open Go.Proofs.Tryz
open Go.Abs Go.Lib
def AU (l:List UInt8):Bool:=((!decide ((58:UInt8)∈l)||sT (ofL (QR l)))||decide (mA (ofL (QR l)) < 0))||decide (((QS l).length:Int) < mA (ofL (QR l)))
def nxN (l:List UInt8):Nat:=(mA (ofL (QR l))).toNat
def gJ (l:List UInt8):Option (ByteArray×List UInt8):=if AU l=true then none else some (ofL ((QS l).take (nxN l)),(QS l).drop (nxN l))
def lR (l:List UInt8):Option (Int×List UInt8):=match gJ l with
 | none=>none
 | some (s,r)=>if sT s=true then none else some (mA s,r)
def zW {α:Type} (f:List UInt8→Option (α×List UInt8)):Nat→List UInt8→Option (List α×List UInt8)
 | 0,l=>some ([],l)
 | n+1,l=>match f l with
  | none=>none
  | some (x,r)=>match zW f n r with
   | none=>none
   | some (xs,q)=>some (x::xs,q)
def sC {α:Type} (f:List UInt8→Option (α×List UInt8)) (l:List UInt8):Option (List α×List UInt8):=match lR l with
 | none=>none
 | some (n,r)=>zW f n.toNat r
def EA (l:List UInt8):Option ((Int×Int)×List UInt8):=match lR l with
 | none=>none
 | some (x,r)=>match lR r with
  | none=>none
  | some (y,q)=>some ((x,y),q)
def OM (l:List UInt8):Option (GSeal×List UInt8):=match lR l with
 | none=>none
 | some (i,r)=>match sC gJ r with
  | none=>none
  | some (a,q)=>match sC gJ q with
   | none=>none
   | some (b,p)=>some (⟨i,a,b⟩,p)
def A5 (x:ByteArray):Prop:=x.size < 1000000000000000000
theorem iI {x:ByteArray} (L:List ByteArray) (hx:A5 x):gJ (aO (x::L))=some (x,aO L):=by
 obtain ⟨e1,e2⟩:=aCr (r:=x.data.toList++aO L) (aCm x.size);rw [← F1] at e1 e2;obtain ⟨n1,n2⟩:=aDE (l:=decDigits x.size) (u:=x.size) (fR (k:=18) (show x.size < 10 ^ 18 from hx) (by decide)) (qL _) (fun b=>oH _) (yZ _);have hm:(58:UInt8)∈aO (x::L):=by rw [F1];simp
 have hb:AU (aO (x::L))=false:=by
  rw [AU,e1,e2,n1,n2,decide_eq_true hm,decide_eq_false (by omega),decide_eq_false (by rw [aLQ,bA];omega)];rfl
 rw [gJ,aLN (by rw [hb];decide),nxN,e1,n2,e2,aL0,List.drop_left' (bA x),List.take_left' (bA x),mF]
theorem F3 {n:Int} (h0:0≤n) (h1:n < 1000000000000000000):A5 (bK n):=Nat.lt_of_le_of_lt (mG (by omega) (by omega)) (by decide)
theorem WK {n:Int} (h0:0≤n) (h1:n < 1000000000000000000):sT (bK n)=false∧mA (bK n)=n:=by
 have h:=wN h0 h1;have e:(bK n).data.toList=itoa n:=by show (Lib.itoa n).toArray.toList=_;simp
 constructor
 ·rw [sT,e,h]
 rw [mA,lO,e,h]
theorem iJ {n:Int} (L:List ByteArray) (h0:0≤n) (h1:n < 1000000000000000000):lR (aO (bK n::L))=some (n,aO L):=by obtain ⟨a1,a2⟩:=WK h0 h1;rw [lR,iI L (F3 h0 h1)];show (if sT (bK n)=true then none else some (mA (bK n),aO L))=_;rw [aLN (by rw [a1];decide),a2]
theorem JG:∀ (ts L:List ByteArray),(∀ t∈ts,A5 t)→zW gJ ts.length (aO (ts++L))=some (ts,aO L)
 | [],L,_=>rfl
 | t::ts,L,h=>by
  rw [aLR,zW,List.cons_append,iI _ (h t List.mem_cons_self)];simp only [JG ts L fun x hx=>h x (List.mem_cons_of_mem _ hx)]
theorem vY (ts L:List ByteArray) (h:∀ t∈ts,A5 t) (hl:ts.length < 1000000000000000000):sC gJ (aO (bK (ts.length:Int)::(ts++L)))=some (ts,aO L):=by rw [sC,iJ _ (by omega) (by omega)];show zW gJ ((ts.length:Int)).toNat (aO (ts++L))=_;rw [aL0,JG ts L h]
theorem IF (s:GSeal) (L:List ByteArray) (h0:0≤s.idx) (h1:s.idx < 1000000000000000000) (ha:∀ t∈s.sig,A5 t) (hb:∀ t∈s.path,A5 t) (hal:s.sig.length < 1000000000000000000) (hbl:s.path.length < 1000000000000000000) :
  OM (aO (fI (.z s.idx s.sig s.path)++L))=some (s,aO L):=by
 have e:fI (.z s.idx s.sig s.path)++L=bK s.idx::(bK (s.sig.length:Int)::(s.sig++(bK (s.path.length:Int)::(s.path++L)))):=by simp [fI]
 rw [e,OM,iJ _ h0 h1];show (match sC gJ (aO (bK (s.sig.length:Int)::(s.sig++(bK (s.path.length:Int)::(s.path++L)))))with|none=>none|some (a,q)=>match sC gJ q with|none=>none|some (b,p)=>some ((⟨s.idx,a,b⟩:GSeal),p))=_;rw [vY _ _ ha hal];show (match sC gJ (aO (bK (s.path.length:Int)::(s.path++L)))with|none=>none|some (b,p)=>some ((⟨s.idx,s.sig,b⟩:GSeal),p))=_;rw [vY _ _ hb hbl]
theorem JF:∀ (ps:List (Int×Int)) (L:List ByteArray),(∀ q∈ps,(0≤q.1∧q.1 < 1000000000000000000)∧(0≤q.2∧q.2 < 1000000000000000000))→zW EA ps.length (aO (KM ps++L))=some (ps,aO L)
 | [],L,_=>rfl
 | p::ps,L,h=>by
  obtain ⟨⟨a1,a2⟩,a3,a4⟩:=h p List.mem_cons_self;have e:KM (p::ps)++L=bK p.1::(bK p.2::(KM ps++L)):=rfl;have e2:EA (aO (KM (p::ps)++L))=some (p,aO (KM ps++L)):=by
   rw [e,EA,iJ _ a1 a2];show (match lR (aO (bK p.2::(KM ps++L)))with|none=>none|some (y,q)=>some ((p.1,y),q))=_;rw [iJ _ a3 a4]
  rw [aLR,zW,e2];simp only [JF ps L fun x hx=>h x (List.mem_cons_of_mem _ hx)]
theorem VD (ps:List (Int×Int)) (L:List ByteArray) (h:∀ q∈ps,(0≤q.1∧q.1 < 1000000000000000000)∧(0≤q.2∧q.2 < 1000000000000000000)) (hl:ps.length < 1000000000000000000):sC EA (aO (fI (.p ps)++L))=some (ps,aO L):=by have e:fI (.p ps)++L=bK (ps.length:Int)::(KM ps++L):=rfl;rw [e,sC,iJ _ (by omega) (by omega)];show zW EA ((ps.length:Int)).toNat (aO (KM ps++L))=_;rw [aL0,JF ps L h]
end Go.Proofs.YtiifmppaejpemaaGreatDoor
namespace Go.Proofs.YtiifmppaejpemaaGreatDoor
open Go.Proofs.Tryz
open Go.Abs
theorem VK (fv:AV) (l:List (Int×Int)) (p:Nat→Bool) (Hs:Nat→aA) (hl:l.length < 4611686018427387904) (hf:∀ k s,l[k]?=some s→cB Tryz.prog fv [av (fM s)] (Hs k) (fun r H'=>r=bv (p k)∧H'=Hs (k+1))) :
  aG Tryz.prog 125 [.pv (oZ l),fv] (Hs 0) (fun r H'=>r=iv (F5 p l.length)∧H'=Hs (wR p l.length)):=by
 have hml:(l.map fM).length=l.length:=aLP _;refine Bd func125 rfl ntmps125<|Sr<|Dd aP<|Zz<|Sq<|Sr<|Dd aI<|Dd (fW dP)<|Dd aI<|Zz<|aF ?_;refine bR (σ:=Nat) (fun k=>([(0,.pv (oZ l)),(1,fv),(7,iv ((l.map fM).length:Int)),(8,iv (k:Int))],Hs k)) (fun k=>k≤l.length∧∀ j,j < k→p j=false) (fun k=>l.length - k) 0 ⟨by omega,by omega⟩ ?_ ?_
 ·exact E0
 rintro k ⟨hk,hno⟩;refine Sr<|Dd dI<|Zz<|Sq ?_;refine Cn ?_ ?_<;>intro hc1
 ·have hlt:k < l.length:=by have:=aLL hc1;omega
  obtain ⟨s,hs⟩:=bD hlt;have hi:=cI (f:=fM) hs;have hfo:=hf k s hs;refine aE<|Sq<|aF<|Sr<|Dd aI<|Dd aP<|Zz<|Sr<|Dd aI<|Dd aI<|Dd aI<|Dd (xT Q7)<|Dd (by exact cP rfl dQ sizeOf73 rfl (by omega) (by simp only [Zl,fM];rfl) rfl)<|Dd (by exact bY rfl rfl rfl (hfo))<|Zz ?_;refine Cn ?_ ?_<;>intro hc2
  ·refine Sr<|Dd aI<|Dd aP<|Zz<|aC ?_;exact dF (H':=Hs (k+1)) (.inr rfl) rfl (aT rfl) Fin.refl ⟨by rw [F5,wH hlt hc2 hno],by rw [wR,wH hlt hc2 hno]⟩
  refine aE<|Rg<|Dd pL<|Dd aI<|Zz ?_;refine⟨k+1,⟨by omega,fun j hj=>?_⟩,by omega,E0⟩;by_cases e:j=k
  ·subst e;exact hc2
  exact hno j (by omega)
 have hge:k=l.length:=by have:=aLM hc1;omega
 subst hge;refine bG<|Sr<|Dd aP<|Zz<|aC ?_;exact dF (H':=Hs l.length) (.inr rfl) rfl (aT rfl) Fin.refl ⟨by rw [F5,wI hno],by rw [wR,wI hno]⟩
theorem LU (fv:AV) (l:List (Int×Int)) (p:Nat→Bool) (Hs:Nat→aA) (hl:l.length < 4611686018427387904) (hf:∀ k s,l[k]?=some s→cB Tryz.prog fv [av (fM s)] (Hs k) (fun r H'=>r=bv (p k)∧H'=Hs (k+1))) :
  aG Tryz.prog 68 [.pv (oZ l),fv] (Hs 0) (fun r H'=>r=bv ((List.range l.length).any p)∧H'=Hs (wR p l.length)):=by
 refine Bd func68 rfl ntmps68<|Sr<|Dd aP<|Zz<|Sr<|Dd aI<|Dd aI<|Dd (by exact aB rfl rfl call125 rfl (VK fv l p Hs hl hf))<|Dd JS<|Dd aP<|Zz<|aC ?_;exact dF (H':=Hs (wR p l.length)) (.inr rfl) rfl (aT rfl) Fin.refl ⟨by rw [NE],rfl⟩
def PC (q:Int×Int):Bool:=!(decide (0≤q.1)&&decide (q.1≤1048575))||!(decide (0≤q.2)&&decide (q.2≤1048575))
def wiO:Ob:=bx 1 101 [.pv (.fn 64)]
theorem sG (H:aA):∀ r∈wiO.rows,∀ a∈r,Clo H a:=by intro r hr a ha;simp only [wiO,bx,aLS] at hr;subst hr;rw [aLS] at ha;subst ha;simp
theorem aJK (q:Int×Int):aG Tryz.prog 69 [av (fM q),.ref 3 0 0 0] [(3,wiO)] (fun r H'=>r=bv (PC q)∧H'=[(3,wiO)]):=by
 have hw1:=fun H=>HN q.1 0 1048575 H;have hw2:=fun H=>HN q.2 0 1048575 H;have hof:PC q=(!(decide (0≤q.1)&&decide (q.1≤1048575))||!(decide (0≤q.2)&&decide (q.2≤1048575))):=rfl;obtain ⟨u,hu⟩:∃ u,u=(decide (0≤q.1)&&decide (q.1≤1048575)):=⟨_,rfl⟩;obtain ⟨v,hv⟩:∃ v,v=(decide (0≤q.2)&&decide (q.2≤1048575)):=⟨_,rfl⟩;rw [← hu] at hw1 hof;rw [← hv] at hw2 hof;clear hu hv;refine Bd func69 rfl ntmps69<|Sr<|Dd (by exact bZ (id:=2) rfl rfl rfl rfl rfl)<|Dd aP<|Zz<|Sq ?_;refine bC (t:=3) (n:=14) (X:=PC q) ?_ ?_
 ·all_goals refine Dd (bL lH) ?_
  all_goals refine Dd (bB tH)<|Dd (bL isAgg3)<|Dd (by exact bY rfl rfl rfl (cB.fn oL (hw1 _)))<|Dd lI<|Dm ?_
  all_goals refine Sp 9 (fun h9=>?_) fun h9=>?_
  all_goals try contradiction
  all_goals first|refine Fo<|Fo<|Fo<|Fo<|Fo ?_|refine On (bL lH)<|On (bB tG)<|On (bL isAgg3)<|On (by exact bY rfl rfl rfl (cB.fn oL (hw2 _)))<|On lI ?_
  all_goals refine Dd cL<|Da ?_
  all_goals(exact⟨⟨_,rfl,by(rw [hof,h9];rfl)⟩,rfl,rfl,rfl⟩)
 refine aC ?_;refine dF (H':=[(3,wiO)]) (.inr rfl) rfl (aT rfl) (Fin.wk (by(simp;done)) (Hc (sG _)<|trivial) ⟨rfl,trivial⟩) ?_;exact Qq
theorem WL (l:List (Int×Int)) (q:Int×Int→Bool):((List.range l.length).any fun k=>match l[k]? with|some s=>q s|none=>false)=l.any q:=by
 rw [Bool.eq_iff_iff,List.any_eq_true,List.any_eq_true];constructor
 ·rintro⟨k,hk,h⟩;have hk:=List.mem_range.1 hk;rw [aLU hk] at h;exact⟨_,List.getElem_mem hk,h⟩
 rintro⟨s,hs,h⟩;obtain ⟨k,hk⟩:=aLa.1 hs;exact⟨k,List.mem_range.2 (aLT.1 hk).1,by rw [hk];exact h⟩
def aGe (l:List (Int×Int)) (k:Nat):Bool:=match l[k]? with|some s=>PC s|none=>false
theorem aHH (l:List (Int×Int)) (hl:l.length < 1099511627776):aG Tryz.prog 68 [.pv (oZ l),.clo 69 [.ref 3 0 0 0]] [(3,wiO)] (fun r H'=>r=bv (l.any PC)∧H'=[(3,wiO)]):=by
 have hc:=LU (.clo 69 [.ref 3 0 0 0]) l (aGe l) (fun _=>[(3,wiO)]) (by omega) (fun k s hk=>by
  rw [aGe,hk];exact cB.clo call69 (aJK s))
 rw [show (List.range l.length).any (aGe l)=l.any PC from WL l PC] at hc;exact hc
theorem aCZ (s:ByteArray) (H:aA):aG Tryz.prog 177 [sv s] H (fun r H'=>r=bv false∧H'=H):=by refine Pu ?_;refine Bd func177 rfl ntmps177<|Sr<|Dd aP<|Zz<|Sr<|Dd aI<|Dd aI<|Dd Q8<|Dd aP<|Zz<|aC<|Rt ?_;exact⟨by simp,rfl⟩
theorem aEy (s t:ByteArray) (H:aA):aG Tryz.prog 126 [sv s,sv t] H (fun r H'=>r=bv (B4 s t)∧H'=H):=by
 refine Pu ?_;refine Bd func126 rfl ntmps126<|Sr<|Dd aP<|Zz<|Sq ?_;refine bC (t:=4) (n:=15) (X:=B4 s t) ?_ ?_
 ·all_goals refine Dd aI ?_
  all_goals refine Dd (by exact aB rfl rfl call177 rfl (aCZ _ _))<|Dm ?_
  all_goals refine Sp 7 (fun h7=>?_) fun h7=>?_
  all_goals try contradiction
  all_goals refine Fo<|Fo<|Fo<|Dd cL<|Dm ?_
  all_goals refine Sp 12 (fun h12=>?_) fun h12=>?_
  all_goals try contradiction
  all_goals refine On aI<|On aI<|On (by exact aBr rfl rfl rfl)<|Dd cL<|Da ?_
  all_goals(exact⟨⟨_,rfl,by rfl⟩,rfl,rfl,rfl⟩)
 exact aC<|Rt<|Qq
def kJ:List ByteArray→Bool
 | a::b::r=>!B4 b a&&kJ (b::r)
 | _=>true
theorem OJ {a:ByteArray} {l:List ByteArray} (h:kJ (a::l)=true):kJ l=true:=by
 cases l with
 | nil=>rfl
 | cons b r=>exact(aLY _ _▸h:_∧_).2
theorem CA:∀ (i:Nat) {l:List ByteArray},kJ l=true→kJ (l.drop i)=true
 | 0,_,h=>h
 | i+1,[],_=>rfl
 | i+1,a::l,h=>CA i (OJ h)
theorem UC {l:List ByteArray} {k:Nat} {a b:ByteArray} (ha:l[k]?=some a) (hb:l[k+1]?=some b):kJ (l.drop k)=(!B4 b a&&kJ (l.drop (k+1))):=by obtain ⟨h1,e1⟩:=aLT.1 ha;obtain ⟨h2,e2⟩:=aLT.1 hb;rw [List.drop_eq_getElem_cons h1,List.drop_eq_getElem_cons h2,e1,e2];rfl
theorem SA (l:List ByteArray) (H:aA) (hl:l.length < 1099511627776):aG Tryz.prog 71 [.pv (aU l)] H (fun r H'=>r=bv (kJ l)∧H'=H):=by
 refine Pu ?_;have hml:(l.map encStr).length=l.length:=aLP _;refine Bd func71 rfl ntmps71<|Sr<|Dd aP<|Zz<|Sq<|Sr<|Dd aI<|Dd (fW aD)<|Dd (by exact eB rfl rfl rfl (show IntKind.i64.wrap (((l.map encStr).length:Int) - 1)=((l.map encStr).length:Int) - 1 by rw [IntKind.wrap_i64];omega))<|Dd aP<|Zz<|aF ?_;refine bR (σ:=Nat) (fun k=>([(0,.pv (aU l)),(3,iv ((k:Int) - 1))],[])) (fun k=>k≤l.length∧kJ (l.drop (k - 1))=true) (fun k=>k) l.length ⟨aLV _,?_⟩ ?_ ?_
 ·have:(l.drop (l.length - 1)).length≤1:=by rw [aL4];omega
  match l.drop (l.length - 1),this with
  | [],_=>rfl
  | [a],_=>rfl
 ·rw [hml];exact Wk
 rintro k ⟨hk,hs⟩;refine Sq<|Sr<|Dd aI<|Dd mU<|Zz ?_;refine Cn ?_ ?_<;>intro hc1
 ·have hlt:2≤k:=by have:=aLL hc1;omega
  obtain ⟨m,rfl⟩:∃ m,k=m+2:=⟨k - 2,by omega⟩;obtain ⟨b,hb⟩:=bD (l:=l) (k:=m+1) (by omega);obtain ⟨a,ha⟩:=bD (l:=l) (k:=m) (by omega);have hib:=cI (f:=encStr) hb;have hia:=cI (f:=encStr) ha;have hat:=UC ha hb;rw [show m+2 - 1=m+1 by omega] at hs;rw [hs,Bool.and_true] at hat;refine aE<|Sq<|aF<|Sq<|aQ follows<|Cq aI<|Cq aI<|Cq (by exact bM (m:=m+1) rfl cO rfl rfl (by omega) (show (((m+2:Nat):Int) - 1).toNat=m+1 by omega) hib rfl)<|Cq (pG isAgg9)<|Cq aI<|Cq aI<|Cq (by exact eB rfl rfl rfl (show IntKind.i64.wrap ((((m+2:Nat):Int) - 1) - 1)=((m:Nat):Int)by rw [IntKind.wrap_i64];omega))<|Cq (xT cO)<|Cq (pG isAgg9)<|Cq (by exact aB rfl rfl call126 rfl (aEy b a _))<|bJ<|Kr ?_;refine Cn ?_ ?_<;>intro hc2
  ·have hlt2:B4 b a=true:=hc2;have h0:kJ l=false:=by
    rw [Bool.eq_false_iff];intro h;rw [CA m h,hlt2] at hat;cases hat
   rw [h0];exact Sr<|Dd aP<|Zz<|aC<|Rt<|Qq
  have hlt2:B4 b a=false:=hc2;refine aE<|Rg<|Dd aI<|Dd (by exact eB rfl rfl rfl (show IntKind.i64.wrap ((((m+2:Nat):Int) - 1) - 1)=((m+1:Nat):Int) - 1 by rw [IntKind.wrap_i64];omega))<|Da ?_;refine⟨m+1,⟨by omega,?_⟩,by omega,?_⟩
  ·rw [show m+1 - 1=m by omega,hat,hlt2];rfl
  exact Wk
 have hge:k≤1:=by have:=aLM hc1;omega
 have h0:kJ l=true:=by rw [show k - 1=0 by omega] at hs;exact hs
 rw [h0];exact bG<|Sr<|Dd aP<|Zz<|aC<|Rt<|Qq
abbrev pP (l:List ByteArray):List (List AV):=l.map (fun e=>(encStr e).map .pv)
theorem aI2 (l:List ByteArray):∀ r∈l.map encStr,r.length=1:=fun r hr=>by
 obtain ⟨t,_,rfl⟩:=List.mem_map.1 hr;rfl
theorem aCs (l:List ByteArray) (H:aA) (hc:cY H) (h1:H.get 901=none) (hl:l.length < 1099511627776) :
  aG Tryz.prog 73 [.pv (aU l)] H (fun r H'=>r=.osl 901 1 0 l.length∧H'=(901,⟨1,1,9,pP l⟩)::H):=by
 have hml:(l.map encStr).length=l.length:=aLP _;refine Bd func73 rfl ntmps73<|Sr<|Dd aP<|Zz<|Sq<|Sr<|Dm ?_;refine aHk rfl rfl (U1 rfl aD rfl) ?_;rintro _ H2 ⟨e2,b,rfl,hb⟩;rw [e2];clear e2 H2;refine Zz ?_;refine Cn ?_ ?_<;>intro hc1
 ·have h0:=hb hc1;have h00:l=[]:=List.map_eq_nil_iff.1 h0;subst h00;refine Sr<|Dd (by exact nH (id:=901) (sz:=1) (ty:=9) rfl h1 rfl)<|Zz<|aC ?_;refine dF (H':=((901,⟨1,1,9,[]⟩)::H)) (.inr rfl) rfl (aT rfl) ((Fin.bump (g:=0) (k:=1) rfl rfl (by decide) rfl rfl rfl).trans (Fin.get' (fun j=>sQ _ _ _ _ j))) ?_;exact Qq
 refine aE<|Sr<|Dd (by exact tX (id:=901) rfl cO rfl rfl rfl rfl (by simp) h1)<|Dd aI<|Dd (by exact eK rfl cO TN rfl rfl rfl rfl rfl rfl rfl (aI2 l) hml (by omega) (aL7 _) (show []++(l.map encStr).map (·.map AV.pv)=pP l by rw [List.nil_append,List.map_map];rfl))<|Dd aP<|Zz<|aC ?_;refine dF (H':=((901,⟨1,1,9,pP l⟩)::H)) (.inr rfl) rfl (aT rfl) (Fin.get' (fun j=>sQ _ _ _ _ j)) ?_;exact Qq
def PY {α:Type} (e:α→α→Bool) (a b:List α):Bool:=decide (a.length=b.length)&&(List.range a.length).all fun k=>match a[k]?,b[k]? with|some x,some y=>e x y|_,_=>true
theorem SO {α:Type} {e:α→α→Bool} (he:∀ x y,e x y=true↔x=y) {a b:List α}:PY e a b=true↔a=b:=by
 constructor
 ·intro h;simp only [PY,aLY,aLW,List.all_eq_true,List.mem_range] at h;apply List.ext_getElem h.1;intro k h1 h2;have:=h.2 k h1;rw [aLU h1,aLU h2] at this;exact(he _ _).1 this
 rintro rfl;simp only [PY,aLY,aLW,List.all_eq_true,List.mem_range,true_and];intro k hk;rw [aLU hk];exact(he _ _).2 rfl
theorem SP {α:Type} {e:α→α→Bool} {a b:List α} {k:Nat} {x y:α} (hx:a[k]?=some x) (hy:b[k]?=some y) (h:e x y=false):PY e a b=false:=by have hk:=(aLT.1 hx).1;rw [PY,Bool.and_eq_false_iff];right;rw [List.all_eq_false];exact⟨k,List.mem_range.2 hk,by rw [hx,hy];simp [h]⟩
theorem NO {α:Type} {e:α→α→Bool} {a b:List α} (hl:a.length=b.length) (h:∀ k,k < a.length→∀ x y,a[k]?=some x→b[k]?=some y→e x y=true):PY e a b=true:=by simp only [PY,aLY,aLW,List.all_eq_true,List.mem_range];refine⟨hl,fun k hk=>?_⟩;rw [aLU hk,aLU (by omega)];exact h k hk _ _ (aLU hk) (aLU (by omega))
def FO (a b:ByteArray):Bool:=decide (a=b)
theorem Y3 (a b:ByteArray):FO a b=true↔a=b:=by simp [FO]
def BG (a b:GObj):Bool:=decide (a.id=b.id)&&decide (a.kind=b.kind)&&(decide (a.x=b.x)&&decide (a.y=b.y))&&decide (a.refs.length=b.refs.length)&&decide (a.tags.length=b.tags.length)
def EW (a b:GObj):Bool:=BG a b&&(PY FO a.refs b.refs&&PY pX a.tags b.tags)
theorem VR {a b:GObj}:EW a b=true↔a=b:=by
 rw [EW,aLY,aLY,SO Y3,SO MF];cases a;cases b;simp only [BG,aLY,aLW,GObj.mk.injEq];constructor
 ·rintro⟨⟨⟨⟨⟨a1,a2⟩,a3,a4⟩,a5⟩,a6⟩,a7,a8⟩;exact⟨a1,a2,a3,a4,a7,a8⟩
 rintro⟨a1,a2,a3,a4,a7,a8⟩;exact⟨⟨⟨⟨⟨a1,a2⟩,a3,a4⟩,by rw [a7]⟩,by rw [a8]⟩,a7,a8⟩
def JQ (a b:GObj) (n1 n2 n3 n4:Int):Bool:=!decide (a.id=b.id)||!decide (a.kind=b.kind)||!(decide (a.x=b.x)&&decide (a.y=b.y))||!decide (n1=n2)||!decide (n3=n4)
theorem ND (a b:GObj):JQ a b ((a.refs.map encStr).length:Int) ((b.refs.map encStr).length:Int) ((a.tags.map bF).length:Int) ((b.tags.map bF).length:Int)=!BG a b:=by simp only [JQ,BG,aLP,Bool.not_and,Int.natCast_inj]
theorem aBY (a b:GObj) (H:aA) (ha:a.refs.length < 4611686018427387904) (ha2:a.tags.length < 4611686018427387904):aG Tryz.prog 182 [av (bH a),av (bH b)] H (fun r H'=>r=bv (EW a b)∧H'=H):=by
 refine Pu ?_;have hra:(a.refs.map encStr).length=a.refs.length:=aLP _;have hta:(a.tags.map bF).length=a.tags.length:=aLP _;refine Bd func182 rfl ntmps182<|Sr<|Dd (by exact bZ (id:=2) rfl rfl rfl rfl rfl)<|Dd (by exact bZ (id:=3) rfl rfl rfl rfl rfl)<|Dd aP<|Zz<|Sq<|Sq ?_;refine bC (t:=43) (n:=41) (X:=JQ a b ((a.refs.map encStr).length:Int) ((b.refs.map encStr).length:Int) ((a.tags.map bF).length:Int) ((b.tags.map bF).length:Int)) ?_ ?_
 ·all_goals refine Dd (bB oQ) ?_
  all_goals refine Dd (bL isAgg9)<|Dd (bB oQ)<|Dd (bL isAgg9)<|Dd Q8<|Dm ?_
  all_goals refine Sp 12 (fun h12=>?_) fun h12=>?_
  all_goals try contradiction
  all_goals first|refine Fo<|Fo<|Fo<|Fo<|Fo ?_|refine On (bB gE)<|On (bL isAgg3)<|On (bB gE)<|On (bL isAgg3)<|On yM ?_
  all_goals refine Dd cL<|Dm ?_
  all_goals refine Sp 19 (fun h19=>?_) fun h19=>?_
  all_goals try contradiction
  all_goals first|refine Fo<|Fo<|Fo<|Fo<|Fo ?_|refine On (bB nQ)<|On (by exact aL rfl dQ sizeOf73 rfl rfl rfl rfl (by simp only [Zl,bF,bH,encStr];rfl) rfl)<|On (bB nQ)<|On (by exact aL rfl dQ sizeOf73 rfl rfl rfl rfl (by simp only [Zl,bF,bH,encStr];rfl) rfl)<|On (by exact yJ rfl rfl rfl rfl rfl jX (UI _ _ _ _)) ?_
  all_goals refine Dd cL<|Dm ?_
  all_goals refine Sp 26 (fun h26=>?_) fun h26=>?_
  all_goals try contradiction
  all_goals first|refine Fo<|Fo<|Fo<|Fo<|Fo<|Fo<|Fo ?_|refine On (bB gD)<|On (bL aJ)<|On (fW aD)<|On (bB gD)<|On (bL aJ)<|On (fW aD)<|On yM ?_
  all_goals refine Dd cL<|Dm ?_
  all_goals refine Sp 35 (fun h35=>?_) fun h35=>?_
  all_goals try contradiction
  all_goals first|refine Fo<|Fo<|Fo<|Fo<|Fo<|Fo<|Fo ?_|refine On (bB fK)<|On (bL cT)<|On (fW cK)<|On (bB fK)<|On (bL cT)<|On (fW cK)<|On yM ?_
  all_goals refine Dd cL<|Zz ?_
  all_goals(exact⟨⟨_,rfl,by first|(simp only [JQ, *];rfl)|(simp_all [JQ];done)⟩,rfl,rfl,rfl⟩)
 refine Cn ?_ ?_<;>intro hc1
 ·rw [ND] at hc1;refine Sr<|Dd aP<|Zz<|aC<|Rt ?_;refine⟨?_,rfl⟩;have:BG a b=false:=by simpa using hc1
  rw [EW,this];rfl
 rw [ND] at hc1;have hh:BG a b=true:=by simpa using hc1
 have hlens:a.refs.length=b.refs.length∧a.tags.length=b.tags.length:=by
  simp only [BG,aLY,aLW] at hh;exact⟨hh.1.2,hh.2⟩
 obtain ⟨hl1,hl2⟩:=hlens;rw [EW,hh,Bool.true_and];refine aE<|Sq<|Sr<|Dd aP<|Zz<|aF ?_;refine bR (σ:=Nat) (fun k=>([(2,.ref 2 0 0 0),(3,.ref 3 0 0 0),(5,iv (k:Int))],[(3,bx 6 153 ((bH b).map .pv)),(2,bx 6 153 ((bH a).map .pv))])) (fun k=>k≤a.refs.length∧∀ j,j < k→∀ x y,a.refs[j]?=some x→b.refs[j]?=some y→FO x y=true) (fun k=>a.refs.length - k) 0 ⟨by omega,by omega⟩ ?_ ?_
 ·exact Wk
 rintro k ⟨hk,hall⟩;refine Sq<|Sr<|Dd aI<|Dd (bB gD)<|Dd (bL aJ)<|Dd (fW aD)<|Dd dI<|Zz ?_;refine Cn ?_ ?_<;>intro hc2
 ·have hlt:k < a.refs.length:=by have:=aLL hc2;omega
  obtain ⟨x,hx⟩:=bD hlt;obtain ⟨y,hy⟩:=bD (l:=b.refs) (k:=k) (by omega);have hi:=cI (f:=encStr) hx;have hi2:=cI (f:=encStr) hy;refine aE<|Sq<|aF<|Sq<|aQ follows<|Cq (bB gD)<|Cq (bL aJ)<|Cq aI<|Cq (xT cO)<|Cq (pG isAgg9)<|Cq (bB gD)<|Cq (bL aJ)<|Cq aI<|Cq (xT cO)<|Cq (pG isAgg9)<|Cq Q8<|bJ<|Kr ?_;refine Cn ?_ ?_<;>intro hc3
  ·have ht:FO x y=false:=by
    have h:(!FO x y)=true:=hc3
    simpa using h
   refine Sr<|Dd aP<|Zz<|aC<|Rt ?_;exact⟨by rw [SP hx hy ht];rfl,rfl⟩
  have ht:FO x y=true:=by
   have h:(!FO x y)=false:=hc3
   simpa using h
  refine aE<|Rg<|Dd aI<|Dd pL<|Da ?_;refine⟨k+1,⟨by omega,fun j hj x' y' h1 h2=>?_⟩,by omega,Wk⟩;by_cases e:j=k
  ·subst e;rw [hx] at h1;rw [hy] at h2;cases h1;cases h2;exact ht
  exact hall j (by omega) x' y' h1 h2
 have hge:k=a.refs.length:=by have:=aLM hc2;omega
 subst hge;rw [NO hl1 hall,Bool.true_and];refine bG<|Sq<|Sr<|Dd aP<|Zz<|aF ?_;refine bR (σ:=Nat) (fun k=>([(2,.ref 2 0 0 0),(3,.ref 3 0 0 0),(6,iv (k:Int))],[(3,bx 6 153 ((bH b).map .pv)),(2,bx 6 153 ((bH a).map .pv))])) (fun k=>k≤a.tags.length∧∀ j,j < k→∀ x y,a.tags[j]?=some x→b.tags[j]?=some y→pX x y=true) (fun k=>a.tags.length - k) 0 ⟨by omega,by omega⟩ ?_ ?_
 ·exact Wk
 rintro k ⟨hk,hall2⟩;refine Sq<|Sr<|Dd aI<|Dd (bB fK)<|Dd (bL cT)<|Dd (fW cK)<|Dd dI<|Zz ?_;refine Cn ?_ ?_<;>intro hc4
 ·have hlt:k < a.tags.length:=by have:=aLL hc4;omega
  obtain ⟨x,hx⟩:=bD hlt;obtain ⟨y,hy⟩:=bD (l:=b.tags) (k:=k) (by omega);have hi:=cI (f:=bF) hx;have hi2:=cI (f:=bF) hy;refine aE<|Sq<|aF<|Sq<|aQ follows<|Cq (bB fK)<|Cq (bL cT)<|Cq aI<|Cq (xT wS)<|Cq (by exact cP rfl qO iB rfl (by omega) (by simp only [Zl,bF,bH,encStr];rfl) rfl)<|Cq (bB fK)<|Cq (bL cT)<|Cq aI<|Cq (xT wS)<|Cq (by exact cP rfl qO iB rfl (by omega) (by simp only [Zl,bF,bH,encStr];rfl) rfl)<|Cq (by exact yJ rfl rfl rfl rfl rfl eqGuardType206 (aFw _ _ _ _))<|bJ<|Kr ?_;refine Cn ?_ ?_<;>intro hc5
  ·have ht:pX x y=false:=by
    have h:(!pX x y)=true:=hc5
    simpa using h
   refine Sr<|Dd aP<|Zz<|aC<|Rt ?_;exact⟨by rw [SP hx hy ht],rfl⟩
  have ht:pX x y=true:=by
   have h:(!pX x y)=false:=hc5
   simpa using h
  refine aE<|Rg<|Dd aI<|Dd pL<|Da ?_;refine⟨k+1,⟨by omega,fun j hj x' y' h1 h2=>?_⟩,by omega,Wk⟩;by_cases e:j=k
  ·subst e;rw [hx] at h1;rw [hy] at h2;cases h1;cases h2;exact ht
  exact hall2 j (by omega) x' y' h1 h2
 have hge:k=a.tags.length:=by have:=aLM hc4;omega
 subst hge;refine bG<|Sr<|Dd aP<|Zz<|aC<|Rt ?_;exact⟨by rw [NO hl2 hall2],rfl⟩
theorem aAG (a b:GObj):EW a b=oF a b:=by rw [Bool.eq_iff_iff,VR,rM]
theorem aEZ (a b:GObj) (H:aA) (ha:a.refs.length < 4611686018427387904) (ha2:a.tags.length < 4611686018427387904):aG Tryz.prog 182 [av (bH a),av (bH b)] H (fun r H'=>r=bv (oF a b)∧H'=H):=by rw [← aAG];exact aBY a b H ha ha2
def raw (e:GEdit) (s:ByteArray):Prop:=s=e.id∨s=e.other∨s=e.node∨s=e.obj.id∨s∈e.refs∨s∈e.obj.refs
end Go.Proofs.YtiifmppaejpemaaGreatDoor
section
namespace Go.Abs
theorem LC {P:Program} {N:Nat} {o:Oper} {E:bN} {H:aA} {T:TypeId} {t:Tmp} {e:TypeId} {id g off len sz:Nat} {ob:Ob} {row:List AV} {rows':List (List AV)} (ho:o.op=.call {callee:=.builtin .clear,args:=#[.tmp t],argTypes:=#[T]}) (hS:dZ P T e sz) (hZ:dM P e row) (hrow:row.length=sz)
  (hx:E.get t=some (.osl id g off len)) (hH:H.get id=some ob) (hg:ob.g=g) (hosz:ob.sz=sz) (hoff:off≤ob.rows.length) (hrows:ob.rows.take off++(List.replicate len row++ob.rows.drop (off+len))=rows') :
  cD P N o E H .any ((id,⟨g,sz,ob.ty,rows'⟩)::H):=by
 intro a w I ι h1 h2 hr he K Q hkk;obtain ⟨v,hv,hvr⟩:=he t _ hx;obtain ⟨c,h3,h4,h5⟩:=XO hr hvr hH hg;refine ZU (x:=.tmp t) (E:=(t,.osc id g off len c)::E) ho hS hZ hrow (bN.get_cons_same _ _ _) hH hg hosz hoff hrows a w I ι h1 h2 hr (fun u x hu=>?_) K Q hkk;by_cases e:t=u
 ·subst e;rw [bN.get_cons_same] at hu;cases hu;exact⟨v,hv,h5⟩
 rw [bN.get_cons_other _ _ e] at hu;exact he u x hu
end Go.Abs
namespace Go.Proofs.YtiifmppaejpemaaGreatDoor
open Go.Proofs.Tryz
open Go.Abs
def jN:List ByteArray→List ByteArray
 | []=>[]
 | [x]=>[x]
 | x::y::r=>if x=y then jN (y::r)else x::jN (y::r)
theorem E7:∀ (l:List ByteArray) (x y:ByteArray),jN (l++[x,y])=jN (l++[x])++(if x=y then[] else[y])
 | [],x,y=>by
  show (if x=y then jN [y] else x::jN [y])=[x]++_;by_cases e:x=y
  ·rw [aLO e,aLO e,e];rfl
  rw [aLN e,aLN e];rfl
 | [a],x,y=>by
  show (if a=x then jN [x,y] else a::jN [x,y])=(if a=x then jN [x] else a::jN [x])++_;have:=E7 [] x y;rw [show jN [x,y]=jN ([]++[x,y])from rfl,this]
  split<;>rfl
 | a::b::l,x,y=>by
  have:=E7 (b::l) x y;show (if a=b then jN ((b::l)++[x,y])else a::jN ((b::l)++[x,y]))=(if a=b then jN ((b::l)++[x])else a::jN ((b::l)++[x]))++_;rw [this]
  split<;>rfl
theorem NU {L:List ByteArray} {k:Nat} {x y:ByteArray} (hk:1≤k) (hx:L[k - 1]?=some x) (hy:L[k]?=some y):jN (L.take (k+1))=jN (L.take k)++(if x=y then[] else[y]):=by
 obtain ⟨j,rfl⟩:∃ j,k=j+1:=⟨k - 1,by omega⟩;rw [show j+1 - 1=j by omega] at hx;have h1:L.take (j+1)=L.take j++[x]:=by rw [List.take_add_one,hx];rfl
 have h2:L.take (j+1+1)=L.take j++[x,y]:=by rw [List.take_add_one,h1,hy,List.append_assoc];rfl
 rw [h2,h1,E7]
theorem B8 {l:List ByteArray} {i:Nat} {s:ByteArray} (h:l[i]?=some s):(pP l)[i]?=some ((encStr s).map .pv):=by rw [aL9,h];rfl
theorem VC {P L:List ByteArray} {j:Nat} {s:ByteArray} (h:P.length≤j) (hs:L[j]?=some s):(P++L.drop P.length)[j]?=some s:=by rw [List.getElem?_append_right h,List.getElem?_drop,show P.length+(j - P.length)=j by omega];exact hs
theorem VV {H:aA} {id:Nat} {o:Ob} (h:H.get id=some o) (j:Nat):aA.get ((id,o)::H) j=H.get j:=by
 by_cases e:j=id
 ·subst e;rw [get_cons_same,h]
 exact get_cons_other _ _ e
theorem aAS (L:List ByteArray) (g:Nat) (H:aA) (h1:H.get 901=some ⟨g,1,9,pP L⟩) (hl:L.length < 1099511627776) :
  aG Tryz.prog 72 [.osl 901 g 0 L.length] H (fun r H'=>r=.osl 901 g 0 (jN L).length∧H'=(901,⟨g,1,9,pP (jN L++List.replicate (L.length - (jN L).length) sNil)⟩)::H):=by
 refine Bd func72 rfl ntmps72 ?_;refine fE.ent (E':=[(0,.osl 901 g 0 L.length)]) (H':=(901,⟨g,1,9,pP L⟩)::H) (cC.get' ⟨⟨_,rfl,rfl⟩,trivial⟩ (VV h1)) ?_;refine Sr<|Dd aP<|Zz<|Sq<|Sr<|Dd aI<|Dd (by exact dS rfl aD rfl rfl rfl)<|Dd dI<|Zz ?_;refine Cn ?_ ?_<;>intro hc1
 ·have hlt:L.length < 2:=by have:=aLL hc1;omega
  have hc0:jN L=L:=by
   match L,hlt with
   | [],_=>rfl
   | [a],_=>rfl
  refine Sr<|Dd aI<|Dd aP<|Zz<|aC ?_;refine dF (H':=(901,⟨g,1,9,pP L⟩)::H) (.inr rfl) rfl (aT rfl) Fin.refl ⟨by rw [hc0],by rw [hc0,Nat.sub_self,List.replicate_zero,List.append_nil]⟩
 have hge:2≤L.length:=by have:=aLM hc1;omega
 refine aE<|Sq<|Sr<|Dd aP<|Zz<|aF ?_;refine bR (σ:=Nat) (fun i=>([(0,.osl 901 g 0 L.length),(3,iv (i:Int))],(901,⟨g,1,9,pP L⟩)::H)) (fun i=>1≤i∧i≤L.length∧jN (L.take i)=L.take i) (fun i=>L.length - i) 1 ⟨by omega,by omega,by
  obtain ⟨x,hx⟩:=bD (l:=L) (k:=0) (by omega);rw [List.take_add_one,hx];rfl⟩ ?_ ?_
 ·exact cC.get' ⟨⟨_,rfl,rfl⟩,⟨_,rfl,rfl⟩,trivial⟩ (fun j=>rfl)
 rintro i ⟨hi1,hi2,hi3⟩;refine Sq<|Sr<|Dd aI<|Dd aI<|Dd (by exact dS rfl aD rfl rfl rfl)<|Dd dI<|Zz ?_;refine Cn ?_ ?_<;>intro hc2
 ·have hil:i < L.length:=by have:=aLL hc2;omega
  obtain ⟨y,hy⟩:=bD hil;obtain ⟨x,hx⟩:=bD (l:=L) (k:=i - 1) (by omega);have ht:=NU hi1 hx hy;refine aE<|Sq<|aF<|Sq<|aQ follows<|Cq aI<|Cq aI<|Cq (by exact dH rfl cO rfl rfl rfl rfl rfl (by omega) (by exact aL0 _) hil (aL7 _))<|Cq (by exact aK rfl isAgg9 rfl rfl rfl (B8 hy) rfl)<|Cq aI<|Cq aI<|Cq (by exact eB rfl rfl rfl (by exact pO (by omega) (by omega)))<|Cq (by exact dH (m:=i - 1) rfl cO rfl rfl rfl rfl rfl (by omega) (show ((i:Int) - 1).toNat=i - 1 by omega) (by omega) (aL7 _))<|Cq (by exact aK rfl isAgg9 rfl rfl rfl (B8 hx) rfl)<|Cq AJ<|bJ<|Kr ?_;refine Cn ?_ ?_<;>intro hc3
  ·have hyx:=aLL hc3;rw [aLO hyx.symm,List.append_nil,hi3] at ht;refine Sr<|Dd aI<|Dd aI<|Dd (by exact gF (l:=i) (h:=L.length) rfl cO rfl rfl rfl rfl rfl rfl (by omega) (aLV _) (aL7 _) rfl)<|Dd aP<|Zz<|Sq<|Sr<|Dd aP<|Zz<|aF ?_;refine jB (fun(k:Nat) (R:List ByteArray)=>([(0,.osl 901 g 0 L.length),(3,iv (R.length:Int)),(4,.osl 901 g i (L.length - i)),(5,iv (k:Int))],(901,⟨g,1,9,pP (R++L.drop R.length)⟩)::H)) (fun k R=>1≤k∧i+k≤L.length∧R=jN (L.take (i+k))∧R.length+1≤i+k) (fun k R=>L.length - (i+k)) 1 (L.take i) ⟨by omega,by omega,ht.symm,by rw [aL3];omega⟩ ?_ ?_
   ·have hti:(L.take i).length=i:=by rw [aL3];omega
    rw [hti,List.take_append_drop];exact cC.get' ⟨⟨_,rfl,rfl⟩,⟨_,rfl,rfl⟩,⟨_,rfl,rfl⟩,⟨_,rfl,rfl⟩,trivial⟩ (fun j=>rfl)
   rintro k R ⟨hk1,hk2,hk3,hk4⟩;refine Sq<|Sr<|Dd aI<|Dd aI<|Dd (by exact dS rfl aD rfl rfl rfl)<|Dd dI<|Zz ?_;refine Cn ?_ ?_<;>intro hc4
   ·have hkl:i+k < L.length:=by have:=aLL hc4;omega
    obtain ⟨v,hv⟩:=bD hkl;obtain ⟨u,hu⟩:=bD (l:=L) (k:=i+k - 1) (by omega);have ht2:=NU (by omega) hu hv;have hv2:=B8 (VC (P:=R) (by omega) hv);have hu2:=B8 (VC (P:=R) (by omega) hu);refine aE<|Sq<|aF<|Sq<|aQ follows<|Cq aI<|Cq aI<|Cq (by exact dH (m:=k) rfl cO rfl rfl rfl rfl rfl (by omega) (aL0 _) (by omega) rfl)<|Cq (by exact aK rfl isAgg9 rfl rfl rfl hv2 rfl)<|Cq aI<|Cq aI<|Cq (by exact eB rfl rfl rfl (by exact pO (by omega) (by omega)))<|Cq (by exact dH (m:=k - 1) (m2:=i+k - 1) rfl cO rfl rfl rfl rfl rfl (by omega) (show ((k:Int) - 1).toNat=k - 1 by omega) (by omega) (by omega))<|Cq (by exact aK rfl isAgg9 rfl rfl rfl hu2 rfl)<|Cq Q8<|bJ<|Kr ?_;refine Cn ?_ ?_<;>intro hc5
    ·have hne:¬ u=v:=fun e=>by
      have h:=hc5;rw [e] at h;simp at h
     rw [aLN hne,← hk3] at ht2;have hR0:∃ z,L[R.length]?=some z:=bD (by omega);obtain ⟨z,hz⟩:=hR0;have hat:(pP (R++L.drop R.length))[R.length]?=some ((encStr z).map .pv):=B8 (VC (P:=R) (aLV _) hz);have hset:(pP (R++L.drop R.length)).set R.length [sv v]=pP ((R++[v])++L.drop (R++[v]).length):=by
      have hd:L.drop R.length=z::L.drop (R.length+1):=by
       obtain ⟨p,q⟩:=aLT.1 hz;rw [List.drop_eq_getElem_cons p,q]
      rw [hd,aLQ,List.length_singleton,pP,List.map_append,List.map_cons,List.set_append_right _ _ (by rw [aLP];exact aLV _),aLP,Nat.sub_self,List.set_cons_zero,List.append_assoc,pP,List.map_append,List.map_append];rfl
     refine Sr<|Dd aI<|Dd aI<|Dd aI<|Dd aI<|Dd (by exact dH (m:=k) rfl cO rfl rfl rfl rfl rfl (by omega) (aL0 _) (by omega) rfl)<|Dd (by exact aK rfl isAgg9 rfl rfl rfl hv2 rfl)<|Dd (by exact dH rfl cO rfl rfl rfl rfl rfl (by omega) (by exact aL0 _) (by omega:R.length < L.length) (aL7 _))<|Uu (by exact aZ rfl sizeOf9 rfl rfl rfl rfl rfl hat (by simp [encStr]) rfl hset)<|Zz<|Rg<|Dd aI<|Dd pL<|Dd aP<|Zz<|Rg<|Dd aI<|Dd pL<|Da ?_;refine⟨k+1,R++[v],⟨by omega,by omega,ht2.symm,by rw [aLQ,List.length_singleton];omega⟩,by omega,?_⟩;rw [show (((R++[v]).length:Nat):Int)=(R.length:Int)+1 by rw [aLQ,List.length_singleton];rfl];exact cC.dup ⟨⟨_,rfl,rfl⟩,⟨_,rfl,rfl⟩,⟨_,rfl,rfl⟩,⟨_,rfl,rfl⟩,trivial⟩
    have he:u=v:=by
     have h:=hc5;have h2:v=u:=by simpa using h
     exact h2.symm
    rw [aLO he,List.append_nil,← hk3] at ht2;refine aE<|Rg<|Dd aI<|Dd pL<|Da ?_;refine⟨k+1,R,⟨by omega,by omega,ht2.symm,by omega⟩,by omega,?_⟩;exact cC.get' ⟨⟨_,rfl,rfl⟩,⟨_,rfl,rfl⟩,⟨_,rfl,rfl⟩,⟨_,rfl,rfl⟩,trivial⟩ (fun j=>rfl)
   have hge2:i+k=L.length:=by have:=aLM hc4;omega
   rw [hge2,List.take_length] at hk3;have hRl:R.length≤L.length:=by omega
   have hmix:(pP (R++L.drop R.length)).length=L.length:=by
    rw [aLP,aLQ,aL4];omega
   have hcl:(pP (R++L.drop R.length)).take R.length++(List.replicate (L.length - R.length) [sv sNil]++(pP (R++L.drop R.length)).drop (R.length+(L.length - R.length)))=pP (R++List.replicate (L.length - R.length) sNil):=by
    have hd0:(pP (R++L.drop R.length)).drop (R.length+(L.length - R.length))=[]:=List.drop_eq_nil_of_le (by rw [hmix];omega);rw [hd0,List.append_nil,pP,List.map_append,List.take_left' (aLP _),pP,List.map_append,List.map_replicate];rfl
   refine bG<|Sr<|Dd aI<|Dd aI<|Dd (by exact gF (l:=R.length) (h:=L.length) rfl cO rfl rfl rfl rfl rfl rfl hRl (aLV _) (aL7 _) rfl)<|Uu (by exact LC rfl cO zo9 rfl rfl rfl rfl rfl (by rw [hmix];exact hRl) hcl)<|Zz<|Sr<|Dd aI<|Dd aI<|Dd (by exact gF (l:=0) (h:=R.length) rfl cO rfl rfl rfl rfl rfl rfl (aL6 _) hRl (aL7 _) rfl)<|Dd aP<|Zz<|aC ?_;refine dF (H':=(901,⟨g,1,9,pP (R++List.replicate (L.length - R.length) sNil)⟩)::H) (.inr rfl) rfl (aT rfl) (Fin.get' (fun j=>sQ _ _ _ _ j)) ⟨by rw [hk3];rfl,by rw [hk3]⟩
  have hyx:=aLM hc3;rw [aLN (fun e=>hyx e.symm),hi3] at ht;refine aE<|Rg<|Dd aI<|Dd pL<|Da ?_;refine⟨i+1,⟨by omega,by omega,?_⟩,by omega,cC.get' ⟨⟨_,rfl,rfl⟩,⟨_,rfl,rfl⟩,trivial⟩ (fun j=>rfl)⟩;rw [ht,List.take_add_one,hy];rfl
 have hge3:i=L.length:=by have:=aLM hc2;omega
 subst hge3;rw [List.take_length] at hi3;refine bG<|Sr<|Dd aI<|Dd aP<|Zz<|aC ?_;refine dF (H':=(901,⟨g,1,9,pP L⟩)::H) (.inr rfl) rfl (aT rfl) Fin.refl ⟨by rw [hi3],by rw [hi3,Nat.sub_self,List.replicate_zero,List.append_nil]⟩
end Go.Proofs.YtiifmppaejpemaaGreatDoor
end
namespace Go.Proofs.YtiifmppaejpemaaGreatDoor
open Go.Proofs.Tryz
open Go.Abs
def mY (n a b:Int):Bool:=decide (a≤n)&&decide (n≤b)
def YZ (r:GRec):Bool:=(((((r.priv.trace.any PC||!(!([r.priv.name,r.priv.reason].any FY)))||!(!r.priv.sources.any FY))||decide (16 < ((r.priv.sources.map encStr).length:Int)))||decide (200 < ((r.priv.trace.map fM).length:Int)))||!iY r.priv.sl)||!iY r.sl
def aHX (l:List ByteArray):Bool:=kJ l&&decide (((jN l).length:Int)=((l.map encStr).length:Int))
theorem aHb (l:List ByteArray) (hl:l.length < 1099511627776) {H:aA} (hno:H.get 901=none):aG Tryz.prog 73 [.pv (aU l)] H (fun r H'=>r=.osl 901 1 0 l.length∧H'=(901,⟨1,1,9,pP l⟩)::H) :=aG.frame (aCs l [] (fun _ _ h=>by cases h) rfl hl) (fun _ _ h=>by cases h) (fun _ _ h=>by cases h) (by simp) (fun id h=>.inr (by
  by_cases e:901=id
  ·subst e;exact hno
  simp [aA.get,jA e] at h))
def LZ (r:GRec):Bool:=(((((!mY r.author 0 59||!mY r.number 1 128)||!mY r.clock 1 1000000)||!bI r.branch)||decide (16 < ((r.parents.map encStr).length:Int)))||!r.parents.all isJ)||!aHX r.parents
def ndG (r:GRec):Bool:=decide (r.kind=2)||decide (r.kind=3)
def KN (r:GRec):Bool:=if r.kind=3 then mY r.order 1 4 else if r.kind=4 then(bI r.from'&&!decide (r.from'=r.branch))else decide (1≤r.kind∧r.kind≤5)
def QW (r:GRec):ByteArray:=if r.kind=2∨r.kind=3 then r.target else sNil
def wYG (r:GRec):Bool:=if r.kind=2 then r.yes else false
def wOG (r:GRec):Int:=if r.kind=3 then r.order else 0
def wFG (r:GRec):ByteArray:=if r.kind=4 then r.from' else sNil
def wEG (r:GRec):Bool:=if r.kind=1 then true else if r.kind=3 then decide (r.order=3)else false
def v5G (r:GRec):Bool:=((((decide (r.target=QW r)&&(r.yes == wYG r))&&decide (r.order=wOG r))&&decide (r.from'=wFG r))&&(decide (0 < ((r.edits.map aY).length:Int)) == wEG r))&&(!ndG r||isJ (QW r))
def cU (r:GRec):Bool:=(((!YZ r&&!LZ r)&&(jM r.edits).2)&&KN r)&&v5G r
abbrev W5:=ByteArray×Bool×Int×ByteArray×Bool
def wQ (r:GRec):W5:=(QW r,wYG r,wOG r,wFG r,wEG r)
theorem aIV {r:GRec} (h:r.kind=1):KN r=true∧(sNil,false,0,sNil,true)=wQ r:=by simp [KN,wQ,QW,wYG,wOG,wFG,wEG,h]
theorem aIU {r:GRec} (h:r.kind=2):KN r=true∧(r.target,r.yes,0,sNil,false)=wQ r:=by simp [KN,wQ,QW,wYG,wOG,wFG,wEG,h]
theorem aIT {r:GRec} (h:r.kind=3) (hw:mY r.order 1 4=true):KN r=true∧(r.target,false,r.order,sNil,decide (r.order=3))=wQ r:=by simp [KN,wQ,QW,wYG,wOG,wFG,wEG,h,hw]
theorem aIS {r:GRec} (h:r.kind=4) (hn:bI r.from'=true) (hb:r.from'≠r.branch):KN r=true∧(sNil,false,0,r.from',false)=wQ r:=by simp [KN,wQ,QW,wYG,wOG,wFG,wEG,h,hn,hb]
theorem aIR {r:GRec} (h:r.kind=5):KN r=true∧(sNil,false,0,sNil,false)=wQ r:=by simp [KN,wQ,QW,wYG,wOG,wFG,wEG,h]
theorem aDo {r:GRec} (h:YZ r=true):cU r=false:=by simp [cU,h]
theorem W2 {r:GRec} (h:LZ r=true):cU r=false:=by simp [cU,h]
theorem aDn {r:GRec} (h:(jM r.edits).2=false):cU r=false:=by simp [cU,h]
theorem OC {r:GRec} (h:KN r=false):cU r=false:=by simp [cU,h]
theorem aDm {r:GRec} (h1:YZ r=false) (h2:LZ r=false) (h3:(jM r.edits).2=true) (h4:KN r=true):cU r=v5G r:=by simp [cU,h1,h2,h3,h4]
theorem aAv {r:GRec} (h:r.target.size < 1099511627776):(QW r).size < 1099511627776:=by
 rw [QW]
 split
 ·exact h
 exact(by decide:(0:Nat) < 1099511627776)
theorem zL (r:GRec) (hr:gQ r) (hp:r.parents.length < 549755813888) (H:aA):aG Tryz.prog 17 [av (bP r)] H (fun x H'=>x=bv (cU r)∧H'=H):=by
 refine Pu ?_;obtain ⟨_,⟨b1,b2,b3⟩,hpa,hed,hs,hpv⟩:=hr;have htx:=fun H=>W6 r.edits H hed.1 hed.2;obtain ⟨p1,p2,p3,p4,p5⟩:=hpv;have hoffs:=aHH r.priv.trace p4;have hsh1:=fun H=>XD [r.priv.name,r.priv.reason] (show 2 < 1099511627776 by decide) H;have hsh2:=fun H=>XD r.priv.sources p3.1 H;have hf1:=fun H=>SI r.priv.sl p5 H;have hf2:=fun H=>SI r.sl hs H;have hso:=fun H=>SA r.parents H (by omega);have hdg:=fun H=>E4 r.parents hpa H;have hnm:=fun H=>vW r.branch H (by omega);have hnf:=fun H=>vW r.from' H (by omega)
 have hwt:=aAv b2;have hw:∀ (n a b:Int) (H:aA),aG Tryz.prog 64 [iv n,iv a,iv b] H (fun r H'=>r=bv (mY n a b)∧H'=H):=fun n a b H=>HN n a b H;refine Bd func17 rfl ntmps17<|Sr<|Dd (by exact bZ (id:=1) rfl rfl rfl rfl rfl)<|Dd aP<|Zz<|Sr<|Dd (by exact bE (id:=3) rfl aIO rfl rfl)<|Uu (jK sizeOf101)<|Zz<|Sr<|Dd aP<|Zz<|Sr<|Dd (bB eJ)<|Dd (pN iA sizeOf28)<|Dd (by exact bE (id:=5) rfl aGZ rfl rfl)<|Uu (jK sizeOf28)<|Zz<|Sr<|Dd (bB rN)<|Dd (bL jD)<|Dd (by exact eY rfl rfl)<|Dd (by exact aB rfl rfl call68 rfl ((aG.frameS hoffs (KQ.sub ⟨rfl,trivial⟩) (cY.ofL ⟨sG _,trivial⟩) (by simp;rfl))))<|Dd aP<|Zz<|Sq<|Sq ?_;refine bC (t:=63) (n:=48) (X:=YZ r) ?_ ?_
 ·all_goals refine Dd aI ?_
  all_goals refine Dm ?_
  all_goals refine Sp 23 (fun h23=>?_) fun h23=>?_
  all_goals try contradiction
  all_goals first|refine Fo<|Fo<|Fo<|Fo<|Fo ?_|refine On aI<|On (bB BN)<|On (bL isAgg9)<|On (bB BM)<|On (bL isAgg9) ?_
  all_goals first|refine Fo ?_|refine On (by exact aS [[.str r.priv.name],[.str r.priv.reason]] rfl cO rfl rfl rfl rfl rfl (by intro r hr;simp only [aL1,aL5,or_false] at hr;rcases hr with rfl|rfl<;>rfl)) ?_
  all_goals first|refine Fo<|Fo ?_|refine On (by exact bY rfl rfl rfl (cB.fn call65 (hsh1 _)))<|On lI ?_
  all_goals refine Dd cL<|Dm ?_
  all_goals refine Sp 33 (fun h33=>?_) fun h33=>?_
  all_goals try contradiction
  all_goals first|refine Fo<|Fo<|Fo<|Fo<|Fo ?_|refine On aI<|On (bB yU)<|On (bL aJ)<|On (by exact bY rfl rfl rfl (cB.fn call65 (hsh2 _)))<|On lI ?_
  all_goals refine Dd cL<|Dm ?_
  all_goals refine Sp 40 (fun h40=>?_) fun h40=>?_
  all_goals try contradiction
  all_goals first|refine Fo<|Fo<|Fo<|Fo ?_|refine On (bB yU)<|On (bL aJ)<|On (fW aD)<|On mU ?_
  all_goals refine Dd cL<|Dm ?_
  all_goals refine Sp 46 (fun h46=>?_) fun h46=>?_
  all_goals try contradiction
  all_goals first|refine Fo<|Fo<|Fo<|Fo ?_|refine On (bB rN)<|On (bL jD)<|On (fW dP)<|On mU ?_
  all_goals refine Dd cL<|Dm ?_
  all_goals refine Sp 52 (fun h52=>?_) fun h52=>?_
  all_goals try contradiction
  all_goals first|refine Fo<|Fo<|Fo<|Fo ?_|refine On (bB nN)<|On (pN dX sizeOf25)<|On (by exact aB rfl rfl call70 rfl (hf1 _))<|On lI ?_
  all_goals refine Dd cL<|Dm ?_
  all_goals refine Sp 58 (fun h58=>?_) fun h58=>?_
  all_goals try contradiction
  all_goals first|refine Fo<|Fo<|Fo<|Fo ?_|refine On (bB iP)<|On (pN dX sizeOf25)<|On (by exact aB rfl rfl call70 rfl (hf2 _))<|On lI ?_
  all_goals refine Dd cL<|Zz ?_
  all_goals(exact⟨⟨_,rfl,by first|(rw [YZ,h23];rfl)|(rw [YZ,h23,h33];rfl)|(rw [YZ,h23,h33,h40];rfl)|(rw [YZ,h23,h33,h40,h46];rfl)|(rw [YZ,h23,h33,h40,h46,h52];rfl)|(rw [YZ,h23,h33,h40,h46,h52,h58];rfl)⟩,rfl,rfl,rfl⟩)
 refine Cn ?_ ?_<;>intro hc1
 ·rw [aDo hc1];exact Sr<|Dd aP<|Zz<|aC<|Rt<|Qq
 have h1:=hc1;have hin:aHX r.parents=(kJ r.parents&&decide (((jN r.parents).length:Int)=((r.parents.map encStr).length:Int))):=rfl;obtain ⟨so,hsoe⟩:∃ so,so=kJ r.parents:=⟨_,rfl⟩;rw [← hsoe] at hso hin;refine aE<|Sq ?_;refine fE.ent (E':=[(1,.ref 1 0 0 0),(3,.ref 3 0 0 0),(5,.ref 5 0 0 0),(4,.pv (.fn 65))]) (H':=[(5,bx 7 28 ((kR r.priv).map .pv)),(3,wiO),(1,bx 21 30 ((bP r).map .pv))]) (cC.wk (Ea<|Ea<|Ea<|Eb<|trivial) (Hb<|Hc (sG _)<|Hb<|trivial) trivial) ?_;cases so with
 | false =>
  have h2:LZ r=true:=by rw [LZ,hin,Bool.false_and,Bool.not_false,Bool.or_true]
  rw [W2 h2];refine aQ follows<|Cr [1] (fun _ h=>fh oG h)<|Cr [1] (fun _ h=>lh aJ h)<|Cr [] (fun H1 hH=>by exact aB rfl rfl call71 rfl (hso _))<|Cr [] (fun _ _=>aI)<|Ot<|Ot<|Ot<|Ot<|Ot<|Ot<|Ot<|Ot<|Ot<|Cr [] (fun _ _=>cL)<|Cr [] (fun _ _=>aP)<|bJ<|Kr<|Sq<|Sq ?_;refine bC (t:=118) (n:=47) (X:=LZ r) ?_ ?_
  ·all_goals refine Dd (bL lH) ?_
   all_goals refine Dd (bB yT)<|Dd (bL isAgg3)<|Dd (by exact bY rfl rfl rfl (cB.fn oL (hw r.author 0 59 _)))<|Dd lI<|Dm ?_
   all_goals refine Sp 83 (fun h83=>?_) fun h83=>?_
   all_goals try contradiction
   all_goals first|refine Fo<|Fo<|Fo<|Fo<|Fo ?_|refine On (bL lH)<|On (bB pT)<|On (bL isAgg3)<|On (by exact bY rfl rfl rfl (cB.fn oL (hw r.number 1 128 _)))<|On lI ?_
   all_goals refine Dd cL<|Dm ?_
   all_goals refine Sp 90 (fun h90=>?_) fun h90=>?_
   all_goals try contradiction
   all_goals first|refine Fo<|Fo<|Fo<|Fo<|Fo ?_|refine On (bL lH)<|On (bB yS)<|On (bL isAgg3)<|On (by exact bY rfl rfl rfl (cB.fn oL (hw r.clock 1 1000000 _)))<|On lI ?_
   all_goals refine Dd cL<|Dm ?_
   all_goals refine Sp 97 (fun h97=>?_) fun h97=>?_
   all_goals try contradiction
   all_goals first|refine Fo<|Fo<|Fo<|Fo ?_|refine On (bB yR)<|On (bL isAgg9)<|On (by exact aB rfl rfl mC rfl (hnm _))<|On lI ?_
   all_goals refine Dd cL<|Dm ?_
   all_goals refine Sp 103 (fun h103=>?_) fun h103=>?_
   all_goals try contradiction
   all_goals first|refine Fo<|Fo<|Fo<|Fo ?_|refine On (bB oG)<|On (bL aJ)<|On (fW aD)<|On mU ?_
   all_goals refine Dd cL<|Dm ?_
   all_goals refine Sp 109 (fun h109=>?_) fun h109=>?_
   all_goals try contradiction
   all_goals first|refine Fo<|Fo<|Fo<|Fo ?_|refine On (bB oG)<|On (bL aJ)<|On (by exact aB rfl rfl aDa rfl (hdg _))<|On lI ?_
   all_goals refine Dd cL<|Dm ?_
   all_goals refine Sp 115 (fun h115=>?_) fun h115=>?_
   all_goals try contradiction
   all_goals first|refine Fo<|Fo ?_|refine On aI<|On lI ?_
   all_goals refine Dd cL<|Zz ?_
   all_goals(exact⟨⟨_,rfl,by first|(rw [LZ,hin,h83];rfl)|(rw [LZ,hin,h83,h90];rfl)|(rw [LZ,hin,h83,h90,h97];rfl)|(rw [LZ,hin,h83,h90,h97,h103];rfl)|(rw [LZ,hin,h83,h90,h97,h103,h109];rfl)|(rw [LZ,hin,h83,h90,h97,h103,h109,h115];rfl)⟩,rfl,rfl,rfl⟩)
  refine Cn ?_ ?_<;>intro hc2
  ·exact Sr<|Dd aP<|Zz<|aC<|Rt<|Qq
  rw [h2] at hc2;cases hc2
 | true =>
  refine aQ follows<|Cr [1] (fun _ h=>fh oG h)<|Cr [1] (fun _ h=>lh aJ h)<|Cr [] (fun H1 hH=>by exact aB rfl rfl call71 rfl (hso _))<|Cr [] (fun _ _=>aI) ?_;refine aX (r:=⟨_,some [1],[]⟩) (bO rfl rfl rfl (by rfl) (fun H1 hH=>by exact(by exact aW rfl oG rfl ((hH _ rfl).trans rfl) rfl rfl))) rfl ?_;refine aX (r:=⟨_,some [1],[]⟩) (bO rfl rfl rfl (by rfl) (fun H1 hH=>by exact(by exact aK rfl aJ rfl ((hH _ rfl).trans rfl) rfl rfl rfl))) rfl ?_;refine aX (r:=⟨_,some [901],[_]⟩) (bO rfl rfl rfl (by rfl) (fun H1 hH=>by exact aB rfl rfl call73 rfl (aHb r.parents (by omega) ((hH _ rfl).trans rfl)))) rfl ?_;refine aX (r:=⟨_,some [901],[_]⟩) (bO rfl rfl rfl (by rfl) (fun H1 hH=>by exact aB rfl rfl call72 rfl (aAS r.parents 1 _ ((hH _ rfl).trans rfl) (by omega)))) rfl ?_;refine aX (r:=⟨_,some [901],[]⟩) (bO rfl rfl rfl (by rfl) (fun H1 hH=>by exact(by exact dS rfl aD rfl ((hH _ rfl).trans rfl) rfl))) rfl ?_;refine aX (r:=⟨_,some [1],[]⟩) (bO rfl rfl rfl (by rfl) (fun H1 hH=>by exact(by exact aW rfl oG rfl ((hH _ rfl).trans rfl) rfl rfl))) rfl ?_;refine aX (r:=⟨_,some [1],[]⟩) (bO rfl rfl rfl (by rfl) (fun H1 hH=>by exact(by exact aK rfl aJ rfl ((hH _ rfl).trans rfl) rfl rfl rfl))) rfl ?_;refine aX (r:=⟨_,some [],[]⟩) (bO rfl rfl rfl (by rfl) (fun H1 hH=>by exact(by exact jS rfl aD rfl))) rfl ?_;refine aX (r:=⟨_,some [],[]⟩) (bO rfl rfl rfl (by rfl) (fun H1 hH=>by exact sM rfl rfl rfl)) rfl ?_;refine Cr [] (fun _ _=>cL)<|Cr [] (fun _ _=>aP)<|bJ<|Kr<|Sq<|Sq ?_;refine bC (t:=118) (n:=47) (X:=LZ r) ?_ ?_
  ·all_goals refine Dd (bL lH) ?_
   all_goals refine Dd (bB yT)<|Dd (bL isAgg3)<|Dd (by exact bY rfl rfl rfl (cB.fn oL (hw r.author 0 59 _)))<|Dd lI<|Dm ?_
   all_goals refine Sp 83 (fun h83=>?_) fun h83=>?_
   all_goals try contradiction
   all_goals first|refine Fo<|Fo<|Fo<|Fo<|Fo ?_|refine On (bL lH)<|On (bB pT)<|On (bL isAgg3)<|On (by exact bY rfl rfl rfl (cB.fn oL (hw r.number 1 128 _)))<|On lI ?_
   all_goals refine Dd cL<|Dm ?_
   all_goals refine Sp 90 (fun h90=>?_) fun h90=>?_
   all_goals try contradiction
   all_goals first|refine Fo<|Fo<|Fo<|Fo<|Fo ?_|refine On (bL lH)<|On (bB yS)<|On (bL isAgg3)<|On (by exact bY rfl rfl rfl (cB.fn oL (hw r.clock 1 1000000 _)))<|On lI ?_
   all_goals refine Dd cL<|Dm ?_
   all_goals refine Sp 97 (fun h97=>?_) fun h97=>?_
   all_goals try contradiction
   all_goals first|refine Fo<|Fo<|Fo<|Fo ?_|refine On (bB yR)<|On (bL isAgg9)<|On (by exact aB rfl rfl mC rfl (hnm _))<|On lI ?_
   all_goals refine Dd cL<|Dm ?_
   all_goals refine Sp 103 (fun h103=>?_) fun h103=>?_
   all_goals try contradiction
   all_goals first|refine Fo<|Fo<|Fo<|Fo ?_|refine On (bB oG)<|On (bL aJ)<|On (fW aD)<|On mU ?_
   all_goals refine Dd cL<|Dm ?_
   all_goals refine Sp 109 (fun h109=>?_) fun h109=>?_
   all_goals try contradiction
   all_goals first|refine Fo<|Fo<|Fo<|Fo ?_|refine On (bB oG)<|On (bL aJ)<|On (by exact aB rfl rfl aDa rfl (hdg _))<|On lI ?_
   all_goals refine Dd cL<|Dm ?_
   all_goals refine Sp 115 (fun h115=>?_) fun h115=>?_
   all_goals try contradiction
   all_goals first|refine Fo<|Fo ?_|refine On aI<|On lI ?_
   all_goals refine Dd cL<|Zz ?_
   all_goals(exact⟨⟨_,rfl,by first|(rw [LZ,hin,h83];rfl)|(rw [LZ,hin,h83,h90];rfl)|(rw [LZ,hin,h83,h90,h97];rfl)|(rw [LZ,hin,h83,h90,h97,h103];rfl)|(rw [LZ,hin,h83,h90,h97,h103,h109];rfl)|(rw [LZ,hin,h83,h90,h97,h103,h109,h115];rfl)⟩,rfl,rfl,rfl⟩)
  refine Cn ?_ ?_<;>intro hc3
  ·rw [W2 hc3];exact Sr<|Dd aP<|Zz<|aC<|Rt<|Qq
  have h2:=hc3;obtain ⟨tx,htxe⟩:∃ tx,tx=(jM r.edits).1:=⟨_,rfl⟩;obtain ⟨tb,htbe⟩:∃ tb,tb=(jM r.edits).2:=⟨_,rfl⟩;rw [← htxe,← htbe] at htx;refine aE<|Sq<|Sr<|Dd (bB BK)<|Dd (bL mK)<|Dd (by exact aB rfl rfl call76 rfl (htx _))<|Dd aI<|Dd eS<|Dd eS<|Dd aP<|Dd aP<|Zz<|Sr<|Dd aI<|Dd lI<|Zz ?_;refine Cn ?_ ?_<;>intro hc4
  ·have hb:tb=false:=by have:=hc4;cases tb;rfl;cases this
   rw [aDn (htbe.symm.trans hb)];exact Sr<|Dd aP<|Zz<|aC<|Rt<|Qq
  have hb:tb=true:=by have:=hc4;cases tb;cases this;rfl
  have h3:(jM r.edits).2=true:=htbe.symm.trans hb;have hyes:=fun h4=>aDm h1 h2 h3 h4;clear htxe htbe;refine aE<|Sr<|Dd aP<|Dd aP<|Dd aP<|Dd aP<|Da ?_;refine BT (fun(p:W5)=>([(1,.ref 1 0 0 0),(3,.ref 3 0 0 0),(10,sv p.1),(11,bv p.2.1),(12,iv p.2.2.1),(13,sv p.2.2.2.1),(14,bv p.2.2.2.2)],[(5,bx 7 28 ((kR r.priv).map .pv)),(3,wiO),(1,bx 21 30 ((bP r).map .pv))])) (fun p=>KN r=true∧p=wQ r) ?_ ?_
  ·refine Sr<|Dd (bB BL)<|Dd (bL isAgg3)<|Zz<|aF<|Sr<|Dd dC<|Da ?_;refine Cn ?_ ?_<;>intro hc5
   ·have hk:=aIV (aLL hc5);refine Rg<|Da ?_;exact⟨_,hk,(cC.wk (Ea<|Ea<|Eb<|Eb<|Eb<|Eb<|Eb<|trivial) (Hb<|Hc (sG _)<|Hb<|trivial) trivial)⟩
   have hk1:=aLM hc5;refine Sr<|Dd dC<|Da ?_;refine Cn ?_ ?_<;>intro hc6
   ·have hk:=aIU (aLL hc6);refine aQ follows<|Cq (bB yQ)<|Cq (bL isAgg9)<|Cq (bB EX)<|Cq (bL rZ)<|Cq aP<|Cq aP<|bJ<|Kr ?_;exact⟨_,hk,(cC.wk (Ea<|Ea<|Eb<|Eb<|Eb<|Eb<|Eb<|trivial) (Hb<|Hc (sG _)<|Hb<|trivial) trivial)⟩
   have hk2:=aLM hc6;refine Sr<|Dd dC<|Da ?_;refine Cn ?_ ?_<;>intro hc7
   ·have hk3:=aLL hc7;refine Sq<|aQ follows<|Cq (bB yQ)<|Cq (bL isAgg9)<|Cq (bB BJ)<|Cq (bL isAgg3)<|Cq (bB BJ)<|Cq (bL isAgg3)<|Cq dC<|Cq aP<|Cq aP<|Cq aP<|bJ<|Kr<|Sr<|Dd (bL lH)<|Dd aI<|Dd (by exact bY rfl rfl rfl (cB.fn oL (hw r.order 1 4 _)))<|Dd lI<|Zz ?_;refine Cn ?_ ?_<;>intro hc8
    ·have hk:mY r.order 1 4=false:=by have:=hc8;revert this;cases mY r.order 1 4<;>simp
     rw [OC (by rw [KN,aLO hk3];exact hk)];exact Sr<|Dd aP<|Zz<|aC<|Rt<|Qq
    have hk:=aIT hk3 (by have:=hc8;revert this;cases mY r.order 1 4<;>simp);refine aE ?_;exact⟨_,hk,(cC.wk (Ea<|Ea<|Eb<|Eb<|Eb<|Eb<|Eb<|trivial) (Hb<|Hc (sG _)<|Hb<|trivial) trivial)⟩
   have hk3:=aLM hc7;refine Sr<|Dd dC<|Da ?_;refine Cn ?_ ?_<;>intro hc9
   ·have hk4:=aLL hc9;refine Sr<|Dd (bB wF)<|Dd (bL isAgg9)<|Dd aP<|Zz<|Sq ?_;refine bC (t:=162) (n:=10) (X:=!bI r.from'||decide (r.from'=r.branch)) ?_ ?_
    ·all_goals refine Dd aI ?_
     all_goals refine Dd (by exact aB rfl rfl mC rfl (hnf _))<|Dd lI<|Dm ?_
     all_goals refine Sp 157 (fun h157=>?_) fun h157=>?_
     all_goals try contradiction
     all_goals first|refine Fo<|Fo<|Fo<|Fo ?_|refine On aI<|On (bB yR)<|On (bL isAgg9)<|On AJ ?_
     all_goals refine Dd cL<|Zz ?_
     all_goals(exact⟨⟨_,rfl,by(rw [h157];rfl)⟩,rfl,rfl,rfl⟩)
    refine Cn ?_ ?_<;>intro hc10
    ·have hk:(bI r.from'&&!decide (r.from'=r.branch))=false:=by have:=hc10;revert this;cases bI r.from'<;>cases decide (r.from'=r.branch)<;>simp
     rw [OC (by rw [KN,aLN hk3,aLO hk4];exact hk)];exact Sr<|Dd aP<|Zz<|aC<|Rt<|Qq
    have hk:bI r.from'=true∧¬ r.from'=r.branch:=by have:=hc10;rw [aLb,Bool.not_eq_false',aLX] at this;exact this
    have hk:=aIS hk4 hk.1 hk.2;refine aE ?_;exact⟨_,hk,(cC.wk (Ea<|Ea<|Eb<|Eb<|Eb<|Eb<|Eb<|trivial) (Hb<|Hc (sG _)<|Hb<|trivial) trivial)⟩
   have hk4:=aLM hc9;refine Sr<|Dd dC<|Da ?_;refine Cn ?_ ?_<;>intro hc11
   ·have hk:=aIR (aLL hc11);refine aE ?_;exact⟨_,hk,(cC.wk (Ea<|Ea<|Eb<|Eb<|Eb<|Eb<|Eb<|trivial) (Hb<|Hc (sG _)<|Hb<|trivial) trivial)⟩
   have hk5:=aLM hc11;rw [OC (by rw [KN,aLN hk3,aLN hk4,decide_eq_false (by omega)])];exact Sr<|Dd aP<|Zz<|aC<|Rt<|Qq
  rintro _ ⟨h4,rfl⟩;rw [hyes h4];have hdT:=fun H=>X3 (QW r) hwt H;have hv5:v5G r=(((((decide (r.target=QW r)&&(r.yes == wYG r))&&decide (r.order=wOG r))&&decide (r.from'=wFG r))&&(decide (0 < ((r.edits.map aY).length:Int)) == wEG r))&&(!ndG r||isJ (QW r))):=rfl;rw [wQ];refine Sq ?_;refine bC (t:=15) (n:=10) (X:=ndG r) ?_ ?_
  ·all_goals refine Dd (bB BL) ?_
   all_goals refine Dd (bL isAgg3)<|Dd dC<|Dm ?_
   all_goals refine Sp 168 (fun h168=>?_) fun h168=>?_
   all_goals try contradiction
   all_goals first|refine Fo<|Fo<|Fo ?_|refine On (bB BL)<|On (bL isAgg3)<|On dC ?_
   all_goals refine Dd cL<|Da ?_
   all_goals(exact⟨⟨_,rfl,by(rw [ndG,h168];rfl)⟩,rfl,rfl,rfl⟩)
  refine Sq ?_;refine bC (t:=2) (n:=45) (X:=v5G r) ?_ ?_
  ·all_goals refine Dd (bB yQ) ?_
   all_goals refine Dd (bL isAgg9)<|Dd aI<|Dd AJ<|Dm ?_
   all_goals refine Sp 177 (fun h177=>?_) fun h177=>?_
   all_goals try contradiction
   all_goals first|refine Fo<|Fo<|Fo<|Fo ?_|refine On (bB EX)<|On (bL rZ)<|On aI<|On (by exact IZ rfl dN rfl rfl) ?_
   all_goals refine Dd cL<|Dm ?_
   all_goals refine Sp 183 (fun h183=>?_) fun h183=>?_
   all_goals try contradiction
   all_goals first|refine Fo<|Fo<|Fo<|Fo ?_|refine On (bB BJ)<|On (bL isAgg3)<|On aI<|On dC ?_
   all_goals refine Dd cL<|Dm ?_
   all_goals refine Sp 189 (fun h189=>?_) fun h189=>?_
   all_goals try contradiction
   all_goals first|refine Fo<|Fo<|Fo<|Fo ?_|refine On (bB wF)<|On (bL isAgg9)<|On aI<|On AJ ?_
   all_goals refine Dd cL<|Dm ?_
   all_goals refine Sp 195 (fun h195=>?_) fun h195=>?_
   all_goals try contradiction
   all_goals first|refine Fo<|Fo<|Fo<|Fo<|Fo<|Fo ?_|refine On (bB BK)<|On (bL mK)<|On (fW dD)<|On mU<|On aI<|On (by exact IZ rfl dN rfl rfl) ?_
   all_goals refine Dd cL<|Dm ?_
   all_goals refine Sp 203 (fun h203=>?_) fun h203=>?_
   all_goals try contradiction
   all_goals first|refine Fo<|Fo<|Fo ?_|refine On aI<|On lI<|On aI ?_
   all_goals(first|refine Sp 206 (fun h206=>?_) fun h206=>?_|refine wO (t:=206) rfl ?_)
   all_goals try contradiction
   all_goals first|refine Fo ?_|refine Fu ?_|refine On aI ?_
   all_goals first|refine Fo ?_|refine Fu ?_|refine On (by exact aB rfl rfl aDb rfl (hdT _)) ?_
   all_goals first|refine Fo ?_|refine On cL ?_
   all_goals refine Dd cL<|Da ?_
   all_goals(exact⟨⟨_,rfl,by first|(rw [hv5,h177];rfl)|(rw [hv5,h177,h183];rfl)|(rw [hv5,h177,h183,h189];rfl)|(rw [hv5,h177,h183,h189,h195];rfl)|(rw [hv5,h177,h183,h189,h195,h203];rfl)|(rw [hv5,h177,h183,h189,h195,h203,h206];rfl)⟩,rfl,rfl,rfl⟩)
  exact aC<|Rt<|Qq
end Go.Proofs.YtiifmppaejpemaaGreatDoor
namespace Go.Proofs.YtiifmppaejpemaaGreatDoor
open Go.Proofs.Tryz
open Go.Abs Go.Lib
structure FSeal (s:GSeal):Prop where
 i0:0≤s.idx
 i1:s.idx < 256
 sl:s.sig.length≤18
 pl:s.path.length≤8
 sa:∀ t∈s.sig,isJ t=true
 pa:∀ t∈s.path,isJ t=true
theorem TV {s:GSeal} (h:sE s=true):s=⟨0,[],[]⟩:=by rw [sE,aLY,aLW,aLW,aLP,aLP] at h;obtain ⟨i,a,b⟩:=s;obtain ⟨h1,h2⟩:=h;simp only at h1 h2;have ha:a=[]:=List.eq_nil_of_length_eq_zero (by omega);have hb:b=[]:=List.eq_nil_of_length_eq_zero (by omega);subst h1 ha hb;rfl
theorem jT {s:GSeal} (h:iY s=true):FSeal s:=by
 rw [iY,Bool.or_eq_true] at h;rcases h with h|h
 ·have:=TV h;subst this;exact⟨by decide,by decide,by decide,by decide,by simp,by simp⟩
 simp only [aLY,aLW,aLP,List.all_eq_true] at h;obtain ⟨⟨⟨⟨⟨h1,h2⟩,h3⟩,h4⟩,h5⟩,h6⟩:=h;exact⟨h1,h2,by omega,by omega,h5,h6⟩
structure VF (r:GRec):Prop where
 tr:∀ q∈r.priv.trace,(0≤q.1∧q.1≤1048575)∧(0≤q.2∧q.2≤1048575)
 nm:r.priv.name.size≤200
 rs:r.priv.reason.size≤200
 so:∀ s∈r.priv.sources,s.size≤200
 sol:r.priv.sources.length≤16
 trl:r.priv.trace.length≤200
 psl:iY r.priv.sl=true
 sl:iY r.sl=true
 au:0≤r.author∧r.author≤59
 nu:1≤r.number∧r.number≤128
 cl:1≤r.clock∧r.clock≤1000000
 br:bI r.branch=true
 pal:r.parents.length≤16
 pa:∀ p∈r.parents,isJ p=true
 inc:aHX r.parents=true
 tx:(jM r.edits).2=true
 k:KN r=true
 ta:r.target=QW r
 ye:r.yes=wYG r
 od:r.order=wOG r
 fr:r.from'=wFG r
 ed:decide (0 < r.edits.length)=wEG r
 nd:ndG r=true→isJ (QW r)=true
theorem PG {s:ByteArray}:FY s=false↔s.size≤200:=by rw [FY,aLX];omega
theorem oW {r:GRec} (h:cU r=true):VF r:=by
 simp only [cU,aLY,aL8] at h;obtain ⟨⟨⟨⟨h1,h2⟩,h3⟩,h4⟩,h5⟩:=h;simp only [YZ,aLb,Bool.not_eq_false',aL8,aLX,aLP,List.any_eq_false,Bool.not_eq_true] at h1;obtain ⟨⟨⟨⟨⟨⟨a1,a2⟩,a3⟩,a4⟩,a5⟩,a6⟩,a7⟩:=h1;simp only [LZ,aLb,Bool.not_eq_false',aLX,aLP,List.all_eq_true,mY,aLY,aLW] at h2;obtain ⟨⟨⟨⟨⟨⟨b1,b2⟩,b3⟩,b4⟩,b5⟩,b6⟩,b7⟩:=h2;simp only [v5G,aLY,aLW,beq_iff_eq,aLP,Bool.or_eq_true,aL8] at h5;obtain ⟨⟨⟨⟨⟨c1,c2⟩,c3⟩,c4⟩,c5⟩,c6⟩:=h5;refine⟨fun q hq=>?_,PG.1 (a2 _ (by simp)),PG.1 (a2 _ (by simp)),fun s hs=>PG.1 (a3 s hs),by omega,by omega,a6,a7,b1,b2,b3,b4,by omega,b6,b7,h3,h4,c1,c2,c3,c4,?_,fun hn=>?_⟩
 ·have:=a1 q hq;simp only [PC,aLb,Bool.not_eq_false',aLY,aLW] at this;exact this
 ·rw [← c5];congr 1;exact propext ⟨fun h=>by omega,fun h=>by omega⟩
 rcases c6 with h|h
 ·rw [hn] at h;cases h
 exact h
theorem NB {r:GRec} (h:KN r=true):1≤r.kind∧r.kind≤5:=by
 rw [KN] at h
 split at h
 ·omega
 split at h
 ·omega
 exact aLL h
theorem EM {s:ByteArray} (h:bI s=true):s.size≤24:=by simp only [bI,aLY,aLW] at h;omega
theorem T4 {l:List GEdit} (h:(fX l).2=0):(fX l).1.size≤20000:=by
 have h2:=FR h;rw [kN] at h2
 split at h2
 ·have:=congrArg Prod.snd h2;cases this
 omega
theorem HY {l:List GEdit} (h:(jM l).2=true):(jM l).1.size≤20000:=by
 rw [jM] at h ⊢
 split at h
 ·next h0 =>
  rw [aLO h0];exact(by decide:(0:Nat)≤20000)
 next h0 =>
 rw [aLN h0];exact T4 (aLL h)
theorem qH {s:ByteArray} (h:isJ s=true):s.size≤16:=Nat.le_of_eq (rJ h)
theorem VF.target {r:GRec} (h:VF r):r.target.size≤16:=by
 rw [h.ta];by_cases hn:ndG r=true
 ·exact qH (h.nd hn)
 have:QW r=sNil:=by
  rw [QW,aLN];rintro(e|e)<;>simp [ndG,e] at hn
 rw [this];decide
theorem VF.from {r:GRec} (h:VF r):r.from'.size≤24:=by
 rw [h.fr,wFG]
 split
 ·next e =>
  have hk:=h.k;rw [KN,aLN (by omega),aLO e,aLY] at hk;exact EM hk.1
 decide
theorem VF.order {r:GRec} (h:VF r):0≤r.order∧r.order≤4:=by
 rw [h.od,wOG]
 split
 ·next e =>
  have hk:=h.k;rw [KN,aLO e,mY,aLY,aLW,aLW] at hk;omega
 decide
def TL (p:GPriv):List IV:=[.t p.name,.t p.reason,.l p.sources,.p p.trace]
def CD (r:GRec):List IV:=[.z r.sl.idx r.sl.sig r.sl.path,.t r.priv.name,.t r.priv.reason,.l r.priv.sources,.p r.priv.trace,.z r.priv.sl.idx r.priv.sl.sig r.priv.sl.path]
def qN (r:GRec):List ByteArray:=nU r++tJ (CD r)
def oE (r:GRec):ByteArray:=if cU r=true then xK (nU r)else sNil
def nA (r:GRec):ByteArray×Int:=if cU r=true then(if 20000 < (aO (qN r)).length then(sNil,2)else(ofL (aO (qN r)),0))else(sNil,1)
def prW:ByteArray:=⟨#[112,114,105,118,97,116,101]⟩
def pS (r:GRec):ByteArray:=xK ([prW,oE r]++tJ (TL r.priv))
def le2 (x:ByteArray):Prop:=x.size≤20000
theorem lY {n:Int} (h0 : -9223372036854775808≤n) (h1:n≤9223372036854775807):le2 (bK n):=Nat.le_trans (mG h0 h1) (by decide)
theorem CY {n:Nat} (h:n < 1099511627776):le2 (bK (n:Int)):=lY (by omega) (by omega)
theorem RD {s:GSeal} (h:FSeal s):∀ x∈fI (.z s.idx s.sig s.path),le2 x:=by
 intro x hx;have i0:=h.i0;have i1:=h.i1;have l1:=h.sl;have l2:=h.pl;simp only [fI,aL1,List.mem_append] at hx;rcases hx with rfl|(rfl|hx)|(rfl|hx)
 ·exact lY (by omega) (by omega)
 ·exact CY (by omega)
 ·exact Nat.le_trans (qH (h.sa x hx)) (by decide)
 ·exact CY (by omega)
 exact Nat.le_trans (qH (h.pa x hx)) (by decide)
theorem RC {s:GSeal} (h:FSeal s):(fI (.z s.idx s.sig s.path)).length≤29:=by have l1:=h.sl;have l2:=h.pl;simp only [fI,aLR,aLQ];omega
theorem XL {r:GRec} (h:VF r):∀ x∈nU r,le2 x:=by
 intro x hx;obtain ⟨v,hv,hx⟩:=List.mem_flatMap.1 hx;have hk:=NB h.k;have h1:=h.au;have h2:=h.nu;have h3:=h.cl;have h4:=h.order;have hn:=EM h.br;have ht:=h.target;have hf:=h.from
 have hl:=h.pal;simp only [D9,aL1,aL5,or_false] at hv;rcases hv with rfl|rfl|rfl|rfl|rfl|rfl|rfl|rfl|rfl|rfl|rfl|rfl<;>simp only [fI,aL1,aL5,or_false] at hx
 ·subst hx;exact(by decide:UN.size≤20000)
 ·subst hx;exact lY (by omega) (by omega)
 ·subst hx;exact lY (by omega) (by omega)
 ·subst hx;exact lY (by omega) (by omega)
 ·subst hx;exact lY (by omega) (by omega)
 ·subst hx;exact Nat.le_trans hn (by decide)
 ·rcases hx with rfl|hx
  ·exact CY (by omega)
  exact Nat.le_trans (qH (h.pa x hx)) (by decide)
 ·subst hx;exact HY h.tx
 ·subst hx;exact Nat.le_trans ht (by decide)
 ·subst hx;split<;>exact lY (by decide) (by decide)
 ·subst hx;exact lY (by omega) (by omega)
 subst hx;exact Nat.le_trans hf (by decide)
theorem OW {r:GRec} (h:VF r):(nU r).length≤28:=by have:=h.pal;rw [nU,RL];omega
theorem aB7 {r:GRec} (h:VF r):∀ x∈tJ (TL r.priv),le2 x:=by
 intro x hx;obtain ⟨v,hv,hx⟩:=List.mem_flatMap.1 hx;have h1:=h.nm;have h2:=h.rs;have h3:=h.sol;have h4:=h.trl;simp only [TL,aL1,aL5,or_false] at hv;rcases hv with rfl|rfl|rfl|rfl<;>simp only [fI,aL1,aL5,or_false,List.mem_flatMap] at hx
 ·subst hx;exact Nat.le_trans h1 (by decide)
 ·subst hx;exact Nat.le_trans h2 (by decide)
 ·rcases hx with rfl|hx
  ·exact CY (by omega)
  exact Nat.le_trans (h.so x hx) (by decide)
 rcases hx with rfl|⟨q,hq,hx⟩
 ·exact CY (by omega)
 obtain ⟨q1,q2⟩:=h.tr q hq;rcases hx with rfl|rfl
 ·exact lY (by omega) (by omega)
 exact lY (by omega) (by omega)
theorem aBd (ps:List (Int×Int)):(fI (.p ps)).length=1+2*ps.length:=by rw [show fI (.p ps)=bK (ps.length:Int)::KM ps from rfl,aLR,GX];omega
theorem aB6 {r:GRec} (h:VF r):(tJ (TL r.priv)).length≤420:=by have h3:=h.sol;have h4:=h.trl;have:=aBd r.priv.trace;simp only [tJ,TL,List.flatMap_cons,List.flatMap_nil,aLQ,this];simp only [fI,aLR,List.length_nil];omega
theorem aBW (r:GRec):tJ (CD r)=fI (.z r.sl.idx r.sl.sig r.sl.path)++(tJ (TL r.priv)++fI (.z r.priv.sl.idx r.priv.sl.sig r.priv.sl.path)):=by simp [tJ,CD,TL,List.flatMap_cons]
theorem aES {r:GRec} (h:VF r):∀ x∈tJ (CD r),le2 x:=by
 intro x hx;rw [aBW] at hx;rcases List.mem_append.1 hx with hx|hx
 ·exact RD (jT h.sl) x hx
 rcases List.mem_append.1 hx with hx|hx
 ·exact aB7 h x hx
 exact RD (jT h.psl) x hx
theorem XF {r:GRec} (h:VF r):(tJ (CD r)).length≤478:=by have h1:=RC (jT h.sl);have h2:=RC (jT h.psl);have h3:=aB6 h;rw [aBW,aLQ,aLQ];omega
theorem wA {M:Nat} (hM:M < 1000000000000000000):∀ (L:List ByteArray),(∀ s∈L,s.size≤M)→(aO L).length≤L.length*(M+22)
 | [],_=>aL6 _
 | s::L,h=>by
  have ih:=wA hM L fun x hx=>h x (List.mem_cons_of_mem _ hx);have hs:=h s List.mem_cons_self;have hi:=mG (n:=(s.size:Int)) (by omega) (by omega);rw [show aO (s::L)=(lP s).data.toList++aO L by rw [aO,List.flatMap_cons];rfl,aLQ,kY,mQ,aLR,Nat.succ_mul];omega
theorem BE {L:List ByteArray} (h:∀ x∈L,le2 x) {n:Nat} (hn:L.length≤n):(aO L).length≤n*20022:=Nat.le_trans (wA (M:=20000) (by decide) L h) (Nat.mul_le_mul_right _ hn)
end Go.Proofs.YtiifmppaejpemaaGreatDoor
namespace Go.Abs
theorem aG.fin {P:Program} {f:FuncId} {args:List AV} {H:aA} {Q Q':AV→aA→Prop} (h:aG P f args H Q) (hq:∀ r H1,Q r H1→∃ r' H2,Fin H H1 r H2 r'∧Q' r' H2):aG P f args H Q' :=fun I ι w vs hr hl hv=>(h I ι w vs hr hl hv).mono fun _ w' ⟨r,H',I',ι',v,e,q,k1,k2,k3⟩=>by
  obtain ⟨r',H2,hf,hq'⟩:=hq r H' q;obtain ⟨I2,ι2,a1,a2,a3⟩:=hf ⟨I,ι,H,w,[]⟩ rfl I' ι' w' v k2 k3 k1;exact⟨r',H2,I2,ι2,v,e,hq',a3,a1,a2⟩
end Go.Abs
namespace Go.Proofs.YtiifmppaejpemaaGreatDoor
open Go.Proofs.Tryz
open Go.Abs
theorem not_not {b:Bool} (h:(!b)=true):b=false:=by cases b;rfl;cases h
theorem zV {b:Bool} (h:(!b)=false):b=true:=by cases b;cases h;rfl
theorem qT {α:Type} (f:α→List PV) (l:List α):((l.map f).take (0+l.length)).drop 0=l.map f:=by rw [aL7,List.drop_zero];exact List.take_of_length_le (by rw [aLP];exact aLV _)
theorem S0 (l:List ByteArray):pU ⟨(aO l).toArray⟩=xK l:=rfl
theorem ZO (r:GRec) (hr:gQ r) (hp:r.parents.length < 549755813888) (H:aA):aG Tryz.prog 45 [av (bP r)] H (fun x H'=>x=.pv (aU (nU r))∧H'=H):=by refine aG.pure ((MS r hr hp).fin ?_) (by simp [bP]) H;rintro _ _ ⟨rfl,rfl⟩;exact⟨_,[],Fin.fz (id:=971) (ob:=⟨RM r,1,9,dO (nU r)⟩) ((nU r).map encStr) rfl (fU _) (.osl (qT encStr _)) rfl trivial trivial,rfl,rfl⟩
theorem ZP (r:GRec) (hr:gQ r) (hp:r.parents.length < 549755813888) {H:aA} (hno:H.get 971=none):aG Tryz.prog 45 [av (bP r)] H (fun x H'=>x=.osl 971 (RM r) 0 (nU r).length∧H'=(971,⟨RM r,1,9,dO (nU r)⟩)::H) :=aG.frame (MS r hr hp) (fun _ _ h=>by cases h) (fun _ _ h=>by cases h) (by simp [bP]) (fun id h=>.inr (by
  by_cases e:971=id
  ·subst e;exact hno
  simp [aA.get,jA e] at h))
theorem F4 (r:GRec) (hr:gQ r) (hp:r.parents.length < 549755813888) (H:aA):aG Tryz.prog 19 [av (bP r)] H (fun x H'=>x=sv (oE r)∧H'=H):=by
 refine aG.pure ?_ (by simp [bP]) H;have hv:=fun H=>zL r hr hp H;have hpu:=fun H=>ZO r hr hp H;rw [oE];refine Bd func19 rfl ntmps19<|Sr<|Dd (by exact bZ (id:=1) rfl rfl rfl rfl rfl)<|Dd aP<|Zz<|Sq<|Sr<|Dd (pN aR aM)<|Dd (by exact aB rfl rfl DY rfl (hv _))<|Dd lI<|Zz ?_;refine Cn ?_ ?_<;>intro hc1
 ·have hb:=not_not hc1;rw [aLN (by rw [hb];decide)];exact Sr<|Dd aP<|Zz<|aC<|Rt<|Qq
 have hb:=zV hc1;have hf:=oW hb;have hsz:=BE (XL hf) (OW hf);rw [aLO hb];have hjo:=fun H=>NC (nU r) H (by omega);have hsu:=fun H=>Q2 ⟨(aO (nU r)).toArray⟩ H (by rw [show (⟨(aO (nU r)).toArray⟩:ByteArray).size=(aO (nU r)).length from by simp [ByteArray.size]];omega);rw [S0] at hsu;exact aE<|Sr<|Dd (pN aR aM)<|Dd (by exact aB rfl rfl call45 rfl (hpu _))<|Dd (by exact aB rfl rfl call47 rfl (hjo _))<|Dd (by exact aB rfl rfl QL rfl (hsu _))<|Dd aP<|Zz<|aC<|Rt<|Qq
theorem aET {r:GRec} (h:gQ r) (hv:VF r):∀ v∈CD r,okI v:=by
 obtain ⟨_,_,_,_,⟨a1,a2,a3⟩,b1,b2,b3,b4,c1,c2,c3⟩:=h;intro v hv';simp only [CD,aL1,aL5,or_false] at hv';rcases hv' with rfl|rfl|rfl|rfl|rfl|rfl
 ·exact⟨a1,a2.1,a3.1⟩
 ·exact trivial
 ·exact trivial
 ·exact b3.1
 ·exact⟨b4,fun q hq=>by
   obtain ⟨⟨q1,q2⟩,q3,q4⟩:=hv.tr q hq;exact⟨⟨by omega,by omega⟩,by omega,by omega⟩⟩
 exact⟨c1,c2.1,c3.1⟩
theorem aGg {r:GRec} (h:gQ r) (hv:VF r):∀ v∈TL r.priv,okI v:=by
 obtain ⟨_,_,_,_,_,b1,b2,b3,b4,c1,c2,c3⟩:=h;intro v hv';simp only [TL,aL1,aL5,or_false] at hv';rcases hv' with rfl|rfl|rfl|rfl
 ·exact trivial
 ·exact trivial
 ·exact b3.1
 exact⟨b4,fun q hq=>by
  obtain ⟨⟨q1,q2⟩,q3,q4⟩:=hv.tr q hq;exact⟨⟨by omega,by omega⟩,by omega,by omega⟩⟩
theorem OF (r:GRec) (hr:gQ r) (hp:r.parents.length < 549755813888) (H:aA):aG Tryz.prog 13 [av (bP r)] H (fun x H'=>x=.tup [sv (nA r).1,iv (nA r).2]∧H'=H):=by
 refine aG.pure ?_ (by simp [bP]) H;have hv:=fun H=>zL r hr hp H;have hpu:=fun H hno=>ZP r hr hp (H:=H) hno;rw [nA];refine Bd func13 rfl ntmps13<|Sr<|Dd (by exact bZ (id:=1) rfl rfl rfl rfl rfl)<|Dd aP<|Dd aP<|Zz<|Sq<|Sr<|Dd (pN aR aM)<|Dd (by exact aB rfl rfl DY rfl (hv _))<|Dd lI<|Zz ?_;refine Cn ?_ ?_<;>intro hc1
 ·have hb:=not_not hc1;rw [aLN (by rw [hb];decide)];exact Sr<|Dd aP<|Dd aP<|Zz<|aC<|Ru<|Qq
 have hb:=zV hc1;have hf:=oW hb;have hsz:=BE (L:=qN r) (n:=506) (fun x hx=>(List.mem_append.1 hx).elim (XL hf x) (aES hf x)) (by
  have:=OW hf;have:=XF hf;rw [qN,aLQ];omega)
 have hpl:=OW hf;have hsl:=XF hf;rw [aLO hb];have hadd:=WO (CD r) (aET hr hf) (RM r) (nU r) (show 6 < 1099511627776 by decide) (by omega);have hjo:=fun H=>NC (qN r) H (by omega);have hal:qN r=nU r++tJ (CD r):=rfl;rw [← hal] at hadd;obtain ⟨S,hS⟩:∃ S,S=qN r:=⟨_,rfl⟩;obtain ⟨g,hg⟩:∃ g,g=RM r+VU (CD r):=⟨_,rfl⟩;rw [← hS] at hadd hjo hsz ⊢;rw [← hg] at hadd;have hof:(⟨(aO S).toArray⟩:ByteArray)=ofL (aO S):=rfl;rw [hof] at hjo;have hos:(ofL (aO S)).size=(aO S).length:=fY _;refine aE<|Sr<|Dd (pN aR aM)<|Dd (by exact aB rfl rfl call45 rfl (hpu _ rfl))<|Dd (by exact bE (id:=970) rfl aIF rfl rfl)<|Uu (jK FG)<|Zz<|Sr<|Dd (bB iP)<|Dd (pN dX sizeOf25)<|Dd (by exact CP (ps:=fA r.sl) rfl (cF fC rfl) rfl)<|Dd (bB eJ)<|Dd (bB BN)<|Dd (bL isAgg9)<|Dd (by exact eC (p:=.str r.priv.name) rfl (cF underlying9 rfl) rfl)<|Dd (bB eJ)<|Dd (bB BM)<|Dd (bL isAgg9)<|Dd (by exact eC (p:=.str r.priv.reason) rfl (cF underlying9 rfl) rfl)<|Dd (bB eJ)<|Dd (bB yU)<|Dd (bL aJ)<|Dd (by exact eC (p:=aU r.priv.sources) rfl (cF aD rfl) rfl)<|Dd (bB eJ)<|Dd (bB rN)<|Dd (bL jD)<|Dd (by exact eC (p:=oZ r.priv.trace) rfl (cF dP rfl) rfl) ?_;refine Dd (bB eJ)<|Dd (bB nN)<|Dd (pN dX sizeOf25)<|Dd (by exact CP (ps:=fA r.priv.sl) rfl (cF fC rfl) rfl)<|Dd (by exact aS ((CD r).map tK) rfl sJ rfl rfl rfl rfl rfl (J0 (CD r)))<|Dd (by exact aB rfl rfl sA rfl (TH hadd ⟨rfl,rfl,trivial⟩ (by simp;rfl)))<|Zz<|Sq ?_;refine fE.ent (cC.fzG (id:=971) (E':=[(4,.ref 970 0 0 0)]) (H':=[(970,bx 1 77 [.pv (aU S)])]) (S.map encStr) rfl (fU _) ?_ rfl ?_ ?_) ?_
 ·intro p hp;simp only [aL1,aL5,or_false] at hp;rcases hp with rfl;exact⟨_,rfl,.same (by simp;rfl)⟩
 ·exact⟨⟨_,rfl,rfl,rfl,rfl,nL rfl (cH (.osl (qT encStr _)) nM)⟩,trivial⟩
 ·exact trivial
 refine Rg<|Dd (bL AM)<|Dd (by exact aB rfl rfl call47 rfl (hjo _))<|Dd aP<|Zz<|Sq<|Sr<|Dd aI<|Dd (nV underlying9)<|Dd mU<|Zz ?_;refine Cn ?_ ?_<;>intro hc2
 ·have hlt:20000 < (aO S).length:=by have:=aLL hc2;omega
  rw [aLO hlt];exact Sr<|Dd aP<|Dd aP<|Zz<|aC<|Ru<|Qq
 have hlt:¬ 20000 < (aO S).length:=by have:=aLM hc2;omega
 rw [aLN hlt];exact aE<|Sr<|Dd aI<|Dd aP<|Dd aP<|Zz<|aC<|Ru<|Qq
theorem HD (r:GRec):(oE r).size≤20000:=by
 by_cases h:cU r=true
 ·rw [oE,aLO h];exact Nat.le_trans (Nat.le_of_eq (iL _)) (by decide)
 rw [oE,aLN h];decide
theorem M6 (r:GRec) (hr:gQ r) (hp:r.parents.length < 549755813888) (hb:cU r=true) (H:aA):aG Tryz.prog 85 [av (bP r)] H (fun x H'=>x=sv (pS r)∧H'=H):=by
 refine aG.pure ?_ (by simp [bP]) H;have hid:=fun H=>F4 r hr hp H;have hf:=oW hb;have hpl:=aB6 hf;have hadd:=WO (TL r.priv) (aGg hr hf) 0 [prW,oE r] (show 4 < 1099511627776 by decide) (by simp only [aLR,List.length_nil];omega);have his:=HD r;have hsz:=BE (L:=[prW,oE r]++tJ (TL r.priv)) (n:=422) (fun x hx=>(List.mem_append.1 hx).elim (fun hx=>by
   simp only [aL1,aL5,or_false] at hx;rcases hx with rfl|rfl
   ·exact(by decide:prW.size≤20000)
   exact his) (aB7 hf x)) (by rw [aLQ,aLR,aLR,List.length_nil];omega)
 rw [pS];have hli:=fun H=>aCL ([prW,oE r]++tJ (TL r.priv)) H (by omega);obtain ⟨S,hS⟩:∃ S,S=[prW,oE r]++tJ (TL r.priv):=⟨_,rfl⟩;obtain ⟨g,hg⟩:∃ g,g=0+VU (TL r.priv):=⟨_,rfl⟩;rw [← hS] at hadd hli ⊢;rw [← hg] at hadd;obtain ⟨i,hi⟩:∃ i,i=oE r:=⟨_,rfl⟩;rw [← hi] at hid hadd;refine Bd func85 rfl ntmps85<|Sr<|Dd (by exact bZ (id:=1) rfl rfl rfl rfl rfl)<|Dd aP<|Zz<|Sr<|Dd (pN aR aM)<|Dd (by exact aB rfl rfl mD rfl (hid _))<|Dd (by exact tX (id:=971) rfl UD rfl rfl rfl rfl (by intro r hr;simp only [aL1,aL5,or_false] at hr;rcases hr with rfl|rfl<;>rfl) rfl)<|Dd (by exact bE (id:=970) rfl aIF rfl rfl)<|Uu (jK FG)<|Zz<|Sr<|Dd (bB eJ)<|Dd (bB BN)<|Dd (bL isAgg9)<|Dd (by exact eC (p:=.str r.priv.name) rfl (cF underlying9 rfl) rfl)<|Dd (bB eJ)<|Dd (bB BM)<|Dd (bL isAgg9)<|Dd (by exact eC (p:=.str r.priv.reason) rfl (cF underlying9 rfl) rfl)<|Dd (bB eJ)<|Dd (bB yU)<|Dd (bL aJ)<|Dd (by exact eC (p:=aU r.priv.sources) rfl (cF aD rfl) rfl) ?_;refine Dd (bB eJ)<|Dd (bB rN)<|Dd (bL jD)<|Dd (by exact eC (p:=oZ r.priv.trace) rfl (cF dP rfl) rfl)<|Dd (by exact aS ((TL r.priv).map tK) rfl sJ rfl rfl rfl rfl rfl (J0 (TL r.priv)))<|Dd (by exact aB rfl rfl sA rfl (TH hadd ⟨rfl,rfl,trivial⟩ (by simp;rfl)))<|Zz<|Sq ?_;refine fE.ent (cC.fzG (id:=971) (E':=[(3,.ref 970 0 0 0)]) (H':=[(970,bx 1 77 [.pv (aU S)])]) (S.map encStr) rfl (fU _) ?_ rfl ?_ ?_) ?_
 ·intro p hp;simp only [aL1,aL5,or_false] at hp;rcases hp with rfl;exact⟨_,rfl,.same (by simp;rfl)⟩
 ·exact⟨⟨_,rfl,rfl,rfl,rfl,nL rfl (cH (.osl (qT encStr _)) nM)⟩,trivial⟩
 ·exact trivial
 exact Rg<|Dd (bL AM)<|Dd (by exact aB rfl rfl call133 rfl (hli _))<|Dd aP<|Zz<|aC<|Rt<|Qq
def lG (r:GRec):GRec:={r with priv:=⟨sNil,sNil,[],[],⟨0,[],[]⟩⟩}
theorem P8 (r:GRec) (H:aA):aG Tryz.prog 24 [av (bP r)] H (fun x H'=>x=av (bP (lG r))∧H'=H):=by refine aG.pure ?_ (by simp [bP]) H;refine Bd func24 rfl ntmps24<|Sr<|Dd (by exact bZ (id:=1) rfl rfl rfl rfl rfl)<|Dd (by exact bE (id:=2) rfl B5 rfl rfl)<|Zz<|Sr<|Dd (uS aHg)<|Dd (bB eJ)<|Uu (by exact iC rfl sizeOf28 rfl rfl rfl rfl rfl rfl rfl (aL2 rfl) rfl rfl)<|Zz<|Sr<|Dd (pN aR aM)<|Uu (jK aM)<|Zz<|aC ?_;refine dF (H':=[]) (.inr rfl) rfl (eU rfl aR aM rfl rfl rfl (by simp only [Zl,encStr];rfl) rfl) (Fin.wk (by simp [bP]) trivial trivial) ?_;exact Qq
end Go.Proofs.YtiifmppaejpemaaGreatDoor
namespace Go.Abs
section
abbrev DZ:=List PanicEntry
def xP (P:Program) (N:Nat) (o:Oper) (E:bN) (H:aA) (R:AV→aA→Prop) (PP:DZ→aA→Prop):Prop :=∀ (a:Act) (w:World) (I:Nat→Prop) (ι:dR),a.tmps.size=N→Rel I ι H w→gO w I ι H E a→∀ (K:Act→World→Prop) (Q:Exit→Act→World→Prop),
  (∀ c w' I' ι' r H',R r H'→VRel w' I' ι' H' c r→Rel I' ι' H' w'→Step I ι H w I' ι' H' w'→K (a.put o.dst c) w') →
  (∀ ch w' I' ι' H',PP ch H'→Rel I' ι' H' w'→Step I ι H w I' ι' H' w'→Q (.panic ch) a w')→o.wpW P a w K Q
theorem xP.of {P:Program} {N:Nat} {o:Oper} {E:bN} {H:aA} {R:AV→aA→Prop} {PP:DZ→aA→Prop} (h:WQ P N o E H R):xP P N o E H R PP :=fun a w I ι hs hr he K Q hk _=>h a w I ι trivial hs hr he K Q hk
theorem xP.opr {P:Program} {N:Nat} {o:Oper} {E:bN} {H:aA} {R:AV→aA→Prop} (h:xP P N o E H R (fun _ _=>False)):WQ P N o E H R :=fun a w I ι _ hs hr he K Q hk=>h a w I ι hs hr he K Q hk (fun _ _ _ _ _ hf=>hf.elim)
def dW (P:Program) (f:FuncId) (args:List AV) (H:aA) (Q:AV→aA→Prop) (PP:DZ→aA→Prop):Prop :=∀ (I:Nat→Prop) (ι:dR) (w:World) (vs:Array Value),Rel I ι H w→vs.size=args.length→(∀ (i:Nat) (v:Value) (a:AV),vs[i]?=some v→args[i]?=some a→VRel w I ι H v a) →
  Calls P f vs w fun e w'=>(∃ r H' I' ι' v,e=.returned v∧Q r H'∧VRel w' I' ι' H' v r∧Rel I' ι' H' w'∧Step I ι H w I' ι' H' w')∨(∃ ch H' I' ι',e=.panicked ch∧PP ch H'∧Rel I' ι' H' w'∧Step I ι H w I' ι' H' w')
section
variable {P:Program} {f:FuncId} {args:List AV} {H:aA} {Q:AV→aA→Prop} {PP:DZ→aA→Prop}
theorem dW.of (h:aG P f args H Q):dW P f args H Q PP:=fun I ι w vs hr hl hv=>(h I ι w vs hr hl hv).mono fun _ _ h=>.inl h
theorem dW.mono {Q':AV→aA→Prop} {PP':DZ→aA→Prop} (h:dW P f args H Q PP) (hq:∀ r H',Q r H'→Q' r H') (hp:∀ ch H',PP ch H'→PP' ch H'):dW P f args H Q' PP' :=fun I ι w vs hr hl hv=>(h I ι w vs hr hl hv).mono fun _ _ h=>h.elim (fun⟨r,H',I',ι',v,e,q,rest⟩=>.inl ⟨r,H',I',ι',v,e,hq _ _ q,rest⟩) (fun⟨ch,H',I',ι',e,q,rest⟩=>.inr ⟨ch,H',I',ι',e,hp _ _ q,rest⟩)
theorem dW.calls (h:dW P f args H Q PP) (hn:∀ ch H',¬ PP ch H'):aG P f args H Q :=fun I ι w vs hr hl hv=>(h I ι w vs hr hl hv).mono fun _ _ h=>h.elim id (fun⟨ch,H',_,_,_,q,_⟩=>(hn ch H' q).elim)
end
section
variable {P:Program} {N:Nat} {o:Oper} {E:bN} {H:aA} {Q:AV→aA→Prop} {PP:DZ→aA→Prop}
theorem cW {F:FuncId} {f:Operand} {args:Array Operand} {at_:Array TypeId} {vs:List AV} (ho:o.op=.call {callee:=.value f,args:=args,argTypes:=at_}) (hf:aN E f=some (.pv (.fn F)))
  (hc:∀ (args:Array Value) (w:World),(callFunc F args).run P w=.ok (.enter F args) w) (hv:sU E args.toList=some vs) (h:dW P F vs H Q PP):xP P N o E H Q PP:=by
 intro a w I ι _ hr he K QQ hk hp;have hfv:=(aH he hf).fn_inv;obtain ⟨h1,h2⟩:=lD he (jV hv);unfold Oper.wpW execOp;simp only [ho,resolve,hfv,Deferred.ofValue,Sem.run_bind,Sem.run_pure,Result.andThen_ok,invoke,hc,Oper.uponW_enter];refine(h I ι w _ hr (by simpa using h1) (fun i v b hv hb=>h2 i v b (by simpa using hv) hb)).mono ?_;rintro e w' (⟨r,H',I',ι',v,rfl,hq,k1,k2,k3⟩|⟨ch,H',I',ι',rfl,hq,k2,k3⟩)
 ·exact hk v w' I' ι' r H' hq k1 k2 k3
 exact hp ch w' I' ι' H' hq k2 k3
theorem AP {F:FuncId} {f:Operand} {args:Array Operand} {at_:Array TypeId} {vs caps:List AV} (ho:o.op=.call {callee:=.value f,args:=args,argTypes:=at_}) (hf:aN E f=some (.clo F caps))
  (hc:∀ (args:Array Value) (w:World),(callFunc F args).run P w=.ok (.enter F args) w) (hv:sU E args.toList=some vs) (h:dW P F (vs++caps) H Q PP):xP P N o E H Q PP:=by
 intro a w I ι _ hr he K QQ hk hp;have hfv:=aH he hf;generalize hfc:a.eval f=fc at hfv;obtain ⟨h1,h2⟩:=lD he (jV hv);cases hfv with
 | @clo _ us _ hl hh =>
  unfold Oper.wpW execOp;simp only [ho,resolve,hfc,Deferred.ofValue,Sem.run_bind,Sem.run_pure,Result.andThen_ok,invoke,hc,Oper.uponW_enter,Array.empty_append];have h1':args.size=vs.length:=by simpa using h1
  refine(h I ι w _ hr (by simp [hl,h1']) (fun i v b hv hb=>?_)).mono ?_
  ·by_cases hi:i < args.size
   ·rw [Array.getElem?_append_left (by simpa using hi)] at hv;rw [List.getElem?_append_left (by omega)] at hb;exact h2 i v b (by simpa using hv) hb
   rw [Array.getElem?_append_right (by simp;omega)] at hv;rw [List.getElem?_append_right (by omega)] at hb;simp only [Array.size_map] at hv;rw [h1'] at hv;exact hh _ v b hv hb
  rintro e w' (⟨r,H',I',ι',v,rfl,hq,k1,k2,k3⟩|⟨ch,H',I',ι',rfl,hq,k2,k3⟩)
  ·exact hk v w' I' ι' r H' hq k1 k2 k3
  exact hp ch w' I' ι' H' hq k2 k3
end
section
variable {P:Program} {N:Nat} {o:Oper} {E:bN} {H:aA} {Q:AV→aA→Prop} {PP:DZ→aA→Prop} {t t' T:TypeId} {x y:Operand}
theorem lC {f:FuncId} {xs:Array Operand} {vs:List AV} (ho:o.op=.makeFunc (.func f) xs #[]) (hv:sU E xs.toList=some vs):cD P N o E H (.bnd f vs) H :=.of_run fun a w I ι _ he=>by
  obtain ⟨h1,h2⟩:=lD he (jV hv);exact⟨.func (.func f) (xs.map a.eval) #[],by simp [execOp,ho,Instr.makeFunc],.bnd (by simpa using h1) (fun i v b hv hb=>h2 i v b (by simpa using hv) hb)⟩
theorem AQ {F:FuncId} {f:Operand} {args:Array Operand} {at_:Array TypeId} {vs xs:List AV} (ho:o.op=.call {callee:=.value f,args:=args,argTypes:=at_}) (hf:aN E f=some (.bnd F xs))
  (hc:∀ (args:Array Value) (w:World),(callFunc F args).run P w=.ok (.enter F args) w) (hv:sU E args.toList=some vs) (h:dW P F (xs++vs) H Q PP):xP P N o E H Q PP:=by
 intro a w I ι _ hr he K QQ hk hp;have hfv:=aH he hf;generalize hfc:a.eval f=fc at hfv;obtain ⟨h1,h2⟩:=lD he (jV hv);cases hfv with
 | @bnd _ us _ hl hh =>
  unfold Oper.wpW execOp;simp only [ho,resolve,hfc,Deferred.ofValue,Sem.run_bind,Sem.run_pure,Result.andThen_ok,invoke,hc,Oper.uponW_enter,Array.append_empty];have h1':args.size=vs.length:=by simpa using h1
  refine(h I ι w _ hr (by simp [hl,h1']) (fun i v b hv hb=>?_)).mono ?_
  ·by_cases hi:i < us.size
   ·rw [Array.getElem?_append_left hi] at hv;rw [List.getElem?_append_left (by omega)] at hb;exact hh i v b hv hb
   rw [Array.getElem?_append_right (by omega)] at hv;rw [List.getElem?_append_right (by omega)] at hb;rw [hl] at hv;exact h2 _ v b (by simpa using hv) hb
  rintro e w' (⟨r,H',I',ι',v,rfl,hq,k1,k2,k3⟩|⟨ch,H',I',ι',rfl,hq,k2,k3⟩)
  ·exact hk v w' I' ι' r H' hq k1 k2 k3
  exact hp ch w' I' ι' H' hq k2 k3
abbrev ms (t:TypeId):DZ:=[{v:=.iface t (.agg #[]),recovered:=false}]
theorem MW (ho:o.op=.panic x) (hx:aN E x=some (.pv (.ifa t []))):xP P N o E H (fun _ _=>False) (fun ch H'=>ch=ms t∧H'=H):=by intro a w I ι _ hr he K QQ hk hp;obtain ⟨cs,e1,hl,_⟩:=(aH he hx).ifa_inv;have:cs=#[]:=Array.eq_empty_of_size_eq_zero (by simpa using hl);subst this;unfold Oper.wpW execOp;simp only [ho,e1];exact hp _ w I ι H ⟨rfl,rfl⟩ hr (Step.refl _ _ _ _)
end
section
variable {P:Program} {G0:aA} {N:Nat} {E:bN} {H:aA} {ops:Array Oper} {Q:Exit→bN→aA→Prop} {o:Oper} {rest:List Oper} {R:AV→aA→Prop} {PP:DZ→aA→Prop}
def ALP (P:Program) (G0:aA) (N:Nat) (ops:Array Oper) (Q:Exit→bN→aA→Prop) (l:List Oper) (E:bN) (H:aA):Prop :=∀ G:Entry,G.H=G0→∀ a w,St G N E H a w→∀ ro,(ro=none∨l.all Oper.noDefer=true)→wpListIn (RF ro) 0 P ops (fun e a w=>∃ E H,Q e E H∧St G N E H a w) l a w
theorem HK (h:Q .normal E H):ALP P G0 N ops Q [] E H:=fun _ _ a w hs _ _=>⟨E,H,h,hs⟩
theorem St.opP {G:Entry} {a:Act} {w:World} (hs:St G N E H a w) (hd:gK N o.dst=true) (h:xP P N o E H R PP) {K:Act→World→Prop} {Q:Exit→Act→World→Prop}
  (hk:∀ r H' a' w',R r H'→St G N (iH E o.dst r) H' a' w'→K a' w') (hp:∀ ch H' w',PP ch H'→St G N E H' a w'→Q (.panic ch) a w') {ro:Option Nat} (hn:ro=none∨o.noDefer=true):o.wpIn (RF ro) 0 P a w K Q:=by
 refine Oper.wpW_in hn ?_;obtain ⟨I,ι,hr,hst,he⟩:=hs.rel;refine h a w I ι hs.size hr he K Q ?_ ?_
 ·intro c w' I' ι' r H' hR hv hr' hs';refine hk r H' _ w' hR ⟨?_,?_,I',ι',hr',hst.trans hs',gO.put hr hs' he hv (by rw [hs.size];exact hd)⟩
  ·rw [fN];exact hs.defers.step hr hs'
  have:=hs.size;cases o.dst<;>simpa [Act.put] using this
 intro ch w' I' ι' H' hP hr' hs';exact hp ch H' w' hP ⟨hs.defers.step hr hs',hs.size,I',ι',hr',hst.trans hs',fun t v ht=>let ⟨c,h1,h2⟩:=he t v ht;⟨c,h1,h2.mono hr hs'⟩⟩
theorem aDJ (hg:o.guard=none) (hd:gK N o.dst=true) (h:xP P N o E H R PP) (hp:∀ ch H',PP ch H'→Q (.panic ch) E H') (hk:∀ r H',R r H'→ALP P G0 N ops Q rest (iH E o.dst r) H'):ALP P G0 N ops Q (o::rest) E H:=by intro G hG a w hs ro hro;refine wpListIn_plain hg fun K' hK=>?_;exact hs.opP hd h (fun r H' a' w' hR hs'=>hK _ _ (hk r H' hR G hG a' w' hs' ro (jR hro).2)) (fun ch H' w' hP hs'=>⟨E,H',hp ch H' hP,hs'⟩) (jR hro).1
theorem aGO (hg:o.guard=none) (hd:gK N o.dst=true) (h:WQ P N o E H R) (hk:∀ r H',R r H'→ALP P G0 N ops Q rest (iH E o.dst r) H'):ALP P G0 N ops Q (o::rest) E H :=aDJ (PP:=fun _ _=>False) hg hd (.of h) (fun _ _ h=>h.elim) hk
theorem fD {d:Tmp} {v:AV} {H2:aA} (hg:o.guard=none) (hd:o.dst=some d) (hn:Nat.blt d N=true) (h:cD P N o E H v H2) (hk:ALP P G0 N ops Q rest ((d,v)::E) H2):ALP P G0 N ops Q (o::rest) E H :=aGO hg (by rw [hd];exact hn) h fun r H' ⟨e1,e2⟩=>by subst e1 e2;rw [hd];exact hk
theorem aDK {v:AV} {H2:aA} (hg:o.guard=none) (hd:o.dst=none) (h:cD P N o E H v H2) (hk:ALP P G0 N ops Q rest E H2):ALP P G0 N ops Q (o::rest) E H :=aGO hg (by rw [hd];rfl) h fun r H' ⟨e1,e2⟩=>by subst e1 e2;rw [hd];exact hk
theorem QB {d:Tmp} {v:AV} {H2:aA} {F:Prop} (hg:o.guard=none) (hd:o.dst=some d) (hn:Nat.blt d N=true) (h:xP P N o E H (fun r H'=>r=v∧H'=H2∧F) PP) (hp:∀ ch H',PP ch H'→Q (.panic ch) E H') (hk:F→ALP P G0 N ops Q rest ((d,v)::E) H2):ALP P G0 N ops Q (o::rest) E H :=aDJ hg (by rw [hd];exact hn) h hp fun r H' ⟨e1,e2,e3⟩=>by subst e1 e2;rw [hd];exact hk e3
theorem mB (hg:o.guard=none) (hd:gK N o.dst=true) (h:xP P N o E H (fun _ _=>False) PP) (hp:∀ ch H',PP ch H'→Q (.panic ch) E H'):ALP P G0 N ops Q (o::rest) E H:=aDJ hg hd h hp (fun _ _ h=>h.elim)
theorem eL {id:Nat} (h:ALP P G0 N ops Q ops.toList E H):fE P G0 N (.region id ops false) Q E H:=fun G hG a w hs ro hr=>wpIn_region_list (h G hG a w hs ro hr)
end
def aD3 (P:Program) (fn:Func) (G0:aA) (Q:AV→aA→Prop) (PP:DZ→aA→Prop) (e:Exit) (E:bN) (H:aA):Prop :=FJ P fn G0 Q e E H∨∃ ch H',e=.panic ch∧Fin G0 H (.tup []) H' (.tup [])∧PP ch H'
theorem FF {P:Program} {fn:Func} {G0 H:aA} {Q:AV→aA→Prop} {PP:DZ→aA→Prop} {e:Exit} {E:bN} (h:FJ P fn G0 Q e E H):aD3 P fn G0 Q PP e E H:=.inl h
theorem zE {P:Program} {fn:Func} {G0 H H':aA} {Q:AV→aA→Prop} {PP:DZ→aA→Prop} {ch:DZ} {E:bN} (hf:Fin G0 H (.tup []) H' (.tup [])) (hp:PP ch H'):aD3 P fn G0 Q PP (.panic ch) E H:=.inr ⟨ch,H',rfl,hf,hp⟩
theorem dW.body {P:Program} {f:FuncId} {fn:Func} {c:Code} {args:List AV} {H:aA} {Q:AV→aA→Prop} {PP:DZ→aA→Prop} {N:Nat} (hf:P.funcs[f]?=some fn) (hb:fn.body=some c) (hN:fn.ntmps=N) (hlen:args.length≤N)
  (h:fE P H N c (aD3 P fn H Q PP) (kA args) H):dW P f args H Q PP:=by
 intro I ι w vs hr hl hv;refine callsIn_wide.1 (callsIn_of_wp_marks (F:=Fence.wide) (n:=0) hf hb trivial ?_);have hst:St ⟨I,ι,H,w,[]⟩ N (kA args) H {tmps:=vs++Array.replicate (fn.ntmps - vs.size) undef,defers:=[]} w:=by
  refine⟨nZ.nil _ _ _,?_,I,ι,hr,Step.refl _ _ _ _,fun t a ht=>?_⟩
  ·simp;omega
  have ha:=qK ht;have hlt:t < vs.size:=by rw [hl];exact(aLT.1 ha).1
  have hu:vs[t]?=some vs[t]:=Array.getElem?_eq_getElem hlt;exact⟨vs[t],by rw [Array.getElem?_append_left hlt];exact hu,hv t _ a hu ha⟩
 refine wpIn_mono (h ⟨I,ι,H,w,[]⟩ rfl _ w hst none (.inl rfl)) ?_;rintro e a' w' ⟨E',H',(⟨he,r,hres,r',H'',hfin,hq⟩|⟨ch,H'',rfl,hfin,hq⟩),hs⟩
 ·have key:LeavesInM Fence.wide 0 P fn a'.tmps (fun e w'=>(∃ r H' I' ι' v,e=.returned v∧Q r H'∧VRel w' I' ι' H' v r∧Rel I' ι' H' w'∧Step I ι H w I' ι' H' w')∨(∃ ch H' I' ι',e=.panicked ch∧PP ch H'∧Rel I' ι' H' w'∧Step I ι H w I' ι' H' w')) a'.defers .returning w':=by
   obtain ⟨I',ι',hr',hst',hE'⟩:=hs.rel;refine qD hs.defers hr' hst' hE' ?_;intro w2 hr2 hst2 hE2;obtain ⟨v,h1,h2⟩:=hres a' w2 I' ι' hr2 hE2;obtain ⟨I2,ι2,k1,k2,k3⟩:=hfin ⟨I,ι,H,w,[]⟩ rfl I' ι' w2 v hr2 hst2 h2;exact⟨v,h1,.inl ⟨r',H'',I2,ι2,v,rfl,hq,k3,k1,k2⟩⟩
  rcases he with rfl|rfl
  ·exact key
  exact key
 obtain ⟨I',ι',hr',hst',hE'⟩:=hs.rel;show LeavesInM Fence.wide 0 P fn a'.tmps _ a'.defers (.panicking ch) w';refine tB (by simp) hs.defers hr' hst' hE' ?_;intro w2 hr2 hst2 hE2;obtain ⟨I2,ι2,k1,k2,k3⟩:=hfin ⟨I,ι,H,w,[]⟩ rfl I' ι' w2 (.tuple #[]) hr2 hst2 (.tup rfl (by simp));exact .inr ⟨ch,H'',I2,ι2,rfl,hq,k1,k2⟩
theorem JX {I I':Nat→Prop} {ι ι':dR} {H0 H H':aA} {w w':World} (hr:Rel I ι H w) (hs:Sub H0 H) (k2:Rel I' ι' H' w') (k3:Step I ι H0 w I' ι' H' w') (hk:∀ id,(H'.get id).isSome=true→(H0.get id).isSome=true∨H.get id=none) :
  ∃ ι2,Rel I' ι2 (H'++H) w'∧Step I ι H w I' ι2 (H'++H) w'∧∀ v a,VRel w' I' ι' H' v a→VRel w' I' ι2 (H'++H) v a:=by
 obtain ⟨ι2,hι2⟩:∃ ι2:dR,ι2=(fun j=>if(H'.get j).isSome=true then ι' j else ι j):=⟨_,rfl⟩;have i1:∀ j o,H'.get j=some o→ι2 j=ι' j:=fun j o hj=>by rw [hι2];simp [hj]
 have i2:∀ j,H'.get j=none→ι2 j=ι j:=fun j hj=>by rw [hι2];simp [hj]
 have g1:∀ j o,H'.get j=some o→aA.get (H'++H) j=some o:=fun j o hj=>by rw [eN,hj]
 have g2:∀ j,H'.get j=none→aA.get (H'++H) j=H.get j:=fun j hj=>by rw [eN,hj]
 have hfr:∀ j o,H.get j=some o→H'.get j=none→H0.get j=none:=fun j o hj hn=>by
  cases e:H0.get j with
  | none=>rfl
  | some o0 =>
   obtain ⟨o',e1,_⟩:=k3.objs j o0 e;rw [hn] at e1;cases e1
 have hno:∀ j o b c,H.get j=some o→H'.get j=none→ι j=some (b,c)→¬ GF ι H0 b:=fun j o b c hj hn hb ⟨j',o',c',hj',hb'⟩=>by
  have:=hr.inj j j' o o' b c c' hj (hs _ _ hj') hb hb';subst this;rw [hfr j o hj hn] at hj';cases hj'
 have hst:Step I ι H w I' ι2 (H'++H) w':=by
  refine⟨k3.os,k3.tape,k3.output,k3.size,fun a ha hn=>k3.froz a ha (fun h=>hn (h.sub hs)),k3.imm,fun b hb=>?_,?_,?_,?_⟩
  ·rcases k3.immNew b hb with h1|h1|h1
   ·exact .inl h1
   ·exact .inr (.inl (h1.sub hs))
   exact .inr (.inr h1)
  ·rintro b ⟨j,o,c,hj,hc⟩;cases e:H'.get j with
   | some o' =>
    rw [i1 j o' e] at hc;rcases k3.own b ⟨j,o',c,e,hc⟩with h1|h1
    ·exact .inl (h1.sub hs)
    exact .inr h1
   | none =>
    rw [i2 j e] at hc;rw [g2 j e] at hj;exact .inl ⟨j,o,c,hj,hc⟩
  ·intro b hb hn;exact k3.keep b hb (fun h=>hn (h.sub hs))
  intro j o hj;cases e:H'.get j with
  | some o' =>
   rcases hk j (by rw [e];rfl)with h1|h1
   ·obtain ⟨o0,e0⟩:=Option.isSome_iff_exists.1 h1;have:=hs _ _ e0;rw [hj] at this;cases this;obtain ⟨o2,q1,q2,q3⟩:=k3.objs j o e0;exact⟨o2,g1 j o2 q1,q2,fun e=>by rw [i1 j o2 q1];exact q3 e⟩
   rw [hj] at h1;cases h1
  | none=>exact⟨o,(g2 j e).trans hj,aLV _,fun _=>⟨i2 j e,rfl,fun _=>aLV _⟩⟩
 have hv':∀ {v:Value} {a:AV},VRel w' I' ι' H' v a→VRel w' I' ι2 (H'++H) v a:=fun hva =>
  hva.mono' (fun _ _=>rfl) (fun _ h=>h) (fun id o ho=>⟨o,g1 id o ho,aLV _,fun _=>⟨i1 id o ho,rfl,fun _=>aLV _⟩⟩)
 refine⟨ι2,⟨k2.imm,fun j o hj=>?_,fun j j' o o' b c c' hj hj' hc hc'=>?_,k2.glob⟩,hst,fun v a h=>hv' h⟩
 ·cases e:H'.get j with
  | some o' =>
   rw [g1 j o' e] at hj;obtain rfl:o'=o:=Option.some.inj hj;exact(k2.obj j o' e).keep (i1 j o' e) (fun _ _ _ _=>⟨rfl,fun h=>h⟩) (fun r _ a _ v hv=>hv' hv)
  | none =>
   rw [g2 j e] at hj;refine(hr.obj j o hj).keep (i2 j e) (fun b' cap' e1 hlt=>⟨k3.keep b' hlt (hno j o b' cap' hj e e1),fun e3 hi=>?_⟩) (fun r _ a _ v hv=>hv.mono hr hst);rcases k3.immNew b' hi with h1|h1|h1
   ·exact e3 h1
   ·exact hno j o b' cap' hj e e1 h1
   omega
 cases e:H'.get j with
 | some q =>
  rw [i1 j q e] at hc;cases e':H'.get j' with
  | some q' =>
   rw [i1 j' q' e'] at hc';exact k2.inj j j' q q' b c c' e e' hc hc'
  | none =>
   rw [i2 j' e'] at hc';rw [g2 j' e'] at hj';have hlt:=hr.lt ⟨j',o',c',hj',hc'⟩;rcases k3.own b ⟨j,q,c,e,hc⟩with h1|h1
   ·exact absurd h1 (hno j' o' b c' hj' e' hc')
   omega
 | none =>
  rw [i2 j e] at hc;rw [g2 j e] at hj;cases e':H'.get j' with
  | some q' =>
   rw [i1 j' q' e'] at hc';have hlt:=hr.lt ⟨j,o,c,hj,hc⟩;rcases k3.own b ⟨j',q',c',e',hc'⟩with h1|h1
   ·exact absurd h1 (hno j o b c hj e hc)
   omega
  | none =>
   rw [i2 j' e'] at hc';rw [g2 j' e'] at hj';exact hr.inj j j' o o' b c c' hj hj' hc hc'
theorem dW.conv {P:Program} {f:FuncId} {args:List AV} {H:aA} {Q Q':AV→aA→Prop} {PP PP':DZ→aA→Prop} (h:dW P f args H Q PP) (hq:∀ r H',Q r H'→∃ H2,(∀ j,H2.get j=H'.get j)∧Q' r H2) (hp:∀ ch H',PP ch H'→∃ H2,(∀ j,H2.get j=H'.get j)∧PP' ch H2):dW P f args H Q' PP' :=fun I ι w vs hr hl hv=>(h I ι w vs hr hl hv).mono fun _ _ h=>by
  rcases h with⟨r,H',I',ι',v,e,q,k1,k2,k3⟩|⟨ch,H',I',ι',e,q,k2,k3⟩
  ·obtain ⟨H2,hH,hq'⟩:=hq r H' q;obtain ⟨x1,x2⟩:=k2.congr hH;exact .inl ⟨r,H2,I',ι',v,e,hq',k1.mono k2 x2,x1,k3.trans x2⟩
  obtain ⟨H2,hH,hq'⟩:=hp ch H' q;obtain ⟨x1,x2⟩:=k2.congr hH;exact .inr ⟨ch,H2,I',ι',e,hq',x1,k3.trans x2⟩
theorem dW.frame {P:Program} {f:FuncId} {args:List AV} {H0 H:aA} {R:AV→aA→Prop} {PP:DZ→aA→Prop} (h:dW P f args H0 R PP) (hs:Sub H0 H) (hc:cY H0) (ha:∀ a∈args,Clo H0 a)
  (hk0:∀ r H1,R r H1→∀ id,(H1.get id).isSome=true→(H0.get id).isSome=true∨H.get id=none) (hk1:∀ ch H1,PP ch H1→∀ id,(H1.get id).isSome=true→(H0.get id).isSome=true∨H.get id=none) :
  dW P f args H (fun r H'=>∃ K,R r K∧H'=K++H) (fun ch H'=>∃ K,PP ch K∧H'=K++H):=by
 intro I ι w vs hr hl hv;refine(h I ι w vs (hr.restrict hs hc) hl (fun i v a h1 h2=>(hv i v a h1 h2).restrict hs (ha a (aLZ h2)))).mono ?_;rintro e w' (⟨r,H',I',ι',v,rfl,hR,k1,k2,k3⟩|⟨ch,H',I',ι',rfl,hR,k2,k3⟩)
 ·obtain ⟨ι2,q1,q2,q3⟩:=JX hr hs k2 k3 (hk0 r H' hR);exact .inl ⟨r,H'++H,I',ι2,v,rfl,⟨H',hR,rfl⟩,q3 _ _ k1,q1,q2⟩
 obtain ⟨ι2,q1,q2,q3⟩:=JX hr hs k2 k3 (hk1 ch H' hR);exact .inr ⟨ch,H'++H,I',ι2,rfl,⟨H',hR,rfl⟩,q1,q2⟩
end
end Go.Abs
