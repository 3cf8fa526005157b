/-
  Parts of the proof: rules of an abstract program logic, contracts of functions, plain laws. Conditions: each theorem's own.
-/
import Derived.Test.YtmkgeogoojcciaaGreatDoorKS7M9
set_option linter.unusedVariables false
set_option linter.unusedSimpArgs false
set_option maxRecDepth 100000
set_option maxHeartbeats 8000000
namespace Go.Proofs
theorem yR:type_of% Tryz.call113:=Tryz.call113
theorem N1:type_of% Tryz.call37:=Tryz.call37
theorem oK:type_of% Tryz.call63:=Tryz.call63
theorem NY:type_of% Tryz.call66:=Tryz.call66
theorem aHI:type_of% Tryz.func167:=Tryz.func167
theorem jB:type_of% Tryz.isAgg105:=Tryz.isAgg105
theorem aHG:type_of% Tryz.isAgg59:=Tryz.isAgg59
theorem aG2:type_of% Tryz.ntmps167:=Tryz.ntmps167
theorem cZ:type_of% Tryz.underlying59:=Tryz.underlying59
end Go.Proofs
namespace Go.Proofs.YtmkgeogoojcciaaGreatDoor
open Go.Proofs.Tryz
open Go.Abs Go.Lib
abbrev KP:=List (ByteArray×ByteArray)
def SP (L:KP):Prop:=L.Pairwise fun a b=>lI a.1 b.1=true
def dX:KP→CT
 | [],_=>none
 | p::r,x=>if p.1=x then some p.2 else dX r x
theorem vZ {a b:ByteArray} (h:lI a b=true):a≠b:=fun e=>by rw [e,xH] at h;cases h
theorem kS {x:ByteArray}:∀ {L:KP},dX L x=none↔x∉L.map Prod.fst
 | []=>⟨fun _ h=>(by cases h),fun _=>rfl⟩
 | p::r=>by
  rw [dX,List.map_cons,aID];by_cases e:p.1=x
  ·rw [aHq e];exact⟨fun h=>(by cases h),fun h=>absurd (.inl e.symm) h⟩
  rw [aHp e,kS (L:=r)];exact⟨fun h h2=>h2.elim (fun q=>e q.symm) h,fun h h2=>h (.inr h2)⟩
theorem qG {x v:ByteArray}:∀ {L:KP},SP L→(dX L x=some v↔(x,v)∈L)
 | [],_=>⟨fun h=>(by cases h),fun h=>(by cases h)⟩
 | p::r,hs=>by
  have h2:=List.pairwise_cons.1 hs;rw [dX,aID];by_cases e:p.1=x
  ·rw [aHq e];refine⟨fun h=>.inl ?_,fun h=>?_⟩
   ·cases h;rw [← e]
   rcases h with h|h
   ·rw [← h]
   exact absurd e (vZ (h2.1 _ h))
  rw [aHp e,qG h2.2];exact⟨.inr,fun h=>h.elim (fun q=>absurd (by rw [← q]) e) id⟩
theorem aEn {A B:KP} (ha:SP A) (hb:SP B) (h:∀ x,dX A x=dX B x):A=B:=by refine TL (f:=fun p:ByteArray×ByteArray=>p.1) ha hb fun p=>?_;rw [← qG ha,← qG hb,h]
theorem HV (p:ByteArray×ByteArray) (r:KP) (k:ByteArray):CE (p::r) k=if lI p.1 k=true then CE r k+1 else 0:=by
 rw [CE,List.takeWhile_cons]
 split
 ·rfl
 rfl
theorem xO (p:ByteArray×ByteArray) (r:KP) (k v:ByteArray):tI (p::r) k v=if lI p.1 k=true then p::tI r k v else if p.1=k then(k,v)::r else(k,v)::p::r:=by
 rw [tI,yV,HV];by_cases e:lI p.1 k=true
 ·simp only [aHq e,List.getElem?_cons_succ,List.take_succ_cons,List.drop_succ_cons,List.cons_append];rw [tI,yV]
 simp only [aHp e,List.getElem?_cons_zero,List.take_zero,List.drop_zero,List.nil_append]
 split
 ·rfl
 rfl
theorem HF (p:ByteArray×ByteArray) (r:KP) (k:ByteArray):nZ (p::r) k=if lI p.1 k=true then p::nZ r k else if p.1=k then r else p::r:=by
 rw [nZ,HV];by_cases e:lI p.1 k=true
 ·simp only [aHq e,List.getElem?_cons_succ,List.take_succ_cons,List.drop_succ_cons];rw [nZ];cases hq:r[CE r k]? with
  | none=>rfl
  | some q =>
   simp only []
   split
   ·rfl
   rfl
 simp only [aHp e,List.getElem?_cons_zero]
 split
 ·rfl
 rfl
theorem X9 (k:ByteArray):nZ [] k=[]:=rfl
theorem xY (k v x:ByteArray):∀ L:KP,dX (tI L k v) x=if k=x then some v else dX L x
 | []=>rfl
 | p::r=>by
  rw [xO];by_cases e:lI p.1 k=true
  ·rw [aHq e,dX,xY k v x r,dX];by_cases e2:p.1=x
   ·rw [aHq e2,aHq e2,aHp (fun h=>vZ e (by rw [e2,h]))]
   rw [aHp e2,aHp e2]
  rw [aHp e];by_cases e2:p.1=k
  ·rw [aHq e2,dX,dX];show (if k=x then some v else dX r x)=_;by_cases e3:k=x
   ·rw [aHq e3,aHq e3]
   rw [aHp e3,aHp e3,aHp (fun h=>e3 (e2.symm.trans h))]
  rw [aHp e2];rfl
theorem U4 {k v:ByteArray} {q:ByteArray×ByteArray}:∀ {L:KP},q∈tI L k v→q=(k,v)∨q∈L
 | [],h=>.inl (aHu.1 h)
 | p::r,h=>by
  rw [xO] at h;by_cases e:lI p.1 k=true
  ·rw [aHq e] at h;rcases aID.1 h with h|h
   ·exact .inr (h▸List.mem_cons_self)
   exact(U4 h).imp id (List.mem_cons_of_mem _)
  rw [aHp e] at h;by_cases e2:p.1=k
  ·rw [aHq e2] at h;exact(aID.1 h).imp id (List.mem_cons_of_mem _)
  rw [aHp e2] at h;exact aID.1 h
theorem LS {k v:ByteArray}:∀ {L:KP},SP L→SP (tI L k v)
 | [],_=>List.pairwise_singleton _ _
 | p::r,hs=>by
  have h2:=List.pairwise_cons.1 hs;rw [xO];by_cases e:lI p.1 k=true
  ·rw [aHq e];refine List.pairwise_cons.2 ⟨fun q hq=>?_,LS h2.2⟩;rcases U4 hq with rfl|hq
   ·exact e
   exact h2.1 q hq
  rw [aHp e];by_cases e2:p.1=k
  ·rw [aHq e2];exact List.pairwise_cons.2 ⟨fun q hq=>e2▸h2.1 q hq,h2.2⟩
  rw [aHp e2];have hlt:lI k p.1=true:=by
   cases e3:lI k p.1 with
   | true=>rfl
   | false=>exact absurd (xG (Bool.not_eq_true _▸e) e3) e2
  refine List.pairwise_cons.2 ⟨fun q hq=>?_,hs⟩;rcases aID.1 hq with rfl|hq
  ·exact hlt
  exact mP hlt (h2.1 q hq)
theorem A6 (k v:ByteArray):∀ L:KP,(tI L k v).length≤L.length+1
 | []=>aHx _
 | p::r=>by
  have:=A6 k v r;rw [xO]
  repeat' split
  all_goals simp only [aHt] at *;omega
theorem DI (k:ByteArray):∀ L:KP,(nZ L k).Sublist L
 | []=>List.Sublist.refl _
 | p::r=>by
  have:=DI k r;rw [HF]
  repeat' split
  ·exact this.cons_cons p
  ·exact List.sublist_cons_self _ _
  exact List.Sublist.refl _
theorem T9 {k:ByteArray} {L:KP} (h:SP L):SP (nZ L k):=h.sublist (DI k L)
theorem GT (k x:ByteArray):∀ {L:KP},SP L→dX (nZ L k) x=if k=x then none else dX L x
 | [],_=>by rw [X9,dX];split<;>rfl
 | p::r,hs=>by
  have h2:=List.pairwise_cons.1 hs;rw [HF];by_cases e:lI p.1 k=true
  ·rw [aHq e,dX,GT k x h2.2,dX];by_cases e2:p.1=x
   ·rw [aHq e2,aHq e2,aHp (fun h=>vZ e (by rw [e2,h]))]
   rw [aHp e2,aHp e2]
  rw [aHp e];by_cases e2:p.1=k
  ·rw [aHq e2,dX];by_cases e3:k=x
   ·rw [aHq e3,← e3];refine kS.2 fun hm=>?_;obtain ⟨q,hq,e4⟩:=List.mem_map.1 hm;exact vZ (h2.1 q hq) (by rw [e2,e4])
   rw [aHp e3,aHp (fun h=>e3 (e2.symm.trans h))]
  rw [aHp e2];by_cases e3:k=x
  ·rw [aHq e3,← e3];refine kS.2 fun hm=>?_;rcases aID.1 hm with h|hm
   ·exact e2 h.symm
   obtain ⟨q,hq,e4⟩:=List.mem_map.1 hm;have h3:=h2.1 q hq;rw [e4] at h3;exact e h3
  rw [aHp e3]
abbrev iI (L A:KP):KP:=A.foldl (fun L p=>tI L p.1 p.2) L
abbrev iA (L:KP) (D:List ByteArray):KP:=D.foldl nZ L
theorem AW:∀ {A L:KP},SP L→SP (iI L A)
 | [],_,h=>h
 | p::r,L,h=>AW (A:=r) (LS h)
theorem FL:∀ {D:List ByteArray} {L:KP},SP L→SP (iA L D)
 | [],_,h=>h
 | p::r,L,h=>FL (D:=r) (T9 h)
theorem tH:∀ (A L:KP),(iI L A).length≤L.length+A.length
 | [],L=>aHx _
 | p::r,L=>by
  have h1:=tH r (tI L p.1 p.2);have h2:=A6 p.1 p.2 L;show (iI (tI L p.1 p.2) r).length≤_;rw [aHt];omega
theorem yG:∀ (D:List ByteArray) (L:KP),(iA L D).length≤L.length
 | [],L=>aHx _
 | p::r,L=>Nat.le_trans (yG r (nZ L p)) (DI p L).length_le
theorem zP (x:ByteArray):∀ {A:KP} (L:KP),SP A→dX (iI L A) x=(dX A x).orElse fun _=>dX L x
 | [],L,_=>rfl
 | p::r,L,hs=>by
  have h2:=List.pairwise_cons.1 hs;show dX (iI (tI L p.1 p.2) r) x=_;rw [zP x _ h2.2,xY,dX];by_cases e:p.1=x
  ·rw [aHq e,aHq e,kS.2 (fun hm=>by
    obtain ⟨q,hq,e4⟩:=List.mem_map.1 hm;exact vZ (h2.1 q hq) (e.trans e4.symm))]
   rfl
  rw [aHp e,aHp e]
theorem wM (x:ByteArray):∀ {D:List ByteArray} {L:KP},SP L→dX (iA L D) x=if x∈D then none else dX L x
 | [],L,_=>by rw [aHp aIH];rfl
 | d::r,L,h=>by
  show dX (iA (nZ L d) r) x=_;rw [wM x (T9 h),GT d x h];by_cases e:x∈r
  ·rw [aHq e,aHq (List.mem_cons_of_mem _ e)]
  rw [aHp e];by_cases e2:d=x
  ·rw [aHq e2,aHq (by rw [e2];exact List.mem_cons_self)]
  rw [aHp e2,aHp (fun h=>(aID.1 h).elim (fun q=>e2 q.symm) e)]
def prs (l:cN):KP:=(eT l).map fun k=>(k,fO l k)
theorem oL (l:cN):(prs l).length=l.length:=by rw [prs,aHr,kW]
theorem J9 (g:ByteArray→ByteArray) (x:ByteArray):∀ S:List ByteArray,dX (S.map fun k=>(k,g k)) x=if x∈S then some (g x)else none
 | []=>rfl
 | s::r=>by
  rw [List.map_cons,dX,J9 g x r];by_cases e:s=x
  ·rw [aHq e,aHq (by rw [e];exact List.mem_cons_self),← e]
  rw [aHp e];by_cases e2:x∈r
  ·rw [aHq e2,aHq (List.mem_cons_of_mem _ e2)]
  rw [aHp e2,aHp (fun h=>(aID.1 h).elim (fun q=>e q.symm) e2)]
theorem oD (l:cN) (x:ByteArray):dX (prs l) x=eN l x:=by
 rw [prs,J9];by_cases hk:x∈eT l
 ·rw [aHq hk,uV];cases e:eN l x with
  | some v=>rfl
  | none=>exact absurd (mO.1 hk) (iX.1 e)
 rw [aHp hk];exact(iX.2 (fun h=>hk (mO.2 h))).symm
theorem uA {l:cN} (h:gX l):SP (prs l):=List.pairwise_map.2 (FE h)
theorem C1 {A:KP} {l:cN} (ha:SP A) (h:gX l) (hl:∀ x,dX A x=eN l x):A=prs l:=aEn ha (uA h) fun x=>by rw [hl,oD]
theorem GC (l:cN):mX (prs l)=oE l:=by rw [mX,prs,oE,List.flatMap_map]
theorem C0 (l:cN) (P:List ByteArray):dZ (prs l) P=eD l P:=by have hi:∀ n:Nat,fL (n:Int)=ofL (decDigits n):=fun n=>gE (by rw [bB,lB]);rw [dZ,mN,oL,GC,oE,hi,hi];simp
theorem UQ (l:cN) (P:List ByteArray):MA (prs l) P=bM l P:=by rw [MA,bM,C0]
def BN (A:KP):cN:=A.map fun p=>(p.1,p.2,0)
theorem MZ (x:ByteArray):∀ A:KP,eN (BN A) x=dX A x
 | []=>rfl
 | p::r=>by
  show (if p.1=x then some p.2 else eN (BN r) x)=_;rw [MZ x r];rfl
theorem SZ (A:KP):(BN A).map Prod.fst=A.map Prod.fst:=by rw [BN,List.map_map];rfl
theorem PP {A:KP} (h:SP A):gX (BN A):=by rw [gX,SZ];exact List.Pairwise.map Prod.fst (fun {a b} h=>vZ h) h
theorem XQ {A:KP} (h:SP A):prs (BN A)=A:=(C1 h (PP h) fun x=>(MZ x A).symm).symm
structure TxOk (A:KP) (D:List ByteArray):Prop where
 sp:SP A
 inc:qW D
 key:∀ p∈A,cR p.1=true∧p.1∉D∧p.2.size≤20000
 nam:∀ s∈D,cR s=true
 some:0 < A.length+D.length
theorem aDF {A:KP} {D:List ByteArray} (h:TxOk A D) {t:List UInt8} (ht:t=aT (dZ A D)) (hs:t.length < 1000000000000):iK t=true∧(∀ x,eN (fU t).1 x=dX A x)∧eJ t=D:=by
 have e:dZ A D=eD (BN A) D:=by rw [← C0,XQ h.sp]
 have hw:bX (BN A) D=0:=zU (fun p hp=>by
  obtain ⟨q,hq,rfl⟩:=List.mem_map.1 hp;exact h.key q hq) h.nam
 have hlen:(BN A).length=A.length:=aHr _;rw [e] at ht;rw [ht] at hs ⊢;obtain ⟨q1,q2,q3⟩:=L6 (PP h.sp) h.inc (by rw [hlen];exact h.some) hw hs;exact⟨q1,fun x=>by rw [q2,MZ],q3⟩
theorem D4 {a b:ByteArray} (h:aT [a]=aT [b]) (ha:a.size < 1000000000000000000) (hb:b.size < 1000000000000000000):a=b:=by
 have h1:=lT (L:=[a]) fun x hx=>by rw [aHu.1 hx];exact ha
 have h2:=lT (L:=[b]) fun x hx=>by rw [aHu.1 hx];exact hb
 rw [h,h2] at h1;have:=congrArg Prod.fst h1
 simpa using this.symm
theorem FN:∀ {l:List ByteArray},gI l=true→l.Pairwise (fun a b=>lI b a=false)
 | [],_=>List.Pairwise.nil
 | [a],_=>List.pairwise_singleton _ _
 | a::b::r,h=>by
  rw [gI,aIA,aIK] at h;have h2:=FN h.2;refine List.pairwise_cons.2 ⟨fun c hc=>?_,h2⟩;rcases aID.1 hc with rfl|hc
  ·exact h.1
  exact LW h.1 ((List.pairwise_cons.1 h2).1 c hc)
theorem KJ:∀ l:List ByteArray,(dQ l).Sublist l
 | []=>List.Sublist.refl _
 | [a]=>List.Sublist.refl _
 | a::b::r=>by
  have h:=KJ (b::r);show (if a=b then dQ (b::r)else a::dQ (b::r)).Sublist _
  split
  ·exact h.trans (List.sublist_cons_self _ _)
  exact h.cons_cons a
theorem OR:∀ {D:List ByteArray},gI D=true→D.length≤(dQ D).length→qW D:=fun {D} hs hc=>by
 have hle:D.Pairwise (fun a b=>lI b a=false):=FN hs;have h1:qW (dQ D):=vE hle;have h2:dQ D=D:=(KJ D).eq_of_length_le hc;rw [h2] at h1;exact h1
theorem aFu {t:List UInt8} (h:iK t=true) (hs:t.length < 1000000):TxOk (prs (fU t).1) (eJ t)∧t=aT (dZ (prs (fU t).1) (eJ t)):=by
 obtain ⟨h1,h2,h3,h4⟩:=uG h;have hw:=qQ h4;have hnd:gX (fU t).1:=(C9 _ _).2;have hb3:uI t=false:=by
  rw [iK,aIA,aIA] at h;exact aIK _▸h.2.2
 rw [uI,aIN,aIN,aIN] at hb3;obtain ⟨⟨⟨_,b2⟩,b3⟩,b4⟩:=hb3;rw [Bool.not_eq_false',aHy] at b2;rw [Bool.not_eq_false'] at b3;have b4:=aHo b4;have hsm:=(OY hs h2).1;refine⟨⟨uA hnd,OR b3 (by omega),fun p hp=>?_,hw.2,by rw [oL];exact h3⟩,?_⟩
 ·obtain ⟨x,v⟩:=p;have h5:=(qG (uA hnd)).2 hp;rw [oD] at h5;obtain ⟨n,hn⟩:=uT h5;exact hw.1 _ hn
 rw [C0];have e:=D4 (a:=ofL (aT (eD (fU t).1 (eJ t)))) (b:=ofL t) b2 (by rw [bO];have:=vX (N:=35184372088832) hsm;omega) (by rw [bO];omega);have:=congrArg (fun s=>s.data.toList) e;simp only [bB] at this;exact this.symm
theorem aDa {l:cN} (h:gX l) {p:ByteArray×ByteArray×Nat} (hp:p∈l):eN l p.1=some p.2.1:=by
 induction l with
 | nil=>cases hp
 | cons q r ih =>
  have hn:(q.1::r.map Prod.fst).Nodup:=h;obtain ⟨h1,h2⟩:=List.nodup_cons.1 hn;rcases aID.1 hp with rfl|hp
  ·show (if p.1=p.1 then some p.2.1 else eN r p.1)=_;rw [aHq rfl]
  have hne:¬ q.1=p.1:=fun e=>h1 (by rw [e];exact List.mem_map_of_mem hp);show (if q.1=p.1 then some q.2.1 else eN r p.1)=_;rw [aHp hne];exact ih h2 hp
def J3 (F:List ByteArray) (n:Nat):KP:=(List.range n).map fun i=>(F.getD (1+2*i) sNil,F.getD (2+2*i) sNil)
theorem aAa (F:List ByteArray) (n:Nat):J3 F (n+1)=J3 F n++[(F.getD (1+2*n) sNil,F.getD (2+2*n) sNil)]:=by rw [J3,List.range_succ,List.map_append];rfl
theorem MF (F:List ByteArray) (n:Nat):(J3 F n).length=n:=by rw [J3,aHr,List.length_range]
theorem aDQ (F:List ByteArray) {n i:Nat} (h:i < n):(J3 F n)[i]?=some (F.getD (1+2*i) sNil,F.getD (2+2*i) sNil):=by rw [J3,aIL,List.getElem?_range h];rfl
theorem aCw {A:KP} {p:ByteArray×ByteArray} (h:SP A) (hl:∀ q,A[A.length - 1]?=some q→lI q.1 p.1=true):SP (A++[p]):=by
 refine List.pairwise_append.2 ⟨h,List.pairwise_singleton _ _,fun a ha b hb=>?_⟩;rw [aHu.1 hb];obtain ⟨i,hi⟩:=aIM.1 ha;have hi2:i < A.length:=(aHv.1 hi).1;have hq:A[A.length - 1]?=some (A[A.length - 1]'(by omega)):=aHw (by omega);have hl:=hl _ hq;by_cases e:i=A.length - 1
 ·rw [e,hq] at hi;cases hi;exact hl
 have h1:=List.pairwise_iff_getElem.1 h i (A.length - 1) hi2 (by omega) (by omega);rw [(aHv.1 hi).2] at h1;exact mP h1 hl
theorem XV {A:List ByteArray} {p:ByteArray} (h:qW A) (hl:∀ q,A[A.length - 1]?=some q→lI q p=true):qW (A++[p]):=by
 refine List.pairwise_append.2 ⟨h,List.pairwise_singleton _ _,fun a ha b hb=>?_⟩;rw [aHu.1 hb];obtain ⟨i,hi⟩:=aIM.1 ha;have hi2:i < A.length:=(aHv.1 hi).1;have hq:A[A.length - 1]?=some (A[A.length - 1]'(by omega)):=aHw (by omega);have hl:=hl _ hq;by_cases e:i=A.length - 1
 ·rw [e,hq] at hi;cases hi;exact hl
 have h1:=List.pairwise_iff_getElem.1 h i (A.length - 1) hi2 (by omega) (by omega);rw [(aHv.1 hi).2] at h1;exact mP h1 hl
theorem QA:∀ (A:KP) (R:List ByteArray) (i:Nat),i < A.length→((mX A++R).getD (2*i) sNil,(mX A++R).getD (2*i+1) sNil)=A.getD i (sNil,sNil)
 | [],R,i,h=>absurd h (Nat.not_lt_zero _)
 | p::r,R,0,_=>rfl
 | p::r,R,i+1,h=>by
  have:=QA r R i (by simpa using h);have e:mX (p::r)++R=p.1::p.2::(mX r++R):=rfl;rw [e,show 2*(i+1)=(2*i+1)+1 by omega,List.getD_cons_succ,List.getD_cons_succ,List.getD_cons_succ,List.getD_cons_succ,List.getD_cons_succ];exact this
theorem OG (A:KP) (D:List ByteArray):(dZ A D).length=2*A.length+2+D.length∧(dZ A D).getD 0 sNil=ofL (decDigits A.length)∧(dZ A D).getD (2*A.length+1) sNil=ofL (decDigits D.length)∧J3 (dZ A D) A.length=A∧(dZ A D).drop (2*A.length+2)=D:=by
 have hf:=BY A;have hW:dZ A D=ofL (decDigits A.length)::(mX A++(ofL (decDigits D.length)::D)):=by
  rw [dZ];simp
 refine⟨?_,?_,?_,?_,?_⟩
 ·rw [hW,aHt,aHs,aHt,hf];omega
 ·rw [hW];rfl
 ·rw [hW,List.getD_cons_succ,List.getD_eq_getElem?_getD,List.getElem?_append_right (by omega),hf,Nat.sub_self];rfl
 ·refine List.ext_getElem? fun i=>?_;by_cases hi:i < A.length
  ·rw [aDQ _ hi,hW,show 1+2*i=2*i+1 by omega,show 2+2*i=(2*i+1)+1 by omega,List.getD_cons_succ,List.getD_cons_succ,QA _ _ _ hi,List.getD_eq_getElem?_getD,aHw hi];rfl
  rw [List.getElem?_eq_none (by rw [MF];omega),List.getElem?_eq_none (by omega)]
 rw [show dZ A D=((ofL (decDigits A.length)::mX A)++[ofL (decDigits D.length)])++D from rfl];exact List.drop_left' (by rw [aHs,aHt,List.length_singleton,hf])
theorem OF {A:KP} {D:List ByteArray} {t:List UInt8} (h:t=aT (dZ A D)) (ht:t.length < 1000000000000000000):cS t=(dZ A D,true):=by rw [h];exact lT fun x hx=>by have:=qV hx;rw [← h] at this;omega
theorem QF {n:Nat} (h:n < 1000000000000000000):(ofL (decDigits n)).size≤18:=by rw [bO];exact dT (k:=18) h (by decide)
theorem vW {A:KP} {D:List ByteArray} (hA:A.length≤5000) (hD:D.length≤5000) (h1:∀ p∈A,p.1.size≤5000∧p.2.size≤5000) (h2:∀ s∈D,s.size≤5000) :
  (∀ s∈dZ A D,s.size≤100000000)∧(aT (dZ A D)).length≤100000000:=by
 have hs:∀ s∈dZ A D,s.size≤5000:=fun s hs=>by
  have d1:=QF (n:=A.length) (by omega);have d2:=QF (n:=D.length) (by omega);rw [dZ,List.mem_append,List.mem_append,aID,aHu,mX,List.mem_flatMap] at hs;rcases hs with((rfl|⟨p,hp,hs⟩)|rfl)|hs
  ·omega
  ·rw [aID,aHu] at hs;rcases hs with rfl|rfl
   ·exact(h1 p hp).1
   exact(h1 p hp).2
  ·omega
  exact h2 s hs
 have hm:=wP (M:=5000) (by decide) (dZ A D) hs;have hl:=(OG A D).1;have h8:(dZ A D).length*(5000+22)≤15002*5022:=Nat.mul_le_mul (by omega) (by omega);exact⟨fun s h=>Nat.le_trans (hs s h) (by decide),by omega⟩
theorem T3 {A:KP} {D:List ByteArray} (h:(aT (dZ A D)).length≤100000000):(MA A D).length < 100000100:=by have hd:=dT (k:=18) (u:=(aT (dZ A D)).length) (by omega) (by decide);rw [MA,fB,aHs,aHt,aHs,bB,bO];have h0:(aT []).length=0:=rfl;omega
theorem LA (x:ByteArray):∀ {A:KP},SP A→(A[CE A x]?).any (fun p=>decide (p.1=x))=(dX A x).isSome
 | [],_=>rfl
 | p::r,hs=>by
  have h2:=List.pairwise_cons.1 hs;rw [HV,dX];by_cases e:lI p.1 x=true
  ·rw [aHq e,aHp (vZ e),List.getElem?_cons_succ,LA x h2.2]
  rw [aHp e,List.getElem?_cons_zero];by_cases e2:p.1=x
  ·rw [aHq e2];exact decide_eq_true e2
  rw [aHp e2];have hlt:lI x p.1=true:=by
   cases e3:lI x p.1 with
   | true=>rfl
   | false=>exact absurd (xG (Bool.not_eq_true _▸e) e3) e2
  have hn:dX r x=none:=kS.2 fun hm=>by
   obtain ⟨q,hq,e4⟩:=List.mem_map.1 hm;exact vZ (mP hlt (h2.1 q hq)) e4.symm
  rw [hn];exact decide_eq_false e2
theorem KA {A:KP} {x:ByteArray}:(dX A x).isSome=decide (x∈A.map Prod.fst):=by
 cases e:dX A x with
 | none=>rw [decide_eq_false (kS.1 e)];rfl
 | some v =>
  refine(decide_eq_true (Classical.byContradiction fun h=>?_)).symm;rw [kS.2 h] at e;cases e
structure Lv (k a n:Nat) (l:cN) (c m:Nat):Prop where
 a2:a < 2
 nk:n≤k
 st:fI l c
 nd:gX l
 len:l.length≤m
 sz:∀ x v,eN l x=some v→x.size≤5000∧v.size≤5000
theorem Lv.mem {k a n:Nat} {l:cN} {c m:Nat} (h:Lv k a n l c m):∀ p∈l,p.1.size≤5000∧p.2.1.size≤5000:=fun p hp=>h.sz _ _ (aDa h.nd hp)
theorem Lv.text {k a n:Nat} {l:cN} {c m:Nat} (h:Lv k a n l c m) (hm:m≤5000):(bM l []).length < 100000000:=by have hl:=h.len;have h1:=rS (l:=l) (P:=[]) (M:=5000) (by decide) (by decide) h.mem (fun s hs=>by cases hs) (by rw [List.length_nil];omega);have h8:(2*l.length+2+([]:List ByteArray).length)*(5000+22)≤10002*5022:=Nat.mul_le_mul (by rw [List.length_nil];omega) (by omega);omega
theorem Lv.prs {k a n:Nat} {l:cN} {c m:Nat} (h:Lv k a n l c m):∀ p∈prs l,p.1.size≤5000∧p.2.size≤5000:=fun p hp=>by
 obtain ⟨x,v⟩:=p;have h1:=(qG (uA h.nd)).2 hp;rw [oD] at h1;exact h.sz _ _ h1
end Go.Proofs.YtmkgeogoojcciaaGreatDoor
namespace Go.Proofs.YtmkgeogoojcciaaGreatDoor
open Go.Proofs.Tryz
open Go.Abs
def nC (s:DSt) (k:Int) (t:ByteArray):Bool:=fK s k&&decide (t.size=64)
theorem aB8 (s:DSt) (k:Nat) (t:ByteArray) (n:Nat):cH (iS s k t) n=if n=k then t else cH s n:=by
 unfold cH;show (((s.q++[(k,t)]).reverse.find? (pS n)).map (·.2)).getD _=_;rw [List.reverse_append,List.reverse_cons,List.reverse_nil,List.nil_append,List.cons_append,List.nil_append,List.find?_cons];by_cases e:n=k
 ·subst e;simp [pS]
 have:pS n (k,t)=false:=by simpa [pS] using fun h=>e h.symm
 simp only [this,aHp e];rfl
theorem TC {s:DSt} (h:s.q=[]) (n:Nat):cH s n=(s.cells[n]?).getD sNil:=by rw [cH,h];rfl
theorem DU (l:List ByteArray) (i:Nat) (t:ByteArray):(pB l).set i [sv t]=pB (l.set i t):=List.map_set.symm
theorem oP {l:List ByteArray} {i:Nat} {t:ByteArray} (h:l[i]?=some t):(pB l)[i]?=some [sv t]:=by rw [pB,aIL,h];rfl
theorem HT (t u:ByteArray):t++u=⟨(t.data.toList++u.data.toList).toArray⟩:=by apply ByteArray.ext;rw [ByteArray.data_append];simp
theorem aAe {t c:ByteArray} {b:Nat} (hb:b≤t.size) (ht:t.size=c.size):tJ (t.extract 0 b) c=t.extract 0 b++c.extract b c.size:=by rw [HT,tJ,HD hb];congr 2;congr 1;simp;rw [List.take_of_length_le (by simp [kL])]
structure RX where
 gs:Nat
 gq:Nat
 a:Int
 w:Int
 b:Int
def TM (s:DSt):Bool:=match s.arm with|.on _ _ _=>true|_=>false
def JD (s:DSt) (x:RX):Int:=match s.arm with|.on a _ _=>a|_=>x.a
def JC (s:DSt) (x:RX):Int:=match s.arm with|.on _ w _=>w|_=>x.w
def JB (s:DSt) (x:RX):Int:=match s.arm with|.on _ _ b=>b|_=>x.b
def LJ (s:DSt) (x:RX):RX:=match s.arm with|.on a w b=>{x with a:=a,w:=w,b:=b}|_=>x
def gA (p:Nat×ByteArray):List PV:=[.int .i64 (p.1:Int),.str p.2]
abbrev uF (l:List (Nat×ByteArray)):List (List AV):=l.map (fun e=>(gA e).map .pv)
abbrev fC (s:DSt) (x:RX):List AV:=[.osl 1101 x.gs 0 s.cells.length,.osl 1102 x.gq 0 s.q.length,bv (!s.off),bv (TM s),iv (JD s x),iv (JC s x),iv (JB s x)]
abbrev dA (s:DSt) (x:RX):aE:=[(1100,⟨0,7,107,[fC s x]⟩),(1101,⟨x.gs,1,9,pB s.cells⟩),(1102,⟨x.gq,2,127,uF s.q⟩)]
theorem bE (s:DSt) (x:RX) (H:aE) (h1:(H.get 1101).isSome=true) (h2:(H.get 1102).isSome=true):∀ r∈[fC s x],∀ a∈r,Clo H a:=by
 intro r hr a ha;rw [aHu.1 hr] at ha;simp only [fC,aID,aIH,or_false] at ha;rcases ha with rfl|rfl|rfl|rfl|rfl|rfl|rfl
 ·exact .osl h1
 ·exact .osl h2
 all_goals exact .pv _
theorem DW (s:DSt) (x:RX):bT (dA s x):=bT.of (fun p hp=>by
 simp only [dA,aID,aIH,or_false] at hp;rcases hp with rfl|rfl|rfl
 ·exact bE s x _ rfl rfl
 ·exact aD _ _ _
 exact aD _ _ _)
theorem aAX (s s':DSt) (x x':RX) (H:aE):∀ id,((dA s' x').get id).isSome=true→((dA s x).get id).isSome=true∨H.get id=none:=by intro id h;left;simp only [dA,aE.get] at h ⊢;cases e0:Nat.beq 1100 id<;>cases e1:Nat.beq 1101 id<;>cases e2:Nat.beq 1102 id<;>simp [e0,e1,e2] at h ⊢
theorem mS {f:FuncId} {args:List AV} {s s':DSt} {x x':RX} {r0:AV} (h:aK Tryz.prog f args (dA s x) (fun r H'=>r=r0∧H'=dA s' x')) (H:aE) (hs:lZ H (dA s x)) (ha:∀ a∈args,Clo (dA s x) a) :
  aK Tryz.prog f args H (fun r H'=>r=r0∧H'=dA s' x'++H):=h.frame hs.sub (DW s x) ha (aAX s s' x x' H)
abbrev rH (r:List AV) (l:List ByteArray) (s:DSt) (x:RX):aE:=[(1100,⟨0,7,107,[r]⟩),(1101,⟨x.gs,1,9,pB l⟩),(1102,⟨x.gq,2,127,uF s.q⟩)]
theorem aAN (s:DSt) (x:RX) (n:Nat) (t:ByteArray) (hn:n < s.cells.length) :
  aK Tryz.prog 80 [.ref 1100 0 0 0,iv (n:Int),sv t] (dA s x) (fun r H'=>r=.tup []∧H'=dA {s with cells:=s.cells.set n t} x):=by
 obtain ⟨c,hc⟩:=aY hn;have hcr:=oP hc;have hlen:(s.cells.set n t).length=s.cells.length:=List.length_set;refine Bd func80 rfl ntmps80<|Rg<|Dd aB<|Dd dY<|Dd (cI iH)<|Dd (cW bJ)<|Dd aB<|Dd aB<|Dd (by exact dE rfl cD rfl rfl rfl rfl rfl (by omega) (by exact aIC _) (by omega) (aIJ _))<|Uu (by exact bU rfl sizeOf9 rfl rfl rfl rfl rfl hcr (by simp) rfl (DU _ _ _))<|Zz ?_;refine eQ (H':=rH (fC s x) (s.cells.set n t) s x) (by exact .inl rfl) rfl  (Fin.wk (by(simp;done)) (Hc (bE _ _ _ rfl rfl)<|Hc (aD _ _ _)<|Hc (aD _ _ _)<|trivial) ⟨rfl,rfl,rfl,trivial⟩) ?_;exact⟨rfl,by simp only [dA,rH,fC,hlen];rfl⟩
theorem JR (s:DSt) (x:RX) (m:Nat) (hs:DOk s) (hm:m≤s.q.length) :
  aK Tryz.prog 79 [.ref 1100 0 0 0,iv (m:Int)] (dA s x) (fun r H'=>r=.tup []∧H'=dA {s with cells:=dL s.cells (s.q.take m)} x):=by
 have hql:=hs.ql;refine Bd func79 rfl ntmps79<|Sr<|Dd aR<|Zz<|aJ ?_;refine bG (σ:=Nat) (fun i=>([(0,.ref 1100 0 0 0),(1,iv (m:Int)),(4,iv (i:Int))],dA {s with cells:=dL s.cells (s.q.take i)} x)) (fun i=>i≤m) (fun i=>m - i) 0 (by omega) ?_ ?_
 ·exact(cC.wk (Ea<|Eb<|Eb<|trivial) (Hc (bE _ _ _ rfl rfl)<|Hb<|Hc (aD _ _ _)<|trivial) ⟨rfl,rfl,rfl,trivial⟩)
 rintro i hi;refine Sq<|Sr<|Dd aB<|Dd aB<|Dd cP<|Zz ?_;refine Cn ?_ ?_<;>intro hc1
 ·have hlt:i < m:=by have:=aHn hc1;omega
  obtain ⟨p,hp⟩:=aY (show i < s.q.length by omega);have hpe:(uF s.q)[i]?=some ((gA p).map .pv):=by rw [aIL,hp];rfl
  obtain ⟨hp1,hp2⟩:=hs.q p (aIB hp);have hset:=aAN {s with cells:=dL s.cells (s.q.take i)} x p.1 p.2 (by simpa [iT] using hp1);have hn:dL s.cells (s.q.take (i+1))=(dL s.cells (s.q.take i)).set p.1 p.2:=by rw [xE hp,DY]
  rw [← hn] at hset;refine aF<|Sq<|aJ<|bF follows<|Cr [1100] (fun _ _=>aB)<|Cr [1100] (fun _ _=>aB)<|Cr [1100] (fun H1 hH=>by exact bK rfl rfl ((hH _ rfl).trans rfl) rfl)<|Cr [1100] (fun _ h=>fh jS h)<|Cr [1100] (fun _ h=>lh jB h)<|Cr [] (fun _ _=>aB)<|Cr [1102] (fun H1 hH=>by exact dE rfl FP rfl ((hH _ rfl).trans rfl) rfl rfl rfl (by omega) (by exact aIC _) (Nat.lt_of_lt_of_le hlt hm) (aIJ _))<|Cr [1102] (fun _ h=>fh E8 h)<|Cr [1102] (fun H1 hH=>by exact bH rfl aL rfl ((hH _ rfl).trans rfl) rfl hpe rfl)<|Cr [1100] (fun _ _=>aB)<|Cr [1100] (fun H1 hH=>by exact bK rfl rfl ((hH _ rfl).trans rfl) rfl)<|Cr [1100] (fun _ h=>fh jS h)<|Cr [1100] (fun _ h=>lh jB h)<|Cr [] (fun _ _=>aB)<|Cr [1102] (fun H1 hH=>by exact dE rfl FP rfl ((hH _ rfl).trans rfl) rfl rfl rfl (by omega) (by exact aIC _) (Nat.lt_of_lt_of_le hlt hm) (aIJ _)) ?_;refine Cr [1102] (fun _ h=>fh NA h)<|Cr [1102] (fun H1 hH=>by exact bH rfl aQ rfl ((hH _ rfl).trans rfl) rfl hpe rfl) ?_;refine dI (r:=⟨_,some [1100,1101,1102],_⟩) (DStep.plain rfl (fun H1 hH=>by exact aA rfl rfl call80 rfl (mS hset _ ⟨(hH 1100 rfl).trans rfl,(hH 1101 rfl).trans rfl,(hH 1102 rfl).trans rfl,trivial⟩ (by simp;rfl)))) rfl ?_;refine cA<|Kr<|Rg<|Dd aB<|Dd rL<|Da ?_;refine⟨i+1,by omega,by omega,?_⟩;exact(cC.wk (Ea<|Eb<|Eb<|trivial) (Hc (bE _ _ _ rfl rfl)<|Hb<|Hc (aD _ _ _)<|trivial) ⟨rfl,rfl,rfl,trivial⟩)
 have hge:i=m:=by have:¬ _:=aHo hc1;omega
 subst hge;refine aV ?_;refine eQ (H':=dA {s with cells:=dL s.cells (s.q.take i)} x) (by exact .inl rfl) rfl  (Fin.wk (by(simp;done)) (Hc (bE _ _ _ rfl rfl)<|Hb<|Hc (aD _ _ _)<|trivial) ⟨rfl,rfl,rfl,trivial⟩) ?_;exact Qq
def sW (s:DSt) (x:RX):RX:=if s.off then x else {LJ s x with gq:=x.gq+1}
abbrev L8 (s:DSt) (x:RX) (l:List ByteArray):aE:=[(1100,⟨0,7,107,[[.osl 1101 x.gs 0 l.length,.osl 1102 (x.gq+1) 0 0,bv false,bv false,iv (JD s x),iv (JC s x),iv (JB s x)]]⟩),(1101,⟨x.gs,1,9,pB l⟩),(1102,⟨x.gq+1,2,127,[]⟩)]
theorem WR (s:DSt) (x:RX) (w b:Int) (h:s.off=false):L8 s x (lY s w b)=dA (fV s w b) (sW s x):=by
 have e1:fV s w b={s with cells:=lY s w b,q:=[],off:=true,arm:=qZ s.arm,gq:=s.gq+1}:=by simp [fV,h]
 have e2:sW s x={LJ s x with gq:=x.gq+1}:=by simp [sW,h]
 rw [e1,e2];unfold LJ;cases e:s.arm<;>simp [dA,fC,TM,JD,JC,JB,qZ,e]
theorem EP (s:DSt) (x:RX) (w b:Int) (hs:DOk s) :
  aK Tryz.prog 37 [.ref 1100 0 0 0,iv w,iv b] (dA s x) (fun r H'=>r=.tup []∧H'=dA (fV s w b) (sW s x)):=by
 have hql:=hs.ql;obtain ⟨m,hm⟩:∃ m,m=yZ s w:=⟨_,rfl⟩;have hmw:max 0 (min w (s.q.length:Int))=(m:Int):=by rw [hm];unfold yZ;omega
 have hml:m≤s.q.length:=by rw [hm];unfold yZ;omega
 have hpo:=MC hs m;refine Bd func37 rfl ntmps37<|Sq<|Sr<|Dd aB<|Dd (by exact bR rfl cZ rfl rfl rfl rfl)<|Zz ?_;refine Cn ?_ ?_<;>intro hc1
 ·((cases hc1;done))
 refine aF<|Sq<|Sr<|Dd aB<|Dd dY<|Dd (cI pZ)<|Dd (cW cK)<|Dd pY<|Zz ?_;refine Cn ?_ ?_<;>intro hc2
 ·have ho:s.off=true:=by simpa using hc2
  refine aH ?_;refine eQ (H':=dA s x) (.inr rfl) rfl  (Fin.wk (by(simp;done)) (Hc (bE _ _ _ rfl rfl)<|Hb<|Hc (aD _ _ _)<|trivial) ⟨rfl,rfl,rfl,trivial⟩) ?_;exact⟨rfl,by simp [fV,sW,ho]⟩
 have ho:s.off=false:=by simpa using hc2
 have hdf:=WR s x w b ho;refine aF<|Sr<|Dd aB<|Dd aB<|Dd dY<|Dd (cI jS)<|Dd (cW jB)<|Dd (by exact cM rfl rJ rfl rfl rfl)<|Dd (by exact uN rfl rfl rfl rfl)<|Dd (by exact BF rfl rfl rfl hmw)<|Dd aR<|Zz<|Sr<|Dd aB<|Dd aB<|Dd (by exact aA rfl rfl call79 rfl (mS (JR s x m hs hml) _ ⟨rfl,rfl,rfl,trivial⟩ (by simp;rfl)))<|Zz<|Sq<|Sr<|Dd aB<|Dd aB<|Dd dY<|Dd (cI jS)<|Dd (cW jB)<|Dd (by exact cM rfl rJ rfl rfl rfl)<|Dd cP<|Zz ?_;refine Cn ?_ ?_<;>intro hc3
 ·have hlt:m < s.q.length:=Int.ofNat_lt.1 (aHn hc3);obtain ⟨p,hp⟩:=aY hlt;have hpe:(uF s.q)[m]?=some ((gA p).map .pv):=by rw [aIL,hp];rfl
  obtain ⟨hp1,hp2⟩:=hs.q p (aIB hp);have hkm:max 0 (min b 64)=((min b 64).toNat:Int):=by omega
  have hkl:(min b 64).toNat≤64:=by omega
  refine Sr<|Dd aB<|Dd dY<|Dd (cI jS)<|Dd (cW jB)<|Dd aB<|Dd (by exact dE rfl FP rfl rfl rfl rfl rfl (by omega) (by exact aIC _) (by omega) (aIJ _))<|Dd (by exact eW rfl isAgg127 aF6 rfl rfl rfl hpe (by simp only [Zl,gA,fC];rfl) rfl)<|Dd (by exact dW (id:=7) rfl aFo rfl rfl)<|Uu (vJ aF6)<|Zz<|Sr<|Dd aB<|Dd (by exact uN rfl rfl rfl rfl)<|Dd (by exact BF rfl rfl rfl hkm)<|Dd aR<|Zz<|Sr<|Dd aB<|Dd yP<|Zz ?_;refine Cn ?_ ?_<;>intro hc4
  ·have hb:0 < b:=by have:=aHn hc4;omega
   have hp1':p.1 < (dL s.cells (s.q.take m)).length:=by rw [iT];exact hp1
   obtain ⟨c,hc⟩:=aY hp1';have hcs:=hpo.c c (aIB hc);have hcs:c.size=64:=hcs;have hcr:=oP hc;have hset:=aAN {s with cells:=dL s.cells (s.q.take m)} x p.1 (p.2.extract 0 (min b 64).toNat++c.extract (min b 64).toNat c.size) hp1';have hfc:lY s w b=(dL s.cells (s.q.take m)).set p.1 (p.2.extract 0 (min b 64).toNat++c.extract (min b 64).toNat c.size):=by
    rw [lY,← hm,hp];simp only [IE,aHq hb,hc,Option.getD_some];rw [aAe (by omega) (by omega)]
   rw [hfc] at hdf;have hz1:(p.2.extract 0 (min b 64).toNat).size+(c.extract (min b 64).toNat c.size).size≤9223372036854775807:=by
    have e1:(p.2.extract 0 (min b 64).toNat).size≤64:=by rw [ByteArray.size_extract];omega
    have e2:(c.extract (min b 64).toNat c.size).size≤64:=by rw [ByteArray.size_extract];omega
    omega
   refine bF follows<|Cr [1100] (fun _ _=>aB)<|Cr [7] (fun _ h=>fh E8 h)<|Cr [7] (fun _ h=>lh aL h)<|Cr [7] (fun _ h=>fh NA h)<|Cr [7] (fun _ h=>lh aQ h)<|Cr [] (fun _ _=>aB)<|Cr [] (fun H1 hH=>by exact bQ (l:=0) (h:=(min b 64).toNat) rfl aC rfl rfl rfl (by omega) (by omega) rfl)<|Cr [1100] (fun _ _=>aB)<|Cr [1100] (fun H1 hH=>by exact bK rfl rfl ((hH _ rfl).trans rfl) rfl)<|Cr [1100] (fun _ h=>fh iH h)<|Cr [1100] (fun _ h=>lh bJ h)<|Cr [7] (fun _ h=>fh E8 h)<|Cr [7] (fun _ h=>lh aL h)<|Cr [1101] (fun H1 hH=>by exact dE rfl cD rfl ((hH _ rfl).trans rfl) rfl rfl rfl (by omega) (by exact aIC _) (by omega) (aIJ _))<|Cr [1101] (fun H1 hH=>by exact bH rfl aQ rfl ((hH _ rfl).trans rfl) rfl hcr rfl)<|Cr [] (fun _ _=>aB) ?_;refine Cr [] (fun H1 hH=>by exact bQ (l:=(min b 64).toNat) (h:=c.size) rfl aC rfl rfl rfl (by omega) (by omega) rfl)<|Cr [] (fun H1 hH=>by exact fA rfl rfl rfl hz1 rfl) ?_;refine dI (r:=⟨_,some [1100,1101,1102],_⟩) (DStep.plain rfl (fun H1 hH=>by exact aA rfl rfl call80 rfl (mS hset _ ⟨(hH 1100 rfl).trans rfl,(hH 1101 rfl).trans rfl,(hH 1102 rfl).trans rfl,trivial⟩ (by simp;rfl)))) rfl ?_;refine cA<|Kr<|Sr<|Dd aB<|Dd dY<|Dd (cI jS)<|Uu (by exact gT (q:=1102) (sz:=2) (ty:=127) rfl sizeOf105 rfl rfl rfl rfl rfl rfl rfl rfl (by simp) (by simp only [fC,List.set_cons_succ,List.set_cons_zero];rfl) (by simp only [List.set_cons_zero];rfl))<|Zz<|Sr<|Dd aB<|Dd dY<|Dd (cI pZ)<|Uu (by exact bU rfl sizeOf4 rfl rfl rfl rfl rfl rfl (by simp only [aHt,List.length_nil];omega) (by simp only [Zl,gA,fC];rfl) (by simp only [Zl,gA,fC];rfl))<|Zz<|Rg<|Dd aB<|Dd dY<|Dd (cI sA)<|Uu (by exact bU rfl sizeOf4 rfl rfl rfl rfl rfl rfl (by simp only [aHt,List.length_nil];omega) (by simp only [Zl,gA,fC];rfl) (by simp only [Zl,gA,fC];rfl))<|Zz ?_;refine eQ (H':=L8 s x ((dL s.cells (s.q.take m)).set p.1 (p.2.extract 0 (min b 64).toNat++c.extract (min b 64).toNat c.size))) (by exact .inl rfl) rfl  (Fin.wk (by(simp;done)) (Hc (by(simp;exact⟨rfl,rfl⟩))<|Hc (aD _ _ _)<|Hb<|trivial) ⟨rfl,rfl,rfl,trivial⟩) ?_;exact⟨rfl,hdf⟩
  have hb:¬ 0 < b:=by have:¬ _:=aHo hc4;omega
  have hfc:lY s w b=dL s.cells (s.q.take m):=by
   rw [lY,← hm,hp];simp only [IE,aHp hb]
  rw [hfc] at hdf;refine aF<|Sr<|Dd aB<|Dd dY<|Dd (cI jS)<|Uu (by exact gT (q:=1102) (sz:=2) (ty:=127) rfl sizeOf105 rfl rfl rfl rfl rfl rfl rfl rfl (by simp) (by simp only [fC,List.set_cons_succ,List.set_cons_zero];rfl) (by simp only [List.set_cons_zero];rfl))<|Zz<|Sr<|Dd aB<|Dd dY<|Dd (cI pZ)<|Uu (by exact bU rfl sizeOf4 rfl rfl rfl rfl rfl rfl (by simp only [aHt,List.length_nil];omega) (by simp only [Zl,gA,fC];rfl) (by simp only [Zl,gA,fC];rfl))<|Zz<|Rg<|Dd aB<|Dd dY<|Dd (cI sA)<|Uu (by exact bU rfl sizeOf4 rfl rfl rfl rfl rfl rfl (by simp only [aHt,List.length_nil];omega) (by simp only [Zl,gA,fC];rfl) (by simp only [Zl,gA,fC];rfl))<|Zz ?_;refine eQ (H':=L8 s x (dL s.cells (s.q.take m))) (by exact .inl rfl) rfl  (Fin.wk (by(simp;done)) (Hc (by(simp;exact⟨rfl,rfl⟩))<|Hb<|Hb<|trivial) ⟨rfl,rfl,rfl,trivial⟩) ?_;exact⟨rfl,hdf⟩
 have hge:s.q.length≤m:=Nat.not_lt.1 (fun h=>aHo hc3 (Int.ofNat_lt.2 h));have hfc:lY s w b=dL s.cells (s.q.take m):=by
  rw [lY,← hm,List.getElem?_eq_none hge];rfl
 rw [hfc] at hdf;refine aF<|Sr<|Dd aB<|Dd dY<|Dd (cI jS)<|Uu (by exact gT (q:=1102) (sz:=2) (ty:=127) rfl sizeOf105 rfl rfl rfl rfl rfl rfl rfl rfl (by simp) (by simp only [fC,List.set_cons_succ,List.set_cons_zero];rfl) (by simp only [List.set_cons_zero];rfl))<|Zz<|Sr<|Dd aB<|Dd dY<|Dd (cI pZ)<|Uu (by exact bU rfl sizeOf4 rfl rfl rfl rfl rfl rfl (by simp only [aHt,List.length_nil];omega) (by simp only [Zl,gA,fC];rfl) (by simp only [Zl,gA,fC];rfl))<|Zz<|Rg<|Dd aB<|Dd dY<|Dd (cI sA)<|Uu (by exact bU rfl sizeOf4 rfl rfl rfl rfl rfl rfl (by simp only [aHt,List.length_nil];omega) (by simp only [Zl,gA,fC];rfl) (by simp only [Zl,gA,fC];rfl))<|Zz ?_;refine eQ (H':=L8 s x (dL s.cells (s.q.take m))) (by exact .inl rfl) rfl  (Fin.wk (by(simp;done)) (Hc (by(simp;exact⟨rfl,rfl⟩))<|Hb<|Hb<|trivial) ⟨rfl,rfl,rfl,trivial⟩) ?_;exact⟨rfl,hdf⟩
def cY (s:DSt):Prop:=∀ a w b,s.arm=.on a w b→0≤a
def qP (s:DSt) (x:RX):RX:=match s.arm with
 | .on a _ _=>if 0 < a then x else sW s x
 | _=>x
theorem O2 (s:DSt) (x:RX) (hs:DOk s) (ha:HW s) (hp:cY s) :
  aK Tryz.prog 167 [.ref 1100 0 0 0] (dA s x) (fun r H'=>r=iv (eG s)∧H'=dA (eK s) (qP s x)):=by
 obtain ⟨cells,q,off,arm,gq,ga⟩:=s;cases arm with
 | never =>
  refine Bd aHI rfl aG2<|Sr<|Dd aR<|Zz<|Sq<|Sr<|Dd aB<|Dd dY<|Dd (cI sA)<|Dd (cW cK)<|Dd pY<|Zz ?_;refine Cn ?_ ?_<;>intro hc1
  ·refine Sr<|Dd aR<|Zz<|aH ?_;refine bI (H':=dA ⟨cells,q,off,.never,gq,ga⟩ x) (.inr rfl) rfl (aI rfl) (Fin.wk (by(simp;done)) (Hc (bE _ _ _ rfl rfl)<|Hb<|Hc (aD _ _ _)<|trivial) ⟨rfl,rfl,rfl,trivial⟩) ?_;exact Qq
  ((cases hc1;done))
 | off a w b =>
  refine Bd aHI rfl aG2<|Sr<|Dd aR<|Zz<|Sq<|Sr<|Dd aB<|Dd dY<|Dd (cI sA)<|Dd (cW cK)<|Dd pY<|Zz ?_;refine Cn ?_ ?_<;>intro hc1
  ·refine Sr<|Dd aR<|Zz<|aH ?_;refine bI (H':=dA ⟨cells,q,off,.off a w b,gq,ga⟩ x) (.inr rfl) rfl (aI rfl) (Fin.wk (by(simp;done)) (Hc (bE _ _ _ rfl rfl)<|Hb<|Hc (aD _ _ _)<|trivial) ⟨rfl,rfl,rfl,trivial⟩) ?_;exact Qq
  ((cases hc1;done))
 | on a w b =>
  have ha':=ha a w b rfl;have hp':=hp a w b rfl;refine Bd aHI rfl aG2<|Sr<|Dd aR<|Zz<|Sq<|Sr<|Dd aB<|Dd dY<|Dd (cI sA)<|Dd (cW cK)<|Dd pY<|Zz ?_;refine Cn ?_ ?_<;>intro hc1
  ·((cases hc1;done))
  refine aF<|Sq<|Sr<|Dd aB<|Dd dY<|Dd (cI E9)<|Dd (cW aL)<|Dd eP<|Zz ?_;refine Cn ?_ ?_<;>intro hc2
  ·have e0:a=0:=aHn hc2;have h0:¬ 0 < a:=by omega
   refine Sq<|bF follows<|Cr [1100] (fun _ _=>aB)<|Cr [1100] (fun _ _=>aB)<|Cr [1100] (fun H1 hH=>by exact bK rfl rfl ((hH _ rfl).trans rfl) rfl)<|Cr [1100] (fun _ h=>fh VL h)<|Cr [1100] (fun _ h=>lh aL h)<|Cr [1100] (fun _ _=>aB)<|Cr [1100] (fun H1 hH=>by exact bK rfl rfl ((hH _ rfl).trans rfl) rfl)<|Cr [1100] (fun _ h=>fh VK h)<|Cr [1100] (fun _ h=>lh aL h) ?_;refine dI (r:=⟨_,some [1100,1101,1102],_⟩) (DStep.plain rfl (fun H1 hH=>by exact aA rfl rfl N1 rfl (mS (EP ⟨cells,q,off,.on a w b,gq,ga⟩ x w b hs) _ ⟨(hH 1100 rfl).trans rfl,(hH 1101 rfl).trans rfl,(hH 1102 rfl).trans rfl,trivial⟩ (by simp;rfl)))) rfl ?_;refine cA<|Kr<|Sr<|Dd aR<|Zz<|aH ?_;refine bI (H':=dA (fV ⟨cells,q,off,.on a w b,gq,ga⟩ w b) (sW ⟨cells,q,off,.on a w b,gq,ga⟩ x)) (.inr rfl) rfl (aI rfl) (Fin.wk (by(simp;done)) (Hc (bE _ _ _ rfl rfl)<|Hb<|Hc (aD _ _ _)<|trivial) ⟨rfl,rfl,rfl,trivial⟩) ?_;exact⟨by simp [eG,h0],by simp only [eK,qP,aHp h0]⟩
  have e0:¬ a=0:=aHo hc2;have h0:0 < a:=by omega
  have hwr:IntKind.i64.wrap (a - 1)=a - 1:=eS (by omega) (by omega);refine aF<|Sr<|Dd aB<|Dd dY<|Dd (cI E9)<|Dd (cW aL)<|Dd (by exact dG rfl rfl rfl hwr)<|Dd dY<|Dd (cI E9)<|Uu (by exact bU rfl sizeOf3 rfl rfl rfl rfl rfl rfl (by simp only [aHt,List.length_nil];omega) (by simp only [Zl,gA,fC];rfl) (by simp only [Zl,gA,fC];rfl))<|Zz<|Sr<|Dd aR<|Zz<|aH ?_;refine bI (H':=dA ⟨cells,q,off,.on (a - 1) w b,gq,ga⟩ x) (.inr rfl) rfl (aI rfl) (Fin.wk (by(simp;done)) (Hc (bE _ _ _ rfl rfl)<|Hb<|Hc (aD _ _ _)<|trivial) ⟨rfl,rfl,rfl,trivial⟩) ?_;exact⟨by simp [eG,h0],by simp only [eK,qP,aHq h0]⟩
def xW (x:RX):RX:={x with gq:=x.gq+1}
def zE (s:DSt) (x:RX) (k:Int) (t:ByteArray):RX:=if s.off then x else if nC s k t then qP (iS s k.toNat t) (xW x)else x
theorem aAj {s:DSt} (h:s.off=false) {k:Nat} {t:ByteArray} (hg:nC s (k:Int) t=true):gR s k t=eK (iS s k t)∧gK s k t=eG (iS s k t):=by
 rw [nC] at hg;constructor
 ·simp only [gR,h,hg,Bool.false_eq_true,if_false,if_true,aIC]
 simp only [gK,h,hg,Bool.false_eq_true,if_false,if_true,aIC]
theorem aAL (s:DSt) (x:RX) (k:Int) (t:ByteArray) (hs:DOk s) (ha:HW s) (hp:cY s) (hq:s.q.length < 1048576) :
  aK Tryz.prog 136 [.ref 1100 0 0 0,iv k,sv t] (dA s x) (fun r H'=>r=iv (gK s k t)∧H'=dA (gR s k t) (zE s x k t)):=by
 refine Bd func136 rfl ntmps136<|Sr<|Dd aR<|Zz<|Sq<|Sr<|Dd aB<|Dd (by exact bR rfl cZ rfl rfl rfl rfl)<|Zz ?_;refine Cn ?_ ?_<;>intro hc1
 ·((cases hc1;done))
 refine aF<|Sq<|Sr<|Dd aB<|Dd dY<|Dd (cI pZ)<|Dd (cW cK)<|Dd pY<|Zz ?_;refine Cn ?_ ?_<;>intro hc2
 ·have e:s.off=true:=by simpa using hc2
  refine Sr<|Dd aR<|Zz<|aH ?_;refine bI (H':=dA s x) (.inr rfl) rfl (aI rfl) (Fin.wk (by(simp;done)) (Hc (bE _ _ _ rfl rfl)<|Hb<|Hc (aD _ _ _)<|trivial) ⟨rfl,rfl,rfl,trivial⟩) ?_;exact⟨by simp [gK,e],by simp [gR,zE,e]⟩
 have e:s.off=false:=by simpa using hc2
 have bad:nC s k t=false→gR s k t=s∧gK s k t=1∧zE s x k t=x:=fun hg=>by
  rw [nC] at hg;exact⟨by simp [gR,e,hg],by simp [gK,e,hg],by simp [zE,e,nC,hg]⟩
 by_cases q1:k < 0
 ·have n1:decide (k < 0)=true:=decide_eq_true q1;have hg:nC s k t=false:=by rw [nC,fK,decide_eq_false (by omega)];rfl
  obtain ⟨g1,g2,g3⟩:=bad hg;refine aF<|Sq<|Sr<|Dd aB<|Dd cP<|Dd aB<|Fa<|Fa<|Fa<|Fa<|Fa<|Fa<|Fa<|Dd SA<|Dd aB<|Fo<|Fo<|Fo<|Dd cX<|Zz ?_;refine Cn ?_ ?_<;>intro hc3
  ·refine Sr<|Dd aR<|Zz<|aH ?_;refine bI (H':=dA s x) (.inr rfl) rfl (aI rfl) (Fin.wk (by(simp;done)) (Hc (bE _ _ _ rfl rfl)<|Hb<|Hc (aD _ _ _)<|trivial) ⟨rfl,rfl,rfl,trivial⟩) ?_;exact⟨by rw [g2],by rw [g1,g3]⟩
  ((cases hc3;done))
 have n1:decide (k < 0)=false:=decide_eq_false q1;by_cases q2:(s.cells.length:Int)≤k
 ·have n2:decide ((s.cells.length:Int)≤k)=true:=decide_eq_true q2;have hg:nC s k t=false:=by rw [nC,fK,decide_eq_true (by omega),decide_eq_false (by omega)];rfl
  obtain ⟨g1,g2,g3⟩:=bad hg;refine aF<|Sq<|Sr<|Dd aB<|Dd cP<|Dd aB<|Oa aB<|Oa aB<|Oa dY<|Oa (cI iH)<|Oa (cW bJ)<|Oa (by exact cM rfl aO rfl rfl rfl)<|Oa CD<|Dd D1<|Dd aB<|Fa<|Fa<|Fa<|Dd SA<|Zz ?_;refine Cn ?_ ?_<;>intro hc4
  ·refine Sr<|Dd aR<|Zz<|aH ?_;refine bI (H':=dA s x) (.inr rfl) rfl (aI rfl) (Fin.wk (by(simp;done)) (Hc (bE _ _ _ rfl rfl)<|Hb<|Hc (aD _ _ _)<|trivial) ⟨rfl,rfl,rfl,trivial⟩) ?_;exact⟨by rw [g2],by rw [g1,g3]⟩
  ((cases hc4;done))
 have n2:decide ((s.cells.length:Int)≤k)=false:=decide_eq_false q2;obtain ⟨n,rfl⟩:∃ n:Nat,k=(n:Int):=⟨k.toNat,by omega⟩;have hn:n < s.cells.length:=by omega
 refine aF<|Sq<|Sr<|Dd aB<|Dd cP<|Dd aB<|On aB<|On aB<|On dY<|On (cI iH)<|On (cW bJ)<|On (by exact cM rfl aO rfl rfl rfl)<|On CD<|Dd cX<|Dd aB<|Oa aB<|Oa (mD aC)<|Oa tM<|Dd D1<|Zz ?_;refine Cn ?_ ?_<;>intro hc5
 ·have ht:¬ t.size=64:=by
   have h:(!decide ((t.size:Int)=64))=true:=hc5;simp at h;omega
  have hg:nC s n t=false:=by rw [nC,decide_eq_false ht,Bool.and_false]
  obtain ⟨g1,g2,g3⟩:=bad hg;refine Sr<|Dd aR<|Zz<|aH ?_;refine bI (H':=dA s x) (.inr rfl) rfl (aI rfl) (Fin.wk (by(simp;done)) (Hc (bE _ _ _ rfl rfl)<|Hb<|Hc (aD _ _ _)<|trivial) ⟨rfl,rfl,rfl,trivial⟩) ?_;exact⟨by rw [g2],by rw [g1,g3]⟩
 have ht:t.size=64:=by
  have h:(!decide ((t.size:Int)=64))=false:=hc5;simp at h;omega
 have hg:nC s n t=true:=by rw [nC,fY,decide_eq_true hn,decide_eq_true ht];rfl
 obtain ⟨g1,g2⟩:=aAj e hg;have g3:zE s x n t=qP (iS s n t) (xW x):=by simp [zE,e,hg]
 have hw:=xD hs hn ht hq;refine aF<|Sr<|Dd aB<|Dd aB<|Dd dY<|Dd (cI jS)<|Dd (cW jB)<|Dd aB<|Dd aB<|Dd (RA aGU)<|Dd (by exact bD [gA (n,t)] rfl FP rfl rfl rfl rfl rfl (by simp [gA]))<|Dd (by exact dV rfl FP aGK rfl rfl rfl rfl rfl (aHr _) rfl (by simp [gA]) (rfl:_=1) (by omega) (aB2 s (n,t)) (List.map_append (l₂:=[(n,t)])).symm)<|Dd dY<|Dd (cI jS)<|Uu (by exact bU rfl sizeOf105 rfl rfl rfl rfl rfl rfl (by simp only [aHt,List.length_nil];omega) (by simp only [Zl,gA,fC];rfl) (by simp only [Zl,gA,fC];rfl))<|Zz<|Sr<|Dd aB<|Dd (by exact aA rfl rfl call167 rfl (mS (O2 (iS s n t) (xW x) hw (fun a w b h=>ha a w b h) (fun a w b h=>hp a w b h)) _ ⟨rfl,rfl,rfl,trivial⟩ (by simp;rfl)))<|Dd aR<|Zz<|aH ?_;refine bI (H':=dA (eK (iS s n t)) (qP (iS s n t) (xW x))) (.inr rfl) rfl (aI rfl) (Fin.wk (by(simp;done)) (Hc (bE _ _ _ rfl rfl)<|Hb<|Hc (aD _ _ _)<|trivial) ⟨rfl,rfl,rfl,trivial⟩) ?_;exact⟨by rw [g2],by rw [g1,g3]⟩
theorem xI (s:DSt) (x:RX) (k:Int) (hs:DOk s) :
  aK Tryz.prog 63 [.ref 1100 0 0 0,iv k] (dA s x) (fun r H'=>r=.tup [sv (sC s k),iv (fS s k)]∧H'=dA s x):=by
 have hql:=hs.ql;refine Bd func63 rfl ntmps63<|Sr<|Dd aR<|Dd aR<|Zz<|Sq<|Sr<|Dd aB<|Dd (by exact bR rfl cZ rfl rfl rfl rfl)<|Zz ?_;refine Cn ?_ ?_<;>intro hc1
 ·((cases hc1;done))
 refine aF<|Sq<|Sr<|Dd aB<|Dd dY<|Dd (cI pZ)<|Dd (cW cK)<|Dd pY<|Zz ?_;refine Cn ?_ ?_<;>intro hc2
 ·have e:s.off=true:=by simpa using hc2
  refine Sr<|Dd aR<|Dd aR<|Zz<|aH ?_;refine fF (H':=dA s x) (.inr rfl) rfl (aI rfl) (aI rfl) (Fin.wk (by(simp;done)) (Hc (bE _ _ _ rfl rfl)<|Hb<|Hc (aD _ _ _)<|trivial) ⟨rfl,rfl,rfl,trivial⟩) ?_;exact⟨by simp [sC,fS,e],rfl⟩
 have e:s.off=false:=by simpa using hc2
 refine aF<|Sq<|Sq ?_;refine cQ (t:=25) (n:=12) (X:=!fK s k) ?_ ?_
 ·all_goals refine Dd aB ?_
  all_goals refine Dd cP<|Dm ?_
  all_goals refine Sp 17 (fun h17=>?_) fun h17=>?_
  all_goals try contradiction
  all_goals first|refine Fo<|Fo<|Fo<|Fo<|Fo<|Fo<|Fo ?_|refine On aB<|On aB<|On dY<|On (cI iH)<|On (cW bJ)<|On (by exact cM rfl aO rfl rfl rfl)<|On CD ?_
  all_goals refine Dd cX<|Zz ?_
  all_goals(exact⟨⟨_,rfl,by(rw [fK,Bool.eq_iff_iff];simp at h17 ⊢;omega)⟩,rfl,rfl,rfl⟩)
 refine Cn ?_ ?_<;>intro hc3
 ·have e2:fK s k=false:=by simpa using hc3
  refine Sr<|Dd aR<|Dd aR<|Zz<|aH ?_;refine fF (H':=dA s x) (.inr rfl) rfl (aI rfl) (aI rfl) (Fin.wk (by(simp;done)) (Hc (bE _ _ _ rfl rfl)<|Hb<|Hc (aD _ _ _)<|trivial) ⟨rfl,rfl,rfl,trivial⟩) ?_;exact⟨by simp [sC,fS,e,e2],rfl⟩
 have e2:fK s k=true:=by simpa using hc3
 rcases mQ s k with h|⟨n,rfl,hn⟩
 ·rw [e2] at h;cases h
 have h1:sC s n=cH s n:=by simp [sC,e,e2]
 have h2:fS s n=0:=by simp [fS,e,e2]
 rw [h1,h2];obtain ⟨c,hc⟩:=aY hn;have hcr:=oP hc;refine aF<|Sr<|Dd aB<|Dd dY<|Dd (cI iH)<|Dd (cW bJ)<|Dd aB<|Dd (by exact dE rfl cD rfl rfl rfl rfl rfl (by omega) (by exact aIC _) (by omega) (aIJ _))<|Dd (by exact bH rfl aQ rfl rfl rfl hcr rfl)<|Dd aR<|Zz<|Sq<|Sr<|Dd aR<|Zz<|aJ ?_;refine bG (σ:=Nat) (fun i=>([(0,.ref 1100 0 0 0),(1,iv (n:Int)),(6,sv (cH {s with q:=s.q.take i} n)),(7,iv (i:Int))],dA s x)) (fun i=>i≤s.q.length) (fun i=>s.q.length - i) 0 (by omega) ?_ ?_
 ·have e0:cH {s with q:=s.q.take 0} n=c:=by rw [List.take_zero,TC rfl];simp [hc]
  rw [e0];exact(cC.wk (Ea<|Eb<|Eb<|Eb<|trivial) (Hc (bE _ _ _ rfl rfl)<|Hb<|Hc (aD _ _ _)<|trivial) ⟨rfl,rfl,rfl,trivial⟩)
 intro i hi;refine Sq<|Sr<|Dd aB<|Dd aB<|Dd dY<|Dd (cI jS)<|Dd (cW jB)<|Dd (by exact cM rfl rJ rfl rfl rfl)<|Dd cP<|Zz ?_;refine Cn ?_ ?_<;>intro hc4
 ·have hlt:i < s.q.length:=by have:=aHn hc4;omega
  obtain ⟨p,hp⟩:=aY hlt;have hpe:(uF s.q)[i]?=some ((gA p).map .pv):=by rw [aIL,hp];rfl
  have hsn:cH {s with q:=s.q.take (i+1)} n=if n=p.1 then p.2 else cH {s with q:=s.q.take i} n:=by
   rw [xE hp];exact aB8 {s with q:=s.q.take i} p.1 p.2 n
  refine aF<|Sq<|aJ<|Sr<|Dd aB<|Dd dY<|Dd (cI jS)<|Dd (cW jB)<|Dd aB<|Dd (by exact dE rfl FP rfl rfl rfl rfl rfl (by omega) (by exact aIC _) (by omega) (aIJ _))<|Dd (cI E8)<|Dd (by exact bH rfl aL rfl rfl rfl hpe rfl)<|Dd aB<|Dd eP<|Zz ?_;refine Cn ?_ ?_<;>intro hc5
  ·have hm:n=p.1:=by
    have h:((p.1:Nat):Int)=(n:Int):=aHn hc5;omega
   rw [aHq hm] at hsn;refine Rg<|Dd aB<|Dd dY<|Dd (cI jS)<|Dd (cW jB)<|Dd aB<|Dd (by exact dE rfl FP rfl rfl rfl rfl rfl (by omega) (by exact aIC _) (by omega) (aIJ _))<|Dd (cI NA)<|Dd (by exact bH rfl aQ rfl rfl rfl hpe rfl)<|Dd aR<|Zz<|Rg<|Dd aB<|Dd rL<|Da ?_;refine⟨i+1,by omega,by omega,?_⟩;rw [hsn];exact(cC.wk (Ea<|Eb<|Eb<|Eb<|trivial) (Hc (bE _ _ _ rfl rfl)<|Hb<|Hc (aD _ _ _)<|trivial) ⟨rfl,rfl,rfl,trivial⟩)
  have hm:¬ n=p.1:=by
   have h:¬ ((p.1:Nat):Int)=(n:Int):=aHo hc5;omega
  rw [aHp hm] at hsn;refine aF<|Rg<|Dd aB<|Dd rL<|Da ?_;refine⟨i+1,by omega,by omega,?_⟩;rw [hsn];exact(cC.wk (Ea<|Eb<|Eb<|Eb<|trivial) (Hc (bE _ _ _ rfl rfl)<|Hb<|Hc (aD _ _ _)<|trivial) ⟨rfl,rfl,rfl,trivial⟩)
 have hge:i=s.q.length:=by have:¬ _:=aHo hc4;omega
 subst hge;rw [List.take_length];refine aV<|Sr<|Dd aB<|Dd aR<|Dd aR<|Zz<|aH ?_;refine fF (H':=dA s x) (.inr rfl) rfl (aI rfl) (aI rfl) (Fin.wk (by(simp;done)) (Hc (bE _ _ _ rfl rfl)<|Hb<|Hc (aD _ _ _)<|trivial) ⟨rfl,rfl,rfl,trivial⟩) ?_;exact Qq
theorem I8 (s:DSt):eG s=0∨eG s=22:=by
 unfold eG
 split
 ·split
  ·exact .inl rfl
  exact .inr rfl
 exact .inl rfl
def OC (s:DSt) (x:RX):RX:=if s.off then x else if eG s=0 then xW (qP s x)else qP s x
theorem aDB (s:DSt) (x:RX) (hs:DOk s) (ha:HW s) (hp:cY s) :
  aK Tryz.prog 137 [.ref 1100 0 0 0] (dA s x) (fun r H'=>r=iv (mG s)∧H'=dA (jJ s) (OC s x)):=by
 have hct:=HL hs;have hset:=JR (eK s) (qP s x) (eK s).q.length hct (aHx _);rw [List.take_length] at hset;refine Bd func137 rfl ntmps137<|Sr<|Dd aR<|Zz<|Sq<|Sr<|Dd aB<|Dd (by exact bR rfl cZ rfl rfl rfl rfl)<|Zz ?_;refine Cn ?_ ?_<;>intro hc1
 ·((cases hc1;done))
 refine aF<|Sq<|Sr<|Dd aB<|Dd dY<|Dd (cI pZ)<|Dd (cW cK)<|Dd pY<|Zz ?_;refine Cn ?_ ?_<;>intro hc2
 ·have e:s.off=true:=by simpa using hc2
  refine Sr<|Dd aR<|Zz<|aH ?_;refine bI (H':=dA s x) (.inr rfl) rfl (aI rfl) (Fin.wk (by(simp;done)) (Hc (bE _ _ _ rfl rfl)<|Hb<|Hc (aD _ _ _)<|trivial) ⟨rfl,rfl,rfl,trivial⟩) ?_;exact⟨by simp [mG,e],by simp [jJ,OC,e]⟩
 have e:s.off=false:=by simpa using hc2
 refine aF<|Sq<|Sr<|Dd aB<|Dd (by exact aA rfl rfl call167 rfl (mS (O2 s x hs ha hp) _ ⟨rfl,rfl,rfl,trivial⟩ (by simp;rfl)))<|Dd tM<|Zz ?_;refine Cn ?_ ?_<;>intro hc3
 ·have e2:¬ eG s=0:=by
   have h:(!decide (eG s=0))=true:=hc3
   simpa using h
  have e3:eG s=22:=(I8 s).resolve_left e2;refine Sr<|Dd aR<|Zz<|aH ?_;refine bI (H':=dA (eK s) (qP s x)) (.inr rfl) rfl (aI rfl) (Fin.wk (by(simp;done)) (Hc (bE _ _ _ rfl rfl)<|Hb<|Hc (aD _ _ _)<|trivial) ⟨rfl,rfl,rfl,trivial⟩) ?_;exact⟨by simp [mG,e,e3],by simp [jJ,OC,e,e2]⟩
 have e2:eG s=0:=by
  have h:(!decide (eG s=0))=false:=hc3
  simpa using h
 refine aF<|Sr<|Dd aB<|Dd aB<|Dd dY<|Dd (cI jS)<|Dd (cW jB)<|Dd (by exact cM rfl rJ rfl rfl rfl)<|Dd (by exact aA rfl rfl call79 rfl (mS hset _ ⟨rfl,rfl,rfl,trivial⟩ (by simp;rfl)))<|Zz<|Sr<|Dd aB<|Dd dY<|Dd (cI jS)<|Uu (by exact gT (q:=1102) (sz:=2) (ty:=127) rfl sizeOf105 rfl rfl rfl rfl rfl rfl rfl rfl (by simp) (by simp only [fC,List.set_cons_succ,List.set_cons_zero];rfl) (by simp only [List.set_cons_zero];rfl))<|Zz<|Sr<|Dd aR<|Zz<|aH ?_;refine bI (H':=dA (AF (eK s)) (xW (qP s x))) (.inr rfl) rfl (aI rfl) (Fin.wk (by(simp;done)) (Hc (bE _ _ _ rfl rfl)<|Hb<|Hc (aD _ _ _)<|trivial) ⟨rfl,rfl,rfl,trivial⟩) ?_;exact⟨by simp [mG,e,e2],by simp [jJ,OC,e,e2]⟩
abbrev rH2 (s:DSt) (x:RX) (on ar:Bool) (a w b:Int):aE:=[(1100,⟨0,7,107,[[.osl 1101 x.gs 0 s.cells.length,.osl 1102 x.gq 0 s.q.length,bv on,bv ar,iv a,iv w,iv b]]⟩),(1101,⟨x.gs,1,9,pB s.cells⟩),(1102,⟨x.gq,2,127,uF s.q⟩)]
theorem aDD (s:DSt) (x:RX):rH2 s x true false (JD s x) (JC s x) (JB s x)=dA (oH s) (LJ s x):=by unfold LJ oH;cases e:s.arm<;>simp [dA,fC,TM,JD,JC,JB,qZ,e]
theorem FW (s:DSt) (x:RX):aK Tryz.prog 38 [.ref 1100 0 0 0] (dA s x) (fun r H'=>r=.tup []∧H'=dA (oH s) (LJ s x)):=by
 rw [← aDD s x];refine Bd func38 rfl ntmps38<|Sq<|Sr<|Dd aB<|Dd (by exact bR rfl cZ rfl rfl rfl rfl)<|Zz ?_;refine Cn ?_ ?_<;>intro hc1
 ·((cases hc1;done))
 refine aF<|Sr<|Dd aB<|Dd dY<|Dd (cI pZ)<|Uu (by exact bU rfl sizeOf4 rfl rfl rfl rfl rfl rfl (by simp only [aHt,List.length_nil];omega) (by simp only [Zl,gA,fC];rfl) (by simp only [Zl,gA,fC];rfl))<|Zz<|Rg<|Dd aB<|Dd dY<|Dd (cI sA)<|Uu (by exact bU rfl sizeOf4 rfl rfl rfl rfl rfl rfl (by simp only [aHt,List.length_nil];omega) (by simp only [Zl,gA,fC];rfl) (by simp only [Zl,gA,fC];rfl))<|Zz ?_;refine eQ (H':=rH2 s x true false (JD s x) (JC s x) (JB s x)) (by exact .inl rfl) rfl  (Fin.wk (by(simp;done)) (Hc (by(simp;exact⟨rfl,rfl⟩))<|Hb<|Hc (aD _ _ _)<|trivial) ⟨rfl,rfl,rfl,trivial⟩) ?_;exact Qq
def LK (s:DSt) (x:RX) (a w b:Int):RX:=if s.off then x else {x with a:=a,w:=w,b:=b}
theorem aFx (s:DSt) (x:RX) (a w b:Int) (h:s.off=false):rH2 s x (!s.off) (decide (0≤a)) a w b=dA (pL s a w b) (LK s x a w b):=by
 by_cases h0:0≤a
 ·simp [dA,fC,pL,LK,h,h0,TM,JD,JC,JB]
 cases e:s.arm<;>simp [dA,fC,pL,LK,h,h0,TM,JD,JC,JB,qZ,e]
theorem R7 (s:DSt) (x:RX) (a w b:Int):aK Tryz.prog 36 [.ref 1100 0 0 0,iv a,iv w,iv b] (dA s x) (fun r H'=>r=.tup []∧H'=dA (pL s a w b) (LK s x a w b)):=by
 refine Bd func36 rfl ntmps36<|Sq<|Sr<|Dd aB<|Dd (by exact bR rfl cZ rfl rfl rfl rfl)<|Zz ?_;refine Cn ?_ ?_<;>intro hc1
 ·((cases hc1;done))
 refine aF<|Sq<|Sr<|Dd aB<|Dd dY<|Dd (cI pZ)<|Dd (cW cK)<|Dd pY<|Zz ?_;refine Cn ?_ ?_<;>intro hc2
 ·have e:s.off=true:=by simpa using hc2
  refine aH ?_;refine eQ (H':=dA s x) (.inr rfl) rfl  (Fin.wk (by(simp;done)) (Hc (bE _ _ _ rfl rfl)<|Hb<|Hc (aD _ _ _)<|trivial) ⟨rfl,rfl,rfl,trivial⟩) ?_;exact⟨rfl,by simp [pL,LK,e]⟩
 have e:s.off=false:=by simpa using hc2
 refine aF<|Sr<|Dd aB<|Dd aB<|Dd CD<|Dd dY<|Dd (cI sA)<|Uu (by exact bU rfl sizeOf4 rfl rfl rfl rfl rfl rfl (by simp only [aHt,List.length_nil];omega) (by simp only [Zl,gA,fC];rfl) (by simp only [Zl,gA,fC];rfl))<|Zz<|Sr<|Dd aB<|Dd aB<|Dd dY<|Dd (cI E9)<|Uu (by exact bU rfl sizeOf3 rfl rfl rfl rfl rfl rfl (by simp only [aHt,List.length_nil];omega) (by simp only [Zl,gA,fC];rfl) (by simp only [Zl,gA,fC];rfl))<|Zz<|Sr<|Dd aB<|Dd aB<|Dd dY<|Dd (cI VL)<|Uu (by exact bU rfl sizeOf3 rfl rfl rfl rfl rfl rfl (by simp only [aHt,List.length_nil];omega) (by simp only [Zl,gA,fC];rfl) (by simp only [Zl,gA,fC];rfl))<|Zz<|Rg<|Dd aB<|Dd aB<|Dd dY<|Dd (cI VK)<|Uu (by exact bU rfl sizeOf3 rfl rfl rfl rfl rfl rfl (by simp only [aHt,List.length_nil];omega) (by simp only [Zl,gA,fC];rfl) (by simp only [Zl,gA,fC];rfl)) ?_;refine Zz ?_;refine eQ (H':=rH2 s x (!s.off) (decide (0≤a)) a w b) (by exact .inl rfl) rfl  (Fin.wk (by(simp;done)) (Hc (by(simp;exact⟨rfl,rfl⟩))<|Hb<|Hc (aD _ _ _)<|trivial) ⟨rfl,rfl,rfl,trivial⟩) ?_;exact⟨rfl,aFx s x a w b e⟩
theorem ZT:∀ i,Tryz.prog.info? 5=some i→i.zero=some (.int .u8 0):=fun i hi=>by
 have h:(Tryz.prog.info? 5).map (·.zero)=some (some (.int .u8 0)):=by kernel_rfl
 rw [hi] at h
 simpa using h
theorem HS (a b:List UInt8):bP a++bP b=bP (a++b):=List.map_append.symm
theorem aAS (s:DSt) (x:RX) (hs:DOk s):aK Tryz.prog 40 [.ref 1100 0 0 0] (dA s x) (fun r H'=>r=sv (sK s)∧H'=dA s x):=by
 have h2:=hs.n2;have hmul:IntKind.i64.wrap ((s.cells.length:Int)*64)=((64*s.cells.length:Nat):Int):=by rw [eS (by omega) (by omega)];omega
 refine Bd func40 rfl ntmps40<|Sr<|Dd aR<|Zz<|Sq<|Sr<|Dd aB<|Dd (by exact bR rfl cZ rfl rfl rfl rfl)<|Zz ?_;refine Cn ?_ ?_<;>intro hc1
 ·((cases hc1;done))
 refine aF<|Sr<|Dd aB<|Dd dY<|Dd (cI iH)<|Dd (cW bJ)<|Dd (by exact cM rfl aO rfl rfl rfl)<|Dd (by exact fG rfl rfl rfl hmul)<|Dd (by exact jG (id:=13) rfl sZ X8 zo5 rfl rfl rfl (by omega) (by omega) (by exact aIC _) (by exact aIC _) (by omega) rfl)<|Dd aR<|Zz<|Sq<|Sr<|Dd aR<|Zz<|aJ ?_;refine bG (σ:=Nat) (fun i=>([(0,.ref 1100 0 0 0),(3,.osl 13 i 0 (64*i)),(4,iv (i:Int))],(13,⟨i,1,5,bP (flat (s.cells.take i))⟩)::dA s x)) (fun i=>i≤s.cells.length) (fun i=>s.cells.length - i) 0 (by omega) ?_ ?_
 ·exact(cC.wk (Ea<|Ea<|Eb<|trivial) (Hc (aG _ _)<|Hc (bE _ _ _ rfl rfl)<|Hb<|Hc (aD _ _ _)<|trivial) ⟨rfl,rfl,rfl,trivial⟩)
 intro i hi;have hfl:(flat (s.cells.take i)).length=64*i:=by
  rw [mU (fun c hc=>hs.c c (List.mem_of_mem_take hc)),aIF];congr 1;omega
 refine Sq<|Sr<|Dd aB<|Dd aB<|Dd dY<|Dd (cI iH)<|Dd (cW bJ)<|Dd (by exact cM rfl aO rfl rfl rfl)<|Dd cP<|Zz ?_;refine Cn ?_ ?_<;>intro hc2
 ·have hlt:i < s.cells.length:=by have:=aHn hc2;omega
  obtain ⟨c,hc⟩:=aY hlt;have hcr:=oP hc;have hcs:=hs.c c (aIB hc);have hsn:flat (s.cells.take (i+1))=flat (s.cells.take i)++c.data.toList:=by rw [xE hc,wT,oG];simp [flat]
  refine aF<|Sq<|aJ<|Rg<|Dd aB<|Dd aB<|Dd dY<|Dd (cI iH)<|Dd (cW bJ)<|Dd aB<|Dd (by exact dE rfl cD rfl rfl rfl rfl rfl (by omega) (by exact aIC _) (by omega) (aIJ _))<|Dd (by exact bH rfl aQ rfl rfl rfl hcr rfl)<|Dd (by exact nA rfl sZ aC X8 ZT rfl rfl rfl rfl rfl (by simp [bP,hfl]) rfl (by omega) (by omega:_=64*(i+1)) (by rw [hsn];exact HS _ _:_=bP (flat (s.cells.take (i+1)))))<|Dd aR<|Zz<|Rg<|Dd aB<|Dd rL<|Da ?_;exact⟨i+1,by omega,by omega,(cC.wk (Ea<|Ea<|Eb<|trivial) (Hc (aG _ _)<|Hc (bE _ _ _ rfl rfl)<|Hb<|Hc (aD _ _ _)<|trivial) ⟨rfl,rfl,rfl,trivial⟩)⟩
 have hge:i=s.cells.length:=by have:¬ _:=aHo hc2;omega
 subst hge;rw [List.take_length] at hfl ⊢;have hb:((bP (flat s.cells)).drop 0).take (64*s.cells.length)=bP (flat s.cells):=by
  rw [List.drop_zero,List.take_of_length_le (by simp [bP,hfl])]
 refine aV<|Sr<|Dd aB<|Dd (by exact fM rfl cL bV aC rfl rfl rfl rfl hb rfl)<|Dd aR<|Zz<|aH ?_;refine bI (H':=dA s x) (.inr rfl) rfl (aI rfl) (Fin.wk (by(simp;done)) (Hc (bE _ _ _ rfl rfl)<|Hb<|Hc (aD _ _ _)<|trivial) ⟨rfl,rfl,rfl,trivial⟩) ?_;exact Qq
theorem aDr {c:ByteArray} {p m:Nat} {y:UInt8} (hp:p < c.size) (hy:c.data.toList[p]?=some y):c.extract 0 p++⟨[y ^^^ UInt8.ofNat m].toArray⟩++c.extract (p+1) c.size=flip c p m:=by
 have hl:=kL c;have e:(flip c p m).data.toList=c.data.toList.set p (y ^^^ UInt8.ofNat m):=by rw [KL,hy];rfl
 rw [HT,HT,← aBs (flip c p m),e];congr 2;rw [List.set_eq_take_append_cons_drop,aHq (by omega)];simp;rw [List.take_of_length_le (by simp [kL])]
theorem RW (s:DSt) (x:RX) (k p m:Int) (hs:DOk s) :
  aK Tryz.prog 39 [.ref 1100 0 0 0,iv k,iv p,iv m] (dA s x) (fun r H'=>r=.tup []∧H'=dA (rC s k p m) x):=by
 refine Bd func39 rfl ntmps39<|Sq<|Sr<|Dd aB<|Dd (by exact bR rfl cZ rfl rfl rfl rfl)<|Zz ?_;refine Cn ?_ ?_<;>intro hc1
 ·((cases hc1;done))
 have bad:lF s k p m=false→dA s x=dA (rC s k p m) x:=fun h=>by simp [rC,h]
 by_cases q1:k < 0
 ·have n1:decide (k < 0)=true:=decide_eq_true q1;have hg:lF s k p m=false:=by rw [lF,fK,decide_eq_false (by omega)];rfl
  refine aF<|Sq<|Sr<|Dd aB<|Dd cP<|Dd aB<|Fa<|Fa<|Fa<|Fa<|Fa<|Fa<|Fa<|Dd SA<|Dd aB<|Fo<|Fo<|Dd cX<|Dd aB<|Fo<|Fo<|Dd cX<|Dd aB<|Fo<|Fo<|Dd cX<|Dd aB<|Fo<|Fo<|Dd cX<|Zz ?_;refine Cn ?_ ?_<;>intro hc2
  ·refine aH ?_;refine eQ (H':=dA s x) (.inr rfl) rfl  (Fin.wk (by(simp;done)) (Hc (bE _ _ _ rfl rfl)<|Hb<|Hc (aD _ _ _)<|trivial) ⟨rfl,rfl,rfl,trivial⟩) ?_;exact⟨rfl,bad hg⟩
  ((cases hc2;done))
 have n1:decide (k < 0)=false:=decide_eq_false q1;by_cases q2:(s.cells.length:Int)≤k
 ·have n2:decide ((s.cells.length:Int)≤k)=true:=decide_eq_true q2;have hg:lF s k p m=false:=by rw [lF,fK,decide_eq_true (by omega),decide_eq_false (by omega)];rfl
  refine aF<|Sq<|Sr<|Dd aB<|Dd cP<|Dd aB<|Oa aB<|Oa aB<|Oa dY<|Oa (cI iH)<|Oa (cW bJ)<|Oa (by exact cM rfl aO rfl rfl rfl)<|Oa CD<|Dd D1<|Dd aB<|Fa<|Fa<|Dd SA<|Dd aB<|Fo<|Fo<|Dd cX<|Dd aB<|Fo<|Fo<|Dd cX<|Dd aB<|Fo<|Fo<|Dd cX<|Zz ?_;refine Cn ?_ ?_<;>intro hc3
  ·refine aH ?_;refine eQ (H':=dA s x) (.inr rfl) rfl  (Fin.wk (by(simp;done)) (Hc (bE _ _ _ rfl rfl)<|Hb<|Hc (aD _ _ _)<|trivial) ⟨rfl,rfl,rfl,trivial⟩) ?_;exact⟨rfl,bad hg⟩
  (cases hc3;done)
 have n2:decide ((s.cells.length:Int)≤k)=false:=decide_eq_false q2;obtain ⟨n,rfl⟩:∃ n:Nat,k=(n:Int):=⟨k.toNat,by omega⟩;have hn:n < s.cells.length:=by omega
 have hsec:fK s (n:Int)=true:=by rw [fY];simpa using hn
 by_cases q3:p < 0
 ·have n3:decide (p < 0)=true:=decide_eq_true q3;have hg:lF s n p m=false:=by rw [lF,hsec,decide_eq_false (show ¬ 0≤p by omega)];rfl
  refine aF<|Sq<|Sr<|Dd aB<|Dd cP<|Dd aB<|On aB<|On aB<|On dY<|On (cI iH)<|On (cW bJ)<|On (by exact cM rfl aO rfl rfl rfl)<|On CD<|Dd cX<|Dd aB<|Oa aB<|Oa cP<|Dd D1<|Dd aB<|Fa<|Fa<|Dd SA<|Dd aB<|Fo<|Fo<|Dd cX<|Dd aB<|Fo<|Fo<|Dd cX<|Zz ?_;refine Cn ?_ ?_<;>intro hc4
  ·refine aH ?_;refine eQ (H':=dA s x) (.inr rfl) rfl  (Fin.wk (by(simp;done)) (Hc (bE _ _ _ rfl rfl)<|Hb<|Hc (aD _ _ _)<|trivial) ⟨rfl,rfl,rfl,trivial⟩) ?_;exact⟨rfl,bad hg⟩
  (cases hc4;done)
 have n3:decide (p < 0)=false:=decide_eq_false q3;by_cases q4:64≤p
 ·have n4:decide (64≤p)=true:=decide_eq_true q4;have hg:lF s n p m=false:=by rw [lF,hsec,decide_eq_true (show 0≤p by omega),decide_eq_false (show ¬ p < 64 by omega)];rfl
  refine aF<|Sq<|Sr<|Dd aB<|Dd cP<|Dd aB<|On aB<|On aB<|On dY<|On (cI iH)<|On (cW bJ)<|On (by exact cM rfl aO rfl rfl rfl)<|On CD<|Dd cX<|Dd aB<|Oa aB<|Oa cP<|Dd D1<|Dd aB<|Oa aB<|Oa CD<|Dd D1<|Dd aB<|Fa<|Fa<|Dd SA<|Dd aB<|Fo<|Fo<|Dd cX<|Zz ?_;refine Cn ?_ ?_<;>intro hc5
  ·refine aH ?_;refine eQ (H':=dA s x) (.inr rfl) rfl  (Fin.wk (by(simp;done)) (Hc (bE _ _ _ rfl rfl)<|Hb<|Hc (aD _ _ _)<|trivial) ⟨rfl,rfl,rfl,trivial⟩) ?_;exact⟨rfl,bad hg⟩
  (cases hc5;done)
 have n4:decide (64≤p)=false:=decide_eq_false q4;by_cases q5:m < 1
 ·have n5:decide (m < 1)=true:=decide_eq_true q5;have hg:lF s n p m=false:=by rw [lF,hsec,decide_eq_true (show 0≤p by omega),decide_eq_true (show p < 64 by omega),decide_eq_false (show ¬ 0 < m by omega)];rfl
  refine aF<|Sq<|Sr<|Dd aB<|Dd cP<|Dd aB<|On aB<|On aB<|On dY<|On (cI iH)<|On (cW bJ)<|On (by exact cM rfl aO rfl rfl rfl)<|On CD<|Dd cX<|Dd aB<|Oa aB<|Oa cP<|Dd D1<|Dd aB<|Oa aB<|Oa CD<|Dd D1<|Dd aB<|Oa aB<|Oa cP<|Dd D1<|Dd aB<|Fa<|Fa<|Dd SA<|Zz ?_;refine Cn ?_ ?_<;>intro hc6
  ·refine aH ?_;refine eQ (H':=dA s x) (.inr rfl) rfl  (Fin.wk (by(simp;done)) (Hc (bE _ _ _ rfl rfl)<|Hb<|Hc (aD _ _ _)<|trivial) ⟨rfl,rfl,rfl,trivial⟩) ?_;exact⟨rfl,bad hg⟩
  (cases hc6;done)
 have n5:decide (m < 1)=false:=decide_eq_false q5;refine aF<|Sq<|Sr<|Dd aB<|Dd cP<|Dd aB<|On aB<|On aB<|On dY<|On (cI iH)<|On (cW bJ)<|On (by exact cM rfl aO rfl rfl rfl)<|On CD<|Dd cX<|Dd aB<|Oa aB<|Oa cP<|Dd D1<|Dd aB<|Oa aB<|Oa CD<|Dd D1<|Dd aB<|Oa aB<|Oa cP<|Dd D1<|Dd aB<|Oa aB<|Oa yP<|Dd D1<|Zz ?_;refine Cn ?_ ?_<;>intro hc7
 ·have q6:255 < m:=aHn hc7;have hg:lF s n p m=false:=by rw [lF,hsec,decide_eq_true (show 0≤p by omega),decide_eq_true (show p < 64 by omega),decide_eq_true (show 0 < m by omega),decide_eq_false (show ¬ m < 256 by omega)];rfl
  refine aH ?_;refine eQ (H':=dA s x) (.inr rfl) rfl  (Fin.wk (by(simp;done)) (Hc (bE _ _ _ rfl rfl)<|Hb<|Hc (aD _ _ _)<|trivial) ⟨rfl,rfl,rfl,trivial⟩) ?_;exact⟨rfl,bad hg⟩
 have q6:¬ 255 < m:=aHo hc7;have hro:lF s n p m=true:=by rw [lF,hsec,decide_eq_true (show 0≤p by omega),decide_eq_true (show p < 64 by omega),decide_eq_true (show 0 < m by omega),decide_eq_true (show m < 256 by omega)];rfl
 obtain ⟨i,rfl⟩:∃ i:Nat,p=(i:Int):=⟨p.toNat,by omega⟩;obtain ⟨z,rfl⟩:∃ z:Nat,m=(z:Int):=⟨m.toNat,by omega⟩;obtain ⟨c,hc⟩:=aY hn;have hcs:=hs.c c (aIB hc);have hcr:=oP hc;obtain ⟨y,hy⟩:=aY (l:=c.data.toList) (k:=i) (by rw [kL];omega);have hby:eV c i=(y.toNat:Int):=by unfold eV;rw [hy];rfl
 have hx:=ZM y z (by omega);have hu:IntKind.u8.wrap (z:Int)=(z:Int):=wu8 (by omega) (by omega);have hfe:=aDr (m:=z) (show i < c.size by omega) hy;have hdr:rC s n i z={s with cells:=s.cells.set n (flip c i z)}:=by simp [rC,hro,hc]
 have hlen:(s.cells.set n (flip c i z)).length=s.cells.length:=List.length_set;have hz1:(c.extract 0 i).size+(⟨[y ^^^ UInt8.ofNat z].toArray⟩:ByteArray).size≤9223372036854775807:=by
  have e1:(c.extract 0 i).size≤64:=by rw [ByteArray.size_extract];omega
  have e2:(⟨[y ^^^ UInt8.ofNat z].toArray⟩:ByteArray).size=1:=rfl;omega
 have hz2:(c.extract 0 i++⟨[y ^^^ UInt8.ofNat z].toArray⟩).size+(c.extract (i+1) c.size).size≤9223372036854775807:=by
  have e1:(c.extract 0 i).size≤64:=by rw [ByteArray.size_extract];omega
  have e2:(⟨[y ^^^ UInt8.ofNat z].toArray⟩:ByteArray).size=1:=rfl;have e3:(c.extract (i+1) c.size).size≤64:=by rw [ByteArray.size_extract];omega
  rw [ByteArray.size_append];omega
 have hw:IntKind.i64.wrap ((i:Int)+1)=((i+1:Nat):Int):=by rw [eS (by omega) (by omega)];omega
 refine aF<|Sr<|Dd aB<|Dd dY<|Dd (cI iH)<|Dd (cW bJ)<|Dd aB<|Dd (by exact dE rfl cD rfl rfl rfl rfl rfl (by omega) (by exact aIC _) (by omega) (aIJ _))<|Dd (by exact bH rfl aQ rfl rfl rfl hcr rfl)<|Dd aR<|Zz<|Sr<|Dd aB<|Dd aB<|Dd (by exact dC rfl aC rfl rfl (by omega) (aIC _) (by omega) hby)<|Dd aB<|Dd (by exact eO rfl cJ bV rfl hu)<|Dd (by exact jX rfl (by simp) rfl rfl hx)<|Dd (by exact fX (id:=52) rfl sZ rfl rfl rfl rfl (by simp) rfl)<|Dd aR<|Zz<|bF follows<|Cr [1100] (fun _ _=>aB)<|Cr [1100] (fun H1 hH=>by exact bK rfl rfl ((hH _ rfl).trans rfl) rfl)<|Cr [1100] (fun _ h=>fh iH h)<|Cr [1100] (fun _ h=>lh bJ h)<|Cr [] (fun _ _=>aB)<|Cr [] (fun _ _=>aB)<|Cr [] (fun _ _=>aB) ?_;refine Cr [] (fun H1 hH=>by exact bQ (l:=0) (h:=i) rfl aC rfl rfl rfl (by omega) (by omega) rfl)<|Cr [52] (fun _ _=>aB)<|Cr [52] (fun H1 hH=>by exact fM rfl cL bV aC rfl ((hH _ rfl).trans rfl) rfl rfl (rfl:_=bP [y ^^^ UInt8.ofNat z]) rfl)<|Cr [] (fun H1 hH=>by exact fA rfl rfl rfl hz1 rfl)<|Cr [] (fun _ _=>aB)<|Cr [] (fun _ _=>aB)<|Cr [] (fun H1 hH=>by exact bA rfl rfl rfl hw)<|Cr [] (fun H1 hH=>by exact bQ (l:=(i+1)) (h:=c.size) rfl aC rfl rfl rfl (by omega) (by omega) rfl)<|Cr [] (fun H1 hH=>by exact fA rfl rfl rfl hz2 hfe)<|Cr [1101] (fun H1 hH=>by exact dE rfl cD rfl ((hH _ rfl).trans rfl) rfl rfl rfl (by omega) (by exact aIC _) (by omega) (aIJ _))<|Cp [1101] (fun H1 hH=>by exact bU rfl sizeOf9 rfl rfl rfl ((hH 1101 rfl).trans rfl) rfl hcr (by simp) rfl (DU _ _ _)) ?_;refine cA<|Kr ?_;refine eQ (H':=rH (fC s x) (s.cells.set n (flip c i z)) s x) (by exact .inl rfl) rfl  (Fin.wk (by(simp;done)) (Hc (bE _ _ _ rfl rfl)<|Hc (aD _ _ _)<|Hc (aD _ _ _)<|trivial) ⟨rfl,rfl,rfl,trivial⟩) ?_;exact⟨rfl,by rw [hdr];simp only [dA,rH,fC,hlen];rfl⟩
theorem aEd (H:aE):aK Tryz.prog 62 [iv 64] H (fun r H'=>r=sv z64∧H'=H):=by
 refine Pu ?_;refine Bd func62 rfl ntmps62<|Sr<|Dd aR<|Zz<|Sr<|Dd aR<|Zz<|Sq<|Sr<|Dd aR<|Zz<|aJ ?_;refine bG (σ:=Nat) (fun i=>([(0,iv 64),(3,sv ⟨(List.replicate i 0).toArray⟩),(4,iv (i:Int))],[])) (fun i=>i≤64) (fun i=>64 - i) 0 (by omega) ?_ ?_
 ·exact E0
 intro i hi;have hsz:(⟨(List.replicate i 0).toArray⟩:ByteArray).size=i:=by
  show (List.toArray _).size=_;simp
 refine Sq<|Sr<|Dd aB<|Dd aB<|Dd cP<|Zz ?_;refine Cn ?_ ?_<;>intro hc1
 ·have hlt:i < 64:=by have:=aHn hc1;omega
  have hsn:(⟨(List.replicate i 0).toArray⟩:ByteArray)++⟨#[0]⟩=⟨(List.replicate (i+1) 0).toArray⟩:=by
   rw [YQ,List.replicate_succ']
  have h1:(⟨#[0]⟩:ByteArray).size=1:=rfl;refine aF<|Sq<|aJ<|Rg<|Dd aB<|Dd (by exact fA rfl rfl rfl (by rw [hsz,h1];omega) hsn)<|Dd aR<|Zz<|Rg<|Dd aB<|Dd rL<|Da ?_;exact⟨i+1,by omega,by omega,E0⟩
 have hge:i=64:=by have:¬ _:=aHo hc1;omega
 subst hge;exact aV<|Sr<|Dd aB<|Dd aR<|Zz<|aH<|Rt<|Qq
abbrev O5 (i:Nat):aE:=[(1100,⟨0,7,107,[[.osl 1101 i 0 i,.osl 1102 0 0 0,bv true,bv false,iv 0,iv 0,iv 0]]⟩),(1101,⟨i,1,9,pB (List.replicate i z64)⟩),(1102,⟨0,2,127,[]⟩)]
theorem aA4 (n:Nat):O5 n=dA (pK n) ⟨n,0,0,0,0⟩:=by simp [O5,dA,fC,pK,TM,JD,JC,JB]
theorem aEu (n:Nat) (h1:1≤n) (h2:n≤8000):aK Tryz.prog 31 [iv (n:Int)] [] (fun r H'=>r=.ref 1100 0 0 0∧H'=dA (pK n) ⟨n,0,0,0,0⟩):=by
 rw [← aA4];refine Bd func31 rfl ntmps31<|Sr<|Dd aR<|Zz<|Sq<|Sq ?_;refine cQ (t:=11) (n:=7) (X:=false) ?_ ?_
 ·all_goals refine Dd aB ?_
  all_goals refine Dd cP<|Dm ?_
  all_goals refine Sp 8 (fun h8=>?_) fun h8=>?_
  all_goals try contradiction
  all_goals first|refine Fo<|Fo ?_|refine On aB<|On yP ?_
  all_goals refine Dd cX<|Zz ?_
  all_goals(exact⟨⟨_,rfl,by(simp_all;omega)⟩,rfl,rfl,rfl⟩)
 refine Cn ?_ ?_<;>intro hc1
 ·((cases hc1;done))
 refine aF<|Sr<|Dd (RA aF0)<|Dd (by exact jQ (id:=1100) rfl rfl rfl rfl rfl)<|Dd aR<|Zz<|Sr<|Dd (by exact aA rfl rfl call62 rfl (aEd _))<|Dd aR<|Zz<|Sq<|Sr<|Dd aR<|Zz<|aJ ?_;refine bG (σ:=Nat) (fun i=>([(0,iv (n:Int)),(3,.ref 1100 0 0 0),(4,sv z64),(5,iv (i:Int))],O5 i)) (fun i=>i≤n) (fun i=>n - i) 0 (by omega) ?_ ?_
 ·refine cC.trans (E':=[(0,iv (n:Int)),(3,.ref 1100 0 0 0),(4,sv z64),(5,iv 0)]) (H':=[(1101,⟨0,1,9,[]⟩),(1100,⟨0,7,107,[[.osl 1101 0 0 0,.pv .nils,bv true,bv false,iv 0,iv 0,iv 0]]⟩)]) (cC.nz 1101 1 9 rfl rfl ⟨⟨_,rfl,(by exact Nz.same (by(simp;done)))⟩,⟨_,rfl,(by exact Nz.same (by(simp;rfl)))⟩,⟨_,rfl,(by exact Nz.same (by(simp;done)))⟩,⟨_,rfl,(by exact Nz.same (by(simp;done)))⟩,trivial⟩ ⟨⟨_,rfl,rfl,rfl,rfl,(by exact .inr ⟨_,_,rfl,rfl,(by repeat(first|exact trivial|refine⟨(by first|exact Nz.own|exact Nz.same (by(simp;done))),?_⟩))⟩)⟩,trivial⟩ trivial) ?_;refine cC.trans (E':=[(0,iv (n:Int)),(3,.ref 1100 0 0 0),(4,sv z64),(5,iv 0)]) (H':=[(1102,⟨0,2,127,[]⟩),(1101,⟨0,1,9,[]⟩),(1100,⟨0,7,107,[[.osl 1101 0 0 0,.osl 1102 0 0 0,bv true,bv false,iv 0,iv 0,iv 0]]⟩)]) (cC.nz 1102 2 127 rfl rfl ⟨⟨_,rfl,(by exact Nz.same (by(simp;done)))⟩,⟨_,rfl,(by exact Nz.same (by(simp;rfl)))⟩,⟨_,rfl,(by exact Nz.same (by(simp;done)))⟩,⟨_,rfl,(by exact Nz.same (by(simp;done)))⟩,trivial⟩ ⟨⟨_,rfl,rfl,rfl,rfl,(by exact .inl ⟨rfl,(by(simp;done))⟩)⟩,⟨_,rfl,rfl,rfl,rfl,(by exact .inr ⟨_,_,rfl,rfl,(by repeat(first|exact trivial|refine⟨(by first|exact Nz.own|exact Nz.same (by first|(simp;done)|(simp;rfl))),?_⟩))⟩)⟩,trivial⟩ trivial) ?_;exact(cC.wk (Eb<|Ea<|Eb<|Eb<|trivial) (Hc (by(simp;exact⟨rfl,rfl⟩))<|Hb<|Hb<|trivial) trivial)
 intro i hi;refine Sq<|Sr<|Dd aB<|Dd aB<|Dd cP<|Zz ?_;refine Cn ?_ ?_<;>intro hc2
 ·have hlt:i < n:=by have:=aHn hc2;omega
  have hsn:List.replicate (i+1) z64=List.replicate i z64++[z64]:=List.replicate_succ';refine aF<|Sq<|aJ<|Rg<|Dd aB<|Dd aB<|Dd dY<|Dd (cI iH)<|Dd (cW bJ)<|Dd aB<|Dd (by exact bD [encStr z64] rfl cD rfl rfl rfl rfl rfl (by simp [encStr]))<|Dd (by exact dV rfl cD IB rfl rfl rfl rfl rfl (by simp:_=i) rfl (by simp [encStr]) (rfl:_=1) (by omega) (rfl:_=i+1) (List.map_append (l₂:=[z64])).symm)<|Dd dY<|Dd (cI iH)<|Uu (by exact bU (r:=[.osl 1101 i 0 i,.osl 1102 0 0 0,bv true,bv false,iv 0,iv 0,iv 0]) rfl sizeOf31 rfl rfl rfl rfl rfl rfl (by simp) rfl rfl)<|Zz<|Rg<|Dd aB<|Dd rL<|Da ?_;refine⟨i+1,by omega,by omega,?_⟩;unfold O5;rw [hsn];exact(cC.wk (Eb<|Ea<|Eb<|Eb<|trivial) (Hc (by(simp;exact⟨rfl,rfl⟩))<|Hc (aD _ _ _)<|Hb<|trivial) trivial)
 have hge:i=n:=by have:¬ _:=aHo hc2;omega
 subst hge;refine aV<|Sr<|Dd aB<|Dd aR<|Zz<|aH ?_;refine bI (H':=O5 i) (.inr rfl) rfl (aI rfl) (Fin.wk (by(simp;rfl)) (Hc (by(simp;exact⟨rfl,rfl⟩))<|Hb<|Hb<|trivial) trivial) ?_;exact Qq
end Go.Proofs.YtmkgeogoojcciaaGreatDoor
namespace Go.Proofs.YtmkgeogoojcciaaGreatDoor
open Go.Proofs.Tryz
open Go.Abs Go.Lib
abbrev gO (k a n:Nat) (L:KP) (b:Bool):Ob:=⟨0,6,110,[[.ref 1100 0 0 0,iv (k:Int),iv (a:Int),iv (n:Int),.pv (hU L),bv b]]⟩
abbrev jH (s:DSt) (x:RX) (o:Ob):aE:=[(1100,⟨0,7,107,[fC s x]⟩),(1101,⟨x.gs,1,9,pB s.cells⟩),(1102,⟨x.gq,2,127,uF s.q⟩),(1200,o)]
theorem EO {H:aE} {k a n:Nat} {L:KP} {b:Bool} (h:(H.get 1100).isSome=true):∀ r∈(gO k a n L b).rows,∀ y∈r,Clo H y:=by
 intro r hr y hy;rw [aHu.1 hr] at hy;simp only [aID,aIH,or_false] at hy;rcases hy with rfl|rfl|rfl|rfl|rfl|rfl
 ·exact .ref h
 all_goals exact .pv _
theorem GA {f:FuncId} {args:List AV} {s s':DSt} {x x':RX} {r0:AV} {o:Ob} (h:aK Tryz.prog f args (dA s x) (fun r H'=>r=r0∧H'=dA s' x')) (ha:∀ a∈args,Clo (dA s x) a):aK Tryz.prog f args (jH s x o) (fun r H'=>r=r0∧H'=jH s' x' o) :=(mS h (jH s x o) ⟨rfl,rfl,rfl,trivial⟩ ha).congrH (fun j=>by
  simp only [jH,dA,aE.get,List.cons_append,List.nil_append];cases e0:Nat.beq 1100 j<;>cases e1:Nat.beq 1101 j<;>cases e2:Nat.beq 1102 j<;>simp [e0,e1,e2])
theorem FZ (s:DSt) (x:RX) (k a n:Nat) (L:KP) (b:Bool):bT (jH s x (gO k a n L b)):=bT.of (fun p hp=>by
 simp only [jH,aID,aIH,or_false] at hp;rcases hp with rfl|rfl|rfl|rfl
 ·exact bE s x _ rfl rfl
 ·exact aD _ _ _
 ·exact aD _ _ _
 exact EO rfl)
theorem aAP {d d':DSt} {x x':RX} {o o':Ob} {id:Nat} (h:((jH d' x' o').get id).isSome=true):((jH d x o).get id).isSome=true:=by simp only [jH,aE.get] at h ⊢;cases e0:Nat.beq 1100 id<;>cases e1:Nat.beq 1101 id<;>cases e2:Nat.beq 1102 id<;>cases e3:Nat.beq 1200 id<;>simp [e0,e1,e2,e3] at h ⊢
theorem W4 {s:DSt} (h:cY s) (w b:Int):cY (fV s w b):=by
 unfold fV
 split
 ·exact h
 exact fun a w b h=>(mV h).elim
theorem zL {s:DSt} (h:cY s):cY (eK s):=by
 unfold eK
 split
 ·next a w b e =>
  split
  ·intro a' w' b' he;cases he;omega
  exact W4 h w b
 exact h
theorem W3 {s:DSt} (h:cY s) (k:Int) (t:ByteArray):cY (gR s k t):=by
 unfold gR
 split
 ·exact h
 split
 ·exact zL (fun a w b e=>h a w b e)
 exact h
theorem aA8 {s:DSt} (h:cY s):cY (jJ s):=by
 unfold jJ
 split
 ·exact h
 split
 ·exact fun a w b e=>zL h a w b e
 exact zL h
theorem ES {d:DSt} (h:cY d) (place:Nat) (L:List ByteArray):∀ i,cY (oN d place L i).2
 | 0=>h
 | i+1=>by
  have ih:=ES h place L i;rw [oN]
  split
  ·exact W3 ih _ _
  exact ih
theorem jP {d:DSt} (h:cY d) (place:Nat) (L:List ByteArray):cY (gY d place L).2:=by
 rw [gY]
 split
 ·exact aA8 (ES h place L _)
 exact ES h place L _
theorem aA9 {d:DSt} (h:cY d) (a cn:Nat):cY (pV d a cn).2:=by
 rw [pV]
 split
 ·exact jP (jP h _ _) _ _
 exact jP h _ _
theorem EU {d:DSt} (h:cY d) (place a cn:Nat) (hd:Bool):cY (mB d place a cn hd).2:=by
 rw [mB]
 split
 ·exact h
 split
 ·exact jP (jP h _ _) _ _
 exact jP h _ _
theorem A8 {d:DSt} (h:cY d) (k a cn:Nat) (t:List UInt8):cY (fR d k a cn t).2:=by
 rw [fR]
 split
 ·exact aA9 (jP h _ _) _ _
 exact jP h _ _
theorem ET {d:DSt} (h:cY d) (k a:Nat) (w:List UInt8):cY (AP d k a w).2:=by
 rw [AP]
 split
 ·exact jP (A8 h _ _ _ _) _ _
 exact A8 h _ _ _ _
theorem UR {d:DSt} (h:cY d) (k:Nat) (w:List UInt8):cY (scL d k w).2:=by
 rw [scL]
 split
 ·exact jP (ET h _ _ _) _ _
 exact ET h _ _ _
theorem aDP {d:DSt} (h:cY d) (k a:Nat) (w:List UInt8):cY (uB d k a w).2:=by
 rw [uB]
 split
 ·exact UR h _ _
 split
 ·exact UR (ET h _ _ _) _ _
 exact ET h _ _ _
theorem F0 (d:DSt) (x:RX) (k a n ar i:Nat) (L:KP) (b:Bool) (hk:k < 100000) (har:ar < 10) (hi:i < 100000000) :
  aK Tryz.prog 66 [.ref 1200 0 0 0,iv (ar:Int),iv (i:Int)] (jH d x (gO k a n L b)) (fun r H'=>r=iv ((2+ar*k+i:Nat):Int)∧H'=jH d x (gO k a n L b)):=by
 have hm:ar*k≤10*100000:=Nat.mul_le_mul (by omega) (by omega);have hmi:((ar:Int)*(k:Int))=((ar*k:Nat):Int):=by rw [Int.natCast_mul]
 refine Bd func66 rfl ntmps66<|Sr<|Dd aR<|Zz<|Sr<|Dd aB<|Dd aB<|Dd dY<|Dd (cI yF)<|Dd (cW aL)<|Dd (by exact fG rfl rfl rfl (by exact eS (by omega) (by omega)))<|Dd rL<|Dd aB<|Dd rL<|Dd aR<|Zz<|aH ?_;refine bI (H':=(jH d x (gO k a n L b))) (.inr rfl) rfl (aI rfl) (Fin.wk (by(simp;done)) (Hc (bE _ _ _ rfl rfl)<|Hb<|Hc (aD _ _ _)<|Ha<|trivial) ⟨rfl,rfl,rfl,rfl,trivial⟩) ?_;exact Qq
theorem FX {f:FuncId} {args:List AV} {d:DSt} {x:RX} {k a n:Nat} {L:KP} {b:Bool} {r0:AV} (h:aK Tryz.prog f args (jH d x (gO k a n L b)) (fun r H'=>r=r0∧H'=jH d x (gO k a n L b))) (H:aE) (hs:lZ H (jH d x (gO k a n L b))) (ha:∀ y∈args,Clo (jH d x (gO k a n L b)) y) :
  aK Tryz.prog f args H (fun r H'=>r=r0∧H'=H):=aK.frameS h hs.sub (FZ _ _ _ _ _ _ _) ha
theorem qE {d:DSt} {x:RX} {n m:Nat} (h:DInv d n m) (hp:cY d) (k a cn place:Nat) (b:Bool) (P:KP) (L:List ByteArray) (hm:m+L.length < 1048576) (hpl:place < 100000) :
  aK Tryz.prog 113 [.ref 1200 0 0 0,iv (place:Int),.pv (aX L)] (jH d x (gO k a cn P b)) (fun r H'=>r=iv (gY d place L).1∧∃ x',H'=jH (gY d place L).2 x' (gO k a cn P (b||!decide ((gY d place L).1=0)))):=by
 have hml:(L.map encStr).length=L.length:=aHr _;have bt:∀ {p:Prop} [Decidable p],¬ p→(b||!decide p)=true:=fun h=>by rw [decide_eq_false h];cases b<;>rfl
 have bf:∀ {p:Prop} [Decidable p],p→(b||!decide p)=b:=fun h=>by rw [decide_eq_true h];cases b<;>rfl
 refine Bd func113 rfl ntmps113<|Sr<|Dd aR<|Zz<|Sq<|Sr<|Dd aR<|Zz<|aJ ?_;refine iM (fun(i:Nat) (y:RX)=>([(0,.ref 1200 0 0 0),(1,iv (place:Int)),(2,.pv (aX L)),(7,iv (i:Int))],jH (oN d place L i).2 y (gO k a cn P b))) (fun i y=>i≤L.length∧(oN d place L i).1=0) (fun i y=>L.length - i) 0 x ⟨aII _,rfl⟩ ?_ ?_
 ·exact(cC.wk (Ea<|Eb<|Eb<|Eb<|trivial) (Hc (bE _ _ _ rfl rfl)<|Hb<|Hc (aD _ _ _)<|Ha<|trivial) ⟨rfl,rfl,rfl,rfl,trivial⟩)
 rintro i y ⟨hi,hz⟩;have hx:=tY h place L i (by omega);have hpx:=ES hp place L i;have hst:=FB (d:=d) (place:=place) (L:=L) (i:=i+1);have hnx:oN d place L (i+1)=if(oN d place L i).1=0 then(gK (oN d place L i).2 ((place+i:Nat):Int) (L.getD i sNil),gR (oN d place L i).2 ((place+i:Nat):Int) (L.getD i sNil))else oN d place L i:=rfl;rw [aHq hz] at hnx;have hend:i=L.length→oN d place L L.length=(0,(oN d place L i).2):=fun e=>by rw [← e,← hz]
 obtain ⟨d1,hd1⟩:∃ d1,d1=(oN d place L i).2:=⟨_,rfl⟩;rw [← hd1] at hx hpx hnx hend ⊢;clear hd1;refine Sq<|Sr<|Dd aB<|Dd aB<|Dd (jY aO)<|Dd cP<|Zz ?_;refine Cn ?_ ?_<;>intro hc1
 ·have hlt:i < L.length:=by have:=aHn hc1;omega
  obtain ⟨t,ht⟩:=aY hlt;have hit:=cV (f:=encStr) ht;have hgt:L.getD i sNil=t:=by rw [List.getD_eq_getElem?_getD,ht];rfl
  rw [hgt] at hnx;have hw:=GA (o:=gO k a cn P b) (aAL d1 y ((place+i:Nat):Int) t hx.ok hx.arm hpx (by have:=hx.q;omega)) (by simp;rfl);obtain ⟨e,he⟩:∃ e,e=gK d1 ((place+i:Nat):Int) t:=⟨_,rfl⟩;obtain ⟨d2,hd2⟩:∃ d2,d2=gR d1 ((place+i:Nat):Int) t:=⟨_,rfl⟩;obtain ⟨y2,hy2⟩:∃ y2,y2=zE d1 y ((place+i:Nat):Int) t:=⟨_,rfl⟩;rw [← he,← hd2] at hnx;rw [← he,← hd2,← hy2] at hw;refine aF<|Sq<|aJ<|Sq ?_;refine mH 11 follows (aIE rfl) ?_;refine Cq aB<|Cq dY<|Cq (cI NB)<|Cq (cW aHG)<|Cq aB<|Cq aB<|Cq (by exact bA rfl rfl rfl (show IntKind.i64.wrap ((place:Int)+(i:Int))=((place+i:Nat):Int)by rw [eS (by omega) (by omega)];omega))<|Cq aB<|Cq aB<|Cq (sU cD)<|Cq (gW aQ (hi:=hit))<|cA<|Kr<|Dd (by exact aA rfl rfl call136 rfl (hw))<|Dd aR<|Zz<|Sr<|Dd aB<|Dd tM<|Zz ?_;refine Cn ?_ ?_<;>intro hc2
  ·have he0:¬ e=0:=by have h:=hc2;simpa using h
   have hall:oN d place L L.length=(e,d2):=by
    have h2:=hst (by rw [hnx];exact he0) (L.length - (i+1))
    rwa [show i+1+(L.length - (i+1))=L.length by omega,hnx] at h2
   rw [gY,hall,aHp he0,bt he0];refine Sr<|Dd aB<|Dd dY<|Dd (cI uZ)<|Uu (by exact bU rfl sizeOf4 rfl rfl rfl rfl rfl rfl (by simp only [aHt,List.length_nil];omega) (by simp only [Zl,encStr,encKV,fC];rfl) (by simp only [Zl,encStr,encKV,fC];rfl))<|Zz<|Sr<|Dd aB<|Dd aR<|Zz<|aH ?_;refine bI (H':=(jH d2 y2 (gO k a cn P true))) (.inr rfl) rfl (aI rfl) (Fin.wk (by(simp;done)) (Hc (bE _ _ _ rfl rfl)<|Hb<|Hc (aD _ _ _)<|Ha<|trivial) ⟨rfl,rfl,rfl,rfl,trivial⟩) ?_;exact⟨rfl,_,rfl⟩
  have he0:e=0:=by have h:=hc2;simpa using h
  refine aF<|Rg<|Dd aB<|Dd (by exact bA rfl rfl rfl (show IntKind.i64.wrap ((i:Int)+1)=((i+1:Nat):Int)by rw [eS (by omega) (by omega)];omega))<|Da ?_;refine⟨i+1,y2,⟨by omega,by rw [hnx];exact he0⟩,by omega,?_⟩;dsimp only;rw [hnx];exact(cC.wk (Ea<|Eb<|Eb<|Eb<|trivial) (Hc (bE _ _ _ rfl rfl)<|Hb<|Hc (aD _ _ _)<|Ha<|trivial) ⟨rfl,rfl,rfl,rfl,trivial⟩)
 have hge:i=L.length:=by have:=aHo hc1;omega
 rw [gY,hend hge,aHq rfl];have hs:=GA (o:=gO k a cn P b) (aDB d1 y hx.ok hx.arm hpx) (by simp;rfl);obtain ⟨e,he⟩:∃ e,e=mG d1:=⟨_,rfl⟩;obtain ⟨d2,hd2⟩:∃ d2,d2=jJ d1:=⟨_,rfl⟩;obtain ⟨y2,hy2⟩:∃ y2,y2=OC d1 y:=⟨_,rfl⟩;rw [← he,← hd2,← hy2] at hs;rw [← he,← hd2];refine aV<|Sr<|Dd aB<|Dd dY<|Dd (cI NB)<|Dd (cW aHG)<|Dd (by exact aA rfl rfl call137 rfl (hs))<|Dd aR<|Zz<|Sq<|Sr<|Dd aB<|Dd tM<|Zz ?_;refine Cn ?_ ?_<;>intro hc3
 ·have he0:¬ e=0:=by have h:=hc3;simpa using h
  rw [bt he0];refine Rg<|Dd aB<|Dd dY<|Dd (cI uZ)<|Uu (by exact bU rfl sizeOf4 rfl rfl rfl rfl rfl rfl (by simp only [aHt,List.length_nil];omega) (by simp only [Zl,encStr,encKV,fC];rfl) (by simp only [Zl,encStr,encKV,fC];rfl))<|Zz<|Sr<|Dd aB<|Dd aR<|Zz<|aH ?_;refine bI (H':=(jH d2 y2 (gO k a cn P true))) (.inr rfl) rfl (aI rfl) (Fin.wk (by(simp;done)) (Hc (bE _ _ _ rfl rfl)<|Hb<|Hc (aD _ _ _)<|Ha<|trivial) ⟨rfl,rfl,rfl,rfl,trivial⟩) ?_;exact⟨rfl,_,rfl⟩
 have he0:e=0:=by have h:=hc3;simpa using h
 rw [bf he0];refine aF<|Sr<|Dd aB<|Dd aR<|Zz<|aH ?_;refine bI (H':=(jH d2 y2 (gO k a cn P b))) (.inr rfl) rfl (aI rfl) (Fin.wk (by(simp;done)) (Hc (bE _ _ _ rfl rfl)<|Hb<|Hc (aD _ _ _)<|Ha<|trivial) ⟨rfl,rfl,rfl,rfl,trivial⟩) ?_;exact⟨rfl,_,rfl⟩
def plV:Nat→Int
 | 0=>1
 | 1=>0
 | _ => -1
theorem UD {d:DSt} {x:RX} {n m:Nat} (h:DInv d n m) (hp:cY d) (k a cn a2 cn2:Nat) (b:Bool) (P:KP) (hm:m+2 < 1048576) (ha:a2 < 10) (hcn:cn2 < 10000000) :
  aK Tryz.prog 76 [.ref 1200 0 0 0,iv (a2:Int),iv (cn2:Int)] (jH d x (gO k a cn P b)) (fun r H'=>r=iv (pV d a2 cn2).1∧∃ x',H'=jH (pV d a2 cn2).2 x' (if(pV d a2 cn2).1=0 then gO k a2 cn2 P b else gO k a cn P true)):=by
 have hw:=fun y=>qE (x:=y) h hp k a cn 1 b P [hS 1 a2 cn2] (by rw [List.length_singleton];omega) (by omega);have h1:=kI h 1 [hS 1 a2 cn2] (by rw [List.length_singleton];omega);have p1:=jP hp 1 [hS 1 a2 cn2];have hw2:=fun y=>qE (x:=y) h1 p1 k a cn 0 b P [hS 0 a2 cn2] (by rw [List.length_singleton,List.length_singleton];omega) (by omega);have hh1:=fun H=>A4 1 a2 cn2 (by omega) ha hcn H;have hh0:=fun H=>A4 0 a2 cn2 (by omega) ha hcn H;have bt:∀ {p:Prop} [Decidable p],¬ p→(b||!decide p)=true:=fun h=>by rw [decide_eq_false h];cases b<;>rfl
 have bf:∀ {p:Prop} [Decidable p],p→(b||!decide p)=b:=fun h=>by rw [decide_eq_true h];cases b<;>rfl
 rw [pV];obtain ⟨x1,hx1⟩:∃ x,x=gY d 1 [hS 1 a2 cn2]:=⟨_,rfl⟩;rw [← hx1] at hw hw2 ⊢;obtain ⟨y1,hy1⟩:∃ y,y=gY x1.2 0 [hS 0 a2 cn2]:=⟨_,rfl⟩;rw [← hy1] at hw2 ⊢;clear hx1 hy1 h1 p1;refine Bd func76 rfl ntmps76<|Sr<|Dd aR<|Zz<|Sq<|Sr<|Dd aR<|Zz<|aJ ?_;refine iM (fun(j:Nat) (y:RX)=>([(0,.ref 1200 0 0 0),(1,iv (a2:Int)),(2,iv (cn2:Int)),(7,iv (plV j))],jH (stD d x1.2 y1.2 j) y (gO k a cn P b))) (fun j y=>j≤2∧(0 < j→x1.1=0)∧(1 < j→y1.1=0)) (fun j y=>2 - j) 0 x ⟨by omega,fun h=>absurd h (Nat.lt_irrefl _),fun h=>absurd h (by omega)⟩ ?_ ?_
 ·exact(cC.wk (Ea<|Eb<|Eb<|Eb<|trivial) (Hc (bE _ _ _ rfl rfl)<|Hb<|Hc (aD _ _ _)<|Ha<|trivial) ⟨rfl,rfl,rfl,rfl,trivial⟩)
 rintro j y ⟨hj,hx0,hy0⟩;have h3:j=0∨j=1∨j=2:=by omega
 have wm:IntKind.i64.wrap ((1:Int) - 1)=0:=by decide
 have wm2:IntKind.i64.wrap ((0:Int) - 1) = -1:=by decide
 rcases h3 with rfl|rfl|rfl
 ·rw [show plV 0=1 from rfl,show stD d x1.2 y1.2 0=d from rfl];refine Sq<|Sr<|Dd aB<|Dd CD<|Zz ?_;refine Cn ?_ ?_<;>intro hc1
  ·refine aF<|Sq<|aJ<|Sr<|Dd aB<|Dd aB<|Dd aB<|Dd aB<|Dd aB<|Dd (by exact aA rfl rfl H4 rfl (hh1 _))<|Dd (by exact bD [[.str (hS 1 a2 cn2)]] rfl cD rfl rfl rfl rfl rfl (by simp)) ?_;refine gC rfl rfl (aA rfl rfl yR rfl (hw y)) ?_;rintro _ _ ⟨rfl,x',rfl⟩;refine Dd aR<|Zz<|Sr<|Dd aB<|Dd tM<|Zz ?_;refine Cn ?_ ?_<;>intro hc2
   ·have he:¬ x1.1=0:=by have h:=hc2;simpa using h
    rw [aHp he,aHp he,bt he];refine Sr<|Dd aB<|Dd aR<|Zz<|aH ?_;refine bI (H':=(jH x1.2 x' (gO k a cn P true))) (.inr rfl) rfl (aI rfl) (Fin.wk (by(simp;done)) (Hc (bE _ _ _ rfl rfl)<|Hb<|Hc (aD _ _ _)<|Ha<|trivial) ⟨rfl,rfl,rfl,rfl,trivial⟩) ?_;exact⟨rfl,_,rfl⟩
   have he:x1.1=0:=by have h:=hc2;simpa using h
   rw [bf he];refine aF<|Rg<|Dd aB<|Dd (by exact dG rfl rfl rfl wm)<|Da ?_;exact⟨1,x',⟨by omega,fun _=>he,fun h=>absurd h (by omega)⟩,by omega,(cC.wk (Ea<|Eb<|Eb<|Eb<|trivial) (Hc (bE _ _ _ rfl rfl)<|Hb<|Hc (aD _ _ _)<|Ha<|trivial) ⟨rfl,rfl,rfl,rfl,trivial⟩)⟩
  cases hc1
 ·have he0:=hx0 (by omega);rw [show plV 1=0 from rfl,show stD d x1.2 y1.2 1=x1.2 from rfl];refine Sq<|Sr<|Dd aB<|Dd CD<|Zz ?_;refine Cn ?_ ?_<;>intro hc3
  ·refine aF<|Sq<|aJ<|Sr<|Dd aB<|Dd aB<|Dd aB<|Dd aB<|Dd aB<|Dd (by exact aA rfl rfl H4 rfl (hh0 _))<|Dd (by exact bD [[.str (hS 0 a2 cn2)]] rfl cD rfl rfl rfl rfl rfl (by simp)) ?_;refine gC rfl rfl (aA rfl rfl yR rfl (hw2 y)) ?_;rintro _ _ ⟨rfl,x',rfl⟩;refine Dd aR<|Zz<|Sr<|Dd aB<|Dd tM<|Zz ?_;refine Cn ?_ ?_<;>intro hc4
   ·have he:¬ y1.1=0:=by have h:=hc4;simpa using h
    rw [aHq he0,aHp he,bt he];refine Sr<|Dd aB<|Dd aR<|Zz<|aH ?_;refine bI (H':=(jH y1.2 x' (gO k a cn P true))) (.inr rfl) rfl (aI rfl) (Fin.wk (by(simp;done)) (Hc (bE _ _ _ rfl rfl)<|Hb<|Hc (aD _ _ _)<|Ha<|trivial) ⟨rfl,rfl,rfl,rfl,trivial⟩) ?_;exact⟨rfl,_,rfl⟩
   have he:y1.1=0:=by have h:=hc4;simpa using h
   rw [bf he];refine aF<|Rg<|Dd aB<|Dd (by exact dG rfl rfl rfl wm2)<|Da ?_;exact⟨2,x',⟨by omega,fun _=>he0,fun _=>he⟩,by omega,(cC.wk (Ea<|Eb<|Eb<|Eb<|trivial) (Hc (bE _ _ _ rfl rfl)<|Hb<|Hc (aD _ _ _)<|Ha<|trivial) ⟨rfl,rfl,rfl,rfl,trivial⟩)⟩
  cases hc3
 have he0:=hx0 (by omega);have he1:=hy0 (by omega);rw [show plV 2 = -1 from rfl,show stD d x1.2 y1.2 2=y1.2 from rfl,aHq he0,aHq he1];refine Sq<|Sr<|Dd aB<|Dd CD<|Zz ?_;refine Cn ?_ ?_<;>intro hc5
 ·cases hc5
 refine aV<|Sr<|Dd aB<|Dd aB<|Dd dY<|Dd (cI yE)<|Uu (by exact bU rfl sizeOf3 rfl rfl rfl rfl rfl rfl (by simp only [aHt,List.length_nil];omega) (by simp only [Zl,encStr,encKV,fC];rfl) (by simp only [Zl,encStr,encKV,fC];rfl))<|Zz<|Sr<|Dd aB<|Dd aB<|Dd dY<|Dd (cI vA)<|Uu (by exact bU rfl sizeOf3 rfl rfl rfl rfl rfl rfl (by simp only [aHt,List.length_nil];omega) (by simp only [Zl,encStr,encKV,fC];rfl) (by simp only [Zl,encStr,encKV,fC];rfl))<|Zz<|Sr<|Dd aR<|Zz<|aH ?_;refine bI (H':=(jH y1.2 y (gO k a2 cn2 P b))) (.inr rfl) rfl (aI rfl) (Fin.wk (by(simp;done)) (Hc (bE _ _ _ rfl rfl)<|Hb<|Hc (aD _ _ _)<|Ha<|trivial) ⟨rfl,rfl,rfl,rfl,trivial⟩) ?_;exact⟨by rw [he1],_,rfl⟩
theorem O3 {d:DSt} {x:RX} {n m:Nat} (h:DInv d n m) (hp:cY d) (k a cn a2 fr:Nat) (b:Bool) (P:KP) (hk:k < 4000) (ha:a2 < 2) (hfr:fr≤k) (hm:m+k < 1048576) :
  aK Tryz.prog 78 [.ref 1200 0 0 0,iv (a2:Int),iv (fr:Int)] (jH d x (gO k a cn P b)) (fun r H'=>r=iv (gY d (2+a2*k+fr) (zR (k - fr))).1∧∃ x',H'=jH (gY d (2+a2*k+fr) (zR (k - fr))).2 x' (gO k a cn P (b||!decide ((gY d (2+a2*k+fr) (zR (k - fr))).1=0)))):=by
 have hmk:a2*k≤2*4000:=Nat.mul_le_mul (by omega) (by omega);have hpl:=F0 d x k a cn a2 fr P b (by omega) (by omega) (by omega);have hz:=fun H=>wB 64 (by decide) H;have hw:=qE (x:=x) h hp k a cn (2+a2*k+fr) b P (zR (k - fr)) (by rw [List.length_replicate];omega) (by omega);refine Bd func78 rfl ntmps78<|Sr<|Dd aR<|Zz<|Sr<|Dd (by exact eU (id:=905) (sz:=1) (ty:=9) rfl rfl rfl)<|Zz<|Sq<|Sr<|Dd aB<|Dd aR<|Zz<|aJ ?_;refine bG (σ:=Nat) (fun i=>([(0,.ref 1200 0 0 0),(1,iv (a2:Int)),(2,iv (fr:Int)),(7,.osl 905 i 0 i),(8,iv ((fr+i:Nat):Int))],(905,⟨i,1,9,eA (zR i)⟩)::jH d x (gO k a cn P b))) (fun i=>i≤k - fr) (fun i=>k - fr - i) 0 (aII _) ?_ ?_
 ·exact(cC.wk (Ea<|Eb<|Eb<|Ea<|Eb<|trivial) (Hc (dK _ _)<|Hc (bE _ _ _ rfl rfl)<|Hb<|Hc (aD _ _ _)<|Ha<|trivial) ⟨rfl,rfl,rfl,rfl,trivial⟩)
 intro i hi;have hl:(zR i).length=i:=List.length_replicate;have hsn:zR (i+1)=zR i++[zS]:=List.replicate_succ';refine Sq<|Sr<|Dd aB<|Dd aB<|Dd dY<|Dd (cI yF)<|Dd (cW aL)<|Dd cP<|Zz ?_;refine Cn ?_ ?_<;>intro hc1
 ·have hlt:fr+i < k:=by have:=aHn hc1;omega
  refine aF<|Sq<|aJ<|Rg<|Dd aB<|Dd (by exact aA rfl rfl CI rfl (hz _))<|Dd (by exact bD [[.str zS]] rfl cD rfl rfl rfl rfl rfl (by simp))<|Dd (by exact dV (k:=i+1) (ps:=[[.str zS]]) rfl cD IB rfl rfl rfl rfl rfl ((eX _).trans hl) rfl (by simp) (m:=1) rfl (by omega) (by omega) (jK _ [zS]))<|Dd aR<|Zz<|Rg<|Dd aB<|Dd (by exact bA rfl rfl rfl (show IntKind.i64.wrap (((fr+i:Nat):Int)+1)=((fr+(i+1):Nat):Int)by rw [eS (by omega) (by omega)];omega))<|Da ?_;refine⟨i+1,by omega,by omega,?_⟩;rw [hsn];exact(cC.wk (Ea<|Eb<|Eb<|Ea<|Eb<|trivial) (Hc (dK _ _)<|Hc (bE _ _ _ rfl rfl)<|Hb<|Hc (aD _ _ _)<|Ha<|trivial) ⟨rfl,rfl,rfl,rfl,trivial⟩)
 have hge:i=k - fr:=by have:=aHo hc1;omega
 rw [← hge] at hw ⊢;refine aV<|Sq ?_;refine iF.ent (cC.fzG (id:=905) (E':=[(0,.ref 1200 0 0 0),(1,iv (a2:Int)),(2,iv (fr:Int)),(7,.pv (aX (zR i)))]) (H:=(905,⟨i,1,9,eA (zR i)⟩)::jH d x (gO k a cn P b)) (H':=jH d x (gO k a cn P b)) ((zR i).map encStr) rfl (by exact kV _) ?_ rfl ?_ ?_) ?_
 ·intro p hp;simp only [aID,aIH,or_false] at hp;rcases hp with rfl|rfl|rfl|rfl
  ·exact⟨_,rfl,.same (by simp;rfl)⟩
  ·exact⟨_,rfl,.same (by simp)⟩
  ·exact⟨_,rfl,.same (by simp)⟩
  exact⟨_,rfl,.osl (by have h:=gZ encStr (zR i);rw [hl] at h;exact h)⟩
 ·exact⟨⟨_,rfl,rfl,rfl,rfl,dM (bE _ _ _ rfl rfl)⟩,⟨_,rfl,rfl,rfl,rfl,dM (aD _ _ _)⟩,⟨_,rfl,rfl,rfl,rfl,dM (aD _ _ _)⟩,⟨_,rfl,rfl,rfl,rfl,dM (EO rfl)⟩,trivial⟩
 ·exact⟨rfl,rfl,rfl,rfl,trivial⟩
 refine Rg<|Dd aB<|Dd aB<|Dd aB<|Dd aB<|Dd (by exact aA rfl rfl NY rfl (hpl))<|Dm ?_;refine gC rfl rfl (aA rfl rfl yR rfl hw) ?_;rintro _ _ ⟨rfl,x',rfl⟩;refine Dd aR<|Zz<|aH ?_;refine bI (H':=(jH (gY d (2+a2*k+fr) (zR i)).2 x' (gO k a cn P (b||!decide ((gY d (2+a2*k+fr) (zR i)).1=0))))) (.inr rfl) rfl (aI rfl) (Fin.wk (by(simp;done)) (Hc (bE _ _ _ rfl rfl)<|Hb<|Hc (aD _ _ _)<|Ha<|trivial) ⟨rfl,rfl,rfl,rfl,trivial⟩) ?_;exact⟨rfl,_,rfl⟩
theorem aA2 {d:DSt} {x:RX} {n m:Nat} (h:DInv d n m) (hp:cY d) (k a cn a2 cn2:Nat) (b:Bool) (P:KP) (t:List UInt8) (ht:t.length < 100000000) (hm:m+dD t < 1048576) (ha:a2 < 2) (hk:k < 4000) (hcn:cn2≤4000) :
  aK Tryz.prog 75 [.ref 1200 0 0 0,iv (a2:Int),iv (cn2:Int),.pv (aX (N9 t (dD t)))] (jH d x (gO k a cn P b)) (fun r H'=>r=iv (gY d (2+a2*k+cn2) (gG (2+a2*k+cn2) t (dD t))).1∧∃ x',H'=jH (gY d (2+a2*k+cn2) (gG (2+a2*k+cn2) t (dD t))).2 x' (gO k a cn P (b||!decide ((gY d (2+a2*k+cn2) (gG (2+a2*k+cn2) t (dD t))).1=0)))):=by
 have hmk:a2*k≤2*4000:=Nat.mul_le_mul (by omega) (by omega);have hpn:dD t≤10000000:=by rw [dD];omega
 have hpl:=fun i (hi:i < 100000000)=>F0 d x k a cn a2 i P b (by omega) (by omega) hi;obtain ⟨fr,hfr⟩:∃ fr,fr=2+a2*k+cn2:=⟨_,rfl⟩;have hpl0:=hpl cn2 (by omega);rw [← hfr] at hpl0 ⊢;have hw:=qE (x:=x) h hp k a cn fr b P (gG fr t (dD t)) (by rw [eB];omega) (by omega);obtain ⟨u,hu⟩:∃ u,u=dD t:=⟨_,rfl⟩;rw [← hu] at hpn hw hm ⊢;have hml:((N9 t u).map encStr).length=u:=by rw [aHr,A9]
 refine Bd func75 rfl ntmps75<|Sr<|Dd aR<|Zz<|Sr<|Dd (by exact eU (id:=905) (sz:=1) (ty:=9) rfl rfl rfl)<|Zz<|Sq<|Sr<|Dd aR<|Zz<|aJ ?_;refine bG (σ:=Nat) (fun i=>([(0,.ref 1200 0 0 0),(1,iv (a2:Int)),(2,iv (cn2:Int)),(3,.pv (aX (N9 t u))),(9,.osl 905 i 0 i),(10,iv (i:Int))],(905,⟨i,1,9,eA (gG fr t i)⟩)::jH d x (gO k a cn P b))) (fun i=>i≤u) (fun i=>u - i) 0 (aII _) ?_ ?_
 ·exact(cC.wk (Ea<|Eb<|Eb<|Eb<|Ea<|Eb<|trivial) (Hc (dK _ _)<|Hc (bE _ _ _ rfl rfl)<|Hb<|Hc (aD _ _ _)<|Ha<|trivial) ⟨rfl,rfl,rfl,rfl,trivial⟩)
 intro i hi;have hl:(gG fr t i).length=i:=eB _ _ _;refine Sq<|Sr<|Dd aB<|Dd aB<|Dd (jY aO)<|Dd cP<|Zz ?_;refine Cn ?_ ?_<;>intro hc1
 ·have hlt:i < u:=by have:=aHn hc1;omega
  have hpi:=hpl (cn2+i) (by omega);have hpal:(gH t i).length≤46:=by rw [qU];omega
  rw [show 2+a2*k+(cn2+i)=fr+i by omega] at hpi;have hse:=fun H=>CQ (fr+i) (gH t i) (by omega) hpal H;have hget:(N9 t u)[i]?=some (ofL (gH t i)):=by rw [N9,aIL,List.getElem?_range hlt];rfl
  have hit:=cV (f:=encStr) hget;refine aF<|Sq<|aJ<|bF follows<|Cr [905] (fun _ _=>aB)<|Cr [1200] (fun _ _=>aB)<|Cr [] (fun _ _=>aB)<|Cr [] (fun _ _=>aB)<|Cr [] (fun _ _=>aB)<|Cr [] (fun H1 hH=>by exact bA rfl rfl rfl (show IntKind.i64.wrap ((cn2:Int)+(i:Int))=((cn2+i:Nat):Int)by rw [eS (by omega) (by omega)];omega))<|Cr [1100,1101,1102,1200] (fun H1 hH=>by exact aA rfl rfl NY rfl (FX hpi _ ⟨(hH 1100 rfl).trans rfl,(hH 1101 rfl).trans rfl,(hH 1102 rfl).trans rfl,(hH 1200 rfl).trans rfl,trivial⟩ (by simp;rfl)))<|Cr [] (fun _ _=>aB)<|Cr [] (fun _ _=>aB)<|Cr [] (fun _ _=>(sU cD))<|Cr [] (fun _ _=>(gW aQ (hi:=hit)))<|Cr [1200] (fun H1 hH=>by exact aA rfl rfl aHL rfl (hse _))<|Cr [] (fun H1 hH=>by exact bD [[.str (ofL (fE (fr+i) (gH t i)))]] rfl cD rfl rfl rfl rfl rfl (by simp))<|Cp [905] (fun H1 hH=>by exact dV (k:=i+1) (ps:=[[.str (ofL (fE (fr+i) (gH t i)))]]) rfl cD IB rfl ((hH _ rfl).trans rfl) rfl rfl rfl ((eX _).trans hl) rfl (by simp) (m:=1) rfl (by omega) (by omega) (jK _ [ofL (fE (fr+i) (gH t i))])) ?_;refine Cr [905] (fun _ _=>aR)<|cA<|Kr<|Rg<|Dd aB<|Dd (by exact bA rfl rfl rfl (show IntKind.i64.wrap ((i:Int)+1)=((i+1:Nat):Int)by rw [eS (by omega) (by omega)];omega))<|Da ?_;refine⟨i+1,by omega,by omega,?_⟩;rw [JP];exact(cC.wk (Ea<|Eb<|Eb<|Eb<|Ea<|Eb<|trivial) (Hc (dK _ _)<|Hc (bE _ _ _ rfl rfl)<|Hb<|Hc (aD _ _ _)<|Ha<|trivial) ⟨rfl,rfl,rfl,rfl,trivial⟩)
 have hge:i=u:=by have:=aHo hc1;omega
 subst hge;refine aV<|Sq ?_;refine iF.ent (cC.fzG (id:=905) (E':=[(0,.ref 1200 0 0 0),(1,iv (a2:Int)),(2,iv (cn2:Int)),(9,.pv (aX (gG fr t i)))]) (H:=(905,⟨i,1,9,eA (gG fr t i)⟩)::jH d x (gO k a cn P b)) (H':=jH d x (gO k a cn P b)) ((gG fr t i).map encStr) rfl (by exact kV _) ?_ rfl ?_ ?_) ?_
 ·intro p hp;simp only [aID,aIH,or_false] at hp;rcases hp with rfl|rfl|rfl|rfl
  ·exact⟨_,rfl,.same (by simp;rfl)⟩
  ·exact⟨_,rfl,.same (by simp)⟩
  ·exact⟨_,rfl,.same (by simp)⟩
  exact⟨_,rfl,.osl (by have h:=gZ encStr (gG fr t i);rw [hl] at h;exact h)⟩
 ·exact⟨⟨_,rfl,rfl,rfl,rfl,dM (bE _ _ _ rfl rfl)⟩,⟨_,rfl,rfl,rfl,rfl,dM (aD _ _ _)⟩,⟨_,rfl,rfl,rfl,rfl,dM (aD _ _ _)⟩,⟨_,rfl,rfl,rfl,rfl,dM (EO rfl)⟩,trivial⟩
 ·exact⟨rfl,rfl,rfl,rfl,trivial⟩
 refine Rg<|Dd aB<|Dd aB<|Dd aB<|Dd aB<|Dd (by exact aA rfl rfl NY rfl (hpl0))<|Dm ?_;refine gC rfl rfl (aA rfl rfl yR rfl hw) ?_;rintro _ _ ⟨rfl,x',rfl⟩;refine Dd aR<|Zz<|aH ?_;refine bI (H':=(jH (gY d fr (gG fr t i)).2 x' (gO k a cn P (b||!decide ((gY d fr (gG fr t i)).1=0))))) (.inr rfl) rfl (aI rfl) (Fin.wk (by(simp;done)) (Hc (bE _ _ _ rfl rfl)<|Hb<|Hc (aD _ _ _)<|Ha<|trivial) ⟨rfl,rfl,rfl,rfl,trivial⟩) ?_;exact⟨rfl,_,rfl⟩
theorem OX {s:DSt} {x:RX} (hs:DOk s) (hoff:s.off=false) {n:Nat} (hn:n < s.cells.length):aK Tryz.prog 63 [.ref 1100 0 0 0,iv (n:Int)] (dA s x) (fun r H'=>r=.tup [sv (cH s n),iv 0]∧H'=dA s x):=by
 have h:=xI s x (n:Int) hs;have e:fK s (n:Int)=true:=by rw [fY];exact decide_eq_true hn
 rw [show sC s (n:Int)=cH s n by rw [sC,hoff,aHp (by decide),aHq e,aIC],show fS s (n:Int)=0 by rw [fS,hoff,aHp (by decide),aHq e]] at h;exact h
def rsB (d:DSt) (a cn:Nat) (hd:Bool):Int×DSt:=if(mB d 1 a cn hd).1=0 then mB (mB d 1 a cn hd).2 0 a cn hd else mB d 1 a cn hd
theorem RY {d:DSt} {x:RX} {N:Nat} (h:OnD d N) (hp:cY d) (k a cn:Nat) (hd:Bool) (P:KP) (hN:2≤N) (ha:a < 10) (hcn:cn < 10000000) :
  aK Tryz.prog 70 [.ref 1200 0 0 0,bv hd] (jH d x (gO k a cn P false)) (fun r H'=>r=iv (rsB d a cn hd).1∧∃ x',H'=jH (rsB d a cn hd).2 x' (gO k a cn P (!decide ((rsB d a cn hd).1=0)))):=by
 have hN2:=h.inv.ok.n2;have hcN:=h.inv.n;have hz:=fun H=>wB 64 (by decide) H;have bt:∀ {p:Prop} [Decidable p],¬ p→(!decide p)=true:=fun h=>by rw [decide_eq_false h];rfl
 have bf:∀ {p:Prop} [Decidable p],p→(!decide p)=false:=fun h=>by rw [decide_eq_true h];rfl
 have ct:∀ {p:Prop} [Decidable p],¬ p→(false||!decide p)=true:=fun h=>by rw [decide_eq_false h];rfl
 have cf:∀ {p:Prop} [Decidable p],p→(false||!decide p)=false:=fun h=>by rw [decide_eq_true h];rfl
 have hR:rsB d a cn hd=if(mB d 1 a cn hd).1=0 then mB (mB d 1 a cn hd).2 0 a cn hd else mB d 1 a cn hd:=rfl
 have hon1:=aAR (place:=1) (a:=a) (n:=cn) (hd:=hd) h (by omega) ha hcn;have hp1:=EU hp 1 a cn hd;obtain ⟨x1,hx1⟩:∃ x,x=mB d 1 a cn hd:=⟨_,rfl⟩;rw [← hx1] at hR hon1 hp1;obtain ⟨y1,hy1⟩:∃ y,y=mB x1.2 0 a cn hd:=⟨_,rfl⟩;rw [← hy1] at hR;rw [hR];clear hR;refine Bd func70 rfl ntmps70<|Sr<|Dd aR<|Zz<|Sq<|Sr<|Dd aR<|Zz<|aJ ?_;refine iM (fun(j:Nat) (y:RX)=>([(0,.ref 1200 0 0 0),(1,bv hd),(5,iv (plV j))],jH (stD d x1.2 y1.2 j) y (gO k a cn P false))) (fun j y=>j≤2∧(0 < j→x1.1=0)∧(1 < j→y1.1=0)) (fun j y=>2 - j) 0 x ⟨by omega,fun h=>absurd h (Nat.lt_irrefl _),fun h=>absurd h (by omega)⟩ ?_ ?_
 ·exact(cC.wk (Ea<|Eb<|Eb<|trivial) (Hc (bE _ _ _ rfl rfl)<|Hb<|Hc (aD _ _ _)<|Ha<|trivial) ⟨rfl,rfl,rfl,rfl,trivial⟩)
 rintro j y ⟨hj,hx0,hy0⟩;by_cases hj2:j < 2
 ·obtain ⟨pl,dd,w,hpl,hdd,hpn,hon,hpd,hw,hnx,hgo,hret⟩:∃ (pl:Nat) (dd:DSt) (w:Int×DSt),plV j=(pl:Int)∧stD d x1.2 y1.2 j=dd∧pl≤1∧OnD dd N∧cY dd∧w=mB dd pl a cn hd∧IntKind.i64.wrap ((pl:Int) - 1)=plV (j+1)∧(w.1=0→(0 < j+1→x1.1=0)∧(1 < j+1→y1.1=0)∧stD d x1.2 y1.2 (j+1)=w.2)∧(¬ w.1=0→(if x1.1=0 then y1 else x1)=w):=by
   rcases(show j=0∨j=1 by omega)with rfl|rfl
   ·exact⟨1,d,x1,rfl,rfl,aHx _,h,hp,hx1,by decide,fun e=>⟨fun _=>e,fun h=>absurd h (by omega),rfl⟩,fun e=>aHp e⟩
   exact⟨0,x1.2,y1,rfl,rfl,by omega,hon1 (hx0 (by omega)),hp1,hy1,by decide,fun e=>⟨fun _=>hx0 (by omega),fun _=>e,rfl⟩,fun e=>aHq (hx0 (by omega))⟩
  rw [hpl,hdd];have hplN:pl < dd.cells.length:=by have:=hon.inv.n;omega
  have hrd:=GA (o:=gO k a cn P false) (OX (x:=y) hon.inv.ok hon.off hplN) (by simp;rfl);have hhd:=fun H=>A4 pl a cn (by omega) ha hcn H;have hw1:=fun y=>qE (x:=y) hon.inv hpd k a cn pl false P [zS] (by rw [List.length_singleton];omega) (by omega);have hi1:=kI hon.inv pl [zS] (by rw [List.length_singleton];omega);have hq1:=jP hpd pl [zS];have hw2:=fun y=>qE (x:=y) hi1 hq1 k a cn pl false P [nB pl a cn hd] (by rw [List.length_singleton,List.length_singleton];omega) (by omega);have hwR:w=if cH dd pl=nB pl a cn hd then(0,dd)else if(gY dd pl [zS]).1=0∧hd=true then gY (gY dd pl [zS]).2 pl [nB pl a cn hd] else gY dd pl [zS]:=hw
  obtain ⟨w1,hw1e⟩:∃ w1,w1=gY dd pl [zS]:=⟨_,rfl⟩;rw [← hw1e] at hw1 hw2 hwR;obtain ⟨w2,hw2e⟩:∃ w2,w2=gY w1.2 pl [nB pl a cn hd]:=⟨_,rfl⟩;rw [← hw2e] at hw2 hwR;clear hw hw1e hw2e hi1 hq1;refine Sq<|Sr<|Dd aB<|Dd CD<|Zz ?_;refine Cn ?_ ?_<;>intro hc1
  ·refine aF<|Sq<|aJ<|Sr<|Dd aB<|Dd dY<|Dd (cI NB)<|Dd (cW aHG)<|Dd aB<|Dd (by exact aA rfl rfl oK rfl (hrd))<|Dd aB<|Dd eC<|Dd eC<|Dd aR<|Dd aR<|Zz<|Sq<|bF follows<|Cq aB<|Cq aB<|Cq dY<|Cq (cI yE)<|Cq (cW aL)<|Cq aB<|Cq dY<|Cq (cI vA)<|Cq (cW aL)<|Cq (by exact aA rfl rfl H4 rfl (hhd _))<|Cq aR<|cA<|Kr ?_;refine fZ (fun(_:Unit)=>([(0,.ref 1200 0 0 0),(1,bv hd),(5,iv (pl:Int)),(6,sv (cH dd pl)),(8,sv (nB pl a cn hd))],jH dd y (gO k a cn P false))) (fun _=>True) ?_ ?_
   ·refine Sr<|Dd aB<|Dd pY<|Zz ?_;refine Cn ?_ ?_<;>intro hc2
    ·have e:hd=false:=by have h:=hc2;simpa using h
     refine Rg<|Dd (by exact aA rfl rfl CI rfl (hz _))<|Da ?_;rw [e];exact⟨(),trivial,(cC.wk (Ea<|Eb<|Eb<|Eb<|Eb<|trivial) (Hc (bE _ _ _ rfl rfl)<|Hb<|Hc (aD _ _ _)<|Ha<|trivial) ⟨rfl,rfl,rfl,rfl,trivial⟩)⟩
    have e:hd=true:=by have h:=hc2;simpa using h
    refine aF ?_;rw [e];exact⟨(),trivial,(cC.wk (Ea<|Eb<|Eb<|Eb<|Eb<|trivial) (Hc (bE _ _ _ rfl rfl)<|Hb<|Hc (aD _ _ _)<|Ha<|trivial) ⟨rfl,rfl,rfl,rfl,trivial⟩)⟩
   rintro _ -;refine Sq<|Sr<|Dd aB<|Dd aB<|Dd se'<|Zz ?_;refine Cn ?_ ?_<;>intro hc3
   ·have he:cH dd pl=nB pl a cn hd:=aHn hc3;rw [aHq he] at hwR;have hw0:w.1=0:=by rw [hwR]
    obtain ⟨g1,g2,g3⟩:=hgo hw0;rw [hwR] at g3;refine aV<|Rg<|Dd aB<|Dd (by exact dG rfl rfl rfl hnx)<|Da ?_;refine⟨j+1,y,⟨by omega,g1,g2⟩,by omega,?_⟩;dsimp only;rw [g3];exact(cC.wk (Ea<|Eb<|Eb<|trivial) (Hc (bE _ _ _ rfl rfl)<|Hb<|Hc (aD _ _ _)<|Ha<|trivial) ⟨rfl,rfl,rfl,rfl,trivial⟩)
   have he:¬ cH dd pl=nB pl a cn hd:=aHo hc3;rw [aHp he] at hwR;refine aF<|Sr<|Dd aB<|Dd aB<|Dd (by exact aA rfl rfl CI rfl (hz _))<|Dd (by exact bD [[.str zS]] rfl cD rfl rfl rfl rfl rfl (by simp)) ?_;refine gC rfl rfl (aA rfl rfl yR rfl (hw1 y)) ?_;rintro _ _ ⟨rfl,x',rfl⟩;by_cases hc:w1.1=0∧hd=true
   ·rw [aHq hc] at hwR;rw [cf hc.1];have e48:(decide (w1.1=0)&&hd)=true:=by rw [decide_eq_true hc.1,hc.2];rfl
    refine Dd aR<|Zz<|Sq<|Sq ?_;refine cQ (t:=48) (n:=6) (X:=decide (w1.1=0)&&hd) ?_ ?_
    ·all_goals refine Dd aB ?_
     all_goals refine Dd eP<|Dm ?_
     all_goals refine Sp 46 (fun h46=>?_) fun h46=>?_
     all_goals try contradiction
     all_goals first|refine Fo ?_|refine On aB ?_
     all_goals refine Dd cX<|Zz ?_
     all_goals(exact⟨⟨_,rfl,by(rw [h46];rfl)⟩,rfl,rfl,rfl⟩)
    refine Cn ?_ ?_<;>intro hc4
    ·refine Rg<|Dd aB<|Dd aB<|Dd aB<|Dd (by exact bD [[.str (nB pl a cn hd)]] rfl cD rfl rfl rfl rfl rfl (by simp)) ?_;refine gC rfl rfl (aA rfl rfl yR rfl (hw2 x')) ?_;rintro _ _ ⟨rfl,x2,rfl⟩;rw [← hwR];refine Dd aR<|Zz<|Sr<|Dd aB<|Dd tM<|Zz ?_;refine Cn ?_ ?_<;>intro hc5
     ·have e0:¬ w.1=0:=by have h:=hc5;simpa using h
      rw [hret e0,ct e0,bt e0];refine Sr<|Dd aB<|Dd aR<|Zz<|aH ?_;refine bI (H':=(jH w.2 x2 (gO k a cn P true))) (.inr rfl) rfl (aI rfl) (Fin.wk (by(simp;done)) (Hc (bE _ _ _ rfl rfl)<|Hb<|Hc (aD _ _ _)<|Ha<|trivial) ⟨rfl,rfl,rfl,rfl,trivial⟩) ?_;exact⟨rfl,_,rfl⟩
     have e0:w.1=0:=by have h:=hc5;simpa using h
     obtain ⟨g1,g2,g3⟩:=hgo e0;rw [cf e0];refine aF<|Rg<|Dd aB<|Dd (by exact dG rfl rfl rfl hnx)<|Da ?_;refine⟨j+1,x2,⟨by omega,g1,g2⟩,by omega,?_⟩;dsimp only;rw [g3];exact(cC.wk (Ea<|Eb<|Eb<|trivial) (Hc (bE _ _ _ rfl rfl)<|Hb<|Hc (aD _ _ _)<|Ha<|trivial) ⟨rfl,rfl,rfl,rfl,trivial⟩)
    (have h:=hc4;rw [e48] at h;cases h)
   rw [aHp hc] at hwR;have e48:(decide (w1.1=0)&&hd)=false:=by
    rw [Bool.and_eq_false_iff];by_cases q:w1.1=0
    ·exact .inr (by cases hd;rfl;exact absurd ⟨q,rfl⟩ hc)
    exact .inl (decide_eq_false q)
   refine Dd aR<|Zz<|Sq<|Sq ?_;refine cQ (t:=48) (n:=6) (X:=decide (w1.1=0)&&hd) ?_ ?_
   ·all_goals refine Dd aB ?_
    all_goals refine Dd eP<|Dm ?_
    all_goals refine Sp 46 (fun h46=>?_) fun h46=>?_
    all_goals try contradiction
    all_goals first|refine Fo ?_|refine On aB ?_
    all_goals refine Dd cX<|Zz ?_
    all_goals(exact⟨⟨_,rfl,by(rw [h46];rfl)⟩,rfl,rfl,rfl⟩)
   refine Cn ?_ ?_<;>intro hc6
   ·(have h:=hc6;rw [e48] at h;cases h)
   rw [← hwR];refine aF<|Sr<|Dd aB<|Dd tM<|Zz ?_;refine Cn ?_ ?_<;>intro hc7
   ·have e0:¬ w.1=0:=by have h:=hc7;simpa using h
    rw [hret e0,ct e0,bt e0];refine Sr<|Dd aB<|Dd aR<|Zz<|aH ?_;refine bI (H':=(jH w.2 x' (gO k a cn P true))) (.inr rfl) rfl (aI rfl) (Fin.wk (by(simp;done)) (Hc (bE _ _ _ rfl rfl)<|Hb<|Hc (aD _ _ _)<|Ha<|trivial) ⟨rfl,rfl,rfl,rfl,trivial⟩) ?_;exact⟨rfl,_,rfl⟩
   have e0:w.1=0:=by have h:=hc7;simpa using h
   obtain ⟨g1,g2,g3⟩:=hgo e0;rw [cf e0];refine aF<|Rg<|Dd aB<|Dd (by exact dG rfl rfl rfl hnx)<|Da ?_;refine⟨j+1,x',⟨by omega,g1,g2⟩,by omega,?_⟩;dsimp only;rw [g3];exact(cC.wk (Ea<|Eb<|Eb<|trivial) (Hc (bE _ _ _ rfl rfl)<|Hb<|Hc (aD _ _ _)<|Ha<|trivial) ⟨rfl,rfl,rfl,rfl,trivial⟩)
  (have h:=aHo hc1;omega)
 obtain rfl:j=2:=by omega
 rw [show plV 2 = -1 from rfl,show stD d x1.2 y1.2 2=y1.2 from rfl,aHq (hx0 (by omega))];have e0:=hy0 (by omega);rw [bf e0];refine Sq<|Sr<|Dd aB<|Dd CD<|Zz ?_;refine Cn ?_ ?_<;>intro hc8
 ·cases hc8
 refine aV<|Sr<|Dd aR<|Zz<|aH ?_;refine bI (H':=(jH y1.2 y (gO k a cn P false))) (.inr rfl) rfl (aI rfl) (Fin.wk (by(simp;done)) (Hc (bE _ _ _ rfl rfl)<|Hb<|Hc (aD _ _ _)<|Ha<|trivial) ⟨rfl,rfl,rfl,rfl,trivial⟩) ?_;exact⟨by rw [e0],_,rfl⟩
def inR (v:Int):Prop := -9223372036854775808≤v∧v≤9223372036854775807
theorem aBI (n:Int):inR (IntKind.i64.wrap n):=by rw [inR,IntKind.wrap_i64];omega
def dgB (b:UInt8):Bool:=decide (48≤b.toNat)&&decide (b.toNat≤57)
def U2 (v:Int) (b:UInt8):Int:=IntKind.i64.wrap (IntKind.i64.wrap (10*v)+((b.toNat - 48:Nat):Int))
def C8 (l:List UInt8):Int:=if l.all dgB=true then l.foldl U2 0 else -1
theorem P8:∀ (l:List UInt8) {v:Int},inR v→inR (l.foldl U2 v)
 | [],_,h=>h
 | b::r,v,h=>P8 r (aBI _)
theorem PJ (l:List UInt8):inR (C8 l):=by
 rw [C8]
 split
 ·exact P8 l ⟨by decide,by decide⟩
 exact⟨by decide,by decide⟩
theorem HH:∀ {l:List UInt8} {a m:Nat},decFrom a l=some m→a≤m
 | [],a,m,h=>by cases h;exact aHx _
 | b::r,a,m,h=>by
  rw [decFrom] at h;cases e:digitVal b with
  | none=>rw [e] at h;cases h
  | some d =>
   rw [e] at h;have:=HH h;omega
theorem P9:∀ {l:List UInt8} {a m:Nat},decFrom a l=some m→m < 9223372036854775808→l.all dgB=true∧l.foldl U2 (a:Int)=(m:Int)
 | [],a,m,h,_=>by cases h;exact⟨rfl,rfl⟩
 | b::r,a,m,h,hm=>by
  rw [decFrom] at h;by_cases hd:48≤b.toNat∧b.toNat≤57
  ·rw [B1 hd] at h;have h2:decFrom (a*10+(b.toNat - 48)) r=some m:=h;have h3:=HH h2;obtain ⟨h4,h5⟩:=P9 h2 hm;refine⟨by rw [List.all_cons,h4,dgB,decide_eq_true hd.1,decide_eq_true hd.2];rfl,?_⟩;show List.foldl U2 (U2 (a:Int) b) r=_;rw [show U2 (a:Int) b=((a*10+(b.toNat - 48):Nat):Int)by
    rw [U2,eS (n:=10*(a:Int)) (by omega) (by omega),eS (by omega) (by omega)];omega]
   exact h5
  rw [EB hd] at h;cases h
theorem PK {n:Nat} (h:n < 9223372036854775808):C8 (decDigits n)=(n:Int):=by obtain ⟨h1,h2⟩:=P9 (iY n) h;rw [C8,aHq h1];exact h2
theorem F3 (s:ByteArray) (hs:s.size < 1000000000) (H:aE):aK Tryz.prog 107 [sv s] H (fun r H'=>r=iv (C8 s.data.toList)∧H'=H):=by
 refine Pu ?_;have hsl:=dP s;obtain ⟨l,hl⟩:∃ l,l=s.data.toList:=⟨_,rfl⟩;rw [← hl] at hsl ⊢;have hby:∀ i b,l[i]?=some b→eV s i=(b.toNat:Int):=fun i b h=>by rw [eV,← hl,h];rfl
 refine Bd func107 rfl ntmps107<|Sr<|Dd aR<|Zz<|Sr<|Dd aR<|Zz<|Sq<|Sr<|Dd aR<|Zz<|aJ ?_;refine bG (σ:=Nat) (fun(i:Nat)=>([(0,sv s),(3,iv ((l.take i).foldl U2 0)),(4,iv (i:Int))],[])) (fun i=>i≤l.length∧(l.take i).all dgB=true) (fun i=>l.length - i) 0 ⟨aII _,rfl⟩ ?_ ?_
 ·exact Wk
 rintro i ⟨hi,hall⟩;by_cases hlt:i < l.length
 ·obtain ⟨b,hb⟩:=aY hlt;have hbb:=hby i b hb;have htk:=bW hb;have hbd:b.toNat < 256:=b.toNat_lt;have hnx:(l.take (i+1)).foldl U2 0=U2 ((l.take i).foldl U2 0) b:=by rw [htk,List.foldl_append];rfl
  obtain ⟨v,hv⟩:∃ v,v=(l.take i).foldl U2 0:=⟨_,rfl⟩;rw [← hv] at hnx ⊢;by_cases hd:48≤b.toNat∧b.toNat≤57
  ·have hal2:(l.take (i+1)).all dgB=true:=by rw [htk,List.all_append,hall,List.all_cons,List.all_nil,dgB,decide_eq_true hd.1,decide_eq_true hd.2];rfl
   have n14:AV.pv (.bool (decide (eV s i < 48)))=bv false:=by rw [hbb,decide_eq_false (by omega)]
   have n19:AV.pv (.bool (decide (57 < eV s i)))=bv false:=by rw [hbb,decide_eq_false (by omega)]
   have hw28:IntKind.i64.wrap (IntKind.i64.wrap (10*v)+((b.toNat - 48:Nat):Int))=(l.take (i+1)).foldl U2 0:=hnx.symm;refine Sq<|Sr<|Dd aB<|Dd aB<|Dd (mD aC)<|Dd cP<|Zz ?_;refine Cn ?_ ?_<;>intro hc1
   ·refine aF<|Sq<|aJ<|Sq<|Sr<|Dd aB<|Dd aB<|Dd (by exact dC rfl aC rfl rfl (by omega) (by exact aIC _) (by omega) rfl)<|Dd (by exact bS.eqv (dB rfl rfl rfl) n14)<|Dd aB<|On aB<|On aB<|On (by exact dC rfl aC rfl rfl (by omega) (by exact aIC _) (by omega) rfl)<|On (by exact bS.eqv (eF rfl rfl rfl) n19)<|Dd cX<|Zz ?_;refine Cn ?_ ?_<;>intro hc2
    ·cases hc2
    refine aF<|Rg<|Dd aB<|Dd (by exact fG rfl rfl rfl rfl)<|Dd aB<|Dd aB<|Dd (by exact dC rfl aC rfl rfl (by omega) (by exact aIC _) (by omega) rfl)<|Dd (by exact dG rfl rfl rfl (show IntKind.u8.wrap (eV s i - 48)=((b.toNat - 48:Nat):Int)by rw [hbb,IntKind.wrap_u8];omega))<|Dd (by exact eO rfl bV cJ rfl (eS (by omega) (by omega)))<|Dd (by exact bA rfl rfl rfl hw28)<|Dd aR<|Zz<|Rg<|Dd aB<|Dd (by exact bA rfl rfl rfl (show IntKind.i64.wrap ((i:Int)+1)=((i+1:Nat):Int)by rw [eS (by omega) (by omega)];omega))<|Da ?_;exact⟨i+1,⟨by omega,hal2⟩,by omega,Wk⟩
   (have h:=aHo hc1;omega)
  have hnone:C8 l = -1:=by
   have hf:l.all dgB=false:=List.all_eq_false.2 ⟨b,aIB hb,by
    rw [dgB,aIA,aHy,aHy];exact hd⟩
   rw [C8,aHp (by rw [hf];decide)]
  rw [hnone];by_cases h48:b.toNat < 48
  ·have n14:AV.pv (.bool (decide (eV s i < 48)))=bv true:=by rw [hbb,decide_eq_true (by omega)]
   refine Sq<|Sr<|Dd aB<|Dd aB<|Dd (mD aC)<|Dd cP<|Zz ?_;refine Cn ?_ ?_<;>intro hc3
   ·refine aF<|Sq<|aJ<|Sq<|Sr<|Dd aB<|Dd aB<|Dd (by exact dC rfl aC rfl rfl (by omega) (by exact aIC _) (by omega) rfl)<|Dd (by exact bS.eqv (dB rfl rfl rfl) n14)<|Dd aB<|Fo<|Fo<|Fo<|Fo<|Dd cX<|Zz ?_;refine Cn ?_ ?_<;>intro hc4
    ·exact Sr<|Dd aR<|Zz<|aH<|Rt<|Qq
    cases hc4
   (have h:=aHo hc3;omega)
  have n14:AV.pv (.bool (decide (eV s i < 48)))=bv false:=by rw [hbb,decide_eq_false (by omega)]
  have n19:AV.pv (.bool (decide (57 < eV s i)))=bv true:=by rw [hbb,decide_eq_true (by omega)]
  refine Sq<|Sr<|Dd aB<|Dd aB<|Dd (mD aC)<|Dd cP<|Zz ?_;refine Cn ?_ ?_<;>intro hc5
  ·refine aF<|Sq<|aJ<|Sq<|Sr<|Dd aB<|Dd aB<|Dd (by exact dC rfl aC rfl rfl (by omega) (by exact aIC _) (by omega) rfl)<|Dd (by exact bS.eqv (dB rfl rfl rfl) n14)<|Dd aB<|On aB<|On aB<|On (by exact dC rfl aC rfl rfl (by omega) (by exact aIC _) (by omega) rfl)<|On (by exact bS.eqv (eF rfl rfl rfl) n19)<|Dd cX<|Zz ?_;refine Cn ?_ ?_<;>intro hc6
   ·exact Sr<|Dd aR<|Zz<|aH<|Rt<|Qq
   cases hc6
  (have h:=aHo hc5;omega)
 have hend:i=l.length:=by omega
 have hval:C8 l=(l.take i).foldl U2 0:=by
  rw [hend,List.take_length] at hall ⊢;rw [C8,aHq hall]
 rw [hval];refine Sq<|Sr<|Dd aB<|Dd aB<|Dd (mD aC)<|Dd cP<|Zz ?_;refine Cn ?_ ?_<;>intro hc7
 ·(have h:=aHn hc7;omega)
 exact aV<|Sr<|Dd aB<|Dd aR<|Zz<|aH<|Rt<|Qq
end Go.Proofs.YtmkgeogoojcciaaGreatDoor
