/-
  Parts of the proof: rules of an abstract program logic, contracts of functions, plain laws. Conditions: each theorem's own.
-/
import Derived.Test.YtmdicgjnmfolfaaGreatDoorKR5M8
set_option linter.unusedVariables false
set_option linter.unusedSimpArgs false
set_option maxRecDepth 100000
set_option maxHeartbeats 8000000
namespace Go.Proofs
open Tryz
theorem aFe:type_of% call14:=call14
theorem zT:type_of% call16:=call16
theorem pU:type_of% call60:=call60
theorem lO:type_of% isAgg28:=isAgg28
theorem bH:type_of% isAgg30:=isAgg30
theorem nR:type_of% isAgg98:=isAgg98
end Go.Proofs
section
namespace Go.Abs
variable{l:List UInt8}{u:Nat}
section
variable{P:Program}{N:Nat}{o:Oper}{E:bS}{H:aB}{t t':TypeId}{x:Operand}
abbrev aJm(b:Bool):PV:=bif b then aBs else GB
theorem UI{b:Bool}(ho:o.op=.binOp .neq t x (.const .nilIface) t')(ht:P.underlying t=some (.interface (P.methodsAt t)))(hx:aO E x=some (.pv (aJm b))):cH P N o E H (.pv (.bool b)) H:=by
 cases b
 ·exact KP ho ht hx
 exact CT ho ht hx
end
def nC(s:ByteArray):Int:=(mO s).1
def uY(s:ByteArray):Bool:=match Lib.atoiAll s.data.toList with
 |.ok _=>false
 |_=>true
theorem aFF(s:ByteArray):mO s=(nC s,aJm (uY s)):=by rw[nC,uY,mO];cases Lib.atoiAll s.data.toList<;>rfl
open Go.Lib
theorem aCO(hne:l≠[])(hm:∀b∈l,48<=b.toNat/\b.toNat<=57)(hd:decFrom 0 l=some u):atoi l=some (u:Int):=by
 cases l with
 |nil=>exact absurd rfl hne
 |cons b r =>
  have hb:=hm b List.mem_cons_self;have e2:decNat (b::r)=some u:=by rw[decNat,hd];rfl
  have h43:¬ (b == 43)=true:=fun h=>by rw[beq_iff_eq]at h;rw[h]at hb;exact absurd hb.1 (by decide)
  have h45:¬ (b == 45)=true:=fun h=>by rw[beq_iff_eq]at h;rw[h]at hb;exact absurd hb.1 (by decide)
  rw[atoi,aNt h45,aNt h43,e2];rfl
theorem SQ(hl:l.length<=18)(hne:l≠[])(hm:∀b∈l,48<=b.toNat/\b.toNat<=57)(hd:decFrom 0 l=some u):atoiAll l=.ok (u:Int):=by rw[atoiAll_short _ hl,aCO hne hm hd];rfl
end Go.Abs
namespace Go.Proofs.YtmdicgjnmfolfaaGreatDoor
open Go.Proofs.Tryz
open Go.Abs Go.Lib
theorem aAc(s:ByteArray)(hs:s.size<1099511627776)(H:aB):aH Tryz.prog 114 [sv s] H (fun r H'=>r=.tup [iv (nC s),.pv (aJm (uY s))]/\H'=H):=by
 have:=JI s hs H
 rwa [aFF]at this
abbrev sCo:ByteArray:=⟨#[58]⟩
theorem XF(s:ByteArray)(H:aB):aH Tryz.prog 188 [sv s,sv sCo] H (fun r H'=>r=iv (Lib.indexByte s.data.toList 58)/\H'=H):=by
 refine Pu ?_;refine Bd func188 rfl ntmps188<|Sr<|Dd aM<|Zz<|Sr<|Dd aG<|Dd (nF underlying9)<|Dd aM<|Zz<|Sq<|aD<|Sq ?_;refine bF (t:=16) (n:=9) (X:=decide (sCo=s)) ?_ ?_
 ·all_goals refine Dd aG ?_
  all_goals refine Dd dK<|Dm ?_
  all_goals refine Sp 19 (fun h19=>?_) fun h19=>?_
  all_goals try contradiction
  all_goals refine On aG<|On aG<|On B3<|Dd cN<|Da ?_
  all_goals(exact⟨⟨_,rfl,by rfl⟩,rfl,rfl,rfl⟩)
 refine Cn ?_ ?_<;>intro hc1
 ·have hs:=aNr hc1;subst hs;exact Sr<|Dd aM<|Zz<|aE<|Rt<|Qq
 refine Sr<|Dd aG<|Dd dK<|Da ?_;refine Cn ?_ ?_<;>intro hc2
 ·exact Sr<|Dd aG<|Dd aG<|Dd (by exact dW rfl underlying9 rfl rfl (by omega) (by exact aOG _) (show 0<(⟨#[58]⟩:ByteArray).size from Nat.zero_lt_one) rfl)<|Dd (by exact aA rfl rfl aNQ rfl (vB s 58 _))<|Dd aM<|Zz<|aE<|Rt<|Qq
 cases hc2
def VU(s:ByteArray):AV:=if Lib.indexByte s.data.toList 58 = -1 then .tup [sv s,sv ⟨#[]⟩,bv false]else .tup [sv (s.extract 0 (Lib.indexByte s.data.toList 58).toNat),sv (s.extract ((Lib.indexByte s.data.toList 58).toNat+1) s.size),bv true]
theorem aDD(s:ByteArray)(H:aB)(hs:s.size<1099511627776):aH Tryz.prog 150 [sv s,sv sCo] H (fun r H'=>r=VU s/\H'=H):=by
 refine Pu ?_;have hI:=fun H=>XF s H;rw[VU];rcases Classical.em (Lib.indexByte s.data.toList 58 = -1)with h1|h1
 ·rw[aNu h1];simp only[h1]at hI;refine Bd aCV rfl WQ<|Sr<|Dd aM<|Dd aM<|Dd aM<|Zz<|Sq<|Sr<|Dd aG<|Dd aG<|Dd (by exact aA rfl rfl MX rfl (hI _))<|Dd aM<|Zz<|Sr<|Dd aG<|Dd LN<|Zz ?_;refine Cn ?_ ?_<;>intro hc1
  ·cases hc1
  refine aF<|Sr<|Dd aG<|Dd aM<|Dd aM<|Dd aM<|Zz<|aE ?_;refine zI (H':=[]) (.inr rfl) rfl (aW rfl) (aW rfl) (aW rfl) (Fin.wk (by simp) trivial trivial) ?_;exact Qq
 rw[aNt h1];obtain ⟨w,r,e1,e2,e3⟩:=tM h1;simp only[e3]at hI;rw[e3,aOG];have hl:w.length+1+r.length=s.size:=by rw[<-show s.data.toList.length=s.size by simp,e1,aNw,aNx];omega
 refine Bd aCV rfl WQ<|Sr<|Dd aM<|Dd aM<|Dd aM<|Zz<|Sq<|Sr<|Dd aG<|Dd aG<|Dd (by exact aA rfl rfl MX rfl (hI _))<|Dd aM<|Zz<|Sr<|Dd aG<|Dd LN<|Zz ?_;refine Cn ?_ ?_<;>intro hc1
 ·refine Sq<|aP follows<|Cq aG<|Cq aG<|Cq (by exact cI (l:=0) (h:=(w.length)) rfl underlying9 rfl rfl rfl (by omega) (by omega) rfl)<|Cq aG<|Cq aG<|Cq aG<|Cq (nF underlying9)<|Cq (by exact bG rfl rfl rfl (show IntKind.i64.wrap ((w.length:Int)+1)=((w.length+1:Nat):Int)by rw[IntKind.wrap_i64];omega))<|Cq (by exact cI (l:=(w.length+1)) (h:=s.size) rfl underlying9 rfl rfl rfl (by omega) (by omega) rfl)<|Cq aM<|Cq aM<|Cq aM<|bK<|Kr<|aE ?_;refine zI (H':=[]) (.inr rfl) rfl (aW rfl) (aW rfl) (aW rfl) (Fin.wk (by simp) trivial trivial) ?_;exact Qq
 have hx:=aNs hc1;omega
theorem aJv(s:ByteArray)(H:aB)(hs:s.size<1099511627776):aH Tryz.prog 113 [sv s,sv sCo] H (fun r H'=>r=VU s/\H'=H):=by
 refine Pu ?_;have hC:=fun H=>aDD s H hs;rw[VU]at *;rcases Classical.em (Lib.indexByte s.data.toList 58 = -1)with h1|h1
 ·simp only[VU,aNu h1]at hC |-;refine Bd aCX rfl WS<|Sr<|Dd aM<|Dd aM<|Dd aM<|Zz<|Sr<|Dd aG<|Dd aG<|Dd (by exact aA rfl rfl aC0 rfl (hC _))<|Dd eZ<|Dd eZ<|Dd eZ<|Dd aM<|Dd aM<|Dd aM<|Zz<|aE ?_;refine zI (H':=[]) (.inr rfl) rfl (aW rfl) (aW rfl) (aW rfl) (Fin.wk (by simp) trivial trivial) ?_;exact Qq
 simp only[VU,aNt h1]at hC |-;refine Bd aCX rfl WS<|Sr<|Dd aM<|Dd aM<|Dd aM<|Zz<|Sr<|Dd aG<|Dd aG<|Dd (by exact aA rfl rfl aC0 rfl (hC _))<|Dd eZ<|Dd eZ<|Dd eZ<|Dd aM<|Dd aM<|Dd aM<|Zz<|aE ?_;refine zI (H':=[]) (.inr rfl) rfl (aW rfl) (aW rfl) (aW rfl) (Fin.wk (by simp) trivial trivial) ?_;exact Qq
def TB(l:List UInt8):List UInt8:=l.takeWhile fun b=>!decide (b=58)
def TC(l:List UInt8):List UInt8:=(l.dropWhile fun b=>!decide (b=58)).drop 1
theorem aEo{w r:List UInt8}(h:(58:UInt8)∉w):TB (w++58::r)=w/\TC (w++58::r)=r:=by
 induction w with
 |nil=>exact⟨rfl,rfl⟩
 |cons b w ih =>
  have hb:b≠58:=fun e=>h (by rw[e];exact List.mem_cons_self);obtain ⟨h1,h2⟩:=ih (fun e=>h (List.mem_cons_of_mem _ e));rw[TB]at h1 |-;rw[TC]at h2 |-;rw[List.cons_append,List.takeWhile_cons,List.dropWhile_cons,aNu (by simp[hb]),aNu (by simp[hb]),h1];exact⟨rfl,h2⟩
theorem aEn:∀ {l:List UInt8},(58:UInt8)∉l->TB l=l/\TC l=[]
 | [],_=>⟨rfl,rfl⟩
 |b::l,h=>by
  have hb:b≠58:=fun e=>h (by rw[e];exact List.mem_cons_self);obtain ⟨h1,h2⟩:=aEn (l:=l) (fun e=>h (List.mem_cons_of_mem _ e));rw[TB]at h1 |-;rw[TC]at h2 |-;rw[List.takeWhile_cons,List.dropWhile_cons,aNu (by simp[hb]),aNu (by simp[hb]),h1];exact⟨rfl,h2⟩
theorem aH5(l:List UInt8):VU (ofL l)=.tup [sv (ofL (TB l)),sv (ofL (TC l)),bv (decide ((58:UInt8)∈l))]:=by
 rw[VU,cO];by_cases h:Lib.indexByte l 58 = -1
 ·rw[aNu h];have hm:=tL.1 h;rw[(aEn hm).1,(aEn hm).2,decide_eq_false hm];rfl
 rw[aNt h];obtain ⟨w,r,e1,e2,e3⟩:=tM h;rw[e3,aOG];subst e1;rw[(aEo e2).1,(aEo e2).2,decide_eq_true (by simp)];have x1:(ofL (w++58::r)).extract 0 w.length=ofL w:=rG (by rw[iX,cO,cO,List.drop_zero,Nat.sub_zero,List.take_left]);have x2:(ofL (w++58::r)).extract (w.length+1) (ofL (w++58::r)).size=ofL r:=rG (by
  rw[A2,cO,cO,<-List.drop_drop,List.drop_left];rfl)
 rw[x1,x2]
theorem aCP(s:ByteArray): -9223372036854775808<=nC s/\nC s<=9223372036854775807:=by
 rw[nC,mO];cases e:Lib.atoiAll s.data.toList with
 |ok v=>exact Lib.atoiAll_bounds e
 |range =>
  show _<=Lib.atoiSat _/\Lib.atoiSat _<=_;rw[Lib.atoiSat]
  split
  ·exact⟨by decide,by decide⟩
  exact⟨by decide,by decide⟩
 |_ =>
  show (-9223372036854775808:Int)<=0/\(0:Int)<=9223372036854775807;exact⟨by decide,by decide⟩
theorem aJw(l:List UInt8):(TB l).length<=l.length/\(TC l).length<=l.length:=by
 constructor
 ·exact(List.takeWhile_sublist _).length_le
 rw[TC,aOK];have:=(List.dropWhile_sublist (l:=l) fun b=>!decide (b=58)).length_le;omega
theorem aFE{l:List UInt8}{u:Nat}(hl:l.length<=18)(hne:l≠[])(hm:∀b∈l,48<=b.toNat/\b.toNat<=57)(hd:decFrom 0 l=some u):uY (ofL l)=false/\nC (ofL l)=(u:Int):=by
 have h:=SQ hl hne hm hd;constructor
 ·rw[uY,cO,h]
 rw[nC,mO,cO,h]
theorem PS(n:Nat):(bI (n:Int)).data.toList=decDigits n:=by show (Lib.itoa (n:Int)).toArray.toList=_;rw[mB _ (Int.natCast_nonneg n),aOG]
theorem uU(x:ByteArray)(L:List ByteArray):aL (x::L)=decDigits x.size++58::(x.data.toList++aL L):=by
 have h1:aL (x::L)=(mP x).data.toList++aL L:=by rw[aL,List.flatMap_cons];rfl
 rw[h1,mP,ByteArray.data_append,Array.toList_append,ByteArray.data_append,Array.toList_append,PS];simp
theorem aEk(n:Nat):(58:UInt8)∉decDigits n:=fun h=>by
 have:=pO n h;exact absurd this.2 (by decide)
theorem UZ(A B:List ByteArray):aL (A++B)=aL A++aL B:=List.flatMap_append
end Go.Proofs.YtmdicgjnmfolfaaGreatDoor
end
namespace Go.Proofs.YtmdicgjnmfolfaaGreatDoor
open Go.Proofs.Tryz
open Go.Abs Go.Lib
variable{n:Int}
def CD(l:List UInt8):Bool:=((!decide ((58:UInt8)∈l)||uY (ofL (TB l)))||decide (nC (ofL (TB l))<0))||decide (((TC l).length:Int)<nC (ofL (TB l)))
def nxN(l:List UInt8):Nat:=(nC (ofL (TB l))).toNat
def gW(l:List UInt8):Option (ByteArray×List UInt8):=if CD l=true then none else some (ofL ((TC l).take (nxN l)),(TC l).drop (nxN l))
def mS(l:List UInt8):Option (Int×List UInt8):=match gW l with
 |none=>none
 |some (s,r)=>if uY s=true then none else some (nC s,r)
def BO{α:Type}(f:List UInt8->Option (α×List UInt8)):Nat->List UInt8->Option (List α×List UInt8)
 |0,l=>some ([],l)
 | n+1,l=>match f l with
  |none=>none
  |some (x,r)=>match BO f n r with
   |none=>none
   |some (xs,q)=>some (x::xs,q)
def uF{α:Type}(f:List UInt8->Option (α×List UInt8))(l:List UInt8):Option (List α×List UInt8):=match mS l with
 |none=>none
 |some (n,r)=>BO f n.toNat r
def F5(l:List UInt8):Option ((Int×Int)×List UInt8):=match mS l with
 |none=>none
 |some (x,r)=>match mS r with
  |none=>none
  |some (y,q)=>some ((x,y),q)
def Q4(l:List UInt8):Option (GSeal×List UInt8):=match mS l with
 |none=>none
 | some (i,r)=>match uF gW r with
  |none=>none
  |some (a,q)=>match uF gW q with
   |none=>none
   |some (b,p)=>some (⟨i,a,b⟩,p)
def nJ(x:ByteArray):Prop:=x.size<1000000000000000000
theorem fQ{x:ByteArray}(L:List ByteArray)(hx:nJ x):gW (aL (x::L))=some (x,aL L):=by
 obtain ⟨e1,e2⟩:=aEo (r:=x.data.toList++aL L) (aEk x.size);rw[<-uU]at e1 e2;obtain ⟨n1,n2⟩:=aFE (l:=decDigits x.size) (u:=x.size) (eV (k:=18) (show x.size<10 ^ 18 from hx) (by decide)) (sD _) (fun b=>pO _) (A5 _);have hm:(58:UInt8)∈aL (x::L):=by rw[uU];simp
 have hb:CD (aL (x::L))=false:=by
  rw[CD,e1,e2,n1,n2,decide_eq_true hm,decide_eq_false (by omega),decide_eq_false (by rw[aNw,bB];omega)];rfl
 rw[gW,aNt (by rw[hb];decide),nxN,e1,n2,e2,aOG,List.drop_left' (bB x),List.take_left' (bB x),nL]
theorem HT(h0:0<=n)(h1:n<1000000000000000000):nJ (bI n):=Nat.lt_of_le_of_lt (iC (by omega) (by omega)) (by decide)
theorem ZB(h0:0<=n)(h1:n<1000000000000000000):uY (bI n)=false/\nC (bI n)=n:=by
 have h:=yS h0 h1;have e:(bI n).data.toList=itoa n:=by show (Lib.itoa n).toArray.toList=_;simp
 constructor
 ·rw[uY,e,h]
 rw[nC,mO,e,h]
theorem jA(L:List ByteArray)(h0:0<=n)(h1:n<1000000000000000000):mS (aL (bI n::L))=some (n,aL L):=by obtain ⟨a1,a2⟩:=ZB h0 h1;rw[mS,fQ L (HT h0 h1)];show (if uY (bI n)=true then none else some (nC (bI n),aL L))=_;rw[aNt (by rw[a1];decide),a2]
theorem K7:∀(ts L:List ByteArray),(∀t∈ts,nJ t)->BO gW ts.length (aL (ts++L))=some (ts,aL L)
 | [],L,_=>rfl
 |t::ts,L,h=>by
  rw[aNx,BO,List.cons_append,fQ _ (h t List.mem_cons_self)];simp only[K7 ts L fun x hx=>h x (List.mem_cons_of_mem _ hx)]
theorem yC(ts L:List ByteArray)(h:∀t∈ts,nJ t)(hl:ts.length<1000000000000000000):uF gW (aL (bI (ts.length:Int)::(ts++L)))=some (ts,aL L):=by rw[uF,jA _ (by omega) (by omega)];show BO gW ((ts.length:Int)).toNat (aL (ts++L))=_;rw[aOG,K7 ts L h]
theorem J9(s:GSeal)(L:List ByteArray)(h0:0<=s.idx)(h1:s.idx<1000000000000000000)(ha:∀t∈s.sig,nJ t)(hb:∀t∈s.path,nJ t)(hal:s.sig.length<1000000000000000000)(hbl:s.path.length<1000000000000000000):
  Q4 (aL (fI (.z s.idx s.sig s.path)++L))=some (s,aL L):=by
 have e:fI (.z s.idx s.sig s.path)++L=bI s.idx::(bI (s.sig.length:Int)::(s.sig++(bI (s.path.length:Int)::(s.path++L)))):=by simp[fI]
 rw[e,Q4,jA _ h0 h1];show (match uF gW (aL (bI (s.sig.length:Int)::(s.sig++(bI (s.path.length:Int)::(s.path++L)))))with|none=>none|some (a,q)=>match uF gW q with|none=>none|some (b,p)=>some ((⟨s.idx,a,b⟩:GSeal),p))=_;rw[yC _ _ ha hal];show (match uF gW (aL (bI (s.path.length:Int)::(s.path++L)))with|none=>none|some (b,p)=>some ((⟨s.idx,s.sig,b⟩:GSeal),p))=_;rw[yC _ _ hb hbl]
theorem K6:∀(ps:List (Int×Int)) (L:List ByteArray),(∀q∈ps,(0<=q.1/\q.1<1000000000000000000)/\(0<=q.2/\q.2<1000000000000000000))->BO F5 ps.length (aL (M5 ps++L))=some (ps,aL L)
 | [],L,_=>rfl
 | p::ps,L,h=>by
  obtain ⟨⟨a1,a2⟩,a3,a4⟩:=h p List.mem_cons_self;have e:M5 (p::ps)++L=bI p.1::(bI p.2::(M5 ps++L)):=rfl;have e2:F5 (aL (M5 (p::ps)++L))=some (p,aL (M5 ps++L)):=by
   rw[e,F5,jA _ a1 a2];show (match mS (aL (bI p.2::(M5 ps++L)))with|none=>none|some (y,q)=>some ((p.1,y),q))=_;rw[jA _ a3 a4]
  rw[aNx,BO,e2];simp only[K6 ps L fun x hx=>h x (List.mem_cons_of_mem _ hx)]
theorem YF(ps:List (Int×Int))(L:List ByteArray)(h:∀q∈ps,(0<=q.1/\q.1<1000000000000000000)/\(0<=q.2/\q.2<1000000000000000000))(hl:ps.length<1000000000000000000):uF F5 (aL (fI (.p ps)++L))=some (ps,aL L):=by have e:fI (.p ps)++L=bI (ps.length:Int)::(M5 ps++L):=rfl;rw[e,uF,jA _ (by omega) (by omega)];show BO F5 ((ps.length:Int)).toNat (aL (M5 ps++L))=_;rw[aOG,K6 ps L h]
end Go.Proofs.YtmdicgjnmfolfaaGreatDoor
namespace Go.Proofs.YtmdicgjnmfolfaaGreatDoor
open Go.Proofs.Tryz
open Go.Abs
variable{a:ByteArray}{l:List ByteArray}{k:Nat}{α:Type}
theorem YN(fv:AV)(l:List (Int×Int))(p:Nat->Bool)(Hs:Nat->aB)(hl:l.length<4611686018427387904)(hf:∀k s,l[k]?=some s->cK Tryz.prog fv [av (gB s)] (Hs k) (fun r H'=>r=bv (p k)/\H'=Hs (k+1))):
  aH Tryz.prog 121 [.pv (qJ l),fv] (Hs 0) (fun r H'=>r=iv (HU p l.length)/\H'=Hs (yW p l.length)):=by
 have hml:(l.map gB).length=l.length:=aNv _;refine Bd func121 rfl ntmps121<|Sr<|Dd aM<|Zz<|Sq<|Sr<|Dd aG<|Dd (fZ dY)<|Dd aG<|Zz<|aD ?_;refine bL (σ:=Nat) (fun k=>([(0,.pv (qJ l)),(1,fv),(7,iv ((l.map gB).length:Int)),(8,iv (k:Int))],Hs k)) (fun k=>k<=l.length/\∀j,j<k->p j=false) (fun k=>l.length - k) 0 ⟨by omega,by omega⟩ ?_ ?_
 ·exact E0
 rintro k ⟨hk,hno⟩;refine Sr<|Dd cP<|Zz<|Sq ?_;refine Cn ?_ ?_<;>intro hc1
 ·have hlt:k<l.length:=by have:=aNr hc1;omega
  obtain ⟨s,hs⟩:=aV hlt;have hi:=cA (f:=gB) hs;have hfo:=hf k s hs;refine aF<|Sq<|aD<|Sr<|Dd aG<|Dd aM<|Zz<|Sr<|Dd aG<|Dd aG<|Dd aG<|Dd (zV TT)<|Dd (by exact cU rfl dZ sizeOf68 rfl (by omega) (by simp only[Zl,gB];rfl) rfl)<|Dd (by exact cC rfl rfl rfl (hfo))<|Zz ?_;refine Cn ?_ ?_<;>intro hc2
  ·refine Sr<|Dd aG<|Dd aM<|Zz<|aE ?_;exact dC (H':=Hs (k+1)) (.inr rfl) rfl (aW rfl) Fin.refl ⟨by rw[HU,yM hlt hc2 hno],by rw[yW,yM hlt hc2 hno]⟩
  refine aF<|Rg<|Dd qV<|Dd aG<|Zz ?_;refine⟨k+1,⟨by omega,fun j hj=>?_⟩,by omega,E0⟩;by_cases e:j=k
  ·subst e;exact hc2
  exact hno j (by omega)
 have hge:k=l.length:=by have:=aNs hc1;omega
 subst hge;refine aY<|Sr<|Dd aM<|Zz<|aE ?_;exact dC (H':=Hs l.length) (.inr rfl) rfl (aW rfl) Fin.refl ⟨by rw[HU,yN hno],by rw[yW,yN hno]⟩
theorem N7(fv:AV)(l:List (Int×Int))(p:Nat->Bool)(Hs:Nat->aB)(hl:l.length<4611686018427387904)(hf:∀k s,l[k]?=some s->cK Tryz.prog fv [av (gB s)] (Hs k) (fun r H'=>r=bv (p k)/\H'=Hs (k+1))):
  aH Tryz.prog 64 [.pv (qJ l),fv] (Hs 0) (fun r H'=>r=bv ((List.range l.length).any p)/\H'=Hs (yW p l.length)):=by
 refine Bd func64 rfl ntmps64<|Sr<|Dd aM<|Zz<|Sr<|Dd aG<|Dd aG<|Dd (by exact aA rfl rfl call121 rfl (YN fv l p Hs hl hf))<|Dd LN<|Dd aM<|Zz<|aE ?_;exact dC (H':=Hs (yW p l.length)) (.inr rfl) rfl (aW rfl) Fin.refl ⟨by rw[PW],rfl⟩
def RV(q:Int×Int):Bool:=!(decide (0<=q.1)&&decide (q.1<=1048575))||!(decide (0<=q.2)&&decide (q.2<=1048575))
def wiO:Ob:=bx 1 98 [.pv (.fn 60)]
theorem uI(H:aB):∀r∈wiO.rows,∀a∈r,Clo H a:=by intro r hr a ha;simp only[wiO,bx,aNy]at hr;subst hr;rw[aNy]at ha;subst ha;simp
theorem aL9(q:Int×Int):aH Tryz.prog 65 [av (gB q),.ref 3 0 0 0] [(3,wiO)] (fun r H'=>r=bv (RV q)/\H'=[(3,wiO)]):=by
 have hw1:=fun H=>JM q.1 0 1048575 H;have hw2:=fun H=>JM q.2 0 1048575 H;have hof:RV q=(!(decide (0<=q.1)&&decide (q.1<=1048575))||!(decide (0<=q.2)&&decide (q.2<=1048575))):=rfl;obtain ⟨u,hu⟩:∃u,u=(decide (0<=q.1)&&decide (q.1<=1048575)):=⟨_,rfl⟩;obtain ⟨v,hv⟩:∃v,v=(decide (0<=q.2)&&decide (q.2<=1048575)):=⟨_,rfl⟩;rw[<-hu]at hw1 hof;rw[<-hv]at hw2 hof;clear hu hv;refine Bd func65 rfl ntmps65<|Sr<|Dd (by exact cE (id:=2) rfl rfl rfl rfl rfl)<|Dd aM<|Zz<|Sq ?_;refine bF (t:=3) (n:=14) (X:=RV q) ?_ ?_
 ·all_goals refine Dd (bQ nR) ?_
  all_goals refine Dd (bE vI)<|Dd (bQ isAgg3)<|Dd (by exact cC rfl rfl rfl (cK.fn pU (hw1 _)))<|Dd mT<|Dm ?_
  all_goals refine Sp 9 (fun h9=>?_) fun h9=>?_
  all_goals try contradiction
  all_goals first|refine Fo<|Fo<|Fo<|Fo<|Fo ?_|refine On (bQ nR)<|On (bE vG)<|On (bQ isAgg3)<|On (by exact cC rfl rfl rfl (cK.fn pU (hw2 _)))<|On mT ?_
  all_goals refine Dd cN<|Da ?_
  all_goals(exact⟨⟨_,rfl,by(rw[hof,h9];rfl)⟩,rfl,rfl,rfl⟩)
 refine aE ?_;refine dC (H':=[(3,wiO)]) (.inr rfl) rfl (aW rfl) (Fin.wk (by(simp;done)) (Hc (uI _)<|trivial) ⟨rfl,trivial⟩) ?_;exact Qq
theorem ZC(l:List (Int×Int))(q:Int×Int->Bool):((List.range l.length).any fun k=>match l[k]? with|some s=>q s|none=>false)=l.any q:=by
 rw[Bool.eq_iff_iff,List.any_eq_true,List.any_eq_true];constructor
 ·rintro⟨k,hk,h⟩;have hk:=List.mem_range.1 hk;rw[aOA hk]at h;exact⟨_,List.getElem_mem hk,h⟩
 rintro⟨s,hs,h⟩;obtain ⟨k,hk⟩:=aOQ.1 hs;exact⟨k,List.mem_range.2 (aNz.1 hk).1,by rw[hk];exact h⟩
def aIw(l:List (Int×Int))(k:Nat):Bool:=match l[k]? with|some s=>RV s|none=>false
theorem aJZ(l:List (Int×Int))(hl:l.length<1099511627776):aH Tryz.prog 64 [.pv (qJ l),.clo 65 [.ref 3 0 0 0]] [(3,wiO)] (fun r H'=>r=bv (l.any RV)/\H'=[(3,wiO)]):=by
 have hc:=N7 (.clo 65 [.ref 3 0 0 0]) l (aIw l) (fun _=>[(3,wiO)]) (by omega) (fun k s hk=>by
  rw[aIw,hk];exact cK.clo call65 (aL9 s))
 rw[show (List.range l.length).any (aIw l)=l.any RV from ZC l RV]at hc;exact hc
theorem aEU(s:ByteArray)(H:aB):aH Tryz.prog 167 [sv s] H (fun r H'=>r=bv false/\H'=H):=by refine Pu ?_;refine Bd func167 rfl ntmps167<|Sr<|Dd aM<|Zz<|Sr<|Dd aG<|Dd aG<|Dd TU<|Dd aM<|Zz<|aE<|Rt ?_;exact⟨by simp,rfl⟩
theorem aHD(s t:ByteArray)(H:aB):aH Tryz.prog 122 [sv s,sv t] H (fun r H'=>r=bv (DP s t)/\H'=H):=by
 refine Pu ?_;refine Bd func122 rfl ntmps122<|Sr<|Dd aM<|Zz<|Sq ?_;refine bF (t:=4) (n:=15) (X:=DP s t) ?_ ?_
 ·all_goals refine Dd aG ?_
  all_goals refine Dd (by exact aA rfl rfl call167 rfl (aEU _ _))<|Dm ?_
  all_goals refine Sp 7 (fun h7=>?_) fun h7=>?_
  all_goals try contradiction
  all_goals refine Fo<|Fo<|Fo<|Dd cN<|Dm ?_
  all_goals refine Sp 12 (fun h12=>?_) fun h12=>?_
  all_goals try contradiction
  all_goals refine On aG<|On aG<|On (by exact aDk rfl rfl rfl)<|Dd cN<|Da ?_
  all_goals(exact⟨⟨_,rfl,by rfl⟩,rfl,rfl,rfl⟩)
 exact aE<|Rt<|Qq
def lG:List ByteArray->Bool
 |a::b::r=>!DP b a&&lG (b::r)
 |_=>true
theorem Q1(h:lG (a::l)=true):lG l=true:=by
 cases l with
 |nil=>rfl
 |cons b r=>exact(aOE _ _▸h:_/\_).2
theorem DV:∀(i:Nat) {l:List ByteArray},lG l=true->lG (l.drop i)=true
 |0,_,h=>h
 |i+1,[],_=>rfl
 |i+1,a::l,h=>DV i (Q1 h)
theorem XB{b:ByteArray}(ha:l[k]?=some a)(hb:l[k+1]?=some b):lG (l.drop k)=(!DP b a&&lG (l.drop (k+1))):=by obtain ⟨h1,e1⟩:=aNz.1 ha;obtain ⟨h2,e2⟩:=aNz.1 hb;rw[List.drop_eq_getElem_cons h1,List.drop_eq_getElem_cons h2,e1,e2];rfl
theorem U2(l:List ByteArray)(H:aB)(hl:l.length<1099511627776):aH Tryz.prog 67 [.pv (aS l)] H (fun r H'=>r=bv (lG l)/\H'=H):=by
 refine Pu ?_;have hml:(l.map encStr).length=l.length:=aNv _;refine Bd func67 rfl ntmps67<|Sr<|Dd aM<|Zz<|Sq<|Sr<|Dd aG<|Dd (fZ aC)<|Dd (by exact dN rfl rfl rfl (show IntKind.i64.wrap (((l.map encStr).length:Int) - 1)=((l.map encStr).length:Int) - 1 by rw[IntKind.wrap_i64];omega))<|Dd aM<|Zz<|aD ?_;refine bL (σ:=Nat) (fun k=>([(0,.pv (aS l)),(3,iv ((k:Int) - 1))],[])) (fun k=>k<=l.length/\lG (l.drop (k - 1))=true) (fun k=>k) l.length ⟨aOB _,?_⟩ ?_ ?_
 ·have:(l.drop (l.length - 1)).length<=1:=by rw[aOK];omega
  match l.drop (l.length - 1),this with
  | [],_=>rfl
  | [a],_=>rfl
 ·rw[hml];exact Wk
 rintro k ⟨hk,hs⟩;refine Sq<|Sr<|Dd aG<|Dd mN<|Zz ?_;refine Cn ?_ ?_<;>intro hc1
 ·have hlt:2<=k:=by have:=aNr hc1;omega
  obtain ⟨m,rfl⟩:∃m,k=m+2:=⟨k - 2,by omega⟩;obtain ⟨b,hb⟩:=aV (l:=l) (k:=m+1) (by omega);obtain ⟨a,ha⟩:=aV (l:=l) (k:=m) (by omega);have hib:=cA (f:=encStr) hb;have hia:=cA (f:=encStr) ha;have hat:=XB ha hb;rw[show m+2 - 1=m+1 by omega]at hs;rw[hs,Bool.and_true]at hat;refine aF<|Sq<|aD<|Sq<|aP follows<|Cq aG<|Cq aG<|Cq (by exact aT (m:=m+1) rfl bT rfl rfl (by omega) (show (((m+2:Nat):Int) - 1).toNat=m+1 by omega) hib rfl)<|Cq (kS isAgg9)<|Cq aG<|Cq aG<|Cq (by exact dN rfl rfl rfl (show IntKind.i64.wrap ((((m+2:Nat):Int) - 1) - 1)=((m:Nat):Int)by rw[IntKind.wrap_i64];omega))<|Cq (zV bT)<|Cq (kS isAgg9)<|Cq (by exact aA rfl rfl call122 rfl (aHD b a _))<|bK<|Kr ?_;refine Cn ?_ ?_<;>intro hc2
  ·have hlt2:DP b a=true:=hc2;have h0:lG l=false:=by
    rw[Bool.eq_false_iff];intro h;rw[DV m h,hlt2]at hat;cases hat
   rw[h0];exact Sr<|Dd aM<|Zz<|aE<|Rt<|Qq
  have hlt2:DP b a=false:=hc2;refine aF<|Rg<|Dd aG<|Dd (by exact dN rfl rfl rfl (show IntKind.i64.wrap ((((m+2:Nat):Int) - 1) - 1)=((m+1:Nat):Int) - 1 by rw[IntKind.wrap_i64];omega))<|Da ?_;refine⟨m+1,⟨by omega,?_⟩,by omega,?_⟩
  ·rw[show m+1 - 1=m by omega,hat,hlt2];rfl
  exact Wk
 have hge:k<=1:=by have:=aNs hc1;omega
 have h0:lG l=true:=by rw[show k - 1=0 by omega]at hs;exact hs
 rw[h0];exact aY<|Sr<|Dd aM<|Zz<|aE<|Rt<|Qq
abbrev qX(l:List ByteArray):List (List AV):=l.map (fun e=>(encStr e).map .pv)
theorem aKr(l:List ByteArray):∀r∈l.map encStr,r.length=1:=fun r hr=>by
 obtain ⟨t,_,rfl⟩:=List.mem_map.1 hr;rfl
theorem aEp(l:List ByteArray)(H:aB)(hc:dF H)(h1:H.get 901=none)(hl:l.length<1099511627776):
  aH Tryz.prog 69 [.pv (aS l)] H (fun r H'=>r=.osl 901 1 0 l.length/\H'=(901,⟨1,1,9,qX l⟩)::H):=by
 have hml:(l.map encStr).length=l.length:=aNv _;refine Bd func69 rfl ntmps69<|Sr<|Dd aM<|Zz<|Sq<|Sr<|Dm ?_;refine aKH rfl rfl (X2 rfl aC rfl) ?_;rintro _ H2 ⟨e2,b,rfl,hb⟩;rw[e2];clear e2 H2;refine Zz ?_;refine Cn ?_ ?_<;>intro hc1
 ·have h0:=hb hc1;have h00:l=[]:=List.map_eq_nil_iff.1 h0;subst h00;refine Sr<|Dd (by exact eE (id:=901) (sz:=1) (ty:=9) rfl h1 rfl)<|Zz<|aE ?_;refine dC (H':=((901,⟨1,1,9,[]⟩)::H)) (.inr rfl) rfl (aW rfl) ((Fin.bump (g:=0) (k:=1) rfl rfl (by decide) rfl rfl rfl).trans (Fin.get' (fun j=>uV _ _ _ _ j))) ?_;exact Qq
 refine aF<|Sr<|Dd (by exact pG (id:=901) rfl bT rfl rfl rfl rfl (by simp) h1)<|Dd aG<|Dd (by exact cF rfl bT CH rfl rfl rfl rfl rfl rfl rfl (aKr l) hml (by omega) (aON _) (show []++(l.map encStr).map (·.map AV.pv)=qX l by rw[List.nil_append,List.map_map];rfl))<|Dd aM<|Zz<|aE ?_;refine dC (H':=((901,⟨1,1,9,qX l⟩)::H)) (.inr rfl) rfl (aW rfl) (Fin.get' (fun j=>uV _ _ _ _ j)) ?_;exact Qq
def SE{α:Type}(e:α->α->Bool)(a b:List α):Bool:=decide (a.length=b.length)&&(List.range a.length).all fun k=>match a[k]?,b[k]? with|some x,some y=>e x y|_,_=>true
theorem VI{e:α->α->Bool}(he:∀x y,e x y=true↔x=y){a b:List α}:SE e a b=true↔a=b:=by
 constructor
 ·intro h;simp only[SE,aOE,aOC,List.all_eq_true,List.mem_range]at h;apply List.ext_getElem h.1;intro k h1 h2;have:=h.2 k h1;rw[aOA h1,aOA h2]at this;exact(he _ _).1 this
 rintro rfl;simp only[SE,aOE,aOC,List.all_eq_true,List.mem_range,true_and];intro k hk;rw[aOA hk];exact(he _ _).2 rfl
theorem VJ{e:α->α->Bool}{a b:List α}{x y:α}(hx:a[k]?=some x)(hy:b[k]?=some y)(h:e x y=false):SE e a b=false:=by have hk:=(aNz.1 hx).1;rw[SE,Bool.and_eq_false_iff];right;rw[List.all_eq_false];exact⟨k,List.mem_range.2 hk,by rw[hx,hy];simp[h]⟩
theorem P5{e:α->α->Bool}{a b:List α}(hl:a.length=b.length)(h:∀k,k<a.length->∀x y,a[k]?=some x->b[k]?=some y->e x y=true):SE e a b=true:=by simp only[SE,aOE,aOC,List.all_eq_true,List.mem_range];refine⟨hl,fun k hk=>?_⟩;rw[aOA hk,aOA (by omega)];exact h k hk _ _ (aOA hk) (aOA (by omega))
def HI(a b:ByteArray):Bool:=decide (a=b)
theorem aAy(a b:ByteArray):HI a b=true↔a=b:=by simp[HI]
def CZ(a b:GObj):Bool:=decide (a.id=b.id)&&decide (a.kind=b.kind)&&(decide (a.x=b.x)&&decide (a.y=b.y))&&decide (a.refs.length=b.refs.length)&&decide (a.tags.length=b.tags.length)
def GN(a b:GObj):Bool:=CZ a b&&(SE HI a.refs b.refs&&SE rJ a.tags b.tags)
theorem YT{a b:GObj}:GN a b=true↔a=b:=by
 rw[GN,aOE,aOE,VI aAy,VI OJ];cases a;cases b;simp only[CZ,aOE,aOC,GObj.mk.injEq];constructor
 ·rintro⟨⟨⟨⟨⟨a1,a2⟩,a3,a4⟩,a5⟩,a6⟩,a7,a8⟩;exact⟨a1,a2,a3,a4,a7,a8⟩
 rintro⟨a1,a2,a3,a4,a7,a8⟩;exact⟨⟨⟨⟨⟨a1,a2⟩,a3,a4⟩,by rw[a7]⟩,by rw[a8]⟩,a7,a8⟩
def LK(a b:GObj)(n1 n2 n3 n4:Int):Bool:=!decide (a.id=b.id)||!decide (a.kind=b.kind)||!(decide (a.x=b.x)&&decide (a.y=b.y))||!decide (n1=n2)||!decide (n3=n4)
theorem PU(a b:GObj):LK a b ((a.refs.map encStr).length:Int) ((b.refs.map encStr).length:Int) ((a.tags.map bJ).length:Int) ((b.tags.map bJ).length:Int)=!CZ a b:=by simp only[LK,CZ,aNv,Bool.not_and,Int.natCast_inj]
theorem aDN(a b:GObj)(H:aB)(ha:a.refs.length<4611686018427387904)(ha2:a.tags.length<4611686018427387904):aH Tryz.prog 179 [av (bN a),av (bN b)] H (fun r H'=>r=bv (GN a b)/\H'=H):=by
 refine Pu ?_;have hra:(a.refs.map encStr).length=a.refs.length:=aNv _;have hta:(a.tags.map bJ).length=a.tags.length:=aNv _;refine Bd func179 rfl ntmps179<|Sr<|Dd (by exact cE (id:=2) rfl rfl rfl rfl rfl)<|Dd (by exact cE (id:=3) rfl rfl rfl rfl rfl)<|Dd aM<|Zz<|Sq<|Sq ?_;refine bF (t:=43) (n:=41) (X:=LK a b ((a.refs.map encStr).length:Int) ((b.refs.map encStr).length:Int) ((a.tags.map bJ).length:Int) ((b.tags.map bJ).length:Int)) ?_ ?_
 ·all_goals refine Dd (bE qB) ?_
  all_goals refine Dd (bQ isAgg9)<|Dd (bE qB)<|Dd (bQ isAgg9)<|Dd TU<|Dm ?_
  all_goals refine Sp 12 (fun h12=>?_) fun h12=>?_
  all_goals try contradiction
  all_goals first|refine Fo<|Fo<|Fo<|Fo<|Fo ?_|refine On (bE gR)<|On (bQ isAgg3)<|On (bE gR)<|On (bQ isAgg3)<|On zW ?_
  all_goals refine Dd cN<|Dm ?_
  all_goals refine Sp 19 (fun h19=>?_) fun h19=>?_
  all_goals try contradiction
  all_goals first|refine Fo<|Fo<|Fo<|Fo<|Fo ?_|refine On (bE oY)<|On (by exact aN rfl dZ sizeOf68 rfl rfl rfl rfl (by simp only[Zl,bJ,bN,encStr];rfl) rfl)<|On (bE oY)<|On (by exact aN rfl dZ sizeOf68 rfl rfl rfl rfl (by simp only[Zl,bJ,bN,encStr];rfl) rfl)<|On (by exact AP rfl rfl rfl rfl rfl kQ (XH _ _ _ _)) ?_
  all_goals refine Dd cN<|Dm ?_
  all_goals refine Sp 26 (fun h26=>?_) fun h26=>?_
  all_goals try contradiction
  all_goals first|refine Fo<|Fo<|Fo<|Fo<|Fo<|Fo<|Fo ?_|refine On (bE gQ)<|On (bQ aJ)<|On (fZ aC)<|On (bE gQ)<|On (bQ aJ)<|On (fZ aC)<|On zW ?_
  all_goals refine Dd cN<|Dm ?_
  all_goals refine Sp 35 (fun h35=>?_) fun h35=>?_
  all_goals try contradiction
  all_goals first|refine Fo<|Fo<|Fo<|Fo<|Fo<|Fo<|Fo ?_|refine On (bE fY)<|On (bQ cY)<|On (fZ cQ)<|On (bE fY)<|On (bQ cY)<|On (fZ cQ)<|On zW ?_
  all_goals refine Dd cN<|Zz ?_
  all_goals(exact⟨⟨_,rfl,by first|(simp only[LK, *];rfl)|(simp_all[LK];done)⟩,rfl,rfl,rfl⟩)
 refine Cn ?_ ?_<;>intro hc1
 ·rw[PU]at hc1;refine Sr<|Dd aM<|Zz<|aE<|Rt ?_;refine⟨?_,rfl⟩;have:CZ a b=false:=by simpa using hc1
  rw[GN,this];rfl
 rw[PU]at hc1;have hh:CZ a b=true:=by simpa using hc1
 have hlens:a.refs.length=b.refs.length/\a.tags.length=b.tags.length:=by
  simp only[CZ,aOE,aOC]at hh;exact⟨hh.1.2,hh.2⟩
 obtain ⟨hl1,hl2⟩:=hlens;rw[GN,hh,Bool.true_and];refine aF<|Sq<|Sr<|Dd aM<|Zz<|aD ?_;refine bL (σ:=Nat) (fun k=>([(2,.ref 2 0 0 0),(3,.ref 3 0 0 0),(5,iv (k:Int))],[(3,bx 6 151 ((bN b).map .pv)),(2,bx 6 151 ((bN a).map .pv))])) (fun k=>k<=a.refs.length/\∀j,j<k->∀x y,a.refs[j]?=some x->b.refs[j]?=some y->HI x y=true) (fun k=>a.refs.length - k) 0 ⟨by omega,by omega⟩ ?_ ?_
 ·exact Wk
 rintro k ⟨hk,hall⟩;refine Sq<|Sr<|Dd aG<|Dd (bE gQ)<|Dd (bQ aJ)<|Dd (fZ aC)<|Dd cP<|Zz ?_;refine Cn ?_ ?_<;>intro hc2
 ·have hlt:k<a.refs.length:=by have:=aNr hc2;omega
  obtain ⟨x,hx⟩:=aV hlt;obtain ⟨y,hy⟩:=aV (l:=b.refs) (k:=k) (by omega);have hi:=cA (f:=encStr) hx;have hi2:=cA (f:=encStr) hy;refine aF<|Sq<|aD<|Sq<|aP follows<|Cq (bE gQ)<|Cq (bQ aJ)<|Cq aG<|Cq (zV bT)<|Cq (kS isAgg9)<|Cq (bE gQ)<|Cq (bQ aJ)<|Cq aG<|Cq (zV bT)<|Cq (kS isAgg9)<|Cq TU<|bK<|Kr ?_;refine Cn ?_ ?_<;>intro hc3
  ·have ht:HI x y=false:=by
    have h:(!HI x y)=true:=hc3
    simpa using h
   refine Sr<|Dd aM<|Zz<|aE<|Rt ?_;exact⟨by rw[VJ hx hy ht];rfl,rfl⟩
  have ht:HI x y=true:=by
   have h:(!HI x y)=false:=hc3
   simpa using h
  refine aF<|Rg<|Dd aG<|Dd qV<|Da ?_;refine⟨k+1,⟨by omega,fun j hj x' y' h1 h2=>?_⟩,by omega,Wk⟩;by_cases e:j=k
  ·subst e;rw[hx]at h1;rw[hy]at h2;cases h1;cases h2;exact ht
  exact hall j (by omega) x' y' h1 h2
 have hge:k=a.refs.length:=by have:=aNs hc2;omega
 subst hge;rw[P5 hl1 hall,Bool.true_and];refine aY<|Sq<|Sr<|Dd aM<|Zz<|aD ?_;refine bL (σ:=Nat) (fun k=>([(2,.ref 2 0 0 0),(3,.ref 3 0 0 0),(6,iv (k:Int))],[(3,bx 6 151 ((bN b).map .pv)),(2,bx 6 151 ((bN a).map .pv))])) (fun k=>k<=a.tags.length/\∀j,j<k->∀x y,a.tags[j]?=some x->b.tags[j]?=some y->rJ x y=true) (fun k=>a.tags.length - k) 0 ⟨by omega,by omega⟩ ?_ ?_
 ·exact Wk
 rintro k ⟨hk,hall2⟩;refine Sq<|Sr<|Dd aG<|Dd (bE fY)<|Dd (bQ cY)<|Dd (fZ cQ)<|Dd cP<|Zz ?_;refine Cn ?_ ?_<;>intro hc4
 ·have hlt:k<a.tags.length:=by have:=aNr hc4;omega
  obtain ⟨x,hx⟩:=aV hlt;obtain ⟨y,hy⟩:=aV (l:=b.tags) (k:=k) (by omega);have hi:=cA (f:=bJ) hx;have hi2:=cA (f:=bJ) hy;refine aF<|Sq<|aD<|Sq<|aP follows<|Cq (bE fY)<|Cq (bQ cY)<|Cq aG<|Cq (zV yX)<|Cq (by exact cU rfl sG iR rfl (by omega) (by simp only[Zl,bJ,bN,encStr];rfl) rfl)<|Cq (bE fY)<|Cq (bQ cY)<|Cq aG<|Cq (zV yX)<|Cq (by exact cU rfl sG iR rfl (by omega) (by simp only[Zl,bJ,bN,encStr];rfl) rfl)<|Cq (by exact AP rfl rfl rfl rfl rfl eqGuardType199 (aIE _ _ _ _))<|bK<|Kr ?_;refine Cn ?_ ?_<;>intro hc5
  ·have ht:rJ x y=false:=by
    have h:(!rJ x y)=true:=hc5
    simpa using h
   refine Sr<|Dd aM<|Zz<|aE<|Rt ?_;exact⟨by rw[VJ hx hy ht],rfl⟩
  have ht:rJ x y=true:=by
   have h:(!rJ x y)=false:=hc5
   simpa using h
  refine aF<|Rg<|Dd aG<|Dd qV<|Da ?_;refine⟨k+1,⟨by omega,fun j hj x' y' h1 h2=>?_⟩,by omega,Wk⟩;by_cases e:j=k
  ·subst e;rw[hx]at h1;rw[hy]at h2;cases h1;cases h2;exact ht
  exact hall2 j (by omega) x' y' h1 h2
 have hge:k=a.tags.length:=by have:=aNs hc4;omega
 subst hge;refine aY<|Sr<|Dd aM<|Zz<|aE<|Rt ?_;exact⟨by rw[P5 hl2 hall2],rfl⟩
theorem aBp(a b:GObj):GN a b=rD a b:=by rw[Bool.eq_iff_iff,YT,C1]
theorem aG0(a b:GObj)(H:aB)(ha:a.refs.length<4611686018427387904)(ha2:a.tags.length<4611686018427387904):aH Tryz.prog 179 [av (bN a),av (bN b)] H (fun r H'=>r=bv (rD a b)/\H'=H):=by rw[<-aBp];exact aDN a b H ha ha2
def raw(e:GEdit)(s:ByteArray):Prop:=s=e.id\/s=e.other\/s=e.node\/s=e.obj.id\/s∈e.refs\/s∈e.obj.refs
end Go.Proofs.YtmdicgjnmfolfaaGreatDoor
section
namespace Go.Abs
theorem NT{P:Program}{N:Nat}{o:Oper}{E:bS}{H:aB}{T:TypeId}{t:Tmp}{e:TypeId}{id g off len sz:Nat}{ob:Ob}{row:List AV}{rows':List (List AV)}(ho:o.op=.call {callee:=.builtin .clear,args:=#[.tmp t],argTypes:=#[T]})(hS:eG P T e sz)(hZ:dM P e row)(hrow:row.length=sz)
  (hx:E.get t=some (.osl id g off len)) (hH:H.get id=some ob) (hg:ob.g=g) (hosz:ob.sz=sz) (hoff:off<=ob.rows.length) (hrows:ob.rows.take off++(List.replicate len row++ob.rows.drop (off+len))=rows') :
  cH P N o E H .any ((id,⟨g,sz,ob.ty,rows'⟩)::H):=by
 intro a w I ι h1 h2 hr he K Q hkk;obtain ⟨v,hv,hvr⟩:=he t _ hx;obtain ⟨c,h3,h4,h5⟩:=aAG hr hvr hH hg;refine aB4 (x:=.tmp t) (E:=(t,.osc id g off len c)::E) ho hS hZ hrow (bS.get_cons_same _ _ _) hH hg hosz hoff hrows a w I ι h1 h2 hr (fun u x hu=>?_) K Q hkk;by_cases e:t=u
 ·subst e;rw[bS.get_cons_same]at hu;cases hu;exact⟨v,hv,h5⟩
 rw[bS.get_cons_other _ _ e]at hu;exact he u x hu
end Go.Abs
namespace Go.Proofs.YtmdicgjnmfolfaaGreatDoor
open Go.Proofs.Tryz
open Go.Abs
variable{L:List ByteArray}{s:ByteArray}
def kC:List ByteArray->List ByteArray
 | []=>[]
 | [x]=>[x]
 |x::y::r=>if x=y then kC (y::r)else x::kC (y::r)
theorem GY:∀(l:List ByteArray) (x y:ByteArray),kC (l++[x,y])=kC (l++[x])++(if x=y then[]else[y])
 | [],x,y=>by
  show (if x=y then kC [y]else x::kC [y])=[x]++_;by_cases e:x=y
  ·rw[aNu e,aNu e,e];rfl
  rw[aNt e,aNt e];rfl
 | [a],x,y=>by
  show (if a=x then kC [x,y]else a::kC [x,y])=(if a=x then kC [x]else a::kC [x])++_;have:=GY [] x y;rw[show kC [x,y]=kC ([]++[x,y])from rfl,this]
  split<;>rfl
 |a::b::l,x,y=>by
  have:=GY (b::l) x y;show (if a=b then kC ((b::l)++[x,y])else a::kC ((b::l)++[x,y]))=(if a=b then kC ((b::l)++[x])else a::kC ((b::l)++[x]))++_;rw[this]
  split<;>rfl
theorem QB{k:Nat}{x y:ByteArray}(hk:1<=k)(hx:L[k - 1]?=some x)(hy:L[k]?=some y):kC (L.take (k+1))=kC (L.take k)++(if x=y then[]else[y]):=by
 obtain ⟨j,rfl⟩:∃j,k=j+1:=⟨k - 1,by omega⟩;rw[show j+1 - 1=j by omega]at hx;have h1:L.take (j+1)=L.take j++[x]:=by rw[List.take_add_one,hx];rfl
 have h2:L.take (j+1+1)=L.take j++[x,y]:=by rw[List.take_add_one,h1,hy,List.append_assoc];rfl
 rw[h2,h1,GY]
theorem DT{l:List ByteArray}{i:Nat}(h:l[i]?=some s):(qX l)[i]?=some ((encStr s).map .pv):=by rw[aOP,h];rfl
theorem YE{P:List ByteArray}{j:Nat}(h:P.length<=j)(hs:L[j]?=some s):(P++L.drop P.length)[j]?=some s:=by rw[List.getElem?_append_right h,List.getElem?_drop,show P.length+(j - P.length)=j by omega];exact hs
theorem YX{H:aB}{id:Nat}{o:Ob}(h:H.get id=some o)(j:Nat):aB.get ((id,o)::H) j=H.get j:=by
 by_cases e:j=id
 ·subst e;rw[get_cons_same,h]
 exact get_cons_other _ _ e
theorem aCA(L:List ByteArray)(g:Nat)(H:aB)(h1:H.get 901=some ⟨g,1,9,qX L⟩)(hl:L.length<1099511627776):
  aH Tryz.prog 68 [.osl 901 g 0 L.length] H (fun r H'=>r=.osl 901 g 0 (kC L).length/\H'=(901,⟨g,1,9,qX (kC L++List.replicate (L.length - (kC L).length) sNil)⟩)::H):=by
 refine Bd func68 rfl ntmps68 ?_;refine fL.ent (E':=[(0,.osl 901 g 0 L.length)]) (H':=(901,⟨g,1,9,qX L⟩)::H) (cD.get' ⟨⟨_,rfl,rfl⟩,trivial⟩ (YX h1)) ?_;refine Sr<|Dd aM<|Zz<|Sq<|Sr<|Dd aG<|Dd (by exact eB rfl aC rfl rfl rfl)<|Dd cP<|Zz ?_;refine Cn ?_ ?_<;>intro hc1
 ·have hlt:L.length<2:=by have:=aNr hc1;omega
  have hc0:kC L=L:=by
   match L,hlt with
   | [],_=>rfl
   | [a],_=>rfl
  refine Sr<|Dd aG<|Dd aM<|Zz<|aE ?_;refine dC (H':=(901,⟨g,1,9,qX L⟩)::H) (.inr rfl) rfl (aW rfl) Fin.refl ⟨by rw[hc0],by rw[hc0,Nat.sub_self,List.replicate_zero,List.append_nil]⟩
 have hge:2<=L.length:=by have:=aNs hc1;omega
 refine aF<|Sq<|Sr<|Dd aM<|Zz<|aD ?_;refine bL (σ:=Nat) (fun i=>([(0,.osl 901 g 0 L.length),(3,iv (i:Int))],(901,⟨g,1,9,qX L⟩)::H)) (fun i=>1<=i/\i<=L.length/\kC (L.take i)=L.take i) (fun i=>L.length - i) 1 ⟨by omega,by omega,by
  obtain ⟨x,hx⟩:=aV (l:=L) (k:=0) (by omega);rw[List.take_add_one,hx];rfl⟩ ?_ ?_
 ·exact cD.get' ⟨⟨_,rfl,rfl⟩,⟨_,rfl,rfl⟩,trivial⟩ (fun j=>rfl)
 rintro i ⟨hi1,hi2,hi3⟩;refine Sq<|Sr<|Dd aG<|Dd aG<|Dd (by exact eB rfl aC rfl rfl rfl)<|Dd cP<|Zz ?_;refine Cn ?_ ?_<;>intro hc2
 ·have hil:i<L.length:=by have:=aNr hc2;omega
  obtain ⟨y,hy⟩:=aV hil;obtain ⟨x,hx⟩:=aV (l:=L) (k:=i - 1) (by omega);have ht:=QB hi1 hx hy;refine aF<|Sq<|aD<|Sq<|aP follows<|Cq aG<|Cq aG<|Cq (by exact dP rfl bT rfl rfl rfl rfl rfl (by omega) (by exact aOG _) hil (aON _))<|Cq (by exact aK rfl isAgg9 rfl rfl rfl (DT hy) rfl)<|Cq aG<|Cq aG<|Cq (by exact dN rfl rfl rfl (by exact iY (by omega) (by omega)))<|Cq (by exact dP (m:=i - 1) rfl bT rfl rfl rfl rfl rfl (by omega) (show ((i:Int) - 1).toNat=i - 1 by omega) (by omega) (aON _))<|Cq (by exact aK rfl isAgg9 rfl rfl rfl (DT hx) rfl)<|Cq B3<|bK<|Kr ?_;refine Cn ?_ ?_<;>intro hc3
  ·have hyx:=aNr hc3;rw[aNu hyx.symm,List.append_nil,hi3]at ht;refine Sr<|Dd aG<|Dd aG<|Dd (by exact gS (l:=i) (h:=L.length) rfl bT rfl rfl rfl rfl rfl rfl (by omega) (aOB _) (aON _) rfl)<|Dd aM<|Zz<|Sq<|Sr<|Dd aM<|Zz<|aD ?_;refine iA (fun(k:Nat) (R:List ByteArray)=>([(0,.osl 901 g 0 L.length),(3,iv (R.length:Int)),(4,.osl 901 g i (L.length - i)),(5,iv (k:Int))],(901,⟨g,1,9,qX (R++L.drop R.length)⟩)::H)) (fun k R=>1<=k/\i+k<=L.length/\R=kC (L.take (i+k))/\R.length+1<=i+k) (fun k R=>L.length - (i+k)) 1 (L.take i) ⟨by omega,by omega,ht.symm,by rw[aOJ];omega⟩ ?_ ?_
   ·have hti:(L.take i).length=i:=by rw[aOJ];omega
    rw[hti,List.take_append_drop];exact cD.get' ⟨⟨_,rfl,rfl⟩,⟨_,rfl,rfl⟩,⟨_,rfl,rfl⟩,⟨_,rfl,rfl⟩,trivial⟩ (fun j=>rfl)
   rintro k R ⟨hk1,hk2,hk3,hk4⟩;refine Sq<|Sr<|Dd aG<|Dd aG<|Dd (by exact eB rfl aC rfl rfl rfl)<|Dd cP<|Zz ?_;refine Cn ?_ ?_<;>intro hc4
   ·have hkl:i+k<L.length:=by have:=aNr hc4;omega
    obtain ⟨v,hv⟩:=aV hkl;obtain ⟨u,hu⟩:=aV (l:=L) (k:=i+k - 1) (by omega);have ht2:=QB (by omega) hu hv;have hv2:=DT (YE (P:=R) (by omega) hv);have hu2:=DT (YE (P:=R) (by omega) hu);refine aF<|Sq<|aD<|Sq<|aP follows<|Cq aG<|Cq aG<|Cq (by exact dP (m:=k) rfl bT rfl rfl rfl rfl rfl (by omega) (aOG _) (by omega) rfl)<|Cq (by exact aK rfl isAgg9 rfl rfl rfl hv2 rfl)<|Cq aG<|Cq aG<|Cq (by exact dN rfl rfl rfl (by exact iY (by omega) (by omega)))<|Cq (by exact dP (m:=k - 1) (m2:=i+k - 1) rfl bT rfl rfl rfl rfl rfl (by omega) (show ((k:Int) - 1).toNat=k - 1 by omega) (by omega) (by omega))<|Cq (by exact aK rfl isAgg9 rfl rfl rfl hu2 rfl)<|Cq TU<|bK<|Kr ?_;refine Cn ?_ ?_<;>intro hc5
    ·have hne:¬ u=v:=fun e=>by
      have h:=hc5;rw[e]at h;simp at h
     rw[aNt hne,<-hk3]at ht2;have hR0:∃z,L[R.length]?=some z:=aV (by omega);obtain ⟨z,hz⟩:=hR0;have hat:(qX (R++L.drop R.length))[R.length]?=some ((encStr z).map .pv):=DT (YE (P:=R) (aOB _) hz);have hset:(qX (R++L.drop R.length)).set R.length [sv v]=qX ((R++[v])++L.drop (R++[v]).length):=by
      have hd:L.drop R.length=z::L.drop (R.length+1):=by
       obtain ⟨p,q⟩:=aNz.1 hz;rw[List.drop_eq_getElem_cons p,q]
      rw[hd,aNw,List.length_singleton,qX,List.map_append,List.map_cons,List.set_append_right _ _ (by rw[aNv];exact aOB _),aNv,Nat.sub_self,List.set_cons_zero,List.append_assoc,qX,List.map_append,List.map_append];rfl
     refine Sr<|Dd aG<|Dd aG<|Dd aG<|Dd aG<|Dd (by exact dP (m:=k) rfl bT rfl rfl rfl rfl rfl (by omega) (aOG _) (by omega) rfl)<|Dd (by exact aK rfl isAgg9 rfl rfl rfl hv2 rfl)<|Dd (by exact dP rfl bT rfl rfl rfl rfl rfl (by omega) (by exact aOG _) (by omega:R.length<L.length) (aON _))<|Uu (by exact bD rfl sizeOf9 rfl rfl rfl rfl rfl hat (by simp[encStr]) rfl hset)<|Zz<|Rg<|Dd aG<|Dd qV<|Dd aM<|Zz<|Rg<|Dd aG<|Dd qV<|Da ?_;refine⟨k+1,R++[v],⟨by omega,by omega,ht2.symm,by rw[aNw,List.length_singleton];omega⟩,by omega,?_⟩;rw[show (((R++[v]).length:Nat):Int)=(R.length:Int)+1 by rw[aNw,List.length_singleton];rfl];exact cD.dup ⟨⟨_,rfl,rfl⟩,⟨_,rfl,rfl⟩,⟨_,rfl,rfl⟩,⟨_,rfl,rfl⟩,trivial⟩
    have he:u=v:=by
     have h:=hc5;have h2:v=u:=by simpa using h
     exact h2.symm
    rw[aNu he,List.append_nil,<-hk3]at ht2;refine aF<|Rg<|Dd aG<|Dd qV<|Da ?_;refine⟨k+1,R,⟨by omega,by omega,ht2.symm,by omega⟩,by omega,?_⟩;exact cD.get' ⟨⟨_,rfl,rfl⟩,⟨_,rfl,rfl⟩,⟨_,rfl,rfl⟩,⟨_,rfl,rfl⟩,trivial⟩ (fun j=>rfl)
   have hge2:i+k=L.length:=by have:=aNs hc4;omega
   rw[hge2,List.take_length]at hk3;have hRl:R.length<=L.length:=by omega
   have hmix:(qX (R++L.drop R.length)).length=L.length:=by
    rw[aNv,aNw,aOK];omega
   have hcl:(qX (R++L.drop R.length)).take R.length++(List.replicate (L.length - R.length) [sv sNil]++(qX (R++L.drop R.length)).drop (R.length+(L.length - R.length)))=qX (R++List.replicate (L.length - R.length) sNil):=by
    have hd0:(qX (R++L.drop R.length)).drop (R.length+(L.length - R.length))=[]:=List.drop_eq_nil_of_le (by rw[hmix];omega);rw[hd0,List.append_nil,qX,List.map_append,List.take_left' (aNv _),qX,List.map_append,List.map_replicate];rfl
   refine aY<|Sr<|Dd aG<|Dd aG<|Dd (by exact gS (l:=R.length) (h:=L.length) rfl bT rfl rfl rfl rfl rfl rfl hRl (aOB _) (aON _) rfl)<|Uu (by exact NT rfl bT zo9 rfl rfl rfl rfl rfl (by rw[hmix];exact hRl) hcl)<|Zz<|Sr<|Dd aG<|Dd aG<|Dd (by exact gS (l:=0) (h:=R.length) rfl bT rfl rfl rfl rfl rfl rfl (aOM _) hRl (aON _) rfl)<|Dd aM<|Zz<|aE ?_;refine dC (H':=(901,⟨g,1,9,qX (R++List.replicate (L.length - R.length) sNil)⟩)::H) (.inr rfl) rfl (aW rfl) (Fin.get' (fun j=>uV _ _ _ _ j)) ⟨by rw[hk3];rfl,by rw[hk3]⟩
  have hyx:=aNs hc3;rw[aNt (fun e=>hyx e.symm),hi3]at ht;refine aF<|Rg<|Dd aG<|Dd qV<|Da ?_;refine⟨i+1,⟨by omega,by omega,?_⟩,by omega,cD.get' ⟨⟨_,rfl,rfl⟩,⟨_,rfl,rfl⟩,trivial⟩ (fun j=>rfl)⟩;rw[ht,List.take_add_one,hy];rfl
 have hge3:i=L.length:=by have:=aNs hc2;omega
 subst hge3;rw[List.take_length]at hi3;refine aY<|Sr<|Dd aG<|Dd aM<|Zz<|aE ?_;refine dC (H':=(901,⟨g,1,9,qX L⟩)::H) (.inr rfl) rfl (aW rfl) Fin.refl ⟨by rw[hi3],by rw[hi3,Nat.sub_self,List.replicate_zero,List.append_nil]⟩
end Go.Proofs.YtmdicgjnmfolfaaGreatDoor
end
namespace Go.Proofs.YtmdicgjnmfolfaaGreatDoor
open Go.Proofs.Tryz
open Go.Abs
variable{r:GRec}
def oH(n a b:Int):Bool:=decide (a<=n)&&decide (n<=b)
def v1G(r:GRec):Bool:=(((((r.priv.trace.any RV||!(!([r.priv.name,r.priv.reason].any HQ)))||!(!r.priv.sources.any HQ))||decide (16<((r.priv.sources.map encStr).length:Int)))||decide (200<((r.priv.trace.map gB).length:Int)))||!jQ r.priv.sl)||!jQ r.sl
def aJe(l:List ByteArray):Bool:=lG l&&decide (((kC l).length:Int)=((l.map encStr).length:Int))
theorem aJx(l:List ByteArray)(hl:l.length<1099511627776){H:aB}(hno:H.get 901=none):aH Tryz.prog 69 [.pv (aS l)] H (fun r H'=>r=.osl 901 1 0 l.length/\H'=(901,⟨1,1,9,qX l⟩)::H) :=aH.frame (aEp l [] (fun _ _ h=>by cases h) rfl hl) (fun _ _ h=>by cases h) (fun _ _ h=>by cases h) (by simp) (fun id h=>.inr (by
  by_cases e:901=id
  ·subst e;exact hno
  simp[aB.get,jC e]at h))
def OC(r:GRec):Bool:=(((((!oH r.author 0 59||!oH r.number 1 128)||!oH r.clock 1 1000000)||!bO r.branch)||decide (16<((r.parents.map encStr).length:Int)))||!r.parents.all isJ)||!aJe r.parents
def ndG(r:GRec):Bool:=decide (r.kind=2)||decide (r.kind=3)
def M6(r:GRec):Bool:=if r.kind=3 then oH r.order 1 4 else if r.kind=4 then(bO r.from'&&!decide (r.from'=r.branch))else decide (1<=r.kind/\r.kind<=5)
def TH(r:GRec):ByteArray:=if r.kind=2\/r.kind=3 then r.target else sNil
def wYG(r:GRec):Bool:=if r.kind=2 then r.yes else false
def wOG(r:GRec):Int:=if r.kind=3 then r.order else 0
def wFG(r:GRec):ByteArray:=if r.kind=4 then r.from' else sNil
def wEG(r:GRec):Bool:=if r.kind=1 then true else if r.kind=3 then decide (r.order=3)else false
def v5G(r:GRec):Bool:=((((decide (r.target=TH r)&&(r.yes == wYG r))&&decide (r.order=wOG r))&&decide (r.from'=wFG r))&&(decide (0<((r.edits.map bC).length:Int)) == wEG r))&&(!ndG r||isJ (TH r))
def eD(r:GRec):Bool:=(((!v1G r&&!OC r)&&(kA r.edits).2)&&M6 r)&&v5G r
abbrev W5:=ByteArray×Bool×Int×ByteArray×Bool
def yV(r:GRec):W5:=(TH r,wYG r,wOG r,wFG r,wEG r)
theorem aKj(h:r.kind=1):M6 r=true/\(sNil,false,0,sNil,true)=yV r:=by simp[M6,yV,TH,wYG,wOG,wFG,wEG,h]
theorem aKi(h:r.kind=2):M6 r=true/\(r.target,r.yes,0,sNil,false)=yV r:=by simp[M6,yV,TH,wYG,wOG,wFG,wEG,h]
theorem aKh(h:r.kind=3)(hw:oH r.order 1 4=true):M6 r=true/\(r.target,false,r.order,sNil,decide (r.order=3))=yV r:=by simp[M6,yV,TH,wYG,wOG,wFG,wEG,h,hw]
theorem aKg(h:r.kind=4)(hn:bO r.from'=true)(hb:r.from'≠r.branch):M6 r=true/\(sNil,false,0,r.from',false)=yV r:=by simp[M6,yV,TH,wYG,wOG,wFG,wEG,h,hn,hb]
theorem aKf(h:r.kind=5):M6 r=true/\(sNil,false,0,sNil,false)=yV r:=by simp[M6,yV,TH,wYG,wOG,wFG,wEG,h]
theorem aFq(h:v1G r=true):eD r=false:=by simp[eD,h]
theorem ZS(h:OC r=true):eD r=false:=by simp[eD,h]
theorem aFp(h:(kA r.edits).2=false):eD r=false:=by simp[eD,h]
theorem QV(h:M6 r=false):eD r=false:=by simp[eD,h]
theorem aFo(h1:v1G r=false)(h2:OC r=false)(h3:(kA r.edits).2=true)(h4:M6 r=true):eD r=v5G r:=by simp[eD,h1,h2,h3,h4]
theorem aCf(h:r.target.size<1099511627776):(TH r).size<1099511627776:=by
 rw[TH]
 split
 ·exact h
 exact(by decide:(0:Nat)<1099511627776)
theorem IN(r:GRec)(hr:iT r)(hp:r.parents.length<549755813888)(H:aB):aH Tryz.prog 14 [av (bU r)] H (fun x H'=>x=bv (eD r)/\H'=H):=by
 refine Pu ?_;obtain ⟨_,⟨b1,b2,b3⟩,hpa,hed,hs,hpv⟩:=hr;have htx:=fun H=>ZW r.edits H hed.1 hed.2;obtain ⟨p1,p2,p3,p4,p5⟩:=hpv;have hoffs:=aJZ r.priv.trace p4;have hsh1:=fun H=>Z5 [r.priv.name,r.priv.reason] (show 2<1099511627776 by decide) H;have hsh2:=fun H=>Z5 r.priv.sources p3.1 H;have hf1:=fun H=>VB r.priv.sl p5 H;have hf2:=fun H=>VB r.sl hs H;have hso:=fun H=>U2 r.parents H (by omega);have hdg:=fun H=>GU r.parents hpa H;have hnm:=fun H=>yA r.branch H (by omega);have hnf:=fun H=>yA r.from' H (by omega)
 have hwt:=aCf b2;have hw:∀(n a b:Int) (H:aB),aH Tryz.prog 60 [iv n,iv a,iv b] H (fun r H'=>r=bv (oH n a b)/\H'=H):=fun n a b H=>JM n a b H;refine Bd func14 rfl ntmps14<|Sr<|Dd (by exact cE (id:=1) rfl rfl rfl rfl rfl)<|Dd aM<|Zz<|Sr<|Dd (by exact bM (id:=3) rfl aM3 rfl rfl)<|Uu (kG sizeOf98)<|Zz<|Sr<|Dd aM<|Zz<|Sr<|Dd (bE fJ)<|Dd (rC lO sizeOf28)<|Dd (by exact bM (id:=5) rfl aIa rfl rfl)<|Uu (kG sizeOf28)<|Zz<|Sr<|Dd (bE tP)<|Dd (bQ jT)<|Dd (by exact fO rfl rfl)<|Dd (by exact aA rfl rfl call64 rfl ((aH.frameS hoffs (NA.sub ⟨rfl,trivial⟩) (dF.ofL ⟨uI _,trivial⟩) (by simp;rfl))))<|Dd aM<|Zz<|Sq<|Sq ?_;refine bF (t:=63) (n:=48) (X:=v1G r) ?_ ?_
 ·all_goals refine Dd aG ?_
  all_goals refine Dm ?_
  all_goals refine Sp 23 (fun h23=>?_) fun h23=>?_
  all_goals try contradiction
  all_goals first|refine Fo<|Fo<|Fo<|Fo<|Fo ?_|refine On aG<|On (bE C7)<|On (bQ isAgg9)<|On (bE C6)<|On (bQ isAgg9) ?_
  all_goals first|refine Fo ?_|refine On (by exact aQ [[.str r.priv.name],[.str r.priv.reason]] rfl bT rfl rfl rfl rfl rfl (by intro r hr;simp only[aOH,aOL,or_false]at hr;rcases hr with rfl|rfl<;>rfl)) ?_
  all_goals first|refine Fo<|Fo ?_|refine On (by exact cC rfl rfl rfl (cK.fn call61 (hsh1 _)))<|On mT ?_
  all_goals refine Dd cN<|Dm ?_
  all_goals refine Sp 33 (fun h33=>?_) fun h33=>?_
  all_goals try contradiction
  all_goals first|refine Fo<|Fo<|Fo<|Fo<|Fo ?_|refine On aG<|On (bE A0)<|On (bQ aJ)<|On (by exact cC rfl rfl rfl (cK.fn call61 (hsh2 _)))<|On mT ?_
  all_goals refine Dd cN<|Dm ?_
  all_goals refine Sp 40 (fun h40=>?_) fun h40=>?_
  all_goals try contradiction
  all_goals first|refine Fo<|Fo<|Fo<|Fo ?_|refine On (bE A0)<|On (bQ aJ)<|On (fZ aC)<|On mN ?_
  all_goals refine Dd cN<|Dm ?_
  all_goals refine Sp 46 (fun h46=>?_) fun h46=>?_
  all_goals try contradiction
  all_goals first|refine Fo<|Fo<|Fo<|Fo ?_|refine On (bE tP)<|On (bQ jT)<|On (fZ dY)<|On mN ?_
  all_goals refine Dd cN<|Dm ?_
  all_goals refine Sp 52 (fun h52=>?_) fun h52=>?_
  all_goals try contradiction
  all_goals first|refine Fo<|Fo<|Fo<|Fo ?_|refine On (bE oV)<|On (rC eA sizeOf25)<|On (by exact aA rfl rfl call66 rfl (hf1 _))<|On mT ?_
  all_goals refine Dd cN<|Dm ?_
  all_goals refine Sp 58 (fun h58=>?_) fun h58=>?_
  all_goals try contradiction
  all_goals first|refine Fo<|Fo<|Fo<|Fo ?_|refine On (bE kM)<|On (rC eA sizeOf25)<|On (by exact aA rfl rfl call66 rfl (hf2 _))<|On mT ?_
  all_goals refine Dd cN<|Zz ?_
  all_goals(exact⟨⟨_,rfl,by first|(rw[v1G,h23];rfl)|(rw[v1G,h23,h33];rfl)|(rw[v1G,h23,h33,h40];rfl)|(rw[v1G,h23,h33,h40,h46];rfl)|(rw[v1G,h23,h33,h40,h46,h52];rfl)|(rw[v1G,h23,h33,h40,h46,h52,h58];rfl)⟩,rfl,rfl,rfl⟩)
 refine Cn ?_ ?_<;>intro hc1
 ·rw[aFq hc1];exact Sr<|Dd aM<|Zz<|aE<|Rt<|Qq
 have h1:=hc1;have hin:aJe r.parents=(lG r.parents&&decide (((kC r.parents).length:Int)=((r.parents.map encStr).length:Int))):=rfl;obtain ⟨so,hsoe⟩:∃so,so=lG r.parents:=⟨_,rfl⟩;rw[<-hsoe]at hso hin;refine aF<|Sq ?_;refine fL.ent (E':=[(1,.ref 1 0 0 0),(3,.ref 3 0 0 0),(5,.ref 5 0 0 0),(4,.pv (.fn 61))]) (H':=[(5,bx 7 28 ((sB r.priv).map .pv)),(3,wiO),(1,bx 21 30 ((bU r).map .pv))]) (cD.wk (Ea<|Ea<|Ea<|Eb<|trivial) (Hb<|Hc (uI _)<|Hb<|trivial) trivial) ?_;cases so with
 | false =>
  have h2:OC r=true:=by rw[OC,hin,Bool.false_and,Bool.not_false,Bool.or_true]
  rw[ZS h2];refine aP follows<|Cr [1] (fun _ h=>fh pM h)<|Cr [1] (fun _ h=>lh aJ h)<|Cr [] (fun H1 hH=>by exact aA rfl rfl call67 rfl (hso _))<|Cr [] (fun _ _=>aG)<|Ot<|Ot<|Ot<|Ot<|Ot<|Ot<|Ot<|Ot<|Ot<|Cr [] (fun _ _=>cN)<|Cr [] (fun _ _=>aM)<|bK<|Kr<|Sq<|Sq ?_;refine bF (t:=118) (n:=47) (X:=OC r) ?_ ?_
  ·all_goals refine Dd (bQ nR) ?_
   all_goals refine Dd (bE tO)<|Dd (bQ isAgg3)<|Dd (by exact cC rfl rfl rfl (cK.fn pU (hw r.author 0 59 _)))<|Dd mT<|Dm ?_
   all_goals refine Sp 83 (fun h83=>?_) fun h83=>?_
   all_goals try contradiction
   all_goals first|refine Fo<|Fo<|Fo<|Fo<|Fo ?_|refine On (bQ nR)<|On (bE pN)<|On (bQ isAgg3)<|On (by exact cC rfl rfl rfl (cK.fn pU (hw r.number 1 128 _)))<|On mT ?_
   all_goals refine Dd cN<|Dm ?_
   all_goals refine Sp 90 (fun h90=>?_) fun h90=>?_
   all_goals try contradiction
   all_goals first|refine Fo<|Fo<|Fo<|Fo<|Fo ?_|refine On (bQ nR)<|On (bE AZ)<|On (bQ isAgg3)<|On (by exact cC rfl rfl rfl (cK.fn pU (hw r.clock 1 1000000 _)))<|On mT ?_
   all_goals refine Dd cN<|Dm ?_
   all_goals refine Sp 97 (fun h97=>?_) fun h97=>?_
   all_goals try contradiction
   all_goals first|refine Fo<|Fo<|Fo<|Fo ?_|refine On (bE AY)<|On (bQ isAgg9)<|On (by exact aA rfl rfl nH rfl (hnm _))<|On mT ?_
   all_goals refine Dd cN<|Dm ?_
   all_goals refine Sp 103 (fun h103=>?_) fun h103=>?_
   all_goals try contradiction
   all_goals first|refine Fo<|Fo<|Fo<|Fo ?_|refine On (bE pM)<|On (bQ aJ)<|On (fZ aC)<|On mN ?_
   all_goals refine Dd cN<|Dm ?_
   all_goals refine Sp 109 (fun h109=>?_) fun h109=>?_
   all_goals try contradiction
   all_goals first|refine Fo<|Fo<|Fo<|Fo ?_|refine On (bE pM)<|On (bQ aJ)<|On (by exact aA rfl rfl aFc rfl (hdg _))<|On mT ?_
   all_goals refine Dd cN<|Dm ?_
   all_goals refine Sp 115 (fun h115=>?_) fun h115=>?_
   all_goals try contradiction
   all_goals first|refine Fo<|Fo ?_|refine On aG<|On mT ?_
   all_goals refine Dd cN<|Zz ?_
   all_goals(exact⟨⟨_,rfl,by first|(rw[OC,hin,h83];rfl)|(rw[OC,hin,h83,h90];rfl)|(rw[OC,hin,h83,h90,h97];rfl)|(rw[OC,hin,h83,h90,h97,h103];rfl)|(rw[OC,hin,h83,h90,h97,h103,h109];rfl)|(rw[OC,hin,h83,h90,h97,h103,h109,h115];rfl)⟩,rfl,rfl,rfl⟩)
  refine Cn ?_ ?_<;>intro hc2
  ·exact Sr<|Dd aM<|Zz<|aE<|Rt<|Qq
  rw[h2]at hc2;cases hc2
 | true =>
  refine aP follows<|Cr [1] (fun _ h=>fh pM h)<|Cr [1] (fun _ h=>lh aJ h)<|Cr [] (fun H1 hH=>by exact aA rfl rfl call67 rfl (hso _))<|Cr [] (fun _ _=>aG) ?_;refine aX (r:=⟨_,some [1],[]⟩) (bR rfl rfl rfl (by rfl) (fun H1 hH=>by exact(by exact aZ rfl pM rfl ((hH _ rfl).trans rfl) rfl rfl))) rfl ?_;refine aX (r:=⟨_,some [1],[]⟩) (bR rfl rfl rfl (by rfl) (fun H1 hH=>by exact(by exact aK rfl aJ rfl ((hH _ rfl).trans rfl) rfl rfl rfl))) rfl ?_;refine aX (r:=⟨_,some [901],[_]⟩) (bR rfl rfl rfl (by rfl) (fun H1 hH=>by exact aA rfl rfl call69 rfl (aJx r.parents (by omega) ((hH _ rfl).trans rfl)))) rfl ?_;refine aX (r:=⟨_,some [901],[_]⟩) (bR rfl rfl rfl (by rfl) (fun H1 hH=>by exact aA rfl rfl call68 rfl (aCA r.parents 1 _ ((hH _ rfl).trans rfl) (by omega)))) rfl ?_;refine aX (r:=⟨_,some [901],[]⟩) (bR rfl rfl rfl (by rfl) (fun H1 hH=>by exact(by exact eB rfl aC rfl ((hH _ rfl).trans rfl) rfl))) rfl ?_;refine aX (r:=⟨_,some [1],[]⟩) (bR rfl rfl rfl (by rfl) (fun H1 hH=>by exact(by exact aZ rfl pM rfl ((hH _ rfl).trans rfl) rfl rfl))) rfl ?_;refine aX (r:=⟨_,some [1],[]⟩) (bR rfl rfl rfl (by rfl) (fun H1 hH=>by exact(by exact aK rfl aJ rfl ((hH _ rfl).trans rfl) rfl rfl rfl))) rfl ?_;refine aX (r:=⟨_,some [],[]⟩) (bR rfl rfl rfl (by rfl) (fun H1 hH=>by exact(by exact kJ rfl aC rfl))) rfl ?_;refine aX (r:=⟨_,some [],[]⟩) (bR rfl rfl rfl (by rfl) (fun H1 hH=>by exact rS rfl rfl rfl)) rfl ?_;refine Cr [] (fun _ _=>cN)<|Cr [] (fun _ _=>aM)<|bK<|Kr<|Sq<|Sq ?_;refine bF (t:=118) (n:=47) (X:=OC r) ?_ ?_
  ·all_goals refine Dd (bQ nR) ?_
   all_goals refine Dd (bE tO)<|Dd (bQ isAgg3)<|Dd (by exact cC rfl rfl rfl (cK.fn pU (hw r.author 0 59 _)))<|Dd mT<|Dm ?_
   all_goals refine Sp 83 (fun h83=>?_) fun h83=>?_
   all_goals try contradiction
   all_goals first|refine Fo<|Fo<|Fo<|Fo<|Fo ?_|refine On (bQ nR)<|On (bE pN)<|On (bQ isAgg3)<|On (by exact cC rfl rfl rfl (cK.fn pU (hw r.number 1 128 _)))<|On mT ?_
   all_goals refine Dd cN<|Dm ?_
   all_goals refine Sp 90 (fun h90=>?_) fun h90=>?_
   all_goals try contradiction
   all_goals first|refine Fo<|Fo<|Fo<|Fo<|Fo ?_|refine On (bQ nR)<|On (bE AZ)<|On (bQ isAgg3)<|On (by exact cC rfl rfl rfl (cK.fn pU (hw r.clock 1 1000000 _)))<|On mT ?_
   all_goals refine Dd cN<|Dm ?_
   all_goals refine Sp 97 (fun h97=>?_) fun h97=>?_
   all_goals try contradiction
   all_goals first|refine Fo<|Fo<|Fo<|Fo ?_|refine On (bE AY)<|On (bQ isAgg9)<|On (by exact aA rfl rfl nH rfl (hnm _))<|On mT ?_
   all_goals refine Dd cN<|Dm ?_
   all_goals refine Sp 103 (fun h103=>?_) fun h103=>?_
   all_goals try contradiction
   all_goals first|refine Fo<|Fo<|Fo<|Fo ?_|refine On (bE pM)<|On (bQ aJ)<|On (fZ aC)<|On mN ?_
   all_goals refine Dd cN<|Dm ?_
   all_goals refine Sp 109 (fun h109=>?_) fun h109=>?_
   all_goals try contradiction
   all_goals first|refine Fo<|Fo<|Fo<|Fo ?_|refine On (bE pM)<|On (bQ aJ)<|On (by exact aA rfl rfl aFc rfl (hdg _))<|On mT ?_
   all_goals refine Dd cN<|Dm ?_
   all_goals refine Sp 115 (fun h115=>?_) fun h115=>?_
   all_goals try contradiction
   all_goals first|refine Fo<|Fo ?_|refine On aG<|On mT ?_
   all_goals refine Dd cN<|Zz ?_
   all_goals(exact⟨⟨_,rfl,by first|(rw[OC,hin,h83];rfl)|(rw[OC,hin,h83,h90];rfl)|(rw[OC,hin,h83,h90,h97];rfl)|(rw[OC,hin,h83,h90,h97,h103];rfl)|(rw[OC,hin,h83,h90,h97,h103,h109];rfl)|(rw[OC,hin,h83,h90,h97,h103,h109,h115];rfl)⟩,rfl,rfl,rfl⟩)
  refine Cn ?_ ?_<;>intro hc3
  ·rw[ZS hc3];exact Sr<|Dd aM<|Zz<|aE<|Rt<|Qq
  have h2:=hc3;obtain ⟨tx,htxe⟩:∃tx,tx=(kA r.edits).1:=⟨_,rfl⟩;obtain ⟨tb,htbe⟩:∃tb,tb=(kA r.edits).2:=⟨_,rfl⟩;rw[<-htxe,<-htbe]at htx;refine aF<|Sq<|Sr<|Dd (bE C4)<|Dd (bQ nS)<|Dd (by exact aA rfl rfl call72 rfl (htx _))<|Dd aG<|Dd eZ<|Dd eZ<|Dd aM<|Dd aM<|Zz<|Sr<|Dd aG<|Dd mT<|Zz ?_;refine Cn ?_ ?_<;>intro hc4
  ·have hb:tb=false:=by have:=hc4;cases tb;rfl;cases this
   rw[aFp (htbe.symm.trans hb)];exact Sr<|Dd aM<|Zz<|aE<|Rt<|Qq
  have hb:tb=true:=by have:=hc4;cases tb;cases this;rfl
  have h3:(kA r.edits).2=true:=htbe.symm.trans hb;have hyes:=fun h4=>aFo h1 h2 h3 h4;clear htxe htbe;refine aF<|Sr<|Dd aM<|Dd aM<|Dd aM<|Dd aM<|Da ?_;refine DE (fun(p:W5)=>([(1,.ref 1 0 0 0),(3,.ref 3 0 0 0),(10,sv p.1),(11,bv p.2.1),(12,iv p.2.2.1),(13,sv p.2.2.2.1),(14,bv p.2.2.2.2)],[(5,bx 7 28 ((sB r.priv).map .pv)),(3,wiO),(1,bx 21 30 ((bU r).map .pv))])) (fun p=>M6 r=true/\p=yV r) ?_ ?_
  ·refine Sr<|Dd (bE C5)<|Dd (bQ isAgg3)<|Zz<|aD<|Sr<|Dd dK<|Da ?_;refine Cn ?_ ?_<;>intro hc5
   ·have hk:=aKj (aNr hc5);refine Rg<|Da ?_;exact⟨_,hk,(cD.wk (Ea<|Ea<|Eb<|Eb<|Eb<|Eb<|Eb<|trivial) (Hb<|Hc (uI _)<|Hb<|trivial) trivial)⟩
   have hk1:=aNs hc5;refine Sr<|Dd dK<|Da ?_;refine Cn ?_ ?_<;>intro hc6
   ·have hk:=aKi (aNr hc6);refine aP follows<|Cq (bE AX)<|Cq (bQ isAgg9)<|Cq (bE GP)<|Cq (bQ uC)<|Cq aM<|Cq aM<|bK<|Kr ?_;exact⟨_,hk,(cD.wk (Ea<|Ea<|Eb<|Eb<|Eb<|Eb<|Eb<|trivial) (Hb<|Hc (uI _)<|Hb<|trivial) trivial)⟩
   have hk2:=aNs hc6;refine Sr<|Dd dK<|Da ?_;refine Cn ?_ ?_<;>intro hc7
   ·have hk3:=aNr hc7;refine Sq<|aP follows<|Cq (bE AX)<|Cq (bQ isAgg9)<|Cq (bE C3)<|Cq (bQ isAgg3)<|Cq (bE C3)<|Cq (bQ isAgg3)<|Cq dK<|Cq aM<|Cq aM<|Cq aM<|bK<|Kr<|Sr<|Dd (bQ nR)<|Dd aG<|Dd (by exact cC rfl rfl rfl (cK.fn pU (hw r.order 1 4 _)))<|Dd mT<|Zz ?_;refine Cn ?_ ?_<;>intro hc8
    ·have hk:oH r.order 1 4=false:=by have:=hc8;revert this;cases oH r.order 1 4<;>simp
     rw[QV (by rw[M6,aNu hk3];exact hk)];exact Sr<|Dd aM<|Zz<|aE<|Rt<|Qq
    have hk:=aKh hk3 (by have:=hc8;revert this;cases oH r.order 1 4<;>simp);refine aF ?_;exact⟨_,hk,(cD.wk (Ea<|Ea<|Eb<|Eb<|Eb<|Eb<|Eb<|trivial) (Hb<|Hc (uI _)<|Hb<|trivial) trivial)⟩
   have hk3:=aNs hc7;refine Sr<|Dd dK<|Da ?_;refine Cn ?_ ?_<;>intro hc9
   ·have hk4:=aNr hc9;refine Sr<|Dd (bE yK)<|Dd (bQ isAgg9)<|Dd aM<|Zz<|Sq ?_;refine bF (t:=162) (n:=10) (X:=!bO r.from'||decide (r.from'=r.branch)) ?_ ?_
    ·all_goals refine Dd aG ?_
     all_goals refine Dd (by exact aA rfl rfl nH rfl (hnf _))<|Dd mT<|Dm ?_
     all_goals refine Sp 157 (fun h157=>?_) fun h157=>?_
     all_goals try contradiction
     all_goals first|refine Fo<|Fo<|Fo<|Fo ?_|refine On aG<|On (bE AY)<|On (bQ isAgg9)<|On B3 ?_
     all_goals refine Dd cN<|Zz ?_
     all_goals(exact⟨⟨_,rfl,by(rw[h157];rfl)⟩,rfl,rfl,rfl⟩)
    refine Cn ?_ ?_<;>intro hc10
    ·have hk:(bO r.from'&&!decide (r.from'=r.branch))=false:=by have:=hc10;revert this;cases bO r.from'<;>cases decide (r.from'=r.branch)<;>simp
     rw[QV (by rw[M6,aNt hk3,aNu hk4];exact hk)];exact Sr<|Dd aM<|Zz<|aE<|Rt<|Qq
    have hk:bO r.from'=true/\¬ r.from'=r.branch:=by have:=hc10;rw[aOR,Bool.not_eq_false',aOD]at this;exact this
    have hk:=aKg hk4 hk.1 hk.2;refine aF ?_;exact⟨_,hk,(cD.wk (Ea<|Ea<|Eb<|Eb<|Eb<|Eb<|Eb<|trivial) (Hb<|Hc (uI _)<|Hb<|trivial) trivial)⟩
   have hk4:=aNs hc9;refine Sr<|Dd dK<|Da ?_;refine Cn ?_ ?_<;>intro hc11
   ·have hk:=aKf (aNr hc11);refine aF ?_;exact⟨_,hk,(cD.wk (Ea<|Ea<|Eb<|Eb<|Eb<|Eb<|Eb<|trivial) (Hb<|Hc (uI _)<|Hb<|trivial) trivial)⟩
   have hk5:=aNs hc11;rw[QV (by rw[M6,aNt hk3,aNt hk4,decide_eq_false (by omega)])];exact Sr<|Dd aM<|Zz<|aE<|Rt<|Qq
  rintro _ ⟨h4,rfl⟩;rw[hyes h4];have hdT:=fun H=>aEV (TH r) hwt H;have hv5:v5G r=(((((decide (r.target=TH r)&&(r.yes == wYG r))&&decide (r.order=wOG r))&&decide (r.from'=wFG r))&&(decide (0<((r.edits.map bC).length:Int)) == wEG r))&&(!ndG r||isJ (TH r))):=rfl;rw[yV];refine Sq ?_;refine bF (t:=15) (n:=10) (X:=ndG r) ?_ ?_
  ·all_goals refine Dd (bE C5) ?_
   all_goals refine Dd (bQ isAgg3)<|Dd dK<|Dm ?_
   all_goals refine Sp 168 (fun h168=>?_) fun h168=>?_
   all_goals try contradiction
   all_goals first|refine Fo<|Fo<|Fo ?_|refine On (bE C5)<|On (bQ isAgg3)<|On dK ?_
   all_goals refine Dd cN<|Da ?_
   all_goals(exact⟨⟨_,rfl,by(rw[ndG,h168];rfl)⟩,rfl,rfl,rfl⟩)
  refine Sq ?_;refine bF (t:=2) (n:=45) (X:=v5G r) ?_ ?_
  ·all_goals refine Dd (bE AX) ?_
   all_goals refine Dd (bQ isAgg9)<|Dd aG<|Dd B3<|Dm ?_
   all_goals refine Sp 177 (fun h177=>?_) fun h177=>?_
   all_goals try contradiction
   all_goals first|refine Fo<|Fo<|Fo<|Fo ?_|refine On (bE GP)<|On (bQ uC)<|On aG<|On (by exact KS rfl dV rfl rfl) ?_
   all_goals refine Dd cN<|Dm ?_
   all_goals refine Sp 183 (fun h183=>?_) fun h183=>?_
   all_goals try contradiction
   all_goals first|refine Fo<|Fo<|Fo<|Fo ?_|refine On (bE C3)<|On (bQ isAgg3)<|On aG<|On dK ?_
   all_goals refine Dd cN<|Dm ?_
   all_goals refine Sp 189 (fun h189=>?_) fun h189=>?_
   all_goals try contradiction
   all_goals first|refine Fo<|Fo<|Fo<|Fo ?_|refine On (bE yK)<|On (bQ isAgg9)<|On aG<|On B3 ?_
   all_goals refine Dd cN<|Dm ?_
   all_goals refine Sp 195 (fun h195=>?_) fun h195=>?_
   all_goals try contradiction
   all_goals first|refine Fo<|Fo<|Fo<|Fo<|Fo<|Fo ?_|refine On (bE C4)<|On (bQ nS)<|On (fZ dL)<|On mN<|On aG<|On (by exact KS rfl dV rfl rfl) ?_
   all_goals refine Dd cN<|Dm ?_
   all_goals refine Sp 203 (fun h203=>?_) fun h203=>?_
   all_goals try contradiction
   all_goals first|refine Fo<|Fo<|Fo ?_|refine On aG<|On mT<|On aG ?_
   all_goals(first|refine Sp 206 (fun h206=>?_) fun h206=>?_|refine yT (t:=206) rfl ?_)
   all_goals try contradiction
   all_goals first|refine Fo ?_|refine Fu ?_|refine On aG ?_
   all_goals first|refine Fo ?_|refine Fu ?_|refine On (by exact aA rfl rfl aNf rfl (hdT _)) ?_
   all_goals first|refine Fo ?_|refine On cN ?_
   all_goals refine Dd cN<|Da ?_
   all_goals(exact⟨⟨_,rfl,by first|(rw[hv5,h177];rfl)|(rw[hv5,h177,h183];rfl)|(rw[hv5,h177,h183,h189];rfl)|(rw[hv5,h177,h183,h189,h195];rfl)|(rw[hv5,h177,h183,h189,h195,h203];rfl)|(rw[hv5,h177,h183,h189,h195,h203,h206];rfl)⟩,rfl,rfl,rfl⟩)
  exact aE<|Rt<|Qq
end Go.Proofs.YtmdicgjnmfolfaaGreatDoor
namespace Go.Proofs.YtmdicgjnmfolfaaGreatDoor
open Go.Proofs.Tryz
open Go.Abs Go.Lib
variable{s:GSeal}{r:GRec}{l:List GEdit}{n:Nat}
structure FSeal(s:GSeal):Prop where
 i0:0<=s.idx
 i1:s.idx<256
 sl:s.sig.length<=18
 pl:s.path.length<=8
 sa:∀t∈s.sig,isJ t=true
 pa:∀t∈s.path,isJ t=true
theorem WX(h:uG s=true):s=⟨0,[],[]⟩:=by rw[uG,aOE,aOC,aOC,aNv,aNv]at h;obtain ⟨i,a,b⟩:=s;obtain ⟨h1,h2⟩:=h;simp only at h1 h2;have ha:a=[]:=List.eq_nil_of_length_eq_zero (by omega);have hb:b=[]:=List.eq_nil_of_length_eq_zero (by omega);subst h1 ha hb;rfl
theorem jB(h:jQ s=true):FSeal s:=by
 rw[jQ,Bool.or_eq_true]at h;rcases h with h|h
 ·have:=WX h;subst this;exact⟨by decide,by decide,by decide,by decide,by simp,by simp⟩
 simp only[aOE,aOC,aNv,List.all_eq_true]at h;obtain ⟨⟨⟨⟨⟨h1,h2⟩,h3⟩,h4⟩,h5⟩,h6⟩:=h;exact⟨h1,h2,by omega,by omega,h5,h6⟩
structure VF(r:GRec):Prop where
 tr:∀q∈r.priv.trace,(0<=q.1/\q.1<=1048575)/\(0<=q.2/\q.2<=1048575)
 nm:r.priv.name.size<=200
 rs:r.priv.reason.size<=200
 so:∀s∈r.priv.sources,s.size<=200
 sol:r.priv.sources.length<=16
 trl:r.priv.trace.length<=200
 psl:jQ r.priv.sl=true
 sl:jQ r.sl=true
 au:0<=r.author/\r.author<=59
 nu:1<=r.number/\r.number<=128
 cl:1<=r.clock/\r.clock<=1000000
 br:bO r.branch=true
 pal:r.parents.length<=16
 pa:∀p∈r.parents,isJ p=true
 inc:aJe r.parents=true
 tx:(kA r.edits).2=true
 k:M6 r=true
 ta:r.target=TH r
 ye:r.yes=wYG r
 od:r.order=wOG r
 fr:r.from'=wFG r
 ed:decide (0<r.edits.length)=wEG r
 nd:ndG r=true->isJ (TH r)=true
theorem RZ{s:ByteArray}:HQ s=false↔s.size<=200:=by rw[HQ,aOD];omega
theorem oI(h:eD r=true):VF r:=by
 simp only[eD,aOE,aOO]at h;obtain ⟨⟨⟨⟨h1,h2⟩,h3⟩,h4⟩,h5⟩:=h;simp only[v1G,aOR,Bool.not_eq_false',aOO,aOD,aNv,List.any_eq_false,Bool.not_eq_true]at h1;obtain ⟨⟨⟨⟨⟨⟨a1,a2⟩,a3⟩,a4⟩,a5⟩,a6⟩,a7⟩:=h1;simp only[OC,aOR,Bool.not_eq_false',aOD,aNv,List.all_eq_true,oH,aOE,aOC]at h2;obtain ⟨⟨⟨⟨⟨⟨b1,b2⟩,b3⟩,b4⟩,b5⟩,b6⟩,b7⟩:=h2;simp only[v5G,aOE,aOC,beq_iff_eq,aNv,Bool.or_eq_true,aOO]at h5;obtain ⟨⟨⟨⟨⟨c1,c2⟩,c3⟩,c4⟩,c5⟩,c6⟩:=h5;refine⟨fun q hq=>?_,RZ.1 (a2 _ (by simp)),RZ.1 (a2 _ (by simp)),fun s hs=>RZ.1 (a3 s hs),by omega,by omega,a6,a7,b1,b2,b3,b4,by omega,b6,b7,h3,h4,c1,c2,c3,c4,?_,fun hn=>?_⟩
 ·have:=a1 q hq;simp only[RV,aOR,Bool.not_eq_false',aOE,aOC]at this;exact this
 ·rw[<-c5];congr 1;exact propext ⟨fun h=>by omega,fun h=>by omega⟩
 rcases c6 with h|h
 ·rw[hn]at h;cases h
 exact h
theorem PN(h:M6 r=true):1<=r.kind/\r.kind<=5:=by
 rw[M6]at h
 split at h
 ·omega
 split at h
 ·omega
 exact aNr h
theorem GC{s:ByteArray}(h:bO s=true):s.size<=24:=by simp only[bO,aOE,aOC]at h;omega
theorem W3(h:(gL l).2=0):(gL l).1.size<=20000:=by
 have h2:=HK h;rw[lI]at h2
 split at h2
 ·have:=congrArg Prod.snd h2;cases this
 omega
theorem JX(h:(kA l).2=true):(kA l).1.size<=20000:=by
 rw[kA]at h |-
 split at h
 ·next h0 =>
  rw[aNu h0];exact(by decide:(0:Nat)<=20000)
 next h0 =>
 rw[aNt h0];exact W3 (aNr h)
theorem pY{s:ByteArray}(h:isJ s=true):s.size<=16:=Nat.le_of_eq (jN h)
theorem VF.target(h:VF r):r.target.size<=16:=by
 rw[h.ta];by_cases hn:ndG r=true
 ·exact pY (h.nd hn)
 have:TH r=sNil:=by
  rw[TH,aNt];rintro(e|e)<;>simp[ndG,e]at hn
 rw[this];decide
theorem VF.from(h:VF r):r.from'.size<=24:=by
 rw[h.fr,wFG]
 split
 ·next e =>
  have hk:=h.k;rw[M6,aNt (by omega),aNu e,aOE]at hk;exact GC hk.1
 decide
theorem VF.order(h:VF r):0<=r.order/\r.order<=4:=by
 rw[h.od,wOG]
 split
 ·next e =>
  have hk:=h.k;rw[M6,aNu e,oH,aOE,aOC,aOC]at hk;omega
 decide
def WP(p:GPriv):List IV:=[.t p.name,.t p.reason,.l p.sources,.p p.trace]
def DY(r:GRec):List IV:=[.z r.sl.idx r.sl.sig r.sl.path,.t r.priv.name,.t r.priv.reason,.l r.priv.sources,.p r.priv.trace,.z r.priv.sl.idx r.priv.sl.sig r.priv.sl.path]
def sF(r:GRec):List ByteArray:=pL r++vK (DY r)
def pA(r:GRec):ByteArray:=if eD r=true then pB (pL r)else sNil
def oK(r:GRec):ByteArray×Int:=if eD r=true then(if 20000<(aL (sF r)).length then(sNil,2)else(ofL (aL (sF r)),0))else(sNil,1)
def prW:ByteArray:=⟨#[112,114,105,118,97,116,101]⟩
def rB(r:GRec):ByteArray:=pB ([prW,pA r]++vK (WP r.priv))
def le2(x:ByteArray):Prop:=x.size<=20000
theorem nA{n:Int}(h0 : -9223372036854775808<=n)(h1:n<=9223372036854775807):le2 (bI n):=Nat.le_trans (iC h0 h1) (by decide)
theorem EK(h:n<1099511627776):le2 (bI (n:Int)):=nA (by omega) (by omega)
theorem T0(h:FSeal s):∀x∈fI (.z s.idx s.sig s.path),le2 x:=by
 intro x hx;have i0:=h.i0;have i1:=h.i1;have l1:=h.sl;have l2:=h.pl;simp only[fI,aOH,List.mem_append]at hx;rcases hx with rfl|(rfl|hx)|(rfl|hx)
 ·exact nA (by omega) (by omega)
 ·exact EK (by omega)
 ·exact Nat.le_trans (pY (h.sa x hx)) (by decide)
 ·exact EK (by omega)
 exact Nat.le_trans (pY (h.pa x hx)) (by decide)
theorem TZ(h:FSeal s):(fI (.z s.idx s.sig s.path)).length<=29:=by have l1:=h.sl;have l2:=h.pl;simp only[fI,aNx,aNw];omega
theorem aAD(h:VF r):∀x∈pL r,le2 x:=by
 intro x hx;obtain ⟨v,hv,hx⟩:=List.mem_flatMap.1 hx;have hk:=PN h.k;have h1:=h.au;have h2:=h.nu;have h3:=h.cl;have h4:=h.order;have hn:=GC h.br;have ht:=h.target;have hf:=h.from
 have hl:=h.pal;simp only[F4,aOH,aOL,or_false]at hv;rcases hv with rfl|rfl|rfl|rfl|rfl|rfl|rfl|rfl|rfl|rfl|rfl|rfl<;>simp only[fI,aOH,aOL,or_false]at hx
 ·subst hx;exact(by decide:XM.size<=20000)
 ·subst hx;exact nA (by omega) (by omega)
 ·subst hx;exact nA (by omega) (by omega)
 ·subst hx;exact nA (by omega) (by omega)
 ·subst hx;exact nA (by omega) (by omega)
 ·subst hx;exact Nat.le_trans hn (by decide)
 ·rcases hx with rfl|hx
  ·exact EK (by omega)
  exact Nat.le_trans (pY (h.pa x hx)) (by decide)
 ·subst hx;exact JX h.tx
 ·subst hx;exact Nat.le_trans ht (by decide)
 ·subst hx;split<;>exact nA (by decide) (by decide)
 ·subst hx;exact nA (by omega) (by omega)
 subst hx;exact Nat.le_trans hf (by decide)
theorem RG(h:VF r):(pL r).length<=28:=by have:=h.pal;rw[pL,T9];omega
theorem aD0(h:VF r):∀x∈vK (WP r.priv),le2 x:=by
 intro x hx;obtain ⟨v,hv,hx⟩:=List.mem_flatMap.1 hx;have h1:=h.nm;have h2:=h.rs;have h3:=h.sol;have h4:=h.trl;simp only[WP,aOH,aOL,or_false]at hv;rcases hv with rfl|rfl|rfl|rfl<;>simp only[fI,aOH,aOL,or_false,List.mem_flatMap]at hx
 ·subst hx;exact Nat.le_trans h1 (by decide)
 ·subst hx;exact Nat.le_trans h2 (by decide)
 ·rcases hx with rfl|hx
  ·exact EK (by omega)
  exact Nat.le_trans (h.so x hx) (by decide)
 rcases hx with rfl|⟨q,hq,hx⟩
 ·exact EK (by omega)
 obtain ⟨q1,q2⟩:=h.tr q hq;rcases hx with rfl|rfl
 ·exact nA (by omega) (by omega)
 exact nA (by omega) (by omega)
theorem aD6(ps:List (Int×Int)):(fI (.p ps)).length=1+2*ps.length:=by rw[show fI (.p ps)=bI (ps.length:Int)::M5 ps from rfl,aNx,IU];omega
theorem aDZ(h:VF r):(vK (WP r.priv)).length<=420:=by have h3:=h.sol;have h4:=h.trl;have:=aD6 r.priv.trace;simp only[vK,WP,List.flatMap_cons,List.flatMap_nil,aNw,this];simp only[fI,aNx,List.length_nil];omega
theorem aDL(r:GRec):vK (DY r)=fI (.z r.sl.idx r.sl.sig r.sl.path)++(vK (WP r.priv)++fI (.z r.priv.sl.idx r.priv.sl.sig r.priv.sl.path)):=by simp[vK,DY,WP,List.flatMap_cons]
theorem aGT(h:VF r):∀x∈vK (DY r),le2 x:=by
 intro x hx;rw[aDL]at hx;rcases List.mem_append.1 hx with hx|hx
 ·exact T0 (jB h.sl) x hx
 rcases List.mem_append.1 hx with hx|hx
 ·exact aD0 h x hx
 exact T0 (jB h.psl) x hx
theorem Z7(h:VF r):(vK (DY r)).length<=478:=by have h1:=TZ (jB h.sl);have h2:=TZ (jB h.psl);have h3:=aDZ h;rw[aDL,aNw,aNw];omega
theorem yF{M:Nat}(hM:M<1000000000000000000):∀(L:List ByteArray),(∀s∈L,s.size<=M)->(aL L).length<=L.length*(M+22)
 | [],_=>aOM _
 |s::L,h=>by
  have ih:=yF hM L fun x hx=>h x (List.mem_cons_of_mem _ hx);have hs:=h s List.mem_cons_self;have hi:=iC (n:=(s.size:Int)) (by omega) (by omega);rw[show aL (s::L)=(mP s).data.toList++aL L by rw[aL,List.flatMap_cons];rfl,aNw,lV,nY,aNx,Nat.succ_mul];omega
theorem mA{L:List ByteArray}(h:∀x∈L,le2 x)(hn:L.length<=n):(aL L).length<=n*20022:=Nat.le_trans (yF (M:=20000) (by decide) L h) (Nat.mul_le_mul_right _ hn)
end Go.Proofs.YtmdicgjnmfolfaaGreatDoor
namespace Go.Abs
theorem aH.fin{P:Program}{f:FuncId}{args:List AV}{H:aB}{Q Q':AV->aB->Prop}(h:aH P f args H Q)(hq:∀r H1,Q r H1->∃r' H2,Fin H H1 r H2 r'/\Q' r' H2):aH P f args H Q' :=fun I ι w vs hr hl hv=>(h I ι w vs hr hl hv).mono fun _ w' ⟨r,H',I',ι',v,e,q,k1,k2,k3⟩=>by
  obtain ⟨r',H2,hf,hq'⟩:=hq r H' q;obtain ⟨I2,ι2,a1,a2,a3⟩:=hf ⟨I,ι,H,w,[]⟩ rfl I' ι' w' v k2 k3 k1;exact⟨r',H2,I2,ι2,v,e,hq',a3,a1,a2⟩
end Go.Abs
namespace Go.Proofs.YtmdicgjnmfolfaaGreatDoor
open Go.Proofs.Tryz
open Go.Abs
variable{b:Bool}{r:GRec}
theorem not_not(h:(!b)=true):b=false:=by cases b;rfl;cases h
theorem BL(h:(!b)=false):b=true:=by cases b;cases h;rfl
theorem lS{α:Type}(f:α->List PV)(l:List α):((l.map f).take (0+l.length)).drop 0=l.map f:=by rw[aON,List.drop_zero];exact List.take_of_length_le (by rw[aNv];exact aOB _)
theorem VS(l:List ByteArray):fA ⟨(aL l).toArray⟩=pB l:=rfl
theorem aBY(r:GRec)(hr:iT r)(hp:r.parents.length<549755813888)(H:aB):aH Tryz.prog 39 [av (bU r)] H (fun x H'=>x=.pv (aS (pL r))/\H'=H):=by refine aH.pure ((OX r hr hp).fin ?_) (by simp[bU]) H;rintro _ _ ⟨rfl,rfl⟩;exact⟨_,[],Fin.fz (id:=971) (ob:=⟨UA r,1,9,bP (pL r)⟩) ((pL r).map encStr) rfl (dR _) (.osl (lS encStr _)) rfl trivial trivial,rfl,rfl⟩
theorem aBZ(r:GRec)(hr:iT r)(hp:r.parents.length<549755813888){H:aB}(hno:H.get 971=none):aH Tryz.prog 39 [av (bU r)] H (fun x H'=>x=.osl 971 (UA r) 0 (pL r).length/\H'=(971,⟨UA r,1,9,bP (pL r)⟩)::H) :=aH.frame (OX r hr hp) (fun _ _ h=>by cases h) (fun _ _ h=>by cases h) (by simp[bU]) (fun id h=>.inr (by
  by_cases e:971=id
  ·subst e;exact hno
  simp[aB.get,jC e]at h))
theorem PT(r:GRec)(hr:iT r)(hp:r.parents.length<549755813888)(H:aB):aH Tryz.prog 16 [av (bU r)] H (fun x H'=>x=sv (pA r)/\H'=H):=by
 refine aH.pure ?_ (by simp[bU]) H;have hv:=fun H=>IN r hr hp H;have hpu:=fun H=>aBY r hr hp H;rw[pA];refine Bd func16 rfl ntmps16<|Sr<|Dd (by exact cE (id:=1) rfl rfl rfl rfl rfl)<|Dd aM<|Zz<|Sq<|Sr<|Dd (rC bH aR)<|Dd (by exact aA rfl rfl aFe rfl (hv _))<|Dd mT<|Zz ?_;refine Cn ?_ ?_<;>intro hc1
 ·have hb:=not_not hc1;rw[aNt (by rw[hb];decide)];exact Sr<|Dd aM<|Zz<|aE<|Rt<|Qq
 have hb:=BL hc1;have hf:=oI hb;have hsz:=mA (aAD hf) (RG hf);rw[aNu hb];have hjo:=fun H=>PR (pL r) H (by omega);have hsu:=fun H=>TN ⟨(aL (pL r)).toArray⟩ H (by rw[show (⟨(aL (pL r)).toArray⟩:ByteArray).size=(aL (pL r)).length from by simp[ByteArray.size]];omega);rw[VS]at hsu;exact aF<|Sr<|Dd (rC bH aR)<|Dd (by exact aA rfl rfl call39 rfl (hpu _))<|Dd (by exact aA rfl rfl call41 rfl (hjo _))<|Dd (by exact aA rfl rfl S3 rfl (hsu _))<|Dd aM<|Zz<|aE<|Rt<|Qq
theorem aGU(h:iT r)(hv:VF r):∀v∈DY r,okI v:=by
 obtain ⟨_,_,_,_,⟨a1,a2,a3⟩,b1,b2,b3,b4,c1,c2,c3⟩:=h;intro v hv';simp only[DY,aOH,aOL,or_false]at hv';rcases hv' with rfl|rfl|rfl|rfl|rfl|rfl
 ·exact⟨a1,a2.1,a3.1⟩
 ·exact trivial
 ·exact trivial
 ·exact b3.1
 ·exact⟨b4,fun q hq=>by
   obtain ⟨⟨q1,q2⟩,q3,q4⟩:=hv.tr q hq;exact⟨⟨by omega,by omega⟩,by omega,by omega⟩⟩
 exact⟨c1,c2.1,c3.1⟩
theorem aIy(h:iT r)(hv:VF r):∀v∈WP r.priv,okI v:=by
 obtain ⟨_,_,_,_,_,b1,b2,b3,b4,c1,c2,c3⟩:=h;intro v hv';simp only[WP,aOH,aOL,or_false]at hv';rcases hv' with rfl|rfl|rfl|rfl
 ·exact trivial
 ·exact trivial
 ·exact b3.1
 exact⟨b4,fun q hq=>by
  obtain ⟨⟨q1,q2⟩,q3,q4⟩:=hv.tr q hq;exact⟨⟨by omega,by omega⟩,by omega,by omega⟩⟩
theorem QW(r:GRec)(hr:iT r)(hp:r.parents.length<549755813888)(H:aB):aH Tryz.prog 10 [av (bU r)] H (fun x H'=>x=.tup [sv (oK r).1,iv (oK r).2]/\H'=H):=by
 refine aH.pure ?_ (by simp[bU]) H;have hv:=fun H=>IN r hr hp H;have hpu:=fun H hno=>aBZ r hr hp (H:=H) hno;rw[oK];refine Bd func10 rfl ntmps10<|Sr<|Dd (by exact cE (id:=1) rfl rfl rfl rfl rfl)<|Dd aM<|Dd aM<|Zz<|Sq<|Sr<|Dd (rC bH aR)<|Dd (by exact aA rfl rfl aFe rfl (hv _))<|Dd mT<|Zz ?_;refine Cn ?_ ?_<;>intro hc1
 ·have hb:=not_not hc1;rw[aNt (by rw[hb];decide)];exact Sr<|Dd aM<|Dd aM<|Zz<|aE<|Ru<|Qq
 have hb:=BL hc1;have hf:=oI hb;have hsz:=mA (L:=sF r) (n:=506) (fun x hx=>(List.mem_append.1 hx).elim (aAD hf x) (aGT hf x)) (by
  have:=RG hf;have:=Z7 hf;rw[sF,aNw];omega)
 have hpl:=RG hf;have hsl:=Z7 hf;rw[aNu hb];have hadd:=ZF (DY r) (aGU hr hf) (UA r) (pL r) (show 6<1099511627776 by decide) (by omega);have hjo:=fun H=>PR (sF r) H (by omega);have hal:sF r=pL r++vK (DY r):=rfl;rw[<-hal]at hadd;obtain ⟨S,hS⟩:∃S,S=sF r:=⟨_,rfl⟩;obtain ⟨g,hg⟩:∃g,g=UA r+YW (DY r):=⟨_,rfl⟩;rw[<-hS]at hadd hjo hsz |-;rw[<-hg]at hadd;have hof:(⟨(aL S).toArray⟩:ByteArray)=ofL (aL S):=rfl;rw[hof]at hjo;have hos:(ofL (aL S)).size=(aL S).length:=eF _;refine aF<|Sr<|Dd (rC bH aR)<|Dd (by exact aA rfl rfl call39 rfl (hpu _ rfl))<|Dd (by exact bM (id:=970) rfl aK4 rfl rfl)<|Uu (kG HA)<|Zz<|Sr<|Dd (bE kM)<|Dd (rC eA sizeOf25)<|Dd (by exact D9 (ps:=gG r.sl) rfl (cL fT rfl) rfl)<|Dd (bE fJ)<|Dd (bE C7)<|Dd (bQ isAgg9)<|Dd (by exact eM (p:=.str r.priv.name) rfl (cL underlying9 rfl) rfl)<|Dd (bE fJ)<|Dd (bE C6)<|Dd (bQ isAgg9)<|Dd (by exact eM (p:=.str r.priv.reason) rfl (cL underlying9 rfl) rfl)<|Dd (bE fJ)<|Dd (bE A0)<|Dd (bQ aJ)<|Dd (by exact eM (p:=aS r.priv.sources) rfl (cL aC rfl) rfl)<|Dd (bE fJ)<|Dd (bE tP)<|Dd (bQ jT)<|Dd (by exact eM (p:=qJ r.priv.trace) rfl (cL dY rfl) rfl) ?_;refine Dd (bE fJ)<|Dd (bE oV)<|Dd (rC eA sizeOf25)<|Dd (by exact D9 (ps:=gG r.priv.sl) rfl (cL fT rfl) rfl)<|Dd (by exact aQ ((DY r).map vL) rfl uM rfl rfl rfl rfl rfl (LZ (DY r)))<|Dd (by exact aA rfl rfl uD rfl (WL hadd ⟨rfl,rfl,trivial⟩ (by simp;rfl)))<|Zz<|Sq ?_;refine fL.ent (cD.fzG (id:=971) (E':=[(4,.ref 970 0 0 0)]) (H':=[(970,bx 1 72 [.pv (aS S)])]) (S.map encStr) rfl (dR _) ?_ rfl ?_ ?_) ?_
 ·intro p hp;simp only[aOH,aOL,or_false]at hp;rcases hp with rfl;exact⟨_,rfl,.same (by simp;rfl)⟩
 ·exact⟨⟨_,rfl,rfl,rfl,rfl,nG rfl (cG (.osl (lS encStr _)) nO)⟩,trivial⟩
 ·exact trivial
 refine Rg<|Dd (bQ B6)<|Dd (by exact aA rfl rfl call41 rfl (hjo _))<|Dd aM<|Zz<|Sq<|Sr<|Dd aG<|Dd (nF underlying9)<|Dd mN<|Zz ?_;refine Cn ?_ ?_<;>intro hc2
 ·have hlt:20000<(aL S).length:=by have:=aNr hc2;omega
  rw[aNu hlt];exact Sr<|Dd aM<|Dd aM<|Zz<|aE<|Ru<|Qq
 have hlt:¬ 20000<(aL S).length:=by have:=aNs hc2;omega
 rw[aNt hlt];exact aF<|Sr<|Dd aG<|Dd aM<|Dd aM<|Zz<|aE<|Ru<|Qq
theorem ER(r:GRec):(pA r).size<=20000:=by
 by_cases h:eD r=true
 ·rw[pA,aNu h];exact Nat.le_trans (Nat.le_of_eq (eR _)) (by decide)
 rw[pA,aNt h];decide
theorem PG(r:GRec)(hr:iT r)(hp:r.parents.length<549755813888)(hb:eD r=true)(H:aB):aH Tryz.prog 82 [av (bU r)] H (fun x H'=>x=sv (rB r)/\H'=H):=by
 refine aH.pure ?_ (by simp[bU]) H;have hid:=fun H=>PT r hr hp H;have hf:=oI hb;have hpl:=aDZ hf;have hadd:=ZF (WP r.priv) (aIy hr hf) 0 [prW,pA r] (show 4<1099511627776 by decide) (by simp only[aNx,List.length_nil];omega);have his:=ER r;have hsz:=mA (L:=[prW,pA r]++vK (WP r.priv)) (n:=422) (fun x hx=>(List.mem_append.1 hx).elim (fun hx=>by
   simp only[aOH,aOL,or_false]at hx;rcases hx with rfl|rfl
   ·exact(by decide:prW.size<=20000)
   exact his) (aD0 hf x)) (by rw[aNw,aNx,aNx,List.length_nil];omega)
 rw[rB];have hli:=fun H=>aEF ([prW,pA r]++vK (WP r.priv)) H (by omega);obtain ⟨S,hS⟩:∃S,S=[prW,pA r]++vK (WP r.priv):=⟨_,rfl⟩;obtain ⟨g,hg⟩:∃g,g=0+YW (WP r.priv):=⟨_,rfl⟩;rw[<-hS]at hadd hli |-;rw[<-hg]at hadd;obtain ⟨i,hi⟩:∃i,i=pA r:=⟨_,rfl⟩;rw[<-hi]at hid hadd;refine Bd func82 rfl ntmps82<|Sr<|Dd (by exact cE (id:=1) rfl rfl rfl rfl rfl)<|Dd aM<|Zz<|Sr<|Dd (rC bH aR)<|Dd (by exact aA rfl rfl zT rfl (hid _))<|Dd (by exact pG (id:=971) rfl XC rfl rfl rfl rfl (by intro r hr;simp only[aOH,aOL,or_false]at hr;rcases hr with rfl|rfl<;>rfl) rfl)<|Dd (by exact bM (id:=970) rfl aK4 rfl rfl)<|Uu (kG HA)<|Zz<|Sr<|Dd (bE fJ)<|Dd (bE C7)<|Dd (bQ isAgg9)<|Dd (by exact eM (p:=.str r.priv.name) rfl (cL underlying9 rfl) rfl)<|Dd (bE fJ)<|Dd (bE C6)<|Dd (bQ isAgg9)<|Dd (by exact eM (p:=.str r.priv.reason) rfl (cL underlying9 rfl) rfl)<|Dd (bE fJ)<|Dd (bE A0)<|Dd (bQ aJ)<|Dd (by exact eM (p:=aS r.priv.sources) rfl (cL aC rfl) rfl) ?_;refine Dd (bE fJ)<|Dd (bE tP)<|Dd (bQ jT)<|Dd (by exact eM (p:=qJ r.priv.trace) rfl (cL dY rfl) rfl)<|Dd (by exact aQ ((WP r.priv).map vL) rfl uM rfl rfl rfl rfl rfl (LZ (WP r.priv)))<|Dd (by exact aA rfl rfl uD rfl (WL hadd ⟨rfl,rfl,trivial⟩ (by simp;rfl)))<|Zz<|Sq ?_;refine fL.ent (cD.fzG (id:=971) (E':=[(3,.ref 970 0 0 0)]) (H':=[(970,bx 1 72 [.pv (aS S)])]) (S.map encStr) rfl (dR _) ?_ rfl ?_ ?_) ?_
 ·intro p hp;simp only[aOH,aOL,or_false]at hp;rcases hp with rfl;exact⟨_,rfl,.same (by simp;rfl)⟩
 ·exact⟨⟨_,rfl,rfl,rfl,rfl,nG rfl (cG (.osl (lS encStr _)) nO)⟩,trivial⟩
 ·exact trivial
 exact Rg<|Dd (bQ B6)<|Dd (by exact aA rfl rfl call130 rfl (hli _))<|Dd aM<|Zz<|aE<|Rt<|Qq
def rM(r:GRec):GRec:={r with priv:=⟨sNil,sNil,[],[],⟨0,[],[]⟩⟩}
theorem aHm(r:GRec)(H:aB):aH Tryz.prog 21 [av (bU r)] H (fun x H'=>x=av (bU (rM r))/\H'=H):=by refine aH.pure ?_ (by simp[bU]) H;refine Bd func21 rfl ntmps21<|Sr<|Dd (by exact cE (id:=1) rfl rfl rfl rfl rfl)<|Dd (by exact bM (id:=2) rfl M8 rfl rfl)<|Zz<|Sr<|Dd (wV aKD)<|Dd (bE fJ)<|Uu (by exact mF rfl sizeOf28 rfl rfl rfl rfl rfl rfl rfl (aOI rfl) rfl rfl)<|Zz<|Sr<|Dd (rC bH aR)<|Uu (kG aR)<|Zz<|aE ?_;refine dC (H':=[]) (.inr rfl) rfl (fF rfl bH aR rfl rfl rfl (by simp only[Zl,encStr];rfl) rfl) (Fin.wk (by simp[bU]) trivial trivial) ?_;exact Qq
end Go.Proofs.YtmdicgjnmfolfaaGreatDoor
namespace Go.Abs
variable{P:Program}{N:Nat}{o:Oper}{E:bS}{H H2 G0 H' H0:aB}{R Q' Q:AV->aB->Prop}{F f:FuncId}{args:Array Operand}{at_:Array TypeId}{vs:List AV}{w:World}{d:Tmp}{v:AV}{fn:Func}
section
abbrev FT:=List PanicEntry
def zU(P:Program)(N:Nat)(o:Oper)(E:bS)(H:aB)(R:AV->aB->Prop)(PP:FT->aB->Prop):Prop :=∀(a:Act) (w:World) (I:Nat->Prop) (ι:dX),a.tmps.size=N->Rel I ι H w->iB w I ι H E a->∀(K:Act->World->Prop) (Q:Exit->Act->World->Prop),
  (∀c w' I' ι' r H',R r H'->VRel w' I' ι' H' c r->Rel I' ι' H' w'->Step I ι H w I' ι' H' w'->K (a.put o.dst c) w') ->
  (∀ch w' I' ι' H',PP ch H'->Rel I' ι' H' w'->Step I ι H w I' ι' H' w'->Q (.panic ch) a w')->o.wpW P a w K Q
theorem zU.of{PP:FT->aB->Prop}(h:ZH P N o E H R):zU P N o E H R PP :=fun a w I ι hs hr he K Q hk _=>h a w I ι trivial hs hr he K Q hk
theorem zU.opr(h:zU P N o E H R (fun _ _=>False)):ZH P N o E H R :=fun a w I ι _ hs hr he K Q hk=>h a w I ι hs hr he K Q hk (fun _ _ _ _ _ hf=>hf.elim)
def eH(P:Program)(f:FuncId)(args:List AV)(H:aB)(Q:AV->aB->Prop)(PP:FT->aB->Prop):Prop :=∀(I:Nat->Prop) (ι:dX) (w:World) (vs:Array Value),Rel I ι H w->vs.size=args.length->(∀(i:Nat) (v:Value) (a:AV),vs[i]?=some v->args[i]?=some a->VRel w I ι H v a) ->
  Calls P f vs w fun e w'=>(∃r H' I' ι' v,e=.returned v/\Q r H'/\VRel w' I' ι' H' v r/\Rel I' ι' H' w'/\Step I ι H w I' ι' H' w')\/(∃ch H' I' ι',e=.panicked ch/\PP ch H'/\Rel I' ι' H' w'/\Step I ι H w I' ι' H' w')
section
variable{args:List AV}{PP:FT->aB->Prop}
theorem eH.of(h:aH P f args H Q):eH P f args H Q PP:=fun I ι w vs hr hl hv=>(h I ι w vs hr hl hv).mono fun _ _ h=>.inl h
theorem eH.mono{PP':FT->aB->Prop}(h:eH P f args H Q PP)(hq:∀r H',Q r H'->Q' r H')(hp:∀ch H',PP ch H'->PP' ch H'):eH P f args H Q' PP' :=fun I ι w vs hr hl hv=>(h I ι w vs hr hl hv).mono fun _ _ h=>h.elim (fun⟨r,H',I',ι',v,e,q,rest⟩=>.inl ⟨r,H',I',ι',v,e,hq _ _ q,rest⟩) (fun⟨ch,H',I',ι',e,q,rest⟩=>.inr ⟨ch,H',I',ι',e,hp _ _ q,rest⟩)
theorem eH.calls(h:eH P f args H Q PP)(hn:∀ch H',¬ PP ch H'):aH P f args H Q :=fun I ι w vs hr hl hv=>(h I ι w vs hr hl hv).mono fun _ _ h=>h.elim id (fun⟨ch,H',_,_,_,q,_⟩=>(hn ch H' q).elim)
end
section
variable{PP:FT->aB->Prop}
theorem dB{f:Operand}(ho:o.op=.call {callee:=.value f,args:=args,argTypes:=at_})(hf:aO E f=some (.pv (.fn F)))
  (hc:∀(args:Array Value) (w:World),(callFunc F args).run P w=.ok (.enter F args) w) (hv:uZ E args.toList=some vs) (h:eH P F vs H Q PP):zU P N o E H Q PP:=by
 intro a w I ι _ hr he K QQ hk hp;have hfv:=(aI he hf).fn_inv;obtain ⟨h1,h2⟩:=lZ he (kO hv);unfold Oper.wpW execOp;simp only[ho,resolve,hfv,Deferred.ofValue,Sem.run_bind,Sem.run_pure,Result.andThen_ok,invoke,hc,Oper.uponW_enter];refine(h I ι w _ hr (by simpa using h1) (fun i v b hv hb=>h2 i v b (by simpa using hv) hb)).mono ?_;rintro e w' (⟨r,H',I',ι',v,rfl,hq,k1,k2,k3⟩|⟨ch,H',I',ι',rfl,hq,k2,k3⟩)
 ·exact hk v w' I' ι' r H' hq k1 k2 k3
 exact hp ch w' I' ι' H' hq k2 k3
theorem B8{f:Operand}{caps:List AV}(ho:o.op=.call {callee:=.value f,args:=args,argTypes:=at_})(hf:aO E f=some (.clo F caps))
  (hc:∀(args:Array Value) (w:World),(callFunc F args).run P w=.ok (.enter F args) w) (hv:uZ E args.toList=some vs) (h:eH P F (vs++caps) H Q PP):zU P N o E H Q PP:=by
 intro a w I ι _ hr he K QQ hk hp;have hfv:=aI he hf;generalize hfc:a.eval f=fc at hfv;obtain ⟨h1,h2⟩:=lZ he (kO hv);cases hfv with
 | @clo _ us _ hl hh =>
  unfold Oper.wpW execOp;simp only[ho,resolve,hfc,Deferred.ofValue,Sem.run_bind,Sem.run_pure,Result.andThen_ok,invoke,hc,Oper.uponW_enter,Array.empty_append];have h1':args.size=vs.length:=by simpa using h1
  refine(h I ι w _ hr (by simp[hl,h1']) (fun i v b hv hb=>?_)).mono ?_
  ·by_cases hi:i<args.size
   ·rw[Array.getElem?_append_left (by simpa using hi)]at hv;rw[List.getElem?_append_left (by omega)]at hb;exact h2 i v b (by simpa using hv) hb
   rw[Array.getElem?_append_right (by simp;omega)]at hv;rw[List.getElem?_append_right (by omega)]at hb;simp only[Array.size_map]at hv;rw[h1']at hv;exact hh _ v b hv hb
  rintro e w' (⟨r,H',I',ι',v,rfl,hq,k1,k2,k3⟩|⟨ch,H',I',ι',rfl,hq,k2,k3⟩)
  ·exact hk v w' I' ι' r H' hq k1 k2 k3
  exact hp ch w' I' ι' H' hq k2 k3
end
section
variable{PP:FT->aB->Prop}{t t' T:TypeId}{x y:Operand}
theorem lX{xs:Array Operand}(ho:o.op=.makeFunc (.func f) xs #[])(hv:uZ E xs.toList=some vs):cH P N o E H (.bnd f vs) H :=.of_run fun a w I ι _ he=>by
  obtain ⟨h1,h2⟩:=lZ he (kO hv);exact⟨.func (.func f) (xs.map a.eval) #[],by simp[execOp,ho,Instr.makeFunc],.bnd (by simpa using h1) (fun i v b hv hb=>h2 i v b (by simpa using hv) hb)⟩
theorem B9{f:Operand}{xs:List AV}(ho:o.op=.call {callee:=.value f,args:=args,argTypes:=at_})(hf:aO E f=some (.bnd F xs))
  (hc:∀(args:Array Value) (w:World),(callFunc F args).run P w=.ok (.enter F args) w) (hv:uZ E args.toList=some vs) (h:eH P F (xs++vs) H Q PP):zU P N o E H Q PP:=by
 intro a w I ι _ hr he K QQ hk hp;have hfv:=aI he hf;generalize hfc:a.eval f=fc at hfv;obtain ⟨h1,h2⟩:=lZ he (kO hv);cases hfv with
 | @bnd _ us _ hl hh =>
  unfold Oper.wpW execOp;simp only[ho,resolve,hfc,Deferred.ofValue,Sem.run_bind,Sem.run_pure,Result.andThen_ok,invoke,hc,Oper.uponW_enter,Array.append_empty];have h1':args.size=vs.length:=by simpa using h1
  refine(h I ι w _ hr (by simp[hl,h1']) (fun i v b hv hb=>?_)).mono ?_
  ·by_cases hi:i<us.size
   ·rw[Array.getElem?_append_left hi]at hv;rw[List.getElem?_append_left (by omega)]at hb;exact hh i v b hv hb
   rw[Array.getElem?_append_right (by omega)]at hv;rw[List.getElem?_append_right (by omega)]at hb;rw[hl]at hv;exact h2 _ v b (by simpa using hv) hb
  rintro e w' (⟨r,H',I',ι',v,rfl,hq,k1,k2,k3⟩|⟨ch,H',I',ι',rfl,hq,k2,k3⟩)
  ·exact hk v w' I' ι' r H' hq k1 k2 k3
  exact hp ch w' I' ι' H' hq k2 k3
abbrev ms(t:TypeId):FT:=[{v:=.iface t (.agg #[]),recovered:=false}]
theorem O1(ho:o.op=.panic x)(hx:aO E x=some (.pv (.ifa t []))):zU P N o E H (fun _ _=>False) (fun ch H'=>ch=ms t/\H'=H):=by intro a w I ι _ hr he K QQ hk hp;obtain ⟨cs,e1,hl,_⟩:=(aI he hx).ifa_inv;have:cs=#[]:=Array.eq_empty_of_size_eq_zero (by simpa using hl);subst this;unfold Oper.wpW execOp;simp only[ho,e1];exact hp _ w I ι H ⟨rfl,rfl⟩ hr (Step.refl _ _ _ _)
end
section
variable{ops:Array Oper}{Q:Exit->bS->aB->Prop}{rest:List Oper}{PP:FT->aB->Prop}
def ALP(P:Program)(G0:aB)(N:Nat)(ops:Array Oper)(Q:Exit->bS->aB->Prop)(l:List Oper)(E:bS)(H:aB):Prop :=∀G:Entry,G.H=G0->∀a w,St G N E H a w->∀ro,(ro=none\/l.all Oper.noDefer=true)->wpListIn (RF ro) 0 P ops (fun e a w=>∃E H,Q e E H/\St G N E H a w) l a w
theorem JJ(h:Q .normal E H):ALP P G0 N ops Q [] E H:=fun _ _ a w hs _ _=>⟨E,H,h,hs⟩
theorem St.opP{G:Entry}{a:Act}(hs:St G N E H a w)(hd:gY N o.dst=true)(h:zU P N o E H R PP){K:Act->World->Prop}{Q:Exit->Act->World->Prop}
  (hk:∀r H' a' w',R r H'->St G N (iZ E o.dst r) H' a' w'->K a' w') (hp:∀ch H' w',PP ch H'->St G N E H' a w'->Q (.panic ch) a w') {ro:Option Nat} (hn:ro=none\/o.noDefer=true):o.wpIn (RF ro) 0 P a w K Q:=by
 refine Oper.wpW_in hn ?_;obtain ⟨I,ι,hr,hst,he⟩:=hs.rel;refine h a w I ι hs.size hr he K Q ?_ ?_
 ·intro c w' I' ι' r H' hR hv hr' hs';refine hk r H' _ w' hR ⟨?_,?_,I',ι',hr',hst.trans hs',iB.put hr hs' he hv (by rw[hs.size];exact hd)⟩
  ·rw[gC];exact hs.defers.step hr hs'
  have:=hs.size;cases o.dst<;>simpa[Act.put]using this
 intro ch w' I' ι' H' hP hr' hs';exact hp ch H' w' hP ⟨hs.defers.step hr hs',hs.size,I',ι',hr',hst.trans hs',fun t v ht=>let ⟨c,h1,h2⟩:=he t v ht;⟨c,h1,h2.mono hr hs'⟩⟩
theorem aFJ(hg:o.guard=none)(hd:gY N o.dst=true)(h:zU P N o E H R PP)(hp:∀ch H',PP ch H'->Q (.panic ch) E H')(hk:∀r H',R r H'->ALP P G0 N ops Q rest (iZ E o.dst r) H'):ALP P G0 N ops Q (o::rest) E H:=by intro G hG a w hs ro hro;refine wpListIn_plain hg fun K' hK=>?_;exact hs.opP hd h (fun r H' a' w' hR hs'=>hK _ _ (hk r H' hR G hG a' w' hs' ro (kI hro).2)) (fun ch H' w' hP hs'=>⟨E,H',hp ch H' hP,hs'⟩) (kI hro).1
theorem aIZ(hg:o.guard=none)(hd:gY N o.dst=true)(h:ZH P N o E H R)(hk:∀r H',R r H'->ALP P G0 N ops Q rest (iZ E o.dst r) H'):ALP P G0 N ops Q (o::rest) E H :=aFJ (PP:=fun _ _=>False) hg hd (.of h) (fun _ _ h=>h.elim) hk
theorem fU(hg:o.guard=none)(hd:o.dst=some d)(hn:Nat.blt d N=true)(h:cH P N o E H v H2)(hk:ALP P G0 N ops Q rest ((d,v)::E) H2):ALP P G0 N ops Q (o::rest) E H :=aIZ hg (by rw[hd];exact hn) h fun r H' ⟨e1,e2⟩=>by subst e1 e2;rw[hd];exact hk
theorem aFK(hg:o.guard=none)(hd:o.dst=none)(h:cH P N o E H v H2)(hk:ALP P G0 N ops Q rest E H2):ALP P G0 N ops Q (o::rest) E H :=aIZ hg (by rw[hd];rfl) h fun r H' ⟨e1,e2⟩=>by subst e1 e2;rw[hd];exact hk
theorem SS{F:Prop}(hg:o.guard=none)(hd:o.dst=some d)(hn:Nat.blt d N=true)(h:zU P N o E H (fun r H'=>r=v/\H'=H2/\F) PP)(hp:∀ch H',PP ch H'->Q (.panic ch) E H')(hk:F->ALP P G0 N ops Q rest ((d,v)::E) H2):ALP P G0 N ops Q (o::rest) E H :=aFJ hg (by rw[hd];exact hn) h hp fun r H' ⟨e1,e2,e3⟩=>by subst e1 e2;rw[hd];exact hk e3
theorem nD(hg:o.guard=none)(hd:gY N o.dst=true)(h:zU P N o E H (fun _ _=>False) PP)(hp:∀ch H',PP ch H'->Q (.panic ch) E H'):ALP P G0 N ops Q (o::rest) E H:=aFJ hg hd h hp (fun _ _ h=>h.elim)
theorem eW{id:Nat}(h:ALP P G0 N ops Q ops.toList E H):fL P G0 N (.region id ops false) Q E H:=fun G hG a w hs ro hr=>wpIn_region_list (h G hG a w hs ro hr)
end
def aF4(P:Program)(fn:Func)(G0:aB)(Q:AV->aB->Prop)(PP:FT->aB->Prop)(e:Exit)(E:bS)(H:aB):Prop :=HE P fn G0 Q e E H\/∃ch H',e=.panic ch/\Fin G0 H (.tup []) H' (.tup [])/\PP ch H'
theorem G9{PP:FT->aB->Prop}{e:Exit}(h:HE P fn G0 Q e E H):aF4 P fn G0 Q PP e E H:=.inl h
theorem A8{PP:FT->aB->Prop}{ch:FT}(hf:Fin G0 H (.tup []) H' (.tup []))(hp:PP ch H'):aF4 P fn G0 Q PP (.panic ch) E H:=.inr ⟨ch,H',rfl,hf,hp⟩
theorem eH.body{c:Code}{args:List AV}{PP:FT->aB->Prop}(hf:P.funcs[f]?=some fn)(hb:fn.body=some c)(hN:fn.ntmps=N)(hlen:args.length<=N)
  (h:fL P H N c (aF4 P fn H Q PP) (kV args) H):eH P f args H Q PP:=by
 intro I ι w vs hr hl hv;refine callsIn_wide.1 (callsIn_of_wp_marks (F:=Fence.wide) (n:=0) hf hb trivial ?_);have hst:St ⟨I,ι,H,w,[]⟩ N (kV args) H {tmps:=vs++Array.replicate (fn.ntmps - vs.size) undef,defers:=[]} w:=by
  refine⟨pF.nil _ _ _,?_,I,ι,hr,Step.refl _ _ _ _,fun t a ht=>?_⟩
  ·simp;omega
  have ha:=sA ht;have hlt:t<vs.size:=by rw[hl];exact(aNz.1 ha).1
  have hu:vs[t]?=some vs[t]:=Array.getElem?_eq_getElem hlt;exact⟨vs[t],by rw[Array.getElem?_append_left hlt];exact hu,hv t _ a hu ha⟩
 refine wpIn_mono (h ⟨I,ι,H,w,[]⟩ rfl _ w hst none (.inl rfl)) ?_;rintro e a' w' ⟨E',H',(⟨he,r,hres,r',H'',hfin,hq⟩|⟨ch,H'',rfl,hfin,hq⟩),hs⟩
 ·have key:LeavesInM Fence.wide 0 P fn a'.tmps (fun e w'=>(∃r H' I' ι' v,e=.returned v/\Q r H'/\VRel w' I' ι' H' v r/\Rel I' ι' H' w'/\Step I ι H w I' ι' H' w')\/(∃ch H' I' ι',e=.panicked ch/\PP ch H'/\Rel I' ι' H' w'/\Step I ι H w I' ι' H' w')) a'.defers .returning w':=by
   obtain ⟨I',ι',hr',hst',hE'⟩:=hs.rel;refine rU hs.defers hr' hst' hE' ?_;intro w2 hr2 hst2 hE2;obtain ⟨v,h1,h2⟩:=hres a' w2 I' ι' hr2 hE2;obtain ⟨I2,ι2,k1,k2,k3⟩:=hfin ⟨I,ι,H,w,[]⟩ rfl I' ι' w2 v hr2 hst2 h2;exact⟨v,h1,.inl ⟨r',H'',I2,ι2,v,rfl,hq,k3,k1,k2⟩⟩
  rcases he with rfl|rfl
  ·exact key
  exact key
 obtain ⟨I',ι',hr',hst',hE'⟩:=hs.rel;show LeavesInM Fence.wide 0 P fn a'.tmps _ a'.defers (.panicking ch) w';refine vD (by simp) hs.defers hr' hst' hE' ?_;intro w2 hr2 hst2 hE2;obtain ⟨I2,ι2,k1,k2,k3⟩:=hfin ⟨I,ι,H,w,[]⟩ rfl I' ι' w2 (.tuple #[]) hr2 hst2 (.tup rfl (by simp));exact .inr ⟨ch,H'',I2,ι2,rfl,hq,k1,k2⟩
theorem LU{I I':Nat->Prop}{ι ι':dX}{w':World}(hr:Rel I ι H w)(hs:Sub H0 H)(k2:Rel I' ι' H' w')(k3:Step I ι H0 w I' ι' H' w')(hk:∀id,(H'.get id).isSome=true->(H0.get id).isSome=true\/H.get id=none):
  ∃ι2,Rel I' ι2 (H'++H) w'/\Step I ι H w I' ι2 (H'++H) w'/\∀v a,VRel w' I' ι' H' v a->VRel w' I' ι2 (H'++H) v a:=by
 obtain ⟨ι2,hι2⟩:∃ι2:dX,ι2=(fun j=>if(H'.get j).isSome=true then ι' j else ι j):=⟨_,rfl⟩;have i1:∀j o,H'.get j=some o->ι2 j=ι' j:=fun j o hj=>by rw[hι2];simp[hj]
 have i2:∀j,H'.get j=none->ι2 j=ι j:=fun j hj=>by rw[hι2];simp[hj]
 have g1:∀j o,H'.get j=some o->aB.get (H'++H) j=some o:=fun j o hj=>by rw[eX,hj]
 have g2:∀j,H'.get j=none->aB.get (H'++H) j=H.get j:=fun j hj=>by rw[eX,hj]
 have hfr:∀j o,H.get j=some o->H'.get j=none->H0.get j=none:=fun j o hj hn=>by
  cases e:H0.get j with
  |none=>rfl
  |some o0 =>
   obtain ⟨o',e1,_⟩:=k3.objs j o0 e;rw[hn]at e1;cases e1
 have hno:∀j o b c,H.get j=some o->H'.get j=none->ι j=some (b,c)->¬ H9 ι H0 b:=fun j o b c hj hn hb ⟨j',o',c',hj',hb'⟩=>by
  have:=hr.inj j j' o o' b c c' hj (hs _ _ hj') hb hb';subst this;rw[hfr j o hj hn]at hj';cases hj'
 have hst:Step I ι H w I' ι2 (H'++H) w':=by
  refine⟨k3.os,k3.tape,k3.output,k3.size,fun a ha hn=>k3.froz a ha (fun h=>hn (h.sub hs)),k3.imm,fun b hb=>?_,?_,?_,?_⟩
  ·rcases k3.immNew b hb with h1|h1|h1
   ·exact .inl h1
   ·exact .inr (.inl (h1.sub hs))
   exact .inr (.inr h1)
  ·rintro b ⟨j,o,c,hj,hc⟩;cases e:H'.get j with
   |some o' =>
    rw[i1 j o' e]at hc;rcases k3.own b ⟨j,o',c,e,hc⟩with h1|h1
    ·exact .inl (h1.sub hs)
    exact .inr h1
   |none =>
    rw[i2 j e]at hc;rw[g2 j e]at hj;exact .inl ⟨j,o,c,hj,hc⟩
  ·intro b hb hn;exact k3.keep b hb (fun h=>hn (h.sub hs))
  intro j o hj;cases e:H'.get j with
  |some o' =>
   rcases hk j (by rw[e];rfl)with h1|h1
   ·obtain ⟨o0,e0⟩:=Option.isSome_iff_exists.1 h1;have:=hs _ _ e0;rw[hj]at this;cases this;obtain ⟨o2,q1,q2,q3⟩:=k3.objs j o e0;exact⟨o2,g1 j o2 q1,q2,fun e=>by rw[i1 j o2 q1];exact q3 e⟩
   rw[hj]at h1;cases h1
  |none=>exact⟨o,(g2 j e).trans hj,aOB _,fun _=>⟨i2 j e,rfl,fun _=>aOB _⟩⟩
 have hv':∀ {v:Value} {a:AV},VRel w' I' ι' H' v a->VRel w' I' ι2 (H'++H) v a:=fun hva =>
  hva.mono' (fun _ _=>rfl) (fun _ h=>h) (fun id o ho=>⟨o,g1 id o ho,aOB _,fun _=>⟨i1 id o ho,rfl,fun _=>aOB _⟩⟩)
 refine⟨ι2,⟨k2.imm,fun j o hj=>?_,fun j j' o o' b c c' hj hj' hc hc'=>?_,k2.glob⟩,hst,fun v a h=>hv' h⟩
 ·cases e:H'.get j with
  |some o' =>
   rw[g1 j o' e]at hj;obtain rfl:o'=o:=Option.some.inj hj;exact(k2.obj j o' e).keep (i1 j o' e) (fun _ _ _ _=>⟨rfl,fun h=>h⟩) (fun r _ a _ v hv=>hv' hv)
  |none =>
   rw[g2 j e]at hj;refine(hr.obj j o hj).keep (i2 j e) (fun b' cap' e1 hlt=>⟨k3.keep b' hlt (hno j o b' cap' hj e e1),fun e3 hi=>?_⟩) (fun r _ a _ v hv=>hv.mono hr hst);rcases k3.immNew b' hi with h1|h1|h1
   ·exact e3 h1
   ·exact hno j o b' cap' hj e e1 h1
   omega
 cases e:H'.get j with
 | some q =>
  rw[i1 j q e]at hc;cases e':H'.get j' with
  |some q' =>
   rw[i1 j' q' e']at hc';exact k2.inj j j' q q' b c c' e e' hc hc'
  |none =>
   rw[i2 j' e']at hc';rw[g2 j' e']at hj';have hlt:=hr.lt ⟨j',o',c',hj',hc'⟩;rcases k3.own b ⟨j,q,c,e,hc⟩with h1|h1
   ·exact absurd h1 (hno j' o' b c' hj' e' hc')
   omega
 | none =>
  rw[i2 j e]at hc;rw[g2 j e]at hj;cases e':H'.get j' with
  |some q' =>
   rw[i1 j' q' e']at hc';have hlt:=hr.lt ⟨j,o,c,hj,hc⟩;rcases k3.own b ⟨j',q',c',e',hc'⟩with h1|h1
   ·exact absurd h1 (hno j o b c hj e hc)
   omega
  |none =>
   rw[i2 j' e']at hc';rw[g2 j' e']at hj';exact hr.inj j j' o o' b c c' hj hj' hc hc'
theorem eH.conv{args:List AV}{PP PP':FT->aB->Prop}(h:eH P f args H Q PP)(hq:∀r H',Q r H'->∃H2,(∀j,H2.get j=H'.get j)/\Q' r H2)(hp:∀ch H',PP ch H'->∃H2,(∀j,H2.get j=H'.get j)/\PP' ch H2):eH P f args H Q' PP' :=fun I ι w vs hr hl hv=>(h I ι w vs hr hl hv).mono fun _ _ h=>by
  rcases h with⟨r,H',I',ι',v,e,q,k1,k2,k3⟩|⟨ch,H',I',ι',e,q,k2,k3⟩
  ·obtain ⟨H2,hH,hq'⟩:=hq r H' q;obtain ⟨x1,x2⟩:=k2.congr hH;exact .inl ⟨r,H2,I',ι',v,e,hq',k1.mono k2 x2,x1,k3.trans x2⟩
  obtain ⟨H2,hH,hq'⟩:=hp ch H' q;obtain ⟨x1,x2⟩:=k2.congr hH;exact .inr ⟨ch,H2,I',ι',e,hq',x1,k3.trans x2⟩
theorem eH.frame{args:List AV}{PP:FT->aB->Prop}(h:eH P f args H0 R PP)(hs:Sub H0 H)(hc:dF H0)(ha:∀a∈args,Clo H0 a)
  (hk0:∀r H1,R r H1->∀id,(H1.get id).isSome=true->(H0.get id).isSome=true\/H.get id=none) (hk1:∀ch H1,PP ch H1->∀id,(H1.get id).isSome=true->(H0.get id).isSome=true\/H.get id=none) :
  eH P f args H (fun r H'=>∃K,R r K/\H'=K++H) (fun ch H'=>∃K,PP ch K/\H'=K++H):=by
 intro I ι w vs hr hl hv;refine(h I ι w vs (hr.restrict hs hc) hl (fun i v a h1 h2=>(hv i v a h1 h2).restrict hs (ha a (aOF h2)))).mono ?_;rintro e w' (⟨r,H',I',ι',v,rfl,hR,k1,k2,k3⟩|⟨ch,H',I',ι',rfl,hR,k2,k3⟩)
 ·obtain ⟨ι2,q1,q2,q3⟩:=LU hr hs k2 k3 (hk0 r H' hR);exact .inl ⟨r,H'++H,I',ι2,v,rfl,⟨H',hR,rfl⟩,q3 _ _ k1,q1,q2⟩
 obtain ⟨ι2,q1,q2,q3⟩:=LU hr hs k2 k3 (hk1 ch H' hR);exact .inr ⟨ch,H'++H,I',ι2,rfl,⟨H',hR,rfl⟩,q1,q2⟩
end
end Go.Abs
