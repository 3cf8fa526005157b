/-
  Parts of the proof: rules of an abstract program logic, contracts of functions, plain laws. Conditions: each theorem's own.
-/
import Derived.Test.YtiifmppaejpemaaGreatDoorKR2M12
set_option linter.unusedVariables false
set_option linter.unusedSimpArgs false
set_option maxRecDepth 100000
set_option maxHeartbeats 8000000
namespace Go.Proofs
theorem mL:type_of% Tryz.call103:=Tryz.call103
theorem wI:type_of% Tryz.call190:=Tryz.call190
theorem C0:type_of% Tryz.call191:=Tryz.call191
theorem aNS:type_of% Tryz.call192:=Tryz.call192
theorem aFf:type_of% Tryz.call40:=Tryz.call40
theorem aFe:type_of% Tryz.call41:=Tryz.call41
end Go.Proofs
namespace Go.Proofs.YtiifmppaejpemaaGreatDoor
open Go.Proofs.Tryz
open Go.Abs Go.Lib
theorem QN (s:List UInt8) (H:aB):∀ r∈eN s,∀ a∈r,Clo H a:=by intro r hr a ha;obtain ⟨b,_,rfl⟩:=List.mem_map.1 hr;rw [aOC.1 ha];exact .pv _
abbrev TX:ByteArray:=⟨#[48,49,50,51,52,53,54,55,56,57]⟩
theorem aIk:∀ q:Fin 10,(TX.extract q.1 (q.1+1)).data.toList=[UInt8.ofNat (48+q.1)]:=fun q=>by
 rw [jP,show q.1+1 - q.1=1 by omega];revert q;decide
theorem aCk {q:Nat} (h:q < 10):TX.extract q (q+1)=ofL [UInt8.ofNat (48+q)]:=rW (by rw [aIk ⟨q,h⟩,cZ])
theorem aDu (a b:List UInt8):ofL a++ofL b=ofL (a++b):=rW (by rw [ByteArray.data_append,Array.toList_append,cZ,cZ,cZ])
def SO (v:Nat):List UInt8:=if v=0 then[] else decDigits v
theorem aBw {v:Nat} (h:0 < v) (t:List UInt8):SO (v / 10)++(UInt8.ofNat (48+v % 10)::t)=SO v++t:=by
 have e:SO v=decDigits v:=aNx (by omega);rw [e,decDigits];by_cases h10:v < 10
 ·rw [dif_pos h10,SO,aNy (by omega),Nat.mod_eq_of_lt h10];rfl
 rw [dif_neg h10,SO,aNx (by omega),List.append_assoc];rfl
theorem YU (n:Nat):SO (n / 10)++[UInt8.ofNat (48+n % 10)]=decDigits n:=by
 rw [decDigits];by_cases h10:n < 10
 ·rw [dif_pos h10,SO,aNy (by omega),Nat.mod_eq_of_lt h10];rfl
 rw [dif_neg h10,SO,aNx (by omega)]
theorem aDP (n:Nat) (hn:n < 9223372036854775808) (H:aB):aI Tryz.prog 152 [uv n] H (fun r H'=>r=sv (ofL (decDigits n))∧H'=H):=by
 refine Pu ?_;have step:∀ v:Nat,v < 18446744073709551616→((v:Nat):Int).tmod 10=((v % 10:Nat):Int)∧IntKind.u64.wrap (((v:Nat):Int).tdiv 10)=((v / 10:Nat):Int)∧IntKind.u64.wrap (((v % 10:Nat):Int)+1)=((v % 10+1:Nat):Int)∧v % 10 < 10∧v % 10+1≤TX.size:=fun v hv=>by
  refine⟨by rw [Int.tmod_eq_emod_of_nonneg (by omega)];omega,by rw [Int.tdiv_eq_ediv_of_nonneg (by omega),IntKind.wrap_u64];omega,by rw [IntKind.wrap_u64];omega,Nat.mod_lt _ (by decide),?_⟩;have:TX.size=10:=rfl;omega
 obtain ⟨a1,a2,a3,a4,a5⟩:=step n (by omega);have hx:=aCk a4;have hfin:=YU n;obtain ⟨g,hg⟩:∃ g,g=n % 10:=⟨_,rfl⟩;rw [← hg] at a1 a3 a4 a5 hx hfin;refine Bd func152 rfl ntmps152<|Sr<|Dd aN<|Zz<|Sr<|Dd aF<|Dd (by exact CB rfl rfl rfl (by decide) a1)<|Dd aF<|Dd (by exact CB rfl rfl rfl (by decide) a1)<|Dd (by exact cI rfl rfl rfl a3)<|Dd (by exact cO (l:=g) (h:=g+1) rfl underlying9 rfl rfl rfl (by omega) a5 hx)<|Dd aN<|Zz<|Sq<|Sr<|Dd aF<|Dd (by exact CC rfl rfl rfl (by decide) a2)<|Dd aN<|Zz<|aG ?_;refine jI (fun(v:Nat) (t:List UInt8)=>([(0,uv v),(3,sv (ofL t))],[])) (fun v t=>v < 9223372036854775808∧SO v++t=decDigits n) (fun v t=>v) (n / 10) [UInt8.ofNat (48+g)] ⟨by omega,hfin⟩ ?_ ?_
 ·exact Wk
 rintro v t ⟨hv,hvt⟩;obtain ⟨b1,b2,b3,b4,b5⟩:=step v (by omega);have hx:=aCk b4;have hlen:t.length≤21:=by
  have h1:=congrArg List.length hvt;rw [aOA] at h1;have h2:=dU (k:=19) (u:=n) (by omega) (by decide);omega
 by_cases h0:0 < v
 ·have hst:=aBw h0 t;rw [hvt] at hst;obtain ⟨g,hg⟩:∃ g,g=v % 10:=⟨_,rfl⟩;rw [← hg] at b1 b3 b4 b5 hx hst;refine Sq<|Sr<|Dd aF<|Dd jE<|Zz ?_;refine Cn ?_ ?_<;>intro hc1
  ·refine aD<|Sq<|aG<|Rg<|Dd aF<|Dd (by exact CB rfl rfl rfl (by decide) b1)<|Dd aF<|Dd (by exact CB rfl rfl rfl (by decide) b1)<|Dd (by exact cI rfl rfl rfl b3)<|Dd (by exact cO (l:=g) (h:=g+1) rfl underlying9 rfl rfl rfl (by omega) b5 hx)<|Dd aF<|Dd (by exact cD rfl rfl rfl (by rw [dA,dA,List.length_singleton];omega) (aDu [UInt8.ofNat (48+g)] t))<|Dd aN<|Zz<|Rg<|Dd aF<|Dd (by exact CC rfl rfl rfl (by decide) b2)<|Da ?_;exact⟨v / 10,UInt8.ofNat (48+g)::t,⟨by omega,hst⟩,by omega,Wk⟩
  (have h:=aNw hc1;omega)
 have hv0:v=0:=by omega
 subst hv0;have ht:t=decDigits n:=hvt;subst ht;refine Sq<|Sr<|Dd aF<|Dd jE<|Zz ?_;refine Cn ?_ ?_<;>intro hc2
 ·cases hc2
 exact bC<|Sr<|Dd aF<|Dd aN<|Zz<|aC<|Rt<|Qq
theorem T7 (n:Nat) (hn:n < 9223372036854775808) (H:aB):aI Tryz.prog 103 [iv (n:Int)] H (fun r H'=>r=sv (ofL (decDigits n))∧H'=H):=by
 refine Pu ?_;have hd:=fun H=>aDP n hn H;refine Bd func103 rfl ntmps103<|Sr<|Dd aN<|Zz<|Sq<|Sr<|Dd aF<|Dd dK<|Zz ?_;refine Cn ?_ ?_<;>intro hc1
 ·(have h:=aNv hc1;omega)
 exact aD<|Sr<|Dd aF<|Dd (by exact mZ rfl underlying3 oM rfl (aCc (by omega)))<|Dd (by exact aA rfl rfl call152 rfl (hd _))<|Dd aN<|Zz<|aC<|Rt<|Qq
def EH (L:List ByteArray):Nat:=(L.map fun s=>s.size+21).sum
theorem aAu (L:List ByteArray) (s:ByteArray):EH (L++[s])=EH L+(s.size+21):=by rw [EH,List.map_append,List.sum_append];rfl
theorem ZT:∀ {L:List ByteArray},(∀ s∈L,s.size≤100000000)→EH L≤L.length*100000021
 | [],_=>aOQ _
 | s::r,h=>by
  have ih:=ZT (L:=r) (fun x hx=>h x (List.mem_cons_of_mem _ hx));have hs:=h s List.mem_cons_self;show s.size+21+EH r≤_;rw [aOB,Nat.add_mul];omega
theorem P3:∀ {L:List ByteArray},(∀ s∈L,s.size≤100000000)→(aM L).length≤EH L
 | [],_=>aOQ _
 | s::r,h=>by
  have ih:=P3 (L:=r) (fun x hx=>h x (List.mem_cons_of_mem _ hx));have hs:=h s List.mem_cons_self;have hd:=dU (k:=9) (u:=s.size) (by omega) (by decide);rw [vK,aOA,aOB,aOA,aW];show _≤s.size+21+EH r;omega
theorem UY (L:List ByteArray) (s:ByteArray):aM (L++[s])=(aM L++decDigits s.size)++[58]++s.data.toList:=by rw [BG,vK];show aM L++(decDigits s.size++58::(s.data.toList++[]))=_;rw [List.append_nil,List.append_assoc,List.append_assoc];rfl
theorem O7 (L:List ByteArray) (hL:L.length≤100000) (hs:∀ s∈L,s.size≤100000000) (H:aB):aI Tryz.prog 40 [.pv (aX L)] H (fun r H'=>r=sv (ofL (aM L))∧H'=H):=by
 refine Pu ?_;have hml:(L.map encStr).length=L.length:=aNz _;have htk:∀ i,EH (L.take i)≤10000002100000:=fun i=>by
  have h1:=ZT (L:=L.take i) (fun s h=>hs s (List.mem_of_mem_take h));have h2:(L.take i).length≤100000:=by rw [aON];omega
  have h3:=Nat.mul_le_mul_right 100000021 h2;omega
 have hjl:∀ i,(aM (L.take i)).length≤EH (L.take i):=fun i=>P3 fun s h=>hs s (List.mem_of_mem_take h);refine Bd func40 rfl ntmps40<|Sr<|Dd aN<|Zz<|Sr<|Dd aN<|Zz<|Sq<|Sr<|Dd aN<|Zz<|aG ?_;refine bT (σ:=Nat) (fun i=>([(0,.pv (aX L)),(3,iv (EH (L.take i):Int)),(4,iv (i:Int))],[])) (fun i=>i≤L.length) (fun i=>L.length - i) 0 (aOQ _) ?_ ?_
 ·exact Wk
 intro i hi;have hb:=htk i;refine Sq<|Sr<|Dd aF<|Dd aF<|Dd (fY aE)<|Dd dK<|Zz ?_;refine Cn ?_ ?_<;>intro hc1
 ·have hlt:i < L.length:=by have:=aNv hc1;omega
  obtain ⟨s,hsi⟩:=aZ hlt;have his:=cP (f:=encStr) hsi;have hsz:=hs s (aOJ hsi);have hnx:EH (L.take (i+1))=EH (L.take i)+(s.size+21):=by rw [sX hsi,aAu]
  refine aD<|Sq<|aG<|Rg<|Dd aF<|Dd aF<|Dd aF<|Dd (by exact bW rfl cA rfl rfl (by omega) (by exact aOK _) his rfl)<|Dd (jA isAgg9)<|Dd (lH underlying9)<|Dd (by exact cI rfl rfl rfl (show IntKind.i64.wrap ((s.size:Int)+21)=((s.size+21:Nat):Int)by rw [pB (by omega) (by omega)];omega))<|Dd (by exact cI rfl rfl rfl (show IntKind.i64.wrap ((EH (L.take i):Int)+((s.size+21:Nat):Int))=((EH (L.take (i+1)):Nat):Int)by rw [hnx,pB (by omega) (by omega)];omega))<|Dd aN<|Zz<|Rg<|Dd aF<|Dd (by exact cI rfl rfl rfl (show IntKind.i64.wrap ((i:Int)+1)=((i+1:Nat):Int)by rw [pB (by omega) (by omega)];omega))<|Da ?_;exact⟨i+1,by omega,by omega,Wk⟩
 have hge:i=L.length:=by have:=aNw hc1;omega
 refine bC<|Sr<|Dd aF<|Dd (by exact AX (id:=905) rfl wR ei5 zo5 rfl rfl rfl (by omega) (by omega) (by exact aOK _) (by exact aOK _) (by omega) rfl)<|Dd aN<|Zz<|Sq<|Sr<|Dd aN<|Zz<|aG ?_;refine bT (σ:=Nat) (fun i=>([(0,.pv (aX L)),(5,.osl 905 (3*i) 0 (aM (L.take i)).length),(6,iv (i:Int))],[(905,⟨3*i,1,5,eN (aM (L.take i))⟩)])) (fun i=>i≤L.length) (fun i=>L.length - i) 0 (aOQ _) ?_ ?_
 ·exact(cY.wk (Eb<|Ea<|Eb<|trivial) (Hc (QN _ _)<|trivial) trivial)
 clear hge hb hi;intro i hi;have hb:=htk i;have hj:=hjl i;have hb2:=htk (i+1);have hj2:=hjl (i+1);refine Sq<|Sr<|Dd aF<|Dd aF<|Dd (fY aE)<|Dd dK<|Zz ?_;refine Cn ?_ ?_<;>intro hc2
 ·have hlt:i < L.length:=by have:=aNv hc2;omega
  obtain ⟨s,hsi⟩:=aZ hlt;have his:=cP (f:=encStr) hsi;have hsz:=hs s (aOJ hsi);have hdec:=fun H=>T7 s.size (by omega) H;have hnx:aM (L.take (i+1))=(aM (L.take i)++decDigits s.size)++[58]++s.data.toList:=by rw [sX hsi,UY]
  have hdl:=dU (k:=9) (u:=s.size) (by omega) (by decide);obtain ⟨J,hJ⟩:∃ J,J=aM (L.take i):=⟨_,rfl⟩;rw [← hJ] at hnx hj ⊢;have hds:=dA (decDigits s.size);have h39:(eN (J++decDigits s.size)).length=J.length+(decDigits s.size).length:=by rw [oZ,aOA]
  have h45:(eN ((J++decDigits s.size)++[58])).length=J.length+(decDigits s.size).length+1:=by rw [oZ,aOA,aOA];rfl
  refine aD<|Sq<|aG<|Sr<|Dd aF<|Dd aF<|Dd aF<|Dd (by exact bW rfl cA rfl rfl (by omega) (by exact aOK _) his rfl)<|Dd (jA isAgg9)<|Dd (lH underlying9)<|Dd (by exact aA rfl rfl mL rfl (hdec _))<|Dd (by exact sC (rows':=eN (J++decDigits s.size)) (k:=J.length+(decDigits s.size).length) rfl wR underlying9 ei5 JG rfl rfl rfl rfl rfl (oZ J) rfl (by rw [hds];omega) (by rw [hds]) (by rw [cZ];exact qP J (decDigits s.size)))<|Dd aN<|Zz<|Sr<|Dd aF<|Dd (by exact aR [[.int .u8 58]] rfl wR rfl rfl rfl rfl rfl (by simp))<|Dd (by exact dH (k:=J.length+(decDigits s.size).length+1) (ps:=[[.int .u8 58]]) rfl wR ei5 rfl rfl rfl rfl rfl h39 rfl (by simp) (m:=1) rfl (by omega) rfl (qP (J++decDigits s.size) [58]))<|Dd aN<|Zz<|Rg<|Dd aF<|Dd aF<|Dm ?_;refine Dd (lN cA)<|Dd (jA isAgg9 (hi:=his))<|Dd (by exact sC (k:=J.length+(decDigits s.size).length+1+s.size) rfl wR underlying9 ei5 JG rfl rfl rfl rfl rfl h45 rfl (by omega) rfl (qP ((J++decDigits s.size)++[58]) s.data.toList))<|Dd aN<|Zz<|Rg<|Dd aF<|Dd (by exact cI rfl rfl rfl (show IntKind.i64.wrap ((i:Int)+1)=((i+1:Nat):Int)by rw [pB (by omega) (by omega)];omega))<|Da ?_;refine⟨i+1,by omega,by omega,?_⟩;rw [hnx];have hlen:(J++decDigits s.size++[58]++s.data.toList).length=J.length+(decDigits s.size).length+1+s.size:=by
   rw [aOA,aOA,aOA,aW];rfl
  rw [hlen];exact(cY.wk (Eb<|Ea<|Eb<|trivial) (Hc (QN _ _)<|trivial) trivial)
 have hge:i=L.length:=by have:=aNw hc2;omega
 subst hge;rw [List.take_length] at hj ⊢;obtain ⟨J,hJ⟩:∃ J,J=aM L:=⟨_,rfl⟩;rw [← hJ];have hb46:((eN J).drop 0).take J.length=eN J:=by rw [List.drop_zero,List.take_of_length_le (by rw [oZ];exact aOF _)]
 exact bC<|Sr<|Dd aF<|Dd (by exact N1 rfl dC iV underlying9 rfl rfl rfl rfl hb46 rfl)<|Dd aN<|Zz<|aC<|Rt<|Qq
end Go.Proofs.YtiifmppaejpemaaGreatDoor
namespace Go.Proofs.YtiifmppaejpemaaGreatDoor
open Go.Proofs.Tryz
open Go.Abs
def st1 (c:UInt8):ByteArray:=⟨#[c]⟩
def aIL (c:UInt8):GObj:=⟨st1 c,1,(c.toNat:Int),0,[],[]⟩
def cs3:List UInt8:=[97,98,99]
def aM7:GObj:=⟨st1 119,2,0,0,cs3.map st1,[]⟩
def s0:List GObj:=cs3.map aIL++[aM7]
def x1:List GObj:=cs3.map aIL++[⟨st1 118,2,0,0,[st1 98,st1 99],[]⟩,⟨st1 119,2,0,0,[st1 97,st1 98],[]⟩]
end Go.Proofs.YtiifmppaejpemaaGreatDoor
section
namespace Go.Proofs.YtiifmppaejpemaaGreatDoor
open Go.Proofs.Tryz
open Go.Abs
structure M3 where
 k:ByteArray
 b:ByteArray
 o:ByteArray
 t:ByteArray
end Go.Proofs.YtiifmppaejpemaaGreatDoor
namespace Go.Abs
end Go.Abs
namespace Go.Proofs.YtiifmppaejpemaaGreatDoor
open Go.Proofs.Tryz
open Go.Abs
end Go.Proofs.YtiifmppaejpemaaGreatDoor
end
namespace Go.Proofs.YtiifmppaejpemaaGreatDoor
open Go.Proofs.Tryz
open Go.Abs
def m1 (p:M3):ByteArray×Bool:=if p.t=p.o then(p.o,false)else if p.t=p.b then(p.o,false)else if p.o=p.b then(p.t,false)else(p.b,true)
def zs (down:Bool):List Int:=if down then[2,1,0] else[0,1,2]
def aMy (m:List GObj) (down:Bool):List GObj:=(zs down).flatMap fun z=>m.filter fun o=>decide (o.kind.tdiv 2=z)
def aJp (b:List GObj) (o:GObj):Bool:=match aMx b o.id with
 | some p=>!decide (p.kind=o.kind)||(decide (o.kind=5)&&!decide (o.refs=p.refs))
 | none=>false
def rnB (b:List GObj) (X:List ByteArray) (o:GObj):Bool:=aJp b o||o.refs.any (inB X)
def rnL (b:List GObj):List ByteArray→List GObj→List ByteArray
 | X,[]=>X
 | X,o::L=>rnL b (if rnB b X o then X++[o.id] else X) L
def aMU (a b:List GObj):List ByteArray:=rnL b [] (aMy a false)
section
section
variable {a b:List GObj}
def c1 (k:GObj×GObj):GObj:=⟨k.1.id,k.1.kind,k.2.x,k.2.y,k.1.refs,k.1.tags⟩
def c2 (k:GObj×GObj):GObj:=⟨k.1.id,k.1.kind,k.2.x,k.2.y,k.2.refs,k.1.tags⟩
def c3 (k:GObj×GObj):GObj:=⟨k.1.id,k.1.kind,k.2.x,k.2.y,k.2.refs,k.2.tags⟩
end
end
end Go.Proofs.YtiifmppaejpemaaGreatDoor
namespace Go.Proofs.YtiifmppaejpemaaGreatDoor
open Go.Proofs.Tryz
section
def aIj (u:List Nat) (i:Nat):Nat:=u.getD i i
def aKr:Nat→List Nat→Nat→Nat
 | 0,_,i=>i
 | n+1,u,i=>if aIj u i=i then i else aKr n u (aIj u i)
def top (u:List Nat) (i:Nat):Nat:=aKr i u i
def aNM (u:List Nat):Prop:=∀ i,aIj u i≤i
def Inv (L:Nat→Nat→Prop) (f:Nat→Nat):Prop:=∀ i k,L i k→f i=f k
structure Snd (L:Nat→Nat→Prop) (u:List Nat):Prop where
 ok:aNM u
 sn:∀ f,Inv L f→∀ x,f (top u x)=f x
section
variable {S:Type} [DecidableEq S]
def aHQ:List (S×Nat)→S→Option Nat
 | [],_=>none
 | (k,v)::r,s=>if k=s then some v else aHQ r s
structure I1 (L:Nat→Nat→Prop) (W:Nat→List S) (k m:Nat) (st:List Nat×List (S×Nat)):Prop where
 len:st.1.length=m
 snd:Snd L st.1
 at_:∀ s j,aHQ st.2 s=some j→j < m∧s∈W j
 has:∀ j,j < k→∀ s,s∈W j→(aHQ st.2 s).isSome=true
structure I2 (L:Nat→Nat→Prop) (F:List (S×Nat)) (N:Nat→List S) (n k:Nat) (u:List Nat):Prop where
 len:u.length=n
 snd:Snd L u
 same:∀ i,i < k→∀ s,s∈N i→∀ j,aHQ F s=some j→top u i=top u j
end
end
def aIG (f:Nat→Nat) (n:Nat):List Nat:=(List.range n).filter fun i=>f i=i
def grp (f:Nat→Nat) (n r:Nat):List Nat:=(List.range n).filter fun j=>f j=r
def aNB (f:Nat→Nat) (n:Nat):List (List Nat):=(aIG f n).map (grp f n)
def aN7 (f:Nat→Nat) (n x:Nat):Nat:=(aIG f n).idxOf (f x)
end Go.Proofs.YtiifmppaejpemaaGreatDoor
namespace Go.Proofs.YtiifmppaejpemaaGreatDoor
open Go.Proofs.Tryz
open Go.Abs
theorem U8 {l:List GEdit} (h:jN l=true):0 < l.length∧l.length≤200∧∀ e∈l,dP e=true:=by rw [jN,aOI,aOI,aOG,aOG,aOS,List.any_eq_false] at h;obtain ⟨⟨h1,h2⟩,h3⟩:=h;exact⟨by omega,by omega,fun e he=>by have:=h3 e he;simpa using this⟩
end Go.Proofs.YtiifmppaejpemaaGreatDoor
namespace Go.Proofs.YtiifmppaejpemaaGreatDoor
open Go.Proofs.Tryz
open Go.Abs Go.Lib
theorem aIw (u:Nat):∀ H,u < 1000000000→aI Tryz.prog 191 [iv (u:Int)] H (fun r H'=>r=sv (ofL (decDigits u))∧H'=H):=by
 induction u using Nat.strongRecOn with
 | ind u ih =>
  intro H hu;refine Pu ?_;refine Bd func191 rfl ntmps191<|Sr<|Dd aN<|Zz<|Sq<|Sr<|Dd aF<|Dd dK<|Zz ?_;refine Cn ?_ ?_<;>intro hc1
  ·have hl:u < 10:=by have:=aNv hc1;omega
   have h10:(⟨#[48,49,50,51,52,53,54,55,56,57]⟩:ByteArray).size=10:=rfl;have hr:(⟨#[48,49,50,51,52,53,54,55,56,57]⟩:ByteArray).extract u (u+1)=ofL (decDigits u):=by
    rw [decDigits,dif_pos hl];have h:u=0∨u=1∨u=2∨u=3∨u=4∨u=5∨u=6∨u=7∨u=8∨u=9:=by omega
    rcases h with rfl|rfl|rfl|rfl|rfl|rfl|rfl|rfl|rfl|rfl<;>rfl
   exact Sr<|Dd aF<|Dd aF<|Dd lR<|Dd (by exact cO (l:=u) (h:=u+1) rfl underlying9 rfl rfl rfl (by omega) (by omega) hr)<|Dd aN<|Zz<|aC<|Rt<|Qq
  have hl:¬ u < 10:=by have:=aNw hc1;omega
  have hq:IntKind.i64.wrap ((u:Int).tdiv 10)=((u / 10:Nat):Int):=by
   rw [show (u:Int).tdiv 10=((u / 10:Nat):Int)from rfl];exact pB (by omega) (by omega)
  have hs1:(ofL (decDigits (u / 10))).size≤9:=by rw [dA];exact dU (by omega) (by decide)
  have hs2:(ofL (decDigits (u % 10))).size≤1:=by rw [dA];exact dU (by omega) (by decide)
  have hj:ofL (decDigits (u / 10))++ofL (decDigits (u % 10))=ofL (decDigits u):=eqL (by
   rw [show (ofL (decDigits (u / 10))++ofL (decDigits (u % 10))).data.toList=(ofL (decDigits (u / 10))).data.toList++(ofL (decDigits (u % 10))).data.toList by simp,cZ,cZ,cZ];rw [show decDigits u=decDigits (u / 10)++[UInt8.ofNat (48+u % 10)] by rw [decDigits,dif_neg hl]];congr 1;rw [decDigits,dif_pos (by omega)])
  exact aD<|Sr<|Dd aF<|Dd (by exact CC rfl rfl rfl (by decide) hq)<|Dd (by exact aA rfl rfl C0 rfl (ih (u / 10) (by omega) _ (by omega)))<|Dd aF<|Dd (by exact CB rfl rfl rfl (by decide) (rfl:(u:Int).tmod 10=((u % 10:Nat):Int)))<|Dd (by exact aA rfl rfl C0 rfl (ih (u % 10) (by omega) _ (by omega)))<|Dd (by exact cD rfl rfl rfl (by omega) hj)<|Dd aN<|Zz<|aC<|Rt<|Qq
theorem xK {ws:List ByteArray} {k:Nat} {w:ByteArray} (h:ws[k]?=some w):ofL (bS [32] (bs (ws.take (k+1))))=(if 0 < k then ofL (bS [32] (bs (ws.take k)))++⟨#[32]⟩else ofL (bS [32] (bs (ws.take k))))++w:=by
 have hk:=(aOD.1 h).1;refine eqL ?_;rw [List.take_add_one,h,Option.toList_some,bs,List.map_append];cases k with
 | zero =>
  rw [aNx (by omega),List.take_zero];simp [bS,bs,ofL]
 | succ k =>
  rw [aNy (by omega)];cases ws with
  | nil=>cases hk
  | cons x l =>
   rw [List.take_succ_cons];simp [ofL,bs,bS]
theorem B4 (ws:List ByteArray) (H:aB) (hb:cV ws+ws.length < 1099511627776):aI Tryz.prog 190 [.pv (aX ws)] H (fun r H'=>r=sv (ofL (bS [32] (bs ws)))∧H'=H):=by
 refine Pu ?_;have hmw:(ws.map encStr).length=ws.length:=aNz _;refine Bd func190 rfl ntmps190<|Sr<|Dd aN<|Zz<|Sr<|Dd aN<|Zz<|Sq<|Sr<|Dd aN<|Zz<|aG ?_;refine bT (σ:=Nat) (fun k=>([(0,.pv (aX ws)),(3,sv (ofL (bS [32] (bs (ws.take k))))),(4,iv (k:Int))],[])) (fun k=>k≤ws.length) (fun k=>ws.length - k) 0 (aOQ _) ?_ ?_
 ·exact Wk
 rintro k hk;have hsz:(ofL (bS [32] (bs (ws.take k)))).size≤cV ws+ws.length:=by
  rw [dA];have h1:=eW (ws.take k);have h2:=lJ ws k;have h3:(ws.take k).length≤ws.length:=by rw [aON];exact Nat.min_le_right _ _
  omega
 refine Sq<|Sr<|Dd aF<|Dd aF<|Dd (fY aE)<|Dd dK<|Zz ?_;refine Cn ?_ ?_<;>intro hc1
 ·have hlt:k < ws.length:=by have:=aNv hc1;omega
  obtain ⟨w,hw⟩:=aZ hlt;have hiw:=cP (f:=encStr) hw;have hnx:=xK hw;have hws:w.size≤cV ws:=by
   have h1:=tE hw;have h2:=lJ ws (k+1);omega
  have h32:(⟨#[32]⟩:ByteArray).size=1:=rfl;have hs2:(ofL (bS [32] (bs (ws.take k)))++⟨#[32]⟩).size=(ofL (bS [32] (bs (ws.take k)))).size+1:=by rw [ByteArray.size_append];rfl
  refine aD<|Sq<|aG<|Sq<|Sr<|Dd aF<|Dd jE<|Zz ?_;refine Cn ?_ ?_<;>intro hc2
  ·have hq:0 < k:=by have:=aNv hc2;omega
   rw [aNy hq] at hnx;refine Rg<|Dd aF<|Dd (by exact cD rfl rfl rfl (by omega) rfl)<|Dd aN<|Zz<|Rg<|Dd aF<|Dd aF<|Dd aF<|Dd (lN cA)<|Dd (jA isAgg9)<|Dd (by exact cD rfl rfl rfl (by omega) rfl)<|Dd aN<|Zz<|Rg<|Dd aF<|Dd lR<|Da ?_;refine⟨k+1,by omega,by omega,?_⟩;rw [hnx];exact Wk
  have hq:¬ 0 < k:=by have:=aNw hc2;omega
  rw [aNx hq] at hnx;refine aD<|Rg<|Dd aF<|Dd aF<|Dd aF<|Dd (lN cA)<|Dd (jA isAgg9)<|Dd (by exact cD rfl rfl rfl (by omega) rfl)<|Dd aN<|Zz<|Rg<|Dd aF<|Dd lR<|Da ?_;refine⟨k+1,by omega,by omega,?_⟩;rw [hnx];exact Wk
 have hge:k=ws.length:=by have:=aNw hc1;omega
 subst hge;rw [List.take_length];exact bC<|Sr<|Dd aF<|Dd aN<|Zz<|aC<|Rt<|Qq
end Go.Proofs.YtiifmppaejpemaaGreatDoor
namespace Go.Proofs.YtiifmppaejpemaaGreatDoor
open Go.Proofs.Tryz
open Go.Abs
theorem szW (w:List UInt8):(⟨w.toArray⟩:ByteArray).size=w.length:=by rw [← aW]
theorem BY (w:List UInt8) (t:ByteArray):(⟨w.toArray⟩:ByteArray)++t=⟨(w++t.data.toList).toArray⟩:=rW (by simp)
theorem GU (s:ByteArray) (H:aB) (hs:s.size < 17592186044416):aI Tryz.prog 192 [sv s] H (fun r H'=>r=sv ⟨(eC s.data.toList).toArray⟩∧H'=H):=by
 refine Pu ?_;have hsl:=aW s;refine Bd func192 rfl ntmps192<|Sr<|Dd aN<|Zz<|Sr<|Dd aN<|Zz<|Sr<|Dd aN<|Zz<|Sq<|Sr<|Dd aN<|Zz<|aG ?_;refine HW (fun(i f:Nat) (w:List UInt8)=>([(0,sv s),(3,sv ⟨w.toArray⟩),(4,iv (f:Int)),(5,iv (i:Int))],[])) (fun i f w=>f≤i∧i≤s.size∧w.length≤(jD s i).length∧w++(s.data.toList.drop f).take (i - f)=jD s i) (fun i f w=>s.size - i) 0 0 [34] ⟨aOF _,aOQ _,aOF _,rfl⟩ ?_ ?_
 ·exact E0
 rintro i f w ⟨hf,hi,hwl,hinv⟩;have hq:=UB (s:=s) (k:=i) hs;have hsw:=szW w;refine Sq<|Sr<|Dd aF<|Dd aF<|Dd (lH underlying9)<|Dd dK<|Zz ?_;refine Cn ?_ ?_<;>intro hc1
 ·have hlt:i < s.size:=by have:=aNv hc1;omega
  have hnx:=PD hlt;have hexl:=jP s f i;have hcat:(⟨w.toArray⟩:ByteArray)++s.extract f i=⟨(jD s i).toArray⟩:=by rw [BY,hexl,hinv]
  have hsq:=szW (jD s i);have hcat2:(⟨(jD s i).toArray⟩:ByteArray)++⟨#[92,110]⟩=⟨(jD s i++[92,110]).toArray⟩:=by rw [BY]
  have hcat3:(⟨(jD s i).toArray⟩:ByteArray)++⟨#[92]⟩=⟨(jD s i++[92]).toArray⟩:=by rw [BY]
  have hxs:=lQ s f i;refine aD<|Sq<|aG<|Sr<|Dd aF<|Dd aF<|Dd (by exact dV rfl underlying9 rfl rfl (by omega) (by exact aOK _) (by omega) rfl)<|Dd cT<|Zz ?_;refine Cn ?_ ?_<;>intro hc2
  ·have hb:vP s i=10:=aNv (JD (n:=10) (by decide) hc2);have he:mV (vP s i)=[92,110]:=by rw [mV,aNy hb]
   rw [he] at hnx;refine Sr<|Dd aF<|Dd aF<|Dd aF<|Dd aF<|Dd (by exact cO (l:=f) (h:=i) rfl underlying9 rfl rfl rfl (by omega) (by omega) rfl)<|Dd (by exact cD rfl rfl rfl (by omega) hcat)<|Dd (by exact cD rfl rfl rfl (by show (⟨(jD s i).toArray⟩:ByteArray).size+2≤_;omega) hcat2)<|Dd aN<|Zz<|Rg<|Dd aF<|Dd lR<|Dd aN<|Zz<|Rg<|Dd aF<|Dd lR<|Da ?_;refine⟨i+1,i+1,jD s i++[92,110],⟨aOF _,hlt,by rw [hnx];exact aOF _,by rw [hnx,Nat.sub_self,List.take_zero,List.append_nil]⟩,by omega,E0⟩
  have hb10:¬ vP s i=10:=aNw (JD (n:=10) (by decide) hc2);refine Sq ?_;refine bA (t:=34) (n:=11) (X:=decide (dB s i=34)||decide (dB s i=92)) ?_ ?_
  ·all_goals refine Dd aF ?_
   all_goals refine Dd aF<|Dd (by exact dV rfl underlying9 rfl rfl (by omega) (by exact aOK _) (by omega) rfl)<|Dd cT<|Dm ?_
   all_goals refine Sp 29 (fun h29=>?_) fun h29=>?_
   all_goals try contradiction
   all_goals first|refine Fo<|Fo<|Fo<|Fo ?_|refine On aF<|On aF<|On (by exact dV rfl underlying9 rfl rfl (by omega) (by exact aOK _) (by omega) rfl)<|On cT ?_
   all_goals refine Dd cW<|Zz ?_
   all_goals(exact⟨⟨_,rfl,by(rw [h29];rfl)⟩,rfl,rfl,rfl⟩)
  refine Cn ?_ ?_<;>intro hc3
  ·have hb:vP s i=34∨vP s i=92:=by
    rw [Bool.or_eq_true] at hc3;rcases hc3 with h|h
    ·exact .inl (aNv (JD (n:=34) (by decide) h))
    exact .inr (aNv (JD (n:=92) (by decide) h))
   have he:mV (vP s i)=[92,vP s i]:=by rw [mV,aNx hb10,aNy hb]
   rw [he] at hnx;refine Sr<|Dd aF<|Dd aF<|Dd aF<|Dd aF<|Dd (by exact cO (l:=f) (h:=i) rfl underlying9 rfl rfl rfl (by omega) (by omega) rfl)<|Dd (by exact cD rfl rfl rfl (by omega) hcat)<|Dd (by exact cD rfl rfl rfl (by show (⟨(jD s i).toArray⟩:ByteArray).size+1≤_;omega) hcat3)<|Dd aN<|Zz<|Rg<|Dd aF<|Dd aN<|Zz<|Rg<|Dd aF<|Dd lR<|Da ?_;refine⟨i+1,i,jD s i++[92],⟨Nat.le_succ _,hlt,by rw [hnx,aOA,aOA];exact Nat.add_le_add_left (by show 1≤2;omega) _,by rw [hnx,Nat.add_sub_cancel_left,FZ hlt,List.append_assoc];rfl⟩,by omega,E0⟩
  have hb:¬ (vP s i=34∨vP s i=92):=by
   rw [aOV] at hc3;rintro(h|h)
   ·exact absurd h (aNw (JD (n:=34) (by decide) hc3.1))
   exact absurd h (aNw (JD (n:=92) (by decide) hc3.2))
  have he:mV (vP s i)=[vP s i]:=by rw [mV,aNx hb10,aNx hb]
  rw [he] at hnx;have htk:(s.data.toList.drop f).take (i+1 - f)=(s.data.toList.drop f).take (i - f)++[vP s i]:=by
   have e1:i+1 - f=(i - f)+1:=by omega
   have e2:(s.data.toList.drop f)[i - f]?=some (vP s i):=by
    rw [List.getElem?_drop,show f+(i - f)=i by omega];have hd:=FZ hlt;exact(MG hd).1
   rw [e1,List.take_add_one,e2];rfl
  refine aD<|Rg<|Dd aF<|Dd lR<|Da ?_;refine⟨i+1,f,w,⟨by omega,hlt,by rw [hnx,aOA];omega,by rw [htk,← List.append_assoc,hinv,hnx]⟩,by omega,E0⟩
 have hge:i=s.size:=by have:=aNw hc1;omega
 subst hge;have hexl:=jP s f s.size;have hcat:(⟨w.toArray⟩:ByteArray)++s.extract f s.size=⟨(jD s s.size).toArray⟩:=by rw [BY,hexl,hinv]
 have hsq:=szW (jD s s.size);have hxs:=lQ s f s.size;have hend:(⟨(jD s s.size).toArray⟩:ByteArray)++⟨#[34]⟩=⟨(eC s.data.toList).toArray⟩:=by
  rw [BY,jD,List.take_of_length_le (by omega),eC];rfl
 exact bC<|Sr<|Dd aF<|Dd aF<|Dd aF<|Dd (by exact cO (l:=f) (h:=s.size) rfl underlying9 rfl rfl rfl (by omega) (by omega) rfl)<|Dd (by exact cD rfl rfl rfl (by omega) hcat)<|Dd (by exact cD rfl rfl rfl (by show (⟨(jD s s.size).toArray⟩:ByteArray).size+1≤_;omega) hend)<|Dd aN<|Zz<|aC<|Rt<|Qq
abbrev oBx (o:GObj):Ob:=bx 6 153 ((bQ o).map .pv)
def NF (l:List ByteArray):List (List AV):=l.map fun s=>[sv s]
theorem Z3 (l:List ByteArray):(NF l).length=l.length:=aNz _
theorem lY (H:aB) (l:List ByteArray):∀ r∈NF l,∀ a∈r,Clo H a:=by intro r hr a ha;obtain ⟨x,_,rfl⟩:=List.mem_map.1 hr;rw [aOC] at ha;subst ha;simp
theorem RP {l:List ByteArray} {k:Nat} {s:ByteArray} (h:l[k]?=some s):(NF l)[k]?=some [sv s]:=by rw [NF,aOT,h];rfl
theorem Z4 (l:List ByteArray) (s:ByteArray):NF l++[(encStr s).map AV.pv]=NF (l++[s]):=by rw [NF,NF,List.map_append];rfl
theorem aIs (l:List ByteArray):NF l=(l.map encStr).map (·.map .pv):=by rw [NF,List.map_map];rfl
theorem fmC {α β:Type} {f g:α→List β}:∀ {l:List α},(∀ x∈l,f x=g x)→l.flatMap f=l.flatMap g
 | [],_=>rfl
 | x::l,h=>by rw [List.flatMap_cons,List.flatMap_cons,h x List.mem_cons_self,fmC fun y hy=>h y (List.mem_cons_of_mem _ hy)]
end Go.Proofs.YtiifmppaejpemaaGreatDoor
namespace Go.Proofs.YtiifmppaejpemaaGreatDoor
open Go.Proofs.Tryz
open Go.Abs Go.Lib
theorem aES {x:Int} (h:0≤x):aT x=ofL (decDigits x.toNat):=by rw [aT,iA _ h];rfl
theorem JS (x:Int) (H:aB) (h0:0≤x) (h1:x < 1000000000):aI Tryz.prog 191 [iv x] H (fun r H'=>r=sv (aT x)∧H'=H):=by obtain ⟨u,rfl⟩:=Int.eq_ofNat_of_zero_le h0;rw [aES h0];exact aIw u H (by omega)
def wO (o:GObj) (M:List ByteArray) (k:Nat):List ByteArray:=[eL o.kind,o.id]++M++(o.tags.take k).map gE
theorem ZF {o:GObj} {M:List ByteArray} {k:Nat} {t:GTag} (h:o.tags[k]?=some t):wO o M (k+1)=wO o M k++[gE t]:=by rw [wO,wO,List.take_add_one,h,Option.toList_some,List.map_append,← List.append_assoc];rfl
theorem B7 (a b:List ByteArray):cV (a++b)=cV a+cV b:=by rw [cV,cV,cV,List.map_append,List.sum_append]
theorem X4 {o:GObj} (hg:kR o=true):fJ o=if 20000 < (tQ o).size then(sNil,2)else(tQ o,0):=by
 rw [fJ,aNy hg];by_cases h:0 < o.tags.length∧(gY o.tags).2≠0
 ·have htg:=(BJ hg).2.2.1;rw [aNy h];have h2:=h.2;rw [gY,aNy htg] at h2 ⊢
  split at h2
  ·next hb =>
   rw [aNy hb,aNy ?_];rw [tQ,← aW];show 20000 < (sI o).length;rw [sI,aOA];cases e:o.tags with
   | nil=>rw [e] at h;exact absurd h.1 (by decide)
   | cons t l =>
    rw [e] at hb;have:=OX t l;have h3:=congrArg List.length this;rw [aW] at h3;rw [nV,List.flatMap_cons,aOA,aOB];rw [aOA,nV] at h3;omega
  exact absurd rfl h2
 rw [aNx h]
theorem ZG (o:GObj) (M:List ByteArray):(ofL (bS [32] (bs (wO o M o.tags.length)))).data.toList=(eL o.kind).data.toList++32::(o.id.data.toList++M.flatMap fun s=>32::s.data.toList)++nV o.tags:=by rw [cZ,wO,List.take_length,List.cons_append,List.cons_append,bs,List.map_cons,bS,nV];simp only [List.map_cons,List.map_append,List.flatMap_cons,List.flatMap_append,List.flatMap_map,List.nil_append,List.append_assoc,List.cons_append];congr 3;congr 1;refine fmC fun t _=>?_;rw [HD]
theorem ZH {o:GObj} {M:List ByteArray} (hM:(eL o.kind).data.toList++32::(o.id.data.toList++M.flatMap fun s=>32::s.data.toList)=mA o):ofL (bS [32] (bs (wO o M o.tags.length)))=tQ o:=eqL (by
 rw [ZG,hM];rfl)
theorem P5:∀ (l:List ByteArray) (k:Nat),(bS [32] (bs (l.take k))).length≤(bS [32] (bs l)).length
 | [],k=>by rw [List.take_nil];exact aOF _
 | x::l,0=>by rw [List.take_zero];exact aOQ _
 | x::l,k+1=>by
  rw [List.take_succ_cons,yZ,yZ,aOA,aOA,CM,CM];have h1:=lJ l k;have h2:(l.take k).length≤l.length:=by rw [aON];exact Nat.min_le_right _ _
  omega
theorem vC (a b:ByteArray):(a++b).size=a.size+b.size:=ByteArray.size_append
theorem XH (o:GObj) (H:aB) (ho:okO o):aI Tryz.prog 189 [av (bQ o)] H (fun r H'=>r=.tup [sv (fJ o).1,iv (fJ o).2]∧H'=H):=by
 refine Pu ?_;have hmt:(o.tags.map bJ).length=o.tags.length:=aNz _;have hmr:(o.refs.map encStr).length=o.refs.length:=aNz _;refine Bd func189 rfl ntmps189<|Sr<|Dd (by exact cH (id:=1) rfl rfl rfl rfl rfl)<|Dd aN<|Dd aN<|Zz<|Sq<|Sr<|Dd (by exact aL rfl cU sizeOf153 rfl rfl rfl rfl (by simp only [Zl,bJ,bQ,encStr,aU,iR];rfl) rfl)<|Dd (by exact aA rfl rfl call222 rfl (aDR o _ ho))<|Dd jS<|Zz ?_;refine Cn ?_ ?_<;>intro hc1
 ·have hg:kR o=false:=by have h:=hc1;rwa [aOS] at h
  have e:fJ o=(sNil,1):=by rw [fJ,aNx (by rw [hg];decide)]
  rw [e];exact Sr<|Dd aN<|Dd aN<|Zz<|aC<|Ru<|Qq
 have hg:kR o=true:=by have h:=hc1;rwa [Bool.not_eq_false'] at h
 obtain ⟨hr,ht,htg,hid,_⟩:=BJ hg;obtain ⟨hx,hy,hn,hz⟩:=aA9 hg;have hw:=(B5 (FQ hg)).1;have hws:=dG hw;have his:=dG hid;have hT:=X4 hg;have hTb:∀ t∈o.tags,t.key.size≤24∧t.val.size≤200:=fun t ht=>by
  obtain ⟨p1,_,_⟩:=xO.1 htg;have:=p1 t ht;exact⟨dG this.1,this.2.2⟩
 have hTs:∀ k,cV ((o.tags.take k).map gE)≤60*427:=fun k=>by
  have h1:∀ l:List GTag,(∀ t∈l,t∈o.tags)→cV (l.map gE)≤l.length*427:=by
   intro l
   induction l with
   | nil=>intro _;exact aOQ _
   | cons t l ih =>
    intro h;rw [List.map_cons,cC,aOB,Nat.add_mul];have h2:=ih fun x hx=>h x (List.mem_cons_of_mem _ hx);have h3:=hTb t (h t List.mem_cons_self);have h4:=PZ h3.1 h3.2;omega
  have h2:=h1 (o.tags.take k) fun t ht=>List.mem_of_mem_take ht;have h3:(o.tags.take k).length≤60:=by rw [aON];omega
  have h4:(o.tags.take k).length*427≤60*427:=Nat.mul_le_mul_right _ h3;omega
 refine aD<|Sq<|aO follows<|Cs (fun _ h=>fh dX h)<|Cs (fun _ h=>lh isAgg3 h)<|Cs (fun H1 hH=>by exact aA rfl rfl aNR rfl (GT o.kind _))<|Cs (fun _ h=>fh nE h)<|Cs (fun _ h=>lh isAgg9 h) ?_;refine bF (r:=⟨_,none,[_]⟩) (DStep.plain rfl (fun H1 hH=>by exact iL (id:=901) rfl cA rfl rfl rfl rfl (by intro r hr;simp only [aOL,aOP,or_false] at hr;rcases hr with rfl|rfl<;>rfl) ((hH _ rfl).trans rfl))) rfl ?_;refine Cs (fun _ _=>aN)<|bL<|Kr<|Sq<|Sq ?_;refine gK.ent (E':=[(1,.ref 1 0 0 0),(4,.osl 901 0 0 2)]) (H':=[(901,⟨0,1,9,NF [eL o.kind,o.id]⟩),(1,oBx o)]) (cY.wk (Ea<|Ea<|trivial) (Hc (lY _ _)<|Hb<|trivial) trivial) ?_;refine Rg<|Dd (aV dX)<|Dd (bM isAgg3)<|Dd cT<|Zz ?_;refine Cn ?_ ?_<;>intro hc2
 ·have hk:o.kind=1:=aNv hc2;have six:(aT o.x).size≤7:=by rw [← aW];show (Lib.itoa o.x).length≤7;rw [iA _ hx.1];exact dU (by omega) (by decide)
  have siy:(aT o.y).size≤7:=by rw [← aW];show (Lib.itoa o.y).length≤7;rw [iA _ hy.1];exact dU (by omega) (by decide)
  have hMs:cV [aT o.x,aT o.y]=(aT o.x).size+((aT o.y).size+0):=by rw [cC,cC];rfl
  have hMl:([aT o.x,aT o.y]:List ByteArray).length=2:=rfl;have hHd:(eL o.kind).data.toList++32::(o.id.data.toList++([aT o.x,aT o.y]:List ByteArray).flatMap fun s=>32::s.data.toList)=mA o:=by
   rw [mA,aNy hk];simp [aT]
  have hFT:fJ o=if 20000 < (ofL (bS [32] (bs (wO o [aT o.x,aT o.y] o.tags.length)))).size then(sNil,2)else(ofL (bS [32] (bs (wO o [aT o.x,aT o.y] o.tags.length))),0):=by rw [ZH hHd];exact hT
  refine aO follows<|Cs (fun _ _=>aF)<|Cs (fun _ h=>fh lD h)<|Cs (fun _ h=>fh pS h)<|Cs (fun _ h=>lh isAgg3 h)<|Cs (fun H1 hH=>by exact aA rfl rfl C0 rfl (JS o.x _ (by omega) (by omega)))<|Cs (fun _ h=>fh lD h)<|Cs (fun _ h=>fh pR h)<|Cs (fun _ h=>lh isAgg3 h)<|Cs (fun H1 hH=>by exact aA rfl rfl C0 rfl (JS o.y _ (by omega) (by omega)))<|Cs (fun H1 hH=>by exact aR [encStr (aT o.x),encStr (aT o.y)] rfl cA rfl rfl rfl rfl rfl (by intro r hr;simp only [aOL,aOP,or_false] at hr;rcases hr with rfl|rfl<;>rfl)) ?_;refine bF (r:=⟨_,none,[_]⟩) (DStep.plain rfl (fun H1 hH=>by exact dH (ps:=[encStr (aT o.x),encStr (aT o.y)]) rfl cA EC rfl ((hH _ rfl).trans rfl) rfl rfl rfl rfl rfl (by intro r hr;simp only [aOL,aOP,or_false] at hr;rcases hr with rfl|rfl<;>rfl) (m:=2) rfl (by omega) rfl (rfl:_=NF (wO o [aT o.x,aT o.y] 0)))) rfl ?_;refine Cs (fun _ _=>aN)<|bL<|Kr<|Sq<|Sr<|Dd aN<|Zz<|aG ?_;have hMs2:cV ([eL o.kind,o.id]++[aT o.x,aT o.y])≤70000:=by rw [B7];have:cV [eL o.kind,o.id]=(eL o.kind).size+(o.id.size+0):=(by rw [cC,cC];rfl);omega
  have hWl:∀ k,k≤o.tags.length→(wO o [aT o.x,aT o.y] k).length≤64:=fun k hk=>by rw [wO,aOA,aOA,aNz,aON];show 2+_+_≤_;omega
  have hWs:∀ k,cV (wO o [aT o.x,aT o.y] k)≤100000:=fun k=>by
   rw [wO,B7];have h1:=hTs k;omega
  refine bT (σ:=Nat) (fun k=>([(1,.ref 1 0 0 0),(4,.osl 901 (1+k) 0 (wO o [aT o.x,aT o.y] k).length),(7,iv (k:Int))],[(901,⟨1+k,1,9,NF (wO o [aT o.x,aT o.y] k)⟩),(1,oBx o)])) (fun k=>k≤o.tags.length) (fun k=>o.tags.length - k) 0 (aOQ _) ?_ ?_
  ·exact(cY.wk (Ea<|Ea<|Eb<|trivial) (Hc (lY _ _)<|Hb<|trivial) trivial)
  rintro k hk;have hwl:=hWl k hk;refine Sq<|Sr<|Dd aF<|Dd (aV eU)<|Dd (bM cM)<|Dd (fY cS)<|Dd dK<|Zz ?_;refine Cn ?_ ?_<;>intro hc3
  ·have hlt:k < o.tags.length:=by have:=aNv hc3;omega
   obtain ⟨t,ht⟩:=aZ hlt;have hit:=cP (f:=bJ) ht;have hnx:=ZF (M:=[aT o.x,aT o.y]) ht;have hnl:(wO o [aT o.x,aT o.y] k++[gE t]).length=(wO o [aT o.x,aT o.y] k).length+1:=by rw [aOA];rfl
   obtain ⟨hks,hvs⟩:=hTb t (aOJ ht);have hq:=oF t.val;have h61:(⟨#[61]⟩:ByteArray).size=1:=rfl;have hk1:(t.key++(⟨#[61]⟩:ByteArray)).size=t.key.size+1:=vC _ _;refine aD<|Sq<|aG<|aO follows<|Cs (fun _ _=>aF)<|Cs (fun _ h=>fh eU h)<|Cs (fun _ h=>lh cM h)<|Cs (fun _ _=>aF)<|Cs (fun _ _=>(lN jF))<|Cs (fun _ _=>(OD mE))<|Cs (fun _ _=>(jA isAgg9))<|Cs (fun H1 hH=>by exact cD rfl rfl rfl (by omega) rfl)<|Cs (fun _ h=>fh eU h)<|Cs (fun _ h=>lh cM h)<|Cs (fun _ _=>aF)<|Cs (fun _ _=>(lN jF))<|Cs (fun _ _=>(OD nC))<|Cs (fun _ _=>(jA isAgg9))<|Cs (fun H1 hH=>by exact aA rfl rfl aNS rfl (GU t.val _ (by omega)))<|Cs (fun H1 hH=>by exact cD rfl rfl rfl (by omega) rfl)<|Cs (fun H1 hH=>by exact aR [encStr (gE t)] rfl cA rfl rfl rfl rfl rfl (by intro r hr;rw [aOC] at hr;subst hr;rfl)) ?_;refine bF (r:=⟨_,none,[_]⟩) (DStep.plain rfl (fun H1 hH=>by exact dH (ps:=[encStr (gE t)]) rfl cA EC rfl ((hH _ rfl).trans rfl) rfl rfl rfl (Z3 _) rfl (by intro r hr;rw [aOC] at hr;subst hr;rfl) (m:=1) rfl (by omega) rfl (Z4 _ (gE t)))) rfl ?_;refine Cs (fun _ _=>aN)<|bL<|Kr<|Rg<|Dd aF<|Dd lR<|Da ?_;refine⟨k+1,by omega,by omega,?_⟩;rw [hnx,hnl];exact(cY.wk (Ea<|Ea<|Eb<|trivial) (Hc (lY _ _)<|Hb<|trivial) trivial)
  have hge:k=o.tags.length:=by have:=aNw hc3;omega
  subst hge;obtain ⟨W,hW⟩:∃ W,W=wO o [aT o.x,aT o.y] o.tags.length:=⟨_,rfl⟩;have hWs2:=hWs o.tags.length;rw [← hW] at hwl hWs2 hFT;rw [← hW];obtain ⟨F,hF⟩:∃ F,F=ofL (bS [32] (bs W)):=⟨_,rfl⟩;rw [← hF] at hFT;refine bC<|Sr<|Dd aN<|Zz<|Sq<|Sr<|Dd aN<|Zz<|aG ?_;refine bT (σ:=Nat) (fun k=>([(4,.osl 901 (1+o.tags.length) 0 W.length),(8,sv (ofL (bS [32] (bs (W.take k))))),(9,iv (k:Int))],[(901,⟨1+o.tags.length,1,9,NF W⟩)])) (fun k=>k≤W.length) (fun k=>W.length - k) 0 (aOQ _) ?_ ?_
  ·exact(cY.wk (Ea<|Eb<|Eb<|trivial) (Hc (lY _ _)<|trivial) trivial)
  rintro k hk;have hsz:(ofL (bS [32] (bs (W.take k)))).size≤100064:=by
   rw [dA];have h1:=eW (W.take k);have h2:=lJ W k;have h3:(W.take k).length≤W.length:=by rw [aON];exact Nat.min_le_right _ _
   omega
  refine Sq<|Sr<|Dd aF<|Dd aF<|Dd (by exact eE rfl aE rfl rfl rfl)<|Dd dK<|Zz ?_;refine Cn ?_ ?_<;>intro hc4
  ·have hlt:k < W.length:=by have:=aNv hc4;omega
   obtain ⟨w,hw⟩:=aZ hlt;have hiw:=RP hw;have hnx:=xK hw;have hws:w.size≤100000:=by
    have h1:=tE hw;have h2:=lJ W (k+1);omega
   have h32:(⟨#[32]⟩:ByteArray).size=1:=rfl;have hs2:(ofL (bS [32] (bs (W.take k)))++⟨#[32]⟩).size=(ofL (bS [32] (bs (W.take k)))).size+1:=vC _ _;refine aD<|Sq<|aG<|Sq<|Sr<|Dd aF<|Dd jE<|Zz ?_;refine Cn ?_ ?_<;>intro hc5
   ·have hq:0 < k:=by have:=aNv hc5;omega
    rw [aNy hq] at hnx;refine Rg<|Dd aF<|Dd (by exact cD rfl rfl rfl (by omega) rfl)<|Dd aN<|Zz<|Rg<|Dd aF<|Dd aF<|Dd aF<|Dd (by exact dI rfl cA rfl rfl rfl rfl rfl (by omega) (by exact aOK _) hlt (aOR _))<|Dd (by exact aK rfl isAgg9 rfl rfl rfl hiw rfl)<|Dd (by exact cD rfl rfl rfl (by omega) rfl)<|Dd aN<|Zz<|Rg<|Dd aF<|Dd lR<|Da ?_;refine⟨k+1,by omega,by omega,?_⟩;rw [hnx];exact(cY.wk (Ea<|Eb<|Eb<|trivial) (Hc (lY _ _)<|trivial) trivial)
   have hq:¬ 0 < k:=by have:=aNw hc5;omega
   rw [aNx hq] at hnx;refine aD<|Rg<|Dd aF<|Dd aF<|Dd aF<|Dd (by exact dI rfl cA rfl rfl rfl rfl rfl (by omega) (by exact aOK _) hlt (aOR _))<|Dd (by exact aK rfl isAgg9 rfl rfl rfl hiw rfl)<|Dd (by exact cD rfl rfl rfl (by omega) rfl)<|Dd aN<|Zz<|Rg<|Dd aF<|Dd lR<|Da ?_;refine⟨k+1,by omega,by omega,?_⟩;rw [hnx];exact(cY.wk (Ea<|Eb<|Eb<|trivial) (Hc (lY _ _)<|trivial) trivial)
  have hge:k=W.length:=by have:=aNw hc4;omega
  subst hge;rw [List.take_length,← hF];refine bC<|Sq<|Sr<|Dd aF<|Dd (lH underlying9)<|Dd jE<|Zz ?_;refine Cn ?_ ?_<;>intro hc6
  ·have hbig:20000 < F.size:=by have:=aNv hc6;omega
   rw [hFT,aNy hbig];exact Sr<|Dd aN<|Dd aN<|Zz<|aC<|Ru<|Qq
  have hbig:¬ 20000 < F.size:=by have:=aNw hc6;omega
  rw [hFT,aNx hbig];exact aD<|Sr<|Dd aF<|Dd aN<|Dd aN<|Zz<|aC<|Ru<|Qq
 have hk:o.kind≠1:=aNw hc2;have hsz:cV o.refs≤24*o.refs.length:=mN (fun s hs=>dG (tJ hg s hs));have hjl:=eW o.refs;have hSz:∀ k,(ofL (bS [32] (bs (o.refs.take k)))).size≤50000:=fun k=>by
  rw [dA];have:=P5 o.refs k;omega
 refine Sr<|Dd aN<|Zz<|Sq<|Sr<|Dd aN<|Zz<|aG ?_;refine bT (σ:=Nat) (fun k=>([(1,.ref 1 0 0 0),(4,.osl 901 0 0 2),(5,sv (ofL (bS [32] (bs (o.refs.take k))))),(6,iv (k:Int))],[(901,⟨0,1,9,NF [eL o.kind,o.id]⟩),(1,oBx o)])) (fun k=>k≤o.refs.length) (fun k=>o.refs.length - k) 0 (aOQ _) ?_ ?_
 ·exact(cY.wk (Ea<|Ea<|Eb<|Eb<|trivial) (Hc (lY _ _)<|Hb<|trivial) trivial)
 rintro k hkr;have hsk:=hSz k;refine Sq<|Sq ?_;refine bA (t:=42) (n:=11) (X:=decide ((k:Int) < ((o.refs.map encStr).length:Int))&&decide (((ofL (bS [32] (bs (o.refs.take k)))).size:Int)≤20000)) ?_ ?_
 ·all_goals refine Dd aF ?_
  all_goals refine Dd (aV dO)<|Dd (bM aH)<|Dd (fY aE)<|Dd dK<|Dm ?_
  all_goals refine Sp 38 (fun h38=>?_) fun h38=>?_
  all_goals try contradiction
  all_goals first|refine Fo<|Fo<|Fo ?_|refine On aF<|On (lH underlying9)<|On MB ?_
  all_goals refine Dd cW<|Zz ?_
  all_goals(exact⟨⟨_,rfl,by(rw [h38];rfl)⟩,rfl,rfl,rfl⟩)
 refine Cn ?_ ?_<;>intro hc7
 ·have hlt:k < o.refs.length:=by have h:=hc7;rw [aOI,aOG] at h;omega
  obtain ⟨w,hw2⟩:=aZ hlt;have hiw:=cP (f:=encStr) hw2;have hnx:=xK hw2;have hwsz:=dG (tJ hg w (aOJ hw2));have h32:(⟨#[32]⟩:ByteArray).size=1:=rfl;have hs2:(ofL (bS [32] (bs (o.refs.take k)))++⟨#[32]⟩).size=(ofL (bS [32] (bs (o.refs.take k)))).size+1:=vC _ _;refine aD<|Sq<|aG<|Sq<|Sr<|Dd aF<|Dd jE<|Zz ?_;refine Cn ?_ ?_<;>intro hc8
  ·have hq:0 < k:=by have:=aNv hc8;omega
   rw [aNy hq] at hnx;refine Rg<|Dd aF<|Dd (by exact cD rfl rfl rfl (by omega) rfl)<|Dd aN<|Zz<|Rg<|Dd aF<|Dd (aV dO)<|Dd (bM aH)<|Dd aF<|Dd (lN cA)<|Dd (jA isAgg9)<|Dd (by exact cD rfl rfl rfl (by omega) rfl)<|Dd aN<|Zz<|Rg<|Dd aF<|Dd lR<|Da ?_;refine⟨k+1,by omega,by omega,?_⟩;rw [hnx];exact(cY.wk (Ea<|Ea<|Eb<|Eb<|trivial) (Hc (lY _ _)<|Hb<|trivial) trivial)
  have hq:¬ 0 < k:=by have:=aNw hc8;omega
  rw [aNx hq] at hnx;refine aD<|Rg<|Dd aF<|Dd (aV dO)<|Dd (bM aH)<|Dd aF<|Dd (lN cA)<|Dd (jA isAgg9)<|Dd (by exact cD rfl rfl rfl (by omega) rfl)<|Dd aN<|Zz<|Rg<|Dd aF<|Dd lR<|Da ?_;refine⟨k+1,by omega,by omega,?_⟩;rw [hnx];exact(cY.wk (Ea<|Ea<|Eb<|Eb<|trivial) (Hc (lY _ _)<|Hb<|trivial) trivial)
 have hend:k=o.refs.length∨20000 < (ofL (bS [32] (bs (o.refs.take k)))).size:=by have h:=hc7;simp only [Bool.and_eq_false_iff,aOH] at h;omega
 obtain ⟨S,hS⟩:∃ S,S=ofL (bS [32] (bs (o.refs.take k))):=⟨_,rfl⟩;obtain ⟨B,hB⟩:∃ B,B=(⟨#[40]⟩:ByteArray)++S++⟨#[41]⟩:=⟨_,rfl⟩;rw [← hS] at hsk hend;rw [← hS];have h40:(⟨#[40]⟩:ByteArray).size=1:=rfl;have h41:(⟨#[41]⟩:ByteArray).size=1:=rfl;have hA:((⟨#[40]⟩:ByteArray)++S).size=1+S.size:=vC _ _;have hBs:B.size=1+S.size+1:=by rw [hB,vC,hA];rfl
 have hMs:cV [B]=B.size+0:=by rw [cC];rfl
 have hMl:([B]:List ByteArray).length=1:=rfl;have hFT:fJ o=if 20000 < (ofL (bS [32] (bs (wO o [B] o.tags.length)))).size then(sNil,2)else(ofL (bS [32] (bs (wO o [B] o.tags.length))),0):=by
  by_cases he:k=o.refs.length
  ·have hHd:(eL o.kind).data.toList++32::(o.id.data.toList++([B]:List ByteArray).flatMap fun s=>32::s.data.toList)=mA o:=by
    rw [mA,aNx hk,hB,hS,he,List.take_length];simp [ofL]
   rw [ZH hHd];exact hT
  have hbig:20000 < S.size:=by rcases hend with h|h;exact absurd h he;exact h
  have h1:=congrArg List.length (ZG o [B]);rw [aW] at h1;have h2:(tQ o).size=(sI o).length:=by rw [← aW];rfl
  have h3:=P5 o.refs k;have h4:S.size=(bS [32] (bs (o.refs.take k))).length:=by rw [hS,dA]
  have h5:(sI o).length≥(bS [32] (bs o.refs)).length:=by
   rw [sI,mA,aNx hk];simp only [aOA,aOB];omega
  have h6:([B]:List ByteArray).flatMap (fun s=>32::s.data.toList)=32::B.data.toList:=by simp
  rw [h6] at h1;simp only [aOA,aOB,aW] at h1;rw [hT,aNy (by omega),aNy (by omega)]
 refine bC<|Rg<|Dd aF<|Dd aF<|Dd (by exact cD rfl rfl rfl (by omega) rfl)<|Dd (by exact cD rfl rfl rfl (by omega) hB.symm)<|Dd (by exact aR [encStr B] rfl cA rfl rfl rfl rfl rfl (by intro r hr;rw [aOC] at hr;subst hr;rfl))<|Dd (by exact dH (ps:=[encStr B]) rfl cA EC rfl rfl rfl rfl rfl rfl rfl (by intro r hr;rw [aOC] at hr;subst hr;rfl) (m:=1) rfl (by omega) rfl (rfl:_=NF (wO o [B] 0)))<|Dd aN<|Zz<|Sq<|Sr<|Dd aN<|Zz<|aG ?_;have hMs2:cV ([eL o.kind,o.id]++[B])≤70000:=by rw [B7];have:cV [eL o.kind,o.id]=(eL o.kind).size+(o.id.size+0):=(by rw [cC,cC];rfl);omega
 have hWl:∀ k,k≤o.tags.length→(wO o [B] k).length≤64:=fun k hk=>by rw [wO,aOA,aOA,aNz,aON];show 2+_+_≤_;omega
 have hWs:∀ k,cV (wO o [B] k)≤100000:=fun k=>by
  rw [wO,B7];have h1:=hTs k;omega
 refine bT (σ:=Nat) (fun k=>([(1,.ref 1 0 0 0),(4,.osl 901 (1+k) 0 (wO o [B] k).length),(7,iv (k:Int))],[(901,⟨1+k,1,9,NF (wO o [B] k)⟩),(1,oBx o)])) (fun k=>k≤o.tags.length) (fun k=>o.tags.length - k) 0 (aOQ _) ?_ ?_
 ·exact(cY.wk (Ea<|Ea<|Eb<|trivial) (Hc (lY _ _)<|Hb<|trivial) trivial)
 rintro k hk;have hwl:=hWl k hk;refine Sq<|Sr<|Dd aF<|Dd (aV eU)<|Dd (bM cM)<|Dd (fY cS)<|Dd dK<|Zz ?_;refine Cn ?_ ?_<;>intro hc9
 ·have hlt:k < o.tags.length:=by have:=aNv hc9;omega
  obtain ⟨t,ht⟩:=aZ hlt;have hit:=cP (f:=bJ) ht;have hnx:=ZF (M:=[B]) ht;have hnl:(wO o [B] k++[gE t]).length=(wO o [B] k).length+1:=by rw [aOA];rfl
  obtain ⟨hks,hvs⟩:=hTb t (aOJ ht);have hq:=oF t.val;have h61:(⟨#[61]⟩:ByteArray).size=1:=rfl;have hk1:(t.key++(⟨#[61]⟩:ByteArray)).size=t.key.size+1:=vC _ _;refine aD<|Sq<|aG<|aO follows<|Cs (fun _ _=>aF)<|Cs (fun _ h=>fh eU h)<|Cs (fun _ h=>lh cM h)<|Cs (fun _ _=>aF)<|Cs (fun _ _=>(lN jF))<|Cs (fun _ _=>(OD mE))<|Cs (fun _ _=>(jA isAgg9))<|Cs (fun H1 hH=>by exact cD rfl rfl rfl (by omega) rfl)<|Cs (fun _ h=>fh eU h)<|Cs (fun _ h=>lh cM h)<|Cs (fun _ _=>aF)<|Cs (fun _ _=>(lN jF))<|Cs (fun _ _=>(OD nC))<|Cs (fun _ _=>(jA isAgg9))<|Cs (fun H1 hH=>by exact aA rfl rfl aNS rfl (GU t.val _ (by omega)))<|Cs (fun H1 hH=>by exact cD rfl rfl rfl (by omega) rfl)<|Cs (fun H1 hH=>by exact aR [encStr (gE t)] rfl cA rfl rfl rfl rfl rfl (by intro r hr;rw [aOC] at hr;subst hr;rfl)) ?_;refine bF (r:=⟨_,none,[_]⟩) (DStep.plain rfl (fun H1 hH=>by exact dH (ps:=[encStr (gE t)]) rfl cA EC rfl ((hH _ rfl).trans rfl) rfl rfl rfl (Z3 _) rfl (by intro r hr;rw [aOC] at hr;subst hr;rfl) (m:=1) rfl (by omega) rfl (Z4 _ (gE t)))) rfl ?_;refine Cs (fun _ _=>aN)<|bL<|Kr<|Rg<|Dd aF<|Dd lR<|Da ?_;refine⟨k+1,by omega,by omega,?_⟩;rw [hnx,hnl];exact(cY.wk (Ea<|Ea<|Eb<|trivial) (Hc (lY _ _)<|Hb<|trivial) trivial)
 have hge:k=o.tags.length:=by have:=aNw hc9;omega
 subst hge;obtain ⟨W,hW⟩:∃ W,W=wO o [B] o.tags.length:=⟨_,rfl⟩;have hWs2:=hWs o.tags.length;rw [← hW] at hwl hWs2 hFT;rw [← hW];obtain ⟨F,hF⟩:∃ F,F=ofL (bS [32] (bs W)):=⟨_,rfl⟩;rw [← hF] at hFT;refine bC<|Sr<|Dd aN<|Zz<|Sq<|Sr<|Dd aN<|Zz<|aG ?_;refine bT (σ:=Nat) (fun k=>([(4,.osl 901 (1+o.tags.length) 0 W.length),(8,sv (ofL (bS [32] (bs (W.take k))))),(9,iv (k:Int))],[(901,⟨1+o.tags.length,1,9,NF W⟩)])) (fun k=>k≤W.length) (fun k=>W.length - k) 0 (aOQ _) ?_ ?_
 ·exact(cY.wk (Ea<|Eb<|Eb<|trivial) (Hc (lY _ _)<|trivial) trivial)
 rintro k hk;have hsz:(ofL (bS [32] (bs (W.take k)))).size≤100064:=by
  rw [dA];have h1:=eW (W.take k);have h2:=lJ W k;have h3:(W.take k).length≤W.length:=by rw [aON];exact Nat.min_le_right _ _
  omega
 refine Sq<|Sr<|Dd aF<|Dd aF<|Dd (by exact eE rfl aE rfl rfl rfl)<|Dd dK<|Zz ?_;refine Cn ?_ ?_<;>intro hc10
 ·have hlt:k < W.length:=by have:=aNv hc10;omega
  obtain ⟨w,hw⟩:=aZ hlt;have hiw:=RP hw;have hnx:=xK hw;have hws:w.size≤100000:=by
   have h1:=tE hw;have h2:=lJ W (k+1);omega
  have h32:(⟨#[32]⟩:ByteArray).size=1:=rfl;have hs2:(ofL (bS [32] (bs (W.take k)))++⟨#[32]⟩).size=(ofL (bS [32] (bs (W.take k)))).size+1:=vC _ _;refine aD<|Sq<|aG<|Sq<|Sr<|Dd aF<|Dd jE<|Zz ?_;refine Cn ?_ ?_<;>intro hc11
  ·have hq:0 < k:=by have:=aNv hc11;omega
   rw [aNy hq] at hnx;refine Rg<|Dd aF<|Dd (by exact cD rfl rfl rfl (by omega) rfl)<|Dd aN<|Zz<|Rg<|Dd aF<|Dd aF<|Dd aF<|Dd (by exact dI rfl cA rfl rfl rfl rfl rfl (by omega) (by exact aOK _) hlt (aOR _))<|Dd (by exact aK rfl isAgg9 rfl rfl rfl hiw rfl)<|Dd (by exact cD rfl rfl rfl (by omega) rfl)<|Dd aN<|Zz<|Rg<|Dd aF<|Dd lR<|Da ?_;refine⟨k+1,by omega,by omega,?_⟩;rw [hnx];exact(cY.wk (Ea<|Eb<|Eb<|trivial) (Hc (lY _ _)<|trivial) trivial)
  have hq:¬ 0 < k:=by have:=aNw hc11;omega
  rw [aNx hq] at hnx;refine aD<|Rg<|Dd aF<|Dd aF<|Dd aF<|Dd (by exact dI rfl cA rfl rfl rfl rfl rfl (by omega) (by exact aOK _) hlt (aOR _))<|Dd (by exact aK rfl isAgg9 rfl rfl rfl hiw rfl)<|Dd (by exact cD rfl rfl rfl (by omega) rfl)<|Dd aN<|Zz<|Rg<|Dd aF<|Dd lR<|Da ?_;refine⟨k+1,by omega,by omega,?_⟩;rw [hnx];exact(cY.wk (Ea<|Eb<|Eb<|trivial) (Hc (lY _ _)<|trivial) trivial)
 have hge:k=W.length:=by have:=aNw hc10;omega
 subst hge;rw [List.take_length,← hF];refine bC<|Sq<|Sr<|Dd aF<|Dd (lH underlying9)<|Dd jE<|Zz ?_;refine Cn ?_ ?_<;>intro hc12
 ·have hbig:20000 < F.size:=by have:=aNv hc12;omega
  rw [hFT,aNy hbig];exact Sr<|Dd aN<|Dd aN<|Zz<|aC<|Ru<|Qq
 have hbig:¬ 20000 < F.size:=by have:=aNw hc12;omega
 rw [hFT,aNx hbig];exact aD<|Sr<|Dd aF<|Dd aN<|Dd aN<|Zz<|aC<|Ru<|Qq
theorem aCb (ws:List ByteArray) (H:aB) (id g:Nat) (hH:H.get id=some ⟨g,1,9,NF ws⟩) (hb:cV ws+ws.length < 1099511627776):aI Tryz.prog 190 [.osl id g 0 ws.length] H (fun r H'=>r=sv (ofL (bS [32] (bs ws)))∧H'=H):=by
 refine Bd func190 rfl ntmps190<|Sr<|Dd aN<|Zz<|Sr<|Dd aN<|Zz<|Sq<|Sr<|Dd aN<|Zz<|aG ?_;refine bT (σ:=Nat) (fun k=>([(0,.osl id g 0 ws.length),(3,sv (ofL (bS [32] (bs (ws.take k))))),(4,iv (k:Int))],H)) (fun k=>k≤ws.length) (fun k=>ws.length - k) 0 (aOQ _) ?_ ?_
 ·exact E0
 rintro k hk;have hsz:(ofL (bS [32] (bs (ws.take k)))).size≤cV ws+ws.length:=by
  rw [dA];have h1:=eW (ws.take k);have h2:=lJ ws k;have h3:(ws.take k).length≤ws.length:=by rw [aON];exact Nat.min_le_right _ _
  omega
 refine Sq<|Sr<|Dd aF<|Dd aF<|Dd (by exact eE rfl aE rfl hH rfl)<|Dd dK<|Zz ?_;refine Cn ?_ ?_<;>intro hc1
 ·have hlt:k < ws.length:=by have:=aNv hc1;omega
  obtain ⟨w,hw⟩:=aZ hlt;have hiw:=RP hw;have hnx:=xK hw;have hws:w.size≤cV ws:=by
   have h1:=tE hw;have h2:=lJ ws (k+1);omega
  have h32:(⟨#[32]⟩:ByteArray).size=1:=rfl;have hs2:(ofL (bS [32] (bs (ws.take k)))++⟨#[32]⟩).size=(ofL (bS [32] (bs (ws.take k)))).size+1:=vC _ _;refine aD<|Sq<|aG<|Sq<|Sr<|Dd aF<|Dd jE<|Zz ?_;refine Cn ?_ ?_<;>intro hc2
  ·have hq:0 < k:=by have:=aNv hc2;omega
   rw [aNy hq] at hnx;refine Rg<|Dd aF<|Dd (by exact cD rfl rfl rfl (by omega) rfl)<|Dd aN<|Zz<|Rg<|Dd aF<|Dd aF<|Dd aF<|Dd (by exact dI rfl cA rfl hH rfl rfl rfl (by omega) (by exact aOK _) hlt (aOR _))<|Dd (by exact aK rfl isAgg9 rfl hH rfl hiw rfl)<|Dd (by exact cD rfl rfl rfl (by omega) rfl)<|Dd aN<|Zz<|Rg<|Dd aF<|Dd lR<|Da ?_;refine⟨k+1,by omega,by omega,?_⟩;rw [hnx];exact E0
  have hq:¬ 0 < k:=by have:=aNw hc2;omega
  rw [aNx hq] at hnx;refine aD<|Rg<|Dd aF<|Dd aF<|Dd aF<|Dd (by exact dI rfl cA rfl hH rfl rfl rfl (by omega) (by exact aOK _) hlt (aOR _))<|Dd (by exact aK rfl isAgg9 rfl hH rfl hiw rfl)<|Dd (by exact cD rfl rfl rfl (by omega) rfl)<|Dd aN<|Zz<|Rg<|Dd aF<|Dd lR<|Da ?_;refine⟨k+1,by omega,by omega,?_⟩;rw [hnx];exact E0
 have hge:k=ws.length:=by have:=aNw hc1;omega
 subst hge;rw [List.take_length];refine bC<|Sr<|Dd aF<|Dd aN<|Zz<|aC ?_;refine dY (H':=H) (.inr rfl) rfl (aY rfl) Fin.refl ?_;exact Qq
theorem OP {e:GEdit} {ws:List ByteArray} (h1:e.op≠1) (h:bs ws=fZ e):ofL (bS [32] (bs ws))++⟨#[10]⟩=ofL (fA e++[10]):=tY h1 h
theorem aG4 (e:GEdit) (H:aB) (he:LM e) (hv:dP e=true):aI Tryz.prog 155 [av (aU e)] H (fun r H'=>r=.tup [sv (ofL (fA e++[10])),bv (decide (fG e=0))]∧H'=H):=by
 refine Pu ?_;obtain ⟨⟨o1,o2⟩,o3,o4⟩:=uD.1 hv;rw [pY] at o3;have hval:=DV hv;have hs0:cV []=0:=rfl;refine Bd func155 rfl ntmps155<|Sr<|Dd (by exact cH (id:=1) rfl rfl rfl rfl rfl)<|Dd aN<|Dd aN<|Zz<|Sq<|Sr<|Dd (aV fT)<|Dd (bM isAgg3)<|Zz<|aG<|Sr<|Dd cT<|Da ?_;refine Cn ?_ ?_<;>intro hc1
 ·have h1:e.op=1:=aNv hc1;have hos:=G7 (o:=e.obj);have h3:(⟨#[112,117,116]⟩:ByteArray).size=3:=rfl;have h10:(⟨#[10]⟩:ByteArray).size=1:=rfl;have hjs:(ofL (bS [32] (bs [⟨#[112,117,116]⟩,(fJ e.obj).1]))).size≤70000:=by
   rw [dA];have:=eW [⟨#[112,117,116]⟩,(fJ e.obj).1];simp only [cC,aOB,List.length_nil] at this;omega
  have hout:ofL (bS [32] (bs [⟨#[112,117,116]⟩,(fJ e.obj).1]))++⟨#[10]⟩=ofL (fA e++[10]):=eqL (by
   rw [cZ,fA,aNy h1];simp [ofL,bs,bS,aAq])
  refine Sr<|Dd (aV nD)<|Dd (by exact aL rfl cU sizeOf153 rfl rfl rfl rfl (by simp only [Zl,bJ,bQ,encStr,aU,iR];rfl) rfl)<|Dd (by exact aA rfl rfl call189 rfl (XH e.obj _ he.2.2))<|Dd aF<|Dd fL<|Dd fL<|Dd aN<|Dd aN<|Zz<|Sr<|Dd aF<|Dd (by exact aR [encStr ⟨#[112,117,116]⟩,encStr (fJ e.obj).1] rfl cA rfl rfl rfl rfl rfl (gR [⟨#[112,117,116]⟩,(fJ e.obj).1]))<|Dd (by exact aA rfl rfl wI rfl (B4 [⟨#[112,117,116]⟩,(fJ e.obj).1] _ (by simp only [cC,aOB,List.length_nil];omega)))<|Dd (by exact cD rfl rfl rfl (by omega) hout)<|Dd aF<|Dd cT<|Dd aN<|Dd aN<|Zz<|aC<|Ru ?_;rw [show fG e=(fJ e.obj).2 from aNy h1];exact Qq
 have h1:e.op≠1:=aNw hc1;rw [aNx h1,aOI] at o3;obtain ⟨o5,o6⟩:=o3;have hid:=dG o5;refine Sr<|Dd cT<|Da ?_;refine Cn ?_ ?_<;>intro hc2
 ·have h2:e.op=2:=aNv hc2;rw [aNy h2,onP,aOI,aOG,aOG] at o6;have hx:0≤e.x∧e.x < 1048576:=by omega
  have hy:0≤e.y∧e.y < 1048576:=by omega
  have six:(aT e.x).size≤7:=by rw [← aW];show (Lib.itoa e.x).length≤7;rw [iA _ hx.1];exact dU (by omega) (by decide)
  have siy:(aT e.y).size≤7:=by rw [← aW];show (Lib.itoa e.y).length≤7;rw [iA _ hy.1];exact dU (by omega) (by decide)
  have hw0:(⟨#[109,111,118,101]⟩:ByteArray).size=4:=rfl;have hw:bs [⟨#[109,111,118,101]⟩,e.id,aT e.x,aT e.y]=fZ e:=by
   rw [fZ]
   (rw [aNy h2];rfl)
  have hne:e.op≠1:=by omega
  have hjs:(ofL (bS [32] (bs [⟨#[109,111,118,101]⟩,e.id,aT e.x,aT e.y]))).size≤70000:=by
   rw [dA];have:=eW [⟨#[109,111,118,101]⟩,e.id,aT e.x,aT e.y];simp only [cC,aOB,List.length_nil] at this;omega
  have h10:(⟨#[10]⟩:ByteArray).size=1:=rfl;refine Sq<|aO follows<|Cq (aV gG)<|Cq (bM isAgg9)<|Cq (aV gF)<|Cq (aV pS)<|Cq (bM isAgg3)<|Cq (by exact aA rfl rfl C0 rfl (JS e.x _ (by omega) (by omega)))<|Cq (aV gF)<|Cq (aV pR)<|Cq (bM isAgg3)<|Cq (by exact aA rfl rfl C0 rfl (JS e.y _ (by omega) (by omega)))<|Cq (by exact aR (([⟨#[109,111,118,101]⟩,e.id,aT e.x,aT e.y]:List ByteArray).map encStr) rfl cA rfl rfl rfl rfl rfl (gR _))<|Cq (by exact aA rfl rfl wI rfl (B4 [⟨#[109,111,118,101]⟩,e.id,aT e.x,aT e.y] _ (by simp only [cC,aOB,List.length_nil];omega)))<|Cq (by exact cD rfl rfl rfl (by omega) rfl)<|Cq aN<|Cq aN<|bL<|Kr<|aC<|Ru ?_;rw [OP hne hw,show fG e=0 from aNx hne];exact Qq
 have h2:e.op≠2:=aNw hc2;rw [aNx h2] at o6;refine Sr<|Dd cT<|Da ?_;refine Cn ?_ ?_<;>intro hc3
 ·have h3:e.op=3:=aNv hc3;rw [aNy h3,aOI,aOG] at o6;have hks:=dG o6.1;have hq:=oF e.val;have hw0:(⟨#[116,97,103]⟩:ByteArray).size=3:=rfl;have hw:bs [⟨#[116,97,103]⟩,e.id,e.key,⟨(eC e.val.data.toList).toArray⟩]=fZ e:=by
   rw [fZ]
   (rw [aNx h2,aNy h3];rfl)
  have hne:e.op≠1:=by omega
  have hjs:(ofL (bS [32] (bs [⟨#[116,97,103]⟩,e.id,e.key,⟨(eC e.val.data.toList).toArray⟩]))).size≤70000:=by
   rw [dA];have:=eW [⟨#[116,97,103]⟩,e.id,e.key,⟨(eC e.val.data.toList).toArray⟩];simp only [cC,aOB,List.length_nil] at this;omega
  have h10:(⟨#[10]⟩:ByteArray).size=1:=rfl;refine Sq<|aO follows<|Cq (aV gG)<|Cq (bM isAgg9)<|Cq (aV jB)<|Cq (bM isAgg9)<|Cq (aV jO)<|Cq (bM isAgg9)<|Cq (by exact aA rfl rfl aNS rfl (GU e.val _ (by omega)))<|Cq (by exact aR (([⟨#[116,97,103]⟩,e.id,e.key,⟨(eC e.val.data.toList).toArray⟩]:List ByteArray).map encStr) rfl cA rfl rfl rfl rfl rfl (gR _))<|Cq (by exact aA rfl rfl wI rfl (B4 [⟨#[116,97,103]⟩,e.id,e.key,⟨(eC e.val.data.toList).toArray⟩] _ (by simp only [cC,aOB,List.length_nil];omega)))<|Cq (by exact cD rfl rfl rfl (by omega) rfl)<|Cq aN<|Cq aN<|bL<|Kr<|aC<|Ru ?_;rw [OP hne hw,show fG e=0 from aNx hne];exact Qq
 have h3:e.op≠3:=aNw hc3;rw [aNx h3] at o6;refine Sr<|Dd cT<|Da ?_;refine Cn ?_ ?_<;>intro hc4
 ·have h4:e.op=4:=aNv hc4;rw [aNy h4,aOI,aOI,aOG,aOG,List.all_eq_true] at o6;obtain ⟨⟨r1,r2⟩,r3⟩:=o6;have hrs:cV e.refs≤24*e.refs.length:=mN (fun s hs=>dG (r3 s hs));have hw0:(⟨#[114,101,102,115]⟩:ByteArray).size=4:=rfl;have hwd:∀ H,H.get 901=some ⟨1,1,9,NF (⟨#[114,101,102,115]⟩::e.id::e.refs)⟩→aI Tryz.prog 190 [.osl 901 1 0 (⟨#[114,101,102,115]⟩::e.id::e.refs).length] H (fun r H'=>r=sv (ofL (bS [32] (bs (⟨#[114,101,102,115]⟩::e.id::e.refs))))∧H'=H):=fun H hH=>aCb _ H 901 1 hH (by simp only [cC,aOB];omega);have hw:bs (⟨#[114,101,102,115]⟩::e.id::e.refs)=fZ e:=by rw [fZ,aNx h2,aNx h3,aNy h4];rfl
  have hjs:(ofL (bS [32] (bs (⟨#[114,101,102,115]⟩::e.id::e.refs)))).size≤70000:=by
   rw [dA];have:=eW (⟨#[114,101,102,115]⟩::e.id::e.refs);simp only [cC,aOB] at this;omega
  have h10:(⟨#[10]⟩:ByteArray).size=1:=rfl;have hmr:(e.refs.map encStr).length=e.refs.length:=aNz _;have hrw:NF [⟨#[114,101,102,115]⟩,e.id]++(e.refs.map encStr).map (·.map .pv)=NF (⟨#[114,101,102,115]⟩::e.id::e.refs):=by rw [← aIs];rfl
  refine Sr<|Dd (aV gG)<|Dd (bM isAgg9)<|Dd (by exact iL (id:=901) rfl cA rfl rfl rfl rfl (by intro r hr;simp only [aOL,aOP,or_false] at hr;rcases hr with rfl|rfl<;>rfl) rfl)<|Dd (aV eT)<|Dd (bM aH)<|Dd (by exact dH (ps:=e.refs.map encStr) rfl cA EC rfl rfl rfl rfl rfl rfl rfl (gR e.refs) (m:=e.refs.length) hmr (by omega) (Nat.add_comm 2 _:2+e.refs.length=(⟨#[114,101,102,115]⟩::e.id::e.refs).length) hrw)<|Dd (by exact aA rfl rfl wI rfl (hwd _ rfl))<|Dd (by exact cD rfl rfl rfl (by omega) rfl)<|Dd aN<|Dd aN<|Zz<|aC<|Ru ?_;rw [OP h1 hw,show fG e=0 from aNx h1];exact Qq
 have h4:e.op≠4:=aNw hc4;rw [aNx h4] at o6;refine Sr<|Dd cT<|Da ?_;refine Cn ?_ ?_<;>intro hc5
 ·have h5:e.op=5:=aNv hc5;have hw0:(⟨#[100,114,111,112]⟩:ByteArray).size=4:=rfl;have hw:bs [⟨#[100,114,111,112]⟩,e.id]=fZ e:=by
   rw [fZ]
   (rw [aNx h2,aNx h3,aNx h4,aNy h5];rfl)
  have hne:e.op≠1:=by omega
  have hjs:(ofL (bS [32] (bs [⟨#[100,114,111,112]⟩,e.id]))).size≤70000:=by
   rw [dA];have:=eW [⟨#[100,114,111,112]⟩,e.id];simp only [cC,aOB,List.length_nil] at this;omega
  have h10:(⟨#[10]⟩:ByteArray).size=1:=rfl;refine Sr<|Dd (aV gG)<|Dd (bM isAgg9)<|Dd (by exact aR (([⟨#[100,114,111,112]⟩,e.id]:List ByteArray).map encStr) rfl cA rfl rfl rfl rfl rfl (gR _))<|Dd (by exact aA rfl rfl wI rfl (B4 [⟨#[100,114,111,112]⟩,e.id] _ (by simp only [cC,aOB,List.length_nil];omega)))<|Dd (by exact cD rfl rfl rfl (by omega) rfl)<|Dd aN<|Dd aN<|Zz<|aC<|Ru ?_;rw [OP hne hw,show fG e=0 from aNx hne];exact Qq
 have h5:e.op≠5:=aNw hc5;rw [aNx h5] at o6;refine Sr<|Dd cT<|Da ?_;refine Cn ?_ ?_<;>intro hc6
 ·have h6:e.op=6:=aNv hc6;rw [aNy h6,aOI] at o6;have hns:=dG o6.1;have hos:=dG o6.2;have hw0:(⟨#[115,112,108,105,116]⟩:ByteArray).size=5:=rfl;have hw:bs [⟨#[115,112,108,105,116]⟩,e.id,e.node,e.other]=fZ e:=by
   rw [fZ]
   (rw [aNx h2,aNx h3,aNx h4,aNx h5,aNy h6];rfl)
  have hne:e.op≠1:=by omega
  have hjs:(ofL (bS [32] (bs [⟨#[115,112,108,105,116]⟩,e.id,e.node,e.other]))).size≤70000:=by
   rw [dA];have:=eW [⟨#[115,112,108,105,116]⟩,e.id,e.node,e.other];simp only [cC,aOB,List.length_nil] at this;omega
  have h10:(⟨#[10]⟩:ByteArray).size=1:=rfl;refine Sr<|Dd (aV gG)<|Dd (bM isAgg9)<|Dd (aV lC)<|Dd (bM isAgg9)<|Dd (aV gO)<|Dd (bM isAgg9)<|Dd (by exact aR (([⟨#[115,112,108,105,116]⟩,e.id,e.node,e.other]:List ByteArray).map encStr) rfl cA rfl rfl rfl rfl rfl (gR _))<|Dd (by exact aA rfl rfl wI rfl (B4 [⟨#[115,112,108,105,116]⟩,e.id,e.node,e.other] _ (by simp only [cC,aOB,List.length_nil];omega)))<|Dd (by exact cD rfl rfl rfl (by omega) rfl)<|Dd aN<|Dd aN<|Zz<|aC<|Ru ?_;rw [OP hne hw,show fG e=0 from aNx hne];exact Qq
 have h6:e.op≠6:=aNw hc6;rw [aNx h6] at o6;have hos:=dG o6;have hw0:(⟨#[106,111,105,110]⟩:ByteArray).size=4:=rfl;have hw:bs [⟨#[106,111,105,110]⟩,e.id,e.other]=fZ e:=by
  rw [fZ]
  (rw [aNx h2,aNx h3,aNx h4,aNx h5,aNx h6];rfl)
 have hne:e.op≠1:=by omega
 have hjs:(ofL (bS [32] (bs [⟨#[106,111,105,110]⟩,e.id,e.other]))).size≤70000:=by
  rw [dA];have:=eW [⟨#[106,111,105,110]⟩,e.id,e.other];simp only [cC,aOB,List.length_nil] at this;omega
 have h10:(⟨#[10]⟩:ByteArray).size=1:=rfl;refine aD<|Sr<|Dd (aV gG)<|Dd (bM isAgg9)<|Dd (aV gO)<|Dd (bM isAgg9)<|Dd (by exact aR (([⟨#[106,111,105,110]⟩,e.id,e.other]:List ByteArray).map encStr) rfl cA rfl rfl rfl rfl rfl (gR _))<|Dd (by exact aA rfl rfl wI rfl (B4 [⟨#[106,111,105,110]⟩,e.id,e.other] _ (by simp only [cC,aOB,List.length_nil];omega)))<|Dd (by exact cD rfl rfl rfl (by omega) rfl)<|Dd aN<|Dd aN<|Zz<|aC<|Ru ?_;rw [OP hne hw,show fG e=0 from aNx hne];exact Qq
theorem aDQ (l:List GEdit) (H:aB) (hl:l.length < 1099511627776) (he:∀ e∈l,LM e) (hr:∀ e∈l,e.refs.length < 1099511627776):aI Tryz.prog 107 [.pv (hU l)] H (fun r H'=>r=.tup [sv (fR l).1,iv (fR l).2]∧H'=H):=by
 refine Pu ?_;have hml:(l.map aU).length=l.length:=aNz _;refine Bd func107 rfl ntmps107<|Sr<|Dd aN<|Dd aN<|Zz<|Sq<|Sr<|Dd aF<|Dd (by exact aA rfl rfl call154 rfl (aBO l _ hl he hr))<|Dd jS<|Zz ?_;refine Cn ?_ ?_<;>intro hc1
 ·have hg:jN l=false:=by have h:=hc1;rwa [aOS] at h
  rw [show fR l=(sNil,1)by rw [fR,hg];rfl];exact Sr<|Dd aN<|Dd aN<|Zz<|aC<|Ru<|Qq
 have hg:jN l=true:=by have h:=hc1;rwa [Bool.not_eq_false'] at h
 have hv:=(U8 hg).2.2;have hT:fR l=(ofL (oP [] l).1,(oP [] l).2):=by rw [fR,hg];rfl
 refine aD<|Sr<|Dd aN<|Zz<|Sq<|Sr<|Dd aN<|Zz<|aG ?_;refine bT (σ:=Nat) (fun k=>([(0,.pv (hU l)),(4,sv (ofL (nF l k))),(5,iv (k:Int))],[])) (fun k=>k≤l.length∧oP [] l=oP (nF l k) (l.drop k)∧(nF l k).length≤20000) (fun k=>l.length - k) 0 ⟨aOQ _,rfl,aOQ _⟩ ?_ ?_
 ·exact Wk
 rintro k ⟨hk,hF,hA⟩;refine Sq<|Sr<|Dd aF<|Dd aF<|Dd (fY cX)<|Dd dK<|Zz ?_;refine Cn ?_ ?_<;>intro hc2
 ·have hlt:k < l.length:=by have:=aNv hc2;omega
  obtain ⟨e,hke⟩:=aZ hlt;have hi:=cP (f:=aU) hke;have hem:=aOJ hke;have hnx:=QY hke;have hYl:=P0 (hv e hem);have hdr:l.drop k=e::l.drop (k+1):=by
   rw [List.drop_eq_getElem_cons hlt];rw [aOE hlt] at hke;cases hke;rfl
  rw [hdr,oP] at hF;have hsA:(ofL (nF l k)).size=(nF l k).length:=dA _;have hsz:(ofL (fA e++[10])).size=(fA e).length+1:=by rw [dA,aOA];rfl
  have hjo:ofL (nF l k)++ofL (fA e++[10])=ofL (nF l (k+1)):=eqL (by
   rw [show (ofL (nF l k)++ofL (fA e++[10])).data.toList=(ofL (nF l k)).data.toList++(ofL (fA e++[10])).data.toList by simp,cZ,cZ,cZ,hnx])
  have hsB:(ofL (nF l (k+1))).size=(nF l (k+1)).length:=dA _;refine aD<|Sq<|aG<|Sr<|Dd aF<|Dd aF<|Dd (lN RD)<|Dd (by exact dL rfl bZ aS rfl (by omega) (by simp only [Zl,bJ,bQ,encStr,aU,iR];rfl) rfl)<|Dd (by exact aA rfl rfl call155 rfl (aG4 e _ (he e hem) (hv e hem)))<|Dd aF<|Dd fL<|Dd fL<|Dd aN<|Dd aN<|Zz<|Sr<|Dd aF<|Dd aF<|Dd (by exact cD rfl rfl rfl (by omega) hjo)<|Dd aN<|Zz<|Sq ?_;refine bA (t:=34) (n:=8) (X:=!decide (fG e=0)||decide ((20000:Int) < ((ofL (nF l (k+1))).size:Int))) ?_ ?_
  ·all_goals refine Dd aF ?_
   all_goals refine Dd jS<|Dm ?_
   all_goals refine Sp 30 (fun h30=>?_) fun h30=>?_
   all_goals try contradiction
   all_goals first|refine Fo<|Fo<|Fo ?_|refine On aF<|On (lH underlying9)<|On jE ?_
   all_goals refine Dd cW<|Zz ?_
   all_goals(exact⟨⟨_,rfl,by(simp only [*,Zo];done)⟩,rfl,rfl,rfl⟩)
  refine Cn ?_ ?_<;>intro hc3
  ·have hbad:fG e≠0∨20000 < (nF l k++(fA e++[10])).length:=by have h:=hc3;rw [← hnx];simp only [Bool.or_eq_true,aOS,aOH,aOG] at h;omega
   rw [aNy hbad] at hF;rw [hT,hF];exact Sr<|Dd aN<|Dd aN<|Zz<|aC<|Ru<|Qq
  have hfine:¬ (fG e≠0∨20000 < (nF l k++(fA e++[10])).length):=by have h:=hc3;rw [← hnx];simp only [aOV,Bool.not_eq_false',aOH,aOG] at h;omega
  rw [aNx hfine,← hnx] at hF;rw [← hnx] at hfine;refine aD<|Rg<|Dd aF<|Dd lR<|Da ?_;exact⟨k+1,⟨hlt,hF,by omega⟩,by omega,Wk⟩
 have hge:k=l.length:=by have:=aNw hc2;omega
 subst hge;rw [List.drop_length,oP] at hF;rw [hT,hF];exact bC<|Sr<|Dd aF<|Dd aN<|Dd aN<|Zz<|aC<|Ru<|Qq
theorem aBf (n:Nat):aT (n:Int)=ofL (decDigits n):=rW (by rw [P6,cZ])
theorem QK (x:Int) (h0:0≤x) (h1:x < 9223372036854775808) (H:aB):aI Tryz.prog 103 [iv x] H (fun r H'=>r=sv (aT x)∧H'=H):=by obtain ⟨n,rfl⟩:=Int.eq_ofNat_of_zero_le h0;rw [aBf];exact T7 n (by omega) H
def BO (r:GRec):List ByteArray:=[T6,aT r.kind,aT r.author,aT r.number,aT r.clock,r.branch,aT (r.parents.length:Int)]
def OE (r:GRec) (T:ByteArray):List ByteArray:=[T,r.target,aT (if r.yes then 1 else 0),aT r.order,r.from']
def sP (r:GRec) (T y:ByteArray):List ByteArray:=[T,r.target,y,aT r.order,r.from']
theorem aBU (r:GRec):gX r=(BO r++r.parents)++OE r (jJ r.edits).1:=by simp [gX,CW,vN,fI,BO,OE]
theorem aDi {r:GRec} (h:VF r):0≤r.order∧r.order≤4:=by
 rw [h.od,wOG]
 split
 ·next hk =>
  have:=h.k;rw [MC,aNy hk,oA,aOI,aOG,aOG] at this;omega
 omega
theorem yC {α:Type} (f:α→List PV) (l:List α) {n:Nat} (h:l.length=n):((l.map f).take (0+n)).drop 0=l.map f:=by rw [← h];exact qG f l
theorem MQ (l:List ByteArray):∀ r∈l.map encStr,r.length=1:=by intro r hr;obtain ⟨s,_,rfl⟩:=List.mem_map.1 hr;rfl
theorem VA (r:GRec) (hr:jG r) (hv:VF r) (hrf:∀ e∈r.edits,e.refs.length < 1099511627776) (H:aB):aI Tryz.prog 41 [av (cF r)] H (fun x H'=>x=.pv (aX (gX r))∧H'=H):=by
 refine aI.pure ?_ (by simp [cF]) H;have hk:=HH hv.k;have hau:=hv.au;have hnu:=hv.nu;have hcl:=hv.cl;have hod:=aDi hv;have hpl:=hv.pal;have hml:(r.parents.map encStr).length=r.parents.length:=aNz _;have hme:(r.edits.map aU).length=r.edits.length:=aNz _;have hd1:=fun H=>QK r.kind (by omega) (by omega) H;have hd2:=fun H=>QK r.author (by omega) (by omega) H;have hd3:=fun H=>QK r.number (by omega) (by omega) H;have hd4:=fun H=>QK r.clock (by omega) (by omega) H;have hd5:∀ H,aI Tryz.prog 103 [iv ((r.parents.map encStr).length:Int)] H (fun x H'=>x=sv (aT (r.parents.length:Int))∧H'=H):=fun H=>by
  rw [hml];exact QK (r.parents.length:Int) (by omega) (by omega) H
 have hd6:=fun H=>QK r.order (by omega) (by omega) H;have htx:=fun H=>aDQ r.edits H hr.2.2.2.1.1 hr.2.2.2.1.2 hrf;have hw1:dS (BO r)++(r.parents.map encStr).map (·.map AV.pv)=dS (BO r++r.parents):=qE _ _;rw [aBU];obtain ⟨T,hT⟩:∃ T,T=(jJ r.edits).1:=⟨_,rfl⟩;rw [← hT];rw [jJ] at hT;refine Bd func41 rfl ntmps41 ?_;have hl2:(dS (BO r++r.parents)).length=7+r.parents.length:=by rw [dS,aNz,aOA];rfl
 refine Sr<|Dd (by exact cH (id:=1) rfl rfl rfl rfl rfl)<|Dd aN<|Zz<|Sq<|aO follows<|Cr [1] (fun _ h=>fh BM h)<|Cr [1] (fun _ h=>lh isAgg3 h)<|Cr [] (fun H1 hH=>by exact aA rfl rfl mL rfl (hd1 _))<|Cr [1] (fun _ h=>fh zG h)<|Cr [1] (fun _ h=>lh isAgg3 h)<|Cr [] (fun H1 hH=>by exact aA rfl rfl mL rfl (hd2 _))<|Cr [1] (fun _ h=>fh qL h)<|Cr [1] (fun _ h=>lh isAgg3 h)<|Cr [] (fun H1 hH=>by exact aA rfl rfl mL rfl (hd3 _))<|Cr [1] (fun _ h=>fh zF h)<|Cr [1] (fun _ h=>lh isAgg3 h)<|Cr [] (fun H1 hH=>by exact aA rfl rfl mL rfl (hd4 _))<|Cr [1] (fun _ h=>fh zE h)<|Cr [1] (fun _ h=>lh isAgg9 h)<|Cr [1] (fun _ h=>fh oI h)<|Cr [1] (fun _ h=>lh aH h)<|Cr [] (fun _ _=>(fY aE))<|Cr [] (fun H1 hH=>by exact aA rfl rfl mL rfl (hd5 _)) ?_;refine Cp [971] (fun H1 hH=>by exact iL (id:=971) rfl cA rfl rfl rfl rfl (by intro r hr;simp only [aOL,aOP,or_false] at hr;rcases hr with rfl|rfl|rfl|rfl|rfl|rfl|rfl<;>rfl) ((hH _ rfl).trans rfl))<|Cr [971] (fun _ _=>aN)<|bL<|Kr<|Sr<|Dd aF<|Dd (aV oI)<|Dd (bM aH)<|Dd (by exact dH (k:=7+r.parents.length) (ps:=r.parents.map encStr) rfl cA EC rfl rfl rfl rfl rfl rfl rfl (MQ _) (m:=r.parents.length) hml (by omega) rfl hw1)<|Dd aN<|Zz<|Sr<|Dd aN<|Zz<|Sq<|Sr<|Dd (aV zD)<|Dd (bM kI)<|Dd (fY cX)<|Dd jE<|Zz ?_;refine Cn ?_ ?_<;>intro hc1
 ·have hpos:0 < r.edits.length:=by have:=aNv hc1;omega
  rw [aNx (by omega)] at hT;have hT:T=(fR r.edits).1:=hT;rw [← hT] at htx;refine Rg<|Dd (aV zD)<|Dd (bM kI)<|Dd (by exact aA rfl rfl call107 rfl (htx _))<|Dd aF<|Dd fL<|Dd fL<|Dd aN<|Zz<|Sr<|Dd aN<|Zz<|Sq<|Sr<|Dd (aV BL)<|Dd (bM oC)<|Zz ?_;refine Cn ?_ ?_<;>intro hc2
  ·have hy:aT (if r.yes then 1 else 0)=⟨#[49]⟩:=by rw [hc2];kernel_rfl
   rw [show OE r T=sP r T ⟨#[49]⟩by rw [OE,hy];rfl];refine Rg<|Dd aN<|Zz<|Sq<|aO follows<|Cr [971] (fun _ _=>aF)<|Cr [] (fun _ _=>aF)<|Cr [1] (fun _ h=>fh rS h)<|Cr [1] (fun _ h=>lh isAgg9 h)<|Cr [] (fun _ _=>aF)<|Cr [1] (fun _ h=>fh uE h)<|Cr [1] (fun _ h=>lh isAgg3 h)<|Cr [] (fun H1 hH=>by exact aA rfl rfl mL rfl (hd6 _))<|Cr [1] (fun _ h=>fh pT h)<|Cr [1] (fun _ h=>lh isAgg9 h)<|Cr [] (fun H1 hH=>by exact aR ((sP r T ⟨#[49]⟩).map encStr) rfl cA rfl rfl rfl rfl rfl (by intro r hr;simp only [sP,List.map_cons,List.map_nil,aOL,aOP,or_false] at hr;rcases hr with rfl|rfl|rfl|rfl|rfl<;>rfl))<|Cp [971] (fun H1 hH=>by exact dH (ob:=⟨1,1,9,dS (BO r++r.parents)⟩) (k:=7+r.parents.length+5) (ps:=(sP r T ⟨#[49]⟩).map encStr) rfl cA EC rfl ((hH _ rfl).trans rfl) rfl rfl rfl hl2 rfl (MQ _) (m:=5) rfl (by omega) rfl (by exact qE _ _)) ?_;refine Cr [971] (fun _ _=>aN)<|bL<|Kr<|aC ?_;refine dY (H':=[]) (.inr rfl) rfl (aY rfl) (Fin.fz (id:=971) (ob:=⟨2,1,9,dS ((BO r++r.parents)++sP r T ⟨#[49]⟩)⟩) ((((BO r++r.parents)++sP r T ⟨#[49]⟩)).map encStr) rfl (fN _) (.osl (yC encStr _ (by rw [aOA,aOA];rfl))) rfl trivial trivial) ?_;exact Qq
  have hy:aT (if r.yes then 1 else 0)=⟨#[48]⟩:=by rw [hc2];kernel_rfl
  rw [show OE r T=sP r T ⟨#[48]⟩by rw [OE,hy];rfl];refine aD<|Sq<|aO follows<|Cr [971] (fun _ _=>aF)<|Cr [] (fun _ _=>aF)<|Cr [1] (fun _ h=>fh rS h)<|Cr [1] (fun _ h=>lh isAgg9 h)<|Cr [] (fun _ _=>aF)<|Cr [1] (fun _ h=>fh uE h)<|Cr [1] (fun _ h=>lh isAgg3 h)<|Cr [] (fun H1 hH=>by exact aA rfl rfl mL rfl (hd6 _))<|Cr [1] (fun _ h=>fh pT h)<|Cr [1] (fun _ h=>lh isAgg9 h)<|Cr [] (fun H1 hH=>by exact aR ((sP r T ⟨#[48]⟩).map encStr) rfl cA rfl rfl rfl rfl rfl (by intro r hr;simp only [sP,List.map_cons,List.map_nil,aOL,aOP,or_false] at hr;rcases hr with rfl|rfl|rfl|rfl|rfl<;>rfl))<|Cp [971] (fun H1 hH=>by exact dH (ob:=⟨1,1,9,dS (BO r++r.parents)⟩) (k:=7+r.parents.length+5) (ps:=(sP r T ⟨#[48]⟩).map encStr) rfl cA EC rfl ((hH _ rfl).trans rfl) rfl rfl rfl hl2 rfl (MQ _) (m:=5) rfl (by omega) rfl (by exact qE _ _)) ?_;refine Cr [971] (fun _ _=>aN)<|bL<|Kr<|aC ?_;refine dY (H':=[]) (.inr rfl) rfl (aY rfl) (Fin.fz (id:=971) (ob:=⟨2,1,9,dS ((BO r++r.parents)++sP r T ⟨#[48]⟩)⟩) ((((BO r++r.parents)++sP r T ⟨#[48]⟩)).map encStr) rfl (fN _) (.osl (yC encStr _ (by rw [aOA,aOA];rfl))) rfl trivial trivial) ?_;exact Qq
 have hpos:r.edits.length=0:=by have:=aNw hc1;omega
 rw [aNy hpos] at hT;have hT:T=sNil:=hT;subst hT;refine aD<|Sr<|Dd aN<|Zz<|Sq<|Sr<|Dd (aV BL)<|Dd (bM oC)<|Zz ?_;refine Cn ?_ ?_<;>intro hc3
 ·have hy:aT (if r.yes then 1 else 0)=⟨#[49]⟩:=by rw [hc3];kernel_rfl
  rw [show OE r sNil=sP r sNil ⟨#[49]⟩by rw [OE,hy];rfl];refine Rg<|Dd aN<|Zz<|Sq<|aO follows<|Cr [971] (fun _ _=>aF)<|Cr [] (fun _ _=>aF)<|Cr [1] (fun _ h=>fh rS h)<|Cr [1] (fun _ h=>lh isAgg9 h)<|Cr [] (fun _ _=>aF)<|Cr [1] (fun _ h=>fh uE h)<|Cr [1] (fun _ h=>lh isAgg3 h)<|Cr [] (fun H1 hH=>by exact aA rfl rfl mL rfl (hd6 _))<|Cr [1] (fun _ h=>fh pT h)<|Cr [1] (fun _ h=>lh isAgg9 h)<|Cr [] (fun H1 hH=>by exact aR ((sP r sNil ⟨#[49]⟩).map encStr) rfl cA rfl rfl rfl rfl rfl (by intro r hr;simp only [sP,List.map_cons,List.map_nil,aOL,aOP,or_false] at hr;rcases hr with rfl|rfl|rfl|rfl|rfl<;>rfl))<|Cp [971] (fun H1 hH=>by exact dH (ob:=⟨1,1,9,dS (BO r++r.parents)⟩) (k:=7+r.parents.length+5) (ps:=(sP r sNil ⟨#[49]⟩).map encStr) rfl cA EC rfl ((hH _ rfl).trans rfl) rfl rfl rfl hl2 rfl (MQ _) (m:=5) rfl (by omega) rfl (by exact qE _ _)) ?_;refine Cr [971] (fun _ _=>aN)<|bL<|Kr<|aC ?_;refine dY (H':=[]) (.inr rfl) rfl (aY rfl) (Fin.fz (id:=971) (ob:=⟨2,1,9,dS ((BO r++r.parents)++sP r sNil ⟨#[49]⟩)⟩) ((((BO r++r.parents)++sP r sNil ⟨#[49]⟩)).map encStr) rfl (fN _) (.osl (yC encStr _ (by rw [aOA,aOA];rfl))) rfl trivial trivial) ?_;exact Qq
 have hy:aT (if r.yes then 1 else 0)=⟨#[48]⟩:=by rw [hc3];kernel_rfl
 rw [show OE r sNil=sP r sNil ⟨#[48]⟩by rw [OE,hy];rfl];refine aD<|Sq<|aO follows<|Cr [971] (fun _ _=>aF)<|Cr [] (fun _ _=>aF)<|Cr [1] (fun _ h=>fh rS h)<|Cr [1] (fun _ h=>lh isAgg9 h)<|Cr [] (fun _ _=>aF)<|Cr [1] (fun _ h=>fh uE h)<|Cr [1] (fun _ h=>lh isAgg3 h)<|Cr [] (fun H1 hH=>by exact aA rfl rfl mL rfl (hd6 _))<|Cr [1] (fun _ h=>fh pT h)<|Cr [1] (fun _ h=>lh isAgg9 h)<|Cr [] (fun H1 hH=>by exact aR ((sP r sNil ⟨#[48]⟩).map encStr) rfl cA rfl rfl rfl rfl rfl (by intro r hr;simp only [sP,List.map_cons,List.map_nil,aOL,aOP,or_false] at hr;rcases hr with rfl|rfl|rfl|rfl|rfl<;>rfl))<|Cp [971] (fun H1 hH=>by exact dH (ob:=⟨1,1,9,dS (BO r++r.parents)⟩) (k:=7+r.parents.length+5) (ps:=(sP r sNil ⟨#[48]⟩).map encStr) rfl cA EC rfl ((hH _ rfl).trans rfl) rfl rfl rfl hl2 rfl (MQ _) (m:=5) rfl (by omega) rfl (by exact qE _ _)) ?_;refine Cr [971] (fun _ _=>aN)<|bL<|Kr<|aC ?_;refine dY (H':=[]) (.inr rfl) rfl (aY rfl) (Fin.fz (id:=971) (ob:=⟨2,1,9,dS ((BO r++r.parents)++sP r sNil ⟨#[48]⟩)⟩) ((((BO r++r.parents)++sP r sNil ⟨#[48]⟩)).map encStr) rfl (fN _) (.osl (yC encStr _ (by rw [aOA,aOA];rfl))) rfl trivial trivial) ?_;exact Qq
end Go.Proofs.YtiifmppaejpemaaGreatDoor
namespace Go.Proofs.YtiifmppaejpemaaGreatDoor
open Go.Proofs.Tryz
open Go.Abs
theorem BH {r:GRec} (h:dT r=true):nM r=AK (gX r):=by rw [nM,aNy h]
theorem aIR {r:GRec} (h:dT r=true):isJ (nM r)=true:=by rw [BH h];exact FR _
end Go.Proofs.YtiifmppaejpemaaGreatDoor
namespace Go.Proofs.YtiifmppaejpemaaGreatDoor
open Go.Proofs.Tryz
open Go.Abs Go.Lib
theorem aD0 {a b:GRec} (ha:dT a=true) (hb:dT b=true) (h:aM (gX a)=aM (gX b)):PubEq a b:=by
 have va:=qF (r:=nH a) (a:=zS) (b:=zS) (xY ha) CL CL;have vb:=qF (r:=nH b) (a:=zS) (b:=zS) (xY hb) CL CL;have hj:aM (pZ (N7 (nH a) zS zS))=aM (pZ (N7 (nH b) zS zS)):=by
  rw [pZ,pZ,BG,BG];show aM (gX a)++_=aM (gX b)++_;rw [h];rfl
 have e:N7 (nH a) zS zS=N7 (nH b) zS zS:=(GR (lI va)).2.symm.trans ((congrArg C3 hj).trans (GR (lI vb)).2);exact⟨by have:=congrArg GRec.kind e;exact this,by have:=congrArg GRec.author e;exact this,by have:=congrArg GRec.number e;exact this,by have:=congrArg GRec.clock e;exact this,by have:=congrArg GRec.branch e;exact this,by have:=congrArg GRec.parents e;exact this,by have:=congrArg GRec.edits e;exact this,by have:=congrArg GRec.target e;exact this,by have:=congrArg GRec.yes e;exact this,by have:=congrArg GRec.order e;exact this,by have:=congrArg GRec.from' e;exact this⟩
theorem aDZ {a b:GRec} (h:PubEq a b):gX a=gX b:=by obtain ⟨h1,h2,h3,h4,h5,h6,h7,h8,h9,h10,h11⟩:=h;rw [gX,gX,CW,CW,h1,h2,h3,h4,h5,h6,h7,h8,h9,h10,h11]
theorem aAV:isJ sNil=false:=by decide
theorem aJi (r:GRec):isJ (nM r)=dT r:=by
 by_cases h:dT r=true
 ·rw [aIR h,h]
 rw [nM,aNx h,aAV];cases hv:dT r
 ·rfl
 exact absurd hv h
theorem aEY (r:GRec):decide (nM r=sNil)=!dT r:=by
 by_cases h:dT r=true
 ·rw [h];refine decide_eq_false fun e=>?_;have:=aIR h;rw [e,aAV] at this;cases this
 have h2:dT r=false:=by cases hv:dT r;rfl;exact absurd hv h
 rw [nM,aNx h,h2];exact decide_eq_true rfl
theorem aMv {b c:Bool} (h:b=c):(!(b == c))=false:=by subst h;cases b<;>rfl
theorem eqV {b c:Bool} (h:b=!c):(b == c)=false:=by subst h;cases c<;>rfl
theorem T5 (a b:GRec) (ha:jG a) (hb:jG b) (hpa:a.parents.length < 549755813888) (hpb:b.parents.length < 549755813888) (hra:∀ e∈a.edits,e.refs.length < 1099511627776) (hrb:∀ e∈b.edits,e.refs.length < 1099511627776) (H:aB):aI Tryz.prog 9 [av (cF a),av (cF b)] H (fun x H'=>x=bv true∧H'=H):=by
 refine aI.pure ?_ (by simp [cF]) H;have hfw:=fun H=>YB [a,b] H (show 2 < 1099511627776 by decide) (fun x hx=>by
  simp only [aOL,aOP,or_false] at hx;rcases hx with rfl|rfl
  ·exact ha
  exact hb)
 have hi1:=fun H=>MF a ha hpa H;have hi2:=fun H=>MF b hb hpb H;have his:∀ H,aI Tryz.prog 31 [sv (nM a)] H (fun x H'=>x=bv (dT a)∧H'=H):=fun H=>by
  have:=aAW (nM a) (Nat.lt_of_le_of_lt (J5 a) (by decide)) H;rw [aJi a] at this;exact this
 have hv1:=fun H=>EG a ha hpa H;have hsp:=fun H=>ET a b H (FF ha) (FF hb);have hna:=aEY a;have hnb:=aEY b;obtain ⟨F,hF⟩:∃ F,F=QE [a,b] 5:=⟨_,rfl⟩;rw [← hF] at hfw;refine Bd func9 rfl ntmps9<|Sr<|Dd (by exact cH (id:=2) rfl rfl rfl rfl rfl)<|Dd (by exact cH (id:=3) rfl rfl rfl rfl rfl)<|Dd aN<|Zz<|Sr<|Dd (by exact aA rfl rfl call10 rfl (aE1 _))<|Dd aN<|Zz<|Sq<|Sr<|Dd (by exact aL rfl bD aQ rfl rfl rfl rfl (by simp only [Zl,encStr];rfl) rfl)<|Dd (by exact aL rfl bD aQ rfl rfl rfl rfl (by simp only [Zl,encStr];rfl) rfl)<|Dd (by exact aR ([a,b].map cF) rfl aKt rfl rfl rfl rfl rfl (by intro r hr;simp only [List.map_cons,List.map_nil,aOL,aOP,or_false] at hr;rcases hr with rfl|rfl<;>rfl))<|Dd (by exact aA rfl rfl call11 rfl (hfw _))<|Dd jS<|Zz ?_;refine Cn ?_ ?_<;>intro hc1
 ·exact Sr<|Dd aF<|Dd aN<|Zz<|aC<|Rt<|Qq
 refine aD<|Sq<|aO follows<|Cq (by exact aL rfl bD aQ rfl rfl rfl rfl (by simp only [Zl,encStr];rfl) rfl)<|Cq (by exact aA rfl rfl AR rfl (hi1 _))<|Cq (by exact aL rfl bD aQ rfl rfl rfl rfl (by simp only [Zl,encStr];rfl) rfl)<|Cq (by exact aA rfl rfl AR rfl (hi2 _))<|Cq aN<|Cq aN<|bL<|Kr<|Sq<|Sq<|aO follows<|Cq aF<|Cq (by exact aA rfl rfl aFg rfl (his _))<|Cq (by exact aL rfl bD aQ rfl rfl rfl rfl (by simp only [Zl,encStr];rfl) rfl)<|Cq (by exact aA rfl rfl GJ rfl (hv1 _))<|Cq (by exact dF.val (by exact aDn rfl dZ rfl rfl) ((aMv rfl)))<|Cq aF<|Nf aF<|Nf yJ<|Nf (by exact aL rfl bD aQ rfl rfl rfl rfl (by simp only [Zl,encStr];rfl) rfl)<|Nf (by exact aA rfl rfl GJ rfl (hv1 _)) ?_;refine Nf (by exact dF.val (by exact FC rfl dZ rfl rfl) ((eqV hna)))<|Cq cW<|bL<|Kr ?_;refine Cn ?_ ?_<;>intro hc2
 ·refine Sr<|Dd aN<|Zz<|aC<|Rt ?_;cases hc2
 refine aD<|Sq<|Sq ?_;refine bA (t:=38) (n:=7) (X:=decide (nM a=sNil)||decide (nM b=sNil)) ?_ ?_
 ·all_goals refine Dd aF ?_
  all_goals refine Dd yJ<|Dm ?_
  all_goals refine Sp 35 (fun h35=>?_) fun h35=>?_
  all_goals try contradiction
  all_goals first|refine Fo<|Fo ?_|refine On aF<|On yJ ?_
  all_goals refine Dd cW<|Zz ?_
  all_goals(exact⟨⟨_,rfl,by(simp_all;done)⟩,rfl,rfl,rfl⟩)
 refine Cn ?_ ?_<;>intro hc3
 ·exact Sr<|Dd aF<|Dd aN<|Zz<|aC<|Rt<|Qq
 have hc:=hc3;rw [hna,hnb,aOV,Bool.not_eq_false',Bool.not_eq_false'] at hc;obtain ⟨va,vb⟩:=hc;have fa:=lI va;have fb:=lI vb;refine aD<|Sq<|Sr<|Dd (by exact aL rfl bD aQ rfl rfl rfl rfl (by simp only [Zl,encStr];rfl) rfl)<|Dd (by exact aL rfl bD aQ rfl rfl rfl rfl (by simp only [Zl,encStr];rfl) rfl)<|Dd (by exact aA rfl rfl call29 rfl (hsp _))<|Zz ?_;refine Cn ?_ ?_<;>intro hc4
 ·have hpe:=LC.1 hc4;have hpf:=aDZ hpe;have hie:nM a=nM b:=by rw [BH va,BH vb,hpf]
  exact Sr<|Dd aF<|Dd aF<|On aF<|On aF<|On (by exact dF.val (by exact xA rfl rfl rfl) ((decide_eq_true hie)))<|Dd cW<|Dd aN<|Zz<|aC<|Rt<|Qq
 have hpn:=hc4;have hne:ofL (aM (gX a))≠ofL (aM (gX b)):=fun e=>by
  have e2:aM (gX a)=aM (gX b):=by
   have:=congrArg (fun x=>x.data.toList) e
   simpa only [cZ] using this
  rw [LC.2 (aD0 va vb e2)] at hpn;cases hpn
 have hf1:=fun H=>VA a ha fa hra H;have hf2:=fun H=>VA b hb fb hrb H;have hj1:=fun H=>O7 (gX a) (Nat.le_trans (yN fa) (by decide)) (fun s hs=>Nat.le_trans (CA fa s hs) (by decide)) H;have hj2:=fun H=>O7 (gX b) (Nat.le_trans (yN fb) (by decide)) (fun s hs=>Nat.le_trans (CA fb s hs) (by decide)) H;have hz1:(ofL (aM (gX a))).size < 4611686018427387904:=by rw [dA];exact Nat.lt_of_le_of_lt (tX (CA fa) (yN fa)) (by decide)
 have hz2:(ofL (aM (gX b))).size < 4611686018427387904:=by rw [dA];exact Nat.lt_of_le_of_lt (tX (CA fb) (yN fb)) (by decide)
 have hs1:∀ H,aI Tryz.prog 42 [sv (ofL (aM (gX a)))] H (fun r H'=>r=sv (nM a)∧H'=H):=fun H=>by
  have:=KU (ofL (aM (gX a))) H hz1;rw [BH va];exact this
 have hs2:∀ H,aI Tryz.prog 42 [sv (ofL (aM (gX b)))] H (fun r H'=>r=sv (nM b)∧H'=H):=fun H=>by
  have:=KU (ofL (aM (gX b))) H hz2;rw [BH vb];exact this
 by_cases hxy:nM a=nM b
 ·refine aD<|Sq<|aO follows<|Cq (by exact aL rfl bD aQ rfl rfl rfl rfl (by simp only [Zl,encStr];rfl) rfl)<|Cq (by exact aA rfl rfl aFe rfl (hf1 _))<|Cq (by exact aA rfl rfl aFf rfl (hj1 _))<|Cq (by exact aL rfl bD aQ rfl rfl rfl rfl (by simp only [Zl,encStr];rfl) rfl)<|Cq (by exact aA rfl rfl aFe rfl (hf2 _))<|Cq (by exact aA rfl rfl aFf rfl (hj2 _))<|Cq aN<|Cq aN<|bL<|Kr<|Sr<|Dd aF<|Dd aF<|On aF<|On aF<|On (by exact dF.val (by exact E4 rfl rfl rfl) ((by rw [decide_eq_true hxy];rfl:(!decide (nM a=nM b))=false)))<|On aF<|On aF<|On aF<|On (by exact dF.val (by exact E4 rfl rfl rfl) ((by rw [decide_eq_false hne];rfl:(!decide (ofL (aM (gX a))=ofL (aM (gX b))))=true)))<|On aF<|On aF<|On (by exact aA rfl rfl AQ rfl (hs1 _)) ?_;exact On aF<|On (by exact aA rfl rfl AQ rfl (hs2 _))<|On (by exact dF.val (by exact xA rfl rfl rfl) ((decide_eq_true hxy)))<|On cW<|On cW<|Dd cW<|Dd aN<|Zz<|aC<|Rt<|Qq
 refine aD<|Sq<|aO follows<|Cq (by exact aL rfl bD aQ rfl rfl rfl rfl (by simp only [Zl,encStr];rfl) rfl)<|Cq (by exact aA rfl rfl aFe rfl (hf1 _))<|Cq (by exact aA rfl rfl aFf rfl (hj1 _))<|Cq (by exact aL rfl bD aQ rfl rfl rfl rfl (by simp only [Zl,encStr];rfl) rfl)<|Cq (by exact aA rfl rfl aFe rfl (hf2 _))<|Cq (by exact aA rfl rfl aFf rfl (hj2 _))<|Cq aN<|Cq aN<|bL<|Kr<|Sr<|Dd aF<|Dd aF<|On aF<|On aF<|On (by exact dF.val (by exact E4 rfl rfl rfl) ((by rw [decide_eq_false hxy];rfl:(!decide (nM a=nM b))=true)))<|On aF<|Fo<|Fo<|Fo<|Fo ?_;refine CT rfl rfl rfl rfl ?_;refine CT rfl rfl rfl rfl ?_;refine CT rfl rfl rfl rfl ?_;refine CT rfl rfl rfl rfl ?_;refine CT rfl rfl rfl rfl ?_;exact Fo<|On cW<|Dd cW<|Dd aN<|Zz<|aC<|Rt<|Qq
end Go.Proofs.YtiifmppaejpemaaGreatDoor
