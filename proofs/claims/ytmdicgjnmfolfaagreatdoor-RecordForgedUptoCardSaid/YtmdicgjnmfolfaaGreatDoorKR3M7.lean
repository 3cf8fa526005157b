/-
  Parts of the proof: rules of an abstract program logic, contracts of functions, plain laws. Conditions: each theorem's own.
-/
import Derived.Test.YtmdicgjnmfolfaaGreatDoorKR3M6
import Derived.Lib.Bytealg
import Derived.Lib.Strings
import Derived.Lib.AtoiTie
import Derived.Lib.ItoaMem
import Derived.Lib.ItoaLen
set_option linter.unusedVariables false
set_option linter.unusedSimpArgs false
set_option maxRecDepth 100000
set_option maxHeartbeats 8000000
namespace Go.Proofs
open Tryz
theorem aCu:type_of% call150:=call150
theorem NT:type_of% call188:=call188
theorem xD:type_of% call234:=call234
theorem aCr:type_of% func113:=func113
theorem aCp:type_of% func150:=func150
theorem lE:type_of% isAgg182:=isAgg182
theorem XK:type_of% isAgg187:=isAgg187
theorem IL:type_of% isAgg247:=isAgg247
theorem kY:type_of% isAgg41:=isAgg41
theorem XI:type_of% ntmps113:=ntmps113
theorem XG:type_of% ntmps150:=ntmps150
theorem lX:type_of% sizeOf182:=sizeOf182
theorem ES:type_of% sizeOf218:=sizeOf218
end Go.Proofs
namespace Go.Proofs.YtmdicgjnmfolfaaGreatDoor
open Go.Proofs.Tryz
open Go.Abs
variable{r w:List UInt8}{c:UInt8}{i k n j:Nat}{s:ByteArray}
def BZ(c:UInt8):Option UInt8:=if c=92 then some 92 else if c=34 then some 34 else if c=110 then some 10 else none
def pW:List UInt8->Option (List UInt8×Nat)
 | []=>none
 | [c]=>if c=34 then some ([],1)else none
 |c::e::r=>if c=34 then some ([],1)else if c=10 then none else if c=92 then(BZ e).bind fun b=>(pW r).map fun p=>(b::p.1,p.2+2)else(pW (e::r)).map fun p=>(c::p.1,p.2+1)
def AA(s:ByteArray):ByteArray×Int:=match pW (s.data.toList.drop 1)with
 |some (d,n)=>(⟨d.toArray⟩,((n+1:Nat):Int))
 |none=>(sNil,0)
theorem KV:pW (34::r)=some ([],1):=by cases r<;>rfl
theorem aBW:pW (10::r)=none:=by cases r<;>rfl
theorem JZ{e:UInt8}:pW (92::e::r)=(BZ e).bind fun b=>(pW r).map fun p=>(b::p.1,p.2+2):=rfl
theorem KW(h1:c≠34)(h2:c≠10)(h3:c≠92):pW (c::r)=(pW r).map fun p=>(c::p.1,p.2+1):=by
 cases r with
 |nil =>
  show (if c=34 then some ([],1)else none)=_;rw[aPS h1];rfl
 |cons e r=>rw[pW,aPS h1,aPS h2,aPS h3]
def IQ(o:Option (List UInt8×Nat))(w:List UInt8)(i:Nat):ByteArray×Int:=match o with
 |some (d,n)=>(⟨(w++d).toArray⟩,((i+n:Nat):Int))
 |none=>(sNil,0)
theorem O4{o:Option (List UInt8×Nat)}{b:UInt8}:IQ (o.map fun p=>(b::p.1,p.2+k)) w i=IQ o (w++[b]) (i+k):=by
 cases o with
 |none=>rfl
 |some p=>simp only[IQ,Option.map_some,List.append_assoc,List.singleton_append];congr 2;omega
theorem GC(h:i<s.size):s.data.toList.drop i=wJ s i::s.data.toList.drop (i+1):=by
 have hk:i<s.data.toList.length:=by simpa using h
 rw[List.drop_eq_getElem_cons hk,wJ,aPZ hk];rfl
theorem WP(h:s.size<=i):s.data.toList.drop i=[]:=List.drop_eq_nil_of_le (by simpa using h)
theorem JR(hn:n<256){b:Bool}(h:decide (cP s i=(n:Int))=b):decide (wJ s i=UInt8.ofNat n)=b:=by rw[<-h,vB,KY hn]
theorem aDT(c:UInt8):(Lib.indexByte (⟨#[92,34,110]⟩:ByteArray).data.toList ((c.toNat:Int).toNat.toUInt8) = -1/\BZ c=none)\/∃k:Nat,k<3/\Lib.indexByte (⟨#[92,34,110]⟩:ByteArray).data.toList ((c.toNat:Int).toNat.toUInt8)=(k:Int)/\BZ c=some (wJ ⟨#[92,34,10]⟩ k):=by
 have h0:((c.toNat:Int).toNat.toUInt8)=c:=by simp
 rw[h0];by_cases h1:c=92
 ·subst h1;exact .inr ⟨0,by decide,by decide,by decide⟩
 by_cases h2:c=34
 ·subst h2;exact .inr ⟨1,by decide,by decide,by decide⟩
 by_cases h3:c=110
 ·subst h3;exact .inr ⟨2,by decide,by decide,by decide⟩
 refine .inl ⟨?_,by rw[BZ,aPS h1,aPS h2,aPS h3]⟩;have e1:((92:UInt8) == c)=false:=by simp[Ne.symm h1]
 have e2:((34:UInt8) == c)=false:=by simp[Ne.symm h2]
 have e3:((110:UInt8) == c)=false:=by simp[Ne.symm h3]
 simp only[Lib.indexByte,e1,e2,e3];rfl
theorem XP(s:ByteArray)(H:aH)(hs:s.size<1099511627776):aI Tryz.prog 238 [sv s] H (fun r H'=>r=.tup [sv (AA s).1,iv (AA s).2]/\H'=H):=by
 refine Pu ?_;have hG:AA s=IQ (pW (s.data.toList.drop 1)) [] 1:=by
  unfold AA IQ;cases pW (s.data.toList.drop 1)with
  |none=>rfl
  |some p =>
   show ((⟨p.1.toArray⟩:ByteArray),((p.2+1:Nat):Int))=((⟨([]++p.1).toArray⟩:ByteArray),((1+p.2:Nat):Int));rw[List.nil_append,Nat.add_comm]
 obtain ⟨res,hres⟩:∃res,res=AA s:=⟨_,rfl⟩;rw[<-hres]at hG |-;refine Bd func238 rfl ntmps238<|Sr<|Dd aL<|Dd aL<|Zz<|Sr<|Dd (by exact bW (id:=2001) rfl G3 rfl rfl)<|Zz<|Sq<|Sq ?_;refine gR.ent (E':=[(0,sv s),(4,.ref 2001 0 0 0)]) (H':=vO 0 [] false) (dA.bld0 ⟨⟨_,rfl,.same (by simp)⟩,⟨_,rfl,.same (by simp;rfl)⟩,trivial⟩) ?_;refine Rg<|Dd aL<|Zz<|aG ?_;refine Q8 (fun(i g:Nat) (w:List UInt8) (u:Bool)=>([(0,sv s),(4,.ref 2001 0 0 0),(5,iv (i:Int))],vO g w u)) (fun i g w u=>w.length<=i/\i<2199023255552/\res=IQ (pW (s.data.toList.drop i)) w i) (fun i g w u=>s.size+1 - i) 1 0 [] false ⟨aPb _,by decide,hG⟩ ?_ ?_
 ·exact(dA.wk (Eb<|Ea<|Eb<|trivial) (Hc (fY rfl rfl)<|Hc (eN _ _)<|trivial) trivial)
 rintro i g w u ⟨hwl,hib,hinv⟩;refine Sq<|Sr<|Dd aE<|Dd aE<|Dd (jV underlying9)<|Dd cZ<|Zz ?_;refine Cn ?_ ?_<;>intro hc1
 ·have hlt:i<s.size:=by have:=aPQ hc1;omega
  have hd:=GC hlt;refine aC<|Sq<|aG<|Sr<|Dd aE<|Dd aE<|Dd (by exact dO rfl underlying9 rfl rfl (by omega) (by exact aP5 _) (by omega) rfl)<|Dd aL<|Zz<|Sr<|Dd aE<|Zz<|aG<|Sr<|Dd cK<|Da ?_;refine Cn ?_ ?_<;>intro hc2
  ·have hb:wJ s i=34:=aPQ (JR (n:=34) (by decide) hc2);have hr:res=(⟨w.toArray⟩,((i+1:Nat):Int)):=by rw[hinv,hd,hb,KV,IQ,List.append_nil]
   rw[hr];exact Sr<|Dd (by exact aA rfl rfl nA rfl (PC g w u (by omega)))<|Dd aE<|Dd mI<|Dd aL<|Dd aL<|Zz<|aB<|Ru<|Qq
  have hb34:wJ s i≠34:=aPR (JR (n:=34) (by decide) hc2);refine Sr<|Dd cK<|Da ?_;refine Cn ?_ ?_<;>intro hc3
  ·have hb:wJ s i=10:=aPQ (JR (n:=10) (by decide) hc3);have hr:res=(sNil,0):=by rw[hinv,hd,hb,aBW,IQ]
   rw[hr];exact Sr<|Dd aL<|Dd aL<|Zz<|aB<|Ru<|Qq
  have hb10:wJ s i≠10:=aPR (JR (n:=10) (by decide) hc3);refine Sr<|Dd cK<|Da ?_;refine Cn ?_ ?_<;>intro hc4
  ·have hb:wJ s i=92:=aPQ (JR (n:=92) (by decide) hc4);refine Sr<|Dd aE<|Dd mI<|Dd aL<|Zz<|Sr<|Dd aL<|Zz<|Sq<|Sr<|Dd aE<|Dd aE<|Dd (jV underlying9)<|Dd cZ<|Zz ?_;refine Cn ?_ ?_<;>intro hc5
   ·have hlt2:i+1<s.size:=by have:=aPQ hc5;omega
    have hd2:=GC hlt2;rcases aDT (wJ s (i+1))with⟨x1,x2⟩|⟨q,hq,x1,x2⟩
    ·have hr:res=(sNil,0):=by rw[hinv,hd,hb,hd2,JZ,x2];rfl
     have hneg:Lib.indexByte (⟨#[92,34,110]⟩:ByteArray).data.toList (cP s (i+1)).toNat.toUInt8 = -1:=x1;rw[hr];refine Rg<|Dd aE<|Dd aE<|Dd (by exact dO rfl underlying9 rfl rfl (by omega) (by exact aP5 _) (by omega) rfl)<|Dd (by exact aA rfl rfl xI rfl (pQ _ _ _))<|Dd aL<|Zz<|Sq<|Sr<|Dd aE<|Dd cZ<|Zz ?_;refine Cn ?_ ?_<;>intro hc6
     ·exact Sr<|Dd aL<|Dd aL<|Zz<|aB<|Ru<|Qq
     exact absurd (aPR hc6) (by rw[hneg];decide)
    have hpos:Lib.indexByte (⟨#[92,34,110]⟩:ByteArray).data.toList (cP s (i+1)).toNat.toUInt8=(q:Int):=x1;have hq3:q<(⟨#[92,34,10]⟩:ByteArray).size:=hq;refine Rg<|Dd aE<|Dd aE<|Dd (by exact dO rfl underlying9 rfl rfl (by omega) (by exact aP5 _) (by omega) rfl)<|Dd (by exact aA rfl rfl xI rfl (pQ _ _ _))<|Dd aL<|Zz<|Sq<|Sr<|Dd aE<|Dd cZ<|Zz ?_;refine Cn ?_ ?_<;>intro hc7
    ·exact absurd (aPQ hc7) (by rw[hpos];omega)
    refine aC<|Rg<|Dd aE<|Dd (by exact dO rfl underlying9 rfl rfl (by rw[hpos];omega) (by rw[hpos];exact aP5 _) hq3 rfl)<|Dd (by exact aA rfl rfl kZ rfl (iV g w u (wJ ⟨#[92,34,10]⟩ q) (by omega)))<|Zz<|Rg<|Dd aE<|Dd mI<|Da ?_;refine⟨i+1+1,g+1,w++[wJ ⟨#[92,34,10]⟩ q],true,⟨by rw[aPV,List.length_singleton];omega,by omega,?_⟩,by omega,(dA.wk (Eb<|Ea<|Eb<|trivial) (Hc (fY rfl rfl)<|Hc (eN _ _)<|trivial) trivial)⟩;rw[hinv,hd,hb,hd2,JZ,x2];exact O4
   have hge:s.size<=i+1:=by have:=aPR hc5;omega
   have hr:res=(sNil,0):=by rw[hinv,hd,hb,WP hge];rfl
   rw[hr];refine aC<|Sq<|Sr<|Dd aE<|Dd cZ<|Zz ?_;refine Cn ?_ ?_<;>intro hc8
   ·exact Sr<|Dd aL<|Dd aL<|Zz<|aB<|Ru<|Qq
   cases hc8
  have hb92:wJ s i≠92:=aPR (JR (n:=92) (by decide) hc4);refine Rg<|Dd aE<|Dd (by exact aA rfl rfl kZ rfl (iV g w u (wJ s i) (by omega)))<|Zz<|Rg<|Dd aE<|Dd mI<|Da ?_;refine⟨i+1,g+1,w++[wJ s i],true,⟨by rw[aPV,List.length_singleton];omega,by omega,?_⟩,by omega,(dA.wk (Eb<|Ea<|Eb<|trivial) (Hc (fY rfl rfl)<|Hc (eN _ _)<|trivial) trivial)⟩;rw[hinv,hd,KW hb34 hb10 hb92,O4]
 have hge:s.size<=i:=by have:=aPR hc1;omega
 have hr:res=(sNil,0):=by rw[hinv,WP hge];rfl
 rw[hr];exact aY<|Sr<|Dd aL<|Dd aL<|Zz<|aB<|Ru<|Qq
def tN(s:ByteArray)(i:Nat):Int:=if i<s.size then CD (cP s i)else 0
def tS(s:ByteArray):Ob:=bx 1 9 [sv s]
def tC:Ob:=bx 256 158 sP
def tA:Ob:=bx 1 247 [.clo 236 [.ref 921 0 0 0,.ref 923 0 0 0]]
theorem aLW(s:ByteArray)(i:Nat)(H:aH)(h1:H.get 921=some (tS s))(h2:H.get 923=some tC)(hi:i<4611686018427387904)(hs:s.size<4611686018427387904):
  aI Tryz.prog 236 [iv (i:Int),.ref 921 0 0 0,.ref 923 0 0 0] H (fun r H'=>r=.pv (.int .u8 (tN s i))/\H'=H):=by
 refine Bd func236 rfl ntmps236<|Sr<|Dd aL<|Zz<|Sq<|Sr<|Dd aE<|Dd (by exact aK rfl isAgg9 rfl h1 rfl rfl rfl)<|Dd (jV underlying9)<|Dd DD<|Zz ?_;refine Cn ?_ ?_<;>intro hc1
 ·have e:tN s i=0:=by rw[tN,aPS (by have:=aPQ hc1;omega)]
  rw[e];refine Sr<|Dd aL<|Zz<|aB ?_;refine eG (H':=H) (.inr rfl) rfl (bD rfl) Fin.refl ?_;exact Qq
 have hlt:i<s.size:=by have:=aPR hc1;omega
 have e:tN s i=CD (cP s i):=by rw[tN,aPT hlt]
 rw[e];refine aC<|Sr<|Dd (by exact aK rfl isAgg9 rfl h1 rfl rfl rfl)<|Dd aE<|Dd (by exact dO rfl underlying9 rfl rfl (by omega) (by exact aP5 _) (by omega) rfl)<|Dd (by exact eJ (m:=(cP s i).toNat) (k2:=(cP s i).toNat) rfl fK cL rfl h2 rfl rfl (C4 s i) rfl (C5 s i) (by omega))<|Dd (by exact aK rfl A7 rfl h2 rfl rfl (aJ0 s i))<|Dd aL<|Zz<|aB ?_;refine eG (H':=H) (.inr rfl) rfl (bD rfl) Fin.refl ?_;exact Qq
theorem UD(s:ByteArray)(H:aH)(h1:H.get 921=none)(h2:H.get 923=none)(h3:H.get 924=none)(hc:eI H):
  aI Tryz.prog 197 [sv s] H (fun r H'=>r=.clo 237 [.ref 921 0 0 0,.ref 924 0 0 0]/\H'=(924,tA)::(923,tC)::(921,tS s)::H):=by
 have h2':aH.get ((921,tS s)::H) 923=none:=h2;refine Bd func197 rfl ntmps197<|Sr<|Dd (by exact cD (id:=921) rfl rfl rfl rfl h1)<|Dd aL<|Zz<|Sr<|Dd (by exact aA rfl rfl call123 rfl (Q3 _))<|Dd (by exact bW (id:=923) rfl Z4 rfl h2)<|Uu (by exact cM rfl xB rfl rfl rfl rfl rfl rfl rfl (by simp))<|Zz<|Sr<|Dd (by exact gJ rfl rfl)<|Dd (by exact bW (id:=924) rfl aLl rfl h3)<|Uu (lG sizeOf247)<|Zz<|Sr<|Dd (by exact gJ rfl rfl)<|Dd aL<|Zz<|aB ?_;refine eG (H':=((924,tA)::(923,tC)::(921,tS s)::H)) (.inr rfl) rfl (bD rfl) (Fin.get' (fun j=>by simp only[aH.get];cases Nat.beq 924 j<;>cases Nat.beq 923 j<;>rfl)) ?_;exact Qq
def vQ(p:Nat->Bool):Nat->Nat->Nat
 |0,i=>i
 |n+1,i=>if p i then vQ p n (i+1)else i
theorem E8(p:Nat->Bool):∀(n i:Nat),i<=vQ p n i/\vQ p n i<=i+n
 |0,i=>⟨aP0 _,aP0 _⟩
 |n+1,i=>by
  rw[vQ]
  split
  ·have:=E8 p n (i+1);omega
  omega
theorem FA(p:Nat->Bool):∀(n i:Nat),∀j,i<=j->j<vQ p n i->p j=true
 |0,i,j,h1,h2=>by rw[vQ]at h2;omega
 | n+1,i,j,h1,h2=>by
  rw[vQ]at h2
  split at h2
  ·by_cases e:j=i
   ·subst e;assumption
   exact FA p n (i+1) j (by omega) h2
  omega
theorem xQ(p:Nat->Bool):∀(n i:Nat),vQ p n i<i+n->p (vQ p n i)=false
 |0,i,h=>by rw[vQ]at h;omega
 |n+1,i,h=>by
  rw[vQ]at h |-
  split at h
  ·rename_i hp;rw[aPT hp];exact xQ p n (i+1) (by omega)
  rename_i hp;rw[aPS hp];exact Bool.not_eq_true _▸hp
theorem E9(p:Nat->Bool)(h1:i<=j)(h2:j<=i+n)(h3:∀k,i<=k->k<j->p k=true)(h4:p j=false\/j=i+n):vQ p n i=j:=by
 obtain ⟨l1,l2⟩:=E8 p n i;rcases Nat.lt_trichotomy (vQ p n i) j with h|h|h
 ·have:=xQ p n i (by omega);rw[h3 _ l1 h]at this;cases this
 ·exact h
 have:=FA p n i j h1 h;rcases h4 with h4|h4
 ·rw[h4]at this;cases this
 omega
def LV(s:ByteArray)(j:Nat):Bool:=decide (j<s.size)&&!decide (cP s j=10)
def BO(s:ByteArray)(j:Nat):Bool:=decide (tN s j=3)||decide (tN s j=4)||decide (tN s j=5)
def aBx(s:ByteArray)(j:Nat):Bool:=decide (tN s j=4)
def SW(s:ByteArray)(i:Nat):Nat:=vQ (LV s) (s.size - i) i
def JX(s:ByteArray)(i:Nat):Nat:=vQ (BO s) (s.size - i) i
def S8(s:ByteArray)(i:Nat):Nat:=vQ (aBx s) (s.size - i) i
structure GFound where
 kind:Int
 text:ByteArray
 pos:Nat
 err:Int
variable{f:GFound}
def GA(f:GFound):List PV:=[.int .i64 f.kind,.str f.text,.int .i64 f.pos,.int .i64 f.err]
def uI(i:Nat):GFound:=⟨0,sNil,i,3⟩
def EB(s:ByteArray)(i j:Nat):GFound:=⟨1,s.extract i j,i,if 24<j - i then 2 else 0⟩
def MY(s:ByteArray)(i j:Nat):GFound:=⟨2,s.extract i j,i,if decide (7<j - i)||decide (tN s j=3)||decide (tN s j=5)then 4 else 0⟩
def OP(s:ByteArray)(i:Nat):GFound×Nat:=if 0<(AA (s.extract i s.size)).2 then(⟨3,(AA (s.extract i s.size)).1,i,0⟩,i+(AA (s.extract i s.size)).2.toNat)else(uI i,i)
def jD(s:ByteArray)(i:Nat):Option GFound×Nat :=if tN s i=1 then(none,i+1)else if tN s i=2 then(none,SW s i)else if tN s i=3 then(some (EB s i (JX s i)),JX s i)
 else if tN s i=4 then(some (MY s i (S8 s i)),S8 s i)else if tN s i=7 then(some (OP s i).1,(OP s i).2)
 else if tN s i=6 then(some ⟨4,s.extract i (i+1),i,0⟩,i+1)else(some (uI i),i)
def nL(s:ByteArray):Nat->Nat->List GFound
 |0,_=>[]
 |n+1,i=>if i<s.size then(match jD s i with
  |(none,j)=>nL s n j
  |(some f,j)=>f::(if f.err=0 then nL s n j else[]))else[]
theorem KX:∀(l:List UInt8) (p:List UInt8×Nat),pW l=some p->p.2<=l.length
 | [],p,h=>by cases h
 | [c],p,h=>by
  rw[pW]at h
  split at h
  ·cases h;exact aP0 _
  cases h
 | c :: e :: r, p, h => by
  rw[pW]at h
  split at h
  ·cases h;exact Nat.le_add_left _ _
  split at h
  ·cases h
  split at h
  ·cases hg:BZ e with
   |none=>rw[hg]at h;cases h
   | some b =>
    rw[hg]at h;cases hu:pW r with
    |none=>rw[hu]at h;cases h
    |some q =>
     rw[hu]at h;cases h;have:=KX r q hu;show q.2+2<=r.length+1+1;omega
  cases hu:pW (e::r)with
  |none=>rw[hu]at h;cases h
  |some q =>
   rw[hu]at h;cases h;have:=KX (e::r) q hu;show q.2+1<=r.length+1+1;rw[aPW]at this;omega
theorem VZ(s:ByteArray):0<=(AA s).2/\(AA s).2<=s.size:=by
 have hl:s.data.toList.length=s.size:=by simp
 unfold AA;cases hu:pW (s.data.toList.drop 1)with
 |none=>exact⟨Int.le_refl _,Int.natCast_nonneg _⟩
 | some p =>
  have:=KX _ p hu;rw[aP9,hl]at this;refine⟨Int.natCast_nonneg _,?_⟩;show ((p.2+1:Nat):Int)<=_;have h0:0<s.size:=by
   cases h0:s.data.toList with
   |nil=>rw[h0]at hu;cases hu
   |cons a l=>rw[h0]at hl;rw[<-hl];exact Nat.succ_pos _
  omega
theorem Q9(s:ByteArray)(i:Nat)(h:tN s i≠0):i<s.size:=by
 by_cases e:i<s.size
 ·exact e
 exact absurd (aPS e) h
def tF(f:GFound):Ob:=bx 4 218 ((GA f).map .pv)
theorem wN(H:aH)(f:GFound):∀r∈(tF f).rows,∀a∈r,Clo H a:=by intro r hr a ha;simp only[tF,bx,aPX]at hr;subst hr;obtain ⟨p,_,rfl⟩:=List.mem_map.1 ha;simp
theorem MU{α:Type}{l m:List α}{d:α}(h:l.drop k=d::m):l[k]?=some d/\l.drop (k+1)=m:=by
 refine⟨?_,?_⟩
 ·have:=congrArg (·[0]?) h
  simpa using this
 rw[<-List.drop_drop,h];rfl
theorem aGo(h:jD s i=(some f,j))(he:f.err=0)(hi:i<s.size):i<j/\j<=s.size:=by
 have hfirst:∀(p:Nat->Bool),p i=true->i<vQ p (s.size - i) i/\vQ p (s.size - i) i<=s.size:=fun p hp=>by
  obtain ⟨l1,l2⟩:=E8 p (s.size - i) i;refine⟨?_,by omega⟩;rcases Nat.lt_or_ge i (vQ p (s.size - i) i)with h|h
  ·exact h
  have h3:=xQ p (s.size - i) i (by omega);rw[show vQ p (s.size - i) i=i by omega,hp]at h3;cases h3
 unfold jD at h
 split at h
 ·cases h
 split at h
 ·cases h
 split at h
 ·rename_i e3;cases h;exact hfirst _ (by rw[BO,e3];rfl)
 split at h
 ·rename_i e4;cases h;exact hfirst _ (by rw[aBx,e4];rfl)
 split at h
 ·have hul:=VZ (s.extract i s.size);have hexs:(s.extract i s.size).size<=s.size - i:=by rw[ByteArray.size_extract];omega
  unfold OP at h
  split at h
  ·rename_i hpos;cases h;show i<i+(AA (s.extract i s.size)).2.toNat/\i+(AA (s.extract i s.size)).2.toNat<=s.size;omega
  cases h;cases he
 split at h
 ·cases h;exact⟨Nat.lt_succ_self _,hi⟩
 cases h;cases he
theorem ltD(h:decide ((i:Int)<(n:Int))=true):i<n:=by have:=aPQ h;omega
theorem G5(s:ByteArray)(fv:AV)(Hs:Nat->aH)(cont:Nat->Bool)(m:Nat)(hs:s.size<1099511627776)(h1:∀k,(Hs k).get 921=some (tS s))(h2:∀k,(Hs k).get 923=some tC)(h3:∀k,(Hs k).get 924=some tA)(h6:∀k,(Hs k).get 926=none)(hcl:∀k,eI (Hs k))(hf:∀k,Clo (Hs k) fv)
  (hm:m<=(nL s (s.size+1) 0).length) (hall:∀k,k+1<m->cont k=true) (hend:m=(nL s (s.size+1) 0).length\/(0<m/\cont (m - 1)=false))
  (hy:∀k d,(nL s (s.size+1) 0)[k]?=some d->k<m->dK Tryz.prog fv [.agg ((GA d).map .pv)] ((926,tF d)::Hs k) (fun r H'=>r=bv (cont k)/\H'=(926,tF d)::Hs (k+1))) :
  aI Tryz.prog 237 [fv,.ref 921 0 0 0,.ref 924 0 0 0] (Hs 0) (fun r H'=>r=.tup []/\H'=Hs m):=by
 obtain ⟨ds,hds⟩:∃ds,ds=nL s (s.size+1) 0:=⟨_,rfl⟩;rw[<-hds]at hy hm hend;have hat:∀(k i:Nat) (f:GFound),i<=s.size+1->dK Tryz.prog (.clo 236 [.ref 921 0 0 0,.ref 923 0 0 0]) [iv (i:Int)] ((926,tF f)::Hs k) (fun r H'=>r=.pv (.int .u8 (tN s i))/\H'=(926,tF f)::Hs k):=fun k i f hi =>
  dK.clo call236 (aLW s i ((926,tF f)::Hs k) (h1 k) (h2 k) (by omega) (by omega))
 have hfree:∀(G0:aH) (k i:Nat) (E:dB) (o:Ob),G0=Hs 0->E.get 0=some fv->E.get 1=some (.ref 921 0 0 0)->E.get 2=some (.ref 924 0 0 0)->E.get 4=some (iv (i:Int)) ->
   dA G0 E ((926,o)::Hs k) [(0,fv),(1,.ref 921 0 0 0),(2,.ref 924 0 0 0),(4,iv (i:Int))] (Hs k):=fun G0 k i E o hG q0 q1 q2 q4=>by
  subst hG;exact dA.front (K:=Hs k) [(926,o)] [] ⟨⟨_,q0,rfl⟩,hf k,⟨_,q1,rfl⟩,(by rw[rU];show ((Hs k).get 921).isSome=true;rw[h1];rfl),⟨_,q2,rfl⟩,(by rw[rU];show ((Hs k).get 924).isSome=true;rw[h3];rfl),⟨_,q4,rfl⟩,(by simp),trivial⟩ (by simp[h6]) (by simp) (by simp) (hcl k) (by simp[h6])
 refine Bd func237 rfl ntmps237<|aCf<|Sr<|Dd aL<|Zz<|Sq<|aCg<|aG ?_;refine jA (fun(i k:Nat)=>([(0,fv),(1,.ref 921 0 0 0),(2,.ref 924 0 0 0),(4,iv (i:Int))],Hs k)) (fun i k=>i<=s.size/\k<=m/\(k=0\/cont (k - 1)=true)/\∃n,s.size - i<n/\ds.drop k=nL s n i) (fun i k=>s.size - i) 0 0 ⟨aPb _,aPb _,.inl rfl,s.size+1,Nat.lt_succ_self _,by rw[List.drop_zero,hds]⟩ ?_ ?_
 ·exact E0
 rintro i k ⟨hi,hkm,hkc,n,hn,hinv⟩;refine Sq<|Sr<|Dd aE<|Dd (by exact aK rfl isAgg9 rfl (h1 k) rfl rfl rfl)<|Dd (jV underlying9)<|Dd cZ<|Zz ?_;refine Cn ?_ ?_<;>intro hc1
 ·have hlt:i<s.size:=by have:=aPQ hc1;omega
  obtain ⟨n,rfl⟩:∃n',n=n'+1:=⟨n - 1,by omega⟩;rw[nL,aPT hlt]at hinv;refine aC<|aG<|Sr<|Dd aE<|Dd aL<|Zz<|Sr<|Dd aE<|Dd (vC aJ3)<|Dd (vC aNO)<|Dd (by exact bW (id:=926) rfl aDF rfl (h6 k))<|Uu (lG ES)<|Zz ?_;refine fJ (fun(a:GFound×Nat)=>([(0,fv),(1,.ref 921 0 0 0),(2,.ref 924 0 0 0),(4,iv (a.2:Int)),(6,.ref 926 0 0 0)],(926,tF a.1)::Hs k)) (fun a=>jD s i=(some a.1,a.2)) ?_ ?_
  ·refine Sq ?_;refine gR.ent (E':=[(0,fv),(1,.ref 921 0 0 0),(2,.ref 924 0 0 0),(4,iv (i:Int)),(5,iv (i:Int)),(6,.ref 926 0 0 0)]) (H':=(926,tF (uI i))::Hs k) (dA.get' ⟨⟨_,rfl,rfl⟩,⟨_,rfl,rfl⟩,⟨_,rfl,rfl⟩,⟨_,rfl,rfl⟩,⟨_,rfl,rfl⟩,⟨_,rfl,rfl⟩,trivial⟩ (fun j=>wG 926 (tF (uI i)) _ (Hs k) j)) ?_;refine Rg<|Dd (by exact aK rfl IL rfl (h3 k) rfl rfl rfl)<|Dd aE<|Dd (by exact cU rfl rfl rfl (hat k i (uI i) (by omega)))<|Zz<|aG<|Sr<|Dd cK<|Da ?_;refine Cn ?_ ?_<;>intro hc2
   ·have e1:tN s i=1:=aPQ hc2;have hst:jD s i=(none,i+1):=by rw[jD,aPT e1]
    rw[hst]at hinv;refine Sr<|Dd aE<|Dd mI<|Dd aL<|Zz<|aY ?_;exact⟨i+1,k,⟨by omega,hkm,hkc,n,by omega,hinv⟩,by omega,hfree _ _ _ _ _ rfl rfl rfl rfl rfl⟩
   have n1:tN s i≠1:=aPR hc2;refine Sr<|Dd cK<|Da ?_;refine Cn ?_ ?_<;>intro hc3
   ·have e2:tN s i=2:=aPQ hc3;have hst:jD s i=(none,SW s i):=by rw[jD,aPS n1,aPT e2]
    rw[hst]at hinv;refine Sq<|aG ?_;refine bT (σ:=Nat) (fun j=>([(0,fv),(1,.ref 921 0 0 0),(2,.ref 924 0 0 0),(4,iv (j:Int))],(926,tF (uI i))::Hs k)) (fun j=>i<=j/\j<=s.size/\∀q,i<=q->q<j->LV s q=true) (fun j=>s.size - j) i ⟨aP0 _,hi,fun q h1 h2=>by omega⟩ ?_ ?_
    ·exact E0
    rintro j ⟨hij,hj,hpre⟩;refine Sq<|Sq ?_;refine aT (t:=37) (n:=11) (X:=LV s j) ?_ ?_
    ·all_goals refine Dd aE ?_
     all_goals refine Dd (by exact aK rfl isAgg9 rfl (h1 k) rfl rfl rfl)<|Dd (jV underlying9)<|Dd cZ<|Dm ?_
     all_goals refine Sp 32 (fun h32=>?_) fun h32=>?_
     all_goals try contradiction
     all_goals first|refine Fo<|Fo<|Fo<|Fo ?_|refine On (by exact aK rfl isAgg9 rfl (h1 k) rfl rfl rfl)<|On aE<|On (by exact dO rfl underlying9 rfl rfl (by omega) (by exact aP5 _) (ltD h32) rfl)<|On xY ?_
     all_goals refine Dd cG<|Zz ?_
     all_goals(exact⟨⟨_,rfl,by first|(simp_all[LV];done)|(simp_all[LV];omega)⟩,rfl,rfl,rfl⟩)
    refine Cn ?_ ?_<;>intro hc4
    ·have hjs:j<s.size:=by
      have h:=hc4;rw[LV,aP3,aP1]at h;exact h.1
     refine aC<|aG<|Rg<|Dd aE<|Dd mI<|Da ?_;exact⟨j+1,⟨by omega,by omega,fun q q1 q2=>by
      by_cases e:q=j
      ·subst e;exact hc4
      exact hpre q q1 (by omega)⟩,by omega,E0⟩
    have hle:SW s i=j:=E9 _ hij (by omega) hpre (.inl hc4);have hgt:i<j:=by
     rcases Nat.lt_or_ge i j with h|h
     ·exact h
     have hji:j=i:=by omega
     subst hji;rw[LV,decide_eq_true hlt,Bool.true_and,Bool.not_eq_false',aP1]at hc4;rw[tN,aPT hlt,hc4]at e2;exact absurd e2 (by decide)
    rw[hle]at hinv;refine aY<|aY ?_;exact⟨j,k,⟨hj,hkm,hkc,n,by omega,hinv⟩,by omega,hfree _ _ _ _ _ rfl rfl rfl rfl rfl⟩
   have n2:tN s i≠2:=aPR hc3;refine Sr<|Dd cK<|Da ?_;refine Cn ?_ ?_<;>intro hc5
   ·have e3:tN s i=3:=aPQ hc5;refine Sq<|Sr<|Dd (by exact aK rfl IL rfl (h3 k) rfl rfl rfl)<|Dd aE<|Dd (by exact cU rfl rfl rfl (hat k i (uI i) (by omega)))<|Dd aL<|Zz<|aG ?_;refine bT (σ:=Nat) (fun j=>([(0,fv),(1,.ref 921 0 0 0),(2,.ref 924 0 0 0),(4,iv (j:Int)),(5,iv (i:Int)),(6,.ref 926 0 0 0),(7,.pv (.int .u8 (tN s j)))],(926,tF (uI i))::Hs k)) (fun j=>i<=j/\j<=s.size/\∀q,i<=q->q<j->BO s q=true) (fun j=>s.size - j) i ⟨aP0 _,hi,fun q h1 h2=>by omega⟩ ?_ ?_
    ·exact E0
    rintro j ⟨hij,hj,hpre⟩;refine Sq<|Sq ?_;refine aT (t:=54) (n:=12) (X:=BO s j) ?_ ?_
    ·all_goals refine Dd aE ?_
     all_goals refine Dd cK<|Dm ?_
     all_goals refine Sp 47 (fun h47=>?_) fun h47=>?_
     all_goals try contradiction
     all_goals first|refine Fo<|Fo ?_|refine On aE<|On cK ?_
     all_goals refine Dd cG<|Dm ?_
     all_goals refine Sp 51 (fun h51=>?_) fun h51=>?_
     all_goals try contradiction
     all_goals first|refine Fo<|Fo ?_|refine On aE<|On cK ?_
     all_goals refine Dd cG<|Zz ?_
     all_goals(exact⟨⟨_,rfl,by(simp only[BO, *];rfl)⟩,rfl,rfl,rfl⟩)
    refine Cn ?_ ?_<;>intro hc6
    ·have hjs:j<s.size:=Q9 s j (fun e=>by rw[BO,e]at hc6;cases hc6);refine aC<|Sq<|aG<|Rg<|Dd aE<|Dd mI<|Dd aL<|Zz<|Rg<|Dd (by exact aK rfl IL rfl (h3 k) rfl rfl rfl)<|Dd aE<|Dd (by exact cU rfl rfl rfl (hat k (j+1) (uI i) (by omega)))<|Da ?_;exact⟨j+1,⟨by omega,by omega,fun q q1 q2=>by
      by_cases e:q=j
      ·subst e;exact hc6
      exact hpre q q1 (by omega)⟩,by omega,E0⟩
    have hle:JX s i=j:=E9 _ hij (by omega) hpre (.inl hc6);have hst:jD s i=(some (EB s i j),j):=by rw[jD,aPS n1,aPS n2,aPT e3,hle]
    refine aY<|Sq<|aN follows<|Cr [921] (fun H1 hH=>by exact aK rfl isAgg9 rfl ((hH _ rfl).trans (h1 k)) rfl rfl rfl)<|Cr [] (fun _ _=>aE)<|Cr [] (fun _ _=>aE)<|Cr [] (fun H1 hH=>by exact cO (l:=i) (h:=j) rfl underlying9 rfl rfl rfl (by omega) (by omega) rfl)<|Cr [926] (fun _ h=>fh mU h)<|Cr [926] (fun _ h=>fh F7 h)<|Cp [926] (fun H1 hH=>by exact bH rfl sizeOf3 rfl rfl rfl ((hH _ rfl).trans rfl) rfl rfl (aP7 rfl) rfl rfl)<|Cr [926] (fun _ h=>fh mU h)<|Cr [926] (fun _ h=>fh lT h)<|Cp [926] (fun H1 hH=>by exact bH rfl sizeOf9 rfl rfl rfl ((hH _ rfl).trans rfl) rfl rfl (aP7 rfl) rfl rfl)<|Cr [926] (fun _ h=>fh qR h)<|Cp [926] (fun H1 hH=>by exact bH rfl sizeOf41 rfl rfl rfl ((hH _ rfl).trans rfl) rfl rfl (aP7 rfl) rfl rfl) ?_;refine bL<|Kr<|Sr<|Dd aE<|Dd aE<|Dd (by exact dW rfl rfl rfl (show IntKind.i64.wrap ((j:Int) - (i:Int))=((j - i:Nat):Int)by rw[IntKind.wrap_i64];omega))<|Dd iE<|Zz ?_;refine Cn ?_ ?_<;>intro hc7
    ·have hE:EB s i j=⟨1,s.extract i j,i,2⟩:=by rw[EB,aPT (by have:=aPQ hc7;omega)]
     rw[hE]at hst;refine Rg<|Dd (aS qR)<|Uu (by exact bH rfl sizeOf41 rfl rfl rfl rfl rfl rfl (aP7 rfl) rfl rfl)<|Zz ?_;exact⟨(⟨1,s.extract i j,i,2⟩,j),hst,dA.get' ⟨⟨_,rfl,rfl⟩,⟨_,rfl,rfl⟩,⟨_,rfl,rfl⟩,⟨_,rfl,rfl⟩,⟨_,rfl,rfl⟩,trivial⟩ (fun q=>yI [_,_,_,_] (by simp) q)⟩
    have hE:EB s i j=⟨1,s.extract i j,i,0⟩:=by rw[EB,aPS (by have:=aPR hc7;omega)]
    rw[hE]at hst;refine aC ?_;exact⟨(⟨1,s.extract i j,i,0⟩,j),hst,dA.get' ⟨⟨_,rfl,rfl⟩,⟨_,rfl,rfl⟩,⟨_,rfl,rfl⟩,⟨_,rfl,rfl⟩,⟨_,rfl,rfl⟩,trivial⟩ (fun q=>yI [_,_,_] (by simp) q)⟩
   have n3:tN s i≠3:=aPR hc5;refine Sr<|Dd cK<|Da ?_;refine Cn ?_ ?_<;>intro hc8
   ·have e4:tN s i=4:=aPQ hc8;refine Sq<|aG ?_;refine bT (σ:=Nat) (fun j=>([(0,fv),(1,.ref 921 0 0 0),(2,.ref 924 0 0 0),(4,iv (j:Int)),(5,iv (i:Int)),(6,.ref 926 0 0 0)],(926,tF (uI i))::Hs k)) (fun j=>i<=j/\j<=s.size/\∀q,i<=q->q<j->aBx s q=true) (fun j=>s.size - j) i ⟨aP0 _,hi,fun q h1 h2=>by omega⟩ ?_ ?_
    ·exact E0
    rintro j ⟨hij,hj,hpre⟩;refine Sq<|Sr<|Dd (by exact aK rfl IL rfl (h3 k) rfl rfl rfl)<|Dd aE<|Dd (by exact cU rfl rfl rfl (hat k j (uI i) (by omega)))<|Dd cK<|Zz ?_;refine Cn ?_ ?_<;>intro hc9
    ·have hjs:j<s.size:=Q9 s j (fun e=>by rw[e]at hc9;cases hc9);refine aC<|aG<|Rg<|Dd aE<|Dd mI<|Da ?_;exact⟨j+1,⟨by omega,by omega,fun q q1 q2=>by
      by_cases e:q=j
      ·subst e;exact hc9
      exact hpre q q1 (by omega)⟩,by omega,E0⟩
    have hle:S8 s i=j:=E9 _ hij (by omega) hpre (.inl hc9);have hst:jD s i=(some (MY s i j),j):=by rw[jD,aPS n1,aPS n2,aPS n3,aPT e4,hle]
    refine aY<|Sq<|aN follows<|Cr [921] (fun H1 hH=>by exact aK rfl isAgg9 rfl ((hH _ rfl).trans (h1 k)) rfl rfl rfl)<|Cr [] (fun _ _=>aE)<|Cr [] (fun _ _=>aE)<|Cr [] (fun H1 hH=>by exact cO (l:=i) (h:=j) rfl underlying9 rfl rfl rfl (by omega) (by omega) rfl)<|Cr [926] (fun _ h=>fh mU h)<|Cr [926] (fun _ h=>fh F7 h)<|Cp [926] (fun H1 hH=>by exact bH rfl sizeOf3 rfl rfl rfl ((hH _ rfl).trans rfl) rfl rfl (aP7 rfl) rfl rfl)<|Cr [926] (fun _ h=>fh mU h)<|Cr [926] (fun _ h=>fh lT h)<|Cp [926] (fun H1 hH=>by exact bH rfl sizeOf9 rfl rfl rfl ((hH _ rfl).trans rfl) rfl rfl (aP7 rfl) rfl rfl)<|Cr [926] (fun _ h=>fh qR h)<|Cp [926] (fun H1 hH=>by exact bH rfl sizeOf41 rfl rfl rfl ((hH _ rfl).trans rfl) rfl rfl (aP7 rfl) rfl rfl) ?_;refine bL<|Kr<|Sq ?_;refine gR.ent (E':=[(0,fv),(1,.ref 921 0 0 0),(2,.ref 924 0 0 0),(4,iv (j:Int)),(5,iv (i:Int)),(6,.ref 926 0 0 0)]) (H':=(926,tF ⟨2,s.extract i j,i,0⟩)::Hs k) (dA.get' ⟨⟨_,rfl,rfl⟩,⟨_,rfl,rfl⟩,⟨_,rfl,rfl⟩,⟨_,rfl,rfl⟩,⟨_,rfl,rfl⟩,⟨_,rfl,rfl⟩,trivial⟩ (fun q=>yI [_,_,_] (by simp) q)) ?_;have h7:decide (7<((j - i:Nat):Int))=decide (7<j - i):=by rw[Bool.eq_iff_iff,aP1,aP1];omega
    refine Rg<|Dd (by exact aK rfl IL rfl (h3 k) rfl rfl rfl)<|Dd aE<|Dd (by exact cU rfl rfl rfl (hat k j ⟨2,s.extract i j,i,0⟩ (by omega)))<|Dd aL<|Zz<|Sq ?_;refine aT (t:=105) (n:=14) (X:=decide (7<((j - i:Nat):Int))||decide (tN s j=3)||decide (tN s j=5)) ?_ ?_
    ·all_goals refine Dd aE ?_
     all_goals refine Dd aE<|Dd (by exact dW rfl rfl rfl (show IntKind.i64.wrap ((j:Int) - (i:Int))=((j - i:Nat):Int)by rw[IntKind.wrap_i64];omega))<|Dd iE<|Dm ?_
     all_goals refine Sp 98 (fun h98=>?_) fun h98=>?_
     all_goals try contradiction
     all_goals first|refine Fo<|Fo ?_|refine On aE<|On cK ?_
     all_goals refine Dd cG<|Dm ?_
     all_goals refine Sp 102 (fun h102=>?_) fun h102=>?_
     all_goals try contradiction
     all_goals first|refine Fo<|Fo ?_|refine On aE<|On cK ?_
     all_goals refine Dd cG<|Zz ?_
     all_goals(exact⟨⟨_,rfl,by first|(simp_all[BO];done)|(simp_all;omega)⟩,rfl,rfl,rfl⟩)
    refine Cn ?_ ?_<;>intro hc10
    ·have hE:MY s i j=⟨2,s.extract i j,i,4⟩:=by rw[MY,<-h7,hc10];rfl
     rw[hE]at hst;refine Rg<|Dd (aS qR)<|Uu (by exact bH rfl sizeOf41 rfl rfl rfl rfl rfl rfl (aP7 rfl) rfl rfl)<|Zz ?_;exact⟨(⟨2,s.extract i j,i,4⟩,j),hst,dA.get' ⟨⟨_,rfl,rfl⟩,⟨_,rfl,rfl⟩,⟨_,rfl,rfl⟩,⟨_,rfl,rfl⟩,⟨_,rfl,rfl⟩,trivial⟩ (fun q=>yI [_] (by simp) q)⟩
    have hE:MY s i j=⟨2,s.extract i j,i,0⟩:=by rw[MY,<-h7,hc10];rfl
    rw[hE]at hst;refine aC ?_;exact⟨(⟨2,s.extract i j,i,0⟩,j),hst,E0⟩
   have n4:tN s i≠4:=aPR hc8;refine Sr<|Dd cK<|Da ?_;refine Cn ?_ ?_<;>intro hc11
   ·have e7:tN s i=7:=aPQ hc11;have hst:jD s i=(some (OP s i).1,(OP s i).2):=by rw[jD,aPS n1,aPS n2,aPS n3,aPS n4,aPT e7]
    have hexs:(s.extract i s.size).size<=s.size - i:=by rw[ByteArray.size_extract];omega
    have hun:=fun H=>XP (s.extract i s.size) H (by omega);have hul:=VZ (s.extract i s.size);obtain ⟨u,hu⟩:∃u,u=AA (s.extract i s.size):=⟨_,rfl⟩;have hgs:OP s i=if 0<u.2 then(⟨3,u.1,i,0⟩,i+u.2.toNat)else(uI i,i):=by rw[OP,<-hu]
    rw[<-hu]at hun hul;obtain ⟨ut,un⟩:=u;simp only at hun hul hgs;refine Sr<|Dd (by exact aK rfl isAgg9 rfl (h1 k) rfl rfl rfl)<|Dd aE<|Dd (by exact cO (l:=i) (h:=s.size) rfl underlying9 rfl rfl rfl (by omega) (by omega) rfl)<|Dd (by exact aA rfl rfl call238 rfl (hun _))<|Dd aE<|Dd fS<|Dd fS<|Dd aL<|Dd aL<|Zz<|Sq<|Sr<|Dd aE<|Dd iE<|Zz ?_;refine Cn ?_ ?_<;>intro hc12
    ·rw[hgs,aPT (aPQ hc12)]at hst;refine Rg<|Dd aE<|Dd (aS mU)<|Dd (aS F7)<|Uu (by exact bH rfl sizeOf3 rfl rfl rfl rfl rfl rfl (aP7 rfl) rfl rfl)<|Dd (aS mU)<|Dd (aS lT)<|Uu (by exact bH rfl sizeOf9 rfl rfl rfl rfl rfl rfl (aP7 rfl) rfl rfl)<|Dd (aS qR)<|Uu (by exact bH rfl sizeOf41 rfl rfl rfl rfl rfl rfl (aP7 rfl) rfl rfl)<|Zz<|Rg<|Dd aE<|Dd aE<|Dd (by exact bZ rfl rfl rfl (show IntKind.i64.wrap ((i:Int)+un)=((i+un.toNat:Nat):Int)by rw[IntKind.wrap_i64];omega))<|Da ?_;exact⟨(⟨3,ut,i,0⟩,i+un.toNat),hst,dA.get' ⟨⟨_,rfl,rfl⟩,⟨_,rfl,rfl⟩,⟨_,rfl,rfl⟩,⟨_,rfl,rfl⟩,⟨_,rfl,rfl⟩,trivial⟩ (fun q=>yI [_,_,_] (by simp) q)⟩
    have hu0:=aPR hc12;rw[hgs,aPS hu0]at hst;have e0:i+un.toNat=i:=by omega
    refine aC<|Rg<|Dd aE<|Dd aE<|Dd (by exact bZ rfl rfl rfl (show IntKind.i64.wrap ((i:Int)+un)=((i+un.toNat:Nat):Int)by rw[IntKind.wrap_i64];omega))<|Da ?_;rw[e0];exact⟨(uI i,i),hst,E0⟩
   have n7:tN s i≠7:=aPR hc11;refine Sr<|Dd cK<|Da ?_;refine Cn ?_ ?_<;>intro hc13
   ·have e6:tN s i=6:=aPQ hc13;have hst:jD s i=(some ⟨4,s.extract i (i+1),i,0⟩,i+1):=by rw[jD,aPS n1,aPS n2,aPS n3,aPS n4,aPS n7,aPT e6]
    refine Sr<|Dd aE<|Dd mI<|Dd aL<|Zz<|aN follows<|Cr [921] (fun H1 hH=>by exact aK rfl isAgg9 rfl ((hH _ rfl).trans (h1 k)) rfl rfl rfl)<|Cr [] (fun _ _=>aE)<|Cr [] (fun _ _=>aE)<|Cr [] (fun H1 hH=>by exact cO (l:=i) (h:=(i+1)) rfl underlying9 rfl rfl rfl (by omega) (by omega) rfl)<|Cr [926] (fun _ h=>fh mU h)<|Cr [926] (fun _ h=>fh F7 h)<|Cp [926] (fun H1 hH=>by exact bH rfl sizeOf3 rfl rfl rfl ((hH _ rfl).trans rfl) rfl rfl (aP7 rfl) rfl rfl)<|Cr [926] (fun _ h=>fh mU h)<|Cr [926] (fun _ h=>fh lT h)<|Cp [926] (fun H1 hH=>by exact bH rfl sizeOf9 rfl rfl rfl ((hH _ rfl).trans rfl) rfl rfl (aP7 rfl) rfl rfl)<|Cr [926] (fun _ h=>fh qR h)<|Cp [926] (fun H1 hH=>by exact bH rfl sizeOf41 rfl rfl rfl ((hH _ rfl).trans rfl) rfl rfl (aP7 rfl) rfl rfl) ?_;refine bL<|Kr ?_;exact⟨(⟨4,s.extract i (i+1),i,0⟩,i+1),hst,dA.get' ⟨⟨_,rfl,rfl⟩,⟨_,rfl,rfl⟩,⟨_,rfl,rfl⟩,⟨_,rfl,rfl⟩,⟨_,rfl,rfl⟩,trivial⟩ (fun q=>yI [_,_,_] (by simp) q)⟩
   have n6:tN s i≠6:=aPR hc13;have hst:jD s i=(some (uI i),i):=by rw[jD,aPS n1,aPS n2,aPS n3,aPS n4,aPS n7,aPS n6]
   refine aC ?_;exact⟨(uI i,i),hst,E0⟩
  rintro⟨f,j⟩ hst;rw[hst]at hinv;simp only at hinv hst;obtain ⟨hk1,hk2⟩:=MU hinv;have hkl:=(aPY.1 hk1).1;have hkm2:k<m:=by
   rcases Nat.lt_or_ge k m with h|h
   ·exact h
   have hkem:k=m:=Nat.le_antisymm hkm h;subst hkem;rcases hend with h|⟨h,h'⟩
   ·omega
   rcases hkc with h2|h2
   ·omega
   rw[h2]at h';cases h'
  have hstop:ds.length=k+1\/cont k=false->k+1=m:=fun h=>by
   rcases h with h|h
   ·omega
   rcases Nat.lt_or_ge (k+1) m with h3|h3
   ·rw[hall k h3]at h;cases h
   omega
  have hyk:=hy k f hk1 hkm2;cases hck:cont k with
  |false =>
   have hkk:=hstop (.inr hck);rw[hck]at hyk;refine Sr<|Dd aE<|Dd (pU isAgg218 ES)<|Dd (by exact cU rfl rfl rfl (hyk))<|Dd iQ<|Dd aE<|Fo<|Fo<|Fo<|Dd cG<|Zz ?_;refine Cn ?_ ?_<;>intro hc14
   ·refine aB ?_;rw[<-hkk];exact sI (H':=Hs (k+1)) (.inr rfl) rfl (Fin.pops' [(926,tF f)] (by simp) (hcl _) (by simp[h6]) (by simp[h6])) ⟨rfl,rfl⟩
   cases hc14
  | true =>
   rw[hck]at hyk;refine Sr<|Dd aE<|Dd (pU isAgg218 ES)<|Dd (by exact cU rfl rfl rfl (hyk))<|Dd iQ<|Dd aE<|On (aS qR)<|On (bC kY)<|On xY<|Dd cG<|Zz ?_;refine Cn ?_ ?_<;>intro hc15
   ·have hne:f.err≠0:=by
     have h:=hc15
     simpa using h
    rw[aPS hne]at hk2;have hkk:=hstop (.inl (by have:=List.drop_eq_nil_iff.1 hk2;omega));refine aB ?_;rw[<-hkk];exact sI (H':=Hs (k+1)) (.inr rfl) rfl (Fin.pops' [(926,tF f)] (by simp) (hcl _) (by simp[h6]) (by simp[h6])) ⟨rfl,rfl⟩
   have he0:f.err=0:=by
    have h:=hc15
    simpa using h
   obtain ⟨g1,g2⟩:=aGo hst he0 hlt;rw[aPT he0]at hk2;refine aC ?_;exact⟨j,k+1,⟨g2,hkm2,.inr hck,n,by omega,hk2⟩,by omega,hfree _ _ _ _ _ rfl rfl rfl rfl rfl⟩
 have hge:s.size<=i:=by have:=aPR hc1;omega
 have hnil:nL s n i=[]:=by
  cases n with
  |zero=>rfl
  |succ n=>rw[nL,aPS (by omega)]
 rw[hnil]at hinv;have hkd:=List.drop_eq_nil_iff.1 hinv;have hkk:k=m:=by omega
 refine aY ?_;rw[<-hkk];exact sI (H':=Hs k) (.inl rfl) rfl Fin.refl ⟨rfl,rfl⟩
def eS(f:GFound):List PV:=[.int .i64 f.kind,.str f.text,.int .i64 f.pos]
def RV(l:List GFound):PV:=.sl (l.map eS)
def kR(l:List GFound):List (List AV):=l.map fun f=>(eS f).map AV.pv
theorem yU(l:List GFound):(kR l).length=l.length:=aPU _
theorem DZ(l:List GFound)(f:GFound):kR l++[(eS f).map AV.pv]=kR (l++[f]):=by rw[kR,kR,List.map_append];rfl
theorem cR(H:aH)(l:List GFound):∀r∈kR l,∀a∈r,Clo H a:=by intro r hr a ha;obtain ⟨d,_,rfl⟩:=List.mem_map.1 hr;obtain ⟨p,_,rfl⟩:=List.mem_map.1 ha;simp
theorem pZ{H:aH}(h1:(H.get 921).isSome=true)(h2:(H.get 923).isSome=true):∀r∈tA.rows,∀a∈r,Clo H a:=by intro r hr a ha;simp only[tA,bx,aPX]at hr;subst hr;rw[aPX]at ha;subst ha;simp[h1,h2]
theorem pY(H:aH)(s:ByteArray):∀r∈(tS s).rows,∀a∈r,Clo H a:=by intro r hr a ha;simp only[tS,bx,aPX]at hr;subst hr;rw[aPX]at ha;subst ha;simp
def mL:List GFound->List GFound->List GFound×Int×Int
 |acc,[]=>(acc,0,0)
 |acc,f::r=>if f.err≠0 then([],f.err,f.pos)else if acc.length=5000 then([],2,f.pos)else mL (acc++[f]) r
def iZ(s:ByteArray):List GFound×Int×Int:=if 20000<s.size then([],2,-1)else mL [] (nL s (s.size+1) 0)
def qH(ds:List GFound)(k:Nat):Bool:=match ds[k]? with
 |some f=>decide (f.err=0)&&!decide (k=5000)
 |none=>true
theorem HS{ds:List GFound}:∀ {k:Nat},k<=ds.length->(∀j,j<k->qH ds j=true)->mL [] ds=mL (ds.take k) (ds.drop k)
 |0,_,_=>rfl
 |k+1,hk,h=>by
  rw[HS (Nat.le_of_succ_le hk) (fun j hj=>h j (by omega))];have hd:ds.drop k=ds[k]::ds.drop (k+1):=List.drop_eq_getElem_cons hk;have hok:=h k (Nat.lt_succ_self k);rw[qH,aPZ hk]at hok;simp only[aP3,aP1,aPd,aP2]at hok;have htl:(ds.take k).length=k:=by rw[aP8];omega
  rw[hd,mL,aPS (fun h=>h hok.1),aPS (by rw[htl];exact hok.2),List.take_add_one,aPZ hk];rfl
theorem BI(s:ByteArray):∀(n i:Nat),(nL s n i).length<=n
 |0,_=>aPb _
 | n+1,i=>by
  rw[nL]
  split
  ·split
   ·exact Nat.le_succ_of_le (BI s n _)
   rw[aPW]
   split
   ·exact Nat.succ_le_succ (BI s n _)
   exact Nat.succ_le_succ (aPb _)
  exact aPb _
def kL(s:ByteArray)(L:List GFound)(a:AV)(e p:Int):aH:=[(905,⟨L.length,3,187,kR L⟩),(5,bx 1 182 [.osl 905 L.length 0 L.length]),(924,tA),(923,tC),(921,tS s),(4,bx 1 3 [iv p]),(3,bx 1 41 [iv e]),(2,bx 1 182 [a])]
theorem aEu(s:ByteArray)(L:List GFound)(f:GFound)(a:AV)(e p:Int):kL s (L++[f]) a e p=[(905,⟨L.length+1,3,187,kR (L++[f])⟩),(5,bx 1 182 [.osl 905 (L.length+1) 0 (L.length+1)]),(924,tA),(923,tC),(921,tS s),(4,bx 1 3 [iv p]),(3,bx 1 41 [iv e]),(2,bx 1 182 [a])]:=by simp[kL]
def sD:dB:=[(2,.ref 2 0 0 0),(3,.ref 3 0 0 0),(4,.ref 4 0 0 0),(5,.ref 5 0 0 0)]
theorem FR{ds:List GFound}(h:ds[k]?=some f):qH ds k=(decide (f.err=0)&&!decide (k=5000)):=by rw[qH,h]
theorem aJU(s:ByteArray)(H:aH)(hs:s.size<1099511627776):aI Tryz.prog 157 [sv s] H (fun r H'=>r=.tup [.pv (RV (iZ s).1),iv (iZ s).2.1,iv (iZ s).2.2]/\H'=H):=by
 refine Pu ?_;refine Bd func157 rfl ntmps157<|Sr<|Dd (by exact bW (id:=2) rfl aJB rfl rfl)<|Dd (by exact bW (id:=3) rfl aJg rfl rfl)<|Dd (by exact bW (id:=4) rfl zo3 rfl rfl)<|Zz<|Sq<|Sr<|Dd aE<|Dd (jV underlying9)<|Dd iE<|Zz ?_;refine Cn ?_ ?_<;>intro hc1
 ·have e:iZ s=([],2,-1):=by rw[iZ,aPT (by have:=aPQ hc1;omega)]
  rw[e];refine Sr<|Uu (lG lX)<|Uu (lG sizeOf41)<|Uu (lG sizeOf3)<|Zz<|aB ?_;refine A1 (H':=[]) (.inr rfl) rfl (gG rfl lE rfl rfl rfl rfl) (gG rfl kY rfl rfl rfl rfl) (gG rfl isAgg3 rfl rfl rfl rfl) (Fin.wk (by simp) trivial trivial) ?_;exact Qq
 have hsz:¬ 20000<s.size:=by have:=aPR hc1;omega
 obtain ⟨ds,hds⟩:∃ds,ds=nL s (s.size+1) 0:=⟨_,rfl⟩;have hg:iZ s=mL [] ds:=by rw[iZ,aPS hsz,hds]
 refine aC<|Sr<|Dd (by exact bW (id:=5) rfl aDE rfl rfl)<|Zz<|Sq<|Sr<|Dd aE<|Dd (by exact aA rfl rfl call197 rfl (UD s _ rfl rfl rfl (eI.ofL ⟨(by(simp;done)),(by(simp;done)),(by(simp;done)),(by(simp;done)),trivial⟩)))<|Zz<|aG ?_;refine gR.ent (E':=[(2,.ref 2 0 0 0),(3,.ref 3 0 0 0),(4,.ref 4 0 0 0),(5,.ref 5 0 0 0),(11,.clo 237 [.ref 921 0 0 0,.ref 924 0 0 0])]) (H':=[(905,⟨0,3,187,[]⟩),(5,bx 1 182 [.osl 905 0 0 0]),(924,tA),(923,tC),(921,tS s),(4,bx 1 3 [iv 0]),(3,bx 1 41 [iv 0]),(2,bx 1 182 [.pv (.sl [])])]) ?_ ?_
 ·exact(dA.nz 905 3 187 rfl rfl ⟨⟨_,rfl,(by exact Nz.same (by(simp;rfl)))⟩,⟨_,rfl,(by exact Nz.same (by(simp;rfl)))⟩,⟨_,rfl,(by exact Nz.same (by(simp;rfl)))⟩,⟨_,rfl,(by exact Nz.same (by(simp;rfl)))⟩,⟨_,rfl,(by exact Nz.same (by(simp;exact⟨rfl,rfl⟩)))⟩,trivial⟩ ⟨⟨_,rfl,rfl,rfl,rfl,(by exact .inr ⟨_,_,rfl,rfl,(by repeat(first|exact trivial|refine⟨(by exact Nz.own),?_⟩))⟩)⟩,⟨_,rfl,rfl,rfl,rfl,(by exact .inl ⟨rfl,(by exact pZ rfl rfl)⟩)⟩,⟨_,rfl,rfl,rfl,rfl,(by exact .inl ⟨rfl,(by exact iO _)⟩)⟩,⟨_,rfl,rfl,rfl,rfl,(by exact .inl ⟨rfl,(by exact pY _ _)⟩)⟩,⟨_,rfl,rfl,rfl,rfl,(by exact .inl ⟨rfl,(by(simp;done))⟩)⟩,⟨_,rfl,rfl,rfl,rfl,(by exact .inl ⟨rfl,(by(simp;done))⟩)⟩,⟨_,rfl,rfl,rfl,rfl,(by exact .inl ⟨rfl,(by(simp;done))⟩)⟩,trivial⟩ trivial)
 have hdl:ds.length<=s.size+1:=by rw[hds];exact BI s _ _
 obtain ⟨j,hj⟩:∃j,j=vQ (qH ds) ds.length 0:=⟨_,rfl⟩;have hj1:j<=ds.length:=by have:=(E8 (qH ds) ds.length 0).2;omega
 have hj2:∀k,k<j->qH ds k=true:=fun k hk=>FA (qH ds) ds.length 0 k (aPb _) (by rw[<-hj];exact hk);have hj3:j<ds.length->qH ds j=false:=fun h=>by have:=xQ (qH ds) ds.length 0 (by omega);rwa [<-hj]at this
 have hrun:=HS hj1 hj2;refine C6 (id:=904) (p:=12) sD rfl call237 rfl rfl (by simp[sD];exact⟨rfl,rfl,rfl,rfl⟩) ?_;intro x hx1 hx2 hx3 hx4 hx5 hx6;have hround:∀(k:Nat) (d:GFound),ds[k]?=some d->k<=j ->
   dK Tryz.prog (.yld 904 0) [.agg ((GA d).map .pv)] ((904,LR x sD)::(926,tF d)::kL s (ds.take k) (.pv (.sl [])) 0 0) (fun r H'=>r=bv (qH ds k)/\H'=(if qH ds k then(904,LR x sD)::(926,tF d)::kL s (ds.take (k+1)) (.pv (.sl [])) 0 0 else(904,LR (left x .ret) sD)::(926,tF d)::kL s (ds.take k) (.pv (.sl [])) (if d.err≠0 then d.err else 2) d.pos)):=by
  intro k d hd hkj;have hok:=FR hd;have hkl:k<ds.length:=(aPY.1 hd).1;have htl:(ds.take k).length=k:=by rw[aP8];omega
  have hnx:ds.take (k+1)=ds.take k++[d]:=by rw[List.take_add_one,hd];rfl
  refine .inl ⟨904,0,rfl,?_⟩;refine RG [(2,.ref 2 0 0 0),(3,.ref 3 0 0 0),(4,.ref 4 0 0 0),(5,.ref 5 0 0 0),(6,.ref 907 0 0 0)] ((907,tF d)::(926,tF d)::kL s (ds.take k) (.pv (.sl [])) 0 0) hx1 hx2 hx3 hx4 hx5 hx6 rfl rfl rfl ?_ ?_
  ·refine Rg<|Dd (by exact bW (id:=907) rfl aDF rfl rfl)<|Uu (lG ES)<|Zz ?_;exact(dA.wk (Ea<|Ea<|Ea<|Ea<|Ea<|trivial) (Hc (lC (by simp[sD];exact⟨rfl,rfl,rfl,rfl⟩))<|Hc (wN _ _)<|Hc (wN _ _)<|Hc (cR _ _)<|Ha<|Hc (pZ rfl rfl)<|Hc (iO _)<|Hc (pY _ _)<|Hb<|Hb<|Hb<|trivial) ⟨rfl,rfl,rfl,rfl,rfl,rfl,rfl,rfl,rfl,rfl,trivial⟩)
  refine aG<|Sq<|aG<|Sr<|Dd (aS qR)<|Dd (bC kY)<|Dd xY<|Da ?_;refine Cn ?_ ?_<;>intro hc2
  ·have he:d.err≠0:=by have h:=hc2;rw[aPd,aP2]at h;exact h
   have h0:qH ds k=false:=by rw[hok,decide_eq_false he];rfl
   rw[h0,aPS (by decide),aPT he];refine Sq<|aN follows<|Cr [907] (fun _ h=>fh qR h)<|Cr [907] (fun _ h=>lh kY h)<|Cr [907] (fun _ h=>fh mU h)<|Cr [907] (fun _ h=>fh KJ h)<|Cr [907] (fun _ h=>lh isAgg3 h)<|Cp [2] (fun H1 hH=>by exact cM rfl lX rfl rfl rfl rfl ((hH _ rfl).trans rfl) rfl rfl rfl)<|Cp [3] (fun H1 hH=>by exact cM rfl sizeOf41 rfl rfl rfl rfl ((hH _ rfl).trans rfl) rfl rfl rfl)<|Cp [4] (fun H1 hH=>by exact cM rfl sizeOf3 rfl rfl rfl rfl ((hH _ rfl).trans rfl) rfl rfl rfl)<|bL<|Kr<|aB ?_;exact⟨(926,tF d)::kL s (ds.take k) (.pv (.sl [])) d.err d.pos,(dA.wk trivial (Hc (lC (by simp[sD];exact⟨rfl,rfl,rfl,rfl⟩))<|Hc (wN _ _)<|Hc (cR _ _)<|Ha<|Hc (pZ rfl rfl)<|Hc (iO _)<|Hc (pY _ _)<|Hb<|Hb<|Hb<|trivial) ⟨rfl,rfl,rfl,rfl,rfl,rfl,rfl,rfl,rfl,rfl,trivial⟩),rfl,rfl⟩
  have he:d.err=0:=by have h:=hc2;rw[Bool.not_eq_false',aP1]at h;exact h
  refine Sr<|Dd (bC lE)<|Dd (by exact eF rfl gY rfl rfl rfl)<|Dd cK<|Da ?_;refine Cn ?_ ?_<;>intro hc3
  ·have hk5:k=5000:=by have:=aPQ hc3;omega
   have h0:qH ds k=false:=by rw[hok,decide_eq_true he,decide_eq_true hk5];rfl
   rw[h0,aPS (by decide),aPS (fun h=>h he)];refine Sq<|aN follows<|Cr [907] (fun _ h=>fh mU h)<|Cr [907] (fun _ h=>fh KJ h)<|Cr [907] (fun _ h=>lh isAgg3 h)<|Cp [2] (fun H1 hH=>by exact cM rfl lX rfl rfl rfl rfl ((hH _ rfl).trans rfl) rfl rfl rfl)<|Cp [3] (fun H1 hH=>by exact cM rfl sizeOf41 rfl rfl rfl rfl ((hH _ rfl).trans rfl) rfl rfl rfl)<|Cp [4] (fun H1 hH=>by exact cM rfl sizeOf3 rfl rfl rfl rfl ((hH _ rfl).trans rfl) rfl rfl rfl)<|bL<|Kr<|aB ?_;exact⟨(926,tF d)::kL s (ds.take k) (.pv (.sl [])) 2 d.pos,(dA.wk trivial (Hc (lC (by simp[sD];exact⟨rfl,rfl,rfl,rfl⟩))<|Hc (wN _ _)<|Hc (cR _ _)<|Ha<|Hc (pZ rfl rfl)<|Hc (iO _)<|Hc (pY _ _)<|Hb<|Hb<|Hb<|trivial) ⟨rfl,rfl,rfl,rfl,rfl,rfl,rfl,rfl,rfl,rfl,trivial⟩),rfl,rfl⟩
  have hk5:¬ k=5000:=by have:=aPR hc3;omega
  have h0:qH ds k=true:=by rw[hok,decide_eq_true he,decide_eq_false hk5];rfl
  rw[h0,aPT rfl,hnx,aEu];refine aC<|Rg<|Dd (bC lE)<|Dd (aS mU)<|Dd (pU XK sizeOf187)<|Dd (by exact aR [eS d] rfl nW rfl rfl rfl rfl rfl (by intro r hr;rw[aPX]at hr;subst hr;rfl))<|Dd (by exact dL (ps:=[eS d]) rfl nW aFX rfl rfl rfl rfl rfl (yU _) rfl (by intro r hr;rw[aPX]at hr;subst hr;rfl) (m:=1) rfl (by omega) rfl (DZ (ds.take k) d))<|Uu (lG lX)<|Zz ?_;exact⟨(926,tF d)::[(905,⟨(ds.take k).length+1,3,187,kR (ds.take k++[d])⟩),(5,bx 1 182 [.osl 905 ((ds.take k).length+1) 0 ((ds.take k).length+1)]),(924,tA),(923,tC),(921,tS s),(4,bx 1 3 [iv 0]),(3,bx 1 41 [iv 0]),(2,bx 1 182 [.pv (.sl [])])],(dA.wk trivial (Hc (lC (by simp[sD];exact⟨rfl,rfl,rfl,rfl⟩))<|Hc (wN _ _)<|Hc (cR _ _)<|Ha<|Hc (pZ rfl rfl)<|Hc (iO _)<|Hc (pY _ _)<|Hb<|Hb<|Hb<|trivial) ⟨rfl,rfl,rfl,rfl,rfl,rfl,rfl,rfl,rfl,rfl,trivial⟩),rfl,rfl⟩
 rcases Nat.lt_or_ge j ds.length with hlt|hge
 ·obtain ⟨f,hf⟩:=aU hlt;have hbad:=hj3 hlt;have hdj:ds.drop j=f::ds.drop (j+1):=by
   rw[List.drop_eq_getElem_cons hlt];rw[aPZ hlt]at hf;cases hf;rfl
  have hres:iZ s=([],(if f.err≠0 then f.err else 2),(f.pos:Int)):=by
   rw[hg,hrun,hdj,mL]
   split
   ·rfl
   rename_i he;have he0:f.err=0:=by
    by_cases h:f.err=0
    ·exact h
    exact absurd h he
   rw[FR hf,decide_eq_true he0,Bool.true_and,Bool.not_eq_false',aP1]at hbad;rw[aPT (by rw[aP8];omega)]
  rw[hres];refine(G5 s (.yld 904 0) (fun k=>if k<=j then(904,LR x sD)::kL s (ds.take k) (.pv (.sl [])) 0 0 else(904,LR (left x .ret) sD)::kL s (ds.take j) (.pv (.sl [])) (if f.err≠0 then f.err else 2) f.pos) (qH ds) (j+1) hs (fun k=>?_) (fun k=>?_) (fun k=>?_) (fun k=>?_) (fun k=>?_) (fun k=>?_) (by rw[<-hds];exact hlt) (fun k hk=>hj2 k (by omega)) (.inr ⟨Nat.succ_pos _,by rw[Nat.add_sub_cancel];exact hbad⟩) ?_).mono ?_
  ·split<;>rfl
  ·split<;>rfl
  ·split<;>rfl
  ·split<;>rfl
  ·split
   ·exact(eI.ofL ⟨(by exact lC (by simp[sD];exact⟨rfl,rfl,rfl,rfl⟩)),(by exact cR _ _),(by(simp;rfl)),(by exact pZ rfl rfl),(by exact iO _),(by exact pY _ _),(by(simp;done)),(by(simp;done)),(by(simp;done)),trivial⟩)
   exact(eI.ofL ⟨(by exact lC (by simp[sD];exact⟨rfl,rfl,rfl,rfl⟩)),(by exact cR _ _),(by(simp;rfl)),(by exact pZ rfl rfl),(by exact iO _),(by exact pY _ _),(by(simp;done)),(by(simp;done)),(by(simp;done)),trivial⟩)
  ·split<;>(simp;rfl)
  ·rw[<-hds];intro k d hd hk;have hr:=hround k d hd (by omega);rw[aPT (by omega)];by_cases hkj:k=j
   ·subst hkj;rw[hf]at hd;cases hd;rw[hbad,aPS (by decide)]at hr;rw[aPS (by omega),hbad];exact dK.congrG hr (fun j=>oN (by decide) j) (fun j=>oN (by decide) j)
   have hok:=hj2 k (by omega);rw[hok,aPT rfl]at hr;rw[aPT (by omega),hok];exact dK.congrG hr (fun j=>oN (by decide) j) (fun j=>oN (by decide) j)
  rintro r H' ⟨rfl,rfl⟩;rw[aPS (by omega)];refine⟨left x .ret,_,rfl,by simp[left],rfl,fun z=>?_⟩;show IN _ _ _ _ _ _ _;refine A1 (H':=[]) (.inr rfl) rfl (gG rfl lE rfl rfl rfl rfl) (gG rfl kY rfl rfl rfl rfl) (gG rfl isAgg3 rfl rfl rfl rfl) (Fin.wk (by simp) trivial trivial) ?_;exact Qq
 have hje:j=ds.length:=Nat.le_antisymm hj1 hge;rw[hje,List.take_length,List.drop_length]at hrun;rw[hg,hrun,mL];refine(G5 s (.yld 904 0) (fun k=>(904,LR x sD)::kL s (ds.take k) (.pv (.sl [])) 0 0) (qH ds) ds.length hs (fun k=>rfl) (fun k=>rfl) (fun k=>rfl) (fun k=>rfl) (fun k=>(eI.ofL ⟨(by exact lC (by simp[sD];exact⟨rfl,rfl,rfl,rfl⟩)),(by exact cR _ _),(by(simp;rfl)),(by exact pZ rfl rfl),(by exact iO _),(by exact pY _ _),(by(simp;done)),(by(simp;done)),(by(simp;done)),trivial⟩)) (fun k=>by simp;rfl) (by rw[<-hds];exact aP0 _) (fun k hk=>hj2 k (by omega)) (.inl (by rw[<-hds])) ?_).mono ?_
 ·rw[<-hds];intro k d hd hk;have hr:=hround k d hd (by omega);have hok:=hj2 k (by omega);rw[hok,aPT rfl]at hr;rw[hok];exact dK.congrG hr (fun j=>oN (by decide) j) (fun j=>oN (by decide) j)
 rintro r H' ⟨rfl,rfl⟩;rw[List.take_length];refine⟨x,_,rfl,by rw[hx1];decide,rfl,fun z=>?_⟩;rw[hx2];refine Sr<|Dd (bC lE)<|Uu (lG lX)<|Uu (lG sizeOf41)<|Uu (lG sizeOf3)<|Zz<|aB ?_;refine A1 (H':=[]) (.inr rfl) rfl (gG rfl lE rfl rfl rfl rfl) (gG rfl kY rfl rfl rfl rfl) (gG rfl isAgg3 rfl rfl rfl rfl) (Fin.fz (r':=.tup [.pv (RV ds),iv 0,iv 0]) (id:=905) (ob:=⟨ds.length,3,187,kR ds⟩) (ds.map eS) rfl (by rw[List.map_map];rfl) (.tup rfl (dR (.osl (qs:=ds.map eS) (by rw[aPc,List.drop_zero];exact List.take_of_length_le (Nat.le_of_eq (aPU eS)))) (dR (.same (by simp)) (dR (.same (by simp)) qN)))) rfl trivial trivial) ?_;exact Qq
def yW:List GFound->Option (List GTag)
 | []=>some []
 |a::_::c::r=>(yW r).map fun l=>⟨a.text,c.text⟩::l
 |_=>none
def PB(l:List GFound)(k:Nat):GTag:=⟨((l[3*k]?).map GFound.text).getD sNil,((l[3*k+2]?).map GFound.text).getD sNil⟩
def eR(l:List GFound)(k:Nat):List GTag:=(List.range k).map (PB l)
theorem B4(l:List GFound)(k:Nat):eR l (k+1)=eR l k++[PB l k]:=by rw[eR,List.range_succ,List.map_append];rfl
theorem DS(l:List GFound)(k:Nat):(eR l k).length=k:=by rw[eR,aPU,List.length_range]
def sX(l:List GTag):List (List AV):=l.map fun t=>(bJ t).map AV.pv
theorem KZ(l:List GTag):(sX l).length=l.length:=aPU _
theorem K0(l:List GTag)(t:GTag):sX l++[(bJ t).map AV.pv]=sX (l++[t]):=by rw[sX,sX,List.map_append];rfl
theorem lJ(H:aH)(l:List GTag):∀r∈sX l,∀a∈r,Clo H a:=by intro r hr a ha;obtain ⟨d,_,rfl⟩:=List.mem_map.1 hr;obtain ⟨p,_,rfl⟩:=List.mem_map.1 ha;simp
theorem MQ:∀(r acc:List GFound),(mL acc r).1.length<=acc.length+r.length
 | [],acc=>aP0 _
 |f::r,acc=>by
  rw[mL]
  split
  ·exact aPb _
  split
  ·exact aPb _
  have:=MQ r (acc++[f]);rw[aPV,List.length_singleton]at this;rw[aPW];omega
theorem FZ(s:ByteArray)(h:s.size<1099511627776):(iZ s).1.length<549755813888:=by
 unfold iZ
 split
 ·decide
 have h1:=MQ (nL s (s.size+1) 0) [];have h2:=BI s (s.size+1) 0;rw[List.length_nil]at h1;omega
theorem aZ(s:ByteArray):s.data.toList.length=s.size:=by simp
theorem qU{a b:ByteArray}(h:a.data.toList=b.data.toList):a=b:=by cases a with|mk a=>cases b with|mk b=>cases a;cases b;simp at h;rw[h]
theorem hV(s:ByteArray)(i j:Nat):(s.extract i j).data.toList=(s.data.toList.drop i).take (j - i):=by rw[ByteArray.data_extract,Array.toList_extract,List.extract_eq_take_drop]
theorem yL(h:s.data.toList.drop i=c::r):i<s.size/\cP s i=(c.toNat:Int)/\s.data.toList.drop (i+1)=r:=by obtain ⟨h1,h2⟩:=MU h;refine⟨by rw[<-aZ];exact(aPY.1 h1).1,by rw[cP,h1];rfl,h2⟩
theorem EL(h:s.data.toList.drop i=c::r):tN s i=CD (c.toNat:Int):=by obtain ⟨h1,h2,_⟩:=yL h;rw[tN,aPT h1,h2]
theorem aBE(h:s.data.toList.drop i=[]):tN s i=0:=by have:=List.drop_eq_nil_iff.1 h;rw[aZ]at this;rw[tN,aPS (by omega)]
theorem jI(h:s.data.toList.drop i=w++r):s.data.toList.drop (i+w.length)=r:=by rw[<-List.drop_drop,h,List.drop_left]
theorem aAv(h:s.data.toList.drop i=w++r)(hk:w[k]?=some c):s.data.toList.drop (i+k)=c::((w.drop (k+1))++r):=by
 have hlt:=(aPY.1 hk).1;have e:w=w.take k++c::w.drop (k+1):=by
  conv=>lhs;rw[<-List.take_append_drop k w]
  rw[List.drop_eq_getElem_cons hlt,(aPY.1 hk).2]
 have h2:s.data.toList.drop i=w.take k++(c::w.drop (k+1)++r):=by
  rw[h];exact(congrArg (·++r) e).trans (List.append_assoc _ _ _)
 have h3:=jI h2;rw[aP8,Nat.min_eq_left (by omega)]at h3;exact h3
theorem B6(h:s.data.toList.drop i=w++r):s.extract i (i+w.length)=⟨w.toArray⟩:=by refine qU ?_;rw[hV,h,Nat.add_sub_cancel_left,List.take_left]
theorem B5:(s.extract i s.size).data.toList=s.data.toList.drop i:=by rw[hV];exact List.take_of_length_le (by rw[aP9,aZ];exact aP0 _)
theorem zN{k:ByteArray}(h:bM k=true):0<k.size/\k.size<=24/\CD (cP k 0)=3/\∀j,j<k.size->(CD (cP k j)=3\/CD (cP k j)=4\/CD (cP k j)=5):=by
 rw[bM,aP3,aP3,aPd,aPd,List.any_eq_false,aP2,aP1]at h;obtain ⟨h1,h2,h3⟩:=h;have hpos:0<k.size:=by
  rcases Nat.eq_zero_or_pos k.size with e|e
  ·refine absurd (qU ?_) h2;rw[<-aZ]at e;rw[List.length_eq_zero_iff.1 e]
  exact e
 have hb:∀j,j<k.size->OY k j=false:=fun j hj=>by
  have:=h1 j (List.mem_range.2 hj)
  simpa using this
 refine⟨hpos,by omega,?_,fun j hj=>?_⟩
 ·have:=hb 0 hpos
  simpa[OY]using this
 have:=hb j hj;rw[OY]at this;by_cases e1:CD (cP k j)=3
 ·exact .inl e1
 by_cases e2:CD (cP k j)=4
 ·exact .inr (.inl e2)
 by_cases e3:CD (cP k j)=5
 ·exact .inr (.inr e3)
 simp[e1,e2,e3]at this
theorem aIC{k:ByteArray}(h:j<k.size):∃c,k.data.toList[j]?=some c/\cP k j=(c.toNat:Int):=by rw[<-aZ]at h;exact⟨_,aPZ h,by rw[cP,aPZ h];rfl⟩
theorem aB3{k:ByteArray}(h:s.data.toList.drop i=k.data.toList++r)(hk:bM k=true)(hr:∀c r',r=c::r'->CD (c.toNat:Int)≠3/\CD (c.toNat:Int)≠4/\CD (c.toNat:Int)≠5):
  jD s i=(some ⟨1,k,i,0⟩,i+k.size):=by
 obtain ⟨hpos,hle,h0,hall⟩:=zN hk;have hat:∀j,j<k.size->tN s (i+j)=CD (cP k j):=fun j hj=>by
  obtain ⟨c,hc,e⟩:=aIC hj;rw[EL (aAv h hc),e]
 have hlen:i+k.size<=s.size:=by
  have:=congrArg List.length h;rw[aP9,aPV,aZ,aZ]at this;omega
 have ha0:tN s i=3:=by
  have:=hat 0 hpos;rw[Nat.add_zero,h0]at this;exact this
 have hend:JX s i=i+k.size:=by
  refine E9 (BO s) (by omega) (by omega) (fun j h1 h2=>?_) ?_
  ·have:=hat (j - i) (by omega);rw[show i+(j - i)=j by omega]at this;rw[BO,this];rcases hall (j - i) (by omega)with e|e|e<;>rw[e]<;>rfl
  left;have hd:=jI h;rw[aZ]at hd;cases r with
  |nil=>rw[BO,aBE hd];rfl
  |cons c r' =>
   obtain ⟨e1,e2,e3⟩:=hr c r' rfl;rw[BO,EL hd,decide_eq_false e1,decide_eq_false e2,decide_eq_false e3];rfl
 have hex:=B6 h;rw[aZ]at hex;have hkk:(⟨k.data.toList.toArray⟩:ByteArray)=k:=qU (by simp);rw[jD,aPS (by rw[ha0];decide),aPS (by rw[ha0];decide),aPT ha0,hend,EB,hex,hkk,aPS (by omega)]
theorem aGn(h:s.data.toList.drop i=32::r):jD s i=(none,i+1):=by
 have ha:tN s i=1:=by rw[EL h];rfl
 rw[jD,aPT ha]
theorem UB:∀(v r:List UInt8),pW (v.flatMap nN++34::r)=some (v,(v.flatMap nN).length+1)
 | [],r=>KV
 | b::v,r=>by
  have ih:=UB v r;rw[List.flatMap_cons,List.append_assoc,aPV];by_cases h1:b=10
  ·have e:nN b=[92,110]:=by rw[nN,aPT h1]
   rw[e];show pW (92::110::(v.flatMap nN++34::r))=_;rw[JZ,ih,h1];show some (10::v,_)=some (10::v,_);congr 2;show (v.flatMap nN).length+1+2=2+_+1;omega
  by_cases h2:b=34\/b=92
  ·have e:nN b=[92,b]:=by rw[nN,aPS h1,aPT h2]
   have hu:BZ b=some b:=by
    rcases h2 with e|e<;>subst e<;>rfl
   rw[e];show pW (92::b::(v.flatMap nN++34::r))=_;rw[JZ,ih,hu];show some (b::v,_)=some (b::v,_);congr 2;show (v.flatMap nN).length+1+2=2+_+1;omega
  have e:nN b=[b]:=by rw[nN,aPS h1,aPS h2]
  have h3:b≠34/\b≠92:=⟨fun e=>h2 (.inl e),fun e=>h2 (.inr e)⟩;rw[e];show pW (b::(v.flatMap nN++34::r))=_;rw[KW h3.1 h1 h3.2,ih];show some (b::v,_)=some (b::v,_);congr 2;show (v.flatMap nN).length+1+1=1+_+1;omega
theorem UI{v:ByteArray}(h:s.data.toList.drop i=eD v.data.toList++r):jD s i=(some ⟨3,v,i,0⟩,i+(eD v.data.toList).length):=by
 have h':s.data.toList.drop i=34::(v.data.toList.flatMap nN++34::r):=by rw[h,eD];simp
 have ha:tN s i=7:=by rw[EL h'];rfl
 have hu:AA (s.extract i s.size)=(v,(((v.data.toList.flatMap nN).length+1+1:Nat):Int)):=by
  rw[AA,B5,h',List.drop_succ_cons,List.drop_zero,UB]
 have hs:OP s i=(⟨3,v,i,0⟩,i+(eD v.data.toList).length):=by
  rw[OP,hu,aPT (by show (0:Int)<((_:Nat):Int);omega)];congr 1;show i+_=i+_;congr 1;rw[aP5,eD,aPW,aPV,List.length_singleton]
 rw[jD,aPS (by rw[ha];decide),aPS (by rw[ha];decide),aPS (by rw[ha];decide),aPS (by rw[ha];decide),aPT ha,hs]
def QD(t:GTag):List UInt8:=t.key.data.toList++61::eD t.val.data.toList
theorem HR(t:GTag):(gM t).data.toList=QD t:=by rw[gM,QD];simp
def oL(l:List GTag):List UInt8:=l.flatMap fun t=>32::QD t
def XC(T:List GFound)(l:List GTag):Prop:=yW T=some l/\(∀f,f∈T->f.err=0)/\T.length=3*l.length
theorem XC.cons{T:List GFound}{l:List GTag}{a b c:GFound}(h:XC T l)(ha:a.err=0)(hb:b.err=0)(hc:c.err=0):XC (a::b::c::T) (⟨a.text,c.text⟩::l):=by
 obtain ⟨h1,h2,h3⟩:=h;refine⟨by rw[yW,h1];rfl,fun f hf=>?_,by rw[aPW,aPW,aPW,aPW,h3];omega⟩;rcases aP6.1 hf with rfl|hf
 ·exact ha
 rcases aP6.1 hf with rfl|hf
 ·exact hb
 rcases aP6.1 hf with rfl|hf
 ·exact hc
 exact h2 f hf
theorem O9(t:GTag)(l:List GTag):(JE (t::l)).data.toList=QD t++oL l:=by show bU [32] (bs ((t::l).map gM))=_;rw[bs,List.map_map,List.map_cons,bU];show (gM t).data.toList++_=_;rw[HR,oL,List.flatMap_map];congr 1;congr 1;funext x;show [32]++(gM x).data.toList=_;rw[HR];rfl
theorem HT:∀(T acc:List GFound),(∀f,f∈T->f.err=0)->acc.length+T.length<=5000->mL acc T=(acc++T,0,0)
 | [],acc,_,_=>by rw[mL,List.append_nil]
 |f::T,acc,h,hl=>by
  rw[aPW]at hl;rw[mL,aPS (fun e=>e (h f List.mem_cons_self)),aPS (by omega),HT T (acc++[f]) (fun g hg=>h g (List.mem_cons_of_mem _ hg)) (by rw[aPV,List.length_singleton];omega),List.append_assoc];rfl
end Go.Proofs.YtmdicgjnmfolfaaGreatDoor
namespace Go.Abs
def fF(c:UInt8):List UInt8->List (List UInt8)
 | []=>[[]]
 |b::l=>if b=c then[]::fF c l else((b::(fF c l).headD [])::(fF c l).tail)
theorem zA(c:UInt8)(l:List UInt8):0<(fF c l).length:=by
 cases l with
 |nil=>exact Nat.zero_lt_one
 |cons b l=>rw[fF];split<;>simp
theorem rY{c:UInt8}:∀ {w:List UInt8},c∉w->fF c w=[w]
 | [],_=>rfl
 |b::w,h=>by
  rw[aP6,not_or]at h;rw[fF,aPS (fun e=>h.1 e.symm),rY h.2];rfl
theorem nD{c:UInt8}{l:List UInt8}:∀ {w:List UInt8},c∉w->fF c (w++c::l)=w::fF c l
 | [],_=>by rw[List.nil_append,fF,aPT rfl]
 |b::w,h=>by
  rw[aP6,not_or]at h;rw[List.cons_append,fF,aPS (fun e=>h.1 e.symm),nD h.2];rfl
theorem tV(c:UInt8):∀l:List UInt8,(fF c l).length=l.count c+1
 | []=>rfl
 |b::l=>by
  have ih:=tV c l;rw[fF];by_cases h:b=c
  ·rw[aPT h,aPW,ih,h,List.count_cons_self]
  rw[aPS h,aPW,List.length_tail,ih,List.count_cons_of_ne h];omega
def kU:List UInt8->List (List UInt8)
 | []=>[]
 |b::l=>if b=10 then[10]::kU l else match kU l with
  | []=>[[b]]
  |w::r=>(b::w)::r
theorem D8{l:List UInt8}:∀ {w:List UInt8},(10:UInt8)∉w->kU (w++10::l)=(w++[10])::kU l
 | [],_=>by rw[List.nil_append,kU,aPT rfl];rfl
 |b::w,h=>by
  rw[aP6,not_or]at h;rw[List.cons_append,kU,aPS (fun e=>h.1 e.symm),D8 h.2];rfl
theorem JA:∀ {w:List UInt8},(10:UInt8)∉w->w≠[]->kU w=[w]
 | [],_,h=>absurd rfl h
 |b::w,h,_=>by
  rw[aP6,not_or]at h;rw[kU,aPS (fun e=>h.1 e.symm)];by_cases e:w=[]
  ·subst e;rfl
  rw[JA h.2 e]
theorem DQ:∀ {ls:List (List UInt8)},(∀w∈ls,(10:UInt8)∉w)->kU (ls.flatMap (·++[10]))=ls.map (·++[10])
 | [],_=>rfl
 |w::ls,h=>by
  rw[List.flatMap_cons,List.append_assoc,List.singleton_append,D8 (h w List.mem_cons_self),DQ fun x hx=>h x (List.mem_cons_of_mem _ hx)];rfl
theorem uQ{c:UInt8}:∀ {l:List UInt8},Lib.indexByte l c = -1↔c∉l
 | []=>by simp[Lib.indexByte]
 | b::l=>by
  have ih:=uQ (c:=c) (l:=l);have hg:=Lib.indexByte_ge l c;rw[Lib.indexByte];by_cases h:b=c
  ·subst h;simp
  simp only[beq_iff_eq,h,if_false,aP6,not_or];constructor
  ·intro h2
   split at h2
   ·exact⟨fun e=>h e.symm,ih.1 (by assumption)⟩
   omega
  rintro⟨_,h2⟩;rw[ih.2 h2];rfl
theorem uR{c:UInt8}:∀ {l:List UInt8},Lib.indexByte l c ≠ -1->∃w r,l=w++c::r/\c∉w/\Lib.indexByte l c=(w.length:Int)
 | [],h=>absurd rfl h
 |b::l,h=>by
  by_cases e:b=c
  ·subst e;exact⟨[],l,rfl,by simp,by simp[Lib.indexByte]⟩
  have e1:Lib.indexByte l c ≠ -1:=fun e2=>h (by rw[Lib.indexByte];simp[e,e2]);obtain ⟨w,r,h1,h2,h3⟩:=uR e1;refine⟨b::w,r,by rw[h1];rfl,by rw[aP6,not_or];exact⟨fun x=>e x.symm,h2⟩,?_⟩;rw[Lib.indexByte];simp only[beq_iff_eq,e,if_false,e1,h3,aPW];rw[aPS (by omega)]
  push_cast
  rfl
end Go.Abs
namespace Go.Abs
open Go.Lib
theorem aAw{d:Nat}(h:d<10):digitVal (UInt8.ofNat (48+d))=some d:=by
 have e:(UInt8.ofNat (48+d)).toNat=48+d:=by rw[UInt8.toNat_ofNat'];omega
 rw[digitVal,e,aPT (by omega)];congr 1;omega
theorem AG{b:UInt8}{d:Nat}(hb:digitVal b=some d):∀(l:List UInt8) (acc:Nat),decFrom acc (l++[b])=(decFrom acc l).map fun n=>n*10+d
 | [],acc=>by
  simp[decFrom,hb]
 |c::l,acc=>by
  rw[List.cons_append,decFrom,decFrom];cases h:digitVal c with
  |none=>rfl
  |some x=>exact AG hb l _
theorem tM(u:Nat):decDigits u≠[]:=by
 rw[decDigits]
 split
 ·simp
 simp
theorem B8(u:Nat):decFrom 0 (decDigits u)=some u:=by
 induction u using Nat.strongRecOn with
 |ind u ih =>
  rw[decDigits]
  split
  ·rename_i h;rw[<-List.nil_append [_],AG (aAw h)];simp[decFrom]
  rename_i h;rw[AG (aAw (Nat.mod_lt u (by decide))),ih (u / 10) (by omega)];simp only[Option.map_some];congr 1;omega
theorem rI{b:UInt8}:∀(u:Nat),b∈decDigits u->48<=b.toNat/\b.toNat<=57:=by
 intro u
 induction u using Nat.strongRecOn with
 |ind u ih =>
  rw[decDigits]
  split
  ·rename_i h;intro hb;rw[aPX]at hb;subst hb;rw[UInt8.toNat_ofNat'];omega
  rename_i h;intro hb;rcases List.mem_append.1 hb with hb|hb
  ·exact ih (u / 10) (by omega) hb
  rw[aPX]at hb;subst hb;rw[UInt8.toNat_ofNat'];omega
theorem iL(n:Int)(h:0<=n):itoa n=decDigits n.toNat:=by rw[itoa,aPS (by omega)]
theorem aCi{n:Int}(h:0<=n):atoi (itoa n)=some n:=by
 rw[iL n h];obtain ⟨u,hu⟩:∃u,u=n.toNat:=⟨_,rfl⟩;rw[<-hu];have hd:=B8 u;have hm:∀b∈decDigits u,48<=b.toNat/\b.toNat<=57:=fun b=>rI u;cases e:decDigits u with
 |nil=>exact absurd e (tM u)
 |cons b r =>
  have hb:=hm b (by rw[e];exact List.mem_cons_self);have e2:decNat (b::r)=some u:=by rw[decNat,<-e,hd];simp[tM]
  unfold atoi;simp only[e2];have h43:b≠43:=fun h=>by rw[h]at hb;exact absurd hb.1 (by decide)
  have h45:b≠45:=fun h=>by rw[h]at hb;exact absurd hb.1 (by decide)
  split<;>simp_all
  omega
theorem dX:∀ {k u:Nat},u<10 ^ k->0<k->(decDigits u).length<=k
 |0,_,_,h=>absurd h (Nat.lt_irrefl 0)
 | k+1,u,h,_=>by
  rw[decDigits]
  split
  ·simp
  rename_i h1;rw[aPV,List.length_singleton];have hk:0<k:=by
   rcases Nat.eq_zero_or_pos k with e|e
   ·subst e;omega
   exact e
  have hd:u / 10<10 ^ k:=by rw[Nat.pow_succ]at h;omega
  have:=dX hd hk;omega
theorem AK{n:Int}(h:0<=n)(h2:n<1000000000000000000):atoiAll (itoa n)=.ok n:=by
 have hl:(itoa n).length<=18:=by
  rw[iL n h];exact dX (by omega) (by decide)
 rw[atoiAll_short _ hl,aCi h];rfl
end Go.Abs
namespace Go.Proofs.YtmdicgjnmfolfaaGreatDoor
open Go.Proofs.Tryz
open Go.Abs
variable{s k:ByteArray}{i:Nat}{w r L:List UInt8}{T:List GFound}{x:Int}{o:GObj}{b:UInt8}{l:List GTag}
def mR(o:GObj):List UInt8:=(eO o.kind).data.toList++32::(o.id.data.toList++32::(if o.kind=1 then Lib.itoa o.x++32::Lib.itoa o.y else 40::(bU [32] (bs o.refs)++[41])))
def tD(o:GObj):List UInt8:=mR o++oL o.tags
def uH(o:GObj):ByteArray:=⟨(tD o).toArray⟩
def fT(o:GObj):ByteArray×Int:=if lH o then(if 0<o.tags.length/\(iB o.tags).2≠0 then(sNil,(iB o.tags).2)else if 20000<(uH o).size then(sNil,2)else(uH o,0))else(sNil,1)
def atV(s:ByteArray):Int:=match Lib.atoiAll s.data.toList with
 |.ok v=>v
 |.range=>Lib.atoiSat s.data.toList
 |_=>0
def noF:GFound:=⟨0,sNil,0,0⟩
def sB(T:List GFound):List GFound:=T++List.replicate (4 - T.length) noF
def JB(s:ByteArray):Int:=if s=eO 5 then 5 else if s=eO 4 then 4 else if s=eO 3 then 3 else if s=eO 2 then 2 else if s=eO 1 then 1 else 0
def iR(f:GFound):Bool:=decide (f.text=⟨#[41]⟩)&&decide (f.kind=4)
def oJ:List GFound->List GTag
 |a::_::c::r=>⟨a.text,c.text⟩::oJ r
 |_=>[]
theorem K5:∀ {T:List GFound} {l:List GTag},yW T=some l->oJ T=l
 | [],l,h=>by rw[yW]at h;cases h;rfl
 | [_],l,h=>by rw[yW]at h<;>(cases h;done)
 | [_,_],l,h=>by rw[yW]at h<;>(cases h;done)
 | a::b::c::r,l,h=>by
  rw[yW]at h;cases e:yW r with
  |none=>rw[e]at h;cases h
  |some q =>
   rw[e]at h;cases h;rw[oJ,K5 e]
def mM(T:List GFound):GObj :=if JB ((sB T).getD 0 noF).text=1 then⟨((sB T).getD 1 noF).text,1,atV ((sB T).getD 2 noF).text,atV ((sB T).getD 3 noF).text,[],oJ ((sB T).drop 4)⟩
 else if wT iR (sB T)<3 then zObj
 else⟨((sB T).getD 1 noF).text,JB ((sB T).getD 0 noF).text,0,0,(((sB T).take (wT iR (sB T)).toNat).drop 3).map GFound.text,oJ ((sB T).drop ((wT iR (sB T)).toNat+1))⟩
def EU(s:ByteArray)(i:Nat)(r:List UInt8)(T:List GFound):Prop:=∀n,r.length<=n->nL s n i=T
theorem GK{j:Nat}{f:GFound}(hs:jD s i=(some f,j))(hf:f.err=0)(hi:i<s.size)(hw:0<w.length)(hT:EU s j r T):EU s i (w++r) (f::T):=by intro n hn;rw[aPV]at hn;obtain ⟨m,rfl⟩:∃m,n=m+1:=⟨n - 1,by omega⟩;rw[nL,aPT hi,hs];show f::(if f.err=0 then nL s m j else[])=_;rw[aPT hf,hT m (by omega)]
theorem EM(h:s.data.toList.drop i=32::r)(hT:EU s (i+1) r T):EU s i (32::r) T:=by intro n hn;rw[aPW]at hn;obtain ⟨m,rfl⟩:∃m,n=m+1:=⟨n - 1,by omega⟩;rw[nL,aPT (yL h).1,aGn h];exact hT m (by omega)
theorem all_nil(h:s.data.toList.drop i=[]):EU s i [] []:=by
 intro n _;have hge:¬ i<s.size:=by
  have:=List.drop_eq_nil_iff.1 h;rw[aZ]at this;omega
 cases n with
 |zero=>rfl
 |succ n=>rw[nL,aPS hge]
theorem uL(h:s.data.toList.drop i=w++r)(hw:0<w.length):i<s.size:=by
 rcases Nat.lt_or_ge i s.size with h1|h1
 ·exact h1
 rw[List.drop_eq_nil_of_le (by rw[aZ];exact h1)]at h;have:=congrArg List.length h;rw[List.length_nil,aPV]at this;omega
def EZ(r:List UInt8):Prop:=∀c r',r=c::r'->CD (c.toNat:Int)≠3/\CD (c.toNat:Int)≠4/\CD (c.toNat:Int)≠5
theorem aB2:EZ []:=fun c r' h=>by cases h
theorem rX(r:List UInt8):EZ (32::r):=fun c r' h=>by cases h;exact⟨by decide,by decide,by decide⟩
theorem UH(r:List UInt8):EZ (41::r):=fun c r' h=>by cases h;exact⟨by decide,by decide,by decide⟩
theorem vJ(h:s.data.toList.drop i=k.data.toList++r)(hk:bM k=true)(hr:EZ r)(hT:EU s (i+k.size) r T):EU s i (k.data.toList++r) (⟨1,k,i,0⟩::T):=by have hp:=(zN hk).1;exact GK (aB3 h hk hr) rfl (uL h (by rw[aZ];exact hp)) (by rw[aZ];exact hp) hT
theorem TM{c:UInt8}(h:s.data.toList.drop i=c::r)(hc:CD (c.toNat:Int)=6)(hT:EU s (i+1) r T):EU s i (c::r) (⟨4,⟨#[c]⟩,i,0⟩::T):=by
 have ha:tN s i=6:=by rw[EL h];exact hc
 have hx:=B6 (w:=[c]) (r:=r) h;have hs:jD s i=(some ⟨4,⟨#[c]⟩,i,0⟩,i+1):=by
  rw[jD,aPS (by rw[ha];decide),aPS (by rw[ha];decide),aPS (by rw[ha];decide),aPS (by rw[ha];decide),aPS (by rw[ha];decide),aPT ha];rw[List.length_singleton]at hx;rw[hx]
 exact GK (w:=[c]) hs rfl (yL h).1 Nat.zero_lt_one hT
theorem aI3:∀b:UInt8,48<=b.toNat->b.toNat<=57->CD (b.toNat:Int)=4:=by
 intro b h1 h2;have h:∀n:Fin 256,48<=n.val->n.val<=57->CD (n.val:Int)=4:=by decide +kernel
 exact h ⟨b.toNat,b.toNat_lt⟩ h1 h2
theorem aBG(h:s.data.toList.drop i=Lib.itoa x++r)(h0:0<=x)(h1:x<10000000)(hr:EZ r)(hT:EU s (i+(Lib.itoa x).length) r T):EU s i (Lib.itoa x++r) (⟨2,aV x,i,0⟩::T):=by
 have hw:=iL x h0;have hne:0<(Lib.itoa x).length:=by rw[hw];exact List.length_pos_iff.2 (tM _)
 have hle:(Lib.itoa x).length<=7:=by rw[hw];exact dX (by omega) (by decide)
 have hat:∀j,j<(Lib.itoa x).length->tN s (i+j)=4:=fun j hj=>by
  have hc:=aPZ hj;rw[EL (aAv h hc)];have hm:(Lib.itoa x)[j]∈Lib.decDigits x.toNat:=by rw[<-hw];exact List.getElem_mem hj
  obtain ⟨d1,d2⟩:=rI _ hm;exact aI3 _ d1 d2
 have hlen:i+(Lib.itoa x).length<=s.size:=by
  have:=congrArg List.length h;rw[aP9,aPV,aZ]at this;have:=uL h hne;omega
 have ha0:tN s i=4:=hat 0 hne;have hd:=jI h;have hstop:tN s (i+(Lib.itoa x).length)≠3/\tN s (i+(Lib.itoa x).length)≠4/\tN s (i+(Lib.itoa x).length)≠5:=by
  cases r with
  |nil=>rw[aBE hd];exact⟨by decide,by decide,by decide⟩
  |cons c r'=>rw[EL hd];exact hr c r' rfl
 have hend:S8 s i=i+(Lib.itoa x).length:=by
  refine E9 (aBx s) (by omega) (by omega) (fun j h1 h2=>?_) (.inl ?_)
  ·have:=hat (j - i) (by omega);rw[show i+(j - i)=j by omega]at this;rw[aBx,this];rfl
  rw[aBx,decide_eq_false hstop.2.1]
 have hs:jD s i=(some ⟨2,aV x,i,0⟩,i+(Lib.itoa x).length):=by
  rw[jD,aPS (by rw[ha0];decide),aPS (by rw[ha0];decide),aPS (by rw[ha0];decide),aPT ha0,hend,MY,B6 h,decide_eq_false hstop.1,decide_eq_false hstop.2.2,decide_eq_false (by omega)];rfl
 exact GK hs rfl (uL h hne) hne hT
theorem NO{s:ByteArray}:∀(l:List GTag) (i:Nat),(∀t,t∈l->bM t.key=true)->s.data.toList.drop i=oL l->∃T,EU s i (oL l) T/\XC T l
 | [],i,_,h=>⟨[],all_nil h,rfl,(fun f hf=>by cases hf),rfl⟩
 | t::l,i,hk,h=>by
  have hm:oL (t::l)=32::(t.key.data.toList++61::(eD t.val.data.toList++oL l)):=by
   rw[oL,List.flatMap_cons,QD];simp[oL]
  rw[hm]at h |-;have h1:=(yL h).2.2;have h2:=jI h1;rw[aZ]at h2;have h3:=(yL h2).2.2;have h4:=jI h3;obtain ⟨T,hT,hR⟩:=NO l _ (fun t ht=>hk t (List.mem_cons_of_mem _ ht)) h4;have hq:0<(eD t.val.data.toList).length:=by rw[eD,aPW];omega
  have b3:=GK (UI h3) rfl (uL h3 hq) hq hT;have b2:=TM h2 (by decide) b3;have b1:=vJ h1 (hk t List.mem_cons_self) (fun c r' e=>by cases e;exact⟨by decide,by decide,by decide⟩) b2;exact⟨_,EM h b1,XC.cons hR rfl rfl rfl⟩
theorem F1(h:lH o=true):o.kind=1\/o.kind=2\/o.kind=3\/o.kind=4\/o.kind=5:=by have:=aCT h;omega
theorem CK{k:Int}(h:k=1\/k=2\/k=3\/k=4\/k=5):bM (eO k)=true/\JB (eO k)=k:=by
 rcases h with rfl|rfl|rfl|rfl|rfl
 ·exact⟨by kernel_rfl,by decide⟩
 ·exact⟨by kernel_rfl,by decide⟩
 ·exact⟨by kernel_rfl,by decide⟩
 ·exact⟨by kernel_rfl,by decide⟩
 exact⟨by kernel_rfl,by decide⟩
theorem uB(h:lH o=true):∀s∈o.refs,bM s=true:=fun s hs=>by
 rw[lH,aP3,aP3,aPd,aPd]at h;obtain ⟨i,hi⟩:=aPf.1 hs;have hlt:=(aPY.1 hi).1;have h1:=List.any_eq_false.1 h.2.1 i (List.mem_range.2 hlt);rw[pV,hi]at h1;simp only[HZ,Bool.or_eq_true,not_or,Bool.not_eq_true,Bool.not_eq_false']at h1;exact h1.2
theorem aBD(h:lH o=true):(0<=o.x/\o.x<1048576)/\(0<=o.y/\o.y<1048576)/\(o.kind=1->o.refs=[])/\(o.kind≠1->o.x=0/\o.y=0):=by
 rw[lH,aP3,aP3]at h;have h:=h.2.2;unfold M0 at h
 split at h
 ·rename_i h1;rw[aP3,S4]at h;simp only[aP3,aP1]at h;refine⟨by omega,by omega,fun _=>List.length_eq_zero_iff.1 (by omega),fun e=>absurd h1 e⟩
 rename_i h1
 split at h<;>simp only[aP3,aP1]at h<;>exact⟨by omega,by omega,fun e=>absurd e h1,fun _=>by omega⟩
theorem W9{s:ByteArray}:∀(l:List ByteArray) (i:Nat) (r:List UInt8) (T:List GFound),(∀k,k∈l->bM k=true)->s.data.toList.drop i=l.flatMap (fun k=>32::k.data.toList)++r->EZ r ->
  EU s (i+(l.flatMap fun k=>32::k.data.toList).length) r T->∃R:List GFound,EU s i (l.flatMap (fun k=>32::k.data.toList)++r) (R++T)/\R.map GFound.text=l/\∀f∈R,f.kind=1/\f.err=0
 | [],i,r,T,_,h,_,hT=>⟨[],hT,rfl,(fun f hf=>by cases hf)⟩
 | k::l,i,r,T,hk,h,hr,hT=>by
  have hm:(k::l).flatMap (fun k=>32::k.data.toList)++r=32::(k.data.toList++(l.flatMap (fun k=>32::k.data.toList)++r)):=by
   rw[List.flatMap_cons];simp
  have hln:((k::l).flatMap fun k=>32::k.data.toList).length=1+k.size+(l.flatMap fun k=>32::k.data.toList).length:=by
   rw[List.flatMap_cons,aPV,aPW,aZ];omega
  rw[hm]at h |-;have h1:=(yL h).2.2;have h2:=jI h1;rw[aZ]at h2;obtain ⟨R,hR,e1,e2⟩:=W9 l (i+1+k.size) r T (fun x hx=>hk x (List.mem_cons_of_mem _ hx)) h2 hr (by rw[hln]at hT;rw[show i+1+k.size+(l.flatMap fun k=>32::k.data.toList).length=i+(1+k.size+(l.flatMap fun k=>32::k.data.toList).length)by omega];exact hT);have hst:EZ (l.flatMap (fun k=>32::k.data.toList)++r):=by
   cases l with
   |nil=>exact hr
   |cons a l=>rw[List.flatMap_cons];exact rX _
  refine⟨⟨1,k,i+1,0⟩::R,EM h (vJ h1 (hk k List.mem_cons_self) hst hR),by rw[List.map_cons,e1],fun f hf=>?_⟩;rcases aP6.1 hf with rfl|hf
  ·exact⟨rfl,rfl⟩
  exact e2 f hf
theorem zY(k:ByteArray)(l:List ByteArray):bU [32] (bs (k::l))=k.data.toList++l.flatMap (fun k=>32::k.data.toList):=by rw[bs,List.map_cons,bU,List.flatMap_map];rfl
theorem aFK{α:Type}{p:α->Bool}{c:α}{B:List α}:∀ {A:List α},(∀a,a∈A->p a=false)->p c=true->wT p (A++c::B)=(A.length:Int):=by
 intro A hA hc;have h:(A++c::B).findIdx? p=some A.length:=by
  induction A with
  |nil=>rw[List.nil_append,List.findIdx?_cons,aPT hc];rfl
  |cons a A ih =>
   rw[List.cons_append,List.findIdx?_cons,aPS (by rw[hA a List.mem_cons_self];decide),ih fun x hx=>hA x (List.mem_cons_of_mem _ hx)];rfl
 rw[wT,h]
theorem XX(l:List GTag):EZ (oL l):=by
 cases l with
 |nil=>exact aB2
 |cons t l=>rw[oL,List.flatMap_cons];exact rX _
theorem W7(h:0<=x)(h2:x<1000000000000000000):atV (aV x)=x:=by rw[atV];show (match Lib.atoiAll (Lib.itoa x)with|.ok v=>v|.range=>_|_=>0)=x;rw[AK h h2]
theorem aBk(h:lH o=true)(hk:o.kind≠1):∃k l,o.refs=k::l:=by
 have hk5:=F1 h;rw[lH,aP3,aPd,JF,sN]at h;have h1:=h.1;simp only[aPg,Bool.not_eq_false',aP2]at h1;have h4:=h1.1.2;have hl:1<=B1 o.kind:=by
  rcases hk5 with e|e|e|e|e
  ·exact absurd e hk
  ·rw[e];decide
  ·rw[e];decide
  ·rw[e];decide
  rw[e];decide
 cases e:o.refs with
 |nil=>rw[e]at h4;exact absurd (show ((([]:List ByteArray).length:Nat):Int)<B1 o.kind by show (0:Int)<_;omega) h4
 |cons k l=>exact⟨k,l,rfl⟩
theorem aA7(h:4<=T.length):sB T=T:=by rw[sB,show 4 - T.length=0 by omega,List.replicate_zero,List.append_nil]
theorem aCF(o:GObj):(uH o).data.toList.drop 0=tD o:=rfl
theorem aA9{i:ByteArray}{k y:Int}{r:List ByteArray}{t:List GTag}(h1:o.id=i)(h2:o.kind=k)(h3:o.x=x)(h4:o.y=y)(h5:o.refs=r)(h6:o.tags=t):(⟨i,k,x,y,r,t⟩:GObj)=o:=by subst h1 h2 h3 h4 h5 h6;rfl
theorem aDn(hg:lH o=true):∃T,EU (uH o) 0 (tD o) T/\(∀f,f∈T->f.err=0)/\T.length<=5000/\mM T=o:=by
 obtain ⟨hr,ht,htg,hid,_⟩:=B0 hg;obtain ⟨hx,hy,hn,hz⟩:=aBD hg;obtain ⟨hw,hkw⟩:=CK (F1 hg);have hkey:∀t,t∈o.tags->bM t.key=true:=fun t h=>((yJ.1 htg).1 t h).1;have h0:=aCF o;by_cases hk:o.kind=1
 ·have e:tD o=(eO o.kind).data.toList++32::(o.id.data.toList++32::(Lib.itoa o.x++32::(Lib.itoa o.y++oL o.tags))):=by
   rw[tD,mR,aPT hk];simp
  rw[e]at h0 |-;have h1:=jI h0;rw[aZ]at h1;have h2:=(yL h1).2.2;have h3:=jI h2;rw[aZ]at h3;have h4:=(yL h3).2.2;have h5:=jI h4;have h6:=(yL h5).2.2;have h7:=jI h6;obtain ⟨T,hT,r1,r2,r3⟩:=NO o.tags _ hkey h7;have b:=vJ h0 hw (rX _) (EM h1 (vJ h2 hid (rX _) (EM h3 (aBG h4 hx.1 (by omega) (rX _) (EM h5 (aBG h6 hy.1 (by omega) (XX _) hT))))));refine⟨_,b,fun f hf=>?_,?_,?_⟩
  ·simp only[aP6]at hf;rcases hf with rfl|rfl|rfl|rfl|hf
   ·rfl
   ·rfl
   ·rfl
   ·rfl
   exact r2 f hf
  ·simp only[aPW];omega
  rw[mM,aA7 (by simp only[aPW];omega)];simp only[List.getD_cons_zero,List.getD_cons_succ,List.drop_succ_cons,List.drop_zero];rw[hkw,aPT hk,K5 r1,W7 hx.1 (by omega),W7 hy.1 (by omega)];exact aA9 rfl hk rfl rfl (hn hk) rfl
 obtain ⟨k,l,hkl⟩:=aBk hg hk;have hnm:=uB hg;rw[hkl]at hnm;have e:tD o=(eO o.kind).data.toList++32::(o.id.data.toList++32::(40::(k.data.toList++(l.flatMap (fun k=>32::k.data.toList)++41::oL o.tags)))):=by
  rw[tD,mR,aPS hk,hkl,zY];simp
 rw[e]at h0 |-;have h1:=jI h0;rw[aZ]at h1;have h2:=(yL h1).2.2;have h3:=jI h2;rw[aZ]at h3;have h4:=(yL h3).2.2;have h5:=(yL h4).2.2;have h6:=jI h5;rw[aZ]at h6;have h7:=jI h6;have h8:=(yL h7).2.2;obtain ⟨T,hT,r1,r2,r3⟩:=NO o.tags _ hkey h8;have hcl:=TM h7 (by decide) hT;obtain ⟨R,hR,q1,q2⟩:=W9 l _ _ _ (fun x hx=>hnm x (List.mem_cons_of_mem _ hx)) h6 (UH _) hcl;have hst:EZ (l.flatMap (fun k=>32::k.data.toList)++41::oL o.tags):=by
  cases l with
  |nil=>exact UH _
  |cons a l=>rw[List.flatMap_cons];exact rX _
 have b:=vJ h0 hw (rX _) (EM h1 (vJ h2 hid (rX _) (EM h3 (TM h4 (by decide) (vJ h5 (hnm k List.mem_cons_self) hst hR)))));have hRl:R.length=l.length:=by rw[<-q1,aPU]
 have hrl:o.refs.length=l.length+1:=by rw[hkl,aPW]
 refine⟨_,b,fun f hf=>?_,?_,?_⟩
 ·simp only[aP6,List.mem_append]at hf;rcases hf with rfl|rfl|rfl|rfl|hf|rfl|hf
  ·rfl
  ·rfl
  ·rfl
  ·rfl
  ·exact(q2 f hf).2
  ·rfl
  exact r2 f hf
 ·simp only[aPW,aPV];omega
 obtain ⟨A,hA⟩:∃A:List GFound,A=⟨1,eO o.kind,0,0⟩::⟨1,o.id,0+(eO o.kind).size+1,0⟩::⟨4,⟨#[40]⟩,0+(eO o.kind).size+1+o.id.size+1,0⟩::⟨1,k,0+(eO o.kind).size+1+o.id.size+1+1,0⟩::R:=⟨_,rfl⟩;have hAl:A.length=R.length+4:=by rw[hA];rfl
 have hAc:∀a,a∈A->iR a=false:=by
  intro a ha;rw[hA]at ha;simp only[aP6]at ha;rcases ha with rfl|rfl|rfl|rfl|ha
  ·rw[iR,decide_eq_false (show ¬ ((1:Int)=4)by decide),Bool.and_false]
  ·rw[iR,decide_eq_false (show ¬ ((1:Int)=4)by decide),Bool.and_false]
  ·rfl
  ·rw[iR,decide_eq_false (show ¬ ((1:Int)=4)by decide),Bool.and_false]
  rw[iR,(q2 a ha).1,decide_eq_false (show ¬ ((1:Int)=4)by decide),Bool.and_false]
 have hdrop:∀c:GFound,(A++c::T).drop (A.length+1)=T:=fun c=>by
  rw[show A++c::T=(A++[c])++T by simp,show A.length+1=(A++[c]).length by simp,List.drop_left]
 have hx:=fun j=>aFK (p:=iR) (c:=⟨4,⟨#[41]⟩,j,0⟩) (B:=T) hAc rfl;have hTT:∀j,(⟨1,eO o.kind,0,0⟩::⟨1,o.id,0+(eO o.kind).size+1,0⟩::⟨4,⟨#[40]⟩,0+(eO o.kind).size+1+o.id.size+1,0⟩::⟨1,k,0+(eO o.kind).size+1+o.id.size+1+1,0⟩::(R++⟨4,⟨#[41]⟩,j,0⟩::T):List GFound)=A++⟨4,⟨#[41]⟩,j,0⟩::T:=fun j=>by rw[hA];rfl
 rw[mM,hTT,aA7 (by rw[aPV,hAl];omega),hx,aPS (by rw[hA];show ¬ JB (eO o.kind)=1;rw[hkw];exact hk),aPS (by rw[hAl];omega),aP5,List.take_left,hdrop,K5 r1];obtain ⟨z1,z2⟩:=hz hk;refine aA9 ?_ ?_ z1 z2 ?_ rfl
 ·rw[hA];rfl
 ·rw[hA];show o.kind=JB (eO o.kind);rw[hkw]
 rw[hkl,hA];show k::l=k::R.map GFound.text;rw[q1]
def ofL(l:List UInt8):ByteArray:=⟨l.toArray⟩
theorem dC(l:List UInt8):(ofL l).data.toList=l:=by simp[ofL]
theorem oZ(s:ByteArray):ofL s.data.toList=s:=qU (dC _)
theorem dG(l:List UInt8):(ofL l).size=l.length:=by rw[<-aZ,dC]
def rR(s:ByteArray):GObj×Int:=if 20000<s.size then(zObj,2)else if(iZ s).2.1=0/\fT (mM (iZ s).1)=(s,0)then(mM (iZ s).1,0)else(zObj,5)
theorem aAa(h:(fT o).2=0):lH o=true/\fT o=(uH o,0)/\(uH o).size<=20000:=by
 rw[fT]at h |-;by_cases hg:lH o=true
 ·rw[aPT hg]at h |-;by_cases h1:0<o.tags.length/\(iB o.tags).2≠0
  ·rw[aPT h1]at h;exact absurd h h1.2
  rw[aPS h1]at h |-;by_cases h2:20000<(uH o).size
  ·rw[aPT h2]at h;cases h
  rw[aPS h2];exact⟨hg,rfl,by omega⟩
 rw[aPS hg]at h;cases h
theorem YI(h:(fT o).2=0):rR (fT o).1=(o,0):=by
 obtain ⟨hg,ht,hs⟩:=aAa h;obtain ⟨T,hT,h1,h2,h3⟩:=aDn hg;have hlex:iZ (uH o)=(T,0,0):=by
  rw[iZ,aPS (by omega),hT _ (by rw[<-aZ];exact Nat.le_succ _),HT T [] h1 (by rw[List.length_nil];omega),List.nil_append]
 rw[ht,rR,aPS (by show ¬ 20000<(uH o).size;omega)];show (if(iZ (uH o)).2.1=0/\fT (mM (iZ (uH o)).1)=(uH o,0)then(mM (iZ (uH o)).1,(0:Int))else(zObj,5))=(o,0);rw[hlex];show (if(0:Int)=0/\fT (mM T)=(uH o,0)then(mM T,(0:Int))else(zObj,5))=(o,0);rw[h3,aPT ⟨rfl,ht⟩]
def aBU:List UInt8:=[112,117,116]
def aAC:List UInt8:=[109,111,118,101]
def aBR:List UInt8:=[116,97,103]
def Z8:List UInt8:=[114,101,102,115]
def aAE:List UInt8:=[100,114,111,112]
def RJ:List UInt8:=[115,112,108,105,116]
def aAD:List UInt8:=[106,111,105,110]
def gF(e:GEdit):List (List UInt8) :=if e.op=2 then[aAC,e.id.data.toList,Lib.itoa e.x,Lib.itoa e.y]else if e.op=3 then[aBR,e.id.data.toList,e.key.data.toList,eD e.val.data.toList]
 else if e.op=4 then Z8::e.id.data.toList::bs e.refs else if e.op=5 then[aAE,e.id.data.toList]
 else if e.op=6 then[RJ,e.id.data.toList,e.node.data.toList,e.other.data.toList]else[aAD,e.id.data.toList,e.other.data.toList]
def fC(e:GEdit):List UInt8:=if e.op=1 then aBU++32::(fT e.obj).1.data.toList else bU [32] (gF e)
def fP(e:GEdit):Int:=if e.op=1 then(fT e.obj).2 else 0
def pI:List UInt8->List GEdit->List UInt8×Int
 |acc,[]=>(acc,0)
 |acc,e::r=>if fP e≠0\/20000<(acc++(fC e++[10])).length then([],2)else pI (acc++(fC e++[10])) r
def eW(l:List GEdit):ByteArray×Int:=if kB l then(ofL (pI [] l).1,(pI [] l).2)else(sNil,1)
def ON(s:List UInt8):Int:=match Lib.atoiAll s with
 |.ok v=>v
 |_ => -1
def WO:GEdit:=⟨0,sNil,sNil,sNil,0,0,sNil,sNil,[],zObj⟩
def BM(w:List (List UInt8))(word rest:List UInt8):GEdit :=if word=aBU then⟨1,sNil,sNil,sNil,0,0,sNil,sNil,[],(rR (ofL rest)).1⟩
 else if word=aAC/\w.length=4 then⟨2,ofL (w.getD 1 []),sNil,sNil,ON (w.getD 2 []),ON (w.getD 3 []),sNil,sNil,[],zObj⟩
 else if word=aBR/\3<w.length then(match (iZ (ofL (bU [32] (w.drop 3)))).1 with
  | [f]=>⟨3,ofL (w.getD 1 []),sNil,sNil,0,0,ofL (w.getD 2 []),f.text,[],zObj⟩
  |_=>WO)
 else if word=Z8/\1<w.length then⟨4,ofL (w.getD 1 []),sNil,sNil,0,0,sNil,sNil,(w.drop 2).map ofL,zObj⟩
 else if word=aAE/\w.length=2 then⟨5,ofL (w.getD 1 []),sNil,sNil,0,0,sNil,sNil,[],zObj⟩
 else if word=RJ/\w.length=4 then⟨6,ofL (w.getD 1 []),ofL (w.getD 3 []),ofL (w.getD 2 []),0,0,sNil,sNil,[],zObj⟩
 else if word=aAD/\w.length=3 then⟨7,ofL (w.getD 1 []),ofL (w.getD 2 []),sNil,0,0,sNil,sNil,[],zObj⟩
 else WO
def jE(s:List UInt8):GEdit:=BM (fF 32 s) ((fF 32 s).headD []) (s.drop (((fF 32 s).headD []).length+1))
def mT(t:ByteArray):List GEdit×Int :=if 20000<t.size then([],2)else if eW ((kU t.data.toList).map fun s=>jE (Lib.trimSuffix s [10]))=(t,0)then((kU t.data.toList).map fun s=>jE (Lib.trimSuffix s [10]),0)else([],5)
theorem P6(hk:bM k=true)(hb:b∈k.data.toList):CD (b.toNat:Int)=3\/CD (b.toNat:Int)=4\/CD (b.toNat:Int)=5:=by
 obtain ⟨j,hj⟩:=aPf.1 hb;have hlt:=(aPY.1 hj).1;rw[aZ]at hlt;have h:=(zN hk).2.2.2 j hlt;have e:cP k j=(b.toNat:Int):=by rw[cP,hj];rfl
 rwa [e]at h
theorem rP(hk:bM k=true):(32:UInt8)∉k.data.toList/\(10:UInt8)∉k.data.toList:=by
 constructor
 ·intro h;have:=P6 hk h;revert this;decide
 intro h;have:=P6 hk h;revert this;decide
theorem KG(h:0<=x):(32:UInt8)∉Lib.itoa x/\(10:UInt8)∉Lib.itoa x:=by
 rw[iL x h];constructor
 ·intro h;have:=(rI _ h).1;revert this;decide
 intro h;have:=(rI _ h).1;revert this;decide
theorem UY(l:List UInt8):(10:UInt8)∉eD l:=by
 rw[eD];simp only[aP6,List.mem_append,List.mem_flatMap,aPa,or_false,not_or];refine⟨by decide,?_,by decide⟩;rintro⟨b,_,h⟩;rw[nN]at h;by_cases h1:b=10
 ·rw[aPT h1]at h;revert h;decide
 rw[aPS h1]at h;by_cases h2:b=34\/b=92
 ·rw[aPT h2]at h;simp only[aP6,aPa,or_false]at h;rcases h with h|h
  ·revert h;decide
  exact h1 h.symm
 rw[aPS h2,aPX]at h;exact h1 h.symm
theorem uO(hb:b≠32):∀ {l:List (List UInt8)},(∀w∈l,b∉w)->b∉bU [32] l
 | [],_,h=>by cases h
 |x::l,hl,h=>by
  rw[bU]at h;rcases List.mem_append.1 h with h|h
  ·exact hl x List.mem_cons_self h
  obtain ⟨y,hy,h⟩:=List.mem_flatMap.1 h;rcases List.mem_append.1 h with h|h
  ·rw[aPX]at h;exact hb h
  exact hl y (List.mem_cons_of_mem _ hy) h
theorem aHt(h:∀t,t∈l->bM t.key=true):(10:UInt8)∉oL l:=by
 intro hm;obtain ⟨t,ht,hm⟩:=List.mem_flatMap.1 hm;rw[QD]at hm;simp only[aP6,List.mem_append]at hm;rcases hm with h1|h1|h1|h1
 ·revert h1;decide
 ·exact(rP (h t ht)).2 h1
 ·revert h1;decide
 exact UY _ h1
theorem aKd(hg:lH o=true):(10:UInt8)∉tD o:=by
 obtain ⟨hr,ht,htg,hid,_⟩:=B0 hg;obtain ⟨hx,hy,_,_⟩:=aBD hg;have hkey:∀t,t∈o.tags->bM t.key=true:=fun t h=>((yJ.1 htg).1 t h).1;intro h;rw[tD,mR]at h;simp only[aP6,List.mem_append]at h;rcases h with(h|h|h|h|h)|h
 ·exact(rP (CK (F1 hg)).1).2 h
 ·revert h;decide
 ·exact(rP hid).2 h
 ·revert h;decide
 ·split at h
  ·simp only[aP6,List.mem_append]at h;rcases h with h|h|h
   ·exact(KG hx.1).2 h
   ·revert h;decide
   exact(KG hy.1).2 h
  simp only[aP6,List.mem_append,aPa,or_false]at h;rcases h with h|h|h
  ·revert h;decide
  ·refine uO (by decide) (fun w hw=>?_) h;obtain ⟨s,hs,rfl⟩:=List.mem_map.1 hw;exact(rP (uB hg s hs)).2
  revert h;decide
 exact aHt hkey h
abbrev oB(o:GObj):aH:=[(1,bx 6 151 ((bS o).map .pv))]
theorem aHZ{l:List UInt8}(h:l≠[])(s:ByteArray):aBq l s=l++32::s.data.toList:=by rw[aBq,aPS h]
theorem aOC(K:aH)(s:ByteArray)(hl:s.size<70368744177663):aI Tryz.prog 234 [.ref 2001 0 0 0,sv s] (oF 0 [] false++K) (fun r H'=>r=.tup []/\H'=oF 1 s.data.toList true++K):=by
 have h:=aDz K 0 [] false s (by rw[List.length_nil];omega)
 rwa [aPT rfl,show aBq [] s=s.data.toList from rfl]at h
theorem aBr(K:aH)(g:Nat)(l:List UInt8)(s:ByteArray)(h0:l≠[])(hl:l.length+s.size<70368744177663):aI Tryz.prog 234 [.ref 2001 0 0 0,sv s] (oF g l true++K) (fun r H'=>r=.tup []/\H'=oF (g+2) (l++32::s.data.toList) true++K):=by
 have h:=aDz K g l true s hl
 rwa [aPS h0,aHZ h0]at h
theorem J1(K:aH)(g:Nat)(l:List UInt8)(u:Bool)(hl:l.length<70368744177664):aI Tryz.prog 111 [.ref 2001 0 0 0] (oF g l u++K) (fun r H'=>r=sv ⟨l.toArray⟩/\H'=W3 g l u++(oF g l u++K)) :=aI.frame (aJs g l u hl) aJr (eI.ofL ⟨(by exact NH rfl rfl),(by exact eN _ _),trivial⟩) (by simp;rfl) (fun id h=>.inl (by
  simp only[W3,oF,aH.get]at h |-;cases e1:Nat.beq 2001 id with
  |true=>rfl
  |false =>
   cases e2:Nat.beq 2002 id with
   |true=>rfl
   |false=>rw[e1,e2]at h;cases h))
theorem P3(hg:lH o=true)(h:0<o.tags.length/\(iB o.tags).2≠0):fT o=(sNil,(iB o.tags).2):=by rw[fT,aPT hg,aPT h]
theorem CS(hg:lH o=true)(h:¬ (0<o.tags.length/\(iB o.tags).2≠0))(hL:tD o=L)(h2:20000<L.length):fT o=(sNil,2):=by
 have hs:(uH o).size=L.length:=by rw[<-hL,<-aZ];rfl
 rw[fT,aPT hg,aPS h,aPT (by rw[hs];exact h2)]
theorem CT(hg:lH o=true)(h:¬ (0<o.tags.length/\(iB o.tags).2≠0))(hL:tD o=L)(h2:¬ 20000<L.length):fT o=(⟨L.toArray⟩,0):=by
 have hs:(uH o).size=L.length:=by rw[<-hL,<-aZ];rfl
 rw[fT,aPT hg,aPS h,aPS (by rw[hs];exact h2),uH,hL]
theorem tQ(h0:0<l.length)(h:(iB l).2=0):32::(iB l).1.data.toList=oL l/\(iB l).1.size<=20000:=by
 rw[iB]at h |-;by_cases h1:qK l=true
 ·rw[aPT h1]at h |-;by_cases h2:20000<(JE l).size
  ·rw[aPT h2]at h;cases h
  rw[aPS h2];refine⟨?_,by show (JE l).size<=_;omega⟩;cases l with
  |nil=>exact absurd h0 (Nat.lt_irrefl 0)
  |cons t l =>
   show 32::(JE (t::l)).data.toList=_;rw[O9];simp[oL]
 rw[aPS h1]at h;cases h
theorem C1:∀l:List ByteArray,(l.flatMap fun k=>32::k.data.toList).length=l.length+cY l
 | []=>rfl
 |k::l=>by
  have ih:=C1 l;rw[List.flatMap_cons,aPV,aPW,aPW,ih,aZ,cY,cY,List.map_cons,List.sum_cons];omega
theorem eZ(l:List ByteArray):(bU [32] (bs l)).length<=l.length+cY l:=by
 cases l with
 |nil=>exact aPb _
 |cons k l =>
  rw[zY,aPV,C1,aZ,aPW,cY,cY,List.map_cons,List.sum_cons];omega
theorem P2(o:GObj)(H:aH)(ho:okO o):aI Tryz.prog 196 [av (bS o)] H (fun r H'=>r=.tup [sv (fT o).1,iv (fT o).2]/\H'=H):=by
 refine Pu ?_;refine Bd func196 rfl ntmps196<|Sr<|Dd (by exact cD (id:=1) rfl rfl rfl rfl rfl)<|Dd aL<|Dd aL<|Zz<|Sq<|Sr<|Dd (pU cW sizeOf151)<|Dd (by exact aA rfl rfl call233 rfl (ME o _ ho))<|Dd iQ<|Zz ?_;refine Cn ?_ ?_<;>intro hc1
 ·have hg:lH o=false:=by rw[<-aPd];exact hc1
  have e:fT o=(sNil,1):=by rw[fT,aPS (by rw[hg];decide)]
  rw[e];exact Sr<|Dd aL<|Dd aL<|Zz<|aB<|Ru<|Qq
 have hg:lH o=true:=by rw[<-Bool.not_eq_false'];exact hc1
 obtain ⟨hr,ht,htg,hid,_⟩:=B0 hg;obtain ⟨hx,hy,hn,hz⟩:=aBD hg;have hw:=(CK (F1 hg)).1;have hws:=dM hw;have his:=dM hid;have hwp:=(zN hw).1;have hw0:(eO o.kind).data.toList≠[]:=fun e=>by have:=congrArg List.length e;rw[aZ,List.length_nil]at this;omega
 refine aC<|Sr<|Dd (by exact bW (id:=2001) rfl aJe rfl rfl)<|Zz<|Sq ?_;refine gR.ent (E':=[(1,.ref 1 0 0 0),(2,sv sNil),(3,iv 0),(4,.ref 2001 0 0 0)]) (H':=[(2002,⟨0,1,5,[]⟩),(2001,EK (.osl 2002 0 0 0) false),(1,bx 6 151 ((bS o).map .pv))]) (dA.nz 2002 1 5 rfl rfl ⟨⟨_,rfl,(by exact Nz.same (by(simp;rfl)))⟩,⟨_,rfl,(by exact Nz.same (by(simp;done)))⟩,⟨_,rfl,(by exact Nz.same (by(simp;done)))⟩,⟨_,rfl,(by exact Nz.same (by(simp;rfl)))⟩,trivial⟩ ⟨⟨_,rfl,rfl,rfl,rfl,(by exact .inr ⟨_,_,rfl,rfl,(by repeat(first|exact trivial|refine⟨(by first|exact Nz.own|exact Nz.same (by(simp;done))),?_⟩))⟩)⟩,⟨_,rfl,rfl,rfl,rfl,(by exact .inl ⟨rfl,(by(simp;done))⟩)⟩,trivial⟩ trivial) ?_;refine gR.ent (E':=[(1,.ref 1 0 0 0),(2,sv sNil),(3,iv 0),(4,.ref 2001 0 0 0)]) (H':=oF 0 [] false++oB o) (dA.get (fun _=>rfl) (fun j=>oN (by decide) j)) ?_;refine Rg<|Dd (aS dZ)<|Dd (bC isAgg3)<|Dd (by exact aA rfl rfl xE rfl (DX o.kind _))<|Dd (by exact aA rfl rfl xD rfl (aOC (oB o) (eO o.kind) (by omega)))<|Zz<|Sr<|Dd (aS nU)<|Dd (bC isAgg9)<|Dd (by exact aA rfl rfl xD rfl (aBr (oB o) 1 (eO o.kind).data.toList o.id hw0 (by rw[aZ];omega)))<|Zz<|Sq<|Sq ?_;obtain ⟨L1,hL1⟩:∃L,L=(eO o.kind).data.toList++32::o.id.data.toList:=⟨_,rfl⟩;have hn1:L1≠[]:=by rw[hL1];simp
 have hl1:L1.length<=49:=by rw[hL1,aPV,aPW,aZ,aZ];omega
 rw[<-hL1];by_cases hk:o.kind=1
 ·have six:(aV o.x).size<=7:=by rw[<-aZ];show (Lib.itoa o.x).length<=7;rw[iL _ hx.1];exact dX (by omega) (by decide)
  have siy:(aV o.y).size<=7:=by rw[<-aZ];show (Lib.itoa o.y).length<=7;rw[iL _ hy.1];exact dX (by omega) (by decide)
  obtain ⟨L2,hL2⟩:∃L,L=L1++32::(aV o.x).data.toList:=⟨_,rfl⟩;have hn2:L2≠[]:=by rw[hL2];simp
  have hl2:L2.length<=57:=by rw[hL2,aPV,aPW,aZ];omega
  have p2:=aBr (oB o) (1+2) L1 (aV o.x) hn1 (by omega);rw[<-hL2]at p2;obtain ⟨L3,hL3⟩:∃L,L=L2++32::(aV o.y).data.toList:=⟨_,rfl⟩;have hn3:L3≠[]:=by rw[hL3];simp
  have hl3:L3.length<=200000:=by rw[hL3,aPV,aPW,aZ];omega
  have p3:=aBr (oB o) (1+2+2) L2 (aV o.y) hn2 (by omega);rw[<-hL3]at p3;have hH:mR o=L3:=by
   rw[mR,aPT hk,hL3,hL2,hL1];show _=(_++32::Lib.itoa o.x)++32::Lib.itoa o.y;simp
  refine Rg<|Dd (aS dZ)<|Dd (bC isAgg3)<|Dd cK<|Zz ?_;refine Cn ?_ ?_<;>intro hc2
  ·refine Sr<|Dd (aS lV)<|Dd (aS pC)<|Dd (bC isAgg3)<|Dd (by exact aA rfl rfl pH rfl (tI o.x (by omega) (by omega) _))<|Dd (by exact aA rfl rfl xD rfl (p2))<|Zz<|Rg<|Dd (aS lV)<|Dd (aS pB)<|Dd (bC isAgg3)<|Dd (by exact aA rfl rfl pH rfl (tI o.y (by omega) (by omega) _))<|Dd (by exact aA rfl rfl xD rfl (p3))<|Zz<|Sq<|Sr<|Dd (aS eX)<|Dd (bC cQ)<|Dd (fE cV)<|Dd iE<|Zz ?_;refine Cn ?_ ?_<;>intro hc3
   ·have htp:0<o.tags.length:=by have:=aPQ hc3;rw[aPU]at this;omega
    refine Sr<|Dd (aS eX)<|Dd (bC cQ)<|Dd (by exact aA rfl rfl call235 rfl (O8 o.tags _ ho.2.1))<|Dd aE<|Dd fS<|Dd fS<|Dd aL<|Dd aL<|Zz<|Sq<|Sr<|Dd aE<|Dd xY<|Zz ?_;refine Cn ?_ ?_<;>intro hc4
    ·have hte:(iB o.tags).2≠0:=by have hq:=hc4;rw[aPd,aP2]at hq;exact hq
     rw[P3 hg ⟨htp,hte⟩];exact Sr<|Dd aE<|Dd aL<|Dd aL<|Zz<|aB<|Ru<|Qq
    have hte:(iB o.tags).2=0:=by have hq:=hc4;rw[Bool.not_eq_false',aP1]at hq;exact hq
    have hlen2:(L3++32::(iB o.tags).1.data.toList).length<=300000:=by have:=hl3;have:=(tQ htp hte).2;rw[aPV,aPW,aZ];omega
    have hLL:tD o=L3++32::(iB o.tags).1.data.toList:=by rw[(tQ htp hte).1,tD,hH]
    refine aC<|Rg<|Dd aE<|Dd (by exact aA rfl rfl xD rfl (aBr (oB o) (1+2+2+2) L3 (iB o.tags).1 hn3 (by have:=hl3;have:=(tQ htp hte).2;omega)))<|Zz<|Sq<|Sr<|Dd (aS nR)<|Dd (by exact aA rfl rfl xG rfl (KE (oB o) ((1+2+2+2)+2) (L3++32::(iB o.tags).1.data.toList) true))<|Dd iE<|Zz ?_;refine Cn ?_ ?_<;>intro hc5
    ·have hlong:=aPQ hc5;rw[CS hg (fun h=>h.2 hte) hLL (by omega)];exact Sr<|Dd aL<|Dd aL<|Zz<|aB<|Ru<|Qq
    have hlong:=aPR hc5;rw[CT hg (fun h=>h.2 hte) hLL (by omega)];exact aC<|Sr<|Dd (aS nR)<|Dd (by exact aA rfl rfl nA rfl (J1 (oB o) ((1+2+2+2)+2) (L3++32::(iB o.tags).1.data.toList) true (by have:=hlen2;omega)))<|Dd aL<|Dd aL<|Zz<|aB<|Ru<|Qq
   have htp:¬ 0<o.tags.length:=by have:=aPR hc3;rw[aPU]at this;omega
   have hLL:tD o=L3:=by rw[tD,hH,List.length_eq_zero_iff.1 (by omega:o.tags.length=0)];exact List.append_nil _
   refine aC<|Sq<|Sr<|Dd (aS nR)<|Dd (by exact aA rfl rfl xG rfl (KE (oB o) (1+2+2+2) L3 true))<|Dd iE<|Zz ?_;refine Cn ?_ ?_<;>intro hc6
   ·have hlong:=aPQ hc6;rw[CS hg (fun h=>htp h.1) hLL (by omega)];exact Sr<|Dd aL<|Dd aL<|Zz<|aB<|Ru<|Qq
   have hlong:=aPR hc6;rw[CT hg (fun h=>htp h.1) hLL (by omega)];exact aC<|Sr<|Dd (aS nR)<|Dd (by exact aA rfl rfl nA rfl (J1 (oB o) (1+2+2+2) L3 true (by have:=hl3;omega)))<|Dd aL<|Dd aL<|Zz<|aB<|Ru<|Qq
  exact absurd hk (aPR hc2)
 have hsz:cY o.refs<=24*o.refs.length:=nE (fun s hs=>dM (uB hg s hs));have hjl:=eZ o.refs;obtain ⟨J,hJ⟩:∃J:ByteArray,J=⟨(bU [32] (bs o.refs)).toArray⟩:=⟨_,rfl⟩;have hj:∀H,aI Tryz.prog 158 [.pv (bA o.refs),sv ⟨#[32]⟩] H (fun x H'=>x=sv J/\H'=H):=fun H=>by
  rw[hJ];exact tG o.refs ⟨#[32]⟩ H (by decide) (by show 1*_+_+_<_;omega)
 have hJl:J.data.toList=bU [32] (bs o.refs):=by rw[hJ]
 obtain ⟨L3,hL3⟩:∃L,L=L1++32::((⟨#[40]⟩:ByteArray)++J++⟨#[41]⟩).data.toList:=⟨_,rfl⟩;have hQ:((⟨#[40]⟩:ByteArray)++J++⟨#[41]⟩).data.toList=40::(bU [32] (bs o.refs)++[41]):=by rw[<-hJl];simp
 have hQs:((⟨#[40]⟩:ByteArray)++J++⟨#[41]⟩).size<=60000:=by rw[<-aZ,hQ,aPW,aPV,List.length_singleton];omega
 have hJs:J.size<=52000:=by rw[<-aZ,hJl];omega
 have h40:(⟨#[40]⟩:ByteArray).size=1:=rfl;have h41:(⟨#[41]⟩:ByteArray).size=1:=rfl;have hAs:((⟨#[40]⟩:ByteArray)++J).size=1+J.size:=by rw[ByteArray.size_append,h40]
 have hn3:L3≠[]:=by rw[hL3];simp
 have hl3:L3.length<=200000:=by rw[hL3,aPV,aPW,aZ];omega
 have p3:=aBr (oB o) (1+2) L1 ((⟨#[40]⟩:ByteArray)++J++⟨#[41]⟩) hn1 (by omega);rw[<-hL3]at p3;have hH:mR o=L3:=by
  rw[mR,aPS hk,hL3,hL1,hQ];simp
 refine Rg<|Dd (aS dZ)<|Dd (bC isAgg3)<|Dd cK<|Zz ?_;refine Cn ?_ ?_<;>intro hc7
 ·exact absurd (aPQ hc7) hk
 refine Rg<|Dd (aS dT)<|Dd (bC aF)<|Dd (by exact aA rfl rfl pG rfl (hj _))<|Dd (by exact cH rfl rfl rfl (by omega) rfl)<|Dd (by exact cH rfl rfl rfl (by omega) rfl)<|Dd (by exact aA rfl rfl xD rfl (p3))<|Zz<|Sq<|Sr<|Dd (aS eX)<|Dd (bC cQ)<|Dd (fE cV)<|Dd iE<|Zz ?_;refine Cn ?_ ?_<;>intro hc8
 ·have htp:0<o.tags.length:=by have:=aPQ hc8;rw[aPU]at this;omega
  refine Sr<|Dd (aS eX)<|Dd (bC cQ)<|Dd (by exact aA rfl rfl call235 rfl (O8 o.tags _ ho.2.1))<|Dd aE<|Dd fS<|Dd fS<|Dd aL<|Dd aL<|Zz<|Sq<|Sr<|Dd aE<|Dd xY<|Zz ?_;refine Cn ?_ ?_<;>intro hc9
  ·have hte:(iB o.tags).2≠0:=by have hq:=hc9;rw[aPd,aP2]at hq;exact hq
   rw[P3 hg ⟨htp,hte⟩];exact Sr<|Dd aE<|Dd aL<|Dd aL<|Zz<|aB<|Ru<|Qq
  have hte:(iB o.tags).2=0:=by have hq:=hc9;rw[Bool.not_eq_false',aP1]at hq;exact hq
  have hlen2:(L3++32::(iB o.tags).1.data.toList).length<=300000:=by have:=hl3;have:=(tQ htp hte).2;rw[aPV,aPW,aZ];omega
  have hLL:tD o=L3++32::(iB o.tags).1.data.toList:=by rw[(tQ htp hte).1,tD,hH]
  refine aC<|Rg<|Dd aE<|Dd (by exact aA rfl rfl xD rfl (aBr (oB o) (1+2+2) L3 (iB o.tags).1 hn3 (by have:=hl3;have:=(tQ htp hte).2;omega)))<|Zz<|Sq<|Sr<|Dd (aS nR)<|Dd (by exact aA rfl rfl xG rfl (KE (oB o) ((1+2+2)+2) (L3++32::(iB o.tags).1.data.toList) true))<|Dd iE<|Zz ?_;refine Cn ?_ ?_<;>intro hc10
  ·have hlong:=aPQ hc10;rw[CS hg (fun h=>h.2 hte) hLL (by omega)];exact Sr<|Dd aL<|Dd aL<|Zz<|aB<|Ru<|Qq
  have hlong:=aPR hc10;rw[CT hg (fun h=>h.2 hte) hLL (by omega)];exact aC<|Sr<|Dd (aS nR)<|Dd (by exact aA rfl rfl nA rfl (J1 (oB o) ((1+2+2)+2) (L3++32::(iB o.tags).1.data.toList) true (by have:=hlen2;omega)))<|Dd aL<|Dd aL<|Zz<|aB<|Ru<|Qq
 have htp:¬ 0<o.tags.length:=by have:=aPR hc8;rw[aPU]at this;omega
 have hLL:tD o=L3:=by rw[tD,hH,List.length_eq_zero_iff.1 (by omega:o.tags.length=0)];exact List.append_nil _
 refine aC<|Sq<|Sr<|Dd (aS nR)<|Dd (by exact aA rfl rfl xG rfl (KE (oB o) (1+2+2) L3 true))<|Dd iE<|Zz ?_;refine Cn ?_ ?_<;>intro hc11
 ·have hlong:=aPQ hc11;rw[CS hg (fun h=>htp h.1) hLL (by omega)];exact Sr<|Dd aL<|Dd aL<|Zz<|aB<|Ru<|Qq
 have hlong:=aPR hc11;rw[CT hg (fun h=>htp h.1) hLL (by omega)];exact aC<|Sr<|Dd (aS nR)<|Dd (by exact aA rfl rfl nA rfl (J1 (oB o) (1+2+2) L3 true (by have:=hl3;omega)))<|Dd aL<|Dd aL<|Zz<|aB<|Ru<|Qq
theorem rC:∀ {l:List (List UInt8)} {w:List UInt8},(32:UInt8)∉w->(∀x∈l,(32:UInt8)∉x)->fF 32 (bU [32] (w::l))=w::l
 | [],w,h,_=>by rw[bU,List.flatMap_nil,List.append_nil];exact rY h
 |a::l,w,h,hl=>by
  have e:bU [32] (w::a::l)=w++32::bU [32] (a::l):=by rw[bU,List.flatMap_cons,bU];simp
  rw[e,nD h,rC (hl a List.mem_cons_self) fun x hx=>hl x (List.mem_cons_of_mem _ hx)]
theorem MR:∀l:List UInt8,bU [32] (fF 32 l)=l
 | []=>rfl
 | b::l=>by
  have ih:=MR l;have hp:=zA 32 l;rw[fF];cases e:fF 32 l with
  |nil=>rw[e]at hp;exact absurd hp (Nat.lt_irrefl 0)
  |cons x r =>
   rw[e,bU]at ih;by_cases h:b=32
   ·rw[aPT h,bU,List.flatMap_cons,List.nil_append,List.append_assoc,ih,h];rfl
   rw[aPS h,bU,List.headD_cons,List.tail_cons,List.cons_append,ih]
theorem P4(h:0<=x)(h2:x<1000000000000000000):ON (Lib.itoa x)=x:=by rw[ON,AK h h2]
theorem aLR(l:List ByteArray):(bs l).map ofL=l:=by rw[bs,List.map_map];exact(List.map_congr_left fun s _=>oZ s).trans (List.map_id _)
theorem WG:∀l:List UInt8,(l.flatMap nN).length<=2*l.length
 | []=>aP0 _
 | b::l=>by
  have ih:=WG l;have h:(nN b).length<=2:=by
   rw[nN]
   split
   ·exact aP0 _
   split
   ·exact aP0 _
   exact Nat.le_succ _
  rw[List.flatMap_cons,aPV,aPW];omega
theorem aCK{v:ByteArray}(hv:v.size<=200):(iZ (ofL (eD v.data.toList))).1=[⟨3,v,0,0⟩]:=by
 have h0:(ofL (eD v.data.toList)).data.toList.drop 0=eD v.data.toList++[]:=by rw[dC,List.append_nil];rfl
 have hl:(eD v.data.toList).length<=402:=by
  have:=WG v.data.toList;rw[aZ]at this;rw[eD,aPW,aPV,List.length_singleton];omega
 have hq:0<(eD v.data.toList).length:=by rw[eD,aPW];omega
 have hT:=GK (UI h0) rfl (uL h0 hq) hq (all_nil (jI h0));rw[iZ,aPS (by rw[dG];omega),hT _ (by rw[dG,List.append_nil];exact Nat.le_succ _),HT _ [] (by intro f hf;rw[aPX]at hf;subst hf;rfl) (by simp)];rfl
theorem zZ{r:List (List UInt8)}:(w::r).headD []=w:=rfl
theorem PK{e:GEdit}(hv:dU e=true)(he:fP e=0):jE (fC e)=e/\(10:UInt8)∉fC e:=by
 obtain ⟨⟨o1,o7⟩,hok,hx⟩:=uT.1 hv;rw[fP]at he;by_cases p1:e.op=1
 ·rw[aPT p1]at he;obtain ⟨hg,ht,_⟩:=aAa he;have hp:=YI he;rw[DI,aPT p1,p1]at hx;rw[fC,aPT p1];constructor
  ·rw[jE,nD (by decide),zZ,BM,aPT rfl];show (⟨1,sNil,sNil,sNil,0,0,sNil,sNil,[],(rR (ofL (fT e.obj).1.data.toList)).1⟩:GEdit)=e;rw[oZ,hp];exact hx
  rw[ht];intro h;rcases List.mem_append.1 h with h|h
  ·revert h;decide
  rcases aP6.1 h with h|h
  ·revert h;decide
  exact aKd hg h
 rw[qW,aPS p1,aP3]at hok;obtain ⟨hid,hok⟩:=hok;have i1:=rP hid;rw[fC,aPS p1];by_cases p2:e.op=2
 ·rw[aPT p2]at hok;have hxy:(0<=e.x/\e.x<1048576)/\0<=e.y/\e.y<1048576:=by
   rw[onP]at hok;simp only[aP3,aP1]at hok;omega
  rw[DI,aPS p1,aPT p2,p2]at hx;rw[gF,aPT p2];have n1:=KG hxy.1.1;have n2:=KG hxy.2.1;refine⟨?_,uO (by decide) ?_⟩
  ·rw[jE,rC (by decide) (by intro w hw;simp only[aP6,aPa,or_false]at hw;rcases hw with rfl|rfl|rfl;all_goals first|exact i1.1|exact n1.1|exact n2.1),zZ,BM,aPS (by decide),aPT ⟨rfl,rfl⟩];show (⟨2,ofL e.id.data.toList,sNil,sNil,ON (Lib.itoa e.x),ON (Lib.itoa e.y),sNil,sNil,[],zObj⟩:GEdit)=e;rw[oZ,P4 hxy.1.1 (by omega),P4 hxy.2.1 (by omega)];exact hx
  intro w hw;simp only[aP6,aPa,or_false]at hw;rcases hw with rfl|rfl|rfl|rfl;all_goals first|exact(by decide)|exact i1.2|exact n1.2|exact n2.2
 by_cases p3:e.op=3
 ·rw[aPS p2,aPT p3,aP3,aP1]at hok;have k1:=rP hok.1;rw[DI,aPS p1,aPS p2,aPT p3,p3]at hx;rw[gF,aPS p2,aPT p3];refine⟨?_,uO (by decide) ?_⟩
  ·have hj:bU [32] [aBR,e.id.data.toList,e.key.data.toList,eD e.val.data.toList]=aBR++32::(e.id.data.toList++32::(e.key.data.toList++32::eD e.val.data.toList)):=by simp[bU]
   have hs:=zA 32 (eD e.val.data.toList);rw[hj,jE,nD (by decide),nD i1.1,nD k1.1,zZ,BM,aPS (by decide),aPS (fun h=>absurd h.1 (by decide)),aPT ⟨rfl,by simp only[aPW];omega⟩];show (match (iZ (ofL (bU [32] (fF 32 (eD e.val.data.toList))))).1 with
    | [f]=>(⟨3,ofL e.id.data.toList,sNil,sNil,0,0,ofL e.key.data.toList,f.text,[],zObj⟩:GEdit)
    |_=>WO)=e
   rw[MR,aCK (by omega),oZ,oZ];exact hx
  intro w hw;simp only[aP6,aPa,or_false]at hw;rcases hw with rfl|rfl|rfl|rfl;all_goals first|exact(by decide)|exact i1.2|exact k1.2|exact UY _
 by_cases p4:e.op=4
 ·rw[aPS p2,aPS p3,aPT p4,aP3,aP3,List.all_eq_true]at hok;have hr:=hok.2;rw[DI,aPS p1,aPS p2,aPS p3,aPT p4,p4]at hx;rw[gF,aPS p2,aPS p3,aPT p4];have hb:∀(b:UInt8),(b=32\/b=10)->∀w∈bs e.refs,b∉w:=by
   intro b hb w hw;obtain ⟨s,hs,rfl⟩:=List.mem_map.1 hw;have:=rP (hr s hs);rcases hb with rfl|rfl;all_goals first|exact this.1|exact this.2
  refine⟨?_,uO (by decide) ?_⟩
  ·rw[jE,rC (by decide) (by intro w hw;rcases aP6.1 hw with rfl|hw;all_goals first|exact i1.1|exact hb 32 (.inl rfl) w hw),zZ,BM,aPS (by decide),aPS (fun h=>absurd h.1 (by decide)),aPS (fun h=>absurd h.1 (by decide)),aPT ⟨rfl,by simp only[aPW];omega⟩];show (⟨4,ofL e.id.data.toList,sNil,sNil,0,0,sNil,sNil,(bs e.refs).map ofL,zObj⟩:GEdit)=e;rw[oZ,aLR];exact hx
  intro w hw;rcases aP6.1 hw with rfl|hw
  ·decide
  rcases aP6.1 hw with rfl|hw;all_goals first|exact i1.2|exact hb 10 (.inr rfl) w hw
 by_cases p5:e.op=5
 ·rw[DI,aPS p1,aPS p2,aPS p3,aPS p4,aPT p5,p5]at hx;rw[gF,aPS p2,aPS p3,aPS p4,aPT p5];refine⟨?_,uO (by decide) ?_⟩
  ·rw[jE,rC (by decide) (by intro w hw;rw[aPX]at hw;subst hw;exact i1.1),zZ,BM,aPS (by decide),aPS (fun h=>absurd h.1 (by decide)),aPS (fun h=>absurd h.1 (by decide)),aPS (fun h=>absurd h.1 (by decide)),aPT ⟨rfl,rfl⟩];show (⟨5,ofL e.id.data.toList,sNil,sNil,0,0,sNil,sNil,[],zObj⟩:GEdit)=e;rw[oZ];exact hx
  intro w hw;simp only[aP6,aPa,or_false]at hw;rcases hw with rfl|rfl;all_goals first|exact(by decide)|exact i1.2
 by_cases p6:e.op=6
 ·rw[aPS p2,aPS p3,aPS p4,aPS p5,aPT p6,aP3]at hok;have k1:=rP hok.1;have k2:=rP hok.2;rw[DI,aPS p1,aPS p2,aPS p3,aPS p4,aPS p5,aPT p6,p6]at hx;rw[gF,aPS p2,aPS p3,aPS p4,aPS p5,aPT p6];refine⟨?_,uO (by decide) ?_⟩
  ·rw[jE,rC (by decide) (by intro w hw;simp only[aP6,aPa,or_false]at hw;rcases hw with rfl|rfl|rfl;all_goals first|exact i1.1|exact k1.1|exact k2.1),zZ,BM,aPS (by decide),aPS (fun h=>absurd h.1 (by decide)),aPS (fun h=>absurd h.1 (by decide)),aPS (fun h=>absurd h.1 (by decide)),aPS (fun h=>absurd h.1 (by decide)),aPT ⟨rfl,rfl⟩];show (⟨6,ofL e.id.data.toList,ofL e.other.data.toList,ofL e.node.data.toList,0,0,sNil,sNil,[],zObj⟩:GEdit)=e;rw[oZ,oZ,oZ];exact hx
  intro w hw;simp only[aP6,aPa,or_false]at hw;rcases hw with rfl|rfl|rfl|rfl;all_goals first|exact(by decide)|exact i1.2|exact k1.2|exact k2.2
 have p7:e.op=7:=by omega
 rw[aPS p2,aPS p3,aPS p4,aPS p5,aPS p6]at hok;have k2:=rP hok;rw[DI,aPS p1,aPS p2,aPS p3,aPS p4,aPS p5,aPS p6,p7]at hx;rw[gF,aPS p2,aPS p3,aPS p4,aPS p5,aPS p6];refine⟨?_,uO (by decide) ?_⟩
 ·rw[jE,rC (by decide) (by intro w hw;simp only[aP6,aPa,or_false]at hw;rcases hw with rfl|rfl;all_goals first|exact i1.1|exact k2.1),zZ,BM,aPS (by decide),aPS (fun h=>absurd h.1 (by decide)),aPS (fun h=>absurd h.1 (by decide)),aPS (fun h=>absurd h.1 (by decide)),aPS (fun h=>absurd h.1 (by decide)),aPS (fun h=>absurd h.1 (by decide)),aPT ⟨rfl,rfl⟩];show (⟨7,ofL e.id.data.toList,ofL e.other.data.toList,sNil,0,0,sNil,sNil,[],zObj⟩:GEdit)=e;rw[oZ,oZ];exact hx
 intro w hw;simp only[aP6,aPa,or_false]at hw;rcases hw with rfl|rfl|rfl;all_goals first|exact(by decide)|exact i1.2|exact k2.2
end Go.Proofs.YtmdicgjnmfolfaaGreatDoor
namespace Go.Abs
section
section
variable{P:Program}{H:aH}
theorem aCV(s)(c):aIy P Extern.BytealgCount.count H [.pv (.str s),.pv (.int .u8 c)] (.pv (.int .i64 ((Lib.countByte s.data.toList c.toNat.toUInt8)))):=by intro w I ι cs b h;obtain ⟨u,v,rfl,d,e⟩:=UC b h;rw[d.str_inv,e.int_inv];exact⟨_,Lib.run_countString s c w,.pv (.int _ _)⟩
end
end
end Go.Abs
namespace Go.Proofs.YtmdicgjnmfolfaaGreatDoor
open Go.Proofs.Tryz
open Go.Abs
abbrev sSp:ByteArray:=⟨#[32]⟩
theorem PF(s:ByteArray)(H:aH):aI Tryz.prog 188 [sv s,sv sSp] H (fun r H'=>r=iv (Lib.indexByte s.data.toList 32)/\H'=H):=by
 refine Pu ?_;refine Bd func188 rfl ntmps188<|Sr<|Dd aL<|Zz<|Sr<|Dd aE<|Dd (jV underlying9)<|Dd aL<|Zz<|Sq<|aG<|Sq ?_;refine aT (t:=16) (n:=9) (X:=decide (sSp=s)) ?_ ?_
 ·all_goals refine Dd aE ?_
  all_goals refine Dd cK<|Dm ?_
  all_goals refine Sp 19 (fun h19=>?_) fun h19=>?_
  all_goals try contradiction
  all_goals refine On aE<|On aE<|On zE<|Dd cG<|Da ?_
  all_goals(exact⟨⟨_,rfl,by rfl⟩,rfl,rfl,rfl⟩)
 refine Cn ?_ ?_<;>intro hc1
 ·have hs:=aPQ hc1;subst hs;exact Sr<|Dd aL<|Zz<|aB<|Rt<|Qq
 refine Sr<|Dd aE<|Dd cK<|Da ?_;refine Cn ?_ ?_<;>intro hc2
 ·exact Sr<|Dd aE<|Dd aE<|Dd (by exact dO rfl underlying9 rfl rfl (by omega) (by exact aP5 _) (show 0<(⟨#[32]⟩:ByteArray).size from Nat.zero_lt_one) rfl)<|Dd (by exact aA rfl rfl aOb rfl (wP s 32 _))<|Dd aL<|Zz<|aB<|Rt<|Qq
 cases hc2
theorem aIN(s:ByteArray)(H:aH):aI Tryz.prog 229 [sv s,sv sSp] H (fun r H'=>r=iv (Lib.indexByte s.data.toList 32)/\H'=H):=by refine Pu ?_;exact Bd func229 rfl ntmps229<|Sr<|Dd aL<|Zz<|Sr<|Dd aE<|Dd aE<|Dd (by exact aA rfl rfl NT rfl (PF s _))<|Dd aL<|Zz<|aB<|Rt<|Qq
def WS(s:ByteArray):AV:=if Lib.indexByte s.data.toList 32 = -1 then .tup [sv s,sv ⟨#[]⟩,bv false]else .tup [sv (s.extract 0 (Lib.indexByte s.data.toList 32).toNat),sv (s.extract ((Lib.indexByte s.data.toList 32).toNat+1) s.size),bv true]
theorem aGr(s:ByteArray)(H:aH)(hs:s.size<1099511627776):aI Tryz.prog 150 [sv s,sv sSp] H (fun r H'=>r=WS s/\H'=H):=by
 refine Pu ?_;have hI:=fun H=>PF s H;rw[WS];rcases Classical.em (Lib.indexByte s.data.toList 32 = -1)with h1|h1
 ·rw[aPT h1];simp only[h1]at hI;refine Bd aCp rfl XG<|Sr<|Dd aL<|Dd aL<|Dd aL<|Zz<|Sq<|Sr<|Dd aE<|Dd aE<|Dd (by exact aA rfl rfl NT rfl (hI _))<|Dd aL<|Zz<|Sr<|Dd aE<|Dd DD<|Zz ?_;refine Cn ?_ ?_<;>intro hc1
  ·cases hc1
  refine aC<|Sr<|Dd aE<|Dd aL<|Dd aL<|Dd aL<|Zz<|aB ?_;refine A1 (H':=[]) (.inr rfl) rfl (bD rfl) (bD rfl) (bD rfl) (Fin.wk (by simp) trivial trivial) ?_;exact Qq
 rw[aPS h1];obtain ⟨w,r,e1,e2,e3⟩:=uR h1;simp only[e3]at hI;rw[e3,aP5];have hl:w.length+1+r.length=s.size:=by rw[<-show s.data.toList.length=s.size by simp,e1,aPV,aPW];omega
 refine Bd aCp rfl XG<|Sr<|Dd aL<|Dd aL<|Dd aL<|Zz<|Sq<|Sr<|Dd aE<|Dd aE<|Dd (by exact aA rfl rfl NT rfl (hI _))<|Dd aL<|Zz<|Sr<|Dd aE<|Dd DD<|Zz ?_;refine Cn ?_ ?_<;>intro hc1
 ·refine Sq<|aN follows<|Cq aE<|Cq aE<|Cq (by exact cO (l:=0) (h:=(w.length)) rfl underlying9 rfl rfl rfl (by omega) (by omega) rfl)<|Cq aE<|Cq aE<|Cq aE<|Cq (jV underlying9)<|Cq (by exact bZ rfl rfl rfl (show IntKind.i64.wrap ((w.length:Int)+1)=((w.length+1:Nat):Int)by rw[IntKind.wrap_i64];omega))<|Cq (by exact cO (l:=(w.length+1)) (h:=s.size) rfl underlying9 rfl rfl rfl (by omega) (by omega) rfl)<|Cq aL<|Cq aL<|Cq aL<|bL<|Kr<|aB ?_;refine A1 (H':=[]) (.inr rfl) rfl (bD rfl) (bD rfl) (bD rfl) (Fin.wk (by simp) trivial trivial) ?_;exact Qq
 have hx:=aPR hc1;omega
theorem aNL(s:ByteArray)(H:aH)(hs:s.size<1099511627776):aI Tryz.prog 113 [sv s,sv sSp] H (fun r H'=>r=WS s/\H'=H):=by
 refine Pu ?_;have hC:=fun H=>aGr s H hs;rw[WS]at *;rcases Classical.em (Lib.indexByte s.data.toList 32 = -1)with h1|h1
 ·simp only[WS,aPT h1]at hC |-;refine Bd aCr rfl XI<|Sr<|Dd aL<|Dd aL<|Dd aL<|Zz<|Sr<|Dd aE<|Dd aE<|Dd (by exact aA rfl rfl aCu rfl (hC _))<|Dd fS<|Dd fS<|Dd fS<|Dd aL<|Dd aL<|Dd aL<|Zz<|aB ?_;refine A1 (H':=[]) (.inr rfl) rfl (bD rfl) (bD rfl) (bD rfl) (Fin.wk (by simp) trivial trivial) ?_;exact Qq
 simp only[WS,aPS h1]at hC |-;refine Bd aCr rfl XI<|Sr<|Dd aL<|Dd aL<|Dd aL<|Zz<|Sr<|Dd aE<|Dd aE<|Dd (by exact aA rfl rfl aCu rfl (hC _))<|Dd fS<|Dd fS<|Dd fS<|Dd aL<|Dd aL<|Dd aL<|Zz<|aB ?_;refine A1 (H':=[]) (.inr rfl) rfl (bD rfl) (bD rfl) (bD rfl) (Fin.wk (by simp) trivial trivial) ?_;exact Qq
abbrev sNl:ByteArray:=⟨#[10]⟩
def AE(s:ByteArray):Bool:=decide ((1:Int)<=(s.size:Int))&&decide (s.extract (s.size - 1) s.size=sNl)
def BH(s:ByteArray):ByteArray:=if AE s then s.extract 0 (s.size - 1)else s
theorem VW(s:ByteArray)(H:aH)(hs:s.size<1099511627776):aI Tryz.prog 199 [sv s,sv sNl] H (fun r H'=>r=bv (AE s)/\H'=H):=by
 refine Pu ?_;refine Bd func199 rfl ntmps199<|Sr<|Dd aL<|Zz<|Sq ?_;refine aT (t:=4) (n:=18) (X:=AE s) ?_ ?_
 ·all_goals refine Dd aE ?_
  all_goals refine Dd (jV underlying9)<|Dd aE<|Dd (jV underlying9)<|Dd DD<|Dm ?_
  all_goals refine Sp 10 (fun h10=>?_) fun h10=>?_
  all_goals try contradiction
  all_goals first|refine Fo<|Fo<|Fo<|Fo<|Fo<|Fo<|Fo<|Fo<|Fo ?_|refine On aE<|On aE<|On (jV underlying9)<|On aE<|On (jV underlying9)<|On (by exact dW rfl rfl rfl (show IntKind.i64.wrap ((s.size:Int) - 1)=((s.size - 1:Nat):Int)by have h11:(1:Int)<=(s.size:Int):=aPQ h10;rw[IntKind.wrap_i64];omega))<|On (by exact cO (l:=(s.size - 1)) (h:=s.size) rfl underlying9 rfl rfl rfl (by omega) (by omega) rfl)<|On aE<|On zE ?_
  all_goals refine Dd cG<|Da ?_
  all_goals(exact⟨⟨_,rfl,by(simp only[AE];rw[show decide ((1:Int)<=(s.size:Int))=_ from h10];rfl)⟩,rfl,rfl,rfl⟩)
 exact aB<|Rt<|Qq
theorem aD5(s:ByteArray)(H:aH)(hs:s.size<1099511627776):aI Tryz.prog 159 [sv s,sv sNl] H (fun r H'=>r=sv (BH s)/\H'=H):=by
 refine Pu ?_;refine Bd func159 rfl ntmps159<|Sr<|Dd aL<|Zz<|Sq<|Sr<|Dd aE<|Dd aE<|Dd (by exact aA rfl rfl call199 rfl (VW s _ hs))<|Zz ?_;refine Cn ?_ ?_<;>intro hc1
 ·have h1:1<=s.size:=by
   have h:=hc1;rw[AE,aP3,aP1]at h;omega
  rw[BH,aPT hc1];exact Sr<|Dd aE<|Dd aE<|Dd (jV underlying9)<|Dd aE<|Dd (jV underlying9)<|Dd (by exact dW rfl rfl rfl (show IntKind.i64.wrap ((s.size:Int) - 1)=((s.size - 1:Nat):Int)by rw[IntKind.wrap_i64];omega))<|Dd (by exact cO (l:=0) (h:=(s.size - 1)) rfl underlying9 rfl rfl rfl (by omega) (by omega) rfl)<|Dd aL<|Zz<|aB<|Rt<|Qq
 rw[BH,aPS (by rw[hc1];decide)];exact aC<|Sr<|Dd aE<|Dd aL<|Zz<|aB<|Rt<|Qq
theorem XQ(s:ByteArray)(H:aH)(hs:s.size<1099511627776):aI Tryz.prog 117 [sv s,sv sNl] H (fun r H'=>r=sv (BH s)/\H'=H):=by refine Pu ?_;exact Bd func117 rfl ntmps117<|Sr<|Dd aL<|Zz<|Sr<|Dd aE<|Dd aE<|Dd (by exact aA rfl rfl call159 rfl (aD5 s _ hs))<|Dd aL<|Zz<|aB<|Rt<|Qq
theorem aIa(s:ByteArray)(H:aH):aI Tryz.prog 228 [sv s,sv sSp] H (fun r H'=>r=iv ((s.data.toList.count 32:Nat):Int)/\H'=H):=by
 refine Pu ?_;refine Bd func228 rfl ntmps228<|Sr<|Dd aL<|Zz<|Sq<|Sr<|Dd aE<|Dd (jV underlying9)<|Dd cK<|Zz ?_;refine Cn ?_ ?_<;>intro hc1
 ·cases hc1
 refine aC<|Sq<|Sr<|Dd aE<|Dd (jV underlying9)<|Dd cK<|Zz ?_;refine Cn ?_ ?_<;>intro hc2
 ·exact Sr<|Dd aE<|Dd aE<|Dd (by exact dO rfl underlying9 rfl rfl (by omega) (by exact aP5 _) (show 0<(⟨#[32]⟩:ByteArray).size from Nat.zero_lt_one) rfl)<|Dd (by exact KB rfl rfl func260 rfl rfl rfl rfl rfl (aCV s 32))<|Dd aL<|Zz<|aB<|Rt<|Qq
 cases hc2
end Go.Proofs.YtmdicgjnmfolfaaGreatDoor
