/-
  Parts of the proof: rules of an abstract program logic, contracts of functions, plain laws. Conditions: each theorem's own.
-/
import Derived.Test.YtmdicgjnmfolfaaGreatDoorKR6M6
import Derived.Lib.Bytealg
import Derived.Lib.Strings
import Derived.Lib.AtoiTie
import Derived.Lib.ItoaMem
import Derived.Lib.ItoaLen
set_option linter.unusedVariables false
set_option linter.unusedSimpArgs false
set_option maxRecDepth 100000
set_option maxHeartbeats 8000000
namespace Go.Proofs
open Tryz
theorem aDb:type_of% call150:=call150
theorem OL:type_of% call188:=call188
theorem yD:type_of% call234:=call234
theorem aD8:type_of% func113:=func113
theorem aD6:type_of% func150:=func150
theorem lS:type_of% isAgg182:=isAgg182
theorem YL:type_of% isAgg187:=isAgg187
theorem JA:type_of% isAgg247:=isAgg247
theorem lN:type_of% isAgg41:=isAgg41
theorem YJ:type_of% ntmps113:=ntmps113
theorem YH:type_of% ntmps150:=ntmps150
theorem mK:type_of% sizeOf182:=sizeOf182
theorem FC:type_of% sizeOf218:=sizeOf218
end Go.Proofs
namespace Go.Proofs.YtmdicgjnmfolfaaGreatDoor
open Go.Proofs.Tryz
open Go.Abs
variable{r w:List UInt8}{c:UInt8}{i k n j:Nat}{s:ByteArray}
def CJ(c:UInt8):Option UInt8:=if c=92 then some 92 else if c=34 then some 34 else if c=110 then some 10 else none
def qM:List UInt8->Option (List UInt8×Nat)
 | []=>none
 | [c]=>if c=34 then some ([],1)else none
 |c::e::r=>if c=34 then some ([],1)else if c=10 then none else if c=92 then(CJ e).bind fun b=>(qM r).map fun p=>(b::p.1,p.2+2)else(qM (e::r)).map fun p=>(c::p.1,p.2+1)
def A1(s:ByteArray):ByteArray×Int:=match qM (s.data.toList.drop 1)with
 |some (d,n)=>(⟨d.toArray⟩,((n+1:Nat):Int))
 |none=>(sNil,0)
theorem LG:qM (34::r)=some ([],1):=by cases r<;>rfl
theorem aCE:qM (10::r)=none:=by cases r<;>rfl
theorem KH{e:UInt8}:qM (92::e::r)=(CJ e).bind fun b=>(qM r).map fun p=>(b::p.1,p.2+2):=rfl
theorem LH(h1:c≠34)(h2:c≠10)(h3:c≠92):qM (c::r)=(qM r).map fun p=>(c::p.1,p.2+1):=by
 cases r with
 |nil =>
  show (if c=34 then some ([],1)else none)=_;rw[aQC h1];rfl
 |cons e r=>rw[qM,aQC h1,aQC h2,aQC h3]
def JE(o:Option (List UInt8×Nat))(w:List UInt8)(i:Nat):ByteArray×Int:=match o with
 |some (d,n)=>(⟨(w++d).toArray⟩,((i+n:Nat):Int))
 |none=>(sNil,0)
theorem P2{o:Option (List UInt8×Nat)}{b:UInt8}:JE (o.map fun p=>(b::p.1,p.2+k)) w i=JE o (w++[b]) (i+k):=by
 cases o with
 |none=>rfl
 |some p=>simp only[JE,Option.map_some,List.append_assoc,List.singleton_append];congr 2;omega
theorem GR(h:i<s.size):s.data.toList.drop i=xK s i::s.data.toList.drop (i+1):=by
 have hk:i<s.data.toList.length:=by simpa using h
 rw[List.drop_eq_getElem_cons hk,xK,aQJ hk];rfl
theorem XS(h:s.size<=i):s.data.toList.drop i=[]:=List.drop_eq_nil_of_le (by simpa using h)
theorem J8(hn:n<256){b:Bool}(h:decide (cR s i=(n:Int))=b):decide (xK s i=UInt8.ofNat n)=b:=by rw[<-h,wA,LJ hn]
theorem aEA(c:UInt8):(Lib.indexByte (⟨#[92,34,110]⟩:ByteArray).data.toList ((c.toNat:Int).toNat.toUInt8) = -1/\CJ c=none)\/∃k:Nat,k<3/\Lib.indexByte (⟨#[92,34,110]⟩:ByteArray).data.toList ((c.toNat:Int).toNat.toUInt8)=(k:Int)/\CJ c=some (xK ⟨#[92,34,10]⟩ k):=by
 have h0:((c.toNat:Int).toNat.toUInt8)=c:=by simp
 rw[h0];by_cases h1:c=92
 ·subst h1;exact .inr ⟨0,by decide,by decide,by decide⟩
 by_cases h2:c=34
 ·subst h2;exact .inr ⟨1,by decide,by decide,by decide⟩
 by_cases h3:c=110
 ·subst h3;exact .inr ⟨2,by decide,by decide,by decide⟩
 refine .inl ⟨?_,by rw[CJ,aQC h1,aQC h2,aQC h3]⟩;have e1:((92:UInt8) == c)=false:=by simp[Ne.symm h1]
 have e2:((34:UInt8) == c)=false:=by simp[Ne.symm h2]
 have e3:((110:UInt8) == c)=false:=by simp[Ne.symm h3]
 simp only[Lib.indexByte,e1,e2,e3];rfl
theorem YR(s:ByteArray)(H:aH)(hs:s.size<1099511627776):aI Tryz.prog 238 [sv s] H (fun r H'=>r=.tup [sv (A1 s).1,iv (A1 s).2]/\H'=H):=by
 refine Pu ?_;have hG:A1 s=JE (qM (s.data.toList.drop 1)) [] 1:=by
  unfold A1 JE;cases qM (s.data.toList.drop 1)with
  |none=>rfl
  |some p =>
   show ((⟨p.1.toArray⟩:ByteArray),((p.2+1:Nat):Int))=((⟨([]++p.1).toArray⟩:ByteArray),((1+p.2:Nat):Int));rw[List.nil_append,Nat.add_comm]
 obtain ⟨res,hres⟩:∃res,res=A1 s:=⟨_,rfl⟩;rw[<-hres]at hG |-;refine Bd func238 rfl ntmps238<|Sr<|Dd aM<|Dd aM<|Zz<|Sr<|Dd (by exact bU (id:=2001) rfl HH rfl rfl)<|Zz<|Sq<|Sq ?_;refine gM.ent (E':=[(0,sv s),(4,.ref 2001 0 0 0)]) (H':=wI 0 [] false) (cX.bld0 ⟨⟨_,rfl,.same (by simp)⟩,⟨_,rfl,.same (by simp;rfl)⟩,trivial⟩) ?_;refine Rg<|Dd aM<|Zz<|aF ?_;refine IY (fun(i g:Nat) (w:List UInt8) (u:Bool)=>([(0,sv s),(4,.ref 2001 0 0 0),(5,iv (i:Int))],wI g w u)) (fun i g w u=>w.length<=i/\i<2199023255552/\res=JE (qM (s.data.toList.drop i)) w i) (fun i g w u=>s.size+1 - i) 1 0 [] false ⟨aQV _,by decide,hG⟩ ?_ ?_
 ·exact(cX.wk (Eb<|Ea<|Eb<|trivial) (Hc (gF rfl rfl)<|Hc (eO _ _)<|trivial) trivial)
 rintro i g w u ⟨hwl,hib,hinv⟩;refine Sq<|Sr<|Dd aE<|Dd aE<|Dd (kG underlying9)<|Dd cW<|Zz ?_;refine Cn ?_ ?_<;>intro hc1
 ·have hlt:i<s.size:=by have:=aQA hc1;omega
  have hd:=GR hlt;refine aC<|Sq<|aF<|Sr<|Dd aE<|Dd aE<|Dd (by exact dK rfl underlying9 rfl rfl (by omega) (by exact aQP _) (by omega) rfl)<|Dd aM<|Zz<|Sr<|Dd aE<|Zz<|aF<|Sr<|Dd cN<|Da ?_;refine Cn ?_ ?_<;>intro hc2
  ·have hb:xK s i=34:=aQA (J8 (n:=34) (by decide) hc2);have hr:res=(⟨w.toArray⟩,((i+1:Nat):Int)):=by rw[hinv,hd,hb,LG,JE,List.append_nil]
   rw[hr];exact Sr<|Dd (by exact aA rfl rfl nK rfl (QA g w u (by omega)))<|Dd aE<|Dd mV<|Dd aM<|Dd aM<|Zz<|aB<|Ru<|Qq
  have hb34:xK s i≠34:=aQB (J8 (n:=34) (by decide) hc2);refine Sr<|Dd cN<|Da ?_;refine Cn ?_ ?_<;>intro hc3
  ·have hb:xK s i=10:=aQA (J8 (n:=10) (by decide) hc3);have hr:res=(sNil,0):=by rw[hinv,hd,hb,aCE,JE]
   rw[hr];exact Sr<|Dd aM<|Dd aM<|Zz<|aB<|Ru<|Qq
  have hb10:xK s i≠10:=aQB (J8 (n:=10) (by decide) hc3);refine Sr<|Dd cN<|Da ?_;refine Cn ?_ ?_<;>intro hc4
  ·have hb:xK s i=92:=aQA (J8 (n:=92) (by decide) hc4);refine Sr<|Dd aE<|Dd mV<|Dd aM<|Zz<|Sr<|Dd aM<|Zz<|Sq<|Sr<|Dd aE<|Dd aE<|Dd (kG underlying9)<|Dd cW<|Zz ?_;refine Cn ?_ ?_<;>intro hc5
   ·have hlt2:i+1<s.size:=by have:=aQA hc5;omega
    have hd2:=GR hlt2;rcases aEA (xK s (i+1))with⟨x1,x2⟩|⟨q,hq,x1,x2⟩
    ·have hr:res=(sNil,0):=by rw[hinv,hd,hb,hd2,KH,x2];rfl
     have hneg:Lib.indexByte (⟨#[92,34,110]⟩:ByteArray).data.toList (cR s (i+1)).toNat.toUInt8 = -1:=x1;rw[hr];refine Rg<|Dd aE<|Dd aE<|Dd (by exact dK rfl underlying9 rfl rfl (by omega) (by exact aQP _) (by omega) rfl)<|Dd (by exact aA rfl rfl yH rfl (qG _ _ _))<|Dd aM<|Zz<|Sq<|Sr<|Dd aE<|Dd cW<|Zz ?_;refine Cn ?_ ?_<;>intro hc6
     ·exact Sr<|Dd aM<|Dd aM<|Zz<|aB<|Ru<|Qq
     exact absurd (aQB hc6) (by rw[hneg];decide)
    have hpos:Lib.indexByte (⟨#[92,34,110]⟩:ByteArray).data.toList (cR s (i+1)).toNat.toUInt8=(q:Int):=x1;have hq3:q<(⟨#[92,34,10]⟩:ByteArray).size:=hq;refine Rg<|Dd aE<|Dd aE<|Dd (by exact dK rfl underlying9 rfl rfl (by omega) (by exact aQP _) (by omega) rfl)<|Dd (by exact aA rfl rfl yH rfl (qG _ _ _))<|Dd aM<|Zz<|Sq<|Sr<|Dd aE<|Dd cW<|Zz ?_;refine Cn ?_ ?_<;>intro hc7
    ·exact absurd (aQA hc7) (by rw[hpos];omega)
    refine aC<|Rg<|Dd aE<|Dd (by exact dK rfl underlying9 rfl rfl (by rw[hpos];omega) (by rw[hpos];exact aQP _) hq3 rfl)<|Dd (by exact aA rfl rfl lO rfl (jE g w u (xK ⟨#[92,34,10]⟩ q) (by omega)))<|Zz<|Rg<|Dd aE<|Dd mV<|Da ?_;refine⟨i+1+1,g+1,w++[xK ⟨#[92,34,10]⟩ q],true,⟨by rw[aQF,List.length_singleton];omega,by omega,?_⟩,by omega,(cX.wk (Eb<|Ea<|Eb<|trivial) (Hc (gF rfl rfl)<|Hc (eO _ _)<|trivial) trivial)⟩;rw[hinv,hd,hb,hd2,KH,x2];exact P2
   have hge:s.size<=i+1:=by have:=aQB hc5;omega
   have hr:res=(sNil,0):=by rw[hinv,hd,hb,XS hge];rfl
   rw[hr];refine aC<|Sq<|Sr<|Dd aE<|Dd cW<|Zz ?_;refine Cn ?_ ?_<;>intro hc8
   ·exact Sr<|Dd aM<|Dd aM<|Zz<|aB<|Ru<|Qq
   cases hc8
  have hb92:xK s i≠92:=aQB (J8 (n:=92) (by decide) hc4);refine Rg<|Dd aE<|Dd (by exact aA rfl rfl lO rfl (jE g w u (xK s i) (by omega)))<|Zz<|Rg<|Dd aE<|Dd mV<|Da ?_;refine⟨i+1,g+1,w++[xK s i],true,⟨by rw[aQF,List.length_singleton];omega,by omega,?_⟩,by omega,(cX.wk (Eb<|Ea<|Eb<|trivial) (Hc (gF rfl rfl)<|Hc (eO _ _)<|trivial) trivial)⟩;rw[hinv,hd,LH hb34 hb10 hb92,P2]
 have hge:s.size<=i:=by have:=aQB hc1;omega
 have hr:res=(sNil,0):=by rw[hinv,XS hge];rfl
 rw[hr];exact aW<|Sr<|Dd aM<|Dd aM<|Zz<|aB<|Ru<|Qq
def uH(s:ByteArray)(i:Nat):Int:=if i<s.size then CV (cR s i)else 0
def tS(s:ByteArray):Ob:=bx 1 9 [sv s]
def tC:Ob:=bx 256 158 tI
def tA:Ob:=bx 1 247 [.clo 236 [.ref 921 0 0 0,.ref 923 0 0 0]]
theorem aLy(s:ByteArray)(i:Nat)(H:aH)(h1:H.get 921=some (tS s))(h2:H.get 923=some tC)(hi:i<4611686018427387904)(hs:s.size<4611686018427387904):
  aI Tryz.prog 236 [iv (i:Int),.ref 921 0 0 0,.ref 923 0 0 0] H (fun r H'=>r=.pv (.int .u8 (uH s i))/\H'=H):=by
 refine Bd func236 rfl ntmps236<|Sr<|Dd aM<|Zz<|Sq<|Sr<|Dd aE<|Dd (by exact aK rfl isAgg9 rfl h1 rfl rfl rfl)<|Dd (kG underlying9)<|Dd D7<|Zz ?_;refine Cn ?_ ?_<;>intro hc1
 ·have e:uH s i=0:=by rw[uH,aQC (by have:=aQA hc1;omega)]
  rw[e];refine Sr<|Dd aM<|Zz<|aB ?_;refine dV (H':=H) (.inr rfl) rfl (aX rfl) Fin.refl ?_;exact Qq
 have hlt:i<s.size:=by have:=aQB hc1;omega
 have e:uH s i=CV (cR s i):=by rw[uH,aQD hlt]
 rw[e];refine aC<|Sr<|Dd (by exact aK rfl isAgg9 rfl h1 rfl rfl rfl)<|Dd aE<|Dd (by exact dK rfl underlying9 rfl rfl (by omega) (by exact aQP _) (by omega) rfl)<|Dd (by exact eJ (m:=(cR s i).toNat) (k2:=(cR s i).toNat) rfl fP cM rfl h2 rfl rfl (DL s i) rfl (DM s i) (by omega))<|Dd (by exact aK rfl BT rfl h2 rfl rfl (aJz s i))<|Dd aM<|Zz<|aB ?_;refine dV (H':=H) (.inr rfl) rfl (aX rfl) Fin.refl ?_;exact Qq
theorem VA(s:ByteArray)(H:aH)(h1:H.get 921=none)(h2:H.get 923=none)(h3:H.get 924=none)(hc:eI H):
  aI Tryz.prog 197 [sv s] H (fun r H'=>r=.clo 237 [.ref 921 0 0 0,.ref 924 0 0 0]/\H'=(924,tA)::(923,tC)::(921,tS s)::H):=by
 have h2':aH.get ((921,tS s)::H) 923=none:=h2;refine Bd func197 rfl ntmps197<|Sr<|Dd (by exact cF (id:=921) rfl rfl rfl rfl h1)<|Dd aM<|Zz<|Sr<|Dd (by exact aA rfl rfl call123 rfl (R4 _))<|Dd (by exact bU (id:=923) rfl aA8 rfl h2)<|Uu (by exact cO rfl yB rfl rfl rfl rfl rfl rfl rfl (by simp))<|Zz<|Sr<|Dd (by exact gR rfl rfl)<|Dd (by exact bU (id:=924) rfl aMY rfl h3)<|Uu (jN sizeOf247)<|Zz<|Sr<|Dd (by exact gR rfl rfl)<|Dd aM<|Zz<|aB ?_;refine dV (H':=((924,tA)::(923,tC)::(921,tS s)::H)) (.inr rfl) rfl (aX rfl) (Fin.get' (fun j=>by simp only[aH.get];cases Nat.beq 924 j<;>cases Nat.beq 923 j<;>rfl)) ?_;exact Qq
def wL(p:Nat->Bool):Nat->Nat->Nat
 |0,i=>i
 |n+1,i=>if p i then wL p n (i+1)else i
theorem FP(p:Nat->Bool):∀(n i:Nat),i<=wL p n i/\wL p n i<=i+n
 |0,i=>⟨aQK _,aQK _⟩
 |n+1,i=>by
  rw[wL]
  split
  ·have:=FP p n (i+1);omega
  omega
theorem FR(p:Nat->Bool):∀(n i:Nat),∀j,i<=j->j<wL p n i->p j=true
 |0,i,j,h1,h2=>by rw[wL]at h2;omega
 | n+1,i,j,h1,h2=>by
  rw[wL]at h2
  split at h2
  ·by_cases e:j=i
   ·subst e;assumption
   exact FR p n (i+1) j (by omega) h2
  omega
theorem yP(p:Nat->Bool):∀(n i:Nat),wL p n i<i+n->p (wL p n i)=false
 |0,i,h=>by rw[wL]at h;omega
 |n+1,i,h=>by
  rw[wL]at h |-
  split at h
  ·rename_i hp;rw[aQD hp];exact yP p n (i+1) (by omega)
  rename_i hp;rw[aQC hp];exact Bool.not_eq_true _▸hp
theorem FQ(p:Nat->Bool)(h1:i<=j)(h2:j<=i+n)(h3:∀k,i<=k->k<j->p k=true)(h4:p j=false\/j=i+n):wL p n i=j:=by
 obtain ⟨l1,l2⟩:=FP p n i;rcases Nat.lt_trichotomy (wL p n i) j with h|h|h
 ·have:=yP p n i (by omega);rw[h3 _ l1 h]at this;cases this
 ·exact h
 have:=FR p n i j h1 h;rcases h4 with h4|h4
 ·rw[h4]at this;cases this
 omega
def MS(s:ByteArray)(j:Nat):Bool:=decide (j<s.size)&&!decide (cR s j=10)
def B7(s:ByteArray)(j:Nat):Bool:=decide (uH s j=3)||decide (uH s j=4)||decide (uH s j=5)
def aCd(s:ByteArray)(j:Nat):Bool:=decide (uH s j=4)
def TR(s:ByteArray)(i:Nat):Nat:=wL (MS s) (s.size - i) i
def KE(s:ByteArray)(i:Nat):Nat:=wL (B7 s) (s.size - i) i
def T5(s:ByteArray)(i:Nat):Nat:=wL (aCd s) (s.size - i) i
structure GFound where
 kind:Int
 text:ByteArray
 pos:Nat
 err:Int
variable{f:GFound}
def GP(f:GFound):List PV:=[.int .i64 f.kind,.str f.text,.int .i64 f.pos,.int .i64 f.err]
def vF(i:Nat):GFound:=⟨0,sNil,i,3⟩
def EV(s:ByteArray)(i j:Nat):GFound:=⟨1,s.extract i j,i,if 24<j - i then 2 else 0⟩
def NN(s:ByteArray)(i j:Nat):GFound:=⟨2,s.extract i j,i,if decide (7<j - i)||decide (uH s j=3)||decide (uH s j=5)then 4 else 0⟩
def PH(s:ByteArray)(i:Nat):GFound×Nat:=if 0<(A1 (s.extract i s.size)).2 then(⟨3,(A1 (s.extract i s.size)).1,i,0⟩,i+(A1 (s.extract i s.size)).2.toNat)else(vF i,i)
def jQ(s:ByteArray)(i:Nat):Option GFound×Nat :=if uH s i=1 then(none,i+1)else if uH s i=2 then(none,TR s i)else if uH s i=3 then(some (EV s i (KE s i)),KE s i)
 else if uH s i=4 then(some (NN s i (T5 s i)),T5 s i)else if uH s i=7 then(some (PH s i).1,(PH s i).2)
 else if uH s i=6 then(some ⟨4,s.extract i (i+1),i,0⟩,i+1)else(some (vF i),i)
def nU(s:ByteArray):Nat->Nat->List GFound
 |0,_=>[]
 |n+1,i=>if i<s.size then(match jQ s i with
  |(none,j)=>nU s n j
  |(some f,j)=>f::(if f.err=0 then nU s n j else[]))else[]
theorem LI:∀(l:List UInt8) (p:List UInt8×Nat),qM l=some p->p.2<=l.length
 | [],p,h=>by cases h
 | [c],p,h=>by
  rw[qM]at h
  split at h
  ·cases h;exact aQK _
  cases h
 | c :: e :: r, p, h => by
  rw[qM]at h
  split at h
  ·cases h;exact Nat.le_add_left _ _
  split at h
  ·cases h
  split at h
  ·cases hg:CJ e with
   |none=>rw[hg]at h;cases h
   | some b =>
    rw[hg]at h;cases hu:qM r with
    |none=>rw[hu]at h;cases h
    |some q =>
     rw[hu]at h;cases h;have:=LI r q hu;show q.2+2<=r.length+1+1;omega
  cases hu:qM (e::r)with
  |none=>rw[hu]at h;cases h
  |some q =>
   rw[hu]at h;cases h;have:=LI (e::r) q hu;show q.2+1<=r.length+1+1;rw[aQG]at this;omega
theorem XD(s:ByteArray):0<=(A1 s).2/\(A1 s).2<=s.size:=by
 have hl:s.data.toList.length=s.size:=by simp
 unfold A1;cases hu:qM (s.data.toList.drop 1)with
 |none=>exact⟨Int.le_refl _,Int.natCast_nonneg _⟩
 | some p =>
  have:=LI _ p hu;rw[aQT,hl]at this;refine⟨Int.natCast_nonneg _,?_⟩;show ((p.2+1:Nat):Int)<=_;have h0:0<s.size:=by
   cases h0:s.data.toList with
   |nil=>rw[h0]at hu;cases hu
   |cons a l=>rw[h0]at hl;rw[<-hl];exact Nat.succ_pos _
  omega
theorem R9(s:ByteArray)(i:Nat)(h:uH s i≠0):i<s.size:=by
 by_cases e:i<s.size
 ·exact e
 exact absurd (aQC e) h
def tF(f:GFound):Ob:=bx 4 218 ((GP f).map .pv)
theorem xN(H:aH)(f:GFound):∀r∈(tF f).rows,∀a∈r,Clo H a:=by intro r hr a ha;simp only[tF,bx,aQH]at hr;subst hr;obtain ⟨p,_,rfl⟩:=List.mem_map.1 ha;simp
theorem NJ{α:Type}{l m:List α}{d:α}(h:l.drop k=d::m):l[k]?=some d/\l.drop (k+1)=m:=by
 refine⟨?_,?_⟩
 ·have:=congrArg (·[0]?) h
  simpa using this
 rw[<-List.drop_drop,h];rfl
theorem aHZ(h:jQ s i=(some f,j))(he:f.err=0)(hi:i<s.size):i<j/\j<=s.size:=by
 have hfirst:∀(p:Nat->Bool),p i=true->i<wL p (s.size - i) i/\wL p (s.size - i) i<=s.size:=fun p hp=>by
  obtain ⟨l1,l2⟩:=FP p (s.size - i) i;refine⟨?_,by omega⟩;rcases Nat.lt_or_ge i (wL p (s.size - i) i)with h|h
  ·exact h
  have h3:=yP p (s.size - i) i (by omega);rw[show wL p (s.size - i) i=i by omega,hp]at h3;cases h3
 unfold jQ at h
 split at h
 ·cases h
 split at h
 ·cases h
 split at h
 ·rename_i e3;cases h;exact hfirst _ (by rw[B7,e3];rfl)
 split at h
 ·rename_i e4;cases h;exact hfirst _ (by rw[aCd,e4];rfl)
 split at h
 ·have hul:=XD (s.extract i s.size);have hexs:(s.extract i s.size).size<=s.size - i:=by rw[ByteArray.size_extract];omega
  unfold PH at h
  split at h
  ·rename_i hpos;cases h;show i<i+(A1 (s.extract i s.size)).2.toNat/\i+(A1 (s.extract i s.size)).2.toNat<=s.size;omega
  cases h;cases he
 split at h
 ·cases h;exact⟨Nat.lt_succ_self _,hi⟩
 cases h;cases he
theorem ltD(h:decide ((i:Int)<(n:Int))=true):i<n:=by have:=aQA h;omega
theorem HJ(s:ByteArray)(fv:AV)(Hs:Nat->aH)(cont:Nat->Bool)(m:Nat)(hs:s.size<1099511627776)(h1:∀k,(Hs k).get 921=some (tS s))(h2:∀k,(Hs k).get 923=some tC)(h3:∀k,(Hs k).get 924=some tA)(h6:∀k,(Hs k).get 926=none)(hcl:∀k,eI (Hs k))(hf:∀k,Clo (Hs k) fv)
  (hm:m<=(nU s (s.size+1) 0).length) (hall:∀k,k+1<m->cont k=true) (hend:m=(nU s (s.size+1) 0).length\/(0<m/\cont (m - 1)=false))
  (hy:∀k d,(nU s (s.size+1) 0)[k]?=some d->k<m->dN Tryz.prog fv [.agg ((GP d).map .pv)] ((926,tF d)::Hs k) (fun r H'=>r=bv (cont k)/\H'=(926,tF d)::Hs (k+1))) :
  aI Tryz.prog 237 [fv,.ref 921 0 0 0,.ref 924 0 0 0] (Hs 0) (fun r H'=>r=.tup []/\H'=Hs m):=by
 obtain ⟨ds,hds⟩:∃ds,ds=nU s (s.size+1) 0:=⟨_,rfl⟩;rw[<-hds]at hy hm hend;have hat:∀(k i:Nat) (f:GFound),i<=s.size+1->dN Tryz.prog (.clo 236 [.ref 921 0 0 0,.ref 923 0 0 0]) [iv (i:Int)] ((926,tF f)::Hs k) (fun r H'=>r=.pv (.int .u8 (uH s i))/\H'=(926,tF f)::Hs k):=fun k i f hi =>
  dN.clo call236 (aLy s i ((926,tF f)::Hs k) (h1 k) (h2 k) (by omega) (by omega))
 have hfree:∀(G0:aH) (k i:Nat) (E:dG) (o:Ob),G0=Hs 0->E.get 0=some fv->E.get 1=some (.ref 921 0 0 0)->E.get 2=some (.ref 924 0 0 0)->E.get 4=some (iv (i:Int)) ->
   cX G0 E ((926,o)::Hs k) [(0,fv),(1,.ref 921 0 0 0),(2,.ref 924 0 0 0),(4,iv (i:Int))] (Hs k):=fun G0 k i E o hG q0 q1 q2 q4=>by
  subst hG;exact cX.front (K:=Hs k) [(926,o)] [] ⟨⟨_,q0,rfl⟩,hf k,⟨_,q1,rfl⟩,(by rw[sJ];show ((Hs k).get 921).isSome=true;rw[h1];rfl),⟨_,q2,rfl⟩,(by rw[sJ];show ((Hs k).get 924).isSome=true;rw[h3];rfl),⟨_,q4,rfl⟩,(by simp),trivial⟩ (by simp[h6]) (by simp) (by simp) (hcl k) (by simp[h6])
 refine Bd func237 rfl ntmps237<|aDX<|Sr<|Dd aM<|Zz<|Sq<|aDY<|aF ?_;refine jK (fun(i k:Nat)=>([(0,fv),(1,.ref 921 0 0 0),(2,.ref 924 0 0 0),(4,iv (i:Int))],Hs k)) (fun i k=>i<=s.size/\k<=m/\(k=0\/cont (k - 1)=true)/\∃n,s.size - i<n/\ds.drop k=nU s n i) (fun i k=>s.size - i) 0 0 ⟨aQV _,aQV _,.inl rfl,s.size+1,Nat.lt_succ_self _,by rw[List.drop_zero,hds]⟩ ?_ ?_
 ·exact E0
 rintro i k ⟨hi,hkm,hkc,n,hn,hinv⟩;refine Sq<|Sr<|Dd aE<|Dd (by exact aK rfl isAgg9 rfl (h1 k) rfl rfl rfl)<|Dd (kG underlying9)<|Dd cW<|Zz ?_;refine Cn ?_ ?_<;>intro hc1
 ·have hlt:i<s.size:=by have:=aQA hc1;omega
  obtain ⟨n,rfl⟩:∃n',n=n'+1:=⟨n - 1,by omega⟩;rw[nU,aQD hlt]at hinv;refine aC<|aF<|Sr<|Dd aE<|Dd aM<|Zz<|Sr<|Dd aE<|Dd (rJ aKE)<|Dd (rJ aNr)<|Dd (by exact bU (id:=926) rfl aDm rfl (h6 k))<|Uu (jN FC)<|Zz ?_;refine fJ (fun(a:GFound×Nat)=>([(0,fv),(1,.ref 921 0 0 0),(2,.ref 924 0 0 0),(4,iv (a.2:Int)),(6,.ref 926 0 0 0)],(926,tF a.1)::Hs k)) (fun a=>jQ s i=(some a.1,a.2)) ?_ ?_
  ·refine Sq ?_;refine gM.ent (E':=[(0,fv),(1,.ref 921 0 0 0),(2,.ref 924 0 0 0),(4,iv (i:Int)),(5,iv (i:Int)),(6,.ref 926 0 0 0)]) (H':=(926,tF (vF i))::Hs k) (cX.get' ⟨⟨_,rfl,rfl⟩,⟨_,rfl,rfl⟩,⟨_,rfl,rfl⟩,⟨_,rfl,rfl⟩,⟨_,rfl,rfl⟩,⟨_,rfl,rfl⟩,trivial⟩ (fun j=>xE 926 (tF (vF i)) _ (Hs k) j)) ?_;refine Rg<|Dd (by exact aK rfl JA rfl (h3 k) rfl rfl rfl)<|Dd aE<|Dd (by exact cY rfl rfl rfl (hat k i (vF i) (by omega)))<|Zz<|aF<|Sr<|Dd cN<|Da ?_;refine Cn ?_ ?_<;>intro hc2
   ·have e1:uH s i=1:=aQA hc2;have hst:jQ s i=(none,i+1):=by rw[jQ,aQD e1]
    rw[hst]at hinv;refine Sr<|Dd aE<|Dd mV<|Dd aM<|Zz<|aW ?_;exact⟨i+1,k,⟨by omega,hkm,hkc,n,by omega,hinv⟩,by omega,hfree _ _ _ _ _ rfl rfl rfl rfl rfl⟩
   have n1:uH s i≠1:=aQB hc2;refine Sr<|Dd cN<|Da ?_;refine Cn ?_ ?_<;>intro hc3
   ·have e2:uH s i=2:=aQA hc3;have hst:jQ s i=(none,TR s i):=by rw[jQ,aQC n1,aQD e2]
    rw[hst]at hinv;refine Sq<|aF ?_;refine bJ (σ:=Nat) (fun j=>([(0,fv),(1,.ref 921 0 0 0),(2,.ref 924 0 0 0),(4,iv (j:Int))],(926,tF (vF i))::Hs k)) (fun j=>i<=j/\j<=s.size/\∀q,i<=q->q<j->MS s q=true) (fun j=>s.size - j) i ⟨aQK _,hi,fun q h1 h2=>by omega⟩ ?_ ?_
    ·exact E0
    rintro j ⟨hij,hj,hpre⟩;refine Sq<|Sq ?_;refine aY (t:=37) (n:=11) (X:=MS s j) ?_ ?_
    ·all_goals refine Dd aE ?_
     all_goals refine Dd (by exact aK rfl isAgg9 rfl (h1 k) rfl rfl rfl)<|Dd (kG underlying9)<|Dd cW<|Dm ?_
     all_goals refine Sp 32 (fun h32=>?_) fun h32=>?_
     all_goals try contradiction
     all_goals first|refine Fo<|Fo<|Fo<|Fo ?_|refine On (by exact aK rfl isAgg9 rfl (h1 k) rfl rfl rfl)<|On aE<|On (by exact dK rfl underlying9 rfl rfl (by omega) (by exact aQP _) (ltD h32) rfl)<|On wM ?_
     all_goals refine Dd cH<|Zz ?_
     all_goals(exact⟨⟨_,rfl,by first|(simp_all[MS];done)|(simp_all[MS];omega)⟩,rfl,rfl,rfl⟩)
    refine Cn ?_ ?_<;>intro hc4
    ·have hjs:j<s.size:=by
      have h:=hc4;rw[MS,aQN,aQL]at h;exact h.1
     refine aC<|aF<|Rg<|Dd aE<|Dd mV<|Da ?_;exact⟨j+1,⟨by omega,by omega,fun q q1 q2=>by
      by_cases e:q=j
      ·subst e;exact hc4
      exact hpre q q1 (by omega)⟩,by omega,E0⟩
    have hle:TR s i=j:=FQ _ hij (by omega) hpre (.inl hc4);have hgt:i<j:=by
     rcases Nat.lt_or_ge i j with h|h
     ·exact h
     have hji:j=i:=by omega
     subst hji;rw[MS,decide_eq_true hlt,Bool.true_and,Bool.not_eq_false',aQL]at hc4;rw[uH,aQD hlt,hc4]at e2;exact absurd e2 (by decide)
    rw[hle]at hinv;refine aW<|aW ?_;exact⟨j,k,⟨hj,hkm,hkc,n,by omega,hinv⟩,by omega,hfree _ _ _ _ _ rfl rfl rfl rfl rfl⟩
   have n2:uH s i≠2:=aQB hc3;refine Sr<|Dd cN<|Da ?_;refine Cn ?_ ?_<;>intro hc5
   ·have e3:uH s i=3:=aQA hc5;refine Sq<|Sr<|Dd (by exact aK rfl JA rfl (h3 k) rfl rfl rfl)<|Dd aE<|Dd (by exact cY rfl rfl rfl (hat k i (vF i) (by omega)))<|Dd aM<|Zz<|aF ?_;refine bJ (σ:=Nat) (fun j=>([(0,fv),(1,.ref 921 0 0 0),(2,.ref 924 0 0 0),(4,iv (j:Int)),(5,iv (i:Int)),(6,.ref 926 0 0 0),(7,.pv (.int .u8 (uH s j)))],(926,tF (vF i))::Hs k)) (fun j=>i<=j/\j<=s.size/\∀q,i<=q->q<j->B7 s q=true) (fun j=>s.size - j) i ⟨aQK _,hi,fun q h1 h2=>by omega⟩ ?_ ?_
    ·exact E0
    rintro j ⟨hij,hj,hpre⟩;refine Sq<|Sq ?_;refine aY (t:=54) (n:=12) (X:=B7 s j) ?_ ?_
    ·all_goals refine Dd aE ?_
     all_goals refine Dd cN<|Dm ?_
     all_goals refine Sp 47 (fun h47=>?_) fun h47=>?_
     all_goals try contradiction
     all_goals first|refine Fo<|Fo ?_|refine On aE<|On cN ?_
     all_goals refine Dd cH<|Dm ?_
     all_goals refine Sp 51 (fun h51=>?_) fun h51=>?_
     all_goals try contradiction
     all_goals first|refine Fo<|Fo ?_|refine On aE<|On cN ?_
     all_goals refine Dd cH<|Zz ?_
     all_goals(exact⟨⟨_,rfl,by(simp only[B7, *];rfl)⟩,rfl,rfl,rfl⟩)
    refine Cn ?_ ?_<;>intro hc6
    ·have hjs:j<s.size:=R9 s j (fun e=>by rw[B7,e]at hc6;cases hc6);refine aC<|Sq<|aF<|Rg<|Dd aE<|Dd mV<|Dd aM<|Zz<|Rg<|Dd (by exact aK rfl JA rfl (h3 k) rfl rfl rfl)<|Dd aE<|Dd (by exact cY rfl rfl rfl (hat k (j+1) (vF i) (by omega)))<|Da ?_;exact⟨j+1,⟨by omega,by omega,fun q q1 q2=>by
      by_cases e:q=j
      ·subst e;exact hc6
      exact hpre q q1 (by omega)⟩,by omega,E0⟩
    have hle:KE s i=j:=FQ _ hij (by omega) hpre (.inl hc6);have hst:jQ s i=(some (EV s i j),j):=by rw[jQ,aQC n1,aQC n2,aQD e3,hle]
    refine aW<|Sq<|aO follows<|Cr [921] (fun H1 hH=>by exact aK rfl isAgg9 rfl ((hH _ rfl).trans (h1 k)) rfl rfl rfl)<|Cr [] (fun _ _=>aE)<|Cr [] (fun _ _=>aE)<|Cr [] (fun H1 hH=>by exact cQ (l:=i) (h:=j) rfl underlying9 rfl rfl rfl (by omega) (by omega) rfl)<|Cr [926] (fun _ h=>fh nF h)<|Cr [926] (fun _ h=>fh GN h)<|Cp [926] (fun H1 hH=>by exact bG rfl sizeOf3 rfl rfl rfl ((hH _ rfl).trans rfl) rfl rfl (aQR rfl) rfl rfl)<|Cr [926] (fun _ h=>fh nF h)<|Cr [926] (fun _ h=>fh mG h)<|Cp [926] (fun H1 hH=>by exact bG rfl sizeOf9 rfl rfl rfl ((hH _ rfl).trans rfl) rfl rfl (aQR rfl) rfl rfl)<|Cr [926] (fun _ h=>fh rC h)<|Cp [926] (fun H1 hH=>by exact bG rfl sizeOf41 rfl rfl rfl ((hH _ rfl).trans rfl) rfl rfl (aQR rfl) rfl rfl) ?_;refine bM<|Kr<|Sr<|Dd aE<|Dd aE<|Dd (by exact dX rfl rfl rfl (show IntKind.i64.wrap ((j:Int) - (i:Int))=((j - i:Nat):Int)by rw[IntKind.wrap_i64];omega))<|Dd iG<|Zz ?_;refine Cn ?_ ?_<;>intro hc7
    ·have hE:EV s i j=⟨1,s.extract i j,i,2⟩:=by rw[EV,aQD (by have:=aQA hc7;omega)]
     rw[hE]at hst;refine Rg<|Dd (aT rC)<|Uu (by exact bG rfl sizeOf41 rfl rfl rfl rfl rfl rfl (aQR rfl) rfl rfl)<|Zz ?_;exact⟨(⟨1,s.extract i j,i,2⟩,j),hst,cX.get' ⟨⟨_,rfl,rfl⟩,⟨_,rfl,rfl⟩,⟨_,rfl,rfl⟩,⟨_,rfl,rfl⟩,⟨_,rfl,rfl⟩,trivial⟩ (fun q=>zG [_,_,_,_] (by simp) q)⟩
    have hE:EV s i j=⟨1,s.extract i j,i,0⟩:=by rw[EV,aQC (by have:=aQB hc7;omega)]
    rw[hE]at hst;refine aC ?_;exact⟨(⟨1,s.extract i j,i,0⟩,j),hst,cX.get' ⟨⟨_,rfl,rfl⟩,⟨_,rfl,rfl⟩,⟨_,rfl,rfl⟩,⟨_,rfl,rfl⟩,⟨_,rfl,rfl⟩,trivial⟩ (fun q=>zG [_,_,_] (by simp) q)⟩
   have n3:uH s i≠3:=aQB hc5;refine Sr<|Dd cN<|Da ?_;refine Cn ?_ ?_<;>intro hc8
   ·have e4:uH s i=4:=aQA hc8;refine Sq<|aF ?_;refine bJ (σ:=Nat) (fun j=>([(0,fv),(1,.ref 921 0 0 0),(2,.ref 924 0 0 0),(4,iv (j:Int)),(5,iv (i:Int)),(6,.ref 926 0 0 0)],(926,tF (vF i))::Hs k)) (fun j=>i<=j/\j<=s.size/\∀q,i<=q->q<j->aCd s q=true) (fun j=>s.size - j) i ⟨aQK _,hi,fun q h1 h2=>by omega⟩ ?_ ?_
    ·exact E0
    rintro j ⟨hij,hj,hpre⟩;refine Sq<|Sr<|Dd (by exact aK rfl JA rfl (h3 k) rfl rfl rfl)<|Dd aE<|Dd (by exact cY rfl rfl rfl (hat k j (vF i) (by omega)))<|Dd cN<|Zz ?_;refine Cn ?_ ?_<;>intro hc9
    ·have hjs:j<s.size:=R9 s j (fun e=>by rw[e]at hc9;cases hc9);refine aC<|aF<|Rg<|Dd aE<|Dd mV<|Da ?_;exact⟨j+1,⟨by omega,by omega,fun q q1 q2=>by
      by_cases e:q=j
      ·subst e;exact hc9
      exact hpre q q1 (by omega)⟩,by omega,E0⟩
    have hle:T5 s i=j:=FQ _ hij (by omega) hpre (.inl hc9);have hst:jQ s i=(some (NN s i j),j):=by rw[jQ,aQC n1,aQC n2,aQC n3,aQD e4,hle]
    refine aW<|Sq<|aO follows<|Cr [921] (fun H1 hH=>by exact aK rfl isAgg9 rfl ((hH _ rfl).trans (h1 k)) rfl rfl rfl)<|Cr [] (fun _ _=>aE)<|Cr [] (fun _ _=>aE)<|Cr [] (fun H1 hH=>by exact cQ (l:=i) (h:=j) rfl underlying9 rfl rfl rfl (by omega) (by omega) rfl)<|Cr [926] (fun _ h=>fh nF h)<|Cr [926] (fun _ h=>fh GN h)<|Cp [926] (fun H1 hH=>by exact bG rfl sizeOf3 rfl rfl rfl ((hH _ rfl).trans rfl) rfl rfl (aQR rfl) rfl rfl)<|Cr [926] (fun _ h=>fh nF h)<|Cr [926] (fun _ h=>fh mG h)<|Cp [926] (fun H1 hH=>by exact bG rfl sizeOf9 rfl rfl rfl ((hH _ rfl).trans rfl) rfl rfl (aQR rfl) rfl rfl)<|Cr [926] (fun _ h=>fh rC h)<|Cp [926] (fun H1 hH=>by exact bG rfl sizeOf41 rfl rfl rfl ((hH _ rfl).trans rfl) rfl rfl (aQR rfl) rfl rfl) ?_;refine bM<|Kr<|Sq ?_;refine gM.ent (E':=[(0,fv),(1,.ref 921 0 0 0),(2,.ref 924 0 0 0),(4,iv (j:Int)),(5,iv (i:Int)),(6,.ref 926 0 0 0)]) (H':=(926,tF ⟨2,s.extract i j,i,0⟩)::Hs k) (cX.get' ⟨⟨_,rfl,rfl⟩,⟨_,rfl,rfl⟩,⟨_,rfl,rfl⟩,⟨_,rfl,rfl⟩,⟨_,rfl,rfl⟩,⟨_,rfl,rfl⟩,trivial⟩ (fun q=>zG [_,_,_] (by simp) q)) ?_;have h7:decide (7<((j - i:Nat):Int))=decide (7<j - i):=by rw[Bool.eq_iff_iff,aQL,aQL];omega
    refine Rg<|Dd (by exact aK rfl JA rfl (h3 k) rfl rfl rfl)<|Dd aE<|Dd (by exact cY rfl rfl rfl (hat k j ⟨2,s.extract i j,i,0⟩ (by omega)))<|Dd aM<|Zz<|Sq ?_;refine aY (t:=105) (n:=14) (X:=decide (7<((j - i:Nat):Int))||decide (uH s j=3)||decide (uH s j=5)) ?_ ?_
    ·all_goals refine Dd aE ?_
     all_goals refine Dd aE<|Dd (by exact dX rfl rfl rfl (show IntKind.i64.wrap ((j:Int) - (i:Int))=((j - i:Nat):Int)by rw[IntKind.wrap_i64];omega))<|Dd iG<|Dm ?_
     all_goals refine Sp 98 (fun h98=>?_) fun h98=>?_
     all_goals try contradiction
     all_goals first|refine Fo<|Fo ?_|refine On aE<|On cN ?_
     all_goals refine Dd cH<|Dm ?_
     all_goals refine Sp 102 (fun h102=>?_) fun h102=>?_
     all_goals try contradiction
     all_goals first|refine Fo<|Fo ?_|refine On aE<|On cN ?_
     all_goals refine Dd cH<|Zz ?_
     all_goals(exact⟨⟨_,rfl,by first|(simp_all[B7];done)|(simp_all;omega)⟩,rfl,rfl,rfl⟩)
    refine Cn ?_ ?_<;>intro hc10
    ·have hE:NN s i j=⟨2,s.extract i j,i,4⟩:=by rw[NN,<-h7,hc10];rfl
     rw[hE]at hst;refine Rg<|Dd (aT rC)<|Uu (by exact bG rfl sizeOf41 rfl rfl rfl rfl rfl rfl (aQR rfl) rfl rfl)<|Zz ?_;exact⟨(⟨2,s.extract i j,i,4⟩,j),hst,cX.get' ⟨⟨_,rfl,rfl⟩,⟨_,rfl,rfl⟩,⟨_,rfl,rfl⟩,⟨_,rfl,rfl⟩,⟨_,rfl,rfl⟩,trivial⟩ (fun q=>zG [_] (by simp) q)⟩
    have hE:NN s i j=⟨2,s.extract i j,i,0⟩:=by rw[NN,<-h7,hc10];rfl
    rw[hE]at hst;refine aC ?_;exact⟨(⟨2,s.extract i j,i,0⟩,j),hst,E0⟩
   have n4:uH s i≠4:=aQB hc8;refine Sr<|Dd cN<|Da ?_;refine Cn ?_ ?_<;>intro hc11
   ·have e7:uH s i=7:=aQA hc11;have hst:jQ s i=(some (PH s i).1,(PH s i).2):=by rw[jQ,aQC n1,aQC n2,aQC n3,aQC n4,aQD e7]
    have hexs:(s.extract i s.size).size<=s.size - i:=by rw[ByteArray.size_extract];omega
    have hun:=fun H=>YR (s.extract i s.size) H (by omega);have hul:=XD (s.extract i s.size);obtain ⟨u,hu⟩:∃u,u=A1 (s.extract i s.size):=⟨_,rfl⟩;have hgs:PH s i=if 0<u.2 then(⟨3,u.1,i,0⟩,i+u.2.toNat)else(vF i,i):=by rw[PH,<-hu]
    rw[<-hu]at hun hul;obtain ⟨ut,un⟩:=u;simp only at hun hul hgs;refine Sr<|Dd (by exact aK rfl isAgg9 rfl (h1 k) rfl rfl rfl)<|Dd aE<|Dd (by exact cQ (l:=i) (h:=s.size) rfl underlying9 rfl rfl rfl (by omega) (by omega) rfl)<|Dd (by exact aA rfl rfl call238 rfl (hun _))<|Dd aE<|Dd fG<|Dd fG<|Dd aM<|Dd aM<|Zz<|Sq<|Sr<|Dd aE<|Dd iG<|Zz ?_;refine Cn ?_ ?_<;>intro hc12
    ·rw[hgs,aQD (aQA hc12)]at hst;refine Rg<|Dd aE<|Dd (aT nF)<|Dd (aT GN)<|Uu (by exact bG rfl sizeOf3 rfl rfl rfl rfl rfl rfl (aQR rfl) rfl rfl)<|Dd (aT nF)<|Dd (aT mG)<|Uu (by exact bG rfl sizeOf9 rfl rfl rfl rfl rfl rfl (aQR rfl) rfl rfl)<|Dd (aT rC)<|Uu (by exact bG rfl sizeOf41 rfl rfl rfl rfl rfl rfl (aQR rfl) rfl rfl)<|Zz<|Rg<|Dd aE<|Dd aE<|Dd (by exact cB rfl rfl rfl (show IntKind.i64.wrap ((i:Int)+un)=((i+un.toNat:Nat):Int)by rw[IntKind.wrap_i64];omega))<|Da ?_;exact⟨(⟨3,ut,i,0⟩,i+un.toNat),hst,cX.get' ⟨⟨_,rfl,rfl⟩,⟨_,rfl,rfl⟩,⟨_,rfl,rfl⟩,⟨_,rfl,rfl⟩,⟨_,rfl,rfl⟩,trivial⟩ (fun q=>zG [_,_,_] (by simp) q)⟩
    have hu0:=aQB hc12;rw[hgs,aQC hu0]at hst;have e0:i+un.toNat=i:=by omega
    refine aC<|Rg<|Dd aE<|Dd aE<|Dd (by exact cB rfl rfl rfl (show IntKind.i64.wrap ((i:Int)+un)=((i+un.toNat:Nat):Int)by rw[IntKind.wrap_i64];omega))<|Da ?_;rw[e0];exact⟨(vF i,i),hst,E0⟩
   have n7:uH s i≠7:=aQB hc11;refine Sr<|Dd cN<|Da ?_;refine Cn ?_ ?_<;>intro hc13
   ·have e6:uH s i=6:=aQA hc13;have hst:jQ s i=(some ⟨4,s.extract i (i+1),i,0⟩,i+1):=by rw[jQ,aQC n1,aQC n2,aQC n3,aQC n4,aQC n7,aQD e6]
    refine Sr<|Dd aE<|Dd mV<|Dd aM<|Zz<|aO follows<|Cr [921] (fun H1 hH=>by exact aK rfl isAgg9 rfl ((hH _ rfl).trans (h1 k)) rfl rfl rfl)<|Cr [] (fun _ _=>aE)<|Cr [] (fun _ _=>aE)<|Cr [] (fun H1 hH=>by exact cQ (l:=i) (h:=(i+1)) rfl underlying9 rfl rfl rfl (by omega) (by omega) rfl)<|Cr [926] (fun _ h=>fh nF h)<|Cr [926] (fun _ h=>fh GN h)<|Cp [926] (fun H1 hH=>by exact bG rfl sizeOf3 rfl rfl rfl ((hH _ rfl).trans rfl) rfl rfl (aQR rfl) rfl rfl)<|Cr [926] (fun _ h=>fh nF h)<|Cr [926] (fun _ h=>fh mG h)<|Cp [926] (fun H1 hH=>by exact bG rfl sizeOf9 rfl rfl rfl ((hH _ rfl).trans rfl) rfl rfl (aQR rfl) rfl rfl)<|Cr [926] (fun _ h=>fh rC h)<|Cp [926] (fun H1 hH=>by exact bG rfl sizeOf41 rfl rfl rfl ((hH _ rfl).trans rfl) rfl rfl (aQR rfl) rfl rfl) ?_;refine bM<|Kr ?_;exact⟨(⟨4,s.extract i (i+1),i,0⟩,i+1),hst,cX.get' ⟨⟨_,rfl,rfl⟩,⟨_,rfl,rfl⟩,⟨_,rfl,rfl⟩,⟨_,rfl,rfl⟩,⟨_,rfl,rfl⟩,trivial⟩ (fun q=>zG [_,_,_] (by simp) q)⟩
   have n6:uH s i≠6:=aQB hc13;have hst:jQ s i=(some (vF i),i):=by rw[jQ,aQC n1,aQC n2,aQC n3,aQC n4,aQC n7,aQC n6]
   refine aC ?_;exact⟨(vF i,i),hst,E0⟩
  rintro⟨f,j⟩ hst;rw[hst]at hinv;simp only at hinv hst;obtain ⟨hk1,hk2⟩:=NJ hinv;have hkl:=(aQI.1 hk1).1;have hkm2:k<m:=by
   rcases Nat.lt_or_ge k m with h|h
   ·exact h
   have hkem:k=m:=Nat.le_antisymm hkm h;subst hkem;rcases hend with h|⟨h,h'⟩
   ·omega
   rcases hkc with h2|h2
   ·omega
   rw[h2]at h';cases h'
  have hstop:ds.length=k+1\/cont k=false->k+1=m:=fun h=>by
   rcases h with h|h
   ·omega
   rcases Nat.lt_or_ge (k+1) m with h3|h3
   ·rw[hall k h3]at h;cases h
   omega
  have hyk:=hy k f hk1 hkm2;cases hck:cont k with
  |false =>
   have hkk:=hstop (.inr hck);rw[hck]at hyk;refine Sr<|Dd aE<|Dd (mD isAgg218 FC)<|Dd (by exact cY rfl rfl rfl (hyk))<|Dd iS<|Dd aE<|Fo<|Fo<|Fo<|Dd cH<|Zz ?_;refine Cn ?_ ?_<;>intro hc14
   ·refine aB ?_;rw[<-hkk];exact sY (H':=Hs (k+1)) (.inr rfl) rfl (Fin.pops' [(926,tF f)] (by simp) (hcl _) (by simp[h6]) (by simp[h6])) ⟨rfl,rfl⟩
   cases hc14
  | true =>
   rw[hck]at hyk;refine Sr<|Dd aE<|Dd (mD isAgg218 FC)<|Dd (by exact cY rfl rfl rfl (hyk))<|Dd iS<|Dd aE<|On (aT rC)<|On (bF lN)<|On wM<|Dd cH<|Zz ?_;refine Cn ?_ ?_<;>intro hc15
   ·have hne:f.err≠0:=by
     have h:=hc15
     simpa using h
    rw[aQC hne]at hk2;have hkk:=hstop (.inl (by have:=List.drop_eq_nil_iff.1 hk2;omega));refine aB ?_;rw[<-hkk];exact sY (H':=Hs (k+1)) (.inr rfl) rfl (Fin.pops' [(926,tF f)] (by simp) (hcl _) (by simp[h6]) (by simp[h6])) ⟨rfl,rfl⟩
   have he0:f.err=0:=by
    have h:=hc15
    simpa using h
   obtain ⟨g1,g2⟩:=aHZ hst he0 hlt;rw[aQD he0]at hk2;refine aC ?_;exact⟨j,k+1,⟨g2,hkm2,.inr hck,n,by omega,hk2⟩,by omega,hfree _ _ _ _ _ rfl rfl rfl rfl rfl⟩
 have hge:s.size<=i:=by have:=aQB hc1;omega
 have hnil:nU s n i=[]:=by
  cases n with
  |zero=>rfl
  |succ n=>rw[nU,aQC (by omega)]
 rw[hnil]at hinv;have hkd:=List.drop_eq_nil_iff.1 hinv;have hkk:k=m:=by omega
 refine aW ?_;rw[<-hkk];exact sY (H':=Hs k) (.inl rfl) rfl Fin.refl ⟨rfl,rfl⟩
def eU(f:GFound):List PV:=[.int .i64 f.kind,.str f.text,.int .i64 f.pos]
def SR(l:List GFound):PV:=.sl (l.map eU)
def lF(l:List GFound):List (List AV):=l.map fun f=>(eU f).map AV.pv
theorem zY(l:List GFound):(lF l).length=l.length:=aQE _
theorem EG(l:List GFound)(f:GFound):lF l++[(eU f).map AV.pv]=lF (l++[f]):=by rw[lF,lF,List.map_append];rfl
theorem cT(H:aH)(l:List GFound):∀r∈lF l,∀a∈r,Clo H a:=by intro r hr a ha;obtain ⟨d,_,rfl⟩:=List.mem_map.1 hr;obtain ⟨p,_,rfl⟩:=List.mem_map.1 ha;simp
theorem qO{H:aH}(h1:(H.get 921).isSome=true)(h2:(H.get 923).isSome=true):∀r∈tA.rows,∀a∈r,Clo H a:=by intro r hr a ha;simp only[tA,bx,aQH]at hr;subst hr;rw[aQH]at ha;subst ha;simp[h1,h2]
theorem qN(H:aH)(s:ByteArray):∀r∈(tS s).rows,∀a∈r,Clo H a:=by intro r hr a ha;simp only[tS,bx,aQH]at hr;subst hr;rw[aQH]at ha;subst ha;simp
def mY:List GFound->List GFound->List GFound×Int×Int
 |acc,[]=>(acc,0,0)
 |acc,f::r=>if f.err≠0 then([],f.err,f.pos)else if acc.length=5000 then([],2,f.pos)else mY (acc++[f]) r
def jJ(s:ByteArray):List GFound×Int×Int:=if 20000<s.size then([],2,-1)else mY [] (nU s (s.size+1) 0)
def qT(ds:List GFound)(k:Nat):Bool:=match ds[k]? with
 |some f=>decide (f.err=0)&&!decide (k=5000)
 |none=>true
theorem ID{ds:List GFound}:∀ {k:Nat},k<=ds.length->(∀j,j<k->qT ds j=true)->mY [] ds=mY (ds.take k) (ds.drop k)
 |0,_,_=>rfl
 |k+1,hk,h=>by
  rw[ID (Nat.le_of_succ_le hk) (fun j hj=>h j (by omega))];have hd:ds.drop k=ds[k]::ds.drop (k+1):=List.drop_eq_getElem_cons hk;have hok:=h k (Nat.lt_succ_self k);rw[qT,aQJ hk]at hok;simp only[aQN,aQL,aQX,aQM]at hok;have htl:(ds.take k).length=k:=by rw[aQS];omega
  rw[hd,mY,aQC (fun h=>h hok.1),aQC (by rw[htl];exact hok.2),List.take_add_one,aQJ hk];rfl
theorem B2(s:ByteArray):∀(n i:Nat),(nU s n i).length<=n
 |0,_=>aQV _
 | n+1,i=>by
  rw[nU]
  split
  ·split
   ·exact Nat.le_succ_of_le (B2 s n _)
   rw[aQG]
   split
   ·exact Nat.succ_le_succ (B2 s n _)
   exact Nat.succ_le_succ (aQV _)
  exact aQV _
def kL(s:ByteArray)(L:List GFound)(a:AV)(e p:Int):aH:=[(905,⟨L.length,3,187,lF L⟩),(5,bx 1 182 [.osl 905 L.length 0 L.length]),(924,tA),(923,tC),(921,tS s),(4,bx 1 3 [iv p]),(3,bx 1 41 [iv e]),(2,bx 1 182 [a])]
theorem aF9(s:ByteArray)(L:List GFound)(f:GFound)(a:AV)(e p:Int):kL s (L++[f]) a e p=[(905,⟨L.length+1,3,187,lF (L++[f])⟩),(5,bx 1 182 [.osl 905 (L.length+1) 0 (L.length+1)]),(924,tA),(923,tC),(921,tS s),(4,bx 1 3 [iv p]),(3,bx 1 41 [iv e]),(2,bx 1 182 [a])]:=by simp[kL]
def sS:dG:=[(2,.ref 2 0 0 0),(3,.ref 3 0 0 0),(4,.ref 4 0 0 0),(5,.ref 5 0 0 0)]
theorem F9{ds:List GFound}(h:ds[k]?=some f):qT ds k=(decide (f.err=0)&&!decide (k=5000)):=by rw[qT,h]
theorem aJt(s:ByteArray)(H:aH)(hs:s.size<1099511627776):aI Tryz.prog 157 [sv s] H (fun r H'=>r=.tup [.pv (SR (jJ s).1),iv (jJ s).2.1,iv (jJ s).2.2]/\H'=H):=by
 refine Pu ?_;refine Bd func157 rfl ntmps157<|Sr<|Dd (by exact bU (id:=2) rfl aJb rfl rfl)<|Dd (by exact bU (id:=3) rfl aKR rfl rfl)<|Dd (by exact bU (id:=4) rfl zo3 rfl rfl)<|Zz<|Sq<|Sr<|Dd aE<|Dd (kG underlying9)<|Dd iG<|Zz ?_;refine Cn ?_ ?_<;>intro hc1
 ·have e:jJ s=([],2,-1):=by rw[jJ,aQD (by have:=aQA hc1;omega)]
  rw[e];refine Sr<|Uu (jN mK)<|Uu (jN sizeOf41)<|Uu (jN sizeOf3)<|Zz<|aB ?_;refine BM (H':=[]) (.inr rfl) rfl (gP rfl lS rfl rfl rfl rfl) (gP rfl lN rfl rfl rfl rfl) (gP rfl isAgg3 rfl rfl rfl rfl) (Fin.wk (by simp) trivial trivial) ?_;exact Qq
 have hsz:¬ 20000<s.size:=by have:=aQB hc1;omega
 obtain ⟨ds,hds⟩:∃ds,ds=nU s (s.size+1) 0:=⟨_,rfl⟩;have hg:jJ s=mY [] ds:=by rw[jJ,aQC hsz,hds]
 refine aC<|Sr<|Dd (by exact bU (id:=5) rfl aDl rfl rfl)<|Zz<|Sq<|Sr<|Dd aE<|Dd (by exact aA rfl rfl call197 rfl (VA s _ rfl rfl rfl (eI.ofL ⟨(by(simp;done)),(by(simp;done)),(by(simp;done)),(by(simp;done)),trivial⟩)))<|Zz<|aF ?_;refine gM.ent (E':=[(2,.ref 2 0 0 0),(3,.ref 3 0 0 0),(4,.ref 4 0 0 0),(5,.ref 5 0 0 0),(11,.clo 237 [.ref 921 0 0 0,.ref 924 0 0 0])]) (H':=[(905,⟨0,3,187,[]⟩),(5,bx 1 182 [.osl 905 0 0 0]),(924,tA),(923,tC),(921,tS s),(4,bx 1 3 [iv 0]),(3,bx 1 41 [iv 0]),(2,bx 1 182 [.pv (.sl [])])]) ?_ ?_
 ·exact(cX.nz 905 3 187 rfl rfl ⟨⟨_,rfl,(by exact Nz.same (by(simp;rfl)))⟩,⟨_,rfl,(by exact Nz.same (by(simp;rfl)))⟩,⟨_,rfl,(by exact Nz.same (by(simp;rfl)))⟩,⟨_,rfl,(by exact Nz.same (by(simp;rfl)))⟩,⟨_,rfl,(by exact Nz.same (by(simp;exact⟨rfl,rfl⟩)))⟩,trivial⟩ ⟨⟨_,rfl,rfl,rfl,rfl,(by exact .inr ⟨_,_,rfl,rfl,(by repeat(first|exact trivial|refine⟨(by exact Nz.own),?_⟩))⟩)⟩,⟨_,rfl,rfl,rfl,rfl,(by exact .inl ⟨rfl,(by exact qO rfl rfl)⟩)⟩,⟨_,rfl,rfl,rfl,rfl,(by exact .inl ⟨rfl,(by exact iX _)⟩)⟩,⟨_,rfl,rfl,rfl,rfl,(by exact .inl ⟨rfl,(by exact qN _ _)⟩)⟩,⟨_,rfl,rfl,rfl,rfl,(by exact .inl ⟨rfl,(by(simp;done))⟩)⟩,⟨_,rfl,rfl,rfl,rfl,(by exact .inl ⟨rfl,(by(simp;done))⟩)⟩,⟨_,rfl,rfl,rfl,rfl,(by exact .inl ⟨rfl,(by(simp;done))⟩)⟩,trivial⟩ trivial)
 have hdl:ds.length<=s.size+1:=by rw[hds];exact B2 s _ _
 obtain ⟨j,hj⟩:∃j,j=wL (qT ds) ds.length 0:=⟨_,rfl⟩;have hj1:j<=ds.length:=by have:=(FP (qT ds) ds.length 0).2;omega
 have hj2:∀k,k<j->qT ds k=true:=fun k hk=>FR (qT ds) ds.length 0 k (aQV _) (by rw[<-hj];exact hk);have hj3:j<ds.length->qT ds j=false:=fun h=>by have:=yP (qT ds) ds.length 0 (by omega);rwa [<-hj]at this
 have hrun:=ID hj1 hj2;refine DN (id:=904) (p:=12) sS rfl call237 rfl rfl (by simp[sS];exact⟨rfl,rfl,rfl,rfl⟩) ?_;intro x hx1 hx2 hx3 hx4 hx5 hx6;have hround:∀(k:Nat) (d:GFound),ds[k]?=some d->k<=j ->
   dN Tryz.prog (.yld 904 0) [.agg ((GP d).map .pv)] ((904,LR x sS)::(926,tF d)::kL s (ds.take k) (.pv (.sl [])) 0 0) (fun r H'=>r=bv (qT ds k)/\H'=(if qT ds k then(904,LR x sS)::(926,tF d)::kL s (ds.take (k+1)) (.pv (.sl [])) 0 0 else(904,LR (left x .ret) sS)::(926,tF d)::kL s (ds.take k) (.pv (.sl [])) (if d.err≠0 then d.err else 2) d.pos)):=by
  intro k d hd hkj;have hok:=F9 hd;have hkl:k<ds.length:=(aQI.1 hd).1;have htl:(ds.take k).length=k:=by rw[aQS];omega
  have hnx:ds.take (k+1)=ds.take k++[d]:=by rw[List.take_add_one,hd];rfl
  refine .inl ⟨904,0,rfl,?_⟩;refine SF [(2,.ref 2 0 0 0),(3,.ref 3 0 0 0),(4,.ref 4 0 0 0),(5,.ref 5 0 0 0),(6,.ref 907 0 0 0)] ((907,tF d)::(926,tF d)::kL s (ds.take k) (.pv (.sl [])) 0 0) hx1 hx2 hx3 hx4 hx5 hx6 rfl rfl rfl ?_ ?_
  ·refine Rg<|Dd (by exact bU (id:=907) rfl aDm rfl rfl)<|Uu (jN FC)<|Zz ?_;exact(cX.wk (Ea<|Ea<|Ea<|Ea<|Ea<|trivial) (Hc (lQ (by simp[sS];exact⟨rfl,rfl,rfl,rfl⟩))<|Hc (xN _ _)<|Hc (xN _ _)<|Hc (cT _ _)<|Ha<|Hc (qO rfl rfl)<|Hc (iX _)<|Hc (qN _ _)<|Hb<|Hb<|Hb<|trivial) ⟨rfl,rfl,rfl,rfl,rfl,rfl,rfl,rfl,rfl,rfl,trivial⟩)
  refine aF<|Sq<|aF<|Sr<|Dd (aT rC)<|Dd (bF lN)<|Dd wM<|Da ?_;refine Cn ?_ ?_<;>intro hc2
  ·have he:d.err≠0:=by have h:=hc2;rw[aQX,aQM]at h;exact h
   have h0:qT ds k=false:=by rw[hok,decide_eq_false he];rfl
   rw[h0,aQC (by decide),aQD he];refine Sq<|aO follows<|Cr [907] (fun _ h=>fh rC h)<|Cr [907] (fun _ h=>lh lN h)<|Cr [907] (fun _ h=>fh nF h)<|Cr [907] (fun _ h=>fh K4 h)<|Cr [907] (fun _ h=>lh isAgg3 h)<|Cp [2] (fun H1 hH=>by exact cO rfl mK rfl rfl rfl rfl ((hH _ rfl).trans rfl) rfl rfl rfl)<|Cp [3] (fun H1 hH=>by exact cO rfl sizeOf41 rfl rfl rfl rfl ((hH _ rfl).trans rfl) rfl rfl rfl)<|Cp [4] (fun H1 hH=>by exact cO rfl sizeOf3 rfl rfl rfl rfl ((hH _ rfl).trans rfl) rfl rfl rfl)<|bM<|Kr<|aB ?_;exact⟨(926,tF d)::kL s (ds.take k) (.pv (.sl [])) d.err d.pos,(cX.wk trivial (Hc (lQ (by simp[sS];exact⟨rfl,rfl,rfl,rfl⟩))<|Hc (xN _ _)<|Hc (cT _ _)<|Ha<|Hc (qO rfl rfl)<|Hc (iX _)<|Hc (qN _ _)<|Hb<|Hb<|Hb<|trivial) ⟨rfl,rfl,rfl,rfl,rfl,rfl,rfl,rfl,rfl,rfl,trivial⟩),rfl,rfl⟩
  have he:d.err=0:=by have h:=hc2;rw[Bool.not_eq_false',aQL]at h;exact h
  refine Sr<|Dd (bF lS)<|Dd (by exact eG rfl iE rfl rfl rfl)<|Dd cN<|Da ?_;refine Cn ?_ ?_<;>intro hc3
  ·have hk5:k=5000:=by have:=aQA hc3;omega
   have h0:qT ds k=false:=by rw[hok,decide_eq_true he,decide_eq_true hk5];rfl
   rw[h0,aQC (by decide),aQC (fun h=>h he)];refine Sq<|aO follows<|Cr [907] (fun _ h=>fh nF h)<|Cr [907] (fun _ h=>fh K4 h)<|Cr [907] (fun _ h=>lh isAgg3 h)<|Cp [2] (fun H1 hH=>by exact cO rfl mK rfl rfl rfl rfl ((hH _ rfl).trans rfl) rfl rfl rfl)<|Cp [3] (fun H1 hH=>by exact cO rfl sizeOf41 rfl rfl rfl rfl ((hH _ rfl).trans rfl) rfl rfl rfl)<|Cp [4] (fun H1 hH=>by exact cO rfl sizeOf3 rfl rfl rfl rfl ((hH _ rfl).trans rfl) rfl rfl rfl)<|bM<|Kr<|aB ?_;exact⟨(926,tF d)::kL s (ds.take k) (.pv (.sl [])) 2 d.pos,(cX.wk trivial (Hc (lQ (by simp[sS];exact⟨rfl,rfl,rfl,rfl⟩))<|Hc (xN _ _)<|Hc (cT _ _)<|Ha<|Hc (qO rfl rfl)<|Hc (iX _)<|Hc (qN _ _)<|Hb<|Hb<|Hb<|trivial) ⟨rfl,rfl,rfl,rfl,rfl,rfl,rfl,rfl,rfl,rfl,trivial⟩),rfl,rfl⟩
  have hk5:¬ k=5000:=by have:=aQB hc3;omega
  have h0:qT ds k=true:=by rw[hok,decide_eq_true he,decide_eq_false hk5];rfl
  rw[h0,aQD rfl,hnx,aF9];refine aC<|Rg<|Dd (bF lS)<|Dd (aT nF)<|Dd (mD YL sizeOf187)<|Dd (by exact aQ [eU d] rfl oJ rfl rfl rfl rfl rfl (by intro r hr;rw[aQH]at hr;subst hr;rfl))<|Dd (by exact cJ (ps:=[eU d]) rfl oJ aGC rfl rfl rfl rfl rfl (zY _) rfl (by intro r hr;rw[aQH]at hr;subst hr;rfl) (m:=1) rfl (by omega) rfl (EG (ds.take k) d))<|Uu (jN mK)<|Zz ?_;exact⟨(926,tF d)::[(905,⟨(ds.take k).length+1,3,187,lF (ds.take k++[d])⟩),(5,bx 1 182 [.osl 905 ((ds.take k).length+1) 0 ((ds.take k).length+1)]),(924,tA),(923,tC),(921,tS s),(4,bx 1 3 [iv 0]),(3,bx 1 41 [iv 0]),(2,bx 1 182 [.pv (.sl [])])],(cX.wk trivial (Hc (lQ (by simp[sS];exact⟨rfl,rfl,rfl,rfl⟩))<|Hc (xN _ _)<|Hc (cT _ _)<|Ha<|Hc (qO rfl rfl)<|Hc (iX _)<|Hc (qN _ _)<|Hb<|Hb<|Hb<|trivial) ⟨rfl,rfl,rfl,rfl,rfl,rfl,rfl,rfl,rfl,rfl,trivial⟩),rfl,rfl⟩
 rcases Nat.lt_or_ge j ds.length with hlt|hge
 ·obtain ⟨f,hf⟩:=aU hlt;have hbad:=hj3 hlt;have hdj:ds.drop j=f::ds.drop (j+1):=by
   rw[List.drop_eq_getElem_cons hlt];rw[aQJ hlt]at hf;cases hf;rfl
  have hres:jJ s=([],(if f.err≠0 then f.err else 2),(f.pos:Int)):=by
   rw[hg,hrun,hdj,mY]
   split
   ·rfl
   rename_i he;have he0:f.err=0:=by
    by_cases h:f.err=0
    ·exact h
    exact absurd h he
   rw[F9 hf,decide_eq_true he0,Bool.true_and,Bool.not_eq_false',aQL]at hbad;rw[aQD (by rw[aQS];omega)]
  rw[hres];refine(HJ s (.yld 904 0) (fun k=>if k<=j then(904,LR x sS)::kL s (ds.take k) (.pv (.sl [])) 0 0 else(904,LR (left x .ret) sS)::kL s (ds.take j) (.pv (.sl [])) (if f.err≠0 then f.err else 2) f.pos) (qT ds) (j+1) hs (fun k=>?_) (fun k=>?_) (fun k=>?_) (fun k=>?_) (fun k=>?_) (fun k=>?_) (by rw[<-hds];exact hlt) (fun k hk=>hj2 k (by omega)) (.inr ⟨Nat.succ_pos _,by rw[Nat.add_sub_cancel];exact hbad⟩) ?_).mono ?_
  ·split<;>rfl
  ·split<;>rfl
  ·split<;>rfl
  ·split<;>rfl
  ·split
   ·exact(eI.ofL ⟨(by exact lQ (by simp[sS];exact⟨rfl,rfl,rfl,rfl⟩)),(by exact cT _ _),(by(simp;rfl)),(by exact qO rfl rfl),(by exact iX _),(by exact qN _ _),(by(simp;done)),(by(simp;done)),(by(simp;done)),trivial⟩)
   exact(eI.ofL ⟨(by exact lQ (by simp[sS];exact⟨rfl,rfl,rfl,rfl⟩)),(by exact cT _ _),(by(simp;rfl)),(by exact qO rfl rfl),(by exact iX _),(by exact qN _ _),(by(simp;done)),(by(simp;done)),(by(simp;done)),trivial⟩)
  ·split<;>(simp;rfl)
  ·rw[<-hds];intro k d hd hk;have hr:=hround k d hd (by omega);rw[aQD (by omega)];by_cases hkj:k=j
   ·subst hkj;rw[hf]at hd;cases hd;rw[hbad,aQC (by decide)]at hr;rw[aQC (by omega),hbad];exact dN.congrG hr (fun j=>oZ (by decide) j) (fun j=>oZ (by decide) j)
   have hok:=hj2 k (by omega);rw[hok,aQD rfl]at hr;rw[aQD (by omega),hok];exact dN.congrG hr (fun j=>oZ (by decide) j) (fun j=>oZ (by decide) j)
  rintro r H' ⟨rfl,rfl⟩;rw[aQC (by omega)];refine⟨left x .ret,_,rfl,by simp[left],rfl,fun z=>?_⟩;show JC _ _ _ _ _ _ _;refine BM (H':=[]) (.inr rfl) rfl (gP rfl lS rfl rfl rfl rfl) (gP rfl lN rfl rfl rfl rfl) (gP rfl isAgg3 rfl rfl rfl rfl) (Fin.wk (by simp) trivial trivial) ?_;exact Qq
 have hje:j=ds.length:=Nat.le_antisymm hj1 hge;rw[hje,List.take_length,List.drop_length]at hrun;rw[hg,hrun,mY];refine(HJ s (.yld 904 0) (fun k=>(904,LR x sS)::kL s (ds.take k) (.pv (.sl [])) 0 0) (qT ds) ds.length hs (fun k=>rfl) (fun k=>rfl) (fun k=>rfl) (fun k=>rfl) (fun k=>(eI.ofL ⟨(by exact lQ (by simp[sS];exact⟨rfl,rfl,rfl,rfl⟩)),(by exact cT _ _),(by(simp;rfl)),(by exact qO rfl rfl),(by exact iX _),(by exact qN _ _),(by(simp;done)),(by(simp;done)),(by(simp;done)),trivial⟩)) (fun k=>by simp;rfl) (by rw[<-hds];exact aQK _) (fun k hk=>hj2 k (by omega)) (.inl (by rw[<-hds])) ?_).mono ?_
 ·rw[<-hds];intro k d hd hk;have hr:=hround k d hd (by omega);have hok:=hj2 k (by omega);rw[hok,aQD rfl]at hr;rw[hok];exact dN.congrG hr (fun j=>oZ (by decide) j) (fun j=>oZ (by decide) j)
 rintro r H' ⟨rfl,rfl⟩;rw[List.take_length];refine⟨x,_,rfl,by rw[hx1];decide,rfl,fun z=>?_⟩;rw[hx2];refine Sr<|Dd (bF lS)<|Uu (jN mK)<|Uu (jN sizeOf41)<|Uu (jN sizeOf3)<|Zz<|aB ?_;refine BM (H':=[]) (.inr rfl) rfl (gP rfl lS rfl rfl rfl rfl) (gP rfl lN rfl rfl rfl rfl) (gP rfl isAgg3 rfl rfl rfl rfl) (Fin.fz (r':=.tup [.pv (SR ds),iv 0,iv 0]) (id:=905) (ob:=⟨ds.length,3,187,lF ds⟩) (ds.map eU) rfl (by rw[List.map_map];rfl) (.tup rfl (dF (.osl (qs:=ds.map eU) (by rw[aQW,List.drop_zero];exact List.take_of_length_le (Nat.le_of_eq (aQE eU)))) (dF (.same (by simp)) (dF (.same (by simp)) oO)))) rfl trivial trivial) ?_;exact Qq
def AA:List GFound->Option (List GTag)
 | []=>some []
 |a::_::c::r=>(AA r).map fun l=>⟨a.text,c.text⟩::l
 |_=>none
def P9(l:List GFound)(k:Nat):GTag:=⟨((l[3*k]?).map GFound.text).getD sNil,((l[3*k+2]?).map GFound.text).getD sNil⟩
def eT(l:List GFound)(k:Nat):List GTag:=(List.range k).map (P9 l)
theorem CO(l:List GFound)(k:Nat):eT l (k+1)=eT l k++[P9 l k]:=by rw[eT,List.range_succ,List.map_append];rfl
theorem D8(l:List GFound)(k:Nat):(eT l k).length=k:=by rw[eT,aQE,List.length_range]
def tU(l:List GTag):List (List AV):=l.map fun t=>(bQ t).map AV.pv
theorem LK(l:List GTag):(tU l).length=l.length:=aQE _
theorem LM(l:List GTag)(t:GTag):tU l++[(bQ t).map AV.pv]=tU (l++[t]):=by rw[tU,tU,List.map_append];rfl
theorem lW(H:aH)(l:List GTag):∀r∈tU l,∀a∈r,Clo H a:=by intro r hr a ha;obtain ⟨d,_,rfl⟩:=List.mem_map.1 hr;obtain ⟨p,_,rfl⟩:=List.mem_map.1 ha;simp
theorem NF:∀(r acc:List GFound),(mY acc r).1.length<=acc.length+r.length
 | [],acc=>aQK _
 |f::r,acc=>by
  rw[mY]
  split
  ·exact aQV _
  split
  ·exact aQV _
  have:=NF r (acc++[f]);rw[aQF,List.length_singleton]at this;rw[aQG];omega
theorem GF(s:ByteArray)(h:s.size<1099511627776):(jJ s).1.length<549755813888:=by
 unfold jJ
 split
 ·decide
 have h1:=NF (nU s (s.size+1) 0) [];have h2:=B2 s (s.size+1) 0;rw[List.length_nil]at h1;omega
theorem bD(s:ByteArray):s.data.toList.length=s.size:=by simp
theorem rF{a b:ByteArray}(h:a.data.toList=b.data.toList):a=b:=by cases a with|mk a=>cases b with|mk b=>cases a;cases b;simp at h;rw[h]
theorem iI(s:ByteArray)(i j:Nat):(s.extract i j).data.toList=(s.data.toList.drop i).take (j - i):=by rw[ByteArray.data_extract,Array.toList_extract,List.extract_eq_take_drop]
theorem zL(h:s.data.toList.drop i=c::r):i<s.size/\cR s i=(c.toNat:Int)/\s.data.toList.drop (i+1)=r:=by obtain ⟨h1,h2⟩:=NJ h;refine⟨by rw[<-bD];exact(aQI.1 h1).1,by rw[cR,h1];rfl,h2⟩
theorem E5(h:s.data.toList.drop i=c::r):uH s i=CV (c.toNat:Int):=by obtain ⟨h1,h2,_⟩:=zL h;rw[uH,aQD h1,h2]
theorem aBm(h:s.data.toList.drop i=[]):uH s i=0:=by have:=List.drop_eq_nil_iff.1 h;rw[bD]at this;rw[uH,aQC (by omega)]
theorem jU(h:s.data.toList.drop i=w++r):s.data.toList.drop (i+w.length)=r:=by rw[<-List.drop_drop,h,List.drop_left]
theorem aBb(h:s.data.toList.drop i=w++r)(hk:w[k]?=some c):s.data.toList.drop (i+k)=c::((w.drop (k+1))++r):=by
 have hlt:=(aQI.1 hk).1;have e:w=w.take k++c::w.drop (k+1):=by
  conv=>lhs;rw[<-List.take_append_drop k w]
  rw[List.drop_eq_getElem_cons hlt,(aQI.1 hk).2]
 have h2:s.data.toList.drop i=w.take k++(c::w.drop (k+1)++r):=by
  rw[h];exact(congrArg (·++r) e).trans (List.append_assoc _ _ _)
 have h3:=jU h2;rw[aQS,Nat.min_eq_left (by omega)]at h3;exact h3
theorem CQ(h:s.data.toList.drop i=w++r):s.extract i (i+w.length)=⟨w.toArray⟩:=by refine rF ?_;rw[iI,h,Nat.add_sub_cancel_left,List.take_left]
theorem CP:(s.extract i s.size).data.toList=s.data.toList.drop i:=by rw[iI];exact List.take_of_length_le (by rw[aQT,bD];exact aQK _)
theorem AQ{k:ByteArray}(h:bT k=true):0<k.size/\k.size<=24/\CV (cR k 0)=3/\∀j,j<k.size->(CV (cR k j)=3\/CV (cR k j)=4\/CV (cR k j)=5):=by
 rw[bT,aQN,aQN,aQX,aQX,List.any_eq_false,aQM,aQL]at h;obtain ⟨h1,h2,h3⟩:=h;have hpos:0<k.size:=by
  rcases Nat.eq_zero_or_pos k.size with e|e
  ·refine absurd (rF ?_) h2;rw[<-bD]at e;rw[List.length_eq_zero_iff.1 e]
  exact e
 have hb:∀j,j<k.size->PU k j=false:=fun j hj=>by
  have:=h1 j (List.mem_range.2 hj)
  simpa using this
 refine⟨hpos,by omega,?_,fun j hj=>?_⟩
 ·have:=hb 0 hpos
  simpa[PU]using this
 have:=hb j hj;rw[PU]at this;by_cases e1:CV (cR k j)=3
 ·exact .inl e1
 by_cases e2:CV (cR k j)=4
 ·exact .inr (.inl e2)
 by_cases e3:CV (cR k j)=5
 ·exact .inr (.inr e3)
 simp[e1,e2,e3]at this
theorem aId{k:ByteArray}(h:j<k.size):∃c,k.data.toList[j]?=some c/\cR k j=(c.toNat:Int):=by rw[<-bD]at h;exact⟨_,aQJ h,by rw[cR,aQJ h];rfl⟩
theorem aCL{k:ByteArray}(h:s.data.toList.drop i=k.data.toList++r)(hk:bT k=true)(hr:∀c r',r=c::r'->CV (c.toNat:Int)≠3/\CV (c.toNat:Int)≠4/\CV (c.toNat:Int)≠5):
  jQ s i=(some ⟨1,k,i,0⟩,i+k.size):=by
 obtain ⟨hpos,hle,h0,hall⟩:=AQ hk;have hat:∀j,j<k.size->uH s (i+j)=CV (cR k j):=fun j hj=>by
  obtain ⟨c,hc,e⟩:=aId hj;rw[E5 (aBb h hc),e]
 have hlen:i+k.size<=s.size:=by
  have:=congrArg List.length h;rw[aQT,aQF,bD,bD]at this;omega
 have ha0:uH s i=3:=by
  have:=hat 0 hpos;rw[Nat.add_zero,h0]at this;exact this
 have hend:KE s i=i+k.size:=by
  refine FQ (B7 s) (by omega) (by omega) (fun j h1 h2=>?_) ?_
  ·have:=hat (j - i) (by omega);rw[show i+(j - i)=j by omega]at this;rw[B7,this];rcases hall (j - i) (by omega)with e|e|e<;>rw[e]<;>rfl
  left;have hd:=jU h;rw[bD]at hd;cases r with
  |nil=>rw[B7,aBm hd];rfl
  |cons c r' =>
   obtain ⟨e1,e2,e3⟩:=hr c r' rfl;rw[B7,E5 hd,decide_eq_false e1,decide_eq_false e2,decide_eq_false e3];rfl
 have hex:=CQ h;rw[bD]at hex;have hkk:(⟨k.data.toList.toArray⟩:ByteArray)=k:=rF (by simp);rw[jQ,aQC (by rw[ha0];decide),aQC (by rw[ha0];decide),aQD ha0,hend,EV,hex,hkk,aQC (by omega)]
theorem aHY(h:s.data.toList.drop i=32::r):jQ s i=(none,i+1):=by
 have ha:uH s i=1:=by rw[E5 h];rfl
 rw[jQ,aQD ha]
theorem U8:∀(v r:List UInt8),qM (v.flatMap nW++34::r)=some (v,(v.flatMap nW).length+1)
 | [],r=>LG
 | b::v,r=>by
  have ih:=U8 v r;rw[List.flatMap_cons,List.append_assoc,aQF];by_cases h1:b=10
  ·have e:nW b=[92,110]:=by rw[nW,aQD h1]
   rw[e];show qM (92::110::(v.flatMap nW++34::r))=_;rw[KH,ih,h1];show some (10::v,_)=some (10::v,_);congr 2;show (v.flatMap nW).length+1+2=2+_+1;omega
  by_cases h2:b=34\/b=92
  ·have e:nW b=[92,b]:=by rw[nW,aQC h1,aQD h2]
   have hu:CJ b=some b:=by
    rcases h2 with e|e<;>subst e<;>rfl
   rw[e];show qM (92::b::(v.flatMap nW++34::r))=_;rw[KH,ih,hu];show some (b::v,_)=some (b::v,_);congr 2;show (v.flatMap nW).length+1+2=2+_+1;omega
  have e:nW b=[b]:=by rw[nW,aQC h1,aQC h2]
  have h3:b≠34/\b≠92:=⟨fun e=>h2 (.inl e),fun e=>h2 (.inr e)⟩;rw[e];show qM (b::(v.flatMap nW++34::r))=_;rw[LH h3.1 h1 h3.2,ih];show some (b::v,_)=some (b::v,_);congr 2;show (v.flatMap nW).length+1+1=1+_+1;omega
theorem VG{v:ByteArray}(h:s.data.toList.drop i=eE v.data.toList++r):jQ s i=(some ⟨3,v,i,0⟩,i+(eE v.data.toList).length):=by
 have h':s.data.toList.drop i=34::(v.data.toList.flatMap nW++34::r):=by rw[h,eE];simp
 have ha:uH s i=7:=by rw[E5 h'];rfl
 have hu:A1 (s.extract i s.size)=(v,(((v.data.toList.flatMap nW).length+1+1:Nat):Int)):=by
  rw[A1,CP,h',List.drop_succ_cons,List.drop_zero,U8]
 have hs:PH s i=(⟨3,v,i,0⟩,i+(eE v.data.toList).length):=by
  rw[PH,hu,aQD (by show (0:Int)<((_:Nat):Int);omega)];congr 1;show i+_=i+_;congr 1;rw[aQP,eE,aQG,aQF,List.length_singleton]
 rw[jQ,aQC (by rw[ha];decide),aQC (by rw[ha];decide),aQC (by rw[ha];decide),aQC (by rw[ha];decide),aQD ha,hs]
def RD(t:GTag):List UInt8:=t.key.data.toList++61::eE t.val.data.toList
theorem IC(t:GTag):(gU t).data.toList=RD t:=by rw[gU,RD];simp
def oX(l:List GTag):List UInt8:=l.flatMap fun t=>32::RD t
def YD(T:List GFound)(l:List GTag):Prop:=AA T=some l/\(∀f,f∈T->f.err=0)/\T.length=3*l.length
theorem YD.cons{T:List GFound}{l:List GTag}{a b c:GFound}(h:YD T l)(ha:a.err=0)(hb:b.err=0)(hc:c.err=0):YD (a::b::c::T) (⟨a.text,c.text⟩::l):=by
 obtain ⟨h1,h2,h3⟩:=h;refine⟨by rw[AA,h1];rfl,fun f hf=>?_,by rw[aQG,aQG,aQG,aQG,h3];omega⟩;rcases aQQ.1 hf with rfl|hf
 ·exact ha
 rcases aQQ.1 hf with rfl|hf
 ·exact hb
 rcases aQQ.1 hf with rfl|hf
 ·exact hc
 exact h2 f hf
theorem P7(t:GTag)(l:List GTag):(JT (t::l)).data.toList=RD t++oX l:=by show bZ [32] (bs ((t::l).map gU))=_;rw[bs,List.map_map,List.map_cons,bZ];show (gU t).data.toList++_=_;rw[IC,oX,List.flatMap_map];congr 1;congr 1;funext x;show [32]++(gU x).data.toList=_;rw[IC];rfl
theorem IE:∀(T acc:List GFound),(∀f,f∈T->f.err=0)->acc.length+T.length<=5000->mY acc T=(acc++T,0,0)
 | [],acc,_,_=>by rw[mY,List.append_nil]
 |f::T,acc,h,hl=>by
  rw[aQG]at hl;rw[mY,aQC (fun e=>e (h f List.mem_cons_self)),aQC (by omega),IE T (acc++[f]) (fun g hg=>h g (List.mem_cons_of_mem _ hg)) (by rw[aQF,List.length_singleton];omega),List.append_assoc];rfl
end Go.Proofs.YtmdicgjnmfolfaaGreatDoor
namespace Go.Abs
def fO(c:UInt8):List UInt8->List (List UInt8)
 | []=>[[]]
 |b::l=>if b=c then[]::fO c l else((b::(fO c l).headD [])::(fO c l).tail)
theorem AD(c:UInt8)(l:List UInt8):0<(fO c l).length:=by
 cases l with
 |nil=>exact Nat.zero_lt_one
 |cons b l=>rw[fO];split<;>simp
theorem sM{c:UInt8}:∀ {w:List UInt8},c∉w->fO c w=[w]
 | [],_=>rfl
 |b::w,h=>by
  rw[aQQ,not_or]at h;rw[fO,aQC (fun e=>h.1 e.symm),sM h.2];rfl
theorem nM{c:UInt8}{l:List UInt8}:∀ {w:List UInt8},c∉w->fO c (w++c::l)=w::fO c l
 | [],_=>by rw[List.nil_append,fO,aQD rfl]
 |b::w,h=>by
  rw[aQQ,not_or]at h;rw[List.cons_append,fO,aQC (fun e=>h.1 e.symm),nM h.2];rfl
theorem uR(c:UInt8):∀l:List UInt8,(fO c l).length=l.count c+1
 | []=>rfl
 |b::l=>by
  have ih:=uR c l;rw[fO];by_cases h:b=c
  ·rw[aQD h,aQG,ih,h,List.count_cons_self]
  rw[aQC h,aQG,List.length_tail,ih,List.count_cons_of_ne h];omega
def lI:List UInt8->List (List UInt8)
 | []=>[]
 |b::l=>if b=10 then[10]::lI l else match lI l with
  | []=>[[b]]
  |w::r=>(b::w)::r
theorem ER{l:List UInt8}:∀ {w:List UInt8},(10:UInt8)∉w->lI (w++10::l)=(w++[10])::lI l
 | [],_=>by rw[List.nil_append,lI,aQD rfl];rfl
 |b::w,h=>by
  rw[aQQ,not_or]at h;rw[List.cons_append,lI,aQC (fun e=>h.1 e.symm),ER h.2];rfl
theorem JP:∀ {w:List UInt8},(10:UInt8)∉w->w≠[]->lI w=[w]
 | [],_,h=>absurd rfl h
 |b::w,h,_=>by
  rw[aQQ,not_or]at h;rw[lI,aQC (fun e=>h.1 e.symm)];by_cases e:w=[]
  ·subst e;rfl
  rw[JP h.2 e]
theorem D6:∀ {ls:List (List UInt8)},(∀w∈ls,(10:UInt8)∉w)->lI (ls.flatMap (·++[10]))=ls.map (·++[10])
 | [],_=>rfl
 |w::ls,h=>by
  rw[List.flatMap_cons,List.append_assoc,List.singleton_append,ER (h w List.mem_cons_self),D6 fun x hx=>h x (List.mem_cons_of_mem _ hx)];rfl
theorem vO{c:UInt8}:∀ {l:List UInt8},Lib.indexByte l c = -1↔c∉l
 | []=>by simp[Lib.indexByte]
 | b::l=>by
  have ih:=vO (c:=c) (l:=l);have hg:=Lib.indexByte_ge l c;rw[Lib.indexByte];by_cases h:b=c
  ·subst h;simp
  simp only[beq_iff_eq,h,if_false,aQQ,not_or];constructor
  ·intro h2
   split at h2
   ·exact⟨fun e=>h e.symm,ih.1 (by assumption)⟩
   omega
  rintro⟨_,h2⟩;rw[ih.2 h2];rfl
theorem vP{c:UInt8}:∀ {l:List UInt8},Lib.indexByte l c ≠ -1->∃w r,l=w++c::r/\c∉w/\Lib.indexByte l c=(w.length:Int)
 | [],h=>absurd rfl h
 |b::l,h=>by
  by_cases e:b=c
  ·subst e;exact⟨[],l,rfl,by simp,by simp[Lib.indexByte]⟩
  have e1:Lib.indexByte l c ≠ -1:=fun e2=>h (by rw[Lib.indexByte];simp[e,e2]);obtain ⟨w,r,h1,h2,h3⟩:=vP e1;refine⟨b::w,r,by rw[h1];rfl,by rw[aQQ,not_or];exact⟨fun x=>e x.symm,h2⟩,?_⟩;rw[Lib.indexByte];simp only[beq_iff_eq,e,if_false,e1,h3,aQG];rw[aQC (by omega)]
  push_cast
  rfl
end Go.Abs
namespace Go.Abs
open Go.Lib
theorem aBd{d:Nat}(h:d<10):digitVal (UInt8.ofNat (48+d))=some d:=by
 have e:(UInt8.ofNat (48+d)).toNat=48+d:=by rw[UInt8.toNat_ofNat'];omega
 rw[digitVal,e,aQD (by omega)];congr 1;omega
theorem A6{b:UInt8}{d:Nat}(hb:digitVal b=some d):∀(l:List UInt8) (acc:Nat),decFrom acc (l++[b])=(decFrom acc l).map fun n=>n*10+d
 | [],acc=>by
  simp[decFrom,hb]
 |c::l,acc=>by
  rw[List.cons_append,decFrom,decFrom];cases h:digitVal c with
  |none=>rfl
  |some x=>exact A6 hb l _
theorem uG(u:Nat):decDigits u≠[]:=by
 rw[decDigits]
 split
 ·simp
 simp
theorem CS(u:Nat):decFrom 0 (decDigits u)=some u:=by
 induction u using Nat.strongRecOn with
 |ind u ih =>
  rw[decDigits]
  split
  ·rename_i h;rw[<-List.nil_append [_],A6 (aBd h)];simp[decFrom]
  rename_i h;rw[A6 (aBd (Nat.mod_lt u (by decide))),ih (u / 10) (by omega)];simp only[Option.map_some];congr 1;omega
theorem rW{b:UInt8}:∀(u:Nat),b∈decDigits u->48<=b.toNat/\b.toNat<=57:=by
 intro u
 induction u using Nat.strongRecOn with
 |ind u ih =>
  rw[decDigits]
  split
  ·rename_i h;intro hb;rw[aQH]at hb;subst hb;rw[UInt8.toNat_ofNat'];omega
  rename_i h;intro hb;rcases List.mem_append.1 hb with hb|hb
  ·exact ih (u / 10) (by omega) hb
  rw[aQH]at hb;subst hb;rw[UInt8.toNat_ofNat'];omega
theorem iU(n:Int)(h:0<=n):itoa n=decDigits n.toNat:=by rw[itoa,aQC (by omega)]
theorem aD0{n:Int}(h:0<=n):atoi (itoa n)=some n:=by
 rw[iU n h];obtain ⟨u,hu⟩:∃u,u=n.toNat:=⟨_,rfl⟩;rw[<-hu];have hd:=CS u;have hm:∀b∈decDigits u,48<=b.toNat/\b.toNat<=57:=fun b=>rW u;cases e:decDigits u with
 |nil=>exact absurd e (uG u)
 |cons b r =>
  have hb:=hm b (by rw[e];exact List.mem_cons_self);have e2:decNat (b::r)=some u:=by rw[decNat,<-e,hd];simp[uG]
  unfold atoi;simp only[e2];have h43:b≠43:=fun h=>by rw[h]at hb;exact absurd hb.1 (by decide)
  have h45:b≠45:=fun h=>by rw[h]at hb;exact absurd hb.1 (by decide)
  split<;>simp_all
  omega
theorem dY:∀ {k u:Nat},u<10 ^ k->0<k->(decDigits u).length<=k
 |0,_,_,h=>absurd h (Nat.lt_irrefl 0)
 | k+1,u,h,_=>by
  rw[decDigits]
  split
  ·simp
  rename_i h1;rw[aQF,List.length_singleton];have hk:0<k:=by
   rcases Nat.eq_zero_or_pos k with e|e
   ·subst e;omega
   exact e
  have hd:u / 10<10 ^ k:=by rw[Nat.pow_succ]at h;omega
  have:=dY hd hk;omega
theorem BA{n:Int}(h:0<=n)(h2:n<1000000000000000000):atoiAll (itoa n)=.ok n:=by
 have hl:(itoa n).length<=18:=by
  rw[iU n h];exact dY (by omega) (by decide)
 rw[atoiAll_short _ hl,aD0 h];rfl
end Go.Abs
namespace Go.Proofs.YtmdicgjnmfolfaaGreatDoor
open Go.Proofs.Tryz
open Go.Abs
variable{s k:ByteArray}{i:Nat}{w r L:List UInt8}{T:List GFound}{x:Int}{o:GObj}{b:UInt8}{l:List GTag}
def nD(o:GObj):List UInt8:=(eP o.kind).data.toList++32::(o.id.data.toList++32::(if o.kind=1 then Lib.itoa o.x++32::Lib.itoa o.y else 40::(bZ [32] (bs o.refs)++[41])))
def tZ(o:GObj):List UInt8:=nD o++oX o.tags
def vE(o:GObj):ByteArray:=⟨(tZ o).toArray⟩
def fY(o:GObj):ByteArray×Int:=if lV o then(if 0<o.tags.length/\(iL o.tags).2≠0 then(sNil,(iL o.tags).2)else if 20000<(vE o).size then(sNil,2)else(vE o,0))else(sNil,1)
def atV(s:ByteArray):Int:=match Lib.atoiAll s.data.toList with
 |.ok v=>v
 |.range=>Lib.atoiSat s.data.toList
 |_=>0
def noF:GFound:=⟨0,sNil,0,0⟩
def sP(T:List GFound):List GFound:=T++List.replicate (4 - T.length) noF
def JQ(s:ByteArray):Int:=if s=eP 5 then 5 else if s=eP 4 then 4 else if s=eP 3 then 3 else if s=eP 2 then 2 else if s=eP 1 then 1 else 0
def jB(f:GFound):Bool:=decide (f.text=⟨#[41]⟩)&&decide (f.kind=4)
def oV:List GFound->List GTag
 |a::_::c::r=>⟨a.text,c.text⟩::oV r
 |_=>[]
theorem LP:∀ {T:List GFound} {l:List GTag},AA T=some l->oV T=l
 | [],l,h=>by rw[AA]at h;cases h;rfl
 | [_],l,h=>by rw[AA]at h<;>(cases h;done)
 | [_,_],l,h=>by rw[AA]at h<;>(cases h;done)
 | a::b::c::r,l,h=>by
  rw[AA]at h;cases e:AA r with
  |none=>rw[e]at h;cases h
  |some q =>
   rw[e]at h;cases h;rw[oV,LP e]
def mZ(T:List GFound):GObj :=if JQ ((sP T).getD 0 noF).text=1 then⟨((sP T).getD 1 noF).text,1,atV ((sP T).getD 2 noF).text,atV ((sP T).getD 3 noF).text,[],oV ((sP T).drop 4)⟩
 else if xR jB (sP T)<3 then zObj
 else⟨((sP T).getD 1 noF).text,JQ ((sP T).getD 0 noF).text,0,0,(((sP T).take (xR jB (sP T)).toNat).drop 3).map GFound.text,oV ((sP T).drop ((xR jB (sP T)).toNat+1))⟩
def FE(s:ByteArray)(i:Nat)(r:List UInt8)(T:List GFound):Prop:=∀n,r.length<=n->nU s n i=T
theorem GY{j:Nat}{f:GFound}(hs:jQ s i=(some f,j))(hf:f.err=0)(hi:i<s.size)(hw:0<w.length)(hT:FE s j r T):FE s i (w++r) (f::T):=by intro n hn;rw[aQF]at hn;obtain ⟨m,rfl⟩:∃m,n=m+1:=⟨n - 1,by omega⟩;rw[nU,aQD hi,hs];show f::(if f.err=0 then nU s m j else[])=_;rw[aQD hf,hT m (by omega)]
theorem E6(h:s.data.toList.drop i=32::r)(hT:FE s (i+1) r T):FE s i (32::r) T:=by intro n hn;rw[aQG]at hn;obtain ⟨m,rfl⟩:∃m,n=m+1:=⟨n - 1,by omega⟩;rw[nU,aQD (zL h).1,aHY h];exact hT m (by omega)
theorem all_nil(h:s.data.toList.drop i=[]):FE s i [] []:=by
 intro n _;have hge:¬ i<s.size:=by
  have:=List.drop_eq_nil_iff.1 h;rw[bD]at this;omega
 cases n with
 |zero=>rfl
 |succ n=>rw[nU,aQC hge]
theorem vJ(h:s.data.toList.drop i=w++r)(hw:0<w.length):i<s.size:=by
 rcases Nat.lt_or_ge i s.size with h1|h1
 ·exact h1
 rw[List.drop_eq_nil_of_le (by rw[bD];exact h1)]at h;have:=congrArg List.length h;rw[List.length_nil,aQF]at this;omega
def FL(r:List UInt8):Prop:=∀c r',r=c::r'->CV (c.toNat:Int)≠3/\CV (c.toNat:Int)≠4/\CV (c.toNat:Int)≠5
theorem aCK:FL []:=fun c r' h=>by cases h
theorem sL(r:List UInt8):FL (32::r):=fun c r' h=>by cases h;exact⟨by decide,by decide,by decide⟩
theorem VE(r:List UInt8):FL (41::r):=fun c r' h=>by cases h;exact⟨by decide,by decide,by decide⟩
theorem wE(h:s.data.toList.drop i=k.data.toList++r)(hk:bT k=true)(hr:FL r)(hT:FE s (i+k.size) r T):FE s i (k.data.toList++r) (⟨1,k,i,0⟩::T):=by have hp:=(AQ hk).1;exact GY (aCL h hk hr) rfl (vJ h (by rw[bD];exact hp)) (by rw[bD];exact hp) hT
theorem UK{c:UInt8}(h:s.data.toList.drop i=c::r)(hc:CV (c.toNat:Int)=6)(hT:FE s (i+1) r T):FE s i (c::r) (⟨4,⟨#[c]⟩,i,0⟩::T):=by
 have ha:uH s i=6:=by rw[E5 h];exact hc
 have hx:=CQ (w:=[c]) (r:=r) h;have hs:jQ s i=(some ⟨4,⟨#[c]⟩,i,0⟩,i+1):=by
  rw[jQ,aQC (by rw[ha];decide),aQC (by rw[ha];decide),aQC (by rw[ha];decide),aQC (by rw[ha];decide),aQC (by rw[ha];decide),aQD ha];rw[List.length_singleton]at hx;rw[hx]
 exact GY (w:=[c]) hs rfl (zL h).1 Nat.zero_lt_one hT
theorem aJC:∀b:UInt8,48<=b.toNat->b.toNat<=57->CV (b.toNat:Int)=4:=by
 intro b h1 h2;have h:∀n:Fin 256,48<=n.val->n.val<=57->CV (n.val:Int)=4:=by decide +kernel
 exact h ⟨b.toNat,b.toNat_lt⟩ h1 h2
theorem aBo(h:s.data.toList.drop i=Lib.itoa x++r)(h0:0<=x)(h1:x<10000000)(hr:FL r)(hT:FE s (i+(Lib.itoa x).length) r T):FE s i (Lib.itoa x++r) (⟨2,aV x,i,0⟩::T):=by
 have hw:=iU x h0;have hne:0<(Lib.itoa x).length:=by rw[hw];exact List.length_pos_iff.2 (uG _)
 have hle:(Lib.itoa x).length<=7:=by rw[hw];exact dY (by omega) (by decide)
 have hat:∀j,j<(Lib.itoa x).length->uH s (i+j)=4:=fun j hj=>by
  have hc:=aQJ hj;rw[E5 (aBb h hc)];have hm:(Lib.itoa x)[j]∈Lib.decDigits x.toNat:=by rw[<-hw];exact List.getElem_mem hj
  obtain ⟨d1,d2⟩:=rW _ hm;exact aJC _ d1 d2
 have hlen:i+(Lib.itoa x).length<=s.size:=by
  have:=congrArg List.length h;rw[aQT,aQF,bD]at this;have:=vJ h hne;omega
 have ha0:uH s i=4:=hat 0 hne;have hd:=jU h;have hstop:uH s (i+(Lib.itoa x).length)≠3/\uH s (i+(Lib.itoa x).length)≠4/\uH s (i+(Lib.itoa x).length)≠5:=by
  cases r with
  |nil=>rw[aBm hd];exact⟨by decide,by decide,by decide⟩
  |cons c r'=>rw[E5 hd];exact hr c r' rfl
 have hend:T5 s i=i+(Lib.itoa x).length:=by
  refine FQ (aCd s) (by omega) (by omega) (fun j h1 h2=>?_) (.inl ?_)
  ·have:=hat (j - i) (by omega);rw[show i+(j - i)=j by omega]at this;rw[aCd,this];rfl
  rw[aCd,decide_eq_false hstop.2.1]
 have hs:jQ s i=(some ⟨2,aV x,i,0⟩,i+(Lib.itoa x).length):=by
  rw[jQ,aQC (by rw[ha0];decide),aQC (by rw[ha0];decide),aQC (by rw[ha0];decide),aQD ha0,hend,NN,CQ h,decide_eq_false hstop.1,decide_eq_false hstop.2.2,decide_eq_false (by omega)];rfl
 exact GY hs rfl (vJ h hne) hne hT
theorem OG{s:ByteArray}:∀(l:List GTag) (i:Nat),(∀t,t∈l->bT t.key=true)->s.data.toList.drop i=oX l->∃T,FE s i (oX l) T/\YD T l
 | [],i,_,h=>⟨[],all_nil h,rfl,(fun f hf=>by cases hf),rfl⟩
 | t::l,i,hk,h=>by
  have hm:oX (t::l)=32::(t.key.data.toList++61::(eE t.val.data.toList++oX l)):=by
   rw[oX,List.flatMap_cons,RD];simp[oX]
  rw[hm]at h |-;have h1:=(zL h).2.2;have h2:=jU h1;rw[bD]at h2;have h3:=(zL h2).2.2;have h4:=jU h3;obtain ⟨T,hT,hR⟩:=OG l _ (fun t ht=>hk t (List.mem_cons_of_mem _ ht)) h4;have hq:0<(eE t.val.data.toList).length:=by rw[eE,aQG];omega
  have b3:=GY (VG h3) rfl (vJ h3 hq) hq hT;have b2:=UK h2 (by decide) b3;have b1:=wE h1 (hk t List.mem_cons_self) (fun c r' e=>by cases e;exact⟨by decide,by decide,by decide⟩) b2;exact⟨_,E6 h b1,YD.cons hR rfl rfl rfl⟩
theorem GH(h:lV o=true):o.kind=1\/o.kind=2\/o.kind=3\/o.kind=4\/o.kind=5:=by have:=aDB h;omega
theorem C1{k:Int}(h:k=1\/k=2\/k=3\/k=4\/k=5):bT (eP k)=true/\JQ (eP k)=k:=by
 rcases h with rfl|rfl|rfl|rfl|rfl
 ·exact⟨by kernel_rfl,by decide⟩
 ·exact⟨by kernel_rfl,by decide⟩
 ·exact⟨by kernel_rfl,by decide⟩
 ·exact⟨by kernel_rfl,by decide⟩
 exact⟨by kernel_rfl,by decide⟩
theorem uY(h:lV o=true):∀s∈o.refs,bT s=true:=fun s hs=>by
 rw[lV,aQN,aQN,aQX,aQX]at h;obtain ⟨i,hi⟩:=aQZ.1 hs;have hlt:=(aQI.1 hi).1;have h1:=List.any_eq_false.1 h.2.1 i (List.mem_range.2 hlt);rw[qL,hi]at h1;simp only[IJ,Bool.or_eq_true,not_or,Bool.not_eq_true,Bool.not_eq_false']at h1;exact h1.2
theorem aBl(h:lV o=true):(0<=o.x/\o.x<1048576)/\(0<=o.y/\o.y<1048576)/\(o.kind=1->o.refs=[])/\(o.kind≠1->o.x=0/\o.y=0):=by
 rw[lV,aQN,aQN]at h;have h:=h.2.2;unfold NP at h
 split at h
 ·rename_i h1;rw[aQN,TZ]at h;simp only[aQN,aQL]at h;refine⟨by omega,by omega,fun _=>List.length_eq_zero_iff.1 (by omega),fun e=>absurd h1 e⟩
 rename_i h1
 split at h<;>simp only[aQN,aQL]at h<;>exact⟨by omega,by omega,fun e=>absurd e h1,fun _=>by omega⟩
theorem YA{s:ByteArray}:∀(l:List ByteArray) (i:Nat) (r:List UInt8) (T:List GFound),(∀k,k∈l->bT k=true)->s.data.toList.drop i=l.flatMap (fun k=>32::k.data.toList)++r->FL r ->
  FE s (i+(l.flatMap fun k=>32::k.data.toList).length) r T->∃R:List GFound,FE s i (l.flatMap (fun k=>32::k.data.toList)++r) (R++T)/\R.map GFound.text=l/\∀f∈R,f.kind=1/\f.err=0
 | [],i,r,T,_,h,_,hT=>⟨[],hT,rfl,(fun f hf=>by cases hf)⟩
 | k::l,i,r,T,hk,h,hr,hT=>by
  have hm:(k::l).flatMap (fun k=>32::k.data.toList)++r=32::(k.data.toList++(l.flatMap (fun k=>32::k.data.toList)++r)):=by
   rw[List.flatMap_cons];simp
  have hln:((k::l).flatMap fun k=>32::k.data.toList).length=1+k.size+(l.flatMap fun k=>32::k.data.toList).length:=by
   rw[List.flatMap_cons,aQF,aQG,bD];omega
  rw[hm]at h |-;have h1:=(zL h).2.2;have h2:=jU h1;rw[bD]at h2;obtain ⟨R,hR,e1,e2⟩:=YA l (i+1+k.size) r T (fun x hx=>hk x (List.mem_cons_of_mem _ hx)) h2 hr (by rw[hln]at hT;rw[show i+1+k.size+(l.flatMap fun k=>32::k.data.toList).length=i+(1+k.size+(l.flatMap fun k=>32::k.data.toList).length)by omega];exact hT);have hst:FL (l.flatMap (fun k=>32::k.data.toList)++r):=by
   cases l with
   |nil=>exact hr
   |cons a l=>rw[List.flatMap_cons];exact sL _
  refine⟨⟨1,k,i+1,0⟩::R,E6 h (wE h1 (hk k List.mem_cons_self) hst hR),by rw[List.map_cons,e1],fun f hf=>?_⟩;rcases aQQ.1 hf with rfl|hf
  ·exact⟨rfl,rfl⟩
  exact e2 f hf
theorem AZ(k:ByteArray)(l:List ByteArray):bZ [32] (bs (k::l))=k.data.toList++l.flatMap (fun k=>32::k.data.toList):=by rw[bs,List.map_cons,bZ,List.flatMap_map];rfl
theorem aFp{α:Type}{p:α->Bool}{c:α}{B:List α}:∀ {A:List α},(∀a,a∈A->p a=false)->p c=true->xR p (A++c::B)=(A.length:Int):=by
 intro A hA hc;have h:(A++c::B).findIdx? p=some A.length:=by
  induction A with
  |nil=>rw[List.nil_append,List.findIdx?_cons,aQD hc];rfl
  |cons a A ih =>
   rw[List.cons_append,List.findIdx?_cons,aQC (by rw[hA a List.mem_cons_self];decide),ih fun x hx=>hA x (List.mem_cons_of_mem _ hx)];rfl
 rw[xR,h]
theorem YX(l:List GTag):FL (oX l):=by
 cases l with
 |nil=>exact aCK
 |cons t l=>rw[oX,List.flatMap_cons];exact sL _
theorem X8(h:0<=x)(h2:x<1000000000000000000):atV (aV x)=x:=by rw[atV];show (match Lib.atoiAll (Lib.itoa x)with|.ok v=>v|.range=>_|_=>0)=x;rw[BA h h2]
theorem aCZ(h:lV o=true)(hk:o.kind≠1):∃k l,o.refs=k::l:=by
 have hk5:=GH h;rw[lV,aQN,aQX,JU,tE]at h;have h1:=h.1;simp only[aQ0,Bool.not_eq_false',aQM]at h1;have h4:=h1.1.2;have hl:1<=CL o.kind:=by
  rcases hk5 with e|e|e|e|e
  ·exact absurd e hk
  ·rw[e];decide
  ·rw[e];decide
  ·rw[e];decide
  rw[e];decide
 cases e:o.refs with
 |nil=>rw[e]at h4;exact absurd (show ((([]:List ByteArray).length:Nat):Int)<CL o.kind by show (0:Int)<_;omega) h4
 |cons k l=>exact⟨k,l,rfl⟩
theorem aBM(h:4<=T.length):sP T=T:=by rw[sP,show 4 - T.length=0 by omega,List.replicate_zero,List.append_nil]
theorem aCl(o:GObj):(vE o).data.toList.drop 0=tZ o:=rfl
theorem aBO{i:ByteArray}{k y:Int}{r:List ByteArray}{t:List GTag}(h1:o.id=i)(h2:o.kind=k)(h3:o.x=x)(h4:o.y=y)(h5:o.refs=r)(h6:o.tags=t):(⟨i,k,x,y,r,t⟩:GObj)=o:=by subst h1 h2 h3 h4 h5 h6;rfl
theorem aE4(hg:lV o=true):∃T,FE (vE o) 0 (tZ o) T/\(∀f,f∈T->f.err=0)/\T.length<=5000/\mZ T=o:=by
 obtain ⟨hr,ht,htg,hid,_⟩:=CK hg;obtain ⟨hx,hy,hn,hz⟩:=aBl hg;obtain ⟨hw,hkw⟩:=C1 (GH hg);have hkey:∀t,t∈o.tags->bT t.key=true:=fun t h=>((zH.1 htg).1 t h).1;have h0:=aCl o;by_cases hk:o.kind=1
 ·have e:tZ o=(eP o.kind).data.toList++32::(o.id.data.toList++32::(Lib.itoa o.x++32::(Lib.itoa o.y++oX o.tags))):=by
   rw[tZ,nD,aQD hk];simp
  rw[e]at h0 |-;have h1:=jU h0;rw[bD]at h1;have h2:=(zL h1).2.2;have h3:=jU h2;rw[bD]at h3;have h4:=(zL h3).2.2;have h5:=jU h4;have h6:=(zL h5).2.2;have h7:=jU h6;obtain ⟨T,hT,r1,r2,r3⟩:=OG o.tags _ hkey h7;have b:=wE h0 hw (sL _) (E6 h1 (wE h2 hid (sL _) (E6 h3 (aBo h4 hx.1 (by omega) (sL _) (E6 h5 (aBo h6 hy.1 (by omega) (YX _) hT))))));refine⟨_,b,fun f hf=>?_,?_,?_⟩
  ·simp only[aQQ]at hf;rcases hf with rfl|rfl|rfl|rfl|hf
   ·rfl
   ·rfl
   ·rfl
   ·rfl
   exact r2 f hf
  ·simp only[aQG];omega
  rw[mZ,aBM (by simp only[aQG];omega)];simp only[List.getD_cons_zero,List.getD_cons_succ,List.drop_succ_cons,List.drop_zero];rw[hkw,aQD hk,LP r1,X8 hx.1 (by omega),X8 hy.1 (by omega)];exact aBO rfl hk rfl rfl (hn hk) rfl
 obtain ⟨k,l,hkl⟩:=aCZ hg hk;have hnm:=uY hg;rw[hkl]at hnm;have e:tZ o=(eP o.kind).data.toList++32::(o.id.data.toList++32::(40::(k.data.toList++(l.flatMap (fun k=>32::k.data.toList)++41::oX o.tags)))):=by
  rw[tZ,nD,aQC hk,hkl,AZ];simp
 rw[e]at h0 |-;have h1:=jU h0;rw[bD]at h1;have h2:=(zL h1).2.2;have h3:=jU h2;rw[bD]at h3;have h4:=(zL h3).2.2;have h5:=(zL h4).2.2;have h6:=jU h5;rw[bD]at h6;have h7:=jU h6;have h8:=(zL h7).2.2;obtain ⟨T,hT,r1,r2,r3⟩:=OG o.tags _ hkey h8;have hcl:=UK h7 (by decide) hT;obtain ⟨R,hR,q1,q2⟩:=YA l _ _ _ (fun x hx=>hnm x (List.mem_cons_of_mem _ hx)) h6 (VE _) hcl;have hst:FL (l.flatMap (fun k=>32::k.data.toList)++41::oX o.tags):=by
  cases l with
  |nil=>exact VE _
  |cons a l=>rw[List.flatMap_cons];exact sL _
 have b:=wE h0 hw (sL _) (E6 h1 (wE h2 hid (sL _) (E6 h3 (UK h4 (by decide) (wE h5 (hnm k List.mem_cons_self) hst hR)))));have hRl:R.length=l.length:=by rw[<-q1,aQE]
 have hrl:o.refs.length=l.length+1:=by rw[hkl,aQG]
 refine⟨_,b,fun f hf=>?_,?_,?_⟩
 ·simp only[aQQ,List.mem_append]at hf;rcases hf with rfl|rfl|rfl|rfl|hf|rfl|hf
  ·rfl
  ·rfl
  ·rfl
  ·rfl
  ·exact(q2 f hf).2
  ·rfl
  exact r2 f hf
 ·simp only[aQG,aQF];omega
 obtain ⟨A,hA⟩:∃A:List GFound,A=⟨1,eP o.kind,0,0⟩::⟨1,o.id,0+(eP o.kind).size+1,0⟩::⟨4,⟨#[40]⟩,0+(eP o.kind).size+1+o.id.size+1,0⟩::⟨1,k,0+(eP o.kind).size+1+o.id.size+1+1,0⟩::R:=⟨_,rfl⟩;have hAl:A.length=R.length+4:=by rw[hA];rfl
 have hAc:∀a,a∈A->jB a=false:=by
  intro a ha;rw[hA]at ha;simp only[aQQ]at ha;rcases ha with rfl|rfl|rfl|rfl|ha
  ·rw[jB,decide_eq_false (show ¬ ((1:Int)=4)by decide),Bool.and_false]
  ·rw[jB,decide_eq_false (show ¬ ((1:Int)=4)by decide),Bool.and_false]
  ·rfl
  ·rw[jB,decide_eq_false (show ¬ ((1:Int)=4)by decide),Bool.and_false]
  rw[jB,(q2 a ha).1,decide_eq_false (show ¬ ((1:Int)=4)by decide),Bool.and_false]
 have hdrop:∀c:GFound,(A++c::T).drop (A.length+1)=T:=fun c=>by
  rw[show A++c::T=(A++[c])++T by simp,show A.length+1=(A++[c]).length by simp,List.drop_left]
 have hx:=fun j=>aFp (p:=jB) (c:=⟨4,⟨#[41]⟩,j,0⟩) (B:=T) hAc rfl;have hTT:∀j,(⟨1,eP o.kind,0,0⟩::⟨1,o.id,0+(eP o.kind).size+1,0⟩::⟨4,⟨#[40]⟩,0+(eP o.kind).size+1+o.id.size+1,0⟩::⟨1,k,0+(eP o.kind).size+1+o.id.size+1+1,0⟩::(R++⟨4,⟨#[41]⟩,j,0⟩::T):List GFound)=A++⟨4,⟨#[41]⟩,j,0⟩::T:=fun j=>by rw[hA];rfl
 rw[mZ,hTT,aBM (by rw[aQF,hAl];omega),hx,aQC (by rw[hA];show ¬ JQ (eP o.kind)=1;rw[hkw];exact hk),aQC (by rw[hAl];omega),aQP,List.take_left,hdrop,LP r1];obtain ⟨z1,z2⟩:=hz hk;refine aBO ?_ ?_ z1 z2 ?_ rfl
 ·rw[hA];rfl
 ·rw[hA];show o.kind=JQ (eP o.kind);rw[hkw]
 rw[hkl,hA];show k::l=k::R.map GFound.text;rw[q1]
def ofL(l:List UInt8):ByteArray:=⟨l.toArray⟩
theorem dI(l:List UInt8):(ofL l).data.toList=l:=by simp[ofL]
theorem nR(s:ByteArray):ofL s.data.toList=s:=rF (dI _)
theorem dH(l:List UInt8):(ofL l).size=l.length:=by rw[<-bD,dI]
def sH(s:ByteArray):GObj×Int:=if 20000<s.size then(zObj,2)else if(jJ s).2.1=0/\fY (mZ (jJ s).1)=(s,0)then(mZ (jJ s).1,0)else(zObj,5)
theorem aBP(h:(fY o).2=0):lV o=true/\fY o=(vE o,0)/\(vE o).size<=20000:=by
 rw[fY]at h |-;by_cases hg:lV o=true
 ·rw[aQD hg]at h |-;by_cases h1:0<o.tags.length/\(iL o.tags).2≠0
  ·rw[aQD h1]at h;exact absurd h h1.2
  rw[aQC h1]at h |-;by_cases h2:20000<(vE o).size
  ·rw[aQD h2]at h;cases h
  rw[aQC h2];exact⟨hg,rfl,by omega⟩
 rw[aQC hg]at h;cases h
theorem ZM(h:(fY o).2=0):sH (fY o).1=(o,0):=by
 obtain ⟨hg,ht,hs⟩:=aBP h;obtain ⟨T,hT,h1,h2,h3⟩:=aE4 hg;have hlex:jJ (vE o)=(T,0,0):=by
  rw[jJ,aQC (by omega),hT _ (by rw[<-bD];exact Nat.le_succ _),IE T [] h1 (by rw[List.length_nil];omega),List.nil_append]
 rw[ht,sH,aQC (by show ¬ 20000<(vE o).size;omega)];show (if(jJ (vE o)).2.1=0/\fY (mZ (jJ (vE o)).1)=(vE o,0)then(mZ (jJ (vE o)).1,(0:Int))else(zObj,5))=(o,0);rw[hlex];show (if(0:Int)=0/\fY (mZ T)=(vE o,0)then(mZ T,(0:Int))else(zObj,5))=(o,0);rw[h3,aQD ⟨rfl,ht⟩]
def aCB:List UInt8:=[112,117,116]
def aAg:List UInt8:=[109,111,118,101]
def aBy:List UInt8:=[116,97,103]
def aAc:List UInt8:=[114,101,102,115]
def aAi:List UInt8:=[100,114,111,112]
def SI:List UInt8:=[115,112,108,105,116]
def aAh:List UInt8:=[106,111,105,110]
def gN(e:GEdit):List (List UInt8) :=if e.op=2 then[aAg,e.id.data.toList,Lib.itoa e.x,Lib.itoa e.y]else if e.op=3 then[aBy,e.id.data.toList,e.key.data.toList,eE e.val.data.toList]
 else if e.op=4 then aAc::e.id.data.toList::bs e.refs else if e.op=5 then[aAi,e.id.data.toList]
 else if e.op=6 then[SI,e.id.data.toList,e.node.data.toList,e.other.data.toList]else[aAh,e.id.data.toList,e.other.data.toList]
def fL(e:GEdit):List UInt8:=if e.op=1 then aCB++32::(fY e.obj).1.data.toList else bZ [32] (gN e)
def fV(e:GEdit):Int:=if e.op=1 then(fY e.obj).2 else 0
def pY:List UInt8->List GEdit->List UInt8×Int
 |acc,[]=>(acc,0)
 |acc,e::r=>if fV e≠0\/20000<(acc++(fL e++[10])).length then([],2)else pY (acc++(fL e++[10])) r
def eZ(l:List GEdit):ByteArray×Int:=if kP l then(ofL (pY [] l).1,(pY [] l).2)else(sNil,1)
def PF(s:List UInt8):Int:=match Lib.atoiAll s with
 |.ok v=>v
 |_ => -1
def XR:GEdit:=⟨0,sNil,sNil,sNil,0,0,sNil,sNil,[],zObj⟩
def B5(w:List (List UInt8))(word rest:List UInt8):GEdit :=if word=aCB then⟨1,sNil,sNil,sNil,0,0,sNil,sNil,[],(sH (ofL rest)).1⟩
 else if word=aAg/\w.length=4 then⟨2,ofL (w.getD 1 []),sNil,sNil,PF (w.getD 2 []),PF (w.getD 3 []),sNil,sNil,[],zObj⟩
 else if word=aBy/\3<w.length then(match (jJ (ofL (bZ [32] (w.drop 3)))).1 with
  | [f]=>⟨3,ofL (w.getD 1 []),sNil,sNil,0,0,ofL (w.getD 2 []),f.text,[],zObj⟩
  |_=>XR)
 else if word=aAc/\1<w.length then⟨4,ofL (w.getD 1 []),sNil,sNil,0,0,sNil,sNil,(w.drop 2).map ofL,zObj⟩
 else if word=aAi/\w.length=2 then⟨5,ofL (w.getD 1 []),sNil,sNil,0,0,sNil,sNil,[],zObj⟩
 else if word=SI/\w.length=4 then⟨6,ofL (w.getD 1 []),ofL (w.getD 3 []),ofL (w.getD 2 []),0,0,sNil,sNil,[],zObj⟩
 else if word=aAh/\w.length=3 then⟨7,ofL (w.getD 1 []),ofL (w.getD 2 []),sNil,0,0,sNil,sNil,[],zObj⟩
 else XR
def jR(s:List UInt8):GEdit:=B5 (fO 32 s) ((fO 32 s).headD []) (s.drop (((fO 32 s).headD []).length+1))
def nE(t:ByteArray):List GEdit×Int :=if 20000<t.size then([],2)else if eZ ((lI t.data.toList).map fun s=>jR (Lib.trimSuffix s [10]))=(t,0)then((lI t.data.toList).map fun s=>jR (Lib.trimSuffix s [10]),0)else([],5)
theorem Q2(hk:bT k=true)(hb:b∈k.data.toList):CV (b.toNat:Int)=3\/CV (b.toNat:Int)=4\/CV (b.toNat:Int)=5:=by
 obtain ⟨j,hj⟩:=aQZ.1 hb;have hlt:=(aQI.1 hj).1;rw[bD]at hlt;have h:=(AQ hk).2.2.2 j hlt;have e:cR k j=(b.toNat:Int):=by rw[cR,hj];rfl
 rwa [e]at h
theorem sG(hk:bT k=true):(32:UInt8)∉k.data.toList/\(10:UInt8)∉k.data.toList:=by
 constructor
 ·intro h;have:=Q2 hk h;revert this;decide
 intro h;have:=Q2 hk h;revert this;decide
theorem KZ(h:0<=x):(32:UInt8)∉Lib.itoa x/\(10:UInt8)∉Lib.itoa x:=by
 rw[iU x h];constructor
 ·intro h;have:=(rW _ h).1;revert this;decide
 intro h;have:=(rW _ h).1;revert this;decide
theorem WB(l:List UInt8):(10:UInt8)∉eE l:=by
 rw[eE];simp only[aQQ,List.mem_append,List.mem_flatMap,aQU,or_false,not_or];refine⟨by decide,?_,by decide⟩;rintro⟨b,_,h⟩;rw[nW]at h;by_cases h1:b=10
 ·rw[aQD h1]at h;revert h;decide
 rw[aQC h1]at h;by_cases h2:b=34\/b=92
 ·rw[aQD h2]at h;simp only[aQQ,aQU,or_false]at h;rcases h with h|h
  ·revert h;decide
  exact h1 h.symm
 rw[aQC h2,aQH]at h;exact h1 h.symm
theorem vN(hb:b≠32):∀ {l:List (List UInt8)},(∀w∈l,b∉w)->b∉bZ [32] l
 | [],_,h=>by cases h
 |x::l,hl,h=>by
  rw[bZ]at h;rcases List.mem_append.1 h with h|h
  ·exact hl x List.mem_cons_self h
  obtain ⟨y,hy,h⟩:=List.mem_flatMap.1 h;rcases List.mem_append.1 h with h|h
  ·rw[aQH]at h;exact hb h
  exact hl y (List.mem_cons_of_mem _ hy) h
theorem aI6(h:∀t,t∈l->bT t.key=true):(10:UInt8)∉oX l:=by
 intro hm;obtain ⟨t,ht,hm⟩:=List.mem_flatMap.1 hm;rw[RD]at hm;simp only[aQQ,List.mem_append]at hm;rcases hm with h1|h1|h1|h1
 ·revert h1;decide
 ·exact(sG (h t ht)).2 h1
 ·revert h1;decide
 exact WB _ h1
theorem aLR(hg:lV o=true):(10:UInt8)∉tZ o:=by
 obtain ⟨hr,ht,htg,hid,_⟩:=CK hg;obtain ⟨hx,hy,_,_⟩:=aBl hg;have hkey:∀t,t∈o.tags->bT t.key=true:=fun t h=>((zH.1 htg).1 t h).1;intro h;rw[tZ,nD]at h;simp only[aQQ,List.mem_append]at h;rcases h with(h|h|h|h|h)|h
 ·exact(sG (C1 (GH hg)).1).2 h
 ·revert h;decide
 ·exact(sG hid).2 h
 ·revert h;decide
 ·split at h
  ·simp only[aQQ,List.mem_append]at h;rcases h with h|h|h
   ·exact(KZ hx.1).2 h
   ·revert h;decide
   exact(KZ hy.1).2 h
  simp only[aQQ,List.mem_append,aQU,or_false]at h;rcases h with h|h|h
  ·revert h;decide
  ·refine vN (by decide) (fun w hw=>?_) h;obtain ⟨s,hs,rfl⟩:=List.mem_map.1 hw;exact(sG (uY hg s hs)).2
  revert h;decide
 exact aI6 hkey h
abbrev oB(o:GObj):aH:=[(1,bx 6 151 ((bW o).map .pv))]
theorem aIB{l:List UInt8}(h:l≠[])(s:ByteArray):aC6 l s=l++32::s.data.toList:=by rw[aC6,aQC h]
theorem aOf(K:aH)(s:ByteArray)(hl:s.size<70368744177663):aI Tryz.prog 234 [.ref 2001 0 0 0,sv s] (oQ 0 [] false++K) (fun r H'=>r=.tup []/\H'=oQ 1 s.data.toList true++K):=by
 have h:=aEf K 0 [] false s (by rw[List.length_nil];omega)
 rwa [aQD rfl,show aC6 [] s=s.data.toList from rfl]at h
theorem aC7(K:aH)(g:Nat)(l:List UInt8)(s:ByteArray)(h0:l≠[])(hl:l.length+s.size<70368744177663):aI Tryz.prog 234 [.ref 2001 0 0 0,sv s] (oQ g l true++K) (fun r H'=>r=.tup []/\H'=oQ (g+2) (l++32::s.data.toList) true++K):=by
 have h:=aEf K g l true s hl
 rwa [aQC h0,aIB h0]at h
theorem KK(K:aH)(g:Nat)(l:List UInt8)(u:Bool)(hl:l.length<70368744177664):aI Tryz.prog 111 [.ref 2001 0 0 0] (oQ g l u++K) (fun r H'=>r=sv ⟨l.toArray⟩/\H'=X5 g l u++(oQ g l u++K)) :=aI.frame (aK5 g l u hl) aK4 (eI.ofL ⟨(by exact N9 rfl rfl),(by exact eO _ _),trivial⟩) (by simp;rfl) (fun id h=>.inl (by
  simp only[X5,oQ,aH.get]at h |-;cases e1:Nat.beq 2001 id with
  |true=>rfl
  |false =>
   cases e2:Nat.beq 2002 id with
   |true=>rfl
   |false=>rw[e1,e2]at h;cases h))
theorem QZ(hg:lV o=true)(h:0<o.tags.length/\(iL o.tags).2≠0):fY o=(sNil,(iL o.tags).2):=by rw[fY,aQD hg,aQD h]
theorem C7(hg:lV o=true)(h:¬ (0<o.tags.length/\(iL o.tags).2≠0))(hL:tZ o=L)(h2:20000<L.length):fY o=(sNil,2):=by
 have hs:(vE o).size=L.length:=by rw[<-hL,<-bD];rfl
 rw[fY,aQD hg,aQC h,aQD (by rw[hs];exact h2)]
theorem C8(hg:lV o=true)(h:¬ (0<o.tags.length/\(iL o.tags).2≠0))(hL:tZ o=L)(h2:¬ 20000<L.length):fY o=(⟨L.toArray⟩,0):=by
 have hs:(vE o).size=L.length:=by rw[<-hL,<-bD];rfl
 rw[fY,aQD hg,aQC h,aQC (by rw[hs];exact h2),vE,hL]
theorem uL(h0:0<l.length)(h:(iL l).2=0):32::(iL l).1.data.toList=oX l/\(iL l).1.size<=20000:=by
 rw[iL]at h |-;by_cases h1:qY l=true
 ·rw[aQD h1]at h |-;by_cases h2:20000<(JT l).size
  ·rw[aQD h2]at h;cases h
  rw[aQC h2];refine⟨?_,by show (JT l).size<=_;omega⟩;cases l with
  |nil=>exact absurd h0 (Nat.lt_irrefl 0)
  |cons t l =>
   show 32::(JT (t::l)).data.toList=_;rw[P7];simp[oX]
 rw[aQC h1]at h;cases h
theorem DG:∀l:List ByteArray,(l.flatMap fun k=>32::k.data.toList).length=l.length+dC l
 | []=>rfl
 |k::l=>by
  have ih:=DG l;rw[List.flatMap_cons,aQF,aQG,aQG,ih,bD,dC,dC,List.map_cons,List.sum_cons];omega
theorem fE(l:List ByteArray):(bZ [32] (bs l)).length<=l.length+dC l:=by
 cases l with
 |nil=>exact aQV _
 |cons k l =>
  rw[AZ,aQF,DG,bD,aQG,dC,dC,List.map_cons,List.sum_cons];omega
theorem QY(o:GObj)(H:aH)(ho:okO o):aI Tryz.prog 196 [av (bW o)] H (fun r H'=>r=.tup [sv (fY o).1,iv (fY o).2]/\H'=H):=by
 refine Pu ?_;refine Bd func196 rfl ntmps196<|Sr<|Dd (by exact cF (id:=1) rfl rfl rfl rfl rfl)<|Dd aM<|Dd aM<|Zz<|Sq<|Sr<|Dd (mD dA sizeOf151)<|Dd (by exact aA rfl rfl call233 rfl (M4 o _ ho))<|Dd iS<|Zz ?_;refine Cn ?_ ?_<;>intro hc1
 ·have hg:lV o=false:=by rw[<-aQX];exact hc1
  have e:fY o=(sNil,1):=by rw[fY,aQC (by rw[hg];decide)]
  rw[e];exact Sr<|Dd aM<|Dd aM<|Zz<|aB<|Ru<|Qq
 have hg:lV o=true:=by rw[<-Bool.not_eq_false'];exact hc1
 obtain ⟨hr,ht,htg,hid,_⟩:=CK hg;obtain ⟨hx,hy,hn,hz⟩:=aBl hg;have hw:=(C1 (GH hg)).1;have hws:=dO hw;have his:=dO hid;have hwp:=(AQ hw).1;have hw0:(eP o.kind).data.toList≠[]:=fun e=>by have:=congrArg List.length e;rw[bD,List.length_nil]at this;omega
 refine aC<|Sr<|Dd (by exact bU (id:=2001) rfl aKP rfl rfl)<|Zz<|Sq ?_;refine gM.ent (E':=[(1,.ref 1 0 0 0),(2,sv sNil),(3,iv 0),(4,.ref 2001 0 0 0)]) (H':=[(2002,⟨0,1,5,[]⟩),(2001,E4 (.osl 2002 0 0 0) false),(1,bx 6 151 ((bW o).map .pv))]) (cX.nz 2002 1 5 rfl rfl ⟨⟨_,rfl,(by exact Nz.same (by(simp;rfl)))⟩,⟨_,rfl,(by exact Nz.same (by(simp;done)))⟩,⟨_,rfl,(by exact Nz.same (by(simp;done)))⟩,⟨_,rfl,(by exact Nz.same (by(simp;rfl)))⟩,trivial⟩ ⟨⟨_,rfl,rfl,rfl,rfl,(by exact .inr ⟨_,_,rfl,rfl,(by repeat(first|exact trivial|refine⟨(by first|exact Nz.own|exact Nz.same (by(simp;done))),?_⟩))⟩)⟩,⟨_,rfl,rfl,rfl,rfl,(by exact .inl ⟨rfl,(by(simp;done))⟩)⟩,trivial⟩ trivial) ?_;refine gM.ent (E':=[(1,.ref 1 0 0 0),(2,sv sNil),(3,iv 0),(4,.ref 2001 0 0 0)]) (H':=oQ 0 [] false++oB o) (cX.get (fun _=>rfl) (fun j=>oZ (by decide) j)) ?_;refine Rg<|Dd (aT eB)<|Dd (bF isAgg3)<|Dd (by exact aA rfl rfl yE rfl (EC o.kind _))<|Dd (by exact aA rfl rfl yD rfl (aOf (oB o) (eP o.kind) (by omega)))<|Zz<|Sr<|Dd (aT oH)<|Dd (bF isAgg9)<|Dd (by exact aA rfl rfl yD rfl (aC7 (oB o) 1 (eP o.kind).data.toList o.id hw0 (by rw[bD];omega)))<|Zz<|Sq<|Sq ?_;obtain ⟨L1,hL1⟩:∃L,L=(eP o.kind).data.toList++32::o.id.data.toList:=⟨_,rfl⟩;have hn1:L1≠[]:=by rw[hL1];simp
 have hl1:L1.length<=49:=by rw[hL1,aQF,aQG,bD,bD];omega
 rw[<-hL1];by_cases hk:o.kind=1
 ·have six:(aV o.x).size<=7:=by rw[<-bD];show (Lib.itoa o.x).length<=7;rw[iU _ hx.1];exact dY (by omega) (by decide)
  have siy:(aV o.y).size<=7:=by rw[<-bD];show (Lib.itoa o.y).length<=7;rw[iU _ hy.1];exact dY (by omega) (by decide)
  obtain ⟨L2,hL2⟩:∃L,L=L1++32::(aV o.x).data.toList:=⟨_,rfl⟩;have hn2:L2≠[]:=by rw[hL2];simp
  have hl2:L2.length<=57:=by rw[hL2,aQF,aQG,bD];omega
  have p2:=aC7 (oB o) (1+2) L1 (aV o.x) hn1 (by omega);rw[<-hL2]at p2;obtain ⟨L3,hL3⟩:∃L,L=L2++32::(aV o.y).data.toList:=⟨_,rfl⟩;have hn3:L3≠[]:=by rw[hL3];simp
  have hl3:L3.length<=200000:=by rw[hL3,aQF,aQG,bD];omega
  have p3:=aC7 (oB o) (1+2+2) L2 (aV o.y) hn2 (by omega);rw[<-hL3]at p3;have hH:nD o=L3:=by
   rw[nD,aQD hk,hL3,hL2,hL1];show _=(_++32::Lib.itoa o.x)++32::Lib.itoa o.y;simp
  refine Rg<|Dd (aT eB)<|Dd (bF isAgg3)<|Dd cN<|Zz ?_;refine Cn ?_ ?_<;>intro hc2
  ·refine Sr<|Dd (aT mI)<|Dd (aT pR)<|Dd (bF isAgg3)<|Dd (by exact aA rfl rfl pW rfl (uD o.x (by omega) (by omega) _))<|Dd (by exact aA rfl rfl yD rfl (p2))<|Zz<|Rg<|Dd (aT mI)<|Dd (aT pQ)<|Dd (bF isAgg3)<|Dd (by exact aA rfl rfl pW rfl (uD o.y (by omega) (by omega) _))<|Dd (by exact aA rfl rfl yD rfl (p3))<|Zz<|Sq<|Sr<|Dd (aT fB)<|Dd (bF cS)<|Dd (fM cZ)<|Dd iG<|Zz ?_;refine Cn ?_ ?_<;>intro hc3
   ·have htp:0<o.tags.length:=by have:=aQA hc3;rw[aQE]at this;omega
    refine Sr<|Dd (aT fB)<|Dd (bF cS)<|Dd (by exact aA rfl rfl call235 rfl (P6 o.tags _ ho.2.1))<|Dd aE<|Dd fG<|Dd fG<|Dd aM<|Dd aM<|Zz<|Sq<|Sr<|Dd aE<|Dd wM<|Zz ?_;refine Cn ?_ ?_<;>intro hc4
    ·have hte:(iL o.tags).2≠0:=by have hq:=hc4;rw[aQX,aQM]at hq;exact hq
     rw[QZ hg ⟨htp,hte⟩];exact Sr<|Dd aE<|Dd aM<|Dd aM<|Zz<|aB<|Ru<|Qq
    have hte:(iL o.tags).2=0:=by have hq:=hc4;rw[Bool.not_eq_false',aQL]at hq;exact hq
    have hlen2:(L3++32::(iL o.tags).1.data.toList).length<=300000:=by have:=hl3;have:=(uL htp hte).2;rw[aQF,aQG,bD];omega
    have hLL:tZ o=L3++32::(iL o.tags).1.data.toList:=by rw[(uL htp hte).1,tZ,hH]
    refine aC<|Rg<|Dd aE<|Dd (by exact aA rfl rfl yD rfl (aC7 (oB o) (1+2+2+2) L3 (iL o.tags).1 hn3 (by have:=hl3;have:=(uL htp hte).2;omega)))<|Zz<|Sq<|Sr<|Dd (aT oE)<|Dd (by exact aA rfl rfl yG rfl (KY (oB o) ((1+2+2+2)+2) (L3++32::(iL o.tags).1.data.toList) true))<|Dd iG<|Zz ?_;refine Cn ?_ ?_<;>intro hc5
    ·have hlong:=aQA hc5;rw[C7 hg (fun h=>h.2 hte) hLL (by omega)];exact Sr<|Dd aM<|Dd aM<|Zz<|aB<|Ru<|Qq
    have hlong:=aQB hc5;rw[C8 hg (fun h=>h.2 hte) hLL (by omega)];exact aC<|Sr<|Dd (aT oE)<|Dd (by exact aA rfl rfl nK rfl (KK (oB o) ((1+2+2+2)+2) (L3++32::(iL o.tags).1.data.toList) true (by have:=hlen2;omega)))<|Dd aM<|Dd aM<|Zz<|aB<|Ru<|Qq
   have htp:¬ 0<o.tags.length:=by have:=aQB hc3;rw[aQE]at this;omega
   have hLL:tZ o=L3:=by rw[tZ,hH,List.length_eq_zero_iff.1 (by omega:o.tags.length=0)];exact List.append_nil _
   refine aC<|Sq<|Sr<|Dd (aT oE)<|Dd (by exact aA rfl rfl yG rfl (KY (oB o) (1+2+2+2) L3 true))<|Dd iG<|Zz ?_;refine Cn ?_ ?_<;>intro hc6
   ·have hlong:=aQA hc6;rw[C7 hg (fun h=>htp h.1) hLL (by omega)];exact Sr<|Dd aM<|Dd aM<|Zz<|aB<|Ru<|Qq
   have hlong:=aQB hc6;rw[C8 hg (fun h=>htp h.1) hLL (by omega)];exact aC<|Sr<|Dd (aT oE)<|Dd (by exact aA rfl rfl nK rfl (KK (oB o) (1+2+2+2) L3 true (by have:=hl3;omega)))<|Dd aM<|Dd aM<|Zz<|aB<|Ru<|Qq
  exact absurd hk (aQB hc2)
 have hsz:dC o.refs<=24*o.refs.length:=nN (fun s hs=>dO (uY hg s hs));have hjl:=fE o.refs;obtain ⟨J,hJ⟩:∃J:ByteArray,J=⟨(bZ [32] (bs o.refs)).toArray⟩:=⟨_,rfl⟩;have hj:∀H,aI Tryz.prog 158 [.pv (aZ o.refs),sv ⟨#[32]⟩] H (fun x H'=>x=sv J/\H'=H):=fun H=>by
  rw[hJ];exact uB o.refs ⟨#[32]⟩ H (by decide) (by show 1*_+_+_<_;omega)
 have hJl:J.data.toList=bZ [32] (bs o.refs):=by rw[hJ]
 obtain ⟨L3,hL3⟩:∃L,L=L1++32::((⟨#[40]⟩:ByteArray)++J++⟨#[41]⟩).data.toList:=⟨_,rfl⟩;have hQ:((⟨#[40]⟩:ByteArray)++J++⟨#[41]⟩).data.toList=40::(bZ [32] (bs o.refs)++[41]):=by rw[<-hJl];simp
 have hQs:((⟨#[40]⟩:ByteArray)++J++⟨#[41]⟩).size<=60000:=by rw[<-bD,hQ,aQG,aQF,List.length_singleton];omega
 have hJs:J.size<=52000:=by rw[<-bD,hJl];omega
 have h40:(⟨#[40]⟩:ByteArray).size=1:=rfl;have h41:(⟨#[41]⟩:ByteArray).size=1:=rfl;have hAs:((⟨#[40]⟩:ByteArray)++J).size=1+J.size:=by rw[ByteArray.size_append,h40]
 have hn3:L3≠[]:=by rw[hL3];simp
 have hl3:L3.length<=200000:=by rw[hL3,aQF,aQG,bD];omega
 have p3:=aC7 (oB o) (1+2) L1 ((⟨#[40]⟩:ByteArray)++J++⟨#[41]⟩) hn1 (by omega);rw[<-hL3]at p3;have hH:nD o=L3:=by
  rw[nD,aQC hk,hL3,hL1,hQ];simp
 refine Rg<|Dd (aT eB)<|Dd (bF isAgg3)<|Dd cN<|Zz ?_;refine Cn ?_ ?_<;>intro hc7
 ·exact absurd (aQA hc7) hk
 refine Rg<|Dd (aT dT)<|Dd (bF aG)<|Dd (by exact aA rfl rfl pV rfl (hj _))<|Dd (by exact cK rfl rfl rfl (by omega) rfl)<|Dd (by exact cK rfl rfl rfl (by omega) rfl)<|Dd (by exact aA rfl rfl yD rfl (p3))<|Zz<|Sq<|Sr<|Dd (aT fB)<|Dd (bF cS)<|Dd (fM cZ)<|Dd iG<|Zz ?_;refine Cn ?_ ?_<;>intro hc8
 ·have htp:0<o.tags.length:=by have:=aQA hc8;rw[aQE]at this;omega
  refine Sr<|Dd (aT fB)<|Dd (bF cS)<|Dd (by exact aA rfl rfl call235 rfl (P6 o.tags _ ho.2.1))<|Dd aE<|Dd fG<|Dd fG<|Dd aM<|Dd aM<|Zz<|Sq<|Sr<|Dd aE<|Dd wM<|Zz ?_;refine Cn ?_ ?_<;>intro hc9
  ·have hte:(iL o.tags).2≠0:=by have hq:=hc9;rw[aQX,aQM]at hq;exact hq
   rw[QZ hg ⟨htp,hte⟩];exact Sr<|Dd aE<|Dd aM<|Dd aM<|Zz<|aB<|Ru<|Qq
  have hte:(iL o.tags).2=0:=by have hq:=hc9;rw[Bool.not_eq_false',aQL]at hq;exact hq
  have hlen2:(L3++32::(iL o.tags).1.data.toList).length<=300000:=by have:=hl3;have:=(uL htp hte).2;rw[aQF,aQG,bD];omega
  have hLL:tZ o=L3++32::(iL o.tags).1.data.toList:=by rw[(uL htp hte).1,tZ,hH]
  refine aC<|Rg<|Dd aE<|Dd (by exact aA rfl rfl yD rfl (aC7 (oB o) (1+2+2) L3 (iL o.tags).1 hn3 (by have:=hl3;have:=(uL htp hte).2;omega)))<|Zz<|Sq<|Sr<|Dd (aT oE)<|Dd (by exact aA rfl rfl yG rfl (KY (oB o) ((1+2+2)+2) (L3++32::(iL o.tags).1.data.toList) true))<|Dd iG<|Zz ?_;refine Cn ?_ ?_<;>intro hc10
  ·have hlong:=aQA hc10;rw[C7 hg (fun h=>h.2 hte) hLL (by omega)];exact Sr<|Dd aM<|Dd aM<|Zz<|aB<|Ru<|Qq
  have hlong:=aQB hc10;rw[C8 hg (fun h=>h.2 hte) hLL (by omega)];exact aC<|Sr<|Dd (aT oE)<|Dd (by exact aA rfl rfl nK rfl (KK (oB o) ((1+2+2)+2) (L3++32::(iL o.tags).1.data.toList) true (by have:=hlen2;omega)))<|Dd aM<|Dd aM<|Zz<|aB<|Ru<|Qq
 have htp:¬ 0<o.tags.length:=by have:=aQB hc8;rw[aQE]at this;omega
 have hLL:tZ o=L3:=by rw[tZ,hH,List.length_eq_zero_iff.1 (by omega:o.tags.length=0)];exact List.append_nil _
 refine aC<|Sq<|Sr<|Dd (aT oE)<|Dd (by exact aA rfl rfl yG rfl (KY (oB o) (1+2+2) L3 true))<|Dd iG<|Zz ?_;refine Cn ?_ ?_<;>intro hc11
 ·have hlong:=aQA hc11;rw[C7 hg (fun h=>htp h.1) hLL (by omega)];exact Sr<|Dd aM<|Dd aM<|Zz<|aB<|Ru<|Qq
 have hlong:=aQB hc11;rw[C8 hg (fun h=>htp h.1) hLL (by omega)];exact aC<|Sr<|Dd (aT oE)<|Dd (by exact aA rfl rfl nK rfl (KK (oB o) (1+2+2) L3 true (by have:=hl3;omega)))<|Dd aM<|Dd aM<|Zz<|aB<|Ru<|Qq
theorem rQ:∀ {l:List (List UInt8)} {w:List UInt8},(32:UInt8)∉w->(∀x∈l,(32:UInt8)∉x)->fO 32 (bZ [32] (w::l))=w::l
 | [],w,h,_=>by rw[bZ,List.flatMap_nil,List.append_nil];exact sM h
 |a::l,w,h,hl=>by
  have e:bZ [32] (w::a::l)=w++32::bZ [32] (a::l):=by rw[bZ,List.flatMap_cons,bZ];simp
  rw[e,nM h,rQ (hl a List.mem_cons_self) fun x hx=>hl x (List.mem_cons_of_mem _ hx)]
theorem NG:∀l:List UInt8,bZ [32] (fO 32 l)=l
 | []=>rfl
 | b::l=>by
  have ih:=NG l;have hp:=AD 32 l;rw[fO];cases e:fO 32 l with
  |nil=>rw[e]at hp;exact absurd hp (Nat.lt_irrefl 0)
  |cons x r =>
   rw[e,bZ]at ih;by_cases h:b=32
   ·rw[aQD h,bZ,List.flatMap_cons,List.nil_append,List.append_assoc,ih,h];rfl
   rw[aQC h,bZ,List.headD_cons,List.tail_cons,List.cons_append,ih]
theorem Q0(h:0<=x)(h2:x<1000000000000000000):PF (Lib.itoa x)=x:=by rw[PF,BA h h2]
theorem aLt(l:List ByteArray):(bs l).map ofL=l:=by rw[bs,List.map_map];exact(List.map_congr_left fun s _=>nR s).trans (List.map_id _)
theorem XJ:∀l:List UInt8,(l.flatMap nW).length<=2*l.length
 | []=>aQK _
 | b::l=>by
  have ih:=XJ l;have h:(nW b).length<=2:=by
   rw[nW]
   split
   ·exact aQK _
   split
   ·exact aQK _
   exact Nat.le_succ _
  rw[List.flatMap_cons,aQF,aQG];omega
theorem aCs{v:ByteArray}(hv:v.size<=200):(jJ (ofL (eE v.data.toList))).1=[⟨3,v,0,0⟩]:=by
 have h0:(ofL (eE v.data.toList)).data.toList.drop 0=eE v.data.toList++[]:=by rw[dI,List.append_nil];rfl
 have hl:(eE v.data.toList).length<=402:=by
  have:=XJ v.data.toList;rw[bD]at this;rw[eE,aQG,aQF,List.length_singleton];omega
 have hq:0<(eE v.data.toList).length:=by rw[eE,aQG];omega
 have hT:=GY (VG h0) rfl (vJ h0 hq) hq (all_nil (jU h0));rw[jJ,aQC (by rw[dH];omega),hT _ (by rw[dH,List.append_nil];exact Nat.le_succ _),IE _ [] (by intro f hf;rw[aQH]at hf;subst hf;rfl) (by simp)];rfl
theorem A0{r:List (List UInt8)}:(w::r).headD []=w:=rfl
theorem QK{e:GEdit}(hv:dU e=true)(he:fV e=0):jR (fL e)=e/\(10:UInt8)∉fL e:=by
 obtain ⟨⟨o1,o7⟩,hok,hx⟩:=vR.1 hv;rw[fV]at he;by_cases p1:e.op=1
 ·rw[aQD p1]at he;obtain ⟨hg,ht,_⟩:=aBP he;have hp:=ZM he;rw[DY,aQD p1,p1]at hx;rw[fL,aQD p1];constructor
  ·rw[jR,nM (by decide),A0,B5,aQD rfl];show (⟨1,sNil,sNil,sNil,0,0,sNil,sNil,[],(sH (ofL (fY e.obj).1.data.toList)).1⟩:GEdit)=e;rw[nR,hp];exact hx
  rw[ht];intro h;rcases List.mem_append.1 h with h|h
  ·revert h;decide
  rcases aQQ.1 h with h|h
  ·revert h;decide
  exact aLR hg h
 rw[rI,aQC p1,aQN]at hok;obtain ⟨hid,hok⟩:=hok;have i1:=sG hid;rw[fL,aQC p1];by_cases p2:e.op=2
 ·rw[aQD p2]at hok;have hxy:(0<=e.x/\e.x<1048576)/\0<=e.y/\e.y<1048576:=by
   rw[onP]at hok;simp only[aQN,aQL]at hok;omega
  rw[DY,aQC p1,aQD p2,p2]at hx;rw[gN,aQD p2];have n1:=KZ hxy.1.1;have n2:=KZ hxy.2.1;refine⟨?_,vN (by decide) ?_⟩
  ·rw[jR,rQ (by decide) (by intro w hw;simp only[aQQ,aQU,or_false]at hw;rcases hw with rfl|rfl|rfl;all_goals first|exact i1.1|exact n1.1|exact n2.1),A0,B5,aQC (by decide),aQD ⟨rfl,rfl⟩];show (⟨2,ofL e.id.data.toList,sNil,sNil,PF (Lib.itoa e.x),PF (Lib.itoa e.y),sNil,sNil,[],zObj⟩:GEdit)=e;rw[nR,Q0 hxy.1.1 (by omega),Q0 hxy.2.1 (by omega)];exact hx
  intro w hw;simp only[aQQ,aQU,or_false]at hw;rcases hw with rfl|rfl|rfl|rfl;all_goals first|exact(by decide)|exact i1.2|exact n1.2|exact n2.2
 by_cases p3:e.op=3
 ·rw[aQC p2,aQD p3,aQN,aQL]at hok;have k1:=sG hok.1;rw[DY,aQC p1,aQC p2,aQD p3,p3]at hx;rw[gN,aQC p2,aQD p3];refine⟨?_,vN (by decide) ?_⟩
  ·have hj:bZ [32] [aBy,e.id.data.toList,e.key.data.toList,eE e.val.data.toList]=aBy++32::(e.id.data.toList++32::(e.key.data.toList++32::eE e.val.data.toList)):=by simp[bZ]
   have hs:=AD 32 (eE e.val.data.toList);rw[hj,jR,nM (by decide),nM i1.1,nM k1.1,A0,B5,aQC (by decide),aQC (fun h=>absurd h.1 (by decide)),aQD ⟨rfl,by simp only[aQG];omega⟩];show (match (jJ (ofL (bZ [32] (fO 32 (eE e.val.data.toList))))).1 with
    | [f]=>(⟨3,ofL e.id.data.toList,sNil,sNil,0,0,ofL e.key.data.toList,f.text,[],zObj⟩:GEdit)
    |_=>XR)=e
   rw[NG,aCs (by omega),nR,nR];exact hx
  intro w hw;simp only[aQQ,aQU,or_false]at hw;rcases hw with rfl|rfl|rfl|rfl;all_goals first|exact(by decide)|exact i1.2|exact k1.2|exact WB _
 by_cases p4:e.op=4
 ·rw[aQC p2,aQC p3,aQD p4,aQN,aQN,List.all_eq_true]at hok;have hr:=hok.2;rw[DY,aQC p1,aQC p2,aQC p3,aQD p4,p4]at hx;rw[gN,aQC p2,aQC p3,aQD p4];have hb:∀(b:UInt8),(b=32\/b=10)->∀w∈bs e.refs,b∉w:=by
   intro b hb w hw;obtain ⟨s,hs,rfl⟩:=List.mem_map.1 hw;have:=sG (hr s hs);rcases hb with rfl|rfl;all_goals first|exact this.1|exact this.2
  refine⟨?_,vN (by decide) ?_⟩
  ·rw[jR,rQ (by decide) (by intro w hw;rcases aQQ.1 hw with rfl|hw;all_goals first|exact i1.1|exact hb 32 (.inl rfl) w hw),A0,B5,aQC (by decide),aQC (fun h=>absurd h.1 (by decide)),aQC (fun h=>absurd h.1 (by decide)),aQD ⟨rfl,by simp only[aQG];omega⟩];show (⟨4,ofL e.id.data.toList,sNil,sNil,0,0,sNil,sNil,(bs e.refs).map ofL,zObj⟩:GEdit)=e;rw[nR,aLt];exact hx
  intro w hw;rcases aQQ.1 hw with rfl|hw
  ·decide
  rcases aQQ.1 hw with rfl|hw;all_goals first|exact i1.2|exact hb 10 (.inr rfl) w hw
 by_cases p5:e.op=5
 ·rw[DY,aQC p1,aQC p2,aQC p3,aQC p4,aQD p5,p5]at hx;rw[gN,aQC p2,aQC p3,aQC p4,aQD p5];refine⟨?_,vN (by decide) ?_⟩
  ·rw[jR,rQ (by decide) (by intro w hw;rw[aQH]at hw;subst hw;exact i1.1),A0,B5,aQC (by decide),aQC (fun h=>absurd h.1 (by decide)),aQC (fun h=>absurd h.1 (by decide)),aQC (fun h=>absurd h.1 (by decide)),aQD ⟨rfl,rfl⟩];show (⟨5,ofL e.id.data.toList,sNil,sNil,0,0,sNil,sNil,[],zObj⟩:GEdit)=e;rw[nR];exact hx
  intro w hw;simp only[aQQ,aQU,or_false]at hw;rcases hw with rfl|rfl;all_goals first|exact(by decide)|exact i1.2
 by_cases p6:e.op=6
 ·rw[aQC p2,aQC p3,aQC p4,aQC p5,aQD p6,aQN]at hok;have k1:=sG hok.1;have k2:=sG hok.2;rw[DY,aQC p1,aQC p2,aQC p3,aQC p4,aQC p5,aQD p6,p6]at hx;rw[gN,aQC p2,aQC p3,aQC p4,aQC p5,aQD p6];refine⟨?_,vN (by decide) ?_⟩
  ·rw[jR,rQ (by decide) (by intro w hw;simp only[aQQ,aQU,or_false]at hw;rcases hw with rfl|rfl|rfl;all_goals first|exact i1.1|exact k1.1|exact k2.1),A0,B5,aQC (by decide),aQC (fun h=>absurd h.1 (by decide)),aQC (fun h=>absurd h.1 (by decide)),aQC (fun h=>absurd h.1 (by decide)),aQC (fun h=>absurd h.1 (by decide)),aQD ⟨rfl,rfl⟩];show (⟨6,ofL e.id.data.toList,ofL e.other.data.toList,ofL e.node.data.toList,0,0,sNil,sNil,[],zObj⟩:GEdit)=e;rw[nR,nR,nR];exact hx
  intro w hw;simp only[aQQ,aQU,or_false]at hw;rcases hw with rfl|rfl|rfl|rfl;all_goals first|exact(by decide)|exact i1.2|exact k1.2|exact k2.2
 have p7:e.op=7:=by omega
 rw[aQC p2,aQC p3,aQC p4,aQC p5,aQC p6]at hok;have k2:=sG hok;rw[DY,aQC p1,aQC p2,aQC p3,aQC p4,aQC p5,aQC p6,p7]at hx;rw[gN,aQC p2,aQC p3,aQC p4,aQC p5,aQC p6];refine⟨?_,vN (by decide) ?_⟩
 ·rw[jR,rQ (by decide) (by intro w hw;simp only[aQQ,aQU,or_false]at hw;rcases hw with rfl|rfl;all_goals first|exact i1.1|exact k2.1),A0,B5,aQC (by decide),aQC (fun h=>absurd h.1 (by decide)),aQC (fun h=>absurd h.1 (by decide)),aQC (fun h=>absurd h.1 (by decide)),aQC (fun h=>absurd h.1 (by decide)),aQC (fun h=>absurd h.1 (by decide)),aQD ⟨rfl,rfl⟩];show (⟨7,ofL e.id.data.toList,ofL e.other.data.toList,sNil,0,0,sNil,sNil,[],zObj⟩:GEdit)=e;rw[nR,nR];exact hx
 intro w hw;simp only[aQQ,aQU,or_false]at hw;rcases hw with rfl|rfl|rfl;all_goals first|exact(by decide)|exact i1.2|exact k2.2
end Go.Proofs.YtmdicgjnmfolfaaGreatDoor
namespace Go.Abs
section
section
variable{P:Program}{H:aH}
theorem aDD(s)(c):aJ8 P Extern.BytealgCount.count H [.pv (.str s),.pv (.int .u8 c)] (.pv (.int .i64 ((Lib.countByte s.data.toList c.toNat.toUInt8)))):=by intro w I ι cs b h;obtain ⟨u,v,rfl,d,e⟩:=U9 b h;rw[d.str_inv,e.int_inv];exact⟨_,Lib.run_countString s c w,.pv (.int _ _)⟩
end
end
end Go.Abs
namespace Go.Proofs.YtmdicgjnmfolfaaGreatDoor
open Go.Proofs.Tryz
open Go.Abs
abbrev sSp:ByteArray:=⟨#[32]⟩
theorem QC(s:ByteArray)(H:aH):aI Tryz.prog 188 [sv s,sv sSp] H (fun r H'=>r=iv (Lib.indexByte s.data.toList 32)/\H'=H):=by
 refine Pu ?_;refine Bd func188 rfl ntmps188<|Sr<|Dd aM<|Zz<|Sr<|Dd aE<|Dd (kG underlying9)<|Dd aM<|Zz<|Sq<|aF<|Sq ?_;refine aY (t:=16) (n:=9) (X:=decide (sSp=s)) ?_ ?_
 ·all_goals refine Dd aE ?_
  all_goals refine Dd cN<|Dm ?_
  all_goals refine Sp 19 (fun h19=>?_) fun h19=>?_
  all_goals try contradiction
  all_goals refine On aE<|On aE<|On AG<|Dd cH<|Da ?_
  all_goals(exact⟨⟨_,rfl,by rfl⟩,rfl,rfl,rfl⟩)
 refine Cn ?_ ?_<;>intro hc1
 ·have hs:=aQA hc1;subst hs;exact Sr<|Dd aM<|Zz<|aB<|Rt<|Qq
 refine Sr<|Dd aE<|Dd cN<|Da ?_;refine Cn ?_ ?_<;>intro hc2
 ·exact Sr<|Dd aE<|Dd aE<|Dd (by exact dK rfl underlying9 rfl rfl (by omega) (by exact aQP _) (show 0<(⟨#[32]⟩:ByteArray).size from Nat.zero_lt_one) rfl)<|Dd (by exact aA rfl rfl aPO rfl (xO s 32 _))<|Dd aM<|Zz<|aB<|Rt<|Qq
 cases hc2
theorem aIo(s:ByteArray)(H:aH):aI Tryz.prog 229 [sv s,sv sSp] H (fun r H'=>r=iv (Lib.indexByte s.data.toList 32)/\H'=H):=by refine Pu ?_;exact Bd func229 rfl ntmps229<|Sr<|Dd aM<|Zz<|Sr<|Dd aE<|Dd aE<|Dd (by exact aA rfl rfl OL rfl (QC s _))<|Dd aM<|Zz<|aB<|Rt<|Qq
def XV(s:ByteArray):AV:=if Lib.indexByte s.data.toList 32 = -1 then .tup [sv s,sv ⟨#[]⟩,bv false]else .tup [sv (s.extract 0 (Lib.indexByte s.data.toList 32).toNat),sv (s.extract ((Lib.indexByte s.data.toList 32).toNat+1) s.size),bv true]
theorem aH2(s:ByteArray)(H:aH)(hs:s.size<1099511627776):aI Tryz.prog 150 [sv s,sv sSp] H (fun r H'=>r=XV s/\H'=H):=by
 refine Pu ?_;have hI:=fun H=>QC s H;rw[XV];rcases Classical.em (Lib.indexByte s.data.toList 32 = -1)with h1|h1
 ·rw[aQD h1];simp only[h1]at hI;refine Bd aD6 rfl YH<|Sr<|Dd aM<|Dd aM<|Dd aM<|Zz<|Sq<|Sr<|Dd aE<|Dd aE<|Dd (by exact aA rfl rfl OL rfl (hI _))<|Dd aM<|Zz<|Sr<|Dd aE<|Dd D7<|Zz ?_;refine Cn ?_ ?_<;>intro hc1
  ·cases hc1
  refine aC<|Sr<|Dd aE<|Dd aM<|Dd aM<|Dd aM<|Zz<|aB ?_;refine BM (H':=[]) (.inr rfl) rfl (aX rfl) (aX rfl) (aX rfl) (Fin.wk (by simp) trivial trivial) ?_;exact Qq
 rw[aQC h1];obtain ⟨w,r,e1,e2,e3⟩:=vP h1;simp only[e3]at hI;rw[e3,aQP];have hl:w.length+1+r.length=s.size:=by rw[<-show s.data.toList.length=s.size by simp,e1,aQF,aQG];omega
 refine Bd aD6 rfl YH<|Sr<|Dd aM<|Dd aM<|Dd aM<|Zz<|Sq<|Sr<|Dd aE<|Dd aE<|Dd (by exact aA rfl rfl OL rfl (hI _))<|Dd aM<|Zz<|Sr<|Dd aE<|Dd D7<|Zz ?_;refine Cn ?_ ?_<;>intro hc1
 ·refine Sq<|aO follows<|Cq aE<|Cq aE<|Cq (by exact cQ (l:=0) (h:=(w.length)) rfl underlying9 rfl rfl rfl (by omega) (by omega) rfl)<|Cq aE<|Cq aE<|Cq aE<|Cq (kG underlying9)<|Cq (by exact cB rfl rfl rfl (show IntKind.i64.wrap ((w.length:Int)+1)=((w.length+1:Nat):Int)by rw[IntKind.wrap_i64];omega))<|Cq (by exact cQ (l:=(w.length+1)) (h:=s.size) rfl underlying9 rfl rfl rfl (by omega) (by omega) rfl)<|Cq aM<|Cq aM<|Cq aM<|bM<|Kr<|aB ?_;refine BM (H':=[]) (.inr rfl) rfl (aX rfl) (aX rfl) (aX rfl) (Fin.wk (by simp) trivial trivial) ?_;exact Qq
 have hx:=aQB hc1;omega
theorem aNp(s:ByteArray)(H:aH)(hs:s.size<1099511627776):aI Tryz.prog 113 [sv s,sv sSp] H (fun r H'=>r=XV s/\H'=H):=by
 refine Pu ?_;have hC:=fun H=>aH2 s H hs;rw[XV]at *;rcases Classical.em (Lib.indexByte s.data.toList 32 = -1)with h1|h1
 ·simp only[XV,aQD h1]at hC |-;refine Bd aD8 rfl YJ<|Sr<|Dd aM<|Dd aM<|Dd aM<|Zz<|Sr<|Dd aE<|Dd aE<|Dd (by exact aA rfl rfl aDb rfl (hC _))<|Dd fG<|Dd fG<|Dd fG<|Dd aM<|Dd aM<|Dd aM<|Zz<|aB ?_;refine BM (H':=[]) (.inr rfl) rfl (aX rfl) (aX rfl) (aX rfl) (Fin.wk (by simp) trivial trivial) ?_;exact Qq
 simp only[XV,aQC h1]at hC |-;refine Bd aD8 rfl YJ<|Sr<|Dd aM<|Dd aM<|Dd aM<|Zz<|Sr<|Dd aE<|Dd aE<|Dd (by exact aA rfl rfl aDb rfl (hC _))<|Dd fG<|Dd fG<|Dd fG<|Dd aM<|Dd aM<|Dd aM<|Zz<|aB ?_;refine BM (H':=[]) (.inr rfl) rfl (aX rfl) (aX rfl) (aX rfl) (Fin.wk (by simp) trivial trivial) ?_;exact Qq
abbrev sNl:ByteArray:=⟨#[10]⟩
def A5(s:ByteArray):Bool:=decide ((1:Int)<=(s.size:Int))&&decide (s.extract (s.size - 1) s.size=sNl)
def B1(s:ByteArray):ByteArray:=if A5 s then s.extract 0 (s.size - 1)else s
theorem XA(s:ByteArray)(H:aH)(hs:s.size<1099511627776):aI Tryz.prog 199 [sv s,sv sNl] H (fun r H'=>r=bv (A5 s)/\H'=H):=by
 refine Pu ?_;refine Bd func199 rfl ntmps199<|Sr<|Dd aM<|Zz<|Sq ?_;refine aY (t:=4) (n:=18) (X:=A5 s) ?_ ?_
 ·all_goals refine Dd aE ?_
  all_goals refine Dd (kG underlying9)<|Dd aE<|Dd (kG underlying9)<|Dd D7<|Dm ?_
  all_goals refine Sp 10 (fun h10=>?_) fun h10=>?_
  all_goals try contradiction
  all_goals first|refine Fo<|Fo<|Fo<|Fo<|Fo<|Fo<|Fo<|Fo<|Fo ?_|refine On aE<|On aE<|On (kG underlying9)<|On aE<|On (kG underlying9)<|On (by exact dX rfl rfl rfl (show IntKind.i64.wrap ((s.size:Int) - 1)=((s.size - 1:Nat):Int)by have h11:(1:Int)<=(s.size:Int):=aQA h10;rw[IntKind.wrap_i64];omega))<|On (by exact cQ (l:=(s.size - 1)) (h:=s.size) rfl underlying9 rfl rfl rfl (by omega) (by omega) rfl)<|On aE<|On AG ?_
  all_goals refine Dd cH<|Da ?_
  all_goals(exact⟨⟨_,rfl,by(simp only[A5];rw[show decide ((1:Int)<=(s.size:Int))=_ from h10];rfl)⟩,rfl,rfl,rfl⟩)
 exact aB<|Rt<|Qq
theorem aEP(s:ByteArray)(H:aH)(hs:s.size<1099511627776):aI Tryz.prog 159 [sv s,sv sNl] H (fun r H'=>r=sv (B1 s)/\H'=H):=by
 refine Pu ?_;refine Bd func159 rfl ntmps159<|Sr<|Dd aM<|Zz<|Sq<|Sr<|Dd aE<|Dd aE<|Dd (by exact aA rfl rfl call199 rfl (XA s _ hs))<|Zz ?_;refine Cn ?_ ?_<;>intro hc1
 ·have h1:1<=s.size:=by
   have h:=hc1;rw[A5,aQN,aQL]at h;omega
  rw[B1,aQD hc1];exact Sr<|Dd aE<|Dd aE<|Dd (kG underlying9)<|Dd aE<|Dd (kG underlying9)<|Dd (by exact dX rfl rfl rfl (show IntKind.i64.wrap ((s.size:Int) - 1)=((s.size - 1:Nat):Int)by rw[IntKind.wrap_i64];omega))<|Dd (by exact cQ (l:=0) (h:=(s.size - 1)) rfl underlying9 rfl rfl rfl (by omega) (by omega) rfl)<|Dd aM<|Zz<|aB<|Rt<|Qq
 rw[B1,aQC (by rw[hc1];decide)];exact aC<|Sr<|Dd aE<|Dd aM<|Zz<|aB<|Rt<|Qq
theorem YS(s:ByteArray)(H:aH)(hs:s.size<1099511627776):aI Tryz.prog 117 [sv s,sv sNl] H (fun r H'=>r=sv (B1 s)/\H'=H):=by refine Pu ?_;exact Bd func117 rfl ntmps117<|Sr<|Dd aM<|Zz<|Sr<|Dd aE<|Dd aE<|Dd (by exact aA rfl rfl call159 rfl (aEP s _ hs))<|Dd aM<|Zz<|aB<|Rt<|Qq
theorem aJI(s:ByteArray)(H:aH):aI Tryz.prog 228 [sv s,sv sSp] H (fun r H'=>r=iv ((s.data.toList.count 32:Nat):Int)/\H'=H):=by
 refine Pu ?_;refine Bd func228 rfl ntmps228<|Sr<|Dd aM<|Zz<|Sq<|Sr<|Dd aE<|Dd (kG underlying9)<|Dd cN<|Zz ?_;refine Cn ?_ ?_<;>intro hc1
 ·cases hc1
 refine aC<|Sq<|Sr<|Dd aE<|Dd (kG underlying9)<|Dd cN<|Zz ?_;refine Cn ?_ ?_<;>intro hc2
 ·exact Sr<|Dd aE<|Dd aE<|Dd (by exact dK rfl underlying9 rfl rfl (by omega) (by exact aQP _) (show 0<(⟨#[32]⟩:ByteArray).size from Nat.zero_lt_one) rfl)<|Dd (by exact KV rfl rfl func260 rfl rfl rfl rfl rfl (aDD s 32))<|Dd aM<|Zz<|aB<|Rt<|Qq
 cases hc2
end Go.Proofs.YtmdicgjnmfolfaaGreatDoor
