/-
  Parts of the proof: rules of a program logic, contracts, plain laws. Conditions: each theorem's own.
-/
import Derived.Test.YtmdicgjnmfolfaaGreatDoorKR7M12
set_option linter.unusedVariables false
set_option linter.unusedSimpArgs false
set_option maxRecDepth 100000
set_option maxHeartbeats 8000000
namespace Go.Proofs
open Tryz
theorem vt:type_of% call128:=call128
theorem aBq:type_of% call143:=call143
theorem Ib:type_of% call15:=call15
theorem aC2:type_of% call17:=call17
theorem pW:type_of% call55:=call55
theorem pV:type_of% call56:=call56
theorem Ia:type_of% call57:=call57
theorem aCZ:type_of% call75:=call75
theorem XT:type_of% call79:=call79
theorem aCX:type_of% call97:=call97
theorem RJ:type_of% func143:=func143
theorem LC:type_of% ntmps143:=ntmps143
end Go.Proofs
namespace Go.Proofs.YtmdicgjnmfolfaaGreatDoor
open Go.Proofs.Tryz
open Go.Abs Go.Lib
theorem Wj(n:Nat):aY n=ofL (decDigits n):=pD (rfl)
theorem A2(x)(a:0<=x)(h1:x<9223372036854775808)(H):RC 99 [iv x] (sv (aY x)) H:=by obtain ⟨n,rfl⟩:=Int.eq_ofNat_of_zero_le a;exact O0 n (by omega) H
def W6(r:GRec):List ByteArray:=[J0,aY r.kind,aY r.author,aY r.number,aY r.clock,r.branch,aY (r.parents.length:Int)]
def aAQ(r:GRec)(T:ByteArray):List ByteArray:=[T,r.target,aY (if r.yes then 1 else 0),aY r.order,r.from']
def Dx(r:GRec)(T y:ByteArray):List ByteArray:=[T,r.target,y,aY r.order,r.from']
theorem sb(r):pG r=(W6 r++r.parents)++aAQ r (jK r.edits).1:=rfl
theorem Bf{r}(h:VF r):0<=r.order/\r.order<=4:=by
 rw[h.od,vv]
 split
 ·next a =>
  have:=h.k;rw[KO,aCe a,lS,aCo,aCm,aCm]at this;omega
 omega
theorem BK{α:Type}(f:α->List PV)(l:List _){n}(h:l.length=n):((l.map f).take (0+n)).drop 0=l.map f:=by rw[<-h];exact kD f l
theorem lP(l:List _):∀r∈l.map encStr,r.length=1:=by intro r a;obtain ⟨s,_,rfl⟩:=List.mem_map.1 a;rfl
theorem UJ(r:GRec)(B:gE r)(j:VF r)(A:∀e∈r.edits,e.refs.length<1099511627776):aW Tryz.prog 42 [av (cC r)] [] (fun x H'=>x=.osl 971 2 0 (pG r).length/\H'=[(971,⟨2,1,9,cH (pG r)⟩)]):=by
 have hk:=AT j.k;have hau:=j.au;have hnu:=j.nu;have hcl:=j.cl;have hod:=Bf j;have hpl:=j.pal;have n:(r.parents.map encStr).length=r.parents.length:=aCf _;have hme:(r.edits.map aZ).length=r.edits.length:=aCf _;have p:=fun H=>A2 r.kind (by omega) (by omega) H;have w:=fun H=>A2 r.author (by omega) (by omega) H;have q:=fun H=>A2 r.number (by omega) (by omega) H;have o:=fun H=>A2 r.clock (by omega) (by omega) H;have v:∀H,RC 99 [iv ((r.parents.map encStr).length:Int)] (sv (aY (r.parents.length:Int))) H:=fun H=>by
  rw[n];exact A2 (r.parents.length:Int) (by omega) (by omega) H
 have z:=fun H=>A2 r.order (by omega) (by omega) H;have t:=fun H=>O2 r.edits H B.2.2.2.1.1 B.2.2.2.1.2 A;have s:cH (W6 r)++(r.parents.map encStr).map (·.map AV.pv)=cH (W6 r++r.parents):=gY _ _;rw[sb];obtain ⟨T,i⟩:∃T,T=(jK r.edits).1:=⟨_,rfl⟩;rw[<-i];rw[jK]at i;refine Bd func42 rfl ntmps42 ?_;have u:(cH (W6 r++r.parents)).length=7+r.parents.length:=by rw[cH,aCf,aCg];rfl
 refine Sd (kb 1)<|Zd aH<|Sq<|aL follows<|Cr [1] (fun _ h=>fh mF h)<|Cr [1] (fun _ h=>lh isAgg3 h)<|Cr [] (fun g d=>by exact bL rfl rfl jB rfl (p _))<|Cr [1] (fun _ h=>fh sJ h)<|Cr [1] (fun _ h=>lh isAgg3 h)<|Cr [] (fun g d=>by exact bL rfl rfl jB rfl (w _))<|Cr [1] (fun _ h=>fh mE h)<|Cr [1] (fun _ h=>lh isAgg3 h)<|Cr [] (fun g d=>by exact bL rfl rfl jB rfl (q _))<|Cr [1] (fun _ h=>fh uZ h)<|Cr [1] (fun _ h=>lh isAgg3 h)<|Cr [] (fun g d=>by exact bL rfl rfl jB rfl (o _))<|Cr [1] (fun _ h=>fh uY h)<|Cr [1] (fun _ h=>lh isAgg9 h)<|Cr [1] (fun _ h=>fh lM h)<|Cr [1] (fun _ h=>lh aF h)<|Cr [] (fun _ _=>(eR aD))<|Cr [] (fun g d=>by exact bL rfl rfl jB rfl (v _)) ?_;refine Cp [971] (fun g d=>by exact fW (id:=971) rfl bT rfl rfl rfl rfl (by simp_all) ((d _ rfl).trans rfl))<|Cr [971] (fun _ _=>aH)<|bF<|Kr<|Sd aC<|Dd (aV lM)<|Dd (bD aF)<|Dd (by exact cG (k:=7+r.parents.length) (ps:=r.parents.map encStr) rfl bT zT rfl rfl rfl rfl rfl rfl rfl (lP _) (m:=r.parents.length) n (by omega) rfl s)<|Zd aH<|Sr<|Da ?_;refine eV (fun(_:Unit)=>([(1,.ref 1 0 0 0),(3,.osl 971 1 0 (7+r.parents.length)),(4,sv T)],[(1,bx 21 30 ((cC r).map .pv)),(971,⟨1,1,9,cH (W6 r++r.parents)⟩)])) (fun _=>True) ?_ ?_
 ·refine Sd (aV uX)<|Dd (bD jJ)<|Dd (eR cT)<|Zd gX ?_;refine Cn ?_ ?_<;>intro l
  ·have f:0<r.edits.length:=by have:=aCb l;omega
   rw[aCd (by omega)]at i;subst i;refine Rd (aV uX)<|Dd (bD jJ)<|Dd (kc aBu (t _))<|Dd aC<|Dd eG<|Dd eG<|Da ?_;exact⟨(),trivial,(cQ.wk (Ea<|Ea<|Eb<|trivial) (Hb<|Hc (bQ _ _)<|trivial) trivial)⟩
  have f:r.edits.length=0:=by have:=aCc l;omega
  rw[aCe f]at i;subst i;refine aA ?_;exact⟨(),trivial,(cQ.wk (Ea<|Ea<|Eb<|trivial) (Hb<|Hc (bQ _ _)<|trivial) trivial)⟩
 rintro _ -;refine Sr<|Da ?_;refine eV (fun(y:ByteArray)=>([(1,.ref 1 0 0 0),(3,.osl 971 1 0 (7+r.parents.length)),(4,sv T),(5,sv y)],[(1,bx 21 30 ((cC r).map .pv)),(971,⟨1,1,9,cH (W6 r++r.parents)⟩)])) (fun y=>y=aY (if r.yes then 1 else 0)) ?_ ?_
 ·refine Sd (aV CD)<|Zd (bD mN) ?_;refine Cn ?_ ?_<;>intro k
  ·have m:(⟨#[49]⟩:ByteArray)=aY (if r.yes then 1 else 0):=by rw[k];kernel_rfl
   refine Rg<|Da ?_;exact⟨_,m,(cQ.wk (Ea<|Ea<|Eb<|Eb<|trivial) (Hb<|Hc (bQ _ _)<|trivial) trivial)⟩
  have m:(⟨#[48]⟩:ByteArray)=aY (if r.yes then 1 else 0):=by rw[k];kernel_rfl
  refine aA ?_;exact⟨_,m,(cQ.wk (Ea<|Ea<|Eb<|Eb<|trivial) (Hb<|Hc (bQ _ _)<|trivial) trivial)⟩
 rintro y m;rw[show aAQ r T=Dx r T y by rw[m];rfl];refine Sq<|aL follows<|Cr [971] (fun _ _=>aC)<|Cr [] (fun _ _=>aC)<|Cr [1] (fun _ h=>fh uW h)<|Cr [1] (fun _ h=>lh isAgg9 h)<|Cr [] (fun _ _=>aC)<|Cr [1] (fun _ h=>fh tJ h)<|Cr [1] (fun _ h=>lh isAgg3 h)<|Cr [] (fun g d=>by exact bL rfl rfl jB rfl (z _))<|Cr [1] (fun _ h=>fh pT h)<|Cr [1] (fun _ h=>lh isAgg9 h)<|Cr [] (fun g d=>by exact aN ((Dx r T y).map encStr) rfl bT rfl rfl rfl rfl rfl (lP _))<|Cp [971] (fun g d=>by exact cG (ob:=⟨1,1,9,cH (W6 r++r.parents)⟩) (k:=((W6 r++r.parents)++Dx r T y).length) (ps:=(Dx r T y).map encStr) rfl bT zT rfl ((d _ rfl).trans rfl) rfl rfl rfl u rfl (lP _) (m:=5) rfl (by omega) (by rw[aCg,aCg];rfl) (by exact gY _ _))<|Cr [971] (fun _ _=>aH)<|bF<|Kr<|aB ?_;refine dA (H':=[(971,⟨2,1,9,cH ((W6 r++r.parents)++Dx r T y)⟩)]) (.inr rfl) rfl (aJ rfl) (Fin.wk (by(simp;rfl)) (Hc (bQ _ _)<|trivial) trivial) ?_;exact Qq
theorem Dz(r)(b:gE r)(c:VF r)(a:∀e∈r.edits,e.refs.length<1099511627776)(H):RC 42 [av (cC r)] (.pv (aU (pG r))) H:=by refine aW.pure ((UJ r b c a).fin ?_) (by simp) H;rintro _ _ ⟨rfl,rfl⟩;exact⟨_,[],Fin.fz (id:=971) _ rfl (eO _) (.osl (kD _ _)) rfl trivial trivial,rfl,rfl⟩
theorem cK.eqv{P}{N}{o}{E}{H H'}{v a}(h:cK P N o E H v H')(e:v=a):cK P N o E H a H':=e▸h
theorem Rz(x)(hx:x<18446744073709551616)(H):RC 141 [uv x] (uv (MN x)) H:=by refine Pu ?_;refine Bd func141 rfl ntmps141<|Sz aH<|Sd aC<|Dd (iY rfl rfl rfl (show IntKind.u64.wrap _=((td x):Int)by rfl))<|Zd aH<|Sd aC<|Dd aC<|Dd (ET rfl rfl rfl (by simp) (by decide) (qy _ 32 rfl))<|Dd (nJ rfl (by simp) rfl rfl (bits_xor_u64_nat _ _ (EX x) (xM 32 (EX x))))<|Zd aH<|Sd aC<|Dd (iY rfl rfl rfl (show IntKind.u64.wrap _=((tc x:Nat))by rfl))<|Zd aH<|Sd aC<|Dd aC<|Dd (ET rfl rfl rfl (by simp) (by decide) (qy _ 29 rfl))<|Dd (nJ rfl (by simp) rfl rfl (bits_xor_u64_nat _ _ (EW x) (xM 29 (EW x)))) ?_;exact Zd aH<|aB<|Rt<|Qq
def DX(b:Int):Prop:=(48<=b/\b<=57)\/(97<=b/\b<=102)
theorem oz(b:Int)(j:DX b)(H:aG):RC 143 [.pv (.int .u8 b)] (iv (if b<=57 then b - 48 else b - 87)) H:=by
 refine Pu ?_;have f:∀ {p:Prop} [Decidable p],p->AV.pv (.bool (decide p))=bv true:=fun h=>by simp_all
 have k:∀ {p:Prop} [Decidable p],¬ p->AV.pv (.bool (decide p))=bv false:=fun h=>by simp_all
 by_cases d:b<=57
 ·have c:48<=b:=by rcases j with h|h<;>omega
  rw[aCe d];refine Bd RJ rfl LC<|Sz aH<|Sq<|Sd aC<|Dd (by exact cK.eqv (jF rfl rfl rfl) (f c))<|Dd aC<|On aC<|On (by exact cK.eqv (oS rfl rfl rfl) (f d))<|Zd cD ?_;refine Cn ?_ ?_<;>intro e
  ·exact Sd aC<|Dd (by exact dB rfl rfl rfl (show IntKind.u8.wrap (b - 48)=b - 48 by rw[IntKind.wrap_u8];omega))<|Dd (by exact fA rfl eB underlying3 rfl (lI (by omega) (by omega)))<|Zd aH<|aB<|Rt<|Qq
  cases e
 have c:97<=b/\b<=102:=by rcases j with h|h<;>omega
 have i:48<=b:=by omega
 rw[aCd d];refine Bd RJ rfl LC<|Sz aH<|Sq<|Sd aC<|Dd (by exact cK.eqv (jF rfl rfl rfl) (f i))<|Dd aC<|On aC<|On (by exact cK.eqv (oS rfl rfl rfl) (k d))<|Zd cD ?_;refine Cn ?_ ?_<;>intro e
 ·cases e
 refine aA<|Sq<|Sd aC<|Dd (by exact cK.eqv (jF rfl rfl rfl) (f c.1))<|Dd aC<|On aC<|On (by exact cK.eqv (oS rfl rfl rfl) (f c.2))<|Zd cD ?_;refine Cn ?_ ?_<;>intro g
 ·exact Sd aC<|Dd (by exact dB rfl rfl rfl (show IntKind.u8.wrap (b - 97)=b - 97 by rw[IntKind.wrap_u8];omega))<|Dd (by exact fA rfl eB underlying3 rfl (lI (by omega) (by omega)))<|Dd (by exact eA rfl rfl rfl (show IntKind.i64.wrap (b - 97+10)=b - 87 by rw[lI (by omega) (by omega)];omega))<|Zd aH<|aB<|Rt<|Qq
 cases g
abbrev HX:ByteArray:=⟨#[48,49,50,51,52,53,54,55,56,57,97,98,99,100,101,102]⟩
instance (b:Int):Decidable (DX b):=by unfold DX;infer_instance
theorem Un:∀q:Fin 16,DX (bH HX q.1):=by decide
theorem Uk{q}(h:q<16):(HX.extract q (q+1)).size=1/\DX (bH (HX.extract q (q+1)) 0):=by
 refine⟨by rw[ByteArray.size_extract];have:HX.size=16:=rfl;omega,?_⟩;have e:bH (HX.extract q (q+1)) 0=bH HX q:=by
  unfold bH
  simp_all
 rw[e];exact Un ⟨q,h⟩
theorem Kq{l}{i}{b}(hi:i<8)(a:l[i]?=some b):(mA l)[i]?=some b:=by rw[mA,List.getElem?_append_left (by grind),List.getElem?_take_of_lt hi,a]
theorem Aw{l}{i}(hi:i<8)(hl:l.length<=i):(mA l)[i]?=some 0:=by rw[mA,List.getElem?_append_right (by grind),List.getElem?_replicate,aCe (by grind)]
theorem Lr(D i)(hi:i<16):D / 16 ^ i % 16=LU D (15 - i):=by rw[LU,show 60 - 4*(15 - i)=4*i by omega,Nat.pow_mul]
theorem Ul:∀q:Fin 16,(HX.extract q.1 (q.1+1)).data.toList=[UInt8.ofNat (rK q.1).toNat]:=fun q=>by
 revert q;decide
theorem ah(D):(AX D).length=16:=rfl
theorem Dn(D){i}(h:i<16):(AX D)[i]?=some (UInt8.ofNat (rK (LU D i)).toNat):=by rw[AX,aCz,List.getElem?_range h];rfl
theorem Dj(D){i}(h:i<16):HX.extract (D / 16 ^ i % 16) (D / 16 ^ i % 16+1)++ofL ((AX D).drop (16 - i))=ofL ((AX D).drop (16 - (i+1))):=by
 refine pD ?_;rw[ByteArray.data_append,Array.toList_append,Ul ⟨_,Nat.mod_lt _ (by simp)⟩,dD,dD];show UInt8.ofNat (rK (D / 16 ^ i % 16)).toNat::(AX D).drop _=_;rw[Lr D i h,show 16 - (i+1)=15 - i by omega,show 16 - i=15 - i+1 by omega];have b:15 - i<(AX D).length:=by rw[ah];omega
 rw[List.drop_eq_getElem_cons b];have:=Dn D (i:=15 - i) (by omega);rw[aCk b]at this;rw[Option.some.inj this]
theorem VZ(s:ByteArray)(hs:s.size<1000000000)(H:aG):RC 97 [sv s] (sv (tL s)) H:=by
 refine Pu ?_;have hsl:=bC s;have A:bits .xor .u64 1181783497276652981 (s.size:Int)=((SH s.size:Nat):Int):=bits_xor_u64_nat 1181783497276652981 s.size (by decide) (by omega);have B:SH s.size<18446744073709551616:=pc (by omega);obtain ⟨D,hD⟩:∃D,D=QL (SH s.size) s.data.toList:=⟨_,rfl⟩;have l:tL s=ofL (AX D):=by rw[tL,<-hD];rfl
 rw[l];clear l;refine Bd func97 rfl ntmps97<|Sz aH<|Sd aC<|Dd (gF underlying9)<|Dd (by exact fA rfl underlying3 iU rfl (YI (by omega)))<|Dd (by exact nJ rfl (by simp) rfl rfl A)<|Zd aH<|Sq<|Sz aH<|aE ?_;refine fZ (fun(j c:Nat)=>([(0,sv s),(3,uv c),(4,iv ((8*j:Nat):Int))],[])) (fun j c=>8*j<=s.size+8/\c<18446744073709551616/\((8*j<=s.size/\QL c (s.data.toList.drop (8*j))=D)\/(s.size<8*j/\c=D))) (fun j c=>s.size+8 - 8*j) 0 (SH s.size) ⟨by omega,B,.inl ⟨by omega,by simp_all⟩⟩ ?_ ?_
 ·exact Wk
 rintro j c ⟨hj,p,u⟩;refine Sq<|Sd aC<|Dd aC<|Dd (gF underlying9)<|Zd GP ?_;refine Cn ?_ ?_<;>intro q
 ·have hle:8*j<=s.size:=by have:=aCb q;omega
  have o:QL c (s.data.toList.drop (8*j))=D:=by
   omega
  obtain ⟨R,F⟩:∃R,R=s.data.toList.drop (8*j):=⟨_,rfl⟩;have hRl:R.length=s.size - 8*j:=by simp_all
  have hp8:=ZL R;rw[<-F]at o;refine aA<|Sq<|aE<|Sz aH<|Sq<|Sd aC<|Zd aH<|aE ?_;refine bJ (σ:=Nat) (fun i=>([(0,sv s),(3,uv c),(4,iv ((8*j:Nat):Int)),(5,uv (vC ((mA R).take i))),(6,iv ((8*j+i:Nat):Int))],[])) (fun i=>i<=8) (fun i=>8 - i) 0 (aCw _) ?_ ?_
  ·exact Wk
  intro i hi;by_cases h8:i<8
  ·obtain ⟨y,K⟩:=aT (l:=mA R) (k:=i) (by omega);have e:vC ((mA R).take (i+1))=vC ((mA R).take i)*256+y.toNat:=by rw[kA K,U6]
   have h7:vC ((mA R).take i)<72057594037927936:=cp (by grind);have hyb:y.toNat<256:=y.toNat_lt;obtain ⟨b,hb⟩:∃b,b=vC ((mA R).take i):=⟨_,rfl⟩;rw[<-hb]at e h7 |-;refine Sq<|Sd aC<|Dd aC<|Dd (by exact eA rfl rfl rfl (show IntKind.i64.wrap (((8*j:Nat):Int)+8)=((8*j+8:Nat):Int)by rw[lI (by omega) (by omega)];omega))<|Zd cJ ?_;refine Cn ?_ ?_<;>intro hc2
   ·refine aA<|Sq<|aE<|Sd aC<|Dd (by exact iY rfl rfl rfl (show IntKind.u64.wrap ((b:Int)*256)=((b*256:Nat):Int)by rw[IntKind.wrap_u64];omega))<|Zd aH<|Sd aC<|Dd aC<|Dd (gF underlying9)<|Zd cJ ?_;refine Cn ?_ ?_<;>intro x
    ·have hlt2:8*j+i<s.size:=by have:=aCb x;omega
     have J:bH s (8*j+i)=(y.toNat:Int):=by
      have V:R[i]?=s.data.toList[8*j+i]?:=by rw[F,List.getElem?_drop]
      obtain ⟨z,hz⟩:=aT (l:=s.data.toList) (k:=8*j+i) (by omega);have:=Kq (l:=R) h8 (V.trans hz);rw[K]at this;rw[bH,hz,<-Option.some.inj this];rfl
     refine Rd aC<|Dd aC<|Dd aC<|Dd (ky underlying9)<|Dd (by exact fA rfl eB iU rfl (show IntKind.u64.wrap (bH s (8*j+i))=((y.toNat:Nat):Int)by rw[J,YI (by omega)]))<|Dd (by exact eA rfl rfl rfl (show IntKind.u64.wrap (((b*256:Nat):Int)+((y.toNat:Nat):Int))=((b*256+y.toNat:Nat):Int)by rw[IntKind.wrap_u64];omega))<|Zd aH<|Rd aC<|Dd (by exact eA rfl rfl rfl (show IntKind.i64.wrap (((8*j+i:Nat):Int)+1)=((8*j+(i+1):Nat):Int)by rw[lI (by omega) (by omega)];omega))<|Da ?_;refine⟨i+1,by omega,by omega,?_⟩;rw[e];exact Wk
    have hge2:s.size<=8*j+i:=by have:=aCc x;omega
    have M:y.toNat=0:=by
     have:=Aw (l:=R) h8 (by omega);rw[K]at this;rw[Option.some.inj this];rfl
    refine aA<|Rd aC<|Dd (by exact eA rfl rfl rfl (show IntKind.i64.wrap (((8*j+i:Nat):Int)+1)=((8*j+(i+1):Nat):Int)by rw[lI (by omega) (by omega)];omega))<|Da ?_;refine⟨i+1,by omega,by omega,?_⟩;rw[e,M,Nat.add_zero];exact Wk
   (have h:=aCc hc2;omega)
  have X:i=8:=by omega
  subst X;have U:(mA R).take 8=mA R:=List.take_of_length_le (by omega);rw[U];refine Sq<|Sd aC<|Dd aC<|Dd (by exact eA rfl rfl rfl (show IntKind.i64.wrap (((8*j:Nat):Int)+8)=((8*j+8:Nat):Int)by rw[lI (by omega) (by omega)];omega))<|Zd cJ ?_;refine Cn ?_ ?_<;>intro L
  ·(have h:=aCb L;omega)
  have C:=RI (l:=mA R) (by omega);have W:=fun H=>Rz (c ^^^ vC (mA R)) (DA p C) H;refine aS<|Rd aC<|Dd aC<|Dd (by exact nJ rfl (by simp) rfl rfl (bits_xor_u64_nat c (vC (mA R)) p C))<|Dd (kc call141 (W _))<|Zd aH<|Rd aC<|Dd (by exact eA rfl rfl rfl (show IntKind.i64.wrap (((8*j:Nat):Int)+8)=((8*(j+1):Nat):Int)by rw[lI (by omega) (by omega)];omega))<|Da ?_;refine⟨j+1,MN (c ^^^ vC (mA R)),⟨by omega,WV _,?_⟩,by omega,Wk⟩;by_cases t:8<=R.length
  ·refine .inl ⟨by omega,?_⟩;have Y:mA (R.take 8)=mA R:=by
    rw[mA,mA,List.take_take,aCt,Nat.min_eq_left t];rw[show 8 - R.length=0 by omega];rfl
   have h1:=UU c t;rw[Y,o,F,List.drop_drop]at h1;rw[F,show 8*(j+1)=8*j+8 by omega,h1]
  refine .inr ⟨by omega,?_⟩;rw[<-UV c (by omega),o]
 have hgt:s.size<8*j:=by have:=aCc q;omega
 have w:c=D:=by
  rcases u with⟨h,_⟩|⟨_,h⟩
  ·omega
  exact h
 subst w;have hl16:=ah c;have N:ofL ((AX c).drop (16 - 0))=⟨#[]⟩:=by rw[List.drop_of_length_le (by omega)];rfl
 have Q:c / 16 ^ 0=c:=by rw[Nat.pow_zero,Nat.div_one]
 refine aS<|Sz aH<|Sq<|Sz aH<|aE ?_;refine bJ (σ:=Nat) (fun i=>([(3,uv (c / 16 ^ i)),(7,sv (ofL ((AX c).drop (16 - i)))),(8,iv (i:Int))],[])) (fun i=>i<=16) (fun i=>16 - i) 0 (aCw _) ?_ ?_
 ·rw[N,Q];exact Wk
 intro i hi;obtain ⟨v,E⟩:∃v,v=c / 16 ^ i:=⟨_,rfl⟩;have hbd:v<18446744073709551616:=by rw[E];exact Nat.lt_of_le_of_lt (Nat.div_le_self _ _) p
 have T:c / 16 ^ (i+1)=v / 16:=by rw[E,Nat.pow_succ,<-Nat.div_div_eq_div_mul]
 rw[<-E];have P:((v:Nat):Int).tmod 16=((v % 16:Nat):Int):=by rw[Int.tmod_eq_emod_of_nonneg (by omega)];omega
 have hq:IntKind.u64.wrap (((v:Nat):Int).tdiv 16)=((v / 16:Nat):Int):=by
  rw[Int.tdiv_eq_ediv_of_nonneg (by omega),IntKind.wrap_u64];omega
 have n:v % 16<16:=Nat.mod_lt _ (by decide);have k:=Uk n;have S:(ofL ((AX c).drop (16 - i))).size=i:=by rw[cM,aCu];omega
 by_cases O:i<16
 ·have e:=Dj c O;rw[<-E]at e;obtain ⟨g,hg⟩:∃g,g=v % 16:=⟨_,rfl⟩;rw[<-hg]at P n k e;refine Sq<|Sd aC<|Zd cJ ?_;refine Cn ?_ ?_<;>intro I
  ·refine aA<|Sq<|aE<|Sd aC<|Dd (by exact tX rfl rfl rfl (by decide) P)<|Dd aC<|Dd (by exact tX rfl rfl rfl (by decide) P)<|Dd (by exact eA rfl rfl rfl (show IntKind.u64.wrap ((g:Int)+1)=((g+1:Nat):Int)by rw[IntKind.wrap_u64];omega))<|Dd (by exact cB (l:=g) (h:=g+1) rfl underlying9 rfl rfl rfl (by omega) (show g+1<=HX.size from by have:HX.size=16:=rfl;omega) rfl)<|Dd aC<|Dd (by exact fM rfl rfl rfl (show (HX.extract g (g+1)).size+(ofL ((AX c).drop (16 - i))).size<=9223372036854775807 by rw[k.1,S];omega) e)<|Zd aH<|Rd aC<|Dd (by exact vP rfl rfl rfl (by decide) hq)<|Zd aH<|Rd aC<|Dd kp<|Da ?_;refine⟨i+1,by omega,by omega,?_⟩;rw[T];exact Wk
  (have h:=aCc I;omega)
 have G:i=16:=by omega
 subst G;refine Sq<|Sd aC<|Zd cJ ?_;refine Cn ?_ ?_<;>intro Z
 ·(have h:=aCb Z;omega)
 exact aS<|Sd aC<|Zd aH<|aB<|Rt<|Qq
theorem V1(L)(d:L.length<=2000)(c:∀s∈L,s.size<=20000)(H):RC 79 [.pv (aU L)] (sv (wA L)) H:=by refine Pu ?_;have e:=fun H=>S8 L (by omega) (fun s h=>Nat.le_trans (c s h) (by simp)) H;have hsz:=xB c d;have b:=fun H=>VZ (ofL (aP L)) (by rw[cM];omega) H;exact Bd func79 rfl ntmps79<|Sz aH<|Sd aC<|Dd (bL rfl rfl call45 rfl (e _))<|Dd (bL rfl rfl aCX rfl (b _))<|Zd aH<|aB<|Rt<|Qq
theorem Et(b:Int)(l:¬ DX b)(H:aG):RC 143 [.pv (.int .u8 b)] (iv (-1)) H:=by
 refine Pu ?_;have k:∀ {p:Prop} [Decidable p],p->AV.pv (.bool (decide p))=bv true:=fun h=>by simp_all
 have g:∀ {p:Prop} [Decidable p],¬ p->AV.pv (.bool (decide p))=bv false:=fun h=>by simp_all
 by_cases e:48<=b
 ·have i:¬ b<=57:=fun h=>l (.inl ⟨e,h⟩);by_cases f:97<=b
  ·have j:¬ b<=102:=fun h=>l (.inr ⟨f,h⟩);refine Bd RJ rfl LC<|Sz aH<|Sq<|Sd aC<|Dd (by exact cK.eqv (jF rfl rfl rfl) (k e))<|Dd aC<|On aC<|On (by exact cK.eqv (oS rfl rfl rfl) (g i))<|Zd cD ?_;refine Cn ?_ ?_<;>intro c
   ·cases c
   refine aA<|Sq<|Sd aC<|Dd (by exact cK.eqv (jF rfl rfl rfl) (k f))<|Dd aC<|On aC<|On (by exact cK.eqv (oS rfl rfl rfl) (g j))<|Zd cD ?_;refine Cn ?_ ?_<;>intro d
   ·cases d
   exact aA<|Sz aH<|aB<|Rt<|Qq
  refine Bd RJ rfl LC<|Sz aH<|Sq<|Sd aC<|Dd (by exact cK.eqv (jF rfl rfl rfl) (k e))<|Dd aC<|On aC<|On (by exact cK.eqv (oS rfl rfl rfl) (g i))<|Zd cD ?_;refine Cn ?_ ?_<;>intro c
  ·cases c
  refine aA<|Sq<|Sd aC<|Dd (by exact cK.eqv (jF rfl rfl rfl) (g f))<|Dd aC<|Fo<|Fo<|Zd cD ?_;refine Cn ?_ ?_<;>intro d
  ·cases d
  exact aA<|Sz aH<|aB<|Rt<|Qq
 refine Bd RJ rfl LC<|Sz aH<|Sq<|Sd aC<|Dd (by exact cK.eqv (jF rfl rfl rfl) (g e))<|Dd aC<|Fo<|Fo<|Zd cD ?_;refine Cn ?_ ?_<;>intro c
 ·cases c
 refine aA<|Sq<|Sd aC<|Dd (by exact cK.eqv (jF rfl rfl rfl) (g (by omega)))<|Dd aC<|Fo<|Fo<|Zd cD ?_;refine Cn ?_ ?_<;>intro d
 ·cases d
 exact aA<|Sz aH<|aB<|Rt<|Qq
theorem Dk{s}{i}{y}(h:s.data.toList[i]?=some y):DX (bH s i)↔MR y=true:=by
 rw[bH];simp[DX,MR,Bool.or_eq_true,aCo,aCm,UInt8.le_iff_toNat_le]
 grind
theorem Mk{s}{i:Nat}{y}(h:s.data.toList[i]?=some y)(hy:MR y=false):isJ s=false:=by
 rw[isJ]
 grind
theorem Ml{s}(h:∀k,k<16->∀y,s.data.toList[k]?=some y->MR y=true):isJ s=decide (s.size=16):=by
 rw[isJ];by_cases e:s.size=16
 ·rw[decide_eq_true e,Bool.true_and,List.all_eq_true];intro y b;obtain ⟨k,a⟩:=aDA.1 b;have:=(aCj.1 a).1;rw[bC]at this;exact h k (by omega) y a
 simp_all
theorem mg(s:ByteArray)(hs:s.size<4611686018427387904)(H:aG):RC 128 [sv s] (bv (isJ s)) H:=by
 refine Pu ?_;have u:=bC s;refine Bd func128 rfl ntmps128<|Sz aH<|Sq<|Sz aH<|aE ?_;refine bJ (σ:=Nat) (fun i=>([(0,sv s),(3,iv (i:Int))],[])) (fun i=>i<=16/\i<=s.size/\∀k,k<i->∀y,s.data.toList[k]?=some y->MR y=true) (fun i=>16 - i) 0 ⟨aCw _,aCw _,fun k h=>by omega⟩ ?_ ?_
 ·exact Wk
 rintro i ⟨hi,hi2,g⟩;by_cases q:i<s.size/\i<16
 ·obtain ⟨hin1,hin2⟩:=q;obtain ⟨y,e⟩:=aT (l:=s.data.toList) (k:=i) (by omega);have b:=Dk e;obtain ⟨d,c⟩:∃d,d=bH s i:=⟨_,rfl⟩;rw[<-c]at b;by_cases m:MR y=true
  ·have j:=fun H=>oz d (b.2 m) H;have f:¬ (if d<=57 then d - 48 else d - 87)<0:=by
    have:=b.2 m;unfold DX at this
    split<;>omega
   rw[c]at j f;refine Sq<|Sd aC<|Dd aC<|Dd (gF underlying9)<|Dd (by exact cK.eqv (iZ rfl rfl rfl) (show AV.pv (.bool (decide ((i:Int)<(s.size:Int))))=bv true by simp_all))<|Dd aC<|On aC<|On (by exact cK.eqv (iZ rfl rfl rfl) (show AV.pv (.bool (decide ((i:Int)<16)))=bv true by grind))<|Zd cD ?_;refine Cn ?_ ?_<;>intro o
   ·refine aA<|Sq<|aE<|Sd aC<|Dd aC<|Dd (ky underlying9)<|Dd (kc aBq (j _))<|Zd cJ ?_;refine Cn ?_ ?_<;>intro v
    ·exact absurd (aCb v) f
    refine aA<|Rd aC<|Dd kp<|Da ?_;refine⟨i+1,⟨by omega,by omega,fun k A z hz=>?_⟩,by omega,Wk⟩
    grind
   cases o
  have m:MR y=false:=by simp_all
  have j:=fun H=>Et d (fun h=>by simp_all) H;rw[c]at j;rw[Mk e m];refine Sq<|Sd aC<|Dd aC<|Dd (gF underlying9)<|Dd (by exact cK.eqv (iZ rfl rfl rfl) (show AV.pv (.bool (decide ((i:Int)<(s.size:Int))))=bv true by simp_all))<|Dd aC<|On aC<|On (by exact cK.eqv (iZ rfl rfl rfl) (show AV.pv (.bool (decide ((i:Int)<16)))=bv true by grind))<|Zd cD ?_;refine Cn ?_ ?_<;>intro w
  ·refine aA<|Sq<|aE<|Sd aC<|Dd aC<|Dd (ky underlying9)<|Dd (kc aBq (j _))<|Zd cJ ?_;refine Cn ?_ ?_<;>intro n
   ·exact Sz aH<|aB<|Rt<|Qq
   (have h:=aCc n;exact absurd (by decide) h)
  cases w
 have l:=Ml (s:=s) (fun k A y e=>by
  have:=(aCj.1 e).1;rw[u]at this;exact g k (by omega) y e)
 have x:decide ((s.size:Int)=16)=decide (s.size=16):=by
  grind
 rw[l];by_cases h7:i<s.size
 ·refine Sq<|Sd aC<|Dd aC<|Dd (gF underlying9)<|Dd (by exact cK.eqv (iZ rfl rfl rfl) (show AV.pv (.bool (decide ((i:Int)<(s.size:Int))))=bv true by simp_all))<|Dd aC<|On aC<|On (by exact cK.eqv (iZ rfl rfl rfl) (show AV.pv (.bool (decide ((i:Int)<16)))=bv false by rw[decide_eq_false (by omega)]))<|Zd cD ?_;refine Cn ?_ ?_<;>intro p
  ·cases p
  exact aS<|Sd aC<|Dd (gF underlying9)<|Dd (by exact cK.eqv (gS rfl rfl rfl) (show AV.pv (.bool (decide ((s.size:Int)=16)))=bv (decide (s.size=16))by rw[x]))<|Zd aH<|aB<|Rt<|Qq
 refine Sq<|Sd aC<|Dd aC<|Dd (gF underlying9)<|Dd (by exact cK.eqv (iZ rfl rfl rfl) (show AV.pv (.bool (decide ((i:Int)<(s.size:Int))))=bv false by rw[decide_eq_false (by omega)]))<|Dd aC<|Fo<|Fo<|Zd cD ?_;refine Cn ?_ ?_<;>intro t
 ·cases t
 exact aS<|Sd aC<|Dd (gF underlying9)<|Dd (by exact cK.eqv (gS rfl rfl rfl) (show AV.pv (.bool (decide ((s.size:Int)=16)))=bv (decide (s.size=16))by rw[x]))<|Zd aH<|aB<|Rt<|Qq
def ie(b:UInt8):Bool:=decide (48<=b.toNat)&&decide (b.toNat<=57)
def vw:List UInt8->Nat->Nat->Nat×Nat
 | [],c,n=>(c,n)
 |b::r,c,n=>if(ie b&&decide (c<6))=true then vw r (c+1) (10*n+(b.toNat - 48))else(c,n)
def Jh(l:List UInt8):Nat:=(vw l 0 0).1
def Xr(l:List UInt8):Nat:=(vw l 0 0).2
def OO(l:List UInt8):Prop:=Jh l=0\/l[Jh l]?≠some 58\/l.length - Jh l - 1<Xr l
instance (l:List UInt8):Decidable (OO l):=inferInstanceAs (Decidable (_\/_\/_))
def MI(l:List UInt8):Option (List ByteArray) :=if h:l=[]then some []else if OO l then none else(MI (l.drop (Jh l+1+Xr l))).map (ofL ((l.drop (Jh l+1)).take (Xr l))::·)
termination_by l.length
decreasing_by have:=List.length_pos_iff.2 h;rw[aCu];omega
def Jg(l:List UInt8):List ByteArray×Bool:=match MI l with|some L=>(L,true)|none=>([],false)
theorem mc:∀(w r) (c n v),decFrom n w=some v->c+w.length<=6->vw (w++58::r) c n=(c+w.length,v)
 | [],r,c,n,v,h,_=>by
  obtain rfl:=Option.some.inj h;rfl
 | b::w,r,c,n,v,h,g=>by
  rw[decFrom]at h;rw[aCh]at g |-;cases e:digitVal b with
  |none=>simp_all
  | some d =>
   rw[e]at h;have f:d=b.toNat - 48/\ie b=true:=by
    rw[digitVal]at e
    split at e
    ·next a=>obtain rfl:=Option.some.inj e;exact⟨rfl,by rw[ie,decide_eq_true a.1,decide_eq_true a.2];rfl⟩
    cases e
   rw[List.cons_append,vw,aCe (by grind),<-f.1,Nat.mul_comm _,mc w r _ _ v h (by omega)];exact Prod.ext (by omega) rfl
theorem OL:∀(L:List ByteArray),(∀s∈L,s.size<1000000)->MI (aP L)=some L
 | [],_=>by rw[show aP []=[]from rfl,MI,dif_pos rfl]
 | x::L,h=>by
  have hx:=h x List.mem_cons_self;have hd:=dF (k:=6) (by omega) (by decide);have f:=sL x.size;have c:vw (aP (x::L)) 0 0=((decDigits x.size).length,x.size):=by rw[mS,mc _ _ 0 0 _ (oN _) (by omega),aCx]
  have g:Jh (aP (x::L))=(decDigits x.size).length:=congrArg Prod.fst c;have hN:Xr (aP (x::L))=x.size:=congrArg Prod.snd c;have i:(aP (x::L)).length=(decDigits x.size).length+1+(x.size+(aP L).length):=by rw[mS,aCg,aCh,aCg,bC];omega
  have d:(aP (x::L))[(decDigits x.size).length]?=some 58:=by rw[mS,List.getElem?_append_right (aCl _),Nat.sub_self];rfl
  have b:(aP (x::L)).drop ((decDigits x.size).length+1)=x.data.toList++aP L:=by
   rw[mS,show decDigits x.size++58::(x.data.toList++aP L)=(decDigits x.size++[58])++(x.data.toList++aP L)by simp,List.drop_left' (by simp)]
  rw[MI,dif_neg (fun e=>by simp_all),aCd (by rw[OO,g,hN,d,i];have:=List.length_pos_iff.2 f;exact fun h=>h.elim (fun h=>by omega) fun h=>h.elim (fun h=>h rfl) fun h=>by omega),g,hN,b,<-List.drop_drop,b,List.drop_left' (bC x),List.take_left' (bC x),OL L (fun s j=>h s (List.mem_cons_of_mem _ j)),hY];rfl
def bl(n:Int):ByteArray:=if n<0 then ofL (45::decDigits (-n).toNat)else ofL (decDigits n.toNat)
theorem Vc(n:Int)(h0 : -4611686018427387904<=n)(h1:n<=4611686018427387904)(H:aG):RC 99 [iv n] (sv (bl n)) H:=by
 by_cases e:n<0
 ·refine Pu ?_;have g:∃k:Nat,n = -((k:Int)+1):=⟨(-n - 1).toNat,by omega⟩;obtain ⟨k,g⟩:=g;have f:=fun H=>Y7 (k+1) (by omega) H;have hS:bl n=ofL (45::decDigits (k+1)):=by rw[bl,aCe e,show (-n).toNat=k+1 by omega]
  rw[hS];have j:IntKind.i64.wrap (n+1) = -(k:Int):=by rw[lI (by omega) (by omega)];omega
  have h:IntKind.u64.wrap (0 - -(k:Int))=(k:Int):=by rw[IntKind.wrap_u64];omega
  have i:IntKind.u64.wrap ((k:Int)+1)=((k+1:Nat):Int):=by rw[IntKind.wrap_u64];omega
  have e11:(⟨#[45]⟩:ByteArray)++ofL (decDigits (k+1))=ofL (45::decDigits (k+1)):=by rfl
  have h45:(⟨#[45]⟩:ByteArray).size=1:=rfl;have hds:(ofL (decDigits (k+1))).size<=19:=by rw[cM];exact dF (k:=19) (by omega) (by decide)
  refine Bd func99 rfl ntmps99<|Sz aH<|Sq<|Sd aC<|Zd (by exact cK.eqv (iZ rfl rfl rfl) (by rw[decide_eq_true e])) ?_;refine Cn ?_ ?_<;>intro d
  ·refine Sd aC<|Dd (ka j)<|Dd (by exact Lc rfl rfl (by exact lI (by omega) (by omega)))<|Dd (by exact fA rfl underlying3 iU rfl h)<|Dd (ka i)<|Dd (kc call142 (f _))<|Dd kq<|Zd aH<|aB<|Rt ?_
   simp_all
  cases d
 obtain ⟨k,rfl⟩:∃k:Nat,n=(k:Int):=⟨n.toNat,by omega⟩;rw[bl,aCd e];exact O0 k (by omega) H
theorem Fin.st2J{H1}{id g n}{ob}(l)(v)(b:H1.get id=some ob)(c:ob.g=g)(a:ob.rows=cH l)(d:n=l.length)(e:Clo [] v):
  Fin [] H1 (.tup [.osl id g 0 n,v]) [] (.tup [.pv (aU l),v]):=by
 subst c d;exact Fin.fz _ b (a.trans (eO l)) (.tup rfl (cA (.osl (kD _ l)) (cA (.same e) mD))) rfl trivial trivial
theorem qq(l:List UInt8)(hl:l.length<1000000000)(H:aG):RC 54 [sv (ofL l)] (.tup [.pv (aU (Jg l).1),bv (Jg l).2]) H:=by
 refine Pu ?_;have t1:∀ {p:Prop} [Decidable p],p->AV.pv (.bool (decide p))=bv true:=fun h=>by simp_all
 have t0:∀ {p:Prop} [Decidable p],¬ p->AV.pv (.bool (decide p))=bv false:=fun h=>by simp_all
 have n1:∀ {p:Prop} [Decidable p],¬ p->AV.pv (.bool (!decide p))=bv true:=fun h=>by simp_all
 have n0:∀ {p:Prop} [Decidable p],p->AV.pv (.bool (!decide p))=bv false:=fun h=>by simp_all
 have hz:=cM l;have hby:∀i b,l[i]?=some b->bH (ofL l) i=(b.toNat:Int):=fun i b h=>by rw[bH,dD,h];rfl
 have hvn:MI l=none->Jg l=([],false):=fun h=>by rw[Jg,h]
 have hvs:∀A,MI l=some A->Jg l=(A,true):=fun A h=>by rw[Jg,h]
 refine Bd func54 rfl ntmps54<|Sd aH<|Zd aH<|Sz (by exact fF (id:=905) (sz:=1) (ty:=9) rfl rfl rfl)<|Sz aH<|Sq<|aE ?_;refine fZ (fun(p:Nat) (A:List ByteArray)=>([(0,sv (ofL l)),(4,.osl 905 A.length 0 A.length),(5,iv (p:Int))],[(905,⟨A.length,1,9,cH A⟩)])) (fun p A=>p<=l.length/\A.length<=p/\MI l=(MI (l.drop p)).map (A++·)) (fun p A=>l.length - p) 0 [] ⟨aCw _,aCl _,by simp_all⟩ ?_ ?_
 ·exact(cQ.wk (Eb<|Ea<|Eb<|trivial) (Hc (bQ _ _)<|trivial) trivial)
 rintro p A ⟨hp,hAp,hJ⟩;refine Sq<|Sd aC<|Dd aC<|Dd (gF underlying9)<|Zd cJ ?_;refine Cn ?_ ?_<;>intro hc1
 ·have hlt:p<l.length:=by have:=aCb hc1;rw[hz]at this;omega
  obtain ⟨R,hR⟩:∃R,R=l.drop p:=⟨_,rfl⟩;have hRl:R.length=l.length - p:=by simp_all
  have hRg:∀c,R[c]?=l[p+c]?:=fun c=>by simp_all
  rw[<-hR]at hJ;have hR0:R≠[]:=fun e=>by grind
  refine aA<|aE<|Sz aH<|Sr<|Da ?_;refine eV (fun(q:Nat×Nat)=>([(0,sv (ofL l)),(4,.osl 905 A.length 0 A.length),(5,iv ((p+q.1:Nat):Int)),(6,iv (q.2:Int)),(7,iv (q.1:Int))],[(905,⟨A.length,1,9,cH A⟩)])) (fun q=>vw R 0 0=q/\q.1<=6/\p+q.1<=l.length/\q.2<1000000) ?_ ?_
  ·refine aE ?_;refine fZ (fun(c n:Nat)=>([(0,sv (ofL l)),(4,.osl 905 A.length 0 A.length),(5,iv ((p+c:Nat):Int)),(6,iv (n:Int)),(7,iv (c:Int))],[(905,⟨A.length,1,9,cH A⟩)])) (fun c n=>vw R 0 0=vw (R.drop c) c n/\c<=6/\p+c<=l.length/\n<10 ^ c) (fun c n=>6 - c) 0 0 ⟨rfl,aCw _,by omega,by decide⟩ ?_ ?_
   ·exact(cQ.wk (Eb<|Ea<|Eb<|Eb<|Eb<|trivial) (Hc (bQ _ _)<|trivial) trivial)
   rintro c n ⟨hsc,hle6,hcl,hn⟩;have hp6:10 ^ c<=1000000:=Nat.le_trans (Nat.pow_le_pow_right (by decide) hle6) (by decide);by_cases hend:p+c<l.length
   ·obtain ⟨b,hb⟩:=aT (l:=R) (k:=c) (by omega);have hbl:=hby (p+c) b ((hRg c).symm.trans hb);have hb256:=b.toNat_lt;have hdr:R.drop c=b::R.drop (c+1):=by
     have h1:=(aCj.1 hb).1;rw[List.drop_eq_getElem_cons h1,(aCj.1 hb).2]
    rw[hdr,vw]at hsc;by_cases hgo:(ie b&&decide (c<6))=true
    ·rw[aCe hgo]at hsc;rw[aCo,ie,aCo,aCm,aCm,aCm]at hgo;have hn2:10*n+(b.toNat - 48)<10 ^ (c+1):=by rw[Nat.pow_succ];omega
     refine Sq<|Sd aC<|Dd aC<|Dd (gF underlying9)<|Dd (by exact cK.eqv (iZ rfl rfl rfl) (t1 (by rw[hz];omega)))<|Dd aC<|On aC<|On aC<|On (by exact cR rfl underlying9 rfl rfl (by omega) (by exact aCq _) (by rw[hz];omega) rfl)<|On (by exact cK.eqv (jF rfl rfl rfl) (t1 (by rw[hbl];omega)))<|Dd cD<|Dd aC<|On aC<|On aC<|On (by exact cR rfl underlying9 rfl rfl (by omega) (by exact aCq _) (by rw[hz];omega) rfl)<|On (by exact cK.eqv (oS rfl rfl rfl) (t1 (by rw[hbl];omega)))<|Dd cD<|Dd aC<|On aC<|On (by exact cK.eqv (iZ rfl rfl rfl) (t1 (by omega)))<|Zd cD ?_;refine Cn ?_ ?_<;>intro hc2
     ·refine aA<|aE<|Sd aC<|Dd (by exact iY rfl rfl rfl (show IntKind.i64.wrap (10*(n:Int))=((10*n:Nat):Int)by rw[lI (by omega) (by omega)];omega))<|Dd aC<|Dd aC<|Dd (by exact cR rfl underlying9 rfl rfl (by omega) (by exact aCq _) (by rw[hz];omega) rfl)<|Dd (by exact dB rfl rfl rfl (show IntKind.u8.wrap (bH (ofL l) (p+c) - 48)=((b.toNat - 48:Nat):Int)by rw[hbl,IntKind.wrap_u8];omega))<|Dd (by exact fA rfl eB underlying3 rfl (lI (by omega) (by omega)))<|Dd (by exact eA rfl rfl rfl (show IntKind.i64.wrap (((10*n:Nat):Int)+((b.toNat - 48:Nat):Int))=((10*n+(b.toNat - 48):Nat):Int)by rw[lI (by omega) (by omega)];omega))<|Zd aH<|Sd aC<|Dd (by exact eA rfl rfl rfl (show IntKind.i64.wrap (((p+c:Nat):Int)+1)=((p+(c+1):Nat):Int)by rw[lI (by omega) (by omega)];omega)) ?_;refine Zd aH<|Rd aC<|Dd kp<|Da ?_;exact⟨c+1,_,⟨hsc,by omega,by omega,hn2⟩,by omega,(cQ.wk (Eb<|Ea<|Eb<|Eb<|Eb<|trivial) (Hc (bQ _ _)<|trivial) trivial)⟩
     cases hc2
    rw[aCd hgo]at hsc;have hgo:(ie b&&decide (c<6))=false:=by simpa using hgo
    have hfin:∃a:Nat×Nat,(vw R 0 0=a/\a.1<=6/\p+a.1<=l.length/\a.2<1000000)/\a=(c,n):=⟨(c,n),⟨hsc,hle6,hcl,by omega⟩,rfl⟩;obtain ⟨_,hfin,rfl⟩:=hfin;by_cases h48:48<=b.toNat
    ·by_cases h57:b.toNat<=57
     ·have hc:¬ c<6:=fun h=>by rw[ie,decide_eq_true h48,decide_eq_true h57,decide_eq_true h]at hgo;cases hgo
      refine Sq<|Sd aC<|Dd aC<|Dd (gF underlying9)<|Dd (by exact cK.eqv (iZ rfl rfl rfl) (t1 (by rw[hz];omega)))<|Dd aC<|On aC<|On aC<|On (by exact cR rfl underlying9 rfl rfl (by omega) (by exact aCq _) (by rw[hz];omega) rfl)<|On (by exact cK.eqv (jF rfl rfl rfl) (t1 (by rw[hbl];omega)))<|Dd cD<|Dd aC<|On aC<|On aC<|On (by exact cR rfl underlying9 rfl rfl (by omega) (by exact aCq _) (by rw[hz];omega) rfl)<|On (by exact cK.eqv (oS rfl rfl rfl) (t1 (by rw[hbl];omega)))<|Dd cD<|Dd aC<|On aC<|On (by exact cK.eqv (iZ rfl rfl rfl) (t0 (by omega)))<|Zd cD ?_;refine Cn ?_ ?_<;>intro hc3
      ·cases hc3
      refine aS ?_;exact⟨(c,n),hfin,(cQ.wk (Eb<|Ea<|Eb<|Eb<|Eb<|trivial) (Hc (bQ _ _)<|trivial) trivial)⟩
     refine Sq<|Sd aC<|Dd aC<|Dd (gF underlying9)<|Dd (by exact cK.eqv (iZ rfl rfl rfl) (t1 (by rw[hz];omega)))<|Dd aC<|On aC<|On aC<|On (by exact cR rfl underlying9 rfl rfl (by omega) (by exact aCq _) (by rw[hz];omega) rfl)<|On (by exact cK.eqv (jF rfl rfl rfl) (t1 (by rw[hbl];omega)))<|Dd cD<|Dd aC<|On aC<|On aC<|On (by exact cR rfl underlying9 rfl rfl (by omega) (by exact aCq _) (by rw[hz];omega) rfl)<|On (by exact cK.eqv (oS rfl rfl rfl) (t0 (by rw[hbl];omega)))<|Dd cD<|Dd aC<|Fo<|Fo<|Zd cD ?_;refine Cn ?_ ?_<;>intro hc4
     ·cases hc4
     refine aS ?_;exact⟨(c,n),hfin,(cQ.wk (Eb<|Ea<|Eb<|Eb<|Eb<|trivial) (Hc (bQ _ _)<|trivial) trivial)⟩
    refine Sq<|Sd aC<|Dd aC<|Dd (gF underlying9)<|Dd (by exact cK.eqv (iZ rfl rfl rfl) (t1 (by rw[hz];omega)))<|Dd aC<|On aC<|On aC<|On (by exact cR rfl underlying9 rfl rfl (by omega) (by exact aCq _) (by rw[hz];omega) rfl)<|On (by exact cK.eqv (jF rfl rfl rfl) (t0 (by rw[hbl];omega)))<|Dd cD<|Dd aC<|Fo<|Fo<|Fo<|Fo<|Dd cD<|Dd aC<|Fo<|Fo<|Zd cD ?_;refine Cn ?_ ?_<;>intro hc5
    ·cases hc5
    refine aS ?_;exact⟨(c,n),hfin,(cQ.wk (Eb<|Ea<|Eb<|Eb<|Eb<|trivial) (Hc (bQ _ _)<|trivial) trivial)⟩
   rw[List.drop_eq_nil_of_le (by omega),vw]at hsc;refine Sq<|Sd aC<|Dd aC<|Dd (gF underlying9)<|Dd (by exact cK.eqv (iZ rfl rfl rfl) (t0 (by rw[hz];omega)))<|Dd aC<|Fo<|Fo<|Fo<|Fo<|Dd cD<|Dd aC<|Fo<|Fo<|Fo<|Fo<|Dd cD<|Dd aC<|Fo<|Fo<|Zd cD ?_;refine Cn ?_ ?_<;>intro hc6
   ·cases hc6
   refine aS ?_;exact⟨(c,n),⟨hsc,hle6,hcl,by omega⟩,(cQ.wk (Eb<|Ea<|Eb<|Eb<|Eb<|trivial) (Hc (bQ _ _)<|trivial) trivial)⟩
  rintro⟨c,n⟩ ⟨hsc,hle6,hcl,hn⟩;have hC:Jh R=c:=congrArg Prod.fst hsc;have hN:Xr R=n:=congrArg Prod.snd hsc;have hbad:OO R->Jg l=([],false):=fun h=>hvn (by rw[hJ,MI,dif_neg hR0,aCe h];rfl);rw[OO,hC,hN]at hbad;dsimp only at hle6 hcl hn |-;by_cases c0:c=0
  ·rw[hbad (.inl c0)];refine Sq<|Sd aC<|Dd (by exact cK.eqv (gS rfl rfl rfl) (t1 (by omega)))<|Dd aC<|Fo<|Fo<|Fo<|Fo<|Dd cD<|Dd aC<|Fo<|Fo<|Fo<|Fo<|Dd cD<|Dd aC<|Fo<|Fo<|Fo<|Fo<|Fo<|Fo<|Fo<|Zd cD ?_;refine Cn ?_ ?_<;>intro hc7
   ·refine Sd aH<|Zd aH<|aB ?_;refine iN (H':=[]) (.inr rfl) rfl (aJ rfl) (aJ rfl) (Fin.wk (r:=.tup [.pv (aU []),bv false]) (by simp) trivial trivial) ?_;exact Qq
   cases hc7
  by_cases hend:p+c<l.length
  ·obtain ⟨b,hb⟩:=aT (l:=R) (k:=c) (by omega);have hbl:=hby (p+c) b ((hRg c).symm.trans hb);by_cases h58:b=58
   ·have hb58:bH (ofL l) (p+c)=58:=by rw[hbl,h58];rfl
    have w63:IntKind.i64.wrap (((ofL l).size:Int) - ((p+c:Nat):Int))=((l.length - (p+c):Nat):Int):=by rw[hz,lI (by omega) (by omega)];omega
    have w64':IntKind.i64.wrap (((l.length - (p+c):Nat):Int) - 1)=((l.length - (p+c) - 1:Nat):Int):=by rw[lI (by omega) (by omega)];omega
    have w70:IntKind.i64.wrap (((p+c:Nat):Int)+1)=((p+c+1:Nat):Int):=by rw[lI (by omega) (by omega)];omega
    refine Sq<|Sd aC<|Dd (by exact cK.eqv (gS rfl rfl rfl) (t0 (by omega)))<|Dd aC<|On aC<|On aC<|On (gF underlying9)<|On (by exact cK.eqv (gS rfl rfl rfl) (t0 (by rw[hz];omega)))<|Dd cD<|Dd aC<|On aC<|On aC<|On (by exact cR rfl underlying9 rfl rfl (by omega) (by exact aCq _) (by rw[hz];omega) rfl)<|On (by exact cK.eqv (vQ rfl rfl rfl) (n0 hb58))<|Dd cD<|Dd aC<|On aC<|On aC<|On (gF underlying9)<|On aC<|On (by exact dB rfl rfl rfl w63)<|On (by exact dB rfl rfl rfl w64')<|On gX<|Zd cD ?_;refine Cn ?_ ?_<;>intro hc8
    ·have hgt:l.length - (p+c) - 1<n:=by have:=aCb hc8;omega
     rw[hbad (.inr (.inr (by omega)))];refine Sd aH<|Zd aH<|aB ?_;refine iN (H':=[]) (.inr rfl) rfl (aJ rfl) (aJ rfl) (Fin.wk (r:=.tup [.pv (aU []),bv false]) (by simp) trivial trivial) ?_;exact Qq
    have hle:n<=l.length - (p+c) - 1:=by have:=aCc hc8;omega
    have hok:¬ OO R:=by rw[OO,hC,hN,hb,h58];exact fun h=>h.elim c0 fun h=>h.elim (fun h=>h rfl) fun h=>by omega
    have hx75:(ofL l).extract (p+c+1) (p+c+1+n)=ofL ((R.drop (c+1)).take n):=pD (by rw[jS,dD,dD,hR,List.drop_drop,show p+c+1+n - (p+c+1)=n by omega,show p+(c+1)=p+c+1 by omega]);have hdr:l.drop (p+c+1+n)=R.drop (c+1+n):=by rw[hR,List.drop_drop,show p+(c+1+n)=p+c+1+n by omega]
    have hnl:(A++[ofL ((R.drop (c+1)).take n)]).length=A.length+1:=by rw[aCg];rfl
    have hnx:MI l=(MI (l.drop (p+c+1+n))).map ((A++[ofL ((R.drop (c+1)).take n)])++·):=by
     rw[hJ,MI,dif_neg hR0,aCd hok,hC,hN,hdr];cases MI (R.drop (c+1+n))<;>simp
    obtain ⟨X,hX⟩:∃X,X=ofL ((R.drop (c+1)).take n):=⟨_,rfl⟩;rw[<-hX]at hx75 hnl hnx;refine aA<|Sd aC<|Dd aC<|Dd aC<|Dd (ka w70)<|Dd aC<|Dd (ka w70)<|Dd aC<|Dd (by exact eA rfl rfl rfl (show IntKind.i64.wrap (((p+c+1:Nat):Int)+(n:Int))=((p+c+1+n:Nat):Int)by rw[lI (by omega) (by omega)];omega))<|Dd (by exact cB (l:=p+c+1) (h:=p+c+1+n) rfl underlying9 rfl rfl rfl (by omega) (by rw[hz];omega) hx75)<|Dd (by exact aN [[.str X]] rfl bT rfl rfl rfl rfl rfl (by intro r hr;rw[aCi]at hr;subst hr;rfl))<|Dd (by exact cG (ps:=[[.str X]]) rfl bT zT rfl rfl rfl rfl rfl (fP _) rfl (by intro r hr;rw[aCi]at hr;subst hr;rfl) (m:=1) rfl (by omega) rfl (jZ A X))<|Zd aH<|Rd aC<|Dd (ka w70)<|Dd aC<|Dd (by exact eA rfl rfl rfl (show IntKind.i64.wrap (((p+c+1:Nat):Int)+(n:Int))=((p+c+1+n:Nat):Int)by rw[lI (by omega) (by omega)];omega)) ?_;refine Da ?_;refine⟨p+c+1+n,A++[X],⟨by omega,by rw[hnl];omega,hnx⟩,by omega,?_⟩;rw[hnl];exact(cQ.wk (Eb<|Ea<|Eb<|trivial) (Hc (bQ _ _)<|trivial) trivial)
   have hb58:¬ bH (ofL l) (p+c)=58:=fun e=>h58 (by
    rw[hbl]at e;exact UInt8.toNat_inj.1 (by show b.toNat=58;omega))
   rw[hbad (.inr (.inl (by rw[hb];exact fun e=>h58 (Option.some.inj e))))];refine Sq<|Sd aC<|Dd (by exact cK.eqv (gS rfl rfl rfl) (t0 (by omega)))<|Dd aC<|On aC<|On aC<|On (gF underlying9)<|On (by exact cK.eqv (gS rfl rfl rfl) (t0 (by rw[hz];omega)))<|Dd cD<|Dd aC<|On aC<|On aC<|On (by exact cR rfl underlying9 rfl rfl (by omega) (by exact aCq _) (by rw[hz];omega) rfl)<|On (by exact cK.eqv (vQ rfl rfl rfl) (n1 hb58))<|Dd cD<|Dd aC<|Fo<|Fo<|Fo<|Fo<|Fo<|Fo<|Fo<|Zd cD ?_;refine Cn ?_ ?_<;>intro hc9
   ·refine Sd aH<|Zd aH<|aB ?_;refine iN (H':=[]) (.inr rfl) rfl (aJ rfl) (aJ rfl) (Fin.wk (r:=.tup [.pv (aU []),bv false]) (by simp) trivial trivial) ?_;exact Qq
   cases hc9
  rw[hbad (.inr (.inl (by rw[List.getElem?_eq_none (by omega)];exact fun e=>by cases e)))];refine Sq<|Sd aC<|Dd (by exact cK.eqv (gS rfl rfl rfl) (t0 (by omega)))<|Dd aC<|On aC<|On aC<|On (gF underlying9)<|On (by exact cK.eqv (gS rfl rfl rfl) (t1 (by rw[hz];omega)))<|Dd cD<|Dd aC<|Fo<|Fo<|Fo<|Fo<|Dd cD<|Dd aC<|Fo<|Fo<|Fo<|Fo<|Fo<|Fo<|Fo<|Zd cD ?_;refine Cn ?_ ?_<;>intro hc10
  ·refine Sd aH<|Zd aH<|aB ?_;refine iN (H':=[]) (.inr rfl) rfl (aJ rfl) (aJ rfl) (Fin.wk (r:=.tup [.pv (aU []),bv false]) (by simp) trivial trivial) ?_;exact Qq
  cases hc10
 have hge:p=l.length:=by have:=aCc hc1;rw[hz]at this;omega
 have hfin:Jg l=(A,true):=hvs A (by rw[hJ,hge,List.drop_length,MI,dif_pos rfl];simp);rw[hfin];refine aS<|Sd aC<|Dd aH<|Zd aH<|aB ?_;refine iN (H':=[]) (.inr rfl) rfl (aJ rfl) (aJ rfl) (Fin.st2J A (bv true) rfl rfl rfl rfl (by simp)) ?_;exact Qq
abbrev RS:=List ByteArray×Bool
abbrev mw(q:RS):Ob:=bx 2 96 [.pv (aU q.1),bv q.2]
abbrev mx(q:RS):aG:=[(980,mw q)]
abbrev mm:AV:=.ref 980 0 0 0
theorem mv(q)(H):∀r∈(mw q).rows,∀a∈r,Clo H a:=by simp
def Hf(f:FuncId)(q:RS)(v:AV)(q':RS):Prop:=∀H1:aG,H1.get 980=some (mw q)->aW Tryz.prog f [mm] H1 (fun r H'=>r=v/\H'=mx q'++H1)
theorem Hf.of{f}{q a}{v}(h:aW Tryz.prog f [mm] (mx q) (fun r H'=>r=v/\H'=mx a)):Hf f q v a:=fun H1 c=>by
 have hk:∀(q) id,980≠id->(mx q).get id=none:=fun q id e=>by simp[aG.get,kV e]
 refine aW.frame h (fun id ob b=>?_) (eE.ofL ⟨mv q _,trivial⟩) (by simp;rfl) (fun id hi=>?_)
 ·by_cases e:980=id
  ·subst e;cases b;exact c
  grind
 by_cases e:980=id
 ·subst e;exact .inl rfl
 grind
def rN(q:RS):ByteArray×RS:=(q.1.headD sNil,(q.1.drop 1,q.2||decide (q.1.length=0)))
theorem tY(q:RS)(g:q.1.length<1099511627776):Hf 55 q (sv (rN q).1) (rN q).2:=by
 refine Hf.of ?_;obtain ⟨L,b⟩:=q;rcases L with _|⟨s,L⟩
 ·refine Bd func55 rfl ntmps55<|Sz aH<|Sq<|Sd aC<|Dd vS<|Dd (aV KU)<|Dd (bD aF)<|Dd (eR aD)<|Zd (by exact cK.val (by exact gS rfl rfl rfl) ((decide_eq_true rfl))) ?_;refine Cn ?_ ?_<;>intro d
  ·refine Sd aC<|Dd vS<|Dd (aV KT)<|Uu (by exact cV rfl sizeOf4 rfl rfl rfl rfl rfl rfl (by simp_all) (by simp only[Zl,encStr];rfl) (by simp only[Zl,encStr];rfl))<|Zz<|Sz aH<|aB ?_;refine dA (H':=(mx ([],true))) (.inr rfl) rfl (aJ rfl) (Fin.wk (by(simp;done)) (Hb<|trivial) ⟨rfl,trivial⟩) ?_;exact⟨rfl,by simp[rN]⟩
  cases d
 have f:((s::L).map encStr).length=L.length+1:=by simp_all
 have hq2:L.length+1<1099511627776:=g;refine Bd func55 rfl ntmps55<|Sz aH<|Sq<|Sd aC<|Dd vS<|Dd (aV KU)<|Dd (bD aF)<|Dd (eR aD)<|Zd (by exact cK.eqv (gS rfl rfl rfl) (by rw[f,decide_eq_false (by omega)])) ?_;refine Cn ?_ ?_<;>intro d
 ·cases d
 refine aA<|Sd aC<|Dd vS<|Dd (aV KU)<|Dd (bD aF)<|Dd (by exact bP rfl bT rfl rfl (by omega) (by exact aCq _) rfl rfl)<|Dd (fO isAgg9 (hi:=rfl))<|Zd aH<|Sd aC<|Dd aC<|Dd vS<|Dd (aV KU)<|Dd (bD aF)<|Dd (by exact mU (l:=1) (h:=((s::L).map encStr).length) (rows':=L.map encStr) rfl bT rfl (lP _) rfl rfl (by simp) (aCl _) (by grind))<|Dd vS<|Dd (aV KU)<|Uu (by exact cV rfl sizeOf22 rfl rfl rfl rfl rfl rfl (by simp_all) (by simp only[Zl,encStr];rfl) (by simp only[Zl,encStr];rfl))<|Zz<|Sd aC<|Zd aH<|aB ?_;refine dA (H':=(mx (L,b))) (.inr rfl) rfl (aJ rfl) (Fin.wk (by(simp;done)) (Hb<|trivial) ⟨rfl,trivial⟩) ?_;exact⟨rfl,by simp[rN]⟩
def R9(l:List UInt8):Int:=l.foldl (fun n b=>10*n+(b.toNat:Int) - 48) 0
def wZ(s:ByteArray):Option Int:=if 7<s.size then none else if bl (R9 s.data.toList)=s then some (R9 s.data.toList)else none
def rU(q:RS):Int×RS:=((wZ (rN q).1).getD 0,((rN q).2.1,(rN q).2.2||(wZ (rN q).1).isNone))
theorem Bu(l)(b):R9 (l++[b])=10*R9 l+(b.toNat) - 48:=by rw[R9,List.foldl_append];rfl
theorem Bv:∀(l:List UInt8) (n:Int) (p:Nat),1<=p -> -(30*p - 30)<=n->n<=30*p - 30 -> -(30*((p*10 ^ l.length:Nat)) - 30)<=l.foldl (fun n b=>10*n+(b.toNat:Int) - 48) n/\l.foldl (fun n b=>10*n+(b.toNat:Int) - 48) n<=30*((p*10 ^ l.length:Nat)) - 30
 | [],n,p,_,a,c=>by simp_all
 |b::l,n,p,hp,a,c=>by
  have hb:=b.toNat_lt;have:=Bv l (10*n+(b.toNat) - 48) (p*10) (by omega) (by omega) (by omega);rw[aCh,Nat.pow_succ,Nat.mul_comm (10 ^ l.length),<-Nat.mul_assoc];exact this
theorem KF{l}(h:l.length<=7): -300000000<=R9 l/\R9 l<=300000000:=by have h1:=Bv l 0 1 (aCl _) (by simp) (by simp);have h2:10 ^ l.length<=10 ^ 7:=Nat.pow_le_pow_right (by simp) h;rw[R9];omega
theorem nO(q:RS)(J:q.1.length<1099511627776):Hf 56 q (iv (rU q).1) (rU q).2:=by
 refine Hf.of ?_;have j:=tY q J;rw[rU];obtain ⟨⟨s,d⟩,G⟩:∃p,p=rN q:=⟨_,rfl⟩;rw[<-G]at j |-;clear G;dsimp only at j |-;obtain ⟨l,w⟩:∃l,l=s.data.toList:=⟨_,rfl⟩;have hsl:l.length=s.size:=by simp_all
 have z:∀i b,l[i]?=some b->bH s i=(b.toNat:Int):=fun i b h=>by rw[bH,<-w,h];rfl
 have k:wZ s=none->((wZ s).getD 0,(d.1,d.2||(wZ s).isNone))=(0,(d.1,true)):=fun h=>by simp_all
 have g:wZ s=some (R9 l)->((wZ s).getD 0,(d.1,d.2||(wZ s).isNone))=(R9 l,d):=fun h=>by simp_all
 obtain ⟨Y,D⟩:∃Y,Y=((wZ s).getD 0,(d.1,d.2||(wZ s).isNone)):=⟨_,rfl⟩;rw[<-D]at k g;show aW Tryz.prog _ [mm] (mx q) (fun r K=>r=iv (((wZ s).getD 0,(d.1,d.2||(wZ s).isNone)):Int×RS).1/\K=mx (((wZ s).getD 0,(d.1,d.2||(wZ s).isNone)):Int×RS).2);rw[<-D];clear D;refine Bd func56 rfl ntmps56<|Sz aH<|Sd aC<|Dd (kc pW (j _ rfl))<|Zd aH<|Sz aH<|Sq<|Sd aC<|Dd (gF underlying9)<|Zd gX ?_;refine Cn ?_ ?_<;>intro t
 ·have v:7<s.size:=by have:=aCb t;omega
  rw[k (by rw[wZ,aCe v])];refine Sd aC<|Dd vS<|Dd (aV KT)<|Uu (by exact cV rfl sizeOf4 rfl rfl rfl rfl rfl rfl (by simp_all) (by simp only[Zl,encStr];rfl) (by simp only[Zl,encStr];rfl))<|Zz<|Sz aH<|aB ?_;refine dA (H':=(mx (d.1,true))) (.inr rfl) rfl (aJ rfl) (Fin.wk (by(simp;done)) (Hb<|trivial) ⟨rfl,trivial⟩) ?_;exact Qq
 have v:¬ 7<s.size:=by have:=aCc t;omega
 refine aA<|Sq<|Sz aH<|aE ?_;refine bJ (σ:=Nat) (fun i=>([(0,mm),(3,sv s),(4,iv (R9 (l.take i))),(5,iv (i:Int))],[(980,mw d)])) (fun i=>i<=l.length) (fun i=>l.length - i) 0 (aCw _) ?_ ?_
 ·exact Wk
 intro i hi;have C:=KF (l:=l.take i) (by grind);by_cases x:i<l.length
 ·obtain ⟨b,I⟩:=aT x;have y:=z i b I;have hb256:=b.toNat_lt;have n:R9 (l.take (i+1))=10*R9 (l.take i)+(b.toNat:Int) - 48:=by rw[kA I,Bu]
  refine Sq<|Sd aC<|Dd aC<|Dd (gF underlying9)<|Zd cJ ?_;refine Cn ?_ ?_<;>intro F
  ·refine aA<|Sq<|aE<|Rd aC<|Dd (by exact iY rfl rfl rfl (lI (by omega) (by omega)))<|Dd aC<|Dd aC<|Dd (ky underlying9)<|Dd (by exact fA rfl eB underlying3 rfl (show IntKind.i64.wrap (bH s i)=(b.toNat:Int)by rw[y,lI (by omega) (by omega)]))<|Dd (by exact eA rfl rfl rfl (lI (by omega) (by omega)))<|Dd (by exact dB rfl rfl rfl (show IntKind.i64.wrap (10*R9 (l.take i)+(b.toNat:Int) - 48)=R9 (l.take (i+1))by rw[n,lI (by omega) (by omega)]))<|Zd aH<|Rd aC<|Dd kp<|Da ?_;exact⟨i+1,by omega,by omega,Wk⟩
  (have h:=aCc F;omega)
 have o:i=l.length:=by omega
 subst o;rw[List.take_length]at C |-;have u:=fun H=>Vc (R9 l) (by omega) (by omega) H;refine Sq<|Sd aC<|Dd aC<|Dd (gF underlying9)<|Zd cJ ?_;refine Cn ?_ ?_<;>intro E
 ·(have h:=aCb E;omega)
 refine aS<|Sq<|Sd aC<|Dd (kc jB (u _))<|Dd aC<|Zd DH ?_;refine Cn ?_ ?_<;>intro m
 ·have A:¬ bl (R9 l)=s:=by have:=m;intro e;rw[decide_eq_true e]at this;cases this
  rw[k (by rw[wZ,aCd v,<-w,aCd A])];refine Sd aC<|Dd vS<|Dd (aV KT)<|Uu (by exact cV rfl sizeOf4 rfl rfl rfl rfl rfl rfl (by simp only[aCh,List.length_nil];omega) (by simp only[Zl,encStr];rfl) (by simp only[Zl,encStr];rfl))<|Zz<|Sz aH<|aB ?_;refine dA (H':=(mx (d.1,true))) (.inr rfl) rfl (aJ rfl) (Fin.wk (by(simp;done)) (Hb<|trivial) ⟨rfl,trivial⟩) ?_;exact Qq
 have B:bl (R9 l)=s:=by have:=m;rw[Bool.not_eq_false']at this;exact aCb this
 rw[g (by rw[wZ,aCd v,<-w,aCe B])];refine aA<|Sd aC<|Zd aH<|aB ?_;refine dA (H':=(mx d)) (.inr rfl) rfl (aJ rfl) (Fin.wk (by(simp;done)) (Hb<|trivial) ⟨rfl,trivial⟩) ?_;exact Qq
def rL(q:RS):List ByteArray×RS:=if((rU q).2.1.length:Int)<(rU q).1\/(rU q).1<0 then([],((rU q).2.1,true))else((rU q).2.1.take (rU q).1.toNat,((rU q).2.1.drop (rU q).1.toNat,(rU q).2.2))
def rZ(q:RS):GSeal×RS:=(⟨(rU q).1,(rL (rU q).2).1,(rL (rL (rU q).2).2).1⟩,(rL (rL (rU q).2).2).2)
theorem Sb(q):(rN q).2.1.length<=q.1.length:=by show (q.1.drop 1).length<=_;simp_all
theorem WB(q):(rU q).2.1.length<=q.1.length:=Sb q
theorem Sc(q):(rL q).2.1.length<=q.1.length:=by
 have:=WB q;rw[rL]
 split
 ·exact this
 grind
theorem NN(q:RS)(F:q.1.length<1099511627776):Hf 57 q (.pv (aU (rL q).1)) (rL q).2:=by
 refine Hf.of ?_;have l:=nO q F;have r:=WB q;have e:((rU q).2.1.length:Int)<(rU q).1\/(rU q).1<0->rL q=([],((rU q).2.1,true)):=fun h=>by rw[rL,aCe h]
 have d:¬ (((rU q).2.1.length:Int)<(rU q).1\/(rU q).1<0)->rL q=((rU q).2.1.take (rU q).1.toNat,((rU q).2.1.drop (rU q).1.toNat,(rU q).2.2)):=fun h=>by rw[rL,aCd h]
 obtain ⟨Y,D⟩:∃Y,Y=rL q:=⟨_,rfl⟩;rw[<-D]at e d |-;obtain ⟨⟨n,L,b⟩,C⟩:∃p,p=rU q:=⟨_,rfl⟩;rw[<-C]at l r e d;clear C D;dsimp only at l r e d;have t:(L.map encStr).length=L.length:=aCf _;refine Bd func57 rfl ntmps57<|Sz aH<|Sd aC<|Dd (kc pV (l _ rfl))<|Zd aH<|Sq<|Sq ?_;refine aQ (t:=18) (n:=12) (X:=decide (((L.map encStr).length:Int)<n)||decide (n<0)) ?_ ?_
 ·all_goals refine Dd aC ?_
  all_goals refine Dd aC<|Dd vS<|Dd (aV KU)<|Dd (bD aF)<|Dd (eR aD)<|Dd gX<|Dm ?_<;>(refine Sp 15 (fun A=>?_) fun A=>?_)<;>(first|contradiction|refine Fo<|Fo ?_|refine On aC<|On cJ ?_)<;>refine Zd cD ?_<;>(exact⟨⟨_,rfl,by grind⟩,rfl,rfl,rfl⟩)
 refine Cn ?_ ?_<;>intro o
 ·have j:=o;rw[t,Bool.or_eq_true,aCm,aCm]at j;rw[e j];refine Sd aC<|Dd vS<|Dd (aV KT)<|Uu (by exact cV rfl sizeOf4 rfl rfl rfl rfl rfl rfl (by simp_all) (by simp only[Zl,encStr];rfl) (by simp only[Zl,encStr];rfl))<|Zz<|Sz aH<|aB ?_;refine dA (H':=(mx (L,true))) (.inr rfl) rfl (aJ rfl) (Fin.wk (r:=.pv (aU [])) (by simp) ⟨⟨_,rfl,rfl⟩,(by simp_all),trivial⟩ ⟨rfl,trivial⟩) ?_;exact Qq
 have j:=o;rw[t,aDB,aCn,aCn]at j;rw[d (fun h=>h.elim j.1 j.2)];obtain ⟨hb1,hb2⟩:=j;obtain ⟨k,rfl⟩:∃k:Nat,n=(k:Int):=⟨n.toNat,by omega⟩;rw[aCq];have u:∀i,i<=k->(L.take i).length=i:=fun i w=>by grind
 refine aA<|Sz (by exact fF (id:=905) (sz:=1) (ty:=9) rfl rfl rfl)<|Sq<|Sz aH<|aE ?_;refine bJ (σ:=Nat) (fun i=>([(0,mm),(3,iv (k:Int)),(4,.osl 905 i 0 i),(5,iv (i:Int))],[(905,⟨i,1,9,cH (L.take i)⟩),(980,mw (L.drop i,b))])) (fun i=>i<=k) (fun i=>k - i) 0 (aCw _) ?_ ?_
 ·exact(cQ.wk (Ea<|Eb<|Ea<|Eb<|trivial) (Hc (bQ _ _)<|Hb<|trivial) ⟨rfl,trivial⟩)
 intro i w;refine Sq<|Sd aC<|Dd aC<|Zd cJ ?_;refine Cn ?_ ?_<;>intro m
 ·have hik:i<k:=by have:=aCb m;omega
  obtain ⟨s,z⟩:=aT (l:=L) (k:=i) (by omega);have B:L.drop i=s::L.drop (i+1):=by
   have E:=(aCj.1 z).1;rw[List.drop_eq_getElem_cons E,(aCj.1 z).2]
  have x:Hf 55 (L.drop i,b) (sv s) (L.drop (i+1),b):=by
   have:=tY (L.drop i,b) (by grind);rw[rN]at this
   simpa[B]using this
  have y:=kA z;have g:=u i w;refine aA<|Sq<|aE<|Rd aC<|Dd aC<|Dd (kc pW (x _ rfl))<|Dd (by exact aN [[.str s]] rfl bT rfl rfl rfl rfl rfl (by simp_all))<|Dd (by exact cG (k:=i+1) (ps:=[[.str s]]) rfl bT zT rfl rfl rfl rfl rfl ((fP _).trans g) rfl (by simp_all) (m:=1) rfl (by omega) rfl (rows':=cH (L.take (i+1))) (by rw[y];exact jZ _ s))<|Zd aH<|Rd aC<|Dd kp<|Da ?_;exact⟨i+1,by omega,by omega,(cQ.wk (Ea<|Eb<|Ea<|Eb<|trivial) (Hc (bQ _ _)<|Hb<|trivial) ⟨rfl,trivial⟩)⟩
 have v:i=k:=by have:=aCc m;omega
 subst v;have g:=u i w;refine aS<|Sd aC<|Zd aH<|aB ?_;refine dA (H':=(mx (L.drop i,b))) (.inr rfl) rfl (aJ rfl) (Fin.fz (id:=905) (ob:=⟨i,1,9,cH (L.take i)⟩) (r':=.pv (aU (L.take i))) ((L.take i).map encStr) rfl (eO _) (.osl (BK encStr _ g)) rfl ⟨⟨_,rfl,rfl⟩,(by(simp;done)),trivial⟩ ⟨rfl,trivial⟩) ?_;exact Qq
theorem mb(q:RS)(i:q.1.length<1099511627776):Hf 58 q (av (iM (rZ q).1)) (rZ q).2:=by refine Hf.of ?_;have h:=nO q i;have f:=NN (rU q).2 (Nat.lt_of_le_of_lt (WB q) i);have d:=NN (rL (rU q).2).2 (Nat.lt_of_le_of_lt (Sc _) (Nat.lt_of_le_of_lt (WB q) i));rw[rZ];obtain ⟨⟨n,k⟩,j⟩:∃p,p=rU q:=⟨_,rfl⟩;rw[<-j]at h f d |-;dsimp only at h f d |-;obtain ⟨⟨a,m⟩,e⟩:∃p,p=rL k:=⟨_,rfl⟩;rw[<-e]at f d |-;dsimp only at f d |-;obtain ⟨⟨c,l⟩,g⟩:∃p,p=rL m:=⟨_,rfl⟩;rw[<-g]at d |-;dsimp only at d |-;clear j e g;refine Bd func58 rfl ntmps58<|Sz (kl 2 X9)<|Sz (kl 3 X9)<|Sd aC<|Dd (kc pV (h _ rfl))<|Dd (aV iC)<|Uu (ku sizeOf3)<|Zz<|Sd aC<|Dd (kc Ia (f _ rfl))<|Dd (aV gD)<|Uu (ku sizeOf22)<|Zz<|Sd aC<|Dd (kc Ia (d _ rfl))<|Dd (aV iB)<|Uu (ku sizeOf22)<|Zz<|Sd (kY dK sizeOf25)<|Uu (iP sizeOf25)<|Zz<|aB ?_;refine dA (H':=(mx l)) (.inr rfl) rfl (eU rfl dK sizeOf25 rfl rfl rfl (by simp only[Zl,encStr];rfl) rfl) (Fin.wk (by simp[iM]) (Hb<|trivial) ⟨rfl,trivial⟩) ?_;exact Qq
end Go.Proofs.YtmdicgjnmfolfaaGreatDoor
namespace Go.Proofs.YtmdicgjnmfolfaaGreatDoor
open Go.Proofs.Tryz
open Go.Abs
theorem D2(l:List ByteArray)(H:aG)(t:FH l):RC 75 [.pv (aU l)] (bv (l.all isJ)) H:=by
 refine Pu ?_;obtain ⟨hl1,o⟩:=t;have hml:(l.map encStr).length=l.length:=aCf _;refine Bd func75 rfl ntmps75<|Sz aH<|Sq<|Sz aH<|aE ?_;refine bJ (σ:=Nat) (fun k=>([(0,.pv (aU l)),(3,iv (k:Int))],[])) (fun k=>k<=l.length/\∀j,j<k->∀b,l[j]?=some b->isJ b=true) (fun k=>l.length - k) 0 ⟨by omega,by omega⟩ ?_ ?_
 ·exact Wk
 rintro k ⟨hk,f⟩;refine Sq<|Sd aC<|Dd aC<|Dd (eR aD)<|Zd cJ ?_;refine Cn ?_ ?_<;>intro e
 ·have i:k<l.length:=by have:=aCb e;omega
  obtain ⟨s,g⟩:=aT i;have q:=cE (f:=encStr) g;have hsz:=o s (aCp g);have p:=fun H=>mg s (by omega) H;have d:=fun h=>CP (p:=isJ) g h;refine aA<|Sq<|aE<|Sd aC<|Dd aC<|Dd (by exact bP rfl bT rfl rfl (by omega) (by rfl) q rfl)<|Dd (fO isAgg9 (hi:=q))<|Dd (kc vt (p _))<|Zd iJ ?_;refine Cn ?_ ?_<;>intro c
  ·have n:=not_not c;rw[d n];exact Sz aH<|aB<|Rt<|Qq
  have n:=nU c;refine aA<|Rd aC<|Dd kp<|Da ?_;exact⟨k+1,⟨by omega,sZ f g n⟩,by omega,Wk⟩
 have m:k=l.length:=by have:=aCc e;omega
 subst m;rw[xR f];exact aS<|Sz aH<|aB<|Rt<|Qq
theorem YA(s:GSeal)(H:aG)(hs:tH s):RC 84 [av (iM s)] (bv (qS s)) H:=by
 refine aW.pure ?_ (by simp_all) H;have hX:qS s=((decide (s.idx=0)&&decide (((s.sig.map encStr).length:Int)=0))&&decide (((s.path.map encStr).length:Int)=0)):=by
  rw[qS,Bool.and_assoc]
  grind
 refine Bd func84 rfl ntmps84<|Sd (kb 1)<|Zd aH<|Sq ?_;refine aQ (t:=2) (n:=18) (X:=qS s) ?_ ?_
 ·all_goals refine Dd (aV iC) ?_
  all_goals refine Dd (bD isAgg3)<|Dd cF<|Dm ?_<;>(refine Sp 6 (fun d=>?_) fun d=>?_)<;>(first|contradiction|refine Fo<|Fo<|Fo<|Fo ?_|refine On (aV gD)<|On (bD aF)<|On (eR aD)<|On cF ?_)<;>refine Dd cD<|Dm ?_<;>(refine Sp 12 (fun c=>?_) fun c=>?_)<;>(first|refine Fo<|Fo<|Fo<|Fo ?_|refine On (aV iB)<|On (bD aF)<|On (eR aD)<|On cF ?_)<;>refine Dd cD<|Da ?_<;>(exact⟨⟨_,rfl,by simp_all⟩,rfl,rfl,rfl⟩)
 exact aB<|Rt<|Qq
theorem QD(s:GSeal)(H:aG)(n:tH s):RC 77 [av (iM s)] (bv (iW s)) H:=by
 refine aW.pure ?_ (by simp_all) H;have o:=fun H=>YA s H n;obtain ⟨⟨i1,i2⟩,q,u⟩:=n;have g:=fun H=>D2 s.sig H q;have h:=fun H=>D2 s.path H u;have t:decide (s.idx<256)=decide (s.idx<=255):=by
  grind
 have k:iW s=(qS s||(((((decide (0<=s.idx)&&decide (s.idx<=255))&&decide (((s.sig.map encStr).length:Int)=18))&&decide (((s.path.map encStr).length:Int)<=8))&&s.sig.all isJ)&&s.path.all isJ)):=by rw[iW,t]
 obtain ⟨z,f⟩:∃z,z=qS s:=⟨_,rfl⟩;obtain ⟨d1,e⟩:∃d,d=s.sig.all isJ:=⟨_,rfl⟩;obtain ⟨d2,c⟩:∃d,d=s.path.all isJ:=⟨_,rfl⟩;rw[<-f]at o k;rw[<-e]at g k;rw[<-c]at h k;clear f e c;refine Bd func77 rfl ntmps77<|Sd (kb 1)<|Zd aH<|Sq ?_;refine aQ (t:=2) (n:=41) (X:=iW s) ?_ ?_
 ·all_goals refine Dd (by exact aM rfl dK sizeOf25 rfl rfl rfl rfl (by simp only[Zl,encStr];rfl) rfl) ?_
  all_goals refine Dd (kc call84 (o _))<|Dm ?_<;>(refine Sp 5 (fun v=>?_) fun v=>?_)<;>(first|contradiction|refine Fo<|Fo<|Fo<|Fo ?_|refine On (aV iC)<|On (bD isAgg3)<|On CX<|On aC ?_)<;>(first|refine Sp 9 (fun p=>?_) fun p=>?_|refine kI (t:=9) rfl ?_)<;>(first|contradiction|refine Fo ?_|refine Fu ?_|refine On (aV iC) ?_)<;>(first|refine Fo ?_|refine Fu ?_|refine On (bD isAgg3) ?_)<;>(first|refine Fo ?_|refine Fu ?_|refine On GP ?_)<;>(first|refine Fo<|Fo ?_|refine On cD<|On aC ?_)<;>(first|refine Sp 14 (fun m=>?_) fun m=>?_|refine kI (t:=14) rfl ?_)<;>(first|contradiction|refine Fo ?_|refine Fu ?_|refine On (aV gD) ?_)<;>(first|refine Fo ?_|refine Fu ?_|refine On (bD aF) ?_)<;>(first|refine Fo ?_|refine Fu ?_|refine On (eR aD) ?_)<;>(first|refine Fo ?_|refine Fu ?_|refine On cF ?_)<;>(first|refine Fo<|Fo ?_|refine On cD<|On aC ?_)<;>(first|refine Sp 20 (fun i=>?_) fun i=>?_|refine kI (t:=20) rfl ?_)<;>(first|contradiction|refine Fo ?_|refine Fu ?_|refine On (aV iB) ?_)<;>(first|refine Fo ?_|refine Fu ?_|refine On (bD aF) ?_)<;>(first|refine Fo ?_|refine Fu ?_|refine On (eR aD) ?_)<;>(first|refine Fo ?_|refine Fu ?_|refine On GP ?_)<;>(first|refine Fo<|Fo ?_|refine On cD<|On aC ?_)<;>(first|refine Sp 26 (fun j=>?_) fun j=>?_|refine kI (t:=26) rfl ?_)<;>(first|contradiction|refine Fo ?_|refine Fu ?_|refine On (aV gD) ?_)<;>(first|refine Fo ?_|refine Fu ?_|refine On (bD aF) ?_)<;>(first|refine Fo ?_|refine Fu ?_|refine On (kc aCZ (g _)) ?_)<;>(first|refine Fo<|Fo ?_|refine On cD<|On aC ?_)<;>(first|refine Sp 31 (fun l=>?_) fun l=>?_|refine kI (t:=31) rfl ?_)<;>(first|contradiction|refine Fo ?_|refine Fu ?_|refine On (aV iB) ?_)<;>(first|refine Fo ?_|refine Fu ?_|refine On (bD aF) ?_)<;>(first|refine Fo ?_|refine Fu ?_|refine On (kc aCZ (h _)) ?_)<;>(first|refine Fo ?_|refine On cD ?_)<;>refine Dd cD<|Da ?_<;>(exact⟨⟨_,rfl,by grind⟩,rfl,rfl,rfl⟩)
 exact aB<|Rt<|Qq
theorem LS{s}(h:s.size=0):s=sNil:=pD (by simp_all)
theorem Gi{a b}:a++b=sNil↔a=sNil/\b=sNil:=by
 constructor
 ·intro h;have c:=congrArg ByteArray.size h;rw[ByteArray.size_append,show sNil.size=0 from rfl]at c;exact⟨LS (by omega),LS (by omega)⟩
 rintro⟨rfl,rfl⟩;rfl
theorem uc(p:GPriv)(H:aG):RC 30 [av (nD p)] (bv (gL p)) H:=by
 refine aW.pure ?_ (by simp_all) H;have hX:gL p=(((decide (p.name=sNil)&&decide (p.reason=sNil))&&decide (((p.sources.map encStr).length:Int)=0))&&decide (((p.trace.map fQ).length:Int)=0)):=by
  rw[gL,Bool.and_assoc (decide (p.name=sNil)&&decide (p.reason=sNil))];congr 1
  ·rw[<-Bool.decide_and];congr 1;exact propext Gi
  grind
 refine Bd func30 rfl ntmps30<|Sd (kb 1)<|Zd aH<|Sq ?_;refine aQ (t:=2) (n:=24) (X:=gL p) ?_ ?_
 ·all_goals refine Dd (aV xK) ?_
  all_goals refine Dd (bD isAgg9)<|Dd vF<|Dm ?_<;>(refine Sp 6 (fun e=>?_) fun e=>?_)<;>(first|contradiction|refine Fo<|Fo<|Fo ?_|refine On (aV xJ)<|On (bD isAgg9)<|On vF ?_)<;>refine Dd cD<|Dm ?_<;>(refine Sp 11 (fun d=>?_) fun d=>?_)<;>(first|contradiction|refine Fo<|Fo<|Fo<|Fo ?_|refine On (aV qK)<|On (bD aF)<|On (eR aD)<|On cF ?_)<;>refine Dd cD<|Dm ?_<;>(refine Sp 17 (fun c=>?_) fun c=>?_)<;>(first|contradiction|refine Fo<|Fo<|Fo<|Fo ?_|refine On (aV lO)<|On (bD eQ)<|On (eR dH)<|On cF ?_)<;>refine Dd cD<|Da ?_<;>(exact⟨⟨_,rfl,by simp_all⟩,rfl,rfl,rfl⟩)
 exact aB<|Rt<|Qq
def rR:List ByteArray->Bool
 |a::b::r=>xW a b&&rR (b::r)
 |_=>true
theorem bp:∀(l),(kG l).length<=l.length
 | []=>aCl _
 | [x]=>aCl _
 |x::y::r=>by
  have ih:=bp (y::r);show (if x=y then kG _ else x::kG _).length<=_
  grind
theorem P3:∀(l),De l=rR l
 | []=>rfl
 | [x]=>rfl
 | x::y::r=>by
  have d:=P3 (y::r);have hl:=bp (y::r);rw[De,aCf]at d |-;show ((!xW y x&&mV _)&&decide (((if x=y then kG _ else x::kG _).length:Int)=_))=(xW x y&&rR _);by_cases e:x=y
  ·rw[aCe e,e,M9,Bool.false_and,decide_eq_false (by have h9:(y::y::r).length=(y::r).length+1:=rfl;omega),Bool.and_false]
  rw[Bool.and_assoc];have h1:(!xW y x)=xW x y:=by
   cases c:xW x y
   ·cases b:xW y x
    ·exact absurd (M8 c b) e
    rfl
   cases b:xW y x
   ·rfl
   have:=JX c b;rw[M9]at this;cases this
  simp_all
theorem qi{l:List _}{k}{a b}(f:l[k]?=some a)(c:l[k+1]?=some b):rR (l.drop k)=(xW a b&&rR (l.drop (k+1))):=by obtain ⟨h,e⟩:=aCj.1 f;obtain ⟨g,d⟩:=aCj.1 c;rw[List.drop_eq_getElem_cons h,List.drop_eq_getElem_cons g,e,d];rfl
theorem VI{l}(h:l.length<=1):rR l=true:=by
 match l,h with
 | [],_=>rfl
 | [a],_=>rfl
def Sl(p:GPriv):Bool:=(((decide (200<(p.name.size:Int))||decide (200<(p.reason.size:Int)))||decide (16<((p.sources.map encStr).length:Int)))||decide (200<((p.trace.map fQ).length:Int)))||!iW p.sl
def gl(q:Int×Int):Bool:=W4 q.1 q.2
def rS(s:ByteArray):Bool:=!FX s
def AF(p:GPriv):Bool:=!Sl p&&(p.sources.all rS&&p.trace.all gl)
theorem Ap{p}(h:Sl p=true):AF p=false:=by rw[AF,h];rfl
theorem Ao{p}(h:p.sources.all rS=false):AF p=false:=by rw[AF,h,Bool.false_and,Bool.and_false]
theorem An{p}(h:p.trace.all gl=false):AF p=false:=by rw[AF,h,Bool.and_false,Bool.and_false]
theorem Am{p}(a:Sl p=false)(c:p.sources.all rS=true)(b:p.trace.all gl=true):AF p=true:=by rw[AF,a,c,b];rfl
theorem ZI(p:GPriv)(H:aG)(M:PJ p):RC 78 [av (nD p)] (bv (AF p)) H:=by
 refine aW.pure ?_ (by simp_all) H;have N:=fun H=>QD p.sl H M.2.2.2.2;obtain ⟨q1,q2,⟨q3,B⟩,q4,_⟩:=M;have hms:(p.sources.map encStr).length=p.sources.length:=aCf _;have hmt:(p.trace.map fQ).length=p.trace.length:=aCf _;have K:=fun h=>Ap (p:=p) h;have G:=fun h=>Ao (p:=p) h;have F:=fun h=>An (p:=p) h;have E:=fun P Q R=>Am (p:=p) P Q R;obtain ⟨f,u⟩:∃f,f=iW p.sl:=⟨_,rfl⟩;have hX:Sl p=((((decide (200<(p.name.size:Int))||decide (200<(p.reason.size:Int)))||decide (16<((p.sources.map encStr).length:Int)))||decide (200<((p.trace.map fQ).length:Int)))||!f):=by rw[Sl,<-u]
 rw[<-u]at N;refine Bd func78 rfl ntmps78<|Sd (kb 1)<|Zd aH<|Sq<|Sq ?_;refine aQ (t:=32) (n:=32) (X:=Sl p) ?_ ?_
 ·all_goals refine Dd (aV xK) ?_
  all_goals refine Dd (bD isAgg9)<|Dd (gF underlying9)<|Dd gX<|Dm ?_<;>(refine Sp 9 (fun O=>?_) fun O=>?_)<;>(first|contradiction|refine Fo<|Fo<|Fo<|Fo ?_|refine On (aV xJ)<|On (bD isAgg9)<|On (gF underlying9)<|On gX ?_)<;>refine Dd cD<|Dm ?_<;>(refine Sp 15 (fun J=>?_) fun J=>?_)<;>(first|contradiction|refine Fo<|Fo<|Fo<|Fo ?_|refine On (aV qK)<|On (bD aF)<|On (eR aD)<|On gX ?_)<;>refine Dd cD<|Dm ?_<;>(refine Sp 21 (fun A=>?_) fun A=>?_)<;>(first|contradiction|refine Fo<|Fo<|Fo<|Fo ?_|refine On (aV lO)<|On (bD eQ)<|On (eR dH)<|On gX ?_)<;>refine Dd cD<|Dm ?_<;>(refine Sp 27 (fun I=>?_) fun I=>?_)<;>(first|contradiction|refine Fo<|Fo<|Fo<|Fo ?_|refine On (aV lN)<|On (kY dK sizeOf25)<|On (kc call77 (N _))<|On iJ ?_)<;>refine Zd cD ?_<;>(exact⟨⟨_,rfl,by grind⟩,rfl,rfl,rfl⟩)
 refine Cn ?_ ?_<;>intro v
 ·have z:=v;rw[K z];exact Sz aH<|aB<|Rt<|Qq
 have z:=v;refine aA<|Sq<|Sz aH<|aE ?_;refine bJ (σ:=Nat) (fun k=>([(1,.ref 1 0 0 0),(3,iv (k:Int))],[(1,bx 7 28 ((nD p).map .pv))])) (fun k=>k<=p.sources.length/\∀j,j<k->∀b,p.sources[j]?=some b->rS b=true) (fun k=>p.sources.length - k) 0 ⟨by omega,by omega⟩ ?_ ?_
 ·exact E0
 rintro k ⟨L,e⟩;refine Sq<|Sd aC<|Dd (aV qK)<|Dd (bD aF)<|Dd (eR aD)<|Zd cJ ?_;refine Cn ?_ ?_<;>intro x
 ·have m:k<p.sources.length:=by have:=aCb x;omega
  obtain ⟨s,i⟩:=aT m;have w:=cE (f:=encStr) i;have hsz:=B s (aCp i);have g:=fun h=>CP (p:=rS) i h;refine aA<|Sq<|aE<|Sd (aV qK)<|Dd (bD aF)<|Dd aC<|Dd (kx bT w)<|Dd (fO isAgg9 (hi:=w))<|Dd (gF underlying9)<|Zd gX ?_;refine Cn ?_ ?_<;>intro o
  ·have d:rS s=false:=by rw[rS,FX,o];rfl
   rw[G (g d)];exact Sz aH<|aB<|Rt<|Qq
  have d:rS s=true:=by rw[rS,FX,o];rfl
  refine aA<|Rd aC<|Dd kp<|Da ?_;exact⟨k+1,⟨by omega,sZ e i d⟩,by omega,E0⟩
 have l:k=p.sources.length:=by have:=aCc x;omega
 subst l;have D:=xR e;refine aS<|Sq<|Sz aH<|aE ?_;refine bJ (σ:=Nat) (fun k=>([(1,.ref 1 0 0 0),(4,iv (k:Int))],[(1,bx 7 28 ((nD p).map .pv))])) (fun k=>k<=p.trace.length/\∀j,j<k->∀b,p.trace[j]?=some b->gl b=true) (fun k=>p.trace.length - k) 0 ⟨by omega,by omega⟩ ?_ ?_
 ·exact E0
 clear e L;rintro k ⟨L,e⟩;refine Sq<|Sd aC<|Dd (aV lO)<|Dd (bD eQ)<|Dd (eR dH)<|Zd cJ ?_;refine Cn ?_ ?_<;>intro n
 ·have m:k<p.trace.length:=by have:=aCb n;omega
  obtain ⟨q,i⟩:=aT m;have w:=cE (f:=fQ) i;have C:=fun H=>zz q.1 q.2 H;have g:=fun h=>CP (p:=gl) i h;refine aA<|Sq<|aE<|Sd (aV lO)<|Dd (bD eQ)<|Dd aC<|Dd (kx JW w)<|Dd (by exact dM rfl dO sizeOf68 rfl w (by simp only[Zl,encStr];rfl) rfl)<|Dd (kc aBr (C _))<|Zd iJ ?_;refine Cn ?_ ?_<;>intro t
  ·have d:=not_not t;rw[F (g d)];exact Sz aH<|aB<|Rt<|Qq
  have d:=nU t;refine aA<|Rd aC<|Dd kp<|Da ?_;exact⟨k+1,⟨by omega,sZ e i d⟩,by omega,E0⟩
 have l:k=p.trace.length:=by have:=aCc n;omega
 subst l;rw[E z D (xR e)];exact aS<|Sz aH<|aB<|Rt<|Qq
def Tx(r:GRec):Bool:=decide (r.kind=1)||(decide (r.kind=3)&&decide (r.order=3))
def Wf(r:GRec):Bool:=!Tx r&&decide (0<((r.edits.map aZ).length:Int))
def We(r:GRec):Bool:=Tx r&&!decide ((dS r.edits).2=0)
def o3a(r:GRec):Bool:=decide (r.kind=2)||decide (r.kind=3)
def Wd(r:GRec):Bool:=if o3a r=true then !isJ r.target else !decide (r.target=sNil)
def Wc(r:GRec):Bool:=(decide (r.kind=3)&&(decide (r.order<1)||decide (4<r.order)))||(!decide (r.kind=3)&&!decide (r.order=0))
def Tw(r:GRec):Bool:=(decide (r.kind=4)&&(!bS r.from'||decide (r.from'=r.branch)))||(!decide (r.kind=4)&&!decide (r.from'=sNil))
def o6G(r:GRec):Bool:=decide (r.kind=2)||!r.yes
def C0(r:GRec):Bool:=!Wf r&&(!We r&&(!Wd r&&(!Wc r&&(!Tw r&&o6G r))))
theorem Ky{r}(h:Wf r=true):C0 r=false:=by rw[C0,h];rfl
theorem Kx{r}(h:We r=true):C0 r=false:=by rw[C0];all_goals simp_all
theorem Kw{r}(h:Wd r=true):C0 r=false:=by rw[C0];all_goals simp_all
theorem Kv{r}(h:Wc r=true):C0 r=false:=by rw[C0];all_goals simp_all
theorem Ku{r}(h:Tw r=true):C0 r=false:=by rw[C0];all_goals simp_all
theorem Kt{r}(e:Wf r=false)(d:We r=false)(b:Wd r=false)(c:Wc r=false)(a:Tw r=false):C0 r=o6G r:=by rw[C0,e,d,b,c,a];rfl
theorem Kz(r:GRec)(H:aG)(hr:gE r)(hrf:∀e∈r.edits,e.refs.length<1099511627776):RC 76 [av (cC r)] (bv (C0 r)) H:=by
 refine aW.pure ?_ (by simp_all) H;obtain ⟨_,⟨b1,b2,b3⟩,_,⟨e1,e2⟩,_⟩:=hr;have A:=fun H=>O2 r.edits H e1 e2 hrf;have O:=fun H=>mg r.target (by omega) H;have E:=fun H=>kN r.from' H (by omega)
 have n:=fun h=>Ky (r:=r) h;have hn2:=fun h=>Kx (r:=r) h;have hn3:=fun h=>Kw (r:=r) h;have hn4:=fun h=>Kv (r:=r) h;have hn5:=fun h=>Ku (r:=r) h;have hye:=fun V U T S X=>Kt (r:=r) V U T S X;have hX0:Tx r=(decide (r.kind=1)||(decide (r.kind=3)&&decide (r.order=3))):=rfl;have B:Wf r=(!Tx r&&decide (0<((r.edits.map aZ).length:Int))):=rfl;have hX2:We r=(Tx r&&!decide ((dS r.edits).2=0)):=rfl;have p:o3a r=(decide (r.kind=2)||decide (r.kind=3)):=rfl;have hX3:Wd r=if o3a r=true then !isJ r.target else !decide (r.target=sNil):=rfl
 have hX4:Wc r=((decide (r.kind=3)&&(decide (r.order<1)||decide (4<r.order)))||(!decide (r.kind=3)&&!decide (r.order=0))):=rfl;obtain ⟨nm,t⟩:∃nm,nm=bS r.from':=⟨_,rfl⟩
 have s:Tw r=((decide (r.kind=4)&&(!nm||decide (r.from'=r.branch)))||(!decide (r.kind=4)&&!decide (r.from'=sNil))):=by rw[Tw,<-t]
 rw[<-t]at E;have Q:o6G r=(decide (r.kind=2)||!r.yes):=rfl;obtain ⟨te,R⟩:∃te,te=dS r.edits:=⟨_,rfl⟩;rw[<-R]at A hX2;obtain ⟨ij,M⟩:∃ij,ij=isJ r.target:=⟨_,rfl⟩;rw[<-M]at O hX3;clear t R M;obtain ⟨o0,h0⟩:∃o,o=Tx r:=⟨_,rfl⟩;obtain ⟨o1,V⟩:∃o,o=Wf r:=⟨_,rfl⟩;obtain ⟨W,U⟩:∃o,o=We r:=⟨_,rfl⟩;obtain ⟨oa,ha⟩:∃o,o=o3a r:=⟨_,rfl⟩;obtain ⟨F,T⟩:∃o,o=Wd r:=⟨_,rfl⟩;obtain ⟨o4,S⟩:∃o,o=Wc r:=⟨_,rfl⟩;obtain ⟨o5,X⟩:∃o,o=Tw r:=⟨_,rfl⟩;obtain ⟨o6,h6⟩:∃o,o=o6G r:=⟨_,rfl⟩;rw[<-h0]at hX0 B hX2;rw[<-V]at B n hye;rw[<-U]at hX2 hn2 hye;rw[<-ha]at p hX3;rw[<-T]at hX3 hn3 hye;rw[<-S]at hX4 hn4 hye;rw[<-X]at s hn5 hye;rw[<-h6]at Q hye;clear h0 V U ha T S X h6;obtain ⟨ow,P⟩:∃o,o=C0 r:=⟨_,rfl⟩;rw[<-P]at n hn2 hn3 hn4 hn5 hye |-;clear P;refine Bd func76 rfl ntmps76<|Sd (kb 1)<|Zd aH<|Sq ?_;refine aQ (t:=3) (n:=16) (X:=o0) ?_ ?_
 ·all_goals refine Dd (aV mF) ?_
  all_goals refine Dd (bD isAgg3)<|Dd cF<|Dm ?_<;>(refine Sp 9 (fun h9=>?_) fun h9=>?_)<;>(first|contradiction|refine Fo<|Fo<|Fo<|Fo ?_|refine On (aV mF)<|On (bD isAgg3)<|On cF<|On aC ?_)<;>(first|refine Sp 13 (fun h13=>?_) fun h13=>?_|refine kI (t:=13) rfl ?_)<;>(first|contradiction|refine Fo ?_|refine Fu ?_|refine On (aV tJ) ?_)<;>(first|refine Fo ?_|refine Fu ?_|refine On (bD isAgg3) ?_)<;>(first|refine Fo ?_|refine Fu ?_|refine On cF ?_)<;>(first|refine Fo ?_|refine On cD ?_)<;>refine Dd cD<|Da ?_<;>(exact⟨⟨_,rfl,by simp_all⟩,rfl,rfl,rfl⟩)
 refine Sq<|Sq ?_;refine aQ (t:=26) (n:=9) (X:=o1) ?_ ?_
 ·all_goals refine Dd aC ?_
  all_goals refine Dd iJ<|Dm ?_<;>(refine Sp 21 (fun h21=>?_) fun h21=>?_)<;>(first|contradiction|refine Fo<|Fo<|Fo<|Fo ?_|refine On (aV uX)<|On (bD jJ)<|On (eR cT)<|On gX ?_)<;>refine Zd cD ?_<;>(exact⟨⟨_,rfl,by simp_all⟩,rfl,rfl,rfl⟩)
 refine Cn ?_ ?_<;>intro I
 ·rw[n I];exact Sz aH<|aB<|Rt<|Qq
 have k1:=I;refine aA ?_;refine eV (fun(_:Unit)=>([(1,.ref 1 0 0 0)],[(1,bx 21 30 ((cC r).map .pv))])) (fun _=>W=false) ?_ ?_
 ·refine Sz aC ?_;refine Cn ?_ ?_<;>intro hc2
  ·refine Sd (aV uX)<|Dd (bD jJ)<|Dd (kc aBu (A _))<|Dd aC<|Dd eG<|Dd eG<|Dd aH<|Zd aH<|Sd aC<|Zd rI ?_;refine Cn ?_ ?_<;>intro hc3
   ·have v:W=true:=by rw[hX2];simp_all
    rw[hn2 v];exact Sz aH<|aB<|Rt<|Qq
   have v:W=false:=by rw[hX2];simp_all
   refine aA ?_;exact⟨(),v,E0⟩
  have v:W=false:=by rw[hX2,hc2];rfl
  refine aA ?_;exact⟨(),v,E0⟩
 rintro _ v;refine eV (fun(_:Unit)=>([(1,.ref 1 0 0 0)],[(1,bx 21 30 ((cC r).map .pv))])) (fun _=>F=false) ?_ ?_
 ·refine Sq ?_;refine aQ (t:=43) (n:=9) (X:=oa) ?_ ?_
  ·all_goals refine Dd (aV mF) ?_
   all_goals refine Dd (bD isAgg3)<|Dd cF<|Dm ?_<;>(refine Sp 39 (fun D=>?_) fun D=>?_)<;>(first|contradiction|refine Fo<|Fo<|Fo ?_|refine On (aV mF)<|On (bD isAgg3)<|On cF ?_)<;>refine Zd cD ?_<;>(exact⟨⟨_,rfl,by(rw[p,D];rfl)⟩,rfl,rfl,rfl⟩)
  refine Cn ?_ ?_<;>intro z
  ·have Y:=z;rw[Y]at hX3;refine Sd (aV uW)<|Dd (bD isAgg9)<|Dd (kc vt (O _))<|Zd iJ ?_;refine Cn ?_ ?_<;>intro J
   ·have k3:F=true:=by rw[hX3,J];rfl
    rw[hn3 k3];exact Sz aH<|aB<|Rt<|Qq
   have k3:F=false:=by rw[hX3,J];rfl
   refine aA ?_;exact⟨(),k3,E0⟩
  have Y:=z;rw[Y]at hX3;refine Sd (aV uW)<|Dd (bD isAgg9)<|Zd DH ?_;refine Cn ?_ ?_<;>intro K
  ·have k3:F=true:=by rw[hX3,K];rfl
   rw[hn3 k3];exact Sz aH<|aB<|Rt<|Qq
  have k3:F=false:=by rw[hX3,K];rfl
  refine aA ?_;exact⟨(),k3,E0⟩
 rintro _ k3;refine Sq<|Sq ?_;refine aQ (t:=73) (n:=27) (X:=o4) ?_ ?_
 ·all_goals refine Dd (aV mF) ?_
  all_goals refine Dd (bD isAgg3)<|Dd cF<|Dm ?_<;>(refine Sp 54 (fun h54=>?_) fun h54=>?_)<;>(first|contradiction|refine Fo<|Fo<|Fo<|Fo ?_|refine On (aV tJ)<|On (bD isAgg3)<|On cJ<|On aC ?_)<;>(first|refine Sp 58 (fun y=>?_) fun y=>?_|refine kI (t:=58) rfl ?_)<;>(first|contradiction|refine Fo ?_|refine Fu ?_|refine On (aV tJ) ?_)<;>(first|refine Fo ?_|refine Fu ?_|refine On (bD isAgg3) ?_)<;>(first|refine Fo ?_|refine Fu ?_|refine On gX ?_)<;>(first|refine Fo ?_|refine On cD ?_)<;>refine Dd cD<|Dm ?_<;>(refine Sp 64 (fun G=>?_) fun G=>?_)<;>(first|contradiction|refine Fo<|Fo<|Fo<|Fo ?_|refine On (aV mF)<|On (bD isAgg3)<|On rI<|On aC ?_)<;>(first|refine Sp 68 (fun h68=>?_) fun h68=>?_|refine kI (t:=68) rfl ?_)<;>(first|contradiction|refine Fo ?_|refine Fu ?_|refine On (aV tJ) ?_)<;>(first|refine Fo ?_|refine Fu ?_|refine On (bD isAgg3) ?_)<;>(first|refine Fo ?_|refine Fu ?_|refine On rI ?_)<;>(first|refine Fo ?_|refine On cD ?_)<;>refine Zd cD ?_<;>(exact⟨⟨_,rfl,by first|(rw[hX4,h54,y];rfl)|(rw[hX4,h54,y,G];rfl)|(rw[hX4,h54]at *;simp_all;done)⟩,rfl,rfl,rfl⟩)
 refine Cn ?_ ?_<;>intro N
 ·rw[hn4 N];exact Sz aH<|aB<|Rt<|Qq
 have k4:=N;refine aA<|Sq<|Sq ?_;refine aQ (t:=99) (n:=30) (X:=o5) ?_ ?_
 ·all_goals refine Dd (aV mF) ?_
  all_goals refine Dd (bD isAgg3)<|Dd cF<|Dm ?_<;>(refine Sp 77 (fun w=>?_) fun w=>?_)<;>(first|contradiction|refine Fo<|Fo<|Fo<|Fo<|Fo ?_|refine On (aV pT)<|On (bD isAgg9)<|On (kc gB (E _))<|On iJ<|On aC ?_)<;>(first|refine Sp 82 (fun u=>?_) fun u=>?_|refine kI (t:=82) rfl ?_)<;>(first|contradiction|refine Fo ?_|refine Fu ?_|refine On (aV pT) ?_)<;>(first|refine Fo ?_|refine Fu ?_|refine On (bD isAgg9) ?_)<;>(first|refine Fo ?_|refine Fu ?_|refine On (aV uY) ?_)<;>(first|refine Fo ?_|refine Fu ?_|refine On (bD isAgg9) ?_)<;>(first|refine Fo ?_|refine Fu ?_|refine On vF ?_)<;>(first|refine Fo ?_|refine On cD ?_)<;>refine Dd cD<|Dm ?_<;>(refine Sp 90 (fun C=>?_) fun C=>?_)<;>(first|contradiction|refine Fo<|Fo<|Fo<|Fo ?_|refine On (aV mF)<|On (bD isAgg3)<|On rI<|On aC ?_)<;>(first|refine Sp 94 (fun Z=>?_) fun Z=>?_|refine kI (t:=94) rfl ?_)<;>(first|contradiction|refine Fo ?_|refine Fu ?_|refine On (aV pT) ?_)<;>(first|refine Fo ?_|refine Fu ?_|refine On (bD isAgg9) ?_)<;>(first|refine Fo ?_|refine Fu ?_|refine On DH ?_)<;>(first|refine Fo ?_|refine On cD ?_)<;>refine Zd cD ?_<;>(exact⟨⟨_,rfl,by first|(rw[s,w,u];rfl)|(rw[s,w,u,C];rfl)|(clear n hn2 hn3 hn4 hn5 hye;simp_all;done)⟩,rfl,rfl,rfl⟩)
 refine Cn ?_ ?_<;>intro L
 ·rw[hn5 L];exact Sz aH<|aB<|Rt<|Qq
 rw[hye k1 v k3 k4 L];refine aA<|Sq ?_;refine aQ (t:=2) (n:=10) (X:=o6) ?_ ?_
 ·all_goals refine Dd (aV mF) ?_
  all_goals refine Dd (bD isAgg3)<|Dd cF<|Dm ?_<;>(refine Sp 103 (fun q=>?_) fun q=>?_)<;>(first|contradiction|refine Fo<|Fo<|Fo ?_|refine On (aV CD)<|On (bD mN)<|On iJ ?_)<;>refine Dd cD<|Da ?_<;>(exact⟨⟨_,rfl,by(rw[Q,q];rfl)⟩,rfl,rfl,rfl⟩)
 exact aB<|Rt<|Qq
end Go.Proofs.YtmdicgjnmfolfaaGreatDoor
section
set_option format.width 2000
namespace Go.Proofs.YtmdicgjnmfolfaaGreatDoor
open Go.Proofs.Tryz
open Go.Abs
theorem Tt(q):WS q=!gl q:=by rw[Bool.eq_iff_iff];simp[WS,gl,W4,Bool.or_eq_true,aCy,Bool.and_eq_false_iff,aCn];omega
theorem po{α:Type}{p q}(h:∀x,p x=!q x):∀(l:List α),l.any p=!l.all q
 | []=>rfl
 |x::l=>by grind
theorem Xm(r):du r=!(AF r.priv&&iW r.sl):=by
 rw[du,AF,Sl,po Tt,po (q:=rS) (fun x=>by rw[rS,Bool.not_not]) r.priv.sources];show (((((!r.priv.trace.all _||!(!(decide _||(decide _||false))))||_)||_)||_)||_||_)=_
 grind
def Rh(r:GRec):Bool:=decide (1<=r.kind)&&decide (r.kind<=5)
def vA(r:GRec):Bool:=(((((((((decide (r.kind<1)||decide (5<r.kind))||decide (r.author<0))||decide (59<r.author))||decide (r.number<1))||decide (128<r.number))||decide (r.clock<1))||decide (1000000<r.clock))||!bS r.branch)||decide (16<((r.parents.map encStr).length:Int)))||!r.parents.all isJ
theorem Xl(r):(!vA r&&rR r.parents)=(Rh r&&!ct r):=by
 have g:decide (r.kind<1)=!decide (1<=r.kind):=by grind
 have c:decide (5<r.kind)=!decide (r.kind<=5):=by grind
 have d:decide (r.author<0)=!decide (0<=r.author):=by grind
 have f:decide (59<r.author)=!decide (r.author<=59):=by grind
 have e:decide (r.number<1)=!decide (1<=r.number):=by grind
 have a:decide (128<r.number)=!decide (r.number<=128):=by grind
 have h:decide (r.clock<1)=!decide (1<=r.clock):=by grind
 have b:decide (1000000<r.clock)=!decide (r.clock<=1000000):=by grind
 rw[vA,Rh,ct,lS,lS,lS,P3,g,c,d,f,e,a,h,b];simp[Bool.not_or,Bool.not_not,Bool.not_and,Bool.and_assoc]
theorem Vz:¬ (dS []).2=0:=by decide
theorem Tm{r:GRec}(i:Rh r=true):C0 r=(((jK r.edits).2&&KO r)&&Ri r):=by
 rw[Rh,aCo,aCm,aCm]at i;have p:(r.edits.map aZ).length=r.edits.length:=aCf _;have n:(jK r.edits).2=(decide (r.edits.length=0)||decide ((dS r.edits).2=0)):=by
  rw[jK]
  grind
 have k:decide (0<((r.edits.map aZ).length:Int))=!decide (r.edits.length=0):=by
  grind
 have s:r.edits.length=0->decide ((dS r.edits).2=0)=false:=fun h=>by
  rw[List.eq_nil_of_length_eq_zero h];rfl
 rw[Ri,n,C0,Wf,We,Wd,Wc,Tw,o6G,k];obtain ⟨l,m⟩:∃l,l=decide (r.edits.length=0):=⟨_,rfl⟩;obtain ⟨g,e⟩:∃g,g=decide ((dS r.edits).2=0):=⟨_,rfl⟩;have a:l=true->g=false:=fun h=>by simp_all
 rw[<-m,<-e];clear m e s k n p;have d:r.kind=1\/r.kind=2\/r.kind=3\/r.kind=4\/r.kind=5:=by omega
 have ea:decide (r.target=sNil)=decide (r.target=sNil):=rfl;obtain ⟨y,hy⟩:∃y,y=r.yes:=⟨_,rfl⟩;have o:decide (r.order<1)=!decide (1<=r.order):=by grind
 have j:decide (4<r.order)=!decide (r.order<=4):=by grind
 rw[Tx,o3a,KO,X0,Hq,vv,xe,Hr,Qa,o,j,lS];clear o j i;rcases d with h|h|h|h|h
 ·simp only[h];by_cases c1:r.target=sNil<;>by_cases c2:r.order=0<;>by_cases c3:r.from'=sNil<;>cases b:r.yes<;>cases l<;>cases g<;>simp[c1,c2,c3,b]at a |-
 ·simp only[h];by_cases c2:r.order=0<;>by_cases c3:r.from'=sNil<;>cases b:isJ r.target<;>cases l<;>cases g<;>simp[c2,c3,b]at a |-
 ·simp only[h];by_cases c2:r.order=3
  ·rw[c2];by_cases c3:r.from'=sNil<;>cases b:isJ r.target<;>cases f:r.yes<;>cases l<;>cases g<;>simp[c3,b,f]at a |-
  cases c1:decide (1<=r.order)<;>cases q:decide (r.order<=4)<;>by_cases c3:r.from'=sNil<;>cases b:isJ r.target<;>cases f:r.yes<;>cases l<;>cases g<;>simp[c1,c2,c3,b,f,q]at a |-
 ·simp only[h];by_cases c1:r.target=sNil<;>by_cases c2:r.order=0<;>by_cases c3:r.from'=r.branch<;>cases b:bS r.from'<;>cases f:r.yes<;>cases l<;>cases g<;>simp[c1,c2,c3,b,f]at a |-
 simp only[h];by_cases c1:r.target=sNil<;>by_cases c2:r.order=0<;>by_cases c3:r.from'=sNil<;>cases b:r.yes<;>cases l<;>cases g<;>simp[c1,c2,c3,b]at a |-
theorem Rj(r):(!vA r&&(rR r.parents&&((C0 r&&iW r.sl)&&AF r.priv)))=eJ r:=by
 rw[<-Bool.and_assoc,Xl,eJ,Xm];by_cases b:Rh r=true
 ·rw[Tm b]
  grind
 have a:Rh r=false:=by simp_all
 have f:KO r=false:=by
  cases e:KO r
  ·rfl
  obtain ⟨c,d⟩:=AT e;rw[Rh,decide_eq_true c,decide_eq_true d]at a;cases a
 rw[a,f,Bool.false_and,Bool.false_and,Bool.and_false,Bool.false_and]
end Go.Proofs.YtmdicgjnmfolfaaGreatDoor
end
namespace Go.Proofs.YtmdicgjnmfolfaaGreatDoor
open Go.Proofs.Tryz
open Go.Abs Go.Lib
theorem HS(r:GRec)(H:aG)(hr:gE r)(U:∀e∈r.edits,e.refs.length<1099511627776):RC 15 [av (cC r)] (bv (eJ r)) H:=by
 refine aW.pure ?_ (by simp_all) H;have hml:(r.parents.map encStr).length=r.parents.length:=aCf _;have hown:=fun H=>Kz r H hr U;have z:=fun H=>ZI r.priv H hr.2.2.2.2.2;have q:=fun H=>QD r.sl H hr.2.2.2.2.1;have o:=fun H=>kN r.branch H (by have:=hr.2.1.1;omega);have p:=fun H=>D2 r.parents H hr.2.2.1;have hpl:=hr.2.2.1.1;have hE:=Rj r;have T:vA r=((((((((((decide (r.kind<1)||decide (5<r.kind))||decide (r.author<0))||decide (59<r.author))||decide (r.number<1))||decide (128<r.number))||decide (r.clock<1))||decide (1000000<r.clock))||!bS r.branch)||decide (16<((r.parents.map encStr).length:Int)))||!r.parents.all isJ):=rfl;obtain ⟨v,W⟩:∃v,v=eJ r:=⟨_,rfl⟩;obtain ⟨a,Y⟩:∃a,a=vA r:=⟨_,rfl⟩;obtain ⟨V,w⟩:∃a,a=C0 r:=⟨_,rfl⟩;obtain ⟨E,hfo2⟩:∃a,a=iW r.sl:=⟨_,rfl⟩;obtain ⟨B,hpr2⟩:∃a,a=AF r.priv:=⟨_,rfl⟩;obtain ⟨nm,hnm2⟩:∃a,a=bS r.branch:=⟨_,rfl⟩;obtain ⟨dg,hdg2⟩:∃a,a=r.parents.all isJ:=⟨_,rfl⟩;rw[<-W]at hE |-;rw[<-Y]at hE T;rw[<-w]at hE hown;rw[<-hfo2]at hE q;rw[<-hpr2]at hE z;rw[<-hnm2]at T o;rw[<-hdg2]at T p;clear W Y w hfo2 hpr2 hnm2 hdg2;refine Bd func15 rfl ntmps15<|Sd (kb 1)<|Zd aH<|Sq<|Sq ?_;refine aQ (t:=59) (n:=66) (X:=a) ?_ ?_
 ·all_goals refine Dd (aV mF) ?_
  all_goals refine Dd (bD isAgg3)<|Dd cJ<|Dm ?_<;>(refine Sp 7 (fun h7=>?_) fun h7=>?_)<;>(first|contradiction|refine Fo<|Fo<|Fo ?_|refine On (aV mF)<|On (bD isAgg3)<|On gX ?_)<;>refine Dd cD<|Dm ?_<;>(refine Sp 12 (fun D=>?_) fun D=>?_)<;>(first|contradiction|refine Fo<|Fo<|Fo ?_|refine On (aV sJ)<|On (bD isAgg3)<|On cJ ?_)<;>refine Dd cD<|Dm ?_<;>(refine Sp 17 (fun M=>?_) fun M=>?_)<;>(first|contradiction|refine Fo<|Fo<|Fo ?_|refine On (aV sJ)<|On (bD isAgg3)<|On gX ?_)<;>refine Dd cD<|Dm ?_<;>(refine Sp 22 (fun K=>?_) fun K=>?_)<;>(first|contradiction|refine Fo<|Fo<|Fo ?_|refine On (aV mE)<|On (bD isAgg3)<|On cJ ?_)<;>refine Dd cD<|Dm ?_<;>(refine Sp 27 (fun N=>?_) fun N=>?_)<;>(first|contradiction|refine Fo<|Fo<|Fo ?_|refine On (aV mE)<|On (bD isAgg3)<|On gX ?_)<;>refine Dd cD<|Dm ?_<;>(refine Sp 32 (fun I=>?_) fun I=>?_)<;>(first|contradiction|refine Fo<|Fo<|Fo ?_|refine On (aV uZ)<|On (bD isAgg3)<|On cJ ?_)<;>refine Dd cD<|Dm ?_<;>(refine Sp 37 (fun L=>?_) fun L=>?_)<;>(first|contradiction|refine Fo<|Fo<|Fo ?_|refine On (aV uZ)<|On (bD isAgg3)<|On gX ?_)<;>refine Dd cD<|Dm ?_<;>(refine Sp 42 (fun O=>?_) fun O=>?_)<;>(first|contradiction|refine Fo<|Fo<|Fo<|Fo ?_|refine On (aV uY)<|On (bD isAgg9)<|On (kc gB (o _))<|On iJ ?_)<;>refine Dd cD<|Dm ?_<;>(refine Sp 48 (fun R=>?_) fun R=>?_)<;>(first|contradiction|refine Fo<|Fo<|Fo<|Fo ?_|refine On (aV lM)<|On (bD aF)<|On (eR aD)<|On gX ?_)<;>refine Dd cD<|Dm ?_<;>(refine Sp 54 (fun S=>?_) fun S=>?_)<;>(first|contradiction|refine Fo<|Fo<|Fo<|Fo ?_|refine On (aV lM)<|On (bD aF)<|On (kc aCZ (p _))<|On iJ ?_)<;>refine Zd cD ?_<;>(exact⟨⟨_,rfl,by grind⟩,rfl,rfl,rfl⟩)
 refine Cn ?_ ?_<;>intro y
 ·have C:=y;rw[C]at hE;rw[<-hE];exact Sz aH<|aB<|Rt<|Qq
 have C:=y;rw[C]at hE;have hE:(rR r.parents&&((V&&E)&&B))=v:=hE;refine aA<|Sq<|Sz aH<|aE ?_;refine bJ (σ:=Nat) (fun k=>([(1,.ref 1 0 0 0),(3,iv ((k:Int)+1))],[(1,bx 21 30 ((cC r).map .pv))])) (fun k=>k<=r.parents.length/\rR r.parents=rR (r.parents.drop k)) (fun k=>r.parents.length - k) 0 ⟨by omega,rfl⟩ ?_ ?_
 ·exact E0
 rintro k ⟨hk,hst⟩;refine Sq<|Sd aC<|Dd (aV lM)<|Dd (bD aF)<|Dd (eR aD)<|Zd cJ ?_;refine Cn ?_ ?_<;>intro A
 ·have P:k+1<r.parents.length:=by have:=aCb A;omega
  obtain ⟨s,hs⟩:=aT (l:=r.parents) (k:=k) (by omega);obtain ⟨t,Z⟩:=aT P;have hi:=cE (f:=encStr) hs;have u:=cE (f:=encStr) Z;have F:=qi hs Z;have Q:IntKind.i64.wrap ((k:Int)+1 - 1)=(k:Int):=by rw[lI (by omega) (by omega)];omega
  refine aA<|Sq<|aE<|Sq<|aL follows<|Cq (aV lM)<|Cq (bD aF)<|Cq aC<|Cq (by exact dB rfl rfl rfl Q)<|Cq (by exact bP rfl bT rfl rfl (by omega) (by rfl) hi rfl)<|Cq (fO isAgg9 (hi:=hi))<|Cq (aV lM)<|Cq (bD aF)<|Cq aC<|Cq (by exact bP rfl bT rfl rfl (by omega) (by rfl) u rfl)<|Cq (fO isAgg9 (hi:=u))<|Cq (by exact ZR rfl rfl rfl)<|bF<|Kr ?_;refine Cn ?_ ?_<;>intro n
  ·have X:=not_not n;rw[hst,F,X]at hE;rw[<-hE];exact Sz aH<|aB<|Rt<|Qq
  have X:=nU n;refine aA<|Rd aC<|Dd (by exact eA rfl rfl rfl (show IntKind.i64.wrap ((k:Int)+1+1)=((k+1:Nat):Int)+1 by rw[lI (by omega) (by omega)];omega))<|Da ?_;exact⟨k+1,⟨by omega,by simp_all⟩,by omega,E0⟩
 have hge:r.parents.length<=k+1:=by have:=aCc A;omega
 rw[hst,VI (by rw[aCu];omega)]at hE;have hE:((V&&E)&&B)=v:=hE;rw[<-hE];refine aS<|Sq ?_;refine aQ (t:=2) (n:=15) (X:=(V&&E)&&B) ?_ ?_
 ·all_goals refine Dd (kY aX aK) ?_
  all_goals refine Dd (kc call76 (hown _))<|Dm ?_<;>(refine Sp 81 (fun G=>?_) fun G=>?_)<;>(first|contradiction|refine Fo<|Fo<|Fo ?_|refine On (aV jR)<|On (kY dK sizeOf25)<|On (kc call77 (q _)) ?_)<;>refine Dd cD<|Dm ?_<;>(refine Sp 86 (fun J=>?_) fun J=>?_)<;>(first|contradiction|refine Fo<|Fo<|Fo ?_|refine On (aV dV)<|On (kY iO sizeOf28)<|On (kc call78 (z _)) ?_)<;>refine Dd cD<|Da ?_<;>(exact⟨⟨_,rfl,by(simp_all;done)⟩,rfl,rfl,rfl⟩)
 exact aB<|Rt<|Qq
theorem ze(r:GRec)(H:aG)(j:gE r)(b:∀e∈r.edits,e.refs.length<1099511627776):RC 17 [av (cC r)] (sv (sW r)) H:=by
 refine aW.pure ?_ (by simp_all) H;have i:=fun H=>HS r H j b;refine Bd func17 rfl ntmps17<|Sd (rW (id:=1) rfl rfl rfl rfl rfl)<|Zd aH<|Sq<|Sd (by exact aM rfl aX aK rfl rfl rfl rfl (rfl) rfl)<|Dd (bL rfl rfl Ib rfl (i _))<|Zd iJ ?_;refine Cn ?_ ?_<;>intro c
 ·have d:=not_not c;rw[sW,d];exact Sz aH<|aB<|Rt<|Qq
 have d:=nU c;have h:=lY d;have g:=fun H=>Dz r j h b H;have f:=fun H=>V1 (pG r) (Nat.le_trans (HZ h) (by decide)) (H4 h) H;rw[sW,aCe d];exact aA<|Sd (by exact aM rfl aX aK rfl rfl rfl rfl (rfl) rfl)<|Dd (bL rfl rfl call42 rfl (g _))<|Dd (kc XT (f _))<|Zd aH<|aB<|Rt<|Qq
def Wb(q:Int×Int):List ByteArray:=[aY q.1,aY q.2]
def ey(p:GPriv):List ByteArray:=[p.name,p.reason,aY (p.sources.length:Int)]
def FG(p:GPriv)(k:Nat):List ByteArray:=((ey p++p.sources)++[aY (p.trace.length:Int)])++(p.trace.take k).flatMap Wb
theorem Jr(p):FG p p.trace.length=uB (JK p):=by rw[FG];simp[JK,uB,fI,ey];rfl
theorem rf{p}{k}{q}(h:p.trace[k]?=some q):FG p (k+1)=FG p k++Wb q:=by simp[FG,kA h,List.flatMap_append]
theorem YU(r:GRec)(I:gE r)(o:VF r)(H:aG):RC 44 [av (nD r.priv)] (.pv (aU (uB (JK r.priv)))) H:=by
 refine aW.pure ?_ (by simp_all) H;obtain ⟨p,F⟩:∃p,p=r.priv:=⟨_,rfl⟩;have j:=o.tr;have B:=o.sol;have E:=o.trl;rw[<-F]at j B E |-;clear F o I;have g:(p.sources.map encStr).length=p.sources.length:=aCf _;have t:(p.trace.map fQ).length=p.trace.length:=aCf _;have u:∀H,RC 99 [iv ((p.sources.map encStr).length:Int)] (sv (aY (p.sources.length:Int))) H:=fun H=>by
  rw[g];exact A2 (p.sources.length:Int) (by omega) (by omega) H
 have C:∀H,RC 99 [iv ((p.trace.map fQ).length:Int)] (sv (aY (p.trace.length:Int))) H:=fun H=>by
  rw[t];exact A2 (p.trace.length:Int) (by omega) (by omega) H
 have v:(cH (ey p++p.sources)).length=3+p.sources.length:=by rw[cH,aCf,aCg];rfl
 have n:∀k,k<=p.trace.length->(FG p k).length=4+p.sources.length+2*k:=fun k i=>by
  have:((p.trace.take k).flatMap Wb).length=2*k:=by
   have G:∀l:List (Int×Int),(l.flatMap Wb).length=2*l.length:=fun l=>by
    induction l with
    |nil=>rfl
    |cons q l K=>rw[List.flatMap_cons,aCg,K,aCh];show 2+_=_;omega
   rw[G,aCt];omega
  rw[FG,aCg,aCg,aCg,this];show 3+_+1+_=_;omega
 have A:∀k,k<=p.trace.length->(cH (FG p k)).length=4+p.sources.length+2*k:=fun k i=>by rw[cH,aCf,n k i]
 have hw0:cH (ey p++p.sources)++([aY (p.trace.length:Int)].map encStr).map (·.map AV.pv)=cH (FG p 0):=by rw[gY,FG,List.take_zero,List.flatMap_nil,List.append_nil]
 refine Bd func44 rfl ntmps44<|Sd (kb 1)<|Zd aH<|Sq<|aL follows<|Cr [1] (fun _ h=>fh xK h)<|Cr [1] (fun _ h=>lh isAgg9 h)<|Cr [1] (fun _ h=>fh xJ h)<|Cr [1] (fun _ h=>lh isAgg9 h)<|Cr [1] (fun _ h=>fh qK h)<|Cr [1] (fun _ h=>lh aF h)<|Cr [] (fun _ _=>(eR aD))<|Cr [] (fun e d=>by exact bL rfl rfl jB rfl (u _))<|Cp [971] (fun e d=>by exact fW (id:=971) rfl bT rfl rfl rfl rfl (by simp_all) ((d _ rfl).trans rfl))<|Cr [971] (fun _ _=>aH)<|bF<|Kr<|Sd aC<|Dd (aV qK)<|Dd (bD aF)<|Dd (by exact cG (ob:=⟨0,1,9,cH (ey p)⟩) (k:=3+p.sources.length) (ps:=p.sources.map encStr) rfl bT zT rfl rfl rfl rfl rfl rfl rfl (lP _) (m:=p.sources.length) g (by omega) rfl (rows':=cH (ey p++p.sources)) (by exact gY _ _)) ?_;refine Zd aH<|Sd aC<|Dd (aV lO)<|Dd (bD eQ)<|Dd (eR dH)<|Dd (kc jB (C _))<|Dd (by exact aN ([aY (p.trace.length:Int)].map encStr) rfl bT rfl rfl rfl rfl rfl (lP _))<|Dd (by exact cG (ob:=⟨1,1,9,cH (ey p++p.sources)⟩) (k:=4+p.sources.length+2*0) (ps:=[aY (p.trace.length:Int)].map encStr) rfl bT zT rfl rfl rfl rfl rfl v rfl (lP _) (m:=1) rfl (by omega) (by omega) (rows':=cH (FG p 0)) (by omega))<|Zd aH<|Sq<|Sz aH<|aE ?_;refine bJ (σ:=Nat) (fun k=>([(1,.ref 1 0 0 0),(3,.osl 971 (2+k) 0 (4+p.sources.length+2*k)),(4,iv (k:Int))],[(1,bx 7 28 ((nD p).map .pv)),(971,⟨2+k,1,9,cH (FG p k)⟩)])) (fun k=>k<=p.trace.length) (fun k=>p.trace.length - k) 0 (by omega) ?_ ?_
 ·exact(cQ.wk (Ea<|Ea<|Eb<|trivial) (Hb<|Hc (bQ _ _)<|trivial) trivial)
 intro k i;have m:=A k i;refine Sq<|Sd aC<|Dd (aV lO)<|Dd (bD eQ)<|Dd (eR dH)<|Zd cJ ?_;refine Cn ?_ ?_<;>intro f
 ·have y:k<p.trace.length:=by have:=aCb f;omega
  obtain ⟨q,z⟩:=aT y;have hqb:=j q (aCp z);have s:=cE (f:=fQ) z;have L:=fun H=>A2 q.1 (by omega) (by omega) H;have J:=fun H=>A2 q.2 (by omega) (by omega) H;refine aA<|Sq<|aE<|aL follows<|Cr [971] (fun _ _=>aC)<|Cr [1] (fun _ h=>fh lO h)<|Cr [1] (fun _ h=>lh eQ h)<|Cr [] (fun _ _=>aC)<|Cr [] (fun e d=>by exact bP rfl JW rfl rfl (by omega) (by rfl) s rfl)<|Cr [] (fun _ _=>(C2 pC))<|Cr [] (fun _ _=>(fO isAgg3 (hi:=s)))<|Cr [] (fun e d=>by exact bL rfl rfl jB rfl (L _))<|Cr [1] (fun _ h=>fh lO h)<|Cr [1] (fun _ h=>lh eQ h)<|Cr [] (fun _ _=>aC)<|Cr [] (fun e d=>by exact bP rfl JW rfl rfl (by omega) (by rfl) s rfl)<|Cr [] (fun _ _=>(C2 pB))<|Cr [] (fun _ _=>(fO isAgg3 (hi:=s)))<|Cr [] (fun e d=>by exact bL rfl rfl jB rfl (J _))<|Cr [] (fun e d=>by exact aN ((Wb q).map encStr) rfl bT rfl rfl rfl rfl rfl (lP _))<|Cp [971] (fun e d=>by exact cG (ob:=⟨2+k,1,9,cH (FG p k)⟩) (k:=4+p.sources.length+2*(k+1)) (ps:=(Wb q).map encStr) rfl bT zT rfl ((d _ rfl).trans rfl) rfl rfl rfl m rfl (lP _) (m:=2) rfl (by omega) (by omega) (rows':=cH (FG p (k+1))) (by rw[gY,rf z])) ?_;refine Cr [971] (fun _ _=>aH)<|bF<|Kr<|Rd aC<|Dd kp<|Da ?_;exact⟨k+1,by omega,by omega,(cQ.wk (Ea<|Ea<|Eb<|trivial) (Hb<|Hc (bQ _ _)<|trivial) trivial)⟩
 have D:k=p.trace.length:=by have:=aCc f;omega
 subst D;have w:=n p.trace.length i;refine aS<|Sd aC<|Zd aH<|aB ?_;refine dA (H':=[]) (.inr rfl) rfl (aJ rfl) (Fin.fz (id:=971) (ob:=⟨2+p.trace.length,1,9,cH (FG p p.trace.length)⟩) ((FG p p.trace.length).map encStr) rfl (eO _) (.osl (BK encStr _ w)) rfl trivial trivial) ?_;exact⟨by rw[<-Jr];rfl,rfl⟩
theorem Y2(L)(f:L.length<=2000)(g:∀s∈L,s.size<=20000)(H)(id)(ob)(n)(j:H.get id=some ob)(d:Nat.blt 0 ob.sz=true)(b:ob.rows=cH L)(h:n=L.length):aW Tryz.prog 79 [.osl id ob.g 0 n] H (fun r H'=>r=sv (wA L)/\H'=(id,GS ob)::H):=by
 subst h;refine aW.retire _ (V1 L f g _) j d (by rw[b];exact eO _) rfl ?_;intro i a a' e c
 match i with
 |0 =>
  cases e;cases c;refine .inr ⟨0,L.length,rfl,?_⟩;rw[kD];rfl
 |n+1=>cases e
theorem Ry(r:GRec)(H:aG)(q:gE r)(o:∀e∈r.edits,e.refs.length<1099511627776)(u:eJ r=true):RC 29 [av (cC r)] (sv (rJ r)) H:=by
 refine aW.pure ?_ (by simp_all) H;have hid:=fun H=>ze r H q o;have p:=lY u;have j:=fun H=>YU r q p H;have n:=fk p;have m:=IS r;have d:([sc,sW r]++uB (JK r.priv)).length=2+(uB (JK r.priv)).length:=by grind
 have k:∀x∈[sc,sW r]++uB (JK r.priv),x.size<=20000:=fun x l=>(List.mem_append.1 l).elim (fun l=>by
   simp only[aCr,aCv,or_false]at l;rcases l with rfl|rfl
   ·exact(by decide:sc.size<=20000)
   omega) (fl p x)
 have f:=fun H=>Y2 ([sc,sW r]++uB (JK r.priv)) (by omega) k H 971 ⟨1,1,9,cH ([sc,sW r]++uB (JK r.priv))⟩ (2+(uB (JK r.priv)).length);rw[rJ];obtain ⟨F,s⟩:∃F,F=uB (JK r.priv):=⟨_,rfl⟩;rw[<-s]at j n d f |-;obtain ⟨i,t⟩:∃i,i=sW r:=⟨_,rfl⟩;rw[<-t]at hid f d |-;clear s t k m;refine Bd func29 rfl ntmps29<|Sd (kb 1)<|Zd aH<|Sq<|aL follows<|Cr [1] (fun g c=>by exact aM rfl aX aK rfl ((c _ rfl).trans rfl) rfl rfl (by simp only[Zl,encStr];rfl) rfl)<|Cr [] (fun g c=>by exact bL rfl rfl aC2 rfl (hid _))<|Cp [971] (fun g c=>by exact fW (id:=971) rfl bT rfl rfl rfl rfl (by simp_all) ((c _ rfl).trans rfl))<|Cr [1] (fun _ h=>fh dV h)<|Cr [1] (fun g c=>by exact aM rfl iO sizeOf28 rfl ((c _ rfl).trans rfl) rfl rfl rfl rfl)<|Cr [] (fun g c=>by exact bL rfl rfl call44 rfl (j _))<|Cp [971] (fun g c=>by exact cG (ob:=⟨0,1,9,cH [sc,i]⟩) (k:=2+F.length) (ps:=F.map encStr) rfl bT zT rfl ((c _ rfl).trans rfl) rfl rfl rfl rfl rfl (lP _) (m:=F.length) (aCf _) (by omega) rfl (rows':=cH ([sc,i]++F)) (by exact gY _ _)) ?_;exact Cp [971] (fun g c=>by exact bL rfl rfl XT rfl ((f _ ((c _ rfl).trans rfl) rfl rfl d.symm)))<|Cr [971] (fun _ _=>aH)<|bF<|Kr<|aB<|Rt<|Qq
theorem tw(r)(b:gE r)(c:VF r)(a:∀e∈r.edits,e.refs.length<1099511627776){H}(hno:H.get 971=none):aW Tryz.prog 42 [av (cC r)] H (fun x H'=>x=.osl 971 2 0 (pG r).length/\H'=(971,⟨2,1,9,cH (pG r)⟩)::H) :=aW.frame (UJ r b c a) (fun _ _ h=>by cases h) (fun _ _ h=>by cases h) (by simp) (fun id h=>.inr (by
  by_cases e:971=id
  ·simp_all
  simp[aG.get,kV e]at h))
theorem ff(L)(f:L.length<=100000)(g:∀s∈L,s.size<=100000000)(H)(id)(ob)(n)(j:H.get id=some ob)(d:Nat.blt 0 ob.sz=true)(b:ob.rows=cH L)(h:n=L.length):aW Tryz.prog 45 [.osl id ob.g 0 n] H (fun r H'=>r=sv (ofL (aP L))/\H'=(id,GS ob)::H):=by
 subst h;refine aW.retire _ (S8 L f g _) j d (by rw[b];exact eO _) rfl ?_;intro i a a' e c
 match i with
 |0 =>
  cases e;cases c;refine .inr ⟨0,L.length,rfl,?_⟩;rw[kD];rfl
 |n+1=>cases e
def qv(s:GSeal):List ByteArray:=[aY s.idx,aY (s.sig.length:Int)]
def yk(s:GSeal):List ByteArray:=[aY (s.path.length:Int)]
theorem OR(s:GSeal)(i:FSeal s)(H:aG):RC 43 [av (iM s)] (.pv (aU (fI (.z s.idx s.sig s.path)))) H:=by
 refine aW.pure ?_ (by simp_all) H;have q:=i.i0;have i1:=i.i1;have l1:=i.sl;have l2:=i.pl;have e:(s.sig.map encStr).length=s.sig.length:=aCf _;have f:(s.path.map encStr).length=s.path.length:=aCf _;have l:=fun H=>A2 s.idx q (by omega) H;have m:∀H,RC 99 [iv ((s.sig.map encStr).length:Int)] (sv (aY (s.sig.length:Int))) H:=fun H=>by
  rw[e];exact A2 (s.sig.length:Int) (by omega) (by omega) H
 have n:∀H,RC 99 [iv ((s.path.map encStr).length:Int)] (sv (aY (s.path.length:Int))) H:=fun H=>by
  rw[f];exact A2 (s.path.length:Int) (by omega) (by omega) H
 have c:fI (.z s.idx s.sig s.path)=((qv s++s.sig)++yk s)++s.path:=by simp[fI,qv,yk]
 rw[c];have g:(qv s++s.sig).length=2+s.sig.length:=by rw[aCg];rfl
 have j:((qv s++s.sig)++yk s).length=2+s.sig.length+1:=by rw[aCg,g];rfl
 have o:(((qv s++s.sig)++yk s)++s.path).length=2+s.sig.length+1+s.path.length:=by grind
 refine Bd func43 rfl ntmps43<|Sd (kb 1)<|Zd aH<|Sq<|aL follows<|Cr [1] (fun _ h=>fh iC h)<|Cr [1] (fun _ h=>lh isAgg3 h)<|Cr [] (fun p k=>by exact bL rfl rfl jB rfl (l _))<|Cr [1] (fun _ h=>fh gD h)<|Cr [1] (fun _ h=>lh aF h)<|Cr [] (fun _ _=>(eR aD))<|Cr [] (fun p k=>by exact bL rfl rfl jB rfl (m _))<|Cp [971] (fun p k=>by exact fW (id:=971) rfl bT rfl rfl rfl rfl (by simp_all) ((k _ rfl).trans rfl))<|Cr [971] (fun _ _=>aH)<|bF<|Kr<|Sd aC<|Dd (aV gD)<|Dd (bD aF)<|Dd (by exact cG (ob:=⟨0,1,9,cH (qv s)⟩) (k:=2+s.sig.length) (ps:=s.sig.map encStr) rfl bT zT rfl rfl rfl rfl rfl rfl rfl (lP _) (m:=s.sig.length) e (by omega) rfl (rows':=cH (qv s++s.sig)) (by exact gY _ _)) ?_;refine Zd aH<|Sd aC<|Dd (aV iB)<|Dd (bD aF)<|Dd (eR aD)<|Dd (kc jB (n _))<|Dd (by exact aN ((yk s).map encStr) rfl bT rfl rfl rfl rfl rfl (lP _))<|Dd (by exact cG (ob:=⟨1,1,9,cH (qv s++s.sig)⟩) (k:=2+s.sig.length+1) (ps:=(yk s).map encStr) rfl bT zT rfl rfl rfl rfl rfl ((fP _).trans g) rfl (lP _) (m:=1) rfl (by omega) rfl (rows':=cH ((qv s++s.sig)++yk s)) (by exact gY _ _))<|Zd aH<|Sd aC<|Dd (aV iB)<|Dd (bD aF)<|Dd (by exact cG (ob:=⟨2,1,9,cH ((qv s++s.sig)++yk s)⟩) (k:=2+s.sig.length+1+s.path.length) (ps:=s.path.map encStr) rfl bT zT rfl rfl rfl rfl rfl ((fP _).trans j) rfl (lP _) (m:=s.path.length) f (by omega) rfl (rows':=cH (((qv s++s.sig)++yk s)++s.path)) (by exact gY _ _)) ?_;refine Zd aH<|aB ?_;refine dA (H':=[]) (.inr rfl) rfl (aJ rfl) (Fin.fz (id:=971) (ob:=⟨3,1,9,cH (((qv s++s.sig)++yk s)++s.path)⟩) ((((qv s++s.sig)++yk s)++s.path).map encStr) rfl (eO _) (.osl (BK encStr _ o)) rfl trivial trivial) ?_;exact Qq
theorem me(r:GRec)(y:gE r)(t:∀e∈r.edits,e.refs.length<1099511627776)(H:aG):RC 11 [av (cC r)] (.tup [sv (lA r).1,iv (lA r).2]) H:=by
 refine aW.pure ?_ (by simp_all) H;have L:=fun H=>HS r H y t;rw[lA];refine Bd func11 rfl ntmps11<|Sd (kb 1)<|Dd aH<|Zd aH<|Sq<|Sd (by exact aM rfl aX aK rfl rfl rfl rfl (by simp only[Zl,encStr];rfl) rfl)<|Dd (kc Ib (L _))<|Zd iJ ?_;refine Cn ?_ ?_<;>intro p
 ·have G:=not_not p;rw[aCd (by simp_all)];exact Sd aH<|Zd aH<|aB<|Ru<|Qq
 have G:=nU p;have f:=lY G;have o:iT r=((pG r++fI (.z r.sl.idx r.sl.sig r.sl.path))++uB (JK r.priv))++fI (.z r.priv.sl.idx r.priv.sl.sig r.priv.sl.path):=by rw[iT,ew,List.append_assoc,List.append_assoc]
 have i:∀x∈iT r,Qc x:=fun x M=>(List.mem_append.1 M).elim (H4 f x) (VQ f x);have hpl:=HZ f;have hsl:=VP f;have c:(iT r).length<=506:=by rw[iT,aCg];omega
 have k:=xB i c;have m:=fun(H:aG) w=>tw r y f t (H:=H) w;have n:=fun H=>OR r.sl (gO f.sl) H;have l:=fun H=>OR r.priv.sl (gO f.psl) H;have q:=fun H=>YU r y f H;have d:=fun H=>ff (iT r) (by omega) (fun s I=>Nat.le_trans (i s I) (by decide)) H 971 ⟨5,1,9,cH (iT r)⟩ (iT r).length;rw[aCe G];rw[o]at d c k |-;obtain ⟨A,hA⟩:∃A,A=pG r:=⟨_,rfl⟩;obtain ⟨B,hB⟩:∃B,B=fI (.z r.sl.idx r.sl.sig r.sl.path):=⟨_,rfl⟩;obtain ⟨C,F⟩:∃C,C=uB (JK r.priv):=⟨_,rfl⟩;obtain ⟨D,E⟩:∃D,D=fI (.z r.priv.sl.idx r.priv.sl.sig r.priv.sl.path):=⟨_,rfl⟩;rw[<-hA,<-hB,<-F,<-E]at d c k |-;simp only[<-hA]at m;rw[<-hB]at n;rw[<-F]at q;rw[<-E]at l;have q1:(A++B).length<=506:=by have:=c;simp only[aCg]at this |-;omega
 have K:((A++B)++C).length<=506:=by have:=c;simp only[aCg]at this |-;omega
 have z:=d;obtain ⟨J,hJ⟩:∃J,J=aP (((A++B)++C)++D):=⟨_,rfl⟩;rw[<-hJ]at d k |-;have hos:(ofL J).size=J.length:=cM _;clear hJ z hA hB F E o i;refine aA<|Sq<|aL follows<|Cr [1] (fun v g=>by exact aM rfl aX aK rfl ((g _ rfl).trans rfl) rfl rfl (by simp only[Zl,encStr];rfl) rfl)<|Cp [971] (fun v g=>by exact bL rfl rfl call42 rfl ((m _ ((g _ rfl).trans rfl))))<|Cr [1] (fun _ h=>fh jR h)<|Cr [1] (fun v g=>by exact aM rfl dK sizeOf25 rfl ((g _ rfl).trans rfl) rfl rfl rfl rfl)<|Cr [] (fun v g=>by exact bL rfl rfl call43 rfl (n _))<|Cp [971] (fun v g=>by exact cG (ob:=⟨2,1,9,cH A⟩) (k:=(A++B).length) (ps:=B.map encStr) rfl bT zT rfl ((g _ rfl).trans rfl) rfl rfl rfl (fP _) rfl (lP _) (m:=B.length) (aCf _) (by grind) (by simp_all) (rows':=cH (A++B)) (by exact gY _ _))<|Cr [] (fun _ _=>aH)<|bF<|Kr<|Sq ?_;refine Rd aC<|Dd (aV dV)<|Dd (kY iO sizeOf28)<|Dd (kc call44 (q _))<|Dd (by exact cG (ob:=⟨3,1,9,cH (A++B)⟩) (k:=((A++B)++C).length) (ps:=C.map encStr) rfl bT zT rfl rfl rfl rfl rfl (fP _) rfl (lP _) (m:=C.length) (aCf _) (by rw[aCg]at K;omega) (by exact aCg.symm) (rows':=cH ((A++B)++C)) (by exact gY _ _))<|Zd aH<|Sd aC<|Dd (aV dV)<|Dd (aV lN)<|Dd (kY dK sizeOf25)<|Dd (kc call43 (l _))<|Dd (by exact cG (ob:=⟨4,1,9,cH ((A++B)++C)⟩) (k:=(((A++B)++C)++D).length) (ps:=D.map encStr) rfl bT zT rfl rfl rfl rfl rfl (fP _) rfl (lP _) (m:=D.length) (aCf _) (by rw[aCg]at c;omega) (by exact aCg.symm) (rows':=cH (((A++B)++C)++D)) (by exact gY _ _)) ?_;refine Zd aH<|Sd aC<|Dd (kc call45 (d _ rfl rfl rfl rfl))<|Zd aH<|Sq<|Sd aC<|Dd (gF underlying9)<|Zd gX ?_;refine Cn ?_ ?_<;>intro u
 ·have j:20000<J.length:=by have:=aCb u;omega
  rw[aCe j];exact Sd aH<|Zd aH<|aB<|Ru<|Qq
 have j:¬ 20000<J.length:=by have:=aCc u;omega
 rw[aCd j];exact aA<|Sd aC<|Dd aH<|Zd aH<|aB<|Ru<|Qq
theorem Y4(t)(H)(c:t.size<1000000000):RC 59 [sv t] (.tup [.pv (fX (gT t).1),iv (gT t).2]) H:=by
 have h:=rq (fun x a=>Ae (fun y hy=>zy (by omega)) a) (fun x H a=>Ad (fun x H a=>fj x H a) x H a) t H c
 rwa [Dt (fun e f b=>OZ (fun o d=>by rw[ZD d]) f b)]at h
theorem WD(t):∀e∈(gT t).1,e.refs.length<1099511627776:=by
 rw[<-Dt (rE:=my fun s=>(Kc s).1) (fun e c b=>OZ (fun o a=>by rw[ZD a]) c b) t,Uq]
 split
 ·simp_all
 next h =>
 split
 ·exact NC (fun x hx=>(Ae (fun y hy=>zy (by omega)) (by omega)).2) _
 simp_all
theorem Rr:∀(n:Nat) (l:List UInt8) (L:List ByteArray),l.length<=n->MI l=some L->2*L.length<=l.length/\∀s∈L,s.size<=l.length:=by
 intro n
 induction n with
 |zero =>
  intro l L g h;rw[MI]at h
  simp_all
 | succ n d =>
  intro l L g h;rw[MI]at h
  split at h
  ·simp_all
  next h0 =>
  split at h
  ·cases h
  next b =>
  have hc:Jh l≠0:=fun e=>b (.inl e);have h58:l[Jh l]?=some 58:=Classical.byContradiction fun e=>b (.inr (.inl e));cases e:MI _ with
  |none=>rw[e]at h;cases h
  |some M =>
   rw[e]at h;cases h;obtain ⟨f,c⟩:=d _ M (by grind) e;rw[aCu]at f c;refine⟨by grind,fun s a=>?_⟩;rcases aCr.1 a with rfl|a
   ·rw[cM,aCt,aCu];omega
   have:=c s a;omega
def O4:Nat->RS->List (Int×Int)×RS
 |0,q=>([],q)
 |k+1,q=>if q.2=true then([],q)else(((rU q).1,(rU (rU q).2).1)::(O4 k (rU (rU q).2).2).1,(O4 k (rU (rU q).2).2).2)
def Hu(q:RS):List (Int×Int)×RS:=O4 (rU q).1.toNat (rU q).2
def Ho(L:List ByteArray):=rN (L,false)
def Pj(L:List ByteArray):=rU (Ho L).2
def Pi(L:List ByteArray):=rU (Pj L).2
def Ph(L:List ByteArray):=rU (Pi L).2
def Pg(L:List ByteArray):=rU (Ph L).2
def Pf(L:List ByteArray):=rN (Pg L).2
def Ih(L:List ByteArray):=rL (Pf L).2
def Hn(L:List ByteArray):=rN (Ih L).2
def Pe(L:List ByteArray):=rN (Hn L).2
def Pd(L:List ByteArray):=rN (Pe L).2
def YE(L:List ByteArray):=rU (Pd L).2
def YD(L:List ByteArray):=rN (YE L).2
def MG(L:List ByteArray):=rZ (YD L).2
def YC(L:List ByteArray):=rN (MG L).2
def YB(L:List ByteArray):=rN (YC L).2
def VA(L:List ByteArray):=rL (YB L).2
def U9(L:List ByteArray):=Hu (VA L).2
def HD(L:List ByteArray):=rZ (U9 L).2
def FR(L:List ByteArray):GRec:=⟨(Pj L).1,(Pi L).1,(Ph L).1,(Pg L).1,(Pf L).1,(Ih L).1,(gT (Hn L).1).1,(Pe L).1,decide ((Pd L).1=AM),(YE L).1,(YD L).1,(MG L).1,⟨(YC L).1,(YB L).1,(VA L).1,(U9 L).1,(HD L).1⟩⟩
def jm(t:List UInt8)(L:List ByteArray):Prop:=(HD L).2.2=true\/(Ho L).1≠J0\/lA (FR L)≠(ofL t,0)
instance (t:List UInt8) (L:List ByteArray):Decidable (jm t L):=inferInstanceAs (Decidable (_\/_\/_))
def sH(t:List UInt8):GRec×Int:=if 20000<t.length then(zR,2)else match MI t with
 |none=>(zR,5)
 |some L=>if jm t L then(zR,5)else(FR L,0)
def jA(q:RS):Prop:=q.1.length<=10000/\∀s∈q.1,s.size<=20000
theorem KC{L}{b c}(h:jA (L,b))(k):jA (L.drop k,c):=⟨by have:=h.1;grind,fun s a=>h.2 s (List.mem_of_mem_drop a)⟩
theorem vJ{q}(h:jA q):(rN q).1.size<=20000/\jA (rN q).2:=by
 obtain ⟨L,b⟩:=q;refine⟨?_,KC h 1⟩;cases L with
 |nil=>exact aCw _
 |cons s L=>exact h.2 s List.mem_cons_self
theorem Li(s):pL ((wZ s).getD 0):=by
 rw[wZ]
 split
 ·exact⟨by simp,by simp⟩
 next h7 =>
 split
 ·have:=KF (l:=s.data.toList) (by simp_all);show pL (R9 _);exact⟨by omega,by omega⟩
 exact⟨by simp,by simp⟩
theorem sU{q}(h:jA q):pL (rU q).1/\jA (rU q).2:=⟨Li _,KC h 1⟩
theorem TG{q}(h:jA q):((rL q).1.length<=20000/\∀x∈(rL q).1,x.size<=20000)/\jA (rL q).2:=by
 have d:=(sU h).2;obtain ⟨c,a⟩:=d;rw[rL]
 split
 ·exact⟨⟨aCw _,fun x b=>by cases b⟩,c,a⟩
 refine⟨⟨?_,fun x b=>a x (List.mem_of_mem_take b)⟩,KC ⟨c,a⟩ _⟩
 grind
theorem mi{q}(h:jA q):(pL (rZ q).1.idx/\((rZ q).1.sig.length<=20000/\∀x∈(rZ q).1.sig,x.size<=20000)/\((rZ q).1.path.length<=20000/\∀x∈(rZ q).1.path,x.size<=20000))/\jA (rZ q).2:=by have e:=sU h;have d:=TG e.2;have c:=TG d.2;exact⟨⟨e.1,d.1,c.1⟩,c.2⟩
theorem zo{q}(h:q.1.length=0\/q.2=true):(rU q).2.2=true:=by
 rw[rU,rN]
 grind
theorem zq:∀(k) (q),jA q->((O4 k q).1.length<=q.1.length+1/\∀p∈(O4 k q).1,pL p.1/\pL p.2)/\jA (O4 k q).2
 |0,q,h=>⟨⟨aCw _,fun p b=>by cases b⟩,h⟩
 | k + 1, q, h => by
  rw[O4]
  split
  ·simp_all
  next hb =>
  have f:=sU h;have g:=sU f.2;have d:=zq k _ g.2;refine⟨⟨?_,fun p b=>?_⟩,d.2⟩
  ·rw[aCh];by_cases e:q.1.length=0
   ·have c:O4 k (rU (rU q).2).2=([],(rU (rU q).2).2):=by
     cases k with
     |zero=>rfl
     |succ k=>rw[O4,aCe (zo (.inr (zo (.inl e))))]
    rw[c];exact Nat.le_add_left _ _
   have e1:(rU q).2.1.length=q.1.length - 1:=aCu;have e2:(rU _).2.1.length=(rU q).2.1.length - 1:=aCu;omega
  grind
theorem zt{q}(h:jA q):((Hu q).1.length<=20000/\∀p∈(Hu q).1,pL p.1/\pL p.2)/\jA (Hu q).2:=by have a:=sU h;have b:=zq (rU q).1.toNat _ a.2;have h3:=a.2.1;exact⟨⟨by rw[Hu];omega,b.1.2⟩,b.2⟩
theorem Qz{L}(h:jA (L,false)):((Ho L).1).size<=20000/\jA (Ho L).2:=vJ h
theorem wz{L}(h:jA (L,false)):pL (Pj L).1/\jA (Pj L).2:=sU (Qz h).2
theorem wy{L}(h:jA (L,false)):pL (Pi L).1/\jA (Pi L).2:=sU (wz h).2
theorem wx{L}(h:jA (L,false)):pL (Ph L).1/\jA (Ph L).2:=sU (wy h).2
theorem wv{L}(h:jA (L,false)):pL (Pg L).1/\jA (Pg L).2:=sU (wx h).2
theorem wu{L}(h:jA (L,false)):((Pf L).1).size<=20000/\jA (Pf L).2:=vJ (wv h).2
theorem wt{L}(h:jA (L,false)):((Ih L).1.length<=20000/\∀x∈(Ih L).1,x.size<=20000)/\jA (Ih L).2:=TG (wu h).2
theorem wq{L}(h:jA (L,false)):((Hn L).1).size<=20000/\jA (Hn L).2:=vJ (wt h).2
theorem wo{L}(h:jA (L,false)):((Pe L).1).size<=20000/\jA (Pe L).2:=vJ (wq h).2
theorem Qy{L}(h:jA (L,false)):((Pd L).1).size<=20000/\jA (Pd L).2:=vJ (wo h).2
theorem kj{L}(h:jA (L,false)):pL (YE L).1/\jA (YE L).2:=sU (Qy h).2
theorem kh{L}(h:jA (L,false)):((YD L).1).size<=20000/\jA (YD L).2:=vJ (kj h).2
theorem kg{L}(h:jA (L,false)):(pL (MG L).1.idx/\((MG L).1.sig.length<=20000/\∀x∈(MG L).1.sig,x.size<=20000)/\((MG L).1.path.length<=20000/\∀x∈(MG L).1.path,x.size<=20000))/\jA (MG L).2:=mi (kh h).2
theorem kf{L}(h:jA (L,false)):((YC L).1).size<=20000/\jA (YC L).2:=vJ (kg h).2
theorem ke{L}(h:jA (L,false)):((YB L).1).size<=20000/\jA (YB L).2:=vJ (kf h).2
theorem kd{L}(h:jA (L,false)):((VA L).1.length<=20000/\∀x∈(VA L).1,x.size<=20000)/\jA (VA L).2:=TG (ke h).2
theorem jz{L}(h:jA (L,false)):((U9 L).1.length<=20000/\∀p∈(U9 L).1,pL p.1/\pL p.2)/\jA (U9 L).2:=zt (kd h).2
theorem Ii{L}(h:jA (L,false)):(pL (HD L).1.idx/\((HD L).1.sig.length<=20000/\∀x∈(HD L).1.sig,x.size<=20000)/\((HD L).1.path.length<=20000/\∀x∈(HD L).1.path,x.size<=20000))/\jA (HD L).2:=mi (jz h).2
theorem zi{L}(h:jA (L,false)):gE (FR L)/\(FR L).parents.length<549755813888 :=zf (aCl _) (wz h).1 (wy h).1 (wx h).1 (wv h).1 (kj h).1 (wu h).1 (wo h).1 (kh h).1 (kf h).1 (ke h).1 (wt h).1 (kd h).1 (jz h).1 (LN _) (PB _) (kg h).1 (Ii h).1
theorem yb{t}{L}(c:t.length<=20000)(h:MI t=some L):jA (L,false):=by obtain ⟨h1,a⟩:=Rr _ t L (aCl _) h;exact⟨by grind,fun s b=>Nat.le_trans (a s b) c⟩
theorem ND(s)(L)(b):rN (s::L,b)=(s,(L,b)):=by simp[rN]
theorem nf:∀(l) (n v),decFrom n l=some v->l.foldl (fun n b=>10*n+(b.toNat:Int) - 48) n=v
 | [],n,v,h=>by
  obtain rfl:=Option.some.inj h;rfl
 | b::l,n,v,h=>by
  rw[decFrom]at h;cases e:digitVal b with
  |none=>simp_all
  | some d =>
   rw[e]at h;have a:(10*n+(b.toNat) - 48)=((n*10+d):Int):=by
    rw[digitVal]at e
    grind
   rw[List.foldl_cons,a];exact nf l _ v h
theorem sw{x}(h0:0<=x)(h1:x<10000000):wZ (aY x)=some x:=by obtain ⟨k,rfl⟩:∃k:Nat,x=k:=⟨x.toNat,by omega⟩;have a:=UA k;have hs:(aY k).size<=7:=dF (by omega) (by simp);have c:R9 _=k:=nf _ 0 k (oN k);have b:bl k=aY k:=rfl;rw[wZ,aCd (by omega),a,c,aCe b]
theorem tV{x}(a:0<=x)(c:x<10000000)(L)(b):rU (aY x::L,b)=(x,(L,b)):=by rw[rU,ND];rw[sw a c];simp
theorem NE{l}(h:l.length<10000000)(L)(b):rL (aY (l.length)::(l++L),b)=(l,(L,b)):=by rw[rL,tV (by omega) (by omega)];rw[aCd (by grind),aCq,List.take_left' rfl,List.drop_left' rfl]
theorem mj{s}(d:0<=s.idx)(a:s.idx<10000000)(f:s.sig.length<10000000)(c:s.path.length<10000000)(L)(b):rZ (fI (.z s.idx s.sig s.path)++L,b)=(s,(L,b)):=by
 have e:fI (.z s.idx s.sig s.path)++L=aY s.idx::(aY (s.sig.length)::(s.sig++(aY (s.path.length)::(s.path++L)))):=by simp[fI]
 rw[e,rZ,tV d a];rw[NE f];rw[NE c]
theorem mr:∀(ps) (L),(∀q∈ps,(0<=q.1/\q.1<10000000)/\(0<=q.2/\q.2<10000000))->O4 ps.length (NH ps++L,false)=(ps,(L,false))
 | [],L,_=>rfl
 |q::ps,L,h=>by
  obtain ⟨⟨a,b⟩,c,d⟩:=h q List.mem_cons_self;have e:NH (q::ps)++L=aY _::(aY _::(NH _++L)):=rfl;rw[aCh,O4,aCd (by simp),e,tV a b];rw[tV c d];rw[mr _ L fun x f=>h x (List.mem_cons_of_mem _ f)]
theorem zu{ps}(hl:ps.length<10000000)(h:∀q∈ps,(0<=q.1/\q.1<10000000)/\(0<=q.2/\q.2<10000000))(L):Hu (fI (.p ps)++L,false)=(ps,(L,false)):=by have e:fI (.p ps)++L=aY _::(NH _++L):=rfl;rw[e,Hu,tV (by omega) (by omega)];rw[aCq,mr _ L h]
theorem fg{r:GRec}(h:VF r):FR (iT r)=r/\(Ho (iT r)).1=J0/\(HD (iT r)).2.2=false:=by
 have hk:=AT h.k;have hau:=h.au;have hnu:=h.nu;have hcl:=h.cl;have hod:=h.order;have hpl:=h.pal;have hso:=h.sol;have htl:=h.trl;have j:=gO h.sl;have k:=gO h.psl;have i1:=j.i0;have i2:=j.i1;have i3:=j.sl;have i4:=j.pl;have j1:=k.i0;have j2:=k.i1;have j3:=k.sl;have j4:=k.pl;have l:∀q∈r.priv.trace,(0<=q.1/\q.1<10000000)/\(0<=q.2/\q.2<10000000):=fun q z=>by have:=h.tr q z;omega
 have o:Ho (iT r)=(J0,(Ye r,false)):=by rw[Ho,Gn];rfl
 have w:Pj (iT r)=(r.kind,(Yd r,false)):=by rw[Pj,o];exact tV (by omega) (by omega) _ _
 have s:Pi (iT r)=(r.author,(Yc r,false)):=by rw[Pi,w];exact tV (by omega) (by omega) _ _
 have x:Ph (iT r)=(r.number,(Yb r,false)):=by rw[Ph,s];exact tV (by omega) (by omega) _ _
 have t:Pg (iT r)=(r.clock,(Ya r,false)):=by rw[Pg,x];exact tV (by omega) (by omega) _ _
 have u:Pf (iT r)=(r.branch,(Xz r,false)):=by rw[Pf,t];rfl
 have v:Ih (iT r)=(r.parents,(Xy r,false)):=by rw[Ih,u];exact NE (by omega) _ _
 have m:Hn (iT r)=((jK r.edits).1,(Xx r,false)):=by rw[Hn,v];rfl
 have p:Pe (iT r)=(r.target,(Xw r,false)):=by rw[Pe,m];rfl
 have n:Pd (iT r)=(aY (if r.yes then 1 else 0),(yw r,false)):=by rw[Pd,p];rfl
 have c:YE (iT r)=(r.order,(yv r,false)):=by rw[YE,n];exact tV (by omega) (by omega) _ _
 have d:YD (iT r)=(r.from',(yu r,false)):=by rw[YD,c];exact ND _ _ _
 have f:MG (iT r)=(r.sl,(yt r,false)):=by rw[MG,d];exact mj (by omega) (by omega) (by omega) (by omega) _ _
 have g:YC (iT r)=(r.priv.name,(yr r,false)):=by rw[YC,f];exact ND _ _ _
 have a:YB (iT r)=(r.priv.reason,(yq r,false)):=by rw[YB,g];exact ND _ _ _
 have b:VA (iT r)=(r.priv.sources,(yp r,false)):=by rw[VA,a];exact NE (by omega) _ _
 have e:U9 (iT r)=(r.priv.trace,(yo r,false)):=by rw[U9,b];exact zu (by omega) l _
 have i:HD (iT r)=(r.priv.sl,(yn r,false)):=by rw[HD,e];exact mj (by omega) (by omega) (by omega) (by omega) _ _
 refine⟨?_,by rw[o],by rw[i]⟩;rw[FR,w,s,x,t,u,v,m,p,n,c,d,f,g,a,b,e,i,QJ h.tx];have y:decide (aY (if r.yes then 1 else 0)=AM)=r.yes:=YF r.yes;simp only[y]
theorem Y0{r}{t}(h:lA r=(ofL t,0)):sH t=(r,0):=by
 have d:eJ r=true:=by
  rw[lA]at h
  grind
 have c:=lY d;have f:t=aP (iT r)/\t.length<=20000:=by
  rw[lA,aCe d]at h
  split at h
  ·cases h
  next hl =>
  have:=congrArg (fun s=>s.data.toList) (congrArg Prod.fst h);simp[dD]at this;rw[<-this];exact⟨rfl,by omega⟩
 have a:MI t=some (iT r):=by
  rw[f.1];exact OL _ fun s g=>Nat.lt_of_le_of_lt (show s.size<=20000 from(List.mem_append.1 g).elim (H4 c s) (VQ c s)) (by decide)
 obtain ⟨e,r2,i⟩:=fg c;have b:¬ jm t (iT r):=by
  rw[jm,e,i]
  simp_all
 rw[sH,aCd (by omega),a];dsimp only;rw[aCd b,e]
theorem iw(t):sH t=eW t:=by
 by_cases d:(eW t).2=0
 ·rw[Y0 (Aq d)];exact Prod.ext rfl d.symm
 by_cases b:20000<t.length
 ·rw[sH,aCe b,eW,aCe b]
 have c:eW t=(zR,5):=by
  rw[eW]at d |-
  grind
 rw[c,sH,aCd b];cases e:MI t with
 |none=>rfl
 |some L =>
  dsimp only;by_cases a:jm t L
  ·rw[aCe a]
  have f:=Classical.byContradiction fun h=>a (.inr (.inr h));rw[PC f]at c;have g:=congrArg Prod.snd c;exact absurd g (by simp)
end Go.Proofs.YtmdicgjnmfolfaaGreatDoor
