/-
  Parts of the proof. Conditions: each theorem's own.
-/
import Derived.Test.YtopnleflllkbmaaGreatDoorKX2rM8
set_option linter.unusedVariables false
set_option linter.unusedSimpArgs false
set_option maxRecDepth 100000
set_option maxHeartbeats 8000000
namespace Go.Proofs
open Tryz
theorem Nu:type_of% call26:=call26
end Go.Proofs
namespace Go.Proofs.YtopnleflllkbmaaGreatDoor
open Go.Proofs.Tryz
open Go.Abs Go.Lib
variable{l:List B_}{t:B_}
def pt2(q:Int×Int):List B_:=[aQ q.1,aQ q.2]
def jy(p:GPriv):List B_:=[p.name,p.reason,aQ (p.sources.length:Int)]
def GJ(p:GPriv)(k:Nat):List B_:=((jy p++p.sources)++[aQ (p.trace.length:Int)])++(p.trace.take k).flatMap pt2
theorem Qc(p):GJ p p.trace.length=yR (TY p):=by rw[GJ];simp[TY,yR,fI,jy];rfl
theorem xm{p}{k}{q}(h:p.trace[k]?=some q):GJ p (k+1)=GJ p k++pt2 q:=by simp[GJ,fN h,List.flatMap_append]
theorem Fk(r:j7)(I:mI r)(o:VF r)(H:aF):RC 112 [av (wT r.priv)] (.pv (aK (yR (TY r.priv)))) H:=by
 refine aS.pure ?_ F_ H;obtain ⟨p,F⟩:∃p,p=r.priv:=X_;have j:=o.tr;have B:=o.sol;have E:=o.trl;rw[<-F]at j B E |-;clear F o I;have g:(p.sources.map S_).length=p.sources.length:=h_ _;have t:(p.trace.map jW).length=p.trace.length:=h_ _;have u:∀H,RC 84 [iv ((p.sources.map S_).length:Int)] (sv (aQ (p.sources.length:Int))) H:=fun H=>by
  rw[g];exact BT (p.sources.length:Int) X X H
 have d_:∀H,RC 84 [iv ((p.trace.map jW).length:Int)] (sv (aQ (p.trace.length:Int))) H:=fun H=>by
  rw[t];exact BT (p.trace.length:Int) X X H
 have v:(bZ (jy p++p.sources)).length=3+p.sources.length:=by rw[bZ,h_,j9];rfl
 have n:∀k,k<=p.trace.length->(GJ p k).length=4+p.sources.length+2*k:=fun k i=>by
  have:((p.trace.take k).flatMap pt2).length=2*k:=by
   have G:∀l:List (Int×Int),(l.flatMap pt2).length=2*l.length:=fun l=>by
    induction l with
    |nil=>rfl
    |cons q l K=>rw[List.flatMap_cons,j9,K,j8];show 2+_=_;omega
   rw[G,q8];omega
  rw[GJ,j9,j9,j9,this];show 3+_+1+_=_;omega
 have A:∀k,k<=p.trace.length->(bZ (GJ p k)).length=4+p.sources.length+2*k:=fun k i=>by rw[bZ,h_,n k i]
 have hw0:bZ (jy p++p.sources)++([aQ (p.trace.length:Int)].map S_).map (·.map AV.pv)=bZ (GJ p 0):=by rw[gU,GJ,List.take_zero,List.flatMap_nil,List.append_nil]
 refine Bd func112 Z ntmps112<|C (kb 1)<|O U<|S<|aN a7<|Cr [1] (fun _ h=>fh IJ h)<|Cr [1] (fun _ h=>lh N_ h)<|Cr [1] (fun _ h=>fh II h)<|Cr [1] (fun _ h=>lh N_ h)<|Cr [1] (fun _ h=>fh yD h)<|Cr [1] (fun _ h=>lh aH h)<|Cr [] (fun _ _=>(fV aE))<|Cr [] (fun e d=>by exact bF Z Z jE Z (u _))<|Cp [971] (fun e d=>by exact gH (id:=971) Z bH Z Z Z Z (by simp_all) ((d _ Z).trans Z))<|Cr [971] (fun _ _=>U)<|bJ<|Kr<|C V<|Y (bD yD)<|Y (bS aH)<|Y (by exact cA (ob:=⟨0,1,9,bZ (jy p)⟩) (k:=3+p.sources.length) (ps:=p.sources.map S_) Z bH xE Z Z Z Z Z Z Z (fE _) (m:=p.sources.length) g (by omega) Z (rows':=bZ (jy p++p.sources)) (by exact gU _ _)) ?_;refine O U<|C V<|Y (bD sX)<|Y (bS jS)<|Y (fV fW)<|Y (kc jE (d_ _))<|Y (by exact aL ([aQ (p.trace.length:Int)].map S_) Z bH Z Z Z Z Z (fE _))<|Y (by exact cA (ob:=⟨1,1,9,bZ (jy p++p.sources)⟩) (k:=4+p.sources.length+2*0) (ps:=[aQ (p.trace.length:Int)].map S_) Z bH xE Z Z Z Z Z v Z (fE _) (m:=1) Z (by omega) (by omega) (rows':=bZ (GJ p 0)) (by omega))<|O U<|S<|Sz U<|aD<|bC (σ:=Nat) (fun k=>([(1,.ref 1 0 0 0),(3,.osl 971 (2+k) 0 (4+p.sources.length+2*k)),(4,iv (k:Int))],[(1,bx 7 51 ((wT p).map .pv)),(971,⟨2+k,1,9,bZ (GJ p k)⟩)])) (fun k=>k<=p.trace.length) (fun k=>p.trace.length - k) 0 (by omega) ?_ ?_
 ·exact(cJ.wk (Ea<|Ea<|Eb<|T_) (Hb<|Hc (aV _ _)<|T_) T_)
 intro k i;have m:=A k i;refine S<|C V<|Y (bD sX)<|Y (bS jS)<|Y (fV fW)<|O cM<|Cn ?_ ?_<;>intro f
 ·have y:k<p.trace.length:=by have:=b9 f;omega
  obtain ⟨q,z⟩:=aU y;have hqb:=j q (m7 z);have s:=cC (f:=jW) z;have L:=fun H=>BT q.1 X X H;have c_:=fun H=>BT q.2 X X H;refine aA<|S<|aD<|aN a7<|Cr [971] (fun _ _=>V)<|Cr [1] (fun _ h=>fh sX h)<|Cr [1] (fun _ h=>lh jS h)<|Cr [] (fun _ _=>V)<|Cr [] (fun e d=>by exact bU Z TU Z Z X (by rfl) s Z)<|Cr [] (fun _ _=>(EV mO))<|Cr [] (fun _ _=>(fY M_ (hi:=s)))<|Cr [] (fun e d=>by exact bF Z Z jE Z (L _))<|Cr [1] (fun _ h=>fh sX h)<|Cr [1] (fun _ h=>lh jS h)<|Cr [] (fun _ _=>V)<|Cr [] (fun e d=>by exact bU Z TU Z Z X (by rfl) s Z)<|Cr [] (fun _ _=>(EV mN))<|Cr [] (fun _ _=>(fY M_ (hi:=s)))<|Cr [] (fun e d=>by exact bF Z Z jE Z (c_ _))<|Cr [] (fun e d=>by exact aL ((pt2 q).map S_) Z bH Z Z Z Z Z (fE _))<|Cp [971] (fun e d=>by exact cA (ob:=⟨2+k,1,9,bZ (GJ p k)⟩) (k:=4+p.sources.length+2*(k+1)) (ps:=(pt2 q).map S_) Z bH xE Z ((d _ Z).trans Z) Z Z Z m Z (fE _) (m:=2) Z X X (rows':=bZ (GJ p (k+1))) (by rw[gU,xm z])) ?_;refine Cr [971] (fun _ _=>U)<|bJ<|Kr<|Rd V<|Y kp<|Da ?_;exact⟨k+1,X,X,(cJ.wk (Ea<|Ea<|Eb<|T_) (Hb<|Hc (aV _ _)<|T_) T_)⟩
 have D:k=p.trace.length:=by have:=b_ f;omega
 subst D;have w:=n p.trace.length i;refine aP<|C V<|O U<|aC ?_;refine cR (H':=[]) (.inr Z) Z (aJ Z) (Fin.fz (id:=971) (ob:=⟨2+p.trace.length,1,9,bZ (GJ p p.trace.length)⟩) ((GJ p p.trace.length).map S_) Z (eC _) (.osl (HM S_ _ w)) Z T_ T_) ?_;exact⟨by rw[<-Qc];rfl,Z⟩
theorem zm(r)(b:mI r)(c:VF r)(a:∀e∈r.edits,e.refs.length<2^40){H}(hno:H.get 971=none):aS Tryz.prog 70 [av (dR r)] H (fun x H'=>x=.osl 971 2 0 (uV r).length/\H'=(971,⟨2,1,9,bZ (uV r)⟩)::H) :=aS.frame (WR r b c a) (fun _ _ h=>by cases h) (fun _ _ h=>by cases h) H_ (fun id h=>.inr (by
  by_cases e:971=id
  ·simp_all
  simp[aF.get,jP e]at h))
theorem kf(L)(f:L.length<=100000)(g:∀s∈L,s.size<=100000000)(H)(id)(ob)(n)(j:H.get id=some ob)(d:Nat.blt 0 ob.sz=true)(b:ob.rows=bZ L)(h:n=L.length):aS Tryz.prog 85 [.osl id ob.g 0 n] H (fun r H'=>r=sv (b7 (aM L))/\H'=(id,KQ ob)::H):=by
 subst h;refine aS.retire _ (U5 L f g _) j d (by rw[b];exact eC _) Z ?_;intro i a a' e c
 match i with
 |0 =>
  cases e;cases c;refine .inr ⟨0,L.length,Z,?_⟩;rw[iH];rfl
 |n+1=>cases e
def xg(s:m9):List B_:=[aQ s.idx,aQ (s.sig.length:Int)]
def En(s:m9):List B_:=[aQ (s.path.length:Int)]
theorem QO(s:m9)(i:FSeal s)(H:aF):RC 111 [av (lE s)] (.pv (aK (fI (.z s.idx s.sig s.path)))) H:=by
 refine aS.pure ?_ F_ H;have q:=i.i0;have i1:=i.i1;have l1:=i.sl;have l2:=i.pl;have e:(s.sig.map S_).length=s.sig.length:=h_ _;have f:(s.path.map S_).length=s.path.length:=h_ _;have l:=fun H=>BT s.idx q X H;have m:∀H,RC 84 [iv ((s.sig.map S_).length:Int)] (sv (aQ (s.sig.length:Int))) H:=fun H=>by
  rw[e];exact BT (s.sig.length:Int) X X H
 have n:∀H,RC 84 [iv ((s.path.map S_).length:Int)] (sv (aQ (s.path.length:Int))) H:=fun H=>by
  rw[f];exact BT (s.path.length:Int) X X H
 have c:fI (.z s.idx s.sig s.path)=((xg s++s.sig)++En s)++s.path:=by simp[fI,xg,En]
 rw[c];have g:(xg s++s.sig).length=2+s.sig.length:=by rw[j9];rfl
 have j:((xg s++s.sig)++En s).length=2+s.sig.length+1:=by rw[j9,g];rfl
 have o:(((xg s++s.sig)++En s)++s.path).length=2+s.sig.length+1+s.path.length:=G_
 refine Bd func111 Z ntmps111<|C (kb 1)<|O U<|S<|aN a7<|Cr [1] (fun _ h=>fh C2 h)<|Cr [1] (fun _ h=>lh M_ h)<|Cr [] (fun p k=>by exact bF Z Z jE Z (l _))<|Cr [1] (fun _ h=>fh vV h)<|Cr [1] (fun _ h=>lh aH h)<|Cr [] (fun _ _=>(fV aE))<|Cr [] (fun p k=>by exact bF Z Z jE Z (m _))<|Cp [971] (fun p k=>by exact gH (id:=971) Z bH Z Z Z Z (by simp_all) ((k _ Z).trans Z))<|Cr [971] (fun _ _=>U)<|bJ<|Kr<|C V<|Y (bD vV)<|Y (bS aH)<|Y (by exact cA (ob:=⟨0,1,9,bZ (xg s)⟩) (k:=2+s.sig.length) (ps:=s.sig.map S_) Z bH xE Z Z Z Z Z Z Z (fE _) (m:=s.sig.length) e (by omega) Z (rows':=bZ (xg s++s.sig)) (by exact gU _ _)) ?_;refine O U<|C V<|Y (bD vU)<|Y (bS aH)<|Y (fV aE)<|Y (kc jE (n _))<|Y (by exact aL ((En s).map S_) Z bH Z Z Z Z Z (fE _))<|Y (by exact cA (ob:=⟨1,1,9,bZ (xg s++s.sig)⟩) (k:=2+s.sig.length+1) (ps:=(En s).map S_) Z bH xE Z Z Z Z Z ((eH _).trans g) Z (fE _) (m:=1) Z (by omega) Z (rows':=bZ ((xg s++s.sig)++En s)) (by exact gU _ _))<|O U<|C V<|Y (bD vU)<|Y (bS aH)<|Y (by exact cA (ob:=⟨2,1,9,bZ ((xg s++s.sig)++En s)⟩) (k:=2+s.sig.length+1+s.path.length) (ps:=s.path.map S_) Z bH xE Z Z Z Z Z ((eH _).trans j) Z (fE _) (m:=s.path.length) f (by omega) Z (rows':=bZ (((xg s++s.sig)++En s)++s.path)) (by exact gU _ _))<|O U<|aC ?_;refine cR (H':=[]) (.inr Z) Z (aJ Z) (Fin.fz (id:=971) (ob:=⟨3,1,9,bZ (((xg s++s.sig)++En s)++s.path)⟩) ((((xg s++s.sig)++En s)++s.path).map S_) Z (eC _) (.osl (HM S_ _ o)) Z T_ T_) ?_;exact Qq
theorem Qh(r:j7)(y:mI r)(t:∀e∈r.edits,e.refs.length<2^40)(H:aF):RC 68 [av (dR r)] (.tup [sv (mG r).1,iv (mG r).2]) H:=by
 refine aS.pure ?_ F_ H;have L:=fun H=>bf r H y t;rw[mG];refine Bd func68 Z ntmps68<|C (kb 1)<|Y U<|O U<|S<|C (by exact aW Z cF aY Z Z Z Z (by simp only[Zl,S_];rfl) Z)<|Y (kc call69 (L _))<|O iT ?_;refine Cn ?_ ?_<;>intro p
 ·have G:=not_not p;rw[a8 F_];exact C U<|O U<|aC<|Ru<|Qq
 have G:=qN p;have f:=sF G;have o:jI r=((uV r++fI (.z r.sl.idx r.sl.sig r.sl.path))++yR (TY r.priv))++fI (.z r.priv.sl.idx r.priv.sl.sig r.priv.sl.path):=by rw[jI,jx,List.append_assoc,List.append_assoc]
 have i:∀x∈jI r,Wp x:=fun x e_=>(List.mem_append.1 e_).elim (JS f x) (XZ f x);have hpl:=JR f;have hsl:=XY f;have c:(jI r).length<=506:=by rw[jI,j9];omega
 have k:=xT i c;have m:=fun(H:aF) w=>zm r y f t (H:=H) w;have n:=fun H=>QO r.sl (kU f.sl) H;have l:=fun H=>QO r.priv.sl (kU f.psl) H;have q:=fun H=>Fk r y f H;have d:=fun H=>kf (jI r) X (fun s I=>Nat.le_trans (i s I) E_) H 971 ⟨5,1,9,bZ (jI r)⟩ (jI r).length;rw[b6 G];rw[o]at d c k |-;obtain ⟨A,hA⟩:∃A,A=uV r:=X_;obtain ⟨B,hB⟩:∃B,B=fI (.z r.sl.idx r.sl.sig r.sl.path):=X_;obtain ⟨d_,F⟩:∃d_,d_=yR (TY r.priv):=X_;obtain ⟨D,E⟩:∃D,D=fI (.z r.priv.sl.idx r.priv.sl.sig r.priv.sl.path):=X_;rw[<-hA,<-hB,<-F,<-E]at d c k |-;simp only[<-hA]at m;rw[<-hB]at n;rw[<-F]at q;rw[<-E]at l;have q1:(A++B).length<=506:=by have:=c;simp only[j9]at this |-;omega
 have K:((A++B)++d_).length<=506:=by have:=c;simp only[j9]at this |-;omega
 have z:=d;obtain ⟨c_,hJ⟩:∃c_,c_=aM (((A++B)++d_)++D):=X_;rw[<-hJ]at d k |-;have hos:(b7 c_).size=c_.length:=cB _;clear hJ z hA hB F E o i;refine aA<|S<|aN a7<|Cr [1] (fun v g=>by exact aW Z cF aY Z ((g _ Z).trans Z) Z Z (by simp only[Zl,S_];rfl) Z)<|Cp [971] (fun v g=>by exact bF Z Z call70 Z ((m _ ((g _ Z).trans Z))))<|Cr [1] (fun _ h=>fh zL h)<|Cr [1] (fun v g=>by exact aW Z gN sizeOf48 Z ((g _ Z).trans Z) Z Z Z Z)<|Cr [] (fun v g=>by exact bF Z Z call111 Z (n _))<|Cp [971] (fun v g=>by exact cA (ob:=⟨2,1,9,bZ A⟩) (k:=(A++B).length) (ps:=B.map S_) Z bH xE Z ((g _ Z).trans Z) Z Z Z (eH _) Z (fE _) (m:=B.length) (h_ _) G_ F_ (rows':=bZ (A++B)) (gU _ _))<|Cr [] (fun _ _=>U)<|bJ<|Kr<|S ?_;refine Rd V<|Y (bD iC)<|Y (vC Bb sizeOf51)<|Y (kc call112 (q _))<|Y (by exact cA (ob:=⟨3,1,9,bZ (A++B)⟩) (k:=((A++B)++d_).length) (ps:=d_.map S_) Z bH xE Z Z Z Z Z (eH _) Z (fE _) (m:=d_.length) (h_ _) (by rw[j9]at K;omega) j9.symm (rows':=bZ ((A++B)++d_)) (gU _ _))<|O U<|C V<|Y (bD iC)<|Y (bD E4)<|Y (vC gN sizeOf48)<|Y (kc call111 (l _))<|Y (by exact cA (ob:=⟨4,1,9,bZ ((A++B)++d_)⟩) (k:=(((A++B)++d_)++D).length) (ps:=D.map S_) Z bH xE Z Z Z Z Z (eH _) Z (fE _) (m:=D.length) (h_ _) (by rw[j9]at c;omega) j9.symm (rows':=bZ (((A++B)++d_)++D)) (gU _ _)) ?_;refine O U<|C V<|Y (kc call85 (d _ Z Z Z Z))<|O U<|S<|C V<|Y (gM U_)<|O iY<|Cn ?_ ?_<;>intro u
 ·have j:20000<c_.length:=by have:=b9 u;omega
  rw[b6 j];exact C U<|O U<|aC<|Ru<|Qq
 have j:¬ 20000<c_.length:=by have:=b_ u;omega
 rw[a8 j];exact aA<|C V<|Y U<|O U<|aC<|Ru<|Qq
theorem bl(t)(H)(c:t.size<1000000000):RC 67 [sv t] (.tup [.pv (jZ (iB t).1),iv (iB t).2]) H:=by
 have h:=xv (fun x a=>Gq (fun y hy=>w9 X) a) (fun x H a=>Gp (fun x H a=>km x H a) x H a) t H c
 rwa [Kd (fun e f b=>QV (fun o d=>by rw[cb d]) f b)]at h
theorem JU(t):∀e∈(iB t).1,e.refs.length<2^40:=by
 rw[<-Kd (rE:=sf fun s=>(Qw s).1) (fun e c b=>QV (fun o a=>by rw[cb a]) c b) t,gPr]
 split
 ·simp_all
 next h =>
 split
 ·exact OU (fun x hx=>(Gq (fun y hy=>w9 X) X).2) _
 simp_all
theorem Yc:∀(n:Nat) (l:List UInt8) (L:List B_),l.length<=n->N8 l=some L->2*L.length<=l.length/\∀s∈L,s.size<=l.length:=by
 intro n
 induction n with
 |zero =>
  intro l L g h;rw[N8]at h
  simp_all
 | succ n d =>
  intro l L g h;rw[N8]at h
  split at h
  ·simp_all
  next h0 =>
  split at h
  ·cases h
  next b =>
  have hc:Po l≠0:=fun e=>b (.inl e);have h58:l[Po l]?=some 58:=Classical.byContradiction fun e=>b (.inr (.inl e));cases e:N8 _ with
  |none=>rw[e]at h;cases h
  |some e_ =>
   rw[e]at h;cases h;obtain ⟨f,c⟩:=d _ e_ G_ e;rw[q6]at f c;refine⟨G_,fun s a=>?_⟩;rcases l7.1 a with rfl|a
   ·rw[cB,q8,q6];omega
   have:=c s a;omega
def RA:Nat->RS->List (Int×Int)×RS
 |0,q=>([],q)
 |k+1,q=>if q.2=true then([],q)else(((rU q).1,(rU (rU q).2).1)::(RA k (rU (rU q).2).2).1,(RA k (rU (rU q).2).2).2)
def Nn(q:RS):List (Int×Int)×RS:=RA (rU q).1.toNat (rU q).2
def Nj(L:List B_):=rN (L,false)
def Wb(L:List B_):=rU (Nj L).2
def Wa(L:List B_):=rU (Wb L).2
def Vz(L:List B_):=rU (Wa L).2
def Vy(L:List B_):=rU (Vz L).2
def Vx(L:List B_):=rN (Vy L).2
def Od(L:List B_):=rL (Vx L).2
def Ni(L:List B_):=rN (Od L).2
def Vw(L:List B_):=rN (Ni L).2
def Vv(L:List B_):=rN (Vw L).2
def Z7(L:List B_):=rU (Vv L).2
def Z6(L:List B_):=rN (Z7 L).2
def N5(L:List B_):=rZ (Z6 L).2
def Z5(L:List B_):=rN (N5 L).2
def Z4(L:List B_):=rN (Z5 L).2
def XL(L:List B_):=rL (Z4 L).2
def XK(L:List B_):=Nn (XL L).2
def I0(L:List B_):=rZ (XK L).2
def GX(L:List B_):j7:=⟨(Wb L).1,(Wa L).1,(Vz L).1,(Vy L).1,(Vx L).1,(Od L).1,(iB (Ni L).1).1,(Vw L).1,decide ((Vv L).1=BG),(Z7 L).1,(Z6 L).1,(N5 L).1,⟨(Z5 L).1,(Z4 L).1,(XL L).1,(XK L).1,(I0 L).1⟩⟩
def oy(t:List UInt8)(L:List B_):Prop:=(I0 L).2.2=true\/(Nj L).1≠GK\/mG (GX L)≠(b7 t,0)
instance (t:List UInt8) (L:List B_):Decidable (oy t L):=inferInstanceAs (Decidable (_\/_\/_))
def sW(t:List UInt8):j7×Int:=if 20000<t.length then(zR,2)else match N8 t with
 |none=>(zR,5)
 |some L=>if oy t L then(zR,5)else(GX L,0)
def jB(q:RS):Prop:=q.1.length<=10000/\∀s∈q.1,s.size<=20000
theorem MF{L}{b c}(h:jB (L,b))(k):jB (L.drop k,c):=⟨by have:=h.1;grind,fun s a=>h.2 s (List.mem_of_mem_drop a)⟩
theorem wA{q}(h:jB q):(rN q).1.size<=20000/\jB (rN q).2:=by
 obtain ⟨L,b⟩:=q;refine⟨?_,MF h 1⟩;cases L with
 |nil=>exact l6 _
 |cons s L=>exact h.2 s List.mem_cons_self
theorem Sn(s):qA ((xR s).getD 0):=by
 rw[xR]
 split
 ·exact⟨H_,H_⟩
 next h7 =>
 split
 ·have:=MI (l:=s.data.toList) F_;show qA (UD _);exact⟨X,X⟩
 exact⟨H_,H_⟩
theorem tP{q}(h:jB q):qA (rU q).1/\jB (rU q).2:=⟨Sn _,MF h 1⟩
theorem VG{q}(h:jB q):((rL q).1.length<=20000/\∀x∈(rL q).1,x.size<=20000)/\jB (rL q).2:=by
 have d:=(tP h).2;obtain ⟨c,a⟩:=d;rw[rL]
 split
 ·exact⟨⟨l6 _,fun x b=>by cases b⟩,c,a⟩
 refine⟨⟨?_,fun x b=>a x (List.mem_of_mem_take b)⟩,MF ⟨c,a⟩ _⟩
 grind
theorem rn{q}(h:jB q):(qA (rZ q).1.idx/\((rZ q).1.sig.length<=20000/\∀x∈(rZ q).1.sig,x.size<=20000)/\((rZ q).1.path.length<=20000/\∀x∈(rZ q).1.path,x.size<=20000))/\jB (rZ q).2:=by have e:=tP h;have d:=VG e.2;have c:=VG d.2;exact⟨⟨e.1,d.1,c.1⟩,c.2⟩
theorem Gc{q}(h:q.1.length=0\/q.2=true):(rU q).2.2=true:=by
 rw[rU,rN]
 grind
theorem Ge:∀(k) (q),jB q->((RA k q).1.length<=q.1.length+1/\∀p∈(RA k q).1,qA p.1/\qA p.2)/\jB (RA k q).2
 |0,q,h=>⟨⟨l6 _,fun p b=>by cases b⟩,h⟩
 | k + 1, q, h => by
  rw[RA]
  split
  ·simp_all
  next hb =>
  have f:=tP h;have g:=tP f.2;have d:=Ge k _ g.2;refine⟨⟨?_,fun p b=>?_⟩,d.2⟩
  ·rw[j8];by_cases e:q.1.length=0
   ·have c:RA k (rU (rU q).2).2=([],(rU (rU q).2).2):=by
     cases k with
     |zero=>rfl
     |succ k=>rw[RA,b6 (Gc (.inr (Gc (.inl e))))]
    rw[c];exact Nat.le_add_left _ _
   have e1:(rU q).2.1.length=q.1.length - 1:=q6;have e2:(rU _).2.1.length=(rU q).2.1.length - 1:=q6;omega
  grind
theorem Gf{q}(h:jB q):((Nn q).1.length<=20000/\∀p∈(Nn q).1,qA p.1/\qA p.2)/\jB (Nn q).2:=by have a:=tP h;have b:=Ge (rU q).1.toNat _ a.2;have h3:=a.2.1;exact⟨⟨by rw[Nn];omega,b.1.2⟩,b.2⟩
theorem Xl{L}(h:jB (L,false)):((Nj L).1).size<=20000/\jB (Nj L).2:=wA h
theorem Ct{L}(h:jB (L,false)):qA (Wb L).1/\jB (Wb L).2:=tP (Xl h).2
theorem Co{L}(h:jB (L,false)):qA (Wa L).1/\jB (Wa L).2:=tP (Ct h).2
theorem Cm{L}(h:jB (L,false)):qA (Vz L).1/\jB (Vz L).2:=tP (Co h).2
theorem Cl{L}(h:jB (L,false)):qA (Vy L).1/\jB (Vy L).2:=tP (Cm h).2
theorem Ck{L}(h:jB (L,false)):((Vx L).1).size<=20000/\jB (Vx L).2:=wA (Cl h).2
theorem Cj{L}(h:jB (L,false)):((Od L).1.length<=20000/\∀x∈(Od L).1,x.size<=20000)/\jB (Od L).2:=VG (Ck h).2
theorem Ci{L}(h:jB (L,false)):((Ni L).1).size<=20000/\jB (Ni L).2:=wA (Cj h).2
theorem Ch{L}(h:jB (L,false)):((Vw L).1).size<=20000/\jB (Vw L).2:=wA (Ci h).2
theorem Xk{L}(h:jB (L,false)):((Vv L).1).size<=20000/\jB (Vv L).2:=wA (Ch h).2
theorem qb{L}(h:jB (L,false)):qA (Z7 L).1/\jB (Z7 L).2:=tP (Xk h).2
theorem qa{L}(h:jB (L,false)):((Z6 L).1).size<=20000/\jB (Z6 L).2:=wA (qb h).2
theorem pz{L}(h:jB (L,false)):(qA (N5 L).1.idx/\((N5 L).1.sig.length<=20000/\∀x∈(N5 L).1.sig,x.size<=20000)/\((N5 L).1.path.length<=20000/\∀x∈(N5 L).1.path,x.size<=20000))/\jB (N5 L).2:=rn (qa h).2
theorem py{L}(h:jB (L,false)):((Z5 L).1).size<=20000/\jB (Z5 L).2:=wA (pz h).2
theorem px{L}(h:jB (L,false)):((Z4 L).1).size<=20000/\jB (Z4 L).2:=wA (py h).2
theorem pw{L}(h:jB (L,false)):((XL L).1.length<=20000/\∀x∈(XL L).1,x.size<=20000)/\jB (XL L).2:=VG (px h).2
theorem pt{L}(h:jB (L,false)):((XK L).1.length<=20000/\∀p∈(XK L).1,qA p.1/\qA p.2)/\jB (XK L).2:=Gf (pw h).2
theorem Oe{L}(h:jB (L,false)):(qA (I0 L).1.idx/\((I0 L).1.sig.length<=20000/\∀x∈(I0 L).1.sig,x.size<=20000)/\((I0 L).1.path.length<=20000/\∀x∈(I0 L).1.path,x.size<=20000))/\jB (I0 L).2:=rn (pt h).2
theorem Fy{L}(h:jB (L,false)):mI (GX L)/\(GX L).parents.length<549755813888 :=Fv (j6 _) (Ct h).1 (Co h).1 (Cm h).1 (Cl h).1 (qb h).1 (Ck h).1 (Ch h).1 (qa h).1 (py h).1 (px h).1 (Cj h).1 (pw h).1 (pt h).1 (NL _) (RL _) (pz h).1 (Oe h).1
theorem Ef{t}{L}(c:t.length<=20000)(h:N8 t=some L):jB (L,false):=by obtain ⟨h1,a⟩:=Yc _ t L (j6 _) h;exact⟨G_,fun s b=>Nat.le_trans (a s b) c⟩
theorem OV(s)(L)(b):rN (s::L,b)=(s,(L,b)):=by simp[rN]
theorem ti:∀(l) (n v),decFrom n l=some v->l.foldl (fun n b=>10*n+(b.toNat:Int) - 48) n=v
 | [],n,v,h=>by
  obtain rfl:=Option.some.inj h;rfl
 | b::l,n,v,h=>by
  rw[decFrom]at h;cases e:digitVal b with
  |none=>simp_all
  | some d =>
   rw[e]at h;have a:(10*n+(b.toNat) - 48)=((n*10+d):Int):=by
    rw[digitVal]at e
    grind
   rw[List.foldl_cons,a];exact ti l _ v h
theorem yq{x}(h0:0<=x)(h1:x<10000000):xR (aQ x)=some x:=by obtain ⟨k,rfl⟩:∃k:Nat,x=k:=⟨x.toNat,X⟩;have a:=WH k;have hs:(aQ k).size<=7:=cU X H_;have c:UD _=k:=ti _ 0 k (mU k);have b:fw k=aQ k:=rfl;rw[xR,a8 X,a,c,b6 b]
theorem uN{x}(a:0<=x)(c:x<10000000)(L)(b):rU (aQ x::L,b)=(x,(L,b)):=by rw[rU,OV];rw[yq a c];simp
theorem OW{l}(h:l.length<10000000)(L)(b):rL (aQ (l.length)::(l++L),b)=(l,(L,b)):=by rw[rL,uN X X];rw[a8 G_,l8,List.take_left' Z,List.drop_left' rfl]
theorem rp{s}(d:0<=s.idx)(a:s.idx<10000000)(f:s.sig.length<10000000)(c:s.path.length<10000000)(L)(b):rZ (fI (.z s.idx s.sig s.path)++L,b)=(s,(L,b)):=by
 have e:fI (.z s.idx s.sig s.path)++L=aQ s.idx::(aQ (s.sig.length)::(s.sig++(aQ (s.path.length)::(s.path++L)))):=by simp[fI]
 rw[e,rZ,uN d a];rw[OW f];rw[OW c]
theorem ry:∀(ps) (L),(∀q∈ps,(0<=q.1/\q.1<10000000)/\(0<=q.2/\q.2<10000000))->RA ps.length (O0 ps++L,false)=(ps,(L,false))
 | [],L,_=>rfl
 |q::ps,L,h=>by
  obtain ⟨⟨a,b⟩,c,d⟩:=h q List.mem_cons_self;have e:O0 (q::ps)++L=aQ _::(aQ _::(O0 _++L)):=rfl;rw[j8,RA,a8 H_,e,uN a b];rw[uN c d];rw[ry _ L fun x f=>h x (List.mem_cons_of_mem _ f)]
theorem Gg{ps}(hl:ps.length<10000000)(h:∀q∈ps,(0<=q.1/\q.1<10000000)/\(0<=q.2/\q.2<10000000))(L):Nn (fI (.p ps)++L,false)=(ps,(L,false)):=by have e:fI (.p ps)++L=aQ _::(O0 _++L):=rfl;rw[e,Nn,uN X X];rw[l8,ry _ L h]
theorem kh{r:j7}(h:VF r):GX (jI r)=r/\(Nj (jI r)).1=GK/\(I0 (jI r)).2.2=false:=by
 have hk:=BK h.k;have hau:=h.au;have hnu:=h.nu;have hcl:=h.cl;have hod:=h.order;have hpl:=h.pal;have hso:=h.sol;have htl:=h.trl;have j:=kU h.sl;have k:=kU h.psl;have i1:=j.i0;have i2:=j.i1;have i3:=j.sl;have i4:=j.pl;have j1:=k.i0;have j2:=k.i1;have j3:=k.sl;have j4:=k.pl;have l:∀q∈r.priv.trace,(0<=q.1/\q.1<10000000)/\(0<=q.2/\q.2<10000000):=fun q z=>by have:=h.tr q z;omega
 have o:Nj (jI r)=(GK,(sf1 r,false)):=by rw[Nj,Mm];rfl
 have w:Wb (jI r)=(r.kind,(sf2 r,false)):=by rw[Wb,o];exact uN X X _ _
 have s:Wa (jI r)=(r.author,(sf3 r,false)):=by rw[Wa,w];exact uN X X _ _
 have x:Vz (jI r)=(r.number,(sf4 r,false)):=by rw[Vz,s];exact uN X X _ _
 have t:Vy (jI r)=(r.clock,(sf5 r,false)):=by rw[Vy,x];exact uN X X _ _
 have u:Vx (jI r)=(r.branch,(sf6 r,false)):=by rw[Vx,t];rfl
 have v:Od (jI r)=(r.parents,(sf7 r,false)):=by rw[Od,u];exact OW X _ _
 have m:Ni (jI r)=((jT r.edits).1,(sf8 r,false)):=by rw[Ni,v];rfl
 have p:Vw (jI r)=(r.target,(sf9 r,false)):=by rw[Vw,m];rfl
 have n:Vv (jI r)=(aQ (if r.yes then 1 else 0),(Fg r,false)):=by rw[Vv,p];rfl
 have c:Z7 (jI r)=(r.order,(Ff r,false)):=by rw[Z7,n];exact uN X X _ _
 have d:Z6 (jI r)=(r.from',(Fe r,false)):=by rw[Z6,c];exact OV _ _ _
 have f:N5 (jI r)=(r.sl,(Fc r,false)):=by rw[N5,d];exact rp X X X X _ _
 have g:Z5 (jI r)=(r.priv.name,(Fb r,false)):=by rw[Z5,f];exact OV _ _ _
 have a:Z4 (jI r)=(r.priv.reason,(Ez r,false)):=by rw[Z4,g];exact OV _ _ _
 have b:XL (jI r)=(r.priv.sources,(Ey r,false)):=by rw[XL,a];exact OW X _ _
 have e:XK (jI r)=(r.priv.trace,(Ex r,false)):=by rw[XK,b];exact Gg X l _
 have i:I0 (jI r)=(r.priv.sl,(Ew r,false)):=by rw[I0,e];exact rp X X X X _ _
 refine⟨?_,by rw[o],by rw[i]⟩;rw[GX,w,s,x,t,u,v,m,p,n,c,d,f,g,a,b,e,i,IL h.tx];have y:decide (aQ (if r.yes then 1 else 0)=BG)=r.yes:=Z8 r.yes;simp only[y]
theorem bj{r}{t}(h:mG r=(b7 t,0)):sW t=(r,0):=by
 have d:gV r=true:=by
  rw[mG]at h
  grind
 have c:=sF d;have f:t=aM (jI r)/\t.length<=20000:=by
  rw[mG,b6 d]at h
  split at h
  ·cases h
  next hl =>
  have:=congrArg (fun s=>s.data.toList) (congrArg Prod.fst h);simp[cO]at this;rw[<-this];exact⟨Z,X⟩
 have a:N8 t=some (jI r):=by
  rw[f.1];exact QE _ fun s g=>Nat.lt_of_le_of_lt (show s.size<=20000 from(List.mem_append.1 g).elim (JS c s) (XZ c s)) E_
 obtain ⟨e,r2,i⟩:=kh c;have b:¬ oy t (jI r):=by
  rw[oy,e,i]
  simp_all
 rw[sW,a8 X,a];dsimp only;rw[a8 b,e]
theorem SJ(t):sW t=dQ t:=by
 by_cases d:(dQ t).2=0
 ·rw[bj (JV d)];exact Prod.ext Z d.symm
 by_cases b:20000<t.length
 ·rw[sW,b6 b,dQ,b6 b]
 have c:dQ t=(zR,5):=by
  rw[dQ]at d |-
  grind
 rw[c,sW,a8 b];cases e:N8 t with
 |none=>rfl
 |some L =>
  dsimp only;by_cases a:oy t L
  ·rw[b6 a]
  have f:=Classical.byContradiction fun h=>a (.inr (.inr h));rw[RM f]at c;have g:=congrArg Prod.snd c;exact absurd g H_
theorem mn(s):(xR s).getD 0<=300000000:=by
 rw[xR]
 split
 ·decide
 next h7 =>
 split
 ·have:=MI (l:=s.data.toList) F_;show UD _<=_;omega
 decide
theorem Qv{q}(h:q.2=true):∀k,RA k q=([],q)
 |0=>rfl
 |k+1=>by rw[RA,b6 h]
theorem aA0:(iB a6).1=[]:=by kernel_rfl
theorem QT(t:List UInt8)(hts:t.length<1000000000)(H:aF):RC 25 [sv (b7 t)] (.tup [av (dR (sW t).1),iv (sW t).2]) H:=by
 refine Pu ?_;have hls:(b7 t).size=t.length:=cB t;have hsp:=fun H=>wz t hts H;refine Bd func25 Z ntmps25<|C (kl 2 Z2)<|O U<|S<|C V<|Y (gM U_)<|O iY<|Cn ?_ ?_<;>intro hc1
 ·have hb:20000<t.length:=by have:=b9 hc1;omega
  rw[show sW t=(zR,2)by rw[sW,b6 hb]];refine C (oO S3)<|Uu (iU aY)<|O U<|aC<|hU (H':=[]) (.inr Z) Z (eV Z cF aY Z Z Z (by simp only[Zl,S_];rfl) Z) (aJ Z) (Fin.wk (by simp[dR]) T_ T_) ?_;exact Qq
 have hb:¬ 20000<t.length:=by have:=b_ hc1;omega
 rw[Pn]at hsp;have hg:sW t=match N8 t with
  |none=>(zR,5)
  |some L=>if oy t L then(zR,5)else(GX L,0):=by rw[sW,a8 hb];all_goals rfl
 have hok:=fun L h=>Ef (t:=t) (L:=L) (by omega) h;rw[hg];clear hg;obtain ⟨o_,hO⟩:∃o_,o_=N8 t:=X_;rw[<-hO]at hsp hok |-;clear hO;rcases o_ with _|L
 ·have hsp:∀H,RC 62 [sv (b7 t)] (.tup [.pv (aK []),bv false]) H:=hsp;refine aA<|C V<|Y (kc call62 (hsp _))<|Y V<|Y dH<|Y dH<|Y U<|O U<|S<|C V<|O iT<|Cn ?_ ?_<;>intro hc2
  ·refine C (oO S3)<|Uu (iU aY)<|O U<|aC<|hU (H':=[]) (.inr Z) Z (eV Z cF aY Z Z Z (by simp only[Zl,S_];rfl) Z) (aJ Z) (Fin.wk (by simp[dR]) T_ T_) ?_;exact Qq
  cases hc2
 have hsp:∀H,RC 62 [sv (b7 t)] (.tup [.pv (aK L),bv true]) H:=hsp;have hS:=hok L Z;have W:=Fy hS;have hrf:=JU (Ni L).1;have s7:=(Ci hS).1;have hpc:=fun H=>bl (Ni L).1 H (by omega);have hbd:oy t L↔((I0 L).2.2=true\/(Nj L).1≠GK\/mG (GX L)≠(b7 t,0)):=Iff.rfl;rw[GX]at W hbd;have F:=fun H=>Qh _ W.1 hrf H;dsimp only;rw[GX];have lt40:∀q:RS,jB q->q.1.length<2^40:=fun q h=>by have:=h.1;omega
 have k0:=uP (L,false) (lt40 _ hS);have o0:=wA (q:=(L,false)) hS;have e0:Nj L=rN (L,false):=by rw[Nj]
 obtain ⟨⟨G,Q0⟩,h0⟩:∃p,p=rN (L,false):=X_;rw[<-h0]at k0 o0 e0;dsimp only at k0 o0;have k1:=oE Q0 (lt40 _ o0.2);have o1:=tP (q:=Q0) o0.2;have e1:Wb L=rU Q0:=by rw[Wb,e0]
 obtain ⟨⟨I,Q1⟩,h1⟩:∃p,p=rU Q0:=X_;rw[<-h1]at k1 o1 e1;dsimp only at k1 o1;have k2:=oE Q1 (lt40 _ o1.2);have o2:=tP (q:=Q1) o1.2;have e2:Wa L=rU Q1:=by rw[Wa,e1]
 obtain ⟨⟨e_,Q2⟩,h2⟩:∃p,p=rU Q1:=X_;rw[<-h2]at k2 o2 e2;dsimp only at k2 o2;have k3:=oE Q2 (lt40 _ o2.2);have o3:=tP (q:=Q2) o2.2;have e3:Vz L=rU Q2:=by rw[Vz,e2]
 obtain ⟨⟨c_,Q3⟩,h3⟩:∃p,p=rU Q2:=X_;rw[<-h3]at k3 o3 e3;dsimp only at k3 o3;have k4:=oE Q3 (lt40 _ o3.2);have o4:=tP (q:=Q3) o3.2;have e4:Vy L=rU Q3:=by rw[Vy,e3]
 obtain ⟨⟨K,Q4⟩,h4⟩:∃p,p=rU Q3:=X_;rw[<-h4]at k4 o4 e4;dsimp only at k4 o4;have k5:=uP Q4 (lt40 _ o4.2);have o5:=wA (q:=Q4) o4.2;have e5:Vx L=rN Q4:=by rw[Vx,e4]
 obtain ⟨⟨V5,Q5⟩,h5⟩:∃p,p=rN Q4:=X_;rw[<-h5]at k5 o5 e5;dsimp only at k5 o5;have k6:=O9 Q5 (lt40 _ o5.2);have o6:=VG (q:=Q5) o5.2;have e6:Od L=rL Q5:=by rw[Od,e5]
 obtain ⟨⟨V6,Q6⟩,h6⟩:∃p,p=rL Q5:=X_;rw[<-h6]at k6 o6 e6;dsimp only at k6 o6;have k7:=uP Q6 (lt40 _ o6.2);have o7:=wA (q:=Q6) o6.2;have e7:Ni L=rN Q6:=by rw[Ni,e6]
 obtain ⟨⟨y_,Q7⟩,h7⟩:∃p,p=rN Q6:=X_;rw[<-h7]at k7 o7 e7;dsimp only at k7 o7;have k8:=uP Q7 (lt40 _ o7.2);have o8:=wA (q:=Q7) o7.2;have e8:Vw L=rN Q7:=by rw[Vw,e7]
 obtain ⟨⟨V8,Q8⟩,h8⟩:∃p,p=rN Q7:=X_;rw[<-h8]at k8 o8 e8;dsimp only at k8 o8;have k9:=uP Q8 (lt40 _ o8.2);have o9:=wA (q:=Q8) o8.2;have e9:Vv L=rN Q8:=by rw[Vv,e8]
 obtain ⟨⟨V9,Q9⟩,h9⟩:∃p,p=rN Q8:=X_;rw[<-h9]at k9 o9 e9;dsimp only at k9 o9;have k10:=oE Q9 (lt40 _ o9.2);have o10:=tP (q:=Q9) o9.2;have P:Z7 L=rU Q9:=by rw[Z7,e9]
 obtain ⟨⟨V10,Q10⟩,h10⟩:∃p,p=rU Q9:=X_;rw[<-h10]at k10 o10 P;dsimp only at k10 o10;have k11:=uP Q10 (lt40 _ o10.2);have o11:=wA (q:=Q10) o10.2;have Q:Z6 L=rN Q10:=by rw[Z6,P]
 obtain ⟨⟨n,D⟩,h11⟩:∃p,p=rN Q10:=X_;rw[<-h11]at k11 o11 Q;dsimp only at k11 o11;have k12:=rh D (lt40 _ o11.2);have o12:=rn (q:=D) o11.2;have R:N5 L=rZ D:=by rw[N5,Q]
 obtain ⟨⟨V12,E⟩,h12⟩:∃p,p=rZ D:=X_;rw[<-h12]at k12 o12 R;dsimp only at k12 o12;have k13:=uP E (lt40 _ o12.2);have o13:=wA (q:=E) o12.2;have e13:Z5 L=rN E:=by rw[Z5,R]
 obtain ⟨⟨z,f_⟩,h13⟩:∃p,p=rN E:=X_;rw[<-h13]at k13 o13 e13;dsimp only at k13 o13;have k14:=uP f_ (lt40 _ o13.2);have v_:=wA (q:=f_) o13.2;have z_:Z4 L=rN f_:=by rw[Z4,e13]
 obtain ⟨⟨u,u_⟩,h14⟩:∃p,p=rN f_:=X_;rw[<-h14]at k14 v_ z_;dsimp only at k14 v_;have k15:=O9 u_ (lt40 _ v_.2);have d_:=VG (q:=u_) v_.2;have e15:XL L=rL u_:=by rw[XL,z_]
 obtain ⟨⟨w,Q15⟩,h15⟩:∃p,p=rL u_:=X_;rw[<-h15]at k15 d_ e15;dsimp only at k15 d_;have k16:=oE Q15 (lt40 _ d_.2);have u16:=tP d_.2;have b16:=mn (rN Q15).1;have B:Nn Q15=RA (rU Q15).1.toNat (rU Q15).2:=rfl;have b16:(rU Q15).1<=300000000:=b16;obtain ⟨⟨N,QN⟩,hN⟩:∃p,p=rU Q15:=X_;rw[<-hN]at k16 u16 b16 B;dsimp only at k16 u16 b16 B;have o16:=Gf (q:=Q15) d_.2;have T:XK L=Nn Q15:=by rw[XK,e15]
 obtain ⟨⟨s,l⟩,h16⟩:∃p,p=Nn Q15:=X_;rw[<-h16]at B o16 T;dsimp only at B o16;have k17:=rh l (lt40 _ o16.2);have o17:=rn (q:=l) o16.2;have e17:I0 L=rZ l:=by rw[I0,T]
 obtain ⟨⟨V17,Q17⟩,h17⟩:∃p,p=rZ l:=X_;rw[<-h17]at k17 o17 e17;dsimp only at k17 o17;simp only[e0,e1,e2,e3,e4,e5,e6,e7,e8,e9,P,Q,R,e13,z_,e15,T,e17]at W hrf s7 hpc hbd F |-;clear W hS hok hrf h0 h1 h2 h3 h4 h5 h6 h7 h8 h9 h10 h11 h12 h13 h14 h15 h16 h17 e0 e1 e2 e3 e4 e5 e6 e7 e8 e9 P Q R e13 z_ e15 T e17;have hpn:y_=a6->(iB y_).1=[]:=fun h=>by rw[h];exact aA0
 obtain ⟨PE,hPE⟩:∃v,v=iB y_:=X_;rw[<-hPE]at hpc F hbd hpn |-;clear hPE;obtain ⟨ED,EE⟩:=PE;dsimp only at hpc F hbd hpn |-;obtain ⟨TX,hTX⟩:∃v,v=mG ⟨I,e_,c_,K,V5,V6,ED,V8,decide (V9=BG),V10,n,V12,⟨z,u,w,s,V17⟩⟩:=X_;rw[<-hTX]at F hbd;clear hTX;rw[show GK=⟨#[114,101,99,111,114,100]⟩from rfl]at hbd;refine aA<|C V<|Y (kc call62 (hsp _))<|Y V<|Y dH<|Y dH<|Y U<|O U<|S<|C V<|O iT<|Cn ?_ ?_<;>intro hc3
 ·cases hc3
 refine aA<|C V<|Y (oO aEE)<|Y (kb 980)<|O U<|Sz (kl 7 aBI)<|C V<|Y (kc qT (k0 _ Z))<|O U<|C V<|Y (kc qS (k1 _ Z))<|Y (bD oJ)<|Uu (ku sizeOf3)<|Zz<|C V<|Y (kc qS (k2 _ Z))<|Y (bD EZ)<|Uu (ku sizeOf3)<|Zz<|C V<|Y (kc qS (k3 _ Z))<|Y (bD AH)<|Uu (ku sizeOf3)<|Zz<|C V<|Y (kc qS (k4 _ Z))<|Y (bD EY)<|Uu (ku sizeOf3)<|Zz<|S ?_;refine fZ.ent (E':=[(0,sv (b7 t)),(2,.ref 2 0 0 0),(6,rr),(7,.ref 7 0 0 0),(8,sv G)]) (H':=[(980,sc Q4),(7,bx 21 53 [iv I,iv e_,iv c_,iv K,sv a6,.pv .nils,.pv .nils,sv a6,bv false,iv 0,sv a6,iv 0,.pv .nils,.pv .nils,sv a6,sv a6,.pv .nils,.pv .nils,iv 0,.pv .nils,.pv .nils]),(2,bx 21 53 ((dR zR).map .pv))]) Wk<|Rd V<|Y (kc qT (k5 _ Z))<|Y (bD C1)<|Uu (by exact cQ Z V_ Z Z Z Z Z Z (by simp only[j8,List.length_nil];omega) (by simp only[Zl,S_];rfl) (by simp only[Zl,S_];rfl))<|Zz<|C V<|Y (kc Nr (k6 _ Z))<|Y (bD oI)<|Uu (by exact cQ Z sizeOf22 Z Z Z Z Z Z (by simp only[j8,List.length_nil];omega) (by simp only[Zl,S_];rfl) (by simp only[Zl,S_];rfl))<|Zz<|S ?_;refine fZ.ent (E':=[(0,sv (b7 t)),(2,.ref 2 0 0 0),(6,rr),(7,.ref 7 0 0 0),(8,sv G)]) (H':=[(980,sc Q6),(7,bx 21 53 [iv I,iv e_,iv c_,iv K,sv V5,.pv (aK V6),.pv .nils,sv a6,bv false,iv 0,sv a6,iv 0,.pv .nils,.pv .nils,sv a6,sv a6,.pv .nils,.pv .nils,iv 0,.pv .nils,.pv .nils]),(2,bx 21 53 ((dR zR).map .pv))]) Wk<|Rd V<|Y (kc qT (k7 _ Z))<|O U<|C V<|Y (kc qT (k8 _ Z))<|Y (bD CZ)<|Uu (by exact cQ Z V_ Z Z Z Z Z Z (by simp only[j8,List.length_nil];omega) (by simp only[Zl,S_];rfl) (by simp only[Zl,S_];rfl))<|Zz<|C V<|Y (kc qT (k9 _ Z))<|Y wF<|Y (bD IH)<|Uu (by exact cQ Z sizeOf4 Z Z Z Z Z Z (by simp only[j8,List.length_nil];omega) (by simp only[Zl,S_];rfl) (by simp only[Zl,S_];rfl))<|Zz<|C V<|Y (kc qS (k10 _ Z))<|Y (bD yC)<|Uu (by exact cQ Z sizeOf3 Z Z Z Z Z Z (by simp only[j8,List.length_nil];omega) (by simp only[Zl,S_];rfl) (by simp only[Zl,S_];rfl)) ?_;refine Zz<|C V<|Y (kc qT (k11 _ Z))<|Y (bD wR)<|Uu (by exact cQ Z V_ Z Z Z Z Z Z (by simp only[j8,List.length_nil];omega) (by simp only[Zl,S_];rfl) (by simp only[Zl,S_];rfl))<|Zz<|S ?_;refine fZ.ent (E':=[(0,sv (b7 t)),(2,.ref 2 0 0 0),(6,rr),(7,.ref 7 0 0 0),(8,sv G),(9,sv y_)]) (H':=[(980,sc D),(7,bx 21 53 [iv I,iv e_,iv c_,iv K,sv V5,.pv (aK V6),.pv .nils,sv V8,bv (decide (V9=BG)),iv V10,sv n,iv 0,.pv .nils,.pv .nils,sv a6,sv a6,.pv .nils,.pv .nils,iv 0,.pv .nils,.pv .nils]),(2,bx 21 53 ((dR zR).map .pv))]) Wk<|Rd V<|Y (kc call66 (k12 _ Z))<|Y (bD zL)<|Uu (by exact qL Z sizeOf48 Z Z Z Z Z Z Z (by simp only[j8,List.length_nil];omega) (by simp only[Zl,S_];rfl) (by simp only[Zl,S_];rfl))<|Zz<|S ?_
 refine fZ.ent (E':=[(0,sv (b7 t)),(2,.ref 2 0 0 0),(6,rr),(7,.ref 7 0 0 0),(8,sv G),(9,sv y_)]) (H':=[(980,sc E),(7,bx 21 53 [iv I,iv e_,iv c_,iv K,sv V5,.pv (aK V6),.pv .nils,sv V8,bv (decide (V9=BG)),iv V10,sv n,iv V12.idx,.pv (aK V12.sig),.pv (aK V12.path),sv a6,sv a6,.pv .nils,.pv .nils,iv 0,.pv .nils,.pv .nils]),(2,bx 21 53 ((dR zR).map .pv))]) Wk<|Rd V<|Y (kc qT (k13 _ Z))<|Y (bD iC)<|Y (bD IJ)<|Uu (by exact cQ Z V_ Z Z Z Z Z Z (by simp only[j8,List.length_nil];omega) (by simp only[Zl,S_];rfl) (by simp only[Zl,S_];rfl))<|Zz<|C V<|Y (kc qT (k14 _ Z))<|Y (bD iC)<|Y (bD II)<|Uu (by exact cQ Z V_ Z Z Z Z Z Z (by simp only[j8,List.length_nil];omega) (by simp only[Zl,S_];rfl) (by simp only[Zl,S_];rfl))<|Zz<|C V<|Y (kc Nr (k15 _ Z))<|Y (bD iC)<|Y (bD yD)<|Uu (by exact cQ Z sizeOf22 Z Z Z Z Z Z (by simp only[j8,List.length_nil];omega) (by simp only[Zl,S_];rfl) (by simp only[Zl,S_];rfl)) ?_;refine Zz<|S ?_;refine fZ.ent (E':=[(0,sv (b7 t)),(2,.ref 2 0 0 0),(6,rr),(7,.ref 7 0 0 0),(8,sv G),(9,sv y_)]) (H':=[(980,sc Q15),(7,bx 21 53 [iv I,iv e_,iv c_,iv K,sv V5,.pv (aK V6),.pv .nils,sv V8,bv (decide (V9=BG)),iv V10,sv n,iv V12.idx,.pv (aK V12.sig),.pv (aK V12.path),sv z,sv u,.pv (aK w),.pv .nils,iv 0,.pv .nils,.pv .nils]),(2,bx 21 53 ((dR zR).map .pv))]) Wk<|Rd V<|Y (kc qS (k16 _ Z))<|O U<|S<|S ?_;refine fZ.ent (E':=[(0,sv (b7 t)),(2,.ref 2 0 0 0),(6,rr),(7,.ref 7 0 0 0),(8,sv G),(9,sv y_),(10,iv N)]) (H':=(905,⟨0,2,104,[]⟩)::(7,bx 21 53 [iv I,iv e_,iv c_,iv K,sv V5,.pv (aK V6),.pv (jZ []),sv V8,bv (decide (V9=BG)),iv V10,sv n,iv V12.idx,.pv (aK V12.sig),.pv (aK V12.path),sv z,sv u,.pv (aK w),.osl 905 (0) 0 (0),iv 0,.pv (aK []),.pv (aK [])])::(980,sc QN)::(2,bx 21 53 ((dR zR).map .pv))::[]) ?_ ?_
 ·exact(cJ.nz 905 2 104 Z Z ⟨⟨_,Z,(by exact Nz.same (by(simp;done)))⟩,⟨_,Z,(by exact Nz.same (by(simp;rfl)))⟩,⟨_,Z,(by exact Nz.same (by(simp;rfl)))⟩,⟨_,Z,(by exact Nz.same (by(simp;rfl)))⟩,⟨_,Z,(by exact Nz.same (by(simp;done)))⟩,⟨_,Z,(by exact Nz.same (by(simp;done)))⟩,⟨_,Z,(by exact Nz.same (by(simp;done)))⟩,T_⟩ ⟨⟨_,Z,Z,Z,Z,(by exact .inr ⟨_,_,rfl,rfl,(by repeat(first|exact trivial|refine⟨(by first|exact Nz.own|exact Nz.weak|exact Nz.same (by(simp;done))),?_⟩))⟩)⟩,⟨_,Z,Z,Z,Z,(by exact .inl ⟨Z,(by(simp;done))⟩)⟩,⟨_,Z,Z,Z,Z,(by exact .inl ⟨Z,(by(simp;done))⟩)⟩,T_⟩ T_)
 refine Rg<|O U<|aD<|fR (fun(A:List (Int×Int)) (q:RS)=>([(0,sv (b7 t)),(2,.ref 2 0 0 0),(6,rr),(7,.ref 7 0 0 0),(8,sv G),(9,sv y_),(10,iv N),(11,iv (A.length:Int))],[(905,⟨A.length,2,104,vQ A⟩),(7,bx 21 53 [iv I,iv e_,iv c_,iv K,sv V5,.pv (aK V6),.pv (jZ []),sv V8,bv (decide (V9=BG)),iv V10,sv n,iv V12.idx,.pv (aK V12.sig),.pv (aK V12.path),sv z,sv u,.pv (aK w),.osl 905 (A.length) 0 (A.length),iv 0,.pv (aK []),.pv (aK [])]),(980,sc q),(2,bx 21 53 ((dR zR).map .pv))])) (fun A q=>jB q/\A.length<=N.toNat/\(s,l)=(A++(RA (N.toNat - A.length) q).1,(RA (N.toNat - A.length) q).2)) (fun A q=>N.toNat - A.length) [] QN ⟨u16.2,l6 _,by rw[B];rfl⟩ ?_ ?_
 ·exact(cJ.wk (Eb<|Ea<|Ea<|Ea<|Eb<|Eb<|Eb<|Eb<|T_) (Hc (CJ _ _)<|Ha<|Hb<|Hb<|T_) T_)
 rintro A q ⟨hq,hA,hR⟩;have m1:=oE q (lt40 _ hq);have p1:=tP hq;have m2:=oE (rU q).2 (lt40 _ p1.2);have p2:=tP p1.2;have hstep:q.2=false->∀m,RA (m+1) q=(((rU q).1,(rU (rU q).2).1)::(RA m (rU (rU q).2).2).1,(RA m (rU (rU q).2).2).2):=fun h m=>by rw[RA,a8 (by rw[h];decide)]
 obtain ⟨⟨x,q1⟩,hx⟩:∃p,p=rU q:=X_;rw[<-hx]at m1 m2 p1 p2 hstep;dsimp only at m1 m2 p1 p2 hstep;obtain ⟨⟨y,q2⟩,hy⟩:∃p,p=rU q1:=X_;rw[<-hy]at m2 p2 hstep;dsimp only at m2 p2 hstep;clear hx hy;refine S<|S<|aR (t:=91) (n:=11) (A_:=decide ((A.length:Int)<N)&&!q.2) ?_ ?_
 ·all_goals refine Y V<|Y V<|Y cM<|Dm ?_<;>(refine Sp 85 (fun h85=>?_) fun h85=>?_)<;>(first|contradiction|refine M<|M<|M<|M<|M ?_|refine J V<|J sC<|J (bD MW)<|J (bS nD)<|J iT ?_)<;>refine O cE ?_<;>exact Gj (h:=by(simp only[*,Zo];done))
 refine Cn ?_ ?_<;>intro hc4
 ·have o:=hc4;rw[j0,r8,k_]at o;have A_:(A++[(x,y)]).length=A.length+1:=by rw[j9];rfl
  have hR2:(s,l)=((A++[(x,y)])++(RA (N.toNat - (A.length+1)) q2).1,(RA (N.toNat - (A.length+1)) q2).2):=by
   rw[hR,show N.toNat - A.length=(N.toNat - (A.length+1))+1 by omega,hstep o.2];simp
  refine aA<|S<|aD<|Sz (kl 12 Cf)<|C V<|Y (kc qS (m1 _ Z))<|Y (bD mO)<|Uu (ku sizeOf3)<|Zz<|C V<|Y (kc qS (m2 _ Z))<|Y (bD mN)<|Uu (ku sizeOf3)<|Zz<|Rd (bD iC)<|Y (bD sX)<|Y (bS jS)<|Y (vC eB sizeOf104)<|Y (by exact aL [jW (x,y)] Z TU Z Z Z Z Z R_)<|Y (by exact cA (ob:=⟨A.length,2,104,vQ A⟩) (k:=A.length+1) (ps:=[jW (x,y)]) Z TU Wt Z Z Z Z Z (RH _) Z R_ (m:=1) Z (by omega) Z (rows':=vQ (A++[(x,y)])) (RI A (x,y))) ?_;refine Y (bD iC)<|Y (bD sX)<|Uu (by exact cQ Z sizeOf49 Z Z Z Z Z Z (by simp only[j8,List.length_nil];omega) (by simp only[Zl,S_];rfl) (by simp only[Zl,S_];rfl))<|Zz<|Rd V<|Y kp<|Da ?_;refine⟨A++[(x,y)],q2,⟨p2.2,by rw[A_];omega,by rw[A_];exact hR2⟩,by rw[A_];omega,?_⟩;rw[A_];exact(cJ.wk (Eb<|Ea<|Ea<|Ea<|Eb<|Eb<|Eb<|Eb<|T_) (Hc (CJ _ _)<|Ha<|Hb<|Hb<|T_) T_)
 have o:=hc4;have hend:(s,l)=(A,q):=by
  rw[Bool.and_eq_false_iff,p_,Bool.not_eq_false']at o;rcases o with h|h
  ·rw[hR,show N.toNat - A.length=0 by omega,RA,List.append_nil]
  rw[hR,Qv h,List.append_nil]
 obtain ⟨rfl,rfl⟩:=Prod.mk.inj hend;clear hR hstep m1 m2 hend;refine fZ.ent (cJ.fzG (id:=905) (E':=[(0,sv (b7 t)),(2,.ref 2 0 0 0),(6,rr),(7,.ref 7 0 0 0),(8,sv G),(9,sv y_)]) (H':=[(7,bx 21 53 ((dR ⟨I,e_,c_,K,V5,V6,[],V8,decide (V9=BG),V10,n,V12,⟨z,u,w,s,zS⟩⟩).map .pv)),(980,sc l),(2,bx 21 53 ((dR zR).map .pv))]) (s.map jW) Z Z ?_ Z ?_ ?_) ?_
 ·intro p hp;simp only[l7,n_,or_false]at hp;rcases hp with rfl|rfl|rfl|rfl|rfl|rfl
  ·exact⟨_,Z,.same (by(simp;done))⟩
  ·exact⟨_,Z,.same (by(simp;rfl))⟩
  ·exact⟨_,Z,.same (by(simp;rfl))⟩
  ·exact⟨_,Z,.same (by(simp;rfl))⟩
  ·exact⟨_,Z,.same (by(simp;done))⟩
  exact⟨_,Z,.same (by(simp;done))⟩
 ·exact⟨⟨_,Z,Z,Z,Z,lW Z (bG (.same (by simp)) (bG (.same (by simp)) (bG (.same (by simp)) (bG (.same (by simp)) (bG (.same (by simp)) (bG (.same (by simp)) (bG (.same (by simp)) (bG (.same (by simp)) (bG (.same (by simp)) (bG (.same (by simp)) (bG (.same (by simp)) (bG (.same (by simp)) (bG (.same (by simp)) (bG (.same (by simp)) (bG (.same (by simp)) (bG (.same (by simp)) (bG (.same (by simp)) (bG (.osl (iH jW _)) (bG (.same (by simp)) (bG (.same (by simp)) (bG (.same (by simp)) kT)))))))))))))))))))))⟩,⟨_,Z,Z,Z,Z,eG (sb _ _)⟩,⟨_,Z,Z,Z,Z,eG (by simp[bx,dR])⟩,T_⟩
 ·exact T_
 refine aP<|C V<|Y (kc call66 (k17 _ Z))<|Y (bD iC)<|Y (bD E4)<|Uu (by exact qL Z sizeOf48 Z Z Z Z Z Z Z (r9 Z) Z Z)<|Zz<|eN (fun(_:Unit)=>([(0,sv (b7 t)),(2,.ref 2 0 0 0),(6,rr),(7,.ref 7 0 0 0),(8,sv G)],[(980,sc Q17),(7,bx 21 53 ((dR ⟨I,e_,c_,K,V5,V6,ED,V8,decide (V9=BG),V10,n,V12,⟨z,u,w,s,V17⟩⟩).map .pv)),(2,bx 21 53 ((dR zR).map .pv))])) (fun _=>True) ?_ ?_
 ·refine C V<|O GU<|Cn ?_ ?_<;>intro hc5
  ·refine Rd V<|Y (kc call67 (hpc _))<|Y V<|Y dH<|Y dH<|Y (bD C0)<|Uu (ku sizeOf46)<|Zz ?_;exact⟨(),T_,Wk⟩
  have hn:=hc5;rw[hpn (by rw[Bool.not_eq_false']at hn;exact b9 hn)];refine aA ?_;exact⟨(),T_,Wk⟩
 rintro _ -;refine C (vC cF aY)<|Y (kc call68 (F _))<|Y V<|Y dH<|Y dH<|Y U<|O U<|S<|S<|aR (t:=141) (n:=20) (A_:=((Q17.2||!decide (G=⟨#[114,101,99,111,114,100]⟩))||!decide (TX.2=0))||!decide (TX.1=b7 t)) ?_ ?_
 ·all_goals refine Y V<|Y sC<|Y (bD MW)<|Y (bS nD)<|Dm ?_<;>(refine Sp 129 (fun h129=>?_) fun h129=>?_)<;>(first|contradiction|refine M<|M ?_|refine J V<|J GU ?_)<;>refine Y cE<|Dm ?_<;>(refine Sp 133 (fun h133=>?_) fun h133=>?_)<;>(first|contradiction|refine M<|M ?_|refine J V<|J AY ?_)<;>refine Y cE<|Dm ?_<;>(refine Sp 137 (fun h137=>?_) fun h137=>?_)<;>(first|contradiction|refine M<|M<|M ?_|refine J V<|J V<|J GU ?_)<;>refine O cE ?_<;>exact Gj (h:=by(simp only[*,Zo];done))
 refine Cn ?_ ?_<;>intro hc6
 ·have o:=hc6;rw[b6 (hbd.2 (by
   simp only[Bool.or_eq_true,r8,p_]at o;rcases o with((h|h)|h)|h
   ·exact .inl h
   ·exact .inr (.inl h)
   ·exact .inr (.inr fun e=>h (by rw[e]))
   exact .inr (.inr fun e=>h (by rw[e]))))]
  refine C (oO S3)<|Uu (iU aY)<|O U<|aC<|hU (H':=[]) (.inr Z) Z (eV Z cF aY Z Z Z (by simp only[Zl,S_];rfl) Z) (aJ Z) (Fin.wk (by simp[dR]) T_ T_) ?_;exact Qq
 have o:=hc6;rw[a8 (fun h=>by
  simp only[q9,Bool.not_eq_false',k_]at o;rcases hbd.1 h with h|h|h
  ·rw[h]at o;cases o.1.1.1
  ·exact h o.1.1.2
  exact h (Prod.ext o.2 o.1.2))]
 refine aA<|C (vC cF aY)<|Uu (iU aY)<|O U<|aC<|hU (H':=[]) (.inr Z) Z (eV Z cF aY Z Z Z (by simp only[Zl,S_];rfl) Z) (aJ Z) (Fin.wk (by simp[dR,lE,wT]) T_ T_) ?_;exact Qq
theorem NM{t}(h:(dQ t).2=0):∀e∈(dQ t).1.edits,e.refs.length<2^40:=by have a:=sF (PY (by rw[JV h]));rw[<-IL a.tx];exact JU _
def nI:Nat->Int
 |0 => -1
 |n+1=>(n:Int)
theorem O8(m:Nat)(h:m<2^40):IntKind.i64.wrap ((m:Int) - 1)=nI m:=by
 rw[qD X X];cases m with
 |zero=>rfl
 |succ m=>show ((m+1:Nat):Int) - 1=(m:Int);omega
def mV(l:List B_)(n:Nat):List B_:=(l.drop n).reverse.flatMap fun t=>[t,t]
theorem GC(l:List B_)(n:Nat):(mV l n).length=2*(l.length - n):=by
 have h:∀(l:List B_),(l.flatMap fun t=>[t,t]).length=2*l.length:=by
  intro l
  induction l with
  |nil=>rfl
  |cons a l c=>rw[List.flatMap_cons,j9,c,j8];simp only[j8,List.length_nil];omega
 rw[mV,h,List.length_reverse,q6]
theorem S6{m:Nat}(h:l[m]?=some t):mV l m=mV l (m+1)++[t,t]:=by
 have a:=(m_.1 h).1;have e:l.drop m=t::l.drop (m+1):=by rw[List.drop_eq_getElem_cons a,(m_.1 h).2]
 rw[mV,e,List.reverse_cons,List.flatMap_append];rfl
theorem XA(l):mV l l.length=[]:=by rw[mV,List.drop_length];rfl
theorem W9(l)(t):t∈mV l 0↔t∈l:=by
 rw[mV,List.drop_zero]
 simp_all
def R2(m:Int)(s:B_):Bool:=decide ((s.size:Int)<=m)
def ff(l:List B_)(m:Int):Bool:=l.all (R2 m)&&decide (((l.map S_).length:Int)<=30)
theorem Kk(l:List B_)(m:Int)(H:aF)(hl:df l):RC 11 [.pv (aK l),iv m] (bv (ff l m)) H:=by
 refine Pu ?_;obtain ⟨hl1,hl2⟩:=hl;have hml:(l.map S_).length=l.length:=h_ _;have hX:ff l m=(l.all (R2 m)&&decide (((l.map S_).length:Int)<=30)):=rfl;refine Bd func11 Z ntmps11<|Sz U<|S<|Sz U<|aD<|bC (σ:=Nat) (fun k=>([(0,.pv (aK l)),(1,iv m),(5,iv (k:Int))],[])) (fun k=>k<=l.length/\∀j,j<k->∀b,l[j]?=some b->R2 m b=true) (fun k=>l.length - k) 0 ⟨X,X⟩ ?_ ?_
 ·exact Wk
 rintro k ⟨hk,hno⟩;refine S<|C V<|Y V<|Y (fV aE)<|O cM<|Cn ?_ ?_<;>intro hc1
 ·have hlt:k<l.length:=by have:=b9 hc1;omega
  obtain ⟨s,hs⟩:=aU hlt;have hi:=cC (f:=S_) hs;have hsz:=hl2 s (m7 hs);have hnot:=fun h=>PN (p:=R2 m) hs h;refine aA<|S<|aD<|C V<|Y V<|Y (kx bH hi)<|Y (fY N_ (hi:=hi))<|Y (gM U_)<|Y V<|O iY<|Cn ?_ ?_<;>intro hc2
  ·have hb:R2 m s=false:=decide_eq_false (I_ hc2);rw[hX,hnot hb];exact Sz U<|aC<|Rt<|Qq
  have hb:R2 m s=true:=decide_eq_true (J_ hc2);refine aA<|Rd V<|Y kp<|Da ?_;exact⟨k+1,⟨X,FK hno hs hb⟩,X,Wk⟩
 have hge:k=l.length:=by have:=b_ hc1;omega
 subst hge;rw[hX,K5 hno];exact aP<|C V<|Y (fV aE)<|Y IA<|O U<|aC<|Rt<|Qq
theorem Vk(L:List B_)(t:B_)(hl:L.length<1000000)(ht:t.size<=1000000):(wV L t).length<1000000000:=by
 have hS:=Jq hl;obtain ⟨o1,o2⟩:=VT t;have h0:RepOk (mE L) 0 ⟨(zT t).foldl (mH (mE L)) [],[],[]⟩:=⟨pH.fold _ _ ⟨List.nodup_nil,(fun i hi=>by cases hi)⟩,j6 _,j6 _,(fun w hw=>by cases hw),(fun w hw=>by cases hw)⟩;have h:∀(P:List m6) (n:Nat) (r:GRep),(∀p∈P,GoodP p)->RepOk (mE L) n r->RepOk (mE L) (n+P.length) (P.foldl (wU (mE L)) r):=by
  intro P
  induction P with
  |nil=>exact fun n r _ h=>h
  |cons p P ih =>
   intro n r hP h;rw[List.foldl_cons,j8,show n+(P.length+1)=n+1+P.length by omega];exact ih (n+1) _ (fun q hq=>hP q (List.mem_cons_of_mem _ hq)) (h.step hS (hP p List.mem_cons_self))
 have hr:=h (yT t) 0 _ o2 h0;rw[r7]at hr;have h1:=hr.sent.len;have h2:=hr.wl;have h3:=hr.ol;have h4:=hS.len;have hw1:=O1 pT (DQ (mE L) t).wants;have ho1:=O1 AA (DQ (mE L) t).offers;have e:DQ (mE L) t=(yT t).foldl (wU (mE L)) ⟨(zT t).foldl (mH (mE L)) [],[],[]⟩:=rfl;rw[<-e]at h1 h2 h3;rw[wV,j9,j9,h_];omega
theorem zo(h:ff l 100=true):l.length<=30/\∀s∈l,s.size<=100:=by rw[ff,j0,k_,h_]at h;refine⟨X,fun s hs=>?_⟩;have:=List.all_eq_true.1 h.1 s hs;rw[R2,k_]at this;omega
def AM(x y:B_):Bool:=match yQ x,yQ y with
 |some i,some j=>decide (i=j)&&!decide (x=y)
 |_,_=>false
theorem gh{x y i:B_}(h:AM x y=false)(hx:yQ x=some i)(hy:yQ y=some i):x=y:=by
 rw[AM,hx,hy]at h
 simpa using h
theorem Jr(h:(dQ t.data.toList).2=0):yQ t=some (G9 (dQ t.data.toList).1):=by rw[yQ,b6 h]
theorem Js(h:¬ (dQ t.data.toList).2=0):yQ t=none:=by rw[yQ,a8 h]
abbrev rOW(x:j7):Ob:=bx 21 53 ((dR x).map .pv)
theorem al(L I:List B_)(t:B_)(H:aF)(hl:L.length<=1048576)(hs:∀s∈L,s.size<=1048576)(hil:I.length<=1048576)(his:∀s∈I,s.size<=1048576)(ht:t.size<=1048576):
  RC 8 [.pv (aK L),.pv (aK I),sv t] (bv true) H:=by
 refine Pu ?_;have hfe:=fun H=>aCi L 40 H hl hs;have hyes:=Kj (l:=L);have hf1:=fun H=>Kk I 100 H ⟨X,fun s h=>by have:=his s h;omega⟩;have hy1:=zo (l:=I);obtain ⟨f,hf⟩:∃f,f=zn L 40:=X_;obtain ⟨e,he⟩:∃e,e=ff I 100:=X_;rw[<-hf]at hfe hyes;rw[<-he]at hf1 hy1;clear hf he;obtain ⟨A_,hX⟩:∃A_,A_=(((!f||decide ((21000:Int)<(t.size:Int)))||decide ((300:Int)<((I.map S_).length:Int)))||!e):=X_;refine Bd func8 Z ntmps8<|Sz U<|C (kc call9 (aAY _))<|O U<|S<|S<|aR (t:=44) (n:=21) (A_:=A_) ?_ ?_
 ·all_goals refine Y V<|Y (kc call10 (hfe _))<|Y iT<|Dm ?_<;>(refine Sp 30 (fun h30=>?_) fun h30=>?_)<;>(try(with_reducible contradiction))<;>(first|refine M<|M<|M ?_|refine J V<|J (gM U_)<|J iY ?_)<;>refine Y cE<|Dm ?_<;>(refine Sp 35 (fun h35=>?_) fun h35=>?_)<;>(try(with_reducible contradiction))<;>(first|refine M<|M<|M ?_|refine J V<|J (fV aE)<|J iY ?_)<;>refine Y cE<|Dm ?_<;>(refine Sp 40 (fun h40=>?_) fun h40=>?_)<;>(try(with_reducible contradiction))<;>(first|refine M<|M<|M ?_|refine J V<|J (kc call11 (hf1 _))<|J iT ?_)<;>refine O cE ?_<;>exact Gj (h:=by rw[hX];first|(rw[h30];rfl)|(rw[h30,h35];rfl)|(rw[h30,h35,h40];rfl))
 refine Cn ?_ ?_<;>intro hc1
 ·exact C V<|O U<|aC<|Rt<|Qq
 have hXf:=hX.symm.trans hc1;rw[q9,q9,q9,Bool.not_eq_false',Bool.not_eq_false',p_,p_]at hXf;obtain ⟨⟨⟨x1,x2⟩,x3⟩,x4⟩:=hXf;obtain ⟨h40,hsz⟩:=hyes x1;obtain ⟨i30,isz⟩:=hy1 x4;clear hyes hy1 hfe hf1 hX x1 x4;have hml:(L.map S_).length=L.length:=h_ _;have hmi:(I.map S_).length=I.length:=h_ _;refine aA<|S<|Sz U<|aD<|bC (σ:=Nat) (fun i=>([(0,.pv (aK L)),(1,.pv (aK I)),(2,sv t),(7,bv true),(8,iv (i:Int))],[])) (fun i=>i<=L.length/\∀a b x y,a<i->b<a->L[a]?=some x->L[b]?=some y->AM x y=false) (fun i=>L.length - i) 0 ⟨l6 _,fun a b x y h=>by omega⟩ ?_ ?_
 ·exact Wk
 rintro i ⟨hi,hall⟩;refine S<|C V<|Y V<|Y (fV aE)<|O cM<|Cn ?_ ?_<;>intro hc2
 ·have hlt:i<L.length:=I_ hc2
  obtain ⟨x,hx⟩:=aU hlt;have hix:=cC (f:=S_) hx;have hxs:=hsz x (m7 hx);have hpa:=fun H=>QT x.data.toList (by rw[aT];omega) H;rw[gB,SJ]at hpa;have hokx:=FY x.data.toList;have hrfx:=NM (t:=x.data.toList);have hid1:=Jr (t:=x);have hid2:=Js (t:=x);obtain ⟨G,hG⟩:∃G,G=dQ x.data.toList:=X_;rw[<-hG]at hpa hokx hrfx hid1 hid2;clear hG;refine aA<|S<|aD<|C V<|Y V<|Y (kx bH hix)<|Y (fY N_ (hi:=hix))<|Y (kc call25 (hpa _))<|Y V<|Y dH<|Y dH<|Y (kl 9 Z2)<|Uu (iU aY)<|O U<|Sz U<|aD<|bC (σ:=Nat) (fun k=>([(0,.pv (aK L)),(1,.pv (aK I)),(2,sv t),(7,bv true),(8,iv (i:Int)),(9,.ref 9 0 0 0),(10,iv G.2),(11,iv (k:Int))],[(9,rOW G.1)])) (fun k=>k<=i/\∀b y,b<k->L[b]?=some y->AM x y=false) (fun k=>i - k) 0 ⟨l6 _,fun b y h=>by omega⟩ ?_ ?_
  ·exact Wk
  rintro k ⟨hk,hin⟩;refine S<|C V<|Y V<|O cM<|Cn ?_ ?_<;>intro hc3
  ·have hki:k<i:=I_ hc3
   obtain ⟨y,hy⟩:=aU (l:=L) (k:=k) X;have hiy:=cC (f:=S_) hy;have hys:=hsz y (m7 hy);have hpb:=fun H=>QT y.data.toList (by rw[aT];omega) H;rw[gB,SJ]at hpb;have hoky:=FY y.data.toList;have hrfy:=NM (t:=y.data.toList);have hjd1:=Jr (t:=y);have hjd2:=Js (t:=y);obtain ⟨F,hF⟩:∃F,F=dQ y.data.toList:=X_;rw[<-hF]at hpb hoky hrfy hjd1 hjd2;clear hF;have hcl:AM x y=(match yQ x,yQ y with|some i,some j=>decide (i=j)&&!decide (x=y)|_,_=>false):=rfl;refine aA<|S<|aD<|C V<|Y V<|Y (kx bH hiy)<|Y (fY N_ (hi:=hiy))<|Y (kc call25 (hpb _))<|Y V<|Y dH<|Y dH<|Y (kl 12 Z2)<|Uu (iU aY)<|O U<|S<|rF (t:=96) (n:=24) (A_:=AM x y) ?_ ?_
   ·by_cases gx:G.2=0
    ·have e1:decide (G.2=0)=true:=decide_eq_true gx;have hrx:=fun H=>Wi G.1 H hokx.1 (hrfx gx);rw[hid1 gx]at hcl;by_cases gy:F.2=0
     ·have e2:decide (F.2=0)=true:=decide_eq_true gy;have hry:=fun H=>Wi F.1 H hoky.1 (hrfy gy);rw[hjd1 gy]at hcl;generalize G9 G.1=a at hcl hrx;generalize G9 F.1=b at hcl hry;have hcl:AM x y=(decide (a=b)&&!decide (x=y)):=hcl;cases e3:decide (a=b)with
      |true =>
       rw[e3]at hcl;refine aN a7<|Cq V<|Cq cD<|Cq V<|Nt V<|Nt cD<|Cq CK<|Cq V<|Nt (vC cF aY)<|Nt (kc Nu (hrx _))<|Nt (vC cF aY)<|Nt (kc Nu (hry _))<|Nt wF<|Cq CK<|Cq V<|Nt V<|Nt V<|Nt (kx bH hix)<|Nt (fY N_ (hi:=hix))<|Nt V<|Nt V<|Nt (kx bH hiy)<|Nt (fY N_ (hi:=hiy))<|Nt GU<|Cq CK<|bJ<|Kr ?_;exact⟨Z,⟨_,Z,(by rw[hcl];rfl)⟩,Z,Z,Z⟩
      |false =>
       rw[e3]at hcl;refine aN a7<|Cq V<|Cq cD<|Cq V<|Nt V<|Nt cD<|Cq CK<|Cq V<|Nt (vC cF aY)<|Nt (kc Nu (hrx _))<|Nt (vC cF aY)<|Nt (kc Nu (hry _))<|Nt wF<|Cq CK<|Cq V<|Ot<|Ot<|Ot<|Ot<|Ot<|Ot<|Ot<|Ot<|Ot<|Cq vP<|bJ<|Kr ?_;exact⟨Z,⟨_,Z,(by rw[hcl];rfl)⟩,Z,Z,Z⟩
     have e2:decide (F.2=0)=false:=decide_eq_false gy;rw[hjd2 gy]at hcl;have hcl:AM x y=false:=hcl;refine aN a7<|Cq V<|Cq cD<|Cq V<|Nt V<|Nt cD<|Cq CK<|Cq V<|Ot<|Ot<|Ot<|Ot<|Ot<|Cq vP<|Cq V<|Ot<|Ot<|Ot<|Ot<|Ot<|Ot<|Ot<|Ot<|Ot<|Cq cE<|bJ<|Kr ?_;exact⟨Z,⟨_,Z,(by rw[hcl])⟩,Z,Z,Z⟩
    have e1:decide (G.2=0)=false:=decide_eq_false gx;rw[hid2 gx]at hcl;have hcl:AM x y=false:=hcl;refine aN a7<|Cq V<|Cq cD<|Cq V<|Ot<|Ot<|Cq vP<|Cq V<|Ot<|Ot<|Ot<|Ot<|Ot<|Cq cE<|Cq V<|Ot<|Ot<|Ot<|Ot<|Ot<|Ot<|Ot<|Ot<|Ot<|Cq cE<|bJ<|Kr ?_;exact⟨Z,⟨_,Z,(by rw[hcl])⟩,Z,Z,Z⟩
   refine Cn ?_ ?_<;>intro hc4
   ·exact C V<|O U<|aC<|Rt<|Qq
   have hno:AM x y=false:=hc4;refine aA<|Rd V<|Y kp<|Da ?_;refine⟨k+1,⟨X,fun b z hb hz=>?_⟩,X,Wk⟩;by_cases e:b=k
   ·subst e;rw[hy]at hz;cases hz;exact hno
   exact hin b z X hz
  have hge:k=i:=J_ hc3
  subst hge;refine aP<|Rd V<|Y kp<|Da ?_;refine⟨k+1,⟨X,fun a b u v ha hb hu hv=>?_⟩,X,Wk⟩;by_cases e:a=k
  ·subst e;rw[hx]at hu;cases hu;exact hin b v hb hv
  exact hall a b u v X hb hu hv
 have hge:i=L.length:=J_ hc2
 subst hge;have hu:∀x∈L,∀y∈L,∀i,yQ x=some i->yQ y=some i->x=y:=fun x hx y hy i h1 h2=>by
  obtain ⟨a,ha⟩:=r_.1 hx;obtain ⟨b,hb⟩:=r_.1 hy;have la:=(m_.1 ha).1;have lb:=(m_.1 hb).1;rcases Nat.lt_trichotomy b a with h|h|h
  ·exact gh (hall a b x y la h ha hb) h1 h2
  ·subst h;rw[ha]at hb;exact Option.some.inj hb
  exact(gh (hall b a y x lb h hb ha) h2 h1).symm
 have hbm:=W9 L;have hbl:=GC L 0;have han1:=fun H=>TD L t H X (fun s h=>by have:=hsz s h;omega);have han2:=fun H=>TD (mV L 0) t H X (fun s h=>by have:=hsz s ((hbm s).1 h);omega);rw[<-Rz t (fun x=>(hbm x).symm) hu]at han2;have hcm:=W9 I;have hcl:=GC I 0;have hof1:=fun H=>EJ I H X (fun s h=>by have:=isz s h;omega);have hof2:=fun H=>EJ (mV I 0) H X (fun s h=>by have:=isz s ((hcm s).1 h);omega);have hoe:zY (mV I 0)=zY I/\zZ (mV I 0)=zZ I:=by
  have e1:(mV I 0).all l9=I.all l9:=by
   rw[Bool.eq_iff_iff,List.all_eq_true,List.all_eq_true];exact⟨fun h x hx=>h x ((hcm x).2 hx),fun h x hx=>h x ((hcm x).1 hx)⟩
  rw[zY,zY,zZ,zZ,e1,Sb hcm];exact Qq
 rw[hoe.1,hoe.2]at hof2;have hrl:(if 20000<t.size then[]else wV L t).length<1000000000:=by
  split
  ·decide
  exact Vk L t X X
 have hsa:=fun H=>U4 (if 20000<t.size then[]else wV L t) (if 20000<t.size then[]else wV L t) H hrl hrl;rw[decide_eq_true rfl]at hsa;generalize (if 20000<t.size then[]else wV L t)=R at *;generalize (if 20000<t.size then(2:Int)else 0)=E at *;generalize zY I=m at *;generalize zZ I=E2 at *;clear hoe hu hall;refine aP<|C (eF (id:=905) (sz:=1) (ty:=9) Z Z Z)<|O (eF (id:=906) (sz:=1) (ty:=9) Z Z Z)<|S<|C V<|Y (fV aE)<|Y (by exact dP Z Z Z (show IntKind.i64.wrap (((L.map S_).length:Int) - 1)=nI L.length by rw[hml];exact O8 _ X))<|O U<|aD ?_;refine bC (σ:=Nat) (fun n=>([(0,.pv (aK L)),(1,.pv (aK I)),(2,sv t),(7,bv true),(14,.osl 905 (L.length - n) 0 (2*(L.length - n))),(15,.osl 906 0 0 0),(16,iv (nI n))],[(905,⟨L.length - n,1,9,bZ (mV L n)⟩),(906,⟨0,1,9,[]⟩)])) (fun n=>n<=L.length) (fun n=>n) L.length (j6 _) ?_ ?_
 ·simp only[Nat.sub_self,XA];exact L_
 intro n hn;cases n with
 |succ k =>
  obtain ⟨x,hx⟩:=aU (l:=L) (k:=k) X;have hi:=cC (f:=S_) hx;have hnx:=S6 hx;have hwl:(bZ (mV L (k+1))).length=2*(L.length - (k+1)):=by rw[eH,GC]
  refine S<|C V<|O B0<|Cn ?_ ?_<;>intro hc5
  ·refine aA<|S<|aD<|aN a7<|Cr [905] (fun _ _=>V)<|Cr [] (fun _ _=>V)<|Cr [] (fun _ _=>V)<|Cr [] (fun H1 hH=>by exact bU Z bH Z Z (show (0:Int)<=nI (k+1)from Int.natCast_nonneg k) (show (nI (k+1)).toNat=k from l8 k) hi Z)<|Cr [] (fun _ _=>(fY N_ (hi:=hi)))<|Cr [] (fun _ _=>V)<|Cr [] (fun _ _=>V)<|Cr [] (fun H1 hH=>by exact bU Z bH Z Z (show (0:Int)<=nI (k+1)from Int.natCast_nonneg k) (show (nI (k+1)).toNat=k from l8 k) hi Z)<|Cr [] (fun _ _=>(fY N_ (hi:=hi)))<|Cr [] (fun H1 hH=>by exact aL ([x,x].map S_) Z bH Z Z Z Z Z (fE _))<|Cp [905] (fun H1 hH=>by exact cA (n:=2*(L.length - (k+1))) (k:=2*(L.length - k)) (ps:=[x,x].map S_) Z bH xE Z ((hH _ Z).trans Z) Z Z Z hwl Z (fE _) (m:=2) Z X X (rows':=bZ (mV L k)) (by rw[hnx];exact gU _ _)) ?_;refine Cr [905] (fun _ _=>U)<|bJ<|Kr<|Rd V<|Y (dP Z Z Z (O8 k X))<|Da ?_;refine⟨k,X,X,?_⟩;simp only[show L.length - k=L.length - (k+1)+1 by omega];exact L_
  exact absurd (b_ hc5) (by show ¬ ¬ (0:Int)<=(k:Int);omega)
 | zero =>
  refine S<|C V<|O B0<|Cn ?_ ?_<;>intro hc6
  ·cases hc6
  refine aP<|S<|C V<|Y (fV aE)<|Y (by exact dP Z Z Z (show IntKind.i64.wrap (((I.map S_).length:Int) - 1)=nI I.length by rw[hmi];exact O8 _ X))<|O U<|aD ?_;refine bC (σ:=Nat) (fun n=>([(0,.pv (aK L)),(1,.pv (aK I)),(2,sv t),(7,bv true),(14,.osl 905 (L.length - 0) 0 (2*(L.length - 0))),(15,.osl 906 (I.length - n) 0 (2*(I.length - n))),(17,iv (nI n))],[(905,⟨L.length - 0,1,9,bZ (mV L 0)⟩),(906,⟨I.length - n,1,9,bZ (mV I n)⟩)])) (fun n=>n<=I.length) (fun n=>n) I.length (j6 _) ?_ ?_
  ·simp only[Nat.sub_self,XA];exact L_
  intro n hn;cases n with
  |succ k =>
   obtain ⟨x,hx⟩:=aU (l:=I) (k:=k) X;have hi:=cC (f:=S_) hx;have hnx:=S6 hx;have hwl:(bZ (mV I (k+1))).length=2*(I.length - (k+1)):=by rw[eH,GC]
   refine S<|C V<|O B0<|Cn ?_ ?_<;>intro hc7
   ·refine aA<|S<|aD<|aN a7<|Cr [906] (fun _ _=>V)<|Cr [] (fun _ _=>V)<|Cr [] (fun _ _=>V)<|Cr [] (fun H1 hH=>by exact bU Z bH Z Z (show (0:Int)<=nI (k+1)from Int.natCast_nonneg k) (show (nI (k+1)).toNat=k from l8 k) hi Z)<|Cr [] (fun _ _=>(fY N_ (hi:=hi)))<|Cr [] (fun _ _=>V)<|Cr [] (fun _ _=>V)<|Cr [] (fun H1 hH=>by exact bU Z bH Z Z (show (0:Int)<=nI (k+1)from Int.natCast_nonneg k) (show (nI (k+1)).toNat=k from l8 k) hi Z)<|Cr [] (fun _ _=>(fY N_ (hi:=hi)))<|Cr [] (fun H1 hH=>by exact aL ([x,x].map S_) Z bH Z Z Z Z Z (fE _))<|Cp [906] (fun H1 hH=>by exact cA (n:=2*(I.length - (k+1))) (k:=2*(I.length - k)) (ps:=[x,x].map S_) Z bH xE Z ((hH _ Z).trans Z) Z Z Z hwl Z (fE _) (m:=2) Z X X (rows':=bZ (mV I k)) (by rw[hnx];exact gU _ _)) ?_;refine Cr [906] (fun _ _=>U)<|bJ<|Kr<|Rd V<|Y (dP Z Z Z (O8 k X))<|Da ?_;refine⟨k,X,X,?_⟩;simp only[show I.length - k=I.length - (k+1)+1 by omega];exact L_
   exact absurd (b_ hc7) (by show ¬ ¬ (0:Int)<=(k:Int);omega)
  | zero =>
   refine S<|C V<|O B0<|Cn ?_ ?_<;>intro hc8
   ·cases hc8
   refine aP<|S ?_;refine fZ.ent (cJ.fzG (id:=905) (E':=[(0,.pv (aK L)),(1,.pv (aK I)),(2,sv t),(7,bv true),(14,.pv (aK (mV L 0))),(15,.osl 906 (I.length - 0) 0 (2*(I.length - 0)))]) (H':=[(906,⟨I.length - 0,1,9,bZ (mV I 0)⟩)]) ((mV L 0).map S_) Z (eC _) ?_ Z ⟨⟨_,Z,Z,Z,Z,eG (aV _ _)⟩,T_⟩ T_) ?_
   ·intro p hp;simp only[l7,n_,or_false]at hp;rcases hp with rfl|rfl|rfl|rfl|rfl|rfl
    ·exact⟨_,Z,.same H_⟩
    ·exact⟨_,Z,.same H_⟩
    ·exact⟨_,Z,.same H_⟩
    ·exact⟨_,Z,.same H_⟩
    ·exact⟨_,Z,.osl (by rw[r7,List.drop_zero];exact List.take_of_length_le (by rw[h_];omega))⟩
    exact⟨_,Z,.same (by simp;rfl)⟩
   refine fZ.ent (cJ.fzG (id:=906) (E':=[(0,.pv (aK L)),(1,.pv (aK I)),(2,sv t),(7,bv true),(14,.pv (aK (mV L 0))),(15,.pv (aK (mV I 0)))]) (H':=[]) ((mV I 0).map S_) Z (eC _) ?_ Z T_ T_) ?_
   ·intro p hp;simp only[l7,n_,or_false]at hp;rcases hp with rfl|rfl|rfl|rfl|rfl|rfl
    ·exact⟨_,Z,.same H_⟩
    ·exact⟨_,Z,.same H_⟩
    ·exact⟨_,Z,.same H_⟩
    ·exact⟨_,Z,.same H_⟩
    ·exact⟨_,Z,.same H_⟩
    exact⟨_,Z,.osl (by rw[r7,List.drop_zero];exact List.take_of_length_le (by rw[h_];omega))⟩
   refine Rd V<|Y V<|Y (kc DV (han1 _))<|Y V<|Y dH<|Y dH<|Y U<|O U<|C V<|Y V<|Y (kc DV (han2 _))<|Y V<|Y dH<|Y dH<|Y U<|O U<|C V<|Y (kc ZS (hof1 _))<|Y V<|Y dH<|Y dH<|Y U<|O U<|C V<|Y (kc ZS (hof2 _))<|Y V<|Y dH<|Y dH<|Y U<|O U<|C V<|Y V<|J V<|J V<|J (cL.val (lU Z Z Z) ((decide_eq_true Z)))<|Y cE<|Y V<|J V<|J V<|J (kc Nv (hsa _))<|Y cE<|Y V<|J V<|J V<|J (cL.val (lU Z Z Z) ((decide_eq_true Z)))<|Y cE<|Y V<|J V<|J V<|J (cL.val (EC Z Z Z) ((decide_eq_true Z))) ?_;exact Y cE<|O U<|aC<|Rt<|Qq
end Go.Proofs.YtopnleflllkbmaaGreatDoor
