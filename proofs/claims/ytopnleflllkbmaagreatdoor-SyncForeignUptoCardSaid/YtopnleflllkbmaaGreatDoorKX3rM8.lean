/-
  Parts of the proof. Conditions: each theorem's own.
-/
import Derived.Test.YtopnleflllkbmaaGreatDoorKX3rM7
set_option linter.unusedVariables false
set_option linter.unusedSimpArgs false
set_option maxRecDepth 100000
set_option maxHeartbeats 8000000
open List Nat
namespace Go.Proofs
open Tryz
theorem qU:type_of% call63:=call63
theorem qT:type_of% call64:=call64
end Go.Proofs
namespace Go.Proofs.YtopnleflllkbmaaGreatDoor
open Go.Proofs.Tryz
open Go.Abs Go.Lib
def wW(s:B_)(i:Nat):B_:=(cO s).getD i a6
def mO(s:B_):B_:=s.extract ((wW s 0).size+(wW s 1).size+(wW s 2).size+3) s.size
def HT(s:B_):Bool:=(decide ((fJ (mO s)).2.1=0)&&decide ((fJ (mO s)).1.length=1))&&decide (((fJ (mO s)).1.getD 0 KD).kind=3)
def tw(rP:B_->l6)(s:B_):b8 :=if wW s 0=a_ wPut/\4<s.size then⟨1,a6,a6,a6,0,0,a6,a6,[],rP (s.extract 4 s.size)⟩
 else if wW s 0=a_ I6/\(cO s).length=4 then⟨2,wW s 1,a6,a6,JQ (wW s 2),JQ (wW s 3),a6,a6,[],h_⟩
 else if(wW s 0=a_ A5/\4<=(cO s).length)/\HT s=true then⟨3,wW s 1,a6,a6,0,0,wW s 2,((fJ (mO s)).1.getD 0 KD).text,[],h_⟩
 else if wW s 0=a_ I0/\2<=(cO s).length then⟨4,wW s 1,a6,a6,0,0,a6,a6,(cO s).drop 2,h_⟩
 else if wW s 0=a_ I9/\(cO s).length=2 then⟨5,wW s 1,a6,a6,0,0,a6,a6,[],h_⟩
 else if wW s 0=a_ CC/\(cO s).length=4 then⟨6,wW s 1,wW s 3,wW s 2,0,0,a6,a6,[],h_⟩
 else if wW s 0=a_ I7/\(cO s).length=3 then⟨7,wW s 1,wW s 2,a6,0,0,a6,a6,[],h_⟩
 else NZ
theorem Xy{s}{i}(h:i<(cO s).length):((cO s).map S_)[i]?=some (S_ (wW s i)):=by rw[r7,wW,getD_eq_getElem?_getD,m_ h];rfl
theorem FO(s)(i):(wW s i).size<=s.size:=by
 rw[wW,getD_eq_getElem?_getD];cases e:(cO s)[i]? with
 |none=>exact l7 _
 |some w =>
  have b:=m8 e;obtain ⟨x,c,rfl⟩:=mem_map.1 b;have:=qY _ c;rw[aR]at this;show (a_ x).size<=_;rw[bZ];omega
theorem HO(c):∀l,((dP c l).map List.length).sum+(dP c l).length=l.length+1
 | []=>rfl
 | b::l=>by
  have ih:=HO c l;have a:=rA c l;rw[dP]
  split
  ·rw[map_cons,sum_cons,j7,j7];show 0+_+_=_;omega
  cases e:dP c l with
  |nil=>rw[e]at a;exact absurd a (Nat.lt_irrefl 0)
  |cons x r =>
   grind
theorem aAj{s}(h:4<=(cO s).length):(wW s 0).size+(wW s 1).size+(wW s 2).size+3<=s.size:=by
 have j:=HO 32 s.data.toList;have g:∀i,wW s i=a_ ((dP _ _).getD i _):=λi=>by
  rw[wW,cO,getD_eq_getElem?_getD,getD_eq_getElem?_getD,r7];cases (dP _ _)[i]?<;>rfl
 rw[g,g,g];rw[cO,j6]at h
 match e:dP _ _ with
 | []=>rw[e]at h;exact absurd h H_
 | [_]=>rw[e]at h;simp only[j7,length_nil]at h;omega
 | [_,_]=>rw[e]at h;simp only[j7,length_nil]at h;omega
 | [_,_,_]=>rw[e]at h;simp only[j7,length_nil]at h;omega
 |a::b::c::d::r =>
  rw[e]at j;simp[map_cons,sum_cons,j7]at j;show a.length+b.length+c.length+3<=_;omega
variable{rP:B_->l6}
def tK(T:List b6):Int:=DT (T.getD 0 KD).text
def AE(T:List b6):List B_:=((T.drop 3).takeWhile λf=>decide (f.kind=1)).map b6.text
def RG(T:List b6):Bool:=decide ((T.getD 2 KD).kind=2)&&decide ((T.getD 3 KD).kind=2)
def ak(s:B_):Int:=JP s (min s.size 7)
def sR(T:List b6):List m7×Bool:=if tK T=1 then K9 [] (T.drop 4)else K9 [] (T.drop (3+(AE T).length+1))
def uA(T:List b6):l6:=if tK T=1 then⟨(T.getD 1 KD).text,1,ak (T.getD 2 KD).text,ak (T.getD 3 KD).text,[],(sR T).1⟩else⟨(T.getD 1 KD).text,tK T,0,0,AE T,(sR T).1⟩
def Rp(s:B_):l6×Int:=if 20000<s.size then(h_,2)else if(fJ s).2.1=0/\4<=(fJ s).1.length then
 (if tK (fJ s).1=1/\RG (fJ s).1=false then(h_,5)else if(sR (fJ s).1).2=true/\fD (uA (fJ s).1)=(s,0)then(uA (fJ s).1,0)else(h_,5))else(h_,5)
theorem cw{s}(hd:∀b∈s.data.toList,48<=b.toNat/\b.toNat<=57):∀k,k<=s.size->∃n,Lib.decFrom 0 (s.data.toList.take k)=some n/\YP s k=n/\JP s k=n
 |0,_=>⟨0,Z,Z,Z⟩
 |k+1,h=>by
  obtain ⟨n,i,g,f⟩:=cw hd k X;have ⟨b,d⟩:∃b,s.data.toList[k]?=some b:=aS z6;have j:=hd b (m8 d);have e:Lib.digitVal b=some (b.toNat - 48):=by rw[Lib.digitVal,b7 j]
  have c:aY s k=(b.toNat):=by rw[aY,d];rfl
  refine⟨n*10+(b.toNat - 48),Lib.decFrom_take _ k 0 n b _ i d e,?_,?_⟩
  ·rw[YP,g];omega
  rw[JP,f,c];show 10*n+((b.toNat:Int) - 48) % 256=_;omega
theorem ou{x}(b:0<=x):(aT x).data.toList=Lib.decDigits x.toNat:=by show (Lib.itoa x).toArray.toList=_;rw[jX _ b]
theorem F0{x:Int}(p:0<=x)(h1:x<10000000):JQ (aT x)=x/\ak (aT x)=x:=by
 have h:=ou p;have i:∀b∈(aT x).data.toList,48<=b.toNat/\b.toNat<=57:=λb e=>by rw[h]at e;exact pH _ e
 have d:(aT x).size=(Lib.decDigits x.toNat).length:=by rw[<-aR,h]
 have hpos:0<(aT x).size:=by rw[d];exact length_pos_iff.2 (nO _)
 have l:(aT x).size<=7:=by rw[d];exact cV X E_
 have ⟨n,k,m,o⟩:=cw i (aT x).size (g_ _);rw[take_of_length_le F_,h,jI]at k;cases k;have g:(List.range (aT x).size).all (Dh (aT x))=true:=by
  rw[all_eq_true];intro j hj;have ⟨b,e⟩:∃b,(aT x).data.toList[j]?=some b:=aS F_;have hm:=i b (m8 e);have f:aY (aT x) j=(b.toNat:Int):=by rw[aY,e];rfl
  rw[Dh,f,decide_eq_false X,decide_eq_false X];rfl
 constructor
 ·rw[JQ,g,decide_eq_true l,Bool.and_true,b7 Z,m];omega
 rw[ak,Nat.min_eq_left l,o];omega
theorem NE{s:B_}:∀(l:List m7) (i:Nat),(∀t,t∈l->cH t.key=true)->s.data.toList.drop i=nG l->∃T,FL s i (nG l) T/\T1 T l/\∀acc,K9 acc T=(acc++l,true)
 | [],i,_,h=>⟨[],all_nil h,⟨Z,(λf w=>by cases w),Z⟩,λacc=>by rw[K9,List.append_nil]⟩
 | t::l,i,d,h=>by
  have u:nG (t::l)=32::(t.key.data.toList++61::(cW t.val.data.toList++nG l)):=by
   rw[nG,flatMap_cons,SH];simp[nG]
  rw[u]at h |-;have g:=(pX h).2.2;have b:=fK g;have a:=(pX b).2.2;have o:=fK a;have ⟨T,r,q,p⟩:=NE l _ (λt n=>d t (mem_cons_of_mem _ n)) o;have j:0<(cW t.val.data.toList).length:=by rw[cW,j7];omega
  have v:=DN (JF a) Z (rC a j) j r;have m:=GH b E_ v;have k:=mU g (d t mem_cons_self) (λc r' e=>by cases e;exact⟨E_,E_,E_⟩) m;refine⟨_,uJ h k,T1.cons q Z Z Z,λacc=>?_⟩;rw[K9,p,append_assoc];rfl
theorem xl{α:Type}{p}{A B}{c:α}(h:∀a∈A,p a=true)(hc:p c=false):(A++c::B).takeWhile p=A:=F_
theorem yq{o:l6}(A:oF o=true):∃T,FL (D1 o) 0 (sD o) T/\(∀f,f∈T->f.err=0)/\T.length<=5000/\4<=T.length/\¬ (tK T=1/\RG T=false)/\(sR T).2=true/\uA T=o:=by
 have ⟨hr,ht,e_,D,_⟩:=BW A;have ⟨q,v_,hn,hz⟩:=ir A;have ⟨A_,E⟩:=A3 (GC A);have r:∀t,t∈o.tags->cH t.key=true:=λt h=>((xH.1 e_).1 t h).1;have y:=WK o;by_cases n:o.kind=1
 ·have e:sD o=(eF o.kind).data.toList++32::(o.id.data.toList++32::(Lib.itoa o.x++32::(Lib.itoa o.y++nG o.tags))):=by
   rw[sD,lV,b7 n];simp
  rw[e]at y |-;have u:=fK y;rw[aR]at u;have z:=(pX u).2.2;have s:=fK z;rw[aR]at s;have B:=(pX s).2.2;have F:=fK B;have w:=(pX F).2.2;have c_:=fK w;have ⟨T,Q,⟨r1,N,r3⟩,I⟩:=NE o.tags _ r c_;have b:=mU y A_ (lS _) (uJ u (mU z D (lS _) (uJ s (PT B q.1 X (lS _) (uJ F (PT w v_.1 X (QA _) Q))))));have g:∀(a b c d:b6) (R:List b6),tK (⟨1,eF o.kind,0,0⟩::b::c::d::R)=1:=λa b c d R=>by
   show DT (eF o.kind)=1;rw[E,n]
  refine⟨_,b,λf m=>?_,?_,?_,?_,?_,?_⟩
  ·simp only[l9]at m;rcases m with rfl|rfl|rfl|rfl|m
   ·rfl
   ·rfl
   ·rfl
   ·rfl
   exact N f m
  ·simp only[j7];omega
  ·simp only[j7];omega
  ·rintro⟨-,h⟩;simp[RG]at h
  ·rw[sR,b7 (g KD _ _ _ _)];show (K9 [] T).2=true;rw[I]
  rw[uA,b7 (g KD _ _ _ _),sR,b7 (g KD _ _ _ _)];show (⟨o.id,1,ak (aT o.x),ak (aT o.y),[],(K9 [] T).1⟩:l6)=o;rw[I,(F0 q.1 X).2,(F0 v_.1 X).2];exact PC Z n Z Z (hn n) Z
 have ⟨k,l,p⟩:=VS A n;have v:=tY A;rw[p]at v;have e:sD o=(eF o.kind).data.toList++32::(o.id.data.toList++32::(40::(k.data.toList++(l.flatMap (λk=>32::k.data.toList)++41::nG o.tags)))):=by
  rw[sD,lV,a8 n,p,yC];simp
 rw[e]at y |-;have u:=fK y;rw[aR]at u;have z:=(pX u).2.2;have s:=fK z;rw[aR]at s;have B:=(pX s).2.2;have F:=(pX B).2.2;have w:=fK F;rw[aR]at w;have c_:=fK w;have h8:=(pX c_).2.2;have ⟨T,Q,⟨r1,N,r3⟩,I⟩:=NE o.tags _ r h8;have o_:=GH c_ E_ Q;have ⟨R,hR,u_,W⟩:=TR l _ _ _ (λx q=>v x (mem_cons_of_mem _ q)) w (JE _) o_;have K:GS (l.flatMap (λk=>32::k.data.toList)++41::nG o.tags):=by
  cases l with
  |nil=>exact JE _
  |cons a l=>rw[flatMap_cons];exact lS _
 have b:=mU y A_ (lS _) (uJ u (mU z D (lS _) (uJ s (GH B E_ (mU F (v k mem_cons_self) K hR)))));have hRl:R.length=l.length:=by rw[<-u_,j6]
 have hrl:o.refs.length=l.length+1:=by rw[p,j7]
 have g:∀(b c d:b6) (z_:List b6),tK (⟨1,eF o.kind,0,0⟩::b::c::d::z_)=o.kind:=λb c d z_=>by
  show DT (eF o.kind)=_;exact E
 have H:∀(a b c d:b6) (j:Nat),d.kind=1->AE (a::b::c::d::(R++⟨4,⟨#[41]⟩,j,0⟩::T))=d.text::R.map b6.text:=λa b c d j f_=>by
  show (((d::R)++⟨4,⟨#[41]⟩,j,0⟩::T).takeWhile _).map b6.text=_;rw[xl (λx q=>?_) x6]
  ·rfl
  rcases l9.1 q with rfl|q
  ·exact decide_eq_true f_
  exact decide_eq_true (W x q).1
 have G:∀(b c d:b6) (j:Nat),d.kind=1->sR (⟨1,eF o.kind,0,0⟩::b::c::d::(R++⟨4,⟨#[41]⟩,j,0⟩::T))=(o.tags,true):=λb c d j f_=>by
  rw[sR,a8 (by rw[g];exact n),H _ _ _ _ _ f_];have L:∀a b c:b6,(a::b::c::d::(R++⟨4,⟨#[41]⟩,j,0⟩::T)).drop (3+(d.text::R.map b6.text).length+1)=T:=λa b c=>by
   rw[show 3+(d.text::R.map b6.text).length+1=(a::b::c::d::(R++[⟨4,⟨#[41]⟩,j,0⟩])).length by simp;omega,show a::b::c::d::(R++⟨4,⟨#[41]⟩,j,0⟩::T)=(a::b::c::d::(R++[⟨4,⟨#[41]⟩,j,0⟩]))++T by simp];exact drop_left
  rw[L,I];rfl
 refine⟨_,b,λf m=>?_,?_,?_,?_,?_,?_⟩
 ·simp only[l9,mem_append]at m;rcases m with rfl|rfl|rfl|rfl|m|rfl|m
  ·rfl
  ·rfl
  ·rfl
  ·rfl
  ·exact(W f m).2
  ·rfl
  exact N f m
 ·simp only[j7,j_];omega
 ·simp only[j7,j_];omega
 ·rintro⟨h,-⟩;rw[g]at h;exact n h
 ·rw[G _ _ _ _ rfl]
 have ⟨y_,z2⟩:=hz n;rw[uA,a8 (by rw[g];exact n),G _ _ _ _ Z,H _ _ _ _ _ Z,g];refine PC Z Z y_ z2 ?_ Z;rw[p,u_]
theorem da{o}(h:(fD o).2=0):Rp (fD o).1=(o,0):=by
 have ⟨c,d,hs⟩:=PD h;have ⟨T,b,a,h2,h3,h4,h5,h6⟩:=yq c;have hlex:fJ (D1 o)=(T,0,0):=by
  rw[fJ,a8 X,b _ (by exact le_succ _),MO T _ a F_,nil_append]
 rw[d];show Rp (D1 o)=(o,0);rw[Rp,a8 X]
 simp_all
theorem Tc{a b}(h:a_ a=a_ b):a=b:=by have:=congrArg (λx=>x.data.toList) h;exact this
theorem qZ(l):cO (a_ l)=(dP 32 l).map a_:=rfl
theorem HI(l)(i):wW (a_ l) i=a_ ((dP 32 l).getD i []):=by rw[wW,qZ,getD_eq_getElem?_getD,getD_eq_getElem?_getD,r7];cases (dP _ l)[i]?<;>rfl
theorem oh{v}(hv:v.size<=200):fJ (a_ (cW v.data.toList))=([⟨3,v,0,0⟩],0,0):=by
 have b:(a_ (cW v.data.toList)).data.toList.drop 0=cW v.data.toList++[]:=by rw[append_nil];rfl
 have hl:(cW v.data.toList).length<=402:=by
  have:=S6 v.data.toList;rw[aR]at this;rw[cW,j7,j_,length_singleton];omega
 have c:0<(cW v.data.toList).length:=by rw[cW,j7];omega
 have d:=DN (JF b) Z (rC b c) c (all_nil (fK b));rw[fJ,a8 (by rw[bZ];omega),d _ (by rw[bZ,append_nil];omega)];rfl
theorem KT{l}{k}:(a_ l).extract k (a_ l).size=a_ (l.drop k):=mS (by rw[rY,cG,cG])
theorem QX(c_:∀o,(fD o).2=0->rP (fD o).1=o){e:b8}(K:fX e=true)(A:fR e=0):tw rP (a_ (fM e))=e:=by
 have ⟨⟨o1,o7⟩,c,j⟩:=uE.1 K;rw[fR]at A;have d:∀ {a b:List UInt8},a≠b->∀ {p:Prop},¬ (a_ a=a_ b/\p):=λh p e_=>h (Tc e_.1);by_cases m:e.op=1
 ·rw[b7 m]at A;have ⟨hg,N,_⟩:=PD A;have H:=c_ _ A;rw[FM,b7 m,m]at j;rw[fM,b7 m];have hpos:0<(fD e.obj).1.data.toList.length:=by
   rw[N];show 0<(sD e.obj).length;rw[sD,lV,j_,j_,j7];omega
  have I:wW (a_ (wPut++32::(fD e.obj).1.data.toList)) 0=a_ wPut:=by
   rfl
  rw[tw,I,b7 ⟨Z,by rw[bZ,j_,j7];show 4<3+_;omega⟩,KT];show (⟨1,a6,a6,a6,0,0,a6,a6,[],rP (a_ (fD e.obj).1.data.toList)⟩:b8)=e;rw[fQ,H];exact j
 rw[wN,a8 m,k_]at c;have ⟨d_,c⟩:=c;have y:=mJ d_;rw[fM,a8 m];by_cases f:e.op=2
 ·rw[b7 f]at c;have r:(0<=e.x/\e.x<1048576)/\0<=e.y/\e.y<1048576:=by
   rw[nj]at c
   grind
  rw[FM,a8 m,b7 f,f]at j;rw[gM,b7 f];have n1:=GD r.1.1;have n2:=GD r.2.1;have i:dP 32 (bT [32] [I6,e.id.data.toList,Lib.itoa e.x,Lib.itoa e.y])=[I6,e.id.data.toList,Lib.itoa e.x,Lib.itoa e.y]:=kV E_ F_;simp only[tw,HI,qZ,i,getD_cons_zero,getD_cons_succ];rw[a8 (d E_),b7 ⟨T_,Z⟩,fQ];show (⟨2,e.id,a6,a6,JQ (aT e.x),JQ (aT e.y),a6,a6,[],h_⟩:b8)=e;rw[(F0 r.1.1 X).1,(F0 r.2.1 X).1];exact j
 by_cases g:e.op=3
 ·rw[a8 f,b7 g,k_,j0]at c;have B:=mJ c.1;rw[FM,a8 m,a8 f,b7 g,g]at j;rw[gM,a8 f,b7 g];have F:bT [32] [A5,e.id.data.toList,e.key.data.toList,cW e.val.data.toList]=A5++32::(e.id.data.toList++32::(e.key.data.toList++32::cW e.val.data.toList)):=by simp[bT]
  have hsp:=rA 32 (cW e.val.data.toList);have i:dP 32 (bT [32] [A5,e.id.data.toList,e.key.data.toList,cW e.val.data.toList])=A5::e.id.data.toList::e.key.data.toList::dP 32 (cW e.val.data.toList):=by
   rw[F,jQ E_,jQ y.1,jQ B.1]
  have n:mO (a_ (bT [32] [A5,e.id.data.toList,e.key.data.toList,cW e.val.data.toList]))=a_ (cW e.val.data.toList):=by
   rw[mO,KT];simp only[HI,i,getD_cons_zero,getD_cons_succ,bZ];rw[F];congr 1;have:A5++32::(e.id.data.toList++32::(e.key.data.toList++32::cW e.val.data.toList))=(A5++32::(e.id.data.toList++32::(e.key.data.toList++[32])))++cW e.val.data.toList:=H_
   rw[this,show A5.length+e.id.data.toList.length+e.key.data.toList.length+3=(A5++32::(e.id.data.toList++32::(e.key.data.toList++[32]))).length by grind];exact drop_left
  have z:=oh (v:=e.val) X;have D:HT (a_ (bT [32] [A5,e.id.data.toList,e.key.data.toList,cW e.val.data.toList]))=true:=by
   rw[HT,n,z];rfl
  simp only[tw,HI,qZ,i,getD_cons_zero,getD_cons_succ,n,D,z];rw[a8 (d E_),a8 (d E_),b7 ⟨⟨T_,G_⟩,T_⟩,fQ,fQ];exact j
 by_cases l:e.op=4
 ·rw[a8 f,a8 g,b7 l,k_,k_,all_eq_true]at c;have L:=c.2;rw[FM,a8 m,a8 f,a8 g,b7 l,l]at j;rw[gM,a8 f,a8 g,b7 l];have i:dP 32 (bT [32] (I0::e.id.data.toList::bs e.refs))=I0::e.id.data.toList::bs e.refs:=kV E_ (by
   intro w k;rcases l9.1 k with rfl|k
   ·exact y.1
   obtain ⟨s,i,rfl⟩:=mem_map.1 k;exact(mJ (L s i)).1)
  simp only[tw,HI,qZ,i,getD_cons_zero,getD_cons_succ];rw[a8 (d E_),a8 (d E_),a8 (λh=>d E_ h.1),b7 ⟨T_,by simp only[j6,j7];omega⟩,fQ];show (⟨4,e.id,a6,a6,0,0,a6,a6,(bs e.refs).map a_,h_⟩:b8)=e;rw[Mi];exact j
 by_cases q:e.op=5
 ·rw[FM,a8 m,a8 f,a8 g,a8 l,b7 q,q]at j;rw[gM,a8 f,a8 g,a8 l,b7 q];have i:dP 32 (bT [32] [I9,e.id.data.toList])=[I9,e.id.data.toList]:=kV E_ (by intro w k;rw[r6]at k;subst k;exact y.1);simp only[tw,HI,qZ,i,getD_cons_zero,getD_cons_succ];rw[a8 (d E_),a8 (d E_),a8 (λh=>d E_ h.1),a8 (d E_),b7 ⟨T_,Z⟩,fQ];exact j
 by_cases x:e.op=6
 ·rw[a8 f,a8 g,a8 l,a8 q,b7 x,k_]at c;have B:=mJ c.1;have E:=mJ c.2;rw[FM,a8 m,a8 f,a8 g,a8 l,a8 q,b7 x,x]at j;rw[gM,a8 f,a8 g,a8 l,a8 q,b7 x];have i:dP 32 (bT [32] [CC,e.id.data.toList,e.node.data.toList,e.other.data.toList])=[CC,e.id.data.toList,e.node.data.toList,e.other.data.toList]:=kV E_ (by intro w k;simp only[l9,q7,or_false]at k;rcases k with rfl|rfl|rfl;all_goals first|exact y.1|exact B.1|exact E.1);simp only[tw,HI,qZ,i,getD_cons_zero,getD_cons_succ];rw[a8 (d E_),a8 (d E_),a8 (λh=>d E_ h.1),a8 (d E_),a8 (d E_),b7 ⟨T_,Z⟩,fQ,fQ,fQ];exact j
 have G:e.op=7:=X
 rw[a8 f,a8 g,a8 l,a8 q,a8 x]at c;have E:=mJ c;rw[FM,a8 m,a8 f,a8 g,a8 l,a8 q,a8 x,G]at j;rw[gM,a8 f,a8 g,a8 l,a8 q,a8 x];have i:dP 32 (bT [32] [I7,e.id.data.toList,e.other.data.toList])=[I7,e.id.data.toList,e.other.data.toList]:=kV E_ (by intro w k;simp only[l9,q7,or_false]at k;rcases k with rfl|rfl;all_goals first|exact y.1|exact E.1);simp only[tw,HI,qZ,i,getD_cons_zero,getD_cons_succ];rw[a8 (d E_),a8 (d E_),a8 (λh=>d E_ h.1),a8 (d E_),a8 (d E_),a8 (d E_),b7 ⟨T_,Z⟩,fQ,fQ];exact j
theorem cy{rE:B_->b8}{s:B_}{A w:List UInt8}{r:List UInt8}{acc:List b8}(i:s.data.toList=A++(w++r))(f:(10:UInt8)∉w)(h:D5 rE s A.length=(A.length,acc)):∀j,j<=w.length->D5 rE s (A.length+j)=(A.length,acc)
 |0,_=>h
 |j+1,hj=>by
  have g:=cy i f h j X;have k:s.data.toList[A.length+j]?=w[j]?:=G_
  have ⟨b,c⟩:∃b,w[j]?=some b:=aS X;have d:b≠10:=λe=>f G_;have a:aY s (A.length+j)=(b.toNat:Int):=by rw[aY,k,c];rfl
  rw[show A.length+(j+1)=(A.length+j)+1 by omega,D5,a,a8 ?_,g];rw[j0];intro e;exact d (UInt8.toNat_inj.1 (by show b.toNat=10;omega))
theorem Hr{rE}{s}{A w}{r}{acc}(b:s.data.toList=A++(w++10::r))(c:10∉w)(h:D5 rE s A.length=(A.length,acc)):D5 rE s (A.length+w.length+1)=(A.length+w.length+1,acc++[rE (a_ w)]):=by
 have e:=cy b c h _ (g_ _);have f:s.data.toList[A.length+w.length]?=some 10:=F_
 have a:aY s (A.length+w.length)=10:=by rw[aY,f];rfl
 have d:s.extract _ _=a_ w:=zX (by rw[b,drop_left]);rw[D5,a,e,b7 (show decide _=true by decide),d]
theorem VV{rE}{s:B_}:∀(l) (A) (acc),s.data.toList=A++l.flatMap (λe=>fM e++[10])->(∀e∈l,(10:UInt8)∉fM e/\rE (a_ (fM e))=e)->D5 rE s A.length=(A.length,acc)->D5 rE s s.size=(s.size,acc++l)
 | [],A,acc,b,_,h=>by
  rw[List.flatMap_nil,List.append_nil]at b;rw[<-aR,b,h,List.append_nil]
 | e::l,A,acc,b,c,h=>by
  rw[List.flatMap_cons,List.append_assoc]at b;obtain ⟨d,h2⟩:=c e mem_cons_self;have hn:=Hr b d h;have hAl:(A++(fM e++[10])).length=A.length+(fM e).length+1:=by
   grind
  have:=VV (rE:=rE) (s:=s) l (A++(fM e++[10])) (acc++[e]) F_ (λx f=>c x (mem_cons_of_mem _ f)) F_;rw[this,append_assoc];rfl
theorem Le{rE}(k:∀e,fX e=true->fR e=0->rE (a_ (fM e))=e)(t):gPr rE t=iD t:=by
 have key:∀l,dW l=(t,0)->(D5 rE t t.size).2=l:=λl h=>by
  have a:(dW l).2=0:=by rw[h]
  have g:lG l=true:=by
   rw[dW]at a
   grind
  have ⟨hne,d⟩:=IF g;rw[dW,b7 g]at h a;have ⟨f,i,h3⟩:=P1 a;rw[nil_append]at i;rw[i]at h;have j:t=a_ _:=(congrArg Prod.fst h).symm;have:=VV (s:=t) l [] [] (by rw[j];rfl) (λe b=>⟨(LV (d e b) (f e b)).2,k e (d e b) (f e b)⟩) Z;rw[this];rfl
 rw[gPr];by_cases c:20000<t.size
 ·rw[b7 c,iD,b7 c]
 rw[a8 c];by_cases h:dW (D5 rE t t.size).2=(t,0)
 ·rw[b7 h];have a:(dW (D5 rE t t.size).2).2=0:=by rw[h]
  have:=EK a;rw[h]at this;exact this.symm
 rw[iD,a8 c]
 grind
theorem me(n):∀(T) (acc),(∀f∈T,f.text.size<=n)->(∀t∈acc,t.key.size<=n/\t.val.size<=n)->(K9 acc T).1.length<=acc.length+T.length/\∀t∈(K9 acc T).1,t.key.size<=n/\t.val.size<=n
 | [],acc,_,h=>by
  rw[K9]
  simp_all
 | [a],acc,_,h=>by
  rw[K9]
  simp_all
 | [a,b],acc,_,h=>by
  rw[K9]
  simp_all
 | a::b::c::r,acc,e,h=>by
  rw[K9]
  split
  ·have d:=me n r (acc++[mkT a c]) (λf hf=>e f G_) (λt ht=>by
    grind)
   rw[j_,length_singleton]at d;simp[j7];exact⟨X,d.2⟩
  simp_all
theorem Fb{T:List _}{n}(h:∀f∈T,f.text.size<=n)(i):(T.getD i KD).text.size<=n:=by
 rw[getD_eq_getElem?_getD];cases e:T[i]? with
 |none=>exact l7 _
 |some f=>grind
theorem oY:jl h_:=⟨E_,⟨E_,λt h=>by cases h⟩,E_,λs a=>by cases a⟩
theorem tq{T:List b6}{n:Nat}(hn:n<2^40)(d:∀f∈T,f.text.size<=n)(hl:T.length<549755813888):jl (uA T):=by
 have b:MF (sR T).1:=by
  rw[sR]
  split
  ·have h:=me n (T.drop 4) [] (λf c=>d f (mem_of_mem_drop c)) (λt a=>by cases a);rw[q6,length_nil]at h;exact⟨X,λt a=>⟨by have:=(h.2 t a).1;omega,by have:=(h.2 t a).2;omega⟩⟩
  have h:=me n (T.drop (3+(AE T).length+1)) [] (λf c=>d f (mem_of_mem_drop c)) (λt a=>by cases a);rw[q6,length_nil]at h;exact⟨X,λt a=>⟨by have:=(h.2 t a).1;omega,by have:=(h.2 t a).2;omega⟩⟩
 have hid:=Fb d 1;rw[uA]
 split
 ·exact⟨G_,b,F_,λs e=>by cases e⟩
 refine⟨G_,b,?_,λs e=>?_⟩
 ·have:=(takeWhile_sublist (l:=T.drop 3) λf=>decide (f.kind=1)).length_le;rw[AE,j6];rw[q6]at this;omega
 obtain ⟨f,c,rfl⟩:=mem_map.1 (show s∈AE T from e);have:=d f (mem_of_mem_drop ((takeWhile_sublist _).subset c));omega
theorem Hu{s}(a:s.size<2^40):jl (Rp s).1:=by
 rw[Rp]
 split
 ·exact oY
 split
 ·split
  ·exact oY
  split
  ·exact tq a (λf b=>GB s f b) (wR s a)
  exact oY
 exact oY
theorem lb(s):(cO s).length<=s.size+1:=by have a:=HO 32 s.data.toList;rw[aR]at a;rw[cO,j6];omega
theorem bz{s w}(h:w∈cO s):w.size<=s.size:=by obtain ⟨x,a,rfl⟩:=mem_map.1 h;have:=qY _ a;rw[aR]at this;show (a_ x).size<=_;rw[bZ];omega
theorem EU{f x y}{id b node key d}{refs}{c}(m:id.size<=20000)(j:b.size<=20000)(g:node.size<=20000)(h:key.size<=20000)(e:refs.length<=20001)(l:∀s∈refs,s.size<=20000)(k:jl c):
  US ⟨f,id,b,node,x,y,key,d,refs,c⟩/\(⟨f,id,b,node,x,y,key,d,refs,c⟩:b8).refs.length<2^40 :=
 ⟨⟨⟨Nat.lt_of_le_of_lt m H_,Nat.lt_of_le_of_lt j H_,Nat.lt_of_le_of_lt g H_,Nat.lt_of_le_of_lt h H_⟩,⟨Nat.lt_of_le_of_lt e H_,λs i=>Nat.lt_of_le_of_lt (l s i) H_⟩,k⟩,Nat.lt_of_le_of_lt e H_⟩
theorem Ia(f:∀x:B_,x.size<=20000->jl (rP x)){s:B_}(e:s.size<=20000):US (tw rP s)/\(tw rP s).refs.length<2^40:=by
 have b:=λi=>Nat.le_trans (FO s i) e;have a:(a6:B_).size<=20000:=l7 _;have d:([]:List B_).length<=20001:=l7 _;have c:∀s∈([]:List B_),s.size<=20000:=λs h=>by cases h
 rw[tw]
 split
 ·exact EU a a a a d c (f _ (Nat.le_trans (fU s _ _) e))
 split
 ·exact EU (b 1) a a a d c oY
 split
 ·exact EU (b 1) a a (b 2) d c oY
 split
 ·exact EU (b 1) a a a (by rw[q6];have:=lb s;omega) (λw g=>Nat.le_trans (bz (mem_of_mem_drop g)) e) oY
 split
 ·exact EU (b 1) a a a d c oY
 split
 ·exact EU (b 1) (b 3) (b 2) a d c oY
 split
 ·exact EU (b 1) (b 2) a a d c oY
 exact EU a a a a d c oY
abbrev oQ(id:B_)(k x y:Int)(n:Nat):Ob:=bx 6 135 [sv id,iv k,iv x,iv y,.osl 906 n 0 n,.pv .nils]
def qH(id:B_)(k x y:Int)(R:List B_):aF:=[(906,⟨R.length,1,9,cB R⟩),(7,oQ id k x y R.length),(2,bx 6 135 ((bP h_).map .pv))]
abbrev qE(s:B_)(T:List b6):cY:=[(0,sv s),(2,.ref 2 0 0 0),(4,.pv (CL T)),(7,.ref 7 0 0 0)]
theorem aDy(id)(k x y)(R)(s):qH id k x y (R++[s])=[(906,⟨R.length+1,1,9,cB (R++[s])⟩),(7,oQ id k x y (R.length+1)),(2,bx 6 135 ((bP h_).map .pv))]:=by simp[qH]
theorem Eu{α:Type}{p}:∀ {l:List α} {i},i<=(l.takeWhile p).length->(l.length<=i->(l.takeWhile p).length=i)/\∀a,l[i]?=some a->(p a=true->i<(l.takeWhile p).length)/\(p a=false->(l.takeWhile p).length=i)
 | [],i,h=>⟨λ_=>by simp_all,λa ha=>by grind⟩
 | b::l,i,h=>by
  rw[List.takeWhile_cons]at h |-;by_cases hb:p b=true
  ·cases i with
   |zero=>simp_all
   |succ i =>
    obtain ⟨h1,h2⟩:=Eu (l:=l) (p:=p) (i:=i) F_
    simp_all
  simp_all
theorem SJ{s}(h:s.size<=20000):(fJ s).1.length<100000:=by
 unfold fJ
 split
 ·decide
 have a:=H9 (jZ s (s.size+1) 0) [];have h2:=A7 s (s.size+1) 0;rw[length_nil]at a;omega
theorem y0{p:Prop}(h:p:=by simp only[Zl,bS,bP,S_,gP,K_];rfl):p:=h
theorem mf(s:B_)(H:aF)(hs:s.size<=20000):RC 162 [sv s] (.tup [av (bP (Rp s).1),iv (Rp s).2]) H:=by
 refine Pu ?_;have hlen:=wR s X;have hlen2:=SJ hs;have hsz:=λf hf=>GB s f hf;have u:=tq (n:=s.size) X hsz hlen;have hlx:=λH=>ur s H X;rw[Rp,a8 X];have ⟨T,hT⟩:∃T,T=(fJ s).1:=X_;have ⟨er,her⟩:∃e,e=(fJ s).2.1:=X_;have ⟨pp,hpp⟩:∃e,e=(fJ s).2.2:=X_;simp only[<-hT,<-her,<-hpp]at hlen hlen2 hsz u hlx |-;clear hT her hpp;have hmT:(T.map K_).length=T.length:=j6 _;refine Bd func162 Z ntmps162<|O (kl 2 U5)<|V aI<|S<|O aA<|Y (gE U_)<|V iP<|Cn ?_ ?_<;>intro hc1
 ·exact absurd (b9 hc1) X
 refine aB<|O aA<|Y (kc call164 (hlx _))<|Y aA<|Y dK<|Y dK<|Y dK<|Y aI<|Y aI<|V aI<|S<|S<|aQ (t:=30) (n:=8) (A_:=!decide (er=0)||decide (((T.map K_).length:Int)<4)) ?_ ?_
 ·all_goals refine Y aA<|Y zB<|Dm ?_<;>(refine Sp 26 (λh26=>?_) λh26=>?_)<;>(try exact w_)<;>(first|refine M<|M<|M ?_|refine U aA<|U (fW cP)<|U cJ ?_)<;>refine V cC ?_<;>exact Gj (h:=by simp_all)
 refine Cn ?_ ?_<;>intro hc2
 ·have hb:=hc2;rw[a8 (λe=>by grind)];refine O (oI FI)<|Uu (jA sizeOf135)<|V aI<|aC<|fP (H':=[]) (.inr Z) Z (CN bW sizeOf135) (aH Z) (P_ (r:=.tup [av (bP h_),iv 5])) Qq
 have hb:=hc2;rw[q8,Bool.not_eq_false',j0,p_]at hb;have h4:4<=T.length:=X
 rw[b7 ⟨hb.1,h4⟩];have ⟨t0,ht0⟩:=aS (show 0<T.length by omega);have ⟨t,ht1⟩:=aS (show 1<T.length by omega);have ⟨t2,ht2⟩:=aS (show 2<T.length by omega);have ⟨t3,ht3⟩:=aS (show 3<T.length by omega);have i0:=cE (f:=K_) ht0;have i1:=cE (f:=K_) ht1;have i2:=cE (f:=K_) ht2;have i3:=cE (f:=K_) ht3;have hd:∀ {i:Nat} {f:b6},T[i]?=some f->T.getD i KD=f:=fun {i f} h=>by simp_all
 have d1:=hd ht1;have d2:=hd ht2;have d3:=hd ht3;have q:tK T=DT t0.text:=by rw[tK,hd ht0]
 refine aB<|O aA<|Y (iO iA)<|Y (E5 iF)<|Y (fZ N_)<|Y (oI Mk)<|Y (kl 7 Dn)<|Uu (jA sizeOf135)<|Zz<|S<|S ?_;refine gG.ent (E':=qE s T) (H':=qH t.text 0 0 0 []) (Q_ 906 1 9) ?_;refine Rg<|V aI<|aD<|bF (σ:=Nat) (λj=>(qE s T++[(8,iv ((j+1:Nat):Int))],qH t.text (kF t0.text j) 0 0 [])) (λj=>j<=5) (λj=>5 - j) 0 (l7 _) ?_ ?_
 ·exact L_
 rintro j hj;refine S<|O aA<|V G8<|Cn ?_ ?_<;>intro hc3
 ·have hj5:j<5:=I_ hc3
  refine aB<|S<|aD<|S<|aM a7<|Cq aA<|Cq (iO iA)<|Cq (E5 iF)<|Cq (fZ N_)<|Cq aA<|Cq (kc call214 (FZ ((j+1:Nat):Int) _))<|Cq wH<|bG<|Kr<|Cn ?_ ?_<;>intro hc4
  ·have hw:t0.text=eF ((j+1:Nat):Int):=b9 hc4;refine Rd aA<|Y (bA eB)<|Uu (by exact cQ Z sizeOf3 Z Z Z Z Z Z u1 y0 y0)<|Zz<|Rd aA<|Y gX<|Da ?_;refine⟨j+1,X,X,?_⟩;rw[show kF t0.text (j+1)=((j+1:Nat):Int)by rw[kF,b7 hw.symm]];exact L_
  have hw:t0.text≠eF ((j+1:Nat):Int):=b_ hc4;refine aB<|Rd aA<|Y gX<|Da ?_;refine⟨j+1,X,X,?_⟩;rw[show kF t0.text (j+1)=kF t0.text j by rw[kF,a8 (Ne.symm hw)]];exact L_
 have hj5:j=5:=J_ hc3
 subst hj5;rw[vd];generalize DT t0.text=x at q |-;refine aP<|Sz aI<|S<|O (bA eB)<|Y (bQ M_)<|V cD<|Cn ?_ ?_<;>intro hc5
 ·have z:x=1:=b9 hc5;subst z;have z2:t2.text.size<=20000:=Nat.le_trans (hsz _ (m8 ht2)) hs;have z3:t3.text.size<=20000:=Nat.le_trans (hsz _ (m8 ht3)) hs;refine S<|S<|aQ (t:=64) (n:=13) (A_:=!decide (t2.kind=2)||!decide (t3.kind=2)) ?_ ?_
  ·all_goals refine Y aA<|Y (iO iA)<|Y (E5 uT)<|Y (fZ M_)<|Y zB<|Dm ?_<;>(refine Sp 58 (λh58=>?_) λh58=>?_)<;>(try exact w_)<;>(first|refine M<|M<|M<|M<|M ?_|refine U aA<|U (iO iA)<|U (E5 uT)<|U (fZ M_)<|U zB ?_)<;>refine V cC ?_<;>exact Gj (h:=by(simp only[*,Zo];done))
  refine Cn ?_ ?_<;>intro hc6
  ·have hq:=hc6;rw[b7 ⟨q,by rw[RG,d2,d3];revert hq;cases decide (t2.kind=2)<;>cases decide (t3.kind=2)<;>decide⟩];refine O (oI FI)<|Uu (jA sizeOf135)<|V aI<|aC<|fP (H':=[]) (.inr Z) Z (CN bW sizeOf135) (aH Z) (P_ (r:=.tup [av (bP h_),iv 5])) Qq
  have hq:=hc6;rw[a8 (λe=>by have h2:=e.2;rw[RG,d2,d3]at h2;revert hq h2;cases decide (t2.kind=2)<;>cases decide (t3.kind=2)<;>decide)];have v:min ((4:Nat):Int) ((T.map K_).length:Int)=((min (4) T.length:Nat):Int):=by rw[hmT];omega
  have hrl3:∀r∈T.map K_,r.length=3:=λr hr=>by
   obtain ⟨f,_,rfl⟩:=mem_map.1 hr;rfl
  have y:((T.map K_).take (T.map K_).length).drop (min (4) T.length)=(T.drop (4)).map K_:=by
   rw[take_length,map_drop];rcases Nat.le_total (4) T.length with h|h
   ·rw[Nat.min_eq_left h]
   rw[Nat.min_eq_right h,drop_of_length_le (by rw[hmT];exact g_ _),drop_of_length_le (by rw[hmT];exact h)]
  have hml:min (4) T.length<=(T.map K_).length:=by rw[hmT];exact Nat.min_le_right _ _
  have w:=λH=>LX (T.drop (4)) H m5;have hTG:=(show sR T=K9 [] (T.drop 4)by rw[sR,b7 q]);have hOT:=(show uA T=⟨t.text,1,ak t2.text,ak t3.text,[],(sR T).1⟩by rw[uA,b7 q,d1,d2,d3]);have ⟨G,hG⟩:∃G,G=K9 [] (T.drop (4)):=X_;rw[hOT,hTG]at u;rw[hOT,hTG];simp only[<-hG]at w u |-;clear hG hTG hOT;refine aB<|aM a7<|x_ aA<|x_ ((iO iA))<|x_ ((E5 iF))<|x_ ((fZ N_))<|x_ (by exact bH Z Z call215 Z (RE t2.text _ X))<|x_ aA<|x_ ((iO iA))<|x_ ((E5 iF))<|x_ ((fZ N_))<|x_ (by exact bH Z Z call215 Z (RE t3.text _ X))<|x_ ((oI KZ))<|Cr [7] (λ_ h=>fh mK h)<|Cp [7] (λH1 hH=>by exact qO Z sizeOf104 Z Z Z Z ((hH _ Z).trans Z) Z Z u1 y0 y0)<|bG<|Kr<|S ?_;refine gG.ent (cL.fzG (id:=906) (E':=qE s T++[(9,iv ((4:Nat):Int))]) (H':=[(7,bx 6 135 [sv (t.text),iv (1),iv ((ak t2.text)),iv ((ak t3.text)),.pv (aL (([]:List B_))),.pv .nils]),(2,bx 6 135 ((bP h_).map .pv))]) ((([]:List B_)).map S_) Z (eT _) ?_ Z ?_ ?_) ?_
  ·intro p hp;simp only[cons_append,nil_append,l9,q7,or_false]at hp;rcases hp with rfl|rfl|rfl|rfl|rfl<;>exact⟨_,Z,.same (by simp;try rfl)⟩
  ·exact⟨⟨_,Z,Z,Z,Z,lW Z (bC (.same H_) (bC (.same H_) (bC (.same H_) (bC (.same H_) (bC (.osl (kS S_ _)) (bC (.same H_) kK))))))⟩,⟨_,Z,Z,Z,Z,eP H_⟩,T_⟩
  ·exact T_
  refine Rd aA<|Y aA<|Y aA<|Y (fW cP)<|Y (CV Z Z Z v)<|Y (eY (l:=(min (4) T.length)) (h:=((T.map K_).length)) Z iA Z (by assumption) Z Z X X y)<|Y (kc call216 (w _))<|Y aA<|Y dK<|Y dK<|Y aI<|V aI<|O aA<|Y (bA gA)<|Uu (by exact cQ Z sizeOf133 Z Z Z Z Z Z u1 y0 y0)<|Zz<|O (wQ bW sizeOf135)<|Y (kc call217 (CQ ⟨t.text,1,(ak t2.text),(ak t3.text),([]:List B_),G.1⟩ _ u))<|Y aA<|Y dK<|Y dK<|Y aI<|V aI<|S<|S ?_;refine aQ (t:=131) (n:=13) (A_:=(!G.2||!decide ((fD ⟨t.text,1,(ak t2.text),(ak t3.text),([]:List B_),G.1⟩).2=0))||!decide ((fD ⟨t.text,1,(ak t2.text),(ak t3.text),([]:List B_),G.1⟩).1=s)) ?_ ?_
  ·all_goals refine Y aA<|Y iI<|Dm ?_<;>(refine Sp 123 (λh123=>?_) λh123=>?_)<;>(try exact w_)<;>(first|refine M<|M ?_|refine U aA<|U zB ?_)<;>refine Y cC<|Dm ?_<;>(refine Sp 127 (λh127=>?_) λh127=>?_)<;>(try exact w_)<;>(first|refine M<|M<|M ?_|refine U aA<|U aA<|U DZ ?_)<;>refine V cC ?_<;>exact Gj (h:=by first|(rw[h123];rfl)|(rw[h123,h127];rfl))
  refine Cn ?_ ?_<;>intro hc7
  ·have hq:=hc7;rw[a8 (λe=>by rw[e.1,e.2]at hq;simp at hq)];refine O (oI FI)<|Uu (jA sizeOf135)<|V aI<|aC<|fP (H':=[]) (.inr Z) Z (CN bW sizeOf135) (aH Z) (P_ (r:=.tup [av (bP h_),iv 5])) Qq
  have hq:=hc7;simp only[q8,Bool.not_eq_false',j0]at hq;rw[b7 ⟨hq.1.1,Prod.ext hq.2 hq.1.2⟩];refine aB<|O (wQ bW sizeOf135)<|Uu (jA sizeOf135)<|V aI<|aC<|fP (H':=[]) (.inr Z) Z (CN bW sizeOf135) (aH Z) (P_ (r:=.tup [av (bP ⟨t.text,1,(ak t2.text),(ak t3.text),([]:List B_),G.1⟩),iv 0])) Qq
 have z:x≠1:=b_ hc5;rw[a8 (λe=>z (q.symm.trans e.1))];have ⟨e_,hM⟩:∃e_,e_=T.drop 3:=X_;have hMl:e_.length=T.length - 3:=by rw[hM,q6]
 have ⟨W,hW⟩:∃W,W=e_.takeWhile λf=>decide (f.kind=1):=X_;have hWM:W=e_.take W.length:=by rw[hW];exact prefix_iff_eq_take.1 (takeWhile_prefix _)
 have hWl:W.length<=e_.length:=by rw[hW];exact(takeWhile_sublist _).length_le
 have hRf:AE T=W.map b6.text:=by rw[AE,hW,hM]
 have hg:∀i,i<=W.length->(e_.length<=i->W.length=i)/\∀a,e_[i]?=some a->(decide (a.kind=1)=true->i<W.length)/\(decide (a.kind=1)=false->W.length=i):=λi hi=>by
  rw[hW]at hi |-;exact Eu hi
 refine Sz aI<|S<|aD<|bF (σ:=Nat) (λi=>(qE s T++[(9,iv ((3+i:Nat):Int))],qH t.text x 0 0 ((e_.take i).map b6.text))) (λi=>i<=W.length) (λi=>W.length - i) 0 (l7 _) ?_ ?_
 ·exact L_
 rintro i hi;have ⟨g1,g2⟩:=hg i hi;by_cases hin:3+i<T.length
 ·have ⟨f,hf⟩:=aS hin;have hfM:e_[i]?=some f:=by rw[hM,getElem?_drop];exact hf
  have hif:=cE (f:=K_) hf;have ⟨g3,g4⟩:=g2 f hfM;have A:decide (((3+i:Nat):Int)<((T.map K_).length:Int))=true:=decide_eq_true X;refine S<|S<|aQ (t:=89) (n:=13) (A_:=decide (f.kind=1)) ?_ ?_
  ·all_goals refine Y aA<|Y aA<|Y (fW cP)<|Y (cN.valY (iC Z Z Z) (A))<|Dm ?_<;>(refine Sp 82 (λh82=>?_) λh82=>?_)<;>(try exact w_)<;>refine U aA<|U aA<|U (bU Z iA Z Z X (l_ (3+i)) hif Z)<|U (E5 uT)<|U (fZ M_)<|U cD<|V cC ?_<;>exact Gj (h:=by rfl)
  refine Cn ?_ ?_<;>intro hc8
  ·have hk:=g3 hc8;have hMt:(e_.take (i+1)).map b6.text=(e_.take i).map b6.text++[f.text]:=by rw[take_add_one,hfM,map_append];rfl
   have hRl:((e_.take i).map b6.text).length=i:=by rw[j6,q9];omega
   refine aB<|aD<|S<|aM a7<|Cs (λ_ h=>fh eA h)<|Cs (λ_ h=>lh aG h)<|Cs (λ_ _=>aA)<|Cs (λ_ _=>aA)<|Cs (λH1 hH=>by exact bU Z iA Z Z X (l_ (3+i)) hif Z)<|Cs (λ_ _=>(E5 iF))<|Cs (λ_ _=>(fZ N_))<|Cs (λH1 hH=>by exact aK [S_ f.text] Z bD Z Z Z Z Z R_) ?_;refine iH (r:=⟨_,none,[_]⟩) (DStep.plain Z (λH1 hH=>by exact cA (ps:=[S_ f.text]) Z bD yJ Z ((hH _ Z).trans Z) Z Z Z (eS _) Z R_ (m:=1) Z X Z (gO ((e_.take i).map b6.text) f.text))) Z ?_;refine Cs (λ_ h=>fh eA h)<|iH (r:=⟨_,none,[_]⟩) (DStep.plain Z (λH1 hH=>by exact(by exact cQ Z sizeOf22 Z Z Z ((hH _ Z).trans Z) Z Z u1 y0 y0))) Z ?_;refine bG<|Kr<|Rd aA<|Y gX<|Da ?_;refine⟨i+1,X,X,?_⟩;dsimp only;rw[hMt,aDy];exact L_
  have hk:=g4 hc8;have ⟨R,hR⟩:∃R,R=(e_.take i).map b6.text:=X_;have hWR:AE T=R:=by rw[hRf,hWM,hk,hR]
  rw[<-hR];have v:min (((3+i+1):Nat):Int) ((T.map K_).length:Int)=((min ((3+i+1)) T.length:Nat):Int):=by rw[hmT];omega
  have hrl3:∀r∈T.map K_,r.length=3:=λr hr=>by
   obtain ⟨f,_,rfl⟩:=mem_map.1 hr;rfl
  have y:((T.map K_).take (T.map K_).length).drop (min ((3+i+1)) T.length)=(T.drop ((3+i+1))).map K_:=by
   rw[take_length,map_drop];rcases Nat.le_total ((3+i+1)) T.length with h|h
   ·rw[Nat.min_eq_left h]
   rw[Nat.min_eq_right h,drop_of_length_le (by rw[hmT];exact g_ _),drop_of_length_le (by rw[hmT];exact h)]
  have hml:min ((3+i+1)) T.length<=(T.map K_).length:=by rw[hmT];exact Nat.min_le_right _ _
  have w:=λH=>LX (T.drop ((3+i+1))) H m5;have hTG:=(show sR T=K9 [] (T.drop (3+i+1))by rw[sR,a8 (λe=>z (q.symm.trans e)),hRf,j6,hk]);have hOT:=(show uA T=⟨t.text,x,0,0,R,(sR T).1⟩by rw[uA,a8 (λe=>z (q.symm.trans e)),d1,q,hWR]);have ⟨G,hG⟩:∃G,G=K9 [] (T.drop ((3+i+1))):=X_;rw[hOT,hTG]at u;rw[hOT,hTG];simp only[<-hG]at w u |-;clear hG hTG hOT;refine aP<|Rd aA<|Y gX<|V aI<|S ?_;refine gG.ent (cL.fzG (id:=906) (E':=qE s T++[(9,iv (((3+i+1):Nat):Int))]) (H':=[(7,bx 6 135 [sv (t.text),iv (x),iv (0),iv (0),.pv (aL (R)),.pv .nils]),(2,bx 6 135 ((bP h_).map .pv))]) ((R).map S_) Z (eT _) ?_ Z ?_ ?_) ?_
  ·intro p hp;simp only[cons_append,nil_append,l9,q7,or_false]at hp;rcases hp with rfl|rfl|rfl|rfl|rfl<;>exact⟨_,Z,.same (by simp;try rfl)⟩
  ·exact⟨⟨_,Z,Z,Z,Z,lW Z (bC (.same H_) (bC (.same H_) (bC (.same H_) (bC (.same H_) (bC (.osl (kS S_ _)) (bC (.same H_) kK))))))⟩,⟨_,Z,Z,Z,Z,eP H_⟩,T_⟩
  ·exact T_
  refine Rd aA<|Y aA<|Y aA<|Y (fW cP)<|Y (CV Z Z Z v)<|Y (eY (l:=(min ((3+i+1)) T.length)) (h:=((T.map K_).length)) Z iA Z (by assumption) Z Z X X y)<|Y (kc call216 (w _))<|Y aA<|Y dK<|Y dK<|Y aI<|V aI<|O aA<|Y (bA gA)<|Uu (by exact cQ Z sizeOf133 Z Z Z Z Z Z u1 y0 y0)<|Zz<|O (wQ bW sizeOf135)<|Y (kc call217 (CQ ⟨t.text,x,0,0,R,G.1⟩ _ u))<|Y aA<|Y dK<|Y dK<|Y aI<|V aI<|S<|S ?_;refine aQ (t:=131) (n:=13) (A_:=(!G.2||!decide ((fD ⟨t.text,x,0,0,R,G.1⟩).2=0))||!decide ((fD ⟨t.text,x,0,0,R,G.1⟩).1=s)) ?_ ?_
  ·all_goals refine Y aA<|Y iI<|Dm ?_<;>(refine Sp 123 (λh123=>?_) λh123=>?_)<;>(try exact w_)<;>(first|refine M<|M ?_|refine U aA<|U zB ?_)<;>refine Y cC<|Dm ?_<;>(refine Sp 127 (λh127=>?_) λh127=>?_)<;>(try exact w_)<;>(first|refine M<|M<|M ?_|refine U aA<|U aA<|U DZ ?_)<;>refine V cC ?_<;>exact Gj (h:=by first|(rw[h123];rfl)|(rw[h123,h127];rfl))
  refine Cn ?_ ?_<;>intro hc9
  ·have hq:=hc9;rw[a8 (λe=>by rw[e.1,e.2]at hq;simp at hq)];refine O (oI FI)<|Uu (jA sizeOf135)<|V aI<|aC<|fP (H':=[]) (.inr Z) Z (CN bW sizeOf135) (aH Z) (P_ (r:=.tup [av (bP h_),iv 5])) Qq
  have hq:=hc9;simp only[q8,Bool.not_eq_false',j0]at hq;rw[b7 ⟨hq.1.1,Prod.ext hq.2 hq.1.2⟩];refine aB<|O (wQ bW sizeOf135)<|Uu (jA sizeOf135)<|V aI<|aC<|fP (H':=[]) (.inr Z) Z (CN bW sizeOf135) (aH Z) (P_ (r:=.tup [av (bP ⟨t.text,x,0,0,R,G.1⟩),iv 0])) Qq
 have hk:=g1 X;have A:decide (((3+i:Nat):Int)<((T.map K_).length:Int))=false:=decide_eq_false X;have ⟨R,hR⟩:∃R,R=(e_.take i).map b6.text:=X_;have hWR:AE T=R:=by rw[hRf,hWM,hk,hR]
 rw[<-hR];refine S<|S<|aQ (t:=89) (n:=13) (A_:=false) ?_ ?_
 ·all_goals refine Y aA<|Y aA<|Y (fW cP)<|Y (cN.valY (iC Z Z Z) (A))<|Dm ?_<;>(refine Sp 82 (λh82=>?_) λh82=>?_)<;>(try exact w_)<;>refine M<|M<|M<|M<|M<|M<|V cC ?_<;>exact Gj (h:=by rfl)
 refine Cn ?_ ?_<;>intro hc10
 ·cases hc10
 have v:min (((3+i+1):Nat):Int) ((T.map K_).length:Int)=((min ((3+i+1)) T.length:Nat):Int):=by rw[hmT];omega
 have hrl3:∀r∈T.map K_,r.length=3:=λr hr=>by
  obtain ⟨f,_,rfl⟩:=mem_map.1 hr;rfl
 have y:((T.map K_).take (T.map K_).length).drop (min ((3+i+1)) T.length)=(T.drop ((3+i+1))).map K_:=by
  rw[take_length,map_drop];rcases Nat.le_total ((3+i+1)) T.length with h|h
  ·rw[Nat.min_eq_left h]
  rw[Nat.min_eq_right h,drop_of_length_le (by rw[hmT];exact g_ _),drop_of_length_le (by rw[hmT];exact h)]
 have hml:min ((3+i+1)) T.length<=(T.map K_).length:=by rw[hmT];exact Nat.min_le_right _ _
 have w:=λH=>LX (T.drop ((3+i+1))) H m5;have hTG:=(show sR T=K9 [] (T.drop (3+i+1))by rw[sR,a8 (λe=>z (q.symm.trans e)),hRf,j6,hk]);have hOT:=(show uA T=⟨t.text,x,0,0,R,(sR T).1⟩by rw[uA,a8 (λe=>z (q.symm.trans e)),d1,q,hWR]);have ⟨G,hG⟩:∃G,G=K9 [] (T.drop ((3+i+1))):=X_;rw[hOT,hTG]at u;rw[hOT,hTG];simp only[<-hG]at w u |-;clear hG hTG hOT;refine aP<|Rd aA<|Y gX<|V aI<|S ?_;refine gG.ent (cL.fzG (id:=906) (E':=qE s T++[(9,iv (((3+i+1):Nat):Int))]) (H':=[(7,bx 6 135 [sv (t.text),iv (x),iv (0),iv (0),.pv (aL (R)),.pv .nils]),(2,bx 6 135 ((bP h_).map .pv))]) ((R).map S_) Z (eT _) ?_ Z ?_ ?_) ?_
 ·intro p hp;simp only[cons_append,nil_append,l9,q7,or_false]at hp;rcases hp with rfl|rfl|rfl|rfl|rfl<;>exact⟨_,Z,.same (by simp;try rfl)⟩
 ·exact⟨⟨_,Z,Z,Z,Z,lW Z (bC (.same H_) (bC (.same H_) (bC (.same H_) (bC (.same H_) (bC (.osl (kS S_ _)) (bC (.same H_) kK))))))⟩,⟨_,Z,Z,Z,Z,eP H_⟩,T_⟩
 ·exact T_
 refine Rd aA<|Y aA<|Y aA<|Y (fW cP)<|Y (CV Z Z Z v)<|Y (eY (l:=(min ((3+i+1)) T.length)) (h:=((T.map K_).length)) Z iA Z (by assumption) Z Z X X y)<|Y (kc call216 (w _))<|Y aA<|Y dK<|Y dK<|Y aI<|V aI<|O aA<|Y (bA gA)<|Uu (by exact cQ Z sizeOf133 Z Z Z Z Z Z u1 y0 y0)<|Zz<|O (wQ bW sizeOf135)<|Y (kc call217 (CQ ⟨t.text,x,0,0,R,G.1⟩ _ u))<|Y aA<|Y dK<|Y dK<|Y aI<|V aI<|S<|S ?_;refine aQ (t:=131) (n:=13) (A_:=(!G.2||!decide ((fD ⟨t.text,x,0,0,R,G.1⟩).2=0))||!decide ((fD ⟨t.text,x,0,0,R,G.1⟩).1=s)) ?_ ?_
 ·all_goals refine Y aA<|Y iI<|Dm ?_<;>(refine Sp 123 (λh123=>?_) λh123=>?_)<;>(try exact w_)<;>(first|refine M<|M ?_|refine U aA<|U zB ?_)<;>refine Y cC<|Dm ?_<;>(refine Sp 127 (λh127=>?_) λh127=>?_)<;>(try exact w_)<;>(first|refine M<|M<|M ?_|refine U aA<|U aA<|U DZ ?_)<;>refine V cC ?_<;>exact Gj (h:=by first|(rw[h123];rfl)|(rw[h123,h127];rfl))
 refine Cn ?_ ?_<;>intro hc11
 ·have hq:=hc11;rw[a8 (λe=>by rw[e.1,e.2]at hq;simp at hq)];refine O (oI FI)<|Uu (jA sizeOf135)<|V aI<|aC<|fP (H':=[]) (.inr Z) Z (CN bW sizeOf135) (aH Z) (P_ (r:=.tup [av (bP h_),iv 5])) Qq
 have hq:=hc11;simp only[q8,Bool.not_eq_false',j0]at hq;rw[b7 ⟨hq.1.1,Prod.ext hq.2 hq.1.2⟩];refine aB<|O (wQ bW sizeOf135)<|Uu (jA sizeOf135)<|V aI<|aC<|fP (H':=[]) (.inr Z) Z (CN bW sizeOf135) (aH Z) (P_ (r:=.tup [av (bP ⟨t.text,x,0,0,R,G.1⟩),iv 0])) Qq
end Go.Proofs.YtopnleflllkbmaaGreatDoor
namespace Go.Proofs.YtopnleflllkbmaaGreatDoor
open Go.Proofs.Tryz
open Go.Abs Go.Lib
theorem Hz{rP:B_->l6}{rX:B_->Int}(hP:∀(x:B_) (H:aF),x.size<=20000->RC 162 [sv x] (.tup [av (bP (rP x)),iv (rX x)]) H)(s:B_)(H:aF)(hs:s.size<=20000):
  RC 109 [sv s] (av (bJ (tw rP s))) H:=by
 refine Pu ?_;have hsp:=λH=>Hm s H X;have hw0:∀i,i<(cO s).length->((cO s).map S_)[i]?=some (S_ (wW s i)):=λi hi=>Xy hi;have hf0:4<=(cO s).length->(wW s 0).size+(wW s 1).size+(wW s 2).size+3<=s.size:=aAj;have hpos:0<(cO s).length:=by rw[cO,j6];exact rA _ _
 rw[tw];have ⟨L,hL⟩:∃L,L=cO s:=X_;simp only[<-hL]at hsp hw0 hf0 hpos |-;clear hL;have hml:(L.map S_).length=L.length:=j6 _;have i0:=hw0 0 hpos;refine Bd func109 Z ntmps109<|Sz (kl 2 U4)<|O aA<|Y (kc call161 (hsp _))<|V aI<|O aA<|Y (fW aE)<|V aI<|S<|S<|aQ (t:=22) (n:=10) (A_:=decide (wW s 0=⟨#[112,117,116]⟩)&&decide ((4:Int)<(s.size:Int))) ?_ ?_
 ·all_goals refine Y aA<|Y (iO bD)<|Y (fZ N_)<|Y wH<|Dm ?_<;>(refine Sp 18 (λh18=>?_) λh18=>?_)<;>(first|exact s_|refine M<|M<|M ?_|refine U aA<|U (gE U_)<|U iP ?_)<;>refine V cC ?_<;>exact Gj (h:=by(simp only[*,Zo];done))
 refine Cn ?_ ?_<;>intro hc1
 ·have h1:wW s 0=a_ wPut/\_:=zZ hc1;rw[b7 ⟨h1.1,X⟩];refine O aA<|Y (bM (l:=4) (h:=s.size) Z U_ Z Z Z X (g_ _) Z)<|Y (kc call162 (hP (s.extract 4 s.size) _ (Nat.le_trans (fU s 4 s.size) hs)))<|Y aA<|Y dK<|Y dK<|Y (kl 5 U5)<|Uu (jA sizeOf135)<|V aI<|O (by exact aW Z bW sizeOf135 Z Z Z Z (by simp only[Zl,bS,bP,S_,bJ,gP,K_];rfl) Z)<|Y (oI tT)<|Uu (jA aZ)<|Zz<|aC ?_;refine cR (H':=[]) (.inr Z) Z (CN cU aZ) (P_ (r:=av (bJ ⟨1,a6,a6,a6,0,0,a6,a6,[],rP (s.extract 4 s.size)⟩))) ?_;exact Qq
 have h1:¬ (wW s 0=a_ wPut/\_):=AA hc1;rw[a8 (λh=>h1 ⟨h.1,X⟩)];refine aB<|S<|S<|aQ (t:=38) (n:=9) (A_:=decide (wW s 0=⟨#[109,111,118,101]⟩)&&decide (((L.map S_).length:Int)=4)) ?_ ?_
 ·all_goals refine Y aA<|Y (iO bD)<|Y (fZ N_)<|Y wH<|Dm ?_<;>(refine Sp 35 (λh35=>?_) λh35=>?_)<;>(first|exact s_|refine M<|M ?_|refine U aA<|U cD ?_)<;>refine V cC ?_<;>exact Gj (h:=by(simp only[*,Zo];done))
 refine Cn ?_ ?_<;>intro hc2
 ·have h2:wW s 0=a_ I6/\_:=zZ hc2;rw[b7 ⟨h2.1,X⟩];have i1:=hw0 1 X;have i2:=hw0 2 X;have i3:=hw0 3 X;have z2:=FO s 2;have z3:=FO s 3;refine S<|aM a7<|x_ aA<|x_ ((iO bD))<|x_ ((fZ N_))<|x_ aA<|x_ ((iO bD))<|x_ ((fZ N_))<|x_ (by exact bH Z Z call163 Z (VW (wW s 2) _ X))<|x_ aA<|x_ ((iO bD))<|x_ ((fZ N_))<|x_ (by exact bH Z Z call163 Z (VW (wW s 3) _ X))<|x_ ((oI KZ))<|x_ ((oI tT))<|Cp [2] (λ_ h=>sa aZ h)<|bG<|Kr<|aC ?_;refine cR (H':=[]) (.inr Z) Z (CN cU aZ) (P_ (r:=av (bJ ⟨2,wW s 1,a6,a6,JQ (wW s 2),JQ (wW s 3),a6,a6,[],h_⟩))) Qq
 have h2:¬ (wW s 0=a_ I6/\_):=AA hc2;rw[a8 (λh=>h2 ⟨h.1,X⟩)];refine aB<|eK (λ(_:Unit)=>([(0,sv s),(2,.ref 2 0 0 0),(3,.pv (aL L)),(4,iv ((L.map S_).length:Int))],[(2,bx 15 137 ((bJ NZ).map .pv))])) (λ_=>¬ ((wW s 0=a_ A5/\4<=L.length)/\HT s=true)) ?_ ?_
 ·refine S<|aQ (t:=59) (n:=9) (A_:=decide (wW s 0=⟨#[116,97,103]⟩)&&decide ((4:Int)<=((L.map S_).length:Int))) ?_ ?_
  ·all_goals refine Y aA<|Y (iO bD)<|Y (fZ N_)<|Y wH<|Dm ?_<;>(refine Sp 56 (λh56=>?_) λh56=>?_)<;>(try exact w_)<;>(first|refine M<|M ?_|refine U aA<|U zU ?_)<;>refine V cC ?_<;>exact Gj (h:=by(simp only[*,Zo];done))
  refine Cn ?_ ?_<;>intro hc3
  ·have h3:wW s 0=a_ A5/\_:=zZ hc3;have i1:=hw0 1 X;have i2:=hw0 2 X;have z0:=FO s 0;have z1:=FO s 1;have z2:=FO s 2;have hf3:=hf0 X;have hrs:(mO s).size<=s.size:=fU s _ _;have hlx:=λH=>ur (mO s) H X;have hto:HT s=((decide ((fJ (mO s)).2.1=0)&&decide ((fJ (mO s)).1.length=1))&&decide (((fJ (mO s)).1.getD 0 KD).kind=3)):=rfl;have ⟨R,hR⟩:∃R,R=mO s:=X_;have hRx:s.extract ((wW s 0).size+(wW s 1).size+(wW s 2).size+3) s.size=R:=by rw[hR];rfl
   rw[<-hR]at hlx hto;have ⟨T,hT⟩:∃T,T=(fJ R).1:=X_;have ⟨er,her⟩:∃e,e=(fJ R).2.1:=X_;have ⟨pp,hpp⟩:∃e,e=(fJ R).2.2:=X_;have hTr:T=(fJ (mO s)).1:=by rw[hT,hR]
   simp only[<-hT,<-her,<-hpp]at hlx hto;clear hT her hpp hR;have hmT:(T.map K_).length=T.length:=j6 _;clear h1 h2;by_cases hone:T.length=1
   ·have ⟨t,ht⟩:=length_eq_one_iff.1 hone;have hi0:(T.map K_)[0]?=some [.int .i64 t.kind,.str t.text,.int .i64 t.pos]:=by rw[ht];rfl
    have hg0:T.getD 0 KD=t:=by rw[ht];rfl
    rw[hg0,decide_eq_true hone,Bool.and_true]at hto;have hon2:decide (((T.map K_).length:Int)=1)=true:=decide_eq_true X;refine S<|aM a7<|Cq aA<|Cq aA<|Cq (iO bD)<|Cq (fZ N_)<|Cq (gE U_)<|Cq aA<|Cq (iO bD)<|Cq (fZ N_)<|Cq (gE U_)<|Cq gX<|Cq aA<|Cq (iO bD)<|Cq (fZ N_)<|Cq (gE U_)<|Cq gX<|Cq gX<|Cq (bM (l:=(wW s 0).size+(wW s 1).size+(wW s 2).size+3) (h:=s.size) Z U_ Z Z Z hf3 (g_ _) hRx)<|Cq (kc call164 (hlx _))<|Cq aA<|Cq dK<|Cq dK<|Cq dK<|Cq aI<|Cq aI<|Cq aI<|bG<|Kr<|S<|aQ (t:=95) (n:=16) (A_:=decide (er=0)&&decide (t.kind=3)) ?_ ?_
    ·all_goals refine Y aA<|Y cD<|Dm ?_<;>(refine Sp 84 (λh84=>?_) λh84=>?_)<;>(try exact w_)<;>(first|refine M<|M<|M ?_|refine U aA<|U (fW cP)<|U (cN.valY (nK Z Z Z) (hon2)) ?_)<;>refine Y cC<|Dm ?_<;>(refine Sp 89 (λh89=>?_) λh89=>?_)<;>(try exact w_)<;>(first|refine M<|M<|M<|M<|M ?_|refine U aA<|U (bU Z iA Z Z X (show (0:Int).toNat=0 from Z) hi0 Z)<|U (E5 uT)<|U (fZ M_)<|U cD ?_)<;>refine V cC ?_<;>exact Gj (h:=by(simp only[*,Zo];done))
    refine Cn ?_ ?_<;>intro hc4
    ·have hq:HT s=true:=hto.trans hc4;rw[b7 ⟨⟨h3.1,X⟩,hq⟩,<-hTr,hg0];refine S<|aM a7<|x_ aA<|x_ (by exact bU Z bD Z Z X (show (1:Int).toNat=1 from Z) i1 Z)<|x_ ((fZ N_))<|x_ aA<|x_ (by exact bU Z bD Z Z X (show (2:Int).toNat=2 from Z) i2 Z)<|x_ ((fZ N_))<|x_ aA<|x_ (by exact bU Z iA Z Z X (show (0:Int).toNat=0 from Z) hi0 Z)<|x_ ((E5 iF))<|x_ ((fZ N_))<|x_ ((oI tT))<|Cp [2] (λ_ h=>sa aZ h)<|bG<|Kr<|aC ?_;refine cR (H':=[]) (.inr Z) Z (CN cU aZ) (P_ (r:=av (bJ ⟨3,wW s 1,a6,a6,0,0,wW s 2,t.text,[],h_⟩))) Qq
    have hq:HT s=false:=hto.trans hc4;refine aB ?_;exact⟨(),(λh=>by have:=h.2;rw[hq]at this;cases this),Wk⟩
   have hon2:decide (((T.map K_).length:Int)=1)=false:=decide_eq_false X;rw[decide_eq_false hone,Bool.and_false,Bool.false_and]at hto;refine S<|aM a7<|Cq aA<|Cq aA<|Cq (iO bD)<|Cq (fZ N_)<|Cq (gE U_)<|Cq aA<|Cq (iO bD)<|Cq (fZ N_)<|Cq (gE U_)<|Cq gX<|Cq aA<|Cq (iO bD)<|Cq (fZ N_)<|Cq (gE U_)<|Cq gX<|Cq gX<|Cq (bM (l:=(wW s 0).size+(wW s 1).size+(wW s 2).size+3) (h:=s.size) Z U_ Z Z Z hf3 (g_ _) hRx)<|Cq (kc call164 (hlx _))<|Cq aA<|Cq dK<|Cq dK<|Cq dK<|Cq aI<|Cq aI<|Cq aI<|bG<|Kr<|S<|aQ (t:=95) (n:=16) (A_:=false) ?_ ?_
   ·all_goals refine Y aA<|Y cD<|Dm ?_<;>(refine Sp 84 (λh84=>?_) λh84=>?_)<;>(try exact w_)<;>(first|refine M<|M<|M ?_|refine U aA<|U (fW cP)<|U (cN.valY (nK Z Z Z) (hon2)) ?_)<;>refine Y cC<|Dm ?_<;>(refine Sp 89 (λh89=>?_) λh89=>?_)<;>(try exact w_)<;>refine M<|M<|M<|M<|M<|V cC ?_<;>exact Gj (h:=by rfl)
   refine Cn ?_ ?_<;>intro hc5
   ·cases hc5
   refine aB ?_;exact⟨(),(λh=>by have:=h.2;rw[hto]at this;cases this),Wk⟩
  have h3:¬ (wW s 0=a_ A5/\_):=AA hc3;refine aB ?_;exact⟨(),(λh=>h3 ⟨h.1.1,X⟩),Wk⟩
 rintro _ hno;rw[a8 hno];clear h1 h2 hno;refine S<|S<|aQ (t:=114) (n:=9) (A_:=decide (wW s 0=⟨#[114,101,102,115]⟩)&&decide ((2:Int)<=((L.map S_).length:Int))) ?_ ?_
 ·all_goals refine Y aA<|Y (iO bD)<|Y (fZ N_)<|Y wH<|Dm ?_<;>(refine Sp 111 (λh111=>?_) λh111=>?_)<;>(try exact w_)<;>(first|refine M<|M ?_|refine U aA<|U zU ?_)<;>refine V cC ?_<;>exact Gj (h:=by(simp only[*,Zo];done))
 refine Cn ?_ ?_<;>intro hc6
 ·have h4:wW s 0=a_ I0/\_:=zZ hc6;rw[b7 ⟨h4.1,X⟩];have i1:=hw0 1 X;refine S<|aM a7<|x_ aA<|x_ ((iO bD))<|x_ ((fZ N_))<|x_ aA<|x_ (by exact eY (l:=2) (h:=(L.map S_).length) (rows':=(L.drop 2).map S_) Z bD Z (IK _) Z Z X (g_ _) (by rw[take_length];exact map_drop.symm))<|x_ ((oI tT))<|Cp [2] (λ_ h=>sa aZ h)<|bG<|Kr<|aC ?_;refine cR (H':=[]) (.inr Z) Z (CN cU aZ) (P_ (r:=av (bJ ⟨4,wW s 1,a6,a6,0,0,a6,a6,L.drop 2,h_⟩))) Qq
 have h4:¬ (wW s 0=a_ I0/\_):=AA hc6;rw[a8 (λh=>h4 ⟨h.1,X⟩)];refine aB<|S<|S<|aQ (t:=128) (n:=9) (A_:=decide (wW s 0=⟨#[100,114,111,112]⟩)&&decide (((L.map S_).length:Int)=2)) ?_ ?_
 ·all_goals refine Y aA<|Y (iO bD)<|Y (fZ N_)<|Y wH<|Dm ?_<;>(refine Sp 125 (λh125=>?_) λh125=>?_)<;>(try exact w_)<;>(first|refine M<|M ?_|refine U aA<|U cD ?_)<;>refine V cC ?_<;>exact Gj (h:=by(simp only[*,Zo];done))
 refine Cn ?_ ?_<;>intro hc7
 ·have h5:wW s 0=a_ I9/\_:=zZ hc7;rw[b7 ⟨h5.1,X⟩];have i1:=hw0 1 X;refine O aA<|Y (iO bD)<|Y (fZ N_)<|Y (oI tT)<|Uu (jA aZ)<|Zz<|aC<|cR (H':=[]) (.inr Z) Z (CN cU aZ) (P_ (r:=av (bJ ⟨5,wW s 1,a6,a6,0,0,a6,a6,[],h_⟩))) Qq
 have h5:¬ (wW s 0=a_ I9/\_):=AA hc7;rw[a8 (λh=>h5 ⟨h.1,X⟩)];refine aB<|S<|S<|aQ (t:=140) (n:=9) (A_:=decide (wW s 0=⟨#[115,112,108,105,116]⟩)&&decide (((L.map S_).length:Int)=4)) ?_ ?_
 ·all_goals refine Y aA<|Y (iO bD)<|Y (fZ N_)<|Y wH<|Dm ?_<;>(refine Sp 137 (λh137=>?_) λh137=>?_)<;>(try exact w_)<;>(first|refine M<|M ?_|refine U aA<|U cD ?_)<;>refine V cC ?_<;>exact Gj (h:=by(simp only[*,Zo];done))
 refine Cn ?_ ?_<;>intro hc8
 ·have h6:wW s 0=a_ CC/\_:=zZ hc8;rw[b7 ⟨h6.1,X⟩];have i1:=hw0 1 X;have i2:=hw0 2 X;have i3:=hw0 3 X;refine S<|aM a7<|x_ aA<|x_ ((iO bD))<|x_ ((fZ N_))<|x_ aA<|x_ ((iO bD))<|x_ ((fZ N_))<|x_ aA<|x_ ((iO bD))<|x_ ((fZ N_))<|x_ ((oI tT))<|Cp [2] (λ_ h=>sa aZ h)<|bG<|Kr<|aC<|cR (H':=[]) (.inr Z) Z (CN cU aZ) (P_ (r:=av (bJ ⟨6,wW s 1,wW s 3,wW s 2,0,0,a6,a6,[],h_⟩))) Qq
 have h6:¬ (wW s 0=a_ CC/\_):=AA hc8;rw[a8 (λh=>h6 ⟨h.1,X⟩)];refine aB<|S<|S<|aQ (t:=158) (n:=9) (A_:=decide (wW s 0=⟨#[106,111,105,110]⟩)&&decide (((L.map S_).length:Int)=3)) ?_ ?_
 ·all_goals refine Y aA<|Y (iO bD)<|Y (fZ N_)<|Y wH<|Dm ?_<;>(refine Sp 155 (λh155=>?_) λh155=>?_)<;>(try exact w_)<;>(first|refine M<|M ?_|refine U aA<|U cD ?_)<;>refine V cC ?_<;>exact Gj (h:=by(simp only[*,Zo];done))
 refine Cn ?_ ?_<;>intro hc9
 ·have h7:wW s 0=a_ I7/\_:=zZ hc9;rw[b7 ⟨h7.1,X⟩];have i1:=hw0 1 X;have i2:=hw0 2 X;refine S<|aM a7<|x_ aA<|x_ ((iO bD))<|x_ ((fZ N_))<|x_ aA<|x_ ((iO bD))<|x_ ((fZ N_))<|x_ ((oI tT))<|Cp [2] (λ_ h=>sa aZ h)<|bG<|Kr<|aC<|cR (H':=[]) (.inr Z) Z (CN cU aZ) (P_ (r:=av (bJ ⟨7,wW s 1,wW s 2,a6,0,0,a6,a6,[],h_⟩))) Qq
 have h7:¬ (wW s 0=a_ I7/\_):=AA hc9;rw[a8 (λh=>h7 ⟨h.1,X⟩)];refine aB<|O (oI tT)<|Uu (jA aZ)<|Zz<|aC<|cR (H':=[]) (.inr Z) Z (CN cU aZ) (P_ (r:=av (bJ NZ))) Qq
abbrev RS:=List B_×Bool
abbrev tu(q:RS):Ob:=bx 2 99 [.pv (aL q.1),bv q.2]
abbrev tv(q:RS):aF:=[(980,tu q)]
abbrev tk:AV:=.ref 980 0 0 0
theorem tt(q)(H):∀r∈(tu q).rows,∀a∈r,Clo H a:=H_
instance(q)(H):W_ (H) ((tu q).rows):=⟨tt q H⟩
def Oc(f:FuncId)(q:RS)(v:AV)(q':RS):Prop:=∀H1:aF,H1.get 980=some (tu q)->aU Tryz.prog f [tk] H1 (λr H'=>r=v/\H'=tv q'++H1)
theorem Oc.of{f}{q a}{v}(h:aU Tryz.prog f [tk] (tv q) (λr H'=>r=v/\H'=tv a)):Oc f q v a:=λH1 c=>by
 have hk:∀(q) id,980≠id->(tv q).get id=none:=λq id e=>by simp[aF.get,jR e]
 refine aU.frame h (λid ob b=>?_) (dG.ofL ⟨tt q _,T_⟩) m3 (λid hi=>?_)
 ·by_cases e:980=id
  ·subst e;cases b;exact c
  grind
 by_cases e:980=id
 ·subst e;exact .inl Z
 grind
def rN(q:RS):B_×RS:=(q.1.headD a6,(q.1.drop 1,q.2||decide (q.1.length=0)))
theorem uR(q:RS)(hq:q.1.length<2^40):Oc 63 q (sv (rN q).1) (rN q).2:=by
 refine Oc.of ?_;have ⟨L,b⟩:=q;rcases L with _|⟨s,L⟩
 ·refine Bd func63 Z ntmps63<|Sz aI<|S<|O aA<|Y sE<|Y (bA MZ)<|Y (bQ aG)<|Y (fW aE)<|V (cN.valY (nK Z Z Z) ((decide_eq_true Z)))<|Cn ?_ ?_<;>intro hc1
  ·refine O aA<|Y sE<|Y (bA MY)<|Uu (by exact cQ Z sizeOf4 Z Z Z Z Z Z u1 u0 u0)<|Zz<|Sz aI<|aC ?_;refine cR (H':=(tv ([],true))) (.inr Z) Z (aH Z) P_ ?_;exact⟨Z,by simp[rN]⟩
  cases hc1
 have hml:((s::L).map S_).length=L.length+1:=by rw[j6];rfl
 have hq2:L.length+1<2^40:=hq;refine Bd func63 Z ntmps63<|Sz aI<|S<|O aA<|Y sE<|Y (bA MZ)<|Y (bQ aG)<|Y (fW aE)<|V (cN.eqv (nK Z Z Z) (by rw[hml,decide_eq_false X]))<|Cn ?_ ?_<;>intro hc1
 ·cases hc1
 refine aB<|O aA<|Y sE<|Y (bA MZ)<|Y (bQ aG)<|Y (bU Z bD Z Z X (l_ _) Z Z)<|Y (fZ N_ (hi:=rfl))<|V aI<|O aA<|Y aA<|Y sE<|Y (bA MZ)<|Y (bQ aG)<|Y (by exact eY (l:=1) (h:=((s::L).map S_).length) (rows':=L.map S_) Z bD Z (fY _) Z Z H_ (g_ _) (by rw[take_length];rfl))<|Y sE<|Y (bA MZ)<|Uu (by exact cQ Z sizeOf22 Z Z Z Z Z Z u1 u0 u0)<|Zz<|O aA<|V aI<|aC ?_;refine cR (H':=(tv (L,b))) (.inr Z) Z (aH Z) P_ ?_;exact⟨Z,by simp[rN]⟩
def UV(l:List UInt8):Int:=l.foldl (λn b=>10*n+(b.toNat:Int) - 48) 0
def xW(s:B_):Option Int:=if 7<s.size then none else if TC (UV s.data.toList)=s then some (UV s.data.toList)else none
def rU(q:RS):Int×RS:=((xW (rN q).1).getD 0,((rN q).2.1,(rN q).2.2||(xW (rN q).1).isNone))
theorem Jr(l)(b):UV (l++[b])=10*UV l+(b.toNat) - 48:=by rw[UV,foldl_append];rfl
theorem Js:∀(l:List UInt8) (n:Int) (p:Nat),1<=p -> -(30*p - 30)<=n->n<=30*p - 30 -> -(30*((p*10 ^ l.length:Nat)) - 30)<=l.foldl (λn b=>10*n+(b.toNat:Int) - 48) n/\l.foldl (λn b=>10*n+(b.toNat:Int) - 48) n<=30*((p*10 ^ l.length:Nat)) - 30
 | [],n,p,_,a,c=>by simp_all
 |b::l,n,p,hp,a,c=>by
  have hb:=b.toNat_lt;have:=Js l (10*n+(b.toNat) - 48) (p*10) X X X;rw[j7,Nat.pow_succ,Nat.mul_comm (10 ^ l.length),<-Nat.mul_assoc];exact this
theorem MI{l}(h:l.length<=7): -300000000<=UV l/\UV l<=300000000:=by have h1:=Js l 0 1 (g_ _) H_ H_;have h2:10 ^ l.length<=10 ^ 7:=Nat.pow_le_pow_right H_ h;rw[UV];omega
theorem oA(q:RS)(c_:q.1.length<2^40):Oc 64 q (iv (rU q).1) (rU q).2:=by
 refine Oc.of ?_;have j:=uR q c_;rw[rU];have ⟨⟨s,d⟩,G⟩:∃p,p=rN q:=X_;rw[<-G]at j |-;clear G;dsimp only at j |-;have ⟨l,w⟩:∃l,l=s.data.toList:=X_;have hsl:l.length=s.size:=F_
 have z:∀i b,l[i]?=some b->aY s i=(b.toNat:Int):=λi b h=>by rw[aY,<-w,h];rfl
 have k:xW s=none->((xW s).getD 0,(d.1,d.2||(xW s).isNone))=(0,(d.1,true)):=λh=>by simp_all
 have g:xW s=some (UV l)->((xW s).getD 0,(d.1,d.2||(xW s).isNone))=(UV l,d):=λh=>by simp_all
 have ⟨y_,D⟩:∃y_,y_=((xW s).getD 0,(d.1,d.2||(xW s).isNone)):=X_;rw[<-D]at k g;show aU Tryz.prog _ [tk] (tv q) (λr K=>r=iv (((xW s).getD 0,(d.1,d.2||(xW s).isNone)):Int×RS).1/\K=tv (((xW s).getD 0,(d.1,d.2||(xW s).isNone)):Int×RS).2);rw[<-D];clear D;refine Bd func64 Z ntmps64<|Sz aI<|O aA<|Y (kc qU (j _ Z))<|V aI<|Sz aI<|S<|O aA<|Y (gE U_)<|V iP<|Cn ?_ ?_<;>intro t
 ·have v:7<s.size:=I_ t
  rw[k (by rw[xW,b7 v])];refine O aA<|Y sE<|Y (bA MY)<|Uu (by exact cQ Z sizeOf4 Z Z Z Z Z Z F_ u0 u0)<|Zz<|Sz aI<|aC ?_;refine cR (H':=(tv (d.1,true))) (.inr Z) Z (aH Z) P_ ?_;exact Qq
 have v:¬ 7<s.size:=J_ t
 refine aB<|S<|Sz aI<|aD<|bF (σ:=Nat) (λi=>([(0,tk),(3,sv s),(4,iv (UV (l.take i))),(5,iv (i:Int))],[(980,tu d)])) (λi=>i<=l.length) (λi=>l.length - i) 0 (l7 _) ?_ ?_
 ·exact Wk
 intro i hi;have d_:=MI (l:=l.take i) G_;by_cases x:i<l.length
 ·have ⟨b,I⟩:=aS x;have y:=z i b I;have hb256:=b.toNat_lt;have n:UV (l.take (i+1))=10*UV (l.take i)+(b.toNat:Int) - 48:=by rw[fF I,Jr]
  refine S<|O aA<|Y aA<|Y (gE U_)<|V cJ<|Cn ?_ ?_<;>intro F
  ·refine aB<|S<|aD<|Rd aA<|Y (oL Z Z Z (mE X X))<|Y aA<|Y aA<|Y (ky U_)<|Y (eE Z cZ underlying3 Z (show IntKind.i64.wrap (aY s i)=(b.toNat:Int)by rw[y,mE X X]))<|Y (dB Z Z Z (mE X X))<|Y (dM Z Z Z (show IntKind.i64.wrap (10*UV (l.take i)+(b.toNat:Int) - 48)=UV (l.take (i+1))by rw[n,mE X X]))<|V aI<|Rd aA<|Y kp<|Da ?_;exact⟨i+1,X,X,Wk⟩
  (have h:=b_ F;omega)
 have o:i=l.length:=X
 subst o;rw[take_length]at d_ |-;have u:=λH=>px (UV l) X X H;refine S<|O aA<|Y aA<|Y (gE U_)<|V cJ<|Cn ?_ ?_<;>intro E
 ·(have h:=b9 E;omega)
 refine aP<|S<|O aA<|Y (kc gR (u _))<|Y aA<|V DZ<|Cn ?_ ?_<;>intro m
 ·have A:¬ TC (UV l)=s:=by have:=m;intro e;rw[decide_eq_true e]at this;cases this
  rw[k (by rw[xW,a8 v,<-w,a8 A])];refine O aA<|Y sE<|Y (bA MY)<|Uu (by exact cQ Z sizeOf4 Z Z Z Z Z Z u1 u0 u0)<|Zz<|Sz aI<|aC ?_;refine cR (H':=(tv (d.1,true))) (.inr Z) Z (aH Z) P_ ?_;exact Qq
 have B:TC (UV l)=s:=by have:=m;rw[Bool.not_eq_false']at this;exact b9 this
 rw[g (by rw[xW,a8 v,<-w,b7 B])];refine aB<|O aA<|V aI<|aC<|cR (H':=(tv d)) (.inr Z) Z (aH Z) P_ Qq
def rL(q:RS):List B_×RS:=if((rU q).2.1.length:Int)<(rU q).1\/(rU q).1<0 then([],((rU q).2.1,true))else((rU q).2.1.take (rU q).1.toNat,((rU q).2.1.drop (rU q).1.toNat,(rU q).2.2))
def rZ(q:RS):n_×RS:=(⟨(rU q).1,(rL (rU q).2).1,(rL (rL (rU q).2).2).1⟩,(rL (rL (rU q).2).2).2)
theorem Yx(q):(rN q).2.1.length<=q.1.length:=by show (q.1.drop 1).length<=_;simp_all
theorem YQ(q):(rU q).2.1.length<=q.1.length:=Yx q
theorem Yy(q):(rL q).2.1.length<=q.1.length:=by
 have:=YQ q;rw[rL]
 split
 ·exact this
 grind
theorem PF(q:RS)(F:q.1.length<2^40):Oc 65 q (.pv (aL (rL q).1)) (rL q).2:=by
 refine Oc.of ?_;have l:=oA q F;have r:=YQ q;have e:((rU q).2.1.length:Int)<(rU q).1\/(rU q).1<0->rL q=([],((rU q).2.1,true)):=λh=>by rw[rL,b7 h]
 have d:¬ (((rU q).2.1.length:Int)<(rU q).1\/(rU q).1<0)->rL q=((rU q).2.1.take (rU q).1.toNat,((rU q).2.1.drop (rU q).1.toNat,(rU q).2.2)):=λh=>by rw[rL,a8 h]
 generalize rL q=y_ at e d |-;have ⟨⟨n,L,b⟩,d_⟩:∃p,p=rU q:=X_;rw[<-d_]at l r e d;clear d_;dsimp only at l r e d;have t:(L.map S_).length=L.length:=j6 _;refine Bd func65 Z ntmps65<|Sz aI<|O aA<|Y (kc qT (l _ Z))<|V aI<|S<|S<|aQ (t:=18) (n:=12) (A_:=decide (((L.map S_).length:Int)<n)||decide (n<0)) ?_ ?_
 ·all_goals refine Y aA<|Y aA<|Y sE<|Y (bA MZ)<|Y (bQ aG)<|Y (fW aE)<|Y iP<|Dm ?_<;>(refine Sp 15 (λA=>?_) λA=>?_)<;>(first|exact s_|refine M<|M ?_|refine U aA<|U cJ ?_)<;>refine V cC ?_<;>(exact⟨⟨_,Z,G_⟩,Z,Z,Z⟩)
 refine Cn ?_ ?_<;>intro o
 ·have j:=o;rw[t,Bool.or_eq_true,j0,j0]at j;rw[e j];refine O aA<|Y sE<|Y (bA MY)<|Uu (by exact cQ Z sizeOf4 Z Z Z Z Z Z F_ u0 u0)<|Zz<|Sz aI<|aC ?_;refine cR (H':=(tv (L,true))) (.inr Z) Z (aH Z) (P_ (r:=.pv (aL []))) ?_;exact Qq
 have j:=o;rw[t,q8,p_,p_]at j;rw[d (λh=>h.elim j.1 j.2)];have ⟨hb1,hb2⟩:=j;obtain ⟨k,rfl⟩:∃k:Nat,n=(k:Int):=⟨n.toNat,X⟩;rw[l_];have u:∀i,i<=k->(L.take i).length=i:=λi w=>by grind
 refine aB<|Sz (eI (id:=905) (sz:=1) (ty:=9) Z Z Z)<|S<|Sz aI<|aD<|bF (σ:=Nat) (λi=>([(0,tk),(3,iv (k:Int)),(4,.osl 905 i 0 i),(5,iv (i:Int))],[(905,⟨i,1,9,cB (L.take i)⟩),(980,tu (L.drop i,b))])) (λi=>i<=k) (λi=>k - i) 0 (l7 _) ?_ ?_
 ·exact L_
 intro i w;refine S<|O aA<|Y aA<|V cJ<|Cn ?_ ?_<;>intro m
 ·have hik:i<k:=I_ m
  have ⟨s,z⟩:=aS (l:=L) (k:=i) X;have B:L.drop i=s::L.drop (i+1):=by
   have E:=(m9.1 z).1;rw[drop_eq_getElem_cons E,(m9.1 z).2]
  have x:Oc 63 (L.drop i,b) (sv s) (L.drop (i+1),b):=by
   have:=uR (L.drop i,b) G_;rw[rN]at this
   simpa[B]using this
  have y:=fF z;have g:=u i w;refine aB<|S<|aD<|Rd aA<|Y aA<|Y (kc qU (x _ Z))<|Y (aK [[.str s]] Z bD Z Z Z Z Z F_)<|Y (by exact cA (k:=i+1) (ps:=[[.str s]]) Z bD yJ Z Z Z Z Z ((eS _).trans g) Z F_ (m:=1) Z X Z (rows':=cB (L.take (i+1))) (by rw[y];exact gO _ s))<|V aI<|Rd aA<|Y kp<|Da ?_;exact⟨i+1,X,X,L_⟩
 have v:i=k:=J_ m
 subst v;have g:=u i w;refine aP<|O aA<|V aI<|aC ?_;refine cR (H':=(tv (L.drop i,b))) (.inr Z) Z (aH Z) (Fin.fz (id:=905) (ob:=⟨i,1,9,cB (L.take i)⟩) (r':=.pv (aL (L.take i))) ((L.take i).map S_) Z (eT _) (.osl (HM S_ _ g)) Z ⟨⟨_,Z,Z⟩,y4,T_⟩ ⟨Z,T_⟩) ?_;exact Qq
theorem tb(q:RS)(i:q.1.length<2^40):Oc 66 q (av (lH (rZ q).1)) (rZ q).2:=by refine Oc.of ?_;have h:=oA q i;have f:=PF (rU q).2 (Nat.lt_of_le_of_lt (YQ q) i);have d:=PF (rL (rU q).2).2 (Nat.lt_of_le_of_lt (Yy _) (Nat.lt_of_le_of_lt (YQ q) i));rw[rZ];have ⟨⟨n,k⟩,j⟩:∃p,p=rU q:=X_;rw[<-j]at h f d |-;dsimp only at h f d |-;have ⟨⟨a,m⟩,e⟩:∃p,p=rL k:=X_;rw[<-e]at f d |-;dsimp only at f d |-;have ⟨⟨c,l⟩,g⟩:∃p,p=rL m:=X_;rw[<-g]at d |-;dsimp only at d |-;clear j e g;refine Bd func66 Z ntmps66<|Sz (kl 2 aq)<|Sz (kl 3 aq)<|O aA<|Y (kc qT (h _ Z))<|Y (bA DA)<|Uu (ku sizeOf3)<|Zz<|O aA<|Y (kc call65 (f _ Z))<|Y (bA vX)<|Uu (ku sizeOf22)<|Zz<|O aA<|Y (kc call65 (d _ Z))<|Y (bA vW)<|Uu (ku sizeOf22)<|Zz<|O (wQ gT sizeOf48)<|Uu (jA sizeOf48)<|Zz<|aC ?_;refine cR (H':=(tv l)) (.inr Z) Z (fB Z gT sizeOf48 Z Z Z u0 Z) P_ ?_;exact Qq
theorem FC(l:List B_)(H:aF)(t:nn l):RC 114 [.pv (aL l)] (bv (l.all m6)) H:=by
 refine Pu ?_;have ⟨hl1,o⟩:=t;have hml:(l.map S_).length=l.length:=j6 _;refine Bd func114 Z ntmps114<|Sz aI<|S<|Sz aI<|aD<|bF (σ:=Nat) (λk=>([(0,.pv (aL l)),(3,iv (k:Int))],[])) (λk=>k<=l.length/\∀j,j<k->∀b,l[j]?=some b->m6 b=true) (λk=>l.length - k) 0 ⟨X,X⟩ ?_ ?_
 ·exact Wk
 rintro k ⟨hk,f⟩;refine S<|O aA<|Y aA<|Y (fW aE)<|V cJ<|Cn ?_ ?_<;>intro e
 ·have i:k<l.length:=I_ e
  have ⟨s,g⟩:=aS i;have q:=cE (f:=S_) g;have hsz:=o s (m8 g);have p:=λH=>cn s X H;have d:=λh=>Z7 (p:=m6) g h;refine aB<|S<|aD<|O aA<|Y aA<|Y (bU Z bD Z Z X x6 q Z)<|Y (fZ N_ (hi:=q))<|Y (kc call37 (p _))<|V iI<|Cn ?_ ?_<;>intro c
  ·have n:=not_not c;rw[d n];exact Sz aI<|aC<|Rt<|Qq
  have n:=pO c;refine aB<|Rd aA<|Y kp<|Da ?_;exact⟨k+1,⟨X,LK f g n⟩,X,Wk⟩
 have m:k=l.length:=J_ e
 subst m;rw[TQ f];exact aP<|Sz aI<|aC<|Rt<|Qq
theorem Dr(s:n_)(H:aF)(hs:xU s):RC 169 [av (lH s)] (bv (A2 s)) H:=by
 refine aU.pure ?_ F_ H;have hX:A2 s=((decide (s.idx=0)&&decide (((s.sig.map S_).length:Int)=0))&&decide (((s.path.map S_).length:Int)=0)):=by
  rw[A2,Bool.and_assoc]
  grind
 refine Bd func169 Z ntmps169<|O (kb 1)<|V aI<|S<|aQ (t:=2) (n:=18) (A_:=A2 s) ?_ ?_
 ·all_goals refine Y (bA DA)<|Y (bQ M_)<|Y cD<|Dm ?_<;>(refine Sp 6 (λd=>?_) λd=>?_)<;>(first|exact s_|refine M<|M<|M<|M ?_|refine U (bA vX)<|U (bQ aG)<|U (fW aE)<|U cD ?_)<;>refine Y cC<|Dm ?_<;>(refine Sp 12 (λc=>?_) λc=>?_)<;>(first|refine M<|M<|M<|M ?_|refine U (bA vW)<|U (bQ aG)<|U (fW aE)<|U cD ?_)<;>refine Y cC<|Da ?_<;>exact Gj (h:=by simp_all)
 exact aC<|Rt<|Qq
theorem SY(s:n_)(H:aF)(n:xU s):RC 116 [av (lH s)] (bv (kY s)) H:=by
 refine aU.pure ?_ F_ H;have o:=λH=>Dr s H n;have ⟨⟨i1,i2⟩,q,u⟩:=n;have g:=λH=>FC s.sig H q;have h:=λH=>FC s.path H u;have t:decide (s.idx<256)=decide (s.idx<=255):=by
  grind
 have k:kY s=(A2 s||(((((decide (0<=s.idx)&&decide (s.idx<=255))&&decide (((s.sig.map S_).length:Int)=18))&&decide (((s.path.map S_).length:Int)<=8))&&s.sig.all m6)&&s.path.all m6)):=by rw[kY,t]
 have ⟨d1,e⟩:∃d,d=s.sig.all m6:=X_;have ⟨d2,c⟩:∃d,d=s.path.all m6:=X_;generalize A2 s=z at o k;rw[<-e]at g k;rw[<-c]at h k;clear e c;refine Bd func116 Z ntmps116<|O (kb 1)<|V aI<|S<|aQ (t:=2) (n:=41) (A_:=kY s) ?_ ?_
 ·all_goals refine Y (by exact aW Z gT sizeOf48 Z Z Z Z u0 Z) ?_
  all_goals refine Y (kc call169 (o _))<|Dm ?_<;>(refine Sp 5 (λv=>?_) λv=>?_)<;>(first|exact s_|refine M<|M<|M<|M ?_|refine U (bA DA)<|U (bQ M_)<|U zU<|U aA ?_)<;>(first|refine Sp 9 (λp=>?_) λp=>?_|refine jS (t:=9) Z ?_)<;>(first|exact s_|refine M ?_|refine Fu ?_|refine U (bA DA) ?_)<;>(first|refine M ?_|refine Fu ?_|refine U (bQ M_) ?_)<;>(first|refine M ?_|refine Fu ?_|refine U G8 ?_)<;>(first|refine M<|M ?_|refine U cC<|U aA ?_)<;>(first|refine Sp 14 (λm=>?_) λm=>?_|refine jS (t:=14) Z ?_)<;>(first|exact s_|refine M ?_|refine Fu ?_|refine U (bA vX) ?_)<;>(first|refine M ?_|refine Fu ?_|refine U (bQ aG) ?_)<;>(first|refine M ?_|refine Fu ?_|refine U (fW aE) ?_)<;>(first|refine M ?_|refine Fu ?_|refine U cD ?_)<;>(first|refine M<|M ?_|refine U cC<|U aA ?_)<;>(first|refine Sp 20 (λi=>?_) λi=>?_|refine jS (t:=20) Z ?_)<;>(first|exact s_|refine M ?_|refine Fu ?_|refine U (bA vW) ?_)<;>(first|refine M ?_|refine Fu ?_|refine U (bQ aG) ?_)<;>(first|refine M ?_|refine Fu ?_|refine U (fW aE) ?_)<;>(first|refine M ?_|refine Fu ?_|refine U G8 ?_)<;>(first|refine M<|M ?_|refine U cC<|U aA ?_)<;>(first|refine Sp 26 (λj=>?_) λj=>?_|refine jS (t:=26) Z ?_)<;>(first|exact s_|refine M ?_|refine Fu ?_|refine U (bA vX) ?_)<;>(first|refine M ?_|refine Fu ?_|refine U (bQ aG) ?_)<;>(first|refine M ?_|refine Fu ?_|refine U (kc call114 (g _)) ?_)<;>(first|refine M<|M ?_|refine U cC<|U aA ?_)<;>(first|refine Sp 31 (λl=>?_) λl=>?_|refine jS (t:=31) Z ?_)<;>(first|exact s_|refine M ?_|refine Fu ?_|refine U (bA vW) ?_)<;>(first|refine M ?_|refine Fu ?_|refine U (bQ aG) ?_)<;>(first|refine M ?_|refine Fu ?_|refine U (kc call114 (h _)) ?_)<;>(first|refine M ?_|refine U cC ?_)<;>refine Y cC<|Da ?_<;>(exact⟨⟨_,Z,G_⟩,Z,Z,Z⟩)
 exact aC<|Rt<|Qq
def sL:List B_->Bool
 |a::b::r=>lA a b&&sL (b::r)
 |_=>true
theorem gx:∀(l),(fN l).length<=l.length
 | []=>g_ _
 | [x]=>g_ _
 |x::y::r=>by
  have ih:=gx (y::r);show (if x=y then fN _ else x::fN _).length<=_
  grind
theorem SL:∀(l),Ks l=sL l
 | []=>rfl
 | [x]=>rfl
 | x::y::r=>by
  have d:=SL (y::r);have hl:=gx (y::r);rw[Ks,j6]at d |-;show ((!lA y x&&nH _)&&decide (((if x=y then fN _ else x::fN _).length:Int)=_))=(lA x y&&sL _);by_cases e:x=y
  ·rw[b7 e,e,FU,Bool.false_and,decide_eq_false (by have h9:(y::y::r).length=(y::r).length+1:=rfl;omega),Bool.and_false]
  rw[Bool.and_assoc];have h1:(!lA y x)=lA x y:=by
   cases c:lA x y
   ·cases b:lA y x
    ·exact absurd (Fd c b) e
    rfl
   cases b:lA y x
   ·rfl
   have:=FT c b;rw[FU]at this;cases this
  simp_all
theorem xo{l:List _}{k}{a b}(f:l[k]?=some a)(c:l[k+1]?=some b):sL (l.drop k)=(lA a b&&sL (l.drop (k+1))):=by have ⟨h,e⟩:=m9.1 f;have ⟨g,d⟩:=m9.1 c;rw[drop_eq_getElem_cons h,drop_eq_getElem_cons g,e,d];rfl
theorem X5{l}(h:l.length<=1):sL l=true:=by
 match l,h with
 | [],_=>rfl
 | [a],_=>rfl
def Zg(p:GPriv):Bool:=(((decide (200<(p.name.size:Int))||decide (200<(p.reason.size:Int)))||decide (16<((p.sources.map S_).length:Int)))||decide (200<((p.trace.map kA).length:Int)))||!kY p.sl
def ni(q:Int×Int):Bool:=ZR q.1 q.2
def sP(s:B_):Bool:=!KK s
def BF(p:GPriv):Bool:=!Zg p&&(p.sources.all sP&&p.trace.all ni)
theorem Io{p}(h:Zg p=true):BF p=false:=by rw[BF,h];rfl
theorem Im{p}(h:p.sources.all sP=false):BF p=false:=by rw[BF,h,Bool.false_and,Bool.and_false]
theorem Il{p}(h:p.trace.all ni=false):BF p=false:=by rw[BF,h,Bool.and_false,Bool.and_false]
theorem Ik{p}(a:Zg p=false)(c:p.sources.all sP=true)(b:p.trace.all ni=true):BF p=true:=by rw[BF,a,c,b];rfl
theorem dh(p:GPriv)(H:aF)(e_:nk p):RC 117 [av (wZ p)] (bv (BF p)) H:=by
 refine aU.pure ?_ F_ H;have N:=λH=>SY p.sl H e_.2.2.2.2;have ⟨q1,q2,⟨q3,B⟩,q4,_⟩:=e_;have hms:(p.sources.map S_).length=p.sources.length:=j6 _;have hmt:(p.trace.map kA).length=p.trace.length:=j6 _;have K:=λh=>Io (p:=p) h;have G:=λh=>Im (p:=p) h;have F:=λh=>Il (p:=p) h;have E:=λP Q R=>Ik (p:=p) P Q R;have ⟨f,u⟩:∃f,f=kY p.sl:=X_;have hX:Zg p=((((decide (200<(p.name.size:Int))||decide (200<(p.reason.size:Int)))||decide (16<((p.sources.map S_).length:Int)))||decide (200<((p.trace.map kA).length:Int)))||!f):=by rw[Zg,<-u]
 rw[<-u]at N;refine Bd func117 Z ntmps117<|O (kb 1)<|V aI<|S<|S<|aQ (t:=32) (n:=32) (A_:=Zg p) ?_ ?_
 ·all_goals refine Y (bA IJ)<|Y (bQ N_)<|Y (gE U_)<|Y iP<|Dm ?_<;>(refine Sp 9 (λo_=>?_) λo_=>?_)<;>(first|exact s_|refine M<|M<|M<|M ?_|refine U (bA II)<|U (bQ N_)<|U (gE U_)<|U iP ?_)<;>refine Y cC<|Dm ?_<;>(refine Sp 15 (λc_=>?_) λc_=>?_)<;>(first|exact s_|refine M<|M<|M<|M ?_|refine U (bA yI)<|U (bQ aG)<|U (fW aE)<|U iP ?_)<;>refine Y cC<|Dm ?_<;>(refine Sp 21 (λA=>?_) λA=>?_)<;>(first|exact s_|refine M<|M<|M<|M ?_|refine U (bA sZ)<|U (bQ jV)<|U (fW gC)<|U iP ?_)<;>refine Y cC<|Dm ?_<;>(refine Sp 27 (λI=>?_) λI=>?_)<;>(first|exact s_|refine M<|M<|M<|M ?_|refine U (bA FA)<|U (wQ gT sizeOf48)<|U (kc call116 (N _))<|U iI ?_)<;>refine V cC ?_<;>(exact⟨⟨_,Z,G_⟩,Z,Z,Z⟩)
 refine Cn ?_ ?_<;>intro v
 ·have z:=v;rw[K z];exact Sz aI<|aC<|Rt<|Qq
 have z:=v;refine aB<|S<|Sz aI<|aD<|bF (σ:=Nat) (λk=>([(1,.ref 1 0 0 0),(3,iv (k:Int))],[(1,bx 7 51 ((wZ p).map .pv))])) (λk=>k<=p.sources.length/\∀j,j<k->∀b,p.sources[j]?=some b->sP b=true) (λk=>p.sources.length - k) 0 ⟨X,X⟩ ?_ ?_
 ·exact E0
 rintro k ⟨L,e⟩;refine S<|O aA<|Y (bA yI)<|Y (bQ aG)<|Y (fW aE)<|V cJ<|Cn ?_ ?_<;>intro x
 ·have m:k<p.sources.length:=I_ x
  have ⟨s,i⟩:=aS m;have w:=cE (f:=S_) i;have hsz:=B s (m8 i);have g:=λh=>Z7 (p:=sP) i h;refine aB<|S<|aD<|O (bA yI)<|Y (bQ aG)<|Y aA<|Y (kx bD w)<|Y (fZ N_ (hi:=w))<|Y (gE U_)<|V iP<|Cn ?_ ?_<;>intro o
  ·have d:sP s=false:=by rw[sP,KK,o];rfl
   rw[G (g d)];exact Sz aI<|aC<|Rt<|Qq
  have d:sP s=true:=by rw[sP,KK,o];rfl
  refine aB<|Rd aA<|Y kp<|Da ?_;exact⟨k+1,⟨X,LK e i d⟩,X,E0⟩
 have l:k=p.sources.length:=J_ x
 subst l;have D:=TQ e;refine aP<|S<|Sz aI<|aD<|bF (σ:=Nat) (λk=>([(1,.ref 1 0 0 0),(4,iv (k:Int))],[(1,bx 7 51 ((wZ p).map .pv))])) (λk=>k<=p.trace.length/\∀j,j<k->∀b,p.trace[j]?=some b->ni b=true) (λk=>p.trace.length - k) 0 ⟨X,X⟩ ?_ ?_
 ·exact E0
 clear e L;rintro k ⟨L,e⟩;refine S<|O aA<|Y (bA sZ)<|Y (bQ jV)<|Y (fW gC)<|V cJ<|Cn ?_ ?_<;>intro n
 ·have m:k<p.trace.length:=I_ n
  have ⟨q,i⟩:=aS m;have w:=cE (f:=kA) i;have d_:=λH=>Hv q.1 q.2 H;have g:=λh=>Z7 (p:=ni) i h;refine aB<|S<|aD<|O (bA sZ)<|Y (bQ jV)<|Y aA<|Y (kx UB w)<|Y (by exact fA Z eD sizeOf104 Z w u0 Z)<|Y (kc call170 (d_ _))<|V iI ?_;refine Cn ?_ ?_<;>intro t
  ·have d:=not_not t;rw[F (g d)];exact Sz aI<|aC<|Rt<|Qq
  have d:=pO t;refine aB<|Rd aA<|Y kp<|Da ?_;exact⟨k+1,⟨X,LK e i d⟩,X,E0⟩
 have l:k=p.trace.length:=J_ n
 subst l;rw[E z D (TQ e)];exact aP<|Sz aI<|aC<|Rt<|Qq
def o0G(r:j8):Bool:=decide (r.kind=1)||(decide (r.kind=3)&&decide (r.order=3))
def o1G(r:j8):Bool:=!o0G r&&decide (0<((r.edits.map bJ).length:Int))
def o2G(r:j8):Bool:=o0G r&&!decide ((dW r.edits).2=0)
def o3a(r:j8):Bool:=decide (r.kind=2)||decide (r.kind=3)
def o3G(r:j8):Bool:=if o3a r=true then !m6 r.target else !decide (r.target=a6)
def o4G(r:j8):Bool:=(decide (r.kind=3)&&(decide (r.order<1)||decide (4<r.order)))||(!decide (r.kind=3)&&!decide (r.order=0))
def o5G(r:j8):Bool:=(decide (r.kind=4)&&(!cH r.from'||decide (r.from'=r.branch)))||(!decide (r.kind=4)&&!decide (r.from'=a6))
def o6G(r:j8):Bool:=decide (r.kind=2)||!r.yes
def D0(r:j8):Bool:=!o1G r&&(!o2G r&&(!o3G r&&(!o4G r&&(!o5G r&&o6G r))))
theorem Sn{r}(h:o1G r=true):D0 r=false:=by rw[D0,h];rfl
theorem Sm{r}(h:o2G r=true):D0 r=false:=by rw[D0];all_goals simp_all
theorem Sl{r}(h:o3G r=true):D0 r=false:=by rw[D0];all_goals simp_all
theorem Sk{r}(h:o4G r=true):D0 r=false:=by rw[D0];all_goals simp_all
theorem Sj{r}(h:o5G r=true):D0 r=false:=by rw[D0];all_goals simp_all
theorem Si{r}(e:o1G r=false)(d:o2G r=false)(b:o3G r=false)(c:o4G r=false)(a:o5G r=false):D0 r=o6G r:=by rw[D0,e,d,b,c,a];rfl
theorem Ss(r:j8)(H:aF)(hr:nF r)(hrf:∀e∈r.edits,e.refs.length<2^40):RC 115 [av (dX r)] (bv (D0 r)) H:=by
 refine aU.pure ?_ F_ H;have ⟨_,⟨b1,b2,b3⟩,_,⟨e1,e2⟩,_⟩:=hr;have A:=λH=>RA r.edits H e1 e2 hrf;have o_:=λH=>cn r.target X H;have E:=λH=>lE r.from' H X
 have n:=λh=>Sn (r:=r) h;have hn2:=λh=>Sm (r:=r) h;have hn3:=λh=>Sl (r:=r) h;have hn4:=λh=>Sk (r:=r) h;have hn5:=λh=>Sj (r:=r) h;have hye:=λv_ u_ T f_ A_=>Si (r:=r) v_ u_ T f_ A_;have hX0:o0G r=(decide (r.kind=1)||(decide (r.kind=3)&&decide (r.order=3))):=rfl;have B:o1G r=(!o0G r&&decide (0<((r.edits.map bJ).length:Int))):=rfl;have hX2:o2G r=(o0G r&&!decide ((dW r.edits).2=0)):=rfl;have p:o3a r=(decide (r.kind=2)||decide (r.kind=3)):=rfl;have hX3:o3G r=if o3a r=true then !m6 r.target else !decide (r.target=a6):=rfl
 have hX4:o4G r=((decide (r.kind=3)&&(decide (r.order<1)||decide (4<r.order)))||(!decide (r.kind=3)&&!decide (r.order=0))):=rfl;have ⟨nm,t⟩:∃nm,nm=cH r.from':=X_
 have s:o5G r=((decide (r.kind=4)&&(!nm||decide (r.from'=r.branch)))||(!decide (r.kind=4)&&!decide (r.from'=a6))):=by rw[o5G,<-t]
 rw[<-t]at E;have Q:o6G r=(decide (r.kind=2)||!r.yes):=rfl;generalize dW r.edits=te at A hX2;generalize m6 r.target=ij at o_ hX3;clear t;have ⟨o0,h0⟩:∃o,o=o0G r:=X_;have ⟨o1,v_⟩:∃o,o=o1G r:=X_;have ⟨W,u_⟩:∃o,o=o2G r:=X_;have ⟨oa,ha⟩:∃o,o=o3a r:=X_;have ⟨F,T⟩:∃o,o=o3G r:=X_;have ⟨o4,f_⟩:∃o,o=o4G r:=X_;have ⟨o5,A_⟩:∃o,o=o5G r:=X_;have ⟨o6,h6⟩:∃o,o=o6G r:=X_;rw[<-h0]at hX0 B hX2;rw[<-v_]at B n hye;rw[<-u_]at hX2 hn2 hye;rw[<-ha]at p hX3;rw[<-T]at hX3 hn3 hye;rw[<-f_]at hX4 hn4 hye;rw[<-A_]at s hn5 hye;rw[<-h6]at Q hye;clear h0 v_ u_ ha T f_ A_ h6;have ⟨ow,P⟩:∃o,o=D0 r:=X_;rw[<-P]at n hn2 hn3 hn4 hn5 hye |-;clear P;refine Bd func115 Z ntmps115<|O (kb 1)<|V aI<|S<|aQ (t:=3) (n:=16) (A_:=o0) ?_ ?_
 ·all_goals refine Y (bA oH)<|Y (bQ M_)<|Y cD<|Dm ?_<;>(refine Sp 9 (λh9=>?_) λh9=>?_)<;>(first|exact s_|refine M<|M<|M<|M ?_|refine U (bA oH)<|U (bQ M_)<|U cD<|U aA ?_)<;>(first|refine Sp 13 (λh13=>?_) λh13=>?_|refine jS (t:=13) Z ?_)<;>(first|exact s_|refine M ?_|refine Fu ?_|refine U (bA yH) ?_)<;>(first|refine M ?_|refine Fu ?_|refine U (bQ M_) ?_)<;>(first|refine M ?_|refine Fu ?_|refine U cD ?_)<;>(first|refine M ?_|refine U cC ?_)<;>refine Y cC<|Da ?_<;>exact Gj (h:=by simp_all)
 refine S<|S<|aQ (t:=26) (n:=9) (A_:=o1) ?_ ?_
 ·all_goals refine Y aA<|Y iI<|Dm ?_<;>(refine Sp 21 (λh21=>?_) λh21=>?_)<;>(first|exact s_|refine M<|M<|M<|M ?_|refine U (bA C8)<|U (bQ oV)<|U (fW eW)<|U iP ?_)<;>refine V cC ?_<;>exact Gj (h:=by simp_all)
 refine Cn ?_ ?_<;>intro I
 ·rw[n I];exact Sz aI<|aC<|Rt<|Qq
 have k1:=I;refine aB<|eK (λ(_:Unit)=>([(1,.ref 1 0 0 0)],[(1,bx 21 53 ((dX r).map .pv))])) (λ_=>W=false) ?_ ?_
 ·refine Sz aA<|Cn ?_ ?_<;>intro hc2
  ·refine O (bA C8)<|Y (bQ oV)<|Y (kc call110 (A _))<|Y aA<|Y dK<|Y dK<|Y aI<|V aI<|O aA<|V zB<|Cn ?_ ?_<;>intro hc3
   ·have v:W=true:=by rw[hX2];simp_all
    rw[hn2 v];exact Sz aI<|aC<|Rt<|Qq
   have v:W=false:=by rw[hX2];simp_all
   refine aB ?_;exact⟨(),v,E0⟩
  have v:W=false:=by rw[hX2,hc2];rfl
  refine aB ?_;exact⟨(),v,E0⟩
 rintro _ v;refine eK (λ(_:Unit)=>([(1,.ref 1 0 0 0)],[(1,bx 21 53 ((dX r).map .pv))])) (λ_=>F=false) ?_ ?_
 ·refine S<|aQ (t:=43) (n:=9) (A_:=oa) ?_ ?_
  ·all_goals refine Y (bA oH)<|Y (bQ M_)<|Y cD<|Dm ?_<;>(refine Sp 39 (λD=>?_) λD=>?_)<;>(first|exact s_|refine M<|M<|M ?_|refine U (bA oH)<|U (bQ M_)<|U cD ?_)<;>refine V cC ?_<;>exact Gj (h:=by(rw[p,D];rfl))
  refine Cn ?_ ?_<;>intro z
  ·have y_:=z;rw[y_]at hX3;refine O (bA C7)<|Y (bQ N_)<|Y (kc call37 (o_ _))<|V iI<|Cn ?_ ?_<;>intro c_
   ·have k3:F=true:=by rw[hX3,c_];rfl
    rw[hn3 k3];exact Sz aI<|aC<|Rt<|Qq
   have k3:F=false:=by rw[hX3,c_];rfl
   refine aB ?_;exact⟨(),k3,E0⟩
  have y_:=z;rw[y_]at hX3;refine O (bA C7)<|Y (bQ N_)<|V DZ<|Cn ?_ ?_<;>intro K
  ·have k3:F=true:=by rw[hX3,K];rfl
   rw[hn3 k3];exact Sz aI<|aC<|Rt<|Qq
  have k3:F=false:=by rw[hX3,K];rfl
  refine aB ?_;exact⟨(),k3,E0⟩
 rintro _ k3;refine S<|S<|aQ (t:=73) (n:=27) (A_:=o4) ?_ ?_
 ·all_goals refine Y (bA oH)<|Y (bQ M_)<|Y cD<|Dm ?_<;>(refine Sp 54 (λh54=>?_) λh54=>?_)<;>(first|exact s_|refine M<|M<|M<|M ?_|refine U (bA yH)<|U (bQ M_)<|U cJ<|U aA ?_)<;>(first|refine Sp 58 (λy=>?_) λy=>?_|refine jS (t:=58) Z ?_)<;>(first|exact s_|refine M ?_|refine Fu ?_|refine U (bA yH) ?_)<;>(first|refine M ?_|refine Fu ?_|refine U (bQ M_) ?_)<;>(first|refine M ?_|refine Fu ?_|refine U iP ?_)<;>(first|refine M ?_|refine U cC ?_)<;>refine Y cC<|Dm ?_<;>(refine Sp 64 (λG=>?_) λG=>?_)<;>(first|exact s_|refine M<|M<|M<|M ?_|refine U (bA oH)<|U (bQ M_)<|U zB<|U aA ?_)<;>(first|refine Sp 68 (λh68=>?_) λh68=>?_|refine jS (t:=68) Z ?_)<;>(first|exact s_|refine M ?_|refine Fu ?_|refine U (bA yH) ?_)<;>(first|refine M ?_|refine Fu ?_|refine U (bQ M_) ?_)<;>(first|refine M ?_|refine Fu ?_|refine U zB ?_)<;>(first|refine M ?_|refine U cC ?_)<;>refine V cC ?_<;>exact Gj (h:=by first|(rw[hX4,h54,y];rfl)|(rw[hX4,h54,y,G];rfl)|(rw[hX4,h54]at *;simp_all;done))
 refine Cn ?_ ?_<;>intro N
 ·rw[hn4 N];exact Sz aI<|aC<|Rt<|Qq
 have k4:=N;refine aB<|S<|S<|aQ (t:=99) (n:=30) (A_:=o5) ?_ ?_
 ·all_goals refine Y (bA oH)<|Y (bQ M_)<|Y cD<|Dm ?_<;>(refine Sp 77 (λw=>?_) λw=>?_)<;>(first|exact s_|refine M<|M<|M<|M<|M ?_|refine U (bA wX)<|U (bQ N_)<|U (kc fV (E _))<|U iI<|U aA ?_)<;>(first|refine Sp 82 (λu=>?_) λu=>?_|refine jS (t:=82) Z ?_)<;>(first|exact s_|refine M ?_|refine Fu ?_|refine U (bA wX) ?_)<;>(first|refine M ?_|refine Fu ?_|refine U (bQ N_) ?_)<;>(first|refine M ?_|refine Fu ?_|refine U (bA C9) ?_)<;>(first|refine M ?_|refine Fu ?_|refine U (bQ N_) ?_)<;>(first|refine M ?_|refine Fu ?_|refine U wH ?_)<;>(first|refine M ?_|refine U cC ?_)<;>refine Y cC<|Dm ?_<;>(refine Sp 90 (λd_=>?_) λd_=>?_)<;>(first|exact s_|refine M<|M<|M<|M ?_|refine U (bA oH)<|U (bQ M_)<|U zB<|U aA ?_)<;>(first|refine Sp 94 (λz_=>?_) λz_=>?_|refine jS (t:=94) Z ?_)<;>(first|exact s_|refine M ?_|refine Fu ?_|refine U (bA wX) ?_)<;>(first|refine M ?_|refine Fu ?_|refine U (bQ N_) ?_)<;>(first|refine M ?_|refine Fu ?_|refine U DZ ?_)<;>(first|refine M ?_|refine U cC ?_)<;>refine V cC ?_<;>exact Gj (h:=by first|(rw[s,w,u];rfl)|(rw[s,w,u,d_];rfl)|(clear n hn2 hn3 hn4 hn5 hye;simp_all;done))
 refine Cn ?_ ?_<;>intro L
 ·rw[hn5 L];exact Sz aI<|aC<|Rt<|Qq
 rw[hye k1 v k3 k4 L];refine aB<|S<|aQ (t:=2) (n:=10) (A_:=o6) ?_ ?_
 ·all_goals refine Y (bA oH)<|Y (bQ M_)<|Y cD<|Dm ?_<;>(refine Sp 103 (λq=>?_) λq=>?_)<;>(first|exact s_|refine M<|M<|M ?_|refine U (bA IH)<|U (bQ nA)<|U iI ?_)<;>refine Y cC<|Da ?_<;>exact Gj (h:=by(rw[Q,q];rfl))
 exact aC<|Rt<|Qq
end Go.Proofs.YtopnleflllkbmaaGreatDoor
section
namespace Go.Proofs.YtopnleflllkbmaaGreatDoor
open Go.Proofs.Tryz
open Go.Abs
theorem aAK(q):ZB q=!ni q:=by rw[Bool.eq_iff_iff];simp[ZB,ni,ZR,Bool.or_eq_true,r8,Bool.and_eq_false_iff,p_];omega
theorem wt{α:Type}{p q}(h:∀x,p x=!q x):∀(l:List α),l.any p=!l.all q
 | []=>rfl
 |x::l=>by grind
theorem aBj(r):rq r=!(BF r.priv&&kY r.sl):=by
 rw[rq,BF,Zg,wt aAK,wt (q:=sP) (λx=>by rw[sP,Bool.not_not]) r.priv.sources];show (((((!r.priv.trace.all _||!(!(decide _||(decide _||false))))||_)||_)||_)||_||_)=_
 grind
def Yb(r:j8):Bool:=decide (1<=r.kind)&&decide (r.kind<=5)
def vA(r:j8):Bool:=(((((((((decide (r.kind<1)||decide (5<r.kind))||decide (r.author<0))||decide (59<r.author))||decide (r.number<1))||decide (128<r.number))||decide (r.clock<1))||decide (1000000<r.clock))||!cH r.branch)||decide (16<((r.parents.map S_).length:Int)))||!r.parents.all m6
theorem aBi(r):(!vA r&&sL r.parents)=(Yb r&&!jd r):=by
 have g:decide (r.kind<1)=!decide (1<=r.kind):=G_
 have c:decide (5<r.kind)=!decide (r.kind<=5):=G_
 have d:decide (r.author<0)=!decide (0<=r.author):=G_
 have f:decide (59<r.author)=!decide (r.author<=59):=G_
 have e:decide (r.number<1)=!decide (1<=r.number):=G_
 have a:decide (128<r.number)=!decide (r.number<=128):=G_
 have h:decide (r.clock<1)=!decide (1<=r.clock):=G_
 have b:decide (1000000<r.clock)=!decide (r.clock<=1000000):=G_
 rw[vA,Yb,jd,mH,mH,mH,SL,g,c,d,f,e,a,h,b];simp[Bool.not_or,Bool.not_not,Bool.not_and,Bool.and_assoc]
theorem aBM:¬ (dW []).2=0:=E_
theorem aAE{r:j8}(i:Yb r=true):D0 r=(((jW r.edits).2&&MQ r)&&Yc r):=by
 rw[Yb,k_,j0,j0]at i;have p:(r.edits.map bJ).length=r.edits.length:=j6 _;have n:(jW r.edits).2=(decide (r.edits.length=0)||decide ((dW r.edits).2=0)):=by
  rw[jW]
  grind
 have k:decide (0<((r.edits.map bJ).length:Int))=!decide (r.edits.length=0):=by
  grind
 have s:r.edits.length=0->decide ((dW r.edits).2=0)=false:=λh=>by
  rw[eq_nil_of_length_eq_zero h];rfl
 rw[Yc,n,D0,o1G,o2G,o3G,o4G,o5G,o6G,k];have ⟨l,m⟩:∃l,l=decide (r.edits.length=0):=X_;have ⟨g,e⟩:∃g,g=decide ((dW r.edits).2=0):=X_;have a:l=true->g=false:=λh=>by simp_all
 rw[<-m,<-e];clear m e s k n p;have d:r.kind=1\/r.kind=2\/r.kind=3\/r.kind=4\/r.kind=5:=X
 have ea:decide (r.target=a6)=decide (r.target=a6):=rfl;have ⟨y,hy⟩:∃y,y=r.yes:=X_;have o:decide (r.order<1)=!decide (1<=r.order):=G_
 have j:decide (4<r.order)=!decide (r.order<=4):=G_
 rw[o0G,o3a,MQ,ai,Oq,Cy,En,Ov,Wx,o,j,mH];clear o j i;rcases d with h|h|h|h|h
 ·simp only[h];by_cases c1:r.target=a6<;>by_cases c2:r.order=0<;>by_cases c3:r.from'=a6<;>cases b:r.yes<;>cases l<;>cases g<;>simp[c1,c2,c3,b]at a |-
 ·simp only[h];by_cases c2:r.order=0<;>by_cases c3:r.from'=a6<;>cases b:m6 r.target<;>cases l<;>cases g<;>simp[c2,c3,b]at a |-
 ·simp only[h];by_cases c2:r.order=3
  ·rw[c2];by_cases c3:r.from'=a6<;>cases b:m6 r.target<;>cases f:r.yes<;>cases l<;>cases g<;>simp[c3,b,f]at a |-
  cases c1:decide (1<=r.order)<;>cases q:decide (r.order<=4)<;>by_cases c3:r.from'=a6<;>cases b:m6 r.target<;>cases f:r.yes<;>cases l<;>cases g<;>simp[c1,c2,c3,b,f,q]at a |-
 ·simp only[h];by_cases c1:r.target=a6<;>by_cases c2:r.order=0<;>by_cases c3:r.from'=r.branch<;>cases b:cH r.from'<;>cases f:r.yes<;>cases l<;>cases g<;>simp[c1,c2,c3,b,f]at a |-
 simp only[h];by_cases c1:r.target=a6<;>by_cases c2:r.order=0<;>by_cases c3:r.from'=a6<;>cases b:r.yes<;>cases l<;>cases g<;>simp[c1,c2,c3,b]at a |-
theorem Yd(r):(!vA r&&(sL r.parents&&((D0 r&&kY r.sl)&&BF r.priv)))=gY r:=by
 rw[<-Bool.and_assoc,aBi,gY,aBj];by_cases b:Yb r=true
 ·rw[aAE b]
  grind
 have a:Yb r=false:=F_
 have f:MQ r=false:=by
  cases e:MQ r
  ·rfl
  have ⟨c,d⟩:=BO e;rw[Yb,decide_eq_true c,decide_eq_true d]at a;cases a
 rw[a,f,Bool.false_and,Bool.false_and,Bool.and_false,Bool.false_and]
end Go.Proofs.YtopnleflllkbmaaGreatDoor
end
namespace Go.Proofs.YtopnleflllkbmaaGreatDoor
open Go.Proofs.Tryz
open Go.Abs Go.Lib
variable{l R:List UInt8}{p c n:Nat}
theorem Gy(r:j8)(H:aF)(hr:nF r)(u_:∀e∈r.edits,e.refs.length<2^40):RC 69 [av (dX r)] (bv (gY r)) H:=by
 refine aU.pure ?_ F_ H;have hml:(r.parents.map S_).length=r.parents.length:=j6 _;have hown:=λH=>Ss r H hr u_;have z:=λH=>dh r.priv H hr.2.2.2.2.2;have q:=λH=>SY r.sl H hr.2.2.2.2.1;have o:=λH=>lE r.branch H (by have:=hr.2.1.1;omega);have p:=λH=>FC r.parents H hr.2.2.1;have hpl:=hr.2.2.1.1;have hE:=Yd r;have T:vA r=((((((((((decide (r.kind<1)||decide (5<r.kind))||decide (r.author<0))||decide (59<r.author))||decide (r.number<1))||decide (128<r.number))||decide (r.clock<1))||decide (1000000<r.clock))||!cH r.branch)||decide (16<((r.parents.map S_).length:Int)))||!r.parents.all m6):=rfl;have ⟨a,y_⟩:∃a,a=vA r:=X_;have ⟨v_,w⟩:∃a,a=D0 r:=X_;have ⟨E,hfo2⟩:∃a,a=kY r.sl:=X_;have ⟨B,hpr2⟩:∃a,a=BF r.priv:=X_;have ⟨nm,hnm2⟩:∃a,a=cH r.branch:=X_;have ⟨dg,hdg2⟩:∃a,a=r.parents.all m6:=X_;generalize gY r=v at hE |-;rw[<-y_]at hE T;rw[<-w]at hE hown;rw[<-hfo2]at hE q;rw[<-hpr2]at hE z;rw[<-hnm2]at T o;rw[<-hdg2]at T p;clear y_ w hfo2 hpr2 hnm2 hdg2;refine Bd func69 Z ntmps69<|O (kb 1)<|V aI<|S<|S<|aQ (t:=59) (n:=66) (A_:=a) ?_ ?_
 ·all_goals refine Y (bA oH)<|Y (bQ M_)<|Y cJ<|Dm ?_<;>(refine Sp 7 (λh7=>?_) λh7=>?_)<;>(first|exact s_|refine M<|M<|M ?_|refine U (bA oH)<|U (bQ M_)<|U iP ?_)<;>refine Y cC<|Dm ?_<;>(refine Sp 12 (λD=>?_) λD=>?_)<;>(first|exact s_|refine M<|M<|M ?_|refine U (bA E9)<|U (bQ M_)<|U cJ ?_)<;>refine Y cC<|Dm ?_<;>(refine Sp 17 (λe_=>?_) λe_=>?_)<;>(first|exact s_|refine M<|M<|M ?_|refine U (bA E9)<|U (bQ M_)<|U iP ?_)<;>refine Y cC<|Dm ?_<;>(refine Sp 22 (λK=>?_) λK=>?_)<;>(first|exact s_|refine M<|M<|M ?_|refine U (bA AN)<|U (bQ M_)<|U cJ ?_)<;>refine Y cC<|Dm ?_<;>(refine Sp 27 (λN=>?_) λN=>?_)<;>(first|exact s_|refine M<|M<|M ?_|refine U (bA AN)<|U (bQ M_)<|U iP ?_)<;>refine Y cC<|Dm ?_<;>(refine Sp 32 (λI=>?_) λI=>?_)<;>(first|exact s_|refine M<|M<|M ?_|refine U (bA E8)<|U (bQ M_)<|U cJ ?_)<;>refine Y cC<|Dm ?_<;>(refine Sp 37 (λL=>?_) λL=>?_)<;>(first|exact s_|refine M<|M<|M ?_|refine U (bA E8)<|U (bQ M_)<|U iP ?_)<;>refine Y cC<|Dm ?_<;>(refine Sp 42 (λo_=>?_) λo_=>?_)<;>(first|exact s_|refine M<|M<|M<|M ?_|refine U (bA C9)<|U (bQ N_)<|U (kc fV (o _))<|U iI ?_)<;>refine Y cC<|Dm ?_<;>(refine Sp 48 (λR=>?_) λR=>?_)<;>(first|exact s_|refine M<|M<|M<|M ?_|refine U (bA oG)<|U (bQ aG)<|U (fW aE)<|U iP ?_)<;>refine Y cC<|Dm ?_<;>(refine Sp 54 (λf_=>?_) λf_=>?_)<;>(first|exact s_|refine M<|M<|M<|M ?_|refine U (bA oG)<|U (bQ aG)<|U (kc call114 (p _))<|U iI ?_)<;>refine V cC ?_<;>(exact⟨⟨_,Z,G_⟩,Z,Z,Z⟩)
 refine Cn ?_ ?_<;>intro y
 ·have d_:=y;rw[d_]at hE;rw[<-hE];exact Sz aI<|aC<|Rt<|Qq
 have d_:=y;rw[d_]at hE;have hE:(sL r.parents&&((v_&&E)&&B))=v:=hE;refine aB<|S<|Sz aI<|aD<|bF (σ:=Nat) (λk=>([(1,.ref 1 0 0 0),(3,iv ((k:Int)+1))],[(1,bx 21 53 ((dX r).map .pv))])) (λk=>k<=r.parents.length/\sL r.parents=sL (r.parents.drop k)) (λk=>r.parents.length - k) 0 ⟨X,Z⟩ ?_ ?_
 ·exact E0
 rintro k ⟨hk,hst⟩;refine S<|O aA<|Y (bA oG)<|Y (bQ aG)<|Y (fW aE)<|V cJ<|Cn ?_ ?_<;>intro A
 ·have P:k+1<r.parents.length:=I_ A
  have ⟨s,hs⟩:=aS (l:=r.parents) (k:=k) X;have ⟨t,z_⟩:=aS P;have hi:=cE (f:=S_) hs;have u:=cE (f:=S_) z_;have F:=xo hs z_;have Q:IntKind.i64.wrap ((k:Int)+1 - 1)=(k:Int):=by rw[mE X X];omega
  refine aB<|S<|aD<|S<|aM a7<|Cq (bA oG)<|Cq (bQ aG)<|Cq aA<|Cq (dM Z Z Z Q)<|Cq (bU Z bD Z Z X x6 hi Z)<|Cq (fZ N_ (hi:=hi))<|Cq (bA oG)<|Cq (bQ aG)<|Cq aA<|Cq (bU Z bD Z Z X x6 u Z)<|Cq (fZ N_ (hi:=u))<|Cq (JZ Z Z Z)<|bG<|Kr<|Cn ?_ ?_<;>intro n
  ·have A_:=not_not n;rw[hst,F,A_]at hE;rw[<-hE];exact Sz aI<|aC<|Rt<|Qq
  have A_:=pO n;refine aB<|Rd aA<|Y (by exact dB Z Z Z (show IntKind.i64.wrap ((k:Int)+1+1)=((k+1:Nat):Int)+1 by rw[mE X X];omega))<|Da ?_;exact⟨k+1,⟨X,F_⟩,X,E0⟩
 have hge:r.parents.length<=k+1:=J_ A
 rw[hst,X5 m5]at hE;have hE:((v_&&E)&&B)=v:=hE;rw[<-hE];refine aP<|S<|aQ (t:=2) (n:=15) (A_:=(v_&&E)&&B) ?_ ?_
 ·all_goals refine Y (wQ cT bL)<|Y (kc call115 (hown _))<|Dm ?_<;>(refine Sp 81 (λG=>?_) λG=>?_)<;>(first|exact s_|refine M<|M<|M ?_|refine U (bA zV)<|U (wQ gT sizeOf48)<|U (kc call116 (q _)) ?_)<;>refine Y cC<|Dm ?_<;>(refine Sp 86 (λc_=>?_) λc_=>?_)<;>(first|exact s_|refine M<|M<|M ?_|refine U (bA iE)<|U (wQ isAgg51 sizeOf51)<|U (kc call117 (z _)) ?_)<;>refine Y cC<|Da ?_<;>exact Gj (h:=by(simp_all;done))
 exact aC<|Rt<|Qq
def pt2(q:Int×Int):List B_:=[aT q.1,aT q.2]
def lr(p:GPriv):List B_:=[p.name,p.reason,aT (p.sources.length:Int)]
def GM(p:GPriv)(k:Nat):List B_:=((lr p++p.sources)++[aT (p.trace.length:Int)])++(p.trace.take k).flatMap pt2
theorem Qv(p):GM p p.trace.length=yY (UF p):=by rw[GM];simp[UF,yY,fI,lr];rfl
theorem yl{p}{k}{q}(h:p.trace[k]?=some q):GM p (k+1)=GM p k++pt2 q:=by simp[GM,fF h,flatMap_append]
theorem Gu(r:j8)(I:nF r)(o:VF r)(H:aF):RC 112 [av (wZ r.priv)] (.pv (aL (yY (UF r.priv)))) H:=by
 refine aU.pure ?_ F_ H;have ⟨p,F⟩:∃p,p=r.priv:=X_;have j:=o.tr;have B:=o.sol;have E:=o.trl;rw[<-F]at j B E |-;clear F o I;have g:(p.sources.map S_).length=p.sources.length:=j6 _;have t:(p.trace.map kA).length=p.trace.length:=j6 _;have u:∀H,RC 84 [iv ((p.sources.map S_).length:Int)] (sv (aT (p.sources.length:Int))) H:=λH=>by
  rw[g];exact BY (p.sources.length:Int) X X H
 have d_:∀H,RC 84 [iv ((p.trace.map kA).length:Int)] (sv (aT (p.trace.length:Int))) H:=λH=>by
  rw[t];exact BY (p.trace.length:Int) X X H
 have v:(cB (lr p++p.sources)).length=3+p.sources.length:=by rw[cB,j6,j_];rfl
 have n:∀k,k<=p.trace.length->(GM p k).length=4+p.sources.length+2*k:=λk i=>by
  have:((p.trace.take k).flatMap pt2).length=2*k:=by
   have G:∀l:List (Int×Int),(l.flatMap pt2).length=2*l.length:=λl=>by
    induction l with
    |nil=>rfl
    |cons q l K=>rw[flatMap_cons,j_,K,j7];show 2+_=_;omega
   rw[G,q9];omega
  rw[GM,j_,j_,j_,this];show 3+_+1+_=_;omega
 have A:∀k,k<=p.trace.length->(cB (GM p k)).length=4+p.sources.length+2*k:=λk i=>by rw[cB,j6,n k i]
 have hw0:cB (lr p++p.sources)++([aT (p.trace.length:Int)].map S_).map (·.map AV.pv)=cB (GM p 0):=by rw[iV,GM,take_zero,flatMap_nil,append_nil]
 refine Bd func112 Z ntmps112<|O (kb 1)<|V aI<|S<|aM a7<|Cr [1] (λ_ h=>fh IJ h)<|Cr [1] (λ_ h=>lh N_ h)<|Cr [1] (λ_ h=>fh II h)<|Cr [1] (λ_ h=>lh N_ h)<|Cr [1] (λ_ h=>fh yI h)<|Cr [1] (λ_ h=>lh aG h)<|Cr [] (λ_ _=>(fW aE))<|Cr [] (λe d=>by exact bH Z Z gR Z (u _))<|Cp [971] (λe d=>by exact gN (id:=971) Z bD Z Z Z Z F_ ((d _ Z).trans Z))<|Cr [971] (λ_ _=>aI)<|bG<|Kr<|O aA<|Y (bA yI)<|Y (bQ aG)<|Y (by exact cA (ob:=⟨0,1,9,cB (lr p)⟩) (k:=3+p.sources.length) (ps:=p.sources.map S_) Z bD yJ Z Z Z Z Z Z Z (fY _) (m:=p.sources.length) g X Z (rows':=cB (lr p++p.sources)) (by exact iV _ _)) ?_;refine V aI<|O aA<|Y (bA sZ)<|Y (bQ jV)<|Y (fW gC)<|Y (kc gR (d_ _))<|Y (by exact aK ([aT (p.trace.length:Int)].map S_) Z bD Z Z Z Z Z (fY _))<|Y (by exact cA (ob:=⟨1,1,9,cB (lr p++p.sources)⟩) (k:=4+p.sources.length+2*0) (ps:=[aT (p.trace.length:Int)].map S_) Z bD yJ Z Z Z Z Z v Z (fY _) (m:=1) Z X X (rows':=cB (GM p 0)) X)<|V aI<|S<|Sz aI<|aD<|bF (σ:=Nat) (λk=>([(1,.ref 1 0 0 0),(3,.osl 971 (2+k) 0 (4+p.sources.length+2*k)),(4,iv (k:Int))],[(1,bx 7 51 ((wZ p).map .pv)),(971,⟨2+k,1,9,cB (GM p k)⟩)])) (λk=>k<=p.trace.length) (λk=>p.trace.length - k) 0 X ?_ ?_
 ·exact L_
 intro k i;have m:=A k i;refine S<|O aA<|Y (bA sZ)<|Y (bQ jV)<|Y (fW gC)<|V cJ<|Cn ?_ ?_<;>intro f
 ·have y:k<p.trace.length:=I_ f
  have ⟨q,z⟩:=aS y;have hqb:=j q (m8 z);have s:=cE (f:=kA) z;have L:=λH=>BY q.1 X X H;have c_:=λH=>BY q.2 X X H;refine aB<|S<|aD<|aM a7<|Cr [971] (λ_ _=>aA)<|Cr [1] (λ_ h=>fh sZ h)<|Cr [1] (λ_ h=>lh jV h)<|x_ aA<|x_ (by exact bU Z UB Z Z X x6 s Z)<|x_ ((E5 mM))<|x_ ((fZ M_ (hi:=s)))<|x_ (by exact bH Z Z gR Z (L _))<|Cr [1] (λ_ h=>fh sZ h)<|Cr [1] (λ_ h=>lh jV h)<|x_ aA<|x_ (by exact bU Z UB Z Z X x6 s Z)<|x_ ((E5 mL))<|x_ ((fZ M_ (hi:=s)))<|x_ (by exact bH Z Z gR Z (c_ _))<|x_ (by exact aK ((pt2 q).map S_) Z bD Z Z Z Z Z (fY _))<|Cp [971] (λe d=>by exact cA (ob:=⟨2+k,1,9,cB (GM p k)⟩) (k:=4+p.sources.length+2*(k+1)) (ps:=(pt2 q).map S_) Z bD yJ Z ((d _ Z).trans Z) Z Z Z m Z (fY _) (m:=2) Z X X (rows':=cB (GM p (k+1))) (by rw[iV,yl z])) ?_;refine Cr [971] (λ_ _=>aI)<|bG<|Kr<|Rd aA<|Y kp<|Da ?_;exact⟨k+1,X,X,L_⟩
 have D:k=p.trace.length:=J_ f
 subst D;have w:=n p.trace.length i;refine aP<|O aA<|V aI<|aC ?_;refine cR (H':=[]) (.inr Z) Z (aH Z) (Fin.fz (id:=971) (ob:=⟨2+p.trace.length,1,9,cB (GM p p.trace.length)⟩) ((GM p p.trace.length).map S_) Z (eT _) (.osl (HM S_ _ w)) Z T_ T_) ?_;exact⟨by rw[<-Qv];rfl,Z⟩
theorem Au(r)(b:nF r)(c:VF r)(a:∀e∈r.edits,e.refs.length<2^40){H}(hno:H.get 971=none):aU Tryz.prog 70 [av (dX r)] H (λx H'=>x=.osl 971 2 0 (wJ r).length/\H'=(971,⟨2,1,9,cB (wJ r)⟩)::H) :=aU.frame (Av r b c a) (λ_ _ h=>by cases h) (λ_ _ h=>by cases h) H_ (λid h=>.inr (by
  by_cases e:971=id
  ·simp_all
  simp[aF.get,jR e]at h))
theorem ma(L)(f:L.length<=100000)(g:∀s∈L,s.size<=100000000)(H)(id)(ob)(n)(j:H.get id=some ob)(d:Nat.blt 0 ob.sz=true)(b:ob.rows=cB L)(h:n=L.length):aU Tryz.prog 85 [.osl id ob.g 0 n] H (λr H'=>r=sv (a_ (aN L))/\H'=(id,KP ob)::H):=by
 subst h;refine aU.retire _ (VO L f g _) j d (by rw[b];exact eT _) Z ?_;intro i a a' e c
 match i with
 |0 =>
  cases e;cases c;refine .inr ⟨0,L.length,Z,?_⟩;rw[iW];rfl
 |n+1=>cases e
def yf(s:n_):List B_:=[aT s.idx,aT (s.sig.length:Int)]
def Ga(s:n_):List B_:=[aT (s.path.length:Int)]
theorem QS(s:n_)(i:FSeal s)(H:aF):RC 111 [av (lH s)] (.pv (aL (fI (.z s.idx s.sig s.path)))) H:=by
 refine aU.pure ?_ F_ H;have q:=i.i0;have i1:=i.i1;have l1:=i.sl;have l2:=i.pl;have e:(s.sig.map S_).length=s.sig.length:=j6 _;have f:(s.path.map S_).length=s.path.length:=j6 _;have l:=λH=>BY s.idx q X H;have m:∀H,RC 84 [iv ((s.sig.map S_).length:Int)] (sv (aT (s.sig.length:Int))) H:=λH=>by
  rw[e];exact BY (s.sig.length:Int) X X H
 have n:∀H,RC 84 [iv ((s.path.map S_).length:Int)] (sv (aT (s.path.length:Int))) H:=λH=>by
  rw[f];exact BY (s.path.length:Int) X X H
 have c:fI (.z s.idx s.sig s.path)=((yf s++s.sig)++Ga s)++s.path:=by simp[fI,yf,Ga]
 rw[c];have g:(yf s++s.sig).length=2+s.sig.length:=by rw[j_];rfl
 have j:((yf s++s.sig)++Ga s).length=2+s.sig.length+1:=by rw[j_,g];rfl
 have o:(((yf s++s.sig)++Ga s)++s.path).length=2+s.sig.length+1+s.path.length:=G_
 refine Bd func111 Z ntmps111<|O (kb 1)<|V aI<|S<|aM a7<|Cr [1] (λ_ h=>fh DA h)<|Cr [1] (λ_ h=>lh M_ h)<|Cr [] (λp k=>by exact bH Z Z gR Z (l _))<|Cr [1] (λ_ h=>fh vX h)<|Cr [1] (λ_ h=>lh aG h)<|Cr [] (λ_ _=>(fW aE))<|Cr [] (λp k=>by exact bH Z Z gR Z (m _))<|Cp [971] (λp k=>by exact gN (id:=971) Z bD Z Z Z Z F_ ((k _ Z).trans Z))<|Cr [971] (λ_ _=>aI)<|bG<|Kr<|O aA<|Y (bA vX)<|Y (bQ aG)<|Y (by exact cA (ob:=⟨0,1,9,cB (yf s)⟩) (k:=2+s.sig.length) (ps:=s.sig.map S_) Z bD yJ Z Z Z Z Z Z Z (fY _) (m:=s.sig.length) e X Z (rows':=cB (yf s++s.sig)) (by exact iV _ _)) ?_;refine V aI<|O aA<|Y (bA vW)<|Y (bQ aG)<|Y (fW aE)<|Y (kc gR (n _))<|Y (by exact aK ((Ga s).map S_) Z bD Z Z Z Z Z (fY _))<|Y (by exact cA (ob:=⟨1,1,9,cB (yf s++s.sig)⟩) (k:=2+s.sig.length+1) (ps:=(Ga s).map S_) Z bD yJ Z Z Z Z Z ((eS _).trans g) Z (fY _) (m:=1) Z X Z (rows':=cB ((yf s++s.sig)++Ga s)) (by exact iV _ _))<|V aI<|O aA<|Y (bA vW)<|Y (bQ aG)<|Y (by exact cA (ob:=⟨2,1,9,cB ((yf s++s.sig)++Ga s)⟩) (k:=2+s.sig.length+1+s.path.length) (ps:=s.path.map S_) Z bD yJ Z Z Z Z Z ((eS _).trans j) Z (fY _) (m:=s.path.length) f X Z (rows':=cB (((yf s++s.sig)++Ga s)++s.path)) (by exact iV _ _))<|V aI<|aC ?_;refine cR (H':=[]) (.inr Z) Z (aH Z) (Fin.fz (id:=971) (ob:=⟨3,1,9,cB (((yf s++s.sig)++Ga s)++s.path)⟩) ((((yf s++s.sig)++Ga s)++s.path).map S_) Z (eT _) (.osl (HM S_ _ o)) Z T_ T_) ?_;exact Qq
theorem Ra(r:j8)(y:nF r)(t:∀e∈r.edits,e.refs.length<2^40)(H:aF):RC 68 [av (dX r)] (.tup [sv (mF r).1,iv (mF r).2]) H:=by
 refine aU.pure ?_ F_ H;have L:=λH=>Gy r H y t;rw[mF];refine Bd func68 Z ntmps68<|O (kb 1)<|Y aI<|V aI<|S<|O (by exact aW Z cT bL Z Z Z Z u0 Z)<|Y (kc call69 (L _))<|V iI ?_;refine Cn ?_ ?_<;>intro p
 ·have G:=not_not p;rw[a8 F_];exact O aI<|V aI<|aC<|Ru<|Qq
 have G:=pO p;have f:=xJ G;have o:jJ r=((wJ r++fI (.z r.sl.idx r.sl.sig r.sl.path))++yY (UF r.priv))++fI (.z r.priv.sl.idx r.priv.sl.sig r.priv.sl.path):=by rw[jJ,lq,append_assoc,append_assoc]
 have i:∀x∈jJ r,Wz x:=λx e_=>(mem_append.1 e_).elim (O3 f x) (YF f x);have hpl:=O2 f;have hsl:=YE f;have c:(jJ r).length<=506:=by rw[jJ,j_];omega
 have k:=xY i c;have m:=λ(H:aF) w=>Au r y f t (H:=H) w;have n:=λH=>QS r.sl (kX f.sl) H;have l:=λH=>QS r.priv.sl (kX f.psl) H;have q:=λH=>Gu r y f H;have d:=λH=>ma (jJ r) X (λs I=>Nat.le_trans (i s I) E_) H 971 ⟨5,1,9,cB (jJ r)⟩ (jJ r).length;rw[b7 G];rw[o]at d c k |-;have ⟨A,hA⟩:∃A,A=wJ r:=X_;have ⟨B,hB⟩:∃B,B=fI (.z r.sl.idx r.sl.sig r.sl.path):=X_;have ⟨d_,F⟩:∃d_,d_=yY (UF r.priv):=X_;have ⟨D,E⟩:∃D,D=fI (.z r.priv.sl.idx r.priv.sl.sig r.priv.sl.path):=X_;rw[<-hA,<-hB,<-F,<-E]at d c k |-;simp only[<-hA]at m;rw[<-hB]at n;rw[<-F]at q;rw[<-E]at l;have q1:(A++B).length<=506:=by have:=c;simp only[j_]at this |-;omega
 have K:((A++B)++d_).length<=506:=by have:=c;simp only[j_]at this |-;omega
 have z:=d;generalize aN (((A++B)++d_)++D)=c_ at d k |-;have hos:(a_ c_).size=c_.length:=bZ _;clear z hA hB F E o i;refine aB<|S<|aM a7<|Cr [1] (λv g=>by exact aW Z cT bL Z ((g _ Z).trans Z) Z Z u0 Z)<|Cp [971] (λv g=>by exact bH Z Z call70 Z ((m _ ((g _ Z).trans Z))))<|Cr [1] (λ_ h=>fh zV h)<|Cr [1] (λv g=>by exact aW Z gT sizeOf48 Z ((g _ Z).trans Z) Z Z Z Z)<|x_ (by exact bH Z Z call111 Z (n _))<|Cp [971] (λv g=>by exact cA (ob:=⟨2,1,9,cB A⟩) (k:=(A++B).length) (ps:=B.map S_) Z bD yJ Z ((g _ Z).trans Z) Z Z Z (eS _) Z (fY _) (m:=B.length) (j6 _) G_ F_ (rows':=cB (A++B)) (iV _ _))<|x_ aI<|bG<|Kr<|S ?_;refine Rd aA<|Y (bA iE)<|Y (wQ isAgg51 sizeOf51)<|Y (kc call112 (q _))<|Y (by exact cA (ob:=⟨3,1,9,cB (A++B)⟩) (k:=((A++B)++d_).length) (ps:=d_.map S_) Z bD yJ Z Z Z Z Z (eS _) Z (fY _) (m:=d_.length) (j6 _) (by rw[j_]at K;omega) j_.symm (rows':=cB ((A++B)++d_)) (iV _ _))<|V aI<|O aA<|Y (bA iE)<|Y (bA FA)<|Y (wQ gT sizeOf48)<|Y (kc call111 (l _))<|Y (by exact cA (ob:=⟨4,1,9,cB ((A++B)++d_)⟩) (k:=(((A++B)++d_)++D).length) (ps:=D.map S_) Z bD yJ Z Z Z Z Z (eS _) Z (fY _) (m:=D.length) (j6 _) (by rw[j_]at c;omega) j_.symm (rows':=cB (((A++B)++d_)++D)) (iV _ _)) ?_;refine V aI<|O aA<|Y (kc call85 (d _ Z Z Z Z))<|V aI<|S<|O aA<|Y (gE U_)<|V iP<|Cn ?_ ?_<;>intro u
 ·have j:20000<c_.length:=I_ u
  rw[b7 j];exact O aI<|V aI<|aC<|Ru<|Qq
 have j:¬ 20000<c_.length:=J_ u
 rw[a8 j];exact aB<|O aA<|Y aI<|V aI<|aC<|Ru<|Qq
theorem cq(t)(H)(c:t.size<1000000000):RC 67 [sv t] (.tup [.pv (kD (iD t).1),iv (iD t).2]) H:=by
 have h:=yx (λx a=>Ia (λy hy=>Hu X) a) (λx H a=>Hz (λx H a=>mf x H a) x H a) t H c
 rwa [Le (λe f b=>QX (λo d=>by rw[da d]) f b)]at h
theorem YU(t):∀e∈(iD t).1,e.refs.length<2^40:=by
 rw[<-Le (rE:=tw λs=>(Rp s).1) (λe c b=>QX (λo a=>by rw[da a]) c b) t,gPr]
 split
 ·simp_all
 next h =>
 split
 ·exact OY (λx hx=>(Ia (λy hy=>Hu X) X).2) _
 simp_all
theorem Ym:∀(n:Nat) (l:List UInt8) (L:List B_),l.length<=n->N9 l=some L->2*L.length<=l.length/\∀s∈L,s.size<=l.length:=by
 intro n
 induction n with
 |zero =>
  intro l L g h;rw[N9]at h
  simp_all
 | succ n d =>
  intro l L g h;rw[N9]at h
  split at h
  ·simp_all
  next h0 =>
  split at h
  ·cases h
  next b =>
  have hc:OA l≠0:=λe=>b (.inl e);have h58:l[OA l]?=some 58:=Classical.byContradiction λe=>b (.inr (.inl e));cases e:N9 _ with
  |none=>rw[e]at h;cases h
  |some e_ =>
   rw[e]at h;cases h;have ⟨f,c⟩:=d _ e_ G_ e;rw[q6]at f c;refine⟨G_,λs a=>?_⟩;rcases l9.1 a with rfl|a
   ·rw[bZ,q9,q6];omega
   have:=c s a;omega
def RD:Nat->RS->List (Int×Int)×RS
 |0,q=>([],q)
 |k+1,q=>if q.2=true then([],q)else(((rU q).1,(rU (rU q).2).1)::(RD k (rU (rU q).2).2).1,(RD k (rU (rU q).2).2).2)
def Ox(q:RS):List (Int×Int)×RS:=RD (rU q).1.toNat (rU q).2
def Oo(L:List B_):=rN (L,false)
def Wo(L:List B_):=rU (Oo L).2
def Wn(L:List B_):=rU (Wo L).2
def Wm(L:List B_):=rU (Wn L).2
def Wl(L:List B_):=rU (Wm L).2
def Wj(L:List B_):=rN (Wl L).2
def Pg(L:List B_):=rL (Wj L).2
def Om(L:List B_):=rN (Pg L).2
def Wi(L:List B_):=rN (Om L).2
def Wh(L:List B_):=rN (Wi L).2
def az(L:List B_):=rU (Wh L).2
def ay(L:List B_):=rN (az L).2
def N6(L:List B_):=rZ (ay L).2
def aw(L:List B_):=rN (N6 L).2
def ar(L:List B_):=rN (aw L).2
def XY(L:List B_):=rL (ar L).2
def XX(L:List B_):=Ox (XY L).2
def IZ(L:List B_):=rZ (XX L).2
def GW(L:List B_):j8:=⟨(Wo L).1,(Wn L).1,(Wm L).1,(Wl L).1,(Wj L).1,(Pg L).1,(iD (Om L).1).1,(Wi L).1,decide ((Wh L).1=BJ),(az L).1,(ay L).1,(N6 L).1,⟨(aw L).1,(ar L).1,(XY L).1,(XX L).1,(IZ L).1⟩⟩
def qi(t:List UInt8)(L:List B_):Prop:=(IZ L).2.2=true\/(Oo L).1≠GN\/mF (GW L)≠(a_ t,0)
instance (t:List UInt8) (L:List B_):Decidable (qi t L):=inferInstanceAs (Decidable (_\/_\/_))
def sY(t:List UInt8):j8×Int:=if 20000<t.length then(zR,2)else match N9 t with
 |none=>(zR,5)
 |some L=>if qi t L then(zR,5)else(GW L,0)
def jD(q:RS):Prop:=q.1.length<=10000/\∀s∈q.1,s.size<=20000
theorem MG{L}{b c}(h:jD (L,b))(k):jD (L.drop k,c):=⟨by have:=h.1;grind,λs a=>h.2 s (mem_of_mem_drop a)⟩
theorem wC{q}(h:jD q):(rN q).1.size<=20000/\jD (rN q).2:=by
 have ⟨L,b⟩:=q;refine⟨?_,MG h 1⟩;cases L with
 |nil=>exact l7 _
 |cons s L=>exact h.2 s mem_cons_self
theorem Tf(s):qC ((xW s).getD 0):=by
 rw[xW]
 split
 ·exact⟨H_,H_⟩
 next h7 =>
 split
 ·have:=MI (l:=s.data.toList) F_;show qC (UV _);exact⟨X,X⟩
 exact⟨H_,H_⟩
theorem tR{q}(h:jD q):qC (rU q).1/\jD (rU q).2:=⟨Tf _,MG h 1⟩
theorem VY{q}(h:jD q):((rL q).1.length<=20000/\∀x∈(rL q).1,x.size<=20000)/\jD (rL q).2:=by
 have d:=(tR h).2;have ⟨c,a⟩:=d;rw[rL]
 split
 ·exact⟨⟨l7 _,λx b=>by cases b⟩,c,a⟩
 refine⟨⟨?_,λx b=>a x (mem_of_mem_take b)⟩,MG ⟨c,a⟩ _⟩
 grind
theorem th{q}(h:jD q):(qC (rZ q).1.idx/\((rZ q).1.sig.length<=20000/\∀x∈(rZ q).1.sig,x.size<=20000)/\((rZ q).1.path.length<=20000/\∀x∈(rZ q).1.path,x.size<=20000))/\jD (rZ q).2:=by have e:=tR h;have d:=VY e.2;have c:=VY d.2;exact⟨⟨e.1,d.1,c.1⟩,c.2⟩
theorem Hl{q}(h:q.1.length=0\/q.2=true):(rU q).2.2=true:=by
 rw[rU,rN]
 grind
theorem Hn:∀(k) (q),jD q->((RD k q).1.length<=q.1.length+1/\∀p∈(RD k q).1,qC p.1/\qC p.2)/\jD (RD k q).2
 |0,q,h=>⟨⟨l7 _,λp b=>by cases b⟩,h⟩
 | k + 1, q, h => by
  rw[RD]
  split
  ·simp_all
  next hb =>
  have f:=tR h;have g:=tR f.2;have d:=Hn k _ g.2;refine⟨⟨?_,λp b=>?_⟩,d.2⟩
  ·rw[j7];by_cases e:q.1.length=0
   ·have c:RD k (rU (rU q).2).2=([],(rU (rU q).2).2):=by
     cases k with
     |zero=>rfl
     |succ k=>rw[RD,b7 (Hl (.inr (Hl (.inl e))))]
    rw[c];exact le_add_left _ _
   have e1:(rU q).2.1.length=q.1.length - 1:=q6;have e2:(rU _).2.1.length=(rU q).2.1.length - 1:=q6;omega
  grind
theorem Ho{q}(h:jD q):((Ox q).1.length<=20000/\∀p∈(Ox q).1,qC p.1/\qC p.2)/\jD (Ox q).2:=by have a:=tR h;have b:=Hn (rU q).1.toNat _ a.2;have h3:=a.2.1;exact⟨⟨by rw[Ox];omega,b.1.2⟩,b.2⟩
theorem Xv{L}(h:jD (L,false)):((Oo L).1).size<=20000/\jD (Oo L).2:=wC h
theorem Ed{L}(h:jD (L,false)):qC (Wo L).1/\jD (Wo L).2:=tR (Xv h).2
theorem Dz{L}(h:jD (L,false)):qC (Wn L).1/\jD (Wn L).2:=tR (Ed h).2
theorem Dy{L}(h:jD (L,false)):qC (Wm L).1/\jD (Wm L).2:=tR (Dz h).2
theorem Dx{L}(h:jD (L,false)):qC (Wl L).1/\jD (Wl L).2:=tR (Dy h).2
theorem Dw{L}(h:jD (L,false)):((Wj L).1).size<=20000/\jD (Wj L).2:=wC (Dx h).2
theorem Dv{L}(h:jD (L,false)):((Pg L).1.length<=20000/\∀x∈(Pg L).1,x.size<=20000)/\jD (Pg L).2:=VY (Dw h).2
theorem Du{L}(h:jD (L,false)):((Om L).1).size<=20000/\jD (Om L).2:=wC (Dv h).2
theorem Dt{L}(h:jD (L,false)):((Wi L).1).size<=20000/\jD (Wi L).2:=wC (Du h).2
theorem Xu{L}(h:jD (L,false)):((Wh L).1).size<=20000/\jD (Wh L).2:=wC (Dt h).2
theorem ri{L}(h:jD (L,false)):qC (az L).1/\jD (az L).2:=tR (Xu h).2
theorem rh{L}(h:jD (L,false)):((ay L).1).size<=20000/\jD (ay L).2:=wC (ri h).2
theorem rf{L}(h:jD (L,false)):(qC (N6 L).1.idx/\((N6 L).1.sig.length<=20000/\∀x∈(N6 L).1.sig,x.size<=20000)/\((N6 L).1.path.length<=20000/\∀x∈(N6 L).1.path,x.size<=20000))/\jD (N6 L).2:=th (rh h).2
theorem re{L}(h:jD (L,false)):((aw L).1).size<=20000/\jD (aw L).2:=wC (rf h).2
theorem ra{L}(h:jD (L,false)):((ar L).1).size<=20000/\jD (ar L).2:=wC (re h).2
theorem qz{L}(h:jD (L,false)):((XY L).1.length<=20000/\∀x∈(XY L).1,x.size<=20000)/\jD (XY L).2:=VY (ra h).2
theorem qy{L}(h:jD (L,false)):((XX L).1.length<=20000/\∀p∈(XX L).1,qC p.1/\qC p.2)/\jD (XX L).2:=Ho (qz h).2
theorem Ph{L}(h:jD (L,false)):(qC (IZ L).1.idx/\((IZ L).1.sig.length<=20000/\∀x∈(IZ L).1.sig,x.size<=20000)/\((IZ L).1.path.length<=20000/\∀x∈(IZ L).1.path,x.size<=20000))/\jD (IZ L).2:=th (qy h).2
theorem Hh{L}(h:jD (L,false)):nF (GW L)/\(GW L).parents.length<549755813888 :=He (g_ _) (Ed h).1 (Dz h).1 (Dy h).1 (Dx h).1 (ri h).1 (Dw h).1 (Dt h).1 (rh h).1 (re h).1 (ra h).1 (Dv h).1 (qz h).1 (qy h).1 (NM _) (RP _) (rf h).1 (Ph h).1
theorem Fp{t}{L}(c:t.length<=20000)(h:N9 t=some L):jD (L,false):=by have ⟨h1,a⟩:=Ym _ t L (g_ _) h;exact⟨G_,λs b=>Nat.le_trans (a s b) c⟩
theorem OZ(s)(L)(b):rN (s::L,b)=(s,(L,b)):=by simp[rN]
theorem um:∀(l) (n v),decFrom n l=some v->l.foldl (λn b=>10*n+(b.toNat:Int) - 48) n=v
 | [],n,v,h=>by
  obtain rfl:=Option.some.inj h;rfl
 | b::l,n,v,h=>by
  rw[decFrom]at h;cases e:digitVal b with
  |none=>simp_all
  | some d =>
   rw[e]at h;have a:(10*n+(b.toNat) - 48)=((n*10+d):Int):=by
    rw[digitVal]at e
    grind
   rw[foldl_cons,a];exact um l _ v h
theorem Aa{x}(h0:0<=x)(h1:x<10000000):xW (aT x)=some x:=by obtain ⟨k,rfl⟩:∃k:Nat,x=k:=⟨x.toNat,X⟩;have a:=MS k;have hs:(aT k).size<=7:=cV X H_;have c:UV _=k:=um _ 0 k (jI k);have b:TC k=aT k:=rfl;rw[xW,a8 X,a,c,b7 b]
theorem uQ{x}(a:0<=x)(c:x<10000000)(L)(b):rU (aT x::L,b)=(x,(L,b)):=by rw[rU,OZ];rw[Aa a c];simp
theorem O0{l}(h:l.length<10000000)(L)(b):rL (aT (l.length)::(l++L),b)=(l,(L,b)):=by rw[rL,uQ X X];rw[a8 G_,l_,take_left' Z,drop_left' rfl]
theorem ti{s}(d:0<=s.idx)(a:s.idx<10000000)(f:s.sig.length<10000000)(c:s.path.length<10000000)(L)(b):rZ (fI (.z s.idx s.sig s.path)++L,b)=(s,(L,b)):=by
 have e:fI (.z s.idx s.sig s.path)++L=aT s.idx::(aT (s.sig.length)::(s.sig++(aT (s.path.length)::(s.path++L)))):=by simp[fI]
 rw[e,rZ,uQ d a];rw[O0 f];rw[O0 c]
theorem tp:∀(ps) (L),(∀q∈ps,(0<=q.1/\q.1<10000000)/\(0<=q.2/\q.2<10000000))->RD ps.length (O7 ps++L,false)=(ps,(L,false))
 | [],L,_=>rfl
 |q::ps,L,h=>by
  obtain ⟨⟨a,b⟩,c,d⟩:=h q mem_cons_self;have e:O7 (q::ps)++L=aT _::(aT _::(O7 _++L)):=rfl;rw[j7,RD,a8 H_,e,uQ a b];rw[uQ c d];rw[tp _ L λx f=>h x (mem_cons_of_mem _ f)]
theorem Hq{ps}(hl:ps.length<10000000)(h:∀q∈ps,(0<=q.1/\q.1<10000000)/\(0<=q.2/\q.2<10000000))(L):Ox (fI (.p ps)++L,false)=(ps,(L,false)):=by have e:fI (.p ps)++L=aT _::(O7 _++L):=rfl;rw[e,Ox,uQ X X];rw[l_,tp _ L h]
theorem mc{r:j8}(h:VF r):GW (jJ r)=r/\(Oo (jJ r)).1=GN/\(IZ (jJ r)).2.2=false:=by
 have hk:=BO h.k;have hau:=h.au;have hnu:=h.nu;have hcl:=h.cl;have hod:=h.order;have hpl:=h.pal;have hso:=h.sol;have htl:=h.trl;have j:=kX h.sl;have k:=kX h.psl;have i1:=j.i0;have i2:=j.i1;have i3:=j.sl;have i4:=j.pl;have j1:=k.i0;have j2:=k.i1;have j3:=k.sl;have j4:=k.pl;have l:∀q∈r.priv.trace,(0<=q.1/\q.1<10000000)/\(0<=q.2/\q.2<10000000):=λq z=>by have:=h.tr q z;omega
 have o:Oo (jJ r)=(GN,(sf1 r,false)):=by rw[Oo,Nl];rfl
 have w:Wo (jJ r)=(r.kind,(sf2 r,false)):=by rw[Wo,o];exact uQ X X _ _
 have s:Wn (jJ r)=(r.author,(sf3 r,false)):=by rw[Wn,w];exact uQ X X _ _
 have x:Wm (jJ r)=(r.number,(sf4 r,false)):=by rw[Wm,s];exact uQ X X _ _
 have t:Wl (jJ r)=(r.clock,(sf5 r,false)):=by rw[Wl,x];exact uQ X X _ _
 have u:Wj (jJ r)=(r.branch,(sf6 r,false)):=by rw[Wj,t];rfl
 have v:Pg (jJ r)=(r.parents,(sf7 r,false)):=by rw[Pg,u];exact O0 X _ _
 have m:Om (jJ r)=((jW r.edits).1,(sf8 r,false)):=by rw[Om,v];rfl
 have p:Wi (jJ r)=(r.target,(sf9 r,false)):=by rw[Wi,m];rfl
 have n:Wh (jJ r)=(aT (if r.yes then 1 else 0),(Gq r,false)):=by rw[Wh,p];rfl
 have c:az (jJ r)=(r.order,(Gp r,false)):=by rw[az,n];exact uQ X X _ _
 have d:ay (jJ r)=(r.from',(Gn r,false)):=by rw[ay,c];exact OZ _ _ _
 have f:N6 (jJ r)=(r.sl,(Gm r,false)):=by rw[N6,d];exact ti X X X X _ _
 have g:aw (jJ r)=(r.priv.name,(Gl r,false)):=by rw[aw,f];exact OZ _ _ _
 have a:ar (jJ r)=(r.priv.reason,(Gk r,false)):=by rw[ar,g];exact OZ _ _ _
 have b:XY (jJ r)=(r.priv.sources,(j9 r,false)):=by rw[XY,a];exact O0 X _ _
 have e:XX (jJ r)=(r.priv.trace,(Gi r,false)):=by rw[XX,b];exact Hq X l _
 have i:IZ (jJ r)=(r.priv.sl,(Gh r,false)):=by rw[IZ,e];exact ti X X X X _ _
 refine⟨?_,by rw[o],by rw[i]⟩;rw[GW,w,s,x,t,u,v,m,p,n,c,d,f,g,a,b,e,i,S8 h.tx];have y:decide (aT (if r.yes then 1 else 0)=BJ)=r.yes:=ba r.yes;simp only[y]
theorem cm{r}{t}(h:mF r=(a_ t,0)):sY t=(r,0):=by
 have d:gY r=true:=by
  rw[mF]at h
  grind
 have c:=xJ d;have f:t=aN (jJ r)/\t.length<=20000:=by
  rw[mF,b7 d]at h
  split at h
  ·cases h
  next hl =>
  have:=congrArg (λs=>s.data.toList) (congrArg Prod.fst h);simp[cG]at this;rw[<-this];exact⟨Z,X⟩
 have a:N9 t=some (jJ r):=by
  rw[f.1];exact QG _ λs g=>Nat.lt_of_le_of_lt (show s.size<=20000 from(mem_append.1 g).elim (O3 c s) (YF c s)) E_
 have ⟨e,r2,i⟩:=mc c;have b:¬ qi t (jJ r):=by
  rw[qi,e,i]
  simp_all
 rw[sY,a8 X,a];dsimp only;rw[a8 b,e]
theorem pg(t):sY t=dZ t:=by
 by_cases d:(dZ t).2=0
 ·rw[cm (RQ d)];exact Prod.ext Z d.symm
 by_cases b:20000<t.length
 ·rw[sY,b7 b,dZ,b7 b]
 have c:dZ t=(zR,5):=by
  rw[dZ]at d |-
  grind
 rw[c,sY,a8 b];cases e:N9 t with
 |none=>rfl
 |some L =>
  dsimp only;by_cases a:qi t L
  ·rw[b7 a]
  have f:=Classical.byContradiction λh=>a (.inr (.inr h));rw[RR f]at c;have g:=congrArg Prod.snd c;exact absurd g H_
theorem nw(s):(xW s).getD 0<=300000000:=by
 rw[xW]
 split
 ·decide
 next h7 =>
 split
 ·have:=MI (l:=s.data.toList) F_;show UV _<=_;omega
 decide
theorem Ro{q}(h:q.2=true):∀k,RD k q=([],q)
 |0=>rfl
 |k+1=>by rw[RD,b7 h]
theorem aAe:(iD a6).1=[]:=by kernel_rfl
theorem lz(t:List UInt8)(hts:t.length<1000000000)(H:aF):RC 25 [sv (a_ t)] (.tup [av (dX (sY t).1),iv (sY t).2]) H:=by
 refine Pu ?_;have hls:(a_ t).size=t.length:=bZ t;have hsp:=λH=>xx t hts H;refine Bd func25 Z ntmps25<|O (kl 2 jw)<|V aI<|S<|O aA<|Y (gE U_)<|V iP<|Cn ?_ ?_<;>intro hc1
 ·have hb:20000<t.length:=I_ hc1
  rw[show sY t=(zR,2)by rw[sY,b7 hb]];refine O (oI TH)<|Uu (jA bL)<|V aI<|aC<|fP (H':=[]) (.inr Z) Z (fB Z cT bL Z Z Z u0 Z) (aH Z) (Fin.wk (by simp[dX]) T_ T_) ?_;exact Qq
 have hb:¬ 20000<t.length:=J_ hc1
 rw[Qj]at hsp;have hg:sY t=match N9 t with
  |none=>(zR,5)
  |some L=>if qi t L then(zR,5)else(GW L,0):=by rw[sY,a8 hb];all_goals rfl
 have hok:=λL h=>Fp (t:=t) (L:=L) X h;rw[hg];clear hg;have ⟨o_,hO⟩:∃o_,o_=N9 t:=X_;rw[<-hO]at hsp hok |-;clear hO;rcases o_ with _|L
 ·have hsp:∀H,RC 62 [sv (a_ t)] (.tup [.pv (aL []),bv false]) H:=hsp;refine aB<|O aA<|Y (kc call62 (hsp _))<|Y aA<|Y dK<|Y dK<|Y aI<|V aI<|S<|O aA<|V iI<|Cn ?_ ?_<;>intro hc2
  ·refine O (oI TH)<|Uu (jA bL)<|V aI<|aC<|fP (H':=[]) (.inr Z) Z (fB Z cT bL Z Z Z u0 Z) (aH Z) (Fin.wk (by simp[dX]) T_ T_) ?_;exact Qq
  cases hc2
 have hsp:∀H,RC 62 [sv (a_ t)] (.tup [.pv (aL L),bv true]) H:=hsp;have hS:=hok L Z;have W:=Hh hS;have hrf:=YU (Om L).1;have s7:=(Du hS).1;have hpc:=λH=>cq (Om L).1 H X;have hbd:qi t L↔((IZ L).2.2=true\/(Oo L).1≠GN\/mF (GW L)≠(a_ t,0)):=Iff.rfl;rw[GW]at W hbd;have F:=λH=>Ra _ W.1 hrf H;dsimp only;rw[GW];have lt40:∀q:RS,jD q->q.1.length<2^40:=λq h=>by have:=h.1;omega
 have k0:=uR (L,false) (lt40 _ hS);have o0:=wC (q:=(L,false)) hS;have e0:Oo L=rN (L,false):=by rw[Oo]
 have ⟨⟨G,Q0⟩,h0⟩:∃p,p=rN (L,false):=X_;rw[<-h0]at k0 o0 e0;dsimp only at k0 o0;have k1:=oA Q0 (lt40 _ o0.2);have o1:=tR (q:=Q0) o0.2;have e1:Wo L=rU Q0:=by rw[Wo,e0]
 have ⟨⟨I,Q1⟩,h1⟩:∃p,p=rU Q0:=X_;rw[<-h1]at k1 o1 e1;dsimp only at k1 o1;have k2:=oA Q1 (lt40 _ o1.2);have o2:=tR (q:=Q1) o1.2;have e2:Wn L=rU Q1:=by rw[Wn,e1]
 have ⟨⟨e_,Q2⟩,h2⟩:∃p,p=rU Q1:=X_;rw[<-h2]at k2 o2 e2;dsimp only at k2 o2;have k3:=oA Q2 (lt40 _ o2.2);have o3:=tR (q:=Q2) o2.2;have e3:Wm L=rU Q2:=by rw[Wm,e2]
 have ⟨⟨c_,Q3⟩,h3⟩:∃p,p=rU Q2:=X_;rw[<-h3]at k3 o3 e3;dsimp only at k3 o3;have k4:=oA Q3 (lt40 _ o3.2);have o4:=tR (q:=Q3) o3.2;have e4:Wl L=rU Q3:=by rw[Wl,e3]
 have ⟨⟨K,Q4⟩,h4⟩:∃p,p=rU Q3:=X_;rw[<-h4]at k4 o4 e4;dsimp only at k4 o4;have k5:=uR Q4 (lt40 _ o4.2);have o5:=wC (q:=Q4) o4.2;have e5:Wj L=rN Q4:=by rw[Wj,e4]
 have ⟨⟨V5,Q5⟩,h5⟩:∃p,p=rN Q4:=X_;rw[<-h5]at k5 o5 e5;dsimp only at k5 o5;have k6:=PF Q5 (lt40 _ o5.2);have o6:=VY (q:=Q5) o5.2;have e6:Pg L=rL Q5:=by rw[Pg,e5]
 have ⟨⟨V6,Q6⟩,h6⟩:∃p,p=rL Q5:=X_;rw[<-h6]at k6 o6 e6;dsimp only at k6 o6;have k7:=uR Q6 (lt40 _ o6.2);have o7:=wC (q:=Q6) o6.2;have e7:Om L=rN Q6:=by rw[Om,e6]
 have ⟨⟨y_,Q7⟩,h7⟩:∃p,p=rN Q6:=X_;rw[<-h7]at k7 o7 e7;dsimp only at k7 o7;have k8:=uR Q7 (lt40 _ o7.2);have o8:=wC (q:=Q7) o7.2;have e8:Wi L=rN Q7:=by rw[Wi,e7]
 have ⟨⟨V8,Q8⟩,h8⟩:∃p,p=rN Q7:=X_;rw[<-h8]at k8 o8 e8;dsimp only at k8 o8;have k9:=uR Q8 (lt40 _ o8.2);have o9:=wC (q:=Q8) o8.2;have e9:Wh L=rN Q8:=by rw[Wh,e8]
 have ⟨⟨V9,Q9⟩,h9⟩:∃p,p=rN Q8:=X_;rw[<-h9]at k9 o9 e9;dsimp only at k9 o9;have k10:=oA Q9 (lt40 _ o9.2);have o10:=tR (q:=Q9) o9.2;have P:az L=rU Q9:=by rw[az,e9]
 have ⟨⟨V10,Q10⟩,h10⟩:∃p,p=rU Q9:=X_;rw[<-h10]at k10 o10 P;dsimp only at k10 o10;have k11:=uR Q10 (lt40 _ o10.2);have o11:=wC (q:=Q10) o10.2;have Q:ay L=rN Q10:=by rw[ay,P]
 have ⟨⟨n,D⟩,h11⟩:∃p,p=rN Q10:=X_;rw[<-h11]at k11 o11 Q;dsimp only at k11 o11;have k12:=tb D (lt40 _ o11.2);have o12:=th (q:=D) o11.2;have R:N6 L=rZ D:=by rw[N6,Q]
 have ⟨⟨V12,E⟩,h12⟩:∃p,p=rZ D:=X_;rw[<-h12]at k12 o12 R;dsimp only at k12 o12;have k13:=uR E (lt40 _ o12.2);have o13:=wC (q:=E) o12.2;have e13:aw L=rN E:=by rw[aw,R]
 have ⟨⟨z,f_⟩,h13⟩:∃p,p=rN E:=X_;rw[<-h13]at k13 o13 e13;dsimp only at k13 o13;have k14:=uR f_ (lt40 _ o13.2);have v_:=wC (q:=f_) o13.2;have z_:ar L=rN f_:=by rw[ar,e13]
 have ⟨⟨u,u_⟩,h14⟩:∃p,p=rN f_:=X_;rw[<-h14]at k14 v_ z_;dsimp only at k14 v_;have k15:=PF u_ (lt40 _ v_.2);have d_:=VY (q:=u_) v_.2;have e15:XY L=rL u_:=by rw[XY,z_]
 have ⟨⟨w,Q15⟩,h15⟩:∃p,p=rL u_:=X_;rw[<-h15]at k15 d_ e15;dsimp only at k15 d_;have k16:=oA Q15 (lt40 _ d_.2);have u16:=tR d_.2;have b16:=nw (rN Q15).1;have B:Ox Q15=RD (rU Q15).1.toNat (rU Q15).2:=rfl;have b16:(rU Q15).1<=300000000:=b16;have ⟨⟨N,QN⟩,hN⟩:∃p,p=rU Q15:=X_;rw[<-hN]at k16 u16 b16 B;dsimp only at k16 u16 b16 B;have o16:=Ho (q:=Q15) d_.2;have T:XX L=Ox Q15:=by rw[XX,e15]
 have ⟨⟨s,l⟩,h16⟩:∃p,p=Ox Q15:=X_;rw[<-h16]at B o16 T;dsimp only at B o16;have k17:=tb l (lt40 _ o16.2);have o17:=th (q:=l) o16.2;have e17:IZ L=rZ l:=by rw[IZ,T]
 have ⟨⟨V17,Q17⟩,h17⟩:∃p,p=rZ l:=X_;rw[<-h17]at k17 o17 e17;dsimp only at k17 o17;simp only[e0,e1,e2,e3,e4,e5,e6,e7,e8,e9,P,Q,R,e13,z_,e15,T,e17]at W hrf s7 hpc hbd F |-;clear W hS hok hrf h0 h1 h2 h3 h4 h5 h6 h7 h8 h9 h10 h11 h12 h13 h14 h15 h16 h17 e0 e1 e2 e3 e4 e5 e6 e7 e8 e9 P Q R e13 z_ e15 T e17;have hpn:y_=a6->(iD y_).1=[]:=λh=>by rw[h];exact aAe
 have ⟨PE,hPE⟩:∃v,v=iD y_:=X_;rw[<-hPE]at hpc F hbd hpn |-;clear hPE;have ⟨ED,EE⟩:=PE;dsimp only at hpc F hbd hpn |-;have ⟨TX,hTX⟩:∃v,v=mF ⟨I,e_,c_,K,V5,V6,ED,V8,decide (V9=BJ),V10,n,V12,⟨z,u,w,s,V17⟩⟩:=X_;rw[<-hTX]at F hbd;clear hTX;rw[show GN=⟨#[114,101,99,111,114,100]⟩from rfl]at hbd;refine aB<|O aA<|Y (kc call62 (hsp _))<|Y aA<|Y dK<|Y dK<|Y aI<|V aI<|S<|O aA<|V iI<|Cn ?_ ?_<;>intro hc3
 ·cases hc3
 refine aB<|O aA<|Y (oI aEY)<|Y (kb 980)<|V aI<|Sz (kl 7 aB0)<|O aA<|Y (kc qU (k0 _ Z))<|V aI<|O aA<|Y (kc qT (k1 _ Z))<|Y (bA oH)<|Uu (ku sizeOf3)<|Zz<|O aA<|Y (kc qT (k2 _ Z))<|Y (bA E9)<|Uu (ku sizeOf3)<|Zz<|O aA<|Y (kc qT (k3 _ Z))<|Y (bA AN)<|Uu (ku sizeOf3)<|Zz<|O aA<|Y (kc qT (k4 _ Z))<|Y (bA E8)<|Uu (ku sizeOf3)<|Zz<|S ?_;refine gG.ent (E':=[(0,sv (a_ t)),(2,.ref 2 0 0 0),(6,tk),(7,.ref 7 0 0 0),(8,sv G)]) (H':=[(980,tu Q4),(7,bx 21 53 [iv I,iv e_,iv c_,iv K,sv a6,.pv .nils,.pv .nils,sv a6,bv false,iv 0,sv a6,iv 0,.pv .nils,.pv .nils,sv a6,sv a6,.pv .nils,.pv .nils,iv 0,.pv .nils,.pv .nils]),(2,bx 21 53 ((dX zR).map .pv))]) Wk<|Rd aA<|Y (kc qU (k5 _ Z))<|Y (bA C9)<|Uu (by exact cQ Z V_ Z Z Z Z Z Z u1 u0 u0)<|Zz<|O aA<|Y (kc call65 (k6 _ Z))<|Y (bA oG)<|Uu (by exact cQ Z sizeOf22 Z Z Z Z Z Z u1 u0 u0)<|Zz<|S ?_;refine gG.ent (E':=[(0,sv (a_ t)),(2,.ref 2 0 0 0),(6,tk),(7,.ref 7 0 0 0),(8,sv G)]) (H':=[(980,tu Q6),(7,bx 21 53 [iv I,iv e_,iv c_,iv K,sv V5,.pv (aL V6),.pv .nils,sv a6,bv false,iv 0,sv a6,iv 0,.pv .nils,.pv .nils,sv a6,sv a6,.pv .nils,.pv .nils,iv 0,.pv .nils,.pv .nils]),(2,bx 21 53 ((dX zR).map .pv))]) Wk<|Rd aA<|Y (kc qU (k7 _ Z))<|V aI<|O aA<|Y (kc qU (k8 _ Z))<|Y (bA C7)<|Uu (by exact cQ Z V_ Z Z Z Z Z Z u1 u0 u0)<|Zz<|O aA<|Y (kc qU (k9 _ Z))<|Y wH<|Y (bA IH)<|Uu (by exact cQ Z sizeOf4 Z Z Z Z Z Z u1 u0 u0)<|Zz<|O aA<|Y (kc qT (k10 _ Z))<|Y (bA yH)<|Uu (by exact cQ Z sizeOf3 Z Z Z Z Z Z u1 u0 u0) ?_;refine Zz<|O aA<|Y (kc qU (k11 _ Z))<|Y (bA wX)<|Uu (by exact cQ Z V_ Z Z Z Z Z Z u1 u0 u0)<|Zz<|S ?_;refine gG.ent (E':=[(0,sv (a_ t)),(2,.ref 2 0 0 0),(6,tk),(7,.ref 7 0 0 0),(8,sv G),(9,sv y_)]) (H':=[(980,tu D),(7,bx 21 53 [iv I,iv e_,iv c_,iv K,sv V5,.pv (aL V6),.pv .nils,sv V8,bv (decide (V9=BJ)),iv V10,sv n,iv 0,.pv .nils,.pv .nils,sv a6,sv a6,.pv .nils,.pv .nils,iv 0,.pv .nils,.pv .nils]),(2,bx 21 53 ((dX zR).map .pv))]) Wk<|Rd aA<|Y (kc call66 (k12 _ Z))<|Y (bA zV)<|Uu (by exact qO Z sizeOf48 Z Z Z Z Z Z Z u1 u0 u0)<|Zz<|S ?_
 refine gG.ent (E':=[(0,sv (a_ t)),(2,.ref 2 0 0 0),(6,tk),(7,.ref 7 0 0 0),(8,sv G),(9,sv y_)]) (H':=[(980,tu E),(7,bx 21 53 [iv I,iv e_,iv c_,iv K,sv V5,.pv (aL V6),.pv .nils,sv V8,bv (decide (V9=BJ)),iv V10,sv n,iv V12.idx,.pv (aL V12.sig),.pv (aL V12.path),sv a6,sv a6,.pv .nils,.pv .nils,iv 0,.pv .nils,.pv .nils]),(2,bx 21 53 ((dX zR).map .pv))]) Wk<|Rd aA<|Y (kc qU (k13 _ Z))<|Y (bA iE)<|Y (bA IJ)<|Uu (by exact cQ Z V_ Z Z Z Z Z Z u1 u0 u0)<|Zz<|O aA<|Y (kc qU (k14 _ Z))<|Y (bA iE)<|Y (bA II)<|Uu (by exact cQ Z V_ Z Z Z Z Z Z u1 u0 u0)<|Zz<|O aA<|Y (kc call65 (k15 _ Z))<|Y (bA iE)<|Y (bA yI)<|Uu (by exact cQ Z sizeOf22 Z Z Z Z Z Z u1 u0 u0) ?_;refine Zz<|S ?_;refine gG.ent (E':=[(0,sv (a_ t)),(2,.ref 2 0 0 0),(6,tk),(7,.ref 7 0 0 0),(8,sv G),(9,sv y_)]) (H':=[(980,tu Q15),(7,bx 21 53 [iv I,iv e_,iv c_,iv K,sv V5,.pv (aL V6),.pv .nils,sv V8,bv (decide (V9=BJ)),iv V10,sv n,iv V12.idx,.pv (aL V12.sig),.pv (aL V12.path),sv z,sv u,.pv (aL w),.pv .nils,iv 0,.pv .nils,.pv .nils]),(2,bx 21 53 ((dX zR).map .pv))]) Wk<|Rd aA<|Y (kc qT (k16 _ Z))<|V aI<|S<|S ?_;refine gG.ent (E':=[(0,sv (a_ t)),(2,.ref 2 0 0 0),(6,tk),(7,.ref 7 0 0 0),(8,sv G),(9,sv y_),(10,iv N)]) (H':=(905,⟨0,2,104,[]⟩)::(7,bx 21 53 [iv I,iv e_,iv c_,iv K,sv V5,.pv (aL V6),.pv (kD []),sv V8,bv (decide (V9=BJ)),iv V10,sv n,iv V12.idx,.pv (aL V12.sig),.pv (aL V12.path),sv z,sv u,.pv (aL w),.osl 905 (0) 0 (0),iv 0,.pv (aL []),.pv (aL [])])::(980,tu QN)::(2,bx 21 53 ((dX zR).map .pv))::[]) ?_ ?_
 ·exact(cL.nz 905 2 104 Z Z ⟨⟨_,Z,(by exact Nz.same (by(simp;done)))⟩,⟨_,Z,(by exact Nz.same (by(simp;rfl)))⟩,⟨_,Z,(by exact Nz.same (by(simp;rfl)))⟩,⟨_,Z,(by exact Nz.same (by(simp;rfl)))⟩,⟨_,Z,(by exact Nz.same (by(simp;done)))⟩,⟨_,Z,(by exact Nz.same (by(simp;done)))⟩,⟨_,Z,(by exact Nz.same (by(simp;done)))⟩,T_⟩ ⟨⟨_,Z,Z,Z,Z,(by exact .inr ⟨_,_,rfl,rfl,(by repeat(first|exact trivial|refine⟨(by first|exact Nz.own|exact Nz.weak|exact Nz.same (by(simp;done))),?_⟩))⟩)⟩,⟨_,Z,Z,Z,Z,(by exact .inl ⟨Z,(by(simp;done))⟩)⟩,⟨_,Z,Z,Z,Z,(by exact .inl ⟨Z,(by(simp;done))⟩)⟩,T_⟩ T_)
 refine Rg<|V aI<|aD<|eU (λ(A:List (Int×Int)) (q:RS)=>([(0,sv (a_ t)),(2,.ref 2 0 0 0),(6,tk),(7,.ref 7 0 0 0),(8,sv G),(9,sv y_),(10,iv N),(11,iv (A.length:Int))],[(905,⟨A.length,2,104,vQ A⟩),(7,bx 21 53 [iv I,iv e_,iv c_,iv K,sv V5,.pv (aL V6),.pv (kD []),sv V8,bv (decide (V9=BJ)),iv V10,sv n,iv V12.idx,.pv (aL V12.sig),.pv (aL V12.path),sv z,sv u,.pv (aL w),.osl 905 (A.length) 0 (A.length),iv 0,.pv (aL []),.pv (aL [])]),(980,tu q),(2,bx 21 53 ((dX zR).map .pv))])) (λA q=>jD q/\A.length<=N.toNat/\(s,l)=(A++(RD (N.toNat - A.length) q).1,(RD (N.toNat - A.length) q).2)) (λA q=>N.toNat - A.length) [] QN ⟨u16.2,l7 _,by rw[B];rfl⟩ ?_ ?_
 ·exact(cL.wk (Eb<|Ea<|Ea<|Ea<|Eb<|Eb<|Eb<|Eb<|T_) (Hc (CR _ _)<|Ha<|Hb<|Hb<|T_) T_)
 rintro A q ⟨hq,hA,hR⟩;have m1:=oA q (lt40 _ hq);have p1:=tR hq;have m2:=oA (rU q).2 (lt40 _ p1.2);have p2:=tR p1.2;have hstep:q.2=false->∀m,RD (m+1) q=(((rU q).1,(rU (rU q).2).1)::(RD m (rU (rU q).2).2).1,(RD m (rU (rU q).2).2).2):=λh m=>by rw[RD,a8 (by rw[h];decide)]
 have ⟨⟨x,q1⟩,hx⟩:∃p,p=rU q:=X_;rw[<-hx]at m1 m2 p1 p2 hstep;dsimp only at m1 m2 p1 p2 hstep;have ⟨⟨y,q2⟩,hy⟩:∃p,p=rU q1:=X_;rw[<-hy]at m2 p2 hstep;dsimp only at m2 p2 hstep;clear hx hy;refine S<|S<|aQ (t:=91) (n:=11) (A_:=decide ((A.length:Int)<N)&&!q.2) ?_ ?_
 ·all_goals refine Y aA<|Y aA<|Y cJ<|Dm ?_<;>(refine Sp 85 (λh85=>?_) λh85=>?_)<;>(first|exact s_|refine M<|M<|M<|M<|M ?_|refine U aA<|U sE<|U (bA MY)<|U (bQ nA)<|U iI ?_)<;>refine V cC ?_<;>exact Gj (h:=by(simp only[*,Zo];done))
 refine Cn ?_ ?_<;>intro hc4
 ·have o:=hc4;rw[k_,r8,j0]at o;have A_:(A++[(x,y)]).length=A.length+1:=by rw[j_];rfl
  have hR2:(s,l)=((A++[(x,y)])++(RD (N.toNat - (A.length+1)) q2).1,(RD (N.toNat - (A.length+1)) q2).2):=by
   rw[hR,show N.toNat - A.length=(N.toNat - (A.length+1))+1 by omega,hstep o.2];simp
  refine aB<|S<|aD<|Sz (kl 12 Dq)<|O aA<|Y (kc qT (m1 _ Z))<|Y (bA mM)<|Uu (ku sizeOf3)<|Zz<|O aA<|Y (kc qT (m2 _ Z))<|Y (bA mL)<|Uu (ku sizeOf3)<|Zz<|Rd (bA iE)<|Y (bA sZ)<|Y (bQ jV)<|Y (wQ eD sizeOf104)<|Y (by exact aK [kA (x,y)] Z UB Z Z Z Z Z R_)<|Y (by exact cA (ob:=⟨A.length,2,104,vQ A⟩) (k:=A.length+1) (ps:=[kA (x,y)]) Z UB Xd Z Z Z Z Z (RJ _) Z R_ (m:=1) Z X Z (rows':=vQ (A++[(x,y)])) (RK A (x,y))) ?_;refine Y (bA iE)<|Y (bA sZ)<|Uu (by exact cQ Z sizeOf49 Z Z Z Z Z Z u1 u0 u0)<|Zz<|Rd aA<|Y kp<|Da ?_;refine⟨A++[(x,y)],q2,⟨p2.2,by rw[A_];omega,by rw[A_];exact hR2⟩,by rw[A_];omega,?_⟩;rw[A_];exact(cL.wk (Eb<|Ea<|Ea<|Ea<|Eb<|Eb<|Eb<|Eb<|T_) (Hc (CR _ _)<|Ha<|Hb<|Hb<|T_) T_)
 have o:=hc4;have hend:(s,l)=(A,q):=by
  rw[Bool.and_eq_false_iff,p_,Bool.not_eq_false']at o;rcases o with h|h
  ·rw[hR,show N.toNat - A.length=0 by omega,RD,append_nil]
  rw[hR,Ro h,append_nil]
 obtain ⟨rfl,rfl⟩:=Prod.mk.inj hend;clear hR hstep m1 m2 hend;refine gG.ent (cL.fzG (id:=905) (E':=[(0,sv (a_ t)),(2,.ref 2 0 0 0),(6,tk),(7,.ref 7 0 0 0),(8,sv G),(9,sv y_)]) (H':=[(7,bx 21 53 ((dX ⟨I,e_,c_,K,V5,V6,[],V8,decide (V9=BJ),V10,n,V12,⟨z,u,w,s,zS⟩⟩).map .pv)),(980,tu l),(2,bx 21 53 ((dX zR).map .pv))]) (s.map kA) Z Z ?_ Z ?_ ?_) ?_
 ·intro p hp;simp only[l9,q7,or_false]at hp;rcases hp with rfl|rfl|rfl|rfl|rfl|rfl
  ·exact⟨_,Z,.same (by(simp;done))⟩
  ·exact⟨_,Z,.same (by(simp;rfl))⟩
  ·exact⟨_,Z,.same (by(simp;rfl))⟩
  ·exact⟨_,Z,.same (by(simp;rfl))⟩
  ·exact⟨_,Z,.same (by(simp;done))⟩
  exact⟨_,Z,.same y4⟩
 ·exact⟨⟨_,Z,Z,Z,Z,lW Z (bC (.same H_) (bC (.same H_) (bC (.same H_) (bC (.same H_) (bC (.same H_) (bC (.same H_) (bC (.same H_) (bC (.same H_) (bC (.same H_) (bC (.same H_) (bC (.same H_) (bC (.same H_) (bC (.same H_) (bC (.same H_) (bC (.same H_) (bC (.same H_) (bC (.same H_) (bC (.osl (iW kA _)) (bC (.same H_) (bC (.same H_) (bC (.same H_) kK)))))))))))))))))))))⟩,⟨_,Z,Z,Z,Z,eP (tt _ _)⟩,⟨_,Z,Z,Z,Z,eP (by simp[bx,dX])⟩,T_⟩
 ·exact T_
 refine aP<|O aA<|Y (kc call66 (k17 _ Z))<|Y (bA iE)<|Y (bA FA)<|Uu (by exact qO Z sizeOf48 Z Z Z Z Z Z Z (r_ Z) Z Z)<|Zz<|eK (λ(_:Unit)=>([(0,sv (a_ t)),(2,.ref 2 0 0 0),(6,tk),(7,.ref 7 0 0 0),(8,sv G)],[(980,tu Q17),(7,bx 21 53 ((dX ⟨I,e_,c_,K,V5,V6,ED,V8,decide (V9=BJ),V10,n,V12,⟨z,u,w,s,V17⟩⟩).map .pv)),(2,bx 21 53 ((dX zR).map .pv))])) (λ_=>True) ?_ ?_
 ·refine O aA<|V DZ<|Cn ?_ ?_<;>intro hc5
  ·refine Rd aA<|Y (kc call67 (hpc _))<|Y aA<|Y dK<|Y dK<|Y (bA C8)<|Uu (ku sizeOf46)<|Zz ?_;exact⟨(),T_,Wk⟩
  have hn:=hc5;rw[hpn (by rw[Bool.not_eq_false']at hn;exact b9 hn)];refine aB ?_;exact⟨(),T_,Wk⟩
 rintro _ -;refine O (wQ cT bL)<|Y (kc call68 (F _))<|Y aA<|Y dK<|Y dK<|Y aI<|V aI<|S<|S<|aQ (t:=141) (n:=20) (A_:=((Q17.2||!decide (G=⟨#[114,101,99,111,114,100]⟩))||!decide (TX.2=0))||!decide (TX.1=a_ t)) ?_ ?_
 ·all_goals refine Y aA<|Y sE<|Y (bA MY)<|Y (bQ nA)<|Dm ?_<;>(refine Sp 129 (λh129=>?_) λh129=>?_)<;>(first|exact s_|refine M<|M ?_|refine U aA<|U DZ ?_)<;>refine Y cC<|Dm ?_<;>(refine Sp 133 (λh133=>?_) λh133=>?_)<;>(first|exact s_|refine M<|M ?_|refine U aA<|U zB ?_)<;>refine Y cC<|Dm ?_<;>(refine Sp 137 (λh137=>?_) λh137=>?_)<;>(first|exact s_|refine M<|M<|M ?_|refine U aA<|U aA<|U DZ ?_)<;>refine V cC ?_<;>exact Gj (h:=by(simp only[*,Zo];done))
 refine Cn ?_ ?_<;>intro hc6
 ·have o:=hc6;rw[b7 (hbd.2 (by
   simp only[Bool.or_eq_true,r8,p_]at o;rcases o with((h|h)|h)|h
   ·exact .inl h
   ·exact .inr (.inl h)
   ·exact .inr (.inr λe=>h (by rw[e]))
   exact .inr (.inr λe=>h (by rw[e]))))]
  refine O (oI TH)<|Uu (jA bL)<|V aI<|aC<|fP (H':=[]) (.inr Z) Z (fB Z cT bL Z Z Z u0 Z) (aH Z) (Fin.wk (by simp[dX]) T_ T_) ?_;exact Qq
 have o:=hc6;rw[a8 (λh=>by
  simp only[q8,Bool.not_eq_false',j0]at o;rcases hbd.1 h with h|h|h
  ·rw[h]at o;cases o.1.1.1
  ·exact h o.1.1.2
  exact h (Prod.ext o.2 o.1.2))]
 refine aB<|O (wQ cT bL)<|Uu (jA bL)<|V aI<|aC<|fP (H':=[]) (.inr Z) Z (fB Z cT bL Z Z Z u0 Z) (aH Z) (Fin.wk (by simp[dX,lH,wZ]) T_ T_) ?_;exact Qq
theorem Mo(x p:B_)(H:aF):RC 94 [sv x,sv p] (bv (xA p x)) H:=by
 refine Pu ?_;have hb:=ik p x;refine Bd func94 Z ntmps94<|Sz aI<|S<|aQ (t:=4) (n:=15) (A_:=xA p x) ?_ ?_
 ·all_goals refine Y aA<|Y (gE U_)<|Y aA<|Y (gE U_)<|Y zU<|Dm ?_<;>(refine Sp 10 (λh10=>?_) λh10=>?_)<;>(first|exact s_|refine M<|M<|M<|M<|M<|M ?_|refine U aA<|U aA<|U (gE U_)<|U (bM (l:=0) (h:=p.size) Z U_ Z Z Z (l7 _) (I_ h10) Z)<|U aA<|U wH ?_)<;>refine Y cC<|Da ?_<;>exact Gj (h:=by rw[hb];(rw[h10];rfl))
 exact aC<|Rt<|Qq
theorem pw(s:B_)(H:aF)(hs:s.size<2^40):RC 60 [sv s] (bv (rV s)) H:=by
 refine Pu ?_;have hsl:=aR s;have hP:rV s=(decide (s.size<=16)&&s.data.toList.all vT):=rfl;refine Bd func60 Z ntmps60<|Sz aI<|S<|Sz aI<|aD<|bF (σ:=Nat) (λi=>([(0,sv s),(3,iv (i:Int))],[])) (λi=>i<=s.size/\∀k,k<i->∀y,s.data.toList[k]?=some y->vT y=true) (λi=>s.size - i) 0 ⟨l7 _,λk h=>by omega⟩ ?_ ?_
 ·exact Wk
 rintro i ⟨hi,hall⟩;refine S<|O aA<|Y aA<|Y (gE U_)<|V cJ<|Cn ?_ ?_<;>intro hc1
 ·have hlt:i<s.size:=I_ hc1
  have ⟨y,hy⟩:=aS (l:=s.data.toList) (k:=i) X;have hiff:=fj hy;have ⟨d,hd0,hd⟩:∃d:Int,(decide (d<0)=!vT y)/\∀H,RC 83 [.pv (.int .u8 (aY s i))] (iv d) H:=by
   by_cases hu:vT y=true
   ·refine⟨_,?_,λH=>wa _ (hiff.2 hu) H⟩;rw[hu];refine decide_eq_false ?_;have:=hiff.2 hu;unfold G9 at this
    split<;>omega
   refine⟨_,?_,λH=>gv _ (λh=>hu (hiff.1 h)) H⟩;rw[show vT y=false by simpa using hu];rfl
  refine aB<|S<|aD<|O aA<|Y aA<|Y (cI Z U_ Z Z X (l_ _) hlt Z)<|Y (kc call83 (hd _))<|V cJ<|Cn ?_ ?_<;>intro hc2
  ·have hu:vT y=false:=not_not (hd0.symm.trans hc2);have e:s.data.toList.all vT=false:=all_eq_false.2 ⟨y,m8 hy,by rw[hu];decide⟩;rw[hP,e,Bool.and_false];exact Sz aI<|aC<|Rt<|Qq
  have hu:vT y=true:=pO (hd0.symm.trans hc2);refine aB<|Rd aA<|Y kp<|Da ?_;refine⟨i+1,⟨X,λk hk z hz=>?_⟩,X,Wk⟩;by_cases e:k=i
  ·subst e;rw[hy]at hz;cases hz;exact hu
  exact hall k X z hz
 have hge:i=s.size:=J_ hc1
 have e:s.data.toList.all vT=true:=all_eq_true.2 λy hy=>by
  have ⟨k,hk⟩:=s8.1 hy;have:=(m9.1 hk).1;exact hall k X y hk
 rw[hP,e,Bool.and_true];exact aP<|O aA<|Y (gE U_)<|Y (by exact cN.eqv (oM Z Z Z) (show AV.pv (.bool (decide ((s.size:Int)<=16)))=bv (decide (s.size<=16))by congr 3;exact propext ⟨λh=>by omega,λh=>by omega⟩))<|V aI<|aC<|Rt<|Qq
theorem yO{i:Nat}{b:UInt8}(h:l[i]?=some b):aY (a_ l) i=(b.toNat:Int):=by rw[aY,cG,h];rfl
theorem R7(l:List UInt8)(H:aF)(hl:l.length<1000000000):RC 59 [sv (a_ l)] (iv (eJ (a_ l))) H:=by
 refine Pu ?_;have hz:=bZ l;refine Bd func59 Z ntmps59<|Sz aI<|Sz aI<|S<|Sz aI<|aD<|eU (λ(k n:Nat)=>([(0,sv (a_ l)),(3,iv (n:Int)),(4,iv (k:Int))],[])) (λk n=>k<=l.length/\k<=7/\n<10 ^ k/\decFrom 0 (l.take k)=some n) (λk n=>7 - k) 0 0 ⟨l7 _,E_,E_,Z⟩ ?_ ?_
 ·exact Wk
 rintro k n ⟨hk,hk7,hn,hd⟩;have hp7:10 ^ k<=10000000:=Nat.le_trans (Nat.pow_le_pow_right E_ hk7) E_;have ⟨B,hB⟩:∃B,B=(decide ((k:Int)<((a_ l).size:Int))&&decide ((k:Int)<7)):=X_;refine S<|S<|aQ (t:=12) (n:=9) (A_:=B) ?_ ?_
 ·all_goals refine Y aA<|Y aA<|Y (gE U_)<|Y cJ<|Dm ?_<;>(refine Sp 9 (λh9=>?_) λh9=>?_)<;>(try exact w_)<;>(first|refine M<|M ?_|refine U aA<|U cJ ?_)<;>refine V cC ?_<;>exact Gj (h:=by rw[hB];(rw[h9];rfl))
 refine Cn ?_ ?_<;>intro hc1
 ·have hBt:=hB.symm.trans hc1;rw[k_,j0,j0]at hBt;have ⟨b,hb⟩:=aS (l:=l) (k:=k) X;have hbl:=yO hb;have hb256:=b.toNat_lt;have ⟨x,hx⟩:∃x,x=aY (a_ l) k:=X_;rw[<-hx]at hbl;have ⟨d_,hC⟩:∃d_,d_=(decide (x<48)||decide (57<x)):=X_;refine aB<|S<|aD<|S<|S<|aQ (t:=24) (n:=11) (A_:=d_) ?_ ?_
  ·all_goals refine Y aA<|Y aA<|Y (cI Z U_ Z Z X (l_ _) X hx.symm)<|Y cJ<|Dm ?_<;>(refine Sp 19 (λh19=>?_) λh19=>?_)<;>(try exact w_)<;>(first|refine M<|M<|M<|M ?_|refine U aA<|U aA<|U (cI Z U_ Z Z X (l_ _) X hx.symm)<|U iP ?_)<;>refine V cC ?_<;>exact Gj (h:=by rw[hC];(rw[h19];rfl))
  refine Cn ?_ ?_<;>intro hc2
  ·have hCt:=hC.symm.trans hc2;rw[Bool.or_eq_true,j0,j0]at hCt;rw[nt (m8 hb) X];exact Sz aI<|aC<|Rt<|Qq
  have hCf:=hC.symm.trans hc2;rw[q8,p_,p_]at hCf;have hnx:10*n+(b.toNat - 48)<10 ^ (k+1):=by rw[Nat.pow_succ];omega
  refine aB<|Rd aA<|Y (by exact oL Z Z Z (show IntKind.i64.wrap (10*(n:Int))=((10*n:Nat):Int)by rw[mE X X];omega))<|Y aA<|Y aA<|Y (cI Z U_ Z Z X (l_ _) X hx.symm)<|Y (by exact dM Z Z Z (show IntKind.u8.wrap (x - 48)=((b.toNat - 48:Nat):Int)by rw[hbl,IntKind.wrap_u8];omega))<|Y (eE Z cZ underlying3 Z (mE X X))<|Y (by exact dB Z Z Z (show IntKind.i64.wrap (((10*n:Nat):Int)+((b.toNat - 48:Nat):Int))=((10*n+(b.toNat - 48):Nat):Int)by rw[mE X X];omega))<|V aI<|Rd aA<|Y kp<|Da ?_;refine⟨k+1,_,⟨X,X,hnx,?_⟩,X,Wk⟩;rw[fF hb,N0,hd];show decFrom n [b]=_;rw[decFrom,digitVal,b7 ⟨X,X⟩,Nat.mul_comm n 10];rfl
 have hBf:=hB.symm.trans hc1;have hge:l.length<=k\/k=7:=by
  by_cases h1:(k:Int)<((a_ l).size:Int)
  ·rw[decide_eq_true h1,Bool.true_and,p_]at hBf;exact .inr X
  exact .inl X
 have hdc:=λH=>px (n:Int) X X H;have hds:TC (n:Int)=a_ (decDigits n):=by rw[TC,a8 X,l_]
 rw[hds]at hdc;have ⟨d_,hC⟩:∃d_,d_=(decide ((6:Int)<((a_ l).size:Int))||!decide (a_ (decDigits n)=a_ l)):=X_;have hfull:l.length<=6->decFrom 0 l=some n:=λh=>by
  rcases hge with h2|h2
  ·rwa [take_of_length_le h2]at hd
  omega
 refine aP<|S<|S<|aQ (t:=41) (n:=10) (A_:=d_) ?_ ?_
 ·all_goals refine Y aA<|Y (gE U_)<|Y iP<|Dm ?_<;>(refine Sp 36 (λh36=>?_) λh36=>?_)<;>(try exact w_)<;>(first|refine M<|M<|M<|M ?_|refine U aA<|U (kc gR (hdc _))<|U aA<|U DZ ?_)<;>refine V cC ?_<;>exact Gj (h:=by rw[hC];(rw[h36];rfl))
 refine Cn ?_ ?_<;>intro hc3
 ·have hCt:=hC.symm.trans hc3;rw[show eJ (a_ l) = -1 by
   by_cases h6:6<l.length
   ·exact zz h6
   rw[decide_eq_false X,Bool.false_or,r8,p_]at hCt;exact Td (hfull X) λe=>hCt (by rw[e])]
  exact Sz aI<|aC<|Rt<|Qq
 have hCf:=hC.symm.trans hc3;rw[q8,Bool.not_eq_false',j0,p_]at hCf;have he:decDigits n=l:=by have:=congrArg (λs:B_=>s.data.toList) hCf.2;simpa only[cG]using this
 rw[Jq X he];exact aB<|O aA<|V aI<|aC<|Rt<|Qq
def dgT(l:List UInt8)(p c:Nat):Bool:=((decide (((p+c:Nat):Int)<((a_ l).size:Int))&&decide (((p+c:Nat):Int)<((p+6:Nat):Int)))&&decide (48<=aY (a_ l) (p+c)))&&decide (aY (a_ l) (p+c)<=57)
theorem Vc(hR:∀c,R[c]?=l[p+c]?)(h:dgT l p c=true):∃b,l[p+c]?=some b/\c<6/\OG b=true/\UC (R.drop c) c n=UC (R.drop (c+1)) (c+1) (10*n+(b.toNat - 48)):=by
 rw[dgT,k_,k_,k_,j0,j0,j0,j0,bZ]at h;have ⟨b,hb⟩:=aS (l:=l) (k:=p+c) X;rw[yO hb]at h;have hg:OG b=true:=by rw[OG,decide_eq_true X,decide_eq_true X];rfl
 have hdr:R.drop c=b::R.drop (c+1):=by
  have h0:R[c]?=some b:=(hR c).trans hb;have h1:=(m9.1 h0).1;rw[drop_eq_getElem_cons h1,(m9.1 h0).2]
 exact⟨b,hb,X,hg,by rw[hdr,UC,hg,decide_eq_true (by omega:c<6)];rfl⟩
theorem aAq(hR:∀c,R[c]?=l[p+c]?)(hc:p+c<=l.length)(h:dgT l p c=false):UC (R.drop c) c n=(c,n):=by
 by_cases hlt:p+c<l.length
 ·have ⟨b,hb⟩:=aS hlt;have hdr:R.drop c=b::R.drop (c+1):=by
   have h0:R[c]?=some b:=(hR c).trans hb;have h1:=(m9.1 h0).1;rw[drop_eq_getElem_cons h1,(m9.1 h0).2]
  rw[hdr,UC,a8];intro hg;rw[k_,OG,k_,j0,j0,j0]at hg;rw[dgT,yO hb,bZ,decide_eq_true X,decide_eq_true X,decide_eq_true X,decide_eq_true X]at h;cases h
 have:R.drop c=[]:=drop_eq_nil_of_le (by
  have h2:l[p+c]?=none:=getElem?_eq_none X;exact List.getElem?_eq_none_iff.1 ((hR c).trans h2))
 rw[this,UC]
theorem VK(l:List UInt8)(H:aF)(hl:l.length<1000000000):RC 58 [sv (a_ l)] (.tup [.pv (aL ((pL l).getD [])),bv (pL l).isSome]) H:=by
 refine Pu ?_;have hz:=bZ l;refine Bd func58 Z ntmps58<|O aI<|V aI<|Sz (eI (id:=905) (sz:=1) (ty:=9) Z Z Z)<|Sz aI<|S<|aD<|eU (λ(p:Nat) (A:List B_)=>([(0,sv (a_ l)),(4,.osl 905 A.length 0 A.length),(5,iv (p:Int))],[(905,⟨A.length,1,9,cB A⟩)])) (λp A=>p<=l.length/\A.length<=p/\pL l=(pL (l.drop p)).map (A++·)) (λp A=>l.length - p) 0 [] ⟨l7 _,g_ _,by rw[drop_zero];cases pL l<;>rfl⟩ ?_ ?_
 ·exact(cL.wk (Eb<|Ea<|Eb<|T_) (Hc (aV _ _)<|T_) T_)
 rintro p A ⟨hp,hAp,hJ⟩;refine S<|O aA<|Y aA<|Y (gE U_)<|V cJ<|Cn ?_ ?_<;>intro hc1
 ·have hlt:p<l.length:=by have:=b9 hc1;rw[hz]at this;omega
  have ⟨R,hR⟩:∃R,R=l.drop p:=X_;have hRl:R.length=l.length - p:=by rw[hR,q6]
  have hRg:∀c,R[c]?=l[p+c]?:=λc=>by rw[hR,getElem?_drop]
  rw[<-hR]at hJ;have hR0:R≠[]:=λe=>by rw[e]at hRl;simp at hRl;omega
  refine aB<|aD<|Sz aI<|O aA<|V aI<|S<|aD<|eU (λ(c n:Nat)=>([(0,sv (a_ l)),(4,.osl 905 A.length 0 A.length),(5,iv ((p+c:Nat):Int)),(6,iv (n:Int)),(7,iv (p:Int))],[(905,⟨A.length,1,9,cB A⟩)])) (λc n=>UC R 0 0=UC (R.drop c) c n/\c<=6/\p+c<=l.length/\n<10 ^ c) (λc n=>6 - c) 0 0 ⟨by rw[drop_zero],E_,X,E_⟩ ?_ ?_
  ·exact L_
  rintro c n ⟨hsc,hle6,hcl,hn⟩;have hp6:10 ^ c<=1000000:=Nat.le_trans (Nat.pow_le_pow_right E_ hle6) E_;have hB:dgT l p c=(((decide (((p+c:Nat):Int)<((a_ l).size:Int))&&decide (((p+c:Nat):Int)<((p+6:Nat):Int)))&&decide (48<=aY (a_ l) (p+c)))&&decide (aY (a_ l) (p+c)<=57)):=rfl;have hy:=Vc (n:=n) hRg (p:=p) (c:=c);have hno:=aAq (n:=n) hRg hcl;have ⟨B,hBe⟩:∃B,B=dgT l p c:=X_;rw[<-hBe]at hB hy hno;clear hBe;refine S<|S<|aQ (t:=34) (n:=25) (A_:=B) ?_ ?_
  ·all_goals refine Y aA<|Y aA<|Y (gE U_)<|Y cJ<|Dm ?_<;>(refine Sp 17 (λh17=>?_) λh17=>?_)<;>(try exact w_)<;>(first|refine M<|M<|M<|M ?_|refine U aA<|U aA<|U (by exact dB Z Z Z (show IntKind.i64.wrap ((p:Int)+6)=((p+6:Nat):Int)by rw[mE X X];omega))<|U cJ ?_)<;>refine Y cC<|Dm ?_<;>(refine Sp 23 (λh23=>?_) λh23=>?_)<;>(try exact w_)<;>(first|refine M<|M<|M<|M ?_|refine U aA<|U aA<|U (cI Z U_ Z Z X (l_ _) (I_ h17) Z)<|U zU ?_)<;>refine Y cC<|Dm ?_<;>(refine Sp 29 (λh29=>?_) λh29=>?_)<;>(try exact w_)<;>(first|refine M<|M<|M<|M ?_|refine U aA<|U aA<|U (cI Z U_ Z Z X (l_ _) (I_ h17) Z)<|U G8 ?_)<;>refine V cC ?_<;>exact Gj (h:=by rw[hB];first|(rw[h17];rfl)|(rw[h17,h23];rfl)|(rw[h17,h23,h29];rfl))
  refine Cn ?_ ?_<;>intro hc2
  ·have ⟨b,hb,hc6,hdg,hst⟩:=hy hc2;have hbl:=yO hb;have hb256:=b.toNat_lt;have hplt:=(m9.1 hb).1;rw[OG,k_,j0,j0]at hdg;have hnx:10*n+(b.toNat - 48)<10 ^ (c+1):=by rw[Nat.pow_succ];omega
   refine aB<|aD<|O aA<|Y (by exact oL Z Z Z (show IntKind.i64.wrap (10*(n:Int))=((10*n:Nat):Int)by rw[mE X X];omega))<|Y aA<|Y aA<|Y (ky U_)<|Y (by exact dM Z Z Z (show IntKind.u8.wrap (aY (a_ l) (p+c) - 48)=((b.toNat - 48:Nat):Int)by rw[hbl,IntKind.wrap_u8];omega))<|Y (eE Z cZ underlying3 Z (mE X X))<|Y (by exact dB Z Z Z (show IntKind.i64.wrap (((10*n:Nat):Int)+((b.toNat - 48:Nat):Int))=((10*n+(b.toNat - 48):Nat):Int)by rw[mE X X];omega))<|V aI<|Rd aA<|Y (by exact dB Z Z Z (show IntKind.i64.wrap (((p+c:Nat):Int)+1)=((p+(c+1):Nat):Int)by rw[mE X X];omega)) ?_;refine Da ?_;exact⟨c+1,_,⟨hsc.trans hst,X,X,hnx⟩,X,L_⟩
  have hsc2:=hsc.trans (hno hc2);have hC:OA R=c:=congrArg Prod.fst hsc2;have hN:lf R=n:=congrArg Prod.snd hsc2;have hbad:B1 R->pL l=none:=λh=>by rw[hJ,X8 hR0 (aBD h)];rfl
  have hgd:¬ B1 R->pL R=(pL ((R.drop (c+1)).drop n)).map (a_ ((R.drop (c+1)).take n)::·):=λh=>by
   have ⟨g1,g2,g3,g4⟩:=aAf h X;rw[QD hR0 g1,g2,g4,hC,hN]
  have hdef:B1 R↔(c=0\/R[c]?≠some 58\/decDigits n≠R.take c\/R.length - c - 1<n):=by rw[B1,hC,hN]
  have hdc:=λH=>px (n:Int) X X H;rw[TC,a8 X,l_]at hdc;clear hsc hsc2 hy hno hC hN hB;have ⟨B2,hB2⟩:∃B2,B2=@decide (B1 R) (Classical.propDecidable _):=X_;have hBt:B1 R->B2=true:=λh=>by rw[hB2,@decide_eq_true _ (Classical.propDecidable _) h]
  have hBf:¬ B1 R->B2=false:=λh=>by rw[hB2,@decide_eq_false _ (Classical.propDecidable _) h]
  have hBi:B2=true->B1 R:=λh=>@of_decide_eq_true _ (Classical.propDecidable _) (hB2.symm.trans h);have hBn:B2=false->¬ B1 R:=λh=>@of_decide_eq_false _ (Classical.propDecidable _) (hB2.symm.trans h);rw[hdef]at hBt hBf;clear hB2;have hx66:(a_ l).extract p (p+c)=a_ (R.take c):=mS (by rw[gB,cG,cG,hR,show p+c - p=c by omega]);refine aP<|S<|S<|pJ (t:=77) (n:=33) (A_:=B2) ?_ ?_
  ·by_cases c0:c=0
   ·have e1:decide (((p+c:Nat):Int)=(p:Int))=true:=decide_eq_true X;refine aM a7<|Cq aA<|Cq aA<|Cq cD<|Cq aA<|Of<|Of<|Of<|Of<|Cq CS<|Cq aA<|Of<|Of<|Of<|Of<|Cq cC<|Cq aA<|Of<|Of<|Of<|Of<|Of<|Of<|Of<|Cq cC<|Cq aA<|Of<|Of<|Of<|Of<|Of<|Of<|Of<|Cq cC<|bG<|Kr ?_;exact⟨Z,⟨_,Z,((hBt (.inl c0)).symm)⟩,Z,Z,Z⟩
   have e1:decide (((p+c:Nat):Int)=(p:Int))=false:=decide_eq_false X;by_cases hend:p+c<l.length
   ·have e2:decide (((a_ l).size:Int)<=((p+c:Nat):Int))=false:=decide_eq_false X;have ⟨b,hb⟩:=aS hend;have hbR:R[c]?=some b:=(hRg c).trans hb;have hbl:=yO hb;by_cases h58:b=58
    ·have e3:(!decide (aY (a_ l) (p+c)=58))=false:=by rw[hbl,h58];rfl
     by_cases hdd:decDigits n=R.take c
     ·have e4:(!decide (a_ (decDigits n)=a_ (R.take c)))=false:=by rw[hdd,decide_eq_true rfl];rfl
      have hfin:decide ((l.length - (p+c) - 1:Nat)<(n:Int))=B2:=by
       by_cases h:R.length - c - 1<n
       ·rw[hBt (.inr (.inr (.inr h)))];exact decide_eq_true X
       rw[hBf (λh2=>h2.elim c0 λh2=>h2.elim (λh2=>h2 (by rw[hbR,h58])) λh2=>h2.elim (λh2=>h2 hdd) h)];exact decide_eq_false X
      refine aM a7<|Cq aA<|Cq aA<|Cq cD<|Cq aA<|Nf aA<|Nf aA<|Nf (gE U_)<|Nf zU<|Cq sC<|Cq aA<|Nf aA<|Nf aA<|Nf (ky U_)<|Nf zB<|Cq sC<|Cq aA<|Nf aA<|Nf (kc gR (hdc _))<|Nf aA<|Nf aA<|Nf aA<|Nf (bM (l:=p) (h:=p+c) Z U_ Z Z Z X X hx66)<|Nf DZ<|Cq sC<|Cq aA<|Nf aA<|Nf aA<|Nf (gE U_)<|Nf aA<|Nf (by exact dM Z Z Z (show IntKind.i64.wrap (((a_ l).size:Int) - ((p+c:Nat):Int))=((l.length - (p+c):Nat):Int)by rw[hz,mE X X];omega))<|Nf (by exact dM Z Z Z (show IntKind.i64.wrap (((l.length - (p+c):Nat):Int) - 1)=((l.length - (p+c) - 1:Nat):Int)by rw[mE X X];omega)) ?_;refine Nf iP<|Cq sC<|bG<|Kr ?_;exact⟨Z,⟨_,Z,hfin⟩,Z,Z,Z⟩
     have e4:(!decide (a_ (decDigits n)=a_ (R.take c)))=true:=by
      rw[decide_eq_false λe=>hdd (by have:=congrArg (λs:B_=>s.data.toList) e;simpa only[cG]using this)];rfl
     refine aM a7<|Cq aA<|Cq aA<|Cq cD<|Cq aA<|Nf aA<|Nf aA<|Nf (gE U_)<|Nf zU<|Cq sC<|Cq aA<|Nf aA<|Nf aA<|Nf (ky U_)<|Nf zB<|Cq sC<|Cq aA<|Nf aA<|Nf (kc gR (hdc _))<|Nf aA<|Nf aA<|Nf aA<|Nf (bM (l:=p) (h:=p+c) Z U_ Z Z Z X X hx66)<|Nf DZ<|Cq sC<|Cq aA<|Of<|Of<|Of<|Of<|Of<|Of<|Of<|Cq CS<|bG<|Kr ?_;exact⟨Z,⟨_,Z,((hBt (.inr (.inr (.inl hdd)))).symm)⟩,Z,Z,Z⟩
    have e3:(!decide (aY (a_ l) (p+c)=58))=true:=by
     rw[hbl,decide_eq_false λe=>h58 (UInt8.toNat_inj.1 (by show b.toNat=58;omega))];rfl
    refine aM a7<|Cq aA<|Cq aA<|Cq cD<|Cq aA<|Nf aA<|Nf aA<|Nf (gE U_)<|Nf zU<|Cq sC<|Cq aA<|Nf aA<|Nf aA<|Nf (ky U_)<|Nf zB<|Cq sC<|Cq aA<|Of<|Of<|Of<|Of<|Of<|Of<|Of<|Cq CS<|Cq aA<|Of<|Of<|Of<|Of<|Of<|Of<|Of<|Cq cC<|bG<|Kr ?_;exact⟨Z,⟨_,Z,(by exact(hBt (.inr (.inl (by rw[hbR];exact λe=>h58 (Option.some.inj e))))).symm)⟩,Z,Z,Z⟩
   have e2:decide (((a_ l).size:Int)<=((p+c:Nat):Int))=true:=decide_eq_true X;refine aM a7<|Cq aA<|Cq aA<|Cq cD<|Cq aA<|Nf aA<|Nf aA<|Nf (gE U_)<|Nf zU<|Cq sC<|Cq aA<|Of<|Of<|Of<|Of<|Cq CS<|Cq aA<|Of<|Of<|Of<|Of<|Of<|Of<|Of<|Cq cC<|Cq aA<|Of<|Of<|Of<|Of<|Of<|Of<|Of<|Cq cC<|bG<|Kr ?_;exact⟨Z,⟨_,Z,(by exact(hBt (.inr (.inl (by rw[hRg,getElem?_eq_none X];exact λe=>by cases e)))).symm)⟩,Z,Z,Z⟩
  refine Cn ?_ ?_<;>intro hc3
  ·rw[hbad (hBi hc3)];refine O aI<|V aI<|aC<|fP (H':=[]) (.inr Z) Z (aH Z) (aH Z) (P_ (r:=.tup [.pv (aL []),bv false])) Qq
  have hnb:=hBn hc3;have hg:=hgd hnb;rw[hdef,not_or,not_or,not_or]at hnb;have hRc:c<R.length:=by
   by_cases h:c<R.length
   ·exact h
   exact absurd (by rw[getElem?_eq_none X];exact λe=>by cases e) hnb.2.1
  have hnn:=hnb.2.2.2;have hx86:(a_ l).extract (p+c+1) (p+c+1+n)=a_ ((R.drop (c+1)).take n):=mS (by rw[gB,cG,cG,hR,drop_drop,show p+c+1+n - (p+c+1)=n by omega,show p+(c+1)=p+c+1 by omega]);have hdr:(R.drop (c+1)).drop n=l.drop (p+c+1+n):=by rw[hR,drop_drop,drop_drop,show p+(c+1+n)=p+c+1+n by omega]
  rw[hdr]at hg;have hnl:(A++[a_ ((R.drop (c+1)).take n)]).length=A.length+1:=by rw[j_];rfl
  have hnx:pL l=(pL (l.drop (p+c+1+n))).map ((A++[a_ ((R.drop (c+1)).take n)])++·):=by
   rw[hJ,hg];cases pL (l.drop (p+c+1+n))<;>simp
  have ⟨A_,hX⟩:∃A_,A_=a_ ((R.drop (c+1)).take n):=X_;rw[<-hX]at hx86 hnl hnx;have w70:IntKind.i64.wrap (((p+c:Nat):Int)+1)=((p+c+1:Nat):Int):=by rw[mE X X];omega
  have w85:IntKind.i64.wrap (((p+c+1:Nat):Int)+(n:Int))=((p+c+1+n:Nat):Int):=by rw[mE X X];omega
  refine aB<|O aA<|Y aA<|Y aA<|Y (ka w70)<|Y aA<|Y (ka w70)<|Y aA<|Y (ka w85)<|Y (by exact bM (l:=p+c+1) (h:=p+c+1+n) Z U_ Z Z Z (by omega) (by rw[hz];omega) hx86)<|Y (by exact aK [[.str A_]] Z bD Z Z Z Z Z R_)<|Y (by exact cA (ps:=[[.str A_]]) Z bD yJ Z Z Z Z Z (eS _) Z R_ (m:=1) Z (by omega) Z (gO A A_))<|V aI<|Rd aA<|Y (ka w70)<|Y aA<|Y (ka w85)<|Da ?_;refine⟨p+c+1+n,A++[A_],⟨by omega,by rw[hnl];omega,hnx⟩,by omega,?_⟩;dsimp only;rw[hnl];exact(cL.wk (Eb<|Ea<|Eb<|T_) (Hc (aV _ _)<|T_) T_)
 have hge:p=l.length:=by have:=b_ hc1;rw[hz]at this;omega
 rw[hJ,hge,drop_length,OS];refine aP<|O aA<|Y aI<|V aI<|aC ?_;refine fP (H':=[]) (.inr Z) Z (aH Z) (aH Z) (Fin.st2J (A++[]) (bv true) Z Z (by rw[append_nil]) (by rw[append_nil]) H_) ?_;exact Qq
def DU(p:l8):List PV:=[.str p.pre,.int .i64 (p.cnt:Int),.str p.sum,aL p.ids]
def lk(P:List l8):PV:=.sl (P.map DU)
theorem yo(p:l8)(H:aF)(hl:p.ids.length<=2000)(hs:∀s∈p.ids,s.size<1000000):RC 61 [av (DU p)] (bv (AI p.pre p.ids&&decide (yM p.ids=p.sum))) H:=by
 refine aU.pure ?_ (by simp[DU]) H;have hml:(p.ids.map S_).length=p.ids.length:=j6 _;have hin:=SM p.pre p.ids;generalize AI p.pre p.ids=I at hin |-;refine Bd func61 Z ntmps61<|O (kb 1)<|V aI<|S<|Sz aI<|aD<|bF (σ:=Nat) (λk=>([(1,.ref 1 0 0 0),(3,iv (k:Int))],[(1,bx 4 92 ((DU p).map .pv))])) (λk=>k<=p.ids.length/\∀j x,j<k->p.ids[j]?=some x->(m6 x=true/\xA p.pre x=true)/\∀(i:Nat) (y:B_),j=i+1->p.ids[i]?=some y->lA y x=true) (λk=>p.ids.length - k) 0 ⟨l7 _,λj x h=>by omega⟩ ?_ ?_
 ·exact Wk
 rintro k ⟨hk,hall⟩;refine S<|O aA<|Y (bA vV)<|Y (bQ aG)<|Y (fW aE)<|V cJ<|Cn ?_ ?_<;>intro hc1
 ·have hlt:k<p.ids.length:=I_ hc1
  have ⟨x,hx⟩:=aS hlt;have hi:=cE (f:=S_) hx;have hxs:=hs x (m8 hx);have ⟨y,hy⟩:∃y,y=p.ids.getD (k - 1) a6:=X_;have hyg:(0:Int)<(k:Int)->p.ids[k - 1]?=some y:=λh=>by
   have ⟨z,hz⟩:=aS (l:=p.ids) (k:=k - 1) X;rw[hy,getD_eq_getElem?_getD,hz];rfl
  have hyi:=λh=>cE (f:=S_) (hyg h);have his:=λH=>cn x X H;have hpf:=λH=>Mo x p.pre H;have ⟨a,ha⟩:∃a,a=m6 x:=X_;have ⟨b,hb⟩:∃b,b=xA p.pre x:=X_;have hok:((!a||!b)||(decide ((0:Int)<(k:Int))&&!lA y x))=false->(m6 x=true/\xA p.pre x=true)/\∀(i:Nat) (z:B_),k=i+1->p.ids[i]?=some z->lA z x=true:=λh=>by
   rw[q8,q8,Bool.not_eq_false',Bool.not_eq_false',ha,hb]at h;refine⟨h.1,λi z e hz=>?_⟩;have h0:(0:Int)<(k:Int):=X
   have h2:=h.2;rw[decide_eq_true h0,Bool.true_and,Bool.not_eq_false']at h2;have:=hyg h0;rw[show k - 1=i by omega,hz]at this;cases this;exact h2
  have hno:((!a||!b)||(decide ((0:Int)<(k:Int))&&!lA y x))=true->I=false:=λh=>by
   cases hIv:I with
   |false=>rfl
   |true =>
    have ⟨⟨q1,q2⟩,q3⟩:=hin.1 hIv k x hx;rw[<-ha]at q1;rw[<-hb]at q2;rw[q1,q2,Bool.not_true,Bool.or_false,Bool.false_or,k_,j0,r8]at h;have:=q3 (k - 1) y X (hyg h.1);rw[h.2]at this;cases this
  have ⟨A_,hX⟩:∃A_,A_=((!a||!b)||(decide ((0:Int)<(k:Int))&&!lA y x)):=X_;rw[<-hX]at hok hno;rw[<-ha]at his;rw[<-hb]at hpf;clear ha hb;refine aB<|S<|aD<|S<|pJ (t:=46) (n:=36) (A_:=A_) ?_ ?_
  ·cases a with
   |false =>
    refine aM a7<|Cq (bA vV)<|Cq (bQ aG)<|Cq aA<|Cq (kx bD hi)<|Cq (fZ N_ (hi:=hi))<|Cq (kc call37 (his _))<|Cq iI<|Cq aA<|Of<|Of<|Of<|Of<|Of<|Of<|Of<|Of<|Of<|Cq cC<|Cq aA<|Of<|Of<|Of<|Ou<|Ou<|Ou<|Ou<|Ou<|Ou<|Ou<|Ou<|Ou<|Ou<|Ou<|Ou<|Of<|Cq cC<|bG<|Kr ?_;exact⟨Z,⟨_,Z,(by rw[hX];rfl)⟩,Z,Z,Z⟩
   | true =>
    cases b with
    |false =>
     refine aM a7<|Cq (bA vV)<|Cq (bQ aG)<|Cq aA<|Cq (kx bD hi)<|Cq (fZ N_ (hi:=hi))<|Cq (kc call37 (his _))<|Cq iI<|Cq aA<|Nf (bA vV)<|Nf (bQ aG)<|Nf aA<|Nf (kx bD hi)<|Nf (fZ N_ (hi:=hi))<|Nf (bA ZS)<|Nf (bQ N_)<|Nf (kc call94 (hpf _))<|Nf iI<|Cq cC<|Cq aA<|Of<|Of<|Of<|Ou<|Ou<|Ou<|Ou<|Ou<|Ou<|Ou<|Ou<|Ou<|Ou<|Ou<|Ou<|Of<|Cq cC<|bG<|Kr ?_;exact⟨Z,⟨_,Z,(by rw[hX];rfl)⟩,Z,Z,Z⟩
    |true =>
     by_cases h0:(0:Int)<(k:Int)
     ·have e:decide ((0:Int)<(k:Int))=true:=decide_eq_true h0;refine aM a7<|Cq (bA vV)<|Cq (bQ aG)<|Cq aA<|Cq (kx bD hi)<|Cq (fZ N_ (hi:=hi))<|Cq (kc call37 (his _))<|Cq iI<|Cq aA<|Nf (bA vV)<|Nf (bQ aG)<|Nf aA<|Nf (kx bD hi)<|Nf (fZ N_ (hi:=hi))<|Nf (bA ZS)<|Nf (bQ N_)<|Nf (kc call94 (hpf _))<|Nf iI<|Cq cC<|Cq aA<|Nf aA<|Nf iP<|Nf aA<|Nt (bA vV)<|Nt (bQ aG)<|Nt aA<|Nt (by exact dM Z Z Z (show IntKind.i64.wrap ((k:Int) - 1)=((k - 1:Nat):Int)by rw[mE X X];omega))<|Nt (bU Z bD Z Z X (l_ _) (hyi h0) Z)<|Nt (dV Z N_ Z (hyi h0) Z) ?_;refine Nt (bA vV)<|Nt (bQ aG)<|Nt aA<|Nt (kx bD hi)<|Nt (fZ N_ (hi:=hi))<|Nt (JZ Z Z Z)<|Nf CS<|Cq cC<|bG<|Kr ?_;exact⟨Z,⟨_,Z,(by rw[hX,e];rfl)⟩,Z,Z,Z⟩
     have e:decide ((0:Int)<(k:Int))=false:=decide_eq_false h0;refine aM a7<|Cq (bA vV)<|Cq (bQ aG)<|Cq aA<|Cq (kx bD hi)<|Cq (fZ N_ (hi:=hi))<|Cq (kc call37 (his _))<|Cq iI<|Cq aA<|Nf (bA vV)<|Nf (bQ aG)<|Nf aA<|Nf (kx bD hi)<|Nf (fZ N_ (hi:=hi))<|Nf (bA ZS)<|Nf (bQ N_)<|Nf (kc call94 (hpf _))<|Nf iI<|Cq cC<|Cq aA<|Nf aA<|Nf iP<|Nf aA<|Ot<|Ot<|Ot<|Ot<|Ot<|Ot<|Ot<|Ot<|Ot<|Ot<|Ot<|Ot<|Nf sC<|Cq cC<|bG<|Kr ?_;exact⟨Z,⟨_,Z,(by rw[hX,e];rfl)⟩,Z,Z,Z⟩
  refine Cn ?_ ?_<;>intro hc2
  ·rw[hno hc2];exact Sz aI<|aC<|Rt<|Qq
  have hokk:=hok hc2;refine aB<|Rd aA<|Y kp<|Da ?_;refine⟨k+1,⟨X,λj z hj hz=>?_⟩,X,Wk⟩;by_cases e:j=k
  ·subst e;rw[hx]at hz;cases hz;exact hokk
  exact hall j z X hz
 have hge:k=p.ids.length:=J_ hc1
 have hall:∀(j:Nat) (x:B_),p.ids[j]?=some x->(m6 x=true/\xA p.pre x=true)/\∀(i:Nat) (y:B_),j=i+1->p.ids[i]?=some y->lA y x=true:=λj x hx=>hall j x (by have:=(m9.1 hx).1;omega) hx;have hIt:I=true:=hin.2 hall;rw[hIt,Bool.true_and];have hli:=λH=>Rf p.ids hl (λs hs'=>by
  have ⟨j,hj⟩:=s8.1 hs';have:=jY (hall j s hj).1.1;omega) H
 exact aP<|S<|aM a7<|Cq (bA vV)<|Cq (bQ aG)<|Cq (kc call52 (hli _))<|Cq (bA Lg)<|Cq (bQ N_)<|Cq wH<|Cq aI<|bG<|Kr<|aC<|Rt<|Qq
def UG:Nat->List B_->Option (List l8×List B_)
 |0,l=>some ([],l)
 |n+1,a::b::c::r =>
  if((!rV a||decide (eJ b<0))||!m6 c)=true then none
  else if eJ b<=16 then(if(r.length:Int)<eJ b then none else if(AI a (r.take (eJ b).toNat)&&decide (yM (r.take (eJ b).toNat)=c))=true then(UG n (r.drop (eJ b).toNat)).map (λq=>(⟨a,(eJ b).toNat,c,r.take (eJ b).toNat⟩::q.1,q.2))else none)
  else(UG n r).map (λq=>(⟨a,(eJ b).toNat,c,[]⟩::q.1,q.2))
 |_,_=>none
theorem Zh{a:B_}{l:List B_}{P:List l8}(h:T7 (a::l)=some P):P≠[]:=by
 match l,h with
 | [],h=>rw[JU H_ H_]at h;cases h
 | [b],h=>rw[JU H_ H_]at h;cases h
 | b::c::r,h =>
  by_cases hb:((!rV a||decide (eJ b<0))||!m6 c)=true
  ·rw[YS r hb]at h;cases h
  rw[RM r (by simpa using hb)]at h;rintro rfl
  split at h
  ·split at h
   ·cases h
   split at h
   ·have ⟨q,_,e⟩:=Option.map_eq_some_iff.1 h;cases e
   cases h
  have ⟨q,_,e⟩:=Option.map_eq_some_iff.1 h;cases e
theorem YR:∀(n:Nat) (l:List B_) (P:List l8),UG n l=some (P,[])↔T7 l=some P/\P.length=n
 |0,l,P=>by
  rw[UG];constructor
  ·intro h;cases h;exact⟨O5,Z⟩
  rintro⟨h1,h2⟩;have hP:=length_eq_zero_iff.1 h2;subst hP;cases l with
  |nil=>rfl
  |cons a l=>exact absurd Z (Zh h1)
 |n+1,[],P=>by
  rw[show UG (n+1) []=none from Z,O5];constructor
  ·intro h;cases h
  rintro⟨h1,h2⟩;cases h1;cases h2
 |n+1,[a],P=>by
  rw[show UG (n+1) [a]=none from Z,JU H_ H_];constructor
  ·intro h;cases h
  rintro⟨h1,h2⟩;cases h1
 |n+1,[a,b],P=>by
  rw[show UG (n+1) [a,b]=none from Z,JU H_ H_];constructor
  ·intro h;cases h
  rintro⟨h1,h2⟩;cases h1
 | n+1,a::b::c::r,P=>by
  rw[UG];by_cases hb:((!rV a||decide (eJ b<0))||!m6 c)=true
  ·rw[b7 hb,YS r hb];constructor
   ·intro h;cases h
   rintro⟨h1,h2⟩;cases h1
  rw[a8 hb,RM r (by simpa using hb)];have key:∀(p:l8) (t:List B_),((UG n t).map (λq=>(p::q.1,q.2))=some (P,[])↔(T7 t).map (p::·)=some P/\P.length=n+1):=λp t=>by
   rw[Option.map_eq_some_iff,Option.map_eq_some_iff];constructor
   ·rintro⟨⟨Q,z⟩,h1,h2⟩;cases h2;have ⟨e1,e2⟩:=(YR n t Q).1 h1;exact⟨⟨Q,e1,Z⟩,by rw[j7,e2]⟩
   rintro⟨⟨Q,e1,rfl⟩,e2⟩;exact⟨(Q,[]),(YR n t Q).2 ⟨e1,by simpa using e2⟩,Z⟩
  have hnone:((none:Option (List l8×List B_))=some (P,[])↔(none:Option (List l8))=some P/\P.length=n+1):=⟨(λh=>by cases h),(λh=>by have:=h.1;cases this)⟩
  split
  ·next h16 =>
   have hrb:AD ⟨a,(eJ b).toNat,c,r.take (eJ b).toNat⟩=(AI a (r.take (eJ b).toNat)&&decide (yM (r.take (eJ b).toNat)=c)):=by
    rw[AD,decide_eq_true (show (((⟨a,(eJ b).toNat,c,r.take (eJ b).toNat⟩:l8).cnt:Nat):Int)<=16 by show ((eJ b).toNat:Int)<=16;omega)];rfl
   rw[hrb]
   split
   ·exact hnone
   split
   ·exact key _ _
   exact hnone
  exact key _ _
def EJ(N:Int)(l:List B_):List l8×Bool:=match UG N.toNat l with
 |none=>([],false)
 |some (P,t)=>(P,decide (1<=N)&&decide (t=[]))
def uB(m:B_):List l8×Bool:=if UT (pL m.data.toList)=true then([],false)else match pL m.data.toList with
 |some (_::n::r)=>EJ (eJ n) r
 |_=>([],false)
theorem ml(m:B_):(uB m).2=decide (xV m≠[])/\((uB m).2=true->(uB m).1=xV m):=by
 rw[uB];by_cases hX:UT (pL m.data.toList)=true
 ·rw[b7 hX,ef hX];exact⟨Z,λh=>by cases h⟩
 rw[a8 hX];obtain ⟨n,r,e1,e2⟩:=ZA (by simpa using hX);rw[e1,e2];show (EJ (eJ n) r).2=_/\((EJ (eJ n) r).2=true->(EJ (eJ n) r).1=_);have hlt:=F5 n;generalize eJ n=v at hlt |-;have hiff:=YR v.toNat r;rw[EJ];cases hp:UG v.toNat r with
 | none =>
  rw[hp]at hiff;refine⟨?_,λh=>by cases h⟩;symm;apply decide_eq_false;intro h;apply h;cases hq:T7 r with
  |none=>rfl
  |some P =>
   show (if(P.length:Int)=v then P else[])=[]
   split
   ·next e=>have:=(hiff P).2 ⟨hq,X⟩;cases this
   rfl
 | some q =>
  have ⟨P,t⟩:=q;rw[hp]at hiff;show (decide (1<=v)&&decide (t=[]))=_/\((decide (1<=v)&&decide (t=[]))=true->P=_);by_cases ht:t=[]
  ·subst ht;have ⟨e1,e2⟩:=(hiff P).1 Z;rw[e1];show (decide (1<=v)&&true)=decide ((if(P.length:Int)=v then P else[])≠[])/\_;by_cases h1:1<=v
   ·rw[b7 X,decide_eq_true h1];have hP:P≠[]:=λe=>by rw[e]at e2;simp at e2;omega
    refine⟨by rw[decide_eq_true hP];rfl,λ_=>?_⟩;show P=if(P.length:Int)=v then P else[]
    rw[b7 X]
   rw[decide_eq_false h1];refine⟨?_,λh=>by cases h⟩;symm;apply decide_eq_false;intro h;apply h
   split
   ·next e=>exact length_eq_zero_iff.1 X
   rfl
  rw[decide_eq_false ht,Bool.and_false];refine⟨?_,λh=>by cases h⟩;symm;apply decide_eq_false;intro h;apply h;cases hq:T7 r with
  |none=>rfl
  | some Q =>
   show (if(Q.length:Int)=v then Q else[])=[]
   split
   ·next e =>
    have:=(hiff Q).2 ⟨hq,X⟩;cases this;exact absurd Z ht
   rfl
end Go.Proofs.YtopnleflllkbmaaGreatDoor
