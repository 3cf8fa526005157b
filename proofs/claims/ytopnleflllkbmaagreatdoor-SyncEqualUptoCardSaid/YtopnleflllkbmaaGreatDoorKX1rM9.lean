/-
  Parts of the proof. Conditions: each theorem's own.
-/
import Derived.Test.YtopnleflllkbmaaGreatDoorKX1rM8
set_option linter.unusedVariables false
set_option linter.unusedSimpArgs false
set_option maxRecDepth 100000
set_option maxHeartbeats 8000000
namespace Go.Proofs.YtopnleflllkbmaaGreatDoor
open Go.Proofs.Tryz
open Go.Abs Go.Lib
variable{l L:List B_}{s t:B_}{k:Nat}
theorem ar(t)(H)(c:t.size<1000000000):RC 67 [sv t] (.tup [.pv (kD (iD t).1),iv (iD t).2]) H:=by
 have h:=xn (fun x a=>Gi (fun y hy=>Gc X) a) (fun x H a=>Gh (fun x H a=>jv x H a) x H a) t H c
 rwa [Jv (fun e f b=>QL (fun o d=>by rw[bg d]) f b)]at h
theorem JO(t):∀e∈(iD t).1,e.refs.length<2^40:=by
 rw[<-Jv (rE:=rr fun s=>(Qj s).1) (fun e c b=>QL (fun o a=>by rw[bg a]) c b) t,gPr]
 split
 ·simp_all
 next h =>
 split
 ·exact OQ (fun x hx=>(Gi (fun y hy=>Gc X) X).2) _
 simp_all
theorem Xp:∀(n:Nat) (l:List UInt8) (L:List B_),l.length<=n->N4 l=some L->2*L.length<=l.length/\∀s∈L,s.size<=l.length:=by
 intro n
 induction n with
 |zero =>
  intro l L g h;rw[N4]at h
  simp_all
 | succ n d =>
  intro l L g h;rw[N4]at h
  split at h
  ·simp_all
  next h0 =>
  split at h
  ·cases h
  next b =>
  have hc:Pd l≠0:=fun e=>b (.inl e);have h58:l[Pd l]?=some 58:=Classical.byContradiction fun e=>b (.inr (.inl e));cases e:N4 _ with
  |none=>rw[e]at h;cases h
  |some e_ =>
   rw[e]at h;cases h;obtain ⟨f,c⟩:=d _ e_ G_ e;rw[p_]at f c;refine⟨G_,fun s a=>?_⟩;rcases l7.1 a with rfl|a
   ·rw[cB,q7,p_];omega
   have:=c s a;omega
def QS:Nat->RS->List (Int×Int)×RS
 |0,q=>([],q)
 |k+1,q=>if q.2=true then([],q)else(((rU q).1,(rU (rU q).2).1)::(QS k (rU (rU q).2).2).1,(QS k (rU (rU q).2).2).2)
def Nb(q:RS):List (Int×Int)×RS:=QS (rU q).1.toNat (rU q).2
def Mx(L:List B_):=rN (L,false)
def Vp(L:List B_):=rU (Mx L).2
def Vo(L:List B_):=rU (Vp L).2
def Vn(L:List B_):=rU (Vo L).2
def Vm(L:List B_):=rU (Vn L).2
def Vl(L:List B_):=rN (Vm L).2
def No(L:List B_):=rL (Vl L).2
def Mw(L:List B_):=rN (No L).2
def Vk(L:List B_):=rN (Mw L).2
def Vj(L:List B_):=rN (Vk L).2
def ZU(L:List B_):=rU (Vj L).2
def ZT(L:List B_):=rN (ZU L).2
def N1(L:List B_):=rZ (ZT L).2
def ZS(L:List B_):=rN (N1 L).2
def ZR(L:List B_):=rN (ZS L).2
def W9(L:List B_):=rL (ZR L).2
def W8(L:List B_):=Nb (W9 L).2
def IR(L:List B_):=rZ (W8 L).2
def GL(L:List B_):j8:=⟨(Vp L).1,(Vo L).1,(Vn L).1,(Vm L).1,(Vl L).1,(No L).1,(iD (Mw L).1).1,(Vk L).1,decide ((Vj L).1=A9),(ZU L).1,(ZT L).1,(N1 L).1,⟨(ZS L).1,(ZR L).1,(W9 L).1,(W8 L).1,(IR L).1⟩⟩
def og(t:List UInt8)(L:List B_):Prop:=(IR L).2.2=true\/(Mx L).1≠GA\/mH (GL L)≠(b7 t,0)
instance (t:List UInt8) (L:List B_):Decidable (og t L):=inferInstanceAs (Decidable (_\/_\/_))
def sX(t:List UInt8):j8×Int:=if 20000<t.length then(zR,2)else match N4 t with
 |none=>(zR,5)
 |some L=>if og t L then(zR,5)else(GL L,0)
def jD(q:RS):Prop:=q.1.length<=10000/\∀s∈q.1,s.size<=20000
theorem MC{L}{b c}(h:jD (L,b))(k):jD (L.drop k,c):=⟨by have:=h.1;grind,fun s a=>h.2 s (List.mem_of_mem_drop a)⟩
theorem vZ{q}(h:jD q):(rN q).1.size<=20000/\jD (rN q).2:=by
 obtain ⟨L,b⟩:=q;refine⟨?_,MC h 1⟩;cases L with
 |nil=>exact l6 _
 |cons s L=>exact h.2 s List.mem_cons_self
theorem Rz(s):qA ((xQ s).getD 0):=by
 rw[xQ]
 split
 ·exact⟨H_,H_⟩
 next h7 =>
 split
 ·have:=MF (l:=s.data.toList) F_;show qA (T5 _);exact⟨X,X⟩
 exact⟨H_,H_⟩
theorem tQ{q}(h:jD q):qA (rU q).1/\jD (rU q).2:=⟨Rz _,MC h 1⟩
theorem U6{q}(h:jD q):((rL q).1.length<=20000/\∀x∈(rL q).1,x.size<=20000)/\jD (rL q).2:=by
 have d:=(tQ h).2;obtain ⟨c,a⟩:=d;rw[rL]
 split
 ·exact⟨⟨l6 _,fun x b=>by cases b⟩,c,a⟩
 refine⟨⟨?_,fun x b=>a x (List.mem_of_mem_take b)⟩,MC ⟨c,a⟩ _⟩
 grind
theorem re{q}(h:jD q):(qA (rZ q).1.idx/\((rZ q).1.sig.length<=20000/\∀x∈(rZ q).1.sig,x.size<=20000)/\((rZ q).1.path.length<=20000/\∀x∈(rZ q).1.path,x.size<=20000))/\jD (rZ q).2:=by have e:=tQ h;have d:=U6 e.2;have c:=U6 d.2;exact⟨⟨e.1,d.1,c.1⟩,c.2⟩
theorem Ft{q}(h:q.1.length=0\/q.2=true):(rU q).2.2=true:=by
 rw[rU,rN]
 grind
theorem Fw:∀(k) (q),jD q->((QS k q).1.length<=q.1.length+1/\∀p∈(QS k q).1,qA p.1/\qA p.2)/\jD (QS k q).2
 |0,q,h=>⟨⟨l6 _,fun p b=>by cases b⟩,h⟩
 | k + 1, q, h => by
  rw[QS]
  split
  ·simp_all
  next hb =>
  have f:=tQ h;have g:=tQ f.2;have d:=Fw k _ g.2;refine⟨⟨?_,fun p b=>?_⟩,d.2⟩
  ·rw[j7];by_cases e:q.1.length=0
   ·have c:QS k (rU (rU q).2).2=([],(rU (rU q).2).2):=by
     cases k with
     |zero=>rfl
     |succ k=>rw[QS,b6 (Ft (.inr (Ft (.inl e))))]
    rw[c];exact Nat.le_add_left _ _
   have e1:(rU q).2.1.length=q.1.length - 1:=p_;have e2:(rU _).2.1.length=(rU q).2.1.length - 1:=p_;omega
  grind
theorem Fx{q}(h:jD q):((Nb q).1.length<=20000/\∀p∈(Nb q).1,qA p.1/\qA p.2)/\jD (Nb q).2:=by have a:=tQ h;have b:=Fw (rU q).1.toNat _ a.2;have h3:=a.2.1;exact⟨⟨by rw[Nb];omega,b.1.2⟩,b.2⟩
theorem Wy{L}(h:jD (L,false)):((Mx L).1).size<=20000/\jD (Mx L).2:=vZ h
theorem Ci{L}(h:jD (L,false)):qA (Vp L).1/\jD (Vp L).2:=tQ (Wy h).2
theorem Ch{L}(h:jD (L,false)):qA (Vo L).1/\jD (Vo L).2:=tQ (Ci h).2
theorem Cg{L}(h:jD (L,false)):qA (Vn L).1/\jD (Vn L).2:=tQ (Ch h).2
theorem Cf{L}(h:jD (L,false)):qA (Vm L).1/\jD (Vm L).2:=tQ (Cg h).2
theorem Ce{L}(h:jD (L,false)):((Vl L).1).size<=20000/\jD (Vl L).2:=vZ (Cf h).2
theorem Cd{L}(h:jD (L,false)):((No L).1.length<=20000/\∀x∈(No L).1,x.size<=20000)/\jD (No L).2:=U6 (Ce h).2
theorem Cc{L}(h:jD (L,false)):((Mw L).1).size<=20000/\jD (Mw L).2:=vZ (Cd h).2
theorem Cb{L}(h:jD (L,false)):((Vk L).1).size<=20000/\jD (Vk L).2:=vZ (Cc h).2
theorem Wx{L}(h:jD (L,false)):((Vj L).1).size<=20000/\jD (Vj L).2:=vZ (Cb h).2
theorem pq{L}(h:jD (L,false)):qA (ZU L).1/\jD (ZU L).2:=tQ (Wx h).2
theorem po{L}(h:jD (L,false)):((ZT L).1).size<=20000/\jD (ZT L).2:=vZ (pq h).2
theorem pn{L}(h:jD (L,false)):(qA (N1 L).1.idx/\((N1 L).1.sig.length<=20000/\∀x∈(N1 L).1.sig,x.size<=20000)/\((N1 L).1.path.length<=20000/\∀x∈(N1 L).1.path,x.size<=20000))/\jD (N1 L).2:=re (po h).2
theorem pk{L}(h:jD (L,false)):((ZS L).1).size<=20000/\jD (ZS L).2:=vZ (pn h).2
theorem pj{L}(h:jD (L,false)):((ZR L).1).size<=20000/\jD (ZR L).2:=vZ (pk h).2
theorem ph{L}(h:jD (L,false)):((W9 L).1.length<=20000/\∀x∈(W9 L).1,x.size<=20000)/\jD (W9 L).2:=U6 (pj h).2
theorem pg{L}(h:jD (L,false)):((W8 L).1.length<=20000/\∀p∈(W8 L).1,qA p.1/\qA p.2)/\jD (W8 L).2:=Fx (ph h).2
theorem Np{L}(h:jD (L,false)):(qA (IR L).1.idx/\((IR L).1.sig.length<=20000/\∀x∈(IR L).1.sig,x.size<=20000)/\((IR L).1.path.length<=20000/\∀x∈(IR L).1.path,x.size<=20000))/\jD (IR L).2:=re (pg h).2
theorem Fm{L}(h:jD (L,false)):mI (GL L)/\(GL L).parents.length<549755813888 :=Fj (j6 _) (Ci h).1 (Ch h).1 (Cg h).1 (Cf h).1 (pq h).1 (Ce h).1 (Cb h).1 (po h).1 (pk h).1 (pj h).1 (Cd h).1 (ph h).1 (pg h).1 (NI _) (RB _) (pn h).1 (Np h).1
theorem Dw{t}{L}(c:t.length<=20000)(h:N4 t=some L):jD (L,false):=by obtain ⟨h1,a⟩:=Xp _ t L (j6 _) h;exact⟨G_,fun s b=>Nat.le_trans (a s b) c⟩
theorem OR(s)(L)(b):rN (s::L,b)=(s,(L,b)):=by simp[rN]
theorem sw:∀(l) (n v),decFrom n l=some v->l.foldl (fun n b=>10*n+(b.toNat:Int) - 48) n=v
 | [],n,v,h=>by
  obtain rfl:=Option.some.inj h;rfl
 | b::l,n,v,h=>by
  rw[decFrom]at h;cases e:digitVal b with
  |none=>simp_all
  | some d =>
   rw[e]at h;have a:(10*n+(b.toNat) - 48)=((n*10+d):Int):=by
    rw[digitVal]at e
    grind
   rw[List.foldl_cons,a];exact sw l _ v h
theorem yj{x}(h0:0<=x)(h1:x<10000000):xQ (aQ x)=some x:=by obtain ⟨k,rfl⟩:∃k:Nat,x=k:=⟨x.toNat,X⟩;have a:=V1 k;have hs:(aQ k).size<=7:=cU X H_;have c:T5 _=k:=sw _ 0 k (mU k);have b:ff k=aQ k:=rfl;rw[xQ,a8 X,a,c,b6 b]
theorem uO{x}(a:0<=x)(c:x<10000000)(L)(b):rU (aQ x::L,b)=(x,(L,b)):=by rw[rU,OR];rw[yj a c];simp
theorem OS{l}(h:l.length<10000000)(L)(b):rL (aQ (l.length)::(l++L),b)=(l,(L,b)):=by rw[rL,uO X X];rw[a8 G_,l8,List.take_left' Z,List.drop_left' rfl]
theorem rf{s}(d:0<=s.idx)(a:s.idx<10000000)(f:s.sig.length<10000000)(c:s.path.length<10000000)(L)(b):rZ (fI (.z s.idx s.sig s.path)++L,b)=(s,(L,b)):=by
 have e:fI (.z s.idx s.sig s.path)++L=aQ s.idx::(aQ (s.sig.length)::(s.sig++(aQ (s.path.length)::(s.path++L)))):=by simp[fI]
 rw[e,rZ,uO d a];rw[OS f];rw[OS c]
theorem rl:∀(ps) (L),(∀q∈ps,(0<=q.1/\q.1<10000000)/\(0<=q.2/\q.2<10000000))->QS ps.length (OW ps++L,false)=(ps,(L,false))
 | [],L,_=>rfl
 |q::ps,L,h=>by
  obtain ⟨⟨a,b⟩,c,d⟩:=h q List.mem_cons_self;have e:OW (q::ps)++L=aQ _::(aQ _::(OW _++L)):=rfl;rw[j7,QS,a8 H_,e,uO a b];rw[uO c d];rw[rl _ L fun x f=>h x (List.mem_cons_of_mem _ f)]
theorem Fy{ps}(hl:ps.length<10000000)(h:∀q∈ps,(0<=q.1/\q.1<10000000)/\(0<=q.2/\q.2<10000000))(L):Nb (fI (.p ps)++L,false)=(ps,(L,false)):=by have e:fI (.p ps)++L=aQ _::(OW _++L):=rfl;rw[e,Nb,uO X X];rw[l8,rl _ L h]
theorem jt{r:j8}(h:VF r):GL (jL r)=r/\(Mx (jL r)).1=GA/\(IR (jL r)).2.2=false:=by
 have hk:=BG h.k;have hau:=h.au;have hnu:=h.nu;have hcl:=h.cl;have hod:=h.order;have hpl:=h.pal;have hso:=h.sol;have htl:=h.trl;have j:=kY h.sl;have k:=kY h.psl;have i1:=j.i0;have i2:=j.i1;have i3:=j.sl;have i4:=j.pl;have j1:=k.i0;have j2:=k.i1;have j3:=k.sl;have j4:=k.pl;have l:∀q∈r.priv.trace,(0<=q.1/\q.1<10000000)/\(0<=q.2/\q.2<10000000):=fun q z=>by have:=h.tr q z;omega
 have o:Mx (jL r)=(GA,(sf1 r,false)):=by rw[Mx,Mc];rfl
 have w:Vp (jL r)=(r.kind,(sf2 r,false)):=by rw[Vp,o];exact uO X X _ _
 have s:Vo (jL r)=(r.author,(sf3 r,false)):=by rw[Vo,w];exact uO X X _ _
 have x:Vn (jL r)=(r.number,(sf4 r,false)):=by rw[Vn,s];exact uO X X _ _
 have t:Vm (jL r)=(r.clock,(sf5 r,false)):=by rw[Vm,x];exact uO X X _ _
 have u:Vl (jL r)=(r.branch,(sf6 r,false)):=by rw[Vl,t];rfl
 have v:No (jL r)=(r.parents,(sf7 r,false)):=by rw[No,u];exact OS X _ _
 have m:Mw (jL r)=((jW r.edits).1,(sf8 r,false)):=by rw[Mw,v];rfl
 have p:Vk (jL r)=(r.target,(sf9 r,false)):=by rw[Vk,m];rfl
 have n:Vj (jL r)=(aQ (if r.yes then 1 else 0),(Ex r,false)):=by rw[Vj,p];rfl
 have c:ZU (jL r)=(r.order,(Ew r,false)):=by rw[ZU,n];exact uO X X _ _
 have d:ZT (jL r)=(r.from',(Eu r,false)):=by rw[ZT,c];exact OR _ _ _
 have f:N1 (jL r)=(r.sl,(Et r,false)):=by rw[N1,d];exact rf X X X X _ _
 have g:ZS (jL r)=(r.priv.name,(Es r,false)):=by rw[ZS,f];exact OR _ _ _
 have a:ZR (jL r)=(r.priv.reason,(Er r,false)):=by rw[ZR,g];exact OR _ _ _
 have b:W9 (jL r)=(r.priv.sources,(Ep r,false)):=by rw[W9,a];exact OS X _ _
 have e:W8 (jL r)=(r.priv.trace,(Eo r,false)):=by rw[W8,b];exact Fy X l _
 have i:IR (jL r)=(r.priv.sl,(En r,false)):=by rw[IR,e];exact rf X X X X _ _
 refine⟨?_,by rw[o],by rw[i]⟩;rw[GL,w,s,x,t,u,v,m,p,n,c,d,f,g,a,b,e,i,IB h.tx];have y:decide (aQ (if r.yes then 1 else 0)=A9)=r.yes:=ZW r.yes;simp only[y]
theorem ao{r}{t}(h:mH r=(b7 t,0)):sX t=(r,0):=by
 have d:gW r=true:=by
  rw[mH]at h
  grind
 have c:=sH d;have f:t=aM (jL r)/\t.length<=20000:=by
  rw[mH,b6 d]at h
  split at h
  ·cases h
  next hl =>
  have:=congrArg (fun s=>s.data.toList) (congrArg Prod.fst h);simp[cO]at this;rw[<-this];exact⟨Z,X⟩
 have a:N4 t=some (jL r):=by
  rw[f.1];exact P8 _ fun s g=>Nat.lt_of_le_of_lt (show s.size<=20000 from(List.mem_append.1 g).elim (JM c s) (XN c s)) E_
 obtain ⟨e,r2,i⟩:=jt c;have b:¬ og t (jL r):=by
  rw[og,e,i]
  simp_all
 rw[sX,a8 X,a];dsimp only;rw[a8 b,e]
theorem nb(t):sX t=dW t:=by
 by_cases d:(dW t).2=0
 ·rw[ao (JP d)];exact Prod.ext Z d.symm
 by_cases b:20000<t.length
 ·rw[sX,b6 b,dW,b6 b]
 have c:dW t=(zR,5):=by
  rw[dW]at d |-
  grind
 rw[c,sX,a8 b];cases e:N4 t with
 |none=>rfl
 |some L =>
  dsimp only;by_cases a:og t L
  ·rw[b6 a]
  have f:=Classical.byContradiction fun h=>a (.inr (.inr h));rw[RD f]at c;have g:=congrArg Prod.snd c;exact absurd g H_
theorem mb(s):(xQ s).getD 0<=300000000:=by
 rw[xQ]
 split
 ·decide
 next h7 =>
 split
 ·have:=MF (l:=s.data.toList) F_;show T5 _<=_;omega
 decide
theorem Qi{q}(h:q.2=true):∀k,QS k q=([],q)
 |0=>rfl
 |k+1=>by rw[QS,b6 h]
theorem aAN:(iD a6).1=[]:=by kernel_rfl
theorem jq(t:List UInt8)(hts:t.length<1000000000)(H:aF):RC 25 [sv (b7 t)] (.tup [av (dR (sX t).1),iv (sX t).2]) H:=by
 refine Pu ?_;have hls:(b7 t).size=t.length:=cB t;have hsp:=fun H=>wm t hts H;refine Bd func25 Z ntmps25<|C (kl 2 ie)<|O U<|S<|C V<|Y (gR U_)<|O jK<|Cn ?_ ?_<;>intro hc1
 ·have hb:20000<t.length:=by have:=b9 hc1;omega
  rw[show sX t=(zR,2)by rw[sX,b6 hb]];refine C (oN SW)<|Uu (iZ bD)<|O U<|aC<|iB (H':=[]) (.inr Z) Z (eY Z cK bD Z Z Z (by simp only[Zl,S_];rfl) Z) (aJ Z) (Fin.wk (by simp[dR]) T_ T_) ?_;exact Qq
 have hb:¬ 20000<t.length:=by have:=b_ hc1;omega
 rw[Pc]at hsp;have hg:sX t=match N4 t with
  |none=>(zR,5)
  |some L=>if og t L then(zR,5)else(GL L,0):=by rw[sX,a8 hb];all_goals rfl
 have hok:=fun L h=>Dw (t:=t) (L:=L) (by omega) h;rw[hg];clear hg;obtain ⟨o_,hO⟩:∃o_,o_=N4 t:=X_;rw[<-hO]at hsp hok |-;clear hO;rcases o_ with _|L
 ·have hsp:∀H,RC 62 [sv (b7 t)] (.tup [.pv (aL []),bv false]) H:=hsp;refine aA<|C V<|Y (kc call62 (hsp _))<|Y V<|Y dH<|Y dH<|Y U<|O U<|S<|C V<|O iW<|Cn ?_ ?_<;>intro hc2
  ·refine C (oN SW)<|Uu (iZ bD)<|O U<|aC<|iB (H':=[]) (.inr Z) Z (eY Z cK bD Z Z Z (by simp only[Zl,S_];rfl) Z) (aJ Z) (Fin.wk (by simp[dR]) T_ T_) ?_;exact Qq
  cases hc2
 have hsp:∀H,RC 62 [sv (b7 t)] (.tup [.pv (aL L),bv true]) H:=hsp;have hS:=hok L Z;have W:=Fm hS;have hrf:=JO (Mw L).1;have s7:=(Cc hS).1;have hpc:=fun H=>ar (Mw L).1 H (by omega);have hbd:og t L↔((IR L).2.2=true\/(Mx L).1≠GA\/mH (GL L)≠(b7 t,0)):=Iff.rfl;rw[GL]at W hbd;have F:=fun H=>Pv _ W.1 hrf H;dsimp only;rw[GL];have lt40:∀q:RS,jD q->q.1.length<2^40:=fun q h=>by have:=h.1;omega
 have k0:=uQ (L,false) (lt40 _ hS);have o0:=vZ (q:=(L,false)) hS;have e0:Mx L=rN (L,false):=by rw[Mx]
 obtain ⟨⟨G,Q0⟩,h0⟩:∃p,p=rN (L,false):=X_;rw[<-h0]at k0 o0 e0;dsimp only at k0 o0;have k1:=oC Q0 (lt40 _ o0.2);have o1:=tQ (q:=Q0) o0.2;have e1:Vp L=rU Q0:=by rw[Vp,e0]
 obtain ⟨⟨I,Q1⟩,h1⟩:∃p,p=rU Q0:=X_;rw[<-h1]at k1 o1 e1;dsimp only at k1 o1;have k2:=oC Q1 (lt40 _ o1.2);have o2:=tQ (q:=Q1) o1.2;have e2:Vo L=rU Q1:=by rw[Vo,e1]
 obtain ⟨⟨e_,Q2⟩,h2⟩:∃p,p=rU Q1:=X_;rw[<-h2]at k2 o2 e2;dsimp only at k2 o2;have k3:=oC Q2 (lt40 _ o2.2);have o3:=tQ (q:=Q2) o2.2;have e3:Vn L=rU Q2:=by rw[Vn,e2]
 obtain ⟨⟨c_,Q3⟩,h3⟩:∃p,p=rU Q2:=X_;rw[<-h3]at k3 o3 e3;dsimp only at k3 o3;have k4:=oC Q3 (lt40 _ o3.2);have o4:=tQ (q:=Q3) o3.2;have e4:Vm L=rU Q3:=by rw[Vm,e3]
 obtain ⟨⟨K,Q4⟩,h4⟩:∃p,p=rU Q3:=X_;rw[<-h4]at k4 o4 e4;dsimp only at k4 o4;have k5:=uQ Q4 (lt40 _ o4.2);have o5:=vZ (q:=Q4) o4.2;have e5:Vl L=rN Q4:=by rw[Vl,e4]
 obtain ⟨⟨V5,Q5⟩,h5⟩:∃p,p=rN Q4:=X_;rw[<-h5]at k5 o5 e5;dsimp only at k5 o5;have k6:=O3 Q5 (lt40 _ o5.2);have o6:=U6 (q:=Q5) o5.2;have e6:No L=rL Q5:=by rw[No,e5]
 obtain ⟨⟨V6,Q6⟩,h6⟩:∃p,p=rL Q5:=X_;rw[<-h6]at k6 o6 e6;dsimp only at k6 o6;have k7:=uQ Q6 (lt40 _ o6.2);have o7:=vZ (q:=Q6) o6.2;have e7:Mw L=rN Q6:=by rw[Mw,e6]
 obtain ⟨⟨y_,Q7⟩,h7⟩:∃p,p=rN Q6:=X_;rw[<-h7]at k7 o7 e7;dsimp only at k7 o7;have k8:=uQ Q7 (lt40 _ o7.2);have o8:=vZ (q:=Q7) o7.2;have e8:Vk L=rN Q7:=by rw[Vk,e7]
 obtain ⟨⟨V8,Q8⟩,h8⟩:∃p,p=rN Q7:=X_;rw[<-h8]at k8 o8 e8;dsimp only at k8 o8;have k9:=uQ Q8 (lt40 _ o8.2);have o9:=vZ (q:=Q8) o8.2;have e9:Vj L=rN Q8:=by rw[Vj,e8]
 obtain ⟨⟨V9,Q9⟩,h9⟩:∃p,p=rN Q8:=X_;rw[<-h9]at k9 o9 e9;dsimp only at k9 o9;have k10:=oC Q9 (lt40 _ o9.2);have o10:=tQ (q:=Q9) o9.2;have P:ZU L=rU Q9:=by rw[ZU,e9]
 obtain ⟨⟨V10,Q10⟩,h10⟩:∃p,p=rU Q9:=X_;rw[<-h10]at k10 o10 P;dsimp only at k10 o10;have k11:=uQ Q10 (lt40 _ o10.2);have o11:=vZ (q:=Q10) o10.2;have Q:ZT L=rN Q10:=by rw[ZT,P]
 obtain ⟨⟨n,D⟩,h11⟩:∃p,p=rN Q10:=X_;rw[<-h11]at k11 o11 Q;dsimp only at k11 o11;have k12:=qv D (lt40 _ o11.2);have o12:=re (q:=D) o11.2;have R:N1 L=rZ D:=by rw[N1,Q]
 obtain ⟨⟨V12,E⟩,h12⟩:∃p,p=rZ D:=X_;rw[<-h12]at k12 o12 R;dsimp only at k12 o12;have k13:=uQ E (lt40 _ o12.2);have o13:=vZ (q:=E) o12.2;have e13:ZS L=rN E:=by rw[ZS,R]
 obtain ⟨⟨z,f_⟩,h13⟩:∃p,p=rN E:=X_;rw[<-h13]at k13 o13 e13;dsimp only at k13 o13;have k14:=uQ f_ (lt40 _ o13.2);have v_:=vZ (q:=f_) o13.2;have z_:ZR L=rN f_:=by rw[ZR,e13]
 obtain ⟨⟨u,u_⟩,h14⟩:∃p,p=rN f_:=X_;rw[<-h14]at k14 v_ z_;dsimp only at k14 v_;have k15:=O3 u_ (lt40 _ v_.2);have d_:=U6 (q:=u_) v_.2;have e15:W9 L=rL u_:=by rw[W9,z_]
 obtain ⟨⟨w,Q15⟩,h15⟩:∃p,p=rL u_:=X_;rw[<-h15]at k15 d_ e15;dsimp only at k15 d_;have k16:=oC Q15 (lt40 _ d_.2);have u16:=tQ d_.2;have b16:=mb (rN Q15).1;have B:Nb Q15=QS (rU Q15).1.toNat (rU Q15).2:=rfl;have b16:(rU Q15).1<=300000000:=b16;obtain ⟨⟨N,QN⟩,hN⟩:∃p,p=rU Q15:=X_;rw[<-hN]at k16 u16 b16 B;dsimp only at k16 u16 b16 B;have o16:=Fx (q:=Q15) d_.2;have T:W8 L=Nb Q15:=by rw[W8,e15]
 obtain ⟨⟨s,l⟩,h16⟩:∃p,p=Nb Q15:=X_;rw[<-h16]at B o16 T;dsimp only at B o16;have k17:=qv l (lt40 _ o16.2);have o17:=re (q:=l) o16.2;have e17:IR L=rZ l:=by rw[IR,T]
 obtain ⟨⟨V17,Q17⟩,h17⟩:∃p,p=rZ l:=X_;rw[<-h17]at k17 o17 e17;dsimp only at k17 o17;simp only[e0,e1,e2,e3,e4,e5,e6,e7,e8,e9,P,Q,R,e13,z_,e15,T,e17]at W hrf s7 hpc hbd F |-;clear W hS hok hrf h0 h1 h2 h3 h4 h5 h6 h7 h8 h9 h10 h11 h12 h13 h14 h15 h16 h17 e0 e1 e2 e3 e4 e5 e6 e7 e8 e9 P Q R e13 z_ e15 T e17;have hpn:y_=a6->(iD y_).1=[]:=fun h=>by rw[h];exact aAN
 obtain ⟨PE,hPE⟩:∃v,v=iD y_:=X_;rw[<-hPE]at hpc F hbd hpn |-;clear hPE;obtain ⟨ED,EE⟩:=PE;dsimp only at hpc F hbd hpn |-;obtain ⟨TX,hTX⟩:∃v,v=mH ⟨I,e_,c_,K,V5,V6,ED,V8,decide (V9=A9),V10,n,V12,⟨z,u,w,s,V17⟩⟩:=X_;rw[<-hTX]at F hbd;clear hTX;rw[show GA=⟨#[114,101,99,111,114,100]⟩from rfl]at hbd;refine aA<|C V<|Y (kc call62 (hsp _))<|Y V<|Y dH<|Y dH<|Y U<|O U<|S<|C V<|O iW<|Cn ?_ ?_<;>intro hc3
 ·cases hc3
 refine aA<|C V<|Y (oN aDt)<|Y (kb 980)<|O U<|Sz (kl 7 aAw)<|C V<|Y (kc qU (k0 _ Z))<|O U<|C V<|Y (kc qT (k1 _ Z))<|Y (bA oH)<|Uu (ku sizeOf3)<|Zz<|C V<|Y (kc qT (k2 _ Z))<|Y (bA ET)<|Uu (ku sizeOf3)<|Zz<|C V<|Y (kc qT (k3 _ Z))<|Y (bA AC)<|Uu (ku sizeOf3)<|Zz<|C V<|Y (kc qT (k4 _ Z))<|Y (bA ES)<|Uu (ku sizeOf3)<|Zz<|S ?_;refine fZ.ent (E':=[(0,sv (b7 t)),(2,.ref 2 0 0 0),(6,ri),(7,.ref 7 0 0 0),(8,sv G)]) (H':=[(980,rp Q4),(7,bx 21 53 [iv I,iv e_,iv c_,iv K,sv a6,.pv .nils,.pv .nils,sv a6,bv false,iv 0,sv a6,iv 0,.pv .nils,.pv .nils,sv a6,sv a6,.pv .nils,.pv .nils,iv 0,.pv .nils,.pv .nils]),(2,bx 21 53 ((dR zR).map .pv))]) Wk<|Rd V<|Y (kc qU (k5 _ Z))<|Y (bA CX)<|Uu (by exact cQ Z V_ Z Z Z Z Z Z (by simp only[j7,List.length_nil];omega) (by simp only[Zl,S_];rfl) (by simp only[Zl,S_];rfl))<|Zz<|C V<|Y (kc Nh (k6 _ Z))<|Y (bA oG)<|Uu (by exact cQ Z sizeOf22 Z Z Z Z Z Z (by simp only[j7,List.length_nil];omega) (by simp only[Zl,S_];rfl) (by simp only[Zl,S_];rfl))<|Zz<|S ?_;refine fZ.ent (E':=[(0,sv (b7 t)),(2,.ref 2 0 0 0),(6,ri),(7,.ref 7 0 0 0),(8,sv G)]) (H':=[(980,rp Q6),(7,bx 21 53 [iv I,iv e_,iv c_,iv K,sv V5,.pv (aL V6),.pv .nils,sv a6,bv false,iv 0,sv a6,iv 0,.pv .nils,.pv .nils,sv a6,sv a6,.pv .nils,.pv .nils,iv 0,.pv .nils,.pv .nils]),(2,bx 21 53 ((dR zR).map .pv))]) Wk<|Rd V<|Y (kc qU (k7 _ Z))<|O U<|C V<|Y (kc qU (k8 _ Z))<|Y (bA CV)<|Uu (by exact cQ Z V_ Z Z Z Z Z Z (by simp only[j7,List.length_nil];omega) (by simp only[Zl,S_];rfl) (by simp only[Zl,S_];rfl))<|Zz<|C V<|Y (kc qU (k9 _ Z))<|Y xA<|Y (bA H7)<|Uu (by exact cQ Z sizeOf4 Z Z Z Z Z Z (by simp only[j7,List.length_nil];omega) (by simp only[Zl,S_];rfl) (by simp only[Zl,S_];rfl))<|Zz<|C V<|Y (kc qT (k10 _ Z))<|Y (bA yB)<|Uu (by exact cQ Z sizeOf3 Z Z Z Z Z Z (by simp only[j7,List.length_nil];omega) (by simp only[Zl,S_];rfl) (by simp only[Zl,S_];rfl)) ?_;refine Zz<|C V<|Y (kc qU (k11 _ Z))<|Y (bA wT)<|Uu (by exact cQ Z V_ Z Z Z Z Z Z (by simp only[j7,List.length_nil];omega) (by simp only[Zl,S_];rfl) (by simp only[Zl,S_];rfl))<|Zz<|S ?_;refine fZ.ent (E':=[(0,sv (b7 t)),(2,.ref 2 0 0 0),(6,ri),(7,.ref 7 0 0 0),(8,sv G),(9,sv y_)]) (H':=[(980,rp D),(7,bx 21 53 [iv I,iv e_,iv c_,iv K,sv V5,.pv (aL V6),.pv .nils,sv V8,bv (decide (V9=A9)),iv V10,sv n,iv 0,.pv .nils,.pv .nils,sv a6,sv a6,.pv .nils,.pv .nils,iv 0,.pv .nils,.pv .nils]),(2,bx 21 53 ((dR zR).map .pv))]) Wk<|Rd V<|Y (kc call66 (k12 _ Z))<|Y (bA zI)<|Uu (by exact qN Z sizeOf48 Z Z Z Z Z Z Z (by simp only[j7,List.length_nil];omega) (by simp only[Zl,S_];rfl) (by simp only[Zl,S_];rfl))<|Zz<|S ?_
 refine fZ.ent (E':=[(0,sv (b7 t)),(2,.ref 2 0 0 0),(6,ri),(7,.ref 7 0 0 0),(8,sv G),(9,sv y_)]) (H':=[(980,rp E),(7,bx 21 53 [iv I,iv e_,iv c_,iv K,sv V5,.pv (aL V6),.pv .nils,sv V8,bv (decide (V9=A9)),iv V10,sv n,iv V12.idx,.pv (aL V12.sig),.pv (aL V12.path),sv a6,sv a6,.pv .nils,.pv .nils,iv 0,.pv .nils,.pv .nils]),(2,bx 21 53 ((dR zR).map .pv))]) Wk<|Rd V<|Y (kc qU (k13 _ Z))<|Y (bA iE)<|Y (bA H9)<|Uu (by exact cQ Z V_ Z Z Z Z Z Z (by simp only[j7,List.length_nil];omega) (by simp only[Zl,S_];rfl) (by simp only[Zl,S_];rfl))<|Zz<|C V<|Y (kc qU (k14 _ Z))<|Y (bA iE)<|Y (bA H8)<|Uu (by exact cQ Z V_ Z Z Z Z Z Z (by simp only[j7,List.length_nil];omega) (by simp only[Zl,S_];rfl) (by simp only[Zl,S_];rfl))<|Zz<|C V<|Y (kc Nh (k15 _ Z))<|Y (bA iE)<|Y (bA yC)<|Uu (by exact cQ Z sizeOf22 Z Z Z Z Z Z (by simp only[j7,List.length_nil];omega) (by simp only[Zl,S_];rfl) (by simp only[Zl,S_];rfl)) ?_;refine Zz<|S ?_;refine fZ.ent (E':=[(0,sv (b7 t)),(2,.ref 2 0 0 0),(6,ri),(7,.ref 7 0 0 0),(8,sv G),(9,sv y_)]) (H':=[(980,rp Q15),(7,bx 21 53 [iv I,iv e_,iv c_,iv K,sv V5,.pv (aL V6),.pv .nils,sv V8,bv (decide (V9=A9)),iv V10,sv n,iv V12.idx,.pv (aL V12.sig),.pv (aL V12.path),sv z,sv u,.pv (aL w),.pv .nils,iv 0,.pv .nils,.pv .nils]),(2,bx 21 53 ((dR zR).map .pv))]) Wk<|Rd V<|Y (kc qT (k16 _ Z))<|O U<|S<|S ?_;refine fZ.ent (E':=[(0,sv (b7 t)),(2,.ref 2 0 0 0),(6,ri),(7,.ref 7 0 0 0),(8,sv G),(9,sv y_),(10,iv N)]) (H':=(905,⟨0,2,104,[]⟩)::(7,bx 21 53 [iv I,iv e_,iv c_,iv K,sv V5,.pv (aL V6),.pv (kD []),sv V8,bv (decide (V9=A9)),iv V10,sv n,iv V12.idx,.pv (aL V12.sig),.pv (aL V12.path),sv z,sv u,.pv (aL w),.osl 905 (0) 0 (0),iv 0,.pv (aL []),.pv (aL [])])::(980,rp QN)::(2,bx 21 53 ((dR zR).map .pv))::[]) ?_ ?_
 ·exact(cJ.nz 905 2 104 Z Z ⟨⟨_,Z,(by exact Nz.same (by(simp;done)))⟩,⟨_,Z,(by exact Nz.same (by(simp;rfl)))⟩,⟨_,Z,(by exact Nz.same (by(simp;rfl)))⟩,⟨_,Z,(by exact Nz.same (by(simp;rfl)))⟩,⟨_,Z,(by exact Nz.same (by(simp;done)))⟩,⟨_,Z,(by exact Nz.same (by(simp;done)))⟩,⟨_,Z,(by exact Nz.same (by(simp;done)))⟩,T_⟩ ⟨⟨_,Z,Z,Z,Z,(by exact .inr ⟨_,_,rfl,rfl,(by repeat(first|exact trivial|refine⟨(by first|exact Nz.own|exact Nz.weak|exact Nz.same (by(simp;done))),?_⟩))⟩)⟩,⟨_,Z,Z,Z,Z,(by exact .inl ⟨Z,(by(simp;done))⟩)⟩,⟨_,Z,Z,Z,Z,(by exact .inl ⟨Z,(by(simp;done))⟩)⟩,T_⟩ T_)
 refine Rg<|O U<|aD<|fS (fun(A:List (Int×Int)) (q:RS)=>([(0,sv (b7 t)),(2,.ref 2 0 0 0),(6,ri),(7,.ref 7 0 0 0),(8,sv G),(9,sv y_),(10,iv N),(11,iv (A.length:Int))],[(905,⟨A.length,2,104,vP A⟩),(7,bx 21 53 [iv I,iv e_,iv c_,iv K,sv V5,.pv (aL V6),.pv (kD []),sv V8,bv (decide (V9=A9)),iv V10,sv n,iv V12.idx,.pv (aL V12.sig),.pv (aL V12.path),sv z,sv u,.pv (aL w),.osl 905 (A.length) 0 (A.length),iv 0,.pv (aL []),.pv (aL [])]),(980,rp q),(2,bx 21 53 ((dR zR).map .pv))])) (fun A q=>jD q/\A.length<=N.toNat/\(s,l)=(A++(QS (N.toNat - A.length) q).1,(QS (N.toNat - A.length) q).2)) (fun A q=>N.toNat - A.length) [] QN ⟨u16.2,l6 _,by rw[B];rfl⟩ ?_ ?_
 ·exact(cJ.wk (Eb<|Ea<|Ea<|Ea<|Eb<|Eb<|Eb<|Eb<|T_) (Hc (CG _ _)<|Ha<|Hb<|Hb<|T_) T_)
 rintro A q ⟨hq,hA,hR⟩;have m1:=oC q (lt40 _ hq);have p1:=tQ hq;have m2:=oC (rU q).2 (lt40 _ p1.2);have p2:=tQ p1.2;have hstep:q.2=false->∀m,QS (m+1) q=(((rU q).1,(rU (rU q).2).1)::(QS m (rU (rU q).2).2).1,(QS m (rU (rU q).2).2).2):=fun h m=>by rw[QS,a8 (by rw[h];decide)]
 obtain ⟨⟨x,q1⟩,hx⟩:∃p,p=rU q:=X_;rw[<-hx]at m1 m2 p1 p2 hstep;dsimp only at m1 m2 p1 p2 hstep;obtain ⟨⟨y,q2⟩,hy⟩:∃p,p=rU q1:=X_;rw[<-hy]at m2 p2 hstep;dsimp only at m2 p2 hstep;clear hx hy;refine S<|S<|aR (t:=91) (n:=11) (A_:=decide ((A.length:Int)<N)&&!q.2) ?_ ?_
 ·all_goals refine Y V<|Y V<|Y cM<|Dm ?_<;>(refine Sp 85 (fun h85=>?_) fun h85=>?_)<;>(first|contradiction|refine M<|M<|M<|M<|M ?_|refine J V<|J sD<|J (bA MT)<|J (bS nC)<|J iW ?_)<;>refine O cE ?_<;>exact Gj (h:=by(simp only[*,Zo];done))
 refine Cn ?_ ?_<;>intro hc4
 ·have o:=hc4;rw[j0,r8,k_]at o;have A_:(A++[(x,y)]).length=A.length+1:=by rw[j9];rfl
  have hR2:(s,l)=((A++[(x,y)])++(QS (N.toNat - (A.length+1)) q2).1,(QS (N.toNat - (A.length+1)) q2).2):=by
   rw[hR,show N.toNat - A.length=(N.toNat - (A.length+1))+1 by omega,hstep o.2];simp
  refine aA<|S<|aD<|Sz (kl 12 Bz)<|C V<|Y (kc qT (m1 _ Z))<|Y (bA mO)<|Uu (ku sizeOf3)<|Zz<|C V<|Y (kc qT (m2 _ Z))<|Y (bA mN)<|Uu (ku sizeOf3)<|Zz<|Rd (bA iE)<|Y (bA sY)<|Y (bS jV)<|Y (wA eC sizeOf104)<|Y (by exact aK [kA (x,y)] Z TM Z Z Z Z Z R_)<|Y (by exact cA (ob:=⟨A.length,2,104,vP A⟩) (k:=A.length+1) (ps:=[kA (x,y)]) Z TM Wf Z Z Z Z Z (QX _) Z R_ (m:=1) Z (by omega) Z (rows':=vP (A++[(x,y)])) (QY A (x,y))) ?_;refine Y (bA iE)<|Y (bA sY)<|Uu (by exact cQ Z sizeOf49 Z Z Z Z Z Z (by simp only[j7,List.length_nil];omega) (by simp only[Zl,S_];rfl) (by simp only[Zl,S_];rfl))<|Zz<|Rd V<|Y kp<|Da ?_;refine⟨A++[(x,y)],q2,⟨p2.2,by rw[A_];omega,by rw[A_];exact hR2⟩,by rw[A_];omega,?_⟩;rw[A_];exact(cJ.wk (Eb<|Ea<|Ea<|Ea<|Eb<|Eb<|Eb<|Eb<|T_) (Hc (CG _ _)<|Ha<|Hb<|Hb<|T_) T_)
 have o:=hc4;have hend:(s,l)=(A,q):=by
  rw[Bool.and_eq_false_iff,q6,Bool.not_eq_false']at o;rcases o with h|h
  ·rw[hR,show N.toNat - A.length=0 by omega,QS,List.append_nil]
  rw[hR,Qi h,List.append_nil]
 obtain ⟨rfl,rfl⟩:=Prod.mk.inj hend;clear hR hstep m1 m2 hend;refine fZ.ent (cJ.fzG (id:=905) (E':=[(0,sv (b7 t)),(2,.ref 2 0 0 0),(6,ri),(7,.ref 7 0 0 0),(8,sv G),(9,sv y_)]) (H':=[(7,bx 21 53 ((dR ⟨I,e_,c_,K,V5,V6,[],V8,decide (V9=A9),V10,n,V12,⟨z,u,w,s,zS⟩⟩).map .pv)),(980,rp l),(2,bx 21 53 ((dR zR).map .pv))]) (s.map kA) Z Z ?_ Z ?_ ?_) ?_
 ·intro p hp;simp only[l7,n_,or_false]at hp;rcases hp with rfl|rfl|rfl|rfl|rfl|rfl
  ·exact⟨_,Z,.same (by(simp;done))⟩
  ·exact⟨_,Z,.same (by(simp;rfl))⟩
  ·exact⟨_,Z,.same (by(simp;rfl))⟩
  ·exact⟨_,Z,.same (by(simp;rfl))⟩
  ·exact⟨_,Z,.same (by(simp;done))⟩
  exact⟨_,Z,.same (by(simp;done))⟩
 ·exact⟨⟨_,Z,Z,Z,Z,lZ Z (bG (.same (by simp)) (bG (.same (by simp)) (bG (.same (by simp)) (bG (.same (by simp)) (bG (.same (by simp)) (bG (.same (by simp)) (bG (.same (by simp)) (bG (.same (by simp)) (bG (.same (by simp)) (bG (.same (by simp)) (bG (.same (by simp)) (bG (.same (by simp)) (bG (.same (by simp)) (bG (.same (by simp)) (bG (.same (by simp)) (bG (.same (by simp)) (bG (.same (by simp)) (bG (.osl (gX kA _)) (bG (.same (by simp)) (bG (.same (by simp)) (bG (.same (by simp)) kX)))))))))))))))))))))⟩,⟨_,Z,Z,Z,Z,eJ (rn _ _)⟩,⟨_,Z,Z,Z,Z,eJ (by simp[bx,dR])⟩,T_⟩
 ·exact T_
 refine aP<|C V<|Y (kc call66 (k17 _ Z))<|Y (bA iE)<|Y (bA EU)<|Uu (by exact qN Z sizeOf48 Z Z Z Z Z Z Z (r9 Z) Z Z)<|Zz<|eM (fun(_:Unit)=>([(0,sv (b7 t)),(2,.ref 2 0 0 0),(6,ri),(7,.ref 7 0 0 0),(8,sv G)],[(980,rp Q17),(7,bx 21 53 ((dR ⟨I,e_,c_,K,V5,V6,ED,V8,decide (V9=A9),V10,n,V12,⟨z,u,w,s,V17⟩⟩).map .pv)),(2,bx 21 53 ((dR zR).map .pv))])) (fun _=>True) ?_ ?_
 ·refine C V<|O HD<|Cn ?_ ?_<;>intro hc5
  ·refine Rd V<|Y (kc call67 (hpc _))<|Y V<|Y dH<|Y dH<|Y (bA CW)<|Uu (ku sizeOf46)<|Zz ?_;exact⟨(),T_,Wk⟩
  have hn:=hc5;rw[hpn (by rw[Bool.not_eq_false']at hn;exact b9 hn)];refine aA ?_;exact⟨(),T_,Wk⟩
 rintro _ -;refine C (wA cK bD)<|Y (kc call68 (F _))<|Y V<|Y dH<|Y dH<|Y U<|O U<|S<|S<|aR (t:=141) (n:=20) (A_:=((Q17.2||!decide (G=⟨#[114,101,99,111,114,100]⟩))||!decide (TX.2=0))||!decide (TX.1=b7 t)) ?_ ?_
 ·all_goals refine Y V<|Y sD<|Y (bA MT)<|Y (bS nC)<|Dm ?_<;>(refine Sp 129 (fun h129=>?_) fun h129=>?_)<;>(first|contradiction|refine M<|M ?_|refine J V<|J HD ?_)<;>refine Y cE<|Dm ?_<;>(refine Sp 133 (fun h133=>?_) fun h133=>?_)<;>(first|contradiction|refine M<|M ?_|refine J V<|J zX ?_)<;>refine Y cE<|Dm ?_<;>(refine Sp 137 (fun h137=>?_) fun h137=>?_)<;>(first|contradiction|refine M<|M<|M ?_|refine J V<|J V<|J HD ?_)<;>refine O cE ?_<;>exact Gj (h:=by(simp only[*,Zo];done))
 refine Cn ?_ ?_<;>intro hc6
 ·have o:=hc6;rw[b6 (hbd.2 (by
   simp only[Bool.or_eq_true,r8,q6]at o;rcases o with((h|h)|h)|h
   ·exact .inl h
   ·exact .inr (.inl h)
   ·exact .inr (.inr fun e=>h (by rw[e]))
   exact .inr (.inr fun e=>h (by rw[e]))))]
  refine C (oN SW)<|Uu (iZ bD)<|O U<|aC<|iB (H':=[]) (.inr Z) Z (eY Z cK bD Z Z Z (by simp only[Zl,S_];rfl) Z) (aJ Z) (Fin.wk (by simp[dR]) T_ T_) ?_;exact Qq
 have o:=hc6;rw[a8 (fun h=>by
  simp only[q_,Bool.not_eq_false',k_]at o;rcases hbd.1 h with h|h|h
  ·rw[h]at o;cases o.1.1.1
  ·exact h o.1.1.2
  exact h (Prod.ext o.2 o.1.2))]
 refine aA<|C (wA cK bD)<|Uu (iZ bD)<|O U<|aC<|iB (H':=[]) (.inr Z) Z (eY Z cK bD Z Z Z (by simp only[Zl,S_];rfl) Z) (aJ Z) (Fin.wk (by simp[dR,lI,wV]) T_ T_) ?_;exact Qq
theorem Qx(l:List B_)(s:B_)(H:aF)(hl:l.length<2^40):RC 38 [.pv (aL l),sv s] (iv (DI id l s:Nat)) H:=by
 refine Pu ?_;have hml:(l.map S_).length=l.length:=g_ _;refine Bd func38 Z ntmps38<|Sz U<|Sz U<|S<|aD<|bC (σ:=Nat) (fun k=>([(0,.pv (aL l)),(1,sv s),(5,iv (k:Int))],[])) (fun k=>k<=l.length/\∀j,j<k->∀o,l[j]?=some o->kC (id o) s=true) (fun k=>l.length - k) 0 ⟨l6 _,fun j h=>by omega⟩ ?_ ?_
 ·exact E0
 rintro k ⟨u,m⟩;obtain ⟨x,hx⟩:∃x,x=l.getD k a6:=X_;have d:k<l.length->l[k]?=some x:=fun h=>by
  simp_all
 have t:=fun h=>cC (f:=S_) (d h);obtain ⟨B,hB⟩:∃B,B=(decide ((k:Int)<((l.map S_).length:Int))&&kC x s):=X_;refine S<|S<|aR (t:=17) (n:=13) (A_:=B) ?_ ?_
 ·all_goals refine Y V<|Y V<|Y (fY aE)<|Y cM<|Dm ?_<;>(refine Sp 10 (fun c=>?_) fun c=>?_)<;>(try(with_reducible contradiction))<;>(first|refine M<|M<|M<|M<|M<|M ?_|refine J V<|J V<|J (bU Z bH Z Z X (l8 _) (t (I_ c)) Z)<|J (eW Z N_ Z (t (I_ c)) Z)<|J V<|J (cp Z Z Z) ?_)<;>refine O cE ?_<;>exact Gj (h:=by rw[hB];(rw[c];rfl))
 refine Cn ?_ ?_<;>intro g
 ·have i:=hB.symm.trans g;rw[j0,k_]at i;refine aA<|aD<|Rd V<|Y kp<|Da ?_;refine⟨k+1,⟨X,fun j hj o f=>?_⟩,X,E0⟩;by_cases e:j=k
  ·subst e;rw[d X]at f;cases f;exact i.2
  exact m j X o f
 have p:=hB.symm.trans g;have n:DI id l s=k:=Iv u m (fun o f=>by
  have q:=(m_.1 f).1;rw[d q]at f;cases f
  rwa [decide_eq_true (by omega:(k:Int)<((l.map S_).length:Int)),Bool.true_and]at p)
 rw[n];exact aP<|C V<|O U<|aC<|Rt<|Qq
theorem dm(l:List B_)(j:Nat)(s:B_)(H:aF)(hl:l.length<2^40)(hj:j<=l.length):RC 39 [.pv (aL l),iv (j:Int),sv s] (.pv (aL (l.take j++s::l.drop j))) H:=by
 refine Pu ?_;have hml:(l.map S_).length=l.length:=g_ _;have g:((l.take j).map S_).length=j:=F_
 have f:((l.drop j).map S_).length=l.length - j:=F_
 have h:(l.take j++s::l.drop j).length=j+1+(l.length - j):=G_
 have k:(bZ (l.take j)).length=j:=by rw[eE,q7];omega
 have i:(bZ (l.take j++[s])).length=j+1:=by rw[eE,j9,q7];simp only[j7,List.length_nil];omega
 refine Bd func39 Z ntmps39<|Sz U<|C (by exact fO (id:=905) Z bH Z Z Z Z (by simp) Z)<|Y V<|Y V<|Y (by exact eU (l:=0) (h:=j) Z bH Z (eX l) Z Z (l6 _) (by omega) (show ((l.map S_).take j).drop 0=(l.take j).map S_ by rw[List.drop_zero,List.map_take]))<|Y (by exact cA (ob:=⟨0,1,9,[]⟩) (k:=j) (ps:=(l.take j).map S_) Z bH wB Z Z Z Z Z Z Z (eX _) g (by omega) (r7 _) (rows':=bZ (l.take j)) (by rw[List.nil_append];exact(dU _).symm))<|O U<|C V<|Y V<|Y (by exact aK ([s].map S_) Z bH Z Z Z Z Z (eX _))<|Y (by exact cA (k:=j+1) (ps:=[s].map S_) Z bH wB Z Z Z Z Z k Z (eX _) (m:=1) Z (by omega) Z (rows':=bZ (l.take j++[s])) (gM _ _)) ?_;refine O U<|C V<|Y V<|Y V<|Y (by exact eU (l:=j) (h:=(l.map S_).length) Z bH Z (eX l) Z Z (by omega) (j6 _) (show ((l.map S_).take _).drop j=(l.drop j).map S_ by rw[List.take_length,List.map_drop]))<|Y (by exact cA (k:=(l.take j++s::l.drop j).length) (ps:=(l.drop j).map S_) Z bH wB Z Z Z Z Z i Z (eX _) f (by omega) h.symm (rows':=bZ (l.take j++s::l.drop j)) (by rw[gM,List.append_assoc];rfl))<|O U<|aC ?_;refine cR (H':=[]) (.inr Z) Z (aJ Z) (Fin.fz (id:=905) (ob:=⟨3,1,9,bZ (l.take j++s::l.drop j)⟩) ((l.take j++s::l.drop j).map S_) Z (dU _) (.osl (gX S_ _)) Z T_ T_) ?_;exact Qq
theorem Ti(g:zP l)(d:s∉l):zP (l.take (DI id l s)++s::l.drop (DI id l s)):=by
 induction l with
 |nil=>exact List.pairwise_singleton _ _
 | cons a l e =>
  rw[l7,not_or]at d;have f:=List.pairwise_cons.1 g;have e:=e f.2 d.2;rw[DI,List.findIdx_cons];cases h:kC (id a) s with
  |true =>
   show zP (a::(l.take (DI id l s)++s::l.drop (DI id l s)));refine List.pairwise_cons.2 ⟨fun y c=>?_,e⟩
   grind
  | false =>
   show zP (s::a::l);have b:kC s a=true:=by
    cases i:kC s a with
    |true=>rfl
    |false=>exact absurd (B8 i h) d.1
   refine List.pairwise_cons.2 ⟨fun y c=>?_,g⟩;rcases l7.1 c with rfl|c
   ·exact b
   exact rA b (f.1 y c)
theorem Tj(j:Nat)(x:B_):x∈l.take j++s::l.drop j↔x=s\/x∈l:=by
 conv=>rhs;rw[<-List.take_append_drop j l]
 grind
def DO(L:List B_):List B_:=(gB L).map (kW (kG L))
theorem Hn{i:B_}(h:L[k]?=some t)(hi:IP t=some i)(m:i∉gB (L.take k)):gB (L.take (k+1))=(gB (L.take k)).take (DI id (gB (L.take k)) i)++i::(gB (L.take k)).drop (DI id (gB (L.take k)) i) /\
  DO (L.take (k+1))=(DO (L.take k)).take (DI id (gB (L.take k)) i)++t::(DO (L.take k)).drop (DI id (gB (L.take k)) i):=by
 have l:∀x,x∈(kG (L.take k)).map Prod.fst↔x∈gB (L.take k):=fun x=>(oX _).mem_iff.symm;have r:kG (L.take (k+1))=kG (L.take k)++[(i,t)]:=by
  rw[LW h,lF,hi];refine a8 fun s=>m ((l i).1 ?_);obtain ⟨p,f,e⟩:=List.any_eq_true.1 s;exact List.mem_map.2 ⟨p,f,b9 e⟩
 have u:gB (L.take (k+1))=(gB (L.take k)).take (DI id (gB (L.take k)) i)++i::(gB (L.take k)).drop (DI id (gB (L.take k)) i):=by
  refine P3 _ _ (qI _) (Ti (qI _) m) fun x=>?_;rw[Tj,<-l,gB,(oX _).mem_iff,r,List.map_append,List.mem_append];simp only[List.map_cons,List.map_nil,q9];exact or_comm
 refine⟨u,?_⟩;have g:∀x∈gB (L.take k),kW (kG (L.take (k+1))) x=kW (kG (L.take k)) x:=fun x j=>by
  obtain ⟨p,f,e⟩:=List.mem_map.1 ((l x).2 j);rw[r,kW,kW,List.find?_append];cases o:(kG (L.take k)).find? fun p=>decide (p.1=x)with
  |none=>exact absurd (decide_eq_true e) (List.find?_eq_none.1 o p f)
  |some q=>rfl
 have n:kW (kG (L.take (k+1))) i=t:=by
  rw[r,kW,List.find?_append];have o:((kG (L.take k)).find? fun p=>decide (p.1=i))=none:=List.find?_eq_none.2 fun p f s=>m ((l i).1 (List.mem_map.2 ⟨p,f,b9 s⟩));rw[o,Option.none_or,List.find?_cons,decide_eq_true rfl];rfl
 rw[DO,u,List.map_append,List.map_cons,n,DO,<-List.map_take,<-List.map_drop];congr 1
 ·exact List.map_congr_left fun x j=>g x (List.mem_of_mem_take j)
 congr 1;exact List.map_congr_left fun x j=>g x (List.mem_of_mem_drop j)
theorem Ho(h:L[k]?=some t)(hi:IP t=none\/∃i,IP t=some i/\i∈gB (L.take k)):kG (L.take (k+1))=kG (L.take k):=by
 rw[LW h,lF];rcases hi with hi|⟨i,hi,a⟩
 ·rw[hi]
 rw[hi];refine b6 ?_;obtain ⟨p,b,e⟩:=List.mem_map.1 ((oX _).mem_iff.1 a);exact List.any_eq_true.2 ⟨p,b,decide_eq_true e⟩
theorem bw{t}(h:(dW t).2=0):∀e∈(dW t).1.edits,e.refs.length<2^40:=by have a:=sH (PO (by rw[JP h]));rw[<-IB a.tx];exact JO _
theorem aCJ(L:List B_)(H:aF)(hl:L.length<1000000)(hs:∀t∈L,t.size<1000000000):RC 19 [.pv (aL L)] (.tup [.pv (aL (gB L)),.pv (aL (DO L))]) H:=by
 refine Pu ?_;have hml:(L.map S_).length=L.length:=g_ _;refine Bd func19 Z ntmps19<|C U<|O U<|Sz U<|Sz U<|S<|Sz U<|aD<|bC (σ:=Nat) (fun k=>([(0,.pv (aL L)),(4,.pv (aL (gB (L.take k)))),(5,.pv (aL (DO (L.take k)))),(6,iv (k:Int))],[])) (fun k=>k<=L.length) (fun k=>L.length - k) 0 (l6 _) ?_ ?_
 ·dsimp only;rw[List.take_zero,O6,show DO []=[]by rw[DO,O6];rfl];exact Wk
 intro k hk;refine S<|C V<|Y V<|Y (fY aE)<|O cM<|Cn ?_ ?_<;>intro d_
 ·have hlt:k<L.length:=by have:=b9 d_;omega
  obtain ⟨t,ht⟩:=aU hlt;have hi:=cC (f:=S_) ht;have hts:=hs t (m7 ht);have A:=fun H=>jq t.data.toList (by rw[aT];omega) H;rw[gJ,nb]at A;have f_:=LV t.data.toList;have u_:=bw (t:=t.data.toList);have hidT:IP t=if(dW t.data.toList).2=0 then some (HU (dW t.data.toList).1)else none:=rfl
  have hst:=fun i=>Hn (i:=i) ht;have hsm:=Ho ht;have hle:=RE (L.take k);have hil:(gB (L.take k)).length=(kG (L.take k)).length:=by rw[gB,jC,g_]
  have F:(DO (L.take k)).length=(gB (L.take k)).length:=g_ _;rw[q7]at hle;have Q:=qI (L.take k);obtain ⟨G,hG⟩:∃G,G=dW t.data.toList:=X_;rw[<-hG]at A hidT f_ u_;clear hG;have y:IntKind.i64.wrap ((k:Int)+1)=((k+1:Nat):Int):=by rw[pW X X];omega
  refine aA<|S<|aD<|C V<|Y V<|Y (kx bH hi)<|Y (gG N_ (hi:=hi))<|Y (kc call25 (A _))<|Y V<|Y dH<|Y dH<|Y (kl 7 ie)<|Uu (iZ bD)<|O U<|S<|C V<|O zX<|Cn ?_ ?_<;>intro v_
  ·have hne:G.2≠0:=by have:=v_;intro e;rw[e]at this;exact absurd this (by decide)
   rw[a8 hne]at hidT;have e:=hsm (.inl hidT);have e2:gB (L.take (k+1))=gB (L.take k):=by rw[gB,gB,e]
   have R:DO (L.take (k+1))=DO (L.take k):=by rw[DO,DO,e2,e]
   refine aP<|Rd V<|Y (ka y)<|Da ?_;refine⟨k+1,X,X,?_⟩;dsimp only;rw[e2,R];exact Wk
  have y_:G.2=0:=by have:=v_;by_cases e:G.2=0;exact e;rw[decide_eq_false e]at this;cases this
  rw[b6 y_]at hidT;have hid:=fun H=>aBa G.1 H f_.1 (u_ y_);obtain ⟨I,hI⟩:∃I,I=HU G.1:=X_;rw[<-hI]at hid hidT;clear hI;have hst:=hst I hidT;have hsm:=fun h=>hsm (.inr ⟨I,hidT,h⟩);obtain ⟨A_,z_⟩:∃A_,A_=gB (L.take k):=X_;obtain ⟨o_,hO⟩:∃o_,o_=DO (L.take k):=X_;have c_:=fun H=>Qx A_ I H (by rw[z_];omega);rw[<-z_]at hst hsm hil F Q |-;rw[<-hO]at hst F |-;have W:=mj id A_ I;have p:DI id A_ I<A_.length->(A_[DI id A_ I]?=some I↔I∈A_):=fun hlt2=>by
   constructor
   ·exact m7
   intro v;have D:=ud A_ I;rw[decide_eq_true v]at D;obtain ⟨q,hq⟩:=r_.1 v;have hlo:∀a,a<DI id A_ I->∀o,A_[a]?=some o->kC (id o) I=true:=fun a ha o e_=>by
    have:=List.not_of_lt_findIdx ha;rw[(m_.1 e_).2]at this
    simpa using this
   obtain ⟨o,e_⟩:=aU hlt2;have K:kC (id o) I=false:=by
    have h3:=List.findIdx_getElem (xs:=A_) (p:=fun o=>!kC (id o) I) (w:=hlt2);have e:A_[A_.findIdx fun o=>!kC (id o) I]'hlt2=o:=(m_.1 e_).2;rw[e]at h3
    simpa using h3
   have:=ue (f:=id) Q hlo e_ K;rw[D]at this;have e2:o=I:=b9 this.symm;rw[e_,e2]
  have u:¬ DI id A_ I<A_.length->I∉A_:=fun h v=>by
   have e:DI id A_ I=A_.length:=X
   have:=List.findIdx_eq_length.1 e I v;rw[show kC (id I) I=kC I I from Z,JB]at this;cases this
  have w:=fun H=>dm A_ (DI id A_ I) I H X W;have s:=fun H=>dm o_ (DI id A_ I) t H X X;obtain ⟨j,hj⟩:∃j,j=DI id A_ I:=X_;rw[<-hj]at hst c_ W p u w s;obtain ⟨x,hx⟩:∃x,x=A_.getD j a6:=X_;have T:j<A_.length->A_[j]?=some x:=fun h=>by
   obtain ⟨z,hz⟩:=aU h;rw[hx,List.getD_eq_getElem?_getD,hz];rfl
  have P:=fun h=>cC (f:=S_) (T h);have hmX:(A_.map S_).length=A_.length:=g_ _;obtain ⟨B,hB⟩:∃B,B=(decide ((j:Int)<((A_.map S_).length:Int))&&decide (x=I)):=X_;have E:B=decide (I∈A_):=by
   rw[hB];by_cases hlt2:j<A_.length
   ·rw[decide_eq_true X,Bool.true_and];refine decide_eq_decide.2 ?_;rw[<-p hlt2,T hlt2];exact⟨fun h=>by rw[h],fun h=>Option.some.inj h⟩
   rw[decide_eq_false X,Bool.false_and,decide_eq_false (u hlt2)]
  clear hj hx;refine aA<|C (wA cK bD)<|Y (kc call26 (hid _))<|O U<|C V<|Y V<|Y (kc call38 (c_ _))<|O U<|S<|S<|aR (t:=43) (n:=13) (A_:=B) ?_ ?_
  ·all_goals refine Y V<|Y V<|Y (fY aE)<|Y cM<|Dm ?_<;>(refine Sp 36 (fun h36=>?_) fun h36=>?_)<;>(try(with_reducible contradiction))<;>(first|refine M<|M<|M<|M<|M<|M ?_|refine J V<|J V<|J (bU Z bH Z Z X (l8 _) (P (I_ h36)) Z)<|J (eW Z N_ Z (P (I_ h36)) Z)<|J V<|J xA ?_)<;>refine O cE ?_<;>exact Gj (h:=by rw[hB];(rw[h36];rfl))
  refine Cn ?_ ?_<;>intro N
  ·have v:I∈A_:=b9 (E.symm.trans N);have e:=hsm v;have e2:gB (L.take (k+1))=A_:=by rw[z_,gB,gB,e]
   have R:DO (L.take (k+1))=o_:=by rw[hO,DO,DO,e2,e,z_]
   refine aP<|Rd V<|Y (ka y)<|Da ?_;refine⟨k+1,X,X,?_⟩;dsimp only;rw[e2,R];exact Wk
  have v:I∉A_:=b_ (E.symm.trans N);obtain ⟨e2,R⟩:=hst v;refine aA<|C V<|Y V<|Y V<|Y (kc call39 (w _))<|O U<|Rd V<|Y V<|Y V<|Y V<|Y (kx bH hi)<|Y (gG N_ (hi:=hi))<|Y (kc call39 (s _))<|O U<|Rd V<|Y (ka y)<|Da ?_;refine⟨k+1,X,X,?_⟩;dsimp only;rw[e2,R];exact Wk
 have hge:k=L.length:=by have:=b_ d_;omega
 subst hge;rw[List.take_length];exact aP<|C V<|Y V<|Y U<|O U<|aC<|Ru<|Qq
def nI:Nat->Int
 |0 => -1
 |n+1=>(n:Int)
theorem tb(m:Nat)(h:m<2^40):IntKind.i64.wrap ((m:Int) - 1)=nI m:=by
 rw[pW X X];cases m with
 |zero=>rfl
 |succ m=>show ((m+1:Nat):Int) - 1=(m:Int);omega
def wD(l:List B_)(n:Nat):List B_:=(l.drop n).reverse.flatMap fun t=>[t,t]
theorem WX(l:List B_)(n:Nat):(wD l n).length=2*(l.length - n):=by
 have h:∀(l:List B_),(l.flatMap fun t=>[t,t]).length=2*l.length:=by
  intro l
  induction l with
  |nil=>rfl
  |cons a l c=>rw[List.flatMap_cons,j9,c,j7];simp only[j7,List.length_nil];omega
 rw[wD,h,List.length_reverse,p_]
theorem oh{m:Nat}(h:l[m]?=some t):wD l m=wD l (m+1)++[t,t]:=by
 have a:=(m_.1 h).1;have e:l.drop m=t::l.drop (m+1):=by rw[List.drop_eq_getElem_cons a,(m_.1 h).2]
 rw[wD,e,List.reverse_cons,List.flatMap_append];rfl
theorem Ac(l):wD l l.length=[]:=by rw[wD,List.drop_length];rfl
theorem Ab(l)(t):t∈wD l 0↔t∈l:=by
 rw[wD,List.drop_zero]
 simp_all
theorem lr(l:List B_):HM (gB l)=iV (gB l)/\HN (gB l)=0:=by have e:=List.all_eq_true.2 (R7 l);rw[HM,HN,b6 e,b6 e,LX (qI l)];exact Qq
theorem Z6(L:List B_)(H:aF)(K:L.length<=1048576)(c_:∀s∈L,s.size<=1048576):RC 4 [.pv (aL L)] (bv true) H:=by
 refine Pu ?_;have o:=fun H=>aC8 L 40 H K c_;have c:=Kb (l:=L);obtain ⟨f,F⟩:∃f,f=zf L 40:=X_;rw[<-F]at o c;clear F;refine Bd func4 Z ntmps4<|Sz U<|C (kc call9 (aAL _))<|O U<|S<|C V<|Y (kc call10 (o _))<|O iW<|Cn ?_ ?_<;>intro z
 ·exact C V<|O U<|aC<|Rt<|Qq
 obtain ⟨h40,q⟩:=c (pJ z);have B:(L.map S_).length=L.length:=g_ _;have D:=fun H=>aCJ L H X (fun t d=>by have:=q t d;omega);obtain ⟨G,I⟩:=lr L;have hil:=EK L;have i:=fun H=>J3 (gB L) H X (fun t d=>by rw[jY (R7 L t d)];decide);rw[G,I]at i;have g:=BA (Jk (l:=L) X);have h:=Ab L;have hbl:=WX L 0;have j:=fun H=>fy (wD L 0) (iV (gB L)) H X (fun t d=>by have:=q t ((h t).1 d);omega);rw[a8 g,a8 g,YZ L (wD L 0) h X]at j;generalize iV (gB L)=m at *;generalize gB L=A_ at *;clear G I g;refine aA<|C V<|Y (kc call19 (D _))<|Y V<|Y dH<|Y dH<|Y U<|O U<|C V<|Y (kc Nj (i _))<|Y V<|Y dH<|Y dH<|Y U<|O U<|Sz (eP (id:=905) (sz:=1) (ty:=9) Z Z Z)<|S<|C V<|Y (fY aE)<|Y (by exact dV Z Z Z (show IntKind.i64.wrap (((L.map S_).length:Int) - 1)=nI L.length by rw[B];exact tb _ X))<|O U<|aD ?_;refine bC (σ:=Nat) (fun n=>([(0,.pv (aL L)),(3,bv true),(6,sv m),(7,iv 0),(8,.osl 905 (L.length - n) 0 (2*(L.length - n))),(9,iv (nI n))],[(905,⟨L.length - n,1,9,bZ (wD L n)⟩)])) (fun n=>n<=L.length) (fun n=>n) L.length (j6 _) ?_ ?_
 ·simp only[Nat.sub_self,Ac];exact L_
 intro n hn;cases n with
 |succ k =>
  obtain ⟨t,d⟩:=aU (l:=L) (k:=k) X;have v:=cC (f:=S_) d;have A:=oh d;have x:(bZ (wD L (k+1))).length=2*(L.length - (k+1)):=by rw[eE,WX]
  refine S<|C V<|O DK<|Cn ?_ ?_<;>intro w
  ·refine aA<|S<|aD<|aN a7<|Cr [905] (fun _ _=>V)<|Cr [] (fun _ _=>V)<|Cr [] (fun _ _=>V)<|Cr [] (fun y u=>by exact bU Z bH Z Z (show (0:Int)<=nI (k+1)from Int.natCast_nonneg k) (show (nI (k+1)).toNat=k from l8 k) v Z)<|Cr [] (fun _ _=>(gG N_ (hi:=v)))<|Cr [] (fun _ _=>V)<|Cr [] (fun _ _=>V)<|Cr [] (fun y u=>by exact bU Z bH Z Z (show (0:Int)<=nI (k+1)from Int.natCast_nonneg k) (show (nI (k+1)).toNat=k from l8 k) v Z)<|Cr [] (fun _ _=>(gG N_ (hi:=v)))<|Cr [] (fun y u=>by exact aK ([t,t].map S_) Z bH Z Z Z Z Z (eX _))<|Cp [905] (fun y u=>by exact cA (n:=2*(L.length - (k+1))) (k:=2*(L.length - k)) (ps:=[t,t].map S_) Z bH wB Z ((u _ Z).trans Z) Z Z Z x Z (eX _) (m:=2) Z X X (rows':=bZ (wD L k)) (by rw[A];exact gM _ _)) ?_;refine Cr [905] (fun _ _=>U)<|bL<|Kr<|Rd V<|Y (dV Z Z Z (tb k X))<|Da ?_;refine⟨k,X,X,?_⟩;simp only[show L.length - k=L.length - (k+1)+1 by omega];exact L_
  exact absurd (b_ w) (by show ¬ ¬ (0:Int)<=(k:Int);omega)
 | zero =>
  refine S<|C V<|O DK<|Cn ?_ ?_<;>intro d_
  ·cases d_
  refine aP<|S ?_;refine fZ.ent (cJ.fzG (id:=905) (E':=[(3,bv true),(6,sv m),(7,iv 0),(8,.pv (aL (wD L 0)))]) (H':=[]) ((wD L 0).map S_) Z (dU _) ?_ Z T_ T_) ?_
  ·intro p E;simp only[l7,n_,or_false]at E;rcases E with rfl|rfl|rfl|rfl
   ·exact⟨_,Z,.same H_⟩
   ·exact⟨_,Z,.same H_⟩
   ·exact⟨_,Z,.same H_⟩
   exact⟨_,Z,.osl (by rw[r7,List.drop_zero];exact List.take_of_length_le (by rw[g_];omega))⟩
  exact Rd V<|Y V<|Y (kc LB (j _))<|Y V<|Y dH<|Y dH<|Y U<|O U<|C V<|Y V<|J V<|J cD<|Y cE<|Y V<|J V<|J cD<|Y cE<|Y V<|J V<|J (fY aE)<|J cD<|Y cE<|O U<|aC<|Rt<|Qq
end Go.Proofs.YtopnleflllkbmaaGreatDoor
