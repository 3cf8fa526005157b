/-
  Parts of the proof. Conditions: each theorem's own.
-/
import Derived.Test.YtopnleflllkbmaaGreatDoorKX5sM1
set_option linter.unusedVariables false
set_option linter.unusedSimpArgs false
set_option maxRecDepth 100000
set_option maxHeartbeats 8000000
open List Nat
open List renaming length->C
open Option renaming some->N,none->ζ
open Bool renaming true->A,false->η
open ByteArray renaming data->μ
open Array renaming toList->ν
open Decidable renaming decide->θ
open Go.IntKind renaming i64->ξ
open Go.Proofs.Tryz renaming prog->φ
namespace Go.Proofs.C
end Go.Proofs.C
open Go.Proofs.YtopnleflllkbmaaGreatDoor
namespace Go.Proofs
open Tryz
theorem pP:type_of% call154:=call154
theorem nA:type_of% eqGuardType104:=eqGuardType104
theorem eM:type_of% isAgg104:=isAgg104
theorem dP:type_of% isAgg133:=isAgg133
theorem eL:type_of% isAgg159:=isAgg159
theorem yH:type_of% isAgg169:=isAgg169
theorem wR:type_of% isAgg20:=isAgg20
theorem aG:type_of% isAgg22:=isAgg22
theorem yG:type_of% isAgg270:=isAgg270
theorem nU:type_of% isAgg4:=isAgg4
theorem vP:type_of% isAgg5:=isAgg5
theorem bD:type_of% sizeOf137:=sizeOf137
theorem BL:type_of% sizeOf157:=sizeOf157
theorem rA:type_of% sizeOf159:=sizeOf159
theorem vO:type_of% sizeOf169:=sizeOf169
theorem BK:type_of% sizeOf223:=sizeOf223
theorem mD:type_of% sizeOf270:=sizeOf270
theorem cO:type_of% sizeOf5:=sizeOf5
theorem eD:type_of% sizeOf70:=sizeOf70
theorem EH:type_of% underlying0:=underlying0
theorem dW:type_of% underlying133:=underlying133
theorem oL:type_of% underlying135:=underlying135
theorem iI:type_of% underlying137:=underlying137
theorem lP:type_of% underlying157:=underlying157
theorem dN:type_of% underlying159:=underlying159
theorem gV:type_of% underlying169:=underlying169
theorem zV:type_of% underlying180:=underlying180
theorem cU:type_of% underlying185:=underlying185
theorem aE:type_of% underlying22:=underlying22
theorem N_:type_of% isAgg9:=isAgg9
theorem M_:type_of% isAgg3:=isAgg3
theorem U_:type_of% underlying9:=underlying9
theorem V_:type_of% sizeOf9:=sizeOf9
theorem gU:type_of% underlying223:=underlying223
theorem fO:type_of% underlying4:=underlying4
theorem fE:type_of% underlying46:=underlying46
theorem kK:type_of% underlying48:=underlying48
theorem gM:type_of% underlying49:=underlying49
theorem dI:type_of% underlying5:=underlying5
theorem uM:type_of% underlying51:=underlying51
theorem fD:type_of% underlying53:=underlying53
theorem mR:type_of% underlying68:=underlying68
theorem BJ:type_of% underlying70:=underlying70
theorem uL:type_of% underlying73:=underlying73
theorem mQ:type_of% underlying82:=underlying82
theorem uJ:type_of% underlying84:=underlying84
theorem BI:type_of% underlying92:=underlying92
theorem uI:type_of% zeroValue157:=zeroValue157
theorem uH:type_of% zeroValue169:=zeroValue169
theorem wQ:type_of% zeroValue22:=zeroValue22
theorem tH:type_of% zeroValue3:=zeroValue3
theorem jG:type_of% zeroValue4:=zeroValue4
theorem tG:type_of% zeroValue5:=zeroValue5
theorem gY:type_of% zeroValue9:=zeroValue9
end Go.Proofs
namespace Go.Abs
variable{α β γ:Type}{H H':aF}
def Qz:PV->Bool
 |.int _ _=>A
 |.bool _=>A
 |.str _=>A
 |_=>η
theorem PRep.flat{w w'}{I b}{v}{p}(h:PRep w I v p)(a:Qz p=A):PRep w' b v p:=by cases h<;>first|(constructor;done)|(simp[Qz]at a)
def RO(P:Program)(f:FuncId)(args:List AV)(H:aF)(p:PV):Prop :=∀(I:Nat->Prop) (ι:mG) (w:World) (vs:Array Value),Rel I ι H w->vs.size=C args->(∀(i:Nat) (v:Value) (a:AV),vs[i]?=N v->args[i]?=N a->VRel w I ι H v a) ->
  Calls P f vs w λe w'=>∃v,e=.returned v/\(∀B I2,PRep B I2 v p)/\w'.os=w.os/\w'.tape=w.tape/\w'.output=w.output/\w.heap.size<=w'.heap.size /\
   (∀a,a.block<w.heap.size->w'.frozen? a=w.frozen? a)/\∀b,b<w.heap.size->w'.heap[b]?=w.heap[b]?
theorem RO.of{P}{f}{args}{p}(h:aU P f args [] (λr H=>r=.pv p/\H=[]))(m:Qz p=A):RO P f args [] p:=by
 intro I o w vs l j i;refine(h I _ w _ l j i).mono ?_;rintro e w' ⟨r,H',I',ι',v,rfl,⟨rfl,rfl⟩,q,k2,c⟩;have d:∀b,¬ OW o [] b:=λb ⟨_,_,_,k,_⟩=>by cases k
 exact⟨v,Z,λB I2=>q.pv_inv.flat m,c.os,c.tape,c.output,c.size,λa n=>c.froz a n (d _),λb g=>c.keep b g (d b)⟩
theorem RO.lend{P}{f}{args args'}{p}{H H1}{id}{ob}(ps)(h:RO P f args' H1 p)(g:H.get id=N ob)(c:ob.rows=ps.map (·.map .pv))(E:C args=C args')
  (m:∀(i:Nat) (a B),args[i]?=N a->args'[i]?=N B->Fz H1 id ob.g ps a B) (j:Sub H1 H) (o:dO H1) (e:H1.get id=ζ):RO P f args H p:=by
 intro I ι w vs k D n;refine h _ _ w _ (k.freeze j o g e) X ?_;intro i v B l b;have d:i<C args:=by
  have:=(m9.1 b).1;omega
 exact VRel.freeze k j g c (m i _ _ (m_ d) b) (n i v _ l (m_ _))
theorem RO.calls{P}{f}{args}{p}{H}(h:RO P f args H p):aU P f args H (λr H'=>r=.pv p/\H'=H):=by
 intro I n w vs d z k;refine(h I _ w _ d z k).mono ?_;rintro e w' ⟨v,rfl,y,u,t,x,l,q,m⟩;have c:Step I _ H w I n H _ :=
  ⟨u,t,x,l,λa s _=>q a s,λ_ h=>h,λ_ h=>.inl h,λ_ h=>.inl h,λb j _=>m b j,λid o i=>⟨o,i,h_ _,λ_=>⟨Z,Z,λ_=>h_ _⟩⟩⟩
 refine⟨.pv p,H,I,n,v,Z,⟨Z,Z⟩,.pv (y _ _),?_,c⟩;refine⟨λb j=>Nat.lt_of_lt_of_le (d.imm b j) l,λid o i=>?_,d.inj,c.glob d⟩;exact(d.obj _ o i).keep Z (λB _ _ g=>⟨m _ g,λh=>h⟩) (λr _ a _ v k=>k.mono d c)
theorem eN{P}{G0}{i_}{Q}{E}{H}{h}(f_:α->β->dG×aF)(D:α->β->Prop)(g:α->β->Nat)(e)(c)(i:D e c)(f:cJ G0 E H (f_ e c).1 (f_ e c).2)
  (round:∀a b,D a b->gK P G0 i_ h (zX (λE' H'=>∃B d,D B d/\g B d<g a b/\cJ G0 E' H' (f_ B d).1 (f_ B d).2) Q) (f_ a b).1 (f_ a b).2):gK P G0 i_ (.loop h) Q E H:=by
 refine bA (λs=>f_ s.1 s.2) (λs=>D s.1 s.2) (λs=>g s.1 s.2) (e,c) i f ?_
 simp_all
theorem CT{P}{G0}{i_}{Q}{E}{H}{j}(f_:α->β->γ->dG×aF)(F:α->β->γ->Prop)(h:α->β->γ->Nat)(f)(d)(g)(k:F f d g)(i:cJ G0 E H (f_ f d g).1 (f_ f d g).2)
  (round:∀a b c,F a b c->gK P G0 i_ j (zX (λE' H'=>∃B e D,F B e D/\h B e D<h a b c/\cJ G0 E' H' (f_ B e D).1 (f_ B e D).2) Q) (f_ a b c).1 (f_ a b c).2):gK P G0 i_ (.loop j) Q E H:=by
 refine bA (λs=>f_ s.1 s.2.1 s.2.2) (λs=>F s.1 s.2.1 s.2.2) (λs=>h s.1 s.2.1 s.2.2) (f,d,g) k i ?_
 simp_all
theorem ZR{P}{G0}{i_}{Q}{E}{H}{l}{I:Type}(f_:α->β->γ->I->dG×aF)(F:α->β->γ->I->Prop)(j:α->β->γ->I->Nat)(h)(e)(i)(f)(m:F h e i f)(k:cJ G0 E H (f_ h e i f).1 (f_ h e i f).2)
  (round:∀a b c d,F a b c d->gK P G0 i_ l (zX (λE' H'=>∃B g D G,F B g D G/\j B g D G<j a b c d/\cJ G0 E' H' (f_ B g D G).1 (f_ B g D G).2) Q) (f_ a b c d).1 (f_ a b c d).2):gK P G0 i_ (.loop l) Q E H:=by
 refine bA (λs=>f_ s.1 s.2.1 s.2.2.1 s.2.2.2) (λs=>F s.1 s.2.1 s.2.2.1 s.2.2.2) (λs=>j s.1 s.2.1 s.2.2.1 s.2.2.2) (h,e,i,f) m k ?_
 simp_all
theorem ei(f:α->List _)(l:List _)(H):∀r∈l.map (λe=>(f e).map AV.pv),∀a∈r,Clo H a:=H_
theorem jV{H}{id g}{ps}:∀(i:Nat) (a B),[][i]?=N a->[][i]?=N B->Fz H id g ps a B:=λi a B h=>by simp
theorem bG{H}{id g}{ps}{x d}{l e}(h:Fz H id g ps x d)(f:∀(i:Nat) (a a'),l[i]?=N a->e[i]?=N a'->Fz H id g ps a a'):
  ∀(i:Nat) (a a'),(x::l)[i]?=N a->(d::e)[i]?=N a'->Fz H id g ps a a'
 |0,a,a',c,b=>by cases c;cases b;exact h
 |i+1,a,a',c,b=>f i a _ c b
inductive Nz(H':aF)(id:Nat):AV->AV->Prop
 |same {a:AV} (h:Clo H' a):Nz H' id a a
 |own:Nz H' id (.pv .nils) (.osl id 0 0 0)
 |weak:Nz H' id (.pv .nils) (.pv (.sl []))
 |agg {cs cs':List AV} (hl:C cs=C cs') (h:∀(i:Nat) (a a':AV),cs[i]?=N a->cs'[i]?=N a'->Nz H' id a a'):Nz H' id (.agg cs) (.agg cs')
 |tup {cs cs':List AV} (hl:C cs=C cs') (h:∀(i:Nat) (a a':AV),cs[i]?=N a->cs'[i]?=N a'->Nz H' id a a'):Nz H' id (.tup cs) (.tup cs')
def Cc(H H':aF):Prop:=∀j B,H'.get j=N B->∃o,H.get j=N o/\o.g=B.g/\o.sz=B.sz/\o.ty=B.ty/\C o.rows=C B.rows
theorem VRel.alike{w:World}{I:Nat->Prop}{ι:mG}(r:Cc H H'){v:Value}{a:AV}(h:VRel w I ι H v a):Clo H' a->VRel w I ι H' v a:=by
 induction h with
 |any v=>exact λ_=>.any v
 |pv h=>exact λ_=>.pv h
 |ref o k x j h =>
  intro d;rw[D8]at d;have ⟨g,c⟩:=Option.isSome_iff_exists.1 d;have ⟨t,f,s,q,u,y⟩:=r _ g c;rw[k]at f;cases f;exact .ref g c X j (λe=>by simp_all)
 |pad b K B G h J z F E d D=>exact λ_=>.pad b K B G h J z F E d D
 |osl o k x j h =>
  intro d;rw[aAY]at d;have ⟨g,c⟩:=Option.isSome_iff_exists.1 d;have ⟨t,f,s,q,u,y⟩:=r _ g c;rw[k]at f;cases f;exact .osl g c X j (λe=>by simp_all)
 |clo p h m =>
  intro d;rw[aA0]at d;exact .clo p (λi v a n l=>m i v a n l (d a (m7 l)))
 |bnd p h m =>
  intro d;rw[aA1]at d;exact .bnd p (λi v a n l=>m i v a n l (d a (m7 l)))
 |agg p j h m =>
  intro d;rw[ek]at d;exact .agg p j (λi v a n l=>m i v a n l (d a (m7 l)))
 |tup p h m =>
  intro d;rw[aAX]at d;exact .tup p (λi v a n l=>m i v a n l (d a (m7 l)))
 |mp o k x j h =>
  intro d;rw[aDO]at d;have ⟨g,c⟩:=Option.isSome_iff_exists.1 d;have ⟨t,f,s,q,u,y⟩:=r _ g c;rw[k]at f;cases f;exact .mp g c X j (λe=>by simp_all)
 |it o k x j h =>
  intro d;rw[aDP]at d;have ⟨g,c⟩:=Option.isSome_iff_exists.1 d;have ⟨t,f,s,q,u,y⟩:=r _ g c;rw[k]at f;cases f;exact .it g c X j (λe=>by simp_all)
 |yld o k x j h =>
  intro d;rw[aAW]at d;have ⟨g,c⟩:=Option.isSome_iff_exists.1 d;have ⟨t,f,s,q,u,y⟩:=r _ g c;rw[k]at f;cases f;exact .yld g c X j (λe=>by simp_all)
 |osc o k x j h =>
  intro d;rw[aAZ]at d;have ⟨g,c⟩:=Option.isSome_iff_exists.1 d;have ⟨t,f,s,q,u,y⟩:=r _ g c;rw[k]at f;cases f;exact .osc g c X j (λe=>by rw[<-q];exact h X)
theorem Nz.raw{H'}{id}{a B}(h:Nz H' id a B){y}{b}(e:B=.raw y b):a=.raw y b:=by cases h<;>first|exact e|cases e
theorem VRel.nz{w}{I}{ι}{H H'}{id}{ob:Ob}(t:Cc H H')(l:ι id=ζ)(g:H'.get id=N ob)(D:ob.g=0)(e:0<ob.sz){a B}(s:Nz H' id a B):∀ {v},VRel w I ι H v a->VRel w I ι H' v B:=by
 induction s with
 |same h=>exact λc=>c.alike t h
 |own =>
  intro v c;have:=c.pv_inv;cases this;exact .osl ob g X Z (λ_=>⟨e,X,.inr ⟨l,Z,Z,Z⟩⟩)
 |weak =>
  intro v c;have:=c.pv_inv;cases this;exact .pv .nilsl
 | @agg j n o h k =>
  intro v c;cases c with
  |agg d x q =>
   refine .agg (d.trans o) x (λi u B m b=>?_);have f:=getElem?_eq_getElem (l:=j) (i:=i) (by have:=(m9.1 b).1;omega);exact k i _ B f b (q i u _ m f)
 | @tup j n o h k =>
  intro v c;cases c with
  |tup d q =>
   refine .tup (d.trans o) (λi u B m b=>?_);have f:=getElem?_eq_getElem (l:=j) (i:=i) (by have:=(m9.1 b).1;omega);exact k i _ B f b (q i u _ m f)
def NzL(H:aF)(id:Nat):List AV->List AV->Prop
 | [],[]=>True
 |a::l,b::r=>Nz H id a b/\NzL H id l r
 |_,_=>False
theorem NzL.spec{H}{id}:∀ {l r},NzL H id l r->C l=C r/\∀(k:Nat) (a b),l[k]?=N a->r[k]?=N b->Nz H id a b
 | [],[],_=>⟨Z,λk a b h=>by grind⟩
 | a::l,b::r,h=>⟨by simp [(NzL.spec h.2).1],λk x y c d=>by
   cases k with
   |zero=>cases c;cases d;exact h.1
   |succ k=>exact(NzL.spec h.2).2 k x y c d⟩
 | [],_::_,h=>h.elim
 |_::_,[],h=>h.elim
def NzR(H:aF)(id:Nat)(rows rows':List (List AV)):Prop:=(rows=rows'/\∀r∈rows',∀a∈r,Clo H a)\/∃r r',rows=[r]/\rows'=[r']/\NzL H id r r'
theorem NzR.spec{H}{id:Nat}{rows rows'}(h:NzR H id rows rows'):C rows=C rows'/\∀(i:Nat) (r'),rows'[i]?=N r'->∃r,rows[i]?=N r/\C r=C r'/\∀(k:Nat) (b:AV),r'[k]?=N b->∃a,r[k]?=N a/\Nz H id a b:=by
 rcases h with⟨rfl,f⟩|⟨r,r',rfl,rfl,e⟩
 .exact⟨Z,λi r' c=>⟨r',c,Z,λk b d=>⟨b,d,.same (f r' (m7 c) b (m7 d))⟩⟩⟩
 refine⟨Z,λi r2 c=>?_⟩;cases i with
 |zero =>
  have ⟨B,D⟩:=e.spec
  grind
 |succ i=>grind
def NzE(E:dG)(H:aF)(id:Nat):dG->Prop
 | []=>True
 |(t,v)::r=>(∃v0,E.get t=N v0/\Nz H id v0 v)/\NzE E H id r
theorem NzE.spec{E}{H}{id}:∀ {E'},NzE E H id E'->∀p∈E',∃v0,E.get p.1=N v0/\Nz H id v0 p.2
 |(t,v)::r,h,p,a=>by
  rcases l9.1 a with e|e
  .subst e;exact h.1
  exact NzE.spec h.2 p e
def NzH(H H2:aF)(id:Nat):aF->Prop
 | []=>True
 |(j,o')::r=>(∃o,H.get j=N o/\o.g=o'.g/\o.sz=o'.sz/\o.ty=o'.ty/\NzR H2 id o.rows o'.rows)/\NzH H H2 id r
theorem NzH.spec{H H2}{id}:∀ {H'},NzH H H2 id H'->∀p∈H',∃o,H.get p.1=N o/\o.g=p.2.g/\o.sz=p.2.sz/\o.ty=p.2.ty/\NzR H2 id o.rows p.2.rows
 |(j,o')::r,h,p,a=>by
  rcases l9.1 a with e|e
  .subst e;exact h.1
  exact NzH.spec h.2 p e
theorem cJ.nz{G0:aF}{E E':dG}(id sz ty:Nat)(P:H.get id=ζ)(τ:Nat.blt 0 sz=A)(hE:NzE E ((id,⟨0,sz,ty,[]⟩)::H') id E')(hH:NzH H ((id,⟨0,sz,ty,[]⟩)::H') id H')(hk:Iy ((id,⟨0,sz,ty,[]⟩)::H') H G0):
  cJ G0 E H E' ((id,⟨0,sz,ty,[]⟩)::H'):=by
 intro G hG i_ a w A_;obtain ⟨I,ι,hr,d_,he⟩:=A_.rel;obtain ⟨B,R⟩:=hr.adopt (sz:=sz) (ty:=ty) P (by simp_all);have c_:0<sz:=by simp_all
 have ⟨f,K⟩:∃f:mG,f=(λj=>if j=id then ζ else ι j):=X_;rw[<-K]at B R;have n:f id=ζ:=F_
 obtain ⟨x,s⟩:∃x:aF,x=(id,(⟨0,sz,ty,[]⟩:Ob))::H:=X_;obtain ⟨q,H4⟩:∃q:aF,q=(id,(⟨0,sz,ty,[]⟩:Ob))::H':=X_;rw[<-s]at B R;rw[<-H4]at hE hH hk |-;have g1:x.get id=N ⟨0,sz,ty,[]⟩:=by rw[s];simp[aF.get]
 have g2:q.get id=N ⟨0,sz,ty,[]⟩:=by rw[H4];simp[aF.get]
 have n1:∀j,j≠id->x.get j=H.get j:=λj e=>by rw[s];simp[aF.get,jX (Ne.symm e)]
 have n2:∀j,j≠id->q.get j=H'.get j:=λj e=>by rw[H4];simp[aF.get,jX (Ne.symm e)]
 have g:∀j l,q.get j=N l->∃o,x.get j=N o/\o.g=l.g/\o.sz=l.sz/\o.ty=l.ty/\NzR q id o.rows l.rows:=by
  intro j l p;by_cases e:j=id
  .subst e;rw[g2]at p;cases p;exact⟨_,g1,Z,Z,Z,.inl ⟨Z,by simp⟩⟩
  rw[n2 j e]at p;have ⟨o,m,u⟩:=hH.spec _ (eI p)
  simp_all
 have L:Cc x q:=λj l p=>by
  obtain ⟨o,m,u,e3,e4,e5⟩:=g j l p;exact⟨o,m,u,e3,e4,e5.spec.1⟩
 have Q:∀b,OW f q b->OW f x b:=by
  rintro b ⟨j,l,c,p,J3⟩;obtain ⟨o,m,_⟩:=g j l p;exact⟨j,o,c,m,J3⟩
 have D:Rel I f q w:=by
  refine⟨B.imm,λj l p=>?_,λj j' o l b c c' J y_=>?_,B.glob⟩
  .have ⟨o,m,u,e3,e4,e5⟩:=g j l p;have ⟨s1,s2⟩:=e5.spec;refine(B.obj j o m).keepG e3.symm e4.symm s1.symm (iy s1 (λi r' hi=>by
    obtain ⟨r,t1,t2,u_⟩:=s2 i r' hi;refine⟨r,t1,t2,λk a z_ h1 h2 y ts e=>?_⟩;obtain ⟨z,F,u2⟩:=u_ k z_ h2;rw[h1]at F;cases F;exact u2.raw e)) Z (λ_ _ _ _=>⟨Z,λh=>h⟩) (λi r' hi=>?_)
   obtain ⟨r,t1,t2,u_⟩:=s2 i r' hi;refine⟨r,t1,t2,λk a z_ h1 h2 v f_=>?_⟩;obtain ⟨y,F,u2⟩:=u_ k z_ h2;rw[h1]at F;cases F;exact VRel.nz L n g2 Z c_ u2 f_
  obtain ⟨v_,m,_⟩:=g j o J;obtain ⟨o2,u,_⟩:=g j' l y_;exact B.inj j j' v_ o2 b c c' m u
 have d:=d_.trans R;have o_:Step G.I G.ι G.H G.w I f q w:=by
  refine⟨d.os,d.tape,d.output,d.size,d.froz,d.imm,d.immNew,λb J3=>d.own b (Q b J3),d.keep,λj o J=>?_⟩;obtain ⟨v_,m,u⟩:=d.objs j o J;subst hG;have W:=hk.kept j (by rw[J];rfl);by_cases e:j=id
  .subst e;obtain ⟨o0,e0,_⟩:=d_.objs j o J;rw[P]at e0;cases e0
  rw[n1 j e]at m;exact⟨v_,W.trans m,u⟩
 refine⟨A_.defers,A_.size,I,f,D,o_,λt v f_=>?_⟩;have ⟨v0,f1,f2⟩:=hE.spec _ (iU f_);have ⟨c,c1,c2⟩:=he t v0 f1;exact⟨c,c1,VRel.nz L n g2 Z c_ f2 (c2.mono hr R)⟩
class W_(H:aF)(R:List (List AV)):Prop where o:∀r∈R,∀a∈r,Clo H a
theorem L_{G0 H H':aF}{E E':dG}(B:Iz E H' E':=by repeat' first|exact trivial|refine⟨⟨_,rfl,rfl⟩,?_,?_⟩|(simp;done)|(simp;rfl)|(simp;exact⟨rfl,rfl⟩))(D:fu H H' H':=by repeat' first|exact trivial|refine⟨⟨_,rfl,rfl⟩,?_,?_⟩|exact W_.o|(dsimp only;exact W_.o)|(simp;done)|(simp;rfl)|(simp;exact⟨rfl,rfl⟩)|(simp;exact⟨rfl,rfl,rfl⟩)|(simp;exact⟨rfl,rfl,rfl,rfl⟩)|(simp;exact⟨rfl,rfl,rfl,rfl,rfl⟩))(F:Iy H' H G0:=by repeat' first|exact trivial|refine⟨rfl,?_⟩):cJ G0 E H E' H':=cJ.wk B D F
theorem P_{G0 H H':aF}{r:AV}(c:Clo H' r:=by first|(simp;done)|(simp;rfl))(B:fu H H' H':=by repeat' first|exact trivial|refine⟨⟨_,rfl,rfl⟩,?_,?_⟩|exact W_.o|(dsimp only;exact W_.o)|(simp;done)|(simp;rfl)|(simp;exact⟨rfl,rfl⟩)|(simp;exact⟨rfl,rfl,rfl⟩)|(simp;exact⟨rfl,rfl,rfl,rfl⟩)|(simp;exact⟨rfl,rfl,rfl,rfl,rfl⟩))(D:Iy H' H G0:=by repeat' first|exact trivial|refine⟨rfl,?_⟩):Fin G0 H r H' r:=Fin.wk c B D
theorem Q_{G0 H H':aF}{E E':dG}(id sz ty:Nat)(P:H.get id=ζ:=by rfl)(B:Nat.blt 0 sz=A:=by rfl)(D:NzE E ((id,⟨0,sz,ty,[]⟩)::H') id E':=by repeat' first|exact trivial|refine⟨⟨_,rfl,(by first|exact Nz.own|exact Nz.same (by first|(simp;done)|(simp;rfl)|(simp;exact⟨rfl,rfl⟩)|(simp;exact⟨rfl,rfl,rfl⟩)))⟩,?_⟩)(F:NzH H ((id,⟨0,sz,ty,[]⟩)::H') id H':=by repeat' first|exact trivial|refine⟨⟨_,rfl,rfl,rfl,rfl,(by first|exact .inl ⟨rfl,(by first|exact W_.o|(dsimp only;exact W_.o)|(simp;done)|(simp;rfl)|(simp;exact⟨rfl,rfl⟩)|(simp;exact⟨rfl,rfl,rfl⟩)|(simp;exact⟨rfl,rfl,rfl,rfl⟩)|(simp;exact⟨rfl,rfl,rfl,rfl,rfl⟩))⟩|exact .inr ⟨_,_,rfl,rfl,(by repeat' first|exact trivial|refine⟨(by first|exact Nz.own|exact Nz.same (by first|(simp;done)|(simp;rfl)|(simp;exact⟨rfl,rfl⟩)|(simp;exact⟨rfl,rfl,rfl⟩))),?_⟩)⟩)⟩,?_⟩)(G:Iy ((id,⟨0,sz,ty,[]⟩)::H') H G0:=by repeat' first|exact trivial|refine⟨rfl,?_⟩):cJ G0 E H E' ((id,⟨0,sz,ty,[]⟩)::H'):=cJ.nz id sz ty P B D F G
end Go.Abs
namespace Go.Abs
open Go.Proofs.C
section
theorem Rz{H}(d:DataW H):1<=Rows.uptoBulk d:=by
 cases d with
 |lit l=>cases l<;>simp[Rows.uptoBulk]
 |_=>simp[Rows.uptoBulk]
theorem Sa{H}{d:DataW H}{l}(h:d∈l):Rows.uptoBulk d<=Rows.uptoBulkAll l:=by
 induction l with
 |nil=>cases h
 |cons x r B =>
  simp[Rows.uptoBulkAll]
  grind
theorem Sb{H}(l:List (DataW H)):C l<=Rows.uptoBulkAll l:=by
 induction l with
 |nil=>simp
 |cons x r B=>have:=Rz x;simp[Rows.uptoBulkAll,j6];omega
inductive PL(w:World)(I:Nat->Prop):List Value->List PV->Prop
 |nil:PL w I [] []
 |cons {c:Value} {p:PV} {cs:List Value} {ps:List PV} (h:PRep w I c p) (r:PL w I cs ps):PL w I (c::cs) (p::ps)
theorem PL.length{w}{I}{cs}{ps}(h:PL w I cs ps):C cs=C ps:=by
 induction h with
 |nil=>rfl
 |cons h r B=>grind
theorem PL.append{w}{I}{cs cs'}{ps a}(h:PL w I cs ps)(b:PL w I cs' a):PL w I (cs++cs') (ps++a):=by
 induction h with
 |nil=>exact b
 |cons h r c=>exact .cons h c
theorem PL.get{w}{I}{cs}{ps}(h:PL w I cs ps):∀(k:Nat) (c) (p),cs[k]?=N c->ps[k]?=N p->PRep w I c p:=by
 induction h with
 |nil=>simp_all
 |cons h r B =>
  grind
def JZ(P:Program):Nat->List Field->Nat->Bool
 |o,[],n=>Nat.beq o n
 |o,f::r,n=>Nat.beq f.offset o&&JZ P (o+P.cellsOf f.type) r n
def PK(P:Program)(e:TypeId):Nat->Nat->List Field
 |_,0=>[]
 |o,k+1=>⟨ "",e,o,η, "", "",0⟩::PK P e (o+P.cellsOf e) k
theorem OS{P}{e}:∀ {o k},C (PK P e o k)=k
 |_,0=>rfl
 |o,k+1=>congrArg _ (OS)
theorem ZW{P}{e}:∀ {k o i} {f},(PK P e o k)[i]?=N f->f.type=e/\f.offset=o+i*P.cellsOf e
 |0,o,i,f,h=>by cases h
 |k+1,o,0,f,h=>by
  obtain rfl:=Option.some.inj h
  simp_all
 |k+1,o,i+1,f,h=>by
  have:=ZW (show (PK P e _ k)[i]?=N f from h)
  grind
def EL(P:Program):Nat->TypeId->Bool
 |0,_=>η
 |n+1,t=>match P.underlying t with
  |some .bool=>A
  |some (.int _)=>A
  |some .string=>A
  |some (.slice e)=>EL P n e&&Nat.blt 0 (P.cellsOf e)
  |some (.struct fs)=>JZ P 0 fs.toList (P.cellsOf t)&&fs.toList.all λf=>EL P n f.type
  |some (.array k e)=>JZ P 0 (PK P e 0 k) (P.cellsOf t)&&(PK P e 0 k).all λf=>EL P n f.type
  |_=>η
def ShF(f_:TypeId->List PV->Prop)(c:TypeId->Nat):List Field->List PV->Prop
 | [],ps=>ps=[]
 |f::r,ps=>∃a b,ps=a++b/\C a=c f.type/\f_ f.type a/\ShF f_ c r b
def Sh(P:Program)(B:Nat):Nat->TypeId->List PV->Prop
 |0,_,_=>False
 |n+1,t,ps=>match P.underlying t with
  |some .bool=>∃b,ps=[.bool b]
  |some (.int k)=>∃i,ps=[.int k i]/\(Lit.int k i).wf=A
  |some .string=>∃s,ps=[.str s]/\s.size<=B
  |some (.slice e)=>∃rows,ps=[.sl rows]/\C rows<=B/\∀r∈rows,C r=P.cellsOf e/\Sh P B n e r
  |some (.struct fs)=>ShF (λt ps=>Sh P B n t ps) P.cellsOf fs.toList ps
  |some (.array k e)=>ShF (λt ps=>Sh P B n t ps) P.cellsOf (PK P e 0 k) ps
  |_=>False
abbrev Bx(W:World):Nat->Prop:=λb=>b<W.heap.size
theorem Ov{W}{a}{v}(h:W.cell? a=N v):a.spot=ζ/\Bx W a.block:=by
 unfold World.cell? at h
 split at h
 .next c t fr e =>
  refine⟨?_,(Array.getElem?_eq_some_iff.1 e).1⟩
  simp_all
 grind
section
variable{H:Type}{enc:TypeId×Value->H}{P:Program}{W:World}{B:Nat}
theorem ZK{P}:∀ {fs} {o n},JZ P o fs n=A->o<=n
 | [],o,n,h=>Nat.le_of_eq (Nat.eq_of_beq_eq_true h)
 |f::fs,o,n,h=>by
  simp[JZ,l7]at h;have:=ZK h.2;omega
theorem OI{m n:Nat}{cs:List Value}(p:∀(t:TypeId) (cs:List Value) (x),EL P n t=A->DataW.trod enc P W 0 (λ_=>A) A m t cs=N x->Rows.uptoBulk x.1<=B->∃ps,PL W (Bx W) cs ps/\Sh P B n t ps):
  ∀(fs:List Field) (xs:List _) (o:Nat),JZ P o fs (C cs)=A->(fs.all λf=>EL P n f.type)=A->C xs=C fs ->
   (∀(i:Nat) (f:Field),fs[i]?=N f->DataW.trod enc P W 0 (λ_=>A) A m f.type ((cs.drop f.offset).take (P.cellsOf f.type))=xs[i]?)->Rows.uptoBulkAll (xs.map (·.1))<=B ->
   ∃ps,PL W (Bx W) (cs.drop o) ps/\ShF (λt ps=>Sh P B n t ps) P.cellsOf fs ps
 | [],xs,o,c,_,l,d,j=>by
  have:o=C cs:=eq_of_beq_eq_true c;subst this;exact⟨[],by rw[drop_length];exact .nil,Z⟩
 |f::fs,[],o,c,_,l,d,j=>by grind
 | f::fs,x::xs,o,c,e,l,d,j=>by
  simp only[JZ,l7]at c;have r:f.offset=o:=eq_of_beq_eq_true c.1;simp only[all_cons,l7]at e;simp only[map_cons,Rows.uptoBulkAll]at j;have k:=d 0 f Z;rw[r]at k;have ⟨a,q,s⟩:=p f.type _ x e.1 k X;have ⟨b,w,u⟩:=OI p fs xs (o+P.cellsOf f.type) c.2 e.2 F_ (λi g v=>d (i+1) g v) X;have D:=ZK c.2;have h:C a=P.cellsOf f.type:=by
   rw[<-q.length,n_,q6];omega
  refine⟨a++b,?_,a,b,Z,h,s,u⟩;have:=q.append w
  rwa [<-drop_drop,take_append_drop]at this
theorem QF:∀(n:Nat) (t:TypeId),EL P n t=true->∀(m:Nat) (cs:List Value) (x:DataW H×List MemPlace),DataW.trod enc P W 0 (λ_=>true) true m t cs=some x->Rows.uptoBulk x.1<=B->∃ps,PL W (Bx W) cs ps/\Sh P B n t ps
 |0,t,y,m,cs,x,h,R=>by cases y
 | n + 1, t, y, m, cs, x, h, R => by
  unfold EL at y
  split at y
  ·next j =>
   obtain ⟨b,rfl,rfl⟩:=DataW.trod_bool j h;exact⟨[.bool b],.cons (.bool b) .nil,by unfold Sh;rw[j];exact⟨b,Z⟩⟩
  ·next k j =>
   obtain ⟨i,rfl,rfl,hw⟩:=DataW.trod_int j h;exact⟨[.int k i],.cons (.int k i) .nil,by unfold Sh;rw[j];exact⟨i,Z,hw⟩⟩
  ·next j =>
   obtain ⟨s,rfl,rfl,hs⟩:=DataW.trod_string j h;have d_:s.size<=B:=by
    have z_:s.data.toList.length=s.size:=Array.length_toList;simp only[Rows.uptoBulk]at R;omega
   exact⟨[.str s],.cons (.str s) .nil,by unfold Sh;rw[j];exact⟨s,Z,d_⟩⟩
  ·next e j =>
   simp only[l7,blt_eq]at y;obtain ⟨hpe,d_⟩:=y;rcases DataW.trod_slice j h with⟨rfl,rfl⟩|⟨a,u,f_,g,v_,K,rfl,rfl,rfl,_,hlc,hmax,hlen,J3,i_,_⟩
   ·exact⟨[.sl []],.cons .nilsl .nil,by unfold Sh;rw[j];exact⟨[],Z,by simp,by simp⟩⟩
   obtain ⟨hrl,i_⟩:=i_ Z;simp only[Rows.uptoBulk]at R;rcases Nat.eq_zero_or_pos f_ with hc0|hcpos
   ·have I:u=0:=by omega
    subst I hc0;exact⟨[.sl []],.cons (.empsl a) .nil,by unfold Sh;rw[j];exact⟨[],Z,by simp,by simp⟩⟩
   have e_:∃v,W.cell? a=some v:=by
    rcases Nat.eq_zero_or_pos u with I|hlp
    ·subst I;have G:=i_ 0 (by omega);have E:=List.getElem?_eq_getElem (l:=v_) (i:=0) (by omega);rw[E,Option.bind_eq_some_iff]at G;obtain ⟨c0,u_,_⟩:=G;obtain ⟨_,q2,q3⟩:=World.cells?_some u_;have:=q3 0 d_;simp only[Nat.add_zero,Nat.zero_mul]at this;rw[Addr.add_zero',Addr.add_zero',m_ (by omega)]at this;exact⟨_,this⟩
    have G:=J3 0 hlp;have E:=List.getElem?_eq_getElem (l:=g) (i:=0) (by omega);rw[E,Option.bind_eq_some_iff]at G;obtain ⟨c0,u_,_⟩:=G;obtain ⟨_,q2,q3⟩:=World.cells?_some u_;have:=q3 0 d_;simp only[Nat.zero_mul]at this;rw[Addr.add_zero',Addr.add_zero',m_ (by omega)]at this;exact⟨_,this⟩
   obtain ⟨v0,hv0⟩:=e_;obtain ⟨H4,F⟩:=Ov hv0;obtain ⟨b,z,sp⟩:=a;simp only at H4 F;subst H4;have Q:∀i,i<u->∃ps:List PV,∃w,W.cells? 0 (Addr.add ⟨b,z,none⟩ (i*P.cellsOf e)) (P.cellsOf e)=some w/\PL W (Bx W) w ps/\Sh P B n e ps:=by
    intro i D;have G:=J3 i D;have E:=List.getElem?_eq_getElem (l:=g) (i:=i) (by omega);rw[E,Option.bind_eq_some_iff]at G;obtain ⟨w,u_,q2⟩:=G;have hbi:Rows.uptoBulk (g[i]'(by omega)).1<=B:=by
     have:=Sa (mem_map_of_mem (f:=λx:DataW H×List MemPlace=>x.1) (getElem_mem (l:=g) (n:=i) X));omega
    obtain ⟨ps,s1,s2⟩:=QF n e hpe K w _ q2 hbi;exact⟨ps,w,u_,s1,s2⟩
   obtain ⟨d,r1,r2⟩:∃d:List (List PV),d.length=u/\∀i r,d[i]?=some r->∃w,W.cells? 0 (Addr.add ⟨b,z,none⟩ (i*P.cellsOf e)) (P.cellsOf e)=some w/\PL W (Bx W) w r/\Sh P B n e r:=by
    refine⟨(List.range u).map (λi=>if h:i<u then(Q i h).choose else[]),by simp,λi r q=>?_⟩
    grind
   have L:∀(i:Nat) (r:List PV),d[i]?=some r->r.length=P.cellsOf e:=λi r q=>by
    obtain ⟨w,y_,A_,c3⟩:=r2 i r q;rw[<-A_.length];exact(World.cells?_some y_).2.1
   refine⟨[.sl d],.cons ?_ .nil,by
    unfold Sh;rw[j];refine⟨d,Z,?_,λr q=>?_⟩
    ·have:=Sb (g.map (·.1));simp only[g_]at this;omega
    obtain ⟨i,D⟩:=s8.1 q;obtain ⟨w,y_,A_,c3⟩:=r2 i r D;exact⟨L i r D,c3⟩⟩
   rw[<-r1];have o:∀(i:Nat) (r:List PV),d[i]?=some r->∀(k:Nat) (p:PV),r[k]?=some p->∃v,W.cell? ⟨b,z+i*P.cellsOf e+k,none⟩=some v/\PRep W (Bx W) v p:=by
    intro i r q k p o_;obtain ⟨w,y_,A_,c3⟩:=r2 i r q;obtain ⟨_,d1,d2⟩:=World.cells?_some y_;have hkl:k<P.cellsOf e:=by rw[<-L i r q];exact(m9.1 o_).1
    have z_:=d2 k hkl;rw[Addr.add_lit,Addr.add_lit]at z_;have e2:w[k]?=some (w[k]'(by omega)):=m_ (by omega);exact⟨_,z_.trans e2,A_.get k _ p e2 o_⟩
   refine PRep.sl b z f_ (P.cellsOf e) d (λi k=>(W.cell? ⟨b,z+i*P.cellsOf e+k,none⟩).getD undef) F d_ (λr q=>?_) (by omega) (λi r q k p o_=>?_) (λi r q k p o_=>?_)
   ·obtain ⟨i,D⟩:=s8.1 q;exact L i r D
   ·obtain ⟨v,v1,v2⟩:=o i r q k p o_;simp[v1]
   obtain ⟨v,v1,v2⟩:=o i r q k p o_;simp[v1,v2]
  ·next fs j =>
   simp only[l7]at y;obtain ⟨xs,K,rfl,rfl,hl,c_,hf⟩:=DataW.trod_struct j h;simp only[Rows.uptoBulk]at R;obtain ⟨ps,p1,p2⟩:=OI (n:=n) (m:=K) (B:=B) (λt cs x a b c=>QF n t a K cs x b c) fs.toList xs 0 (by rw[hl];exact y.1) y.2 (by simpa using c_) (λi f D=>hf i f (by simpa using D)) X;exact⟨ps,by simpa using p1,by unfold Sh;rw[j];exact p2⟩
  ·next k e j =>
   simp only[l7]at y;obtain ⟨xs,K,rfl,rfl,hl,c_,hf⟩:=DataW.trod_array j h;simp only[Rows.uptoBulk]at R;obtain ⟨ps,p1,p2⟩:=OI (n:=n) (m:=K) (B:=B) (λt cs x a b c=>QF n t a K cs x b c) (PK P e 0 k) xs 0 (by rw[hl];exact y.1) y.2 (by rw[OS,c_]) (λi f D=>by
    obtain ⟨g1,g2⟩:=ZW D;have hlt:i<k:=by
     have:=(m9.1 D).1
     rwa [OS]at this
    rw[g1,g2,r8];exact hf i hlt) (by omega)
   exact⟨ps,by simpa using p1,by unfold Sh;rw[j];exact p2⟩
  grind
end
end
end Go.Abs
namespace Go.Abs
open Go.Proofs.C Go.ChangeShapes Go.WideShapes Go.ChangeAt Go.RowKit
variable{n base m k id k2 sz j:Nat}{t d:Tmp}{v:AV}{f:Func}{s:ChangeSpec}{c:Operand}{args:Array Value}{α:Type}{ops:Array Oper}{K:dG->aF->Prop}{rest:List Oper}{op:Op}{ty f_ off:TypeId}{pos:String}{af:Array Edge}{x y:Code}{b want:Bool}{vs r cs cells:List AV}{rows:List (List PV)}{dst:Option Tmp}{E L:dG}{H' H:aF}{o:Ob}
section
def Br(P:Program)(t:TypeId)(ps:List PV):AV :=match P.underlying t with
 |some (.struct _)=>.agg (ps.map .pv)
 |some (.array _ _)=>.agg (ps.map .pv)
 |_=>match ps with
  | [p]=>.pv p
  |_=>.any
section
variable{H:Type}{enc:TypeId×Value->H}{P:Program}{W:World}{B:Nat}
theorem PL.toV{I}{ι}{Hp}{cs}{ps}(h:PL W I cs ps)(i:Nat)(v)(a)(d:cs[i]?=N v)(b:(ps.map AV.pv)[i]?=N a):VRel W I ι Hp v a/\v.oneCell'=A:=by rw[r7]at b;obtain ⟨p,c,rfl⟩:=Option.map_eq_some_iff.1 b;have:=h.get i v p d c;exact⟨.pv this,this.oneCell⟩
theorem aEx{n}{t}{v}{base}(d:EL P n t=A)(b:Value.okWide P W .any base t v)(D:∀fs,P.underlying t=N (.struct fs)->False)(B:∀k e,P.underlying t=N (.array k e)->False):v.cells.toList=[v]:=by
 cases n with
 |zero=>cases d
 |succ n =>
  unfold EL at d;unfold Value.okWide at b
  split at d
  .next c=>cases v<;>first|rfl|(simp[Cell.okWide,Cell.ok,c]at b)
  .next k c=>cases v<;>first|rfl|(simp[Cell.okWide,Cell.ok,c]at b)
  .next c=>cases v<;>first|rfl|(simp[Cell.okWide,Cell.ok,c]at b)
  .next e c=>cases v<;>first|rfl|(simp[Cell.okWide,Cell.ok,c]at b)
  all_goals simp_all
theorem aA8{t:TypeId}{v:Value}{d:DataW H}{p:List MemPlace}(ι:mG)(Hp:aF)(x:EL P n t=true)(b:Value.okWide P W .any base t v)(h:DataW.Trod enc P W 0 (λ_=>true) true t v d p)(z:Rows.uptoBulk d<=B):
  ∃ps,Sh P B n t ps/\VRel W (Bx W) ι Hp v (Br P t ps):=by
 have ⟨m,H4⟩:=h;have ⟨ps,f,d_⟩:=QF (B:=B) n t x m _ _ H4 z;refine⟨ps,d_,?_⟩;unfold Br
 split
 ·next w s =>
  unfold Value.okWide at b;rw[s]at b;obtain ⟨y,rfl,_,_⟩:=b;have u:=f.length;simp only[Value.cells,Array.length_toList]at u;refine .agg (by simp_all) (λi v c=>?_) (λi v a c r=>?_)
  ·have l:=(Array.getElem?_eq_some_iff.1 c).1;exact(PL.toV (ι:=ι) (Hp:=Hp) f i v (.pv (ps[i]'(by omega))) (by simpa[Value.cells]using c) (by simp_all)).2
  exact(PL.toV f i v a (by simpa[Value.cells]using c) r).1
 ·next k e s =>
  unfold Value.okWide at b;rw[s]at b;obtain ⟨y,rfl,_,_⟩:=b;have u:=f.length;simp only[Value.cells,Array.length_toList]at u;refine .agg (by simp_all) (λi v c=>?_) (λi v a c r=>?_)
  ·have l:=(Array.getElem?_eq_some_iff.1 c).1;exact(PL.toV (ι:=ι) (Hp:=Hp) f i v (.pv (ps[i]'(by omega))) (by simpa[Value.cells]using c) (by simp_all)).2
  exact(PL.toV f i v a (by simpa[Value.cells]using c) r).1
 next o g =>
 split
 ·next q =>
  have j:=aEx x b (λw h=>o w h) (λk e h=>g k e h);rw[j]at f;exact(PL.toV f 0 _ _ Z Z).1
 exact .any v
def PJ(P:Program):List TypeId->List (List PV)->List AV
 |t::ts,p::ps=>Br P t p::PJ P ts ps
 |_,_=>[]
def ZZ(P:Program)(B n:Nat):List TypeId->List (List PV)->Prop
 | [],[]=>True
 |t::ts,p::ps=>Sh P B n t p/\ZZ P B n ts ps
 |_,_=>False
theorem Dr{n}{a}(h:ZZ P B n [] a):a=[]:=by
 cases a with
 |nil=>rfl
 |cons p ps=>exact h.elim
theorem SV{n}{t}{b}{a}(h:ZZ P B n (t::b) a):∃p ps,a=p::ps/\Sh P B n t p/\ZZ P B n b ps:=by
 cases a with
 |nil=>exact h.elim
 |cons p ps=>exact⟨p,ps,Z,h.1,h.2⟩
theorem ou{n}{base}(ι)(Hp):∀ {c} {e} {l} {p},DataW.TrodAll enc P W 0 (λ_=>A) A c e l p->c.all (EL P n)=A ->
  (∀(j:Nat) t v,c[j]?=N t->e[j]?=N v->Value.okWide P W .any base t v)->Rows.uptoBulkAll l<=B ->
  ∃b,ZZ P B n c b/\C e=C (PJ P c b)/\∀(i:Nat) (v) (a),e[i]?=N v->(PJ P c b)[i]?=N a->VRel W (Bx W) ι Hp v a
 | [],e,l,p,h,k,m,o=>by
  obtain ⟨rfl,rfl,rfl⟩:=trodAll_nil h;exact⟨[],T_,Z,λi v a h=>by grind⟩
 |t::c,e,l,p,h,k,m,o=>by
  obtain ⟨v,vs',d,ds',p1,p2,rfl,rfl,rfl,g,f⟩:=trodAll_cons h;simp only[all_cons,l7]at k;simp[Rows.uptoBulkAll]at o;obtain ⟨r,x,u⟩:=aA8 (B:=B) _ _ k.1 (m 0 t v Z Z) g X;obtain ⟨b,q,w,s⟩:=ou _ _ f k.2 (λj t v g f=>m (j+1) t v g f) X;refine⟨r::b,⟨x,q⟩,by simp[PJ,w],λi v a g f=>?_⟩;cases i with
  |zero=>cases g;cases f;exact u
  |succ i=>exact s i v a g f
theorem Wz(ι)(W)(a:WA (Bx W) W):Rel (Bx W) ι [] W:=⟨λ_ h=>h,λ_ _ h=>(by cases h),λ_ _ _ _ _ _ _ h=>(by cases h),a⟩
theorem vv{I d}{ι a}{H'}{w w'}(h:Step I ι [] w d a H' w'):Below w.heap.size w w' :=⟨h.os,h.tape,h.output,h.size,λk b=>h.keep k b (λ⟨_,_,_,c,_⟩=>by cases c)⟩
theorem VQ(m:laidOutB P=A){k:World}(l:Below W.heap.size W k){j}:∀ {f} {g} {e} {p},DataW.TrodAll enc P W 0 (λ_=>A) A f g e p ->
  (f.all λt=>P.readableRec t&&Nat.blt t P.types.size)=A->(∀x∈p,x.block<W.heap.size)->(∀x∈p,j x.block=A)->DataW.TrodAll enc P k 0 j A f g e p
 | [],g,e,p,h,c,a,b=>by
  obtain ⟨rfl,rfl,rfl⟩:=trodAll_nil h;exact trodAll_mk0
 | t::f,g,e,p,h,c,a,b=>by
  obtain ⟨v,D,d,B,p1,p2,rfl,rfl,rfl,o,n⟩:=trodAll_cons h;simp only[all_cons,l7,blt_eq]at c;exact trodAll_cons_mk (WideElems.Trod_stays m c.1.1 c.1.2 o (λx i=>l.same (a x G_)) (λx i=>b x G_))
   (VQ m l n c.2 (λx i=>a x G_) (λx i=>b x G_))
theorem rr{g m c l:Bool}{W n:World}{v:Value}{q x:List (DataW H)}{a pa pv:List MemPlace}
  (y:DataW.Whole enc P f.params.toList s.vars g W args.toList q x a)
  (h:∀(b:Nat) (k:Nat->Bool) (G:Bool),DataW.TrodAll enc P n b k G f.resultTypes.toList (v.resultList f.resultTypes.size) (s.fn H (q++x)).results [])
  (e:∀k:Nat->Bool,(∀p∈a,k p.block=A)->DataW.TrodAll enc P n 0 k A f.params.toList args.toList (s.fn H (q++x)).args pa)
  (d:∀k:Nat->Bool,(∀p∈a,k p.block=A)->DataW.TrodVars enc P n k s.vars (s.fn H (q++x)).vars pv)
  (F:a=pa++pv) (D:Below W.heap.size W n)
  (z:∀(j:Nat) (t:TypeId) (r:Value),f.resultTypes[j]?=N t->(v.resultList f.resultTypes.size)[j]?=N r->Value.okWide P n .any 0 t r) :
  s.post enc P f g m c l W args v n:=by
 have B:∀p∈a,p.block<W.heap.size:=λp o=>y.lt p o;have i:∀p∈a,(λb=>θ (b<W.heap.size)) p.block=A:=λp o=>by simp_all
 refine⟨q,x,a,[],pa,pv,y,h _ _ _,e _ i,d _ i,World.keptBut_mono (λp o=>⟨o,?_⟩) (D.frame (·∈a)),λ_=>?_⟩
 .simp_all
 have ⟨_,_,_,_,_,E,I⟩:=y;refine⟨z,_,_,([]++pa)++pv,⟨[]++pa,pv,trodAll_append (e _ (λ_ _=>rfl)) (h _ _ _),d _ (λ_ _=>rfl),Z,?_,?_⟩,?_⟩
 .intro b w o;have u:MemPlace.cell b w∈a:=by rw[F];simpa using o
  rw[D.frozen (B _ u)];exact E b w u
 all_goals simp_all
theorem Px{b:FuncId}{k d_ c H4:Bool}{h gs:List (DataW H)}{m:List MemPlace}{J:TypeId}
  (hl:laidOutB P=A) (w:(f.params.toList.all λt=>P.readableRec t&&Nat.blt t P.types.size)=A) (l:f.params.toList.all (EL P n)=A) (g:s.vars=[])
  (F:∀h:List (DataW H),C h=C f.params.toList->(s.fn H h).results=[.lit (.bool A)]/\(s.fn H h).args=h/\(s.fn H h).vars=[])
  (z:f.resultTypes=#[J]) (G:P.underlying J=N .bool)
  (u:∀(j:Nat) t v,f.params[j]?=N t->args[j]?=N v->Value.okWide P W .any base t v)
  (J3:DataW.Whole enc P f.params.toList s.vars k W args.toList h gs m) (f_:Rows.uptoBulkAll h<=B)
  (v_:∀o,ZZ P B n f.params.toList o->aU P b (PJ P f.params.toList o) [] (λr H'=>r=.pv (.bool A)/\H'=[])) (hg:WA (Bx W) W:=by exact λp hp=>by cases hp) :
  Calls P b args W λe y_=>∃v,e=.returned v/\s.post enc P f k d_ c H4 W args v y_:=by
 have D:=J3;obtain ⟨p,q,E,L,rfl,i_,e_⟩:=J3;rw[g]at L;obtain ⟨rfl,rfl⟩:=trodVars_none L;have ⟨o,z_,h2,A_⟩:=ou (B:=B) (base:=base) (λ_=>ζ) [] E l (λj t v ht R=>u j t v F_ F_) f_;have τ:C h=C f.params.toList:=by
  clear z_ h2 A_ v_ F w l u D f_ i_ e_;revert E;generalize f.params.toList=u_;generalize args.toList=vs;intro E;clear L
  induction u_ generalizing vs h p with
  |nil=>obtain ⟨_,rfl,_⟩:=trodAll_nil E;rfl
  |cons t u_ ih =>
   obtain ⟨v,ρ,d,σ,p1,p2,_,rfl,_,_,h2⟩:=trodAll_cons E
   grind
 refine(v_ o z_ (Bx W) (λ_=>ζ) W args (Wz _ W hg) X (λi v a ha hb=>A_ i v a F_ hb)).mono ?_;rintro e y_ ⟨r,H',I',ι',v,rfl,⟨rfl,rfl⟩,R,hr,K⟩;have o_:v=.bool A:=R.bool_inv;subst o_;have y:=vv K;have ⟨f1,f2,f3⟩:=F (h++[]) F_;refine⟨_,Z,rr (pa:=p) (pv:=[]) D (λb Q hd=>?_) (λQ I=>?_) (λQ I=>?_) Z y (ok_one z Z (okWide_bool_mk G _))⟩
 .rw[f1,z];exact trodAll_cons_mk (shut_bool G _) trodAll_mk0
 .rw[f2,append_nil];exact VQ hl y E w (λx hx=>D.lt x G_) (λx hx=>I x G_)
 rw[f3,g];rfl
theorem aBn{n}{t}{ps}(D:P.underlying t=N .string)(h:Sh P B (n+1) t ps):∃s,ps=[.str s]/\s.size<=B:=by unfold Sh at h;simp_all
theorem Wm{t e}{ps}{f}{D:α->Prop}(j:P.underlying t=N (.slice e))(h:Sh P B (n+1) t ps)(E:∀r,Sh P B n e r->∃a,r=f a/\D a):
  ∃l:List α,ps=[.sl (l.map f)]/\C l<=B/\∀a,a∈l->D a:=by
 unfold Sh at h;rw[j]at h;obtain ⟨c,rfl,d,g⟩:=h;have ⟨l,k,m⟩:∃l:List α,c=l.map f/\∀a,a∈l->D a:=by
  clear d
  induction c with
  |nil=>simp_all
  |cons r rs i =>
   have ⟨l,k,m⟩:=i (λr h=>g r (by simp[h]));have ⟨a,F,G⟩:=E r (g r H_).2;refine⟨a::l,F_,λb H=>?_⟩
   grind
 grind
end
end
section
section
variable{P:Program}{G0:aF}{i_:Nat}{o:Oper}{H H2:aF}{Q:Exit->dG->aF->Prop}{J3 e t t':TypeId}{x y:Operand}{id g i:Nat}{ob:Ob}
theorem Y(h:cQ P i_ ⟨N d,op,ty,pos,af,ζ⟩ E H v H2)(B:AL P G0 i_ ops K rest ((d,v)::E) H2)(D:Nat.blt d i_=A:=by rfl):AL P G0 i_ ops K (⟨N d,op,ty,pos,af,ζ⟩::rest) E H:=wg Z Z D h B
theorem Uu(h:cQ P i_ ⟨ζ,op,ty,pos,af,ζ⟩ E H v H2)(B:AL P G0 i_ ops K rest E H2):AL P G0 i_ ops K (⟨ζ,op,ty,pos,af,ζ⟩::rest) E H:=aGm Z Z h B
theorem S{x y:Code}(h:gK P G0 i_ x (zX (gK P G0 i_ y Q) Q) E H):gK P G0 i_ (.seq x y) Q E H:=MR h
theorem Rg(h:AL P G0 i_ ops (λE H=>Q .normal E H) ops.toList E H):gK P G0 i_ (.region id ops η) Q E H:=EB h
theorem Zz(h:K E H):AL P G0 i_ ops K [] E H:=we h
theorem aA(B:o.op=.move x:=by rfl)(D:aR E x=N v:=by rfl):cQ P i_ o E H v H:=iC B D
theorem aH(B:o.op=.assign x:=by rfl)(D:aR E x=N v:=by rfl):cQ P i_ o E H v H:=yW B D
theorem Sr{y:Code}(h:AL P G0 i_ ops (λE H=>zX (gK P G0 i_ y Q) Q .normal E H) ops.toList E H):gK P G0 i_ (.seq (.region id ops η) y) Q E H:=S (Rg h)
theorem Dm(B:AL P G0 i_ ops K rest ((d,v)::E) H)(F:op=.move x:=by rfl)(G:aR E x=N v:=by rfl)(D:Nat.blt d i_=A:=by rfl):AL P G0 i_ ops K (⟨N d,op,ty,pos,af,ζ⟩::rest) E H:=Y (iC F G) B D
theorem Da(B:K ((d,v)::E) H)(F:op=.assign x:=by rfl)(G:aR E x=N v:=by rfl)(D:Nat.blt d i_=A:=by rfl):AL P G0 i_ ops K [⟨N d,op,ty,pos,af,ζ⟩] E H:=Y (yW F G) (Zz B) D
theorem Kr{a b:Prop}(h:b)(B:a:=by kernel_rfl):a/\b:=⟨B,h⟩
theorem Qq{β:Type}{a:α}{b:β}:a=a/\b=b:=⟨Z,Z⟩
theorem Pu{f:FuncId}{args:List AV}{B:AV}(h:aU P f args [] (λr H=>r=B/\H=[]))(D:∀a∈args,Clo [] a:=by simp):aU P f args H (λr H'=>r=B/\H'=H):=aU.pure h D H
theorem dK(B:o.op=.extract x n:=by rfl)(F:aR E x=N (.tup vs):=by rfl)(D:vs[n]?=N v:=by rfl):cQ P i_ o E H v H:=wE B F D
theorem bC{f:Nat}(B:cF P f_ f off)(I:o.op=.fieldAddr f_ x f:=by rfl)(J:aR E x=N (.ref id g i k):=by rfl)(D:H.get id=N ob:=by rfl)(F:ob.g=g:=by rfl)(G:k+off=k2:=by rfl):cQ P i_ o E H (.ref id g i k2) H:=oV I B J D F G
theorem bT(D:∀w,(isAgg J3).run P w=.ok η w)(I:o.op=.load J3 x:=by rfl)(J:aR E x=N (.ref id g i k):=by rfl)(B:H.get id=N ob:=by rfl)(F:ob.g=g:=by rfl)(hi:ob.rows[i]?=N r:=by rfl)(G:r[k]?=N v:=by rfl):cQ P i_ o E H v H:=aX I D J B F hi G
theorem xB(D:∀w,(isAgg J3).run P w=.ok A w)(K:∀w,(sizeOf J3).run P w=.ok n w)(J:o.op=.load J3 x:=by rfl)(L:aR E x=N (.ref id g i k):=by rfl)(B:H.get id=N ob:=by rfl)(F:ob.g=g:=by rfl)(hi:ob.rows[i]?=N r:=by rfl)(G:(r.drop k).take n=cs:=by rfl)(I:C cs=n:=by rfl):cQ P i_ o E H (.agg cs) H:=aW J D K L B F hi G I
theorem jH(K:∀w,(sizeOf J3).run P w=.ok n w)(J:o.op=.store J3 x y:=by rfl)(L:aR E x=N (.ref id g 0 0):=by rfl)(Q:aR E y=N v:=by rfl)(D:RY v=N cells:=by rfl)(I:C cells=n:=by rfl)(B:H.get id=N ob:=by rfl)(F:ob.g=g:=by rfl)(hi:ob.rows=[r]:=by rfl)(G:C r=n:=by rfl):cQ P i_ o E H .any ((id,⟨g,ob.sz,ob.ty,[cells]⟩)::H):=mH J K L Q D I B F hi G
theorem fP(D:P.underlying J3=N (.slice e))(B:o.op=.call {callee:=.builtin .len,args:=#[x],argTypes:=#[J3]}:=by rfl)(F:aR E x=N (.pv (.sl rows)):=by rfl):cQ P i_ o E H (.pv (.int .i64 (C rows))) H:=lK B D F
theorem jA{r:List PV}{kk:IntKind}{n:Int}(D:fQ P J3 e sz)(I:o.op=.indexAddr J3 x y:=by rfl)(J:aR E x=N (.pv (.sl rows)):=by rfl)(K:aR E y=N (.pv (.int kk n)):=by rfl)(B:0<=n:=by omega)(G:n.toNat=m:=by exact l_ _)(hi:rows[m]?=N r:=by assumption)(F:C r=sz:=by rfl):cQ P i_ o E H (.pad rows m 0) H:=bQ I D J K B G hi F
theorem oU{B:Array (Nat×Operand)}{places:List (Nat×Nat)}{l0 l:List AV}{aps:List (Nat×AV)}(D:kH P J3 places l0)(G:o.op=.build J3 B:=by rfl)(I:qZ E B.toList=N aps:=by rfl)(F:EG (λi=>places[i]?) l0 aps=N l:=by rfl):cQ P i_ o E H (.agg l) H:=QB G D I F
theorem cH{k:IntKind}{n m:Int}(B:o.op=.binOp .lss t x y t':=by rfl)(D:aR E x=N (.pv (.int k n)):=by rfl)(F:aR E y=N (.pv (.int k m)):=by rfl):cQ P i_ o E H (.pv (.bool (θ (n<m)))) H:=iL B D F
theorem cI{k:IntKind}{n m:Int}(B:o.op=.binOp .eql t x y t':=by rfl)(D:aR E x=N (.pv (.int k n)):=by rfl)(F:aR E y=N (.pv (.int k m)):=by rfl):cQ P i_ o E H (.pv (.bool (θ (n=m)))) H:=oE B D F
theorem Cq{ops:List Oper}{K:List Rec->dG->aF->Prop}(h:cQ P i_ ⟨dst,op,ty,pos,af,ζ⟩ (restr E (jI ops ⟨dst,op,ty,pos,af,ζ⟩)) H v H)(D:DC P i_ ops rest (nX E dst v) H (λrs E' H'=>K (⟨v,ζ,[]⟩::rs) E' H'))(B:jL i_ dst=A:=by rfl):DC P i_ ops (⟨dst,op,ty,pos,af,ζ⟩::rest) E H K:=iQ (DStep.q Z h) B D
theorem Cp{ops:List Oper}{K:List Rec->dG->aF->Prop}(R:List Nat){w:Nat×Ob}(h:∀H1:aF,(∀id,uO (N R) id=A->H1.get id=H.get id)->cQ P i_ ⟨dst,op,ty,pos,af,ζ⟩ (restr E (jI ops ⟨dst,op,ty,pos,af,ζ⟩)) H1 v (w::H1))(D:DC P i_ ops rest (nX E dst v) (w::H) (λrs E' H'=>K (⟨v,N R,[w]⟩::rs) E' H'))(B:jL i_ dst=A:=by rfl):DC P i_ ops (⟨dst,op,ty,pos,af,ζ⟩::rest) E H K:=iQ (r:=⟨v,N R,[w]⟩) (DStep.plain Z h) B D
theorem Cr{ops:List Oper}{K:List Rec->dG->aF->Prop}(R:List Nat)(h:∀H1:aF,(∀id,uO (N R) id=A->H1.get id=H.get id)->cQ P i_ ⟨dst,op,ty,pos,af,ζ⟩ (restr E (jI ops ⟨dst,op,ty,pos,af,ζ⟩)) H1 v H1)(D:DC P i_ ops rest (nX E dst v) H (λrs E' H'=>K (⟨v,N R,[]⟩::rs) E' H'))(B:jL i_ dst=A:=by rfl):DC P i_ ops (⟨dst,op,ty,pos,af,ζ⟩::rest) E H K:=iQ (r:=⟨v,N R,[]⟩) (DStep.plain Z h) B D
theorem x_{ops:List Oper}{K:List Rec->dG->aF->Prop}(h:∀{H1:aF},cQ P i_ ⟨dst,op,ty,pos,af,ζ⟩ (restr E (jI ops ⟨dst,op,ty,pos,af,ζ⟩)) H1 v H1)(D:DC P i_ ops rest (nX E dst v) H (λrs E' H'=>K (⟨v,N [],[]⟩::rs) E' H'))(B:jL i_ dst=A:=by rfl):DC P i_ ops (⟨dst,op,ty,pos,af,ζ⟩::rest) E H K:=Cr [] (λ_ _=>h) D B
theorem Cs{ops:List Oper}{K:List Rec->dG->aF->Prop}(h:∀H1:aF,(∀id,uO ζ id=A->H1.get id=H.get id)->cQ P i_ ⟨dst,op,ty,pos,af,ζ⟩ (restr E (jI ops ⟨dst,op,ty,pos,af,ζ⟩)) H1 v H1)(D:DC P i_ ops rest (nX E dst v) H (λrs E' H'=>K (⟨v,ζ,[]⟩::rs) E' H'))(B:jL i_ dst=A:=by rfl):DC P i_ ops (⟨dst,op,ty,pos,af,ζ⟩::rest) E H K:=iQ (r:=⟨v,ζ,[]⟩) (DStep.plain Z h) B D
theorem Ot{ops:List Oper}{K:List Rec->dG->aF->Prop}{t:Tmp}(G:DC P i_ ops rest (nX E dst (.tup [])) H (λrs E' H'=>K (⟨.tup [],N [],[]⟩::rs) E' H'))(F:kD ops j=N t:=by rfl)(B:E.get t=N (.pv (.bool b)):=by rfl)(I:b=η:=by first|rfl|assumption)(D:jL i_ dst=A:=by rfl):DC P i_ ops (⟨dst,op,ty,pos,af,N (j,A)⟩::rest) E H K:=iQ (Xi Z F B I) D G
theorem Of{ops:List Oper}{K:List Rec->dG->aF->Prop}{t:Tmp}(G:DC P i_ ops rest (nX E dst (.tup [])) H (λrs E' H'=>K (⟨.tup [],N [],[]⟩::rs) E' H'))(F:kD ops j=N t:=by rfl)(B:E.get t=N (.pv (.bool b)):=by rfl)(I:b=A:=by first|rfl|assumption)(D:jL i_ dst=A:=by rfl):DC P i_ ops (⟨dst,op,ty,pos,af,N (j,η)⟩::rest) E H K:=iQ (Xj Z F B I) D G
theorem Ou{ops:List Oper}{K:List Rec->dG->aF->Prop}{t:Tmp}{w:Bool}(G:DC P i_ ops rest (nX E dst (.tup [])) H (λrs E' H'=>K (⟨.tup [],N [],[]⟩::rs) E' H'))(F:kD ops j=N t:=by rfl)(B:E.get t=N (.tup []):=by rfl)(D:jL i_ dst=A:=by rfl):DC P i_ ops (⟨dst,op,ty,pos,af,N (j,w)⟩::rest) E H K:=iQ (Xh Z F B) D G
theorem O{t:Tmp}(h:cQ P i_ ⟨N d,op,ty,pos,af,N (j,want)⟩ E H v H2)(F:AL P G0 i_ ops K rest ((d,v)::E) H2)(D:kD ops.toList j=N t:=by rfl)(B:E.get t=N (.pv (.bool b)):=by rfl)(I:b=want:=by rfl)(G:Nat.blt d i_=A:=by rfl):AL P G0 i_ ops K (⟨N d,op,ty,pos,af,N (j,want)⟩::rest) E H:=Tm Z D B I Z G h F
theorem M{t:Tmp}(G:AL P G0 i_ ops K rest (nX E dst (.tup [])) H)(F:kD ops.toList j=N t:=by rfl)(B:E.get t=N (.pv (.bool b)):=by rfl)(I:b=!want:=by rfl)(D:jL i_ dst=A:=by rfl):AL P G0 i_ ops K (⟨dst,op,ty,pos,af,N (j,want)⟩::rest) E H:=Tn Z F B I D G
theorem Oa{t:Tmp}(h:cQ P i_ ⟨N d,op,ty,pos,af,N (j,want)⟩ E H v H2)(F:AL P G0 i_ ops K rest ((d,v)::E) H2)(D:kD ops.toList j=N t:=by rfl)(B:E.get t=N (.pv (.bool b)):=by rfl)(I:b=want:=by assumption)(G:Nat.blt d i_=A:=by rfl):AL P G0 i_ ops K (⟨N d,op,ty,pos,af,N (j,want)⟩::rest) E H:=Tm Z D B I Z G h F
theorem Fa{t:Tmp}(G:AL P G0 i_ ops K rest (nX E dst (.tup [])) H)(F:kD ops.toList j=N t:=by rfl)(B:E.get t=N (.pv (.bool b)):=by rfl)(I:b=!want:=by assumption)(D:jL i_ dst=A:=by rfl):AL P G0 i_ ops K (⟨dst,op,ty,pos,af,N (j,want)⟩::rest) E H:=Tn Z F B I D G
section
variable{R:Option (List Nat)}{H1:aF}
theorem fh{f:Nat}(B:cF P f_ f off)(h:∀id,uO R id=A->H1.get id=H.get id)(J:o.op=.fieldAddr f_ x f:=by rfl)(K:aR E x=N (.ref id g i k):=by rfl)(I:uO R id=A:=by rfl)(D:H.get id=N ob:=by rfl)(F:ob.g=g:=by rfl)(G:k+off=k2:=by rfl):cQ P i_ o E H1 (.ref id g i k2) H1:=oV J B K ((h _ I).trans D) F G
theorem lh(D:∀w,(isAgg J3).run P w=.ok η w)(h:∀id,uO R id=A->H1.get id=H.get id)(J:o.op=.load J3 x:=by rfl)(K:aR E x=N (.ref id g i k):=by rfl)(I:uO R id=A:=by rfl)(B:H.get id=N ob:=by rfl)(F:ob.g=g:=by rfl)(hi:ob.rows[i]?=N r:=by rfl)(G:r[k]?=N v:=by rfl):cQ P i_ o E H1 v H1:=aX J D K ((h _ I).trans B) F hi G
end
section
variable{k:IntKind}{n m:Int}{s u:B_}{r:List PV}{i j q f F:Nat}
theorem iJ(B:o.op=.unOp .not t x:=by rfl)(D:aR E x=N (.pv (.bool b)):=by rfl):cQ P i_ o E H (.pv (.bool (!b))) H:=Yf B D
theorem xN(B:o.op=.binOp .neq t x y t':=by rfl)(D:aR E x=N (.pv (.int k n)):=by rfl)(F:aR E y=N (.pv (.int k m)):=by rfl):cQ P i_ o E H (.pv (.bool (!θ (n=m)))) H:=LB B D F
theorem jB(B:o.op=.binOp .gtr t x y t':=by rfl)(D:aR E x=N (.pv (.int k n)):=by rfl)(F:aR E y=N (.pv (.int k m)):=by rfl):cQ P i_ o E H (.pv (.bool (θ (m<n)))) H:=LF B D F
theorem HV(B:o.op=.binOp .leq t x y t':=by rfl)(D:aR E x=N (.pv (.int k n)):=by rfl)(F:aR E y=N (.pv (.int k m)):=by rfl):cQ P i_ o E H (.pv (.bool (θ (n<=m)))) H:=pF B D F
theorem AU(B:o.op=.binOp .geq t x y t':=by rfl)(D:aR E x=N (.pv (.int k n)):=by rfl)(F:aR E y=N (.pv (.int k m)):=by rfl):cQ P i_ o E H (.pv (.bool (θ (m<=n)))) H:=kC B D F
theorem wV(B:o.op=.binOp .eql t x y t':=by rfl)(D:aR E x=N (.pv (.str s)):=by rfl)(F:aR E y=N (.pv (.str u)):=by rfl):cQ P i_ o E H (.pv (.bool (θ (s=u)))) H:=yV B D F
theorem FD(B:o.op=.binOp .neq t x y t':=by rfl)(D:aR E x=N (.pv (.str s)):=by rfl)(F:aR E y=N (.pv (.str u)):=by rfl):cQ P i_ o E H (.pv (.bool (!θ (s=u)))) H:=TS B D F
theorem iF(B:o.op=.binOp .add t x y t':=by rfl)(F:aR E x=N (.pv (.int .i64 n)):=by rfl)(G:aR E y=N (.pv (.int .i64 m)):=by rfl){r:Int}(D:ξ.wrap (n+m)=r:=by exact mI (by omega) (by omega)):cQ P i_ o E H (.pv (.int .i64 r)) H:=dD B F G D
theorem F2{B:Nat}(D:cF P f_ f off)(G:o.op=.fieldAddr f_ x f:=by rfl)(I:aR E x=N (.pad rows i q):=by rfl)(F:q+off=B:=by rfl):cQ P i_ o E H (.pad rows i B) H:=WT G D I F
theorem fK{p:PV}(B:∀w,(isAgg J3).run P w=.ok η w)(F:o.op=.load J3 x:=by rfl)(G:aR E x=N (.pad rows i q):=by rfl)(hi:rows[i]?=N r:=by first|assumption|omega)(D:r[q]?=N p:=by rfl):cQ P i_ o E H (.pv p) H:=eG F B G hi D
theorem DI(F:o.op=.pick c x y:=by rfl)(D:aR E c=N (.pv (.bool b)):=by rfl)(B:b=A:=by assumption)(G:aR E x=N v:=by rfl):cQ P i_ o E H v H:=Ew F D B G
theorem tB(F:o.op=.pick c x y:=by rfl)(D:aR E c=N (.pv (.bool b)):=by rfl)(B:b=η:=by assumption)(G:aR E y=N v:=by rfl):cQ P i_ o E H v H:=Ex F D B G
theorem cE(D:o.op=.pick c x y:=by rfl)(B:aR E c=N (.pv (.bool b)):=by rfl)(F:aR E (if b then x else y)=N v:=by rfl):cQ P i_ o E H v H:=FN D B F
theorem gQ(D:P.underlying J3=N .string)(B:o.op=.call {callee:=.builtin .len,args:=#[x],argTypes:=#[J3]}:=by rfl)(F:aR E x=N (.pv (.str s)):=by rfl):cQ P i_ o E H (.pv (.int .i64 s.size)) H:=O6 B D F
theorem pQ{q:Nat}(F:o.op=.nilCheck x:=by rfl)(G:aR E x=N (.ref id g i q):=by rfl)(B:H.get id=N ob:=by rfl)(D:ob.g=g:=by rfl):cQ P i_ o E H (.ref id g i q) H:=cT F G B D
end
section
variable{G0:aF}{fn:Func}{Q:AV->aF->Prop}{q:Exit}{r r1 r2:AV}{t1 t2:Tmp}
theorem Rt(F:Q r [])(D:fn.results=#[.tmp t1]:=by rfl)(G:E.get t1=some r:=by rfl)(B:Clo [] r:=by simp):OX P fn [] Q .ret E H:=cR (.inr Z) D (aI G) (Fin.wk B T_ T_) F
theorem Ru(F:Q (.tup [r1,r2]) [])(D:fn.results=#[.tmp t1,.tmp t2]:=by rfl)(G:E.get t1=some r1:=by rfl)(I:E.get t2=some r2:=by rfl)(B:Clo [] (.tup [r1,r2]):=by simp):OX P fn [] Q .ret E H:=gH (.inr Z) D (aI G) (aI I) (Fin.wk B T_ T_) F
theorem DD{J3:TypeId}{i:Nat}(D:∀w,(isAgg J3).run P w=.ok A w)(J:∀w,(sizeOf J3).run P w=.ok n w)(K:E.get t1=N (.ref id g i k):=by rfl)(B:H.get id=N ob:=by rfl)(F:ob.g=g:=by rfl)(hi:ob.rows[i]?=N cells:=by rfl)(G:(cells.drop k).take n=cs:=by rfl)(I:C cs=n:=by rfl):P8 P E H (.cell t1 J3) (.agg cs):=fJ K D J B F hi G I
theorem Bd{f:FuncId}{c:Code}{args:List AV}(F:P.funcs[f]?=N fn)(E:fn.body=N c)(D:fn.ntmps=i_)(h:gK P H i_ c (OX P fn H Q) (oT args) H)(B:C args<=i_:=by exact r_ Z):aU P f args H Q:=aU.body F E D B h
end
section
variable{Q:Exit->dG->aF->Prop}{E':dG}
theorem Cn{x y:Code}(B:b=A->gK P G0 i_ x Q E H)(D:b=η->gK P G0 i_ y Q E H)(F:aR E c=N (.pv (.bool b)):=by rfl):gK P G0 i_ (.cond c x y) Q E H:=Ta F B D
theorem Sp(t:Tmp){l:List Oper}(B:b=A->AL P G0 i_ ops K l ((t,.pv (.bool A))::E) H)(D:b=η->AL P G0 i_ ops K l ((t,.pv (.bool η))::E) H)(F:E.get t=N (.pv (.bool b)):=by rfl):AL P G0 i_ ops K l E H:=Tl F B D
theorem Wk(B:Iz E H' E':=by repeat' first|exact trivial|refine⟨⟨_,Z,Z⟩,?_,?_⟩|(simp;done)|(simp;rfl))(D:fu H H' H':=by repeat' first|exact trivial|refine⟨⟨_,Z,Z⟩,?_,?_⟩|(simp;done)|(simp;rfl))(F:Iy H' H G0:=by repeat' first|exact trivial|refine⟨Z,?_⟩):cJ G0 E H E' H':=cJ.wk B D F
theorem E0(h:Uc E E':=by repeat' first|exact trivial|refine⟨⟨_,Z,Z⟩,?_⟩):cJ G0 E H E' H:=cJ.e0 h
theorem Fu{t:Tmp}(G:AL P G0 i_ ops K rest (nX E dst (.tup [])) H)(F:kD ops.toList j=N t:=by rfl)(B:E.get t=N (.tup []):=by rfl)(D:jL i_ dst=A:=by rfl):AL P G0 i_ ops K (⟨dst,op,ty,pos,af,N (j,want)⟩::rest) E H:=rS Z F B D G
end
section
variable{ops rest:List Oper}{K:List Rec->dG->aF->Prop}
theorem Nt(h:cQ P i_ ⟨dst,op,ty,pos,af,N (j,A)⟩ (restr E (jI ops ⟨dst,op,ty,pos,af,N (j,A)⟩)) H v H)(G:DC P i_ ops rest (nX E dst v) H (λrs E' H'=>K (⟨v,ζ,[]⟩::rs) E' H'))(F:kD ops j=N t:=by rfl)(B:E.get t=N (.pv (.bool b)):=by rfl)(I:b=A:=by first|rfl|assumption)(D:jL i_ dst=A:=by rfl):DC P i_ ops (⟨dst,op,ty,pos,af,N (j,A)⟩::rest) E H K:=iQ (aBx Z F B I h) D G
theorem Nf(h:cQ P i_ ⟨dst,op,ty,pos,af,N (j,η)⟩ (restr E (jI ops ⟨dst,op,ty,pos,af,N (j,η)⟩)) H v H)(G:DC P i_ ops rest (nX E dst v) H (λrs E' H'=>K (⟨v,ζ,[]⟩::rs) E' H'))(F:kD ops j=N t:=by rfl)(B:E.get t=N (.pv (.bool b)):=by rfl)(I:b=η:=by first|rfl|assumption)(D:jL i_ dst=A:=by rfl):DC P i_ ops (⟨dst,op,ty,pos,af,N (j,η)⟩::rest) E H K:=iQ (aBy Z F B I h) D G
end
theorem Zl:(∀ {α:Type} (a:α) (l:List α) (i:Nat),(a::l).drop (i+1)=l.drop i)/\(∀ {α:Type} (l:List α),l.drop 0=l)/\(∀ {α:Type} (a:α) (l:List α) (i:Nat),(a::l).take (i+1)=a::l.take i)/\(∀ {α:Type} (l:List α),l.take 0=[])/\(∀ {α:Type} (i:Nat),([]:List α).take i=[]) /\
  (∀ {α β:Type} (f:α->β) (a:α) (l:List α),(a::l).map f=f a::l.map f)/\(∀ {α β:Type} (f:α->β),[].map f=[])/\(∀ {α:Type} (a b:α) (l:List α),(a::l).set 0 b=b::l)/\(∀ {α:Type} (a b:α) (l:List α) (i:Nat),(a::l).set (i+1) b=a::l.set i b) /\
  (∀ {α:Type} (a:α) (l l2:List α),(a::l)++l2=a::(l++l2))/\(∀ {α:Type} (l:List α),[]++l=l) :=
 ⟨λ_ _ _=>rfl,λ_=>rfl,λ_ _ _=>rfl,λl=>by simp,λ_=>by simp,λ_ _ _=>rfl,λ_=>rfl,λ_ _ _=>rfl,λ_ _ _ _=>rfl,λ_ _ _=>rfl,λ_=>rfl⟩
theorem Zo:(∀b:Bool,(η&&b)=η)/\(∀b:Bool,(A&&b)=b)/\(∀b:Bool,(b&&η)=η)/\(∀b:Bool,(b&&A)=b)/\(∀b:Bool,(A||b)=A)/\(∀b:Bool,(η||b)=b)/\(∀b:Bool,(b||true)=A)/\(∀b:Bool,(b||false)=b)/\(!A)=η/\(!η)=A:=H_
end
theorem Ea{t:Nat}(r:Iz E H' L)(B:∃v0,E.get t=N v0/\v0=v:=by exact⟨_,Z,Z⟩)(D:Clo H' v:=by simp;rfl):Iz E H' ((t,v)::L):=⟨B,D,r⟩
theorem Eb{t:Nat}(r:Iz E H' L)(B:∃v0,E.get t=N v0/\v0=v:=by exact⟨_,Z,Z⟩)(D:Clo H' v:=by simp):Iz E H' ((t,v)::L):=⟨B,D,r⟩
theorem Ec{t:Nat}(D:Clo H' v)(r:Iz E H' L)(B:∃v0,E.get t=N v0/\v0=v:=by exact⟨_,Z,Z⟩):Iz E H' ((t,v)::L):=⟨B,D,r⟩
theorem Ha{t:Nat}{L:aF}(r:fu H H' L)(B:∃v0,H.get t=N v0/\v0=o:=by exact⟨_,Z,Z⟩)(D:∀r∈o.rows,∀a∈r,Clo H' a:=by simp;rfl):fu H H' ((t,o)::L):=⟨B,D,r⟩
theorem Hb{t:Nat}{L:aF}(r:fu H H' L)(B:∃v0,H.get t=N v0/\v0=o:=by exact⟨_,Z,Z⟩)(D:∀r∈o.rows,∀a∈r,Clo H' a:=by simp):fu H H' ((t,o)::L):=⟨B,D,r⟩
theorem Hc{t:Nat}{L:aF}(D:∀r∈o.rows,∀a∈r,Clo H' a)(r:fu H H' L)(B:∃v0,H.get t=N v0/\v0=o:=by exact⟨_,Z,Z⟩):fu H H' ((t,o)::L):=⟨B,D,r⟩
section
variable{P:Program}{i_:Nat}{o:Oper}{J3 t t' e:TypeId}{x y:Operand}{id g i k:Nat}{ob:Ob}{r r' cells:List AV}{rows':List (List AV)}{kk:IntKind}
theorem kc{F:FuncId}{f:Operand}{args:Array Operand}{at_:Array TypeId}{Q:AV->aF->Prop}(B:∀(args:Array Value) (w:World),(callFunc F args).run P w=.ok (.enter F args) w)(h:aU P F vs H Q)(G:o.op=.call {callee:=.value f,args:=args,argTypes:=at_}:=by rfl)(D:aR E f=N (.pv (.fn F)):=by rfl)(I:zT E args.toList=N vs:=by rfl):pz P i_ o E H Q:=bH G D B I h
theorem kl(id:Nat)(D:eW P J3 cells)(G:o.op=.alloc J3:=by rfl)(F:C cells=n+1:=by rfl)(B:H.get id=ζ:=by rfl):cQ P i_ o E H (.ref id 0 0 0) ((id,⟨0,n+1,J3,[cells]⟩)::H):=CY G D F B
theorem kb(id:Nat)(G:o.op=.box J3 x:=by rfl)(I:aR E x=N v:=by rfl)(D:RY v=N cells:=by rfl)(F:C cells=n+1:=by rfl)(B:H.get id=ζ:=by rfl):cQ P i_ o E H (.ref id 0 0 0) ((id,⟨0,n+1,J3,[cells]⟩)::H):=tW G I D F B
theorem ka{n m:Int}{q:Int}(D:kk.wrap (n+m)=q)(B:o.op=.binOp .add t x y J3:=by rfl)(F:aR E x=N (.pv (.int kk n)):=by rfl)(G:aR E y=N (.pv (.int kk m)):=by rfl):cQ P i_ o E H (.pv (.int kk q)) H:=dD B F G D
theorem kp(B:o.op=.binOp .add t x y J3:=by rfl)(D:aR E x=N (.pv (.int .i64 (n:Int))):=by rfl)(F:aR E y=N (.pv (.int .i64 1)):=by rfl)(G:n<9223372036854775807:=by omega):cQ P i_ o E H (.pv (.int .i64 ((n+1:Nat):Int))) H:=dD B D F (by rw[mI X X];omega)
theorem kq{s u:B_}(B:o.op=.binOp .add t x y t':=by rfl)(F:aR E x=N (.pv (.str s)):=by rfl)(G:aR E y=N (.pv (.str u)):=by rfl)(D:s.size+u.size<=9223372036854775807:=by omega):cQ P i_ o E H (.pv (.str (s++u))) H:=fL B F G D Z
theorem ku(L:∀w,(sizeOf J3).run P w=.ok 1 w)(K:o.op=.store J3 x y:=by rfl)(Q:aR E x=N (.ref id g i k):=by rfl)(R:aR E y=N v:=by rfl)(G:RY v=N [v]:=by rfl)(F:H.get id=N ob:=by rfl)(I:ob.g=g:=by rfl)(hi:ob.rows[i]?=N r:=by rfl)(J:k<C r:=by exact r_ Z)(D:r.set k v=r':=by rfl)(B:ob.rows.set i r'=rows':=by rfl):cQ P i_ o E H .any ((id,⟨g,ob.sz,ob.ty,rows'⟩)::H):=cM K L Q R G F I hi J D B
theorem kx{n:Int}{w:List PV}(D:fQ P J3 e sz)(hi:rows[m]?=N w)(I:o.op=.indexAddr J3 x y:=by rfl)(J:aR E x=N (.pv (.sl rows)):=by rfl)(K:aR E y=N (.pv (.int kk n)):=by rfl)(B:0<=n:=by omega)(G:n.toNat=m:=by exact l_ _)(F:C w=sz:=by rfl):cQ P i_ o E H (.pad rows m 0) H:=bQ I D J K B G hi F
theorem ky{n:Int}{s:B_}(D:P.underlying J3=N .string)(G:o.op=.index J3 x y:=by rfl)(I:aR E x=N (.pv (.str s)):=by rfl)(J:aR E y=N (.pv (.int kk n)):=by rfl)(B:0<=n:=by omega)(F:n.toNat=m:=by exact l_ _)(hi:m<s.size:=by omega):cQ P i_ o E H (.pv (.int .u8 (aZ s m))) H:=cL G D I J B F hi Z
end
section
variable{P:Program}{i_:Nat}{ops rest:List Oper}{K:List Rec->dG->aF->Prop}{w:Nat×Ob}
theorem Lt(R:List Nat)(h:∀H1:aF,(∀id,uO (N R) id=A->H1.get id=H.get id)->cQ P i_ ⟨dst,op,ty,pos,af,N (j,A)⟩ (restr E (jI ops ⟨dst,op,ty,pos,af,N (j,A)⟩)) H1 v H1)(G:DC P i_ ops rest (nX E dst v) H (λrs E' H'=>K (⟨v,N R,[]⟩::rs) E' H'))(F:kD ops j=N t:=by rfl)(B:E.get t=N (.pv (.bool b)):=by rfl)(I:b=A:=by first|rfl|assumption)(D:jL i_ dst=A:=by rfl):DC P i_ ops (⟨dst,op,ty,pos,af,N (j,A)⟩::rest) E H K:=iQ (r:=⟨v,N R,[]⟩) (Pz Z F B I h) D G
theorem Lp(R:List Nat)(h:∀H1:aF,(∀id,uO (N R) id=A->H1.get id=H.get id)->cQ P i_ ⟨dst,op,ty,pos,af,N (j,A)⟩ (restr E (jI ops ⟨dst,op,ty,pos,af,N (j,A)⟩)) H1 v (w::H1))(G:DC P i_ ops rest (nX E dst v) (w::H) (λrs E' H'=>K (⟨v,N R,[w]⟩::rs) E' H'))(F:kD ops j=N t:=by rfl)(B:E.get t=N (.pv (.bool b)):=by rfl)(I:b=A:=by first|rfl|assumption)(D:jL i_ dst=A:=by rfl):DC P i_ ops (⟨dst,op,ty,pos,af,N (j,A)⟩::rest) E H K:=iQ (r:=⟨v,N R,[w]⟩) (Pz Z F B I h) D G
end
section
variable{P:Program}{i_:Nat}{o:Oper}{H H1:aF}{J3:TypeId}{x y:Operand}{id g i k n:Nat}{ob:Ob}{R:Option (List Nat)}{r r' cells:List AV}{rows':List (List AV)}
theorem su(Q:∀w,(sizeOf J3).run P w=.ok 1 w)(h:∀id,uO R id=A->H1.get id=H.get id)(L:o.op=.store J3 x y:=by rfl)(W:aR E x=N (.ref id g i k):=by rfl)(a:aR E y=N v:=by rfl)(G:RY v=N [v]:=by rfl)(K:uO R id=A:=by rfl)(F:H.get id=N ob:=by rfl)(I:ob.g=g:=by rfl)(hi:ob.rows[i]?=N r:=by rfl)(J:k<C r:=by exact r_ Z)(D:r.set k v=r':=by rfl)(B:ob.rows.set i r'=rows':=by rfl):cQ P i_ o E H1 .any ((id,⟨g,ob.sz,ob.ty,rows'⟩)::H1):=cM L Q W a G ((h _ K).trans F) I hi J D B
theorem sx(W:∀w,(sizeOf J3).run P w=.ok n w)(h:∀id,uO R id=A->H1.get id=H.get id)(Q:o.op=.store J3 x y:=by rfl)(a:aR E x=N (.ref id g i k):=by rfl)(b:aR E y=N v:=by rfl)(G:RY v=N cells:=by rfl)(L:C cells=n:=by rfl)(K:uO R id=A:=by rfl)(F:H.get id=N ob:=by rfl)(I:ob.g=g:=by rfl)(hi:ob.rows[i]?=N r:=by rfl)(J:k+n<=C r:=by exact r_ Z)(D:r.take k++(cells++r.drop (k+n))=r':=by rfl)(B:ob.rows.set i r'=rows':=by rfl):cQ P i_ o E H1 .any ((id,⟨g,ob.sz,ob.ty,rows'⟩)::H1):=rK Q W a b G L ((h _ K).trans F) I hi J D B
theorem sa(L:∀w,(sizeOf J3).run P w=.ok n w)(h:∀id,uO R id=A->H1.get id=H.get id)(K:o.op=.store J3 x y:=by rfl)(Q:aR E x=N (.ref id g 0 0):=by rfl)(W:aR E y=N v:=by rfl)(D:RY v=N cells:=by rfl)(J:C cells=n:=by rfl)(I:uO R id=A:=by rfl)(B:H.get id=N ob:=by rfl)(F:ob.g=g:=by rfl)(hi:ob.rows=[r]:=by rfl)(G:C r=n:=by rfl):cQ P i_ o E H1 .any ((id,⟨g,ob.sz,ob.ty,[cells]⟩)::H1):=mH K L Q W D J ((h _ I).trans B) F hi G
end
section
variable{P:Program}{G0:aF}{i_:Nat}{H H2:aF}{Q:Exit->dG->aF->Prop}
theorem V(h:cQ P i_ ⟨N d,op,ty,pos,af,ζ⟩ E H v H2)(B:K ((d,v)::E) H2)(D:Nat.blt d i_=A:=by rfl):AL P G0 i_ ops K [⟨N d,op,ty,pos,af,ζ⟩] E H:=Y h (Zz B) D
theorem U(h:cQ P i_ ⟨N d,op,ty,pos,af,ζ⟩ E H v H2)(B:AL P G0 i_ ⟨⟨N d,op,ty,pos,af,ζ⟩::rest⟩ (λE H=>zX (gK P G0 i_ y Q) Q .normal E H) rest ((d,v)::E) H2)(D:Nat.blt d i_=A:=by rfl):gK P G0 i_ (.seq (.region id ⟨⟨N d,op,ty,pos,af,ζ⟩::rest⟩ η) y) Q E H:=Sr (Y h B D)
theorem Sz(h:cQ P i_ ⟨N d,op,ty,pos,af,ζ⟩ E H v H2)(B:zX (gK P G0 i_ y Q) Q .normal ((d,v)::E) H2)(D:Nat.blt d i_=A:=by rfl):gK P G0 i_ (.seq (.region id ⟨[⟨N d,op,ty,pos,af,ζ⟩]⟩ η) y) Q E H:=Sr (Y h (Zz B) D)
theorem Rd(h:cQ P i_ ⟨N d,op,ty,pos,af,ζ⟩ E H v H2)(B:AL P G0 i_ ⟨⟨N d,op,ty,pos,af,ζ⟩::rest⟩ (λE H=>Q .normal E H) rest ((d,v)::E) H2)(D:Nat.blt d i_=A:=by rfl):gK P G0 i_ (.region id ⟨⟨N d,op,ty,pos,af,ζ⟩::rest⟩ η) Q E H:=Rg (Y h B D)
end
end
end Go.Abs
namespace Go.Proofs.C
open Go.Proofs.Tryz
open Go.Abs
variable{α:Type}{l:List _}{k:Nat}
theorem zo3:eW φ 3 [.pv (.int .i64 0)]:=⟨_,_,tH,.inl Z,Z⟩
theorem zo4:eW φ 4 [.pv (.bool η)]:=⟨_,_,jG,.inl Z,Z⟩
theorem zo5:eW φ 5 [.pv (.int .u8 0)]:=⟨_,_,tG,.inl Z,Z⟩
theorem Uz:eW φ 9 [.pv (.str ⟨#[]⟩)]:=⟨_,_,gY,.inl Z,Z⟩
theorem aDo:eW φ 22 [.pv (.sl [])]:=⟨_,_,wQ,.inl Z,Z⟩
theorem aAf:eW φ 22 [.pv .nils]:=⟨_,_,wQ,.inr Z,Z⟩
theorem aY:fQ φ 22 9 1:=⟨aE,V_,E_,_,gY⟩
theorem y8{p:Prop}(h:p:=by kernel_rfl):p:=h
theorem sX:EI φ 9 1 16:=EI.mk (z:=(Value.string ⟨#[]⟩)) y8 Z E_ E_
theorem aBW:eW φ 25 [.pv (.int .i64 0)]:=⟨_,_,zeroValue25,.inl Z,Z⟩
theorem vd:cF φ 38 0 0:=⟨_,_,0,underlying38,Z,Z,sizeOf22⟩
theorem F8:cF φ 38 1 1:=⟨_,_,0,underlying38,Z,Z,sizeOf22⟩
theorem OH:cF φ 38 2 2:=⟨_,_,0,underlying38,Z,Z,sizeOf3⟩
theorem aBK:kH φ 38 [(0,1),(1,1),(2,1)] [.pv .nils,.pv .nils,.pv (.int .i64 0)]:=⟨_,#[(0,1),(1,1),(2,1)],_,_,underlying38,zeroValue38,.inr Z,Z,λw=>by simp[sizeOf3,sizeOf22],Z⟩
theorem aEH:fQ φ 41 92 4:=⟨underlying41,sizeOf92,E_,_,zeroValue92⟩
theorem aGd:EI φ 92 4 64:=EI.mk (z:=(Value.agg #[(Value.string ⟨#[]⟩),(Value.int ξ (0)),(Value.string ⟨#[]⟩),(Value.slice ζ (0) (0))])) y8 Z E_ E_
theorem aDk:eW φ 46 [.pv .nils]:=⟨_,_,zeroValue46,.inr Z,Z⟩
theorem ia:fQ φ 46 137 15:=⟨fE,bD,E_,_,zeroValue137⟩
theorem aBG:EI φ 137 15 216:=EI.mk (z:=(Value.agg #[(Value.int ξ (0)),(Value.string ⟨#[]⟩),(Value.string ⟨#[]⟩),(Value.string ⟨#[]⟩),(Value.int ξ (0)),(Value.int ξ (0)),(Value.string ⟨#[]⟩),(Value.string ⟨#[]⟩),(Value.slice ζ (0) (0)),(Value.string ⟨#[]⟩),(Value.int ξ (0)),(Value.int ξ (0)),(Value.int ξ (0)),(Value.slice ζ (0) (0)),(Value.slice ζ (0) (0))])) y8 Z E_ E_
theorem fy:eW φ 48 [.pv (.int .i64 0),.pv (.sl []),.pv (.sl [])]:=⟨_,_,zeroValue48,.inl Z,Z⟩
theorem D1:cF φ 48 0 0:=⟨_,_,0,kK,Z,Z,sizeOf3⟩
theorem xG:cF φ 48 1 1:=⟨_,_,0,kK,Z,Z,sizeOf22⟩
theorem xF:cF φ 48 2 2:=⟨_,_,0,kK,Z,Z,sizeOf22⟩
theorem aA3:kH φ 48 [(0,1),(1,1),(2,1)] [.pv (.int .i64 0),.pv (.sl []),.pv (.sl [])]:=⟨_,#[(0,1),(1,1),(2,1)],_,_,kK,zeroValue48,.inl Z,Z,λw=>by simp[sizeOf3,sizeOf22],Z⟩
theorem aF0:kH φ 48 [(0,1),(1,1),(2,1)] [.pv (.int .i64 0),.pv .nils,.pv .nils]:=⟨_,#[(0,1),(1,1),(2,1)],_,_,kK,zeroValue48,.inr Z,Z,λw=>by simp[sizeOf3,sizeOf22],Z⟩
theorem WH:fQ φ 49 104 2:=⟨gM,sizeOf104,E_,_,zeroValue104⟩
theorem aBH:EI φ 104 2 16:=EI.mk (z:=(Value.agg #[(Value.int ξ (0)),(Value.int ξ (0))])) y8 Z E_ E_
theorem aGF:eW φ 51 [.pv (.str ⟨#[]⟩),.pv (.str ⟨#[]⟩),.pv (.sl []),.pv (.sl []),.pv (.int .i64 0),.pv (.sl []),.pv (.sl [])]:=⟨_,_,zeroValue51,.inl Z,Z⟩
theorem JT:cF φ 51 0 0:=⟨_,_,0,uM,Z,Z,V_⟩
theorem JS:cF φ 51 1 1:=⟨_,_,0,uM,Z,Z,V_⟩
theorem zI:cF φ 51 2 2:=⟨_,_,0,uM,Z,Z,sizeOf22⟩
theorem uD:cF φ 51 3 3:=⟨_,_,0,uM,Z,Z,sizeOf49⟩
theorem F7:cF φ 51 4 4:=⟨_,_,2,uM,Z,Z,sizeOf48⟩
theorem aGk:kH φ 51 [(0,1),(1,1),(2,1),(3,1),(4,3)] [.pv (.str ⟨#[]⟩),.pv (.str ⟨#[]⟩),.pv (.sl []),.pv (.sl []),.pv (.int .i64 0),.pv (.sl []),.pv (.sl [])]:=⟨_,#[(0,1),(1,1),(2,1),(3,1),(4,3)],_,_,uM,zeroValue51,.inl Z,Z,λw=>by simp[V_,sizeOf22,sizeOf48,sizeOf49],Z⟩
theorem fx:eW φ 53 [.pv (.int .i64 0),.pv (.int .i64 0),.pv (.int .i64 0),.pv (.int .i64 0),.pv (.str ⟨#[]⟩),.pv (.sl []),.pv (.sl []),.pv (.str ⟨#[]⟩),.pv (.bool η),.pv (.int .i64 0),.pv (.str ⟨#[]⟩),.pv (.int .i64 0),.pv (.sl []),.pv (.sl []),.pv (.str ⟨#[]⟩),.pv (.str ⟨#[]⟩),.pv (.sl []),.pv (.sl []),.pv (.int .i64 0),.pv (.sl []),.pv (.sl [])]:=⟨_,_,zeroValue53,.inl Z,Z⟩
theorem aDj:eW φ 53 [.pv (.int .i64 0),.pv (.int .i64 0),.pv (.int .i64 0),.pv (.int .i64 0),.pv (.str ⟨#[]⟩),.pv .nils,.pv .nils,.pv (.str ⟨#[]⟩),.pv (.bool η),.pv (.int .i64 0),.pv (.str ⟨#[]⟩),.pv (.int .i64 0),.pv .nils,.pv .nils,.pv (.str ⟨#[]⟩),.pv (.str ⟨#[]⟩),.pv .nils,.pv .nils,.pv (.int .i64 0),.pv .nils,.pv .nils]:=⟨_,_,zeroValue53,.inr Z,Z⟩
theorem pD:cF φ 53 0 0:=⟨_,_,0,fD,Z,Z,sizeOf3⟩
theorem F6:cF φ 53 1 1:=⟨_,_,0,fD,Z,Z,sizeOf3⟩
theorem BE:cF φ 53 2 2:=⟨_,_,0,fD,Z,Z,sizeOf3⟩
theorem F5:cF φ 53 3 3:=⟨_,_,0,fD,Z,Z,sizeOf3⟩
theorem D0:cF φ 53 4 4:=⟨_,_,0,fD,Z,Z,V_⟩
theorem pC:cF φ 53 5 5:=⟨_,_,0,fD,Z,Z,sizeOf22⟩
theorem DZ:cF φ 53 6 6:=⟨_,_,0,fD,Z,Z,sizeOf46⟩
theorem DY:cF φ 53 7 7:=⟨_,_,0,fD,Z,Z,V_⟩
theorem JR:cF φ 53 8 8:=⟨_,_,0,fD,Z,Z,sizeOf4⟩
theorem zH:cF φ 53 9 9:=⟨_,_,0,fD,Z,Z,sizeOf3⟩
theorem yD:cF φ 53 10 10:=⟨_,_,0,fD,Z,Z,V_⟩
theorem AW:cF φ 53 11 11:=⟨_,_,2,fD,Z,Z,sizeOf48⟩
theorem iN:cF φ 53 12 14:=⟨_,_,6,fD,Z,Z,sizeOf51⟩
theorem VI:kH φ 53 [(0,1),(1,1),(2,1),(3,1),(4,1),(5,1),(6,1),(7,1),(8,1),(9,1),(10,1),(11,3),(14,7)] [.pv (.int .i64 0),.pv (.int .i64 0),.pv (.int .i64 0),.pv (.int .i64 0),.pv (.str ⟨#[]⟩),.pv (.sl []),.pv (.sl []),.pv (.str ⟨#[]⟩),.pv (.bool η),.pv (.int .i64 0),.pv (.str ⟨#[]⟩),.pv (.int .i64 0),.pv (.sl []),.pv (.sl []),.pv (.str ⟨#[]⟩),.pv (.str ⟨#[]⟩),.pv (.sl []),.pv (.sl []),.pv (.int .i64 0),.pv (.sl []),.pv (.sl [])]:=⟨_,#[(0,1),(1,1),(2,1),(3,1),(4,1),(5,1),(6,1),(7,1),(8,1),(9,1),(10,1),(11,3),(14,7)],_,_,fD,zeroValue53,.inl Z,Z,λw=>by simp[sizeOf3,sizeOf4,V_,sizeOf22,sizeOf46,sizeOf48,sizeOf51],Z⟩
theorem SR:fQ φ 68 9 1:=⟨mR,V_,E_,_,gY⟩
theorem Jc:eW φ 70 [.pv (.str ⟨#[]⟩),.pv (.str ⟨#[]⟩),.pv (.int .i64 0),.pv (.sl [])]:=⟨_,_,zeroValue70,.inl Z,Z⟩
theorem OG:cF φ 70 0 0:=⟨_,_,0,BJ,Z,Z,V_⟩
theorem U0:cF φ 70 1 1:=⟨_,_,0,BJ,Z,Z,V_⟩
theorem F4:cF φ 70 2 2:=⟨_,_,0,BJ,Z,Z,sizeOf3⟩
theorem F3:cF φ 70 3 3:=⟨_,_,0,BJ,Z,Z,sizeOf68⟩
theorem aF1:kH φ 70 [(0,1),(1,1),(2,1),(3,1)] [.pv (.str ⟨#[]⟩),.pv (.str ⟨#[]⟩),.pv (.int .i64 0),.pv (.sl [])]:=⟨_,#[(0,1),(1,1),(2,1),(3,1)],_,_,BJ,zeroValue70,.inl Z,Z,λw=>by simp[sizeOf3,V_,sizeOf68],Z⟩
theorem HQ:fQ φ 73 22 1:=⟨uL,sizeOf22,E_,_,wQ⟩
theorem aDD:EI φ 22 1 24:=EI.mk (z:=(Value.slice ζ (0) (0))) y8 Z E_ E_
theorem aDl:eW φ 80 [.pv (.sl []),.pv .nilm]:=⟨_,_,zeroValue80,.inl Z,Z⟩
theorem JQ:cF φ 80 0 0:=⟨_,_,0,underlying80,Z,Z,sizeOf68⟩
theorem vc:cF φ 80 1 1:=⟨_,_,0,underlying80,Z,Z,sizeOf78⟩
theorem aFZ:kH φ 80 [(0,1),(1,1)] [.pv .nils,.pv .nilm]:=⟨_,#[(0,1),(1,1)],_,_,underlying80,zeroValue80,.inr Z,Z,λw=>by simp[sizeOf68,sizeOf78],Z⟩
theorem aGE:eW φ 82 [.pv .nilm]:=⟨_,_,zeroValue82,.inl Z,Z⟩
theorem UZ:cF φ 84 0 0:=⟨_,_,1,uJ,Z,Z,sizeOf80⟩
theorem vb:cF φ 84 1 2:=⟨_,_,0,uJ,Z,Z,sizeOf22⟩
theorem Qx:cF φ 84 2 3:=⟨_,_,0,uJ,Z,Z,sizeOf82⟩
theorem va:cF φ 84 3 4:=⟨_,_,0,uJ,Z,Z,sizeOf73⟩
theorem UY:cF φ 84 4 5:=⟨_,_,0,uJ,Z,Z,sizeOf73⟩
theorem aFY:kH φ 84 [(0,2),(2,1),(3,1),(4,1),(5,1)] [.pv .nils,.pv .nilm,.pv .nils,.pv .nilm,.pv .nils,.pv .nils]:=⟨_,#[(0,2),(2,1),(3,1),(4,1),(5,1)],_,_,uJ,zeroValue84,.inr Z,Z,λw=>by simp[sizeOf22,sizeOf73,sizeOf80,sizeOf82],Z⟩
theorem aBj:fQ φ 86 70 4:=⟨underlying86,eD,E_,_,zeroValue70⟩
theorem aGe:EI φ 70 4 64:=EI.mk (z:=(Value.agg #[(Value.string ⟨#[]⟩),(Value.string ⟨#[]⟩),(Value.int ξ (0)),(Value.slice ζ (0) (0))])) y8 Z E_ E_
theorem aGD:eW φ 92 [.pv (.str ⟨#[]⟩),.pv (.int .i64 0),.pv (.str ⟨#[]⟩),.pv (.sl [])]:=⟨_,_,zeroValue92,.inl Z,Z⟩
theorem dx:cF φ 92 0 0:=⟨_,_,0,BI,Z,Z,V_⟩
theorem UX:cF φ 92 1 1:=⟨_,_,0,BI,Z,Z,sizeOf3⟩
theorem Qw:cF φ 92 2 2:=⟨_,_,0,BI,Z,Z,V_⟩
theorem xE:cF φ 92 3 3:=⟨_,_,0,BI,Z,Z,sizeOf22⟩
theorem aGj:kH φ 92 [(0,1),(1,1),(2,1),(3,1)] [.pv (.str ⟨#[]⟩),.pv (.int .i64 0),.pv (.str ⟨#[]⟩),.pv (.sl [])]:=⟨_,#[(0,1),(1,1),(2,1),(3,1)],_,_,BI,zeroValue92,.inl Z,Z,λw=>by simp[sizeOf3,V_,sizeOf22],Z⟩
theorem OF:cF φ 99 0 0:=⟨_,_,0,underlying99,Z,Z,sizeOf22⟩
theorem OE:cF φ 99 1 1:=⟨_,_,0,underlying99,Z,Z,sizeOf4⟩
theorem aGi:kH φ 99 [(0,1),(1,1)] [.pv (.sl []),.pv (.bool η)]:=⟨_,#[(0,1),(1,1)],_,_,underlying99,zeroValue99,.inl Z,Z,λw=>by simp[sizeOf4,sizeOf22],Z⟩
theorem Je:eW φ 104 [.pv (.int .i64 0),.pv (.int .i64 0)]:=⟨_,_,zeroValue104,.inl Z,Z⟩
theorem nF:cF φ 104 0 0:=⟨_,_,0,underlying104,Z,Z,sizeOf3⟩
theorem nE:cF φ 104 1 1:=⟨_,_,0,underlying104,Z,Z,sizeOf3⟩
theorem MP:kH φ 104 [(0,1),(1,1)] [.pv (.int .i64 0),.pv (.int .i64 0)]:=⟨_,#[(0,1),(1,1)],_,_,underlying104,zeroValue104,.inl Z,Z,λw=>by simp[sizeOf3],Z⟩
theorem S1(B E:Int)(D F:Int)(w:World):(Op.equalIn 10000 104 (.agg [.int .i64 B,.int .i64 D].toArray) (.agg [.int .i64 E,.int .i64 F].toArray)).run φ w=.ok (θ (B=E)&&θ (D=F)) w:=by
 refine(run_equalIn_struct (P:=φ) w 9999 104 _ _ (by simp[Program.fieldsOf,underlying104]) stoodInHeld104).trans ?_;have I:∀(d:Nat) (a b:Int) (w:World),(Op.equalIn (d+1) 3 (.int .i64 a) (.int .i64 b)).run φ w=.ok (θ (a=b)) w:=λd a b w=>by rw[run_equalIn_int w d 3 _ _ a b underlying3];by_cases h:a=b<;>simp[h]
 by_cases G:B=E<;>by_cases H:D=F<;>simp[Program.fieldsOf,underlying104,Op.eqFields,part,I,M_,G,H]
theorem aDs:eW φ 125 [.pv .nilp]:=⟨_,_,zeroValue125,.inl Z,Z⟩
theorem Ay:cF φ 127 0 0:=⟨_,_,0,underlying127,Z,Z,V_⟩
theorem aF3:kH φ 127 [(0,1)] [.pv (.str ⟨#[]⟩)]:=⟨_,#[(0,1)],_,_,underlying127,zeroValue127,.inl Z,Z,λw=>by simp[V_],Z⟩
theorem aAi:eW φ 131 [.pv (.sl [])]:=⟨_,_,zeroValue131,.inl Z,Z⟩
theorem aBU:eW φ 131 [.pv .nils]:=⟨_,_,zeroValue131,.inr Z,Z⟩
theorem SS:fQ φ 131 9 1:=⟨underlying131,V_,E_,_,gY⟩
theorem lZ:fQ φ 133 270 2:=⟨dW,mD,E_,_,zeroValue270⟩
theorem Re:EI φ 270 2 32:=EI.mk (z:=(Value.agg #[(Value.string ⟨#[]⟩),(Value.string ⟨#[]⟩)])) y8 Z E_ E_
theorem XC:eW φ 135 [.pv (.str ⟨#[]⟩),.pv (.int .i64 0),.pv (.int .i64 0),.pv (.int .i64 0),.pv (.sl []),.pv (.sl [])]:=⟨_,_,zeroValue135,.inl Z,Z⟩
theorem Jb:eW φ 135 [.pv (.str ⟨#[]⟩),.pv (.int .i64 0),.pv (.int .i64 0),.pv (.int .i64 0),.pv .nils,.pv .nils]:=⟨_,_,zeroValue135,.inr Z,Z⟩
theorem rR:cF φ 135 0 0:=⟨_,_,0,oL,Z,Z,V_⟩
theorem eK:cF φ 135 1 1:=⟨_,_,0,oL,Z,Z,sizeOf3⟩
theorem nD:cF φ 135 2 2:=⟨_,_,1,oL,Z,Z,sizeOf104⟩
theorem eJ:cF φ 135 3 4:=⟨_,_,0,oL,Z,Z,sizeOf22⟩
theorem gL:cF φ 135 4 5:=⟨_,_,0,oL,Z,Z,sizeOf133⟩
theorem GF:kH φ 135 [(0,1),(1,1),(2,2),(4,1),(5,1)] [.pv (.str ⟨#[]⟩),.pv (.int .i64 0),.pv (.int .i64 0),.pv (.int .i64 0),.pv (.sl []),.pv (.sl [])]:=⟨_,#[(0,1),(1,1),(2,2),(4,1),(5,1)],_,_,oL,zeroValue135,.inl Z,Z,λw=>by simp[sizeOf3,V_,sizeOf22,sizeOf104,sizeOf133],Z⟩
theorem Sf:kH φ 135 [(0,1),(1,1),(2,2),(4,1),(5,1)] [.pv (.str ⟨#[]⟩),.pv (.int .i64 0),.pv (.int .i64 0),.pv (.int .i64 0),.pv .nils,.pv .nils]:=⟨_,#[(0,1),(1,1),(2,2),(4,1),(5,1)],_,_,oL,zeroValue135,.inr Z,Z,λw=>by simp[sizeOf3,V_,sizeOf22,sizeOf104,sizeOf133],Z⟩
theorem XB:eW φ 137 [.pv (.int .i64 0),.pv (.str ⟨#[]⟩),.pv (.str ⟨#[]⟩),.pv (.str ⟨#[]⟩),.pv (.int .i64 0),.pv (.int .i64 0),.pv (.str ⟨#[]⟩),.pv (.str ⟨#[]⟩),.pv (.sl []),.pv (.str ⟨#[]⟩),.pv (.int .i64 0),.pv (.int .i64 0),.pv (.int .i64 0),.pv (.sl []),.pv (.sl [])]:=⟨_,_,zeroValue137,.inl Z,Z⟩
theorem iZ:cF φ 137 0 0:=⟨_,_,0,iI,Z,Z,sizeOf3⟩
theorem kG:cF φ 137 1 1:=⟨_,_,0,iI,Z,Z,V_⟩
theorem kZ:cF φ 137 2 2:=⟨_,_,0,iI,Z,Z,V_⟩
theorem rQ:cF φ 137 3 3:=⟨_,_,0,iI,Z,Z,V_⟩
theorem jQ:cF φ 137 4 4:=⟨_,_,1,iI,Z,Z,sizeOf104⟩
theorem oH:cF φ 137 5 6:=⟨_,_,0,iI,Z,Z,V_⟩
theorem pJ:cF φ 137 6 7:=⟨_,_,0,iI,Z,Z,V_⟩
theorem iW:cF φ 137 7 8:=⟨_,_,0,iI,Z,Z,sizeOf22⟩
theorem vX:cF φ 137 8 9:=⟨_,_,5,iI,Z,Z,sizeOf135⟩
theorem uS:kH φ 137 [(0,1),(1,1),(2,1),(3,1),(4,2),(6,1),(7,1),(8,1),(9,6)] [.pv (.int .i64 0),.pv (.str ⟨#[]⟩),.pv (.str ⟨#[]⟩),.pv (.str ⟨#[]⟩),.pv (.int .i64 0),.pv (.int .i64 0),.pv (.str ⟨#[]⟩),.pv (.str ⟨#[]⟩),.pv (.sl []),.pv (.str ⟨#[]⟩),.pv (.int .i64 0),.pv (.int .i64 0),.pv (.int .i64 0),.pv (.sl []),.pv (.sl [])]:=⟨_,#[(0,1),(1,1),(2,1),(3,1),(4,2),(6,1),(7,1),(8,1),(9,6)],_,_,iI,zeroValue137,.inl Z,Z,λw=>by simp[sizeOf3,V_,sizeOf22,sizeOf104,sizeOf135],Z⟩
theorem BY:fQ φ 159 5 1:=⟨dN,cO,E_,_,tG⟩
theorem ei5:EI φ 5 1 1:=EI.mk (z:=(Value.int IntKind.u8 (0))) y8 Z E_ E_
theorem IR:eW φ 161 [.pv .nilp,.pv .nils]:=⟨_,_,zeroValue161,.inr Z,Z⟩
theorem AX:cF φ 161 0 0:=⟨_,_,0,underlying161,Z,Z,sizeOf158⟩
theorem iP:cF φ 161 1 1:=⟨_,_,0,underlying161,Z,Z,rA⟩
theorem aDr:eW φ 169 [.pv (.int .u64 0)]:=⟨_,_,uH,.inl Z,Z⟩
theorem aDq:eW φ 174 [.pv .nilfn]:=⟨_,_,zeroValue174,.inl Z,Z⟩
theorem aDp:eW φ 179 [.pv (.int .u8 0),.pv (.int .u8 0),.pv (.int .u8 0),.pv (.int .u8 0),.pv (.int .u8 0),.pv (.int .u8 0),.pv (.int .u8 0),.pv (.int .u8 0)]:=⟨_,_,zeroValue179,.inl Z,Z⟩
theorem wq:eW φ 180 [.pv (.int .u8 0),.pv (.int .u8 0),.pv (.int .u8 0),.pv (.int .u8 0),.pv (.int .u8 0),.pv (.int .u8 0),.pv (.int .u8 0),.pv (.int .u8 0),.pv (.int .u8 0),.pv (.int .u8 0),.pv (.int .u8 0),.pv (.int .u8 0),.pv (.int .u8 0),.pv (.int .u8 0),.pv (.int .u8 0),.pv (.int .u8 0)]:=⟨_,_,zeroValue180,.inl Z,Z⟩
theorem aAh:eW φ 185 [.pv (.sl [])]:=⟨_,_,zeroValue185,.inl Z,Z⟩
theorem Ja:eW φ 185 [.pv .nils]:=⟨_,_,zeroValue185,.inr Z,Z⟩
theorem iK:fQ φ 185 189 3:=⟨cU,sizeOf189,E_,_,zeroValue189⟩
theorem Bc:EI φ 189 3 32:=EI.mk (z:=(Value.agg #[(Value.int ξ (0)),(Value.string ⟨#[]⟩),(Value.int ξ (0))])) y8 Z E_ E_
theorem wo:eW φ 189 [.pv (.int .i64 0),.pv (.str ⟨#[]⟩),.pv (.int .i64 0)]:=⟨_,_,zeroValue189,.inl Z,Z⟩
theorem vW:cF φ 189 0 0:=⟨_,_,0,underlying189,Z,Z,sizeOf3⟩
theorem iO:cF φ 189 1 1:=⟨_,_,0,underlying189,Z,Z,V_⟩
theorem RQ:cF φ 189 2 2:=⟨_,_,0,underlying189,Z,Z,sizeOf3⟩
theorem IQ:kH φ 189 [(0,1),(1,1),(2,1)] [.pv (.int .i64 0),.pv (.str ⟨#[]⟩),.pv (.int .i64 0)]:=⟨_,#[(0,1),(1,1),(2,1)],_,_,underlying189,zeroValue189,.inl Z,Z,λw=>by simp[sizeOf3,V_],Z⟩
theorem AG:fQ φ 200 20 1:=⟨underlying200,sizeOf20,E_,_,zeroValue20⟩
theorem Jd:eW φ 266 [.pv (.int .i64 0),.pv (.str ⟨#[]⟩),.pv (.int .i64 0),.pv (.int .i64 0)]:=⟨_,_,zeroValue266,.inl Z,Z⟩
theorem pI:cF φ 266 0 0:=⟨_,_,2,underlying266,Z,Z,sizeOf189⟩
theorem uE:cF φ 266 1 3:=⟨_,_,0,underlying266,Z,Z,sizeOf25⟩
theorem aF2:kH φ 266 [(0,3),(3,1)] [.pv (.int .i64 0),.pv (.str ⟨#[]⟩),.pv (.int .i64 0),.pv (.int .i64 0)]:=⟨_,#[(0,3),(3,1)],_,_,underlying266,zeroValue266,.inl Z,Z,λw=>by simp[sizeOf25,sizeOf189],Z⟩
theorem aAg:eW φ 270 [.pv (.str ⟨#[]⟩),.pv (.str ⟨#[]⟩)]:=⟨_,_,zeroValue270,.inl Z,Z⟩
theorem qO:cF φ 270 0 0:=⟨_,_,0,underlying270,Z,Z,V_⟩
theorem rO:cF φ 270 1 1:=⟨_,_,0,underlying270,Z,Z,V_⟩
theorem Sg:kH φ 270 [(0,1),(1,1)] [.pv (.str ⟨#[]⟩),.pv (.str ⟨#[]⟩)]:=⟨_,#[(0,1),(1,1)],_,_,underlying270,zeroValue270,.inl Z,Z,λw=>by simp[V_],Z⟩
theorem aAu(B E:B_)(D F:B_)(w:World):(Op.equalIn 10000 270 (.agg [.string B,.string D].toArray) (.agg [.string E,.string F].toArray)).run φ w=.ok (θ (B=E)&&θ (D=F)) w:=by
 refine(run_equalIn_struct (P:=φ) w 9999 270 _ _ (by simp[Program.fieldsOf,underlying270]) stoodInHeld270).trans ?_;have I:∀(d:Nat) (a b:B_) (w:World),(Op.equalIn (d+1) 9 (.string a) (.string b)).run φ w=.ok (θ (a=b)) w:=λd a b w=>by rw[run_equalIn_string w d 9 a b U_,CB]
 by_cases G:B=E<;>by_cases H:D=F<;>simp[Program.fieldsOf,underlying270,Op.eqFields,part,I,N_,G,H]
theorem aBT:eW φ 297 [.pv .nilp,.pv .nils]:=⟨_,_,zeroValue297,.inr Z,Z⟩
theorem qN:cF φ 297 0 0:=⟨_,_,1,underlying297,Z,Z,sizeOf161⟩
theorem aDn:eW φ 299 [.pv .nilfn]:=⟨_,_,zeroValue299,.inl Z,Z⟩
theorem aDm:eW φ 312 [.pv (.str ⟨#[]⟩),.pv (.str ⟨#[]⟩),.pv (.str ⟨#[]⟩),.pv (.str ⟨#[]⟩),.pv (.str ⟨#[]⟩),.pv (.str ⟨#[]⟩)]:=⟨_,_,zeroValue312,.inl Z,Z⟩
theorem aF7:RZ φ 312 1 [.pv (.str ⟨#[]⟩),.pv (.str ⟨#[]⟩),.pv (.str ⟨#[]⟩),.pv (.str ⟨#[]⟩),.pv (.str ⟨#[]⟩),.pv (.str ⟨#[]⟩)]:=⟨_,_,_,_,underlying312,zeroValue312,.inl Z,Z,V_⟩
theorem aBM:RZ φ 316 1 [.pv (.str ⟨#[]⟩),.pv (.str ⟨#[]⟩),.pv (.str ⟨#[]⟩),.pv (.str ⟨#[]⟩)]:=⟨_,_,_,_,underlying316,zeroValue316,.inl Z,Z,V_⟩
theorem aF6:RZ φ 319 1 [.pv (.int .i64 0),.pv (.int .i64 0),.pv (.int .i64 0),.pv (.int .i64 0),.pv (.int .i64 0),.pv (.int .i64 0)]:=⟨_,_,_,_,underlying319,zeroValue319,.inl Z,Z,sizeOf3⟩
theorem a7:φ.follows .mixedOrders=A:=rfl
structure m8 where
 key:B_
 val:B_
structure l8 where
 id:B_
 kind:Int
 x:Int
 y:Int
 refs:List B_
 tags:List m8
structure b8 where
 op:Int
 id:B_
 other:B_
 node:B_
 x:Int
 y:Int
 key:B_
 val:B_
 refs:List B_
 obj:l8
def S_(s:B_):List PV:=[.str s]
def gX(n:Int):List PV:=[.int .i64 n]
def bZ(t:m8):List PV:=[.str t.key,.str t.val]
def bS(o:l8):List PV:=[.str o.id,.int .i64 o.kind,.int .i64 o.x,.int .i64 o.y,.sl (o.refs.map S_),.sl (o.tags.map bZ)]
def bL(e:b8):List PV:=[.int .i64 e.op,.str e.id,.str e.other,.str e.node,.int .i64 e.x,.int .i64 e.y,.str e.key,.str e.val,.sl (e.refs.map S_),
 .str e.obj.id,.int .i64 e.obj.kind,.int .i64 e.obj.x,.int .i64 e.obj.y,.sl (e.obj.refs.map S_),.sl (e.obj.tags.map bZ)]
def aK(l:List B_):PV:=.sl (l.map S_)
def qV(l:List m8):PV:=.sl (l.map bZ)
def kU(l:List b8):PV:=.sl (l.map bL)
def j8:l8:=⟨⟨#[]⟩,0,0,0,[],[]⟩
theorem cA{f:α->List PV}{a}(h:l[k]?=N a):(l.map f)[k]?=N (f a):=F_
theorem aQ{l:List α}{k}(h:k<C l):∃a,l[k]?=N a:=⟨_,m_ h⟩
theorem ZB{p}{l:List α}{k}{a}(h:∀j,j<k->∀b,l[j]?=N b->p b=η)(B:l[k]?=N a)(D:p a=A):l.findIdx? p=N k:=by
 rw[findIdx?_eq_some_iff_getElem]
 grind
theorem ZC{p}{l:List α}(h:∀j,j<C l->∀b,l[j]?=N b->p b=η):l.findIdx? p=ζ:=by
 rw[findIdx?_eq_none_iff];intro x a;have ⟨j,B⟩:=s8.1 a
 grind
def BB{α:Type}(p:α->Bool)(l:List α):Int:=match l.findIdx? p with|some i=>(i:Int)|none => -1
theorem Qt(p)(l:List α):θ (0<=BB p l)=l.any p:=by
 unfold BB
 grind
theorem ur(p)(l):(BB p l = -1/\l.find? p=ζ)\/∃(k:Nat) (o:α),BB p l=k/\l[k]?=N o/\l.find? p=N o:=by
 cases h:l.findIdx? p with
 |none =>
  left;refine⟨by simp[BB,h],?_⟩
  simp_all
 |some k =>
  right;have a:=h;rw[findIdx?_eq_some_iff_getElem]at h;have ⟨B,D,E⟩:=h;refine⟨k,l[k],by simp[BB,a],m_ _,?_⟩;rw[find?_eq_some_iff_getElem]
  grind
theorem TK{p:α->Bool}{k}{a}(h:∀j,j<k->∀b,l[j]?=N b->p b=η)(B:l[k]?=N a)(D:p a=η):∀j,j<k+1->∀b,l[j]?=N b->p b=η:=G_
theorem Te{p}{l:List α}(h:∀j,j<C l->∀b,l[j]?=N b->p b=η):l.any p=η:=by
 rw[any_eq_false];intro x a;have ⟨j,B⟩:=s8.1 a
 grind
theorem aF8{p}{l:List α}{a}(c:l[k]?=N a)(b:p a=A):l.any p=A:=any_eq_true.2 ⟨_,m7 c,b⟩
end Go.Proofs.C
namespace Go.Abs
variable{H H':aF}{w w':World}{I:Nat->Prop}{ι:mG}{x:Obj}{zv:Value}{v0:AV}{id:Nat}{ob':Ob}
section
def FB(H:aF):aF->Prop
 | []=>True
 |(id,o)::r=>H.get id=N o/\FB H r
theorem FB.sub{H}:∀ {L},FB H L->Sub L H
 | [],_,id,o,h=>by cases h
 |(i,o')::r,h,id,o,a=>by
  simp[aF.get]at a;cases e:Nat.beq i _ with
  |true=>rw[e]at a;cases a;rw[<-Nat.eq_of_beq_eq_true e];exact h.1
  |false=>rw[e]at a;exact h.2.sub _ o a
theorem gS(D H)(k):aF.get (D++H) k=match D.get k with|some v=>N v|none=>H.get k:=RP D H k
theorem aU.frame{P:Program}{f:FuncId}{args:List AV}{H0 H1:aF}{r0:AV}(h:aU P f args H0 (λr H'=>r=r0/\H'=H1))(J:Sub H0 H)(u:dO H0)(z_:∀a∈args,Clo H0 a)
  (hk:∀id,(H1.get id).isSome=A->(H0.get id).isSome=A\/H.get id=ζ):aU P f args H (λr H'=>r=r0/\H'=H1++H):=by
 intro I L w vs F hl o_;refine(h I L w vs (F.restrict J u) hl (λi v a g h2=>(o_ i v a g h2).restrict J (z_ a (m7 h2)))).mono ?_;rintro e w' ⟨r,H',J3,D,v,rfl,⟨rfl,rfl⟩,k1,v_,n⟩;have ⟨s,τ⟩:∃s:mG,s=(λj=>if(H'.get j).isSome=A then D j else L j):=X_;have R:∀j o,H'.get j=N o->s j=D j:=λj o d=>by simp_all
 have t:∀j,H'.get j=ζ->s j=L j:=λj d=>by simp_all
 have g1:∀j o,H'.get j=N o->aF.get (H'++H) j=N o:=λj o d=>by rw[gS,d]
 have G:∀j,H'.get j=ζ->aF.get (H'++H) j=H.get j:=λj d=>by rw[gS,d]
 have y_:∀j o,H.get j=N o->H'.get j=ζ->H0.get j=ζ:=λj o d K=>by
  cases e:H0.get j with
  |none=>rfl
  |some o0 =>
   obtain ⟨p,W,_⟩:=n.objs j o0 e
   simp_all
 have y:∀j o b c,H.get j=N o->H'.get j=ζ->L j=N (b,c)->¬ OW L H0 b:=λj o b c d K f_ ⟨m,p,B,l,A_⟩=>by
  have:=F.inj j m o p b c B d (J _ _ l) f_ A_;subst this;rw[y_ j o d K]at l;cases l
 have e_:Step I L H w J3 s (H'++H) w':=by
  refine⟨n.os,n.tape,n.output,n.size,λa z_ K=>n.froz a z_ (λh=>K (h.sub J)),n.imm,λb f_=>?_,?_,?_,?_⟩
  .rcases n.immNew b f_ with g|g|g
   .exact .inl g
   .exact .inr (.inl (g.sub J))
   exact .inr (.inr g)
  .rintro b ⟨j,o,c,d,u⟩;cases e:H'.get j with
   |some p =>
    rw[R j p e]at u;rcases n.own b ⟨j,p,c,e,u⟩with g|g
    .exact .inl (g.sub J)
    exact .inr g
   |none =>
    rw[t j e]at u;rw[G j e]at d;exact .inl ⟨j,o,c,d,u⟩
  .intro b f_ K;exact n.keep b f_ (λh=>K (h.sub J))
  intro j o d;cases e:H'.get j with
  |some p =>
   rcases hk j (by rw[e];rfl)with g|g
   .have ⟨o0,e0⟩:=Option.isSome_iff_exists.1 g;have:=J _ _ e0;rw[d]at this;cases this;have ⟨o2,q1,q2,q3⟩:=n.objs j o e0;exact⟨o2,g1 j o2 q1,q2,λe=>by rw[R j o2 q1];exact q3 e⟩
   rw[d]at g;cases g
  |none=>exact⟨o,(G j e).trans d,h_ _,λ_=>⟨t j e,Z,λ_=>h_ _⟩⟩
 have i_:∀ {v:Value} {a:AV},VRel w' J3 D H' v a->VRel w' J3 s (H'++H) v a:=λσ =>
  σ.mono' (λ_ _=>rfl) (λ_ h=>h) (λid o ho=>⟨o,g1 id o ho,h_ _,λ_=>⟨R id o ho,Z,λ_=>h_ _⟩⟩)
 refine⟨r,H'++H,J3,s,v,Z,⟨Z,Z⟩,i_ k1,⟨v_.imm,λj o d=>?_,λj m o p b c B d l u k=>?_,v_.glob⟩,e_⟩
 .cases e:H'.get j with
  |some p =>
   rw[g1 j p e]at d;obtain rfl:p=o:=Option.some.inj d;exact(v_.obj j p e).keep (R j p e) (λ_ _ _ _=>⟨Z,λh=>h⟩) (λr _ a _ v o_=>i_ o_)
  |none =>
   rw[G j e]at d;refine(F.obj j o d).keep (t j e) (λu_ z W E=>⟨n.keep u_ E (y j o u_ z d e W),λe3 hi=>?_⟩) (λr _ a _ v o_=>o_.mono F e_);rcases n.immNew u_ hi with g|g|g
   .exact e3 g
   .exact y j o u_ z d e W g
   omega
 cases e:H'.get j with
 | some q =>
  rw[R j q e]at u;cases x:H'.get m with
  |some Q =>
   rw[R m Q x]at k;exact v_.inj j m q Q b c B e x u k
  |none =>
   rw[t m x]at k;rw[G m x]at l;have E:=F.lt ⟨m,p,B,l,k⟩;rcases n.own b ⟨j,q,c,e,u⟩with g|g
   .exact absurd g (y m p b B l x k)
   omega
 | none =>
  rw[t j e]at u;rw[G j e]at d;cases x:H'.get m with
  |some Q =>
   rw[R m Q x]at k;have E:=F.lt ⟨j,o,c,d,u⟩;rcases n.own b ⟨m,Q,B,x,k⟩with g|g
   .exact absurd g (y j o b c d e u)
   omega
  |none =>
   rw[t m x]at k;rw[G m x]at l;exact F.inj j m o p b c B d l u k
mutual
def tT(ρ:Nat->Nat):AV->AV
 |.any=>.any
 |.pv p=>.pv p
 |.ref id g i k=>.ref (ρ id) g i k
 |.pad rows i k=>.pad rows i k
 |.osl id g off len=>.osl (ρ id) g off len
 |.clo f caps=>.clo f (B3 ρ caps)
 |.bnd f xs=>.bnd f (B3 ρ xs)
 |.agg cs=>.agg (B3 ρ cs)
 |.tup vs=>.tup (B3 ρ vs)
 |.mp id g=>.mp (ρ id) g
 |.it id g=>.it (ρ id) g
 |.yld id g=>.yld (ρ id) g
 |.raw x ts=>.raw x ts
 |.osc id g off len c=>.osc (ρ id) g off len c
def B3(ρ:Nat->Nat):List AV->List AV
 | []=>[]
 |a::l=>tT ρ a::B3 ρ l
end
theorem oS(ρ)(l):B3 ρ l=l.map (tT ρ):=by
 induction l with
 |nil=>rfl
 |cons a l b=>simp[B3,b]
def xU(ρ:Nat->Nat)(o:Ob):Ob:=⟨o.g,o.sz,o.ty,o.rows.map (B3 ρ)⟩
def I6(ρ:Nat->Nat)(H:aF):aF:=H.map λp=>(ρ p.1,xU ρ p.2)
theorem Ml{ρ}{a}{y}{b}(h:tT ρ a=.raw y b):a=.raw y b:=by cases a<;>first|exact h|(cases h)
theorem Xb{ρ}(o):∀y e r',(xU ρ o).rows=[[.raw y e],r']->∃r,o.rows=[[.raw y e],r]:=by
 intro y e r' h;have ⟨g,sz,ty,rows⟩:=o;simp[xU]at h |-;cases rows with
 |nil=>grind
 | cons a rows =>
  cases rows with
  |nil=>grind
  | cons b rows =>
   cases rows with
   |cons c rows=>grind
   | nil =>
    simp[map_cons,map_nil,List.cons.injEq,and_true]at h;have ⟨d,_⟩:=h;cases a with
    |nil=>simp[B3]at d
    | cons x a =>
     cases a with
     |cons z a=>simp[B3]at d
     |nil =>
      simp[B3,List.cons.injEq,and_true]at d;exact⟨b,by rw[Ml d]⟩
section
variable{ρ:Nat->Nat}(hρ:∀n,ρ (ρ n)=n)
include hρ
theorem vY(H)(id):(I6 ρ H).get (ρ id)=(H.get id).map (xU ρ):=by
 induction H with
 |nil=>rfl
 |cons p H a =>
  have ⟨i,o⟩:=p;simp[I6,map_cons,aF.get]at a |-;by_cases e:i=id
  .simp_all
  have:ρ i≠ρ id:=λh=>e G_;simp[jX e,jX this,a]
theorem B4(H)(id):(I6 ρ H).get id=(H.get (ρ id)).map (xU ρ):=by
 have:=vY hρ H (ρ id)
 rwa [hρ]at this
theorem VRel.ren{v:Value}{a:AV}(h:VRel w I ι H v a):VRel w I (λj=>ι (ρ j)) (I6 ρ H) v (tT ρ a):=by
 induction h with
 |any v=>exact .any v
 |pv h=>exact .pv h
 |ref o f l c h =>
  refine .ref (xU ρ o) (by rw[vY hρ,f];rfl) l c (λe=>?_);have ⟨g,b,q,s,k⟩:=h e;exact⟨g,b,q,F_,k⟩
 |pad b x q B h y u E D F G=>exact .pad b x q B h y u E D F G
 |osl o f l c h =>
  refine .osl (xU ρ o) (by rw[vY hρ,f];rfl) l c (λe=>?_);have ⟨g,s,k⟩:=h e;refine⟨g,by simpa[xU]using s,?_⟩;rw[hρ];exact k
 |clo z h r =>
  unfold tT;rw[oS];refine .clo F_ (λi v a t d=>?_);rw[r7]at d;obtain ⟨p,m,rfl⟩:=Option.map_eq_some_iff.1 d;exact r i v p t m
 |bnd z h r =>
  unfold tT;rw[oS];refine .bnd F_ (λi v a t d=>?_);rw[r7]at d;obtain ⟨p,m,rfl⟩:=Option.map_eq_some_iff.1 d;exact r i v p t m
 |agg z c h r =>
  unfold tT;rw[oS];refine .agg F_ c (λi v a t d=>?_);rw[r7]at d;obtain ⟨p,m,rfl⟩:=Option.map_eq_some_iff.1 d;exact r i v p t m
 |tup z h r =>
  unfold tT;rw[oS];refine .tup F_ (λi v a t d=>?_);rw[r7]at d;obtain ⟨p,m,rfl⟩:=Option.map_eq_some_iff.1 d;exact r i v p t m
 |mp o f l c h =>
  refine .mp (xU ρ o) (by rw[vY hρ,f];rfl) l c (λe=>?_);have ⟨g,b,s,k⟩:=h e;exact⟨g,b,F_,k⟩
 |it o f l c h =>
  refine .it (xU ρ o) (by rw[vY hρ,f];rfl) l c (λe=>?_);have ⟨g,b,s,k⟩:=h e;exact⟨g,b,F_,k⟩
 |yld o f l c h =>
  refine .yld (xU ρ o) (by rw[vY hρ,f];rfl) l c (λe=>?_);have ⟨g,b,s,k⟩:=h e;exact⟨g,b,F_,k⟩
 |osc o f l c h =>
  refine .osc (xU ρ o) (by rw[vY hρ,f];rfl) l c (λe=>?_);have ⟨g,s,k⟩:=h e;refine⟨g,s,?_⟩;rw[hρ];exact k
theorem Rel.ren{w}{I}{ι}{H}(h:Rel I ι H w):Rel I (λj=>ι (ρ j)) (I6 ρ H) w:=by
 refine⟨h.imm,λid o d=>?_,λid id' o E b c D d e f m=>?_,h.glob⟩
 .rw[B4 hρ]at d;obtain ⟨s,p,rfl⟩:=Option.map_eq_some_iff.1 d;refine(h.obj _ _ p).keepG Z Z (by simp[xU]) (Xb _) Z (λ_ _ _ _=>⟨Z,λh=>h⟩) (λi r f=>?_);simp only[xU,r7]at f;obtain ⟨u,g,rfl⟩:=Option.map_eq_some_iff.1 f;refine⟨u,g,by rw[oS,g_],λk a B l q v t=>?_⟩;rw[oS,r7,l]at q;cases q;exact t.ren hρ
 rw[B4 hρ]at d e;obtain ⟨s,p,rfl⟩:=Option.map_eq_some_iff.1 d;obtain ⟨F,l,rfl⟩:=Option.map_eq_some_iff.1 e;have:=h.inj _ _ _ _ b c _ p l f m;rw[<-hρ id,this,hρ]
theorem Step.ren{r:Nat->Prop}{g:mG}(h:Step I ι H w r g H' w'):Step I (λj=>ι (ρ j)) (I6 ρ H) w r (λj=>g (ρ j)) (I6 ρ H') w':=by
 have f:∀ {ι:mG} {H:aF} {b:Nat},OW (λj=>ι (ρ j)) (I6 ρ H) b↔OW ι H b:=by
  intro ι H b;constructor
  .rintro⟨id,o,c,d,q⟩;rw[B4 hρ]at d;obtain ⟨l,p,rfl⟩:=Option.map_eq_some_iff.1 d;exact⟨_,l,c,p,q⟩
  rintro⟨id,o,c,d,q⟩;exact⟨ρ id,xU ρ o,c,by rw[vY hρ,d];rfl,F_⟩
 refine⟨h.os,h.tape,h.output,h.size,λa x m=>h.froz a x (λd=>m (f.2 d)),h.imm,λb i=>?_,λb i=>?_,λb i m=>h.keep b i (λd=>m (f.2 d)),λid o d=>?_⟩
 .rcases h.immNew b i with k|k|k;all_goals simp_all
 .rcases h.own b (f.1 i)with k|k;all_goals simp_all
 rw[B4 hρ]at d;obtain ⟨l,p,rfl⟩:=Option.map_eq_some_iff.1 d;have ⟨z,s,B,u⟩:=h.objs _ l p;exact⟨xU ρ z,by rw[B4 hρ,s];rfl,B,λe=>by
  have ⟨v,y,t⟩:=u e;exact⟨v,y,by simpa[xU]using t⟩⟩
theorem XY(l:List AV):B3 ρ (B3 ρ l)=l/\∀a∈l,tT ρ (tT ρ a)=a:=by
 have d:∀n:Nat,∀a:AV,SizeOf.sizeOf a<=n->tT ρ (tT ρ a)=a:=by
  intro n
  induction n with
  |zero=>intro a b;cases a<;>simp at b<;>omega
  | succ n o =>
   have q:∀l:List AV,SizeOf.sizeOf l<=n+1->B3 ρ (B3 ρ l)=l:=by
    intro l q;rw[oS,oS,map_map];have:∀a∈l,(tT ρ∘tT ρ) a=a:=λa b=>o a (by have:=sizeOf_lt_of_mem b;omega);rw[map_congr_left this,map_id']
   intro a b;cases a with
   |any=>rfl
   |pv p=>rfl
   |ref id g i k=>simp only[tT,hρ]
   |pad rows i k=>rfl
   |osl id g h e=>simp only[tT,hρ]
   |clo f caps=>simp only[tT];grind
   |bnd f xs=>simp only[tT];grind
   |agg m=>simp only[tT];grind
   |tup m=>simp only[tT];grind
   |mp id g=>simp only[tT,hρ]
   |it id g=>simp only[tT,hρ]
   |yld id g=>simp only[tT,hρ]
   |raw x ts=>rfl
   |osc id g h e c=>simp only[tT,hρ]
 have j:∀a∈l,tT ρ (tT ρ a)=a:=λa _=>d _ a (h_ _);refine⟨?_,j⟩;rw[oS,oS,map_map];have:∀a∈l,(tT ρ∘tT ρ) a=a:=j;rw[map_congr_left this,map_id']
theorem XZ(H):I6 ρ (I6 ρ H)=H:=by
 simp[I6,map_map];have:∀p∈H,((λp=>(ρ p.1,xU ρ p.2))∘λp=>(ρ p.1,xU ρ p.2)) p=p:=by
  rintro⟨i,o⟩ _;simp[Function.comp,hρ,xU,map_map];have:∀r∈o.rows,(B3 _∘B3 _) r=r:=λr _=>(XY hρ r).1;rw[map_congr_left this,map_id']
 rw[map_congr_left this,map_id']
theorem aU.ren{P}{f}{args args'}{H H' H1 E}{r r'}(h:aU P f args H (λx K=>x=r/\K=H1))(p:B3 ρ args=args')(t:I6 ρ H=H')(o:tT ρ r=r')(g:I6 ρ H1=E):
  aU P f args' H' (λx K=>x=r'/\K=E):=by
 subst p t o g;intro I l w D c G u;have b:=c.ren hρ;rw[XZ hρ]at b;have k:D.size=C args:=by rw[G,oS,g_]
 refine(h I _ w _ b k (λi v a F m=>?_)).mono ?_
 .have:=(u i v _ F (by rw[oS,r7,m];rfl)).ren hρ
  rwa [XZ hρ,(XY hρ [a]).2 a H_]at this
 rintro e w' ⟨x,K,z,ι',v,rfl,⟨rfl,rfl⟩,s,y,B⟩;have d:=B.ren hρ;have q:(λj=>(λj=>l (ρ j)) (ρ j))=l:=F_
 rw[q]at d;exact⟨_,_,z,_,v,Z,⟨Z,Z⟩,s.ren hρ,y.ren hρ,d⟩
end
end
section
structure KeyKind(α:Type) where
 d:TypeDesc
 pv:α->PV
 val:α->Value
 rel:∀(w:World) (I:Nat->Prop) (v:Value) (a:α),PRep w I v (pv a)->v=val a
 inj:∀a b,val a=val b->a=b
 is:∀a,MapKept.IsKey d (val a)
 rep:∀(w:World) (I:Nat->Prop) (a:α),PRep w I (val a) (pv a)
def KH:KeyKind B_:=⟨.string,.str,.string,λ_ _ _ _ h=>by cases h;rfl,λ_ _ h=>by cases h;rfl,λ_=>trivial,λ_ _ _=>.str _⟩
def Se:KeyKind Bool:=⟨.bool,.bool,.bool,λ_ _ _ _ h=>by cases h;rfl,λ_ _ h=>by cases h;rfl,λ_=>trivial,λ_ _ _=>.bool _⟩
def sT{α:Type}(κ:KeyKind α)(l:List (α×AV)):List (List AV):=l.mapIdx λi p=>[.pv (κ.pv p.1),p.2,.pv (.int .i64 i)]
theorem HB{α}{κ:KeyKind α}{l}{i:Nat}{r}:(sT κ l)[i]?=N r↔∃p,l[i]?=N p/\r=[.pv (κ.pv p.1),p.2,.pv (.int .i64 i)]:=by
 rw[sT]
 grind
theorem LU{α}(κ:KeyKind α)(l):C (sT κ l)=C l:=by simp[sT]
theorem bf{α}{κ:KeyKind α}{H}{w}{I}{ι}{v}{k}(h:VRel w I ι H v (.pv (κ.pv k))):v=κ.val k:=κ.rel _ _ _ _ h.pv_inv
section
variable{α:Type}
structure MapAt(w:World)(I:Nat->Prop)(ι:mG)(H:aF)(κ:KeyKind α)(l:List (α×AV))(es:Array MapEntry):Prop where
 size:es.size=C l
 rel:∀(i:Nat) (p:α×AV),l[i]?=N p->∃e,es[i]?=N e/\e.born=i/\e.key=κ.val p.1/\VRel w I ι H e.val p.2
theorem tz{w}{I}{ι}{H}{id b}{ob}{κ:KeyKind α}{l}(h:mF w I ι H id ob)(o:ob.sz=0)(d:ι id=N (b,0))(c:ob.rows=sT κ l):
  ∃f,w.heap[b]?=N (.map f ob.ty)/\¬ I b/\MapAt w I ι H κ l f:=by
 obtain ⟨_,b',f,g,r,t,u,e5,e6,v⟩:=h.map o d;rw[d]at g;cases g;refine⟨f,r,t,⟨by rw[u,c,LU],λi p j=>?_⟩⟩;obtain ⟨e,k,a,n,q,y,s,x,m⟩:=v i _ (by rw[c];exact HB.2 ⟨p,j,Z⟩);cases y;exact⟨e,q,by injection m.int_inv with _ hh;omega,κ.rel _ _ _ _ s.pv_inv,x⟩
theorem MapAt.born{w}{I}{ι}{H}{κ:KeyKind α}{l}{c}(h:MapAt w I ι H κ l c){i}{e}(hi:c[i]?=N e):e.born=i/\i<C l:=by
 have a:i<C l:=by rw[<-h.size];grind
 obtain ⟨B,b,d,_⟩:=h.rel i _ (m_ a);rw[hi]at b;cases b;exact⟨d,a⟩
section
variable{id b cap:Nat}{ob ob':Ob}
def World.setObj(w:World)(b:Nat)(x:Obj):World:={w with heap:=w.heap.setIfInBounds b x}
def Ai:Obj->Bool
 |.cells ..=>A
 |_=>η
theorem Rel.rewrite{P:Obj}(g:Rel I ι H w)(B:H.get id=N ob)(k:ι id=N (b,cap))(hz:ob.sz=0)(r:w.heap[b]?=N P)(h0:Ai P=η)(hx:Ai x=η)(hg:ob'.g=ob.g)(m:ob'.sz=0)
  (n:w.heap.size=(World.setObj w b x).heap.size->(World.setObj w b x).heap[b]?=N x->¬ I b->(∀v a,VRel w I ι H v a->VRel (World.setObj w b x) I ι H' v a)->mF (World.setObj w b x) I ι H' id ob')
  (K:H'.get id=N ob') (G:∀j,j≠id->H'.get j=H.get j):Rel I ι H' (World.setObj w b x)/\Step I ι H w I ι H' (World.setObj w b x):=by
 have p:OW ι H b:=⟨id,ob,cap,B,k⟩;have ⟨Q,i⟩:=MapKept.heap_set (w:=w) (o':=x) r;have d:Step I ι H w I ι H' (World.setObj w b x):=by
  refine⟨Z,Z,Z,by simp[World.setObj],λa _ _=>?_,λ_ h=>h,λ_ h=>.inl h,?_,?_,?_⟩
  .by_cases e:a.block=b
   .simp_all
   simp[World.frozen?,World.setObj,i _ e]
  .rintro y ⟨j,o,c,f,J⟩;by_cases e:j=id
   .simp_all
   exact .inl ⟨j,o,c,(G j e).symm.trans f,J⟩
  .intro y _ s;exact i y (λe=>s (e▸p))
  grind
 refine⟨⟨λy s=>by simpa[World.setObj]using g.imm y s,?_,?_,d.glob g⟩,d⟩
 .intro j o f;by_cases e:j=id
  .subst e;rw[K]at f;cases f;exact n (by simp[World.setObj]) Q ((g.obj j ob B).block k).2 (λv a D=>D.mono g d)
  rw[G j e]at f;exact(g.obj j o f).keep Z (λy c s _=>⟨i y (λE=>e (g.inj j id o ob b c cap f B (E▸s) k)),λh=>h⟩) (λr _ a _ v D=>D.mono g d)
 intro j F o i_ y c L f u J t;have l:∀j o,H'.get j=N o->∃o,H.get j=N o:=by
  grind
 have ⟨q,R⟩:=l j o f;have ⟨W,z⟩:=l F i_ u;exact g.inj j F q W y c L R z J t
theorem Rel.remap{κ:KeyKind α}{l:List (α×AV)}{q c:Array MapEntry}{u:Nat}(z:Rel I ι H w)(x:H.get id=N ob)(g:ι id=N (b,0))(B:ob.sz=0)(y:w.heap[b]?=N (.map q u))(D:ob'.g=ob.g)(h:ob'.sz=0)(P:ob'.ty=C l)(a:ob'.rows=sT κ l)
  (f:MapAt w I ι H κ l c) (v:H'.get id=N ob') (E:∀j,j≠id->H'.get j=H.get j):Rel I ι H' (World.setObj w b (.map c (C l)))/\Step I ι H w I ι H' (World.setObj w b (.map c (C l))):=by
 refine z.rewrite x g B y Z Z D h (λ_ L G d=>?_) v E;refine .inr (.inl ⟨h,b,c,g,F_,G,by rw[f.size,a,LU],λi e o=>?_,λi j e Q K o F=>?_,λi r k=>?_⟩)
 .have ⟨m,n⟩:=f.born o
  simp_all
 .have m:=(f.born o).1;have n:=(f.born F).1;omega
 rw[a]at k;obtain ⟨p,s,rfl⟩:=HB.1 k;have ⟨e,m,n,J,t⟩:=f.rel i p s;exact⟨e,_,_,_,m,Z,by rw[J];exact .pv (κ.rep _ _ p.1),d _ _ t,by rw[n];exact .pv (.int _ _)⟩
end
theorem tv{w}{I}{ι}{H}{v}{id g}{ob}(h:VRel w I ι H v (.mp id g))(F:H.get id=N ob)(G:ob.g=g):ob.sz=0/\∃b,ι id=N (b,0)/\v=.map (N b):=by
 cases h with
 |mp J B D _ E =>
  simp_all
variable [DecidableEq α]
def AB:List (α×AV)->α->Option AV
 | [],_=>ζ
 |(k',a)::r,k=>if k'=k then N a else AB r k
def xX:List (α×AV)->α->AV->List (α×AV)
 | [],k,v=>[(k,v)]
 |(k',a)::r,k,v=>if k'=k then(k,v)::r else(k',a)::xX r k v
def Za:List (α×AV)->α->List (α×AV)
 | [],_=>[]
 |(k',a)::r,k=>if k'=k then r else(k',a)::Za r k
theorem RR{w:World}{I:Nat->Prop}{ι:mG}{H:aF}(κ:KeyKind α)(k:α):∀(l:List (α×AV)) (g:List MapEntry) (i:Nat),C g=C l->(∀(i:Nat) (p:α×AV),l[i]?=N p->∃e,g[i]?=N e/\e.key=κ.val p.1/\VRel w I ι H e.val p.2) ->
  (Instr.findNow κ.d (κ.val k) g i=N ζ/\AB l k=ζ/\∀v,xX l k v=l++[(k,v)]) \/
  ∃j e a,Instr.findNow κ.d (κ.val k) g i=N (N (i+j,e.val))/\g[j]?=N e/\e.key=κ.val k/\AB l k=N a/\VRel w I ι H e.val a/\l[j]?=N (k,a)/\(∀v,xX l k v=l.set j (k,v))/\Za l k=l.eraseIdx j
 | [],[],i,_,_=>.inl ⟨Z,Z,λ_=>rfl⟩
 | (n,a)::l,e::g,i,hl,x=>by
  obtain ⟨K,J,m,B⟩:=x 0 (n,a) Z;cases J;have ⟨r,h,d⟩:=MapKept.sameNow_of_keys (κ.is k) (show MapKept.IsKey κ.d e.key by rw[m];exact κ.is n);by_cases f:n=k
  .subst f;have t:r=A:=d.2 m.symm;subst t;exact .inr ⟨0,e,a,by simp[Instr.findNow,h],Z,m,by simp[AB],B,Z,λv=>by simp[xX],by simp[Za]⟩
  have s:r=η:=by
   cases r with
   |false=>rfl
   |true=>exact absurd (κ.inj _ _ ((d.1 Z).trans m)).symm f
  subst s;rcases RR κ k l g (i+1) F_ (λi p y=>x (i+1) p y)with⟨o,u,q⟩|⟨j,E,F,o,u,q,D,G,h6,H4,z⟩
  .exact .inl ⟨by simp[Instr.findNow,h,o],by simp[AB,f,u],λv=>by simp[xX,f,q]⟩
  exact .inr ⟨j+1,E,F,by simp[Instr.findNow,h,o];omega,F_,q,by simp[AB,f,D],G,F_,λv=>by simp[xX,f,H4],by simp[Za,f,z]⟩
section
variable{P:Program}{i_:Nat}{o:Oper}{E:dG}{J3 kt et:TypeId}{x y z:Operand}{κ:KeyKind α}{l:List (α×AV)}{id g:Nat}{ob:Ob}{k:α}
theorem JB(u:o.op=.lookup J3 x y η)(W:P.underlying J3=N (.map kt et))(J:P.underlying kt=N κ.d)(f:aR E x=N (.mp id g))(s:H.get id=N ob)(Q:ob.g=g)
  (d:ob.rows=sT κ l) (G:aR E y=N (.pv (κ.pv k))) (f_:∀w,(zeroValue et).run P w=.ok zv w) (D:ZV zv v0):cQ P i_ o E H ((AB l k).getD v0) H :=
 .of_run λa w I ι c t=>by
  have ⟨q,b,r,m⟩:=tv (aJ t f) s Q;have ⟨R,a,e3,v⟩:=tz (c.obj id ob s) q r d;have h:=bf (aJ t G);rcases RR κ k l R.toList 0 (by simpa using v.size) (λi p z=>let ⟨e,q1,_,e_⟩:=v.rel i p z;⟨e,F_,e_⟩)with⟨n,B,L⟩|⟨j,e,a',n,B,L,F,K,_⟩
  ·refine⟨zv,?_,by rw[B];exact D.rel⟩;simp only[execOp,u,m,h];simp[Instr.lookup,run_underlying W,MapKept.run_getObj_map a,MapKept.run_checkKey J (κ.is k),MapKept.run_findKey J n,f_]
  refine⟨e.val,?_,by rw[F];exact K⟩;simp only[execOp,u,m,h];simp[Instr.lookup,run_underlying W,MapKept.run_getObj_map a,MapKept.run_checkKey J (κ.is k),MapKept.run_findKey J n]
theorem IG(D:o.op=.lookup J3 x y A)(d:P.underlying J3=N (.map kt et))(J:P.underlying kt=N κ.d)(Q:aR E x=N (.mp id g))(m:H.get id=N ob)(z_:ob.g=g)
  (f:ob.rows=sT κ l) (f_:aR E y=N (.pv (κ.pv k))) (hz:∀w,(zeroValue et).run P w=.ok zv w) (h:ZV zv v0):cQ P i_ o E H (.tup [(AB l k).getD v0,.pv (.bool (AB l k).isSome)]) H :=
 .of_run λa w I F R G=>by
  have ⟨z,b,B,s⟩:=tv (aJ G Q) m z_;have ⟨u_,L,e3,K⟩:=tz (R.obj id ob m) z B f;have n:=bf (aJ G f_);have r:∀ {u:Value} {a:AV} {c:Bool},VRel w I F H u a->VRel w I F H (.tuple #[u,.bool c]) (.tup [a,.pv (.bool c)]):=fun {u a c} y_=>.tup Z (λi v q h t=>by
   match i with
   |0=>simp at h t;subst h t;exact y_
   |1=>simp at h t;subst h t;exact .pv (.bool _)
   |i+2=>simp at h)
  rcases RR κ k l u_.toList 0 (by simpa using K.size) (λi p hp=>let ⟨e,q1,_,W⟩:=K.rel i p hp;⟨e,F_,W⟩)with⟨d_,e_,v_⟩|⟨j,e,a',d_,e_,v_,h4,A_,_⟩
  .refine⟨.tuple #[zv,.bool η],?_,by rw[e_];exact r h.rel⟩;simp only[execOp,D,s,n];simp[Instr.lookup,run_underlying d,MapKept.run_getObj_map L,MapKept.run_checkKey J (κ.is k),MapKept.run_findKey J d_,hz]
  refine⟨.tuple #[e.val,.bool A],?_,by rw[h4];exact r A_⟩;simp only[execOp,D,s,n];simp[Instr.lookup,run_underlying d,MapKept.run_getObj_map L,MapKept.run_checkKey J (κ.is k),MapKept.run_findKey J d_]
theorem WO{v:AV}{H2:aF}(c:o.op=.mapUpdate J3 x y z\/o.op=.insert J3 x y z)(hT:P.underlying J3=N (.map kt et))(d:P.underlying kt=N κ.d)(hx:aR E x=N (.mp id g))(A_:H.get id=N ob)(hg:ob.g=g)
  (τ:ob.ty=C l) (s:ob.rows=sT κ l) (hy:aR E y=N (.pv (κ.pv k))) (hz:aR E z=N v) (v_:H.set id {ob with ty:=C (xX l k v),rows:=sT κ (xX l k v)}=H2):cQ P i_ o E H .any H2:=by
 intro a w I ι _ _ hr h K Q c_;have ⟨r,b,G,D⟩:=tv (aJ h hx) A_ hg;have ⟨R,J,e3,n⟩:=tz (hr.obj id ob A_) r G s;rw[τ]at J;have B:=bf (aJ h hy);have L:=aJ h hz;subst v_;have o_:∀t,(Instr.mapUpdate J3 (a.eval x) (a.eval y) (a.eval z)).run P w=.ok () (World.setObj w b (.map t (C (xX l k v))))->MapAt w I ι H κ (xX l k v) t->o.wpW P a w K Q:=by
  intro t q hm;have ⟨k2,k3⟩:=Rel.remap (H':=H.set id {ob with ty:=C (xX l k v),rows:=sT κ (xX l k v)}) (ob':={ob with ty:=C (xX l k v),rows:=sT κ (xX l k v)}) hr A_ G r J Z r Z Z hm (aF.get_set_same _ _ _) (λj u=>aF.get_set_other _ _ u);unfold Oper.wpW execOp;rcases c with c|c
  .simp only[c,Sem.run_bind,q,Result.andThen_ok,Sem.run_pure];exact c_ _ _ I ι _ _ ⟨Z,Z⟩ (.any _) k2 k3
  simp only[c,Sem.run_bind,q,Result.andThen_ok,Sem.run_pure];exact c_ _ _ I ι _ _ ⟨Z,Z⟩ (.any _) k2 k3
 rcases RR κ k l R.toList 0 (by simpa using n.size) (λi p f=>let ⟨e,u_,_,q3⟩:=n.rel i p f;⟨e,F_,q3⟩)with⟨y_,h2,F⟩|⟨j,e,a',y_,h2,F,h4,h5,h6,f_,h8⟩
 .refine o_ (R.push {key:=κ.val k,val:=a.eval z,born:=C l}) ?_ ⟨?_,?_⟩
  .simp[Instr.mapUpdate,D,B,run_underlying hT,MapKept.run_getObj_map J,MapKept.run_checkKey d (κ.is k),MapKept.run_findKey d y_,MapKept.run_setObj_map _ J,World.setObj,F]
  .rw[F];simp[n.size]
  intro i p f;rw[F]at f;by_cases hi:i<C l
  .rw[List.getElem?_append_left hi]at f;obtain ⟨e,u_,q2⟩:=n.rel i p f
   grind
  rw[List.getElem?_append_right (by omega)]at f;cases e_:i - C l with
  |zero =>
   rw[e_]at f;cases f;exact⟨_,by rw[Array.getElem?_push,b6 (by rw[n.size];omega)],by show C l=i;omega,Z,L⟩
  |succ m=>rw[e_]at f;simp at f
 have u:R[j]?=N e:=by simpa using h2
 have z_:j<R.size:=(Array.getElem?_eq_some_iff.1 u).1;have W:C (xX l k v)=C l:=by rw[f_];simp
 refine o_ (R.modify j λe=>{e with key:=κ.val k,val:=a.eval z}) ?_ ⟨?_,?_⟩
 .simp[Instr.mapUpdate,D,B,run_underlying hT,MapKept.run_getObj_map J,MapKept.run_checkKey d (κ.is k),MapKept.run_findKey d y_,u,F,MapKept.run_keyThatStays (κ.is k),MapKept.run_setObj_map _ J,World.setObj,W]
 .rw[f_];simp[n.size]
 intro i p f;rw[f_]at f;by_cases e:i=j
 .subst e;rw[getElem?_set_self (by rw[<-n.size];exact z_)]at f;cases f;exact⟨{e with key:=κ.val k,val:=a.eval z},by rw[Array.getElem?_modify,b6 Z,u];rfl,(n.born u).1,Z,L⟩
 rw[List.getElem?_set_ne (Ne.symm e)]at f;obtain ⟨e',u_,q2⟩:=n.rel i p f;exact⟨e',by rw[Array.getElem?_modify,a8 (Ne.symm e)];exact u_,q2⟩
theorem Rel.placeX{cap:Nat}{x:Obj}(n:Rel I ι H w)(G:w'.os=w.os)(q:w'.tape=w.tape)(D:w'.output=w.output)(g:w'.heap=w.heap.push x)
  (R:∀o,H.get id=N o->o.g<ob'.g)
  (F:w'.heap[w.heap.size]?=N x->¬ I w.heap.size->(∀v a,VRel w I ι H v a->VRel w' I (λj=>if j=id then N (w.heap.size,cap)else ι j) H' v a)->mF w' I (λj=>if j=id then N (w.heap.size,cap)else ι j) H' id ob')
  (Q:H'.get id=N ob') (u:∀j,j≠id->H'.get j=H.get j) :
  Rel I (λj=>if j=id then N (w.heap.size,cap)else ι j) H' w'/\Step I ι H w I (λj=>if j=id then N (w.heap.size,cap)else ι j) H' w':=by
 have W:w'.heap[w.heap.size]?=N x:=F_
 have b:∀x,x<w.heap.size->w'.heap[x]?=w.heap[x]?:=λx s=>by grind
 have P:w'.heap.size=w.heap.size+1:=F_
 have m:Step I ι H w I (λj=>if j=id then N (w.heap.size,cap)else ι j) H' w':=by
  refine⟨G,q,D,X,λa d _=>?_,λ_ h=>h,λ_ h=>.inl h,?_,λx s _=>b x s,?_⟩
  .simp[World.frozen?,b a.block d]
  .rintro x ⟨j,o,c,p,i⟩;by_cases e:j=id
   .simp only[e,if_true]at i;cases i;exact .inr (h_ _)
   simp only[e,if_false]at i;exact .inl ⟨j,o,c,(u j e).symm.trans p,i⟩
  grind
 refine⟨⟨λx s=>by have:=n.imm x s;omega,?_,?_,m.glob n⟩,m⟩
 .intro j o p;by_cases e:j=id
  .subst e;rw[Q]at p;cases p;exact F W (λk=>Nat.lt_irrefl _ (n.imm _ k)) (λv a J=>J.mono n m)
  rw[u j e]at p;exact(n.obj j o p).keep (by simp[e]) (λx c _ s=>⟨b x s,λh=>h⟩) (λr _ a _ v J=>J.mono n m)
 intro j E o L x c K p B i f;by_cases e:j=id<;>by_cases t:E=id
 .rw[e,t]
 .simp only[e,if_true]at i;simp only[t,if_false]at f;cases i;have:=n.lt ⟨E,L,K,(u E t).symm.trans B,f⟩;exact absurd this (Nat.lt_irrefl _)
 .simp only[e,if_false]at i;simp only[t,if_true]at f;cases f;have:=n.lt ⟨j,o,c,(u j e).symm.trans p,i⟩;exact absurd this (Nat.lt_irrefl _)
 simp only[e,if_false]at i;simp only[t,if_false]at f;exact n.inj j E o L x c K ((u j e).symm.trans p) ((u E t).symm.trans B) i f
theorem Rel.placeM(i:Rel I ι H w)(e:w'.os=w.os)(a:w'.tape=w.tape)(c:w'.output=w.output)(n:w'.heap=w.heap.push (.map #[] 0))
  (b:∀o,H.get id=N o->o.g<ob'.g) (d:ob'.sz=0) (D:ob'.ty=0) (B:ob'.rows=[]) (f:H'.get id=N ob') (m:∀j,j≠id->H'.get j=H.get j) :
  Rel I (λj=>if j=id then N (w.heap.size,0)else ι j) H' w'/\Step I ι H w I (λj=>if j=id then N (w.heap.size,0)else ι j) H' w' :=
 i.placeX e a c n b (λE h _=>.inr (.inl ⟨d,w.heap.size,#[],H_,F_,h,F_,H_,H_,F_⟩)) f m
theorem Zj{I}{ι}{w}{id B}(c:Rel I ι H w)(b:∀o,H.get id=N o->o.g<B):
  ∃a,VRel (w.alloc (.map #[] 0)) I a ((id,⟨B,0,0,[]⟩)::H) (.map (N w.heap.size)) (.mp id B)/\Rel I a ((id,⟨B,0,0,[]⟩)::H) (w.alloc (.map #[] 0))/\Step I ι H w I a ((id,⟨B,0,0,[]⟩)::H) (w.alloc (.map #[] 0)):=by
 have ⟨d,f⟩:=Rel.placeM (ob':=⟨B,0,0,[]⟩) (w':=w.alloc _) c Z Z Z Z b Z Z Z (get_cons_same _ _ _) (λj e=>get_cons_other _ _ e);exact⟨_,.mp _ (get_cons_same _ _ _) (h_ _) Z λ_=>⟨Z,w.heap.size,H_,Z⟩,d,f⟩
theorem wD{α}(κ:KeyKind α)(b:o.op=.makeMap J3 none)(hid:H.get id=none):cQ P i_ o E H (.mp id 0) ((id,⟨0,0,([]:List (α×AV)).length,sT κ []⟩)::H):=by intro a w I ι _ _ h he K Q d;obtain ⟨ι',e,c,f⟩:=Zj (id:=id) h (λo b=>by simp_all);unfold Oper.wpW execOp;simp[b,Instr.makeMap,Option.map_none,Sem.run_bind,run_newObj,Sem.run_pure,Result.andThen_ok];exact d _ _ I _ _ _ ⟨Z,Z⟩ e c f
theorem AC{v}{b}(f:o.op=.mapUpdate J3 x y z\/o.op=.insert J3 x y z)(i:P.underlying J3=N (.map kt et))(B:P.underlying kt=N κ.d)(j:aR E x=N (.mp id g))(e:H.get id=N ob)(d:ob.g=g)
  (c:ob.ty=C l) (a:ob.rows=sT κ l) (h:aR E y=N (.pv (κ.pv k))) (n:aR E z=N v) (m:xX l k v=b):cQ P i_ o E H .any ((id,⟨g,ob.sz,C b,sT κ b⟩)::H):=by
 subst d m;exact(WO f i B j e Z c a h n Z).congr (yS _ _ _)
end
end
end
section
theorem Qd{w}{I}{ι}{H}{v}{id g}{ob}(h:VRel w I ι H v (.it id g))(F:H.get id=N ob)(G:ob.g=g):ob.sz=0/\∃b,ι id=N (b,1)/\v=.pointer (N ⟨b,0,ζ⟩):=by
 cases h with
 |it J B D _ E =>
  simp_all
section
variable{P:Program}{i_:Nat}{o:Oper}{E:dG}{f:Operand}{args:Array Operand}{at_:Array TypeId}{F:FuncId}{fn:Func}{e:Array Value->Sem Value}{vs:List AV}{r:AV}
def aAc(P:Program)(e:Array Value->Sem Value)(H:aF)(vs:List AV)(r:AV):Prop :=∀(w:World) (I:Nat->Prop) (ι:mG) (cs:Array Value),cs.size=C vs->(∀(i:Nat) (v:Value) (a:AV),cs[i]?=N v->vs[i]?=N a->VRel w I ι H v a)->∃c,(e cs).run P w=.ok c w/\VRel w I ι H c r
theorem RD(p:o.op=.call {callee:=.value f,args:=args,argTypes:=at_})(x:aR E f=N (.pv (.fn F)))(s:P.funcs[F]?=N fn)(g:(fn.name == "runtime.NumGoroutine")=η)
  (k:fn.body.isNone=A) (q:Extern.findNext fn=ζ) (u:Extern.find fn=N e) (n:zT E args.toList=N vs) (h:aAc P e H vs r):cQ P i_ o E H r H :=
 .of_run λa w I z D m=>by
  have l:=(aJ m x).fn_inv;have ⟨B,y⟩:=qB m (oJ n);have ⟨c,t,j⟩:=h w I z (args.map a.eval) F_ (λi v b n k=>y i v b F_ k);refine⟨c,?_,j⟩;unfold execOp;simp only[p,resolve,l,Deferred.ofValue,Sem.run_bind,Sem.run_pure,Result.andThen_ok,invoke,Array.empty_append,Array.append_empty,run_callFunc_extern s g k q u,t]
theorem gp{w}{I}{ι}{H}{x y}{cs}(b:cs.size=C [x,y])(h:∀(i:Nat) (v) (a),cs[i]?=N v->[x,y][i]?=N a->VRel w I ι H v a):∃u v,cs=#[u,v]/\VRel w I ι H u x/\VRel w I ι H v y:=by
 have ⟨l⟩:=cs
 match l,b with
 | [u,v],_=>exact⟨u,v,Z,h 0 u x Z Z,h 1 v y Z Z⟩
theorem W4(s)(c):aAc P Extern.BytealgIndexByte.indexByte H [.pv (.str s),.pv (.int .u8 c)] (.pv (.int .i64 (Lib.indexByte (ν (μ s)) c.toNat.toUInt8))):=by intro w I ι cs b h;obtain ⟨u,v,rfl,d,g⟩:=gp b h;rw[d.str_inv,g.int_inv];exact⟨_,Lib.run_indexByteString s c w,.pv (.int _ _)⟩
end
theorem lC{P}{G0}{i_}{ops}{K}{E:dG}{H}{l}{t:Tmp}{v}(B:E.get t=N v)(h:AL P G0 i_ ops K l ((t,v)::E) H):AL P G0 i_ ops K l E H:=by
 intro G c a w d;refine h G c a w (cJ.sub (λk u b=>?_) G c i_ a w d);by_cases e:t=k
 .subst e;rw[dG.get_cons_same]at b
  grind
 rwa [dG.get_cons_other _ _ e]at b
end
end Go.Abs
namespace Go.Proofs.C
open Go.Proofs.Tryz
open Go.Abs
variable{c:Nat}{α:Type}
abbrev RC(f : FuncId)(a : List AV)(x : AV)(H : aF): Prop := aU φ f a H (λr H' => r = x /\ H' = H)
theorem A3(s:B_)(c:Int)(H:aF):RC 250 [.pv (.str s),.pv (.int .u8 c)] (.pv (.int .i64 (Lib.indexByte (ν (μ s)) c.toNat.toUInt8))) H:=by refine Pu ?_;exact Bd func250 Z ntmps250<|Sz aH<|U aA<|Y aA<|Y (RD Z Z func279 Z Z Z Z Z (W4 s c))<|V aH<|aC<|Rt<|Qq
theorem sV(s)(c)(H):RC 199 [.pv (.str s),.pv (.int .u8 c)] (.pv (.int .i64 (Lib.indexByte (ν (μ s)) c.toNat.toUInt8))) H:=by refine Pu ?_;exact Bd func199 Z ntmps199<|Sz aH<|U aA<|Y aA<|Y (bH Z Z call250 Z (A3 s c _))<|V aH<|aC<|Rt<|Qq
abbrev aBr:B_:=⟨#[32,9,10]⟩
abbrev aGP:B_:=⟨#[59,44,46,58,40,41,123,125,91,93,61,60,62,47,45]⟩
def um(s:B_)(n:Int):Bool:=θ (0<=Lib.indexByte (ν (μ s)) n.toNat.toUInt8)
def wI(n:Int):Bool:=(θ (97<=n)&&θ (n<=122))||(θ (65<=n)&&θ (n<=90))
def zD(n:Int):Bool:=θ (48<=n)&&θ (n<=57)
def HY(n:Int):Int:=if wI n then 3 else if zD n then 4 else if um aBr n then 1 else if um aGP n then 6 else 0
def zL(n:Int):Int:=if n=34 then 7 else if n=95 then 5 else if n=35 then 2 else HY n
def uF(c:Nat):List AV:=(List.range 256).map λ(i:Nat)=>.pv (.int .u8 (if i<c then HY i else 0))
def xH:List AV:=(List.range 256).map λ(i:Nat)=>.pv (.int .u8 (zL i))
theorem lF(c):C (uF c)=256:=rfl
theorem vL(E:c<256){v}(a:HY c=v):(uF c).set c (.pv (.int .u8 v))=uF (c+1):=by
 apply ext_getElem
 .simp[uF]
 intro i B D;rw[getElem_set]
 split
 .next e=>subst e;simp[uF,a]
 next e=>simp[uF,getElem_map,getElem_range];grind
theorem nx(b:c<256)(a:HY c=0):uF c=uF (c+1):=by
 rw[<-vL b a];apply ext_getElem
 .simp
 intro i B D;rw[getElem_set]
 split
 .next e=>subst e;simp[uF]
 rfl
theorem nw:List.replicate 256 (.pv (.int .u8 0))=uF 0:=rfl
theorem ny:(((uF 256).set 35 (.pv (.int .u8 2))).set 95 (.pv (.int .u8 5))).set 34 (.pv (.int .u8 7))=xH:=by kernel_rfl
theorem vt{m}(h:m<256):xH[m]?=N (.pv (.int .u8 (zL m))):=by simp[xH,h]
theorem pK(c)(H):∀r∈[uF c],∀a∈r,Clo H a:=by intro r b a d;rw[q9]at b;subst b;obtain ⟨i,_,rfl⟩:=mem_map.1 d;simp
instance(c)(H):W_ (H) ([uF c]):=⟨pK c H⟩
theorem nv(H):Clo H (.agg xH):=by rw[ek];intro a b;obtain ⟨i,_,rfl⟩:=mem_map.1 b;simp
theorem wm:eW φ 223 (List.replicate 256 (.pv (.int .u8 0))):=⟨_,.agg _,zeroValue223,.inl (Z),Z⟩
theorem y6{p:Prop}(h:p:=by exact cM Z cO Z Z Z Z Z Z (by rw[lF];omega) (vL d f) Z):p:=h
theorem ZO (H:aF):RC 211 [] (.agg xH) H:=by
  refine Pu<|Bd func211 Z ntmps211<|Sz (kl 0 wm)<|Sz (kl 1 wm)<|S<|Sz aA<|aD ?_;rw[nw];refine bA (σ:=Nat) (λc=>([(0,.ref 0 0 0 0),(1,.ref 1 0 0 0),(4,iv (c:Int))],[(1,bx 256 223 (uF c)),(0,bx 256 223 (uF 0))])) (λc=>c<=256) (λc=>256 - c) 0 X ?_ ?_
  · exact L_
  · intro c B
    refine Sz cH<|S<|Cn ?_ ?_<;>intro n
    · have d:c<256:=I_ n
      refine aB<|S<|aD<|U aA<|V aH<|U aA<|Y (eP Z underlying3 dI Z (wu8 X X))<|V aH<|aD<|S<|S<|aT (t:=9) (n:=8) (A_:=θ (97<=(c:Int))&&θ ((c:Int)<=122)) ?_ ?_
      · all_goals refine Y aA<|Y HV<|Dm ?_<;>(refine Sp 12 (λm=>?_) λm=>?_)<;>(first|exact s_|refine M<|M ?_|refine O aA<|O HV ?_)<;>refine Y cE<|Da ?_<;>(exact⟨⟨_,Z,G_⟩,Z,Z,Z⟩)
      refine Cn ?_ ?_<;>intro b
      · have f:HY c=3:=by rw[HY,wI,b];rfl
        refine aB<|Cn ?_ ?_<;>intro j
        · skip
          refine Rd aA<|Y (eX (k2:=c) Z gU cO Z Z Z Z X (l_ _) X X)<|Uu y6<|Zz<|Rd iF<|V aA ?_;exact⟨c+1,X,X,L_⟩
        · rw[b]at j;cases j
      · skip
        refine aT (t:=9) (n:=8) (A_:=θ (65<=(c:Int))&&θ ((c:Int)<=90)) ?_ ?_
        · all_goals refine Y aA<|Y HV<|Dm ?_<;>(refine Sp 18 (λk=>?_) λk=>?_)<;>(first|exact s_|refine M<|M ?_|refine O aA<|O HV ?_)<;>refine Y cE<|Da ?_<;>(exact⟨⟨_,Z,G_⟩,Z,Z,Z⟩)
        refine Cn ?_ ?_<;>intro e
        · have f:HY c=3:=by rw[HY,wI,b,e];rfl
          refine Rd aA<|Y (eX (k2:=c) Z gU cO Z Z Z Z X (l_ _) X X)<|Uu y6<|Zz<|Rd iF<|V aA ?_;exact⟨c+1,X,X,L_⟩
        · skip
          refine S<|aT (t:=24) (n:=8) (A_:=θ (48<=(c:Int))&&θ ((c:Int)<=57)) ?_ ?_
          · all_goals refine Y aA<|Y HV<|Dm ?_<;>(refine Sp 27 (λl=>?_) λl=>?_)<;>(first|exact s_|refine M<|M ?_|refine O aA<|O HV ?_)<;>refine Y cE<|Da ?_<;>(exact⟨⟨_,Z,G_⟩,Z,Z,Z⟩)
          refine Cn ?_ ?_<;>intro g
          · have f:HY c=4:=by rw[HY,wI,b,e,zD,g];rfl
            refine Rd aA<|Y (eX (k2:=c) Z gU cO Z Z Z Z X (l_ _) X X)<|Uu y6<|Zz<|Rd iF<|V aA ?_;exact⟨c+1,X,X,L_⟩
          · skip
            refine U aA<|Y (kc call199 (sV _ _ _))<|Y AU<|Da<|Cn ?_ ?_<;>intro h
            · have f:HY c=1:=by rw[HY,wI,b,e,zD,g,um,h];rfl
              refine Rd aA<|Y (eX (k2:=c) Z gU cO Z Z Z Z X (l_ _) X X)<|Uu y6<|Zz<|Rd iF<|V aA ?_;exact⟨c+1,X,X,L_⟩
            · skip
              refine U aA<|Y (kc call199 (sV _ _ _))<|Y AU<|Da<|Cn ?_ ?_<;>intro i
              · have f:HY c=6:=by rw[HY,wI,b,e,zD,g,um,h,um,i];rfl
                refine Rd aA<|Y (eX (k2:=c) Z gU cO Z Z Z Z X (l_ _) X X)<|Uu y6<|Zz<|Rd iF<|V aA ?_;exact⟨c+1,X,X,L_⟩
              · have f:HY c=0:=by rw[HY,wI,b,e,zD,g,um,h,um,i];rfl
                refine aB<|Rd iF<|V aA ?_;rw[nx d f];exact⟨c+1,X,X,L_⟩
    · have:c=256:=G_
      subst this;refine aP<|U (by exact eX (k2:=35) Z gU cO Z Z Z Z X Z X Z)<|Uu (by exact cM Z cO Z Z Z Z Z Z (by simp[lF]) Z Z)<|Y (by exact eX (k2:=95) Z gU cO Z Z Z Z X Z X Z)<|Uu (by exact cM Z cO Z Z Z Z Z Z (by simp[lF]) Z Z)<|Y (by exact eX (k2:=34) Z gU cO Z Z Z Z X Z X Z)<|Uu (by exact cM Z cO Z Z Z Z Z Z (by simp[lF]) Z Z)<|Zz<|U (by exact aW Z isAgg223 BK Z Z Z Z (show List.take 256 (List.drop 0 _)=xH by rw[<-ny];rfl) Z)<|Uu (jH BK)<|Zz<|aC ?_;refine cR (H':=[]) (.inr Z) Z (fJ Z isAgg223 BK Z Z Z (show List.take 256 (List.drop 0 xH)=xH by rfl) Z) (Fin.wk (by exact nv _) T_ T_) ?_;exact Qq
abbrev a6:B_:=⟨#[]⟩
theorem ON(s)(k):0<=aZ s k:=by unfold aZ;omega
theorem CP(s)(k):(aZ s k).toNat<256:=by
 unfold aZ;have:=(((s.data.toList[k]?).getD 0)).toNat_lt
 simpa using this
theorem aBJ(s)(k):xH[(aZ s k).toNat]?=N (.pv (.int .u8 (zL (aZ s k)))):=by rw[vt (CP s k),Int.toNat_of_nonneg (ON s k)]
theorem kT(H):∀r∈[xH],∀a∈r,Clo H a:=by intro r b a c;rw[q9]at b;subst b;have:=nv H;rw[ek]at this;exact this a c
instance(H):W_ (H) ([xH]):=⟨kT H⟩
def oh(s:B_)(k:Nat):Bool:=!θ (zL (aZ s k)=3)&&(θ ((k:Int)=0)||(!θ (zL (aZ s k)=4)&&!θ (zL (aZ s k)=5)))
def cK(s:B_):Bool:=!((List.range s.size).any (oh s))&&(!θ (s=a6)&&θ ((s.size:Int)<=24))
theorem B5{n}{p}(h:∀j,j<n->p j=η):(List.range n).any p=η:=F_
theorem uY{n k}{p}(a:k<n)(h:p k=A):(List.range n).any p=A:=any_eq_true.2 ⟨k,mem_range.2 a,h⟩
theorem DP(s:B_)(H:aF)(D:s.size<2^62):RC 154 [sv s] (bv (cK s)) H:=by
 refine Pu<|Bd func154 Z ntmps154<|Sz aH<|U (kc call211 (ZO _))<|Y (kl 3 wm)<|Uu (mH Z BK Z Z Z Z Z Z Z H_)<|Zz<|S<|U aA<|Y (gQ U_)<|V aA<|aD<|bA (σ:=Nat) (λk=>([(0,sv s),(3,.ref 3 0 0 0),(8,iv (s.size:Int)),(9,iv (k:Int))],[(3,bx 256 223 xH)])) (λk=>k<=s.size/\∀j,j<k->oh s j=η) (λk=>s.size - k) 0 ⟨X,X⟩ ?_ ?_
 .exact L_
 rintro k ⟨hk,g⟩;refine Sz cH<|S<|Cn ?_ ?_<;>intro c
 .have h:k<s.size:=I_ c
  refine aB<|S<|aD<|U aA<|V aH<|U aA<|Y aA<|Y (ky U_)<|Y (eX (m:=(aZ s k).toNat) (k2:=(aZ s k).toNat) Z gU cO Z Z Z Z (ON s k) Z (CP s k) X)<|Y (aX Z vP Z Z Z Z (aBJ s k))<|V aH<|S<|aT (t:=30) (n:=17) (A_:=oh s k) ?_ ?_
  .all_goals refine Y aA<|Y xN<|Dm ?_<;>(refine Sp 19 (λf=>?_) λf=>?_)<;>(first|exact s_|refine M<|M<|M ?_|refine O aA<|O cI<|O aA ?_)<;>(first|refine Sp 22 (λl=>?_) λl=>?_|refine lC (t:=22) Z ?_)<;>(first|exact s_|refine M ?_|refine Fu ?_|refine O aA ?_)<;>(first|refine M ?_|refine Fu ?_|refine O xN ?_)<;>(first|refine M ?_|refine Fu ?_|refine O aA ?_)<;>(first|refine Sp 25 (λe=>?_) λe=>?_|refine lC (t:=25) Z ?_)<;>(first|exact s_|refine M ?_|refine Fu ?_|refine O aA ?_)<;>(first|refine M ?_|refine Fu ?_|refine O xN ?_)<;>(first|refine M ?_|refine Fu ?_|refine O cE ?_)<;>(first|refine M ?_|refine O cE ?_)<;>refine V cE ?_<;>exact Gj (h:=by(simp only[oh, *];rfl))
  refine Cn ?_ ?_<;>intro d
  .refine Sz aH<|aC<|Rt ?_;exact⟨by rw[cK,uY h d];rfl,Z⟩
  refine aB<|Rd iF<|V aA ?_;refine⟨k+1,⟨X,λj B=>?_⟩,X,L_⟩
  grind
 have i:k=s.size:=J_ c
 refine aP<|S<|aT (t:=2) (n:=9) (A_:=!θ (s=a6)&&θ ((s.size:Int)<=24)) ?_ ?_
 .all_goals refine Y aA<|Y FD<|Dm ?_<;>(refine Sp 34 (λm=>?_) λm=>?_)<;>(first|exact s_|refine M<|M<|M ?_|refine O aA<|O (gQ U_)<|O HV ?_)<;>refine Y cE<|Da ?_<;>exact Gj (h:=by simp_all)
 refine aC<|Rt ?_;subst i;exact⟨by rw[cK,B5 g];rfl,Z⟩
def big:Nat:=4611686018427387904
def lA{α:Type}(f:α->B_)(l:List α):Nat->B_
 |0=>a6
 |k+1=>((l[k]?).map f).getD a6
def sle(a b:B_):Bool:=jZ a b||θ (a=b)
def D9(last:B_)(t:m8):Bool:=!cK t.key||sle t.key last||θ (t.val=a6)||θ (200<(t.val.size:Int))
def VK{α:Type}(p:B_->α->Bool)(f:α->B_)(l:List α)(k:Nat):Bool:=match l[k]? with
 |some t=>p (lA f l k) t
 |none=>η
theorem EA{p}{f}{l}{k}{t:α}(h:l[k]?=N t):VK p f l k=p (lA f l k) t:=by rw[VK,h]
theorem AZ{f}{l}{k}{t:α}(h:l[k]?=N t):lA f l (k+1)=f t:=by rw[lA,h];rfl
def uA(l:List m8):Bool:=!((List.range (C l)).any (VK D9 m8.key l))&&θ ((C l:Int)<=60)
def NV(l:List m8):Prop:=C l<2^62/\∀t∈l,t.key.size<2^62/\t.val.size<2^62
theorem C6(l:List m8)(H:aF)(u:NV l):RC 305 [.pv (qV l)] (bv (uA l)) H:=by
 refine Pu ?_;have ⟨u,n⟩:=u;have i:C (l.map bZ)=C l:=g_ _;refine Bd func305 Z ntmps305<|Sz aH<|Sz aH<|S<|U aA<|Y (fP dW)<|V aA<|aD<|bA (σ:=Nat) (λk=>([(0,.pv (qV l)),(3,sv (lA m8.key l k)),(6,.pv (qV l)),(7,iv (C (l.map bZ):Int)),(8,iv (k:Int))],[])) (λk=>k<=C l/\∀j,j<k->VK D9 m8.key l j=η) (λk=>C l - k) 0 ⟨X,X⟩ ?_ ?_
 .exact Wk
 rintro k ⟨hk,h⟩;refine Sz cH<|S<|Cn ?_ ?_<;>intro d
 .have f:k<C l:=I_ d
  have ⟨t,g⟩:=aQ f;have hi:=cA (f:=bZ) g;have m:=n t (m7 g);refine aB<|S<|aD<|U (jA lZ)<|Y (by exact fG Z yG mD Z X (by simp only[Zl,bZ,bS];rfl) Z)<|Y (kl 5 aAg)<|Uu (jH mD)<|Zz<|S<|S ?_;refine aT (t:=32) (n:=24) (A_:=D9 (lA m8.key l k) t) ?_ ?_
  .all_goals refine Y (bC qO)<|Y (bT N_)<|Y (kc pP (DP t.key _ m.1))<|Y iJ<|Dm ?_<;>(refine Sp 16 (λo=>?_) λo=>?_)<;>(first|exact s_|refine M<|M<|M<|M ?_|refine O (bC qO)<|O (bT N_)<|O aA<|O (Om Z Z Z) ?_)<;>refine Y cE<|Dm ?_<;>(refine Sp 22 (λs=>?_) λs=>?_)<;>(first|exact s_|refine M<|M<|M ?_|refine O (bC rO)<|O (bT N_)<|O wV ?_)<;>refine Y cE<|Dm ?_<;>(refine Sp 27 (λp=>?_) λp=>?_)<;>(first|exact s_|refine M<|M<|M<|M ?_|refine O (bC rO)<|O (bT N_)<|O (gQ U_)<|O jB ?_)<;>refine V cE ?_<;>exact Gj (h:=by(simp only[D9,sle, *];rfl))
  refine Cn ?_ ?_<;>intro c
  .refine Sz aH<|aC<|Rt ?_;exact⟨by rw[uA,uY f ((EA g).trans c)];rfl,Z⟩
  refine aB<|Rd (bC qO)<|Y (bT N_)<|V aH<|Rd iF<|V aA ?_;refine⟨k+1,⟨X,λj B=>?_⟩,X,?_⟩
  .by_cases e:j=k
   .subst e;exact(EA g).trans c
   grind
  rw[AZ g];exact Wk
 have q:k=C l:=J_ d
 subst q;refine aP<|U aA<|Y (fP dW)<|Y HV<|V aH<|aC<|Rt ?_;exact⟨by rw[uA,B5 h,<-i];rfl,Z⟩
end Go.Proofs.C
namespace Go.Abs
section
section
variable{P:Program}{i_:Nat}{o:Oper}{E:dG}{H:aF}{J3:TypeId}{x y z:Operand}
theorem WS{e}{b}{s}{n}{m}{l}{v}(J:o.op=.index J3 x y)(D:P.underlying J3=N (.array b e))(p:∀w,(sizeOf e).run P w=.ok 1 w)(r:∀w,(isAgg e).run P w=.ok η w)
  (K:aR E x=N (.agg l)) (F:aR E y=N (.pv (.int s n))) (G:0<=n) (u:n.toNat=m) (hi:m<b) (k:l[m]?=N v):cQ P i_ o E H v H :=
 .of_run λa w I ι L g=>by
  have h:=aJ g K;have B:=(aJ g F).int_inv;generalize q:a.eval x=c at h;cases h with
  | @agg i _ hl h1 c_ =>
   have d:m<i.size:=by grind
   have j:=Array.getElem?_eq_getElem d;refine⟨i[m],?_,c_ m _ v j k⟩;have t:n<b:=by omega
   simp[execOp,J,q,B];simp[Instr.index,run_underlying D,asIntOf,G,t,p,u,part,r,j]
def HR(l:List B_):List (B_×AV):=l.map λs=>(s,.pv (.bool A))
def Al(l:List B_)(s:B_):Bool:=l.any λa=>θ (a=s)
def SJ(l:List B_)(s:B_):List B_:=if Al l s then l else l++[s]
theorem Lx(l)(s):(AB (HR l) s).getD (.pv (.bool η))=.pv (.bool (Al l s)):=by
 induction l with
 |nil=>rfl
 |cons a l b =>
  by_cases h:a=s
  .subst h;simp[HR,AB,Al]
  simp[HR,map_cons,AB,h,if_false,Al,any_cons,decide_false,Bool.false_or]at b |-;exact b
theorem Lw(l)(s):xX (HR l) s (.pv (.bool A))=HR (SJ l s):=by
 induction l with
 |nil=>rfl
 | cons a l b =>
  by_cases h:a=s
  .subst h;simp[HR,xX,SJ,Al]
  have e:SJ (a::l) s=a::SJ l s:=by
   unfold SJ Al
   grind
  rw[e];show xX ((a,.pv _)::HR l) s _=(a,.pv _)::HR _;rw[xX,a8 h,b]
theorem xQ{c b}{l}{id g}{ob}{s}{zv}(e:o.op=.lookup J3 x y η)(i:P.underlying J3=N (.map c b))(B:P.underlying c=N .string)(j:aR E x=N (.mp id g))(f:H.get id=N ob)(k:ob.g=g)
  (a:ob.rows=sT KH (HR l)) (h:aR E y=N (.pv (.str s))) (d:∀w,(zeroValue b).run P w=.ok zv w) (m:ZV zv (.pv (.bool η))):cQ P i_ o E H (.pv (.bool (Al l s))) H:=by
 rw[<-Lx];exact JB e i B j f k a h d m
theorem XD{d h}{l}{id g}{ob}{s}(f:o.op=.mapUpdate J3 x y z\/o.op=.insert J3 x y z)(j:P.underlying J3=N (.map d h))(B:P.underlying d=N .string)(k:aR E x=N (.mp id g))(e:H.get id=N ob)(n:ob.g=g)
  (c:ob.ty=C (HR l)) (b:ob.rows=sT KH (HR l)) (i:aR E y=N (.pv (.str s))) (m:aR E z=N (.pv (.bool A))):cQ P i_ o E H .any ((id,⟨g,ob.sz,C (HR (SJ l s)),sT KH (HR (SJ l s))⟩)::H) :=
 AC f j B k e n c b i m (Lw l s)
abbrev sob(l:List B_):Ob:=⟨0,0,C (HR l),sT KH (HR l)⟩
end
end
end Go.Abs
namespace Go.Proofs.C
open Go.Proofs.Tryz
open Go.Abs
def eQ(k:Int):B_:=if k=1 then⟨#[110,111,100,101]⟩else if k=2 then⟨#[119,97,121]⟩else if k=3 then⟨#[97,114,101,97]⟩else if k=4 then⟨#[114,111,117,116,101]⟩else if k=5 then⟨#[116,117,114,110]⟩else a6
abbrev Vf:List AV:=[sv a6,sv ⟨#[110,111,100,101]⟩,sv ⟨#[119,97,121]⟩,sv ⟨#[97,114,101,97]⟩,sv ⟨#[114,111,117,116,101]⟩,sv ⟨#[116,117,114,110]⟩]
theorem six{k:Int}(B:0<=k)(D:k<6):k=0\/k=1\/k=2\/k=3\/k=4\/k=5:=X
theorem Ve{k}(a:0<=k)(b:k<6):Vf[k.toNat]?=N (sv (eQ k)):=by rcases six a b with rfl|rfl|rfl|rfl|rfl|rfl<;>rfl
theorem IS(k:Int)(H:aF):RC 283 [iv k] (sv (eQ k)) H:=by
 refine Pu<|Bd func283 Z ntmps283<|Sz aH<|U (AD Z aF7 Z Z)<|Y (kl 3 aDm)<|Uu (jH sizeOf312)<|Zz<|S<|S<|aT (t:=10) (n:=7) (A_:=θ (k<0)||θ (6<=k)) ?_ ?_
 .all_goals refine Y aA<|Y cH<|Dm ?_<;>(refine Sp 7 (λd=>?_) λd=>?_)<;>(first|exact s_|refine M<|M ?_|refine O aA<|O AU ?_)<;>refine V cE ?_<;>(exact⟨⟨_,Z,G_⟩,Z,Z,Z⟩)
 refine Cn ?_ ?_<;>intro B
 .have b:¬ (k=1)/\¬ (k=2)/\¬ (k=3)/\¬ (k=4)/\¬ (k=5):=by
   grind
  refine Sz aH<|aC<|Rt ?_;exact⟨by simp only[eQ,b.1,b.2.1,b.2.2.1,b.2.2.2.1,b.2.2.2.2,if_false],Z⟩
 have c:0<=k/\k<6:=by
  simp_all
 exact aB<|U aA<|Y (eX (m:=k.toNat) (k2:=k.toNat) Z underlying312 V_ Z Z Z Z c.1 Z X X)<|Y (aX Z N_ Z Z Z Z (Ve c.1 c.2))<|V aH<|aC<|Rt<|Qq
def F0(k:Int):Int:=if k=2 then 2 else if k=3 then 3 else if k=4 then 1 else if k=5 then 3 else 0
theorem Ps{k}(a:0<=k)(b:k<6):[iv 0,iv 0,iv 2,iv 3,iv 1,iv 3][k.toNat]?=N (iv (F0 k)):=by rcases six a b with rfl|rfl|rfl|rfl|rfl|rfl<;>rfl
theorem Aa(k)(H)(b:0<=k)(c:k<6):RC 306 [iv k] (iv (F0 k)) H:=by refine Pu ?_;exact Bd func306 Z ntmps306<|Sz aH<|U (AD Z aF6 Z Z)<|Y aA<|Y (WS Z underlying319 sizeOf3 M_ Z Z b Z X (Ps b c))<|V aH<|aC<|Rt<|Qq
def dw(x y:Int):Bool:=((θ (0<=x)&&θ (x<1048576))&&θ (0<=y))&&θ (y<1048576)
theorem aG5(x y:Int)(H:aF):RC 308 [.agg [iv x,iv y]] (bv (dw x y)) H:=by
 refine Pu<|Bd func308 Z ntmps308<|U (kb 1)<|V aH<|S<|aT (t:=2) (n:=22) (A_:=dw x y) ?_ ?_
 .all_goals refine Y (bC nF)<|Y (bT M_)<|Y AU<|Dm ?_<;>(refine Sp 6 (λd=>?_) λd=>?_)<;>(first|refine M<|M<|M ?_|refine O (bC nF)<|O (bT M_)<|O cH ?_)<;>refine Y cE<|Dm ?_<;>(refine Sp 11 (λb=>?_) λb=>?_)<;>(first|refine M<|M<|M ?_|refine O (bC nE)<|O (bT M_)<|O AU ?_)<;>refine Y cE<|Dm ?_<;>(refine Sp 16 (λc=>?_) λc=>?_)<;>(first|exact s_|refine M<|M<|M ?_|refine O (bC nE)<|O (bT M_)<|O cH ?_)<;>refine Y cE<|Da ?_<;>exact Gj (h:=by(simp only[dw, *];rfl))
 exact aC<|Rt<|Qq
def PC(p:Nat->Bool)(n:Nat):Int:=match (List.range n).find? p with|some k=>(k:Int)|none => -1
def H8(p:Nat->Bool)(n:Nat):Nat:=match (List.range n).find? p with|some k=>k+1|none=>n
theorem D2{p}{n k}(D:k<n)(E:p k=A)(B:∀j,j<k->p j=η):(List.range n).find? p=N k:=F_
theorem D3{p}{n}(B:∀j,j<n->p j=η):(List.range n).find? p=ζ:=F_
theorem ui(m:AV)(l:List B_)(p:Nat->Bool)(e:Nat->aF)(E:C l<2^62)(o:∀k s,l[k]?=N s->dQ φ m [sv s] (e k) (λr H'=>r=bv (p k)/\H'=e (k+1))):
  aU φ 73 [.pv (aK l),m] (e 0) (λr H'=>r=iv (PC p (C l))/\H'=e (H8 p (C l))):=by
 have B:C (l.map S_)=C l:=g_ _;refine Bd func73 Z ntmps73<|Sz aH<|S<|U aA<|Y (fP aE)<|V aA<|aD<|bA (σ:=Nat) (λk=>([(0,.pv (aK l)),(1,m),(7,iv (C (l.map S_):Int)),(8,iv (k:Int))],e k)) (λk=>k<=C l/\∀j,j<k->p j=η) (λk=>C l - k) 0 ⟨X,X⟩ ?_ ?_
 .exact E0
 rintro k ⟨hk,c⟩;refine Sz cH<|S<|Cn ?_ ?_<;>intro f
 .have d:k<C l:=I_ f
  have ⟨s,n⟩:=aQ d;have hi:=cA (f:=S_) n;have h:=o k s n;refine aB<|S<|aD<|U aA<|V aH<|U aA<|Y aA<|Y aA<|Y (jA aY)<|Y (fK N_)<|V (dL Z Z Z (h))<|Cn ?_ ?_<;>intro g
  .refine U aA<|V aH<|aC ?_;exact cR (H':=e (k+1)) (.inr Z) Z (aI Z) Fin.refl ⟨by rw[PC,D2 d g c],by rw[H8,D2 d g c]⟩
  refine aB<|Rd iF<|V aA ?_;refine⟨k+1,⟨X,λj D=>?_⟩,X,E0⟩
  grind
 have i:k=C l:=J_ f
 subst i;refine aP<|Sz aH<|aC ?_;exact cR (H':=e (C l)) (.inr Z) Z (aI Z) Fin.refl ⟨by rw[PC,D3 c],by rw[H8,D3 c]⟩
theorem Y4(p)(n):θ (0<=PC p n)=(List.range n).any p:=by
 unfold PC
 grind
theorem BH(c)(l)(p)(b:Nat->aF)(d:C l<2^62)(e:∀k s,l[k]?=N s->dQ φ c [sv s] (b k) (λr H'=>r=bv (p k)/\H'=b (k+1))):
  aU φ 28 [.pv (aK l),c] (b 0) (λr H'=>r=bv ((List.range (C l)).any p)/\H'=b (H8 p (C l))):=by
 refine Bd func28 Z ntmps28<|Sz aH<|U aA<|Y aA<|Y (bH Z Z call73 Z (ui _ l p _ d e))<|Y AU<|V aH<|aC ?_;exact cR (.inr Z) Z (aI Z) Fin.refl ⟨by rw[Y4],Z⟩
theorem QL(L)(H):∀r∈(sob L).rows,∀a∈r,Clo H a:=by intro r d a c;have ⟨i,e⟩:=s8.1 d;obtain ⟨p,b,rfl⟩:=HB.1 e;simp only[HR,r7]at b;obtain ⟨q,_,rfl⟩:=Option.map_eq_some_iff.1 b;simp[l9,q8,or_false]at c;rcases c with rfl|rfl|rfl<;>simp
instance(L)(H):W_ (H) ((sob L).rows):=⟨QL L H⟩
def vH(o:l8)(last:B_)(L:List B_):aF:=[(37,sob L),(4,bx 1 9 [sv last]),(3,bx 1 82 [.mp 37 0]),(1,bx 6 135 ((bS o).map .pv))]
theorem aB6(o)(a)(L)(f:Nat):Clo (vH o a L) (.clo f [.ref 1 0 0 0,.ref 4 0 0 0,.ref 3 0 0 0]):=by refine .clo λx b=>?_;simp[l9,q8,or_false]at b;rcases b with rfl|rfl|rfl<;>exact .ref Z
def UR(o:l8)(last:B_)(L:List B_)(s:B_):Bool:=(θ (o.kind=2)&&θ (s=last))||(θ (o.kind=3)&&Al L s)
def OB(o:l8)(last:B_)(L:List B_)(s:B_):Bool:=UR o last L s||!cK s
theorem Jw(o:l8)(b s:B_)(L:List B_)(g:s.size<2^62):
  aU φ 307 [sv s,.ref 1 0 0 0,.ref 4 0 0 0,.ref 3 0 0 0] (vH o b L) (λr H'=>r=bv (OB o b L s)/\H'=vH o s (SJ L s)):=by
 unfold vH;refine Bd func307 Z ntmps307<|Sz aH<|S<|aT (t:=6) (n:=22) (A_:=UR o b L s) ?_ ?_
 .all_goals refine Y (bC eK)<|Y (bT M_)<|Y cI<|Dm ?_<;>(refine Sp 10 (λe=>?_) λe=>?_)<;>(first|exact s_|refine M<|M<|M ?_|refine O aA<|O (bT N_)<|O wV ?_)<;>refine Y cE<|Dm ?_<;>(refine Sp 15 (λd=>?_) λd=>?_)<;>(first|exact s_|refine M<|M<|M<|M ?_|refine O (bC eK)<|O (bT M_)<|O cI<|O aA ?_)<;>(first|refine Sp 19 (λc=>?_) λc=>?_|refine lC (t:=19) Z ?_)<;>(first|exact s_|refine M ?_|refine Fu ?_|refine O (bT isAgg82) ?_)<;>(first|refine M ?_|refine Fu ?_|refine O aA ?_)<;>(first|refine M ?_|refine Fu ?_|refine O (xQ Z mQ U_ Z Z Z Z Z jG (.inl Z)) ?_)<;>(first|refine M ?_|refine O cE ?_)<;>refine Y cE<|Da ?_<;>exact Gj (h:=by(simp only[UR, *];rfl))
 refine U (bT isAgg82)<|Y aA<|Y aA<|Uu (by exact XD (.inl Z) mQ U_ Z Z Z Z Z Z Z)<|Uu (jH V_)<|Zz<|S<|aT (t:=5) (n:=8) (A_:=UR o b L s||!cK s) ?_ ?_
 .all_goals refine Y aA<|Dm ?_<;>(refine Sp 29 (λf=>?_) λf=>?_)<;>(first|exact s_|refine M<|M<|M ?_|refine O aA<|O (kc pP (DP s _ g))<|O iJ ?_)<;>refine Y cE<|Da ?_<;>exact Gj (h:=by simp_all)
 refine aC<|cR (H':=vH o s (SJ L s)) (.inr Z) Z (aI Z) P_ ?_;exact Qq
def BZ(l:List B_):Nat->List B_
 |0=>[]
 |k+1=>SJ (BZ l k) ((l[k]?).getD a6)
def vQ(o:l8)(k:Nat):Bool:=match o.refs[k]? with
 |some s=>OB o (lA id o.refs k) (BZ o.refs k) s
 |none=>η
def UT(o:l8):Bool:=if o.kind=1 then θ ((C o.refs:Int)=0)&&dw o.x o.y else if o.kind=5 then θ ((C o.refs:Int)=3)&&(θ (o.x=0)&&θ (o.y=0))else θ (o.x=0)&&θ (o.y=0)
def xD(o:l8)(n:Int):Bool:=θ (eQ o.kind=a6)||!cK o.id||!uA o.tags||θ (n<F0 o.kind)||θ (2000<n)
def PD(o:l8):Bool:=xD o (C o.refs:Int)
def pB(o:l8):Bool:=!PD o&&(!((List.range (C o.refs)).any (vQ o))&&UT o)
def pn(o:l8):Prop:=o.id.size<2^62/\NV o.tags/\C o.refs<2^62/\∀s∈o.refs,s.size<2^62
theorem BU{k}(h:θ (eQ k=a6)=η):0<=k/\k<6:=by
 by_cases b:0<=k/\k<6
 .exact b
 have:eQ k=a6:=by
  have a:¬ (k=1)/\¬ (k=2)/\¬ (k=3)/\¬ (k=4)/\¬ (k=5):=X
  simp[eQ,a.1,a.2.1,a.2.2.1,a.2.2.2.1,a.2.2.2.2,if_false]
 rw[this]at h;simp at h
theorem TZ(o:l8)(H:aF)(x:pn o):RC 286 [av (bS o)] (bv (pB o)) H:=by
 refine Pu ?_;have ⟨p,t,y,w⟩:=x;have B:C (o.refs.map S_)=C o.refs:=g_ _;refine Bd func286 Z ntmps286<|U (kb 1)<|V aH<|S<|S<|qI (t:=36) (n:=31) (A_:=xD o (C (o.refs.map S_):Int)) ?_ ?_
 .cases hg10:(θ (eQ o.kind=a6):Bool)
  .cases hg16:(!cK o.id:Bool)
   .cases i:(!uA o.tags:Bool)
    .cases g:(θ ((C (o.refs.map S_):Int)<F0 o.kind):Bool)
     .refine aN a7<|Cq (bC eK)<|Cq (bT M_)<|Cq (kc call283 (IS o.kind _))<|Cq wV<|Cq aA<|Nf (bC rR)<|Nf (bT N_)<|Nf (kc pP (DP o.id _ p))<|Nf iJ<|Cq tB<|Cq aA<|Nf (bC gL)<|Nf (bT dP)<|Nf (kc call305 (C6 o.tags _ t))<|Nf iJ<|Cq tB<|Cq aA<|Nf (bC eJ)<|Nf (bT aG)<|Nf (fP aE)<|Nf (bC eK)<|Nf (bT M_)<|Nf (kc call306 (Aa o.kind _ (BU hg10).1 (BU hg10).2))<|Nf cH<|Cq tB<|Cq aA<|Nf (bC eJ)<|Nf (bT aG)<|Nf (fP aE)<|Nf jB<|Cq tB<|bF<|Kr ?_;exact⟨Z,⟨_,Z,by(simp only[xD,hg10,hg16,i,g];rfl)⟩,Z,Z,Z⟩
     refine aN a7<|Cq (bC eK)<|Cq (bT M_)<|Cq (kc call283 (IS o.kind _))<|Cq wV<|Cq aA<|Nf (bC rR)<|Nf (bT N_)<|Nf (kc pP (DP o.id _ p))<|Nf iJ<|Cq tB<|Cq aA<|Nf (bC gL)<|Nf (bT dP)<|Nf (kc call305 (C6 o.tags _ t))<|Nf iJ<|Cq tB<|Cq aA<|Nf (bC eJ)<|Nf (bT aG)<|Nf (fP aE)<|Nf (bC eK)<|Nf (bT M_)<|Nf (kc call306 (Aa o.kind _ (BU hg10).1 (BU hg10).2))<|Nf cH<|Cq tB<|Cq aA<|Of<|Of<|Of<|Of<|Cq DI<|bF<|Kr ?_;exact⟨Z,⟨_,Z,by(simp only[xD,hg10,hg16,i,g];rfl)⟩,Z,Z,Z⟩
    refine aN a7<|Cq (bC eK)<|Cq (bT M_)<|Cq (kc call283 (IS o.kind _))<|Cq wV<|Cq aA<|Nf (bC rR)<|Nf (bT N_)<|Nf (kc pP (DP o.id _ p))<|Nf iJ<|Cq tB<|Cq aA<|Nf (bC gL)<|Nf (bT dP)<|Nf (kc call305 (C6 o.tags _ t))<|Nf iJ<|Cq tB<|Cq aA<|Of<|Of<|Of<|Of<|Of<|Of<|Of<|Cq DI<|Cq aA<|Of<|Of<|Of<|Of<|Cq cE<|bF<|Kr ?_;exact⟨Z,⟨_,Z,by(simp only[xD, *];rfl)⟩,Z,Z,Z⟩
   refine aN a7<|Cq (bC eK)<|Cq (bT M_)<|Cq (kc call283 (IS o.kind _))<|Cq wV<|Cq aA<|Nf (bC rR)<|Nf (bT N_)<|Nf (kc pP (DP o.id _ p))<|Nf iJ<|Cq tB<|Cq aA<|Of<|Of<|Of<|Of<|Cq DI<|Cq aA<|Of<|Of<|Of<|Of<|Of<|Of<|Of<|Cq cE<|Cq aA<|Of<|Of<|Of<|Of<|Cq cE<|bF<|Kr ?_;exact⟨Z,⟨_,Z,by(simp only[xD, *];rfl)⟩,Z,Z,Z⟩
  refine aN a7<|Cq (bC eK)<|Cq (bT M_)<|Cq (kc call283 (IS o.kind _))<|Cq wV<|Cq aA<|Of<|Of<|Of<|Of<|Cq DI<|Cq aA<|Of<|Of<|Of<|Of<|Cq cE<|Cq aA<|Of<|Of<|Of<|Of<|Of<|Of<|Of<|Cq cE<|Cq aA<|Of<|Of<|Of<|Of<|Cq cE<|bF<|Kr ?_;exact⟨Z,⟨_,Z,by(simp only[xD, *];rfl)⟩,Z,Z,Z⟩
 refine Cn ?_ ?_<;>intro l
 .refine Sz aH<|aC<|Rt ?_;exact⟨by rw[pB,PD,<-B,l];rfl,Z⟩
 refine aB<|U (wD (id:=37) KH Z Z)<|Y (kl 3 aGE)<|Uu (jH sizeOf82)<|Zz<|U (kl 4 Uz)<|Uu (jH V_)<|Zz<|vy ([(1,.ref 1 0 0 0),(5,.clo 307 [.ref 1 0 0 0,.ref 4 0 0 0,.ref 3 0 0 0])]) (vH o a6 []) ?_ ?_
 .refine Rd (iE Z Z)<|Da ?_;exact(cJ.wk (Ea<|Ec (aB6 _ _ _ _)<|T_) (Hc (QL _ _)<|Hb<|Ha<|Hb<|T_) T_)
 refine S<|U (bC eJ)<|Y (bT aG)<|Y aA<|V (kc call28 (BH _ o.refs (vQ o) (λk=>vH o (lA id o.refs k) (BZ o.refs k)) y (λk s q=>dQ.clo call307 (by rw[vQ,q,AZ q];simp only[BZ,q];exact Jw o _ s _ (w s (m7 q)))))) ?_;refine Cn ?_ ?_<;>intro n
 .refine Sz aH<|aC<|Rt ?_;exact⟨by rw[pB,n];simp,Z⟩
 have f:pB o=UT o:=by have h:=l;rw[B]at h;rw[pB,PD,h,n];rfl
 rw[f];clear f;generalize lA id o.refs (H8 (vQ o) (C o.refs))=E;generalize BZ o.refs (H8 (vQ o) (C o.refs))=D;unfold vH;refine aB<|S<|U (bC eK)<|V (bT M_)<|aD<|U cI<|Da<|Cn ?_ ?_<;>intro j
 .refine S<|aT (t:=2) (n:=11) (A_:=θ ((C (o.refs.map S_):Int)=0)&&dw o.x o.y) ?_ ?_
  .all_goals refine Y (bC eJ)<|Y (bT aG)<|Y (fP aE)<|Y cI<|Dm ?_<;>(refine Sp 51 (λv=>?_) λv=>?_)<;>(first|exact s_|refine M<|M<|M ?_|refine O (bC nD)<|O (by exact aW Z eM sizeOf104 Z Z Z Z (by simp only[Zl,bZ,bS];rfl) Z)<|O (kc call308 (aG5 o.x o.y _)) ?_)<;>refine Y cE<|Da ?_<;>exact Gj (h:=by simp_all)
  refine aC<|Rt ?_;exact⟨by rw[UT,b6 (b9 j),<-B],Z⟩
 refine U cI<|Da<|Cn ?_ ?_<;>intro m
 .refine S<|aT (t:=2) (n:=12) (A_:=θ ((C (o.refs.map S_):Int)=3)&&(θ (o.x=0)&&θ (o.y=0))) ?_ ?_
  .all_goals refine Y (bC eJ)<|Y (bT aG)<|Y (fP aE)<|Y cI<|Dm ?_<;>(refine Sp 62 (λu=>?_) λu=>?_)<;>(first|exact s_|refine M<|M<|M<|M ?_|refine O (bC nD)<|O (by exact aW Z eM sizeOf104 Z Z Z Z (by simp only[Zl,bZ,bS];rfl) Z)<|O (oU MP)<|O (B9 Z Z Z Z Z nA (S1 _ _ _ _)) ?_)<;>refine Y cE<|Da ?_<;>exact Gj (h:=by simp_all)
  refine aC<|Rt ?_;exact⟨by rw[UT,a8 (b_ j),b6 (b9 m),<-B],Z⟩
 refine aB<|U (bC nD)<|Y (by exact aW Z eM sizeOf104 Z Z Z Z (by simp only[Zl,bZ,bS];rfl) Z)<|Y (oU MP)<|Y (B9 Z Z Z Z Z nA (S1 _ _ _ _))<|V aH<|aC<|Rt ?_;exact⟨by rw[UT,a8 (b_ j),a8 (b_ m)],Z⟩
section
def aBd(B:Nat)(l:List B_):Prop:=C l<=B/\∀s,s∈l->s.size<=B
section
variable{B n:Nat}{ps:List PV}
theorem Rk(h:Sh φ B (n+2) 22 ps):∃l,ps=[aK l]/\aBd B l:=by
 obtain ⟨l,rfl,b,e⟩:=Wm aE h (λr c=>by
  obtain ⟨s,rfl,d⟩:=aBn U_ c;exact⟨s,Z,d⟩)
 exact⟨l,Z,b,e⟩
end
end
end Go.Proofs.C
namespace Go.Proofs.C
open Go.Proofs.Tryz
open Go.Abs Go.ChangeShapes Go.WideShapes Go.ChangeAt Go.RowKit
theorem own:ownKnob φ.godebug=ζ:=rfl
theorem Ac:laidOutB φ=A:=by kernel_rfl
theorem qd{H}{l}(a:Rows.uptoSmall H l=A):Rows.uptoBulkAll l<=1048576:=b9 a
theorem Hd{H}{l r:List (DataW H)}{n}(h:Rows.uptoBulkAll (l++r)<=n):Rows.uptoBulkAll l<=n:=by
 induction l generalizing n with
 |nil=>simp[Rows.uptoBulkAll]
 |cons x l a =>
  simp[cons_append,Rows.uptoBulkAll]at h |-;have:=a (n:=n - Rows.uptoBulk x) X;omega
end Go.Proofs.C
namespace Go.Abs
theorem cJ.get'{G0}{E E'}{H H'}(h:Uc E E')(a:∀j,H'.get j=H.get j):cJ G0 E H E' H':=(cJ.e0 h).trans (cJ.get (λ_=>rfl) a)
theorem yC(id)(o o')(H:aF)(j):aF.get ((id,o)::H) j=aF.get ((id,o)::(id,o')::H) j:=by cases e:Nat.beq id j<;>simp[aF.get,e]
theorem cJ.dup{G0}{E E'}{H:aF}{id}{o o'}(h:Uc E E'):cJ G0 E ((id,o)::(id,o')::H) E' ((id,o)::H):=cJ.get' h (yC _ o _ H)
theorem P9.app{D H G0}(b:∀p∈D,G0.get p.1=ζ):P9 G0 H (D++H):=λid a=>by
 rw[gS];cases e:D.get _ with
 |none=>rfl
 |some o =>
  have:=b _ (eI e);rw[this]at a;cases a
theorem Fin.pops'{G0 H}{r}(D)(c:Clo H r)(e:dO H)(b:∀p∈D,H.get p.1=ζ)(d:∀p∈D,G0.get p.1=ζ):Fin G0 (D++H) r H r:=by intro G a I g w v i h f;subst a;exact⟨I,g,i.restrict (Sub.app b) e,h.restrict (Sub.app b) (P9.app d),f.restrict (Sub.app b) c⟩
end Go.Abs
namespace Go.Abs
open Go.Proofs
theorem Rel.grown{I}{ι}{H}{w}(i)(g:Rel I ι H w):Rel I ι H (Sort.grow w i)/\Step I ι H w I ι H (Sort.grow w i):=by
 have k:∀b,b<w.heap.size->(Sort.grow w _).heap[b]?=w.heap[b]?:=λb f=>by
  show (w.heap++i)[b]?=_
  grind
 have e:Step I ι H w I ι H (Sort.grow w i):=by
  refine⟨Z,Z,Z,?_,λa B _=>?_,λ_ h=>h,λ_ h=>.inl h,λ_ h=>.inl h,λb f _=>k b f,λ_ o h=>⟨o,h,h_ _,λ_=>⟨Z,Z,λ_=>h_ _⟩⟩⟩
  .simp_all
  unfold World.frozen?
  simp_all
 refine⟨⟨λb f=>?_,λj o l=>?_,g.inj,e.glob g⟩,e⟩
 .have:=g.imm b f
  grind
 exact(g.obj j o l).keep Z (λb c _ f=>⟨k b f,λh=>h⟩) (λr _ a _ v m=>m.mono g e)
def fN(l:List B_):List (List AV):=l.map λs=>[.pv (.str s)]
def xm(s:B_):List UInt8:=ν (μ s)
def ofU(l:List UInt8):B_:=⟨l.toArray⟩
theorem zo(s):ofU (xm s)=s:=rfl
def jS(l:List B_):List B_:=((l.map xm).mergeSort λx y=>θ (x<=y)).map ofU
theorem jO(l):C (jS l)=C l:=by simp[jS,length_mergeSort]
theorem Zb(l:List _):(l.map xm).map ofU=l:=by
 rw[map_map]
 conv=>rhs;rw[<-map_id l]
 rfl
theorem pU(l):(jS l).Perm l:=by have h:=(mergeSort_perm (l.map xm) (λx y=>θ (x<=y))).map ofU;rw[Zb]at h;exact h
theorem ma{w}{b}{cs}{t}{f}(h:w.heap[b]?=N (.cells cs t f))(d):(Sort.putRow Proofs.encStr w b 0 d)=w.setRow b (Sort.putCells Proofs.encStr 0 d cs):=by
 unfold Sort.putRow Sort.mapBlock World.setRow;congr 1;apply Array.ext_getElem?;intro k;simp[Array.getElem?_modify];by_cases e:b=k
 .subst e;simp[h,Sort.onCells]
 grind
theorem Ky{P:Program}{ρ:Shelf.Ren}(f:SlLaysM.n6 P ρ)(c:List B_){id g n ty:Nat}{H:aF}(L:H.get id=N ⟨g,1,ty,fN c⟩)(hn:n=C c)(hl:C c<2^62):
  aU P (ρ.f 6) [.osl id g 0 n] H (λr H'=>r=.tup []/\H'=(id,⟨g,1,ty,fN (jS c)⟩)::H):=by
 subst hn;intro I y_ w vs F W hv;obtain ⟨v,rfl⟩:∃v,vs=#[v]:=by
  match vs,W with
  |⟨[v]⟩,_=>exact⟨v,Z⟩
 have h1:=hv 0 v _ Z Z;have ⟨_,t⟩:=kB h1 L Z;have h:∀r∈fN (jS c),C r=1:=λr F=>by
  obtain ⟨s,_,rfl⟩:=mem_map.1 F;rfl
 have o:aF.get ((id,⟨g,1,ty,fN (jS c)⟩)::H) id=N ⟨g,1,ty,fN (jS c)⟩:=by simp[aF.get,qG]
 have p:∀j,j≠id->aF.get ((id,⟨g,1,ty,fN (jS c)⟩)::H) j=H.get j:=λj J=>by simp[aF.get,jX (Ne.symm J)]
 rcases t with⟨b,R,oo,Q,u_,c3⟩|⟨Q,u_,_,c4⟩
 .have v_:oo=0:=X
  subst v_ u_;have G:=(F.obj id _ L).cells (succ_pos 0);obtain ⟨p1,p2,⟨b',cap',d,D,i_,e3,e4,e5,e5',l⟩|⟨D,_⟩⟩:=G
  .rw [Q] at D;cases D;simp only [Nat.mul_one] at e4 l;have d_:C (fN c)=C c:=by simp [fN]
   simp only[d_]at e5;have A_:∀(i:Nat) (s:B_),c[i]?=N s->d[i]?=N (.string s):=λi s E=>by
    have ⟨u,q1,q2,q3⟩:=l i [.pv (.str s)] (by rw[fN,r7,E];rfl) 0 _ Z;rw[q3.str_inv]at q1;exact q1
   have m:Sort.Holds Proofs.encStr w b 0 (c.map xm).toArray:=by
    intro j J;simp only[size_toArray,g_]at J;refine⟨?_,?_⟩
    .have:=A_ j _ (m_ J);rw[r8];simp only[World.cell?,i_,this];congr 1;rw[getElem!_pos _ _ G_];simp only[getElem_toArray,getElem_map];show N (Value.string c[j])=N (Value.string (ofU (xm c[j])));rfl
    simp[World.frozen?,i_]
   have q:=AnyM.slices_Sort_string f b 0 (R - 0) (c.map xm) w m (Array.getElem?_eq_some_iff.1 i_).1 G_;rw[g_]at q;refine q.mono ?_;rintro e w' ⟨rfl,n,os,rfl⟩;have ⟨J3,f_⟩:=Rel.drawn (w':=Sort.ahead w n) F Z Z Z Z;have B:(Sort.ahead w n).heap[b]?=N (.cells d ty (0,0)):=i_;rw[ma B];have ⟨m1,m2⟩:=Rel.update (H':=(id,⟨g,1,ty,fN (jS c)⟩)::H) (ob':=⟨g,1,ty,fN (jS c)⟩) (cs':=Sort.putCells Proofs.encStr 0 ((c.map xm).mergeSort λx y=>θ (x<=y)).toArray d) J3 L Q B (h_ _) Z Z
    (λ_=>by simp[fN,jO]) (by rw[Sort.putCells];simp;omega) (by simp only[fN,g_,jO];omega) h (λi r z_ k a hk=>by
     rw[fN,r7]at z_;obtain ⟨s,E,rfl⟩:=Option.map_eq_some_iff.1 z_;cases k with
     |succ k=>simp at hk
     |zero =>
      cases hk;have z:=(m9.1 E).1;rw[jO]at z;have H4:i<d.size:=X
      refine⟨.string s,?_,Z,.pv (.str s)⟩;rw[Nat.mul_one,Nat.add_zero,Sort.putCells,Array.getElem?_mapIdx,Array.getElem?_eq_getElem H4,Option.map_some];have K:i<C ((c.map xm).mergeSort λx y=>θ (x<=y)):=by rw[length_mergeSort,g_];exact z
      rw[b6 ⟨k_ _,by simpa using K⟩];congr 1;rw[Nat.sub_zero,getElem!_pos _ _ (by simpa using K)];rw[jS,r7]at E;obtain ⟨u,hu,rfl⟩:=Option.map_eq_some_iff.1 E;simp only[getElem_toArray];rw[(m9.1 hu).2];rfl) o p
   have ⟨n1,n2⟩:=Rel.grown os m1;exact⟨_,_,I,y_,.tuple #[],Z,⟨Z,Z⟩,.tup Z H_,n1,(f_.trans m2).trans n2⟩
  rw[Q]at D;cases D
 subst u_;have h0:c=[]:=eq_nil_of_length_eq_zero c4;subst h0;refine(AnyM.slices_Sort_string_none f ζ 0 w).mono ?_;rintro e w' ⟨rfl,rfl⟩;have hg:∀j,aF.get ((id,⟨g,1,ty,fN (jS [])⟩)::H) j=H.get j:=λj=>by
  by_cases e:j=id
  .subst e;rw[o,L,show jS []=[]by simp[jS]]
  exact p j e
 have ⟨J3,f_⟩:=F.congr hg;exact⟨_,_,I,y_,.tuple #[],Z,⟨Z,Z⟩,.tup Z H_,J3,f_⟩
def aV(n:Int):B_:=⟨(Lib.itoa n).toArray⟩
theorem itoa_c{P}{ρ}(L:LaysM.n171 P ρ){G}(B:(G,GV.ints .u64 Lib.pow10Tab)∈mh)(q:P.globalNamed "internal/strconv.uint64pow10" = N G)(n)(j : -9223372036854775808<=n)(s:n<=9223372036854775807)(H):
  aU P (ρ.f 171) [.pv (.int .i64 n)] H (λr H'=>r=.pv (.str (aV n))/\H'=H):=by
 intro I m w h g d z;obtain ⟨v,rfl⟩:∃v,h=#[v]:=by
  match h,d with
  |⟨[v]⟩,_=>exact⟨v,Z⟩
 have x:=(z 0 v _ Z Z).int_inv;subst x;have b:Lib.TabIs P w "internal/strconv.uint64pow10" .u64 Lib.pow10Tab:=by
  have ⟨_,cs,t,f,i,y⟩:=g.glob _ B;have c:=y;subst c;simp[Lib.TabIs,World.var?,q,Option.bind_some,i]
 refine(Any.strconv_Itoa L n j s w b).mono ?_;rintro e w' ⟨rfl,k,os,rfl⟩;obtain ⟨o,p⟩:=Rel.drawn (w':=w.drewN k) g Z Z Z Z;obtain ⟨l,u⟩:=Rel.grown _ o;exact⟨_,_,I,m,_,Z,⟨Z,Z⟩,.pv (.str _),l,p.trans u⟩
theorem mul64_c{P}{ρ}(L:Lays.n264 P ρ)(x y:Nat)(k:x<18446744073709551616)(m:y<18446744073709551616)(H):
  aU P (ρ.f 264) [.pv (.int .u64 x),.pv (.int .u64 y)] H (λr H'=>r=.tup [.pv (.int .u64 ((x*y / 18446744073709551616:Nat))),.pv (.int .u64 ((x*y % 18446744073709551616:Nat)))]/\H'=H):=by
 intro I o w h l f g;obtain ⟨v,u,rfl⟩:∃v u,h=#[v,u]:=by
  match h,f with
  |⟨[v,u]⟩,_=>exact⟨v,u,Z⟩
 have j:=(g 0 v _ Z Z).int_inv;have n:=(g 1 u _ Z Z).int_inv;subst j n;refine(Any.bits_Mul64 L x y k m w).mono ?_;rintro e w' ⟨rfl,rfl⟩;refine⟨_,_,I,o,_,Z,⟨Z,Z⟩,.tup Z λi v a c d=>?_,l,Step.refl _ _ _ _⟩
 match i,c,d with
 |0,c,d=>cases c;cases d;exact .pv (.int _ _)
 |1,c,d=>cases c;cases d;exact .pv (.int _ _)
 |i+2,c,d=>simp at c
end Go.Abs
section
namespace Go.Proofs
open Go.RowKit Go.Sort Go.Shelf
def aHf:Go.Shelf.Ren:=⟨λ|171=>79|243=>134|246=>192|283=>240|284=>241|285=>242|286=>243|129=>190|317=>271|318=>272|319=>273|320=>274|337=>298|338=>299|n=>n,λ|3=>3|9=>9|2=>2|4=>4|171=>249|0=>0|53=>169|37=>159|5=>5|173=>251|212=>286|51=>213|20=>20|213=>287|46=>157|232=>317|233=>318|n=>n,λ|17=>2|18=>6|19=>7|n=>n⟩
theorem aHl:Go.Proofs.LaysM.n171 φ aHf:={
  mixed:=by rfl
  f129:=Tryz.func190.trans C_
  f171:=Tryz.func79.trans C_
  f243:=Tryz.func134.trans C_
  f246:=Tryz.func192.trans C_
  f283:=Tryz.func240.trans C_
  f284:=Tryz.func241.trans C_
  f285:=Tryz.func242.trans C_
  f286:=Tryz.func243.trans C_
  f317:=Tryz.func271.trans C_
  f318:=Tryz.func272.trans C_
  f319:=Tryz.func273.trans C_
  f320:=Tryz.func274.trans C_
  f337:=Tryz.func298.trans C_
  f338:=Tryz.func299.trans C_
  t0:=EH
  a0:=Tryz.isAgg0
  z0:=Tryz.sizeOf0
  v0:=Tryz.zeroValue0
  t2:=Tryz.underlying2
  a2:=Tryz.isAgg2
  z2:=Tryz.sizeOf2
  v2:=Tryz.zeroValue2
  t3:=Tryz.underlying3
  a3:=Tryz.isAgg3
  z3:=Tryz.sizeOf3
  v3:=tH
  t4:=fO
  a4:=nU
  z4:=Tryz.sizeOf4
  v4:=jG
  t5:=dI
  a5:=vP
  z5:=cO
  v5:=tG
  t9:=Tryz.underlying9
  a9:=Tryz.isAgg9
  z9:=Tryz.sizeOf9
  v9:=gY
  t20:=Tryz.underlying20
  a20:=wR
  z20:=Tryz.sizeOf20
  v20:=Tryz.zeroValue20
  t37:=dN
  a37:=eL
  z37:=rA
  v37:=Tryz.zeroValue159
  t46:=lP
  a46:=Tryz.isAgg157
  z46:=BL
  v46:=uI
  t51:=Tryz.underlying213
  a51:=Tryz.isAgg213
  z51:=Tryz.sizeOf213
  v51:=Tryz.zeroValue213
  t53:=gV
  a53:=yH
  z53:=vO
  v53:=uH
  t171:=Tryz.underlying249
  a171:=Tryz.isAgg249
  z171:=Tryz.sizeOf249
  v171:=Tryz.zeroValue249
  t173:=Tryz.underlying251
  a173:=Tryz.isAgg251
  z173:=Tryz.sizeOf251
  v173:=Tryz.zeroValue251
  t212:=Tryz.underlying286
  a212:=Tryz.isAgg286
  z212:=Tryz.sizeOf286
  v212:=Tryz.zeroValue286
  t213:=Tryz.underlying287
  a213:=Tryz.isAgg287
  z213:=Tryz.sizeOf287
  t232:=Tryz.underlying317
  a232:=Tryz.isAgg317
  z232:=Tryz.sizeOf317
  v232:=Tryz.zeroValue317
  t233:=Tryz.underlying318
  a233:=Tryz.isAgg318
  z233:=Tryz.sizeOf318
  v233:=Tryz.zeroValue318
  g17:=by kernel_rfl
  g18:=by kernel_rfl
  g19:=by kernel_rfl
  i0:=by rfl
  i2:=by rfl
  i3:=by rfl
  i4:=by rfl
  i5:=by rfl
  i9:=by rfl
  i20:=by rfl
  i37:=by rfl
  i46:=by rfl
  i51:=by rfl
  i53:=by rfl
  i171:=by rfl
  i173:=by rfl
  i212:=by rfl
  i232:=by rfl
  i233:=by rfl
  m17:=by kernel_rfl
  m18:=by kernel_rfl
  m19:=by kernel_rfl}
end Go.Proofs
namespace Go.Proofs.C
open Go.Proofs.Tryz
open Go.Abs
theorem qM(n)(c : -9223372036854775808<=n)(b:n<=9223372036854775807)(H):RC 79 [iv n] (sv (aV n)) H :=Go.Abs.itoa_c aHl (.head _) (Z) n c b H
end Go.Proofs.C
end
namespace Go.Abs
variable{d id g n:Nat}{J3 e f_:TypeId}
section
section
variable{P:Program}{G0:aF}{i_:Nat}{E:dG}{H:aF}{ops:Array Oper}{K:dG->aF->Prop}{o:Oper}{rest:List Oper}
def ALx(P:Program)(G0:aF)(i_:Nat)(ops:Array Oper)(K:dG->aF->Prop)(l:List Oper)(E:dG)(H:aF)(d:Nat)(F:mG->Value->Prop):Prop :=∀G:Entry,G.H=G0->∀(a:Act) (w:World) (I:Nat->Prop) (ι:mG),uU G.ds G.w w a.defers->a.tmps.size=i_->Rel I ι H w->Step G.I G.ι G.H G.w I ι H w->lY w I ι H E a->(∃c,a.tmps[d]?=N c/\F ι c) ->
  ∀ro,(ro=ζ\/l.all Oper.noDefer=A)->∀Q:Exit->Act->World->Prop,(∀E H a w,K E H->St G i_ E H a w->Q .normal a w)->wpListIn (RF ro) 0 P ops Q l a w
def aD1(id n:Nat)(ι:mG)(c:Value):Prop:=∃b cap,ι id=N (b,cap)/\c=.slice (N ⟨b,0,ζ⟩) n n
theorem KV(a:Act)(d:Nat)(c):(a.put (N d) c).tmps.size=a.tmps.size:=by simp[Act.put]
theorem Nc(a:Act){d}(c)(h:d<a.tmps.size):(a.put (N d) c).tmps[d]?=N c:=by simp[Act.put,h]
theorem Em(a:Act){b:Nat}(c)(h:b≠d):(a.put (N b) c).tmps[d]?=a.tmps[d]?:=by simp[Act.put,h]
theorem MT{p:Operand}{ob:Ob}(l:o.guard=ζ)(k:o.dst=N d)(j:Nat.blt d i_=A)(t:o.op=.slice J3 p ζ ζ ζ)(W:P.underlying J3=N (.array n e))(y:∀w,(sizeOf e).run P w=.ok 1 w)
  (z:aR E p=N (.ref id g 0 0)) (x:H.get id=N ob) (L:ob.g=g) (B:ALx P G0 i_ ops K rest ((d,.any)::E) H d (aD1 id n)):AL P G0 i_ ops K (o::rest) E H:=by
 intro G u a w f c h Q v;refine wpListIn_plain l λo_ F=>?_;refine Oper.wpW_in (oD h).1 ?_;have ⟨I,R,r,m,s⟩:=f.rel;have ⟨b,q,J,D⟩:=qK (aJ s z) x L;have τ:d<i_:=F_
 have i:(execOp a.eval o).run P w=.ok (.value (.slice (N ⟨b,0,ζ⟩) n n)) w:=by
  simp only[execOp,t,D,Option.map_none];simp[Instr.sliceAt,run_underlying W,Instr.sureAddr,Instr.sliceBounds,y,Addr.add_lit]
 unfold Oper.wpW;rw[i];show o_ (a.put o.dst _) w;rw[k];exact F _ _ (B G u _ w I R (by exact f.defers) (by rw[KV];exact f.size) r m (lY.put (d:=some d) r (Step.refl _ _ _ _) s (.any _) (by rw[f.size];exact j)) ⟨_,Nc a _ (by rw[f.size];omega),b,q,J,Z⟩ c (oD h).2 Q v)
theorem Tg{f:Nat}{F}{x}{v}(i:o.guard=ζ)(J:o.dst=N f)(h:Nat.blt f i_=A)(g:f≠d)(q:o.op=.move x)(r:aR E x=N v)(z:ALx P G0 i_ ops K rest ((f,v)::E) H d F):ALx P G0 i_ ops K (o::rest) E H d F:=by
 intro G s a w I B p j m k l ⟨c,u,y⟩ d_ b Q t;refine wpListIn_plain i λn D=>?_;refine Oper.wpW_in (oD b).1 ?_;have e:(execOp a.eval o).run P w=.ok (.value (a.eval x)) w:=by simp[execOp,q]
 unfold Oper.wpW;rw[e];show n _ w;rw[J];exact D _ _ (z G s _ w I B (by exact p) (by rw[KV];omega) m k (lY.put (d:=some f) m (Step.refl _ _ _ _) l (aJ l r) (by rw[j];exact h)) ⟨c,by rw[Em a _ g];exact u,y⟩ d_ (oD b).2 Q t)
def mW(s:List UInt8):List AV:=s.map λb=>.pv (.int .u8 b.toNat)
theorem zO(s):C (mW s)=C s:=g_ _
theorem ey{D:TypeId}{y:Operand}{e_ m J3:Nat}{cells:List AV}{s:B_}(A_:o.guard=ζ)(hd:o.dst=N e_)(z_:Nat.blt e_ i_=A)(ho:o.op=.call {callee:=.builtin .copy,args:=#[.tmp d,y],argTypes:=#[D,f_]})(hD:P.underlying D=N (.slice e))(hs:∀w,(sizeOf e).run P w=.ok 1 w)
  (hH:H.get id=N ⟨g,n,J3,[cells]⟩) (y_:0<n) (hy:aR E y=N (.pv (.str s))) (hm:min s.size n=m)
  (hk:AL P G0 i_ ops K rest ((e_,.pv (.int .i64 m))::E) ((id,⟨g,n,J3,[mW (s.data.toList.take m)++cells.drop m]⟩)::H)):ALx P G0 i_ ops K (o::rest) E H d (aD1 id n):=by
 intro G hG a w I ι o_ c_ L x he ⟨c,hc,b,cap,t,R⟩ ro H4 Q hq;refine wpListIn_plain A_ λK' hK=>?_;refine Oper.wpW_in (oD H4).1 ?_;have j:=(aJ he hy).str_inv;have e1:a.eval (.tmp d)=.slice (N ⟨b,0,ζ⟩) n n:=by simp[Act.eval,hc,R]
 obtain ⟨p1,p2,⟨b',cap',u_,J,f2,f3,f4,f5,τ,f6⟩|⟨J,_⟩⟩:=(L.obj id _ hH).cells y_
 rotate_left
 .rw[t]at J;cases J
 rw[t]at J;cases J;have B:C cells=n:=p2 cells H_;have κ:m<=s.size:=X
 have ρ:m<=n:=X
 simp only[length_singleton]at f5;have σ:n<=u_.size:=by rw[f4];exact Nat.le_mul_of_pos_left _ X
 have f:min m s.data.size=m:=by have:s.data.size=s.size:=rfl;omega
 have l:((s.extract 0 m).data.map λb=>Value.int .u8 b.toNat).toList=(s.data.toList.take m).map λb=>Value.int .u8 b.toNat:=H_
 have p:=run_storeCells_at P b 0 J3 ((s.data.toList.take m).map λb=>Value.int .u8 b.toNat) 0 u_ w f2 G_ (by intro v hv;obtain ⟨b,_,rfl⟩:=mem_map.1 hv;rfl);simp only[Nat.add_zero,r8,take_zero,nil_append,g_,n_,Array.length_toList]at p;rw[f]at p;have W:C (mW (s.data.toList.take m)++cells.drop m)=n:=by
  rw[j7,zO,n_,q6,Array.length_toList,f,B];omega
 have ⟨k2,v_⟩:=Rel.update (H':=(id,⟨g,n,J3,[mW (s.data.toList.take m)++cells.drop m]⟩)::H) (ob':=⟨g,n,J3,[mW (s.data.toList.take m)++cells.drop m]⟩)
  (cs' := ((s.data.toList.take m).map (λb => Value.int .u8 b.toNat) ++ u_.toList.drop m).toArray) L hH t f2 (h_ _) Z Z (λ_ => h_ _) (by
   grind) (by simpa using f5) (by intro r z;rw[q9]at z;subst z;exact W) (λi r hi k a' h=>by
    cases i with
    |succ i=>simp at hi
    | zero =>
     simp only[getElem?_cons_zero,Option.some.injEq]at hi;subst hi;rw[Nat.zero_mul,r8];simp only[getElem?_toArray];by_cases ck:k<m
     .rw[getElem?_append_left (by rw[zO,n_,Array.length_toList,f];exact ck),mW,r7]at h;rw[getElem?_append_left (by rw[g_,n_,Array.length_toList,f];exact ck),r7];cases e:(s.data.toList.take m)[k]? with
      |none=>rw[e]at h;cases h
      |some q =>
       rw[e]at h;cases h;exact⟨.int .u8 q.toNat,Z,Z,.pv (.int _ _)⟩
     rw[getElem?_append_right (by rw[zO,n_,Array.length_toList,f];omega),zO,n_,Array.length_toList,f,getElem?_drop,show m+(k - m)=k by omega]at h;have ⟨u,q1,q2,q3⟩:=f6 0 cells Z k a' h;rw[Nat.zero_mul,r8]at q1;refine⟨u,?_,q2,q3⟩;rw[getElem?_append_right (by rw[g_,n_,Array.length_toList,f];omega),g_,n_,Array.length_toList,f,getElem?_drop,show m+(k - m)=k by omega]
     simpa using q1) (get_cons_same _ _ _) (λj hj=>get_cons_other _ _ hj)
 have F:Nat.min s.size n=m:=hm;unfold Oper.wpW execOp;simp only[ho,resolve,invoke,builtin,Sem.run_bind,Sem.run_pure,Result.andThen_ok,map_toArray,map_cons,map_nil,e1,j,Builtin.copy_,run_underlying hD,hs];simp only[getElem?_toArray,getElem?_cons_zero,getElem?_cons_succ,run_underlying hD,Builtin.lenOf,Builtin.firstCells,Sem.run_bind,Sem.run_pure,Result.andThen_ok,hs,F,l,p];show K' (a.put o.dst _) _;rw[hd];refine hK _ _ (hk G hG _ _ ⟨?_,?_,I,ι,k2,x.trans v_,lY.put (d:=N e_) L v_ he (.pv (.int _ _)) (by rw[c_];exact z_)⟩ ro (oD H4).2 Q hq)
 .rw[mS];exact o_.step L v_
 rw[KV];exact c_
theorem aA9{s f:Nat}{bs:List UInt8}{r:B_}(t:o.guard=ζ)(hd:o.dst=N s)(x:Nat.blt s i_=A)(ho:o.op=.convert f_ J3 (.tmp d))(hS:P.underlying f_=N (.slice e))(e_:P.underlying e=N (.int .u8))(hT:P.underlying J3=N .string)
  (u_:H.get id=N ⟨g,n,f,[mW bs]⟩) (B:0<n) (z:(⟨bs.toArray⟩:B_)=r) (hk:AL P G0 i_ ops K rest ((s,.pv (.str r))::E) H):ALx P G0 i_ ops K (o::rest) E H d (aD1 id n):=by
 intro G z_ a w I A_ d_ p y F he ⟨c,hc,b,cap,i,D⟩ ro l Q W;refine wpListIn_plain t λK' v_=>?_;refine Oper.wpW_in (oD l).1 ?_;have e1:a.eval (.tmp d)=.slice (N ⟨b,0,ζ⟩) n n:=by simp[Act.eval,hc,D]
 obtain ⟨p1,p2,⟨b',cap',cs,m,f2,f3,f4,f5,τ,y_⟩|⟨m,_⟩⟩:=(y.obj id _ u_).cells B
 rotate_left
 .rw[i]at m;cases m
 rw[i]at m;cases m;have h:C bs=n:=by rw[<-zO bs];simp_all
 subst z;have hl:(loadCells ⟨b,0,ζ⟩ n).run P w=.ok ((bs.map λb=>(b.toNat:Int)).map (Value.int .u8)).toArray w:=by
  have h0:=run_loadCells_list (P:=P) w ⟨b,0,ζ⟩ ((bs.map λb=>(b.toNat:Int)).map (Value.int .u8)) (λj v R=>by
   rw[map_map,r7]at R;obtain ⟨q,L,rfl⟩:=Option.map_eq_some_iff.1 R;rw[Addr.add_lit,r8,cell_of_row w b _ cs _ (0,0) f2];have ⟨u,J,q2,q3⟩:=y_ 0 (mW bs) Z j (.pv (.int .u8 q.toNat)) (by rw[mW,r7,L];rfl);rw[Nat.zero_mul,r8]at J;rw[J,q3.int_inv];rfl)
  rwa [g_,g_,h]at h0
 have k:(execOp a.eval o).run P w=.ok (.value (.string ⟨bs.toArray⟩)) w:=by
  simp only[execOp,ho,e1,Sem.run_bind];rw[run_convert_bytes_string w f_ J3 e _ _ n hS e_ hT,run_bytesToString w _ _ n _ hl,foldl_push_bytes];have e3:(bs.map λb=>(b.toNat:Int)).map (λn=>UInt8.ofNat n.toNat)=bs:=by
   rw[map_map]
   conv=>rhs;rw[<-map_id bs]
   refine map_congr_left λb _=>?_;simp
  rw[e3];simp[ByteArray.empty,ByteArray.emptyWithCapacity];rfl
 unfold Oper.wpW;rw[k];show K' (a.put o.dst _) w;rw[hd];exact v_ _ _ (hk G z_ _ w ⟨by rw[mS];exact d_,by rw[KV];exact p,I,A_,y,F,lY.put (d:=N s) y (Step.refl _ _ _ _) he (.pv (.str _)) (by rw[p];exact x)⟩ ro (oD l).2 Q W)
end
end
end Go.Abs
section
namespace Go.Proofs
open Go.RowKit Go.Sort Go.Shelf
def aHc:Go.Shelf.Ren:=⟨λ|6=>76|8=>131|9=>130|19=>189|20=>190|21=>180|22=>181|23=>182|24=>183|25=>184|26=>185|27=>186|28=>187|29=>188|36=>233|31=>234|32=>235|37=>236|38=>237|39=>238|41=>270|n=>n,λ|27=>22|29=>9|3=>3|32=>157|26=>22|0=>0|44=>213|46=>169|4=>4|36=>207|35=>206|41=>166|5=>5|9=>9|53=>241|57=>245|63=>282|64=>283|n=>n,λ|n=>n⟩
theorem aHi:Go.Proofs.SlLaysM.n6 φ aHc:={
  mixed:=by kernel_rfl
  f6:=⟨Tryz.f76.name,E_,Tryz.func76.trans D_⟩
  f8:=Tryz.func131.trans D_
  f9:=⟨Tryz.f130.name,E_,Tryz.func130.trans D_⟩
  f19:=Tryz.func189.trans D_
  f20:=Tryz.func190.trans D_
  f21:=⟨Tryz.f180.name,E_,Tryz.func180.trans D_⟩
  f22:=⟨Tryz.f181.name,E_,Tryz.func181.trans D_⟩
  f23:=⟨Tryz.f182.name,E_,Tryz.func182.trans D_⟩
  f24:=⟨Tryz.f183.name,E_,Tryz.func183.trans D_⟩
  f25:=⟨Tryz.f184.name,E_,Tryz.func184.trans D_⟩
  f26:=⟨Tryz.f185.name,E_,Tryz.func185.trans D_⟩
  f27:=⟨Tryz.f186.name,E_,Tryz.func186.trans D_⟩
  f28:=⟨Tryz.f187.name,E_,Tryz.func187.trans D_⟩
  f29:=⟨Tryz.f188.name,E_,Tryz.func188.trans D_⟩
  f31:=Tryz.func234.trans D_
  f32:=Tryz.func235.trans D_
  f36:=⟨Tryz.f233.name,E_,Tryz.func233.trans D_⟩
  f37:=⟨Tryz.f236.name,E_,Tryz.func236.trans D_⟩
  f38:=⟨Tryz.f237.name,E_,Tryz.func237.trans D_⟩
  f39:=⟨Tryz.f238.name,E_,Tryz.func238.trans D_⟩
  f41:=⟨Tryz.f270.name,E_,Tryz.func270.trans D_⟩
  t0:=EH
  a0:=Tryz.isAgg0
  z0:=Tryz.sizeOf0
  v0:=Tryz.zeroValue0
  t3:=Tryz.underlying3
  a3:=Tryz.isAgg3
  z3:=Tryz.sizeOf3
  v3:=tH
  t4:=fO
  a4:=nU
  z4:=Tryz.sizeOf4
  v4:=jG
  t5:=dI
  a5:=vP
  z5:=cO
  v5:=tG
  t9:=Tryz.underlying9
  a9:=Tryz.isAgg9
  z9:=Tryz.sizeOf9
  v9:=gY
  t26:=aE
  a26:=aG
  z26:=Tryz.sizeOf22
  v26:=wQ
  t27:=aE
  a27:=aG
  z27:=Tryz.sizeOf22
  v27:=wQ
  t29:=Tryz.underlying9
  a29:=Tryz.isAgg9
  z29:=Tryz.sizeOf9
  v29:=gY
  t32:=lP
  a32:=Tryz.isAgg157
  z32:=BL
  v32:=uI
  t35:=Tryz.underlying206
  a35:=Tryz.isAgg206
  z35:=Tryz.sizeOf206
  v35:=Tryz.zeroValue206
  t36:=Tryz.underlying207
  a36:=Tryz.isAgg207
  z36:=Tryz.sizeOf207
  v36:=Tryz.zeroValue207
  t41:=Tryz.underlying166
  a41:=Tryz.isAgg166
  z41:=Tryz.sizeOf166
  v41:=Tryz.zeroValue166
  t44:=Tryz.underlying213
  a44:=Tryz.isAgg213
  z44:=Tryz.sizeOf213
  v44:=Tryz.zeroValue213
  t46:=gV
  a46:=yH
  z46:=vO
  v46:=uH
  t53:=Tryz.underlying241
  a53:=Tryz.isAgg241
  z53:=Tryz.sizeOf241
  v53:=Tryz.zeroValue241
  t57:=Tryz.underlying245
  a57:=Tryz.isAgg245
  z57:=Tryz.sizeOf245
  v57:=Tryz.zeroValue245
  t63:=Tryz.underlying282
  a63:=Tryz.isAgg282
  z63:=Tryz.sizeOf282
  v63:=Tryz.zeroValue282
  t64:=Tryz.underlying283
  a64:=Tryz.isAgg283
  z64:=Tryz.sizeOf283
  v64:=Tryz.zeroValue283}
end Go.Proofs
namespace Go.Proofs.C
open Go.Proofs.Tryz
open Go.Abs
theorem Dg(B:List B_){id g n ty:Nat}{H:aF}(D:H.get id=N ⟨g,1,ty,fN B⟩)(F:n=C B)(E:C B<2^62):
  aU φ 76 [.osl id g 0 n] H (λr H'=>r=.tup []/\H'=(id,⟨g,1,ty,fN (jS B)⟩)::H):=Ky aHi B D F E
def pick(L:List B_)(seen:List Nat):List B_:=seen.map λi=>(L[i]?).getD ⟨#[]⟩
theorem OZ(a b:List UInt8):θ (a<=b)||θ (b<=a):=by all_goals grind
theorem Kz{a b}(h:a.Perm b):jS a=jS b:=by
 unfold jS;congr 1;have d:∀l:List _,((l.map xm).mergeSort _).Pairwise _:=λl =>
  pairwise_mergeSort (le:=λx y=>θ (x<=y)) (λa b c e i=>decide_eq_true (List.le_trans (b9 e) (b9 i))) OZ _
 exact List.Perm.eq_of_pairwise (λx y _ _ f g=>List.le_antisymm (b9 f) (b9 g)) (d a) (d b) (((mergeSort_perm _ _).trans (h.map _)).trans (mergeSort_perm _ _).symm)
end Go.Proofs.C
end
section
namespace Go.Proofs
open Go.RowKit Go.Sort Go.Shelf
def aHe:Go.Shelf.Ren:=⟨λ|264=>213|n=>n,λ|53=>169|46=>157|n=>n,λ|n=>n⟩
theorem aHk:Go.Proofs.Lays.n264 φ aHe:={
  mixed:=rfl
  f264:=Tryz.func213.trans (congrArg _ (Z))
  t46:=lP
  a46:=Tryz.isAgg157
  z46:=BL
  v46:=uI
  t53:=gV
  a53:=yH
  z53:=vO
  v53:=uH}
end Go.Proofs
namespace Go.Proofs.C
open Go.Proofs.Tryz
open Go.Abs
abbrev uv(n:Nat):AV:=.pv (.int .u64 (n:Int))
theorem km(x y)(c:x<18446744073709551616)(b:y<18446744073709551616)(H):RC 213 [uv x,uv y] (.tup [uv (x*y / 18446744073709551616),uv (x*y % 18446744073709551616)]) H :=Go.Abs.mul64_c aHk x y c b H
theorem Li(a k){m:Int}(h:m.toNat=k):a / 2 ^ m.toNat=((a / 2 ^ k:Nat):Int):=F_
def Fj(x:Nat):Nat:=x*2862933555777941757 % 18446744073709551616
def aCa(x:Nat):Nat:=Fj x ^^^ (Fj x / 2 ^ 32)
def Fi(x:Nat):Nat:=aCa x*3935559000370003845 % 18446744073709551616
def P1(x:Nat):Nat:=Fi x ^^^ (Fi x / 2 ^ 29)
theorem HD(x):Fj x<18446744073709551616:=mod_lt _ H_
theorem HC(x):Fi x<18446744073709551616:=mod_lt _ H_
theorem zK{x}(k)(h:x<18446744073709551616):x / 2 ^ k<18446744073709551616:=Nat.lt_of_le_of_lt (div_le_self _ _) h
theorem E5{x y}(h:x<18446744073709551616)(a:y<18446744073709551616):x ^^^ y<18446744073709551616:=xor_lt_two_pow (n:=64) h a
theorem Yz(x):aCa x<18446744073709551616:=E5 (HD x) (zK _ (HD x))
theorem dc(x):P1 x<18446744073709551616:=E5 (HC x) (zK _ (HC x))
theorem aFG(x:Nat)(b:x<18446744073709551616)(H:aF):RC 158 [uv x] (uv (P1 x)) H:=by refine Pu ?_;exact Bd func158 Z ntmps158<|Sz aH<|U aA<|Y (bH Z Z call213 Z (km x _ b E_ _))<|Y aA<|Y dK<|Y dK<|V aH<|U aA<|Y aA<|Y (G5 Z Z Z E_ E_ (Li (Fj x) 32 Z))<|Y (qA Z H_ Z Z (bits_xor_u64_nat (Fj x) _ (HD x) (zK 32 (HD x))))<|V aH<|U aA<|Y (bH Z Z call213 Z (km (aCa x) _ (Yz x) E_ _))<|Y aA<|Y dK<|Y dK<|V aH<|U aA<|Y aA<|Y (G5 Z Z Z E_ E_ (Li (Fi x) 29 Z))<|Y (qA Z H_ Z Z (bits_xor_u64_nat (Fi x) _ (HC x) (zK 29 (HC x))))<|V aH<|aC<|Rt<|Qq
def yB(n:Nat):Int:=if n<10 then 48+(n:Int)else 87+(n:Int)
def mB(i:Nat):List AV:=(List.range 16).map λj=>.pv (.int .u8 (if j<i then yB j else 0))
theorem D6(i):C (mB i)=16:=rfl
theorem JY{i j}(h:j<16):(mB i)[j]?=N (.pv (.int .u8 (if j<i then yB j else 0))):=by rw[mB,r7,getElem?_range h];rfl
theorem VC{i}(h:i<16):(mB i).set i (.pv (.int .u8 (yB i)))=mB (i+1):=by
 apply ext_getElem?;intro j;by_cases a:j<16
 .rw[JY a];by_cases e:i=j
  .subst e;rw[getElem?_set_self (h),b6 (lt_succ_self _)]
  rw[getElem?_set_ne e,JY a]
  grind
 rw[getElem?_eq_none (by rw[length_set,D6];omega),getElem?_eq_none (by rw[D6];omega)]
theorem vm{i}(h:i<16)(x){y}(a:y=.pv (.int .u8 (yB i))):((mB i).set i x).set i y=mB (i+1):=by rw[set_set,a,VC h]
theorem vK{H}{n J3 i}:∀r∈(bx n J3 (mB i)).rows,∀a∈r,Clo H a:=by intro r b a c;rw[q9]at b;subst b;obtain ⟨j,_,rfl⟩:=mem_map.1 c;exact .pv _
instance{H}{n J3 i}:W_ (H) ((bx n J3 (mB i)).rows):=⟨vK ⟩
theorem vn{H}{i}:∀a∈mB i,Clo H a:=by intro a b;obtain ⟨j,_,rfl⟩:=mem_map.1 b;exact .pv _
theorem Bk:((mB 16).drop 0).take 16=mB 16:=rfl
theorem Ri(H:aF):RC 159 [] (.agg (mB 16)) H:=by
 refine Pu<|Bd func159 Z ntmps159<|Sz (kl 0 wq)<|Sz (kl 1 wq)<|S<|Sz aA<|aD<|bA (σ:=Nat) (λi=>([(0,.ref 0 0 0 0),(1,.ref 1 0 0 0),(3,iv (i:Int))],[(1,bx 16 180 (mB i)),(0,bx 16 180 (mB 0))])) (λi=>i<=16) (λi=>16 - i) 0 (k_ _) ?_ ?_
 .exact L_
 intro i hi;refine Sz cH<|S<|Cn ?_ ?_<;>intro c
 .have f:i<16:=I_ c
  refine aB<|S<|aD<|U aA<|V aH<|U aA<|Y aA<|Y iF<|Y (eP Z underlying3 dI Z (wu8 X X))<|Y (eX Z zV cO Z Z Z Z X (l_ _) X Z)<|Uu (by exact cM Z cO Z Z Z Z Z Z (by rw[D6];omega) (show (mB i).set (0+i*1) (.pv (.int .u8 (48+(i:Int))))=(mB i).set i (.pv (.int .u8 (48+(i:Int))))by simp_all) Z)<|Zz<|U aA<|V AU ?_;refine Cn ?_ ?_<;>intro b
  .have d:¬ i<10:=I_ b
   refine Rd aA<|Y aA<|Y iF<|Y (dT Z Z Z (mI X X))<|Y (eP Z underlying3 dI Z (wu8 X X))<|Y (eX Z zV cO Z Z Z Z X (l_ _) X Z)<|Uu (by exact cM Z cO Z Z Z Z Z Z (by rw[length_set,D6];omega) (show ((mB i).set i (.pv (.int .u8 (48+(i:Int))))).set (0+i*1) (.pv (.int .u8 (97+(i:Int) - 10)))=mB (i+1)by rw[r8,Nat.mul_one];exact vm f _ (by rw[yB,a8 (I_ b)];grind)) Z)<|Zz<|Rd iF<|V aA ?_;exact⟨i+1,X,X,L_⟩
  have d:i<10:=J_ b
  refine aB<|Rd iF<|V aA ?_;refine⟨i+1,X,X,?_⟩;have e:(mB i).set i (.pv (.int .u8 (48+(i:Int))))=mB (i+1):=by
   rw[<-VC f,yB,b6 d]
  rw[e];exact L_
 have g:i=16:=J_ c
 subst g;refine aP<|U (by exact aW Z isAgg180 sizeOf180 Z Z Z Z Bk Z)<|Uu (jH sizeOf180)<|Zz<|aC<|cR (H':=[]) (.inr Z) Z (fJ Z isAgg180 sizeOf180 Z Z Z Bk Z) (Fin.wk (.agg vn) T_ T_) ?_;exact Qq
end Go.Proofs.C
end
namespace Go.Proofs.C
open Go.Proofs.Tryz
open Go.Abs
variable{a:Nat}
def xI(l:List UInt8):Nat:=l.foldl (λn b=>n*256+b.toNat) 0
def nI(l:List UInt8):List UInt8:=l.take 8++List.replicate (8 - C l) 0
theorem jq(l):C (nI l)=8:=by rw[nI,j7,n_,length_replicate];omega
theorem ZX(l)(b):xI (l++[b])=xI l*256+b.toNat:=by rw[xI,foldl_append];rfl
theorem Bv(l):xI l<256 ^ C l:=by
 suffices h:∀(l:List _) (n),l.foldl _ n<(n+1)*256 ^ C l by
  have:=h l 0;rw[Nat.one_mul]at this;exact this
 intro l
 induction l with
 |nil=>simp_all
 |cons b r c =>
  intro n;have a:=c (n*256+b.toNat);have B:=b.toNat_lt;refine Nat.lt_of_lt_of_le a ?_;rw[j6,Nat.pow_succ,Nat.mul_comm (256 ^ C r) _,<-Nat.mul_assoc];exact mul_le_mul_right _ X
theorem VW{l}(h:C l<=8):xI l<18446744073709551616:=by refine Nat.lt_of_lt_of_le (Bv l) ?_;exact Nat.le_trans (Nat.pow_le_pow_right H_ h) H_
theorem ox{l}(h:C l<=7):xI l<72057594037927936:=by refine Nat.lt_of_lt_of_le (Bv l) ?_;exact Nat.le_trans (Nat.pow_le_pow_right H_ h) H_
def VA:Nat->List UInt8->Nat
 |s,a::b::c::d::e::f::g::h::r=>VA (P1 (s ^^^ xI [a,b,c,d,e,f,g,h])) r
 |s,l=>P1 (s ^^^ xI (nI l))
theorem ZI(s){l}(h:8<=C l):VA s l=VA (P1 (s ^^^ xI (nI (l.take 8)))) (l.drop 8):=by
 match l,h with
 |a::b::c::d::e::f::g::h::r,_=>rfl
theorem ZJ(s){l}(h:C l<8):VA s l=P1 (s ^^^ xI (nI l)):=by
 match l,h with
 | [],_=>rfl
 | [a],_=>rfl
 | [a,b],_=>rfl
 | [a,b,c],_=>rfl
 | [a,b,c,d],_=>rfl
 | [a,b,c,d,e],_=>rfl
 | [a,b,c,d,e,f],_=>rfl
 | [a,b,c,d,e,f,g],_=>rfl
 |_::_::_::_::_::_::_::_::r,h=>simp[j6]at h;omega
def W2(st j:Nat):Nat:=st / 2 ^ (60 - 4*j) % 16
def CJ(st:Nat):List UInt8:=(List.range 16).map λj=>UInt8.ofNat (yB (W2 st j)).toNat
def A6(st i:Nat):List AV:=(List.range 16).map λj=>.pv (.int .u8 (if j<i then yB (W2 st j)else 0))
theorem JG(a i):C (A6 a i)=16:=rfl
theorem T0{a i j}(h:j<16):(A6 a i)[j]?=N (.pv (.int .u8 (if j<i then yB (W2 a j)else 0))):=by rw[A6,r7,getElem?_range h];rfl
theorem tl{a i}(h:i<16):(A6 a i).set i (.pv (.int .u8 (yB (W2 a i))))=A6 a (i+1):=by
 apply ext_getElem?;intro j;by_cases b:j<16
 .rw[T0 b];by_cases e:i=j
  .subst e;rw[getElem?_set_self h,b6 (lt_succ_self _)]
  rw[getElem?_set_ne e,T0 b]
  grind
 rw[getElem?_eq_none (by rw[length_set,JG];omega),getElem?_eq_none (by rw[JG];omega)]
theorem Pa{H}{c i}:∀a∈A6 c i,Clo H a:=by intro a b;obtain ⟨j,_,rfl⟩:=mem_map.1 b;exact .pv _
theorem Sx{H}{l}:∀a∈mW l,Clo H a:=by intro a b;obtain ⟨j,_,rfl⟩:=mem_map.1 b;exact .pv _
theorem OO{H}{n J3}{l}(h:∀a∈l,Clo H a):∀r∈(bx n J3 l).rows,∀a∈r,Clo H a:=F_
theorem FT(a j):W2 a j<16:=mod_lt _ H_
theorem Ap{n}(h:n<16):0<=yB n/\yB n<256:=by unfold yB;all_goals omega
theorem tn(b):A6 b 16=mW (CJ b):=by rw[mW,CJ,map_map];refine map_congr_left λj d=>?_;have c:=mem_range.1 d;have f:=Ap (FT b j);simp only[Function.comp];rw[b6 c,UInt8.toNat_ofNat'];have e:(yB (W2 b j)).toNat % 2 ^ 8=(yB _).toNat:=mod_eq_of_lt X;rw[e,Int.toNat_of_nonneg f.1]
def W7(n:Nat):Nat:=1181783497276652981 ^^^ n
def lO(s:B_):B_:=⟨(CJ (VA (W7 s.size) (ν (μ s)))).toArray⟩
theorem Bi{n}(h:n<18446744073709551616):W7 n<18446744073709551616:=E5 H_ h
theorem orN{b:Nat}(B:a<72057594037927936)(D:b<256):bits .or .u64 ((a*256:Nat)) b=((a*256+b:Nat)):=by rw[bits_or_u64_nat _ _ X X];have h:=two_pow_add_eq_or_of_lt (i:=8) X a;rw[Nat.mul_comm]at h;rw[h]
theorem aGK(h:a<72057594037927936):IntKind.u64.wrap (a*2 ^ ((8:Int)).toNat)=((a*256:Nat)):=by show IntKind.u64.wrap (a*256)=_;rw[IntKind.wrap_u64];omega
theorem gl{n:Nat}(h:n<18446744073709551616):IntKind.u64.wrap n=n:=by rw[IntKind.wrap_u64];omega
theorem Kl(s:B_)(g:Nat)(k:g<18446744073709551616):aU φ 157 [sv s,.ref 903 0 0 0] [(903,bx 1 169 [uv g])] (λr H'=>r=.tup []/\H'=[(903,bx 1 169 [uv (P1 (g ^^^ xI (nI (ν (μ s)))))])]):=by
 have t:(List.replicate 8 (AV.pv (.int .u8 0)))=mW (List.replicate 8 0):=by rfl
 have E:min s.size 8<=8:=X
 have o:C s.data.toList=s.size:=H_
 have d:mW (s.data.toList.take (min s.size 8))++(List.replicate 8 (AV.pv (.int .u8 0))).drop (min s.size 8)=mW (nI (ν (μ s))):=by
  rw[t,mW,mW,<-map_drop,<-map_append,drop_replicate,mW,nI,o]
  grind
 refine Bd func157 Z ntmps157<|Sz (kl 3 aDp)<|S<|Rg<|MT (id:=3) Z Z Z Z underlying179 cO Z Z rfl<|Tg Z Z Z E_ Z rfl<|ey Z Z Z Z dN cO Z E_ Z rfl<|Zz<|Sz aH<|S<|Sz aA<|aD<|bA (σ:=Nat) (λi=>([(0,sv s),(1,.ref 903 0 0 0),(3,.ref 3 0 0 0),(4,uv (xI ((nI (ν (μ s))).take i))),(9,iv (i:Int))],[(3,bx 8 179 (mW (nI (ν (μ s))))),(903,bx 1 169 [uv g])])) (λi=>i<=8) (λi=>8 - i) 0 (k_ _) ?_ ?_
 .rw[<-d];refine cJ.wk (Eb<|Ea<|Ea<|Eb<|Eb<|T_) (Hc ?_<|Hb<|T_) ⟨Z,T_⟩;rw[d];exact OO Sx
 intro i hi;have h:=jq (ν (μ s));have D:C ((nI (ν (μ s))).take i)<=8:=F_
 refine Sz cH<|S<|Cn ?_ ?_<;>intro j
 .have hlt:i<8:=I_ j
  have ⟨b,q⟩:∃b,(nI (ν (μ s)))[i]?=N b:=⟨_,m_ X⟩;have l:(mW (nI (ν (μ s))))[i]?=N (.pv (.int .u8 (b.toNat:Int))):=by rw[mW,r7,q];rfl
  have m:C ((nI (ν (μ s))).take i)<=7:=G_
  have p:=ox m;have B:=b.toNat_lt;refine aB<|S<|aD<|U aA<|V aH<|Rd aA<|Y (RB Z Z Z E_ E_ (aGK p))<|Y aA<|Y (eX Z underlying179 cO Z Z Z Z X (l_ _) X Z)<|Y (by exact aX Z vP Z Z Z Z (by rw[r8,Nat.mul_one];exact l))<|Y (eP Z dI gV Z (gl X))<|Y (qA Z H_ Z Z (orN p X))<|V aH<|Rd iF<|V aA ?_;refine⟨i+1,X,X,?_⟩;have e:xI ((nI (ν (μ s))).take (i+1))=xI ((nI (ν (μ s))).take i)*256+b.toNat:=by rw[take_add_one,q,Option.toList_some,ZX]
  rw[e];exact(cJ.wk (Eb<|Ea<|Ea<|Eb<|Eb<|T_) (Hc (OO Sx)<|Hb<|T_) ⟨Z,T_⟩)
 have n:i=8:=J_ j
 subst n;have e:(nI (ν (μ s))).take 8=nI (ν (μ s)):=take_of_length_le X;rw[e];refine aP<|Rd (bT yH)<|Y aA<|Y (qA Z H_ Z Z (bits_xor_u64_nat g _ k (VW (Nat.le_of_eq h))))<|Y (kc call158 (aFG _ (E5 k (VW (Nat.le_of_eq h))) _))<|Uu (jH vO)<|Zz ?_;exact pL (H':=[(903,bx 1 169 [uv (P1 (g ^^^ xI (nI (ν (μ s)))))])]) (.inl Z) Z P_ ⟨Z,Z⟩
theorem mx(s:B_)(i j):(s.extract i j).data.toList=(s.data.toList.drop i).take (j - i):=H_
theorem dAt(a i):(mB 16)[0+W2 a i*1]?=N (.pv (.int .u8 (yB (W2 a i)))):=by rw[r8,Nat.mul_one,JY (FT _ i),b6 (FT _ i)]
theorem aGl(b:a<18446744073709551616):bits .and .u64 a 15=((a % 16:Nat)):=by have h:=bits_and_u64_nat a 15 b H_;rw[and_two_pow_sub_one_eq_mod a 4]at h;exact h
theorem xr(s:B_)(H:aF)(E:s.size<2^62):RC 106 [sv s] (sv (lO s)) H:=by
 refine Pu ?_;have k:W7 s.size<18446744073709551616:=Bi X;have B:C s.data.toList=s.size:=H_
 refine Bd func106 Z ntmps106<|Sz aH<|U aA<|Y (gQ U_)<|Y (eP Z underlying3 gV Z (gl X))<|Y (qA Z H_ Z Z (bits_xor_u64_nat 1181783497276652981 s.size E_ X))<|Y (kl 903 aDr)<|Uu (jH vO)<|Zz<|U (iE Z Z)<|V aH<|S<|aD<|eN (λ(x:B_) (b:Nat)=>([(0,sv x),(3,.ref 903 0 0 0),(4,.clo 157 [.ref 903 0 0 0])],[(903,bx 1 169 [uv b])])) (λx b=>b<18446744073709551616/\x.size<=s.size/\VA b (ν (μ x))=VA (W7 s.size) (ν (μ s))) (λx b=>x.size) s (W7 s.size) ⟨k,h_ _,Z⟩ ?_ ?_
 .exact Wk
 rintro x b ⟨c,hx,m⟩;have D:C x.data.toList=x.size:=H_
 refine S<|U aA<|Y (gQ U_)<|V AU<|Cn ?_ ?_<;>intro d
 .have n:8<=x.size:=I_ d
  refine aB<|S<|aD<|Rd aA<|Y aA<|Y (bM (l:=0) (h:=8) Z U_ Z Z Z X X Z)<|V (dL Z Z Z (dQ.clo call157 (Kl (x.extract 0 8) b c)))<|Rd aA<|Y (bM (l:=8) (h:=x.size) Z U_ Z Z Z X X Z)<|Da ?_;refine⟨x.extract 8 x.size,P1 (b ^^^ xI (nI (x.extract 0 8).data.toList)),⟨dc _,by rw[ByteArray.size_extract];omega,?_⟩,by rw[ByteArray.size_extract];omega,Wk⟩;rw[<-m,ZI b (by omega:8<=C x.data.toList),mx,mx,drop_zero,take_of_length_le (l:=x.data.toList.drop 8) F_]
 have n:x.size<8:=J_ d
 have o:=ZJ b (by omega:C x.data.toList<8);have ⟨f_,l⟩:∃f_,f_=P1 (b ^^^ xI (nI (ν (μ x)))):=X_;have h:f_<18446744073709551616:=by rw[l];exact dc _
 have e:lO s=⟨(CJ f_).toArray⟩:=by rw[lO,<-m,o,l]
 rw[e];refine aP<|U aA<|Y aA<|V (dL Z Z Z (dQ.clo call157 (Kl x b c)))<|U (kc call159 (Ri _))<|Y (kl 5 wq)<|Uu (jH sizeOf180)<|Zz<|Sz (kl 6 wq)<|S<|Sz aA<|aD ?_;rw[<-l];refine bA (σ:=Nat) (λi=>([(3,.ref 903 0 0 0),(5,.ref 5 0 0 0),(6,.ref 6 0 0 0),(26,iv (i:Int))],[(6,bx 16 180 (A6 f_ i)),(5,bx 16 180 (mB 16)),(903,bx 1 169 [uv f_])])) (λi=>i<=16) (λi=>16 - i) 0 (k_ _) ?_ ?_
 .exact(cJ.wk (Ea<|Ea<|Ea<|Eb<|T_) (Hc (OO Pa)<|Hc (OO vn)<|Hb<|T_) T_)
 intro i hi;refine Sz cH<|S<|Cn ?_ ?_<;>intro f
 .have g:i<16:=I_ f
  refine aB<|S<|aD<|U aA<|V aH<|Rd aA<|Y (bT yH)<|Y aA<|Y (pE Z Z Z (mI X X))<|Y (dT Z Z Z (mI X X))<|Y (by exact G5 Z Z Z X (by simp[IntKind.bits];omega) (Li f_ (60 - 4*i) X))<|Y (qA Z H_ Z Z (aGl (zK _ h)))<|Y (eX Z zV cO Z Z Z Z X (l_ _) (FT f_ i) Z)<|Y (aX Z vP Z Z Z Z (dAt f_ i))<|Y (eX Z zV cO Z Z Z Z X (l_ _) X Z)<|Uu (by exact cM Z cO Z Z Z Z Z Z (by rw[JG];omega) (show (A6 f_ i).set (0+i*1) (.pv (.int .u8 (yB (W2 f_ i))))=A6 f_ (i+1)by rw[r8,Nat.mul_one];exact tl g) Z) ?_;refine Zz<|Rd iF<|V aA ?_;exact⟨i+1,X,X,(cJ.wk (Ea<|Ea<|Ea<|Eb<|T_) (Hc (OO Pa)<|Hc (OO vn)<|Hb<|T_) T_)⟩
 have j:i=16:=J_ f
 subst j;refine aP<|S<|Rg<|MT (id:=6) Z Z Z Z zV cO Z Z rfl<|aA9 (bs:=CJ f_) Z Z Z Z dN dI U_ (by rw[<-tn];rfl) E_ Z ?_;exact V aH<|aC<|Rt<|Qq
end Go.Proofs.C
namespace Go.Abs
variable{H H':aF}
def aDZ(H' H:aF):Prop:=∀j B,H'.get j=N B->∃o,H.get j=N o/\B.g=o.g/\B.sz=o.sz/\C B.rows=C o.rows
theorem VRel.restrictG{w:World}{I:Nat->Prop}{ι:mG}(r:aDZ H' H){v:Value}{a:AV}(h:VRel w I ι H v a):Clo H' a->VRel w I ι H' v a:=by
 induction h with
 |any v=>exact λ_=>.any v
 |pv h=>exact λ_=>.pv h
 | ref o f p g m =>
  intro c;cases c with
  |ref c =>
   have ⟨k,d⟩:=Option.isSome_iff_exists.1 c;have ⟨u,e,x,t,s⟩:=r _ _ d;rw[f]at e;cases e;exact .ref k d X g (λy=>by simp_all)
 |pad b D B E f p g K m i_ F=>exact λ_=>.pad b D B E f p g K m i_ F
 | osl o f p g m =>
  intro c;cases c with
  |osl c =>
   have ⟨k,d⟩:=Option.isSome_iff_exists.1 c;have ⟨u,e,x,t,s⟩:=r _ _ d;rw[f]at e;cases e;exact .osl k d X g (λy=>by simp_all)
 |clo n h l =>
  intro c;cases c with|clo c=>exact .clo n λi v a q j=>l i v a q j (c a (m7 j))
 |bnd n h l =>
  intro c;cases c with|bnd c=>exact .bnd n λi v a q j=>l i v a q j (c a (m7 j))
 |agg n f h l =>
  intro c;cases c with|agg c=>exact .agg n f λi v a q j=>l i v a q j (c a (m7 j))
 |tup n h l =>
  intro c;cases c with|tup c=>exact .tup n λi v a q j=>l i v a q j (c a (m7 j))
 | mp o f p g m =>
  intro c;cases c with
  |mp c =>
   have ⟨k,d⟩:=Option.isSome_iff_exists.1 c;have ⟨u,e,x,t,s⟩:=r _ _ d;rw[f]at e;cases e;exact .mp k d X g (λy=>by simp_all)
 | it o f p g m =>
  intro c;cases c with
  |it c =>
   have ⟨k,d⟩:=Option.isSome_iff_exists.1 c;have ⟨u,e,x,t,s⟩:=r _ _ d;rw[f]at e;cases e;exact .it k d X g (λy=>by simp_all)
 | yld o f p g m =>
  intro c;cases c with
  |yld c =>
   have ⟨k,d⟩:=Option.isSome_iff_exists.1 c;have ⟨u,e,x,t,s⟩:=r _ _ d;rw[f]at e;cases e;exact .yld k d X g (λy=>by simp_all)
 | osc o f p g m =>
  intro c;cases c with
  |osc c =>
   have ⟨k,d⟩:=Option.isSome_iff_exists.1 c;have ⟨u,e,x,t,s⟩:=r _ _ d;rw[f]at e;cases e;exact .osc k d X g (λy=>by simp_all)
theorem VRel.freezeG{w}{I}{ι}{H H'}{id}{ob}{ps}(p:Rel I ι H w)(s:aDZ H' H)(x:H.get id=N ob)(m:ob.rows=ps.map (·.map .pv)){a B}(q:Fz H' id ob.g ps a B):
  ∀ {v},VRel w I ι H v a->VRel w (rW I ι id) ι H' v B:=by
 induction q with
 |same h=>exact λc=>(c.restrictG s h).mono' (λ_ _=>rfl) (λ_ h=>.inl h) (λ_ o h=>⟨o,h,h_ _,λ_=>⟨Z,Z,λ_=>h_ _⟩⟩)
 |osl r =>
  intro v c;subst r;exact .pv (F1 p x m c)
 | agg g h j =>
  intro v c;cases c with
  |agg k t f =>
   refine .agg (k.trans g) t λi u B l b=>?_;have n:=(m9.1 b).1;exact j i _ _ (m_ X) b (f i u _ l (m_ _))
 | tup g h j =>
  intro v c;cases c with
  |tup k f =>
   refine .tup (k.trans g) λi u B l b=>?_;have n:=(m9.1 b).1;exact j i _ _ (m_ _) b (f i u _ l (m_ X))
def WB(H':aF)(id g:Nat)(ps:List (List PV))(rows rows':List (List AV)):Prop :=C rows'=C rows/\∀(i:Nat) (r':List AV),rows'[i]?=N r'->∃r,rows[i]?=N r/\C r=C r'/\∀(k:Nat) (a B:AV),r[k]?=N a->r'[k]?=N B->Fz H' id g ps a B
theorem dF{H'}{id g}{ps}{rows}(h:∀r∈rows,∀a∈r,Clo H' a):WB H' id g ps rows rows :=⟨Z,λi r b=>⟨r,b,Z,λk a B d c=>by rw[d]at c;cases c;exact .same (h r (m7 b) a (m7 d))⟩⟩
theorem kY{H'}{id g}{ps}{r r'}(c:C r=C r')(h:∀(k:Nat) (a a'),r[k]?=N a->r'[k]?=N a'->Fz H' id g ps a a'):WB H' id g ps [r] [r'] :=⟨Z,λi x b=>by
  match i,b with
  |0,b=>cases b;exact⟨r,Z,c,h⟩⟩
def FOk(H H':aF)(id g:Nat)(ps:List (List PV)):aF->Prop
 | []=>True
 |(j,o')::r=>(∃o,H.get j=N o/\o'.g=o.g/\o'.sz=o.sz/\o'.ty=o.ty/\WB H' id g ps o.rows o'.rows)/\FOk H H' id g ps r
theorem FOk.spec{H H'}{id g}{ps}{L}(h:FOk H H' id g ps L):∀p∈L,∃o,H.get p.1=N o/\p.2.g=o.g/\p.2.sz=o.sz/\p.2.ty=o.ty/\WB H' id g ps o.rows p.2.rows:=by
 induction L with
 |nil=>simp
 |cons x r E =>
  have ⟨B,D⟩:=h
  simp_all
theorem cJ.fzG{G0:aF}{E E':dG}{id:Nat}{ob:Ob}(ps:List (List PV))(B:H.get id=N ob)(K:ob.rows=ps.map (·.map .pv))(hE:∀p∈E',∃v0,E.get p.1=N v0/\Fz H' id ob.g ps v0 p.2)(W:H'.get id=ζ)
    (hF:FOk H H' id ob.g ps H') (hk:Iy H' H G0):cJ G0 E H E' H':=by
  intro G hG i_ a w J3;have ⟨I,J,q,d,he⟩:=J3.rel;subst hG;have d_:∀j f,H'.get j=N f->∃o,H.get j=N o/\f.g=o.g/\f.sz=o.sz/\f.ty=o.ty/\WB H' id ob.g ps o.rows f.rows:=λj f x=>hF.spec _ (eI x);have s:aDZ H' H:=λj f x=>by
    have ⟨o,u,z_,R,_,L⟩:=d_ j f x;exact⟨o,u,z_,R,L.1⟩
  have D:∀b,OW J H' b->OW J H b:=λb ⟨j,f,c,g,n⟩=>by
    have ⟨o,u,_⟩:=d_ j f g;exact⟨j,o,c,u,n⟩
  have c_:Rel (rW I J id) J H' w:=by
    refine⟨λb l=>?_,λj f x=>?_,λj j' o f b c c' g n=>?_,q.glob.mono (λ_ _=>rfl) (λ_ h=>.inl h)⟩
    · rcases l with l|⟨m,l⟩
      · exact q.imm b l
      · exact q.lt ⟨id,ob,m,B,l⟩
    · have ⟨o,u,z_,R,e4,L,y_⟩:=d_ j f x
      refine(q.obj j o u).keepG R e4 L (iy L.symm (λi u_ v_=>by
        have ⟨r,e_,Q,A_⟩:=y_ i u_ v_;exact⟨r,e_,Q,λk a P g n y ts e=>(A_ k a P g n).raw e⟩)) Z (λb' F q1 _=>⟨Z,λq3=>?_⟩) (λi u_ v_=>?_)
      · rintro(h|⟨m,h⟩)
        · exact q3 h
        · have:j=id:=q.inj j id o ob b' F m u B q1 h
          rw[this,W]at x;cases x
      · have ⟨r,e_,Q,A_⟩:=y_ i u_ v_
        exact⟨r,e_,Q,λk a P g n v f_=>VRel.freezeG q s B K (A_ k a P g n) f_⟩
    · have ⟨p,u,_⟩:=d_ j o g
      have ⟨p',o_,_⟩:=d_ j' f n;exact q.inj j j' p p' b c c' u o_
  have z:Step G.I G.ι G.H G.w (rW I J id) J H' w :=
    { os := d.os, tape := d.tape, output := d.output, size := d.size, froz := d.froz, keep := d.keep
      imm:=λb l=>.inl (d.imm b l)
      immNew:=λb l=>by
        rcases l with l|⟨m,l⟩
        · exact d.immNew b l
        · rcases d.own b ⟨id,ob,m,B,l⟩with g|g
          · exact .inr (.inl g)
          · exact .inr (.inr g)
      own:=λb l=>d.own b (D b l)
      objs:=λj o ho=>by
        have ⟨f,g,n⟩:=d.objs j o ho;exact⟨f,(hk.kept j (by simp[ho])).trans g,n⟩}
  refine⟨J3.defers,J3.size,_,J,c_,z,λt v ht=>?_⟩;have ⟨v0,g,n⟩:=hE _ (iU ht);have ⟨c,hc,f_⟩:=he t v0 g;exact⟨c,hc,VRel.freezeG q s B K n f_⟩
end Go.Abs
