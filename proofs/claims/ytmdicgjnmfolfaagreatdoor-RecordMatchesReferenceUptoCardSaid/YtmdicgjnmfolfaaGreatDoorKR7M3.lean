/-
  Parts of the proof: rules of a program logic, contracts, plain laws. Conditions: each theorem's own.
-/
import Derived.Test.YtmdicgjnmfolfaaGreatDoorKR7M2
import Derived.Test.YtmdicgjnmfolfaaGreatDoorRows
import Derived.OpenShut
import Derived.JoinedCond
import Derived.Carry
import Derived.MapKept
import Derived.Laws.IdiomRangeMap
import Derived.Lib.Bytealg
set_option linter.unusedVariables false
set_option linter.unusedSimpArgs false
set_option maxRecDepth 100000
set_option maxHeartbeats 8000000
namespace Go.Proofs
open Tryz
theorem zP:type_of% call140:=call140
theorem aBm:type_of% call180:=call180
theorem zM:type_of% call230:=call230
theorem vo:type_of% call261:=call261
theorem XU:type_of% call62:=call62
theorem pU:type_of% call70:=call70
theorem iV:type_of% eqGuardType68:=eqGuardType68
theorem cU:type_of% isAgg149:=isAgg149
theorem bW:type_of% isAgg153:=isAgg153
theorem aAc:type_of% isAgg158:=isAgg158
theorem wD:type_of% isAgg199:=isAgg199
theorem aF:type_of% isAgg22:=isAgg22
theorem C4:type_of% isAgg5:=isAgg5
theorem dO:type_of% isAgg68:=isAgg68
theorem pF:type_of% sizeOf124:=sizeOf124
theorem Vu:type_of% sizeOf135:=sizeOf135
theorem aR:type_of% sizeOf153:=sizeOf153
theorem zJ:type_of% sizeOf158:=sizeOf158
theorem kW:type_of% sizeOf199:=sizeOf199
theorem aA9:type_of% sizeOf20:=sizeOf20
theorem aK:type_of% sizeOf30:=sizeOf30
theorem cO:type_of% sizeOf5:=sizeOf5
theorem dG:type_of% underlying124:=underlying124
theorem cY:type_of% underlying149:=underlying149
theorem kJ:type_of% underlying151:=underlying151
theorem fU:type_of% underlying153:=underlying153
theorem fT:type_of% underlying158:=underlying158
theorem G8:type_of% underlying172:=underlying172
theorem cN:type_of% underlying182:=underlying182
theorem G7:type_of% underlying187:=underlying187
theorem jv:type_of% underlying218:=underlying218
theorem aD:type_of% underlying22:=underlying22
theorem cT:type_of% underlying23:=underlying23
theorem iG:type_of% underlying25:=underlying25
theorem dH:type_of% underlying26:=underlying26
theorem qN:type_of% underlying270:=underlying270
theorem oA:type_of% underlying28:=underlying28
theorem eC:type_of% underlying30:=underlying30
theorem vj:type_of% underlying37:=underlying37
theorem eB:type_of% underlying5:=underlying5
theorem JO:type_of% underlying69:=underlying69
theorem vi:type_of% underlying96:=underlying96
theorem JN:type_of% zeroValue122:=zeroValue122
theorem JL:type_of% zeroValue151:=zeroValue151
theorem vh:type_of% zeroValue153:=zeroValue153
theorem vg:type_of% zeroValue187:=zeroValue187
theorem vf:type_of% zeroValue199:=zeroValue199
theorem Gy:type_of% zeroValue20:=zeroValue20
theorem Gx:type_of% zeroValue22:=zeroValue22
theorem Gw:type_of% zeroValue25:=zeroValue25
theorem wM:type_of% zeroValue3:=zeroValue3
theorem MU:type_of% zeroValue30:=zeroValue30
theorem nY:type_of% zeroValue4:=zeroValue4
theorem EB:type_of% zeroValue5:=zeroValue5
theorem Gv:type_of% zeroValue68:=zeroValue68
theorem wL:type_of% zeroValue9:=zeroValue9
end Go.Proofs
namespace Go.Abs
variable{H H':aG}
inductive Nz(H':aG)(id:Nat):AV->AV->Prop
 |same {a:AV} (h:Clo H' a):Nz H' id a a
 |own:Nz H' id (.pv .nils) (.osl id 0 0 0)
 |weak:Nz H' id (.pv .nils) (.pv (.sl []))
 |agg {cs cs':List AV} (hl:cs.length=cs'.length) (h:∀(i:Nat) (a a':AV),cs[i]?=some a->cs'[i]?=some a'->Nz H' id a a'):Nz H' id (.agg cs) (.agg cs')
 |tup {cs cs':List AV} (hl:cs.length=cs'.length) (h:∀(i:Nat) (a a':AV),cs[i]?=some a->cs'[i]?=some a'->Nz H' id a a'):Nz H' id (.tup cs) (.tup cs')
def pz(H H':aG):Prop:=∀j o',H'.get j=some o'->∃o,H.get j=some o/\o.g=o'.g/\o.sz=o'.sz/\o.ty=o'.ty/\o.rows.length=o'.rows.length
theorem VRel.alike{w:World}{I:Nat->Prop}{ι:lR}(r:pz H H'){v:Value}{a:AV}(h:VRel w I ι H v a):Clo H' a->VRel w I ι H' v a:=by
 induction h with
 |any v=>exact fun _=>.any v
 |pv h=>exact fun _=>.pv h
 |ref o k x j h =>
  intro d;rw[wB]at d;obtain ⟨g,c⟩:=Option.isSome_iff_exists.1 d;obtain ⟨t,f,s,q,u,y⟩:=r _ g c;rw[k]at f;cases f;exact .ref g c (by omega) j (fun e=>by simp_all)
 |pad b C B G h A z F E d D=>exact fun _=>.pad b C B G h A z F E d D
 |osl o k x j h =>
  intro d;rw[Np]at d;obtain ⟨g,c⟩:=Option.isSome_iff_exists.1 d;obtain ⟨t,f,s,q,u,y⟩:=r _ g c;rw[k]at f;cases f;exact .osl g c (by omega) j (fun e=>by simp_all)
 |clo p h m =>
  intro d;rw[Nr]at d;exact .clo p (fun i v a n l=>m i v a n l (d a (aCp l)))
 |bnd p h m =>
  intro d;rw[Ns]at d;exact .bnd p (fun i v a n l=>m i v a n l (d a (aCp l)))
 |agg p j h m =>
  intro d;rw[XF]at d;exact .agg p j (fun i v a n l=>m i v a n l (d a (aCp l)))
 |tup p h m =>
  intro d;rw[No]at d;exact .tup p (fun i v a n l=>m i v a n l (d a (aCp l)))
 |mp o k x j h =>
  intro d;rw[Vl]at d;obtain ⟨g,c⟩:=Option.isSome_iff_exists.1 d;obtain ⟨t,f,s,q,u,y⟩:=r _ g c;rw[k]at f;cases f;exact .mp g c (by omega) j (fun e=>by simp_all)
 |it o k x j h =>
  intro d;rw[Vm]at d;obtain ⟨g,c⟩:=Option.isSome_iff_exists.1 d;obtain ⟨t,f,s,q,u,y⟩:=r _ g c;rw[k]at f;cases f;exact .it g c (by omega) j (fun e=>by simp_all)
 |yld o k x j h =>
  intro d;rw[Nn]at d;obtain ⟨g,c⟩:=Option.isSome_iff_exists.1 d;obtain ⟨t,f,s,q,u,y⟩:=r _ g c;rw[k]at f;cases f;exact .yld g c (by omega) j (fun e=>by simp_all)
 |osc o k x j h =>
  intro d;rw[Nq]at d;obtain ⟨g,c⟩:=Option.isSome_iff_exists.1 d;obtain ⟨t,f,s,q,u,y⟩:=r _ g c;rw[k]at f;cases f;exact .osc g c (by omega) j (fun e=>by rw[<-q];exact h (by omega))
theorem Nz.raw{H'}{id}{a a'}(h:Nz H' id a a'){y}{b}(e:a'=.raw y b):a=.raw y b:=by cases h<;>first|exact e|cases e
theorem VRel.nz{w}{I}{ι}{H H'}{id}{ob:Ob}(t:pz H H')(l:ι id=none)(g:H'.get id=some ob)(hg:ob.g=0)(e:0<ob.sz){a a'}(s:Nz H' id a a'):∀ {v},VRel w I ι H v a->VRel w I ι H' v a':=by
 induction s with
 |same h=>exact fun c=>c.alike t h
 |own =>
  intro v c;have:=c.pv_inv;cases this;exact .osl ob g (by omega) rfl (fun _=>⟨e,by omega,.inr ⟨l,rfl,rfl,rfl⟩⟩)
 |weak =>
  intro v c;have:=c.pv_inv;cases this;exact .pv .nilsl
 | @agg j n o h k =>
  intro v c;cases c with
  |agg d x q =>
   refine .agg (d.trans o) x (fun i u a' m b=>?_);have f:=List.getElem?_eq_getElem (l:=j) (i:=i) (by have:=(aCj.1 b).1;omega);exact k i _ a' f b (q i u _ m f)
 | @tup j n o h k =>
  intro v c;cases c with
  |tup d q =>
   refine .tup (d.trans o) (fun i u a' m b=>?_);have f:=List.getElem?_eq_getElem (l:=j) (i:=i) (by have:=(aCj.1 b).1;omega);exact k i _ a' f b (q i u _ m f)
def Wn(H:aG)(id:Nat):List AV->List AV->Prop
 | [],[]=>True
 |a::l,b::r=>Nz H id a b/\Wn H id l r
 |_,_=>False
theorem Wn.spec{H}{id}:∀ {l r},Wn H id l r->l.length=r.length/\∀(k:Nat) (a b),l[k]?=some a->r[k]?=some b->Nz H id a b
 | [],[],_=>⟨rfl,fun k a b h=>by grind⟩
 | a::l,b::r,h=>⟨by simp [(Wn.spec h.2).1],fun k x y c d=>by
   cases k with
   |zero=>cases c;cases d;exact h.1
   |succ k=>exact(Wn.spec h.2).2 k x y c d⟩
 | [],_::_,h=>h.elim
 |_::_,[],h=>h.elim
def NzR(H:aG)(id:Nat)(rows rows':List (List AV)):Prop:=(rows=rows'/\∀r∈rows',∀a∈r,Clo H a)\/∃r r',rows=[r]/\rows'=[r']/\Wn H id r r'
theorem NzR.spec{H}{id:Nat}{rows rows'}(h:NzR H id rows rows'):rows.length=rows'.length/\∀(i:Nat) (r'),rows'[i]?=some r'->∃r,rows[i]?=some r/\r.length=r'.length/\∀(k:Nat) (b:AV),r'[k]?=some b->∃a,r[k]?=some a/\Nz H id a b:=by
 rcases h with⟨rfl,f⟩|⟨r,r',rfl,rfl,e⟩
 ·exact⟨rfl,fun i r' c=>⟨r',c,rfl,fun k b d=>⟨b,d,.same (f r' (aCp c) b (aCp d))⟩⟩⟩
 refine⟨rfl,fun i r2 c=>?_⟩;cases i with
 |zero =>
  obtain ⟨e1,e2⟩:=e.spec
  grind
 |succ i=>grind
def Wo(E:dC)(H:aG)(id:Nat):dC->Prop
 | []=>True
 |(t,v)::r=>(∃v0,E.get t=some v0/\Nz H id v0 v)/\Wo E H id r
theorem Wo.spec{E}{H}{id}:∀ {E'},Wo E H id E'->∀p∈E',∃v0,E.get p.1=some v0/\Nz H id v0 p.2
 |(t,v)::r,h,p,a=>by
  rcases aCr.1 a with e|e
  ·subst e;exact h.1
  exact Wo.spec h.2 p e
def NzH(H H2:aG)(id:Nat):aG->Prop
 | []=>True
 |(j,o')::r=>(∃o,H.get j=some o/\o.g=o'.g/\o.sz=o'.sz/\o.ty=o'.ty/\NzR H2 id o.rows o'.rows)/\NzH H H2 id r
theorem NzH.spec{H H2}{id}:∀ {H'},NzH H H2 id H'->∀p∈H',∃o,H.get p.1=some o/\o.g=p.2.g/\o.sz=p.2.sz/\o.ty=p.2.ty/\NzR H2 id o.rows p.2.rows
 |(j,o')::r,h,p,a=>by
  rcases aCr.1 a with e|e
  ·subst e;exact h.1
  exact NzH.spec h.2 p e
theorem cQ.nz{G0:aG}{E E':dC}(id sz ty:Nat)(P:H.get id=none)(hsz:Nat.blt 0 sz=true)(hE:Wo E ((id,⟨0,sz,ty,[]⟩)::H') id E')(hH:NzH H ((id,⟨0,sz,ty,[]⟩)::H') id H')(hk:wc ((id,⟨0,sz,ty,[]⟩)::H') H G0):
  cQ G0 E H E' ((id,⟨0,sz,ty,[]⟩)::H'):=by
 intro G hG N a w X;obtain ⟨I,ι,hr,C,he⟩:=X.rel;obtain ⟨B,R⟩:=hr.adopt (sz:=sz) (ty:=ty) P (by simp_all);have J:0<sz:=by simp_all
 obtain ⟨f,K⟩:∃f:lR,f=(fun j=>if j=id then none else ι j):=⟨_,rfl⟩;rw[<-K]at B R;have n:f id=none:=by simp_all
 obtain ⟨x,s⟩:∃x:aG,x=(id,(⟨0,sz,ty,[]⟩:Ob))::H:=⟨_,rfl⟩;obtain ⟨q,A⟩:∃q:aG,q=(id,(⟨0,sz,ty,[]⟩:Ob))::H':=⟨_,rfl⟩;rw[<-s]at B R;rw[<-A]at hE hH hk |-;have g1:x.get id=some ⟨0,sz,ty,[]⟩:=by rw[s];simp[aG.get]
 have g2:q.get id=some ⟨0,sz,ty,[]⟩:=by rw[A];simp[aG.get]
 have n1:∀j,j≠id->x.get j=H.get j:=fun j e=>by rw[s];simp[aG.get,kV (Ne.symm e)]
 have n2:∀j,j≠id->q.get j=H'.get j:=fun j e=>by rw[A];simp[aG.get,kV (Ne.symm e)]
 have g:∀j l,q.get j=some l->∃o,x.get j=some o/\o.g=l.g/\o.sz=l.sz/\o.ty=l.ty/\NzR q id o.rows l.rows:=by
  intro j l p;by_cases e:j=id
  ·subst e;rw[g2]at p;cases p;exact⟨_,g1,rfl,rfl,rfl,.inl ⟨rfl,by simp⟩⟩
  rw[n2 j e]at p;obtain ⟨o,m,u⟩:=hH.spec _ (dY p)
  simp_all
 have L:pz x q:=fun j l p=>by
  obtain ⟨o,m,u,e3,e4,e5⟩:=g j l p;exact⟨o,m,u,e3,e4,e5.spec.1⟩
 have Q:∀b,MW f q b->MW f x b:=by
  rintro b ⟨j,l,c,p,T⟩;obtain ⟨o,m,_⟩:=g j l p;exact⟨j,o,c,m,T⟩
 have D:Rel I f q w:=by
  refine⟨B.imm,fun j l p=>?_,fun j j' o l b c c' M Y=>?_,B.glob⟩
  ·obtain ⟨o,m,u,e3,e4,e5⟩:=g j l p;obtain ⟨s1,s2⟩:=e5.spec;refine(B.obj j o m).keepG e3.symm e4.symm s1.symm (Y8 s1 (fun i r' hi=>by
    obtain ⟨r,t1,t2,U⟩:=s2 i r' hi;refine⟨r,t1,t2,fun k a Z h1 h2 y ts e=>?_⟩;obtain ⟨z,F,u2⟩:=U k Z h2;rw[h1]at F;cases F;exact u2.raw e)) rfl (fun _ _ _ _=>⟨rfl,fun h=>h⟩) (fun i r' hi=>?_)
   obtain ⟨r,t1,t2,U⟩:=s2 i r' hi;refine⟨r,t1,t2,fun k a Z h1 h2 v S=>?_⟩;obtain ⟨y,F,u2⟩:=U k Z h2;rw[h1]at F;cases F;exact VRel.nz L n g2 rfl J u2 S
  obtain ⟨V,m,_⟩:=g j o M;obtain ⟨o2,u,_⟩:=g j' l Y;exact B.inj j j' V o2 b c c' m u
 have d:=C.trans R;have O:Step G.I G.ι G.H G.w I f q w:=by
  refine⟨d.os,d.tape,d.output,d.size,d.froz,d.imm,d.immNew,fun b T=>d.own b (Q b T),d.keep,fun j o M=>?_⟩;obtain ⟨V,m,u⟩:=d.objs j o M;subst hG;have W:=hk.kept j (by rw[M];rfl);by_cases e:j=id
  ·subst e;obtain ⟨o0,e0,_⟩:=C.objs j o M;rw[P]at e0;cases e0
  rw[n1 j e]at m;exact⟨V,W.trans m,u⟩
 refine⟨X.defers,X.size,I,f,D,O,fun t v S=>?_⟩;obtain ⟨v0,f1,f2⟩:=hE.spec _ (iA S);obtain ⟨c,c1,c2⟩:=he t v0 f1;exact⟨c,c1,VRel.nz L n g2 rfl J f2 (c2.mono hr R)⟩
end Go.Abs
namespace Go.Abs
open Go.Proofs.YtmdicgjnmfolfaaGreatDoor
section
theorem Ff{H}(d:DataW H):1<=Rows.uptoBulk d:=by
 cases d with
 |lit l=>cases l<;>simp[Rows.uptoBulk]
 |_=>simp[Rows.uptoBulk]
theorem Fg{H}{d:DataW H}{l}(h:d∈l):Rows.uptoBulk d<=Rows.uptoBulkAll l:=by
 induction l with
 |nil=>cases h
 |cons x r ih =>
  simp[Rows.uptoBulkAll]
  grind
theorem Fh{H}(l:List (DataW H)):l.length<=Rows.uptoBulkAll l:=by
 induction l with
 |nil=>simp
 |cons x r ih=>have:=Ff x;simp[Rows.uptoBulkAll,aCh];omega
inductive PL(w:World)(I:Nat->Prop):List Value->List PV->Prop
 |nil:PL w I [] []
 |cons {c:Value} {p:PV} {cs:List Value} {ps:List PV} (h:PRep w I c p) (r:PL w I cs ps):PL w I (c::cs) (p::ps)
theorem PL.length{w}{I}{cs}{ps}(h:PL w I cs ps):cs.length=ps.length:=by
 induction h with
 |nil=>rfl
 |cons h r ih=>grind
theorem PL.append{w}{I}{cs cs'}{ps a}(h:PL w I cs ps)(b:PL w I cs' a):PL w I (cs++cs') (ps++a):=by
 induction h with
 |nil=>exact b
 |cons h r c=>exact .cons h c
theorem PL.get{w}{I}{cs}{ps}(h:PL w I cs ps):∀(k:Nat) (c) (p),cs[k]?=some c->ps[k]?=some p->PRep w I c p:=by
 induction h with
 |nil=>simp_all
 |cons h r ih =>
  grind
def GZ(P:Program):Nat->List Field->Nat->Bool
 |o,[],n=>Nat.beq o n
 |o,f::r,n=>Nat.beq f.offset o&&GZ P (o+P.cellsOf f.type) r n
def MD(P:Program)(e:TypeId):Nat->Nat->List Field
 |_,0=>[]
 |o,k+1=>⟨"",e,o,false, "", "",0⟩::MD P e (o+P.cellsOf e) k
theorem K8{P}{e}:∀ {o k},(MD P e o k).length=k
 |_,0=>rfl
 |o,k+1=>congrArg _ (K8)
theorem U4{P}{e}:∀ {k o i} {f},(MD P e o k)[i]?=some f->f.type=e/\f.offset=o+i*P.cellsOf e
 |0,o,i,f,h=>by cases h
 |k+1,o,0,f,h=>by
  obtain rfl:=Option.some.inj h
  simp_all
 |k+1,o,i+1,f,h=>by
  have:=U4 (show (MD P e _ k)[i]?=some f from h)
  grind
def CS(P:Program):Nat->TypeId->Bool
 |0,_=>false
 |n+1,t=>match P.underlying t with
  |some .bool=>true
  |some (.int _)=>true
  |some .string=>true
  |some (.slice e)=>CS P n e&&Nat.blt 0 (P.cellsOf e)
  |some (.struct fs)=>GZ P 0 fs.toList (P.cellsOf t)&&fs.toList.all fun f=>CS P n f.type
  |some (.array k e)=>GZ P 0 (MD P e 0 k) (P.cellsOf t)&&(MD P e 0 k).all fun f=>CS P n f.type
  |_=>false
def ShF(S:TypeId->List PV->Prop)(c:TypeId->Nat):List Field->List PV->Prop
 | [],ps=>ps=[]
 |f::r,ps=>∃a b,ps=a++b/\a.length=c f.type/\S f.type a/\ShF S c r b
def Sh(P:Program)(B:Nat):Nat->TypeId->List PV->Prop
 |0,_,_=>False
 |n+1,t,ps=>match P.underlying t with
  |some .bool=>∃b,ps=[.bool b]
  |some (.int k)=>∃i,ps=[.int k i]/\(Lit.int k i).wf=true
  |some .string=>∃s,ps=[.str s]/\s.size<=B
  |some (.slice e)=>∃rows,ps=[.sl rows]/\rows.length<=B/\∀r∈rows,r.length=P.cellsOf e/\Sh P B n e r
  |some (.struct fs)=>ShF (fun t ps=>Sh P B n t ps) P.cellsOf fs.toList ps
  |some (.array k e)=>ShF (fun t ps=>Sh P B n t ps) P.cellsOf (MD P e 0 k) ps
  |_=>False
abbrev pw(W:World):Nat->Prop:=fun b=>b<W.heap.size
theorem Bm{W}{a}{v}(h:W.cell? a=some v):a.spot=none/\pw W a.block:=by
 unfold World.cell? at h
 split at h
 ·next c t fr e =>
  refine⟨?_,(Array.getElem?_eq_some_iff.1 e).1⟩
  simp_all
 grind
section
variable{H:Type}{enc:TypeId×Value->H}{P:Program}{W:World}{B:Nat}
theorem UW{P}:∀ {fs} {o n},GZ P o fs n=true->o<=n
 | [],o,n,h=>Nat.le_of_eq (Nat.eq_of_beq_eq_true h)
 |f::fs,o,n,h=>by
  simp[GZ,aCo]at h;have:=UW h.2;omega
theorem KW{m n:Nat}{cs:List Value}(p:∀(t:TypeId) (cs:List Value) (x),CS P n t=true->DataW.trod enc P W 0 (fun _=>true) true m t cs=some x->Rows.uptoBulk x.1<=B->∃ps,PL W (pw W) cs ps/\Sh P B n t ps):
  ∀(fs:List Field) (xs:List _) (o:Nat),GZ P o fs cs.length=true->(fs.all fun f=>CS P n f.type)=true->xs.length=fs.length ->
   (∀(i:Nat) (f:Field),fs[i]?=some f->DataW.trod enc P W 0 (fun _=>true) true m f.type ((cs.drop f.offset).take (P.cellsOf f.type))=xs[i]?)->Rows.uptoBulkAll (xs.map (·.1))<=B ->
   ∃ps,PL W (pw W) (cs.drop o) ps/\ShF (fun t ps=>Sh P B n t ps) P.cellsOf fs ps
 | [],xs,o,c,_,l,d,j=>by
  have:o=cs.length:=Nat.eq_of_beq_eq_true c;subst this;exact⟨[],by rw[List.drop_length];exact .nil,rfl⟩
 |f::fs,[],o,c,_,l,d,j=>by grind
 | f::fs,x::xs,o,c,e,l,d,j=>by
  simp only[GZ,aCo]at c;have r:f.offset=o:=Nat.eq_of_beq_eq_true c.1;simp only[List.all_cons,aCo]at e;simp only[List.map_cons,Rows.uptoBulkAll]at j;have k:=d 0 f rfl;rw[r]at k;obtain ⟨a,q,s⟩:=p f.type _ x e.1 k (by omega);obtain ⟨b,w,u⟩:=KW p fs xs (o+P.cellsOf f.type) c.2 e.2 (by simp_all) (fun i g v=>d (i+1) g v) (by omega);have hle:=UW c.2;have h:a.length=P.cellsOf f.type:=by
   rw[<-q.length,aCt,aCu];omega
  refine⟨a++b,?_,a,b,rfl,h,s,u⟩;have:=q.append w
  rwa [<-List.drop_drop,List.take_append_drop]at this
theorem M1:∀(n:Nat) (t:TypeId),CS P n t=true->∀(m:Nat) (cs:List Value) (x:DataW H×List MemPlace),DataW.trod enc P W 0 (fun _=>true) true m t cs=some x->Rows.uptoBulk x.1<=B->∃ps,PL W (pw W) cs ps/\Sh P B n t ps
 |0,t,y,m,cs,x,h,R=>by cases y
 | n + 1, t, y, m, cs, x, h, R => by
  unfold CS at y
  split at y
  ·next j =>
   obtain ⟨b,rfl,rfl⟩:=DataW.trod_bool j h;exact⟨[.bool b],.cons (.bool b) .nil,by unfold Sh;rw[j];exact⟨b,rfl⟩⟩
  ·next k j =>
   obtain ⟨i,rfl,rfl,hw⟩:=DataW.trod_int j h;exact⟨[.int k i],.cons (.int k i) .nil,by unfold Sh;rw[j];exact⟨i,rfl,hw⟩⟩
  ·next j =>
   obtain ⟨s,rfl,rfl,hs⟩:=DataW.trod_string j h;have C:s.size<=B:=by
    have Z:s.data.toList.length=s.size:=Array.length_toList;simp only[Rows.uptoBulk]at R;omega
   exact⟨[.str s],.cons (.str s) .nil,by unfold Sh;rw[j];exact⟨s,rfl,C⟩⟩
  ·next e j =>
   simp only[aCo,Nat.blt_eq]at y;obtain ⟨hpe,C⟩:=y;rcases DataW.trod_slice j h with⟨rfl,rfl⟩|⟨a,u,S,g,V,K,rfl,rfl,rfl,_,hlc,hmax,hlen,T,N,_⟩
   ·exact⟨[.sl []],.cons .nilsl .nil,by unfold Sh;rw[j];exact⟨[],rfl,by simp,by simp⟩⟩
   obtain ⟨hrl,N⟩:=N rfl;simp only[Rows.uptoBulk]at R;rcases Nat.eq_zero_or_pos S with hc0|hcpos
   ·have I:u=0:=by omega
    subst I hc0;exact⟨[.sl []],.cons (.empsl a) .nil,by unfold Sh;rw[j];exact⟨[],rfl,by simp,by simp⟩⟩
   have M:∃v,W.cell? a=some v:=by
    rcases Nat.eq_zero_or_pos u with I|hlp
    ·subst I;have G:=N 0 (by omega);have E:=List.getElem?_eq_getElem (l:=V) (i:=0) (by omega);rw[E,Option.bind_eq_some_iff]at G;obtain ⟨c0,U,_⟩:=G;obtain ⟨_,q2,q3⟩:=World.cells?_some U;have:=q3 0 C;simp only[Nat.add_zero,Nat.zero_mul]at this;rw[Addr.add_zero',Addr.add_zero',aCk (by omega)]at this;exact⟨_,this⟩
    have G:=T 0 hlp;have E:=List.getElem?_eq_getElem (l:=g) (i:=0) (by omega);rw[E,Option.bind_eq_some_iff]at G;obtain ⟨c0,U,_⟩:=G;obtain ⟨_,q2,q3⟩:=World.cells?_some U;have:=q3 0 C;simp only[Nat.zero_mul]at this;rw[Addr.add_zero',Addr.add_zero',aCk (by omega)]at this;exact⟨_,this⟩
   obtain ⟨v0,hv0⟩:=M;obtain ⟨A,F⟩:=Bm hv0;obtain ⟨b,z,sp⟩:=a;simp only at A F;subst A;have Q:∀i,i<u->∃ps:List PV,∃w,W.cells? 0 (Addr.add ⟨b,z,none⟩ (i*P.cellsOf e)) (P.cellsOf e)=some w/\PL W (pw W) w ps/\Sh P B n e ps:=by
    intro i D;have G:=T i D;have E:=List.getElem?_eq_getElem (l:=g) (i:=i) (by omega);rw[E,Option.bind_eq_some_iff]at G;obtain ⟨w,U,q2⟩:=G;have hbi:Rows.uptoBulk (g[i]'(by omega)).1<=B:=by
     have:=Fg (List.mem_map_of_mem (f:=fun x:DataW H×List MemPlace=>x.1) (List.getElem_mem (l:=g) (n:=i) (by omega)));omega
    obtain ⟨ps,s1,s2⟩:=M1 n e hpe K w _ q2 hbi;exact⟨ps,w,U,s1,s2⟩
   obtain ⟨d,r1,r2⟩:∃d:List (List PV),d.length=u/\∀i r,d[i]?=some r->∃w,W.cells? 0 (Addr.add ⟨b,z,none⟩ (i*P.cellsOf e)) (P.cellsOf e)=some w/\PL W (pw W) w r/\Sh P B n e r:=by
    refine⟨(List.range u).map (fun i=>if h:i<u then(Q i h).choose else[]),by simp,fun i r q=>?_⟩
    grind
   have L:∀(i:Nat) (r:List PV),d[i]?=some r->r.length=P.cellsOf e:=fun i r q=>by
    obtain ⟨w,Y,X,c3⟩:=r2 i r q;rw[<-X.length];exact(World.cells?_some Y).2.1
   refine⟨[.sl d],.cons ?_ .nil,by
    unfold Sh;rw[j];refine⟨d,rfl,?_,fun r q=>?_⟩
    ·have:=Fh (g.map (·.1));simp only[aCf]at this;omega
    obtain ⟨i,D⟩:=aDA.1 q;obtain ⟨w,Y,X,c3⟩:=r2 i r D;exact⟨L i r D,c3⟩⟩
   rw[<-r1];have o:∀(i:Nat) (r:List PV),d[i]?=some r->∀(k:Nat) (p:PV),r[k]?=some p->∃v,W.cell? ⟨b,z+i*P.cellsOf e+k,none⟩=some v/\PRep W (pw W) v p:=by
    intro i r q k p O;obtain ⟨w,Y,X,c3⟩:=r2 i r q;obtain ⟨_,d1,d2⟩:=World.cells?_some Y;have hkl:k<P.cellsOf e:=by rw[<-L i r q];exact(aCj.1 O).1
    have Z:=d2 k hkl;rw[Addr.add_lit,Addr.add_lit]at Z;have e2:w[k]?=some (w[k]'(by omega)):=aCk (by omega);exact⟨_,Z.trans e2,X.get k _ p e2 O⟩
   refine PRep.sl b z S (P.cellsOf e) d (fun i k=>(W.cell? ⟨b,z+i*P.cellsOf e+k,none⟩).getD undef) F C (fun r q=>?_) (by omega) (fun i r q k p O=>?_) (fun i r q k p O=>?_)
   ·obtain ⟨i,D⟩:=aDA.1 q;exact L i r D
   ·obtain ⟨v,v1,v2⟩:=o i r q k p O;simp[v1]
   obtain ⟨v,v1,v2⟩:=o i r q k p O;simp[v1,v2]
  ·next fs j =>
   simp only[aCo]at y;obtain ⟨xs,K,rfl,rfl,hl,J,hf⟩:=DataW.trod_struct j h;simp only[Rows.uptoBulk]at R;obtain ⟨ps,p1,p2⟩:=KW (n:=n) (m:=K) (B:=B) (fun t cs x a b c=>M1 n t a K cs x b c) fs.toList xs 0 (by rw[hl];exact y.1) y.2 (by simpa using J) (fun i f D=>hf i f (by simpa using D)) (by omega);exact⟨ps,by simpa using p1,by unfold Sh;rw[j];exact p2⟩
  ·next k e j =>
   simp only[aCo]at y;obtain ⟨xs,K,rfl,rfl,hl,J,hf⟩:=DataW.trod_array j h;simp only[Rows.uptoBulk]at R;obtain ⟨ps,p1,p2⟩:=KW (n:=n) (m:=K) (B:=B) (fun t cs x a b c=>M1 n t a K cs x b c) (MD P e 0 k) xs 0 (by rw[hl];exact y.1) y.2 (by rw[K8,J]) (fun i f D=>by
    obtain ⟨g1,g2⟩:=U4 D;have hlt:i<k:=by
     have:=(aCj.1 D).1
     rwa [K8]at this
    rw[g1,g2,aCx];exact hf i hlt) (by omega)
   exact⟨ps,by simpa using p1,by unfold Sh;rw[j];exact p2⟩
  grind
end
end
end Go.Abs
namespace Go.Abs
open Go.Proofs.YtmdicgjnmfolfaaGreatDoor Go.ChangeShapes Go.WideShapes Go.ChangeAt Go.RowKit
variable{n base:Nat}{v:Value}{f:Func}{s:ChangeSpec}{c:Bool}{args:Array Value}
section
def pn(P:Program)(t:TypeId)(ps:List PV):AV :=match P.underlying t with
 |some (.struct _)=>.agg (ps.map .pv)
 |some (.array _ _)=>.agg (ps.map .pv)
 |_=>match ps with
  | [p]=>.pv p
  |_=>.any
section
variable{H:Type}{enc:TypeId×Value->H}{P:Program}{W:World}{B:Nat}
theorem PL.toV{I}{ι}{Hp}{cs}{ps}(h:PL W I cs ps)(i:Nat)(v)(a)(d:cs[i]?=some v)(b:(ps.map AV.pv)[i]?=some a):VRel W I ι Hp v a/\v.oneCell'=true:=by rw[aCz]at b;obtain ⟨p,c,rfl⟩:=Option.map_eq_some_iff.1 b;have:=h.get i v p d c;exact⟨.pv this,this.oneCell⟩
theorem Zv{n}{t}{v}{base}(d:CS P n t=true)(b:Value.okWide P W .any base t v)(hno:∀fs,P.underlying t=some (.struct fs)->False)(hno2:∀k e,P.underlying t=some (.array k e)->False):v.cells.toList=[v]:=by
 cases n with
 |zero=>cases d
 |succ n =>
  unfold CS at d;unfold Value.okWide at b
  split at d
  ·next c=>cases v<;>first|rfl|(simp[Cell.okWide,Cell.ok,c]at b)
  ·next k c=>cases v<;>first|rfl|(simp[Cell.okWide,Cell.ok,c]at b)
  ·next c=>cases v<;>first|rfl|(simp[Cell.okWide,Cell.ok,c]at b)
  ·next e c=>cases v<;>first|rfl|(simp[Cell.okWide,Cell.ok,c]at b)
  all_goals simp_all
theorem Oi{t:TypeId}{d:DataW H}{p:List MemPlace}(ι:lR)(Hp:aG)(x:CS P n t=true)(b:Value.okWide P W .any base t v)(h:DataW.Trod enc P W 0 (fun _=>true) true t v d p)(z:Rows.uptoBulk d<=B):
  ∃ps,Sh P B n t ps/\VRel W (pw W) ι Hp v (pn P t ps):=by
 obtain ⟨m,A⟩:=h;obtain ⟨ps,f,C⟩:=M1 (B:=B) n t x m _ _ A z;refine⟨ps,C,?_⟩;unfold pn
 split
 ·next w s =>
  unfold Value.okWide at b;rw[s]at b;obtain ⟨y,rfl,_,_⟩:=b;have u:=f.length;simp only[Value.cells,Array.length_toList]at u;refine .agg (by simp_all) (fun i v c=>?_) (fun i v a c r=>?_)
  ·have l:=(Array.getElem?_eq_some_iff.1 c).1;exact(PL.toV (ι:=ι) (Hp:=Hp) f i v (.pv (ps[i]'(by omega))) (by simpa[Value.cells]using c) (by simp_all)).2
  exact(PL.toV f i v a (by simpa[Value.cells]using c) r).1
 ·next k e s =>
  unfold Value.okWide at b;rw[s]at b;obtain ⟨y,rfl,_,_⟩:=b;have u:=f.length;simp only[Value.cells,Array.length_toList]at u;refine .agg (by simp_all) (fun i v c=>?_) (fun i v a c r=>?_)
  ·have l:=(Array.getElem?_eq_some_iff.1 c).1;exact(PL.toV (ι:=ι) (Hp:=Hp) f i v (.pv (ps[i]'(by omega))) (by simpa[Value.cells]using c) (by simp_all)).2
  exact(PL.toV f i v a (by simpa[Value.cells]using c) r).1
 next o g =>
 split
 ·next q =>
  have j:=Zv x b (fun w h=>o w h) (fun k e h=>g k e h);rw[j]at f;exact(PL.toV f 0 _ _ rfl rfl).1
 exact .any v
def MC(P:Program):List TypeId->List (List PV)->List AV
 |t::ts,p::ps=>pn P t p::MC P ts ps
 |_,_=>[]
def U8(P:Program)(B n:Nat):List TypeId->List (List PV)->Prop
 | [],[]=>True
 |t::ts,p::ps=>Sh P B n t p/\U8 P B n ts ps
 |_,_=>False
theorem ra{n}{a}(h:U8 P B n [] a):a=[]:=by
 cases a with
 |nil=>rfl
 |cons p ps=>exact h.elim
theorem GD{n}{t}{b}{a}(h:U8 P B n (t::b) a):∃p ps,a=p::ps/\Sh P B n t p/\U8 P B n b ps:=by
 cases a with
 |nil=>exact h.elim
 |cons p ps=>exact⟨p,ps,rfl,h.1,h.2⟩
theorem cm{n}{base}(ι)(Hp):∀ {c} {e} {l} {p},DataW.TrodAll enc P W 0 (fun _=>true) true c e l p->c.all (CS P n)=true ->
  (∀(j:Nat) t v,c[j]?=some t->e[j]?=some v->Value.okWide P W .any base t v)->Rows.uptoBulkAll l<=B ->
  ∃b,U8 P B n c b/\e.length=(MC P c b).length/\∀(i:Nat) (v) (a),e[i]?=some v->(MC P c b)[i]?=some a->VRel W (pw W) ι Hp v a
 | [],e,l,p,h,k,m,o=>by
  obtain ⟨rfl,rfl,rfl⟩:=trodAll_nil h;exact⟨[],trivial,rfl,fun i v a h=>by grind⟩
 |t::c,e,l,p,h,k,m,o=>by
  obtain ⟨v,vs',d,ds',p1,p2,rfl,rfl,rfl,g,f⟩:=trodAll_cons h;simp only[List.all_cons,aCo]at k;simp[Rows.uptoBulkAll]at o;obtain ⟨r,x,u⟩:=Oi (B:=B) _ _ k.1 (m 0 t v rfl rfl) g (by omega);obtain ⟨b,q,w,s⟩:=cm _ _ f k.2 (fun j t v g f=>m (j+1) t v g f) (by omega);refine⟨r::b,⟨x,q⟩,by simp[MC,w],fun i v a g f=>?_⟩;cases i with
  |zero=>cases g;cases f;exact u
  |succ i=>exact s i v a g f
theorem Jx(ι)(W)(a:RN (pw W) W):Rel (pw W) ι [] W:=⟨fun _ h=>h,fun _ _ h=>(by cases h),fun _ _ _ _ _ _ _ h=>(by cases h),a⟩
theorem jl{I d}{ι a}{H'}{w w'}(h:Step I ι [] w d a H' w'):Below w.heap.size w w' :=⟨h.os,h.tape,h.output,h.size,fun k b=>h.keep k b (fun⟨_,_,_,c,_⟩=>by cases c)⟩
theorem RD(m:laidOutB P=true){k:World}(l:Below W.heap.size W k){j}:∀ {f} {g} {e} {p},DataW.TrodAll enc P W 0 (fun _=>true) true f g e p ->
  (f.all fun t=>P.readableRec t&&Nat.blt t P.types.size)=true->(∀x∈p,x.block<W.heap.size)->(∀x∈p,j x.block=true)->DataW.TrodAll enc P k 0 j true f g e p
 | [],g,e,p,h,c,a,b=>by
  obtain ⟨rfl,rfl,rfl⟩:=trodAll_nil h;exact trodAll_mk0
 | t::f,g,e,p,h,c,a,b=>by
  obtain ⟨v,vs',d,ds',p1,p2,rfl,rfl,rfl,o,n⟩:=trodAll_cons h;simp only[List.all_cons,aCo,Nat.blt_eq]at c;exact trodAll_cons_mk (WideElems.Trod_stays m c.1.1 c.1.2 o (fun x i=>l.same (a x (by grind))) (fun x i=>b x (by grind)))
   (RD m l n c.2 (fun x i=>a x (by grind)) (fun x i=>b x (by grind)))
theorem fp{g m l:Bool}{W n:World}{q x:List (DataW H)}{a pa pv:List MemPlace}
  (y:DataW.Whole enc P f.params.toList s.vars g W args.toList q x a)
  (h:∀(b:Nat) (k:Nat->Bool) (hd:Bool),DataW.TrodAll enc P n b k hd f.resultTypes.toList (v.resultList f.resultTypes.size) (s.fn H (q++x)).results [])
  (e:∀k:Nat->Bool,(∀p∈a,k p.block=true)->DataW.TrodAll enc P n 0 k true f.params.toList args.toList (s.fn H (q++x)).args pa)
  (d:∀k:Nat->Bool,(∀p∈a,k p.block=true)->DataW.TrodVars enc P n k s.vars (s.fn H (q++x)).vars pv)
  (C:a=pa++pv) (D:Below W.heap.size W n)
  (z:∀(j:Nat) (t:TypeId) (r:Value),f.resultTypes[j]?=some t->(v.resultList f.resultTypes.size)[j]?=some r->Value.okWide P n .any 0 t r) :
  s.post enc P f g m c l W args v n:=by
 have A:∀p∈a,p.block<W.heap.size:=fun p o=>y.lt p o;have i:∀p∈a,(fun b=>decide (b<W.heap.size)) p.block=true:=fun p o=>by simp_all
 refine⟨q,x,a,[],pa,pv,y,h _ _ _,e _ i,d _ i,World.keptBut_mono (fun p o=>⟨o,?_⟩) (D.frame (·∈a)),fun _=>?_⟩
 ·simp_all
 obtain ⟨_,_,_,_,_,E,hn⟩:=y;refine⟨z,_,_,([]++pa)++pv,⟨[]++pa,pv,trodAll_append (e _ (fun _ _=>rfl)) (h _ _ _),d _ (fun _ _=>rfl),rfl,?_,?_⟩,?_⟩
 ·intro b w o;have u:MemPlace.cell b w∈a:=by rw[C];simpa using o
  rw[D.frozen (A _ u)];exact E b w u
 all_goals simp_all
theorem Co{J:FuncId}{k C A:Bool}{h gs:List (DataW H)}{m:List MemPlace}{bt:TypeId}
  (hl:laidOutB P=true) (w:(f.params.toList.all fun t=>P.readableRec t&&Nat.blt t P.types.size)=true) (l:f.params.toList.all (CS P n)=true) (g:s.vars=[])
  (F:∀h:List (DataW H),h.length=f.params.toList.length->(s.fn H h).results=[.lit (.bool true)]/\(s.fn H h).args=h/\(s.fn H h).vars=[])
  (z:f.resultTypes=#[bt]) (G:P.underlying bt=some .bool)
  (u:∀(j:Nat) t v,f.params[j]?=some t->args[j]?=some v->Value.okWide P W .any base t v)
  (T:DataW.Whole enc P f.params.toList s.vars k W args.toList h gs m) (S:Rows.uptoBulkAll h<=B)
  (V:∀o,U8 P B n f.params.toList o->aW P J (MC P f.params.toList o) [] (fun r H'=>r=.pv (.bool true)/\H'=[])) (hg:RN (pw W) W:=by exact fun p hp=>by cases hp) :
  Calls P J args W fun e Y=>∃v,e=.returned v/\s.post enc P f k C c A W args v Y:=by
 have D:=T;obtain ⟨p,q,E,L,rfl,N,M⟩:=T;rw[g]at L;obtain ⟨rfl,rfl⟩:=trodVars_none L;obtain ⟨o,Z,h2,X⟩:=cm (B:=B) (base:=base) (fun _=>none) [] E l (fun j t v ht R=>u j t v (by simp_all) (by simp_all)) S;have hlen:h.length=f.params.toList.length:=by
  clear Z h2 X V F w l u D S N M;revert E;generalize f.params.toList=U;generalize args.toList=vs;intro E;clear L
  induction U generalizing vs h p with
  |nil=>obtain ⟨_,rfl,_⟩:=trodAll_nil E;rfl
  |cons t U ih =>
   obtain ⟨v,vs',d,ds',p1,p2,_,rfl,_,_,h2⟩:=trodAll_cons E
   grind
 refine(V o Z (pw W) (fun _=>none) W args (Jx _ W hg) (by omega) (fun i v a ha hb=>X i v a (by simp_all) hb)).mono ?_;rintro e Y ⟨r,H',I',ι',v,rfl,⟨rfl,rfl⟩,R,hr,K⟩;have O:v=.bool true:=R.bool_inv;subst O;have y:=jl K;obtain ⟨f1,f2,f3⟩:=F (h++[]) (by simp_all);refine⟨_,rfl,fp (pa:=p) (pv:=[]) D (fun b Q hd=>?_) (fun Q I=>?_) (fun Q I=>?_) rfl y (ok_one z rfl (okWide_bool_mk G _))⟩
 ·rw[f1,z];exact trodAll_cons_mk (shut_bool G _) trodAll_mk0
 ·rw[f2,List.append_nil];exact RD hl y E w (fun x hx=>D.lt x (by grind)) (fun x hx=>I x (by grind))
 rw[f3,g];rfl
theorem wS{n}{t}{k}{ps}(ht:P.underlying t=some (.int k))(h:Sh P B (n+1) t ps):∃i,ps=[.int k i]/\(Lit.int k i).wf=true:=by unfold Sh at h;simp_all
theorem Jo{n}{t}{ps}(ht:P.underlying t=some .bool)(h:Sh P B (n+1) t ps):∃b,ps=[.bool b]:=by unfold Sh at h;simp_all
theorem qC{n}{t}{ps}(ht:P.underlying t=some .string)(h:Sh P B (n+1) t ps):∃s,ps=[.str s]/\s.size<=B:=by unfold Sh at h;simp_all
theorem oO{n}{t}{fs}{ps}(a:P.underlying t=some (.struct fs))(h:Sh P B (n+1) t ps):ShF (fun t ps=>Sh P B n t ps) P.cellsOf fs.toList ps:=by unfold Sh at h;rw[a]at h;exact h
theorem BQ{t e}{ps}{α:Type}{f}{good:α->Prop}(j:P.underlying t=some (.slice e))(h:Sh P B (n+1) t ps)(hd:∀r,Sh P B n e r->∃a,r=f a/\good a):
  ∃l:List α,ps=[.sl (l.map f)]/\l.length<=B/\∀a,a∈l->good a:=by
 unfold Sh at h;rw[j]at h;obtain ⟨c,rfl,d,g⟩:=h;obtain ⟨l,k,m⟩:∃l:List α,c=l.map f/\∀a,a∈l->good a:=by
  clear d
  induction c with
  |nil=>simp_all
  |cons r rs i =>
   obtain ⟨l,k,m⟩:=i (fun r h=>g r (by simp[h]));obtain ⟨a,a1,a2⟩:=hd r (g r (by simp)).2;refine⟨a::l,by simp_all,fun b hb=>?_⟩
   grind
 grind
end
end
end Go.Abs
namespace Go.Proofs.YtmdicgjnmfolfaaGreatDoor
open Go.Proofs.Tryz
open Go.Abs
variable{α:Type}{l:List _}{k:Nat}
theorem Qv:eL Tryz.prog 3 [.pv (.int .i64 0)]:=⟨_,_,wM,.inl rfl,rfl⟩
theorem zo4:eL Tryz.prog 4 [.pv (.bool false)]:=⟨_,_,nY,.inl rfl,rfl⟩
theorem zo5:eL Tryz.prog 5 [.pv (.int .u8 0)]:=⟨_,_,EB,.inl rfl,rfl⟩
theorem Ig:eL Tryz.prog 9 [.pv (.str ⟨#[]⟩)]:=⟨_,_,wL,.inl rfl,rfl⟩
theorem Wx:eL Tryz.prog 22 [.pv (.sl [])]:=⟨_,_,Gx,.inl rfl,rfl⟩
theorem wg:eL Tryz.prog 22 [.pv .nils]:=⟨_,_,Gx,.inr rfl,rfl⟩
theorem bT:fC Tryz.prog 22 9 1:=⟨aD,sizeOf9,by decide,_,wL⟩
theorem zT:EI Tryz.prog 9 1 16:=EI.mk (z:=(Value.string ⟨#[]⟩)) (by kernel_rfl) rfl (by decide) (by decide)
theorem Ws:eL Tryz.prog 23 [.pv .nils]:=⟨_,_,zeroValue23,.inr rfl,rfl⟩
theorem OP:fC Tryz.prog 23 153 15:=⟨cT,aR,by decide,_,vh⟩
theorem Qf:EI Tryz.prog 153 15 216:=EI.mk (z:=(Value.agg #[(Value.int IntKind.i64 (0)),(Value.string ⟨#[]⟩),(Value.string ⟨#[]⟩),(Value.string ⟨#[]⟩),(Value.int IntKind.i64 (0)),(Value.int IntKind.i64 (0)),(Value.string ⟨#[]⟩),(Value.string ⟨#[]⟩),(Value.slice none (0) (0)),(Value.string ⟨#[]⟩),(Value.int IntKind.i64 (0)),(Value.int IntKind.i64 (0)),(Value.int IntKind.i64 (0)),(Value.slice none (0) (0)),(Value.slice none (0) (0))])) (by kernel_rfl) rfl (by decide) (by decide)
theorem X9:eL Tryz.prog 25 [.pv (.int .i64 0),.pv (.sl []),.pv (.sl [])]:=⟨_,_,Gw,.inl rfl,rfl⟩
theorem iC:cS Tryz.prog 25 0 0:=⟨_,_,0,iG,rfl,rfl,sizeOf3⟩
theorem gD:cS Tryz.prog 25 1 1:=⟨_,_,0,iG,rfl,rfl,sizeOf22⟩
theorem iB:cS Tryz.prog 25 2 2:=⟨_,_,0,iG,rfl,rfl,sizeOf22⟩
theorem Od:lX Tryz.prog 25 [(0,1),(1,1),(2,1)] [.pv (.int .i64 0),.pv (.sl []),.pv (.sl [])]:=⟨_,#[(0,1),(1,1),(2,1)],_,_,iG,Gw,.inl rfl,rfl,fun w=>by simp[sizeOf3,sizeOf22],rfl⟩
theorem aA1:lX Tryz.prog 25 [(0,1),(1,1),(2,1)] [.pv (.int .i64 0),.pv .nils,.pv .nils]:=⟨_,#[(0,1),(1,1),(2,1)],_,_,iG,Gw,.inr rfl,rfl,fun w=>by simp[sizeOf3,sizeOf22],rfl⟩
theorem JW:fC Tryz.prog 26 68 2:=⟨dH,sizeOf68,by decide,_,Gv⟩
theorem aAS:EI Tryz.prog 68 2 16:=EI.mk (z:=(Value.agg #[(Value.int IntKind.i64 (0)),(Value.int IntKind.i64 (0))])) (by kernel_rfl) rfl (by decide) (by decide)
theorem Qw:eL Tryz.prog 28 [.pv (.str ⟨#[]⟩),.pv (.str ⟨#[]⟩),.pv (.sl []),.pv (.sl []),.pv (.int .i64 0),.pv (.sl []),.pv (.sl [])]:=⟨_,_,zeroValue28,.inl rfl,rfl⟩
theorem xK:cS Tryz.prog 28 0 0:=⟨_,_,0,oA,rfl,rfl,sizeOf9⟩
theorem xJ:cS Tryz.prog 28 1 1:=⟨_,_,0,oA,rfl,rfl,sizeOf9⟩
theorem qK:cS Tryz.prog 28 2 2:=⟨_,_,0,oA,rfl,rfl,sizeOf22⟩
theorem lO:cS Tryz.prog 28 3 3:=⟨_,_,0,oA,rfl,rfl,sizeOf26⟩
theorem lN:cS Tryz.prog 28 4 4:=⟨_,_,2,oA,rfl,rfl,sizeOf25⟩
theorem Oc:lX Tryz.prog 28 [(0,1),(1,1),(2,1),(3,1),(4,3)] [.pv (.str ⟨#[]⟩),.pv (.str ⟨#[]⟩),.pv (.sl []),.pv (.sl []),.pv (.int .i64 0),.pv (.sl []),.pv (.sl [])]:=⟨_,#[(0,1),(1,1),(2,1),(3,1),(4,3)],_,_,oA,zeroValue28,.inl rfl,rfl,fun w=>by simp[sizeOf9,sizeOf22,sizeOf25,sizeOf26],rfl⟩
theorem HC:eL Tryz.prog 30 [.pv (.int .i64 0),.pv (.int .i64 0),.pv (.int .i64 0),.pv (.int .i64 0),.pv (.str ⟨#[]⟩),.pv (.sl []),.pv (.sl []),.pv (.str ⟨#[]⟩),.pv (.bool false),.pv (.int .i64 0),.pv (.str ⟨#[]⟩),.pv (.int .i64 0),.pv (.sl []),.pv (.sl []),.pv (.str ⟨#[]⟩),.pv (.str ⟨#[]⟩),.pv (.sl []),.pv (.sl []),.pv (.int .i64 0),.pv (.sl []),.pv (.sl [])]:=⟨_,_,MU,.inl rfl,rfl⟩
theorem Wr:eL Tryz.prog 30 [.pv (.int .i64 0),.pv (.int .i64 0),.pv (.int .i64 0),.pv (.int .i64 0),.pv (.str ⟨#[]⟩),.pv .nils,.pv .nils,.pv (.str ⟨#[]⟩),.pv (.bool false),.pv (.int .i64 0),.pv (.str ⟨#[]⟩),.pv (.int .i64 0),.pv .nils,.pv .nils,.pv (.str ⟨#[]⟩),.pv (.str ⟨#[]⟩),.pv .nils,.pv .nils,.pv (.int .i64 0),.pv .nils,.pv .nils]:=⟨_,_,MU,.inr rfl,rfl⟩
theorem mF:cS Tryz.prog 30 0 0:=⟨_,_,0,eC,rfl,rfl,sizeOf3⟩
theorem sJ:cS Tryz.prog 30 1 1:=⟨_,_,0,eC,rfl,rfl,sizeOf3⟩
theorem mE:cS Tryz.prog 30 2 2:=⟨_,_,0,eC,rfl,rfl,sizeOf3⟩
theorem uZ:cS Tryz.prog 30 3 3:=⟨_,_,0,eC,rfl,rfl,sizeOf3⟩
theorem uY:cS Tryz.prog 30 4 4:=⟨_,_,0,eC,rfl,rfl,sizeOf9⟩
theorem lM:cS Tryz.prog 30 5 5:=⟨_,_,0,eC,rfl,rfl,sizeOf22⟩
theorem uX:cS Tryz.prog 30 6 6:=⟨_,_,0,eC,rfl,rfl,sizeOf23⟩
theorem uW:cS Tryz.prog 30 7 7:=⟨_,_,0,eC,rfl,rfl,sizeOf9⟩
theorem CD:cS Tryz.prog 30 8 8:=⟨_,_,0,eC,rfl,rfl,sizeOf4⟩
theorem tJ:cS Tryz.prog 30 9 9:=⟨_,_,0,eC,rfl,rfl,sizeOf3⟩
theorem pT:cS Tryz.prog 30 10 10:=⟨_,_,0,eC,rfl,rfl,sizeOf9⟩
theorem jR:cS Tryz.prog 30 11 11:=⟨_,_,2,eC,rfl,rfl,sizeOf25⟩
theorem dV:cS Tryz.prog 30 12 14:=⟨_,_,6,eC,rfl,rfl,sizeOf28⟩
theorem QV:lX Tryz.prog 30 [(0,1),(1,1),(2,1),(3,1),(4,1),(5,1),(6,1),(7,1),(8,1),(9,1),(10,1),(11,3),(14,7)] [.pv (.int .i64 0),.pv (.int .i64 0),.pv (.int .i64 0),.pv (.int .i64 0),.pv (.str ⟨#[]⟩),.pv (.sl []),.pv (.sl []),.pv (.str ⟨#[]⟩),.pv (.bool false),.pv (.int .i64 0),.pv (.str ⟨#[]⟩),.pv (.int .i64 0),.pv (.sl []),.pv (.sl []),.pv (.str ⟨#[]⟩),.pv (.str ⟨#[]⟩),.pv (.sl []),.pv (.sl []),.pv (.int .i64 0),.pv (.sl []),.pv (.sl [])]:=⟨_,#[(0,1),(1,1),(2,1),(3,1),(4,1),(5,1),(6,1),(7,1),(8,1),(9,1),(10,1),(11,3),(14,7)],_,_,eC,MU,.inl rfl,rfl,fun w=>by simp[sizeOf3,sizeOf4,sizeOf9,sizeOf22,sizeOf23,sizeOf25,sizeOf28],rfl⟩
theorem yc:fC Tryz.prog 34 3 1:=⟨underlying34,sizeOf3,by decide,_,wM⟩
theorem ei3:EI Tryz.prog 3 1 8:=EI.mk (z:=(Value.int IntKind.i64 (0))) (by kernel_rfl) rfl (by decide) (by decide)
theorem aAz:eL Tryz.prog 37 [.pv (.sl []),.pv (.sl []),.pv (.sl []),.pv (.int .i64 0),.pv (.sl []),.pv (.sl [])]:=⟨_,_,zeroValue37,.inl rfl,rfl⟩
theorem KV:cS Tryz.prog 37 1 1:=⟨_,_,0,vj,rfl,rfl,sizeOf22⟩
theorem aA2:lX Tryz.prog 37 [(0,1),(1,1),(2,1),(3,1),(4,1),(5,1)] [.pv (.sl []),.pv (.sl []),.pv (.sl []),.pv (.int .i64 0),.pv (.sl []),.pv (.sl [])]:=⟨_,#[(0,1),(1,1),(2,1),(3,1),(4,1),(5,1)],_,_,vj,zeroValue37,.inl rfl,rfl,fun w=>by simp[sizeOf3,sizeOf22,sizeOf33,sizeOf34,sizeOf35],rfl⟩
theorem Qu:eL Tryz.prog 41 [.pv (.int .i64 0)]:=⟨_,_,zeroValue41,.inl rfl,rfl⟩
theorem Qt:eL Tryz.prog 68 [.pv (.int .i64 0),.pv (.int .i64 0)]:=⟨_,_,Gv,.inl rfl,rfl⟩
theorem pC:cS Tryz.prog 68 0 0:=⟨_,_,0,underlying68,rfl,rfl,sizeOf3⟩
theorem pB:cS Tryz.prog 68 1 1:=⟨_,_,0,underlying68,rfl,rfl,sizeOf3⟩
theorem SK:lX Tryz.prog 68 [(0,1),(1,1)] [.pv (.int .i64 0),.pv (.int .i64 0)]:=⟨_,#[(0,1),(1,1)],_,_,underlying68,Gv,.inl rfl,rfl,fun w=>by simp[sizeOf3],rfl⟩
theorem VR(a0 b0:Int)(a1 b1:Int)(w:World):(Op.equalIn 10000 68 (.agg [.int .i64 a0,.int .i64 a1].toArray) (.agg [.int .i64 b0,.int .i64 b1].toArray)).run Tryz.prog w=.ok (decide (a0=b0)&&decide (a1=b1)) w:=by
  refine(run_equalIn_struct (P:=Tryz.prog) w 9999 68 _ _ (by simp[Program.fieldsOf,underlying68]) stoodInHeld68).trans ?_;have h3:∀(d:Nat) (a b:Int) (w:World),(Op.equalIn (d+1) 3 (.int .i64 a) (.int .i64 b)).run Tryz.prog w=.ok (decide (a=b)) w:=fun d a b w=>by rw[run_equalIn_int w d 3 _ _ a b underlying3];by_cases h:a=b<;>simp[h]
  by_cases e0:a0=b0<;>by_cases e1:a1=b1<;>simp[Program.fieldsOf,underlying68,Op.eqFields,part,h3,isAgg3,e0,e1]
theorem Xs:fC Tryz.prog 69 30 21:=⟨JO,aK,by decide,_,MU⟩
theorem Wt:eL Tryz.prog 72 [.pv (.sl [])]:=⟨_,_,zeroValue72,.inl rfl,rfl⟩
theorem Wq:eL Tryz.prog 72 [.pv .nils]:=⟨_,_,zeroValue72,.inr rfl,rfl⟩
theorem ep:fC Tryz.prog 72 9 1:=⟨underlying72,sizeOf9,by decide,_,wL⟩
theorem aAx:eL Tryz.prog 82 [.pv .nilp]:=⟨_,_,zeroValue82,.inl rfl,rfl⟩
theorem Dw:cS Tryz.prog 84 0 0:=⟨_,_,0,underlying84,rfl,rfl,sizeOf9⟩
theorem aBb:lX Tryz.prog 84 [(0,1)] [.pv (.str ⟨#[]⟩)]:=⟨_,#[(0,1)],_,_,underlying84,zeroValue84,.inl rfl,rfl,fun w=>by simp[sizeOf9],rfl⟩
theorem KU:cS Tryz.prog 96 0 0:=⟨_,_,0,vi,rfl,rfl,sizeOf22⟩
theorem KT:cS Tryz.prog 96 1 1:=⟨_,_,0,vi,rfl,rfl,sizeOf4⟩
theorem aBa:lX Tryz.prog 96 [(0,1),(1,1)] [.pv (.sl []),.pv (.bool false)]:=⟨_,#[(0,1),(1,1)],_,_,vi,zeroValue96,.inl rfl,rfl,fun w=>by simp[sizeOf4,sizeOf22],rfl⟩
theorem aAw:eL Tryz.prog 98 [.pv .nilfn]:=⟨_,_,zeroValue98,.inl rfl,rfl⟩
theorem Wz:eL Tryz.prog 122 [.pv (.int .u64 0)]:=⟨_,_,JN,.inl rfl,rfl⟩
theorem Wy:eL Tryz.prog 123 [.pv (.int .u8 0),.pv (.int .u8 0),.pv (.int .u8 0),.pv (.int .u8 0),.pv (.int .u8 0),.pv (.int .u8 0),.pv (.int .u8 0),.pv (.int .u8 0)]:=⟨_,_,zeroValue123,.inl rfl,rfl⟩
theorem AA:fC Tryz.prog 124 5 1:=⟨dG,cO,by decide,_,EB⟩
theorem Qe:EI Tryz.prog 5 1 1:=EI.mk (z:=(Value.int IntKind.u8 (0))) (by kernel_rfl) rfl (by decide) (by decide)
theorem jy:eL Tryz.prog 128 [.pv (.int .u8 0),.pv (.int .u8 0),.pv (.int .u8 0),.pv (.int .u8 0),.pv (.int .u8 0),.pv (.int .u8 0),.pv (.int .u8 0),.pv (.int .u8 0),.pv (.int .u8 0),.pv (.int .u8 0),.pv (.int .u8 0),.pv (.int .u8 0),.pv (.int .u8 0),.pv (.int .u8 0),.pv (.int .u8 0),.pv (.int .u8 0)]:=⟨_,_,zeroValue128,.inl rfl,rfl⟩
theorem yF:fC Tryz.prog 133 20 1:=⟨underlying133,aA9,by decide,_,Gy⟩
theorem JR:eL Tryz.prog 137 [.pv .nilp,.pv .nils]:=⟨_,_,zeroValue137,.inr rfl,rfl⟩
theorem yQ:cS Tryz.prog 137 0 0:=⟨_,_,0,underlying137,rfl,rfl,Vu⟩
theorem gV:cS Tryz.prog 137 1 1:=⟨_,_,0,underlying137,rfl,rfl,pF⟩
theorem jX:fC Tryz.prog 149 199 2:=⟨cY,kW,by decide,_,vf⟩
theorem Em:EI Tryz.prog 199 2 32:=EI.mk (z:=(Value.agg #[(Value.string ⟨#[]⟩),(Value.string ⟨#[]⟩)])) (by kernel_rfl) rfl (by decide) (by decide)
theorem SM:eL Tryz.prog 151 [.pv (.str ⟨#[]⟩),.pv (.int .i64 0),.pv (.int .i64 0),.pv (.int .i64 0),.pv (.sl []),.pv (.sl [])]:=⟨_,_,JL,.inl rfl,rfl⟩
theorem wi:eL Tryz.prog 151 [.pv (.str ⟨#[]⟩),.pv (.int .i64 0),.pv (.int .i64 0),.pv (.int .i64 0),.pv .nils,.pv .nils]:=⟨_,_,JL,.inr rfl,rfl⟩
theorem oW:cS Tryz.prog 151 0 0:=⟨_,_,0,kJ,rfl,rfl,sizeOf9⟩
theorem dW:cS Tryz.prog 151 1 1:=⟨_,_,0,kJ,rfl,rfl,sizeOf3⟩
theorem lV:cS Tryz.prog 151 2 2:=⟨_,_,1,kJ,rfl,rfl,sizeOf68⟩
theorem dQ:cS Tryz.prog 151 3 4:=⟨_,_,0,kJ,rfl,rfl,sizeOf22⟩
theorem eT:cS Tryz.prog 151 4 5:=⟨_,_,0,kJ,rfl,rfl,sizeOf149⟩
theorem D7:lX Tryz.prog 151 [(0,1),(1,1),(2,2),(4,1),(5,1)] [.pv (.str ⟨#[]⟩),.pv (.int .i64 0),.pv (.int .i64 0),.pv (.int .i64 0),.pv (.sl []),.pv (.sl [])]:=⟨_,#[(0,1),(1,1),(2,2),(4,1),(5,1)],_,_,kJ,JL,.inl rfl,rfl,fun w=>by simp[sizeOf3,sizeOf9,sizeOf22,sizeOf68,sizeOf149],rfl⟩
theorem Fk:lX Tryz.prog 151 [(0,1),(1,1),(2,2),(4,1),(5,1)] [.pv (.str ⟨#[]⟩),.pv (.int .i64 0),.pv (.int .i64 0),.pv (.int .i64 0),.pv .nils,.pv .nils]:=⟨_,#[(0,1),(1,1),(2,2),(4,1),(5,1)],_,_,kJ,JL,.inr rfl,rfl,fun w=>by simp[sizeOf3,sizeOf9,sizeOf22,sizeOf68,sizeOf149],rfl⟩
theorem N2:eL Tryz.prog 153 [.pv (.int .i64 0),.pv (.str ⟨#[]⟩),.pv (.str ⟨#[]⟩),.pv (.str ⟨#[]⟩),.pv (.int .i64 0),.pv (.int .i64 0),.pv (.str ⟨#[]⟩),.pv (.str ⟨#[]⟩),.pv (.sl []),.pv (.str ⟨#[]⟩),.pv (.int .i64 0),.pv (.int .i64 0),.pv (.int .i64 0),.pv (.sl []),.pv (.sl [])]:=⟨_,_,vh,.inl rfl,rfl⟩
theorem gN:cS Tryz.prog 153 0 0:=⟨_,_,0,fU,rfl,rfl,sizeOf3⟩
theorem iE:cS Tryz.prog 153 1 1:=⟨_,_,0,fU,rfl,rfl,sizeOf9⟩
theorem iL:cS Tryz.prog 153 2 2:=⟨_,_,0,fU,rfl,rfl,sizeOf9⟩
theorem nC:cS Tryz.prog 153 3 3:=⟨_,_,0,fU,rfl,rfl,sizeOf9⟩
theorem iD:cS Tryz.prog 153 4 4:=⟨_,_,1,fU,rfl,rfl,sizeOf68⟩
theorem kQ:cS Tryz.prog 153 5 6:=⟨_,_,0,fU,rfl,rfl,sizeOf9⟩
theorem lG:cS Tryz.prog 153 6 7:=⟨_,_,0,fU,rfl,rfl,sizeOf9⟩
theorem fB:cS Tryz.prog 153 7 8:=⟨_,_,0,fU,rfl,rfl,sizeOf22⟩
theorem oV:cS Tryz.prog 153 8 9:=⟨_,_,5,fU,rfl,rfl,sizeOf151⟩
theorem sX:lX Tryz.prog 153 [(0,1),(1,1),(2,1),(3,1),(4,2),(6,1),(7,1),(8,1),(9,6)] [.pv (.int .i64 0),.pv (.str ⟨#[]⟩),.pv (.str ⟨#[]⟩),.pv (.str ⟨#[]⟩),.pv (.int .i64 0),.pv (.int .i64 0),.pv (.str ⟨#[]⟩),.pv (.str ⟨#[]⟩),.pv (.sl []),.pv (.str ⟨#[]⟩),.pv (.int .i64 0),.pv (.int .i64 0),.pv (.int .i64 0),.pv (.sl []),.pv (.sl [])]:=⟨_,#[(0,1),(1,1),(2,1),(3,1),(4,2),(6,1),(7,1),(8,1),(9,6)],_,_,fU,vh,.inl rfl,rfl,fun w=>by simp[sizeOf3,sizeOf9,sizeOf22,sizeOf68,sizeOf151],rfl⟩
theorem LM:fC Tryz.prog 172 22 1:=⟨G8,sizeOf22,by decide,_,Gx⟩
theorem Pb:eL Tryz.prog 182 [.pv (.sl [])]:=⟨_,_,zeroValue182,.inl rfl,rfl⟩
theorem wh:eL Tryz.prog 182 [.pv .nils]:=⟨_,_,zeroValue182,.inr rfl,rfl⟩
theorem gR:fC Tryz.prog 182 187 3:=⟨cN,sizeOf187,by decide,_,vg⟩
theorem ov:EI Tryz.prog 187 3 32:=EI.mk (z:=(Value.agg #[(Value.int IntKind.i64 (0)),(Value.string ⟨#[]⟩),(Value.int IntKind.i64 (0))])) (by kernel_rfl) rfl (by decide) (by decide)
theorem jx:eL Tryz.prog 187 [.pv (.int .i64 0),.pv (.str ⟨#[]⟩),.pv (.int .i64 0)]:=⟨_,_,vg,.inl rfl,rfl⟩
theorem uA:cS Tryz.prog 187 0 0:=⟨_,_,0,G7,rfl,rfl,sizeOf3⟩
theorem gU:cS Tryz.prog 187 1 1:=⟨_,_,0,G7,rfl,rfl,sizeOf9⟩
theorem NU:cS Tryz.prog 187 2 2:=⟨_,_,0,G7,rfl,rfl,sizeOf3⟩
theorem F4:lX Tryz.prog 187 [(0,1),(1,1),(2,1)] [.pv (.int .i64 0),.pv (.str ⟨#[]⟩),.pv (.int .i64 0)]:=⟨_,#[(0,1),(1,1),(2,1)],_,_,G7,vg,.inl rfl,rfl,fun w=>by simp[sizeOf3,sizeOf9],rfl⟩
theorem Pa:eL Tryz.prog 199 [.pv (.str ⟨#[]⟩),.pv (.str ⟨#[]⟩)]:=⟨_,_,vf,.inl rfl,rfl⟩
theorem nW:cS Tryz.prog 199 0 0:=⟨_,_,0,underlying199,rfl,rfl,sizeOf9⟩
theorem oU:cS Tryz.prog 199 1 1:=⟨_,_,0,underlying199,rfl,rfl,sizeOf9⟩
theorem Fl:lX Tryz.prog 199 [(0,1),(1,1)] [.pv (.str ⟨#[]⟩),.pv (.str ⟨#[]⟩)]:=⟨_,#[(0,1),(1,1)],_,_,underlying199,vf,.inl rfl,rfl,fun w=>by simp[sizeOf9],rfl⟩
theorem Pq(a0 b0:ByteArray)(a1 b1:ByteArray)(w:World):(Op.equalIn 10000 199 (.agg [.string a0,.string a1].toArray) (.agg [.string b0,.string b1].toArray)).run Tryz.prog w=.ok (decide (a0=b0)&&decide (a1=b1)) w:=by
  refine(run_equalIn_struct (P:=Tryz.prog) w 9999 199 _ _ (by simp[Program.fieldsOf,underlying199]) stoodInHeld199).trans ?_;have h9:∀(d:Nat) (a b:ByteArray) (w:World),(Op.equalIn (d+1) 9 (.string a) (.string b)).run Tryz.prog w=.ok (decide (a=b)) w:=fun d a b w=>by rw[run_equalIn_string w d 9 a b underlying9,AP]
  by_cases e0:a0=b0<;>by_cases e1:a1=b1<;>simp[Program.fieldsOf,underlying199,Op.eqFields,part,h9,isAgg9,e0,e1]
theorem wj:eL Tryz.prog 218 [.pv (.int .i64 0),.pv (.str ⟨#[]⟩),.pv (.int .i64 0),.pv (.int .i64 0)]:=⟨_,_,zeroValue218,.inl rfl,rfl⟩
theorem nV:cS Tryz.prog 218 0 0:=⟨_,_,2,jv,rfl,rfl,sizeOf187⟩
theorem sK:cS Tryz.prog 218 1 3:=⟨_,_,0,jv,rfl,rfl,sizeOf41⟩
theorem aA3:lX Tryz.prog 218 [(0,3),(3,1)] [.pv (.int .i64 0),.pv (.str ⟨#[]⟩),.pv (.int .i64 0),.pv (.int .i64 0)]:=⟨_,#[(0,3),(3,1)],_,_,jv,zeroValue218,.inl rfl,rfl,fun w=>by simp[sizeOf41,sizeOf187],rfl⟩
theorem Qs:eL Tryz.prog 245 [.pv .nilp,.pv .nils]:=⟨_,_,zeroValue245,.inr rfl,rfl⟩
theorem oT:cS Tryz.prog 245 0 0:=⟨_,_,1,underlying245,rfl,rfl,sizeOf137⟩
theorem Ww:eL Tryz.prog 247 [.pv .nilfn]:=⟨_,_,zeroValue247,.inl rfl,rfl⟩
theorem Wv:eL Tryz.prog 269 [.pv (.str ⟨#[]⟩),.pv (.str ⟨#[]⟩),.pv (.str ⟨#[]⟩),.pv (.str ⟨#[]⟩),.pv (.str ⟨#[]⟩),.pv (.str ⟨#[]⟩)]:=⟨_,_,zeroValue269,.inl rfl,rfl⟩
theorem aA7:N1 Tryz.prog 269 1 [.pv (.str ⟨#[]⟩),.pv (.str ⟨#[]⟩),.pv (.str ⟨#[]⟩),.pv (.str ⟨#[]⟩),.pv (.str ⟨#[]⟩),.pv (.str ⟨#[]⟩)]:=⟨_,_,_,_,underlying269,zeroValue269,.inl rfl,rfl,sizeOf9⟩
theorem Wu:eL Tryz.prog 270 [.pv .nilm]:=⟨_,_,zeroValue270,.inl rfl,rfl⟩
theorem Qk:N1 Tryz.prog 274 1 [.pv (.str ⟨#[]⟩),.pv (.str ⟨#[]⟩),.pv (.str ⟨#[]⟩),.pv (.str ⟨#[]⟩)]:=⟨_,_,_,_,underlying274,zeroValue274,.inl rfl,rfl,sizeOf9⟩
theorem aA6:N1 Tryz.prog 280 1 [.pv (.int .i64 0),.pv (.int .i64 0),.pv (.int .i64 0),.pv (.int .i64 0),.pv (.int .i64 0),.pv (.int .i64 0)]:=⟨_,_,_,_,underlying280,zeroValue280,.inl rfl,rfl,sizeOf3⟩
theorem follows:Tryz.prog.follows .mixedOrders=true:=rfl
structure GTag where
 key:ByteArray
 val:ByteArray
structure GObj where
 id:ByteArray
 kind:Int
 x:Int
 y:Int
 refs:List ByteArray
 tags:List GTag
structure GEdit where
 op:Int
 id:ByteArray
 other:ByteArray
 node:ByteArray
 x:Int
 y:Int
 key:ByteArray
 val:ByteArray
 refs:List ByteArray
 obj:GObj
def encStr(s:ByteArray):List PV:=[.str s]
def fS(n:Int):List PV:=[.int .i64 n]
def bM(t:GTag):List PV:=[.str t.key,.str t.val]
def bG(o:GObj):List PV:=[.str o.id,.int .i64 o.kind,.int .i64 o.x,.int .i64 o.y,.sl (o.refs.map encStr),.sl (o.tags.map bM)]
def aZ(e:GEdit):List PV:=[.int .i64 e.op,.str e.id,.str e.other,.str e.node,.int .i64 e.x,.int .i64 e.y,.str e.key,.str e.val,.sl (e.refs.map encStr),
 .str e.obj.id,.int .i64 e.obj.kind,.int .i64 e.obj.x,.int .i64 e.obj.y,.sl (e.obj.refs.map encStr),.sl (e.obj.tags.map bM)]
def aU(l:List ByteArray):PV:=.sl (l.map encStr)
def oG(l:List GTag):PV:=.sl (l.map bM)
def yg(l:List GObj):PV:=.sl (l.map bG)
def fX(l:List GEdit):PV:=.sl (l.map aZ)
def zObj:GObj:=⟨⟨#[]⟩,0,0,0,[],[]⟩
theorem cE{f:α->List PV}{a}(h:l[k]?=some a):(l.map f)[k]?=some (f a):=by simp_all
theorem aT{l:List α}{k}(h:k<l.length):∃a,l[k]?=some a:=⟨_,aCk h⟩
theorem UK{p}{l:List α}{k}{a}(h:∀j,j<k->∀b,l[j]?=some b->p b=false)(hk:l[k]?=some a)(hp:p a=true):l.findIdx? p=some k:=by
 rw[List.findIdx?_eq_some_iff_getElem]
 grind
theorem UL{p}{l:List α}(h:∀j,j<l.length->∀b,l[j]?=some b->p b=false):l.findIdx? p=none:=by
 rw[List.findIdx?_eq_none_iff];intro x a;obtain ⟨j,hj⟩:=aDA.1 a
 grind
def zD{α:Type}(p:α->Bool)(l:List α):Int:=match l.findIdx? p with|some i=>(i:Int)|none => -1
theorem Dr(p)(l:List α):decide (0<=zD p l)=l.any p:=by
 unfold zD
 grind
theorem iq(p)(l):(zD p l = -1/\l.find? p=none)\/∃(k:Nat) (o:α),zD p l=k/\l[k]?=some o/\l.find? p=some o:=by
 cases h:l.findIdx? p with
 |none =>
  left;refine⟨by simp[zD,h],?_⟩
  simp_all
 |some k =>
  right;have a:=h;rw[List.findIdx?_eq_some_iff_getElem]at h;obtain ⟨h1,h2,h3⟩:=h;refine⟨k,l[k],by simp[zD,a],aCk _,?_⟩;rw[List.find?_eq_some_iff_getElem]
  grind
theorem wV{p:α->Bool}{k}{a}(h:∀j,j<k->∀b,l[j]?=some b->p b=false)(hk:l[k]?=some a)(hp:p a=false):∀j,j<k+1->∀b,l[j]?=some b->p b=false:=by grind
theorem EA{p}{l:List α}(h:∀j,j<l.length->∀b,l[j]?=some b->p b=false):l.any p=false:=by
 rw[List.any_eq_false];intro x a;obtain ⟨j,hj⟩:=aDA.1 a
 grind
theorem JC{p}{l:List α}{a}(c:l[k]?=some a)(b:p a=true):l.any p=true:=List.any_eq_true.2 ⟨_,aCp c,b⟩
end Go.Proofs.YtmdicgjnmfolfaaGreatDoor
namespace Go.Abs
variable{H H':aG}{x:Obj}{I:Nat->Prop}{ι:lR}{w w':World}{id:Nat}{ob':Ob}
def RT(H:aG):aG->Prop
 | []=>True
 |(id,o)::r=>H.get id=some o/\RT H r
theorem RT.sub{H}:∀ {L},RT H L->Sub L H
 | [],_,id,o,h=>by cases h
 |(i,o')::r,h,id,o,a=>by
  simp[aG.get]at a;cases e:Nat.beq i _ with
  |true=>rw[e]at a;cases a;rw[<-Nat.eq_of_beq_eq_true e];exact h.1
  |false=>rw[e]at a;exact h.2.sub _ o a
theorem gJ(D H)(k):aG.get (D++H) k=match D.get k with|some v=>some v|none=>H.get k:=NT D H k
theorem aW.frame{P:Program}{f:FuncId}{args:List AV}{H0 H1:aG}{r0:AV}(h:aW P f args H0 (fun r H'=>r=r0/\H'=H1))(A:Sub H0 H)(u:eE H0)(Z:∀a∈args,Clo H0 a)
  (hk:∀id,(H1.get id).isSome=true->(H0.get id).isSome=true\/H.get id=none):aW P f args H (fun r H'=>r=r0/\H'=H1++H):=by
 intro I L w vs F hl O;refine(h I L w vs (F.restrict A u) hl (fun i v a g h2=>(O i v a g h2).restrict A (Z a (aCp h2)))).mono ?_;rintro e w' ⟨r,H',T,D,v,rfl,⟨rfl,rfl⟩,k1,V,n⟩;obtain ⟨s,hι2⟩:∃s:lR,s=(fun j=>if(H'.get j).isSome=true then D j else L j):=⟨_,rfl⟩;have C:∀j o,H'.get j=some o->s j=D j:=fun j o d=>by simp_all
 have J:∀j,H'.get j=none->s j=L j:=fun j d=>by simp_all
 have g1:∀j o,H'.get j=some o->aG.get (H'++H) j=some o:=fun j o d=>by rw[gJ,d]
 have G:∀j,H'.get j=none->aG.get (H'++H) j=H.get j:=fun j d=>by rw[gJ,d]
 have Y:∀j o,H.get j=some o->H'.get j=none->H0.get j=none:=fun j o d K=>by
  cases e:H0.get j with
  |none=>rfl
  |some o0 =>
   obtain ⟨p,W,_⟩:=n.objs j o0 e
   simp_all
 have y:∀j o b c,H.get j=some o->H'.get j=none->L j=some (b,c)->¬ MW L H0 b:=fun j o b c d K S ⟨m,p,B,l,X⟩=>by
  have:=F.inj j m o p b c B d (A _ _ l) S X;subst this;rw[Y j o d K]at l;cases l
 have M:Step I L H w T s (H'++H) w':=by
  refine⟨n.os,n.tape,n.output,n.size,fun a Z K=>n.froz a Z (fun h=>K (h.sub A)),n.imm,fun b S=>?_,?_,?_,?_⟩
  ·rcases n.immNew b S with g|g|g
   ·exact .inl g
   ·exact .inr (.inl (g.sub A))
   exact .inr (.inr g)
  ·rintro b ⟨j,o,c,d,u⟩;cases e:H'.get j with
   |some p =>
    rw[C j p e]at u;rcases n.own b ⟨j,p,c,e,u⟩with g|g
    ·exact .inl (g.sub A)
    exact .inr g
   |none =>
    rw[J j e]at u;rw[G j e]at d;exact .inl ⟨j,o,c,d,u⟩
  ·intro b S K;exact n.keep b S (fun h=>K (h.sub A))
  intro j o d;cases e:H'.get j with
  |some p =>
   rcases hk j (by rw[e];rfl)with g|g
   ·obtain ⟨o0,e0⟩:=Option.isSome_iff_exists.1 g;have:=A _ _ e0;rw[d]at this;cases this;obtain ⟨o2,q1,q2,q3⟩:=n.objs j o e0;exact⟨o2,g1 j o2 q1,q2,fun e=>by rw[C j o2 q1];exact q3 e⟩
   rw[d]at g;cases g
  |none=>exact⟨o,(G j e).trans d,aCl _,fun _=>⟨J j e,rfl,fun _=>aCl _⟩⟩
 have N:∀ {v:Value} {a:AV},VRel w' T D H' v a->VRel w' T s (H'++H) v a:=fun hva =>
  hva.mono' (fun _ _=>rfl) (fun _ h=>h) (fun id o ho=>⟨o,g1 id o ho,aCl _,fun _=>⟨C id o ho,rfl,fun _=>aCl _⟩⟩)
 refine⟨r,H'++H,T,s,v,rfl,⟨rfl,rfl⟩,N k1,⟨V.imm,fun j o d=>?_,fun j m o p b c B d l u k=>?_,V.glob⟩,M⟩
 ·cases e:H'.get j with
  |some p =>
   rw[g1 j p e]at d;obtain rfl:p=o:=Option.some.inj d;exact(V.obj j p e).keep (C j p e) (fun _ _ _ _=>⟨rfl,fun h=>h⟩) (fun r _ a _ v O=>N O)
  |none =>
   rw[G j e]at d;refine(F.obj j o d).keep (J j e) (fun U z W E=>⟨n.keep U E (y j o U z d e W),fun e3 hi=>?_⟩) (fun r _ a _ v O=>O.mono F M);rcases n.immNew U hi with g|g|g
   ·exact e3 g
   ·exact y j o U z d e W g
   omega
 cases e:H'.get j with
 | some q =>
  rw[C j q e]at u;cases x:H'.get m with
  |some Q =>
   rw[C m Q x]at k;exact V.inj j m q Q b c B e x u k
  |none =>
   rw[J m x]at k;rw[G m x]at l;have E:=F.lt ⟨m,p,B,l,k⟩;rcases n.own b ⟨j,q,c,e,u⟩with g|g
   ·exact absurd g (y m p b B l x k)
   omega
 | none =>
  rw[J j e]at u;rw[G j e]at d;cases x:H'.get m with
  |some Q =>
   rw[C m Q x]at k;have E:=F.lt ⟨j,o,c,d,u⟩;rcases n.own b ⟨m,Q,B,x,k⟩with g|g
   ·exact absurd g (y j o b c d e u)
   omega
  |none =>
   rw[J m x]at k;rw[G m x]at l;exact F.inj j m o p b c B d l u k
section
structure KeyKind(α:Type) where
 d:TypeDesc
 pv:α->PV
 val:α->Value
 rel:∀(w:World) (I:Nat->Prop) (v:Value) (a:α),PRep w I v (pv a)->v=val a
 inj:∀a b,val a=val b->a=b
 is:∀a,MapKept.IsKey d (val a)
 rep:∀(w:World) (I:Nat->Prop) (a:α),PRep w I (val a) (pv a)
def qj:KeyKind ByteArray:=⟨.string,.str,.string,fun _ _ _ _ h=>by cases h;rfl,fun _ _ h=>by cases h;rfl,fun _=>trivial,fun _ _ _=>.str _⟩
def Fj:KeyKind Bool:=⟨.bool,.bool,.bool,fun _ _ _ _ h=>by cases h;rfl,fun _ _ h=>by cases h;rfl,fun _=>trivial,fun _ _ _=>.bool _⟩
def sV{α:Type}(κ:KeyKind α)(l:List (α×AV)):List (List AV):=l.mapIdx fun i p=>[.pv (κ.pv p.1),p.2,.pv (.int .i64 i)]
theorem KI{α:Type}{κ:KeyKind α}{l}{i:Nat}{r}:(sV κ l)[i]?=some r↔∃p,l[i]?=some p/\r=[.pv (κ.pv p.1),p.2,.pv (.int .i64 i)]:=by
 rw[sV]
 grind
theorem IN{α:Type}(κ:KeyKind α)(l):(sV κ l).length=l.length:=by simp[sV]
theorem mh{α:Type}{κ:KeyKind α}{H}{w}{I}{ι}{v}{k}(h:VRel w I ι H v (.pv (κ.pv k))):v=κ.val k:=κ.rel _ _ _ _ h.pv_inv
section
variable{α:Type}
structure MapAt(w:World)(I:Nat->Prop)(ι:lR)(H:aG)(κ:KeyKind α)(l:List (α×AV))(es:Array MapEntry):Prop where
 size:es.size=l.length
 rel:∀(i:Nat) (p:α×AV),l[i]?=some p->∃e,es[i]?=some e/\e.born=i/\e.key=κ.val p.1/\VRel w I ι H e.val p.2
theorem Ca{w}{I}{ι}{H}{id b}{ob}{κ:KeyKind α}{l}(h:mK w I ι H id ob)(o:ob.sz=0)(d:ι id=some (b,0))(c:ob.rows=sV κ l):
  ∃f,w.heap[b]?=some (.map f ob.ty)/\¬ I b/\MapAt w I ι H κ l f:=by
 obtain ⟨_,b',f,g,r,t,u,e5,e6,v⟩:=h.map o d;rw[d]at g;cases g;refine⟨f,r,t,⟨by rw[u,c,IN],fun i p j=>?_⟩⟩;obtain ⟨e,k,a,n,q,y,s,x,m⟩:=v i _ (by rw[c];exact KI.2 ⟨p,j,rfl⟩);cases y;exact⟨e,q,by injection m.int_inv with _ hh;omega,κ.rel _ _ _ _ s.pv_inv,x⟩
theorem MapAt.born{w}{I}{ι}{H}{κ:KeyKind α}{l}{c}(h:MapAt w I ι H κ l c){i}{e}(hi:c[i]?=some e):e.born=i/\i<l.length:=by
 have a:i<l.length:=by rw[<-h.size];grind
 obtain ⟨e',b,d,_⟩:=h.rel i _ (aCk a);rw[hi]at b;cases b;exact⟨d,a⟩
section
variable{id b cap:Nat}{ob ob':Ob}
def World.setObj(w:World)(b:Nat)(x:Obj):World:={w with heap:=w.heap.setIfInBounds b x}
def oc:Obj->Bool
 |.cells ..=>true
 |_=>false
theorem Rel.rewrite{x0:Obj}(g:Rel I ι H w)(B:H.get id=some ob)(k:ι id=some (b,cap))(hz:ob.sz=0)(O:w.heap[b]?=some x0)(h0:oc x0=false)(hx:oc x=false)(hg:ob'.g=ob.g)(hz':ob'.sz=0)
  (n:w.heap.size=(World.setObj w b x).heap.size->(World.setObj w b x).heap[b]?=some x->¬ I b->(∀v a,VRel w I ι H v a->VRel (World.setObj w b x) I ι H' v a)->mK (World.setObj w b x) I ι H' id ob')
  (K:H'.get id=some ob') (G:∀j,j≠id->H'.get j=H.get j):Rel I ι H' (World.setObj w b x)/\Step I ι H w I ι H' (World.setObj w b x):=by
 have p:MW ι H b:=⟨id,ob,cap,B,k⟩;obtain ⟨A,i⟩:=MapKept.heap_set (w:=w) (o':=x) O;have d:Step I ι H w I ι H' (World.setObj w b x):=by
  refine⟨rfl,rfl,rfl,by simp[World.setObj],fun a _ _=>?_,fun _ h=>h,fun _ h=>.inl h,?_,?_,?_⟩
  ·by_cases e:a.block=b
   ·simp_all
   simp[World.frozen?,World.setObj,i _ e]
  ·rintro y ⟨j,o,c,f,C⟩;by_cases e:j=id
   ·simp_all
   exact .inl ⟨j,o,c,(G j e).symm.trans f,C⟩
  ·intro y _ s;exact i y (fun e=>s (e▸p))
  grind
 refine⟨⟨fun y s=>by simpa[World.setObj]using g.imm y s,?_,?_,d.glob g⟩,d⟩
 ·intro j o f;by_cases e:j=id
  ·subst e;rw[K]at f;cases f;exact n (by simp[World.setObj]) A ((g.obj j ob B).block k).2 (fun v a D=>D.mono g d)
  rw[G j e]at f;exact(g.obj j o f).keep rfl (fun y c s _=>⟨i y (fun E=>e (g.inj j id o ob b c cap f B (E▸s) k)),fun h=>h⟩) (fun r _ a _ v D=>D.mono g d)
 intro j F o N y c L f u C t;have l:∀j o,H'.get j=some o->∃o,H.get j=some o:=by
  grind
 obtain ⟨q,J⟩:=l j o f;obtain ⟨M,z⟩:=l F N u;exact g.inj j F q M y c L J z C t
theorem Rel.remap{κ:KeyKind α}{l:List (α×AV)}{q c:Array MapEntry}{u:Nat}(z:Rel I ι H w)(x:H.get id=some ob)(g:ι id=some (b,0))(B:ob.sz=0)(y:w.heap[b]?=some (.map q u))(D:ob'.g=ob.g)(h:ob'.sz=0)(hty:ob'.ty=l.length)(a:ob'.rows=sV κ l)
  (f:MapAt w I ι H κ l c) (v:H'.get id=some ob') (E:∀j,j≠id->H'.get j=H.get j):Rel I ι H' (World.setObj w b (.map c l.length))/\Step I ι H w I ι H' (World.setObj w b (.map c l.length)):=by
 refine z.rewrite x g B y rfl rfl D h (fun _ hs1 A d=>?_) v E;refine .inr (.inl ⟨h,b,c,g,by simp_all,A,by rw[f.size,a,IN],fun i e o=>?_,fun i j e e' hij o F=>?_,fun i r k=>?_⟩)
 ·obtain ⟨m,n⟩:=f.born o
  simp_all
 ·have m:=(f.born o).1;have n:=(f.born F).1;omega
 rw[a]at k;obtain ⟨p,s,rfl⟩:=KI.1 k;obtain ⟨e,m,n,C,t⟩:=f.rel i p s;exact⟨e,_,_,_,m,rfl,by rw[C];exact .pv (κ.rep _ _ p.1),d _ _ t,by rw[n];exact .pv (.int _ _)⟩
end
theorem Bz{w}{I}{ι}{H}{v}{id g}{ob}(h:VRel w I ι H v (.mp id g))(hH:H.get id=some ob)(hg:ob.g=g):ob.sz=0/\∃b,ι id=some (b,0)/\v=.map (some b):=by
 cases h with
 |mp o' h1 h2 _ h3 =>
  simp_all
variable [DecidableEq α]
def SB:List (α×AV)->α->Option AV
 | [],_=>none
 |(k',a)::r,k=>if k'=k then some a else SB r k
def AO:List (α×AV)->α->AV->List (α×AV)
 | [],k,v=>[(k,v)]
 |(k',a)::r,k,v=>if k'=k then(k,v)::r else(k',a)::AO r k v
def Ly:List (α×AV)->α->List (α×AV)
 | [],_=>[]
 |(k',a)::r,k=>if k'=k then r else(k',a)::Ly r k
theorem W7{w:World}{I:Nat->Prop}{ι:lR}{H:aG}(κ:KeyKind α)(k:α):∀(l:List (α×AV)) (g:List MapEntry) (i:Nat),g.length=l.length->(∀(i:Nat) (p:α×AV),l[i]?=some p->∃e,g[i]?=some e/\e.key=κ.val p.1/\VRel w I ι H e.val p.2) ->
  (Instr.findNow κ.d (κ.val k) g i=some none/\SB l k=none/\∀v,AO l k v=l++[(k,v)]) \/
  ∃j e a,Instr.findNow κ.d (κ.val k) g i=some (some (i+j,e.val))/\g[j]?=some e/\e.key=κ.val k/\SB l k=some a/\VRel w I ι H e.val a/\l[j]?=some (k,a)/\(∀v,AO l k v=l.set j (k,v))/\Ly l k=l.eraseIdx j
 | [],[],i,_,_=>.inl ⟨rfl,rfl,fun _=>rfl⟩
 | (n,a)::l,e::g,i,hl,x=>by
  obtain ⟨e0,C,m,B⟩:=x 0 (n,a) rfl;cases C;obtain ⟨r,h,d⟩:=MapKept.sameNow_of_keys (κ.is k) (show MapKept.IsKey κ.d e.key by rw[m];exact κ.is n);by_cases f:n=k
  ·subst f;have t:r=true:=d.2 m.symm;subst t;exact .inr ⟨0,e,a,by simp[Instr.findNow,h],rfl,m,by simp[SB],B,rfl,fun v=>by simp[AO],by simp[Ly]⟩
  have s:r=false:=by
   cases r with
   |false=>rfl
   |true=>exact absurd (κ.inj _ _ ((d.1 rfl).trans m)).symm f
  subst s;rcases W7 κ k l g (i+1) (by simp_all) (fun i p y=>x (i+1) p y)with⟨o,u,q⟩|⟨j,E,F,o,u,q,D,G,h6,A,z⟩
  ·exact .inl ⟨by simp[Instr.findNow,h,o],by simp[SB,f,u],fun v=>by simp[AO,f,q]⟩
  exact .inr ⟨j+1,E,F,by simp[Instr.findNow,h,o];omega,by simp_all,q,by simp[SB,f,D],G,by simp_all,fun v=>by simp[AO,f,A],by simp[Ly,f,z]⟩
section
variable{P:Program}{N:Nat}{o:Oper}{E:dC}{T kt et:TypeId}{x y z:Operand}{κ:KeyKind α}{l:List (α×AV)}{id g:Nat}{ob:Ob}{k:α}
theorem PG{zv:Value}{v0:AV}(u:o.op=.lookup T x y false)(A:P.underlying T=some (.map kt et))(hd:P.underlying kt=some κ.d)(O:aO E x=some (.mp id g))(s:H.get id=some ob)(Q:ob.g=g)
  (d:ob.rows=sV κ l) (G:aO E y=some (.pv (κ.pv k))) (S:∀w,(zeroValue et).run P w=.ok zv w) (D:ZV zv v0):cK P N o E H ((SB l k).getD v0) H :=
 .of_run fun a w I ι J t=>by
  obtain ⟨q,b,r,m⟩:=Bz (aI t O) s Q;obtain ⟨R,C,e3,v⟩:=Ca (J.obj id ob s) q r d;have h:=mh (aI t G);rcases W7 κ k l R.toList 0 (by simpa using v.size) (fun i p U=>let ⟨e,q1,_,M⟩:=v.rel i p U;⟨e,by simp_all,M⟩)with⟨n,B,L⟩|⟨j,e,a',n,B,L,F,K,_⟩
  ·refine⟨zv,?_,by rw[B];exact D.rel⟩;simp only[execOp,u,m,h];simp[Instr.lookup,run_underlying A,MapKept.run_getObj_map C,MapKept.run_checkKey hd (κ.is k),MapKept.run_findKey hd n,S]
  refine⟨e.val,?_,by rw[F];exact K⟩;simp only[execOp,u,m,h];simp[Instr.lookup,run_underlying A,MapKept.run_getObj_map C,MapKept.run_checkKey hd (κ.is k),MapKept.run_findKey hd n]
theorem RX{v:AV}{H2:aG}(C:o.op=.mapUpdate T x y z\/o.op=.insert T x y z)(hT:P.underlying T=some (.map kt et))(hd:P.underlying kt=some κ.d)(hx:aO E x=some (.mp id g))(X:H.get id=some ob)(hg:ob.g=g)
  (hty:ob.ty=l.length) (s:ob.rows=sV κ l) (hy:aO E y=some (.pv (κ.pv k))) (hz:aO E z=some v) (V:H.set id {ob with ty:=(AO l k v).length,rows:=sV κ (AO l k v)}=H2):cK P N o E H .any H2:=by
 intro a w I ι _ _ hr he K Q J;obtain ⟨r,b,G,D⟩:=Bz (aI he hx) X hg;obtain ⟨R,A,e3,n⟩:=Ca (hr.obj id ob X) r G s;rw[hty]at A;have B:=mh (aI he hy);have L:=aI he hz;subst V;have O:∀t,(Instr.mapUpdate T (a.eval x) (a.eval y) (a.eval z)).run P w=.ok () (World.setObj w b (.map t (AO l k v).length))->MapAt w I ι H κ (AO l k v) t->o.wpW P a w K Q:=by
  intro t q hm;obtain ⟨k2,k3⟩:=Rel.remap (H':=H.set id {ob with ty:=(AO l k v).length,rows:=sV κ (AO l k v)}) (ob':={ob with ty:=(AO l k v).length,rows:=sV κ (AO l k v)}) hr X G r A rfl r rfl rfl hm (aG.get_set_same _ _ _) (fun j u=>aG.get_set_other _ _ u);unfold Oper.wpW execOp;rcases C with C|C
  ·simp only[C,Sem.run_bind,q,Result.andThen_ok,Sem.run_pure];exact J _ _ I ι _ _ ⟨rfl,rfl⟩ (.any _) k2 k3
  simp only[C,Sem.run_bind,q,Result.andThen_ok,Sem.run_pure];exact J _ _ I ι _ _ ⟨rfl,rfl⟩ (.any _) k2 k3
 rcases W7 κ k l R.toList 0 (by simpa using n.size) (fun i p f=>let ⟨e,U,_,q3⟩:=n.rel i p f;⟨e,by simp_all,q3⟩)with⟨Y,h2,F⟩|⟨j,e,a',Y,h2,F,h4,h5,h6,S,h8⟩
 ·refine O (R.push {key:=κ.val k,val:=a.eval z,born:=l.length}) ?_ ⟨?_,?_⟩
  ·simp[Instr.mapUpdate,D,B,run_underlying hT,MapKept.run_getObj_map A,MapKept.run_checkKey hd (κ.is k),MapKept.run_findKey hd Y,MapKept.run_setObj_map _ A,World.setObj,F]
  ·rw[F];simp[n.size]
  intro i p f;rw[F]at f;by_cases hi:i<l.length
  ·rw[List.getElem?_append_left hi]at f;obtain ⟨e,U,q2⟩:=n.rel i p f
   grind
  rw[List.getElem?_append_right (by omega)]at f;cases M:i - l.length with
  |zero =>
   rw[M]at f;cases f;exact⟨_,by rw[Array.getElem?_push,aCe (by rw[n.size];omega)],by show l.length=i;omega,rfl,L⟩
  |succ m=>rw[M]at f;simp at f
 have u:R[j]?=some e:=by simpa using h2
 have Z:j<R.size:=(Array.getElem?_eq_some_iff.1 u).1;have W:(AO l k v).length=l.length:=by rw[S];simp
 refine O (R.modify j fun e=>{e with key:=κ.val k,val:=a.eval z}) ?_ ⟨?_,?_⟩
 ·simp[Instr.mapUpdate,D,B,run_underlying hT,MapKept.run_getObj_map A,MapKept.run_checkKey hd (κ.is k),MapKept.run_findKey hd Y,u,F,MapKept.run_keyThatStays (κ.is k),MapKept.run_setObj_map _ A,World.setObj,W]
 ·rw[S];simp[n.size]
 intro i p f;rw[S]at f;by_cases e:i=j
 ·subst e;rw[List.getElem?_set_self (by rw[<-n.size];exact Z)]at f;cases f;exact⟨{e with key:=κ.val k,val:=a.eval z},by rw[Array.getElem?_modify,aCe rfl,u];rfl,(n.born u).1,rfl,L⟩
 rw[List.getElem?_set_ne (Ne.symm e)]at f;obtain ⟨e',U,q2⟩:=n.rel i p f;exact⟨e',by rw[Array.getElem?_modify,aCd (Ne.symm e)];exact U,q2⟩
theorem Rel.placeX{cap:Nat}{x:Obj}(n:Rel I ι H w)(G:w'.os=w.os)(q:w'.tape=w.tape)(D:w'.output=w.output)(hw:w'.heap=w.heap.push x)
  (hold:∀o,H.get id=some o->o.g<ob'.g)
  (F:w'.heap[w.heap.size]?=some x->¬ I w.heap.size->(∀v a,VRel w I ι H v a->VRel w' I (fun j=>if j=id then some (w.heap.size,cap)else ι j) H' v a)->mK w' I (fun j=>if j=id then some (w.heap.size,cap)else ι j) H' id ob')
  (Q:H'.get id=some ob') (u:∀j,j≠id->H'.get j=H.get j) :
  Rel I (fun j=>if j=id then some (w.heap.size,cap)else ι j) H' w'/\Step I ι H w I (fun j=>if j=id then some (w.heap.size,cap)else ι j) H' w':=by
 have A:w'.heap[w.heap.size]?=some x:=by simp_all
 have b:∀x,x<w.heap.size->w'.heap[x]?=w.heap[x]?:=fun x s=>by grind
 have hsize:w'.heap.size=w.heap.size+1:=by simp_all
 have m:Step I ι H w I (fun j=>if j=id then some (w.heap.size,cap)else ι j) H' w':=by
  refine⟨G,q,D,by omega,fun a M _=>?_,fun _ h=>h,fun _ h=>.inl h,?_,fun x s _=>b x s,?_⟩
  ·simp[World.frozen?,b a.block M]
  ·rintro x ⟨j,o,c,p,i⟩;by_cases e:j=id
   ·simp only[e,if_true]at i;cases i;exact .inr (aCl _)
   simp only[e,if_false]at i;exact .inl ⟨j,o,c,(u j e).symm.trans p,i⟩
  grind
 refine⟨⟨fun x s=>by have:=n.imm x s;omega,?_,?_,m.glob n⟩,m⟩
 ·intro j o p;by_cases e:j=id
  ·subst e;rw[Q]at p;cases p;exact F A (fun O=>Nat.lt_irrefl _ (n.imm _ O)) (fun v a J=>J.mono n m)
  rw[u j e]at p;exact(n.obj j o p).keep (by simp[e]) (fun x c _ s=>⟨b x s,fun h=>h⟩) (fun r _ a _ v J=>J.mono n m)
 intro j C o L x c K p B i f;by_cases e:j=id<;>by_cases t:C=id
 ·rw[e,t]
 ·simp only[e,if_true]at i;simp only[t,if_false]at f;cases i;have:=n.lt ⟨C,L,K,(u C t).symm.trans B,f⟩;exact absurd this (Nat.lt_irrefl _)
 ·simp only[e,if_false]at i;simp only[t,if_true]at f;cases f;have:=n.lt ⟨j,o,c,(u j e).symm.trans p,i⟩;exact absurd this (Nat.lt_irrefl _)
 simp only[e,if_false]at i;simp only[t,if_false]at f;exact n.inj j C o L x c K ((u j e).symm.trans p) ((u C t).symm.trans B) i f
theorem Rel.placeM(i:Rel I ι H w)(e:w'.os=w.os)(a:w'.tape=w.tape)(c:w'.output=w.output)(n:w'.heap=w.heap.push (.map #[] 0))
  (b:∀o,H.get id=some o->o.g<ob'.g) (d:ob'.sz=0) (hty:ob'.ty=0) (hrows:ob'.rows=[]) (f:H'.get id=some ob') (m:∀j,j≠id->H'.get j=H.get j) :
  Rel I (fun j=>if j=id then some (w.heap.size,0)else ι j) H' w'/\Step I ι H w I (fun j=>if j=id then some (w.heap.size,0)else ι j) H' w' :=
 i.placeX e a c n b (fun hnew h _=>.inr (.inl ⟨d,w.heap.size,#[],by simp,by simp_all,h,by simp_all,by simp,by simp,by simp_all⟩)) f m
theorem Mh{I}{ι}{w}{id gg}(c:Rel I ι H w)(b:∀o,H.get id=some o->o.g<gg):
  ∃a,VRel (w.alloc (.map #[] 0)) I a ((id,⟨gg,0,0,[]⟩)::H) (.map (some w.heap.size)) (.mp id gg)/\Rel I a ((id,⟨gg,0,0,[]⟩)::H) (w.alloc (.map #[] 0))/\Step I ι H w I a ((id,⟨gg,0,0,[]⟩)::H) (w.alloc (.map #[] 0)):=by
 obtain ⟨d,f⟩:=Rel.placeM (ob':=⟨gg,0,0,[]⟩) (w':=w.alloc _) c rfl rfl rfl rfl b rfl rfl rfl (get_cons_same _ _ _) (fun j e=>get_cons_other _ _ e);exact⟨_,.mp _ (get_cons_same _ _ _) (aCl _) rfl fun _=>⟨rfl,w.heap.size,by simp,rfl⟩,d,f⟩
theorem DO{α:Type}(κ:KeyKind α)(b:o.op=.makeMap T none)(hid:H.get id=none):cK P N o E H (.mp id 0) ((id,⟨0,0,([]:List (α×AV)).length,sV κ []⟩)::H):=by intro a w I ι _ _ h he K Q d;obtain ⟨ι',e,c,f⟩:=Mh (id:=id) h (fun o b=>by simp_all);unfold Oper.wpW execOp;simp[b,Instr.makeMap,Option.map_none,Sem.run_bind,run_newObj,Sem.run_pure,Result.andThen_ok];exact d _ _ I _ _ _ ⟨rfl,rfl⟩ e c f
theorem LH{v}{b}(f:o.op=.mapUpdate T x y z\/o.op=.insert T x y z)(i:P.underlying T=some (.map kt et))(hd:P.underlying kt=some κ.d)(j:aO E x=some (.mp id g))(e:H.get id=some ob)(d:ob.g=g)
  (c:ob.ty=l.length) (a:ob.rows=sV κ l) (h:aO E y=some (.pv (κ.pv k))) (n:aO E z=some v) (m:AO l k v=b):cK P N o E H .any ((id,⟨g,ob.sz,b.length,sV κ b⟩)::H):=by
 subst d m;exact(RX f i hd j e rfl c a h n rfl).congr (wU _ _ _)
end
end
end
section
section
variable{P:Program}{N:Nat}{o:Oper}{E:dC}{f:Operand}{args:Array Operand}{at_:Array TypeId}{F:FuncId}{fn:Func}{e:Array Value->Sem Value}{vs:List AV}{r:AV}
def Ox(P:Program)(e:Array Value->Sem Value)(H:aG)(vs:List AV)(r:AV):Prop :=∀(w:World) (I:Nat->Prop) (ι:lR) (cs:Array Value),cs.size=vs.length->(∀(i:Nat) (v:Value) (a:AV),cs[i]?=some v->vs[i]?=some a->VRel w I ι H v a)->∃c,(e cs).run P w=.ok c w/\VRel w I ι H c r
theorem NI(p:o.op=.call {callee:=.value f,args:=args,argTypes:=at_})(x:aO E f=some (.pv (.fn F)))(s:P.funcs[F]?=some fn)(g:(fn.name == "runtime.NumGoroutine")=false)
  (k:fn.body.isNone=true) (q:Extern.findNext fn=none) (u:Extern.find fn=some e) (n:xS E args.toList=some vs) (h:Ox P e H vs r):cK P N o E H r H :=
 .of_run fun a w I z hr m=>by
  have l:=(aI m x).fn_inv;obtain ⟨h1,y⟩:=oK m (nE n);obtain ⟨c,t,j⟩:=h w I z (args.map a.eval) (by simp_all) (fun i v b n k=>y i v b (by simp_all) k);refine⟨c,?_,j⟩;unfold execOp;simp only[p,resolve,l,Deferred.ofValue,Sem.run_bind,Sem.run_pure,Result.andThen_ok,invoke,Array.empty_append,Array.append_empty,run_callFunc_extern s g k q u,t]
theorem YL{w}{I}{ι}{H}{x y}{cs}(b:cs.size=[x,y].length)(h:∀(i:Nat) (v) (a),cs[i]?=some v->[x,y][i]?=some a->VRel w I ι H v a):∃u v,cs=#[u,v]/\VRel w I ι H u x/\VRel w I ι H v y:=by
 obtain ⟨l⟩:=cs
 match l,b with
 | [u,v],_=>exact⟨u,v,rfl,h 0 u x rfl rfl,h 1 v y rfl rfl⟩
theorem SE(s)(c):Ox P Extern.BytealgIndexByte.indexByte H [.pv (.str s),.pv (.int .u8 c)] (.pv (.int .i64 (Lib.indexByte s.data.toList c.toNat.toUInt8))):=by intro w I ι cs b h;obtain ⟨u,v,rfl,d,g⟩:=YL b h;rw[d.str_inv,g.int_inv];exact⟨_,Lib.run_indexByteString s c w,.pv (.int _ _)⟩
end
theorem kI{P}{G0}{N}{ops}{K}{E:dC}{H}{l}{t:Tmp}{v}(hb:E.get t=some v)(h:AL P G0 N ops K l ((t,v)::E) H):AL P G0 N ops K l E H:=by
 intro G c a w d;refine h G c a w (cQ.sub (fun k u b=>?_) G c N a w d);by_cases e:t=k
 ·subst e;rw[dC.get_cons_same]at b
  grind
 rwa [dC.get_cons_other _ _ e]at b
end
end Go.Abs
namespace Go.Proofs.YtmdicgjnmfolfaaGreatDoor
open Go.Proofs.Tryz
open Go.Abs
variable{c:Nat}{α:Type}
abbrev RC(f : FuncId)(a : List AV)(x : AV)(H : aG): Prop := aW Tryz.prog f a H (fun r H' => r = x /\ H' = H)
theorem yX(s:ByteArray)(c:Int)(H:aG):RC 180 [.pv (.str s),.pv (.int .u8 c)] (.pv (.int .i64 (Lib.indexByte s.data.toList c.toNat.toUInt8))) H:=by refine Pu ?_;exact Bd func180 rfl ntmps180<|Sz aH<|Sd aC<|Dd aC<|Dd (by exact NI rfl rfl func214 rfl rfl rfl rfl rfl (SE s c))<|Zd aH<|aB<|Rt<|Qq
theorem rB(s)(c)(H):RC 140 [.pv (.str s),.pv (.int .u8 c)] (.pv (.int .i64 (Lib.indexByte s.data.toList c.toNat.toUInt8))) H:=by refine Pu ?_;exact Bd func140 rfl ntmps140<|Sz aH<|Sd aC<|Dd aC<|Dd (bL rfl rfl aBm rfl (yX s c _))<|Zd aH<|aB<|Rt<|Qq
abbrev Rw:ByteArray:=⟨#[32,9,10]⟩
abbrev aBH:ByteArray:=⟨#[59,44,46,58,40,41,123,125,91,93,61,60,62,47,45]⟩
def im(s:ByteArray)(n:Int):Bool:=decide (0<=Lib.indexByte s.data.toList n.toNat.toUInt8)
def uJ(n:Int):Bool:=(decide (97<=n)&&decide (n<=122))||(decide (65<=n)&&decide (n<=90))
def xF(n:Int):Bool:=decide (48<=n)&&decide (n<=57)
def FK(n:Int):Int:=if uJ n then 3 else if xF n then 4 else if im Rw n then 1 else if im aBH n then 6 else 0
def xN(n:Int):Int:=if n=34 then 7 else if n=95 then 5 else if n=35 then 2 else FK n
def sM(c:Nat):List AV:=(List.range 256).map fun(i:Nat)=>.pv (.int .u8 (if i<c then FK i else 0))
def vB:List AV:=(List.range 256).map fun(i:Nat)=>.pv (.int .u8 (xN i))
theorem jY(c):(sM c).length=256:=rfl
theorem tN(hc:c<256){v}(a:FK c=v):(sM c).set c (.pv (.int .u8 v))=sM (c+1):=by
 apply List.ext_getElem
 ·simp[sM]
 intro i h1 h2;rw[List.getElem_set]
 split
 ·next e=>subst e;simp[sM,a]
 next e=>simp[sM,List.getElem_map,List.getElem_range];grind
theorem bw(b:c<256)(a:FK c=0):sM c=sM (c+1):=by
 rw[<-tN b a];apply List.ext_getElem
 ·simp
 intro i h1 h2;rw[List.getElem_set]
 split
 ·next e=>subst e;simp[sM]
 rfl
theorem bu:List.replicate 256 (.pv (.int .u8 0))=sM 0:=rfl
theorem bz:(((sM 256).set 35 (.pv (.int .u8 2))).set 95 (.pv (.int .u8 5))).set 34 (.pv (.int .u8 7))=vB:=by kernel_rfl
theorem jk{m}(h:m<256):vB[m]?=some (.pv (.int .u8 (xN m))):=by simp[vB,h]
theorem nX(c)(H):∀r∈[sM c],∀a∈r,Clo H a:=by intro r b a d;rw[aCi]at b;subst b;obtain ⟨i,_,rfl⟩:=List.mem_map.1 d;simp
theorem bq(H):Clo H (.agg vB):=by rw[XF];intro a b;obtain ⟨i,_,rfl⟩:=List.mem_map.1 b;simp
theorem jw:eL Tryz.prog 158 (List.replicate 256 (.pv (.int .u8 0))):=⟨_,.agg _,zeroValue158,.inl (rfl),rfl⟩
theorem UZ (H:aG):RC 123 [] (.agg vB) H:=by
  refine Pu ?_;refine Bd func123 rfl ntmps123<|Sz (kl 0 jw)<|Sz (kl 1 jw)<|Sq<|Sz aC<|aE ?_;rw[bu];refine bJ (σ:=Nat) (fun c=>([(0,.ref 0 0 0 0),(1,.ref 1 0 0 0),(4,iv (c:Int))],[(1,bx 256 158 (sM c)),(0,bx 256 158 (sM 0))])) (fun c=>c<=256) (fun c=>256 - c) 0 (by omega) ?_ ?_
  · exact(cQ.wk (Ea<|Ea<|Eb<|trivial) (Hc (nX _ _)<|Hc (nX _ _)<|trivial) trivial)
  · intro c hc
    refine Sz cJ<|Sq ?_;refine Cn ?_ ?_<;>intro n
    · have d:c<256:=by have:=aCb n;omega
      refine aA<|Sq<|aE<|Sd aC<|Zd aH<|Sd aC<|Dd (by exact fA rfl underlying3 eB rfl (by exact wu8 (by omega) (by omega)))<|Zd aH<|aE<|Sq<|Sq ?_;refine aQ (t:=9) (n:=8) (X:=decide (97<=(c:Int))&&decide ((c:Int)<=122)) ?_ ?_
      · all_goals refine Dd aC ?_
        all_goals refine Dd GP<|Dm ?_<;>(refine Sp 12 (fun m=>?_) fun m=>?_)<;>(first|contradiction|refine Fo<|Fo ?_|refine On aC<|On GP ?_)<;>refine Dd cD<|Da ?_<;>(exact⟨⟨_,rfl,by grind⟩,rfl,rfl,rfl⟩)
      refine Cn ?_ ?_<;>intro b
      · have f:FK c=3:=by rw[FK,uJ,b];rfl
        refine aA ?_;refine Cn ?_ ?_<;>intro j
        · skip
          refine Rd aC<|Dd (by exact eH (k2:=c) rfl fT cO rfl rfl rfl rfl (by omega) (by exact aCq _) (by omega) (by omega))<|Uu (by exact cV rfl cO rfl rfl rfl rfl rfl rfl (by rw[jY];omega) (tN d f) rfl)<|Zz<|Rd iF<|Zd aC ?_;exact⟨c+1,by omega,by omega,(cQ.wk (Ea<|Ea<|Eb<|trivial) (Hc (nX _ _)<|Hc (nX _ _)<|trivial) trivial)⟩
        · rw[b]at j;cases j
      · skip
        refine aQ (t:=9) (n:=8) (X:=decide (65<=(c:Int))&&decide ((c:Int)<=90)) ?_ ?_
        · all_goals refine Dd aC ?_
          all_goals refine Dd GP<|Dm ?_<;>(refine Sp 18 (fun k=>?_) fun k=>?_)<;>(first|contradiction|refine Fo<|Fo ?_|refine On aC<|On GP ?_)<;>refine Dd cD<|Da ?_<;>(exact⟨⟨_,rfl,by grind⟩,rfl,rfl,rfl⟩)
        refine Cn ?_ ?_<;>intro e
        · have f:FK c=3:=by rw[FK,uJ,b,e];rfl
          refine Rd aC<|Dd (by exact eH (k2:=c) rfl fT cO rfl rfl rfl rfl (by omega) (by exact aCq _) (by omega) (by omega))<|Uu (by exact cV rfl cO rfl rfl rfl rfl rfl rfl (by rw[jY];omega) (tN d f) rfl)<|Zz<|Rd iF<|Zd aC ?_;exact⟨c+1,by omega,by omega,(cQ.wk (Ea<|Ea<|Eb<|trivial) (Hc (nX _ _)<|Hc (nX _ _)<|trivial) trivial)⟩
        · skip
          refine Sq ?_;refine aQ (t:=24) (n:=8) (X:=decide (48<=(c:Int))&&decide ((c:Int)<=57)) ?_ ?_
          · all_goals refine Dd aC ?_
            all_goals refine Dd GP<|Dm ?_<;>(refine Sp 27 (fun l=>?_) fun l=>?_)<;>(first|contradiction|refine Fo<|Fo ?_|refine On aC<|On GP ?_)<;>refine Dd cD<|Da ?_<;>(exact⟨⟨_,rfl,by grind⟩,rfl,rfl,rfl⟩)
          refine Cn ?_ ?_<;>intro g
          · have f:FK c=4:=by rw[FK,uJ,b,e,xF,g];rfl
            refine Rd aC<|Dd (by exact eH (k2:=c) rfl fT cO rfl rfl rfl rfl (by omega) (by exact aCq _) (by omega) (by omega))<|Uu (by exact cV rfl cO rfl rfl rfl rfl rfl rfl (by rw[jY];omega) (tN d f) rfl)<|Zz<|Rd iF<|Zd aC ?_;exact⟨c+1,by omega,by omega,(cQ.wk (Ea<|Ea<|Eb<|trivial) (Hc (nX _ _)<|Hc (nX _ _)<|trivial) trivial)⟩
          · skip
            refine Sd aC<|Dd (kc zP (rB _ _ _))<|Dd CX<|Da ?_;refine Cn ?_ ?_<;>intro h
            · have f:FK c=1:=by rw[FK,uJ,b,e,xF,g,im,h];rfl
              refine Rd aC<|Dd (by exact eH (k2:=c) rfl fT cO rfl rfl rfl rfl (by omega) (by exact aCq _) (by omega) (by omega))<|Uu (by exact cV rfl cO rfl rfl rfl rfl rfl rfl (by rw[jY];omega) (tN d f) rfl)<|Zz<|Rd iF<|Zd aC ?_;exact⟨c+1,by omega,by omega,(cQ.wk (Ea<|Ea<|Eb<|trivial) (Hc (nX _ _)<|Hc (nX _ _)<|trivial) trivial)⟩
            · skip
              refine Sd aC<|Dd (kc zP (rB _ _ _))<|Dd CX<|Da ?_;refine Cn ?_ ?_<;>intro i
              · have f:FK c=6:=by rw[FK,uJ,b,e,xF,g,im,h,im,i];rfl
                refine Rd aC<|Dd (by exact eH (k2:=c) rfl fT cO rfl rfl rfl rfl (by omega) (by exact aCq _) (by omega) (by omega))<|Uu (by exact cV rfl cO rfl rfl rfl rfl rfl rfl (by rw[jY];omega) (tN d f) rfl)<|Zz<|Rd iF<|Zd aC ?_;exact⟨c+1,by omega,by omega,(cQ.wk (Ea<|Ea<|Eb<|trivial) (Hc (nX _ _)<|Hc (nX _ _)<|trivial) trivial)⟩
              · have f:FK c=0:=by rw[FK,uJ,b,e,xF,g,im,h,im,i];rfl
                refine aA<|Rd iF<|Zd aC ?_;rw[bw d f];exact⟨c+1,by omega,by omega,(cQ.wk (Ea<|Ea<|Eb<|trivial) (Hc (nX _ _)<|Hc (nX _ _)<|trivial) trivial)⟩
    · have:c=256:=by grind
      subst this;refine aS<|Sd (by exact eH (k2:=35) rfl fT cO rfl rfl rfl rfl (by omega) rfl (by omega) rfl)<|Uu (by exact cV rfl cO rfl rfl rfl rfl rfl rfl (by simp[jY]) rfl rfl)<|Dd (by exact eH (k2:=95) rfl fT cO rfl rfl rfl rfl (by omega) rfl (by omega) rfl)<|Uu (by exact cV rfl cO rfl rfl rfl rfl rfl rfl (by simp[jY]) rfl rfl)<|Dd (by exact eH (k2:=34) rfl fT cO rfl rfl rfl rfl (by omega) rfl (by omega) rfl)<|Uu (by exact cV rfl cO rfl rfl rfl rfl rfl rfl (by simp[jY]) rfl rfl)<|Zz<|Sd (by exact aM rfl aAc zJ rfl rfl rfl rfl (show List.take 256 (List.drop 0 _)=vB by rw[<-bz];rfl) rfl)<|Uu (iP zJ)<|Zz<|aB ?_;refine dA (H':=[]) (.inr rfl) rfl (eU rfl aAc zJ rfl rfl rfl (show List.take 256 (List.drop 0 vB)=vB by rfl) rfl) (Fin.wk (by exact bq _) trivial trivial) ?_;exact Qq
abbrev sNil:ByteArray:=⟨#[]⟩
theorem K4(s)(k):0<=bH s k:=by unfold bH;omega
theorem A4(s)(k):(bH s k).toNat<256:=by
 unfold bH;have:=(((s.data.toList[k]?).getD 0)).toNat_lt
 simpa using this
theorem Qi(s)(k):vB[(bH s k).toNat]?=some (.pv (.int .u8 (xN (bH s k)))):=by rw[jk (A4 s k),Int.toNat_of_nonneg (K4 s k)]
theorem jN(H):∀r∈[vB],∀a∈r,Clo H a:=by intro r b a c;rw[aCi]at b;subst b;have:=bq H;rw[XF]at this;exact this a c
def cb(s:ByteArray)(k:Nat):Bool:=!decide (xN (bH s k)=3)&&(decide ((k:Int)=0)||(!decide (xN (bH s k)=4)&&!decide (xN (bH s k)=5)))
def bS(s:ByteArray):Bool:=!((List.range s.size).any (cb s))&&(!decide (s=sNil)&&decide ((s.size:Int)<=24))
theorem AE{n}{p}(h:∀j,j<n->p j=false):(List.range n).any p=false:=by simp_all
theorem tE{n k}{p}(a:k<n)(h:p k=true):(List.range n).any p=true:=List.any_eq_true.2 ⟨k,List.mem_range.2 a,h⟩
theorem B3(s:ByteArray)(H:aG)(hs:s.size<4611686018427387904):RC 70 [sv s] (bv (bS s)) H:=by
 refine Pu ?_;refine Bd func70 rfl ntmps70<|Sz aH<|Sd (kc call123 (UZ _))<|Dd (kl 3 jw)<|Uu (by exact kZ rfl zJ rfl rfl rfl rfl rfl rfl rfl (by simp))<|Zz<|Sq<|Sd aC<|Dd (gF underlying9)<|Zd aC<|aE ?_;refine bJ (σ:=Nat) (fun k=>([(0,sv s),(3,.ref 3 0 0 0),(8,iv (s.size:Int)),(9,iv (k:Int))],[(3,bx 256 158 vB)])) (fun k=>k<=s.size/\∀j,j<k->cb s j=false) (fun k=>s.size - k) 0 ⟨by omega,by omega⟩ ?_ ?_
 ·exact(cQ.wk (Eb<|Ea<|Eb<|Eb<|trivial) (Hc (jN _)<|trivial) trivial)
 rintro k ⟨hk,g⟩;refine Sz cJ<|Sq ?_;refine Cn ?_ ?_<;>intro c
 ·have h:k<s.size:=by have:=aCb c;omega
  refine aA<|Sq<|aE<|Sd aC<|Zd aH<|Sd aC<|Dd aC<|Dd (ky underlying9)<|Dd (by exact eH (m:=(bH s k).toNat) (k2:=(bH s k).toNat) rfl fT cO rfl rfl rfl rfl (K4 s k) rfl (A4 s k) (by omega))<|Dd (by exact bA rfl C4 rfl rfl rfl rfl (Qi s k))<|Zd aH<|Sq ?_;refine aQ (t:=30) (n:=17) (X:=cb s k) ?_ ?_
  ·all_goals refine Dd aC ?_
   all_goals refine Dd rI<|Dm ?_<;>(refine Sp 19 (fun f=>?_) fun f=>?_)<;>(first|contradiction|refine Fo<|Fo<|Fo ?_|refine On aC<|On cF<|On aC ?_)<;>(first|refine Sp 22 (fun l=>?_) fun l=>?_|refine kI (t:=22) rfl ?_)<;>(first|contradiction|refine Fo ?_|refine Fu ?_|refine On aC ?_)<;>(first|refine Fo ?_|refine Fu ?_|refine On rI ?_)<;>(first|refine Fo ?_|refine Fu ?_|refine On aC ?_)<;>(first|refine Sp 25 (fun e=>?_) fun e=>?_|refine kI (t:=25) rfl ?_)<;>(first|contradiction|refine Fo ?_|refine Fu ?_|refine On aC ?_)<;>(first|refine Fo ?_|refine Fu ?_|refine On rI ?_)<;>(first|refine Fo ?_|refine Fu ?_|refine On cD ?_)<;>(first|refine Fo ?_|refine On cD ?_)<;>refine Zd cD ?_<;>(exact⟨⟨_,rfl,by(simp only[cb, *];rfl)⟩,rfl,rfl,rfl⟩)
  refine Cn ?_ ?_<;>intro d
  ·refine Sz aH<|aB<|Rt ?_;exact⟨by rw[bS,tE h d];rfl,rfl⟩
  refine aA<|Rd iF<|Zd aC ?_;refine⟨k+1,⟨by omega,fun j hj=>?_⟩,by omega,(cQ.wk (Eb<|Ea<|Eb<|Eb<|trivial) (Hc (jN _)<|trivial) trivial)⟩
  grind
 have i:k=s.size:=by have:=aCc c;omega
 refine aS<|Sq ?_;refine aQ (t:=2) (n:=9) (X:=!decide (s=sNil)&&decide ((s.size:Int)<=24)) ?_ ?_
 ·all_goals refine Dd aC ?_
  all_goals refine Dd DH<|Dm ?_<;>(refine Sp 34 (fun m=>?_) fun m=>?_)<;>(first|contradiction|refine Fo<|Fo<|Fo ?_|refine On aC<|On (gF underlying9)<|On GP ?_)<;>refine Dd cD<|Da ?_<;>(exact⟨⟨_,rfl,by simp_all⟩,rfl,rfl,rfl⟩)
 refine aB<|Rt ?_;subst i;exact⟨by rw[bS,AE g];rfl,rfl⟩
def jT{α:Type}(f:α->ByteArray)(l:List α):Nat->ByteArray
 |0=>sNil
 |k+1=>((l[k]?).map f).getD sNil
def Rs(a b:ByteArray):Bool:=xW a b||decide (a=b)
def CK(last:ByteArray)(t:GTag):Bool:=!bS t.key||Rs t.key last||decide (t.val=sNil)||decide (200<(t.val.size:Int))
def QX{α:Type}(p:ByteArray->α->Bool)(f:α->ByteArray)(l:List α)(k:Nat):Bool:=match l[k]? with
 |some t=>p (jT f l k) t
 |none=>false
theorem CL{p}{f}{l}{k}{t:α}(h:l[k]?=some t):QX p f l k=p (jT f l k) t:=by rw[QX,h]
theorem yT{f}{l}{k}{t:α}(h:l[k]?=some t):jT f l (k+1)=f t:=by rw[jT,h];rfl
def sE(l:List GTag):Bool:=!((List.range l.length).any (QX CK GTag.key l))&&decide ((l.length:Int)<=60)
def GJ(l:List GTag):Prop:=l.length<4611686018427387904/\∀t∈l,t.key.size<4611686018427387904/\t.val.size<4611686018427387904
theorem BL(l:List GTag)(H:aG)(u:GJ l):RC 261 [.pv (oG l)] (bv (sE l)) H:=by
 refine Pu ?_;obtain ⟨u,n⟩:=u;have i:(l.map bM).length=l.length:=aCf _;refine Bd func261 rfl ntmps261<|Sz aH<|Sz aH<|Sq<|Sd aC<|Dd (eR cY)<|Zd aC<|aE ?_;refine bJ (σ:=Nat) (fun k=>([(0,.pv (oG l)),(3,sv (jT GTag.key l k)),(6,.pv (oG l)),(7,iv ((l.map bM).length:Int)),(8,iv (k:Int))],[])) (fun k=>k<=l.length/\∀j,j<k->QX CK GTag.key l j=false) (fun k=>l.length - k) 0 ⟨by omega,by omega⟩ ?_ ?_
 ·exact Wk
 rintro k ⟨hk,h⟩;refine Sz cJ<|Sq ?_;refine Cn ?_ ?_<;>intro d
 ·have f:k<l.length:=by have:=aCb d;omega
  obtain ⟨t,g⟩:=aT f;have hi:=cE (f:=bM) g;have m:=n t (aCp g);refine aA<|Sq<|aE<|Sd (jE jX)<|Dd (by exact dM rfl wD kW rfl (by omega) (by simp only[Zl,bM,bG];rfl) rfl)<|Dd (kl 5 Pa)<|Uu (iP kW)<|Zz<|Sq<|Sq ?_;refine aQ (t:=32) (n:=24) (X:=CK (jT GTag.key l k) t) ?_ ?_
  ·all_goals refine Dd (aV nW) ?_
   all_goals refine Dd (bD isAgg9)<|Dd (kc pU (B3 t.key _ m.1))<|Dd iJ<|Dm ?_<;>(refine Sp 16 (fun o=>?_) fun o=>?_)<;>(first|contradiction|refine Fo<|Fo<|Fo<|Fo ?_|refine On (aV nW)<|On (bD isAgg9)<|On aC<|On (by exact Bi rfl rfl rfl) ?_)<;>refine Dd cD<|Dm ?_<;>(refine Sp 22 (fun s=>?_) fun s=>?_)<;>(first|contradiction|refine Fo<|Fo<|Fo ?_|refine On (aV oU)<|On (bD isAgg9)<|On vF ?_)<;>refine Dd cD<|Dm ?_<;>(refine Sp 27 (fun p=>?_) fun p=>?_)<;>(first|contradiction|refine Fo<|Fo<|Fo<|Fo ?_|refine On (aV oU)<|On (bD isAgg9)<|On (gF underlying9)<|On gX ?_)<;>refine Zd cD ?_<;>(exact⟨⟨_,rfl,by(simp only[CK,Rs, *];rfl)⟩,rfl,rfl,rfl⟩)
  refine Cn ?_ ?_<;>intro c
  ·refine Sz aH<|aB<|Rt ?_;exact⟨by rw[sE,tE f ((CL g).trans c)];rfl,rfl⟩
  refine aA<|Rd (aV nW)<|Dd (bD isAgg9)<|Zd aH<|Rd iF<|Zd aC ?_;refine⟨k+1,⟨by omega,fun j hj=>?_⟩,by omega,?_⟩
  ·by_cases e:j=k
   ·subst e;exact(CL g).trans c
   grind
  rw[yT g];exact Wk
 have q:k=l.length:=by have:=aCc d;omega
 subst q;refine aS<|Sd aC<|Dd (eR cY)<|Dd GP<|Zd aH<|aB<|Rt ?_;exact⟨by rw[sE,AE h,<-i];rfl,rfl⟩
end Go.Proofs.YtmdicgjnmfolfaaGreatDoor
namespace Go.Abs
section
section
variable{P:Program}{N:Nat}{o:Oper}{E:dC}{H:aG}{T:TypeId}{x y z:Operand}
theorem R1{e}{b}{s}{n}{m}{l}{v}(A:o.op=.index T x y)(D:P.underlying T=some (.array b e))(p:∀w,(sizeOf e).run P w=.ok 1 w)(r:∀w,(isAgg e).run P w=.ok false w)
  (C:aO E x=some (.agg l)) (F:aO E y=some (.pv (.int s n))) (G:0<=n) (u:n.toNat=m) (hi:m<b) (k:l[m]?=some v):cK P N o E H v H :=
 .of_run fun a w I ι hr g=>by
  have h:=aI g C;have B:=(aI g F).int_inv;generalize q:a.eval x=c at h;cases h with
  | @agg i _ hl h1 J =>
   have d:m<i.size:=by grind
   have j:=Array.getElem?_eq_getElem d;refine⟨i[m],?_,J m _ v j k⟩;have t:n<b:=by omega
   simp[execOp,A,q,B];simp[Instr.index,run_underlying D,asIntOf,G,t,p,u,part,r,j]
def FF(l:List ByteArray):List (ByteArray×AV):=l.map fun s=>(s,.pv (.bool true))
def Dh(l:List ByteArray)(s:ByteArray):Bool:=l.any fun a=>decide (a=s)
def OI(l:List ByteArray)(s:ByteArray):List ByteArray:=if Dh l s then l else l++[s]
theorem yy(l)(s):(SB (FF l) s).getD (.pv (.bool false))=.pv (.bool (Dh l s)):=by
 induction l with
 |nil=>rfl
 |cons a l b =>
  by_cases h:a=s
  ·subst h;simp[FF,SB,Dh]
  simp[FF,List.map_cons,SB,h,if_false,Dh,List.any_cons,decide_false,Bool.false_or]at b |-;exact b
theorem yx(l)(s):AO (FF l) s (.pv (.bool true))=FF (OI l s):=by
 induction l with
 |nil=>rfl
 | cons a l b =>
  by_cases h:a=s
  ·subst h;simp[FF,AO,OI,Dh]
  have e:OI (a::l) s=a::OI l s:=by
   unfold OI Dh
   grind
  rw[e];show AO ((a,.pv _)::FF l) s _=(a,.pv _)::FF _;rw[AO,aCd h,b]
theorem vL{c b}{l}{id g}{ob}{s}{zv}(e:o.op=.lookup T x y false)(i:P.underlying T=some (.map c b))(hd:P.underlying c=some .string)(j:aO E x=some (.mp id g))(f:H.get id=some ob)(k:ob.g=g)
  (a:ob.rows=sV qj (FF l)) (h:aO E y=some (.pv (.str s))) (d:∀w,(zeroValue b).run P w=.ok zv w) (m:ZV zv (.pv (.bool false))):cK P N o E H (.pv (.bool (Dh l s))) H:=by
 rw[<-yy];exact PG e i hd j f k a h d m
theorem SN{d h}{l}{id g}{ob}{s}(f:o.op=.mapUpdate T x y z\/o.op=.insert T x y z)(j:P.underlying T=some (.map d h))(hd:P.underlying d=some .string)(k:aO E x=some (.mp id g))(e:H.get id=some ob)(n:ob.g=g)
  (c:ob.ty=(FF l).length) (b:ob.rows=sV qj (FF l)) (i:aO E y=some (.pv (.str s))) (m:aO E z=some (.pv (.bool true))):cK P N o E H .any ((id,⟨g,ob.sz,(FF (OI l s)).length,sV qj (FF (OI l s))⟩)::H) :=
 LH f j hd k e n c b i m (yx l s)
abbrev sob(l:List ByteArray):Ob:=⟨0,0,(FF l).length,sV qj (FF l)⟩
end
end
end Go.Abs
namespace Go.Proofs.YtmdicgjnmfolfaaGreatDoor
open Go.Proofs.Tryz
open Go.Abs
def dZ(k:Int):ByteArray:=if k=1 then⟨#[110,111,100,101]⟩else if k=2 then⟨#[119,97,121]⟩else if k=3 then⟨#[97,114,101,97]⟩else if k=4 then⟨#[114,111,117,116,101]⟩else if k=5 then⟨#[116,117,114,110]⟩else sNil
abbrev Il:List AV:=[sv sNil,sv ⟨#[110,111,100,101]⟩,sv ⟨#[119,97,121]⟩,sv ⟨#[97,114,101,97]⟩,sv ⟨#[114,111,117,116,101]⟩,sv ⟨#[116,117,114,110]⟩]
theorem Rv{k:Int}(h0:0<=k)(h1:k<6):k=0\/k=1\/k=2\/k=3\/k=4\/k=5:=by omega
theorem Ik{k}(a:0<=k)(b:k<6):Il[k.toNat]?=some (sv (dZ k)):=by rcases Rv a b with rfl|rfl|rfl|rfl|rfl|rfl<;>rfl
theorem F6(k:Int)(H:aG):RC 230 [iv k] (sv (dZ k)) H:=by
 refine Pu ?_;refine Bd func230 rfl ntmps230<|Sz aH<|Sd (by exact yB rfl aA7 rfl rfl)<|Dd (kl 3 Wv)<|Uu (iP sizeOf269)<|Zz<|Sq<|Sq ?_;refine aQ (t:=10) (n:=7) (X:=decide (k<0)||decide (6<=k)) ?_ ?_
 ·all_goals refine Dd aC ?_
  all_goals refine Dd cJ<|Dm ?_<;>(refine Sp 7 (fun d=>?_) fun d=>?_)<;>(first|contradiction|refine Fo<|Fo ?_|refine On aC<|On CX ?_)<;>refine Zd cD ?_<;>(exact⟨⟨_,rfl,by grind⟩,rfl,rfl,rfl⟩)
 refine Cn ?_ ?_<;>intro hc1
 ·have b:¬ (k=1)/\¬ (k=2)/\¬ (k=3)/\¬ (k=4)/\¬ (k=5):=by
   grind
  refine Sz aH<|aB<|Rt ?_;exact⟨by simp only[dZ,b.1,b.2.1,b.2.2.1,b.2.2.2.1,b.2.2.2.2,if_false],rfl⟩
 have c:0<=k/\k<6:=by
  simp_all
 exact aA<|Sd aC<|Dd (by exact eH (m:=k.toNat) (k2:=k.toNat) rfl underlying269 sizeOf9 rfl rfl rfl rfl c.1 rfl (by omega) (by omega))<|Dd (by exact bA rfl isAgg9 rfl rfl rfl rfl (Ik c.1 c.2))<|Zd aH<|aB<|Rt<|Qq
def DZ(k:Int):Int:=if k=2 then 2 else if k=3 then 3 else if k=4 then 1 else if k=5 then 3 else 0
theorem Cm{k}(a:0<=k)(b:k<6):[iv 0,iv 0,iv 2,iv 3,iv 1,iv 3][k.toNat]?=some (iv (DZ k)):=by rcases Rv a b with rfl|rfl|rfl|rfl|rfl|rfl<;>rfl
theorem np(k)(H)(b:0<=k)(c:k<6):RC 262 [iv k] (iv (DZ k)) H:=by refine Pu ?_;exact Bd func262 rfl ntmps262<|Sz aH<|Sd (yB rfl aA6 rfl rfl)<|Dd aC<|Dd (R1 rfl underlying280 sizeOf3 isAgg3 rfl rfl b rfl (by omega) (Cm b c))<|Zd aH<|aB<|Rt<|Qq
def W4(x y:Int):Bool:=((decide (0<=x)&&decide (x<1048576))&&decide (0<=y))&&decide (y<1048576)
theorem aBX(x y:Int)(H:aG):RC 264 [.agg [iv x,iv y]] (bv (W4 x y)) H:=by
 refine Pu ?_;refine Bd func264 rfl ntmps264<|Sd (kb 1)<|Zd aH<|Sq ?_;refine aQ (t:=2) (n:=22) (X:=W4 x y) ?_ ?_
 ·all_goals refine Dd (aV pC) ?_
  all_goals refine Dd (bD isAgg3)<|Dd CX<|Dm ?_<;>(refine Sp 6 (fun d=>?_) fun d=>?_)<;>(first|refine Fo<|Fo<|Fo ?_|refine On (aV pC)<|On (bD isAgg3)<|On cJ ?_)<;>refine Dd cD<|Dm ?_<;>(refine Sp 11 (fun b=>?_) fun b=>?_)<;>(first|refine Fo<|Fo<|Fo ?_|refine On (aV pB)<|On (bD isAgg3)<|On CX ?_)<;>refine Dd cD<|Dm ?_<;>(refine Sp 16 (fun c=>?_) fun c=>?_)<;>(first|contradiction|refine Fo<|Fo<|Fo ?_|refine On (aV pB)<|On (bD isAgg3)<|On cJ ?_)<;>refine Dd cD<|Da ?_<;>(exact⟨⟨_,rfl,by(simp only[W4, *];rfl)⟩,rfl,rfl,rfl⟩)
 exact aB<|Rt<|Qq
def LY(p:Nat->Bool)(n:Nat):Int:=match (List.range n).find? p with|some k=>(k:Int)|none => -1
def FQ(p:Nat->Bool)(n:Nat):Nat:=match (List.range n).find? p with|some k=>k+1|none=>n
theorem CE{p}{n k}(hk:k<n)(hp:p k=true)(hno:∀j,j<k->p j=false):(List.range n).find? p=some k:=by simp_all
theorem CF{p}{n}(hno:∀j,j<n->p j=false):(List.range n).find? p=none:=by simp_all
theorem ig(m:AV)(l:List ByteArray)(p:Nat->Bool)(e:Nat->aG)(hl:l.length<4611686018427387904)(o:∀k s,l[k]?=some s->dI Tryz.prog m [sv s] (e k) (fun r H'=>r=bv (p k)/\H'=e (k+1))):
  aW Tryz.prog 120 [.pv (aU l),m] (e 0) (fun r H'=>r=iv (LY p l.length)/\H'=e (FQ p l.length)):=by
 have hml:(l.map encStr).length=l.length:=aCf _;refine Bd func120 rfl ntmps120<|Sz aH<|Sq<|Sd aC<|Dd (eR aD)<|Zd aC<|aE ?_;refine bJ (σ:=Nat) (fun k=>([(0,.pv (aU l)),(1,m),(7,iv ((l.map encStr).length:Int)),(8,iv (k:Int))],e k)) (fun k=>k<=l.length/\∀j,j<k->p j=false) (fun k=>l.length - k) 0 ⟨by omega,by omega⟩ ?_ ?_
 ·exact E0
 rintro k ⟨hk,c⟩;refine Sz cJ<|Sq ?_;refine Cn ?_ ?_<;>intro f
 ·have d:k<l.length:=by have:=aCb f;omega
  obtain ⟨s,n⟩:=aT d;have hi:=cE (f:=encStr) n;have h:=o k s n;refine aA<|Sq<|aE<|Sd aC<|Zd aH<|Sd aC<|Dd aC<|Dd aC<|Dd (jE bT)<|Dd (fO isAgg9)<|Zd (by exact cW rfl rfl rfl (h)) ?_;refine Cn ?_ ?_<;>intro g
  ·refine Sd aC<|Zd aH<|aB ?_;exact dA (H':=e (k+1)) (.inr rfl) rfl (aJ rfl) Fin.refl ⟨by rw[LY,CE d g c],by rw[FQ,CE d g c]⟩
  refine aA<|Rd iF<|Zd aC ?_;refine⟨k+1,⟨by omega,fun j hj=>?_⟩,by omega,E0⟩
  grind
 have i:k=l.length:=by have:=aCc f;omega
 subst i;refine aS<|Sz aH<|aB ?_;exact dA (H':=e l.length) (.inr rfl) rfl (aJ rfl) Fin.refl ⟨by rw[LY,CF c],by rw[FQ,CF c]⟩
theorem UE(p)(n):decide (0<=LY p n)=(List.range n).any p:=by
 unfold LY
 grind
theorem uC(c)(l)(p)(b:Nat->aG)(d:l.length<4611686018427387904)(e:∀k s,l[k]?=some s->dI Tryz.prog c [sv s] (b k) (fun r H'=>r=bv (p k)/\H'=b (k+1))):
  aW Tryz.prog 62 [.pv (aU l),c] (b 0) (fun r H'=>r=bv ((List.range l.length).any p)/\H'=b (FQ p l.length)):=by
 refine Bd func62 rfl ntmps62<|Sz aH<|Sd aC<|Dd aC<|Dd (bL rfl rfl call120 rfl (ig _ l p _ d e))<|Dd CX<|Zd aH<|aB ?_;exact dA (.inr rfl) rfl (aJ rfl) Fin.refl ⟨by rw[UE],rfl⟩
theorem M7(L)(H):∀r∈(sob L).rows,∀a∈r,Clo H a:=by intro r d a c;obtain ⟨i,e⟩:=aDA.1 d;obtain ⟨p,b,rfl⟩:=KI.1 e;simp only[FF,aCz]at b;obtain ⟨q,_,rfl⟩:=Option.map_eq_some_iff.1 b;simp[aCr,aCv,or_false]at c;rcases c with rfl|rfl|rfl<;>simp
def vH(o:GObj)(last:ByteArray)(L:List ByteArray):aG:=[(37,sob L),(4,bx 1 9 [sv last]),(3,bx 1 270 [.mp 37 0]),(1,bx 6 151 ((bG o).map .pv))]
theorem Rf(o)(a)(L)(f:Nat):Clo (vH o a L) (.clo f [.ref 1 0 0 0,.ref 4 0 0 0,.ref 3 0 0 0]):=by refine .clo fun x b=>?_;simp[aCr,aCv,or_false]at b;rcases b with rfl|rfl|rfl<;>exact .ref rfl
def P9(o:GObj)(last:ByteArray)(L:List ByteArray)(s:ByteArray):Bool:=(decide (o.kind=2)&&decide (s=last))||(decide (o.kind=3)&&Dh L s)
def KR(o:GObj)(last:ByteArray)(L:List ByteArray)(s:ByteArray):Bool:=P9 o last L s||!bS s
theorem xi(o:GObj)(b s:ByteArray)(L:List ByteArray)(g:s.size<4611686018427387904):
  aW Tryz.prog 263 [sv s,.ref 1 0 0 0,.ref 4 0 0 0,.ref 3 0 0 0] (vH o b L) (fun r H'=>r=bv (KR o b L s)/\H'=vH o s (OI L s)):=by
 unfold vH;refine Bd func263 rfl ntmps263<|Sz aH<|Sq ?_;refine aQ (t:=6) (n:=22) (X:=P9 o b L s) ?_ ?_
 ·all_goals refine Dd (aV dW) ?_
  all_goals refine Dd (bD isAgg3)<|Dd cF<|Dm ?_<;>(refine Sp 10 (fun e=>?_) fun e=>?_)<;>(first|contradiction|refine Fo<|Fo<|Fo ?_|refine On aC<|On (bD isAgg9)<|On vF ?_)<;>refine Dd cD<|Dm ?_<;>(refine Sp 15 (fun d=>?_) fun d=>?_)<;>(first|contradiction|refine Fo<|Fo<|Fo<|Fo ?_|refine On (aV dW)<|On (bD isAgg3)<|On cF<|On aC ?_)<;>(first|refine Sp 19 (fun c=>?_) fun c=>?_|refine kI (t:=19) rfl ?_)<;>(first|contradiction|refine Fo ?_|refine Fu ?_|refine On (bD isAgg270) ?_)<;>(first|refine Fo ?_|refine Fu ?_|refine On aC ?_)<;>(first|refine Fo ?_|refine Fu ?_|refine On (by exact vL rfl qN underlying9 rfl rfl rfl rfl rfl nY (.inl rfl)) ?_)<;>(first|refine Fo ?_|refine On cD ?_)<;>refine Dd cD<|Da ?_<;>(exact⟨⟨_,rfl,by(simp only[P9, *];rfl)⟩,rfl,rfl,rfl⟩)
 refine Sd (bD isAgg270)<|Dd aC<|Dd aC<|Uu (by exact SN (.inl rfl) qN underlying9 rfl rfl rfl rfl rfl rfl rfl)<|Uu (iP sizeOf9)<|Zz<|Sq ?_;refine aQ (t:=5) (n:=8) (X:=P9 o b L s||!bS s) ?_ ?_
 ·all_goals refine Dd aC ?_
  all_goals refine Dm ?_<;>(refine Sp 29 (fun f=>?_) fun f=>?_)<;>(first|contradiction|refine Fo<|Fo<|Fo ?_|refine On aC<|On (kc pU (B3 s _ g))<|On iJ ?_)<;>refine Dd cD<|Da ?_<;>(exact⟨⟨_,rfl,by simp_all⟩,rfl,rfl,rfl⟩)
 refine aB ?_;refine dA (H':=vH o s (OI L s)) (.inr rfl) rfl (aJ rfl) (Fin.wk (by(simp;done)) (Hc (M7 _ _)<|Hb<|Ha<|Hb<|trivial) ⟨rfl,rfl,rfl,rfl,trivial⟩) ?_;exact Qq
def AB(l:List ByteArray):Nat->List ByteArray
 |0=>[]
 |k+1=>OI (AB l k) ((l[k]?).getD sNil)
def tR(o:GObj)(k:Nat):Bool:=match o.refs[k]? with
 |some s=>KR o (jT id o.refs k) (AB o.refs k) s
 |none=>false
def QB(o:GObj):Bool:=if o.kind=1 then decide ((o.refs.length:Int)=0)&&W4 o.x o.y else if o.kind=5 then decide ((o.refs.length:Int)=3)&&(decide (o.x=0)&&decide (o.y=0))else decide (o.x=0)&&decide (o.y=0)
def uV(o:GObj)(n:Int):Bool:=decide (dZ o.kind=sNil)||!bS o.id||!sE o.tags||decide (n<DZ o.kind)||decide (2000<n)
def LZ(o:GObj):Bool:=uV o (o.refs.length:Int)
def nA(o:GObj):Bool:=!LZ o&&(!((List.range o.refs.length).any (tR o))&&QB o)
def ZU(o:GObj):Prop:=o.id.size<4611686018427387904/\GJ o.tags/\o.refs.length<4611686018427387904/\∀s∈o.refs,s.size<4611686018427387904
theorem zV{k}(h:decide (dZ k=sNil)=false):0<=k/\k<6:=by
 by_cases b:0<=k/\k<6
 ·exact b
 have:dZ k=sNil:=by
  have a:¬ (k=1)/\¬ (k=2)/\¬ (k=3)/\¬ (k=4)/\¬ (k=5):=by omega
  simp[dZ,a.1,a.2.1,a.2.2.1,a.2.2.2.1,a.2.2.2.2,if_false]
 rw[this]at h;simp at h
theorem PM(o:GObj)(H:aG)(x:ZU o):RC 233 [av (bG o)] (bv (nA o)) H:=by
 refine Pu ?_;obtain ⟨p,t,y,w⟩:=x;have hml:(o.refs.map encStr).length=o.refs.length:=aCf _;refine Bd func233 rfl ntmps233<|Sd (kb 1)<|Zd aH<|Sq<|Sq ?_;refine kH (t:=36) (n:=31) (X:=uV o ((o.refs.map encStr).length:Int)) ?_ ?_
 ·cases hg10:(decide (dZ o.kind=sNil):Bool)
  ·cases hg16:(!bS o.id:Bool)
   ·cases i:(!sE o.tags:Bool)
    ·cases g:(decide (((o.refs.map encStr).length:Int)<DZ o.kind):Bool)
     ·refine aL follows<|Cq (aV dW)<|Cq (bD isAgg3)<|Cq (kc zM (F6 o.kind _))<|Cq vF<|Cq aC<|Nf (aV oW)<|Nf (bD isAgg9)<|Nf (kc pU (B3 o.id _ p))<|Nf iJ<|Cq nT<|Cq aC<|Nf (aV eT)<|Nf (bD cU)<|Nf (kc vo (BL o.tags _ t))<|Nf iJ<|Cq nT<|Cq aC<|Nf (aV dQ)<|Nf (bD aF)<|Nf (eR aD)<|Nf (aV dW)<|Nf (bD isAgg3)<|Nf (kc call262 (np o.kind _ (zV hg10).1 (zV hg10).2))<|Nf cJ<|Cq nT<|Cq aC<|Nf (aV dQ)<|Nf (bD aF)<|Nf (eR aD)<|Nf gX<|Cq nT<|bF<|Kr ?_;exact⟨rfl,⟨_,rfl,by(simp only[uV,hg10,hg16,i,g];rfl)⟩,rfl,rfl,rfl⟩
     refine aL follows<|Cq (aV dW)<|Cq (bD isAgg3)<|Cq (kc zM (F6 o.kind _))<|Cq vF<|Cq aC<|Nf (aV oW)<|Nf (bD isAgg9)<|Nf (kc pU (B3 o.id _ p))<|Nf iJ<|Cq nT<|Cq aC<|Nf (aV eT)<|Nf (bD cU)<|Nf (kc vo (BL o.tags _ t))<|Nf iJ<|Cq nT<|Cq aC<|Nf (aV dQ)<|Nf (bD aF)<|Nf (eR aD)<|Nf (aV dW)<|Nf (bD isAgg3)<|Nf (kc call262 (np o.kind _ (zV hg10).1 (zV hg10).2))<|Nf cJ<|Cq nT<|Cq aC<|Of<|Of<|Of<|Of<|Cq xX<|bF<|Kr ?_;exact⟨rfl,⟨_,rfl,by(simp only[uV,hg10,hg16,i,g];rfl)⟩,rfl,rfl,rfl⟩
    refine aL follows<|Cq (aV dW)<|Cq (bD isAgg3)<|Cq (kc zM (F6 o.kind _))<|Cq vF<|Cq aC<|Nf (aV oW)<|Nf (bD isAgg9)<|Nf (kc pU (B3 o.id _ p))<|Nf iJ<|Cq nT<|Cq aC<|Nf (aV eT)<|Nf (bD cU)<|Nf (kc vo (BL o.tags _ t))<|Nf iJ<|Cq nT<|Cq aC<|Of<|Of<|Of<|Of<|Of<|Of<|Of<|Cq xX<|Cq aC<|Of<|Of<|Of<|Of<|Cq cD<|bF<|Kr ?_;exact⟨rfl,⟨_,rfl,by(simp only[uV, *];rfl)⟩,rfl,rfl,rfl⟩
   refine aL follows<|Cq (aV dW)<|Cq (bD isAgg3)<|Cq (kc zM (F6 o.kind _))<|Cq vF<|Cq aC<|Nf (aV oW)<|Nf (bD isAgg9)<|Nf (kc pU (B3 o.id _ p))<|Nf iJ<|Cq nT<|Cq aC<|Of<|Of<|Of<|Of<|Cq xX<|Cq aC<|Of<|Of<|Of<|Of<|Of<|Of<|Of<|Cq cD<|Cq aC<|Of<|Of<|Of<|Of<|Cq cD<|bF<|Kr ?_;exact⟨rfl,⟨_,rfl,by(simp only[uV, *];rfl)⟩,rfl,rfl,rfl⟩
  refine aL follows<|Cq (aV dW)<|Cq (bD isAgg3)<|Cq (kc zM (F6 o.kind _))<|Cq vF<|Cq aC<|Of<|Of<|Of<|Of<|Cq xX<|Cq aC<|Of<|Of<|Of<|Of<|Cq cD<|Cq aC<|Of<|Of<|Of<|Of<|Of<|Of<|Of<|Cq cD<|Cq aC<|Of<|Of<|Of<|Of<|Cq cD<|bF<|Kr ?_;exact⟨rfl,⟨_,rfl,by(simp only[uV, *];rfl)⟩,rfl,rfl,rfl⟩
 refine Cn ?_ ?_<;>intro l
 ·refine Sz aH<|aB<|Rt ?_;exact⟨by rw[nA,LZ,<-hml,l];rfl,rfl⟩
 refine aA<|Sd (by exact DO (id:=37) qj rfl rfl)<|Dd (kl 3 Wu)<|Uu (iP sizeOf270)<|Zz<|Sd (kl 4 Ig)<|Uu (iP sizeOf9)<|Zz ?_;refine jo ([(1,.ref 1 0 0 0),(5,.clo 263 [.ref 1 0 0 0,.ref 4 0 0 0,.ref 3 0 0 0])]) (vH o sNil []) ?_ ?_
 ·refine Rd (by exact hU rfl rfl)<|Da ?_;exact(cQ.wk (Ea<|Ec (Rf _ _ _ _)<|trivial) (Hc (M7 _ _)<|Hb<|Ha<|Hb<|trivial) trivial)
 refine Sq<|Sd (aV dQ)<|Dd (bD aF)<|Dd aC<|Zd (kc XU (uC _ o.refs (tR o) (fun k=>vH o (jT id o.refs k) (AB o.refs k)) y (fun k s q=>dI.clo call263 (by rw[tR,q,yT q];simp only[AB,q];exact xi o _ s _ (w s (aCp q)))))) ?_;refine Cn ?_ ?_<;>intro n
 ·refine Sz aH<|aB<|Rt ?_;exact⟨by rw[nA,n];simp,rfl⟩
 have f:nA o=QB o:=by have h:=l;rw[hml]at h;rw[nA,LZ,h,n];rfl
 rw[f];clear f;generalize jT id o.refs (FQ (tR o) o.refs.length)=la;generalize AB o.refs (FQ (tR o) o.refs.length)=LL;unfold vH;refine aA<|Sq<|Sd (aV dW)<|Zd (bD isAgg3)<|aE<|Sd cF<|Da ?_;refine Cn ?_ ?_<;>intro j
 ·refine Sq ?_;refine aQ (t:=2) (n:=11) (X:=decide (((o.refs.map encStr).length:Int)=0)&&W4 o.x o.y) ?_ ?_
  ·all_goals refine Dd (aV dQ) ?_
   all_goals refine Dd (bD aF)<|Dd (eR aD)<|Dd cF<|Dm ?_<;>(refine Sp 51 (fun v=>?_) fun v=>?_)<;>(first|contradiction|refine Fo<|Fo<|Fo ?_|refine On (aV lV)<|On (by exact aM rfl dO sizeOf68 rfl rfl rfl rfl (by simp only[Zl,bM,bG];rfl) rfl)<|On (kc call264 (aBX o.x o.y _)) ?_)<;>refine Dd cD<|Da ?_<;>(exact⟨⟨_,rfl,by simp_all⟩,rfl,rfl,rfl⟩)
  refine aB<|Rt ?_;exact⟨by rw[QB,aCe (aCb j),<-hml],rfl⟩
 refine Sd cF<|Da ?_;refine Cn ?_ ?_<;>intro m
 ·refine Sq ?_;refine aQ (t:=2) (n:=12) (X:=decide (((o.refs.map encStr).length:Int)=3)&&(decide (o.x=0)&&decide (o.y=0))) ?_ ?_
  ·all_goals refine Dd (aV dQ) ?_
   all_goals refine Dd (bD aF)<|Dd (eR aD)<|Dd cF<|Dm ?_<;>(refine Sp 62 (fun u=>?_) fun u=>?_)<;>(first|contradiction|refine Fo<|Fo<|Fo<|Fo ?_|refine On (aV lV)<|On (by exact aM rfl dO sizeOf68 rfl rfl rfl rfl (by simp only[Zl,bM,bG];rfl) rfl)<|On (nP SK)<|On (by exact AK rfl rfl rfl rfl rfl iV (VR _ _ _ _)) ?_)<;>refine Dd cD<|Da ?_<;>(exact⟨⟨_,rfl,by simp_all⟩,rfl,rfl,rfl⟩)
  refine aB<|Rt ?_;exact⟨by rw[QB,aCd (aCc j),aCe (aCb m),<-hml],rfl⟩
 refine aA<|Sd (aV lV)<|Dd (by exact aM rfl dO sizeOf68 rfl rfl rfl rfl (by simp only[Zl,bM,bG];rfl) rfl)<|Dd (nP SK)<|Dd (by exact AK rfl rfl rfl rfl rfl iV (VR _ _ _ _))<|Zd aH<|aB<|Rt ?_;exact⟨by rw[QB,aCd (aCc j),aCd (aCc m)],rfl⟩
section
def RR(n:Int):Prop:=(Lit.int .i64 n).wf=true
theorem RR.bd{n}(h:RR n): -9223372036854775808<=n/\n<=9223372036854775807:=by simpa[RR,Lit.wf,IntKind.min,IntKind.signed,IntKind.bits]using h
def Pn(B:Nat)(t:GTag):Prop:=t.key.size<=B/\t.val.size<=B
def BM(B:Nat)(l:List ByteArray):Prop:=l.length<=B/\∀s,s∈l->s.size<=B
def eb(B:Nat)(l:List GTag):Prop:=l.length<=B/\∀s,s∈l->Pn B s
def ll(B:Nat)(o:GObj):Prop:=o.id.size<=B/\RR o.kind/\RR o.x/\RR o.y/\BM B o.refs/\eb B o.tags
def Pp(B:Nat)(m:List GObj):Prop:=m.length<=B/\∀o,o∈m->ll B o
def ef(B:Nat)(e:GEdit):Prop:=RR e.op/\e.id.size<=B/\e.other.size<=B/\e.node.size<=B/\RR e.x/\RR e.y/\e.key.size<=B/\e.val.size<=B/\BM B e.refs/\ll B e.obj
def ln(B:Nat)(l:List GEdit):Prop:=l.length<=B/\∀e,e∈l->ef B e
section
variable{B n:Nat}{ps:List PV}
theorem D3(h:Sh Tryz.prog B (n+2) 22 ps):∃l,ps=[aU l]/\BM B l:=by
 obtain ⟨l,rfl,b,e⟩:=BQ aD h (fun r c=>by
  obtain ⟨s,rfl,d⟩:=qC underlying9 c;exact⟨s,rfl,d⟩)
 exact⟨l,rfl,b,e⟩
theorem aAV(h:Sh Tryz.prog B (n+2) 199 ps):∃t,ps=bM t/\Pn B t:=by obtain ⟨a,b,rfl,_,g,a2,b2,rfl,_,f,rfl⟩:=oO underlying199 h;obtain ⟨k,rfl,d⟩:=qC underlying9 g;obtain ⟨v,rfl,e⟩:=qC underlying9 f;exact⟨⟨k,v⟩,rfl,d,e⟩
theorem Vd(h:Sh Tryz.prog B (n+3) 149 ps):∃l,ps=[oG l]/\eb B l:=by obtain ⟨l,rfl,b,d⟩:=BQ cY h (fun r c=>aAV c);exact⟨l,rfl,b,d⟩
theorem XD(h:Sh Tryz.prog B (n+2) 68 ps):∃x y,ps=[.int .i64 x,.int .i64 y]/\RR x/\RR y:=by obtain ⟨a,b,rfl,_,d,a2,b2,rfl,_,g,rfl⟩:=oO underlying68 h;obtain ⟨x,rfl,e⟩:=wS underlying3 d;obtain ⟨y,rfl,f⟩:=wS underlying3 g;exact⟨x,y,rfl,e,f⟩
theorem Qh(h:Sh Tryz.prog B (n+4) 151 ps):∃o,ps=bG o/\ll B o:=by obtain ⟨_,_,rfl,_,f,_,_,rfl,_,m,_,_,rfl,_,g,_,_,rfl,_,d,_,_,rfl,_,b,rfl⟩:=oO kJ h;obtain ⟨id,rfl,i⟩:=qC underlying9 f;obtain ⟨k,rfl,q⟩:=wS underlying3 m;obtain ⟨x,y,rfl,j,l⟩:=XD g;obtain ⟨p,rfl,e⟩:=D3 d;obtain ⟨c,rfl,r⟩:=Vd b;exact⟨⟨id,k,x,y,p,c⟩,rfl,i,q,j,l,e,r⟩
theorem Vf(h:Sh Tryz.prog B (n+5) 31 ps):∃l,ps=[yg l]/\Pp B l:=by obtain ⟨l,rfl,b,d⟩:=BQ underlying31 h (fun r c=>Qh c);exact⟨l,rfl,b,d⟩
theorem aAZ(h:Sh Tryz.prog B (n+6) 33 ps):∃l,ps=[yg l]/\Pp B l:=by
 obtain ⟨_,_,rfl,_,b,rfl⟩:=oO underlying33 h;obtain ⟨l,rfl,q⟩:=Vf b
 grind
end
theorem sr{B}{l}(hB:B<4611686018427387904)(h:eb B l):GJ l:=⟨by have:=h.1;omega,fun t a=>⟨by have:=(h.2 t a).1;omega,by have:=(h.2 t a).2;omega⟩⟩
theorem Tq{B}{o}(b:B<4611686018427387904)(h:ll B o):ZU o :=⟨by have:=h.1;omega,sr b h.2.2.2.2.2,by have:=h.2.2.2.2.1.1;omega,fun s a=>by have:=h.2.2.2.2.1.2 s a;omega⟩
section
variable{B n:Nat}{ps:List PV}
theorem aAW(h:Sh Tryz.prog B (n+1) 9 ps):∃s,ps=[.str s]/\s.size<=B:=by
 obtain ⟨k,rfl,hk⟩:=qC underlying9 h
 simp_all
end
end
end Go.Proofs.YtmdicgjnmfolfaaGreatDoor
namespace Go.Proofs.YtmdicgjnmfolfaaGreatDoor
open Go.Proofs.Tryz
open Go.Abs Go.ChangeShapes Go.WideShapes Go.ChangeAt Go.RowKit
theorem own:ownKnob Tryz.prog.godebug=none:=rfl
theorem nr:laidOutB Tryz.prog=true:=by kernel_rfl
theorem dv{H}{l}(a:Rows.uptoSmall H l=true):Rows.uptoBulkAll l<=1048576:=aCb a
theorem uu{H}{l r:List (DataW H)}{n}(h:Rows.uptoBulkAll (l++r)<=n):Rows.uptoBulkAll l<=n:=by
 induction l generalizing n with
 |nil=>simp[Rows.uptoBulkAll]
 |cons x l a =>
  simp[List.cons_append,Rows.uptoBulkAll]at h |-;have:=a (n:=n - Rows.uptoBulk x) (by omega);omega
end Go.Proofs.YtmdicgjnmfolfaaGreatDoor
namespace Go.Proofs.YtmdicgjnmfolfaaGreatDoor
open Go.Proofs.Tryz
open Go.Abs
section
section
variable{B n:Nat}{ps:List PV}
theorem Vg(h:Sh Tryz.prog B (n+5) 153 ps):∃o,ps=aZ o/\ef B o:=by obtain ⟨_,_,rfl,_,p,_,_,rfl,_,z,_,_,rfl,_,q,_,_,rfl,_,i,_,_,rfl,_,c,_,_,rfl,_,e,_,_,rfl,_,A,_,_,rfl,_,j,_,_,rfl,_,w,rfl⟩:=oO fU h;obtain ⟨u,rfl,s⟩:=wS underlying3 p;obtain ⟨id,rfl,E⟩:=qC underlying9 z;obtain ⟨D,rfl,t⟩:=qC underlying9 q;obtain ⟨g,rfl,d⟩:=qC underlying9 i;obtain ⟨x,y,rfl,l,F⟩:=XD c;obtain ⟨k,rfl,r⟩:=qC underlying9 e;obtain ⟨v,rfl,f⟩:=qC underlying9 A;obtain ⟨C,rfl,m⟩:=D3 j;obtain ⟨o,rfl,b⟩:=Qh w;exact⟨⟨u,id,D,g,x,y,k,v,C,o⟩,rfl,s,E,t,d,l,F,r,f,m,b⟩
theorem Nh(h:Sh Tryz.prog B (n+6) 23 ps):∃l,ps=[fX l]/\ln B l:=by obtain ⟨l,rfl,b,d⟩:=BQ cT h (fun r c=>Vg c);exact⟨l,rfl,b,d⟩
end
end
end Go.Proofs.YtmdicgjnmfolfaaGreatDoor
namespace Go.Abs
theorem cQ.get'{G0}{E E'}{H H'}(h:Hj E E')(a:∀j,H'.get j=H.get j):cQ G0 E H E' H':=(cQ.e0 h).trans (cQ.get (fun _=>rfl) a)
theorem yP(id)(o o')(H:aG)(j):aG.get ((id,o)::H) j=aG.get ((id,o)::(id,o')::H) j:=by cases e:Nat.beq id j<;>simp[aG.get,e]
theorem cQ.dup{G0}{E E'}{H:aG}{id}{o o'}(h:Hj E E'):cQ G0 E ((id,o)::(id,o')::H) E' ((id,o)::H):=cQ.get' h (yP _ o _ H)
theorem MX.app{D H G0}(b:∀p∈D,G0.get p.1=none):MX G0 H (D++H):=fun id a=>by
 rw[gJ];cases e:D.get _ with
 |none=>rfl
 |some o =>
  have:=b _ (dY e);rw[this]at a;cases a
theorem Fin.pops'{G0 H}{r}(D)(c:Clo H r)(e:eE H)(b:∀p∈D,H.get p.1=none)(d:∀p∈D,G0.get p.1=none):Fin G0 (D++H) r H r:=by intro G a I g w v i h f;subst a;exact⟨I,g,i.restrict (Sub.app b) e,h.restrict (Sub.app b) (MX.app d),f.restrict (Sub.app b) c⟩
end Go.Abs
namespace Go.Proofs.YtmdicgjnmfolfaaGreatDoor
open Go.Proofs.Tryz
open Go.Abs
theorem sN:∀(x y),Op.bytesLess x y=decide (x<y)
 | [],[]=>rfl
 |_::_,[]=>rfl
 | [],_::_=>rfl
 |a::x,b::y=>by
  rw[Op.bytesLess,sN x y];simp[List.cons_lt_cons_iff];all_goals grind
theorem M9(s):xW s s=false:=by
 unfold xW;rw[sN]
 simp_all
theorem M8{a b}(c:xW a b=false)(d:xW b a=false):a=b:=by
 unfold xW at c d;rw[sN]at c d;have e:=List.le_antisymm (List.not_lt.1 (aCc d)) (List.not_lt.1 (aCc c));have:=AP a b;rw[e]at this
 simpa using this.symm
theorem JX{a b c}(h1:xW a b=true)(h2:xW b c=true):xW a c=true:=by
 unfold xW at *;rw[sN]at *
 grind
theorem lx(s):xW s sNil=false:=by
 unfold xW;rw[sN]
 simp_all
theorem NA{a b}:Rs a b=false↔xW b a=true:=by
 unfold Rs;constructor
 ·intro h;simp[aDB,aCn]at h;cases e:xW b a with
  |true=>rfl
  |false=>exact absurd (M8 h.1 e) h.2
 intro h;simp[aDB,aCn];refine⟨?_,fun e=>?_⟩
 ·cases e:xW a b with
  |false=>rfl
  |true=>have:=JX e h;rw[M9]at this;cases this
 subst e;rw[M9]at h;cases h
theorem QA{s}(h:bS s=true):s≠sNil:=by
 simp[bS,aCo,aCy,aCn]at h
 grind
theorem MQ(h:AV)(l:List GEdit)(p:GEdit->Bool)(H:aG)(hl:l.length<4611686018427387904)(m:∀o,o∈l->dI Tryz.prog h [.agg ((aZ o).map .pv)] H (fun r H'=>r=.pv (.bool (p o))/\H'=H)):
    RC 240 [.pv (.sl (l.map aZ)),h] (.pv (.int .i64 (zD p l))) H:=by
  refine Bd func240 rfl ntmps240<|Sz aH<|Sq<|Sd aC<|Dd (eR cT)<|Zd aC<|aE ?_;refine bJ (σ:=Nat) (fun k=>([(0,.pv (.sl (l.map aZ))),(1,h),(7,.pv (.int .i64 (l.map aZ).length)),(8,.pv (.int .i64 (k:Int)))],H)) (fun k=>k<=l.length/\∀j,j<k->∀b,l[j]?=some b->p b=false) (fun k=>l.length - k) 0 ⟨by omega,by omega⟩ ?_ ?_
  · exact E0
  · rintro k ⟨hk,c⟩
    refine Sz cJ<|Sq ?_;refine Cn ?_ ?_<;>intro hc1
    · have g:k<l.length:=by simp_all
      obtain ⟨o,f⟩:=aT g;have hi:=cE (f:=aZ) f;have d:=m o (aCp f);refine aA<|Sq<|aE<|Sd aC<|Zd aH<|Sd aC<|Dd aC<|Dd aC<|Dd (jE OP)<|Dd (by exact dM rfl bW aR rfl (by omega) (rfl) rfl)<|Zd (by exact cW rfl rfl rfl (d)) ?_;refine Cn ?_ ?_<;>intro i
      · skip
        refine Sd aC<|Zd aH<|aB ?_;exact dA (H':=H) (.inr rfl) rfl (aJ rfl) Fin.refl ⟨by rw[zD,UK c f i],rfl⟩
      · skip
        refine aA<|Rd iF<|Zd aC ?_;refine⟨k+1,⟨by omega,fun j hj b hb=>?_⟩,by omega,E0⟩
        grind
    · have e:k=l.length:=by grind
      subst e;refine aS<|Sz aH<|aB ?_;exact dA (H':=H) (.inr rfl) rfl (aJ rfl) Fin.refl ⟨by rw[zD,UL c],rfl⟩
def aB2(id:ByteArray)(o:GObj):Bool:=decide (o.id=id)
def Bl(x y:Int):Bool:=decide (0<=min x y)&&decide (max x y<1048576)
theorem G3(b)(l:List _)(p)(H)(c:l.length<4611686018427387904)(d:∀o,o∈l->dI Tryz.prog b [.agg ((aZ o).map .pv)] H (fun r H'=>r=.pv (.bool (p o))/\H'=H)):
  RC 200 [.pv (.sl (l.map aZ)),b] (.pv (.bool (l.any p))) H:=by
 refine aW.body func200 rfl ntmps200 (aCs rfl) ?_;refine JB ?_;refine CM ?_;refine jt rfl rfl rfl (wY rfl rfl) ?_;refine js ?_;refine JB ?_;refine CM ?_;refine jt rfl rfl rfl (gH rfl rfl) ?_;refine jt rfl rfl rfl (gH rfl rfl) ?_;refine jt rfl rfl rfl (bL rfl rfl call240 rfl (MQ _ l p H c d)) ?_;refine jt rfl rfl rfl (jF rfl rfl rfl) ?_;refine jt rfl rfl rfl (wY rfl rfl) ?_;refine js ?_;refine aB ?_;exact dA (.inr rfl) rfl (aJ rfl) Fin.refl ⟨by rw[Dr],rfl⟩
def vD(a b:GTag):Bool:=decide (a.key=b.key)&&decide (a.val=b.val)
def pY:List GTag->List GTag->Bool
 | [],[]=>true
 |a::l,b::r=>vD a b&&pY l r
 |_,_=>false
theorem SY(a b):vD a b=true↔a=b:=by cases a;cases b;simp[vD]
theorem SU:∀(a b),a.length≠b.length->pY a b=false
 | [],[],h=>absurd rfl h
 | [],_::_,_=>rfl
 |_::_,[],_=>rfl
 |x::a,y::b,h=>by rw[pY,SU a b (by simp_all)];simp
theorem SV:∀(a b) (k:Nat) (x y),a[k]?=some x->b[k]?=some y->vD x y=false->pY a b=false
 | [],_,k,x,y,h,_,_=>by grind
 |_::_,[],k,x,y,_,h,_=>rfl
 |u::a,v::b,0,x,y,c,d,h=>by cases c;cases d;rw[pY,h];rfl
 |u::a,v::b,k+1,x,y,c,d,h=>by rw[pY,SV a b k x y c d h];simp
theorem OF:∀(a b),a.length=b.length->(∀k,k<a.length->∀x y,a[k]?=some x->b[k]?=some y->vD x y=true)->pY a b=true
 | [],[],_,_=>rfl
 | [],_::_,h,_=>by grind
 |_::_,[],h,_=>by grind
 |u::a,v::b,hl,h=>by
  rw[pY,h 0 (by simp) u v rfl rfl,OF a b (by simp_all) (fun k hk x y c d=>h (k+1) (by simp_all) x y c d)];rfl
theorem ba (a b:List GTag) (H:aG) (ha:a.length < 4611686018427387904) :
    RC 273 [lv (a.map bM),lv (b.map bM)] (bv (pY a b)) H:=by
  refine Pu ?_;refine Bd func273 rfl ntmps273<|Sz aH<|Sq<|Sd aC<|Dd (eR cY)<|Dd aC<|Dd (eR cY)<|Zd rI ?_;refine Cn ?_ ?_<;>intro hc1
  · have i:a.length≠b.length:=by grind
    refine Sz aH<|aB<|Rt ?_;exact⟨by rw[SU a b i],rfl⟩
  · have f:a.length=b.length:=by grind
    refine aA<|Sq<|Sd aC<|Dd (eR cY)<|Zd aC<|aE ?_;refine bJ (σ:=Nat) (fun k=>([(0,lv (a.map bM)),(1,lv (b.map bM)),(12,iv (a.map bM).length),(13,iv (k:Int))],[])) (fun k=>k<=a.length/\∀j,j<k->∀x y,a[j]?=some x->b[j]?=some y->vD x y=true) (fun k=>a.length - k) 0 ⟨by omega,by omega⟩ ?_ ?_
    · exact E0
    · rintro k ⟨hk,d⟩
      refine Sz cJ<|Sq ?_;refine Cn ?_ ?_<;>intro hc2
      · have g:k<a.length:=by simp_all
        obtain ⟨x,o⟩:=aT g;obtain ⟨y,m⟩:=aT (l:=b) (k:=k) (by omega);have hi:=cE (f:=bM) o;have hi2:=cE (f:=bM) m;refine aA<|Sq<|aE<|Sd aC<|Zd aH<|Sq<|aL follows<|Cq aC<|Cq aC<|Cq (jE jX)<|Cq (by exact dM rfl wD kW rfl (by omega) (by simp only[Zl,bM,bG,aZ];rfl) rfl)<|Cq aC<|Cq aC<|Cq (jE jX)<|Cq (by exact dM rfl wD kW rfl (by omega) (by simp only[Zl,bM,bG,aZ];rfl) rfl)<|Cq (by exact AJ rfl rfl rfl rfl rfl eqGuardType199 (Pq _ _ _ _))<|bF<|Kr ?_;refine Cn ?_ ?_<;>intro e
        · have n:vD x y=false:=by
            have h:(!vD x y)=true:=e
            simpa using h
          refine Sz aH<|aB<|Rt ?_;exact⟨by rw[SV a b k x y o m n],rfl⟩
        · have n:vD x y=true:=by
            have h:(!vD x y)=false:=e
            simpa using h
          refine aA<|Rd iF<|Zd aC ?_;refine⟨k+1,⟨by omega,fun j hj x' y' h1 h2=>?_⟩,by omega,E0⟩
          grind
      · have l:k=a.length:=by grind
        subst l;refine aS<|Sz aH<|aB<|Rt ?_;exact⟨by rw[OF a b f d],rfl⟩
def CV(n:Int)(s:ByteArray):Bool:=decide (n<(s.size:Int))
def Cd(n:Int)(t:GTag):Bool:=decide (n<IntKind.i64.wrap ((t.key.size:Int)+(t.val.size:Int)))
def Pv(o:GObj):Prop:=o.refs.length<4611686018427387904/\o.tags.length<4611686018427387904
def F5(o:GObj)(n:Int):Bool:=(CV 300 o.id||decide (n<(o.refs.length:Int))||decide (65<(o.tags.length:Int)))||o.refs.any (CV 300)||o.tags.any (Cd 600)
theorem Mv(o:GObj)(n:Int)(H:aG)(p:Pv o):
  RC 145 [av (bG o),iv n] (bv (!F5 o n)) H:=by
 refine Pu ?_;have t:(o.refs.map encStr).length=o.refs.length:=aCf _;have u:(o.tags.map bM).length=o.tags.length:=aCf _;have h1:=p.1;have h2:=p.2;refine Bd func145 rfl ntmps145<|Sd (kb 2)<|Zd aH<|Sq<|Sq ?_;refine aQ (t:=23) (n:=19) (X:=CV 300 o.id||decide (n<((o.refs.map encStr).length:Int))||decide (65<((o.tags.map bM).length:Int))) ?_ ?_
 ·all_goals refine Dd (aV oW) ?_
  all_goals refine Dd (bD isAgg9)<|Dd (gF underlying9)<|Dd gX<|Dm ?_<;>(refine Sp 11 (fun y=>?_) fun y=>?_)<;>(first|contradiction|refine Fo<|Fo<|Fo<|Fo<|Fo ?_|refine On (aV dQ)<|On (bD aF)<|On (eR aD)<|On aC<|On gX ?_)<;>refine Dd cD<|Dm ?_<;>(refine Sp 18 (fun x=>?_) fun x=>?_)<;>(first|contradiction|refine Fo<|Fo<|Fo<|Fo ?_|refine On (aV eT)<|On (bD cU)<|On (eR cY)<|On gX ?_)<;>refine Zd cD ?_<;>(exact⟨⟨_,rfl,by first|(simp only[CV, *];rfl)|(simp_all[CV];done)|(simp_all[CV];omega)⟩,rfl,rfl,rfl⟩)
 refine Cn ?_ ?_<;>intro e
 ·rw[t,u]at e;refine Sz aH<|aB<|Rt ?_;exact⟨by rw[F5,e];rfl,rfl⟩
 rw[t,u]at e;have f:F5 o n=(o.refs.any (CV 300)||o.tags.any (Cd 600)):=by rw[F5,e];rfl
 refine aA<|Sq<|Sz aH<|aE ?_;refine bJ (σ:=Nat) (fun q=>([(2,.ref 2 0 0 0),(5,iv (q:Int))],[(2,bx 6 151 ((bG o).map .pv))])) (fun q=>q<=o.refs.length/\∀j,j<q->∀b,o.refs[j]?=some b->CV 300 b=false) (fun q=>o.refs.length - q) 0 ⟨by omega,by omega⟩ ?_ ?_
 ·exact Wk
 rintro q ⟨B,m⟩;refine Sq<|Sd aC<|Dd (aV dQ)<|Dd (bD aF)<|Dd (eR aD)<|Zd cJ ?_;refine Cn ?_ ?_<;>intro hc2
 ·have d:q<o.refs.length:=by simp_all
  obtain ⟨s,h⟩:=aT d;have z:=cE (f:=encStr) h;refine aA<|Sq<|aE<|Sd (aV dQ)<|Dd (bD aF)<|Dd aC<|Dd (jE bT)<|Dd (fO isAgg9)<|Dd (gF underlying9)<|Zd gX ?_;refine Cn ?_ ?_<;>intro v
  ·have k:F5 o n=true:=by rw[f,JC h v];rfl
   refine Sz aH<|aB<|Rt ?_
   simp_all
  refine aA<|Rd aC<|Dd iF<|Da ?_;exact⟨q+1,⟨by omega,wV m h v⟩,by omega,Wk⟩
 have g:q=o.refs.length:=by
  grind
 subst g;rw[EA m,Bool.false_or]at f;refine aS<|Sq<|Sz aH<|aE ?_;refine bJ (σ:=Nat) (fun q=>([(2,.ref 2 0 0 0),(6,iv (q:Int))],[(2,bx 6 151 ((bG o).map .pv))])) (fun q=>q<=o.tags.length/\∀j,j<q->∀b,o.tags[j]?=some b->Cd 600 b=false) (fun q=>o.tags.length - q) 0 ⟨by omega,by omega⟩ ?_ ?_
 ·exact Wk
 rintro q ⟨B,i⟩;refine Sq<|Sd aC<|Dd (aV eT)<|Dd (bD cU)<|Dd (eR cY)<|Zd cJ ?_;refine Cn ?_ ?_<;>intro w
 ·have d:q<o.tags.length:=by simp_all
  obtain ⟨s,h⟩:=aT d;have z:=cE (f:=bM) h;refine aA<|Sq<|aE<|Sq<|aL follows<|Cq (aV eT)<|Cq (bD cU)<|Cq aC<|Cq (jE jX)<|Cq (C2 nW)<|Cq (fO isAgg9)<|Cq (gF underlying9)<|Cq (aV eT)<|Cq (bD cU)<|Cq aC<|Cq (jE jX)<|Cq (C2 oU)<|Cq (fO isAgg9)<|Cq (gF underlying9)<|Cq (ka rfl)<|Cq gX<|bF<|Kr ?_;refine Cn ?_ ?_<;>intro l
  ·have k:F5 o n=true:=by rw[f,JC h l]
   refine Sz aH<|aB<|Rt ?_
   simp_all
  refine aA<|Rd aC<|Dd iF<|Da ?_;exact⟨q+1,⟨by omega,wV i h l⟩,by omega,Wk⟩
 have g:q=o.tags.length:=by
  have:o.tags.length<=q:=by simpa using w
  omega
 subst g;have hgood:F5 o n=false:=by rw[f,EA i]
 refine aS<|Sz aH<|aB<|Rt ?_
 simp_all
end Go.Proofs.YtmdicgjnmfolfaaGreatDoor
