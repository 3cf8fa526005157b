/-
  Parts of the proof: rules of an abstract program logic, contracts of functions, plain laws. Conditions: each theorem's own.
-/
import Derived.Test.YtmdicgjnmfolfaaGreatDoorKR3M1
import Derived.Laws.BytesArg
import Derived.Test.YtmdicgjnmfolfaaGreatDoorRows
import Derived.OpenShut
import Derived.JoinedCond
import Derived.Carry
set_option linter.unusedVariables false
set_option linter.unusedSimpArgs false
set_option maxRecDepth 100000
set_option maxHeartbeats 8000000
namespace Go.Abs
variable{w:World}{I:Nat->Prop}{ι:kJ}{H H' G0:aH}{c:Array Value}{d l g off sz n id i k len m bytes N h:Nat}{E E':dB}{a:Act}{z v:Value}{v0:AV}{t e:TypeId}{aps:List (Nat×AV)}{rows:List (List AV)}{ps:List (List PV)}{α β γ:Type}{ob:Ob}{ops:List Oper}
section
def yO(w:World)(I:Nat->Prop)(ι:kJ)(H:aH)(c:Array Value)(l:List AV):Prop :=c.size=l.length/\∀(j:Nat) (a:AV),l[j]?=some a->∃u,c[j]?=some u/\u.oneCell'=true/\VRel w I ι H u a
theorem M6(off):∀(l:List Value) (k:Nat) (cs:Array Value),
  ((l.zipIdx k).foldl (fun cs p=>cs.setIfInBounds (off+p.2) p.1) cs).size=cs.size /\
  ∀i,((l.zipIdx k).foldl (fun cs p=>cs.setIfInBounds (off+p.2) p.1) cs)[i]?=if off+k<=i/\i<off+k+l.length/\i<cs.size then l[i - (off+k)]? else cs[i]?
 | [],k,cs=>⟨by simp,fun i=>by rw[List.zipIdx_nil,List.foldl_nil,aPS (by grind)]⟩
 |v::l,k,cs=>by
  obtain ⟨h1,h2⟩:=M6 off l (k+1) (cs.setIfInBounds (off+k) v);simp only[List.zipIdx_cons,List.foldl_cons]
  grind
def NP(l:List AV)(off:Nat)(vs:List AV):List AV:=l.take off++(vs++l.drop (off+vs.length))
theorem yO.fill{d:Array Value}{l g:List AV}(h:yO w I ι H c l)(hd:yO w I ι H d g)(hfit:off+g.length<=l.length):
  yO w I ι H (d.zipIdx.foldl (fun cs (x,j)=>cs.setIfInBounds (off+j) x) c) (NP l off g):=by
 have n:=M6 off d.toList 0 c;have e:d.zipIdx.foldl (fun cs (x,j)=>cs.setIfInBounds (off+j) x) c=(d.toList.zipIdx 0).foldl (fun cs p=>cs.setIfInBounds (off+p.2) p.1) c:=by
  rw[<-Array.foldl_toList,Array.toList_zipIdx]
 rw[e];obtain ⟨o,r⟩:=n;refine⟨by rw[o,h.1];simp[NP];omega,fun j a f=>?_⟩;rw[r j];simp only[Nat.add_zero,Array.length_toList,hd.1];unfold NP at f;by_cases q:j<off
 ·rw[aPS (by omega)];rw[List.getElem?_append_left (by grind),List.getElem?_take,aPT q]at f;exact h.2 j a f
 by_cases c2:j<off+g.length
 ·rw[aPT (by have:=h.1;omega)];have b:min off l.length=off:=by omega
  rw[List.getElem?_append_right (by simp;omega),List.getElem?_append_left (by simp;omega)]at f;simp only[aP8,b]at f;obtain ⟨u,k,i,m⟩:=hd.2 (j - off) a f;exact⟨u,by simpa using k,i,m⟩
 rw[aPS (by omega)];have b:min off l.length=off:=by omega
 rw[List.getElem?_append_right (by simp;omega),List.getElem?_append_right (by simp;omega),List.getElem?_drop]at f;simp only[aP8,b]at f;rw[show off+g.length+(j - off - g.length)=j by omega]at f;exact h.2 j a f
theorem yO.of_cells{w}{I}{ι}{H}{v}{a}{l}(d:VRel w I ι H v a)(h:TO a=some l):yO w I ι H v.cells l :=let ⟨b,_,c⟩:=ID d h;⟨b,c⟩
def oG(E:dB):List (Nat×Operand)->Option (List (Nat×AV))
 | []=>some []
 |(i,x)::r=>match aP E x,oG E r with
  |some v,some vs=>some ((i,v)::vs)
  |_,_=>none
def AN(place:Nat->Option (Nat×Nat))(l:List AV):List (Nat×AV)->Option (List AV)
 | []=>some l
 |(i,a)::r=>match place i,TO a with
  |some (off,size),some vs=>if vs.length=size/\off+size<=l.length then AN place (NP l off vs) r else none
  |_,_=>none
theorem yO.fills{I}(z:jB w I ι H E a)(place):∀ {ps} {aps} {c} {l k:List AV},
  oG E ps=some aps->yO w I ι H c l->AN place l aps=some k->∃c',Instr.fill place c (ps.map fun p=>(p.1,a.eval p.2))=some c'/\yO w I ι H c' k:=by
 intro ps
 induction ps with
 |nil =>
  intro aps c l k e j b;simp[oG]at e;subst e;simp[AN]at b;subst b;exact⟨c,rfl,j⟩
 | cons p r q =>
  obtain ⟨i,x⟩:=p;intro aps c l k e j b;unfold oG at e
  split at e
  ·rename_i v vs s t;cases e;unfold AN at b
   split at b
   ·rename_i m f us u o
    split at b
    ·have h:=yO.of_cells (aJ z s) o;have hsz:(a.eval x).cells.size=f:=by rw[h.1];omega
     have hcl:=j.1;have g:=yO.fill (off:=m) j h (by omega);obtain ⟨c',y,n⟩:=q t g b;refine⟨c',?_,n⟩;simp only[List.map_cons,Instr.fill,u];rw[aPS (by simp_all)];exact y
    grind
   grind
  grind
section
variable{P:Program}{o:Oper}{T:TypeId}{x y:Operand}
theorem HG{c}{fs}{places}{l0 l:List AV}{aps}(A:o.op=.build T c)(hS:P.underlying T=some (.struct fs))
  (B:∀w,(zeroValue T).run P w=.ok z w) (C:ZV z v0) (m:TO v0=some l0) (q:∀w,((fs.mapM fun f=>do pure (f.offset,<-sizeOf f.type)):Sem _).run P w=.ok places w)
  (t:oG E c.toList=some aps) (G:AN (places[·]?) l0 aps=some l):cS P N o E H (.agg l) H :=
 .of_run fun a w I D _ J=>by
  have h:=yO.of_cells (ZV.rel (w:=w) (I:=I) (ι:=D) (H:=H) C) m;obtain ⟨s,h1,g⟩:=yO.fills J _ t h G;refine⟨.agg s,?_,.agg g.1 (fun j u r=>?_) (fun j u b r L=>?_)⟩
  ·have i:Instr.fill (places[·]?) z.cells (c.map fun p=>(p.1,a.eval p.2)).toList=some s:=by simp_all
   simp only[execOp,A,Instr.build,Sem.run_bind,B,run_underlying hS,q,Result.andThen_ok,i,Sem.run_pure]
  ·have k:j<l.length:=by rw[<-g.1];grind
   obtain ⟨v,e,K,_⟩:=g.2 j _ (aPZ k);rw[r]at e;cases e;exact K
  obtain ⟨v,e,_,F⟩:=g.2 j b L;rw[r]at e;cases e;exact F
theorem OK{c}{n sz}{e}{z}{l0 l}{aps}(C:o.op=.build T c)(hS:P.underlying T=some (.array n e))
  (D:∀w,(zeroValue T).run P w=.ok z w) (F:ZV z v0) (m:TO v0=some l0) (G:∀w,(sizeOf e).run P w=.ok sz w)
  (v:oG E c.toList=some aps) (K:AN (fun i=>some (i*sz,sz)) l0 aps=some l):cS P N o E H (.agg l) H :=
 .of_run fun a w I M _ L=>by
  have h:=yO.of_cells (ZV.rel (w:=w) (I:=I) (ι:=M) (H:=H) F) m;obtain ⟨t,h1,g⟩:=yO.fills L _ v h K;refine⟨.agg t,?_,.agg g.1 (fun j u s=>?_) (fun j u b s A=>?_)⟩
  ·have r:Instr.fill (fun i=>some (i*sz,sz)) z.cells (c.map fun p=>(p.1,a.eval p.2)).toList=some t:=by simp_all
   simp only[execOp,C,Instr.build,Sem.run_bind,D,run_underlying hS,G,Result.andThen_ok,r,Sem.run_pure]
  ·have k:j<l.length:=by rw[<-g.1];grind
   obtain ⟨B,f,O,_⟩:=g.2 j _ (aPZ k);rw[s]at f;cases f;exact O
  obtain ⟨B,f,_,J⟩:=g.2 j b A;rw[s]at f;cases f;exact J
def JK:Nat->List (Nat×AV)->Option (List (List AV))
 |_,[]=>some []
 |k,(i,a)::r=>match Nat.beq i k,TO a,JK (k+1) r with
  |true,some l,some ls=>some (l::ls)
  |_,_,_=>none
theorem QO(he:jB w I ι H E a)(sz:Nat):∀ {ps:List (Nat×Operand)} {aps:List (Nat×AV)} {rows:List (List AV)} {k:Nat} {c:Array Value},
  oG E ps=some aps->JK k aps=some rows->(∀r∈rows,r.length=sz)->(k+rows.length)*sz<=c.size ->
  ∃c',Instr.fill (fun i=>some (i*sz,sz)) c (ps.map fun p=>(p.1,a.eval p.2))=some c'/\c'.size=c.size/\(∀i,i<k*sz->c'[i]?=c[i]?) /\
   ∀(m:Nat) (r:List AV),rows[m]?=some r->∀(j:Nat) (b:AV),r[j]?=some b->∃u,c'[(k+m)*sz+j]?=some u/\u.oneCell'=true/\VRel w I ι H u b:=by
 intro ps
 induction ps with
 |nil =>
  intro aps rows k c s n O R;simp[oG]at s;subst s;simp[JK]at n;subst n;exact⟨c,rfl,rfl,fun _ _=>rfl,by simp⟩
 | cons p r V =>
  obtain ⟨i,x⟩:=p;intro aps rows k c s n O R;unfold oG at s
  split at s
  ·rename_i v vs U e2;cases s;unfold JK at n
   split at n
   ·rename_i l C e3 e4 W;cases n;have K:i=k:=Nat.eq_of_beq_eq_true e3;subst K;have A:l.length=sz:=O l (by simp);have z:=yO.of_cells (aJ he U) e4;have B:(i+(C.length+1))*sz<=c.size:=by simpa using R
    have hfit:i*sz+sz<=c.size:=by
     have:(i+1)*sz<=(i+(C.length+1))*sz:=Nat.mul_le_mul_right _ (by omega);rw[Nat.add_mul]at this;omega
    obtain ⟨Q,F⟩:=M6 (i*sz) (a.eval x).cells.toList 0 c;have e:(a.eval x).cells.zipIdx.foldl (fun L (x,j)=>L.setIfInBounds (i*sz+j) x) c=((a.eval x).cells.toList.zipIdx 0).foldl (fun L p=>L.setIfInBounds (i*sz+p.2) p.1) c:=by
     rw[<-Array.foldl_toList,Array.toList_zipIdx]
    rw[<-e]at Q F;have hsz:(a.eval x).cells.size=sz:=by rw[z.1,A]
    obtain ⟨c',X,Z,S,Y⟩:=V (k:=i+1) e2 W (fun r h=>O r (by simp[h])) (by rw[Q];rw[show i+1+C.length=i+(C.length+1)by omega];exact B);refine⟨c',?_,Z.trans Q,fun q hq=>?_,fun m r h j b J=>?_⟩
    ·have t:¬ ((a.eval x).cells.size≠sz\/i*sz+(a.eval x).cells.size > c.size):=by omega
     simp only[List.map_cons,Instr.fill];rw[aPS (by simpa using t)];exact X
    ·have g:q<(i+1)*sz:=by rw[Nat.add_mul];omega
     rw[S q g,F q,aPS (by omega)]
    cases m with
    |zero =>
     simp at h;subst h;obtain ⟨u,D,G,M⟩:=z.2 j b J;have hj:j<sz:=by rw[<-A];exact(aPY.1 J).1
     refine⟨u,?_,G,M⟩;have g:(i+0)*sz+j<(i+1)*sz:=by rw[Nat.add_zero,Nat.add_mul i 1,Nat.one_mul];omega
     rw[S _ g,F,aPT (by simp;omega)]
     simpa using D
    |succ m =>
     simp at h;obtain ⟨u,D,G,M⟩:=Y m r h j b J;exact⟨u,by rw[show i+(m+1)=i+1+m by omega];exact D,G,M⟩
   grind
  grind
theorem Rel.newImm{w':World}(g:Rel I ι H w)(l:w'.os=w.os)(e:w'.tape=w.tape)(i:w'.output=w.output)(hw:w'.heap=w.heap.push (.cells c t (0,0))):
  Rel (fun b=>I b\/b=w.heap.size) ι H w'/\Step I ι H w (fun b=>I b\/b=w.heap.size) ι H w':=by
 have d:∀x,x<w.heap.size->w'.heap[x]?=w.heap[x]?:=fun x k=>by grind
 have hsize:w'.heap.size=w.heap.size+1:=by simp_all
 have f:Step I ι H w (fun b=>I b\/b=w.heap.size) ι H w':=by
  refine⟨l,e,i,by omega,fun a p _=>?_,fun _ h=>.inl h,fun b h=>?_,fun _ h=>.inl h,fun x k _=>d x k,fun _ o h=>⟨o,h,aP0 _,fun _=>⟨rfl,rfl,fun _=>aP0 _⟩⟩⟩
  ·simp[World.frozen?,d a.block p]
  grind
 refine⟨⟨fun x k=>?_,fun j o s=>?_,g.inj,f.glob g⟩,f⟩
 ·rcases k with h|h
  ·have:=g.imm x h;omega
  omega
 refine(g.obj j o s).keep rfl (fun n cap' e1 m=>⟨d n m,fun e3 h=>?_⟩) (fun r _ a _ v q=>q.mono g f)
 simp_all
theorem P9(n)(a:Array Value):((Array.range n).map (a[· % a.size]!)).size=n:=by simp
theorem LZ{c:Array (Nat×Operand)}(ho:o.op=.buildSlice T n c)(hT:P.underlying T=some (.slice e))(W:∀w,(sizeOf e).run P w=.ok sz w)
  (hz:∀w,(zeroValue e).run P w=.ok z w) (hn:n*sz<=16777216) (M:0<sz) (hp:oG E c.toList=some aps) (Z:JK 0 aps=some rows) (F:ps.map (·.map AV.pv)=rows) (s:ps.length=n) (L:∀r∈ps,r.length=sz):cS P N o E H (.pv (.sl ps)) H:=by
 intro a w I ι _ _ f he K Q t;subst F;have hf:=fun zc:Array Value=>QO (c:=(Array.range (n*sz)).map (zc[· % zc.size]!)) he sz hp Z (fun r Z=>by
  grind) (by simp_all)
 obtain ⟨V,k1,k2,_,k4⟩:=hf z.cells;have C:V.size=n*sz:=by simp_all
 have A:¬ (n*sz > 2 ^ 24):=by omega
 have B:∃l,(Instr.buildSlice T n (c.map fun p=>(p.1,a.eval p.2))).run P w=.ok (.slice (some ⟨w.heap.size,0,none⟩) n n) (w.alloc (.cells l e))/\l.size=n*sz /\
   ∀(m:Nat) (r:List AV),(ps.map (·.map AV.pv))[m]?=some r->∀(j:Nat) (b:AV),r[j]?=some b->∃u,l[m*sz+j]?=some u/\u.oneCell'=true/\VRel w I ι H u b:=by
  by_cases S:n*sz=0
  ·obtain ⟨c0,h,O,_,q4⟩:=hf #[];refine⟨c0,?_,by rw[O,P9],fun m r R j b J=>by have:=q4 m r R j b J;simpa using this⟩;rw[<-Array.toList_map]at h;simp only[S]at h;simp only[Instr.buildSlice,Sem.run_bind,run_underlying hT,Result.andThen_ok,W,Sem.run_ite,A,if_false,S,if_true,Sem.run_pure,h,newRow,run_newObj];rfl
  refine⟨V,?_,C,fun m r R j b J=>by have:=k4 m r R j b J;simpa using this⟩;rw[<-Array.toList_map]at k1;simp only[Instr.buildSlice,Sem.run_bind,run_underlying hT,Result.andThen_ok,W,Sem.run_ite,A,if_false,S,hz,Sem.run_pure,k1,newRow,run_newObj];rfl
 obtain ⟨g,g1,g2,U⟩:=B;obtain ⟨m1,Y⟩:=Rel.newImm (c:=g) (t:=e) (w':=w.alloc (.cells g e)) f rfl rfl rfl rfl;unfold Oper.wpW execOp;simp only[ho,Sem.run_bind,g1,Result.andThen_ok,Sem.run_pure];refine t _ _ _ ι _ _ ⟨rfl,rfl⟩ (.pv ?_) m1 Y;have q:∀j,(w.alloc (.cells g e)).cell? ⟨w.heap.size,j,none⟩=g[j]?:=fun j=>World.cell?_alloc_new w g e j;have:=PRep.sl (w:=w.alloc (.cells g e)) (I:=fun b=>I b\/b=w.heap.size) w.heap.size 0 n sz ps (fun i k=>(g[i*sz+k]?).getD undef) (.inr rfl) M L (by omega)
  (fun i r G k p t=>by
   obtain ⟨u,h,O,X⟩:=U i (r.map .pv) (by simp[G]) k (.pv p) (by simp[t]);rw[q,aPc,h];rfl)
  (fun i r G k p t=>by
   obtain ⟨u,h,O,X⟩:=U i (r.map .pv) (by simp[G]) k (.pv p) (by simp[t]);rw[h];exact(X.mono f Y).pv_inv)
 rw[s]at this;exact this
theorem D5{c:Array (Nat×Operand)}(v:o.op=.buildSlice T n c)(J:P.underlying T=some (.slice e))(M:∀w,(sizeOf e).run P w=.ok sz w)
  (hz:∀w,(zeroValue e).run P w=.ok z w) (hn:n*sz<=16777216) (g:0<sz) (Y:oG E c.toList=some aps) (V:JK 0 aps=some rows) (f:rows.length=n) (s:∀r∈rows,r.length=sz) (B:H.get id=none) :
  cS P N o E H (.osl id 0 0 n) ((id,⟨0,sz,e,rows⟩)::H):=by
 intro a w I X _ _ k he K Q hk;have G:=fun R:Array Value=>QO (c:=(Array.range (n*sz)).map (R[· % R.size]!)) he sz Y V s (by simp_all);have q:¬ (n*sz > 2 ^ 24):=by omega
 have i:∃h,(Instr.buildSlice T n (c.map fun p=>(p.1,a.eval p.2))).run P w=.ok (.slice (some ⟨w.heap.size,0,none⟩) n n) (w.alloc (.cells h e))/\h.size=n*sz /\
   ∀(m:Nat) (r:List AV),rows[m]?=some r->∀(j:Nat) (b:AV),r[j]?=some b->∃u,h[m*sz+j]?=some u/\u.oneCell'=true/\VRel w I X H u b:=by
  by_cases D:n*sz=0
  ·obtain ⟨c0,A,q2,_,q4⟩:=G #[];refine⟨c0,?_,by simp_all,fun m r F j b C=>by have:=q4 m r F j b C;simpa using this⟩;rw[<-Array.toList_map]at A;simp only[D]at A;simp only[Instr.buildSlice,Sem.run_bind,run_underlying J,Result.andThen_ok,M,Sem.run_ite,q,if_false,D,if_true,Sem.run_pure,A,newRow,run_newObj];rfl
  obtain ⟨c',L,Z,_,U⟩:=G z.cells;refine⟨c',?_,by rw[Z,P9],fun m r F j b C=>by have:=U m r F j b C;simpa using this⟩;rw[<-Array.toList_map]at L;simp only[Instr.buildSlice,Sem.run_bind,run_underlying J,Result.andThen_ok,M,Sem.run_ite,q,if_false,D,hz,Sem.run_pure,L,newRow,run_newObj];rfl
 obtain ⟨O,S,g2,g3⟩:=i;have t:n<=maxLen:=by
  have:n<=n*sz:=Nat.le_mul_of_pos_right _ g;simp only[maxLen];omega
 obtain ⟨W,m2⟩:=Rel.place (H':=(id,⟨0,sz,e,rows⟩)::H) (id:=id) (cap:=n) (ob':=⟨0,sz,e,rows⟩) (cs':=O) (w':=w.alloc (.cells O e)) k rfl rfl rfl rfl (fun o v=>by rw[B]at v;cases v) g g2 (by simp[f]) t s g3
  (get_cons_same _ _ _) (fun j hj=>get_cons_other _ _ hj)
 unfold Oper.wpW execOp;simp only[v,Sem.run_bind,S,Result.andThen_ok,Sem.run_pure];exact hk _ _ I _ _ _ ⟨rfl,rfl⟩ (.osl ⟨0,sz,e,rows⟩ (get_cons_same _ _ _) (aP0 _) rfl fun _=>⟨g,by simp[f],.inl ⟨w.heap.size,n,0,by simp,by simp,fun _=>by simp⟩⟩) W m2
end
end
section
def XE(P:Program)(e:TypeId)(sz bytes:Nat):Prop:=∃i z,P.info? e=some i/\i.zero=some z/\i.size=sz/\i.bytes=bytes/\z.cells.size=sz/\0<sz
theorem zH{f}{m j}{u:α}(h:((List.range m).map f)[j]?=some u):j<m/\u=f j:=by grind
theorem PM(f:Nat->α){m j}(hj:j<m):((List.range m).map f)[j]?=some (f j):=by simp_all
def qX(w:World)(I:Nat->Prop)(ι:kJ)(H:aH)(sz:Nat)(l:List Value)(rows:List (List AV)):Prop :=∀(i:Nat) (r:List AV),rows[i]?=some r->∀(k:Nat) (a:AV),r[k]?=some a->∃u,l[i*sz+k]?=some u/\u.oneCell'=true/\VRel w I ι H u a
theorem qX.app{l1 l2 l3:List Value}{b d:List (List AV)}(m:qX w I ι H sz l1 b)(hl1:l1.length=b.length*sz)(n:qX w I ι H sz l2 d):
  qX w I ι H sz (l1++(l2++l3)) (b++d):=by
 intro i r e k a l;by_cases c:i<b.length
 ·rw[List.getElem?_append_left c]at e;obtain ⟨u,f,h,g⟩:=m i r e k a l;have j:=(aPY.1 f).1;exact⟨u,by grind,h,g⟩
 rw[List.getElem?_append_right (by omega)]at e;obtain ⟨u,f,h,g⟩:=n _ r e k a l;have j:=(aPY.1 f).1;have hm:(i - b.length)*sz+b.length*sz=i*sz:=by rw[<-Nat.add_mul];congr 1;omega
 refine⟨u,?_,h,g⟩
 grind
def Src(w:World)(I:Nat->Prop)(ι:kJ)(H:aH)(sz:Nat)(v:Value)(rows:List (List AV)):Prop :=(∃a c news,v=.slice (some a) rows.length c/\news.length=rows.length*sz/\(∀j u,news[j]?=some u->w.cell? (a.add j)=some u)/\(∀u∈news,u.oneCell'=true)/\qX w I ι H sz news rows) \/
 (v=.slice none 0 0/\rows=[])
theorem aFZ{j:Nat}(h:j<n*sz):j / sz<n:=(Nat.div_lt_iff_lt_mul (by
 grind)).2 h
theorem S2(h:k<sz):(i*sz+k) / sz=i:=by rw[Nat.add_comm,Nat.add_mul_div_right _ _ (by omega),Nat.div_eq_of_lt h];omega
theorem CZ(h:k<sz):(i*sz+k) % sz=k:=by rw[Nat.add_comm,Nat.add_mul_mod_self_right,Nat.mod_eq_of_lt h]
theorem aD2(h:VRel w I ι H v (.pv (.sl ps)))(hsz:0<sz)(hl:∀r∈ps,r.length=sz):Src w I ι H sz v (ps.map (·.map .pv)):=by
 have L:=h.pv_inv;cases L with
 |nilsl=>exact .inr ⟨rfl,rfl⟩
 |empsl a=>exact .inl ⟨a,0,[],rfl,by simp,by simp,by simp,by intro i r o;grind⟩
 | sl b l B c _ N hI z n hcap M s =>
  by_cases A:ps=[]
  ·subst A;exact .inl ⟨⟨b,l,none⟩,B,[],rfl,by simp,by simp,by simp,by intro i r o;grind⟩
  have P:c=sz:=by
   obtain ⟨r,rs,e⟩:=List.exists_cons_of_ne_nil A
   simp_all
  subst P
  let f:Nat->Value:=fun j=>N (j / c) (j % c)
  have m:∀j,j<ps.length*c->∃r p,ps[j / c]?=some r/\r[j % c]?=some p:=by
   intro j y;have t:=aFZ y;have O:ps[j / c]∈ps:=List.getElem_mem t;have C:j % c<ps[j / c].length:=by rw[n _ O];exact Nat.mod_lt _ z
   exact⟨_,_,aPZ t,aPZ C⟩
  refine .inl ⟨⟨b,l,none⟩,B,(List.range (ps.length*c)).map f,by simp,by simp,?_,?_,?_⟩
  ·intro j u K;obtain ⟨y,rfl⟩:=zH K;obtain ⟨r,p,t,C⟩:=m j y;rw[Addr.add_lit];have:=M _ r t _ p C;rw[show l+j / c*c+j % c=l+j by have:=Nat.div_add_mod' j c;omega]at this;exact this
  ·intro u K;obtain ⟨j,F⟩:=aPf.1 K;obtain ⟨y,rfl⟩:=zH F;obtain ⟨r,p,t,C⟩:=m j y;exact(s _ r t _ p C).oneCell
  intro i r o k a x;rw[aPe]at o;cases e:ps[i]? with
  |none=>rw[e]at o;cases o
  | some q =>
   rw[e]at o;cases o;rw[aPe]at x;cases D:q[k]? with
   |none=>rw[D]at x;cases x
   | some p =>
    rw[D]at x;cases x;have J:i<ps.length:=(aPY.1 e).1;have g:k<c:=by rw[<-n q (aP4 e)];exact(aPY.1 D).1
    have E:i*c+k<ps.length*c:=by
     have:(i+1)*c<=ps.length*c:=Nat.mul_le_mul_right _ J;rw[Nat.add_mul]at this;omega
    refine⟨f (i*c+k),PM f E,?_,?_⟩
    ·simp only[f,S2 g,CZ g];exact(s i q e k p D).oneCell
    simp only[f,S2 g,CZ g];exact .pv (s i q e k p D)
theorem aAP(X:Rel I ι H w)(h:VRel w I ι H v (.osl id g off len))(J:H.get id=some ob)(O:ob.g=g)(A:ob.sz=sz):
  Src w I ι H sz v ((ob.rows.drop off).take len):=by
 obtain ⟨hle,⟨b,x,W,G,K,F⟩|⟨G,K,F,U⟩⟩:=iY h J O
 ·obtain ⟨Y,L,⟨b',cap',y,q,R,e3,e4,e5,e5',Q⟩|⟨q,_⟩⟩:=(X.obj id ob J).cells (oA h J O)
  ·rw[G]at q;cases q;subst A;have l:((ob.rows.drop off).take len).length=len:=by grind
   have hget:∀j,j<len*ob.sz->∃u,y[off*ob.sz+j]?=some u/\u.oneCell'=true/\∀a r,ob.rows[off+j / ob.sz]?=some r->r[j % ob.sz]?=some a->VRel w I ι H u a:=by
    intro j m;have h1':=aFZ m;have c:off+j / ob.sz<ob.rows.length:=by omega
    have V:=List.getElem_mem c;have s:j % ob.sz<ob.rows[off+j / ob.sz].length:=by rw[L _ V];exact Nat.mod_lt _ Y
    obtain ⟨u,N,T,S⟩:=Q _ _ (aPZ c) _ _ (aPZ s);refine⟨u,?_,T,fun a r o M=>?_⟩
    ·rw[Nat.add_mul,show off*ob.sz+j / ob.sz*ob.sz+j % ob.sz=off*ob.sz+j by have:=Nat.div_add_mod' j ob.sz;omega]at N;exact N
    rw[aPZ c]at o;cases o;rw[aPZ s]at M;cases M;exact S
   let f:Nat->Value:=fun j=>(y[off*ob.sz+j]?).getD undef
   have z:∀j (m:j<len*ob.sz),y[off*ob.sz+j]?=some (f j)/\(f j).oneCell'=true/\∀a r,ob.rows[off+j / ob.sz]?=some r->r[j % ob.sz]?=some a->VRel w I ι H (f j) a:=by
    grind
   by_cases B:len=0
   ·subst B;have:(ob.rows.drop off).take 0=[]:=by simp
    rw[this];exact .inl ⟨⟨b,W,none⟩,x - off,[],by simp_all,by simp,by simp,by simp,by intro i r n;grind⟩
   have C:=F (by omega);subst C;refine .inl ⟨⟨b,off*ob.sz,none⟩,x - off,(List.range (len*ob.sz)).map f,by rw[K,l],by simp[l],?_,?_,?_⟩
   ·intro j u E;obtain ⟨m,rfl⟩:=zH E;rw[Addr.add_lit,cell_of_row w b _ y ob.ty (0,0) R];exact(z j m).1
   ·intro u E;obtain ⟨j,D⟩:=aPf.1 E;obtain ⟨m,rfl⟩:=zH D;exact(z j m).2.1
   intro i r n k a P;have p:i<len:=by rw[<-l];exact(aPY.1 n).1
   rw[List.getElem?_take,aPT p,List.getElem?_drop]at n;have t:k<ob.sz:=by rw[<-L r (aP4 n)];exact(aPY.1 P).1
   have c:i*ob.sz+k<len*ob.sz:=by
    have:(i+1)*ob.sz<=len*ob.sz:=Nat.mul_le_mul_right _ p;rw[Nat.add_mul]at this;omega
   refine⟨f (i*ob.sz+k),PM f c,(z _ c).2.1,(z _ c).2.2 a r ?_ ?_⟩
   ·rw[S2 t];exact n
   rw[CZ t];exact P
  rw[G]at q;cases q
 subst F U;exact .inr ⟨K,by simp⟩
section
variable{P:Program}{o:Oper}{T:TypeId}{x y:Operand}
theorem vY{ty:TypeId}{i}(a:P.underlying t=some (.slice e))(hi:P.info? e=some i)(b)(n c:Nat)(d:n<=c):
  (Builtin.append_ #[t,t] ty #[.slice b n c,.slice none 0 0]).run P w=.ok (.slice b n c) w:=by
 cases b<;>simp[Builtin.append_,run_underlying a,sizeOf,typeInfo,hi,Builtin.lenOf,d,Builtin.firstCells,storeCells]
theorem YV{d:List (List AV)}{H2:aH}(ho:o.op=.call {callee:=.builtin .append,args:=#[x,y],argTypes:=#[T,T]})(hT:P.underlying T=some (.slice e))(hinf:XE P e sz bytes)
  (hx:aP E x=some (.osl id g 0 n)) (X:H.get id=some ob) (hg:ob.g=g) (hosz:ob.sz=sz) (hty:ob.ty=e) (hn:ob.rows.length=n)
  (hsrc:∀(a:Act) (w:World) (I:Nat->Prop) (ι:kJ),Rel I ι H w->jB w I ι H E a->Src w I ι H sz (a.eval y) d) (hrl2:∀r∈d,r.length=sz) (hm:d.length=m) (t:(n+m)*bytes<=140737488355328) (hmax:n+m<=9223372036854775807)
  (hH2:H.set id ⟨g+1,sz,e,ob.rows++d⟩=H2):cS P N o E H (.osl id (g+1) 0 (n+m)) H2:=by
 intro a w I ι _ _ hr he K Q hk;obtain ⟨i,z,hi,hz,l,hby,hzs,hsz0⟩:=hinf;subst hg hosz hty hn hm hH2;have Y:ob.rows.length+d.length<=maxLen:=by simp only[maxLen];omega
 have W:(H.set id ⟨ob.g+1,ob.sz,ob.ty,ob.rows++d⟩).get id=some ⟨ob.g+1,ob.sz,ob.ty,ob.rows++d⟩:=aH.get_set_same _ _ _;have h2:∀j,j≠id->(H.set id ⟨ob.g+1,ob.sz,ob.ty,ob.rows++d⟩).get j=H.get j:=fun j hj=>aH.get_set_other _ _ hj;have p:0<ob.sz:=oA (aJ he hx) X rfl;have p2:=((hr.obj id ob X).cells p).2.1;have hrl:∀r∈ob.rows++d,r.length=ob.sz:=fun r hr'=>by
  grind
 have U:∀(v':Value) (w':World) (M:kJ),(Builtin.append_ #[T,T] o.type #[a.eval x,a.eval y]).run P w=.ok v' w'->VRel w' I M (H.set id ⟨ob.g+1,ob.sz,ob.ty,ob.rows++d⟩) v' (.osl id (ob.g+1) 0 (ob.rows.length+d.length)) ->
   Rel I M (H.set id ⟨ob.g+1,ob.sz,ob.ty,ob.rows++d⟩) w'->Step I ι H w I M (H.set id ⟨ob.g+1,ob.sz,ob.ty,ob.rows++d⟩) w'->o.wpW P a w K Q:=by
  intro v' w' M h k1 O R;unfold Oper.wpW execOp;simp only[ho,resolve,invoke,builtin,Sem.run_bind,Sem.run_pure,Result.andThen_ok,List.map_toArray,List.map_cons,List.map_nil,h];exact hk v' w' I M _ _ ⟨rfl,rfl⟩ k1 O R
 have hs:=hsrc a w I ι hr he;have hvx:=aJ he hx;obtain ⟨_,hcase⟩:=iY hvx X rfl;rcases hcase with⟨b,q,oo,c1,c2,c3⟩|⟨c1,c2,_,c4⟩
 ·obtain ⟨p1,_,⟨b',cap',J,e1,e2,e3,e4,e5,e5',e6⟩|⟨e1,_⟩⟩:=(hr.obj id ob X).cells p
  ·rw [c1] at e1;cases e1;have hoo:oo=0:=by omega
   subst hoo;rw[Nat.sub_zero]at c2;have olds:qX w I ι H ob.sz (J.toList.take (ob.rows.length*ob.sz)) ob.rows:=by
    intro V r s k a' D;obtain ⟨u,q1,q2,q3⟩:=e6 V r s k a' D;have hk2:k<ob.sz:=by grind
    have hi2:V<ob.rows.length:=(aPY.1 s).1;have hlt:V*ob.sz+k<ob.rows.length*ob.sz:=by
     have:(V+1)*ob.sz<=ob.rows.length*ob.sz:=Nat.mul_le_mul_right _ hi2;rw[Nat.add_mul]at this;omega
    exact⟨u,by grind,q2,q3⟩
   have hle:ob.rows.length*ob.sz<=J.size:=by rw[e4];exact Nat.mul_le_mul_right _ e5
   have A:(J.toList.take (ob.rows.length*ob.sz)).length=ob.rows.length*ob.sz:=by simp;omega
   rcases hs with⟨ad,c,f,L,G,s3,s4,s5⟩|⟨L,G⟩
   ·by_cases F:ob.rows.length+d.length<=q
    ·-- there is room
     have hfit:ob.rows.length*i.size+f.length<=J.size:=by
      rw[G,l,e4,<-Nat.add_mul];exact Nat.mul_le_mul_right _ F
     have h:=run_append_room (P:=P) w T o.type ob.ty i hT hi b ob.rows.length q J e2 ad d.length c f (by rw[l];exact G) s3 s4 F hfit;rw[l]at h;obtain ⟨O,R⟩:=Rel.update (H':=H.set id ⟨ob.g+1,ob.sz,ob.ty,ob.rows++d⟩) (ob':=⟨ob.g+1,ob.sz,ob.ty,ob.rows++d⟩)
      (cs':=(J.toList.take (ob.rows.length*ob.sz)++f++J.toList.drop (ob.rows.length*ob.sz+f.length)).toArray) hr X c1 e2 (by simp) rfl rfl (fun e=>by simp at e) (by
       rw[l]at hfit;simp only[List.size_toArray,aPV,aP8,aP9,Array.length_toList];omega) (by simpa using F) hrl (fun V r s k a' D=>by
        have:=qX.app (l3:=J.toList.drop (ob.rows.length*ob.sz+f.length)) olds A s5 V r s k a' D
        simpa[List.append_assoc]using this) W h2
     exact U _ _ ι (by rw[c2,L];exact h) (.osl _ W (aP0 _) rfl fun _=>⟨p,by simp,.inl ⟨b,q,0,c1,by simp,fun _=>by simp⟩⟩) O R
    have holds:∀j v,(J.toList.take (ob.rows.length*ob.sz))[j]?=some v->w.cell? ((⟨b,0,none⟩:Addr).add j)=some v:=by
     intro j v hv;rw[Addr.add_lit,aPc,cell_of_row w b _ J ob.ty (0,0) e2];rw[List.getElem?_take]at hv
     split at hv
     ·simpa using hv
     cases hv
    have h:=run_append_grow (P:=P) w T o.type ob.ty i z hT hi hz ⟨b,0,none⟩ ob.rows.length q _ (by rw[l];exact A) holds ad d.length c f (by rw[l];exact G) s3 (by omega) (by omega) (growslice_fits (by omega) (by rw[hby];exact t));have hge:=grownCap_ge w (ob.rows.length+d.length) q ob.ty;have hcm:=grownCap_le_maxLen w (ob.rows.length+d.length) q ob.ty Y;obtain ⟨O,R⟩:=Rel.place (H':=H.set id ⟨ob.g+1,ob.sz,ob.ty,ob.rows++d⟩) (id:=id) (cap:=grownCap w (ob.rows.length+d.length) q ob.ty) (ob':=⟨ob.g+1,ob.sz,ob.ty,ob.rows++d⟩)
     (cs':=(J.toList.take (ob.rows.length*ob.sz)).toArray++f.toArray++Builtin.zeroCells z.cells (grownCap w (ob.rows.length+d.length) q ob.ty - (ob.rows.length+d.length)))
     (w':=w.drew.alloc (.cells ((J.toList.take (ob.rows.length*ob.sz)).toArray++f.toArray++Builtin.zeroCells z.cells (grownCap w (ob.rows.length+d.length) q ob.ty - (ob.rows.length+d.length))) ob.ty)) hr rfl rfl rfl rfl
     (fun o' S=>by rw[X]at S;cases S;simp) p1 (by
      simp only[Array.size_append,List.size_toArray,size_zeroCells,hzs,A,G,<-Nat.add_mul];congr 1;omega) (by simpa using hge) hcm hrl (fun V r s k a' D=>by
       obtain ⟨u,q1,q2,q3⟩:=qX.app (l3:=(Builtin.zeroCells z.cells (grownCap w (ob.rows.length+d.length) q ob.ty - (ob.rows.length+d.length))).toList) olds A s5 V r s k a' D;refine⟨u,?_,q2,q3⟩;rw[<-Array.getElem?_toList]
       simpa[List.append_assoc]using q1) W h2
    exact U _ _ _ (by rw[c2,L];exact h) (.osl _ W (aP0 _) rfl fun _=>⟨p,by simp,.inl ⟨w.heap.size,_,0,by simp;rfl,by simp,fun _=>by simp⟩⟩) O R
   subst G;have h:=vY (P:=P) (ty:=o.type) (w:=w) hT hi (some ⟨b,0,none⟩) ob.rows.length q e5;obtain ⟨O,R⟩:=Rel.tick (H':=H.set id ⟨ob.g+1,ob.sz,ob.ty,ob.rows++[]⟩) (ob':=⟨ob.g+1,ob.sz,ob.ty,ob.rows++[]⟩) hr X (by simp) rfl rfl (by simp) W h2;exact U _ _ ι (by rw[c2,L];exact h) (.osl _ W (aP0 _) rfl fun _=>⟨p,by simp,.inl ⟨b,q,0,c1,by simp,fun _=>by simp⟩⟩) O R
  rw[c1]at e1;cases e1
 have C:ob.rows=[]:=List.eq_nil_of_length_eq_zero c4;have Z:d=[]->o.wpW P a w K Q:=by
  intro h0;subst h0;have h:(Builtin.append_ #[T,T] o.type #[a.eval x,a.eval y]).run P w=.ok (.slice none 0 0) w:=by
   rcases hs with⟨ad,c,f,L,G,s3,s4,s5⟩|⟨L,G⟩
   ·rw[c2,L];simp[Builtin.append_,run_underlying hT,sizeOf,typeInfo,hi,Builtin.lenOf,Builtin.firstCells,loadCells,loadCellsFrom]
   rw[c2,L];exact vY (P:=P) (ty:=o.type) (w:=w) hT hi none 0 0 (aP0 _)
  obtain ⟨O,R⟩:=Rel.tick (H':=H.set id ⟨ob.g+1,ob.sz,ob.ty,ob.rows++[]⟩) (ob':=⟨ob.g+1,ob.sz,ob.ty,ob.rows++[]⟩) hr X (by simp) rfl rfl (by simp) W h2;exact U _ _ ι h (.osl _ W (aP0 _) rfl fun _=>⟨p,by simp,.inr ⟨c1,rfl,rfl,by simp[C]⟩⟩) O R
 by_cases h0:d=[]
 ·exact Z h0
 have p:0<d.length:=List.length_pos_iff.2 h0;rcases hs with⟨ad,c,f,L,G,s3,s4,s5⟩|⟨L,G⟩
 ·rw [C] at t Y hmax;simp only [List.length_nil,aPc] at t Y hmax;have h:=run_append_nil (P:=P) w T o.type ob.ty i z hT hi hz ad d.length c f (by rw [l];exact G) s3 p (by omega) (by rw [hby];omega);have hge:=grownCap_ge w d.length 0 ob.ty;have hcm:=grownCap_le_maxLen w d.length 0 ob.ty Y;obtain ⟨O,R⟩:=Rel.place (H':=H.set id ⟨ob.g+1,ob.sz,ob.ty,ob.rows++d⟩) (id:=id) (cap:=grownCap w d.length 0 ob.ty) (ob':=⟨ob.g+1,ob.sz,ob.ty,ob.rows++d⟩)
   (cs':=f.toArray++Builtin.zeroCells z.cells (grownCap w d.length 0 ob.ty - d.length))
   (w':=w.drew.alloc (.cells (f.toArray++Builtin.zeroCells z.cells (grownCap w d.length 0 ob.ty - d.length)) ob.ty)) hr rfl rfl rfl rfl
   (fun o' S=>by rw[X]at S;cases S;simp) hsz0 (by
    simp only[Array.size_append,List.size_toArray,size_zeroCells,hzs,G,<-Nat.add_mul];congr 1;omega) (by simpa[C]using hge) hcm hrl (fun V r s k a' D=>by
     rw[C]at s;simp only[List.nil_append]at s;obtain ⟨u,q1,q2,q3⟩:=s5 V r s k a' D;have hlt:=(aPY.1 q1).1;refine⟨u,?_,q2,q3⟩;rw[Array.getElem?_append_left (by simpa using hlt)]
     simpa using q1) W h2
  refine U _ _ _ (by rw[c2,L];exact h) (.osl _ W (aP0 _) rfl fun _=>⟨(oA (aJ he hx) X rfl:0<ob.sz),by simp,.inl ⟨w.heap.size,_,0,by simp;rfl,by simp[C],fun _=>by simp⟩⟩) O R
 exact absurd G h0
theorem OL{e}{ps}{H2}(C:o.op=.call {callee:=.builtin .append,args:=#[x,y],argTypes:=#[T,T]})(D:P.underlying T=some (.slice e))(d:XE P e sz bytes)
  (p:aP E x=some (.osl id g 0 n)) (t:H.get id=some ob) (J:ob.g=g) (c:ob.sz=sz) (h:ob.ty=e) (u:ob.rows.length=n)
  (q:aP E y=some (.pv (.sl ps))) (j:∀r∈ps,r.length=sz) (hm:ps.length=m) (b:(n+m)*bytes<=140737488355328) (f:n+m<=9223372036854775807)
  (k:H.set id ⟨g+1,sz,e,ob.rows++ps.map (·.map AV.pv)⟩=H2):cS P N o E H (.osl id (g+1) 0 (n+m)) H2:=by
 obtain ⟨i,z,B,K,F,A,s,l⟩:=d;exact YV C D ⟨i,z,B,K,F,A,s,l⟩ p t J c h u (fun a w I ι v G=>aD2 (aJ G q) l j) (fun r v=>by
  grind) (by simp_all) b f k
theorem OD{c:Nat}{W k2:IntKind}{p b:Int}{d:List AV}(V:o.op=.makeSlice T x y)(hT:P.underlying T=some (.slice e))(t:XE P e sz bytes)(hz:∀w,(zeroValue e).run P w=.ok z w)(hv:ZV z v0)(J:TO v0=some d)(hrow:d.length=sz)
  (hx:aP E x=some (.pv (.int W p))) (hy:aP E y=some (.pv (.int k2 b))) (h1:0<=p) (h2:p<=b) (hl:p.toNat=l) (hc:b.toNat=c) (hb:bytes*c<=281474976710656) (B:b<=9223372036854775807) (hid:H.get id=none) :
  cS P N o E H (.osl id 0 0 l) ((id,⟨0,sz,e,List.replicate l d⟩)::H):=by
 intro a w I ι _ _ hr he K Q hk;obtain ⟨i,q,Y,A,f,L,M,m⟩:=t;have D:q=z:=by
  have:=hz w;simp[zeroValue,typeInfo,Y,A]at this;exact this
 subst D hl hc;have e1:=(aJ he hx).int_inv;have e2:=(aJ he hy).int_inv;have G:(i.bytes:Int)*b<=281474976710656:=by
  have h:=hb;rw[<-L]at h;have U:((i.bytes*b.toNat:Nat):Int)<=281474976710656:=by omega
  rw[Int.natCast_mul]at U
  rwa [Int.toNat_of_nonneg (by omega)]at U
 have C:=run_make (P:=P) w T e i q hT Y A W k2 p b h1 h2 G B;have R:=yO.of_cells (ZV.rel (w:=w) (I:=I) (ι:=ι) (H:=H) hv) J;obtain ⟨S,k3⟩:=Rel.place (H':=(id,⟨0,sz,e,List.replicate p.toNat d⟩)::H) (id:=id) (cap:=b.toNat) (ob':=⟨0,sz,e,List.replicate p.toNat d⟩) (cs':=madeCells q.cells (b.toNat*i.size))
  (w':=w.alloc (.cells (madeCells q.cells (b.toNat*i.size)) e)) hr rfl rfl rfl rfl (fun o V=>by simp_all) m (by rw[size_madeCells,f]) (by grind) (by simp only[maxLen];omega)
  (fun r hr'=>by simp_all)
  (fun Z r n k a' F=>by
   rw[List.getElem?_replicate]at n
   split at n
   ·cases n;rename_i hlt;have O:k<sz:=by grind
    obtain ⟨u,X,q2,q3⟩:=R.2 k a' F;refine⟨u,?_,q2,q3⟩;have s:Z*sz+k<b.toNat*sz:=by
     have:(Z+1)*sz<=b.toNat*sz:=Nat.mul_le_mul_right _ (by omega);rw[Nat.add_mul]at this;omega
    have v:k<q.cells.size:=by omega
    rw[Array.getElem?_eq_getElem v]at X;cases X;simp only[madeCells,Array.getElem?_map,f];rw[Array.getElem?_range];simp only[s,if_true,Option.map_some,M,CZ O];rw[getElem!_pos q.cells k v]
   simp_all) (get_cons_same _ _ _) (fun j hj=>get_cons_other _ _ hj)
 unfold Oper.wpW execOp;simp only[V,e1,e2,Sem.run_bind,C,Result.andThen_ok,Sem.run_pure];exact hk _ _ I _ _ _ ⟨rfl,rfl⟩ (.osl _ (get_cons_same _ _ _) (aP0 _) rfl fun _=>⟨m,by simp,.inl ⟨w.heap.size,b.toNat,0,by simp,by simp,fun _=>by simp⟩⟩) S k3
theorem Rel.congr{I}{ι}{H H'}{w}(f:Rel I ι H w)(h:∀j,H'.get j=H.get j):Rel I ι H' w/\Step I ι H w I ι H' w:=by
 have e:Step I ι H w I _ _ w:=⟨rfl,rfl,rfl,aP0 _,fun _ _ _=>rfl,fun _ h=>h,fun _ h=>.inl h,fun b ⟨j,o,c,i,k⟩=>.inl ⟨j,o,c,(h j).symm.trans i,k⟩,fun _ _ _=>rfl,
  fun j o g=>⟨o,(h j).trans g,aP0 _,fun _=>⟨rfl,rfl,fun _=>aP0 _⟩⟩⟩
 refine⟨⟨f.imm,fun j o g=>?_,fun j j' o o' b c c' i k=>f.inj j _ o _ b c _ ((h j).symm.trans i) ((h _).symm.trans k),e.glob f⟩,e⟩;exact(f.obj j o ((h j).symm.trans g)).keep rfl (fun _ _ _ _=>⟨rfl,fun h=>h⟩) (fun r _ a _ v l=>l.mono f e)
def eQ(s:List UInt8):List (List AV):=s.map fun b=>[.pv (.int .u8 b.toNat)]
theorem OJ{S T:TypeId}{bs:List UInt8}{r:ByteArray}(v:o.op=.convert S T x)(hS:P.underlying S=some (.slice e))(i:P.underlying e=some (.int .u8))(B:P.underlying T=some .string)
  (C:aP E x=some (.osl id g off len)) (M:H.get id=some ob) (V:ob.g=g) (q:ob.sz=1) (F:(ob.rows.drop off).take len=eQ bs) (J:(⟨bs.toArray⟩:ByteArray)=r):cS P N o E H (.pv (.str r)) H :=
 .of_run fun a w I ι l U=>by
  have s:=aJ U C;have h:=aAP l s M V q;rw[F]at h;subst J;refine⟨.string ⟨bs.toArray⟩,?_,.pv (.str _)⟩;rcases h with⟨p,c,d,m,t,D,s4,G⟩|⟨m,t⟩
  ·have hnews:d=bs.map fun b=>Value.int .u8 b.toNat:=by
    apply List.ext_getElem?;intro j;by_cases z:j<bs.length
    ·obtain ⟨u,A,q2,R⟩:=G j [.pv (.int .u8 (bs[j]'z).toNat)] (by simp[eQ,aPZ z]) 0 _ (by simp;rfl);rw[Nat.mul_one,Nat.add_zero]at A;rw[A,R.int_inv]
     simp_all
    rw[List.getElem?_eq_none (by rw[t];simp[eQ];omega),List.getElem?_eq_none (by grind)]
   have O:(loadCells p (eQ bs).length).run P w=.ok ((bs.map fun b=>(b.toNat:Int)).map (Value.int .u8)).toArray w:=by
    have L:(bs.map fun b=>(b.toNat:Int)).map (Value.int .u8)=d:=by simp_all
    have Q:(eQ bs).length=d.length:=by omega
    rw[L,Q];exact run_loadCells_list (P:=P) w p d D
   simp only[execOp,v,m,Sem.run_bind];rw[run_convert_bytes_string w S T e _ _ c hS i B,run_bytesToString w p _ c _ O,foldl_push_bytes];have K:(bs.map fun b=>(b.toNat:Int)).map (fun n=>UInt8.ofNat n.toNat)=bs:=by
    rw[List.map_map]
    conv=>rhs;rw[<-List.map_id bs]
    refine List.map_congr_left fun b _=>?_;simp
   rw[K];simp[ByteArray.empty,ByteArray.emptyWithCapacity];rfl
  have:bs=[]:=by simpa[eQ]using t
  subst this;simp only[execOp,v,m,Sem.run_bind];rw[run_convert_bytes_string w S T e _ _ 0 hS i B];simp[Conv.bytesToString];rfl
end
end
section
structure Rec where
 v:AV
 R:Option (List Nat)
 W:aH
def JP:List Nat->Nat->Bool
 | [],_=>false
 |x::r,t=>cond (Nat.beq x t) true (JP r t)
theorem FX{l}{t}:JP l t=true↔t∈l:=by
 induction l with
 |nil=>simp[JP]
 | cons x r a =>
  cases e:Nat.beq x t with
  |true =>
   have:=Nat.eq_of_beq_eq_true e;simp[JP,e,this]
  |false =>
   have:x≠t:=fun h=>by simp_all
   simp[JP,e,a,Ne.symm this]
def zP:Option (List Nat)->Nat->Bool
 |none,_=>true
 |some l,t=>JP l t
def U8:List Operand->List Nat
 | []=>[]
 |.tmp t::r=>t::U8 r
 |_::r=>U8 r
def gT(ops:List Oper)(o:Oper):List Nat :=match o.guard with
 |none=>U8 o.op.operands.toList
 |some (j,_)=>match iM ops j with
  |some t=>t::U8 o.op.operands.toList
  |none=>U8 o.op.operands.toList
def restr(E:dB):List Nat->dB
 | []=>[]
 |t::r=>match E.get t with
  |some v=>(t,v)::restr E r
  |none=>restr E r
theorem PJ{E}{l}:∀p∈restr E l,E.get p.1=some p.2/\p.1∈l:=by
 induction l with
 |nil=>simp[restr]
 |cons t r ih =>
  intro p a;unfold restr at a
  grind
inductive DStep(P:Program)(N:Nat)(ops:List Oper)(o:Oper)(E:dB)(H:aH)(r:Rec):Prop
 |plain (hg:o.guard=none) (h:∀H1:aH,(∀id,zP r.R id=true->H1.get id=H.get id)->cS P N o (restr E (gT ops o)) H1 r.v (r.W++H1))
 | on (j:Nat) (want:Bool) (t:Tmp) (b:Bool) (hg:o.guard=some (j,want)) (hj:iM ops j=some t) (hb:E.get t=some (.pv (.bool b))) (hw:b=want)
   (h:∀H1:aH,(∀id,zP r.R id=true->H1.get id=H.get id)->cS P N o (restr E (gT ops o)) H1 r.v (r.W++H1))
 |off (j:Nat) (want:Bool) (t:Tmp) (x:AV) (hg:o.guard=some (j,want)) (hj:iM ops j=some t) (hb:E.get t=some x) (hw:VH want x=true) (hv:r.v=.tup []) (hW:r.W=[])
inductive DChain(P:Program)(N:Nat)(ops:List Oper):List Oper->dB->aH->List Rec->dB->aH->Prop
 |nil {E:dB} {H:aH}:DChain P N ops [] E H [] E H
 | cons {o:Oper} {rest:List Oper} {E E':dB} {H H':aH} {r:Rec} {rs:List Rec} (h:DStep P N ops o E H r) (hd:iN N o.dst=true) (hr:DChain P N ops rest (kM E o.dst r.v) (r.W++H) rs E' H') :
   DChain P N ops (o::rest) E H (r::rs) E' H'
structure Ent2 where
 o:Oper
 r:Rec
def zC(E:dB)(l:List Ent2)(S:Nat->Bool):Nat->Nat->Option AV
 |0,t=>E.get t
 |k+1,t=>match l[k]? with
  |some x=>if S k=true/\x.o.dst=some t then some x.r.v else zC E l S k t
  |none=>zC E l S k t
def xN(H:aH)(l:List Ent2)(S:Nat->Bool):Nat->Nat->Option Ob
 |0,id=>H.get id
 |k+1,id=>match l[k]? with
  |some x=>if S k=true/\(x.r.W.get id).isSome=true then x.r.W.get id else xN H l S k id
  |none=>xN H l S k id
theorem C0(W H)(id):aH.get (W++H) id=match W.get id with|some o=>some o|none=>H.get id:=by
 induction W with
 |nil=>rfl
 |cons x r a =>
  obtain ⟨i,o⟩:=x;cases e:Nat.beq i id with
  |true=>simp[aH.get,e]
  |false=>simpa[aH.get,e]using a
def hkeys(W:aH):List Nat:=W.map (·.1)
def kI(ops:List Oper)(x y:Ent2):Bool :=(match x.o.dst with
   |some d=>JP (gT ops y.o) d||(match y.o.dst with|some e=>Nat.beq e d|none=>false)
   |none=>false) ||
  (match y.o.dst with
   |some d=>JP (gT ops x.o) d
   |none=>false) ||
  (hkeys x.r.W).any (fun i=>zP y.r.R i||JP (hkeys y.r.W) i) ||
  (hkeys y.r.W).any (fun i=>zP x.r.R i)
def sF(acc:List Nat):List Edge->Nat
 | []=>0
 |e::r=>if Region.binds .any e then((1 <<< e.on) ||| acc.getD e.on 0) ||| sF acc r else sF acc r
def aIm:List Oper->List Nat->List Nat
 | [],acc=>acc
 |o::r,acc=>aIm r (acc++[sF acc o.after.toList])
def KC(ops:List Oper)(bef:List Nat):Nat->List Ent2->List Ent2->Bool
 |_,_,[]=>true
 |j,prev,y::r=>(prev.zipIdx.all fun(x,i)=>!kI ops x y||(bef.getD j 0).testBit i)&&KC ops bef (j+1) (prev++[y]) r
def KD:Nat->List Oper->Bool
 |_,[]=>true
 |j,o::r=>(o.after.toList.all fun e=>!Region.binds .any e||Nat.blt e.on j)&&KD (j+1) r
def HJ(ops:List Oper)(rs:List Rec):Bool :=KD 0 ops&&KC ops (aIm ops []) 0 [] (List.zipWith Ent2.mk ops rs)
def aCv(ops:List Oper)(S:Nat->Bool):Prop:=∀j o,ops[j]?=some o->S j=true->∀e∈o.after.toList,Region.binds .any e=true->S e.on=true
def Pre(ops:List Oper)(i j:Nat):Prop:=∀S,aCv ops S->∀o,ops[j]?=some o->(∀e∈o.after.toList,Region.binds .any e=true->S e.on=true)->S i=true
theorem OU{acc:List Nat}(c:∀j,j<acc.length->∀i,(acc.getD j 0).testBit i=true->Pre ops i j)(hlen:acc.length<=ops.length):
  ∀(l:List Edge) (i:Nat),(sF acc l).testBit i=true->∀S,aCv ops S->(∀e∈l,Region.binds .any e=true->S e.on=true)->S i=true:=by
 intro l
 induction l with
 |nil=>intro i h;simp[sF]at h
 | cons e r p =>
  intro i h S k g;unfold sF at h
  split at h
  ·rename_i o;rw[Nat.testBit_or,Nat.testBit_or,Bool.or_eq_true,Bool.or_eq_true]at h;rcases h with(h|h)|h
   ·have:e.on=i:=by
     rw[Nat.testBit_shiftLeft]at h;simp only[aP3,aP1]at h;have q:=h.2;rw[Nat.testBit_one_eq_true_iff_self_eq_zero]at q;omega
    rw[<-this];exact g e (by simp) o
   ·by_cases s:e.on<acc.length
    ·have f:e.on<ops.length:=by omega
     have m:=g e (by simp) o;exact c e.on s i h S k _ (aPZ f) (fun d a n=>k e.on _ (aPZ f) m d a n)
    simp[List.getD,List.getElem?_eq_none (show acc.length<=e.on by omega)]at h
   exact p i h S k (fun d a=>g d (by simp[a]))
  exact p i h S k (fun d a=>g d (by simp[a]))
theorem Q7:∀(rest b:List Oper) (acc:List Nat),ops=b++rest->acc.length=b.length->(∀j,j<acc.length->∀i,(acc.getD j 0).testBit i=true->Pre ops i j) ->
  ∀j i,((aIm rest acc).getD j 0).testBit i=true->Pre ops i j:=by
 intro rest
 induction rest with
 |nil =>
  intro b acc k f g j i c;by_cases h:j<acc.length
  ·exact g j h i c
  simp[aIm,List.getD,List.getElem?_eq_none (show acc.length<=j by omega)]at c
 | cons o r q =>
  intro b acc k f g;refine q (b++[o]) (acc++[sF acc o.after.toList]) (by simp_all) (by simp[f]) ?_;intro j h i c;by_cases e:j<acc.length
  ·have m:(acc.getD j 0).testBit i=true:=by simpa[List.getD,List.getElem?_append_left e]using c
   exact g j e i m
  have n:j=acc.length:=by simp at h;omega
  subst n;have c:(sF acc o.after.toList).testBit i=true:=by simpa[List.getD]using c
  intro S p s d l;have:s=o:=by
   rw[k,List.getElem?_append_right (by omega),f]at d;simp at d;exact d.symm
  subst this;exact OU g (by rw[k,f];simp) _ i c S p l
theorem FO{c:List Nat}:∀(rest a:List Ent2),KC ops c a.length a rest=true->∀i j,i<j->a.length<=j->∀x y,(a++rest)[i]?=some x->(a++rest)[j]?=some y->kI ops x y=true->(c.getD j 0).testBit i=true:=by
 intro rest
 induction rest with
 |nil =>
  simp_all
 | cons z r q =>
  intro a h i j b hj x y f d k;simp only[KC,aP3]at h;by_cases e:j=a.length
  ·subst e;have m:y=z:=by
    simp at d;exact d.symm
   subst m;have g:=by rw[List.getElem?_append_left b]at f;exact f
   have o:(x,i)∈a.zipIdx:=by rw[List.mem_zipIdx_iff_getElem?];exact g
   have:=List.all_eq_true.1 h.1 _ o
   simpa[k]using this
  have l:=h.2;have p:a.length+1=(a++[z]).length:=by simp
  rw[p]at l;have n:a++z::r=(a++[z])++r:=by simp
  rw[n]at f d;exact q (a++[z]) l i j b (by simp;omega) x y f d k
theorem FQ:∀(l) (k),KD k l=true->∀j o,l[j]?=some o->∀e∈o.after.toList,Region.binds .any e=true->e.on<k+j:=by
 intro l
 induction l with
 |nil=>simp_all
 | cons x r ih =>
  intro k h j o a e b c;simp only[KD,aP3]at h;cases j with
  |zero =>
   simp at a;subst a;have:=List.all_eq_true.1 h.1 e b
   simpa[c]using this
  |succ j =>
   grind
section
variable{P:Program}
theorem DChain.spec{rest:List Oper}{a:List Rec}(h:DChain P N ops rest E H a E' H'):a.length=rest.length /\
  (∀k x,(List.zipWith Ent2.mk rest a)[k]?=some x->iN N x.o.dst=true/\∃f g,(∀t,f.get t=zC E (List.zipWith Ent2.mk rest a) (fun _=>true) k t)/\(∀id,g.get id=xN H (List.zipWith Ent2.mk rest a) (fun _=>true) k id)/\DStep P N ops x.o f g x.r) /\
  (∀t,E'.get t=zC E (List.zipWith Ent2.mk rest a) (fun _=>true) rest.length t)/\(∀id,H'.get id=xN H (List.zipWith Ent2.mk rest a) (fun _=>true) rest.length id):=by
 induction h with
 |nil=>exact⟨rfl,by simp,fun t=>rfl,fun id=>rfl⟩
 | @cons o rest E E' H H' r a m u hr b =>
  obtain ⟨s,v,h3,h4⟩:=b;have i:∀(l:List Ent2) k t,zC (kM E o.dst r.v) l (fun _=>true) k t=zC E (⟨o,r⟩::l) (fun _=>true) (k+1) t:=by
   intro l k t
   induction k with
   | zero =>
    simp only[zC,List.getElem?_cons_zero];cases hdst:o.dst with
    |none=>rfl
    |some d =>
     simp only[kM];by_cases e:d=t
     ·subst e;simp[dB.get_cons_same]
     rw[dB.get_cons_other _ _ e];simp[e]
   |succ k b =>
    rw[zC,zC]
    simp_all
  have j:∀(l:List Ent2) k id,xN (r.W++H) l (fun _=>true) k id=xN H (⟨o,r⟩::l) (fun _=>true) (k+1) id:=by
   intro l k id
   induction k with
   |zero =>
    simp only[xN,List.getElem?_cons_zero,C0];all_goals grind
   |succ k b =>
    rw[xN,xN];simp only[List.getElem?_cons_succ];cases l[k]? with
    |none=>exact b
    |some x=>simp only[b]
  refine⟨by simp[s],?_,?_,?_⟩
  ·intro k x c;cases k with
   |zero =>
    simp at c;subst c;exact⟨u,E,H,fun t=>rfl,fun id=>rfl,m⟩
   |succ k =>
    simp at c;obtain ⟨n,f,g,w,p,q⟩:=v k x (by simpa using c);exact⟨n,f,g,fun t=>(w t).trans (i _ k t),fun id=>(p id).trans (j _ k id),q⟩
  all_goals simp_all
theorem pM {l} {S} {t}:∀ (n k),k<=n->(∀ j x,l[j]?=some x->x.o.dst=some t->(j < k->S j=true)/\(k<=j->j < n->S j=false))->zC E l S n t=zC E l (fun _=>true) k t:=by
  intro n
  induction n with
  | zero => intro k a h; have : k = 0 := by omega
            subst this;rfl
  | succ n ih =>
    intro k a h;by_cases e:k=n+1
    · subst e
      rw[zC,zC]
      grind
    · rw[zC]
      grind
theorem pL {l} {S} {id}:∀ (n k),k<=n->(∀ j x,l[j]?=some x->(x.r.W.get id).isSome=true->(j < k->S j=true)/\(k<=j->j < n->S j=false))->xN H l S n id=xN H l (fun _=>true) k id:=by
  intro n
  induction n with
  | zero => intro k a h; have : k = 0 := by omega
            subst this;rfl
  | succ n ih =>
    intro k a h;by_cases e:k=n+1
    · subst e
      rw[xN,xN]
      grind
    · rw[xN]
      grind
end
theorem cS.restr{P}{N}{o}{E b}{H1 H2}{l}{v}(h:cS P N o (restr E l) H1 v H2)(k:∀t,t∈l->b.get t=E.get t):cS P N o b H1 v H2:=by intro a w I ι j i f g K Q e;refine h a w I _ j i f (fun t v d=>?_) K Q e;have c:=PJ _ (gL d);exact g t v ((k t c.2).trans c.1)
theorem dA.get{G0}{E E'}{H H'}(g:∀t,E'.get t=E.get t)(h:∀j,H'.get j=H.get j):dA G0 E H E' H':=by intro G hG N a w d;obtain ⟨I,n,e,b,k⟩:=d.rel;obtain ⟨i,f⟩:=e.congr h;refine⟨d.defers,d.size,I,n,i,b.trans f,fun t v o=>?_⟩;obtain ⟨c,m,l⟩:=k t v ((g t).symm.trans o);exact⟨c,m,l.mono e f⟩
theorem AZ{ops}{x y:Ent2}(h:x.o.dst=some d)(a:d∈gT ops y.o):kI ops x y=true:=by simp[kI,h,FX.2 a]
theorem rV{ops}{x y:Ent2}(h:x.o.dst=some d)(a:y.o.dst=some d):kI ops x y=true:=by simp[kI,h,a,oO]
theorem AY{ops}{x y:Ent2}(h:y.o.dst=some d)(a:d∈gT ops x.o):kI ops x y=true:=by simp[kI,h,FX.2 a]
theorem wE{W}{id}(h:(W.get id).isSome=true):id∈hkeys W:=by obtain ⟨o,a⟩:=Option.isSome_iff_exists.1 h;exact List.mem_map.2 ⟨_,dY a,rfl⟩
theorem Q4{ops}{x y}{id}(h:(x.r.W.get id).isSome=true)(h':zP y.r.R id=true):kI ops x y=true:=by have:(hkeys _).any (fun i=>zP y.r.R i||JP (hkeys y.r.W) i)=true:=List.any_eq_true.2 ⟨id,wE h,by grind⟩;simp[kI,this]
theorem C3{ops}{x y}{id}(h:(x.r.W.get id).isSome=true)(b:(y.r.W.get id).isSome=true):kI ops x y=true:=by have:(hkeys _).any (fun i=>zP y.r.R i||JP (hkeys y.r.W) i)=true:=List.any_eq_true.2 ⟨id,wE h,by simp[FX.2 (wE b)]⟩;simp[kI,this]
theorem Q5{ops}{x y}{id}(h:(y.r.W.get id).isSome=true)(a:zP x.r.R id=true):kI ops x y=true:=by have:=List.any_eq_true.2 ⟨id,wE h,a⟩;simp[kI,this]
theorem cS.any_heap{P}{N}{o}{E}{H H1}{v}(h:cS P N o E H v H)(g:∀j,H1.get j=H.get j):cS P N o E H1 v H1:=by intro a w I ι s q f k K Q l;obtain ⟨m,i⟩:=f.congr (fun j=>(g j).symm);refine h a w I _ s q m (fun t v y=>let ⟨c,p,u⟩:=k t v y;⟨c,p,u.mono f i⟩) K Q ?_;rintro c w' I' ι' r H' ⟨rfl,rfl⟩ n b d;obtain ⟨x,e⟩:=b.congr g;exact l c _ _ _ _ _ ⟨rfl,rfl⟩ (n.mono b e) x ((i.trans d).trans e)
theorem DStep.q{P}{N}{ops}{o}{E}{H}{v}(a:o.guard=none)(h:cS P N o (restr E (gT ops o)) H v H):DStep P N ops o E H ⟨v,none,[]⟩ :=.plain a fun H1 b=>h.any_heap fun j=>b j rfl
theorem DStep.qon{P}{N}{ops}{o}{E}{H}{v}{j}{a}{t}{b}(f:o.guard=some (j,a))(d:iM ops j=some t)(c:E.get t=some (.pv (.bool b)))(g:b=a)(h:cS P N o (restr E (gT ops o)) H v H):DStep P N ops o E H ⟨v,none,[]⟩ :=.on j _ t b f d c g fun H1 e=>h.any_heap fun j=>e j rfl
theorem DStep.qoff{P}{N}{ops}{o}{E}{H}{j}{a}{t}{x}(d:o.guard=some (j,a))(c:iM ops j=some t)(b:E.get t=some x)(e:VH a x=true):DStep P N ops o E H ⟨.tup [],some [],[]⟩ :=.off j _ t x d c b e rfl rfl
theorem aFs{P:Program}{Q:Exit->dB->aH->Prop}{ops:Array Oper}{rs:List Rec}(hm:P.follows .mixedOrders=true)(hc:DChain P N ops.toList ops.toList E H rs E' H')(hok:HJ ops.toList rs=true)
  (hK:Q .normal E' H'):gR P G0 N (.region id ops true) Q E H:=by
 intro G hG a w hs ro hro;have hnd0:ro=none\/ops.toList.all Oper.noDefer=true:=hro;refine wpIn_region_any hm ?_;obtain ⟨hlen,hst,hE',hH'⟩:=hc.spec;obtain ⟨l,hl⟩:∃l,l=List.zipWith Ent2.mk ops.toList rs:=⟨_,rfl⟩;rw[<-hl]at hst hE' hH';simp only[HJ,aP3,<-hl]at hok;obtain ⟨hok1,hok2⟩:=hok;have hll:l.length=ops.size:=by simp_all
 have hlo:∀(i:Nat) (x:Ent2),l[i]?=some x->ops.toList[i]?=some x.o:=by
  grind
 have hedge:=FQ ops.toList 0 hok1;have hbef:∀(i j:Nat) (x y:Ent2),i<j->l[i]?=some x->l[j]?=some y->kI ops.toList x y=true->Pre ops.toList i j:=fun i j x y hij hx hy Z =>
  Q7 ops.toList [] [] rfl rfl (by simp) j i (FO l [] hok2 i j hij (aPb _) x y hx hy Z)
 have main:∀(K:Nat) (f:Array Bool) (a:Act) (w:World) (W:dB) (H1:aH),f.size=ops.size->((List.range ops.size).filter fun i=>!f.getD i true).length<=K ->
   aCv ops.toList (fun i=>f.getD i false)->St G N W H1 a w->(∀t,W.get t=zC E l (fun i=>f.getD i false) ops.size t)->(∀j,H1.get j=xN H l (fun i=>f.getD i false) ops.size j) ->
   wpAnyIn (RF ro) 0 P .any ops (fun e a w=>∃E H,Q e E H/\St G N E H a w) K f a w:=by
  intro K
  induction K with
  | zero =>
   intro f a w W H1 hsz hcnt J q hE1 hH1;have L:∀i,i<ops.size->f.getD i false=true:=by
    simp_all
   refine⟨?_,E',H',hK,?_⟩
   ·unfold Region.ready
    simp_all
   refine dA.get (G0:=G0) (fun t=>?_) (fun j=>?_) G hG N a w q
   ·rw[hE' t,hE1 t,Array.length_toList];exact(pM (E:=E) ops.size ops.size (aP0 _) (fun j x p _=>⟨fun s=>L j s,fun h1 h2=>by omega⟩)).symm
   rw[hH' j,hH1 j,Array.length_toList];exact(pL (H:=H) ops.size ops.size (aP0 _) (fun i x hi _=>⟨fun s=>L i s,fun h1 h2=>by omega⟩)).symm
  | succ K ih =>
   intro f a w W H1 hsz hcnt J q hE1 hH1;refine⟨fun hnil=>?_,fun i hi=>?_⟩
   ·-- nothing is left
    have L:∀i,i<ops.size->f.getD i false=true:=by
     intro i
     induction i using Nat.strongRecOn with
     | _ i ihi =>
      intro hi;refine Classical.byContradiction fun hno=>?_;have hi':i<f.size:=by omega
      have hno':f.getD i true=false:=by
       simp[Array.getD,hi']at hno |-;exact hno
      have s:i<ops.toList.length:=by simpa using hi
      have hr:i∈Region.ready .any ops f:=by
       unfold Region.ready;refine List.mem_filter.2 ⟨List.mem_range.2 hi,?_⟩;have ho:ops[i]?=some ops[i]:=Array.getElem?_eq_getElem hi;simp only[hno',Bool.not_false,Bool.true_and,ho,Option.map_some,Option.getD_some];rw[Array.all_eq_true'];intro e X;cases V:Region.binds .any e with
       |false=>simp
       |true =>
        have hon:=hedge i ops[i] (by simp[ho]) e (by simpa using X) V;simp only[Bool.not_true,Bool.false_or];exact ihi e.on (by omega) (by omega)
      rw[hnil]at hr;cases hr
    refine⟨E',H',hK,?_⟩;refine dA.get (G0:=G0) (fun t=>?_) (fun j=>?_) G hG N a w q
    ·rw[hE' t,hE1 t,Array.length_toList];exact(pM (E:=E) ops.size ops.size (aP0 _) (fun j x p _=>⟨fun s=>L j s,fun h1 h2=>by omega⟩)).symm
    rw[hH' j,hH1 j,Array.length_toList];exact(pL (H:=H) ops.size ops.size (aP0 _) (fun i x hi _=>⟨fun s=>L i s,fun h1 h2=>by omega⟩)).symm
   have hi1:=List.mem_filter.1 hi;have hilt:i<ops.size:=List.mem_range.1 hi1.1;have hi':i<f.size:=by omega
   have ho:ops[i]?=some ops[i]:=Array.getElem?_eq_getElem hilt;have hi2:=hi1.2;simp only[ho,Option.map_some,Option.getD_some,aP3]at hi2;obtain ⟨hnl,hpreds⟩:=hi2;have Y:f.getD i false=false:=by
    simp[Array.getD,hi']at hnl |-;exact hnl
   have hpre:∀e∈(ops[i]).after.toList,Region.binds .any e=true->f.getD e.on false=true:=by
    intro e X V;have:=(Array.all_eq_true'.1 hpreds) e (by simpa using X)
    simpa[V]using this
   have hil:i<l.length:=by omega
   obtain ⟨x,hx⟩:∃x,l[i]?=some x:=⟨_,aPZ hil⟩;have hxo:x.o=ops[i]:=by
    have:=hlo i x hx;simp[ho]at this;exact this.symm
   obtain ⟨T,Ek,Hk,hEk,hHk,hdst⟩:=hst i x hx;have A:∀(j:Nat) (y:Ent2),j<i->l[j]?=some y->kI ops.toList y x=true->f.getD j false=true:=by
    intro j y p hy Z;exact hbef j i y x p hy hx Z _ J ops[i] (by simp[ho]) hpre
   have C:∀(j:Nat) (y:Ent2),i<j->l[j]?=some y->kI ops.toList x y=true->f.getD j false=false:=by
    intro j y p hy Z;cases R:f.getD j false with
    |false=>rfl
    |true =>
     have hjlt:j<l.length:=(aPY.1 hy).1;have hjo:ops.toList[j]?=some y.o:=hlo j y hy;have:=hbef i j x y p hx hy Z _ J y.o hjo (fun e X V=>J j y.o hjo R e X V);rw[Y]at this;cases this
   have agreeE:∀t,(∀(j:Nat) (y:Ent2),l[j]?=some y->y.o.dst=some t->(j<i->kI ops.toList y x=true)/\(i<j->kI ops.toList x y=true))->W.get t=Ek.get t:=by
    intro t ht;rw[hE1 t,hEk t];refine pM (E:=E) ops.size i (by omega) (fun j y p F=>⟨fun s=>A j y s p ((ht j y p F).1 s),fun h1 h2=>?_⟩);by_cases e:j=i
    ·subst e;exact Y
    exact C j y (by omega) p ((ht j y p F).2 (by omega))
   have agreeH:∀k,(∀(j:Nat) (y:Ent2),l[j]?=some y->(y.r.W.get k).isSome=true->(j<i->kI ops.toList y x=true)/\(i<j->kI ops.toList x y=true))->H1.get k=Hk.get k:=by
    intro k hk;rw[hH1 k,hHk k];refine pL (H:=H) ops.size i (by omega) (fun j y p F=>⟨fun s=>A j y s p ((hk j y p F).1 s),fun h1 h2=>?_⟩);by_cases e:j=i
    ·subst e;exact Y
    exact C j y (by omega) p ((hk j y p F).2 (by omega))
   have z:∀t,t∈gT ops.toList x.o->W.get t=Ek.get t:=fun t ht =>
    agreeE t fun j y p F=>⟨fun _=>AZ F ht,fun _=>AY F ht⟩
   have U:∀k,zP x.r.R k=true->H1.get k=Hk.get k:=fun k hk =>
    agreeH k fun j y p F=>⟨fun _=>Q4 F hk,fun _=>Q5 F hk⟩
   have u:∀j,(f.setIfInBounds i true).getD j false=if j=i then true else f.getD j false:=by
    intro j;by_cases e:j=i
    ·subst e;simp[Array.getD,hi']
    simp only[Array.getD_eq_getD_getElem?,Array.getElem?_setIfInBounds_ne (Ne.symm e),e,if_false]
   have hdown':aCv ops.toList (fun j=>(f.setIfInBounds i true).getD j false):=by
    intro j o p R e X V;simp only[u]at R |-;by_cases ej:j=i
    ·subst ej;have:o=ops[j]:=by simp[ho]at p;exact p.symm
     subst this;have:=hpre e X V;simp[this]
    simp only[ej,if_false]at R;have:=J j o p R e X V;simp only at this;simp[this]
   have hcnt':((List.range ops.size).filter fun j=>!(f.setIfInBounds i true).getD j true).length<=K:=by
    have hlist':∀j,(f.setIfInBounds i true).getD j true=if j=i then true else f.getD j true:=by
     intro j;by_cases e:j=i
     ·subst e;simp[Array.getD,hi']
     simp only[Array.getD_eq_getD_getElem?,Array.getElem?_setIfInBounds_ne (Ne.symm e),e,if_false]
    have h1:((List.range ops.size).filter fun j=>!(f.setIfInBounds i true).getD j true)=((List.range ops.size).filter fun j=>!f.getD j true).filter fun j=>j != i:=by
     rw[List.filter_filter];refine List.filter_congr fun j _=>?_;rw[hlist'];by_cases e:j=i<;>simp[e]
    rw[h1];have h2:=List.length_filter_lt_length_iff_exists (p:=fun j=>j != i) (l:=(List.range ops.size).filter fun j=>!f.getD j true) |>.2 ⟨i,List.mem_filter.2 ⟨hi1.1,by simpa using hnl⟩,by simp⟩;omega
   have S:∀(r:AV) (a':Act) (w':World),r=x.r.v->St G N (kM W x.o.dst x.r.v) (x.r.W++H1) a' w'->wpAnyIn (RF ro) 0 P .any ops (fun e a w=>∃E H,Q e E H/\St G N E H a w) K (f.setIfInBounds i true) a' w':=by
    intro r a' w' _ hst';refine ih _ a' w' _ _ (by simp[hsz]) hcnt' hdown' hst' (fun t=>?_) (fun k=>?_)
    ·-- slots
     by_cases F:x.o.dst=some t
     ·have e1:dB.get (kM W x.o.dst x.r.v) t=some x.r.v:=by rw[F];simp[kM,dB.get_cons_same]
      rw[e1];have e2:=pM (E:=E) (l:=l) (S:=fun j=>(f.setIfInBounds i true).getD j false) (t:=t) ops.size (i+1) (by omega) (fun j y p hyd=>⟨fun s=>?_,fun h1 h2=>?_⟩)
      ·rw[e2,zC,hx];simp[F]
      ·simp only[u];by_cases ej:j=i
       ·simp[ej]
       simp only[ej,if_false];exact A j y (by omega) p (rV hyd F)
      simp only[u];rw[aPS (by omega)];exact C j y (by omega) p (rV F hyd)
     have e1:dB.get (kM W x.o.dst x.r.v) t=W.get t:=by
      cases hdd:x.o.dst with
      |none=>rfl
      |some d=>exact dB.get_cons_other _ _ (fun e=>F (by rw[hdd,e]))
     rw [e1,hE1 t];have:∀ n,zC E l (fun i=>f.getD i false) n t=zC E l (fun j=>(f.setIfInBounds i true).getD j false) n t:=by
      intro n
      induction n with
      |zero=>rfl
      | succ n D =>
       rw[zC,zC];cases hn:l[n]? with
       |none=>exact D
       |some y =>
        simp only;by_cases en:n=i
        ·subst en;rw[hx]at hn;cases hn;rw[aPS (fun h=>F h.2),aPS (fun h=>F h.2)];exact D
        have hS:(f.setIfInBounds i true).getD n false=f.getD n false:=by rw[u,aPS en]
        rw[hS,D]
     exact this _
    rw[C0];by_cases F:(x.r.W.get k).isSome=true
    ·obtain ⟨ob,hob⟩:=Option.isSome_iff_exists.1 F;rw[hob];have e2:=pL (H:=H) (l:=l) (S:=fun j=>(f.setIfInBounds i true).getD j false) (id:=k) ops.size (i+1) (by omega) (fun j y p hyd=>⟨fun s=>?_,fun h1 h2=>?_⟩)
     ·rw[e2,xN,hx];simp[hob]
     ·simp only[u];by_cases ej:j=i
      ·simp[ej]
      simp only[ej,if_false];exact A j y (by omega) p (C3 hyd F)
     simp only[u];rw[aPS (by omega)];exact C j y (by omega) p (C3 F hyd)
    have hnone:x.r.W.get k=none:=by simpa using F
    rw [hnone];simp only;rw [hH1 k];have:∀ n,xN H l (fun i=>f.getD i false) n k=xN H l (fun j=>(f.setIfInBounds i true).getD j false) n k:=by
     intro n
     induction n with
     |zero=>rfl
     | succ n D =>
      rw[xN,xN];cases hn:l[n]? with
      |none=>exact D
      |some y =>
       simp only;by_cases en:n=i
       ·subst en;rw[hx]at hn;cases hn;rw[aPS (fun h=>F h.2),aPS (fun h=>F h.2)];exact D
       have hS:(f.setIfInBounds i true).getD n false=f.getD n false:=by rw[u,aPS en]
       rw[hS,D]
    exact this _
   unfold wpOpIn;simp only[ho];rw[hxo]at hdst z T;rw[hxo]at S;have hgE:∀(j:Nat) (M:Bool) (t:Tmp) (b:Bool),(ops[i]).guard=some (j,M)->iM ops.toList j=some t->Ek.get t=some (.pv (.bool b))->yielded ops a.tmps j=some b:=by
    intro j M t b hg p V;have hmem:t∈gT ops.toList ops[i]:=by simp[gT,hg,p]
    exact tK (E:=W) p ((z t hmem).trans V) q.rel.choose_spec.choose_spec.2.2
   have hnd:ro=none\/(ops[i]).noDefer=true:=hnd0.imp (fun h=>h) fun h=>List.all_eq_true.1 h _ (by simp);cases hdst with
   |plain hg h =>
    have hw:Region.wanted ops[i] (yielded ops a.tmps)=true:=by simp[Region.wanted,hg]
    simp only[hw,if_true];refine q.op T ((h H1 U).restr z) ?_ hnd;rintro r H2 a' w' ⟨rfl,rfl⟩ hs';exact S _ a' w' rfl hs'
   |on j M t b hg p V hw h =>
    have hy:=hgE j M t b hg p V;have hw:Region.wanted ops[i] (yielded ops a.tmps)=true:=by simp[Region.wanted,hg,hy,hw]
    simp only[hw,if_true];refine q.op T ((h H1 U).restr z) ?_ hnd;rintro r H2 a' w' ⟨rfl,rfl⟩ hs';exact S _ a' w' rfl hs'
   | off j M t x' hg p V hw hv hW =>
    have hmem:t∈gT ops.toList ops[i]:=by simp[gT,hg,p]
    have hw:Region.wanted ops[i] (yielded ops a.tmps)=false :=
     HY (E:=W) hg p ((z t hmem).trans V) hw q.rel.choose_spec.choose_spec.2.2
    simp only[hw,Bool.false_eq_true,if_false];refine⟨fun _ _=>trivial,?_⟩;refine S (.tup []) _ w hv.symm ?_;obtain ⟨I,ι,hr,hst2,X⟩:=q.rel;rw[hv,hW];refine⟨?_,?_,I,ι,hr,hst2,jB.put hr (Step.refl _ _ _ _) X jB.skip (by rw[q.size];exact T)⟩
    ·rw[jC];exact q.defers
    have:=q.size;cases (ops[i]).dst<;>simpa[Act.put]using this
 have hs':St G N E H a {w with drawn:=w.drawn+1}:=by
  obtain ⟨I,ι,hr,hst2,X⟩:=hs.rel;obtain ⟨k2,k3⟩:=hr.drawn (w':={w with drawn:=w.drawn+1}) rfl rfl rfl rfl;exact⟨hs.defers,hs.size,I,ι,k2,hst2.trans k3,fun t v ht=>let ⟨c,h1,h2⟩:=X t v ht;⟨c,h1,h2.mono hr k3⟩⟩
 refine main ops.size (Array.replicate ops.size false) a _ E H (by simp) (by
  have:=List.length_filter_le (fun i=>!(Array.replicate ops.size false).getD i true) (List.range ops.size)
  simpa using this) (fun j o p R=>by simp[Array.getD]at R) hs' (fun t=>?_) (fun k=>?_)
 ·have:∀n,zC E l (fun i=>(Array.replicate ops.size false).getD i false) n t=E.get t:=by
   intro n
   induction n with
   |zero=>rfl
   | succ n D =>
    rw[zC];cases l[n]? with
    |none=>exact D
    |some y =>
     have hf:(Array.replicate ops.size false).getD n false=false:=by simp[Array.getD]
     simp only[hf,Bool.false_eq_true,false_and,if_false];exact D
  exact(this _).symm
 have:∀n,xN H l (fun i=>(Array.replicate ops.size false).getD i false) n k=H.get k:=by
  intro n
  induction n with
  |zero=>rfl
  | succ n D =>
   rw[xN];cases l[n]? with
   |none=>exact D
   |some y =>
    have hf:(Array.replicate ops.size false).getD n false=false:=by simp[Array.getD]
    simp only[hf,Bool.false_eq_true,false_and,if_false];exact D
 exact(this _).symm
end
section
def eP(P:Program)(T:TypeId)(cells:List AV):Prop:=∃z v,(∀w,(zeroValue T).run P w=.ok z w)/\ZV z v/\TO v=some cells
def lY(P:Program)(T:TypeId)(places:List (Nat×Nat))(l0:List AV):Prop :=∃fs pl z v,P.underlying T=some (.struct fs)/\(∀w,(zeroValue T).run P w=.ok z w)/\ZV z v/\TO v=some l0/\(∀w,((fs.mapM fun f=>do pure (f.offset,<-sizeOf f.type)):Sem (Array (Nat×Nat))).run P w=.ok pl w)/\pl.toList=places
def KN(P:Program)(T:TypeId)(sz:Nat)(l0:List AV):Prop :=∃n e z v,P.underlying T=some (.array n e)/\(∀w,(zeroValue T).run P w=.ok z w)/\ZV z v/\TO v=some l0/\∀w,(sizeOf e).run P w=.ok sz w
def fA(P:Program)(T e sz:TypeId):Prop:=P.underlying T=some (.slice e)/\(∀w,(sizeOf e).run P w=.ok sz w)/\0<sz/\∃z,∀w,(zeroValue e).run P w=.ok z w
def EI(P:Program)(e:TypeId)(sz bytes:Nat):Prop:=XE P e sz bytes/\0<bytes
theorem EI.mk{P}{e}{sz bytes}{z}(h:(P.info? e).map (fun i=>(i.zero,i.size,i.bytes))=some (some z,sz,bytes))(d:z.cells.size=sz)(c:0<sz)(b:0<bytes):EI P e sz bytes:=by
 refine⟨?_,b⟩;cases a:P.info? e with
 |none=>rw[a]at h;cases h
 |some i =>
  rw[a]at h;simp[Option.map_some,Option.some.injEq,Prod.mk.injEq]at h;obtain ⟨g,f,j⟩:=h;exact⟨i,z,a,g,f,j,d,c⟩
theorem cS.congr{P}{N}{o}{E}{H H2 H3}{v}(h:cS P N o E H v H2)(l:∀j,H3.get j=H2.get j):cS P N o E H v H3:=by intro a w I ι n m k f K Q i;refine h a w I _ n m k f K Q ?_;rintro c w' I' ι' r H' ⟨rfl,rfl⟩ g b d;obtain ⟨p,e⟩:=b.congr l;exact i c _ _ _ _ _ ⟨rfl,rfl⟩ (g.mono b e) p (d.trans e)
theorem tZ(H:aH)(id)(o):∀j,aH.get ((id,o)::H) j=(H.set id o).get j:=by
 intro j;by_cases e:j=id
 ·subst e;rw[aH.get_set_same,get_cons_same]
 rw[aH.get_set_other _ _ e,get_cons_other _ _ e]
section
variable{P:Program}{o:Oper}{T:TypeId}{x y:Operand}
theorem bW{cells}{id n}(b:o.op=.alloc T)(g:eP P T cells)(d:cells.length=n+1)(a:H.get id=none):cS P N o E H (.ref id 0 0 0) ((id,⟨0,n+1,T,[cells]⟩)::H) :=let ⟨_,_,f,e,c⟩:=g;aCB b f e c d a
theorem JW{a}{places}{l0 l}{aps}(f:o.op=.build T a)(c:lY P T places l0)(b:oG E a.toList=some aps)(hf:AN (fun i=>places[i]?) l0 aps=some l):
  cS P N o E H (.agg l) H:=by
 obtain ⟨fs,pl,z,v,e,h,g,d,j,h6⟩:=c;refine HG f e h g d j b ?_
 grind
theorem vS{a}{sz}{l0 l}{aps}(f:o.op=.build T a)(c:KN P T sz l0)(b:oG E a.toList=some aps)(h:AN (fun i=>some (i*sz,sz)) l0 aps=some l):
  cS P N o E H (.agg l) H :=
 let ⟨_,_,_,_,e,j,g,d,k⟩:=c;OK f e j g d k b h
theorem aR{e:Nat}{a}{aps}{rows}(ps)(h:o.op=.buildSlice T n a)(hS:fA P T e sz)(m:Nat.ble (n*sz) 16777216=true)(f:oG E a.toList=some aps)(j:JK 0 aps=some rows)
  (c:ps.map (·.map AV.pv)=rows) (b:ps.length=n) (d:∀r∈ps,r.length=sz):cS P N o E H (.pv (.sl ps)) H :=
 let ⟨g,k,i,_,l⟩:=hS;LZ h g k l (aP7 m) i f j c b d
theorem gB{e:Nat}{a}{aps}{rows}(i:o.op=.buildSlice T n a)(hS:fA P T e sz)(g:Nat.ble (n*sz) 16777216=true)(f:oG E a.toList=some aps)(k:JK 0 aps=some rows)
  (b:rows.length=n) (c:∀r∈rows,r.length=sz) (d:H.get id=none):cS P N o E H (.osl id 0 0 n) ((id,⟨0,sz,e,rows⟩)::H) :=
 let ⟨h,l,j,_,m⟩:=hS;D5 i h l m (aP7 g) j f k b c d
theorem cM{v}{cells r}{id g n}{ob}(d:o.op=.store T x y)(h:∀w,(sizeOf T).run P w=.ok n w)(e:aP E x=some (.ref id g 0 0))(f:aP E y=some v)(i:TO v=some cells)
  (c:cells.length=n) (b:H.get id=some ob) (a:ob.g=g) (hi:ob.rows=[r]) (hk:r.length=n):cS P N o E H .any ((id,⟨g,ob.sz,ob.ty,[cells]⟩)::H):=by
 subst a;refine cS.congr (HF (r':=cells) d e f i h c b rfl (by rw[hi];rfl) (by omega) ?_ rfl) (fun j=>?_)
 ·simp_all
 rw[tZ]
 grind
theorem bH{v}{r r'}{id g i k}{ob}{rows'}(e:o.op=.store T x y)(l:∀w,(sizeOf T).run P w=.ok 1 w)(f:aP E x=some (.ref id g i k))(h:aP E y=some v)(m:TO v=some [v])
  (n:H.get id=some ob) (c:ob.g=g) (hi:ob.rows[i]?=some r) (d:k<r.length) (b:r.set k v=r') (a:ob.rows.set i r'=rows'):cS P N o E H .any ((id,⟨g,ob.sz,ob.ty,rows'⟩)::H):=by
 subst c a;refine cS.congr (HF e f h m l rfl n rfl hi (by omega) ?_ rfl) (fun j=>tZ _ _ _ j);rw[<-b,List.set_eq_take_append_cons_drop,aPT d];rfl
theorem lI{v}{cells r r'}{id g i k n}{ob}{rows'}(f:o.op=.store T x y)(m:∀w,(sizeOf T).run P w=.ok n w)(l:aP E x=some (.ref id g i k))(h:aP E y=some v)(p:TO v=some cells)
  (q:cells.length=n) (d:H.get id=some ob) (c:ob.g=g) (hi:ob.rows[i]?=some r) (e:k+n<=r.length) (b:r.take k++(cells++r.drop (k+n))=r') (a:ob.rows.set i r'=rows'):cS P N o E H .any ((id,⟨g,ob.sz,ob.ty,rows'⟩)::H):=by
 subst c a;exact cS.congr (HF f l h p m q d rfl hi e b rfl) (fun j=>tZ _ _ _ j)
theorem UL{n m bytes}(a:0<bytes)(h:(n+m)*bytes<=140737488355328):n+m<=9223372036854775807:=by have:n+m<=(n+m)*bytes:=Nat.le_mul_of_pos_right _ a;omega
theorem dL{e}{ob}{ps}{rows'}(u:o.op=.call {callee:=.builtin .append,args:=#[x,y],argTypes:=#[T,T]})(hS:fA P T e sz)(b:EI P e sz bytes)
  (q:aP E x=some (.osl id g 0 n)) (i:H.get id=some ob) (t:ob.g=g) (d:ob.sz=sz) (h:ob.ty=e) (l:ob.rows.length=n)
  (p:aP E y=some (.pv (.sl ps))) (f:∀r∈ps,r.length=sz) (v:ps.length=m) (a:(n+m)*bytes<=140737488355328) (s:n+m=k) (c:ob.rows++ps.map (·.map AV.pv)=rows') :
  cS P N o E H (.osl id (g+1) 0 k) ((id,⟨g+1,sz,e,rows'⟩)::H):=by
 subst s c;exact cS.congr (OL u hS.1 b.1 q i t d h l p f v a (UL b.2 a) rfl) (fun j=>tZ _ _ _ j)
theorem BF{e}{c:Nat}{s k2}{f g}{b}(A:o.op=.makeSlice T x y)(hS:fA P T e sz)(a:EI P e sz bytes)(i:eP P e b)(d:b.length=sz)
  (m:aP E x=some (.pv (.int s f))) (k:aP E y=some (.pv (.int k2 g))) (r:0<=f) (t:f<=g) (n:f.toNat=l) (q:g.toNat=c) (w:bytes*c<=281474976710656) (h:H.get id=none) :
  cS P N o E H (.osl id 0 0 l) ((id,⟨0,sz,e,List.replicate l b⟩)::H):=by
 obtain ⟨z,v,j,u,p⟩:=i;have hpos:c<=bytes*c:=Nat.le_mul_of_pos_left _ a.2;exact OD A hS.1 a.1 j u p d m k r t n q w (by omega) h
theorem bP{e}{rows}{r}{h}{n}(c:o.op=.indexAddr T x y)(hS:fA P T e sz)
  (d:aP E x=some (.pv (.sl rows))) (f:aP E y=some (.pv (.int h n))) (g:0<=n) (a:n.toNat=m) (hi:rows[m]?=some r) (b:r.length=sz):cS P N o E H (.pad rows m 0) H :=
 OE c hS.1 hS.2.1 d f g a hi b
theorem dP{e}{c}{n}{m2:Nat}{ob}(f:o.op=.indexAddr T x y)(hS:fA P T e sz)
  (i:aP E x=some (.osl id g off len)) (d:H.get id=some ob) (k:ob.g=g) (a:ob.sz=sz) (h:aP E y=some (.pv (.int c n))) (j:0<=n) (l:n.toNat=m) (hi:m<len) (b:off+m=m2):cS P N o E H (.ref id g m2 0) H :=
 OF f hS.1 hS.2.1 i d k a h j l hi b
theorem yS{e}{d hi}{rows rows'}(k:o.op=.slice T x d hi none)(hS:fA P T e sz)(g:aP E x=some (.pv (.sl rows)))
  (a:∀r∈rows,r.length=sz) (c:bnd E d 0=some (l:Int)) (b:bnd E hi rows.length=some (h:Int)) (j:l<=h) (f:h<=rows.length) (i:(rows.take h).drop l=rows'):cS P N o E H (.pv (.sl rows')) H :=
 SL k hS.1 hS.2.1 g a c b j f i
theorem iT{e}{k hi}{a b:Nat}{ob}(m:o.op=.slice T x k hi none)(hS:fA P T e sz)(n:aP E x=some (.osl id g off len))
  (s:H.get id=some ob) (q:ob.g=g) (f:ob.sz=sz) (j:bnd E k 0=some (l:Int)) (d:bnd E hi len=some (h:Int)) (p:l<=h) (r:h<=len) (c:off+l=a) (i:h - l=b):cS P N o E H (.osl id g a b) H :=
 DN m hS.1 hS.2.1 n s q f j d p r c i
end
section
variable{P:Program}{ops:Array Oper}{K:dB->aH->Prop}{o:Oper}{rest:List Oper}
theorem aGD{j}{a b}{t d}{v}{H2}(l:o.guard=some (j,a))(e:iM ops.toList j=some t)(c:E.get t=some (.pv (.bool b)))(m:b=a)(hd:o.dst=some d)(g:Nat.blt d N=true)(h:cS P N o E H v H2)
  (i:AL P G0 N ops K rest ((d,v)::E) H2):AL P G0 N ops K (o::rest) E H :=
 aNT l e c m (by rw[hd];exact g) h fun r H' ⟨f,k⟩=>by subst f k;rw[hd];exact i
theorem aBy{c x y}{b}{v}(a:o.op=.pick c x y)(d:aP E c=some (.pv (.bool b)))(hb:b=true)(hv:aP E x=some v):cS P N o E H v H:=BQ a d (by simp_all)
theorem aBz{c x y}{b}{v}(a:o.op=.pick c x y)(d:aP E c=some (.pv (.bool b)))(hb:b=false)(hv:aP E y=some v):cS P N o E H v H:=BQ a d (by simp_all)
end
section
variable{P:Program}{ops:Array Oper}{K:dB->aH->Prop}
theorem dA.sub{E'}(h:∀k v,E'.get k=some v->E.get k=some v):dA G0 E H E' H:=by intro G hG N a w c;obtain ⟨I,g,e,b,d⟩:=c.rel;exact⟨c.defers,c.size,I,g,e,b,fun t v f=>d t v (h t v f)⟩
theorem aGC{l}{t:Tmp}{b}(hb:E.get t=some (.pv (.bool b)))(i:b=true->AL P G0 N ops K l ((t,.pv (.bool true))::E) H)(m:b=false->AL P G0 N ops K l ((t,.pv (.bool false))::E) H):AL P G0 N ops K l E H:=by
 have d:∀c,b=c->AL P G0 N ops K l ((t,.pv (.bool c))::E) H->AL P G0 N ops K l E H:=by
  rintro c rfl h G g a w j;refine h G g a w (dA.sub (fun k v f=>?_) G g N a w j);by_cases e:t=k
  ·subst e;rw[dB.get_cons_same]at f
   grind
  rwa [dB.get_cons_other _ _ e]at f
 cases b
 ·exact d _ rfl (m rfl)
 exact d _ rfl (i rfl)
def aNG(t:Nat)(D E:dB):Bool:=D.all fun p=>Nat.beq p.1 t||E.all fun q=>!(Nat.beq p.1 q.1)
def XD(n t:Nat)(X:Bool)(E:dB)(H:aH)(E1:dB)(H1:aH):Prop:=(∃b,E1.get t=some (.pv (.bool b))/\b=X)/\H1=H/\E1.drop n=E/\aNG t (E1.take n) E=true
theorem aI0(D E)(k):dB.get (D++E) k=match D.get k with|some v=>some v|none=>E.get k:=by
 induction D with
 |nil=>rfl
 |cons x r a =>
  obtain ⟨i,v⟩:=x;cases e:Nat.beq i k with
  |true=>simp[dB.get,e]
  |false=>simpa[dB.get,e]using a
theorem XD.ent{n t}{X}{d}{H1}(h:XD n t X E H d H1):dA G0 d H1 ((t,.pv (.bool X))::E) H:=by
 obtain ⟨⟨b,h1,rfl⟩,rfl,i,j⟩:=h;refine dA.sub fun k v c=>?_;by_cases e:t=k
 ·subst e;rw[dB.get_cons_same]at c
  grind
 rw[dB.get_cons_other _ _ e]at c;have a:d.take n++E=d:=by rw[<-i];exact List.take_append_drop n _
 rw[<-a,aI0];cases m:dB.get _ k with
 |none=>exact c
 |some u =>
  have l:=gL m;have g:=gL c;have f:=List.all_eq_true.1 j _ l;simp only[kX (Ne.symm e),Bool.false_or]at f;have:=List.all_eq_true.1 f _ g;simp[oO]at this
theorem kH{id n t}{d}{X}{Q}(h:gR P G0 N (.region id ops d) (fun e c H1=>e=.normal/\XD n t X E H c H1) E H)(g:Q .normal ((t,.pv (.bool X))::E) H):gR P G0 N (.region id ops d) Q E H:=by intro G f a w k ro j;refine wpIn_mono (h G f a w k _ j) ?_;rintro e a' w' ⟨c,H1,⟨rfl,i⟩,b⟩;exact⟨_,_,g,(i.ent) G f N _ _ b⟩
theorem aT{id n t}{X}{Q}(h:AL P G0 N ops (fun c H1=>XD n t X E H c H1) ops.toList E H)(e:Q .normal ((t,.pv (.bool X))::E) H):gR P G0 N (.region id ops false) Q E H :=kH (AJ (fun G i a w j ro g Q' f=>h G i a w j _ g _ (fun c H1 a1 w1 d b=>f _ _ _ _ ⟨rfl,d⟩ b))) e
end
section
variable{P:Program}{o:Oper}{v:AV}{j:Nat}{t:Tmp}{b:Bool}{r:Rec}
theorem aKE(e:o.guard=some (j,true))(d:iM ops j=some t)(a:E.get t=some (.pv (.bool b)))(c:b=true)(h:cS P N o (restr E (gT ops o)) H v H):DStep P N ops o E H ⟨v,none,[]⟩:=.qon e d a c h
theorem aKF(e:o.guard=some (j,false))(d:iM ops j=some t)(a:E.get t=some (.pv (.bool b)))(c:b=false)(h:cS P N o (restr E (gT ops o)) H v H):DStep P N ops o E H ⟨v,none,[]⟩:=.qon e d a c h
theorem aHU(e:o.guard=some (j,true))(d:iM ops j=some t)(a:E.get t=some (.pv (.bool b)))(c:b=false):DStep P N ops o E H ⟨.tup [],some [],[]⟩:=.qoff e d a (by simp[VH,c])
theorem aHV(e:o.guard=some (j,false))(d:iM ops j=some t)(a:E.get t=some (.pv (.bool b)))(c:b=true):DStep P N ops o E H ⟨.tup [],some [],[]⟩:=.qoff e d a (by simp[VH,c])
theorem aHT{a}(d:o.guard=some (j,a))(e:iM ops j=some t)(c:E.get t=some (.tup [])):DStep P N ops o E H ⟨.tup [],some [],[]⟩:=.qoff d e c rfl
theorem cI(e:o.guard=some (j,true))(d:iM ops j=some t)(a:E.get t=some (.pv (.bool b)))(c:b=true)(h:∀H1,(∀id,zP r.R id=true->H1.get id=H.get id)->cS P N o (restr E (gT ops o)) H1 r.v (r.W++H1)):DStep P N ops o E H r:=.on j _ t b e d a c h
end
theorem aI.pure{P}{f}{args}{b}(h:aI P f args [] (fun r H=>r=b/\H=[]))(c:∀a∈args,Clo [] a)(H):aI P f args H (fun r H'=>r=b/\H'=H) :=(h.frame0 c (fun _ _ g=>g.2) H).mono fun _ _ ⟨⟨e,_⟩,d⟩=>⟨e,d⟩
def EN(P:Program)(id g:Nat)(args:List AV)(H:aH)(Q:AV->aH->Prop):Prop :=∀(I:Nat->Prop) (ι:kJ) (w:World) (vs:Array Value) (v:Value),Rel I ι H w->VRel w I ι H v (.yld id g)->vs.size=args.length->(∀(i:Nat) (v:Value) (a:AV),vs[i]?=some v->args[i]?=some a->VRel w I ι H v a) ->
  ∃l f tmps assign body,v=.func (.yield l) #[] #[]/\(Instr.yield l vs).run P w=.ok (.round l f tmps assign body) w /\
   RoundIn Fence.wide 0 P l f tmps assign body w fun e w'=>∃r H' I' ι' v',e=.returned v'/\Q r H'/\VRel w' I' ι' H' v' r/\Rel I' ι' H' w'/\Step I ι H w I' ι' H' w'
def dK(P:Program)(fv:AV)(args:List AV)(H:aH)(Q:AV->aH->Prop):Prop :=(∃id g,fv=.yld id g/\EN P id g args H Q)\/∃F caps,(fv=.clo F caps\/(fv=.pv (.fn F)/\caps=[]))/\(∀(args:Array Value) (w:World),(callFunc F args).run P w=.ok (.enter F args) w)/\aI P F (args++caps) H Q
theorem dK.clo{P}{F}{a args}{H}{Q}(b:∀(args) (w),(callFunc F args).run P w=.ok (.enter F args) w)(h:aI P F (args++a) H Q):dK P (.clo F a) args H Q:=.inr ⟨F,a,.inl rfl,b,h⟩
theorem dK.fn{P}{F}{args}{H}{Q}(a:∀(args) (w),(callFunc F args).run P w=.ok (.enter F args) w)(h:aI P F args H Q):dK P (.pv (.fn F)) args H Q:=.inr ⟨F,[],.inr ⟨rfl,rfl⟩,a,by simpa using h⟩
theorem SI{P}{o:Oper}{Q}{f}{args}{c}{e}(s:o.op=.call {callee:=.value f,args:=args,argTypes:=c})(t:aP E f=some (.yld id g))
  (j:wM E args.toList=some e) (h:EN P id g e H Q):Z3 P N o E H Q:=by
 intro a w I p _ _ u k K Q' hk;have d:=aJ k t;obtain ⟨l1,m⟩:=nK k (lW j);obtain ⟨l,fn,tmps,assign,body,r,x,n⟩:=h I p w (args.map a.eval) _ u d (by simp_all) (fun i v b j q=>m i v b (by simp_all) q);unfold Oper.wpW execOp;simp only[s,resolve,r,Deferred.ofValue,Sem.run_bind,Sem.run_pure,Result.andThen_ok,invoke,Array.empty_append,x];refine n.mono ?_
 grind
theorem cU{P}{N}{o}{E}{H}{Q}{f}{args}{i}{l}{j}(b:o.op=.call {callee:=.value f,args:=args,argTypes:=i})(e:aP E f=some j)
  (c:wM E args.toList=some l) (h:dK P j l H Q):Z3 P N o E H Q:=by
 rcases h with⟨id,g,rfl,h⟩|⟨F,caps,d,k,a⟩
 ·exact SI b e c h
 rcases d with rfl|⟨rfl,rfl⟩
 ·exact SK b e k c a
 exact aA b e k c (by simpa using a)
def aGS(E:dB):dB->Prop
 | []=>True
 |(t,v)::r=>(∃v0,E.get t=some v0/\v0=v)/\aGS E r
theorem dA.e0{G0}{E E'}{H}(h:aGS E E'):dA G0 E H E' H:=by
 refine dA.env ?_
 induction E' with
 |nil=>simp
 |cons x r ih =>
  obtain ⟨⟨v0,h1,rfl⟩,h2⟩:=h
  grind
theorem Fin.refl{G0 H}{r}:Fin G0 H r H r:=fun _ _ I b _ _ a d c=>⟨I,b,a,d,c⟩
def aKy:AV->Option Value
 |.pv (.int k n)=>some (.int k n)
 |.pv (.bool b)=>some (.bool b)
 |.pv (.str s)=>some (.string s)
 |_=>none
def F6:List AV->Option (List Value)
 | []=>some []
 |a::r=>match aKy a,F6 r with
  |some v,some vs=>some (v::vs)
  |_,_=>none
theorem aIR{w}{I}{ι}{H}{c v}{a}(h:VRel w I ι H c a)(b:aKy a=some v):c=v:=by
 unfold aKy at b
 split at b<;>cases b
 ·exact h.int_inv
 ·exact h.bool_inv
 exact h.str_inv
theorem F5{c:Value}{l:List AV}{d:List Value}(h:VRel w I ι H c (.agg l))(p:F6 l=some d):c=.agg d.toArray:=by
 cases h with
 | @agg b _ s n f =>
  congr 1;have m:∀(l:List AV) (d b:List Value),b.length=l.length->(∀(i:Nat) (v:Value) (a:AV),b[i]?=some v->l[i]?=some a->VRel w I ι H v a)->F6 l=some d->b=d:=by
   intro l
   induction l with
   |nil=>intro d b n _ e;simp[F6]at e;simp_all
   | cons a r x =>
    intro d b n f e;unfold F6 at e
    split at e
    ·rename_i v k o t;cases e;cases b with
     |nil=>grind
     |cons u b =>
      have q:u=v:=aIR (f 0 u a rfl rfl) o;rw[q,x k b (by grind) (fun i v a j g=>f (i+1) v a (by simpa using j) (by simpa using g)) t]
    grind
  have:=m l d b.toList (by simpa using s) (fun i v a j g=>f i v a (by simpa using j) g) p;rw[<-this]
section
variable{P:Program}{o:Oper}{T t':TypeId}{x y:Operand}{l1 l2:List AV}{xs ys:List Value}{b:Bool}
theorem xX(g:o.op=.binOp .eql T x y t')(i:aP E x=some (.agg l1))(h:aP E y=some (.agg l2))(f:F6 l1=some xs)(l:F6 l2=some ys)(k:P.eqGuardType P.depth T=false)
  (d:∀w,(Op.equalIn 10000 T (.agg xs.toArray) (.agg ys.toArray)).run P w=.ok b w):cS P N o E H (.pv (.bool b)) H :=
 .of_run fun a w I ι _ c=>⟨.bool b,by
  have e:=F5 (aJ c i) f;have j:=F5 (aJ c h) l;simp[execOp,g,e,j,Sem.run_bind,run_eqGuard_agg w _ _ _ _ _ _ k,Result.andThen_ok,run_eql_struct w,d,Sem.run_pure],.pv (.bool _)⟩
theorem xW(g:o.op=.binOp .neq T x y t')(i:aP E x=some (.agg l1))(h:aP E y=some (.agg l2))(f:F6 l1=some xs)(l:F6 l2=some ys)(k:P.eqGuardType P.depth T=false)
  (d:∀w,(Op.equalIn 10000 T (.agg xs.toArray) (.agg ys.toArray)).run P w=.ok b w):cS P N o E H (.pv (.bool (!b))) H :=
 .of_run fun a w I ι _ c=>⟨.bool _,by
  have e:=F5 (aJ c i) f;have j:=F5 (aJ c h) l;simp[execOp,g,e,j,Sem.run_bind,run_eqGuard_agg w _ _ _ _ _ _ k,Result.andThen_ok,run_neq_struct w,d,Sem.run_pure],.pv (.bool _)⟩
end
theorem kK{n}(h0 : -9223372036854775808<=n)(h1:n<=9223372036854775807):IntKind.i64.wrap n=n:=by rw[IntKind.wrap_i64];omega
theorem wu8{n}(h0:0<=n)(h1:n<=255):IntKind.u8.wrap n=n:=by
 simp[IntKind.wrap,IntKind.bits,IntKind.signed]
 grind
end
abbrev iv(n:Int):AV:=.pv (.int .i64 n)
abbrev bv(b:Bool):AV:=.pv (.bool b)
abbrev sv(s:ByteArray):AV:=.pv (.str s)
abbrev lv(l:List (List PV)):AV:=.pv (.sl l)
abbrev av(l:List PV):AV:=.agg (l.map .pv)
abbrev bx(n T:Nat)(r:List AV):Ob:=⟨0,n,T,[r]⟩
theorem eI.of{H}(h:∀p∈H,∀r∈p.2.rows,∀a∈r,Clo H a):eI H:=fun _ _ b=>h _ (dY b)
theorem Sub.app{D H}(b:∀p∈D,H.get p.1=none):Sub H (D++H):=fun id o a=>by
 rw[C0];cases e:D.get _ with
 |none=>exact a
 |some o'=>exact absurd (b _ (dY e)) (by simp_all)
def DC(P:Program)(N:Nat)(ops rest:List Oper)(E:dB)(H:aH)(K:List Rec->dB->aH->Prop):Prop:=∃rs E' H',DChain P N ops rest E H rs E' H'/\K rs E' H'
theorem bL{P}{N}{ops}{E}{H}{K}(h:K [] E H):DC P N ops [] E H K:=⟨_,_,_,.nil,h⟩
theorem bF{P}{N}{ops rest}{o}{E}{H}{K}{r}(h:DStep P N ops o E H r)(hd:iN N o.dst=true)
  (b:DC P N ops rest (kM E o.dst r.v) (r.W++H) (fun a E' H'=>K (r::a) E' H')):DC P N ops (o::rest) E H K:=by
 obtain ⟨a,E',H',d,c⟩:=b;exact⟨_,_,_,.cons h hd d,c⟩
theorem aN{P}{G0}{N id}{Q}{ops}{E}{H}(b:P.follows .mixedOrders=true)
  (h:DC P N ops.toList ops.toList E H (fun a E' H'=>HJ ops.toList a=true/\Q .normal E' H')):gR P G0 N (.region id ops true) Q E H:=by
 obtain ⟨a,E',H',e,c,d⟩:=h;exact aFs b e c d
def aFQ:PV->Bool
 |.int _ _=>true
 |.bool _=>true
 |.str _=>true
 |_=>false
theorem PRep.flat{w w'}{I b}{v}{p}(h:PRep w I v p)(a:aFQ p=true):PRep w' b v p:=by cases h<;>first|(constructor;done)|(simp[aFQ]at a)
def RO(P:Program)(f:FuncId)(args:List AV)(H:aH)(p:PV):Prop :=∀(I:Nat->Prop) (ι:kJ) (w:World) (vs:Array Value),Rel I ι H w->vs.size=args.length->(∀(i:Nat) (v:Value) (a:AV),vs[i]?=some v->args[i]?=some a->VRel w I ι H v a) ->
  Calls P f vs w fun e w'=>∃v,e=.returned v/\(∀w2 I2,PRep w2 I2 v p)/\w'.os=w.os/\w'.tape=w.tape/\w'.output=w.output/\w.heap.size<=w'.heap.size /\
   (∀a,a.block<w.heap.size->w'.frozen? a=w.frozen? a)/\∀b,b<w.heap.size->w'.heap[b]?=w.heap[b]?
theorem RO.of{P}{f}{args}{p}(h:aI P f args [] (fun r H=>r=.pv p/\H=[]))(m:aFQ p=true):RO P f args [] p:=by
 intro I o w vs l j i;refine(h I _ w _ l j i).mono ?_;rintro e w' ⟨r,H',I',ι',v,rfl,⟨rfl,rfl⟩,q,k2,c⟩;have d:∀b,¬ JT o [] b:=fun b ⟨_,_,_,k,_⟩=>by cases k
 exact⟨v,rfl,fun w2 I2=>q.pv_inv.flat m,c.os,c.tape,c.output,c.size,fun a n=>c.froz a n (d _),fun b g=>c.keep b g (d b)⟩
theorem RO.lend{P}{f}{args args'}{p}{H H1}{id}{ob}(ps)(h:RO P f args' H1 p)(g:H.get id=some ob)(c:ob.rows=ps.map (·.map .pv))(hl:args.length=args'.length)
  (m:∀(i:Nat) (a a'),args[i]?=some a->args'[i]?=some a'->Fz H1 id ob.g ps a a') (j:Sub H1 H) (o:eI H1) (e:H1.get id=none):RO P f args H p:=by
 intro I ι w vs k hlen n;refine h _ _ w _ (k.freeze j o g e) (by omega) ?_;intro i v a' l b;have d:i<args.length:=by
  have:=(aPY.1 b).1;omega
 exact VRel.freeze k j g c (m i _ _ (aPZ d) b) (n i v _ l (aPZ _))
theorem RO.calls{P}{f}{args}{p}{H}(h:RO P f args H p):aI P f args H (fun r H'=>r=.pv p/\H'=H):=by
 intro I n w vs d z k;refine(h I _ w _ d z k).mono ?_;rintro e w' ⟨v,rfl,y,u,t,x,l,q,m⟩;have c:Step I _ H w I n H _ :=
  ⟨u,t,x,l,fun a s _=>q a s,fun _ h=>h,fun _ h=>.inl h,fun _ h=>.inl h,fun b j _=>m b j,fun id o i=>⟨o,i,aP0 _,fun _=>⟨rfl,rfl,fun _=>aP0 _⟩⟩⟩
 refine⟨.pv p,H,I,n,v,rfl,⟨rfl,rfl⟩,.pv (y _ _),?_,c⟩;refine⟨fun b j=>Nat.lt_of_lt_of_le (d.imm b j) l,fun id o i=>?_,d.inj,c.glob d⟩;exact(d.obj _ o i).keep rfl (fun b' _ _ g=>⟨m _ g,fun h=>h⟩) (fun r _ a _ v k=>k.mono d c)
theorem jA{P}{G0}{N}{Q}{E}{H}{h}(S:α->β->dB×aH)(J:α->β->Prop)(g:α->β->Nat)(e)(c)(i:J e c)(f:dA G0 E H (S e c).1 (S e c).2)
  (round:∀a b,J a b->gR P G0 N h (yP (fun E' H'=>∃a' d,J a' d/\g a' d<g a b/\dA G0 E' H' (S a' d).1 (S a' d).2) Q) (S a b).1 (S a b).2):gR P G0 N (.loop h) Q E H:=by
 refine bT (fun s=>S s.1 s.2) (fun s=>J s.1 s.2) (fun s=>g s.1 s.2) (e,c) i f ?_
 simp_all
theorem IG{P}{G0}{N}{Q}{E}{H}{j}(S:α->β->γ->dB×aH)(J:α->β->γ->Prop)(h:α->β->γ->Nat)(f)(d)(g)(k:J f d g)(i:dA G0 E H (S f d g).1 (S f d g).2)
  (round:∀a b c,J a b c->gR P G0 N j (yP (fun E' H'=>∃a' e c',J a' e c'/\h a' e c'<h a b c/\dA G0 E' H' (S a' e c').1 (S a' e c').2) Q) (S a b c).1 (S a b c).2):gR P G0 N (.loop j) Q E H:=by
 refine bT (fun s=>S s.1 s.2.1 s.2.2) (fun s=>J s.1 s.2.1 s.2.2) (fun s=>h s.1 s.2.1 s.2.2) (f,d,g) k i ?_
 simp_all
theorem Q8{P}{G0}{N}{Q}{E}{H}{l}{δ:Type}(S:α->β->γ->δ->dB×aH)(J:α->β->γ->δ->Prop)(j:α->β->γ->δ->Nat)(h)(e)(i)(f)(m:J h e i f)(k:dA G0 E H (S h e i f).1 (S h e i f).2)
  (round:∀a b c d,J a b c d->gR P G0 N l (yP (fun E' H'=>∃a' g c' d',J a' g c' d'/\j a' g c' d'<j a b c d/\dA G0 E' H' (S a' g c' d').1 (S a' g c' d').2) Q) (S a b c d).1 (S a b c d).2):gR P G0 N (.loop l) Q E H:=by
 refine bT (fun s=>S s.1 s.2.1 s.2.2.1 s.2.2.2) (fun s=>J s.1 s.2.1 s.2.2.1 s.2.2.2) (fun s=>j s.1 s.2.1 s.2.2.1 s.2.2.2) (h,e,i,f) m k ?_
 simp_all
theorem aAz(f:α->List _)(l:List _)(H):∀r∈l.map (fun e=>(f e).map AV.pv),∀a∈r,Clo H a:=by simp
theorem qN{H}{id g}{ps}:∀(i:Nat) (a a'),[][i]?=some a->[][i]?=some a'->Fz H id g ps a a':=fun i a a' h=>by simp
theorem dR{H}{id g}{ps}{x d}{l e}(h:Fz H id g ps x d)(f:∀(i:Nat) (a a'),l[i]?=some a->e[i]?=some a'->Fz H id g ps a a'):
  ∀(i:Nat) (a a'),(x::l)[i]?=some a->(d::e)[i]?=some a'->Fz H id g ps a a'
 |0,a,a',c,b=>by cases c;cases b;exact h
 |i+1,a,a',c,b=>f i a _ c b
inductive Nz(H':aH)(id:Nat):AV->AV->Prop
 |same {a:AV} (h:Clo H' a):Nz H' id a a
 |own:Nz H' id (.pv .nils) (.osl id 0 0 0)
 |weak:Nz H' id (.pv .nils) (.pv (.sl []))
 |agg {cs cs':List AV} (hl:cs.length=cs'.length) (h:∀(i:Nat) (a a':AV),cs[i]?=some a->cs'[i]?=some a'->Nz H' id a a'):Nz H' id (.agg cs) (.agg cs')
 |tup {cs cs':List AV} (hl:cs.length=cs'.length) (h:∀(i:Nat) (a a':AV),cs[i]?=some a->cs'[i]?=some a'->Nz H' id a a'):Nz H' id (.tup cs) (.tup cs')
def aBN(H H':aH):Prop:=∀j o',H'.get j=some o'->∃o,H.get j=some o/\o.g=o'.g/\o.sz=o'.sz/\o.ty=o'.ty/\o.rows.length=o'.rows.length
theorem VRel.alike(r:aBN H H'){a:AV}(h:VRel w I ι H v a):Clo H' a->VRel w I ι H' v a:=by
 induction h with
 |any v=>exact fun _=>.any v
 |pv h=>exact fun _=>.pv h
 |ref o k x j h =>
  intro d;rw[rU]at d;obtain ⟨g,c⟩:=Option.isSome_iff_exists.1 d;obtain ⟨t,f,s,q,u,y⟩:=r _ g c;rw[k]at f;cases f;exact .ref g c (by omega) j (fun e=>by simp_all)
 |pad b C B G h A z F E d D=>exact fun _=>.pad b C B G h A z F E d D
 |osl o k x j h =>
  intro d;rw[aIf]at d;obtain ⟨g,c⟩:=Option.isSome_iff_exists.1 d;obtain ⟨t,f,s,q,u,y⟩:=r _ g c;rw[k]at f;cases f;exact .osl g c (by omega) j (fun e=>by simp_all)
 |clo p h m =>
  intro d;rw[aIh]at d;exact .clo p (fun i v a n l=>m i v a n l (d a (aP4 l)))
 |bnd p h m =>
  intro d;rw[aIi]at d;exact .bnd p (fun i v a n l=>m i v a n l (d a (aP4 l)))
 |agg p j h m =>
  intro d;rw[TC]at d;exact .agg p j (fun i v a n l=>m i v a n l (d a (aP4 l)))
 |tup p h m =>
  intro d;rw[aIe]at d;exact .tup p (fun i v a n l=>m i v a n l (d a (aP4 l)))
 |mp o k x j h =>
  intro d;rw[aLP]at d;obtain ⟨g,c⟩:=Option.isSome_iff_exists.1 d;obtain ⟨t,f,s,q,u,y⟩:=r _ g c;rw[k]at f;cases f;exact .mp g c (by omega) j (fun e=>by simp_all)
 |it o k x j h =>
  intro d;rw[aLQ]at d;obtain ⟨g,c⟩:=Option.isSome_iff_exists.1 d;obtain ⟨t,f,s,q,u,y⟩:=r _ g c;rw[k]at f;cases f;exact .it g c (by omega) j (fun e=>by simp_all)
 |yld o k x j h =>
  intro d;rw[aId]at d;obtain ⟨g,c⟩:=Option.isSome_iff_exists.1 d;obtain ⟨t,f,s,q,u,y⟩:=r _ g c;rw[k]at f;cases f;exact .yld g c (by omega) j (fun e=>by simp_all)
 |osc o k x j h =>
  intro d;rw[aIg]at d;obtain ⟨g,c⟩:=Option.isSome_iff_exists.1 d;obtain ⟨t,f,s,q,u,y⟩:=r _ g c;rw[k]at f;cases f;exact .osc g c (by omega) j (fun e=>by rw[<-q];exact h (by omega))
theorem Nz.raw{H'}{id}{a a'}(h:Nz H' id a a'){y}{b}(e:a'=.raw y b):a=.raw y b:=by cases h<;>first|exact e|cases e
theorem VRel.nz{w}{I}{ι}{H H'}{id}(t:aBN H H')(l:ι id=none)(g:H'.get id=some ob)(hg:ob.g=0)(e:0<ob.sz){a a'}(s:Nz H' id a a'):∀ {v},VRel w I ι H v a->VRel w I ι H' v a':=by
 induction s with
 |same h=>exact fun c=>c.alike t h
 |own =>
  intro v c;have:=c.pv_inv;cases this;exact .osl ob g (by omega) rfl (fun _=>⟨e,by omega,.inr ⟨l,rfl,rfl,rfl⟩⟩)
 |weak =>
  intro v c;have:=c.pv_inv;cases this;exact .pv .nilsl
 | @agg j n o h k =>
  intro v c;cases c with
  |agg d x q =>
   refine .agg (d.trans o) x (fun i u a' m b=>?_);have f:=List.getElem?_eq_getElem (l:=j) (i:=i) (by have:=(aPY.1 b).1;omega);exact k i _ a' f b (q i u _ m f)
 | @tup j n o h k =>
  intro v c;cases c with
  |tup d q =>
   refine .tup (d.trans o) (fun i u a' m b=>?_);have f:=List.getElem?_eq_getElem (l:=j) (i:=i) (by have:=(aPY.1 b).1;omega);exact k i _ a' f b (q i u _ m f)
def NzL(H:aH)(id:Nat):List AV->List AV->Prop
 | [],[]=>True
 |a::l,b::r=>Nz H id a b/\NzL H id l r
 |_,_=>False
theorem NzL.spec{H}{id}:∀ {l r},NzL H id l r->l.length=r.length/\∀(k:Nat) (a b),l[k]?=some a->r[k]?=some b->Nz H id a b
 | [],[],_=>⟨rfl,fun k a b h=>by grind⟩
 | a::l,b::r,h=>⟨by simp [(NzL.spec h.2).1],fun k x y c d=>by
   cases k with
   |zero=>cases c;cases d;exact h.1
   |succ k=>exact(NzL.spec h.2).2 k x y c d⟩
 | [],_::_,h=>h.elim
 |_::_,[],h=>h.elim
def NzR(H:aH)(id:Nat)(rows rows':List (List AV)):Prop:=(rows=rows'/\∀r∈rows',∀a∈r,Clo H a)\/∃r r',rows=[r]/\rows'=[r']/\NzL H id r r'
theorem NzR.spec{H}{rows rows'}(h:NzR H id rows rows'):rows.length=rows'.length/\∀(i:Nat) (r'),rows'[i]?=some r'->∃r,rows[i]?=some r/\r.length=r'.length/\∀(k:Nat) (b:AV),r'[k]?=some b->∃a,r[k]?=some a/\Nz H id a b:=by
 rcases h with⟨rfl,f⟩|⟨r,r',rfl,rfl,e⟩
 ·exact⟨rfl,fun i r' c=>⟨r',c,rfl,fun k b d=>⟨b,d,.same (f r' (aP4 c) b (aP4 d))⟩⟩⟩
 refine⟨rfl,fun i r2 c=>?_⟩;cases i with
 |zero =>
  obtain ⟨e1,e2⟩:=e.spec
  grind
 |succ i=>grind
def NzE(E:dB)(H:aH)(id:Nat):dB->Prop
 | []=>True
 |(t,v)::r=>(∃v0,E.get t=some v0/\Nz H id v0 v)/\NzE E H id r
theorem NzE.spec{E}{H}{id}:∀ {E'},NzE E H id E'->∀p∈E',∃v0,E.get p.1=some v0/\Nz H id v0 p.2
 |(t,v)::r,h,p,a=>by
  rcases aP6.1 a with e|e
  ·subst e;exact h.1
  exact NzE.spec h.2 p e
def NzH(H H2:aH)(id:Nat):aH->Prop
 | []=>True
 |(j,o')::r=>(∃o,H.get j=some o/\o.g=o'.g/\o.sz=o'.sz/\o.ty=o'.ty/\NzR H2 id o.rows o'.rows)/\NzH H H2 id r
theorem NzH.spec{H H2}{id}:∀ {H'},NzH H H2 id H'->∀p∈H',∃o,H.get p.1=some o/\o.g=p.2.g/\o.sz=p.2.sz/\o.ty=p.2.ty/\NzR H2 id o.rows p.2.rows
 |(j,o')::r,h,p,a=>by
  rcases aP6.1 a with e|e
  ·subst e;exact h.1
  exact NzH.spec h.2 p e
theorem dA.nz(id sz ty:Nat)(P:H.get id=none)(hsz:Nat.blt 0 sz=true)(hE:NzE E ((id,⟨0,sz,ty,[]⟩)::H') id E')(hH:NzH H ((id,⟨0,sz,ty,[]⟩)::H') id H')(hk:KOk ((id,⟨0,sz,ty,[]⟩)::H') H G0):
  dA G0 E H E' ((id,⟨0,sz,ty,[]⟩)::H'):=by
 intro G hG N a w X;obtain ⟨I,ι,hr,C,he⟩:=X.rel;obtain ⟨B,R⟩:=hr.adopt (sz:=sz) (ty:=ty) P (by simp_all);have J:0<sz:=by simp_all
 obtain ⟨f,K⟩:∃f:kJ,f=(fun j=>if j=id then none else ι j):=⟨_,rfl⟩;rw[<-K]at B R;have n:f id=none:=by simp_all
 obtain ⟨x,s⟩:∃x:aH,x=(id,(⟨0,sz,ty,[]⟩:Ob))::H:=⟨_,rfl⟩;obtain ⟨q,A⟩:∃q:aH,q=(id,(⟨0,sz,ty,[]⟩:Ob))::H':=⟨_,rfl⟩;rw[<-s]at B R;rw[<-A]at hE hH hk |-;have g1:x.get id=some ⟨0,sz,ty,[]⟩:=by rw[s];simp[aH.get]
 have g2:q.get id=some ⟨0,sz,ty,[]⟩:=by rw[A];simp[aH.get]
 have n1:∀j,j≠id->x.get j=H.get j:=fun j e=>by rw[s];simp[aH.get,kX (Ne.symm e)]
 have n2:∀j,j≠id->q.get j=H'.get j:=fun j e=>by rw[A];simp[aH.get,kX (Ne.symm e)]
 have g:∀j l,q.get j=some l->∃o,x.get j=some o/\o.g=l.g/\o.sz=l.sz/\o.ty=l.ty/\NzR q id o.rows l.rows:=by
  intro j l p;by_cases e:j=id
  ·subst e;rw[g2]at p;cases p;exact⟨_,g1,rfl,rfl,rfl,.inl ⟨rfl,by simp⟩⟩
  rw[n2 j e]at p;obtain ⟨o,m,u⟩:=hH.spec _ (dY p)
  simp_all
 have L:aBN x q:=fun j l p=>by
  obtain ⟨o,m,u,e3,e4,e5⟩:=g j l p;exact⟨o,m,u,e3,e4,e5.spec.1⟩
 have Q:∀b,JT f q b->JT f x b:=by
  rintro b ⟨j,l,c,p,T⟩;obtain ⟨o,m,_⟩:=g j l p;exact⟨j,o,c,m,T⟩
 have D:Rel I f q w:=by
  refine⟨B.imm,fun j l p=>?_,fun j j' o l b c c' M Y=>?_,B.glob⟩
  ·obtain ⟨o,m,u,e3,e4,e5⟩:=g j l p;obtain ⟨s1,s2⟩:=e5.spec;refine(B.obj j o m).keepG e3.symm e4.symm s1.symm (UW s1 (fun i r' hi=>by
    obtain ⟨r,t1,t2,U⟩:=s2 i r' hi;refine⟨r,t1,t2,fun k a Z h1 h2 y ts e=>?_⟩;obtain ⟨z,F,u2⟩:=U k Z h2;rw[h1]at F;cases F;exact u2.raw e)) rfl (fun _ _ _ _=>⟨rfl,fun h=>h⟩) (fun i r' hi=>?_)
   obtain ⟨r,t1,t2,U⟩:=s2 i r' hi;refine⟨r,t1,t2,fun k a Z h1 h2 v S=>?_⟩;obtain ⟨y,F,u2⟩:=U k Z h2;rw[h1]at F;cases F;exact VRel.nz L n g2 rfl J u2 S
  obtain ⟨V,m,_⟩:=g j o M;obtain ⟨o2,u,_⟩:=g j' l Y;exact B.inj j j' V o2 b c c' m u
 have d:=C.trans R;have O:Step G.I G.ι G.H G.w I f q w:=by
  refine⟨d.os,d.tape,d.output,d.size,d.froz,d.imm,d.immNew,fun b T=>d.own b (Q b T),d.keep,fun j o M=>?_⟩;obtain ⟨V,m,u⟩:=d.objs j o M;subst hG;have W:=hk.kept j (by rw[M];rfl);by_cases e:j=id
  ·subst e;obtain ⟨o0,e0,_⟩:=C.objs j o M;rw[P]at e0;cases e0
  rw[n1 j e]at m;exact⟨V,W.trans m,u⟩
 refine⟨X.defers,X.size,I,f,D,O,fun t v S=>?_⟩;obtain ⟨v0,f1,f2⟩:=hE.spec _ (gL S);obtain ⟨c,c1,c2⟩:=he t v0 f1;exact⟨c,c1,VRel.nz L n g2 rfl J f2 (c2.mono hr R)⟩
end Go.Abs
namespace Go.Abs
open Go.Proofs.YtmdicgjnmfolfaaGreatDoor
section
theorem aFd{H}(d:DataW H):1<=Rows.uptoBulk d:=by
 cases d with
 |lit l=>cases l<;>simp[Rows.uptoBulk]
 |_=>simp[Rows.uptoBulk]
theorem aFe{H}{d:DataW H}{l}(h:d∈l):Rows.uptoBulk d<=Rows.uptoBulkAll l:=by
 induction l with
 |nil=>cases h
 |cons x r ih =>
  simp[Rows.uptoBulkAll]
  grind
theorem aFf{H}(l:List (DataW H)):l.length<=Rows.uptoBulkAll l:=by
 induction l with
 |nil=>simp
 |cons x r ih=>have:=aFd x;simp[Rows.uptoBulkAll,aPW];omega
inductive PL(w:World)(I:Nat->Prop):List Value->List PV->Prop
 |nil:PL w I [] []
 |cons {c:Value} {p:PV} {cs:List Value} {ps:List PV} (h:PRep w I c p) (r:PL w I cs ps):PL w I (c::cs) (p::ps)
theorem PL.length{w}{I}{cs}{ps}(h:PL w I cs ps):cs.length=ps.length:=by
 induction h with
 |nil=>rfl
 |cons h r ih=>grind
theorem PL.append{w}{I}{cs cs'}{ps a}(h:PL w I cs ps)(b:PL w I cs' a):PL w I (cs++cs') (ps++a):=by
 induction h with
 |nil=>exact b
 |cons h r c=>exact .cons h c
theorem PL.get{w}{I}{cs}{ps}(h:PL w I cs ps):∀(k:Nat) (c) (p),cs[k]?=some c->ps[k]?=some p->PRep w I c p:=by
 induction h with
 |nil=>simp_all
 |cons h r ih =>
  grind
def EH(P:Program):Nat->List Field->Nat->Bool
 |o,[],n=>Nat.beq o n
 |o,f::r,n=>Nat.beq f.offset o&&EH P (o+P.cellsOf f.type) r n
def JJ(P:Program)(e:TypeId):Nat->Nat->List Field
 |_,0=>[]
 |o,k+1=>⟨"",e,o,false, "", "",0⟩::JJ P e (o+P.cellsOf e) k
theorem IH{P}{e}:∀ {o k},(JJ P e o k).length=k
 |_,0=>rfl
 |o,k+1=>congrArg _ (IH)
theorem RA{P}{e}:∀ {k o i} {f},(JJ P e o k)[i]?=some f->f.type=e/\f.offset=o+i*P.cellsOf e
 |0,o,i,f,h=>by cases h
 |k+1,o,0,f,h=>by
  obtain rfl:=Option.some.inj h
  simp_all
 |k+1,o,i+1,f,h=>by
  have:=RA (show (JJ P e _ k)[i]?=some f from h)
  grind
def AQ(P:Program):Nat->TypeId->Bool
 |0,_=>false
 |n+1,t=>match P.underlying t with
  |some .bool=>true
  |some (.int _)=>true
  |some .string=>true
  |some (.slice e)=>AQ P n e&&Nat.blt 0 (P.cellsOf e)
  |some (.struct fs)=>EH P 0 fs.toList (P.cellsOf t)&&fs.toList.all fun f=>AQ P n f.type
  |some (.array k e)=>EH P 0 (JJ P e 0 k) (P.cellsOf t)&&(JJ P e 0 k).all fun f=>AQ P n f.type
  |_=>false
def ShF(S:TypeId->List PV->Prop)(c:TypeId->Nat):List Field->List PV->Prop
 | [],ps=>ps=[]
 |f::r,ps=>∃a b,ps=a++b/\a.length=c f.type/\S f.type a/\ShF S c r b
def Sh(P:Program)(B:Nat):Nat->TypeId->List PV->Prop
 |0,_,_=>False
 |n+1,t,ps=>match P.underlying t with
  |some .bool=>∃b,ps=[.bool b]
  |some (.int k)=>∃i,ps=[.int k i]/\(Lit.int k i).wf=true
  |some .string=>∃s,ps=[.str s]/\s.size<=B
  |some (.slice e)=>∃rows,ps=[.sl rows]/\rows.length<=B/\∀r∈rows,r.length=P.cellsOf e/\Sh P B n e r
  |some (.struct fs)=>ShF (fun t ps=>Sh P B n t ps) P.cellsOf fs.toList ps
  |some (.array k e)=>ShF (fun t ps=>Sh P B n t ps) P.cellsOf (JJ P e 0 k) ps
  |_=>False
abbrev Old(W:World):Nat->Prop:=fun b=>b<W.heap.size
theorem aE1{W}{a}{v}(h:W.cell? a=some v):a.spot=none/\Old W a.block:=by
 unfold World.cell? at h
 split at h
 ·next c t fr e =>
  refine⟨?_,(Array.getElem?_eq_some_iff.1 e).1⟩
  simp_all
 grind
section
variable{H:Type}{enc:TypeId×Value->H}{P:Program}{W:World}{B:Nat}
theorem Q0{P}:∀ {fs} {o n},EH P o fs n=true->o<=n
 | [],o,n,h=>Nat.le_of_eq (Nat.eq_of_beq_eq_true h)
 |f::fs,o,n,h=>by
  simp[EH,aP3]at h;have:=Q0 h.2;omega
theorem H8{m n:Nat}{cs:List Value}(p:∀(t:TypeId) (cs:List Value) (x),AQ P n t=true->DataW.trod enc P W 0 (fun _=>true) true m t cs=some x->Rows.uptoBulk x.1<=B->∃ps,PL W (Old W) cs ps/\Sh P B n t ps):
  ∀(fs:List Field) (xs:List _) (o:Nat),EH P o fs cs.length=true->(fs.all fun f=>AQ P n f.type)=true->xs.length=fs.length ->
   (∀(i:Nat) (f:Field),fs[i]?=some f->DataW.trod enc P W 0 (fun _=>true) true m f.type ((cs.drop f.offset).take (P.cellsOf f.type))=xs[i]?)->Rows.uptoBulkAll (xs.map (·.1))<=B ->
   ∃ps,PL W (Old W) (cs.drop o) ps/\ShF (fun t ps=>Sh P B n t ps) P.cellsOf fs ps
 | [],xs,o,c,_,l,d,j=>by
  have:o=cs.length:=Nat.eq_of_beq_eq_true c;subst this;exact⟨[],by rw[List.drop_length];exact .nil,rfl⟩
 |f::fs,[],o,c,_,l,d,j=>by grind
 | f::fs,x::xs,o,c,e,l,d,j=>by
  simp only[EH,aP3]at c;have r:f.offset=o:=Nat.eq_of_beq_eq_true c.1;simp only[List.all_cons,aP3]at e;simp only[List.map_cons,Rows.uptoBulkAll]at j;have k:=d 0 f rfl;rw[r]at k;obtain ⟨a,q,s⟩:=p f.type _ x e.1 k (by omega);obtain ⟨b,w,u⟩:=H8 p fs xs (o+P.cellsOf f.type) c.2 e.2 (by simp_all) (fun i g v=>d (i+1) g v) (by omega);have hle:=Q0 c.2;have h:a.length=P.cellsOf f.type:=by
   rw[<-q.length,aP8,aP9];omega
  refine⟨a++b,?_,a,b,rfl,h,s,u⟩;have:=q.append w
  rwa [<-List.drop_drop,List.take_append_drop]at this
theorem J0:∀(n:Nat) (t:TypeId),AQ P n t=true->∀(m:Nat) (cs:List Value) (x:DataW H×List MemPlace),DataW.trod enc P W 0 (fun _=>true) true m t cs=some x->Rows.uptoBulk x.1<=B->∃ps,PL W (Old W) cs ps/\Sh P B n t ps
 |0,t,y,m,cs,x,h,R=>by cases y
 | n + 1, t, y, m, cs, x, h, R => by
  unfold AQ at y
  split at y
  ·next j =>
   obtain ⟨b,rfl,rfl⟩:=DataW.trod_bool j h;exact⟨[.bool b],.cons (.bool b) .nil,by unfold Sh;rw[j];exact⟨b,rfl⟩⟩
  ·next k j =>
   obtain ⟨i,rfl,rfl,hw⟩:=DataW.trod_int j h;exact⟨[.int k i],.cons (.int k i) .nil,by unfold Sh;rw[j];exact⟨i,rfl,hw⟩⟩
  ·next j =>
   obtain ⟨s,rfl,rfl,hs⟩:=DataW.trod_string j h;have C:s.size<=B:=by
    have Z:s.data.toList.length=s.size:=Array.length_toList;simp only[Rows.uptoBulk]at R;omega
   exact⟨[.str s],.cons (.str s) .nil,by unfold Sh;rw[j];exact⟨s,rfl,C⟩⟩
  ·next e j =>
   simp only[aP3,Nat.blt_eq]at y;obtain ⟨hpe,C⟩:=y;rcases DataW.trod_slice j h with⟨rfl,rfl⟩|⟨a,u,S,g,V,K,rfl,rfl,rfl,_,hlc,hmax,hlen,T,N,_⟩
   ·exact⟨[.sl []],.cons .nilsl .nil,by unfold Sh;rw[j];exact⟨[],rfl,by simp,by simp⟩⟩
   obtain ⟨hrl,N⟩:=N rfl;simp only[Rows.uptoBulk]at R;rcases Nat.eq_zero_or_pos S with hc0|hcpos
   ·have I:u=0:=by omega
    subst I hc0;exact⟨[.sl []],.cons (.empsl a) .nil,by unfold Sh;rw[j];exact⟨[],rfl,by simp,by simp⟩⟩
   have M:∃v,W.cell? a=some v:=by
    rcases Nat.eq_zero_or_pos u with I|hlp
    ·subst I;have G:=N 0 (by omega);have E:=List.getElem?_eq_getElem (l:=V) (i:=0) (by omega);rw[E,Option.bind_eq_some_iff]at G;obtain ⟨c0,U,_⟩:=G;obtain ⟨_,q2,q3⟩:=World.cells?_some U;have:=q3 0 C;simp only[Nat.add_zero,Nat.zero_mul]at this;rw[Addr.add_zero',Addr.add_zero',aPZ (by omega)]at this;exact⟨_,this⟩
    have G:=T 0 hlp;have E:=List.getElem?_eq_getElem (l:=g) (i:=0) (by omega);rw[E,Option.bind_eq_some_iff]at G;obtain ⟨c0,U,_⟩:=G;obtain ⟨_,q2,q3⟩:=World.cells?_some U;have:=q3 0 C;simp only[Nat.zero_mul]at this;rw[Addr.add_zero',Addr.add_zero',aPZ (by omega)]at this;exact⟨_,this⟩
   obtain ⟨v0,hv0⟩:=M;obtain ⟨A,F⟩:=aE1 hv0;obtain ⟨b,z,sp⟩:=a;simp only at A F;subst A;have Q:∀i,i<u->∃ps:List PV,∃w,W.cells? 0 (Addr.add ⟨b,z,none⟩ (i*P.cellsOf e)) (P.cellsOf e)=some w/\PL W (Old W) w ps/\Sh P B n e ps:=by
    intro i D;have G:=T i D;have E:=List.getElem?_eq_getElem (l:=g) (i:=i) (by omega);rw[E,Option.bind_eq_some_iff]at G;obtain ⟨w,U,q2⟩:=G;have hbi:Rows.uptoBulk (g[i]'(by omega)).1<=B:=by
     have:=aFe (List.mem_map_of_mem (f:=fun x:DataW H×List MemPlace=>x.1) (List.getElem_mem (l:=g) (n:=i) (by omega)));omega
    obtain ⟨ps,s1,s2⟩:=J0 n e hpe K w _ q2 hbi;exact⟨ps,w,U,s1,s2⟩
   obtain ⟨d,r1,r2⟩:∃d:List (List PV),d.length=u/\∀i r,d[i]?=some r->∃w,W.cells? 0 (Addr.add ⟨b,z,none⟩ (i*P.cellsOf e)) (P.cellsOf e)=some w/\PL W (Old W) w r/\Sh P B n e r:=by
    refine⟨(List.range u).map (fun i=>if h:i<u then(Q i h).choose else[]),by simp,fun i r q=>?_⟩
    grind
   have L:∀(i:Nat) (r:List PV),d[i]?=some r->r.length=P.cellsOf e:=fun i r q=>by
    obtain ⟨w,Y,X,c3⟩:=r2 i r q;rw[<-X.length];exact(World.cells?_some Y).2.1
   refine⟨[.sl d],.cons ?_ .nil,by
    unfold Sh;rw[j];refine⟨d,rfl,?_,fun r q=>?_⟩
    ·have:=aFf (g.map (·.1));simp only[aPU]at this;omega
    obtain ⟨i,D⟩:=aPf.1 q;obtain ⟨w,Y,X,c3⟩:=r2 i r D;exact⟨L i r D,c3⟩⟩
   rw[<-r1];have o:∀(i:Nat) (r:List PV),d[i]?=some r->∀(k:Nat) (p:PV),r[k]?=some p->∃v,W.cell? ⟨b,z+i*P.cellsOf e+k,none⟩=some v/\PRep W (Old W) v p:=by
    intro i r q k p O;obtain ⟨w,Y,X,c3⟩:=r2 i r q;obtain ⟨_,d1,d2⟩:=World.cells?_some Y;have hkl:k<P.cellsOf e:=by rw[<-L i r q];exact(aPY.1 O).1
    have Z:=d2 k hkl;rw[Addr.add_lit,Addr.add_lit]at Z;have e2:w[k]?=some (w[k]'(by omega)):=aPZ (by omega);exact⟨_,Z.trans e2,X.get k _ p e2 O⟩
   refine PRep.sl b z S (P.cellsOf e) d (fun i k=>(W.cell? ⟨b,z+i*P.cellsOf e+k,none⟩).getD undef) F C (fun r q=>?_) (by omega) (fun i r q k p O=>?_) (fun i r q k p O=>?_)
   ·obtain ⟨i,D⟩:=aPf.1 q;exact L i r D
   ·obtain ⟨v,v1,v2⟩:=o i r q k p O;simp[v1]
   obtain ⟨v,v1,v2⟩:=o i r q k p O;simp[v1,v2]
  ·next fs j =>
   simp only[aP3]at y;obtain ⟨xs,K,rfl,rfl,hl,J,hf⟩:=DataW.trod_struct j h;simp only[Rows.uptoBulk]at R;obtain ⟨ps,p1,p2⟩:=H8 (n:=n) (m:=K) (B:=B) (fun t cs x a b c=>J0 n t a K cs x b c) fs.toList xs 0 (by rw[hl];exact y.1) y.2 (by simpa using J) (fun i f D=>hf i f (by simpa using D)) (by omega);exact⟨ps,by simpa using p1,by unfold Sh;rw[j];exact p2⟩
  ·next k e j =>
   simp only[aP3]at y;obtain ⟨xs,K,rfl,rfl,hl,J,hf⟩:=DataW.trod_array j h;simp only[Rows.uptoBulk]at R;obtain ⟨ps,p1,p2⟩:=H8 (n:=n) (m:=K) (B:=B) (fun t cs x a b c=>J0 n t a K cs x b c) (JJ P e 0 k) xs 0 (by rw[hl];exact y.1) y.2 (by rw[IH,J]) (fun i f D=>by
    obtain ⟨g1,g2⟩:=RA D;have hlt:i<k:=by
     have:=(aPY.1 D).1
     rwa [IH]at this
    rw[g1,g2,aPc];exact hf i hlt) (by omega)
   exact⟨ps,by simpa using p1,by unfold Sh;rw[j];exact p2⟩
  grind
end
end
end Go.Abs
namespace Go.Abs
open Go.Proofs.YtmdicgjnmfolfaaGreatDoor Go.ChangeShapes Go.WideShapes Go.ChangeAt Go.RowKit
variable{n base:Nat}{v:Value}{f:Func}{s:ChangeSpec}{c:Bool}{args:Array Value}
section
def aBF(P:Program)(t:TypeId)(ps:List PV):AV :=match P.underlying t with
 |some (.struct _)=>.agg (ps.map .pv)
 |some (.array _ _)=>.agg (ps.map .pv)
 |_=>match ps with
  | [p]=>.pv p
  |_=>.any
section
variable{H:Type}{enc:TypeId×Value->H}{P:Program}{W:World}{B:Nat}
theorem PL.toV{I}{ι}{Hp}{cs}{ps}(h:PL W I cs ps)(i:Nat)(v)(a)(d:cs[i]?=some v)(b:(ps.map AV.pv)[i]?=some a):VRel W I ι Hp v a/\v.oneCell'=true:=by rw[aPe]at b;obtain ⟨p,c,rfl⟩:=Option.map_eq_some_iff.1 b;have:=h.get i v p d c;exact⟨.pv this,this.oneCell⟩
theorem aMm{n}{t}{v}{base}(d:AQ P n t=true)(b:Value.okWide P W .any base t v)(hno:∀fs,P.underlying t=some (.struct fs)->False)(hno2:∀k e,P.underlying t=some (.array k e)->False):v.cells.toList=[v]:=by
 cases n with
 |zero=>cases d
 |succ n =>
  unfold AQ at d;unfold Value.okWide at b
  split at d
  ·next c=>cases v<;>first|rfl|(simp[Cell.okWide,Cell.ok,c]at b)
  ·next k c=>cases v<;>first|rfl|(simp[Cell.okWide,Cell.ok,c]at b)
  ·next c=>cases v<;>first|rfl|(simp[Cell.okWide,Cell.ok,c]at b)
  ·next e c=>cases v<;>first|rfl|(simp[Cell.okWide,Cell.ok,c]at b)
  all_goals simp_all
theorem aIq{t:TypeId}{d:DataW H}{p:List MemPlace}(ι:kJ)(Hp:aH)(x:AQ P n t=true)(b:Value.okWide P W .any base t v)(h:DataW.Trod enc P W 0 (fun _=>true) true t v d p)(z:Rows.uptoBulk d<=B):
  ∃ps,Sh P B n t ps/\VRel W (Old W) ι Hp v (aBF P t ps):=by
 obtain ⟨m,A⟩:=h;obtain ⟨ps,f,C⟩:=J0 (B:=B) n t x m _ _ A z;refine⟨ps,C,?_⟩;unfold aBF
 split
 ·next w s =>
  unfold Value.okWide at b;rw[s]at b;obtain ⟨y,rfl,_,_⟩:=b;have u:=f.length;simp only[Value.cells,Array.length_toList]at u;refine .agg (by simp_all) (fun i v c=>?_) (fun i v a c r=>?_)
  ·have l:=(Array.getElem?_eq_some_iff.1 c).1;exact(PL.toV (ι:=ι) (Hp:=Hp) f i v (.pv (ps[i]'(by omega))) (by simpa[Value.cells]using c) (by simp_all)).2
  exact(PL.toV f i v a (by simpa[Value.cells]using c) r).1
 ·next k e s =>
  unfold Value.okWide at b;rw[s]at b;obtain ⟨y,rfl,_,_⟩:=b;have u:=f.length;simp only[Value.cells,Array.length_toList]at u;refine .agg (by simp_all) (fun i v c=>?_) (fun i v a c r=>?_)
  ·have l:=(Array.getElem?_eq_some_iff.1 c).1;exact(PL.toV (ι:=ι) (Hp:=Hp) f i v (.pv (ps[i]'(by omega))) (by simpa[Value.cells]using c) (by simp_all)).2
  exact(PL.toV f i v a (by simpa[Value.cells]using c) r).1
 next o g =>
 split
 ·next q =>
  have j:=aMm x b (fun w h=>o w h) (fun k e h=>g k e h);rw[j]at f;exact(PL.toV f 0 _ _ rfl rfl).1
 exact .any v
def JI(P:Program):List TypeId->List (List PV)->List AV
 |t::ts,p::ps=>aBF P t p::JI P ts ps
 |_,_=>[]
def RE(P:Program)(B n:Nat):List TypeId->List (List PV)->Prop
 | [],[]=>True
 |t::ts,p::ps=>Sh P B n t p/\RE P B n ts ps
 |_,_=>False
theorem aBc{n}{a}(h:RE P B n [] a):a=[]:=by
 cases a with
 |nil=>rfl
 |cons p ps=>exact h.elim
theorem LJ{n}{t}{b}{a}(h:RE P B n (t::b) a):∃p ps,a=p::ps/\Sh P B n t p/\RE P B n b ps:=by
 cases a with
 |nil=>exact h.elim
 |cons p ps=>exact⟨p,ps,rfl,h.1,h.2⟩
theorem W8{n}{base}(ι)(Hp):∀ {c} {e} {l} {p},DataW.TrodAll enc P W 0 (fun _=>true) true c e l p->c.all (AQ P n)=true ->
  (∀(j:Nat) t v,c[j]?=some t->e[j]?=some v->Value.okWide P W .any base t v)->Rows.uptoBulkAll l<=B ->
  ∃b,RE P B n c b/\e.length=(JI P c b).length/\∀(i:Nat) (v) (a),e[i]?=some v->(JI P c b)[i]?=some a->VRel W (Old W) ι Hp v a
 | [],e,l,p,h,k,m,o=>by
  obtain ⟨rfl,rfl,rfl⟩:=trodAll_nil h;exact⟨[],trivial,rfl,fun i v a h=>by grind⟩
 |t::c,e,l,p,h,k,m,o=>by
  obtain ⟨v,vs',d,ds',p1,p2,rfl,rfl,rfl,g,f⟩:=trodAll_cons h;simp only[List.all_cons,aP3]at k;simp[Rows.uptoBulkAll]at o;obtain ⟨r,x,u⟩:=aIq (B:=B) _ _ k.1 (m 0 t v rfl rfl) g (by omega);obtain ⟨b,q,w,s⟩:=W8 _ _ f k.2 (fun j t v g f=>m (j+1) t v g f) (by omega);refine⟨r::b,⟨x,q⟩,by simp[JI,w],fun i v a g f=>?_⟩;cases i with
  |zero=>cases g;cases f;exact u
  |succ i=>exact s i v a g f
theorem aHN(ι)(W)(a:NV (Old W) W):Rel (Old W) ι [] W:=⟨fun _ h=>h,fun _ _ h=>(by cases h),fun _ _ _ _ _ _ _ h=>(by cases h),a⟩
theorem ZS{I d}{ι a}{H'}{w w'}(h:Step I ι [] w d a H' w'):Below w.heap.size w w' :=⟨h.os,h.tape,h.output,h.size,fun k b=>h.keep k b (fun⟨_,_,_,c,_⟩=>by cases c)⟩
theorem NL(m:laidOutB P=true){k:World}(l:Below W.heap.size W k){j}:∀ {f} {g} {e} {p},DataW.TrodAll enc P W 0 (fun _=>true) true f g e p ->
  (f.all fun t=>P.readableRec t&&Nat.blt t P.types.size)=true->(∀x∈p,x.block<W.heap.size)->(∀x∈p,j x.block=true)->DataW.TrodAll enc P k 0 j true f g e p
 | [],g,e,p,h,c,a,b=>by
  obtain ⟨rfl,rfl,rfl⟩:=trodAll_nil h;exact trodAll_mk0
 | t::f,g,e,p,h,c,a,b=>by
  obtain ⟨v,vs',d,ds',p1,p2,rfl,rfl,rfl,o,n⟩:=trodAll_cons h;simp only[List.all_cons,aP3,Nat.blt_eq]at c;exact trodAll_cons_mk (WideElems.Trod_stays m c.1.1 c.1.2 o (fun x i=>l.same (a x (by grind))) (fun x i=>b x (by grind)))
   (NL m l n c.2 (fun x i=>a x (by grind)) (fun x i=>b x (by grind)))
theorem YG{g m l:Bool}{W n:World}{q x:List (DataW H)}{a pa pv:List MemPlace}
  (y:DataW.Whole enc P f.params.toList s.vars g W args.toList q x a)
  (h:∀(b:Nat) (k:Nat->Bool) (hd:Bool),DataW.TrodAll enc P n b k hd f.resultTypes.toList (v.resultList f.resultTypes.size) (s.fn H (q++x)).results [])
  (e:∀k:Nat->Bool,(∀p∈a,k p.block=true)->DataW.TrodAll enc P n 0 k true f.params.toList args.toList (s.fn H (q++x)).args pa)
  (d:∀k:Nat->Bool,(∀p∈a,k p.block=true)->DataW.TrodVars enc P n k s.vars (s.fn H (q++x)).vars pv)
  (C:a=pa++pv) (D:Below W.heap.size W n)
  (z:∀(j:Nat) (t:TypeId) (r:Value),f.resultTypes[j]?=some t->(v.resultList f.resultTypes.size)[j]?=some r->Value.okWide P n .any 0 t r) :
  s.post enc P f g m c l W args v n:=by
 have A:∀p∈a,p.block<W.heap.size:=fun p o=>y.lt p o;have i:∀p∈a,(fun b=>decide (b<W.heap.size)) p.block=true:=fun p o=>by simp_all
 refine⟨q,x,a,[],pa,pv,y,h _ _ _,e _ i,d _ i,World.keptBut_mono (fun p o=>⟨o,?_⟩) (D.frame (·∈a)),fun _=>?_⟩
 ·simp_all
 obtain ⟨_,_,_,_,_,E,hn⟩:=y;refine⟨z,_,_,([]++pa)++pv,⟨[]++pa,pv,trodAll_append (e _ (fun _ _=>rfl)) (h _ _ _),d _ (fun _ _=>rfl),rfl,?_,?_⟩,?_⟩
 ·intro b w o;have u:MemPlace.cell b w∈a:=by rw[C];simpa using o
  rw[D.frozen (A _ u)];exact E b w u
 all_goals simp_all
theorem aEo{J:FuncId}{k C A:Bool}{h gs:List (DataW H)}{m:List MemPlace}{bt:TypeId}
  (hl:laidOutB P=true) (w:(f.params.toList.all fun t=>P.readableRec t&&Nat.blt t P.types.size)=true) (l:f.params.toList.all (AQ P n)=true) (g:s.vars=[])
  (F:∀h:List (DataW H),h.length=f.params.toList.length->(s.fn H h).results=[.lit (.bool true)]/\(s.fn H h).args=h/\(s.fn H h).vars=[])
  (z:f.resultTypes=#[bt]) (G:P.underlying bt=some .bool)
  (u:∀(j:Nat) t v,f.params[j]?=some t->args[j]?=some v->Value.okWide P W .any base t v)
  (T:DataW.Whole enc P f.params.toList s.vars k W args.toList h gs m) (S:Rows.uptoBulkAll h<=B)
  (V:∀o,RE P B n f.params.toList o->aI P J (JI P f.params.toList o) [] (fun r H'=>r=.pv (.bool true)/\H'=[])) (hg:NV (Old W) W:=by exact fun p hp=>by cases hp) :
  Calls P J args W fun e Y=>∃v,e=.returned v/\s.post enc P f k C c A W args v Y:=by
 have D:=T;obtain ⟨p,q,E,L,rfl,N,M⟩:=T;rw[g]at L;obtain ⟨rfl,rfl⟩:=trodVars_none L;obtain ⟨o,Z,h2,X⟩:=W8 (B:=B) (base:=base) (fun _=>none) [] E l (fun j t v ht R=>u j t v (by simp_all) (by simp_all)) S;have hlen:h.length=f.params.toList.length:=by
  clear Z h2 X V F w l u D S N M;revert E;generalize f.params.toList=U;generalize args.toList=vs;intro E;clear L
  induction U generalizing vs h p with
  |nil=>obtain ⟨_,rfl,_⟩:=trodAll_nil E;rfl
  |cons t U ih =>
   obtain ⟨v,vs',d,ds',p1,p2,_,rfl,_,_,h2⟩:=trodAll_cons E
   grind
 refine(V o Z (Old W) (fun _=>none) W args (aHN _ W hg) (by omega) (fun i v a ha hb=>X i v a (by simp_all) hb)).mono ?_;rintro e Y ⟨r,H',I',ι',v,rfl,⟨rfl,rfl⟩,R,hr,K⟩;have O:v=.bool true:=R.bool_inv;subst O;have y:=ZS K;obtain ⟨f1,f2,f3⟩:=F (h++[]) (by simp_all);refine⟨_,rfl,YG (pa:=p) (pv:=[]) D (fun b Q hd=>?_) (fun Q I=>?_) (fun Q I=>?_) rfl y (ok_one z rfl (okWide_bool_mk G _))⟩
 ·rw[f1,z];exact trodAll_cons_mk (shut_bool G _) trodAll_mk0
 ·rw[f2,List.append_nil];exact NL hl y E w (fun x hx=>D.lt x (by grind)) (fun x hx=>I x (by grind))
 rw[f3,g];rfl
theorem tX{n}{t}{k}{ps}(ht:P.underlying t=some (.int k))(h:Sh P B (n+1) t ps):∃i,ps=[.int k i]/\(Lit.int k i).wf=true:=by unfold Sh at h;simp_all
theorem aGu{n}{t}{ps}(ht:P.underlying t=some .bool)(h:Sh P B (n+1) t ps):∃b,ps=[.bool b]:=by unfold Sh at h;simp_all
theorem qB{n}{t}{ps}(ht:P.underlying t=some .string)(h:Sh P B (n+1) t ps):∃s,ps=[.str s]/\s.size<=B:=by unfold Sh at h;simp_all
theorem nP{n}{t}{fs}{ps}(a:P.underlying t=some (.struct fs))(h:Sh P B (n+1) t ps):ShF (fun t ps=>Sh P B n t ps) P.cellsOf fs.toList ps:=by unfold Sh at h;rw[a]at h;exact h
theorem zD{t e}{ps}{α:Type}{f}{good:α->Prop}(j:P.underlying t=some (.slice e))(h:Sh P B (n+1) t ps)(hd:∀r,Sh P B n e r->∃a,r=f a/\good a):
  ∃l:List α,ps=[.sl (l.map f)]/\l.length<=B/\∀a,a∈l->good a:=by
 unfold Sh at h;rw[j]at h;obtain ⟨c,rfl,d,g⟩:=h;obtain ⟨l,k,m⟩:∃l:List α,c=l.map f/\∀a,a∈l->good a:=by
  clear d
  induction c with
  |nil=>simp_all
  |cons r rs i =>
   obtain ⟨l,k,m⟩:=i (fun r h=>g r (by simp[h]));obtain ⟨a,a1,a2⟩:=hd r (g r (by simp)).2;refine⟨a::l,by simp_all,fun b hb=>?_⟩
   grind
 grind
end
end
end Go.Abs
