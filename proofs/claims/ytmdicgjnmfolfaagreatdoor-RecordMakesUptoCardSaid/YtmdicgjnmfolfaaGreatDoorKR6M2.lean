/-
  Parts of the proof: rules of an abstract program logic, contracts of functions, plain laws. Conditions: each theorem's own.
-/
import Derived.Test.YtmdicgjnmfolfaaGreatDoorKR6M1
import Derived.Laws.BytesArg
import Derived.Test.YtmdicgjnmfolfaaGreatDoorRows
import Derived.OpenShut
set_option linter.unusedVariables false
set_option linter.unusedSimpArgs false
set_option maxRecDepth 100000
set_option maxHeartbeats 8000000
namespace Go.Abs
variable{w:World}{I:Nat->Prop}{ι:kY}{H H' G0:aH}{c:Operand}{d t:Tmp}{l l0 r args cs cells:List AV}{g off sz n id j i k len m bytes k2 N h:Nat}{E E' L:dG}{a:Act}{z v:Value}{v0:AV}{e ty S T:TypeId}{aps:List (Nat×AV)}{rows:List (List AV)}{ps:List (List PV)}{α β γ:Type}{b want:Bool}{ob o:Ob}{ops:Array Oper}{rest:List Oper}{K:dG->aH->Prop}{op:Op}{pos:String}{af:Array Edge}{x y:Code}{f:FuncId}{dst:Option Tmp}
section
def zP(w:World)(I:Nat->Prop)(ι:kY)(H:aH)(c:Array Value)(l:List AV):Prop :=c.size=l.length/\∀(j:Nat) (a:AV),l[j]?=some a->∃u,c[j]?=some u/\u.oneCell'=true/\VRel w I ι H u a
theorem NU(off):∀(l:List Value) (k:Nat) (cs:Array Value),
  ((l.zipIdx k).foldl (fun cs p=>cs.setIfInBounds (off+p.2) p.1) cs).size=cs.size /\
  ∀i,((l.zipIdx k).foldl (fun cs p=>cs.setIfInBounds (off+p.2) p.1) cs)[i]?=if off+k<=i/\i<off+k+l.length/\i<cs.size then l[i - (off+k)]? else cs[i]?
 | [],k,cs=>⟨by simp,fun i=>by rw[List.zipIdx_nil,List.foldl_nil,aQC (by grind)]⟩
 |v::l,k,cs=>by
  obtain ⟨h1,h2⟩:=NU off l (k+1) (cs.setIfInBounds (off+k) v);simp only[List.zipIdx_cons,List.foldl_cons]
  grind
def OH(l:List AV)(off:Nat)(vs:List AV):List AV:=l.take off++(vs++l.drop (off+vs.length))
theorem zP.fill{c d:Array Value}{g:List AV}(h:zP w I ι H c l)(hd:zP w I ι H d g)(hfit:off+g.length<=l.length):
  zP w I ι H (d.zipIdx.foldl (fun cs (x,j)=>cs.setIfInBounds (off+j) x) c) (OH l off g):=by
 have n:=NU off d.toList 0 c;have e:d.zipIdx.foldl (fun cs (x,j)=>cs.setIfInBounds (off+j) x) c=(d.toList.zipIdx 0).foldl (fun cs p=>cs.setIfInBounds (off+p.2) p.1) c:=by
  rw[<-Array.foldl_toList,Array.toList_zipIdx]
 rw[e];obtain ⟨o,r⟩:=n;refine⟨by rw[o,h.1];simp[OH];omega,fun j a f=>?_⟩;rw[r j];simp only[Nat.add_zero,Array.length_toList,hd.1];unfold OH at f;by_cases q:j<off
 ·rw[aQC (by omega)];rw[List.getElem?_append_left (by grind),List.getElem?_take,aQD q]at f;exact h.2 j a f
 by_cases c2:j<off+g.length
 ·rw[aQD (by have:=h.1;omega)];have b:min off l.length=off:=by omega
  rw[List.getElem?_append_right (by simp;omega),List.getElem?_append_left (by simp;omega)]at f;simp only[aQS,b]at f;obtain ⟨u,k,i,m⟩:=hd.2 (j - off) a f;exact⟨u,by simpa using k,i,m⟩
 rw[aQC (by omega)];have b:min off l.length=off:=by omega
 rw[List.getElem?_append_right (by simp;omega),List.getElem?_append_right (by simp;omega),List.getElem?_drop]at f;simp only[aQS,b]at f;rw[show off+g.length+(j - off - g.length)=j by omega]at f;exact h.2 j a f
theorem zP.of_cells{w}{I}{ι}{H}{v}{a}{l}(d:VRel w I ι H v a)(h:UM a=some l):zP w I ι H v.cells l :=let ⟨b,_,c⟩:=IU d h;⟨b,c⟩
def oS(E:dG):List (Nat×Operand)->Option (List (Nat×AV))
 | []=>some []
 |(i,x)::r=>match aR E x,oS E r with
  |some v,some vs=>some ((i,v)::vs)
  |_,_=>none
def BB(place:Nat->Option (Nat×Nat))(l:List AV):List (Nat×AV)->Option (List AV)
 | []=>some l
 |(i,a)::r=>match place i,UM a with
  |some (off,size),some vs=>if vs.length=size/\off+size<=l.length then BB place (OH l off vs) r else none
  |_,_=>none
theorem zP.fills{I}(z:jL w I ι H E a)(place):∀ {ps} {aps} {c} {l k:List AV},
  oS E ps=some aps->zP w I ι H c l->BB place l aps=some k->∃c',Instr.fill place c (ps.map fun p=>(p.1,a.eval p.2))=some c'/\zP w I ι H c' k:=by
 intro ps
 induction ps with
 |nil =>
  intro aps c l k e j b;simp[oS]at e;subst e;simp[BB]at b;subst b;exact⟨c,rfl,j⟩
 | cons p r q =>
  obtain ⟨i,x⟩:=p;intro aps c l k e j b;unfold oS at e
  split at e
  ·rename_i v vs s t;cases e;unfold BB at b
   split at b
   ·rename_i m f us u o
    split at b
    ·have h:=zP.of_cells (aJ z s) o;have hsz:(a.eval x).cells.size=f:=by rw[h.1];omega
     have hcl:=j.1;have g:=zP.fill (off:=m) j h (by omega);obtain ⟨c',y,n⟩:=q t g b;refine⟨c',?_,n⟩;simp only[List.map_cons,Instr.fill,u];rw[aQC (by simp_all)];exact y
    grind
   grind
  grind
section
variable{P:Program}{o:Oper}{x y:Operand}
theorem HU{c}{fs}{places}{aps}(A:o.op=.build T c)(hS:P.underlying T=some (.struct fs))
  (B:∀w,(zeroValue T).run P w=.ok z w) (C:ZV z v0) (m:UM v0=some l0) (q:∀w,((fs.mapM fun f=>do pure (f.offset,<-sizeOf f.type)):Sem _).run P w=.ok places w)
  (t:oS E c.toList=some aps) (G:BB (places[·]?) l0 aps=some l):cU P N o E H (.agg l) H :=
 .of_run fun a w I D _ J=>by
  have h:=zP.of_cells (ZV.rel (w:=w) (I:=I) (ι:=D) (H:=H) C) m;obtain ⟨s,h1,g⟩:=zP.fills J _ t h G;refine⟨.agg s,?_,.agg g.1 (fun j u r=>?_) (fun j u b r L=>?_)⟩
  ·have i:Instr.fill (places[·]?) z.cells (c.map fun p=>(p.1,a.eval p.2)).toList=some s:=by simp_all
   simp only[execOp,A,Instr.build,Sem.run_bind,B,run_underlying hS,q,Result.andThen_ok,i,Sem.run_pure]
  ·have k:j<l.length:=by rw[<-g.1];grind
   obtain ⟨v,e,K,_⟩:=g.2 j _ (aQJ k);rw[r]at e;cases e;exact K
  obtain ⟨v,e,_,F⟩:=g.2 j b L;rw[r]at e;cases e;exact F
theorem PB{c}{n sz}{e}{z}{l0 l}{aps}(C:o.op=.build T c)(hS:P.underlying T=some (.array n e))
  (D:∀w,(zeroValue T).run P w=.ok z w) (F:ZV z v0) (m:UM v0=some l0) (G:∀w,(sizeOf e).run P w=.ok sz w)
  (v:oS E c.toList=some aps) (K:BB (fun i=>some (i*sz,sz)) l0 aps=some l):cU P N o E H (.agg l) H :=
 .of_run fun a w I M _ L=>by
  have h:=zP.of_cells (ZV.rel (w:=w) (I:=I) (ι:=M) (H:=H) F) m;obtain ⟨t,h1,g⟩:=zP.fills L _ v h K;refine⟨.agg t,?_,.agg g.1 (fun j u s=>?_) (fun j u b s A=>?_)⟩
  ·have r:Instr.fill (fun i=>some (i*sz,sz)) z.cells (c.map fun p=>(p.1,a.eval p.2)).toList=some t:=by simp_all
   simp only[execOp,C,Instr.build,Sem.run_bind,D,run_underlying hS,G,Result.andThen_ok,r,Sem.run_pure]
  ·have k:j<l.length:=by rw[<-g.1];grind
   obtain ⟨B,f,O,_⟩:=g.2 j _ (aQJ k);rw[s]at f;cases f;exact O
  obtain ⟨B,f,_,J⟩:=g.2 j b A;rw[s]at f;cases f;exact J
def JY:Nat->List (Nat×AV)->Option (List (List AV))
 |_,[]=>some []
 |k,(i,a)::r=>match Nat.beq i k,UM a,JY (k+1) r with
  |true,some l,some ls=>some (l::ls)
  |_,_,_=>none
theorem RR(he:jL w I ι H E a)(sz:Nat):∀ {ps:List (Nat×Operand)} {aps:List (Nat×AV)} {rows:List (List AV)} {k:Nat} {c:Array Value},
  oS E ps=some aps->JY k aps=some rows->(∀r∈rows,r.length=sz)->(k+rows.length)*sz<=c.size ->
  ∃c',Instr.fill (fun i=>some (i*sz,sz)) c (ps.map fun p=>(p.1,a.eval p.2))=some c'/\c'.size=c.size/\(∀i,i<k*sz->c'[i]?=c[i]?) /\
   ∀(m:Nat) (r:List AV),rows[m]?=some r->∀(j:Nat) (b:AV),r[j]?=some b->∃u,c'[(k+m)*sz+j]?=some u/\u.oneCell'=true/\VRel w I ι H u b:=by
 intro ps
 induction ps with
 |nil =>
  intro aps rows k c s n O R;simp[oS]at s;subst s;simp[JY]at n;subst n;exact⟨c,rfl,rfl,fun _ _=>rfl,by simp⟩
 | cons p r V =>
  obtain ⟨i,x⟩:=p;intro aps rows k c s n O R;unfold oS at s
  split at s
  ·rename_i v vs U e2;cases s;unfold JY at n
   split at n
   ·rename_i l C e3 e4 W;cases n;have K:i=k:=Nat.eq_of_beq_eq_true e3;subst K;have A:l.length=sz:=O l (by simp);have z:=zP.of_cells (aJ he U) e4;have B:(i+(C.length+1))*sz<=c.size:=by simpa using R
    have hfit:i*sz+sz<=c.size:=by
     have:(i+1)*sz<=(i+(C.length+1))*sz:=Nat.mul_le_mul_right _ (by omega);rw[Nat.add_mul]at this;omega
    obtain ⟨Q,F⟩:=NU (i*sz) (a.eval x).cells.toList 0 c;have e:(a.eval x).cells.zipIdx.foldl (fun L (x,j)=>L.setIfInBounds (i*sz+j) x) c=((a.eval x).cells.toList.zipIdx 0).foldl (fun L p=>L.setIfInBounds (i*sz+p.2) p.1) c:=by
     rw[<-Array.foldl_toList,Array.toList_zipIdx]
    rw[<-e]at Q F;have hsz:(a.eval x).cells.size=sz:=by rw[z.1,A]
    obtain ⟨c',X,Z,S,Y⟩:=V (k:=i+1) e2 W (fun r h=>O r (by simp[h])) (by rw[Q];rw[show i+1+C.length=i+(C.length+1)by omega];exact B);refine⟨c',?_,Z.trans Q,fun q hq=>?_,fun m r h j b J=>?_⟩
    ·have t:¬ ((a.eval x).cells.size≠sz\/i*sz+(a.eval x).cells.size > c.size):=by omega
     simp only[List.map_cons,Instr.fill];rw[aQC (by simpa using t)];exact X
    ·have g:q<(i+1)*sz:=by rw[Nat.add_mul];omega
     rw[S q g,F q,aQC (by omega)]
    cases m with
    |zero =>
     simp at h;subst h;obtain ⟨u,D,G,M⟩:=z.2 j b J;have hj:j<sz:=by rw[<-A];exact(aQI.1 J).1
     refine⟨u,?_,G,M⟩;have g:(i+0)*sz+j<(i+1)*sz:=by rw[Nat.add_zero,Nat.add_mul i 1,Nat.one_mul];omega
     rw[S _ g,F,aQD (by simp;omega)]
     simpa using D
    |succ m =>
     simp at h;obtain ⟨u,D,G,M⟩:=Y m r h j b J;exact⟨u,by rw[show i+(m+1)=i+1+m by omega];exact D,G,M⟩
   grind
  grind
theorem Rel.newImm{w':World}{c:Array Value}{t:TypeId}(g:Rel I ι H w)(l:w'.os=w.os)(e:w'.tape=w.tape)(i:w'.output=w.output)(hw:w'.heap=w.heap.push (.cells c t (0,0))):
  Rel (fun b=>I b\/b=w.heap.size) ι H w'/\Step I ι H w (fun b=>I b\/b=w.heap.size) ι H w':=by
 have d:∀x,x<w.heap.size->w'.heap[x]?=w.heap[x]?:=fun x k=>by grind
 have hsize:w'.heap.size=w.heap.size+1:=by simp_all
 have f:Step I ι H w (fun b=>I b\/b=w.heap.size) ι H w':=by
  refine⟨l,e,i,by omega,fun a p _=>?_,fun _ h=>.inl h,fun b h=>?_,fun _ h=>.inl h,fun x k _=>d x k,fun _ o h=>⟨o,h,aQK _,fun _=>⟨rfl,rfl,fun _=>aQK _⟩⟩⟩
  ·simp[World.frozen?,d a.block p]
  grind
 refine⟨⟨fun x k=>?_,fun j o s=>?_,g.inj,f.glob g⟩,f⟩
 ·rcases k with h|h
  ·have:=g.imm x h;omega
  omega
 refine(g.obj j o s).keep rfl (fun n cap' e1 m=>⟨d n m,fun e3 h=>?_⟩) (fun r _ a _ v q=>q.mono g f)
 simp_all
theorem Q9(n)(a:Array Value):((Array.range n).map (a[· % a.size]!)).size=n:=by simp
theorem MW{c:Array (Nat×Operand)}(ho:o.op=.buildSlice T n c)(hT:P.underlying T=some (.slice e))(W:∀w,(sizeOf e).run P w=.ok sz w)
  (hz:∀w,(zeroValue e).run P w=.ok z w) (hn:n*sz<=16777216) (M:0<sz) (hp:oS E c.toList=some aps) (Z:JY 0 aps=some rows) (F:ps.map (·.map AV.pv)=rows) (s:ps.length=n) (L:∀r∈ps,r.length=sz):cU P N o E H (.pv (.sl ps)) H:=by
 intro a w I ι _ _ f he K Q t;subst F;have hf:=fun zc:Array Value=>RR (c:=(Array.range (n*sz)).map (zc[· % zc.size]!)) he sz hp Z (fun r Z=>by
  grind) (by simp_all)
 obtain ⟨V,k1,k2,_,k4⟩:=hf z.cells;have C:V.size=n*sz:=by simp_all
 have A:¬ (n*sz > 2 ^ 24):=by omega
 have B:∃l,(Instr.buildSlice T n (c.map fun p=>(p.1,a.eval p.2))).run P w=.ok (.slice (some ⟨w.heap.size,0,none⟩) n n) (w.alloc (.cells l e))/\l.size=n*sz /\
   ∀(m:Nat) (r:List AV),(ps.map (·.map AV.pv))[m]?=some r->∀(j:Nat) (b:AV),r[j]?=some b->∃u,l[m*sz+j]?=some u/\u.oneCell'=true/\VRel w I ι H u b:=by
  by_cases S:n*sz=0
  ·obtain ⟨c0,h,O,_,q4⟩:=hf #[];refine⟨c0,?_,by rw[O,Q9],fun m r R j b J=>by have:=q4 m r R j b J;simpa using this⟩;rw[<-Array.toList_map]at h;simp only[S]at h;simp only[Instr.buildSlice,Sem.run_bind,run_underlying hT,Result.andThen_ok,W,Sem.run_ite,A,if_false,S,if_true,Sem.run_pure,h,newRow,run_newObj];rfl
  refine⟨V,?_,C,fun m r R j b J=>by have:=k4 m r R j b J;simpa using this⟩;rw[<-Array.toList_map]at k1;simp only[Instr.buildSlice,Sem.run_bind,run_underlying hT,Result.andThen_ok,W,Sem.run_ite,A,if_false,S,hz,Sem.run_pure,k1,newRow,run_newObj];rfl
 obtain ⟨g,g1,g2,U⟩:=B;obtain ⟨m1,Y⟩:=Rel.newImm (c:=g) (t:=e) (w':=w.alloc (.cells g e)) f rfl rfl rfl rfl;unfold Oper.wpW execOp;simp only[ho,Sem.run_bind,g1,Result.andThen_ok,Sem.run_pure];refine t _ _ _ ι _ _ ⟨rfl,rfl⟩ (.pv ?_) m1 Y;have q:∀j,(w.alloc (.cells g e)).cell? ⟨w.heap.size,j,none⟩=g[j]?:=fun j=>World.cell?_alloc_new w g e j;have:=PRep.sl (w:=w.alloc (.cells g e)) (I:=fun b=>I b\/b=w.heap.size) w.heap.size 0 n sz ps (fun i k=>(g[i*sz+k]?).getD undef) (.inr rfl) M L (by omega)
  (fun i r G k p t=>by
   obtain ⟨u,h,O,X⟩:=U i (r.map .pv) (by simp[G]) k (.pv p) (by simp[t]);rw[q,aQW,h];rfl)
  (fun i r G k p t=>by
   obtain ⟨u,h,O,X⟩:=U i (r.map .pv) (by simp[G]) k (.pv p) (by simp[t]);rw[h];exact(X.mono f Y).pv_inv)
 rw[s]at this;exact this
theorem EO{c:Array (Nat×Operand)}(v:o.op=.buildSlice T n c)(J:P.underlying T=some (.slice e))(M:∀w,(sizeOf e).run P w=.ok sz w)
  (hz:∀w,(zeroValue e).run P w=.ok z w) (hn:n*sz<=16777216) (g:0<sz) (Y:oS E c.toList=some aps) (V:JY 0 aps=some rows) (f:rows.length=n) (s:∀r∈rows,r.length=sz) (B:H.get id=none) :
  cU P N o E H (.osl id 0 0 n) ((id,⟨0,sz,e,rows⟩)::H):=by
 intro a w I X _ _ k he K Q hk;have G:=fun R:Array Value=>RR (c:=(Array.range (n*sz)).map (R[· % R.size]!)) he sz Y V s (by simp_all);have q:¬ (n*sz > 2 ^ 24):=by omega
 have i:∃h,(Instr.buildSlice T n (c.map fun p=>(p.1,a.eval p.2))).run P w=.ok (.slice (some ⟨w.heap.size,0,none⟩) n n) (w.alloc (.cells h e))/\h.size=n*sz /\
   ∀(m:Nat) (r:List AV),rows[m]?=some r->∀(j:Nat) (b:AV),r[j]?=some b->∃u,h[m*sz+j]?=some u/\u.oneCell'=true/\VRel w I X H u b:=by
  by_cases D:n*sz=0
  ·obtain ⟨c0,A,q2,_,q4⟩:=G #[];refine⟨c0,?_,by simp_all,fun m r F j b C=>by have:=q4 m r F j b C;simpa using this⟩;rw[<-Array.toList_map]at A;simp only[D]at A;simp only[Instr.buildSlice,Sem.run_bind,run_underlying J,Result.andThen_ok,M,Sem.run_ite,q,if_false,D,if_true,Sem.run_pure,A,newRow,run_newObj];rfl
  obtain ⟨c',L,Z,_,U⟩:=G z.cells;refine⟨c',?_,by rw[Z,Q9],fun m r F j b C=>by have:=U m r F j b C;simpa using this⟩;rw[<-Array.toList_map]at L;simp only[Instr.buildSlice,Sem.run_bind,run_underlying J,Result.andThen_ok,M,Sem.run_ite,q,if_false,D,hz,Sem.run_pure,L,newRow,run_newObj];rfl
 obtain ⟨O,S,g2,g3⟩:=i;have t:n<=maxLen:=by
  have:n<=n*sz:=Nat.le_mul_of_pos_right _ g;simp only[maxLen];omega
 obtain ⟨W,m2⟩:=Rel.place (H':=(id,⟨0,sz,e,rows⟩)::H) (id:=id) (cap:=n) (ob':=⟨0,sz,e,rows⟩) (cs':=O) (w':=w.alloc (.cells O e)) k rfl rfl rfl rfl (fun o v=>by rw[B]at v;cases v) g g2 (by simp[f]) t s g3
  (get_cons_same _ _ _) (fun j hj=>get_cons_other _ _ hj)
 unfold Oper.wpW execOp;simp only[v,Sem.run_bind,S,Result.andThen_ok,Sem.run_pure];exact hk _ _ I _ _ _ ⟨rfl,rfl⟩ (.osl ⟨0,sz,e,rows⟩ (get_cons_same _ _ _) (aQK _) rfl fun _=>⟨g,by simp[f],.inl ⟨w.heap.size,n,0,by simp,by simp,fun _=>by simp⟩⟩) W m2
end
end
section
def YF(P:Program)(e:TypeId)(sz bytes:Nat):Prop:=∃i z,P.info? e=some i/\i.zero=some z/\i.size=sz/\i.bytes=bytes/\z.cells.size=sz/\0<sz
theorem AJ{f}{m j}{u:α}(h:((List.range m).map f)[j]?=some u):j<m/\u=f j:=by grind
theorem QL(f:Nat->α){m j}(hj:j<m):((List.range m).map f)[j]?=some (f j):=by simp_all
def rK(w:World)(I:Nat->Prop)(ι:kY)(H:aH)(sz:Nat)(l:List Value)(rows:List (List AV)):Prop :=∀(i:Nat) (r:List AV),rows[i]?=some r->∀(k:Nat) (a:AV),r[k]?=some a->∃u,l[i*sz+k]?=some u/\u.oneCell'=true/\VRel w I ι H u a
theorem rK.app{l1 l2 l3:List Value}{b d:List (List AV)}(m:rK w I ι H sz l1 b)(hl1:l1.length=b.length*sz)(n:rK w I ι H sz l2 d):
  rK w I ι H sz (l1++(l2++l3)) (b++d):=by
 intro i r e k a l;by_cases c:i<b.length
 ·rw[List.getElem?_append_left c]at e;obtain ⟨u,f,h,g⟩:=m i r e k a l;have j:=(aQI.1 f).1;exact⟨u,by grind,h,g⟩
 rw[List.getElem?_append_right (by omega)]at e;obtain ⟨u,f,h,g⟩:=n _ r e k a l;have j:=(aQI.1 f).1;have hm:(i - b.length)*sz+b.length*sz=i*sz:=by rw[<-Nat.add_mul];congr 1;omega
 refine⟨u,?_,h,g⟩
 grind
def Src(w:World)(I:Nat->Prop)(ι:kY)(H:aH)(sz:Nat)(v:Value)(rows:List (List AV)):Prop :=(∃a c news,v=.slice (some a) rows.length c/\news.length=rows.length*sz/\(∀j u,news[j]?=some u->w.cell? (a.add j)=some u)/\(∀u∈news,u.oneCell'=true)/\rK w I ι H sz news rows) \/
 (v=.slice none 0 0/\rows=[])
theorem aGE(h:j<n*sz):j / sz<n:=(Nat.div_lt_iff_lt_mul (by
 grind)).2 h
theorem TW(h:k<sz):(i*sz+k) / sz=i:=by rw[Nat.add_comm,Nat.add_mul_div_right _ _ (by omega),Nat.div_eq_of_lt h];omega
theorem DE(h:k<sz):(i*sz+k) % sz=k:=by rw[Nat.add_comm,Nat.add_mul_mod_self_right,Nat.mod_eq_of_lt h]
theorem aEL(h:VRel w I ι H v (.pv (.sl ps)))(hsz:0<sz)(hl:∀r∈ps,r.length=sz):Src w I ι H sz v (ps.map (·.map .pv)):=by
 have L:=h.pv_inv;cases L with
 |nilsl=>exact .inr ⟨rfl,rfl⟩
 |empsl a=>exact .inl ⟨a,0,[],rfl,by simp,by simp,by simp,by intro i r o;grind⟩
 | sl b l B c _ N hI z n hcap M s =>
  by_cases A:ps=[]
  ·subst A;exact .inl ⟨⟨b,l,none⟩,B,[],rfl,by simp,by simp,by simp,by intro i r o;grind⟩
  have P:c=sz:=by
   obtain ⟨r,rs,e⟩:=List.exists_cons_of_ne_nil A
   simp_all
  subst P
  let f:Nat->Value:=fun j=>N (j / c) (j % c)
  have m:∀j,j<ps.length*c->∃r p,ps[j / c]?=some r/\r[j % c]?=some p:=by
   intro j y;have t:=aGE y;have O:ps[j / c]∈ps:=List.getElem_mem t;have C:j % c<ps[j / c].length:=by rw[n _ O];exact Nat.mod_lt _ z
   exact⟨_,_,aQJ t,aQJ C⟩
  refine .inl ⟨⟨b,l,none⟩,B,(List.range (ps.length*c)).map f,by simp,by simp,?_,?_,?_⟩
  ·intro j u K;obtain ⟨y,rfl⟩:=AJ K;obtain ⟨r,p,t,C⟩:=m j y;rw[Addr.add_lit];have:=M _ r t _ p C;rw[show l+j / c*c+j % c=l+j by have:=Nat.div_add_mod' j c;omega]at this;exact this
  ·intro u K;obtain ⟨j,F⟩:=aQZ.1 K;obtain ⟨y,rfl⟩:=AJ F;obtain ⟨r,p,t,C⟩:=m j y;exact(s _ r t _ p C).oneCell
  intro i r o k a x;rw[aQY]at o;cases e:ps[i]? with
  |none=>rw[e]at o;cases o
  | some q =>
   rw[e]at o;cases o;rw[aQY]at x;cases D:q[k]? with
   |none=>rw[D]at x;cases x
   | some p =>
    rw[D]at x;cases x;have J:i<ps.length:=(aQI.1 e).1;have g:k<c:=by rw[<-n q (aQO e)];exact(aQI.1 D).1
    have E:i*c+k<ps.length*c:=by
     have:(i+1)*c<=ps.length*c:=Nat.mul_le_mul_right _ J;rw[Nat.add_mul]at this;omega
    refine⟨f (i*c+k),QL f E,?_,?_⟩
    ·simp only[f,TW g,DE g];exact(s i q e k p D).oneCell
    simp only[f,TW g,DE g];exact .pv (s i q e k p D)
theorem aAt(X:Rel I ι H w)(h:VRel w I ι H v (.osl id g off len))(J:H.get id=some ob)(O:ob.g=g)(A:ob.sz=sz):
  Src w I ι H sz v ((ob.rows.drop off).take len):=by
 obtain ⟨hle,⟨b,x,W,G,K,F⟩|⟨G,K,F,U⟩⟩:=jI h J O
 ·obtain ⟨Y,L,⟨b',cap',y,q,R,e3,e4,e5,e5',Q⟩|⟨q,_⟩⟩:=(X.obj id ob J).cells (oM h J O)
  ·rw[G]at q;cases q;subst A;have l:((ob.rows.drop off).take len).length=len:=by grind
   have hget:∀j,j<len*ob.sz->∃u,y[off*ob.sz+j]?=some u/\u.oneCell'=true/\∀a r,ob.rows[off+j / ob.sz]?=some r->r[j % ob.sz]?=some a->VRel w I ι H u a:=by
    intro j m;have h1':=aGE m;have c:off+j / ob.sz<ob.rows.length:=by omega
    have V:=List.getElem_mem c;have s:j % ob.sz<ob.rows[off+j / ob.sz].length:=by rw[L _ V];exact Nat.mod_lt _ Y
    obtain ⟨u,N,T,S⟩:=Q _ _ (aQJ c) _ _ (aQJ s);refine⟨u,?_,T,fun a r o M=>?_⟩
    ·rw[Nat.add_mul,show off*ob.sz+j / ob.sz*ob.sz+j % ob.sz=off*ob.sz+j by have:=Nat.div_add_mod' j ob.sz;omega]at N;exact N
    rw[aQJ c]at o;cases o;rw[aQJ s]at M;cases M;exact S
   let f:Nat->Value:=fun j=>(y[off*ob.sz+j]?).getD undef
   have z:∀j (m:j<len*ob.sz),y[off*ob.sz+j]?=some (f j)/\(f j).oneCell'=true/\∀a r,ob.rows[off+j / ob.sz]?=some r->r[j % ob.sz]?=some a->VRel w I ι H (f j) a:=by
    grind
   by_cases B:len=0
   ·subst B;have:(ob.rows.drop off).take 0=[]:=by simp
    rw[this];exact .inl ⟨⟨b,W,none⟩,x - off,[],by simp_all,by simp,by simp,by simp,by intro i r n;grind⟩
   have C:=F (by omega);subst C;refine .inl ⟨⟨b,off*ob.sz,none⟩,x - off,(List.range (len*ob.sz)).map f,by rw[K,l],by simp[l],?_,?_,?_⟩
   ·intro j u E;obtain ⟨m,rfl⟩:=AJ E;rw[Addr.add_lit,cell_of_row w b _ y ob.ty (0,0) R];exact(z j m).1
   ·intro u E;obtain ⟨j,D⟩:=aQZ.1 E;obtain ⟨m,rfl⟩:=AJ D;exact(z j m).2.1
   intro i r n k a P;have p:i<len:=by rw[<-l];exact(aQI.1 n).1
   rw[List.getElem?_take,aQD p,List.getElem?_drop]at n;have t:k<ob.sz:=by rw[<-L r (aQO n)];exact(aQI.1 P).1
   have c:i*ob.sz+k<len*ob.sz:=by
    have:(i+1)*ob.sz<=len*ob.sz:=Nat.mul_le_mul_right _ p;rw[Nat.add_mul]at this;omega
   refine⟨f (i*ob.sz+k),QL f c,(z _ c).2.1,(z _ c).2.2 a r ?_ ?_⟩
   ·rw[TW t];exact n
   rw[DE t];exact P
  rw[G]at q;cases q
 subst F U;exact .inr ⟨K,by simp⟩
section
variable{P:Program}{o:Oper}{x y:Operand}
theorem wX{t:TypeId}{i}(a:P.underlying t=some (.slice e))(hi:P.info? e=some i)(b)(n c:Nat)(d:n<=c):
  (Builtin.append_ #[t,t] ty #[.slice b n c,.slice none 0 0]).run P w=.ok (.slice b n c) w:=by
 cases b<;>simp[Builtin.append_,run_underlying a,sizeOf,typeInfo,hi,Builtin.lenOf,d,Builtin.firstCells,storeCells]
theorem ZZ{d:List (List AV)}{H2:aH}(ho:o.op=.call {callee:=.builtin .append,args:=#[x,y],argTypes:=#[T,T]})(hT:P.underlying T=some (.slice e))(hinf:YF P e sz bytes)
  (hx:aR E x=some (.osl id g 0 n)) (X:H.get id=some ob) (hg:ob.g=g) (hosz:ob.sz=sz) (hty:ob.ty=e) (hn:ob.rows.length=n)
  (hsrc:∀(a:Act) (w:World) (I:Nat->Prop) (ι:kY),Rel I ι H w->jL w I ι H E a->Src w I ι H sz (a.eval y) d) (hrl2:∀r∈d,r.length=sz) (hm:d.length=m) (t:(n+m)*bytes<=140737488355328) (hmax:n+m<=9223372036854775807)
  (hH2:H.set id ⟨g+1,sz,e,ob.rows++d⟩=H2):cU P N o E H (.osl id (g+1) 0 (n+m)) H2:=by
 intro a w I ι _ _ hr he K Q hk;obtain ⟨i,z,hi,hz,l,hby,hzs,hsz0⟩:=hinf;subst hg hosz hty hn hm hH2;have Y:ob.rows.length+d.length<=maxLen:=by simp only[maxLen];omega
 have W:(H.set id ⟨ob.g+1,ob.sz,ob.ty,ob.rows++d⟩).get id=some ⟨ob.g+1,ob.sz,ob.ty,ob.rows++d⟩:=aH.get_set_same _ _ _;have h2:∀j,j≠id->(H.set id ⟨ob.g+1,ob.sz,ob.ty,ob.rows++d⟩).get j=H.get j:=fun j hj=>aH.get_set_other _ _ hj;have p:0<ob.sz:=oM (aJ he hx) X rfl;have p2:=((hr.obj id ob X).cells p).2.1;have hrl:∀r∈ob.rows++d,r.length=ob.sz:=fun r hr'=>by
  grind
 have U:∀(v':Value) (w':World) (M:kY),(Builtin.append_ #[T,T] o.type #[a.eval x,a.eval y]).run P w=.ok v' w'->VRel w' I M (H.set id ⟨ob.g+1,ob.sz,ob.ty,ob.rows++d⟩) v' (.osl id (ob.g+1) 0 (ob.rows.length+d.length)) ->
   Rel I M (H.set id ⟨ob.g+1,ob.sz,ob.ty,ob.rows++d⟩) w'->Step I ι H w I M (H.set id ⟨ob.g+1,ob.sz,ob.ty,ob.rows++d⟩) w'->o.wpW P a w K Q:=by
  intro v' w' M h k1 O R;unfold Oper.wpW execOp;simp only[ho,resolve,invoke,builtin,Sem.run_bind,Sem.run_pure,Result.andThen_ok,List.map_toArray,List.map_cons,List.map_nil,h];exact hk v' w' I M _ _ ⟨rfl,rfl⟩ k1 O R
 have hs:=hsrc a w I ι hr he;have hvx:=aJ he hx;obtain ⟨_,hcase⟩:=jI hvx X rfl;rcases hcase with⟨b,q,oo,c1,c2,c3⟩|⟨c1,c2,_,c4⟩
 ·obtain ⟨p1,_,⟨b',cap',J,e1,e2,e3,e4,e5,e5',e6⟩|⟨e1,_⟩⟩:=(hr.obj id ob X).cells p
  ·rw [c1] at e1;cases e1;have hoo:oo=0:=by omega
   subst hoo;rw[Nat.sub_zero]at c2;have olds:rK w I ι H ob.sz (J.toList.take (ob.rows.length*ob.sz)) ob.rows:=by
    intro V r s k a' D;obtain ⟨u,q1,q2,q3⟩:=e6 V r s k a' D;have hk2:k<ob.sz:=by grind
    have hi2:V<ob.rows.length:=(aQI.1 s).1;have hlt:V*ob.sz+k<ob.rows.length*ob.sz:=by
     have:(V+1)*ob.sz<=ob.rows.length*ob.sz:=Nat.mul_le_mul_right _ hi2;rw[Nat.add_mul]at this;omega
    exact⟨u,by grind,q2,q3⟩
   have hle:ob.rows.length*ob.sz<=J.size:=by rw[e4];exact Nat.mul_le_mul_right _ e5
   have A:(J.toList.take (ob.rows.length*ob.sz)).length=ob.rows.length*ob.sz:=by simp;omega
   rcases hs with⟨ad,c,f,L,G,s3,s4,s5⟩|⟨L,G⟩
   ·by_cases F:ob.rows.length+d.length<=q
    ·-- there is room
     have hfit:ob.rows.length*i.size+f.length<=J.size:=by
      rw[G,l,e4,<-Nat.add_mul];exact Nat.mul_le_mul_right _ F
     have h:=run_append_room (P:=P) w T o.type ob.ty i hT hi b ob.rows.length q J e2 ad d.length c f (by rw[l];exact G) s3 s4 F hfit;rw[l]at h;obtain ⟨O,R⟩:=Rel.update (H':=H.set id ⟨ob.g+1,ob.sz,ob.ty,ob.rows++d⟩) (ob':=⟨ob.g+1,ob.sz,ob.ty,ob.rows++d⟩)
      (cs':=(J.toList.take (ob.rows.length*ob.sz)++f++J.toList.drop (ob.rows.length*ob.sz+f.length)).toArray) hr X c1 e2 (by simp) rfl rfl (fun e=>by simp at e) (by
       rw[l]at hfit;simp only[List.size_toArray,aQF,aQS,aQT,Array.length_toList];omega) (by simpa using F) hrl (fun V r s k a' D=>by
        have:=rK.app (l3:=J.toList.drop (ob.rows.length*ob.sz+f.length)) olds A s5 V r s k a' D
        simpa[List.append_assoc]using this) W h2
     exact U _ _ ι (by rw[c2,L];exact h) (.osl _ W (aQK _) rfl fun _=>⟨p,by simp,.inl ⟨b,q,0,c1,by simp,fun _=>by simp⟩⟩) O R
    have holds:∀j v,(J.toList.take (ob.rows.length*ob.sz))[j]?=some v->w.cell? ((⟨b,0,none⟩:Addr).add j)=some v:=by
     intro j v hv;rw[Addr.add_lit,aQW,cell_of_row w b _ J ob.ty (0,0) e2];rw[List.getElem?_take]at hv
     split at hv
     ·simpa using hv
     cases hv
    have h:=run_append_grow (P:=P) w T o.type ob.ty i z hT hi hz ⟨b,0,none⟩ ob.rows.length q _ (by rw[l];exact A) holds ad d.length c f (by rw[l];exact G) s3 (by omega) (by omega) (growslice_fits (by omega) (by rw[hby];exact t));have hge:=grownCap_ge w (ob.rows.length+d.length) q ob.ty;have hcm:=grownCap_le_maxLen w (ob.rows.length+d.length) q ob.ty Y;obtain ⟨O,R⟩:=Rel.place (H':=H.set id ⟨ob.g+1,ob.sz,ob.ty,ob.rows++d⟩) (id:=id) (cap:=grownCap w (ob.rows.length+d.length) q ob.ty) (ob':=⟨ob.g+1,ob.sz,ob.ty,ob.rows++d⟩)
     (cs':=(J.toList.take (ob.rows.length*ob.sz)).toArray++f.toArray++Builtin.zeroCells z.cells (grownCap w (ob.rows.length+d.length) q ob.ty - (ob.rows.length+d.length)))
     (w':=w.drew.alloc (.cells ((J.toList.take (ob.rows.length*ob.sz)).toArray++f.toArray++Builtin.zeroCells z.cells (grownCap w (ob.rows.length+d.length) q ob.ty - (ob.rows.length+d.length))) ob.ty)) hr rfl rfl rfl rfl
     (fun o' S=>by rw[X]at S;cases S;simp) p1 (by
      simp only[Array.size_append,List.size_toArray,size_zeroCells,hzs,A,G,<-Nat.add_mul];congr 1;omega) (by simpa using hge) hcm hrl (fun V r s k a' D=>by
       obtain ⟨u,q1,q2,q3⟩:=rK.app (l3:=(Builtin.zeroCells z.cells (grownCap w (ob.rows.length+d.length) q ob.ty - (ob.rows.length+d.length))).toList) olds A s5 V r s k a' D;refine⟨u,?_,q2,q3⟩;rw[<-Array.getElem?_toList]
       simpa[List.append_assoc]using q1) W h2
    exact U _ _ _ (by rw[c2,L];exact h) (.osl _ W (aQK _) rfl fun _=>⟨p,by simp,.inl ⟨w.heap.size,_,0,by simp;rfl,by simp,fun _=>by simp⟩⟩) O R
   subst G;have h:=wX (P:=P) (ty:=o.type) (w:=w) hT hi (some ⟨b,0,none⟩) ob.rows.length q e5;obtain ⟨O,R⟩:=Rel.tick (H':=H.set id ⟨ob.g+1,ob.sz,ob.ty,ob.rows++[]⟩) (ob':=⟨ob.g+1,ob.sz,ob.ty,ob.rows++[]⟩) hr X (by simp) rfl rfl (by simp) W h2;exact U _ _ ι (by rw[c2,L];exact h) (.osl _ W (aQK _) rfl fun _=>⟨p,by simp,.inl ⟨b,q,0,c1,by simp,fun _=>by simp⟩⟩) O R
  rw[c1]at e1;cases e1
 have C:ob.rows=[]:=List.eq_nil_of_length_eq_zero c4;have Z:d=[]->o.wpW P a w K Q:=by
  intro h0;subst h0;have h:(Builtin.append_ #[T,T] o.type #[a.eval x,a.eval y]).run P w=.ok (.slice none 0 0) w:=by
   rcases hs with⟨ad,c,f,L,G,s3,s4,s5⟩|⟨L,G⟩
   ·rw[c2,L];simp[Builtin.append_,run_underlying hT,sizeOf,typeInfo,hi,Builtin.lenOf,Builtin.firstCells,loadCells,loadCellsFrom]
   rw[c2,L];exact wX (P:=P) (ty:=o.type) (w:=w) hT hi none 0 0 (aQK _)
  obtain ⟨O,R⟩:=Rel.tick (H':=H.set id ⟨ob.g+1,ob.sz,ob.ty,ob.rows++[]⟩) (ob':=⟨ob.g+1,ob.sz,ob.ty,ob.rows++[]⟩) hr X (by simp) rfl rfl (by simp) W h2;exact U _ _ ι h (.osl _ W (aQK _) rfl fun _=>⟨p,by simp,.inr ⟨c1,rfl,rfl,by simp[C]⟩⟩) O R
 by_cases h0:d=[]
 ·exact Z h0
 have p:0<d.length:=List.length_pos_iff.2 h0;rcases hs with⟨ad,c,f,L,G,s3,s4,s5⟩|⟨L,G⟩
 ·rw [C] at t Y hmax;simp only [List.length_nil,aQW] at t Y hmax;have h:=run_append_nil (P:=P) w T o.type ob.ty i z hT hi hz ad d.length c f (by rw [l];exact G) s3 p (by omega) (by rw [hby];omega);have hge:=grownCap_ge w d.length 0 ob.ty;have hcm:=grownCap_le_maxLen w d.length 0 ob.ty Y;obtain ⟨O,R⟩:=Rel.place (H':=H.set id ⟨ob.g+1,ob.sz,ob.ty,ob.rows++d⟩) (id:=id) (cap:=grownCap w d.length 0 ob.ty) (ob':=⟨ob.g+1,ob.sz,ob.ty,ob.rows++d⟩)
   (cs':=f.toArray++Builtin.zeroCells z.cells (grownCap w d.length 0 ob.ty - d.length))
   (w':=w.drew.alloc (.cells (f.toArray++Builtin.zeroCells z.cells (grownCap w d.length 0 ob.ty - d.length)) ob.ty)) hr rfl rfl rfl rfl
   (fun o' S=>by rw[X]at S;cases S;simp) hsz0 (by
    simp only[Array.size_append,List.size_toArray,size_zeroCells,hzs,G,<-Nat.add_mul];congr 1;omega) (by simpa[C]using hge) hcm hrl (fun V r s k a' D=>by
     rw[C]at s;simp only[List.nil_append]at s;obtain ⟨u,q1,q2,q3⟩:=s5 V r s k a' D;have hlt:=(aQI.1 q1).1;refine⟨u,?_,q2,q3⟩;rw[Array.getElem?_append_left (by simpa using hlt)]
     simpa using q1) W h2
  refine U _ _ _ (by rw[c2,L];exact h) (.osl _ W (aQK _) rfl fun _=>⟨(oM (aJ he hx) X rfl:0<ob.sz),by simp,.inl ⟨w.heap.size,_,0,by simp;rfl,by simp[C],fun _=>by simp⟩⟩) O R
 exact absurd G h0
theorem PC{e}{ps}{H2}(C:o.op=.call {callee:=.builtin .append,args:=#[x,y],argTypes:=#[T,T]})(D:P.underlying T=some (.slice e))(d:YF P e sz bytes)
  (p:aR E x=some (.osl id g 0 n)) (t:H.get id=some ob) (J:ob.g=g) (c:ob.sz=sz) (h:ob.ty=e) (u:ob.rows.length=n)
  (q:aR E y=some (.pv (.sl ps))) (j:∀r∈ps,r.length=sz) (hm:ps.length=m) (b:(n+m)*bytes<=140737488355328) (f:n+m<=9223372036854775807)
  (k:H.set id ⟨g+1,sz,e,ob.rows++ps.map (·.map AV.pv)⟩=H2):cU P N o E H (.osl id (g+1) 0 (n+m)) H2:=by
 obtain ⟨i,z,B,K,F,A,s,l⟩:=d;exact ZZ C D ⟨i,z,B,K,F,A,s,l⟩ p t J c h u (fun a w I ι v G=>aEL (aJ G q) l j) (fun r v=>by
  grind) (by simp_all) b f k
theorem O4{l c:Nat}{W k2:IntKind}{p b:Int}{d:List AV}(V:o.op=.makeSlice T x y)(hT:P.underlying T=some (.slice e))(t:YF P e sz bytes)(hz:∀w,(zeroValue e).run P w=.ok z w)(hv:ZV z v0)(J:UM v0=some d)(hrow:d.length=sz)
  (hx:aR E x=some (.pv (.int W p))) (hy:aR E y=some (.pv (.int k2 b))) (h1:0<=p) (h2:p<=b) (hl:p.toNat=l) (hc:b.toNat=c) (hb:bytes*c<=281474976710656) (B:b<=9223372036854775807) (hid:H.get id=none) :
  cU P N o E H (.osl id 0 0 l) ((id,⟨0,sz,e,List.replicate l d⟩)::H):=by
 intro a w I ι _ _ hr he K Q hk;obtain ⟨i,q,Y,A,f,L,M,m⟩:=t;have D:q=z:=by
  have:=hz w;simp[zeroValue,typeInfo,Y,A]at this;exact this
 subst D hl hc;have e1:=(aJ he hx).int_inv;have e2:=(aJ he hy).int_inv;have G:(i.bytes:Int)*b<=281474976710656:=by
  have h:=hb;rw[<-L]at h;have U:((i.bytes*b.toNat:Nat):Int)<=281474976710656:=by omega
  rw[Int.natCast_mul]at U
  rwa [Int.toNat_of_nonneg (by omega)]at U
 have C:=run_make (P:=P) w T e i q hT Y A W k2 p b h1 h2 G B;have R:=zP.of_cells (ZV.rel (w:=w) (I:=I) (ι:=ι) (H:=H) hv) J;obtain ⟨S,k3⟩:=Rel.place (H':=(id,⟨0,sz,e,List.replicate p.toNat d⟩)::H) (id:=id) (cap:=b.toNat) (ob':=⟨0,sz,e,List.replicate p.toNat d⟩) (cs':=madeCells q.cells (b.toNat*i.size))
  (w':=w.alloc (.cells (madeCells q.cells (b.toNat*i.size)) e)) hr rfl rfl rfl rfl (fun o V=>by simp_all) m (by rw[size_madeCells,f]) (by grind) (by simp only[maxLen];omega)
  (fun r hr'=>by simp_all)
  (fun Z r n k a' F=>by
   rw[List.getElem?_replicate]at n
   split at n
   ·cases n;rename_i hlt;have O:k<sz:=by grind
    obtain ⟨u,X,q2,q3⟩:=R.2 k a' F;refine⟨u,?_,q2,q3⟩;have s:Z*sz+k<b.toNat*sz:=by
     have:(Z+1)*sz<=b.toNat*sz:=Nat.mul_le_mul_right _ (by omega);rw[Nat.add_mul]at this;omega
    have v:k<q.cells.size:=by omega
    rw[Array.getElem?_eq_getElem v]at X;cases X;simp only[madeCells,Array.getElem?_map,f];rw[Array.getElem?_range];simp only[s,if_true,Option.map_some,M,DE O];rw[getElem!_pos q.cells k v]
   simp_all) (get_cons_same _ _ _) (fun j hj=>get_cons_other _ _ hj)
 unfold Oper.wpW execOp;simp only[V,e1,e2,Sem.run_bind,C,Result.andThen_ok,Sem.run_pure];exact hk _ _ I _ _ _ ⟨rfl,rfl⟩ (.osl _ (get_cons_same _ _ _) (aQK _) rfl fun _=>⟨m,by simp,.inl ⟨w.heap.size,b.toNat,0,by simp,by simp,fun _=>by simp⟩⟩) S k3
theorem Rel.congr{I}{ι}{H H'}{w}(f:Rel I ι H w)(h:∀j,H'.get j=H.get j):Rel I ι H' w/\Step I ι H w I ι H' w:=by
 have e:Step I ι H w I _ _ w:=⟨rfl,rfl,rfl,aQK _,fun _ _ _=>rfl,fun _ h=>h,fun _ h=>.inl h,fun b ⟨j,o,c,i,k⟩=>.inl ⟨j,o,c,(h j).symm.trans i,k⟩,fun _ _ _=>rfl,
  fun j o g=>⟨o,(h j).trans g,aQK _,fun _=>⟨rfl,rfl,fun _=>aQK _⟩⟩⟩
 refine⟨⟨f.imm,fun j o g=>?_,fun j j' o o' b c c' i k=>f.inj j _ o _ b c _ ((h j).symm.trans i) ((h _).symm.trans k),e.glob f⟩,e⟩;exact(f.obj j o ((h j).symm.trans g)).keep rfl (fun _ _ _ _=>⟨rfl,fun h=>h⟩) (fun r _ a _ v l=>l.mono f e)
def eR(s:List UInt8):List (List AV):=s.map fun b=>[.pv (.int .u8 b.toNat)]
theorem PA{bs:List UInt8}{r:ByteArray}(v:o.op=.convert S T x)(hS:P.underlying S=some (.slice e))(i:P.underlying e=some (.int .u8))(B:P.underlying T=some .string)
  (C:aR E x=some (.osl id g off len)) (M:H.get id=some ob) (V:ob.g=g) (q:ob.sz=1) (F:(ob.rows.drop off).take len=eR bs) (J:(⟨bs.toArray⟩:ByteArray)=r):cU P N o E H (.pv (.str r)) H :=
 .of_run fun a w I ι l U=>by
  have s:=aJ U C;have h:=aAt l s M V q;rw[F]at h;subst J;refine⟨.string ⟨bs.toArray⟩,?_,.pv (.str _)⟩;rcases h with⟨p,c,d,m,t,D,s4,G⟩|⟨m,t⟩
  ·have hnews:d=bs.map fun b=>Value.int .u8 b.toNat:=by
    apply List.ext_getElem?;intro j;by_cases z:j<bs.length
    ·obtain ⟨u,A,q2,R⟩:=G j [.pv (.int .u8 (bs[j]'z).toNat)] (by simp[eR,aQJ z]) 0 _ (by simp;rfl);rw[Nat.mul_one,Nat.add_zero]at A;rw[A,R.int_inv]
     simp_all
    rw[List.getElem?_eq_none (by rw[t];simp[eR];omega),List.getElem?_eq_none (by grind)]
   have O:(loadCells p (eR bs).length).run P w=.ok ((bs.map fun b=>(b.toNat:Int)).map (Value.int .u8)).toArray w:=by
    have L:(bs.map fun b=>(b.toNat:Int)).map (Value.int .u8)=d:=by simp_all
    have Q:(eR bs).length=d.length:=by omega
    rw[L,Q];exact run_loadCells_list (P:=P) w p d D
   simp only[execOp,v,m,Sem.run_bind];rw[run_convert_bytes_string w S T e _ _ c hS i B,run_bytesToString w p _ c _ O,foldl_push_bytes];have K:(bs.map fun b=>(b.toNat:Int)).map (fun n=>UInt8.ofNat n.toNat)=bs:=by
    rw[List.map_map]
    conv=>rhs;rw[<-List.map_id bs]
    refine List.map_congr_left fun b _=>?_;simp
   rw[K];simp[ByteArray.empty,ByteArray.emptyWithCapacity];rfl
  have:bs=[]:=by simpa[eR]using t
  subst this;simp only[execOp,v,m,Sem.run_bind];rw[run_convert_bytes_string w S T e _ _ 0 hS i B];simp[Conv.bytesToString];rfl
end
end
section
structure Rec where
 v:AV
 R:Option (List Nat)
 W:aH
def J5:List Nat->Nat->Bool
 | [],_=>false
 |x::r,t=>cond (Nat.beq x t) true (J5 r t)
theorem GE{l}{t}:J5 l t=true↔t∈l:=by
 induction l with
 |nil=>simp[J5]
 | cons x r a =>
  cases e:Nat.beq x t with
  |true =>
   have:=Nat.eq_of_beq_eq_true e;simp[J5,e,this]
  |false =>
   have:x≠t:=fun h=>by simp_all
   simp[J5,e,a,Ne.symm this]
def AS:Option (List Nat)->Nat->Bool
 |none,_=>true
 |some l,t=>J5 l t
def WM:List Operand->List Nat
 | []=>[]
 |.tmp t::r=>t::WM r
 |_::r=>WM r
def hV(ops:List Oper)(o:Oper):List Nat :=match o.guard with
 |none=>WM o.op.operands.toList
 |some (j,_)=>match iV ops j with
  |some t=>t::WM o.op.operands.toList
  |none=>WM o.op.operands.toList
def restr(E:dG):List Nat->dG
 | []=>[]
 |t::r=>match E.get t with
  |some v=>(t,v)::restr E r
  |none=>restr E r
theorem QI{E}{l}:∀p∈restr E l,E.get p.1=some p.2/\p.1∈l:=by
 induction l with
 |nil=>simp[restr]
 |cons t r ih =>
  intro p a;unfold restr at a
  grind
inductive DStep(P:Program)(N:Nat)(ops:List Oper)(o:Oper)(E:dG)(H:aH)(r:Rec):Prop
 |plain (hg:o.guard=none) (h:∀H1:aH,(∀id,AS r.R id=true->H1.get id=H.get id)->cU P N o (restr E (hV ops o)) H1 r.v (r.W++H1))
 | on (j:Nat) (want:Bool) (t:Tmp) (b:Bool) (hg:o.guard=some (j,want)) (hj:iV ops j=some t) (hb:E.get t=some (.pv (.bool b))) (hw:b=want)
   (h:∀H1:aH,(∀id,AS r.R id=true->H1.get id=H.get id)->cU P N o (restr E (hV ops o)) H1 r.v (r.W++H1))
 |off (j:Nat) (want:Bool) (t:Tmp) (x:AV) (hg:o.guard=some (j,want)) (hj:iV ops j=some t) (hb:E.get t=some x) (hw:WU want x=true) (hv:r.v=.tup []) (hW:r.W=[])
inductive DChain(P:Program)(N:Nat)(ops:List Oper):List Oper->dG->aH->List Rec->dG->aH->Prop
 |nil {E:dG} {H:aH}:DChain P N ops [] E H [] E H
 | cons {o:Oper} {rest:List Oper} {E E':dG} {H H':aH} {r:Rec} {rs:List Rec} (h:DStep P N ops o E H r) (hd:iW N o.dst=true) (hr:DChain P N ops rest (kZ E o.dst r.v) (r.W++H) rs E' H') :
   DChain P N ops (o::rest) E H (r::rs) E' H'
structure Ent2 where
 o:Oper
 r:Rec
def AF(E:dG)(l:List Ent2)(S:Nat->Bool):Nat->Nat->Option AV
 |0,t=>E.get t
 |k+1,t=>match l[k]? with
  |some x=>if S k=true/\x.o.dst=some t then some x.r.v else AF E l S k t
  |none=>AF E l S k t
def yM(H:aH)(l:List Ent2)(S:Nat->Bool):Nat->Nat->Option Ob
 |0,id=>H.get id
 |k+1,id=>match l[k]? with
  |some x=>if S k=true/\(x.r.W.get id).isSome=true then x.r.W.get id else yM H l S k id
  |none=>yM H l S k id
theorem DF(W H)(id):aH.get (W++H) id=match W.get id with|some o=>some o|none=>H.get id:=by
 induction W with
 |nil=>rfl
 |cons x r a =>
  obtain ⟨i,o⟩:=x;cases e:Nat.beq i id with
  |true=>simp[aH.get,e]
  |false=>simpa[aH.get,e]using a
def hkeys(W:aH):List Nat:=W.map (·.1)
def kX(ops:List Oper)(x y:Ent2):Bool :=(match x.o.dst with
   |some d=>J5 (hV ops y.o) d||(match y.o.dst with|some e=>Nat.beq e d|none=>false)
   |none=>false) ||
  (match y.o.dst with
   |some d=>J5 (hV ops x.o) d
   |none=>false) ||
  (hkeys x.r.W).any (fun i=>AS y.r.R i||J5 (hkeys y.r.W) i) ||
  (hkeys y.r.W).any (fun i=>AS x.r.R i)
def sV(acc:List Nat):List Edge->Nat
 | []=>0
 |e::r=>if Region.binds .any e then((1 <<< e.on) ||| acc.getD e.on 0) ||| sV acc r else sV acc r
def aJX:List Oper->List Nat->List Nat
 | [],acc=>acc
 |o::r,acc=>aJX r (acc++[sV acc o.after.toList])
def KW(ops:List Oper)(bef:List Nat):Nat->List Ent2->List Ent2->Bool
 |_,_,[]=>true
 |j,prev,y::r=>(prev.zipIdx.all fun(x,i)=>!kX ops x y||(bef.getD j 0).testBit i)&&KW ops bef (j+1) (prev++[y]) r
def KX:Nat->List Oper->Bool
 |_,[]=>true
 |j,o::r=>(o.after.toList.all fun e=>!Region.binds .any e||Nat.blt e.on j)&&KX (j+1) r
def HY(ops:List Oper)(rs:List Rec):Bool :=KX 0 ops&&KW ops (aJX ops []) 0 [] (List.zipWith Ent2.mk ops rs)
def aDc(ops:List Oper)(S:Nat->Bool):Prop:=∀j o,ops[j]?=some o->S j=true->∀e∈o.after.toList,Region.binds .any e=true->S e.on=true
def Pre(ops:List Oper)(i j:Nat):Prop:=∀S,aDc ops S->∀o,ops[j]?=some o->(∀e∈o.after.toList,Region.binds .any e=true->S e.on=true)->S i=true
theorem PN{ops:List Oper}{acc:List Nat}(c:∀j,j<acc.length->∀i,(acc.getD j 0).testBit i=true->Pre ops i j)(hlen:acc.length<=ops.length):
  ∀(l:List Edge) (i:Nat),(sV acc l).testBit i=true->∀S,aDc ops S->(∀e∈l,Region.binds .any e=true->S e.on=true)->S i=true:=by
 intro l
 induction l with
 |nil=>intro i h;simp[sV]at h
 | cons e r p =>
  intro i h S k g;unfold sV at h
  split at h
  ·rename_i o;rw[Nat.testBit_or,Nat.testBit_or,Bool.or_eq_true,Bool.or_eq_true]at h;rcases h with(h|h)|h
   ·have:e.on=i:=by
     rw[Nat.testBit_shiftLeft]at h;simp only[aQN,aQL]at h;have q:=h.2;rw[Nat.testBit_one_eq_true_iff_self_eq_zero]at q;omega
    rw[<-this];exact g e (by simp) o
   ·by_cases s:e.on<acc.length
    ·have f:e.on<ops.length:=by omega
     have m:=g e (by simp) o;exact c e.on s i h S k _ (aQJ f) (fun d a n=>k e.on _ (aQJ f) m d a n)
    simp[List.getD,List.getElem?_eq_none (show acc.length<=e.on by omega)]at h
   exact p i h S k (fun d a=>g d (by simp[a]))
  exact p i h S k (fun d a=>g d (by simp[a]))
theorem R8{ops:List Oper}:∀(rest b:List Oper) (acc:List Nat),ops=b++rest->acc.length=b.length->(∀j,j<acc.length->∀i,(acc.getD j 0).testBit i=true->Pre ops i j) ->
  ∀j i,((aJX rest acc).getD j 0).testBit i=true->Pre ops i j:=by
 intro rest
 induction rest with
 |nil =>
  intro b acc k f g j i c;by_cases h:j<acc.length
  ·exact g j h i c
  simp[aJX,List.getD,List.getElem?_eq_none (show acc.length<=j by omega)]at c
 | cons o r q =>
  intro b acc k f g;refine q (b++[o]) (acc++[sV acc o.after.toList]) (by simp_all) (by simp[f]) ?_;intro j h i c;by_cases e:j<acc.length
  ·have m:(acc.getD j 0).testBit i=true:=by simpa[List.getD,List.getElem?_append_left e]using c
   exact g j e i m
  have n:j=acc.length:=by simp at h;omega
  subst n;have c:(sV acc o.after.toList).testBit i=true:=by simpa[List.getD]using c
  intro S p s d l;have:s=o:=by
   rw[k,List.getElem?_append_right (by omega),f]at d;simp at d;exact d.symm
  subst this;exact PN g (by rw[k,f];simp) _ i c S p l
theorem F7{ops:List Oper}{c:List Nat}:∀(rest a:List Ent2),KW ops c a.length a rest=true->∀i j,i<j->a.length<=j->∀x y,(a++rest)[i]?=some x->(a++rest)[j]?=some y->kX ops x y=true->(c.getD j 0).testBit i=true:=by
 intro rest
 induction rest with
 |nil =>
  simp_all
 | cons z r q =>
  intro a h i j b hj x y f d k;simp only[KW,aQN]at h;by_cases e:j=a.length
  ·subst e;have m:y=z:=by
    simp at d;exact d.symm
   subst m;have g:=by rw[List.getElem?_append_left b]at f;exact f
   have o:(x,i)∈a.zipIdx:=by rw[List.mem_zipIdx_iff_getElem?];exact g
   have:=List.all_eq_true.1 h.1 _ o
   simpa[k]using this
  have l:=h.2;have p:a.length+1=(a++[z]).length:=by simp
  rw[p]at l;have n:a++z::r=(a++[z])++r:=by simp
  rw[n]at f d;exact q (a++[z]) l i j b (by simp;omega) x y f d k
theorem F8:∀(l) (k),KX k l=true->∀j o,l[j]?=some o->∀e∈o.after.toList,Region.binds .any e=true->e.on<k+j:=by
 intro l
 induction l with
 |nil=>simp_all
 | cons x r ih =>
  intro k h j o a e b c;simp only[KX,aQN]at h;cases j with
  |zero =>
   simp at a;subst a;have:=List.all_eq_true.1 h.1 e b
   simpa[c]using this
  |succ j =>
   grind
section
variable{P:Program}{ops:List Oper}
theorem DChain.spec{a:List Rec}(h:DChain P N ops rest E H a E' H'):a.length=rest.length /\
  (∀k x,(List.zipWith Ent2.mk rest a)[k]?=some x->iW N x.o.dst=true/\∃f g,(∀t,f.get t=AF E (List.zipWith Ent2.mk rest a) (fun _=>true) k t)/\(∀id,g.get id=yM H (List.zipWith Ent2.mk rest a) (fun _=>true) k id)/\DStep P N ops x.o f g x.r) /\
  (∀t,E'.get t=AF E (List.zipWith Ent2.mk rest a) (fun _=>true) rest.length t)/\(∀id,H'.get id=yM H (List.zipWith Ent2.mk rest a) (fun _=>true) rest.length id):=by
 induction h with
 |nil=>exact⟨rfl,by simp,fun t=>rfl,fun id=>rfl⟩
 | @cons o rest E E' H H' r a m u hr b =>
  obtain ⟨s,v,h3,h4⟩:=b;have i:∀(l:List Ent2) k t,AF (kZ E o.dst r.v) l (fun _=>true) k t=AF E (⟨o,r⟩::l) (fun _=>true) (k+1) t:=by
   intro l k t
   induction k with
   | zero =>
    simp only[AF,List.getElem?_cons_zero];cases hdst:o.dst with
    |none=>rfl
    |some d =>
     simp only[kZ];by_cases e:d=t
     ·subst e;simp[dG.get_cons_same]
     rw[dG.get_cons_other _ _ e];simp[e]
   |succ k b =>
    rw[AF,AF]
    simp_all
  have j:∀(l:List Ent2) k id,yM (r.W++H) l (fun _=>true) k id=yM H (⟨o,r⟩::l) (fun _=>true) (k+1) id:=by
   intro l k id
   induction k with
   |zero =>
    simp only[yM,List.getElem?_cons_zero,DF];all_goals grind
   |succ k b =>
    rw[yM,yM];simp only[List.getElem?_cons_succ];cases l[k]? with
    |none=>exact b
    |some x=>simp only[b]
  refine⟨by simp[s],?_,?_,?_⟩
  ·intro k x c;cases k with
   |zero =>
    simp at c;subst c;exact⟨u,E,H,fun t=>rfl,fun id=>rfl,m⟩
   |succ k =>
    simp at c;obtain ⟨n,f,g,w,p,q⟩:=v k x (by simpa using c);exact⟨n,f,g,fun t=>(w t).trans (i _ k t),fun id=>(p id).trans (j _ k id),q⟩
  all_goals simp_all
theorem qB {l} {S} {t}:∀ (n k),k<=n->(∀ j x,l[j]?=some x->x.o.dst=some t->(j < k->S j=true)/\(k<=j->j < n->S j=false))->AF E l S n t=AF E l (fun _=>true) k t:=by
  intro n
  induction n with
  | zero => intro k a h; have : k = 0 := by omega
            subst this;rfl
  | succ n ih =>
    intro k a h;by_cases e:k=n+1
    · subst e
      rw[AF,AF]
      grind
    · rw[AF]
      grind
theorem qA {l} {S} {id}:∀ (n k),k<=n->(∀ j x,l[j]?=some x->(x.r.W.get id).isSome=true->(j < k->S j=true)/\(k<=j->j < n->S j=false))->yM H l S n id=yM H l (fun _=>true) k id:=by
  intro n
  induction n with
  | zero => intro k a h; have : k = 0 := by omega
            subst this;rfl
  | succ n ih =>
    intro k a h;by_cases e:k=n+1
    · subst e
      rw[yM,yM]
      grind
    · rw[yM]
      grind
end
theorem cU.restr{P}{N}{o}{E b}{H1 H2}{l}{v}(h:cU P N o (restr E l) H1 v H2)(k:∀t,t∈l->b.get t=E.get t):cU P N o b H1 v H2:=by intro a w I ι j i f g K Q e;refine h a w I _ j i f (fun t v d=>?_) K Q e;have c:=QI _ (gT d);exact g t v ((k t c.2).trans c.1)
theorem cX.get{G0}{E E'}{H H'}(g:∀t,E'.get t=E.get t)(h:∀j,H'.get j=H.get j):cX G0 E H E' H':=by intro G hG N a w d;obtain ⟨I,n,e,b,k⟩:=d.rel;obtain ⟨i,f⟩:=e.congr h;refine⟨d.defers,d.size,I,n,i,b.trans f,fun t v o=>?_⟩;obtain ⟨c,m,l⟩:=k t v ((g t).symm.trans o);exact⟨c,m,l.mono e f⟩
theorem BK{ops}{x y:Ent2}{d:Nat}(h:x.o.dst=some d)(a:d∈hV ops y.o):kX ops x y=true:=by simp[kX,h,GE.2 a]
theorem sK{ops}{x y:Ent2}{d:Nat}(h:x.o.dst=some d)(a:y.o.dst=some d):kX ops x y=true:=by simp[kX,h,a,pA]
theorem BJ{ops}{x y:Ent2}{d:Nat}(h:y.o.dst=some d)(a:d∈hV ops x.o):kX ops x y=true:=by simp[kX,h,GE.2 a]
theorem xC{W}{id}(h:(W.get id).isSome=true):id∈hkeys W:=by obtain ⟨o,a⟩:=Option.isSome_iff_exists.1 h;exact List.mem_map.2 ⟨_,dZ a,rfl⟩
theorem R5{ops}{x y}{id}(h:(x.r.W.get id).isSome=true)(h':AS y.r.R id=true):kX ops x y=true:=by have:(hkeys _).any (fun i=>AS y.r.R i||J5 (hkeys y.r.W) i)=true:=List.any_eq_true.2 ⟨id,xC h,by grind⟩;simp[kX,this]
theorem DJ{ops}{x y}{id}(h:(x.r.W.get id).isSome=true)(b:(y.r.W.get id).isSome=true):kX ops x y=true:=by have:(hkeys _).any (fun i=>AS y.r.R i||J5 (hkeys y.r.W) i)=true:=List.any_eq_true.2 ⟨id,xC h,by simp[GE.2 (xC b)]⟩;simp[kX,this]
theorem R6{ops}{x y}{id}(h:(y.r.W.get id).isSome=true)(a:AS x.r.R id=true):kX ops x y=true:=by have:=List.any_eq_true.2 ⟨id,xC h,a⟩;simp[kX,this]
theorem cU.any_heap{P}{N}{o}{E}{H H1}{v}(h:cU P N o E H v H)(g:∀j,H1.get j=H.get j):cU P N o E H1 v H1:=by intro a w I ι s q f k K Q l;obtain ⟨m,i⟩:=f.congr (fun j=>(g j).symm);refine h a w I _ s q m (fun t v y=>let ⟨c,p,u⟩:=k t v y;⟨c,p,u.mono f i⟩) K Q ?_;rintro c w' I' ι' r H' ⟨rfl,rfl⟩ n b d;obtain ⟨x,e⟩:=b.congr g;exact l c _ _ _ _ _ ⟨rfl,rfl⟩ (n.mono b e) x ((i.trans d).trans e)
theorem DStep.q{P}{N}{ops}{o}{E}{H}{v}(a:o.guard=none)(h:cU P N o (restr E (hV ops o)) H v H):DStep P N ops o E H ⟨v,none,[]⟩ :=.plain a fun H1 b=>h.any_heap fun j=>b j rfl
theorem DStep.qon{P}{N}{ops}{o}{E}{H}{v}{j}{a}{t}{b}(f:o.guard=some (j,a))(d:iV ops j=some t)(c:E.get t=some (.pv (.bool b)))(g:b=a)(h:cU P N o (restr E (hV ops o)) H v H):DStep P N ops o E H ⟨v,none,[]⟩ :=.on j _ t b f d c g fun H1 e=>h.any_heap fun j=>e j rfl
theorem DStep.qoff{P}{N}{ops}{o}{E}{H}{j}{a}{t}{x}(d:o.guard=some (j,a))(c:iV ops j=some t)(b:E.get t=some x)(e:WU a x=true):DStep P N ops o E H ⟨.tup [],some [],[]⟩ :=.off j _ t x d c b e rfl rfl
theorem aG2{P:Program}{Q:Exit->dG->aH->Prop}{rs:List Rec}(hm:P.follows .mixedOrders=true)(hc:DChain P N ops.toList ops.toList E H rs E' H')(hok:HY ops.toList rs=true)
  (hK:Q .normal E' H'):gM P G0 N (.region id ops true) Q E H:=by
 intro G hG a w hs ro hro;have hnd0:ro=none\/ops.toList.all Oper.noDefer=true:=hro;refine wpIn_region_any hm ?_;obtain ⟨hlen,hst,hE',hH'⟩:=hc.spec;obtain ⟨l,hl⟩:∃l,l=List.zipWith Ent2.mk ops.toList rs:=⟨_,rfl⟩;rw[<-hl]at hst hE' hH';simp only[HY,aQN,<-hl]at hok;obtain ⟨hok1,hok2⟩:=hok;have hll:l.length=ops.size:=by simp_all
 have hlo:∀(i:Nat) (x:Ent2),l[i]?=some x->ops.toList[i]?=some x.o:=by
  grind
 have hedge:=F8 ops.toList 0 hok1;have hbef:∀(i j:Nat) (x y:Ent2),i<j->l[i]?=some x->l[j]?=some y->kX ops.toList x y=true->Pre ops.toList i j:=fun i j x y hij hx hy Z =>
  R8 ops.toList [] [] rfl rfl (by simp) j i (F7 l [] hok2 i j hij (aQV _) x y hx hy Z)
 have main:∀(K:Nat) (f:Array Bool) (a:Act) (w:World) (W:dG) (H1:aH),f.size=ops.size->((List.range ops.size).filter fun i=>!f.getD i true).length<=K ->
   aDc ops.toList (fun i=>f.getD i false)->St G N W H1 a w->(∀t,W.get t=AF E l (fun i=>f.getD i false) ops.size t)->(∀j,H1.get j=yM H l (fun i=>f.getD i false) ops.size j) ->
   wpAnyIn (RF ro) 0 P .any ops (fun e a w=>∃E H,Q e E H/\St G N E H a w) K f a w:=by
  intro K
  induction K with
  | zero =>
   intro f a w W H1 hsz hcnt J q hE1 hH1;have L:∀i,i<ops.size->f.getD i false=true:=by
    simp_all
   refine⟨?_,E',H',hK,?_⟩
   ·unfold Region.ready
    simp_all
   refine cX.get (G0:=G0) (fun t=>?_) (fun j=>?_) G hG N a w q
   ·rw[hE' t,hE1 t,Array.length_toList];exact(qB (E:=E) ops.size ops.size (aQK _) (fun j x p _=>⟨fun s=>L j s,fun h1 h2=>by omega⟩)).symm
   rw[hH' j,hH1 j,Array.length_toList];exact(qA (H:=H) ops.size ops.size (aQK _) (fun i x hi _=>⟨fun s=>L i s,fun h1 h2=>by omega⟩)).symm
  | succ K ih =>
   intro f a w W H1 hsz hcnt J q hE1 hH1;refine⟨fun hnil=>?_,fun i hi=>?_⟩
   ·-- nothing is left
    have L:∀i,i<ops.size->f.getD i false=true:=by
     intro i
     induction i using Nat.strongRecOn with
     | _ i ihi =>
      intro hi;refine Classical.byContradiction fun hno=>?_;have hi':i<f.size:=by omega
      have hno':f.getD i true=false:=by
       simp[Array.getD,hi']at hno |-;exact hno
      have s:i<ops.toList.length:=by simpa using hi
      have hr:i∈Region.ready .any ops f:=by
       unfold Region.ready;refine List.mem_filter.2 ⟨List.mem_range.2 hi,?_⟩;have ho:ops[i]?=some ops[i]:=Array.getElem?_eq_getElem hi;simp only[hno',Bool.not_false,Bool.true_and,ho,Option.map_some,Option.getD_some];rw[Array.all_eq_true'];intro e X;cases V:Region.binds .any e with
       |false=>simp
       |true =>
        have hon:=hedge i ops[i] (by simp[ho]) e (by simpa using X) V;simp only[Bool.not_true,Bool.false_or];exact ihi e.on (by omega) (by omega)
      rw[hnil]at hr;cases hr
    refine⟨E',H',hK,?_⟩;refine cX.get (G0:=G0) (fun t=>?_) (fun j=>?_) G hG N a w q
    ·rw[hE' t,hE1 t,Array.length_toList];exact(qB (E:=E) ops.size ops.size (aQK _) (fun j x p _=>⟨fun s=>L j s,fun h1 h2=>by omega⟩)).symm
    rw[hH' j,hH1 j,Array.length_toList];exact(qA (H:=H) ops.size ops.size (aQK _) (fun i x hi _=>⟨fun s=>L i s,fun h1 h2=>by omega⟩)).symm
   have hi1:=List.mem_filter.1 hi;have hilt:i<ops.size:=List.mem_range.1 hi1.1;have hi':i<f.size:=by omega
   have ho:ops[i]?=some ops[i]:=Array.getElem?_eq_getElem hilt;have hi2:=hi1.2;simp only[ho,Option.map_some,Option.getD_some,aQN]at hi2;obtain ⟨hnl,hpreds⟩:=hi2;have Y:f.getD i false=false:=by
    simp[Array.getD,hi']at hnl |-;exact hnl
   have hpre:∀e∈(ops[i]).after.toList,Region.binds .any e=true->f.getD e.on false=true:=by
    intro e X V;have:=(Array.all_eq_true'.1 hpreds) e (by simpa using X)
    simpa[V]using this
   have hil:i<l.length:=by omega
   obtain ⟨x,hx⟩:∃x,l[i]?=some x:=⟨_,aQJ hil⟩;have hxo:x.o=ops[i]:=by
    have:=hlo i x hx;simp[ho]at this;exact this.symm
   obtain ⟨T,Ek,Hk,hEk,hHk,hdst⟩:=hst i x hx;have A:∀(j:Nat) (y:Ent2),j<i->l[j]?=some y->kX ops.toList y x=true->f.getD j false=true:=by
    intro j y p hy Z;exact hbef j i y x p hy hx Z _ J ops[i] (by simp[ho]) hpre
   have C:∀(j:Nat) (y:Ent2),i<j->l[j]?=some y->kX ops.toList x y=true->f.getD j false=false:=by
    intro j y p hy Z;cases R:f.getD j false with
    |false=>rfl
    |true =>
     have hjlt:j<l.length:=(aQI.1 hy).1;have hjo:ops.toList[j]?=some y.o:=hlo j y hy;have:=hbef i j x y p hx hy Z _ J y.o hjo (fun e X V=>J j y.o hjo R e X V);rw[Y]at this;cases this
   have agreeE:∀t,(∀(j:Nat) (y:Ent2),l[j]?=some y->y.o.dst=some t->(j<i->kX ops.toList y x=true)/\(i<j->kX ops.toList x y=true))->W.get t=Ek.get t:=by
    intro t ht;rw[hE1 t,hEk t];refine qB (E:=E) ops.size i (by omega) (fun j y p F=>⟨fun s=>A j y s p ((ht j y p F).1 s),fun h1 h2=>?_⟩);by_cases e:j=i
    ·subst e;exact Y
    exact C j y (by omega) p ((ht j y p F).2 (by omega))
   have agreeH:∀k,(∀(j:Nat) (y:Ent2),l[j]?=some y->(y.r.W.get k).isSome=true->(j<i->kX ops.toList y x=true)/\(i<j->kX ops.toList x y=true))->H1.get k=Hk.get k:=by
    intro k hk;rw[hH1 k,hHk k];refine qA (H:=H) ops.size i (by omega) (fun j y p F=>⟨fun s=>A j y s p ((hk j y p F).1 s),fun h1 h2=>?_⟩);by_cases e:j=i
    ·subst e;exact Y
    exact C j y (by omega) p ((hk j y p F).2 (by omega))
   have z:∀t,t∈hV ops.toList x.o->W.get t=Ek.get t:=fun t ht =>
    agreeE t fun j y p F=>⟨fun _=>BK F ht,fun _=>BJ F ht⟩
   have U:∀k,AS x.r.R k=true->H1.get k=Hk.get k:=fun k hk =>
    agreeH k fun j y p F=>⟨fun _=>R5 F hk,fun _=>R6 F hk⟩
   have u:∀j,(f.setIfInBounds i true).getD j false=if j=i then true else f.getD j false:=by
    intro j;by_cases e:j=i
    ·subst e;simp[Array.getD,hi']
    simp only[Array.getD_eq_getD_getElem?,Array.getElem?_setIfInBounds_ne (Ne.symm e),e,if_false]
   have hdown':aDc ops.toList (fun j=>(f.setIfInBounds i true).getD j false):=by
    intro j o p R e X V;simp only[u]at R |-;by_cases ej:j=i
    ·subst ej;have:o=ops[j]:=by simp[ho]at p;exact p.symm
     subst this;have:=hpre e X V;simp[this]
    simp only[ej,if_false]at R;have:=J j o p R e X V;simp only at this;simp[this]
   have hcnt':((List.range ops.size).filter fun j=>!(f.setIfInBounds i true).getD j true).length<=K:=by
    have hlist':∀j,(f.setIfInBounds i true).getD j true=if j=i then true else f.getD j true:=by
     intro j;by_cases e:j=i
     ·subst e;simp[Array.getD,hi']
     simp only[Array.getD_eq_getD_getElem?,Array.getElem?_setIfInBounds_ne (Ne.symm e),e,if_false]
    have h1:((List.range ops.size).filter fun j=>!(f.setIfInBounds i true).getD j true)=((List.range ops.size).filter fun j=>!f.getD j true).filter fun j=>j != i:=by
     rw[List.filter_filter];refine List.filter_congr fun j _=>?_;rw[hlist'];by_cases e:j=i<;>simp[e]
    rw[h1];have h2:=List.length_filter_lt_length_iff_exists (p:=fun j=>j != i) (l:=(List.range ops.size).filter fun j=>!f.getD j true) |>.2 ⟨i,List.mem_filter.2 ⟨hi1.1,by simpa using hnl⟩,by simp⟩;omega
   have S:∀(r:AV) (a':Act) (w':World),r=x.r.v->St G N (kZ W x.o.dst x.r.v) (x.r.W++H1) a' w'->wpAnyIn (RF ro) 0 P .any ops (fun e a w=>∃E H,Q e E H/\St G N E H a w) K (f.setIfInBounds i true) a' w':=by
    intro r a' w' _ hst';refine ih _ a' w' _ _ (by simp[hsz]) hcnt' hdown' hst' (fun t=>?_) (fun k=>?_)
    ·-- slots
     by_cases F:x.o.dst=some t
     ·have e1:dG.get (kZ W x.o.dst x.r.v) t=some x.r.v:=by rw[F];simp[kZ,dG.get_cons_same]
      rw[e1];have e2:=qB (E:=E) (l:=l) (S:=fun j=>(f.setIfInBounds i true).getD j false) (t:=t) ops.size (i+1) (by omega) (fun j y p hyd=>⟨fun s=>?_,fun h1 h2=>?_⟩)
      ·rw[e2,AF,hx];simp[F]
      ·simp only[u];by_cases ej:j=i
       ·simp[ej]
       simp only[ej,if_false];exact A j y (by omega) p (sK hyd F)
      simp only[u];rw[aQC (by omega)];exact C j y (by omega) p (sK F hyd)
     have e1:dG.get (kZ W x.o.dst x.r.v) t=W.get t:=by
      cases hdd:x.o.dst with
      |none=>rfl
      |some d=>exact dG.get_cons_other _ _ (fun e=>F (by rw[hdd,e]))
     rw [e1,hE1 t];have:∀ n,AF E l (fun i=>f.getD i false) n t=AF E l (fun j=>(f.setIfInBounds i true).getD j false) n t:=by
      intro n
      induction n with
      |zero=>rfl
      | succ n D =>
       rw[AF,AF];cases hn:l[n]? with
       |none=>exact D
       |some y =>
        simp only;by_cases en:n=i
        ·subst en;rw[hx]at hn;cases hn;rw[aQC (fun h=>F h.2),aQC (fun h=>F h.2)];exact D
        have hS:(f.setIfInBounds i true).getD n false=f.getD n false:=by rw[u,aQC en]
        rw[hS,D]
     exact this _
    rw[DF];by_cases F:(x.r.W.get k).isSome=true
    ·obtain ⟨ob,hob⟩:=Option.isSome_iff_exists.1 F;rw[hob];have e2:=qA (H:=H) (l:=l) (S:=fun j=>(f.setIfInBounds i true).getD j false) (id:=k) ops.size (i+1) (by omega) (fun j y p hyd=>⟨fun s=>?_,fun h1 h2=>?_⟩)
     ·rw[e2,yM,hx];simp[hob]
     ·simp only[u];by_cases ej:j=i
      ·simp[ej]
      simp only[ej,if_false];exact A j y (by omega) p (DJ hyd F)
     simp only[u];rw[aQC (by omega)];exact C j y (by omega) p (DJ F hyd)
    have hnone:x.r.W.get k=none:=by simpa using F
    rw [hnone];simp only;rw [hH1 k];have:∀ n,yM H l (fun i=>f.getD i false) n k=yM H l (fun j=>(f.setIfInBounds i true).getD j false) n k:=by
     intro n
     induction n with
     |zero=>rfl
     | succ n D =>
      rw[yM,yM];cases hn:l[n]? with
      |none=>exact D
      |some y =>
       simp only;by_cases en:n=i
       ·subst en;rw[hx]at hn;cases hn;rw[aQC (fun h=>F h.2),aQC (fun h=>F h.2)];exact D
       have hS:(f.setIfInBounds i true).getD n false=f.getD n false:=by rw[u,aQC en]
       rw[hS,D]
    exact this _
   unfold wpOpIn;simp only[ho];rw[hxo]at hdst z T;rw[hxo]at S;have hgE:∀(j:Nat) (M:Bool) (t:Tmp) (b:Bool),(ops[i]).guard=some (j,M)->iV ops.toList j=some t->Ek.get t=some (.pv (.bool b))->yielded ops a.tmps j=some b:=by
    intro j M t b hg p V;have hmem:t∈hV ops.toList ops[i]:=by simp[hV,hg,p]
    exact uE (E:=W) p ((z t hmem).trans V) q.rel.choose_spec.choose_spec.2.2
   have hnd:ro=none\/(ops[i]).noDefer=true:=hnd0.imp (fun h=>h) fun h=>List.all_eq_true.1 h _ (by simp);cases hdst with
   |plain hg h =>
    have hw:Region.wanted ops[i] (yielded ops a.tmps)=true:=by simp[Region.wanted,hg]
    simp only[hw,if_true];refine q.op T ((h H1 U).restr z) ?_ hnd;rintro r H2 a' w' ⟨rfl,rfl⟩ hs';exact S _ a' w' rfl hs'
   |on j M t b hg p V hw h =>
    have hy:=hgE j M t b hg p V;have hw:Region.wanted ops[i] (yielded ops a.tmps)=true:=by simp[Region.wanted,hg,hy,hw]
    simp only[hw,if_true];refine q.op T ((h H1 U).restr z) ?_ hnd;rintro r H2 a' w' ⟨rfl,rfl⟩ hs';exact S _ a' w' rfl hs'
   | off j M t x' hg p V hw hv hW =>
    have hmem:t∈hV ops.toList ops[i]:=by simp[hV,hg,p]
    have hw:Region.wanted ops[i] (yielded ops a.tmps)=false :=
     II (E:=W) hg p ((z t hmem).trans V) hw q.rel.choose_spec.choose_spec.2.2
    simp only[hw,Bool.false_eq_true,if_false];refine⟨fun _ _=>trivial,?_⟩;refine S (.tup []) _ w hv.symm ?_;obtain ⟨I,ι,hr,hst2,X⟩:=q.rel;rw[hv,hW];refine⟨?_,?_,I,ι,hr,hst2,jL.put hr (Step.refl _ _ _ _) X jL.skip (by rw[q.size];exact T)⟩
    ·rw[jP];exact q.defers
    have:=q.size;cases (ops[i]).dst<;>simpa[Act.put]using this
 have hs':St G N E H a {w with drawn:=w.drawn+1}:=by
  obtain ⟨I,ι,hr,hst2,X⟩:=hs.rel;obtain ⟨k2,k3⟩:=hr.drawn (w':={w with drawn:=w.drawn+1}) rfl rfl rfl rfl;exact⟨hs.defers,hs.size,I,ι,k2,hst2.trans k3,fun t v ht=>let ⟨c,h1,h2⟩:=X t v ht;⟨c,h1,h2.mono hr k3⟩⟩
 refine main ops.size (Array.replicate ops.size false) a _ E H (by simp) (by
  have:=List.length_filter_le (fun i=>!(Array.replicate ops.size false).getD i true) (List.range ops.size)
  simpa using this) (fun j o p R=>by simp[Array.getD]at R) hs' (fun t=>?_) (fun k=>?_)
 ·have:∀n,AF E l (fun i=>(Array.replicate ops.size false).getD i false) n t=E.get t:=by
   intro n
   induction n with
   |zero=>rfl
   | succ n D =>
    rw[AF];cases l[n]? with
    |none=>exact D
    |some y =>
     have hf:(Array.replicate ops.size false).getD n false=false:=by simp[Array.getD]
     simp only[hf,Bool.false_eq_true,false_and,if_false];exact D
  exact(this _).symm
 have:∀n,yM H l (fun i=>(Array.replicate ops.size false).getD i false) n k=H.get k:=by
  intro n
  induction n with
  |zero=>rfl
  | succ n D =>
   rw[yM];cases l[n]? with
   |none=>exact D
   |some y =>
    have hf:(Array.replicate ops.size false).getD n false=false:=by simp[Array.getD]
    simp only[hf,Bool.false_eq_true,false_and,if_false];exact D
 exact(this _).symm
end
section
def eN(P:Program)(T:TypeId)(cells:List AV):Prop:=∃z v,(∀w,(zeroValue T).run P w=.ok z w)/\ZV z v/\UM v=some cells
def mL(P:Program)(T:TypeId)(places:List (Nat×Nat))(l0:List AV):Prop :=∃fs pl z v,P.underlying T=some (.struct fs)/\(∀w,(zeroValue T).run P w=.ok z w)/\ZV z v/\UM v=some l0/\(∀w,((fs.mapM fun f=>do pure (f.offset,<-sizeOf f.type)):Sem (Array (Nat×Nat))).run P w=.ok pl w)/\pl.toList=places
def K8(P:Program)(T:TypeId)(sz:Nat)(l0:List AV):Prop :=∃n e z v,P.underlying T=some (.array n e)/\(∀w,(zeroValue T).run P w=.ok z w)/\ZV z v/\UM v=some l0/\∀w,(sizeOf e).run P w=.ok sz w
def fC(P:Program)(T e sz:TypeId):Prop:=P.underlying T=some (.slice e)/\(∀w,(sizeOf e).run P w=.ok sz w)/\0<sz/\∃z,∀w,(zeroValue e).run P w=.ok z w
def EI(P:Program)(e:TypeId)(sz bytes:Nat):Prop:=YF P e sz bytes/\0<bytes
theorem EI.mk{P}{e}{sz bytes}{z}(h:(P.info? e).map (fun i=>(i.zero,i.size,i.bytes))=some (some z,sz,bytes))(d:z.cells.size=sz)(c:0<sz)(b:0<bytes):EI P e sz bytes:=by
 refine⟨?_,b⟩;cases a:P.info? e with
 |none=>rw[a]at h;cases h
 |some i =>
  rw[a]at h;simp[Option.map_some,Option.some.injEq,Prod.mk.injEq]at h;obtain ⟨g,f,j⟩:=h;exact⟨i,z,a,g,f,j,d,c⟩
theorem cU.congr{P}{N}{o}{E}{H H2 H3}{v}(h:cU P N o E H v H2)(l:∀j,H3.get j=H2.get j):cU P N o E H v H3:=by intro a w I ι n m k f K Q i;refine h a w I _ n m k f K Q ?_;rintro c w' I' ι' r H' ⟨rfl,rfl⟩ g b d;obtain ⟨p,e⟩:=b.congr l;exact i c _ _ _ _ _ ⟨rfl,rfl⟩ (g.mono b e) p (d.trans e)
theorem uV(H:aH)(id)(o):∀j,aH.get ((id,o)::H) j=(H.set id o).get j:=by
 intro j;by_cases e:j=id
 ·subst e;rw[aH.get_set_same,get_cons_same]
 rw[aH.get_set_other _ _ e,get_cons_other _ _ e]
section
variable{P:Program}{o:Oper}{x y:Operand}
theorem bU{cells}{id n}(b:o.op=.alloc T)(g:eN P T cells)(d:cells.length=n+1)(a:H.get id=none):cU P N o E H (.ref id 0 0 0) ((id,⟨0,n+1,T,[cells]⟩)::H) :=let ⟨_,_,f,e,c⟩:=g;aCh b f e c d a
theorem KD{a}{places}{l0 l}{aps}(f:o.op=.build T a)(c:mL P T places l0)(b:oS E a.toList=some aps)(hf:BB (fun i=>places[i]?) l0 aps=some l):
  cU P N o E H (.agg l) H:=by
 obtain ⟨fs,pl,z,v,e,h,g,d,j,h6⟩:=c;refine HU f e h g d j b ?_
 grind
theorem wQ{a}{sz}{l0 l}{aps}(f:o.op=.build T a)(c:K8 P T sz l0)(b:oS E a.toList=some aps)(h:BB (fun i=>some (i*sz,sz)) l0 aps=some l):
  cU P N o E H (.agg l) H :=
 let ⟨_,_,_,_,e,j,g,d,k⟩:=c;PB f e j g d k b h
theorem aQ{e:Nat}{a}{aps}{rows}(ps)(h:o.op=.buildSlice T n a)(hS:fC P T e sz)(m:Nat.ble (n*sz) 16777216=true)(f:oS E a.toList=some aps)(j:JY 0 aps=some rows)
  (c:ps.map (·.map AV.pv)=rows) (b:ps.length=n) (d:∀r∈ps,r.length=sz):cU P N o E H (.pv (.sl ps)) H :=
 let ⟨g,k,i,_,l⟩:=hS;MW h g k l (aQR m) i f j c b d
theorem fT{e:Nat}{a}{aps}{rows}(i:o.op=.buildSlice T n a)(hS:fC P T e sz)(g:Nat.ble (n*sz) 16777216=true)(f:oS E a.toList=some aps)(k:JY 0 aps=some rows)
  (b:rows.length=n) (c:∀r∈rows,r.length=sz) (d:H.get id=none):cU P N o E H (.osl id 0 0 n) ((id,⟨0,sz,e,rows⟩)::H) :=
 let ⟨h,l,j,_,m⟩:=hS;EO i h l m (aQR g) j f k b c d
theorem cO{v}{cells r}{id g n}{ob}(d:o.op=.store T x y)(h:∀w,(sizeOf T).run P w=.ok n w)(e:aR E x=some (.ref id g 0 0))(f:aR E y=some v)(i:UM v=some cells)
  (c:cells.length=n) (b:H.get id=some ob) (a:ob.g=g) (hi:ob.rows=[r]) (hk:r.length=n):cU P N o E H .any ((id,⟨g,ob.sz,ob.ty,[cells]⟩)::H):=by
 subst a;refine cU.congr (HT (r':=cells) d e f i h c b rfl (by rw[hi];rfl) (by omega) ?_ rfl) (fun j=>?_)
 ·simp_all
 rw[uV]
 grind
theorem bG{v}{r r'}{id g i k}{ob}{rows'}(e:o.op=.store T x y)(l:∀w,(sizeOf T).run P w=.ok 1 w)(f:aR E x=some (.ref id g i k))(h:aR E y=some v)(m:UM v=some [v])
  (n:H.get id=some ob) (c:ob.g=g) (hi:ob.rows[i]?=some r) (d:k<r.length) (b:r.set k v=r') (a:ob.rows.set i r'=rows'):cU P N o E H .any ((id,⟨g,ob.sz,ob.ty,rows'⟩)::H):=by
 subst c a;refine cU.congr (HT e f h m l rfl n rfl hi (by omega) ?_ rfl) (fun j=>uV _ _ _ j);rw[<-b,List.set_eq_take_append_cons_drop,aQD d];rfl
theorem iY{v}{cells r r'}{id g i k n}{ob}{rows'}(f:o.op=.store T x y)(m:∀w,(sizeOf T).run P w=.ok n w)(l:aR E x=some (.ref id g i k))(h:aR E y=some v)(p:UM v=some cells)
  (q:cells.length=n) (d:H.get id=some ob) (c:ob.g=g) (hi:ob.rows[i]?=some r) (e:k+n<=r.length) (b:r.take k++(cells++r.drop (k+n))=r') (a:ob.rows.set i r'=rows'):cU P N o E H .any ((id,⟨g,ob.sz,ob.ty,rows'⟩)::H):=by
 subst c a;exact cU.congr (HT f l h p m q d rfl hi e b rfl) (fun j=>uV _ _ _ j)
theorem VJ{n m bytes}(a:0<bytes)(h:(n+m)*bytes<=140737488355328):n+m<=9223372036854775807:=by have:n+m<=(n+m)*bytes:=Nat.le_mul_of_pos_right _ a;omega
theorem cJ{e}{ob}{ps}{rows'}(u:o.op=.call {callee:=.builtin .append,args:=#[x,y],argTypes:=#[T,T]})(hS:fC P T e sz)(b:EI P e sz bytes)
  (q:aR E x=some (.osl id g 0 n)) (i:H.get id=some ob) (t:ob.g=g) (d:ob.sz=sz) (h:ob.ty=e) (l:ob.rows.length=n)
  (p:aR E y=some (.pv (.sl ps))) (f:∀r∈ps,r.length=sz) (v:ps.length=m) (a:(n+m)*bytes<=140737488355328) (s:n+m=k) (c:ob.rows++ps.map (·.map AV.pv)=rows') :
  cU P N o E H (.osl id (g+1) 0 k) ((id,⟨g+1,sz,e,rows'⟩)::H):=by
 subst s c;exact cU.congr (PC u hS.1 b.1 q i t d h l p f v a (VJ b.2 a) rfl) (fun j=>uV _ _ _ j)
theorem BZ{e}{l c:Nat}{s k2}{f g}{b}(A:o.op=.makeSlice T x y)(hS:fC P T e sz)(a:EI P e sz bytes)(i:eN P e b)(d:b.length=sz)
  (m:aR E x=some (.pv (.int s f))) (k:aR E y=some (.pv (.int k2 g))) (r:0<=f) (t:f<=g) (n:f.toNat=l) (q:g.toNat=c) (w:bytes*c<=281474976710656) (h:H.get id=none) :
  cU P N o E H (.osl id 0 0 l) ((id,⟨0,sz,e,List.replicate l b⟩)::H):=by
 obtain ⟨z,v,j,u,p⟩:=i;have hpos:c<=bytes*c:=Nat.le_mul_of_pos_left _ a.2;exact O4 A hS.1 a.1 j u p d m k r t n q w (by omega) h
theorem bH{e}{rows}{r}{h}{n}(c:o.op=.indexAddr T x y)(hS:fC P T e sz)
  (d:aR E x=some (.pv (.sl rows))) (f:aR E y=some (.pv (.int h n))) (g:0<=n) (a:n.toNat=m) (hi:rows[m]?=some r) (b:r.length=sz):cU P N o E H (.pad rows m 0) H :=
 O5 c hS.1 hS.2.1 d f g a hi b
theorem dQ{e}{c}{n}{m2:Nat}{ob}(f:o.op=.indexAddr T x y)(hS:fC P T e sz)
  (i:aR E x=some (.osl id g off len)) (d:H.get id=some ob) (k:ob.g=g) (a:ob.sz=sz) (h:aR E y=some (.pv (.int c n))) (j:0<=n) (l:n.toNat=m) (hi:m<len) (b:off+m=m2):cU P N o E H (.ref id g m2 0) H :=
 O6 f hS.1 hS.2.1 i d k a h j l hi b
theorem zU{e}{d hi}{rows rows'}{l:Nat}(k:o.op=.slice T x d hi none)(hS:fC P T e sz)(g:aR E x=some (.pv (.sl rows)))
  (a:∀r∈rows,r.length=sz) (c:bnd E d 0=some (l:Int)) (b:bnd E hi rows.length=some (h:Int)) (j:l<=h) (f:h<=rows.length) (i:(rows.take h).drop l=rows'):cU P N o E H (.pv (.sl rows')) H :=
 TI k hS.1 hS.2.1 g a c b j f i
theorem jC{e}{k hi}{a b l:Nat}{ob}(m:o.op=.slice T x k hi none)(hS:fC P T e sz)(n:aR E x=some (.osl id g off len))
  (s:H.get id=some ob) (q:ob.g=g) (f:ob.sz=sz) (j:bnd E k 0=some (l:Int)) (d:bnd E hi len=some (h:Int)) (p:l<=h) (r:h<=len) (c:off+l=a) (i:h - l=b):cU P N o E H (.osl id g a b) H :=
 D3 m hS.1 hS.2.1 n s q f j d p r c i
end
section
variable{P:Program}{o:Oper}
theorem aGd{j}{a b}{t d}{v}{H2}(l:o.guard=some (j,a))(e:iV ops.toList j=some t)(c:E.get t=some (.pv (.bool b)))(m:b=a)(hd:o.dst=some d)(g:Nat.blt d N=true)(h:cU P N o E H v H2)
  (i:AL P G0 N ops K rest ((d,v)::E) H2):AL P G0 N ops K (o::rest) E H :=
 aNw l e c m (by rw[hd];exact g) h fun r H' ⟨f,k⟩=>by subst f k;rw[hd];exact i
theorem aCe{c x y}{b}{v}(a:o.op=.pick c x y)(d:aR E c=some (.pv (.bool b)))(hb:b=true)(hv:aR E x=some v):cU P N o E H v H:=B9 a d (by simp_all)
theorem aCf{c x y}{b}{v}(a:o.op=.pick c x y)(d:aR E c=some (.pv (.bool b)))(hb:b=false)(hv:aR E y=some v):cU P N o E H v H:=B9 a d (by simp_all)
end
section
variable{P:Program}
theorem cX.sub{E'}(h:∀k v,E'.get k=some v->E.get k=some v):cX G0 E H E' H:=by intro G hG N a w c;obtain ⟨I,g,e,b,d⟩:=c.rel;exact⟨c.defers,c.size,I,g,e,b,fun t v f=>d t v (h t v f)⟩
theorem aGc{l}{b}(hb:E.get t=some (.pv (.bool b)))(i:b=true->AL P G0 N ops K l ((t,.pv (.bool true))::E) H)(m:b=false->AL P G0 N ops K l ((t,.pv (.bool false))::E) H):AL P G0 N ops K l E H:=by
 have d:∀c,b=c->AL P G0 N ops K l ((t,.pv (.bool c))::E) H->AL P G0 N ops K l E H:=by
  rintro c rfl h G g a w j;refine h G g a w (cX.sub (fun k v f=>?_) G g N a w j);by_cases e:t=k
  ·subst e;rw[dG.get_cons_same]at f
   grind
  rwa [dG.get_cons_other _ _ e]at f
 cases b
 ·exact d _ rfl (m rfl)
 exact d _ rfl (i rfl)
def aNi(t:Nat)(D E:dG):Bool:=D.all fun p=>Nat.beq p.1 t||E.all fun q=>!(Nat.beq p.1 q.1)
def YE(n t:Nat)(X:Bool)(E:dG)(H:aH)(E1:dG)(H1:aH):Prop:=(∃b,E1.get t=some (.pv (.bool b))/\b=X)/\H1=H/\E1.drop n=E/\aNi t (E1.take n) E=true
theorem aJA(D E)(k):dG.get (D++E) k=match D.get k with|some v=>some v|none=>E.get k:=by
 induction D with
 |nil=>rfl
 |cons x r a =>
  obtain ⟨i,v⟩:=x;cases e:Nat.beq i k with
  |true=>simp[dG.get,e]
  |false=>simpa[dG.get,e]using a
theorem YE.ent{n t}{X}{d}{H1}(h:YE n t X E H d H1):cX G0 d H1 ((t,.pv (.bool X))::E) H:=by
 obtain ⟨⟨b,h1,rfl⟩,rfl,i,j⟩:=h;refine cX.sub fun k v c=>?_;by_cases e:t=k
 ·subst e;rw[dG.get_cons_same]at c
  grind
 rw[dG.get_cons_other _ _ e]at c;have a:d.take n++E=d:=by rw[<-i];exact List.take_append_drop n _
 rw[<-a,aJA];cases m:dG.get _ k with
 |none=>exact c
 |some u =>
  have l:=gT m;have g:=gT c;have f:=List.all_eq_true.1 j _ l;simp only[kW (Ne.symm e),Bool.false_or]at f;have:=List.all_eq_true.1 f _ g;simp[pA]at this
theorem nY{id n t}{d}{X}{Q}(h:gM P G0 N (.region id ops d) (fun e c H1=>e=.normal/\YE n t X E H c H1) E H)(g:Q .normal ((t,.pv (.bool X))::E) H):gM P G0 N (.region id ops d) Q E H:=by intro G f a w k ro j;refine wpIn_mono (h G f a w k _ j) ?_;rintro e a' w' ⟨c,H1,⟨rfl,i⟩,b⟩;exact⟨_,_,g,(i.ent) G f N _ _ b⟩
theorem aY{id n t}{X}{Q}(h:AL P G0 N ops (fun c H1=>YE n t X E H c H1) ops.toList E H)(e:Q .normal ((t,.pv (.bool X))::E) H):gM P G0 N (.region id ops false) Q E H :=nY (A9 (fun G i a w j ro g Q' f=>h G i a w j _ g _ (fun c H1 a1 w1 d b=>f _ _ _ _ ⟨rfl,d⟩ b))) e
end
section
variable{P:Program}{ops:List Oper}{o:Oper}{v:AV}{r:Rec}
theorem aKi(e:o.guard=some (j,true))(d:iV ops j=some t)(a:E.get t=some (.pv (.bool b)))(c:b=true)(h:cU P N o (restr E (hV ops o)) H v H):DStep P N ops o E H ⟨v,none,[]⟩:=.qon e d a c h
theorem aKj(e:o.guard=some (j,false))(d:iV ops j=some t)(a:E.get t=some (.pv (.bool b)))(c:b=false)(h:cU P N o (restr E (hV ops o)) H v H):DStep P N ops o E H ⟨v,none,[]⟩:=.qon e d a c h
theorem aHw(e:o.guard=some (j,true))(d:iV ops j=some t)(a:E.get t=some (.pv (.bool b)))(c:b=false):DStep P N ops o E H ⟨.tup [],some [],[]⟩:=.qoff e d a (by simp[WU,c])
theorem aHx(e:o.guard=some (j,false))(d:iV ops j=some t)(a:E.get t=some (.pv (.bool b)))(c:b=true):DStep P N ops o E H ⟨.tup [],some [],[]⟩:=.qoff e d a (by simp[WU,c])
theorem aHv{a}(d:o.guard=some (j,a))(e:iV ops j=some t)(c:E.get t=some (.tup [])):DStep P N ops o E H ⟨.tup [],some [],[]⟩:=.qoff d e c rfl
theorem cL(e:o.guard=some (j,true))(d:iV ops j=some t)(a:E.get t=some (.pv (.bool b)))(c:b=true)(h:∀H1,(∀id,AS r.R id=true->H1.get id=H.get id)->cU P N o (restr E (hV ops o)) H1 r.v (r.W++H1)):DStep P N ops o E H r:=.on j _ t b e d a c h
end
theorem aI.pure{P}{f}{args}{b}(h:aI P f args [] (fun r H=>r=b/\H=[]))(c:∀a∈args,Clo [] a)(H):aI P f args H (fun r H'=>r=b/\H'=H) :=(h.frame0 c (fun _ _ g=>g.2) H).mono fun _ _ ⟨⟨e,_⟩,d⟩=>⟨e,d⟩
def E7(P:Program)(id g:Nat)(args:List AV)(H:aH)(Q:AV->aH->Prop):Prop :=∀(I:Nat->Prop) (ι:kY) (w:World) (vs:Array Value) (v:Value),Rel I ι H w->VRel w I ι H v (.yld id g)->vs.size=args.length->(∀(i:Nat) (v:Value) (a:AV),vs[i]?=some v->args[i]?=some a->VRel w I ι H v a) ->
  ∃l f tmps assign body,v=.func (.yield l) #[] #[]/\(Instr.yield l vs).run P w=.ok (.round l f tmps assign body) w /\
   RoundIn Fence.wide 0 P l f tmps assign body w fun e w'=>∃r H' I' ι' v',e=.returned v'/\Q r H'/\VRel w' I' ι' H' v' r/\Rel I' ι' H' w'/\Step I ι H w I' ι' H' w'
def dN(P:Program)(fv:AV)(args:List AV)(H:aH)(Q:AV->aH->Prop):Prop :=(∃id g,fv=.yld id g/\E7 P id g args H Q)\/∃F caps,(fv=.clo F caps\/(fv=.pv (.fn F)/\caps=[]))/\(∀(args:Array Value) (w:World),(callFunc F args).run P w=.ok (.enter F args) w)/\aI P F (args++caps) H Q
theorem dN.clo{P}{F}{a args}{H}{Q}(b:∀(args) (w),(callFunc F args).run P w=.ok (.enter F args) w)(h:aI P F (args++a) H Q):dN P (.clo F a) args H Q:=.inr ⟨F,a,.inl rfl,b,h⟩
theorem dN.fn{P}{F}{args}{H}{Q}(a:∀(args) (w),(callFunc F args).run P w=.ok (.enter F args) w)(h:aI P F args H Q):dN P (.pv (.fn F)) args H Q:=.inr ⟨F,[],.inr ⟨rfl,rfl⟩,a,by simpa using h⟩
theorem TF{P}{o:Oper}{Q}{f}{args}{c}{e}(s:o.op=.call {callee:=.value f,args:=args,argTypes:=c})(t:aR E f=some (.yld id g))
  (j:xM E args.toList=some e) (h:E7 P id g e H Q):OpR P N o E H Q:=by
 intro a w I p _ _ u k K Q' hk;have d:=aJ k t;obtain ⟨l1,m⟩:=nT k (mJ j);obtain ⟨l,fn,tmps,assign,body,r,x,n⟩:=h I p w (args.map a.eval) _ u d (by simp_all) (fun i v b j q=>m i v b (by simp_all) q);unfold Oper.wpW execOp;simp only[s,resolve,r,Deferred.ofValue,Sem.run_bind,Sem.run_pure,Result.andThen_ok,invoke,Array.empty_append,x];refine n.mono ?_
 grind
theorem cY{P}{N}{o}{E}{H}{Q}{f}{args}{i}{l}{j}(b:o.op=.call {callee:=.value f,args:=args,argTypes:=i})(e:aR E f=some j)
  (c:xM E args.toList=some l) (h:dN P j l H Q):OpR P N o E H Q:=by
 rcases h with⟨id,g,rfl,h⟩|⟨F,caps,d,k,a⟩
 ·exact TF b e c h
 rcases d with rfl|⟨rfl,rfl⟩
 ·exact TH b e k c a
 exact aA b e k c (by simpa using a)
def aGt(E:dG):dG->Prop
 | []=>True
 |(t,v)::r=>(∃v0,E.get t=some v0/\v0=v)/\aGt E r
theorem cX.e0{G0}{E E'}{H}(h:aGt E E'):cX G0 E H E' H:=by
 refine cX.env ?_
 induction E' with
 |nil=>simp
 |cons x r ih =>
  obtain ⟨⟨v0,h1,rfl⟩,h2⟩:=h
  grind
theorem Fin.refl{G0 H}{r}:Fin G0 H r H r:=fun _ _ I b _ _ a d c=>⟨I,b,a,d,c⟩
def aLb:AV->Option Value
 |.pv (.int k n)=>some (.int k n)
 |.pv (.bool b)=>some (.bool b)
 |.pv (.str s)=>some (.string s)
 |_=>none
def GM:List AV->Option (List Value)
 | []=>some []
 |a::r=>match aLb a,GM r with
  |some v,some vs=>some (v::vs)
  |_,_=>none
theorem aIs{w}{I}{ι}{H}{c v}{a}(h:VRel w I ι H c a)(b:aLb a=some v):c=v:=by
 unfold aLb at b
 split at b<;>cases b
 ·exact h.int_inv
 ·exact h.bool_inv
 exact h.str_inv
theorem GL{c:Value}{d:List Value}(h:VRel w I ι H c (.agg l))(p:GM l=some d):c=.agg d.toArray:=by
 cases h with
 | @agg b _ s n f =>
  congr 1;have m:∀(l:List AV) (d b:List Value),b.length=l.length->(∀(i:Nat) (v:Value) (a:AV),b[i]?=some v->l[i]?=some a->VRel w I ι H v a)->GM l=some d->b=d:=by
   intro l
   induction l with
   |nil=>intro d b n _ e;simp[GM]at e;simp_all
   | cons a r x =>
    intro d b n f e;unfold GM at e
    split at e
    ·rename_i v k o t;cases e;cases b with
     |nil=>grind
     |cons u b =>
      have q:u=v:=aIs (f 0 u a rfl rfl) o;rw[q,x k b (by grind) (fun i v a j g=>f (i+1) v a (by simpa using j) (by simpa using g)) t]
    grind
  have:=m l d b.toList (by simpa using s) (fun i v a j g=>f i v a (by simpa using j) g) p;rw[<-this]
section
variable{P:Program}{o:Oper}{T t':TypeId}{x y:Operand}{l1 l2:List AV}{xs ys:List Value}
theorem yX(g:o.op=.binOp .eql T x y t')(i:aR E x=some (.agg l1))(h:aR E y=some (.agg l2))(f:GM l1=some xs)(l:GM l2=some ys)(k:P.eqGuardType P.depth T=false)
  (d:∀w,(Op.equalIn 10000 T (.agg xs.toArray) (.agg ys.toArray)).run P w=.ok b w):cU P N o E H (.pv (.bool b)) H :=
 .of_run fun a w I ι _ c=>⟨.bool b,by
  have e:=GL (aJ c i) f;have j:=GL (aJ c h) l;simp[execOp,g,e,j,Sem.run_bind,run_eqGuard_agg w _ _ _ _ _ _ k,Result.andThen_ok,run_eql_struct w,d,Sem.run_pure],.pv (.bool _)⟩
theorem yW(g:o.op=.binOp .neq T x y t')(i:aR E x=some (.agg l1))(h:aR E y=some (.agg l2))(f:GM l1=some xs)(l:GM l2=some ys)(k:P.eqGuardType P.depth T=false)
  (d:∀w,(Op.equalIn 10000 T (.agg xs.toArray) (.agg ys.toArray)).run P w=.ok b w):cU P N o E H (.pv (.bool (!b))) H :=
 .of_run fun a w I ι _ c=>⟨.bool _,by
  have e:=GL (aJ c i) f;have j:=GL (aJ c h) l;simp[execOp,g,e,j,Sem.run_bind,run_eqGuard_agg w _ _ _ _ _ _ k,Result.andThen_ok,run_neq_struct w,d,Sem.run_pure],.pv (.bool _)⟩
end
theorem jM{n}(h0 : -9223372036854775808<=n)(h1:n<=9223372036854775807):IntKind.i64.wrap n=n:=by rw[IntKind.wrap_i64];omega
theorem wu8{n}(h0:0<=n)(h1:n<=255):IntKind.u8.wrap n=n:=by
 simp[IntKind.wrap,IntKind.bits,IntKind.signed]
 grind
end
abbrev iv(n:Int):AV:=.pv (.int .i64 n)
abbrev bv(b:Bool):AV:=.pv (.bool b)
abbrev sv(s:ByteArray):AV:=.pv (.str s)
abbrev lv(l:List (List PV)):AV:=.pv (.sl l)
abbrev av(l:List PV):AV:=.agg (l.map .pv)
abbrev bx(n T:Nat)(r:List AV):Ob:=⟨0,n,T,[r]⟩
theorem eI.of{H}(h:∀p∈H,∀r∈p.2.rows,∀a∈r,Clo H a):eI H:=fun _ _ b=>h _ (dZ b)
theorem Sub.app{D H}(b:∀p∈D,H.get p.1=none):Sub H (D++H):=fun id o a=>by
 rw[DF];cases e:D.get _ with
 |none=>exact a
 |some o'=>exact absurd (b _ (dZ e)) (by simp_all)
def DC(P:Program)(N:Nat)(ops rest:List Oper)(E:dG)(H:aH)(K:List Rec->dG->aH->Prop):Prop:=∃rs E' H',DChain P N ops rest E H rs E' H'/\K rs E' H'
theorem bM{P}{N}{ops}{E}{H}{K}(h:K [] E H):DC P N ops [] E H K:=⟨_,_,_,.nil,h⟩
theorem bL{P}{N}{ops rest}{o}{E}{H}{K}{r}(h:DStep P N ops o E H r)(hd:iW N o.dst=true)
  (b:DC P N ops rest (kZ E o.dst r.v) (r.W++H) (fun a E' H'=>K (r::a) E' H')):DC P N ops (o::rest) E H K:=by
 obtain ⟨a,E',H',d,c⟩:=b;exact⟨_,_,_,.cons h hd d,c⟩
theorem aO{P}{G0}{N id}{Q}{ops}{E}{H}(b:P.follows .mixedOrders=true)
  (h:DC P N ops.toList ops.toList E H (fun a E' H'=>HY ops.toList a=true/\Q .normal E' H')):gM P G0 N (.region id ops true) Q E H:=by
 obtain ⟨a,E',H',e,c,d⟩:=h;exact aG2 b e c d
section
section
variable{P:Program}{o:Oper}{H H2:aH}{v:AV}{Q:Exit->dG->aH->Prop}{T e t t':TypeId}{x y:Operand}
theorem Dd(h:cU P N ⟨some d,op,ty,pos,af,none⟩ E H v H2)(hk:AL P G0 N ops K rest ((d,v)::E) H2)(hn:Nat.blt d N=true:=by rfl):AL P G0 N ops K (⟨some d,op,ty,pos,af,none⟩::rest) E H:=aA4 rfl rfl hn h hk
theorem Uu(h:cU P N ⟨none,op,ty,pos,af,none⟩ E H v H2)(hk:AL P G0 N ops K rest E H2):AL P G0 N ops K (⟨none,op,ty,pos,af,none⟩::rest) E H:=aPH rfl rfl h hk
theorem Sq{x y:Code}(h:gM P G0 N x (zQ (gM P G0 N y Q) Q) E H):gM P G0 N (.seq x y) Q E H:=GW h
theorem Rg(h:AL P G0 N ops (fun E H=>Q .normal E H) ops.toList E H):gM P G0 N (.region id ops false) Q E H:=A9 h
theorem Zz(h:K E H):AL P G0 N ops K [] E H:=aA3 h
theorem aE(ho:o.op=.move x:=by rfl)(hx:aR E x=some v:=by rfl):cU P N o E H v H:=gC ho hx
theorem aM(ho:o.op=.assign x:=by rfl)(hx:aR E x=some v:=by rfl):cU P N o E H v H:=vD ho hx
theorem Sr{y:Code}(h:AL P G0 N ops (fun E H=>zQ (gM P G0 N y Q) Q .normal E H) ops.toList E H):gM P G0 N (.seq (.region id ops false) y) Q E H:=Sq (Rg h)
theorem Dm(hk:AL P G0 N ops K rest ((d,v)::E) H)(ho:op=.move x:=by rfl)(hx:aR E x=some v:=by rfl)(hn:Nat.blt d N=true:=by rfl):AL P G0 N ops K (⟨some d,op,ty,pos,af,none⟩::rest) E H:=Dd (gC ho hx) hk hn
theorem Da(hk:K ((d,v)::E) H)(ho:op=.assign x:=by rfl)(hx:aR E x=some v:=by rfl)(hn:Nat.blt d N=true:=by rfl):AL P G0 N ops K [⟨some d,op,ty,pos,af,none⟩] E H:=Dd (vD ho hx) (Zz hk) hn
theorem Kr{a b:Prop}(h:b)(h1:a:=by kernel_rfl):a/\b:=⟨h1,h⟩
theorem Qq{a:α}{b:β}:a=a/\b=b:=⟨rfl,rfl⟩
theorem Pu{r0:AV}(h:aI P f args [] (fun r H=>r=r0/\H=[]))(hp:∀a∈args,Clo [] a:=by simp):aI P f args H (fun r H'=>r=r0/\H'=H):=aI.pure h hp H
theorem fG{vs:List AV}(ho:o.op=.extract x n:=by rfl)(hx:aR E x=some (.tup vs):=by rfl)(hv:vs[n]?=some v:=by rfl):cU P N o E H v H:=sQ ho hx hv
theorem aT{off:TypeId}{f:Nat}(hF:cV P S f off)(ho:o.op=.fieldAddr S x f:=by rfl)(hx:aR E x=some (.ref id g i k):=by rfl)(hH:H.get id=some ob:=by rfl)(hg:ob.g=g:=by rfl)(hk:k+off=k2:=by rfl):cU P N o E H (.ref id g i k2) H:=bP ho hF hx hH hg hk
theorem bF(ha:∀w,(isAgg T).run P w=.ok false w)(ho:o.op=.load T x:=by rfl)(hx:aR E x=some (.ref id g i k):=by rfl)(hH:H.get id=some ob:=by rfl)(hg:ob.g=g:=by rfl)(hi:ob.rows[i]?=some r:=by rfl)(hk:r[k]?=some v:=by rfl):cU P N o E H v H:=aK ho ha hx hH hg hi hk
theorem mD(ha:∀w,(isAgg T).run P w=.ok true w)(hs:∀w,(sizeOf T).run P w=.ok n w)(ho:o.op=.load T x:=by rfl)(hx:aR E x=some (.ref id g i k):=by rfl)(hH:H.get id=some ob:=by rfl)(hg:ob.g=g:=by rfl)(hi:ob.rows[i]?=some r:=by rfl)(hk:(r.drop k).take n=cs:=by rfl)(hl:cs.length=n:=by rfl):cU P N o E H (.agg cs) H:=aN ho ha hs hx hH hg hi hk hl
theorem jN(hs:∀w,(sizeOf T).run P w=.ok n w)(ho:o.op=.store T x y:=by rfl)(hx:aR E x=some (.ref id g 0 0):=by rfl)(hy:aR E y=some v:=by rfl)(hc:UM v=some cells:=by rfl)(hn:cells.length=n:=by rfl)(hH:H.get id=some ob:=by rfl)(hg:ob.g=g:=by rfl)(hi:ob.rows=[r]:=by rfl)(hk:r.length=n:=by rfl):cU P N o E H .any ((id,⟨g,ob.sz,ob.ty,[cells]⟩)::H):=cO ho hs hx hy hc hn hH hg hi hk
theorem fM{rows:List (List PV)}(ht:P.underlying T=some (.slice e))(ho:o.op=.call {callee:=.builtin .len,args:=#[x],argTypes:=#[T]}:=by rfl)(hx:aR E x=some (.pv (.sl rows)):=by rfl):cU P N o E H (.pv (.int .i64 rows.length)) H:=mC ho ht hx
theorem mR{rows:List (List PV)}{r:List PV}{kk:IntKind}{n:Int}(hS:fC P T e sz)(ho:o.op=.indexAddr T x y:=by rfl)(hx:aR E x=some (.pv (.sl rows)):=by rfl)(hy:aR E y=some (.pv (.int kk n)):=by rfl)(h0:0<=n:=by omega)(hm:n.toNat=m:=by exact aQP _)(hi:rows[m]?=some r:=by assumption)(hl:r.length=sz:=by rfl):cU P N o E H (.pad rows m 0) H:=bH ho hS hx hy h0 hm hi hl
theorem rJ{parts:Array (Nat×Operand)}{places:List (Nat×Nat)}(hB:mL P T places l0)(ho:o.op=.build T parts:=by rfl)(hp:oS E parts.toList=some aps:=by rfl)(hf:BB (fun i=>places[i]?) l0 aps=some l:=by rfl):cU P N o E H (.agg l) H:=KD ho hB hp hf
theorem cW{k:IntKind}{n m:Int}(ho:o.op=.binOp .lss t x y t':=by rfl)(hx:aR E x=some (.pv (.int k n)):=by rfl)(hy:aR E y=some (.pv (.int k m)):=by rfl):cU P N o E H (.pv (.bool (decide (n<m)))) H:=iZ ho hx hy
theorem cN{k:IntKind}{n m:Int}(ho:o.op=.binOp .eql t x y t':=by rfl)(hx:aR E x=some (.pv (.int k n)):=by rfl)(hy:aR E y=some (.pv (.int k m)):=by rfl):cU P N o E H (.pv (.bool (decide (n=m)))) H:=oA ho hx hy
theorem Cq{ops:List Oper}{K:List Rec->dG->aH->Prop}(h:cU P N ⟨dst,op,ty,pos,af,none⟩ (restr E (hV ops ⟨dst,op,ty,pos,af,none⟩)) H v H)(hk:DC P N ops rest (kZ E dst v) H (fun rs E' H'=>K (⟨v,none,[]⟩::rs) E' H'))(hd:iW N dst=true:=by rfl):DC P N ops (⟨dst,op,ty,pos,af,none⟩::rest) E H K:=bL (DStep.q rfl h) hd hk
theorem Cp{ops:List Oper}{K:List Rec->dG->aH->Prop}(R:List Nat){w:Nat×Ob}(h:∀H1:aH,(∀id,AS (some R) id=true->H1.get id=H.get id)->cU P N ⟨dst,op,ty,pos,af,none⟩ (restr E (hV ops ⟨dst,op,ty,pos,af,none⟩)) H1 v (w::H1))(hk:DC P N ops rest (kZ E dst v) (w::H) (fun rs E' H'=>K (⟨v,some R,[w]⟩::rs) E' H'))(hd:iW N dst=true:=by rfl):DC P N ops (⟨dst,op,ty,pos,af,none⟩::rest) E H K:=bL (r:=⟨v,some R,[w]⟩) (DStep.plain rfl h) hd hk
theorem Cr{ops:List Oper}{K:List Rec->dG->aH->Prop}(R:List Nat)(h:∀H1:aH,(∀id,AS (some R) id=true->H1.get id=H.get id)->cU P N ⟨dst,op,ty,pos,af,none⟩ (restr E (hV ops ⟨dst,op,ty,pos,af,none⟩)) H1 v H1)(hk:DC P N ops rest (kZ E dst v) H (fun rs E' H'=>K (⟨v,some R,[]⟩::rs) E' H'))(hd:iW N dst=true:=by rfl):DC P N ops (⟨dst,op,ty,pos,af,none⟩::rest) E H K:=bL (r:=⟨v,some R,[]⟩) (DStep.plain rfl h) hd hk
theorem Cs{ops:List Oper}{K:List Rec->dG->aH->Prop}(h:∀H1:aH,(∀id,AS none id=true->H1.get id=H.get id)->cU P N ⟨dst,op,ty,pos,af,none⟩ (restr E (hV ops ⟨dst,op,ty,pos,af,none⟩)) H1 v H1)(hk:DC P N ops rest (kZ E dst v) H (fun rs E' H'=>K (⟨v,none,[]⟩::rs) E' H'))(hd:iW N dst=true:=by rfl):DC P N ops (⟨dst,op,ty,pos,af,none⟩::rest) E H K:=bL (r:=⟨v,none,[]⟩) (DStep.plain rfl h) hd hk
theorem Ot{ops:List Oper}{K:List Rec->dG->aH->Prop}{t:Tmp}(hk:DC P N ops rest (kZ E dst (.tup [])) H (fun rs E' H'=>K (⟨.tup [],some [],[]⟩::rs) E' H'))(hj:iV ops j=some t:=by rfl)(hb:E.get t=some (.pv (.bool b)):=by rfl)(hw:b=false:=by first|rfl|assumption)(hd:iW N dst=true:=by rfl):DC P N ops (⟨dst,op,ty,pos,af,some (j,true)⟩::rest) E H K:=bL (aHw rfl hj hb hw) hd hk
theorem Of{ops:List Oper}{K:List Rec->dG->aH->Prop}{t:Tmp}(hk:DC P N ops rest (kZ E dst (.tup [])) H (fun rs E' H'=>K (⟨.tup [],some [],[]⟩::rs) E' H'))(hj:iV ops j=some t:=by rfl)(hb:E.get t=some (.pv (.bool b)):=by rfl)(hw:b=true:=by first|rfl|assumption)(hd:iW N dst=true:=by rfl):DC P N ops (⟨dst,op,ty,pos,af,some (j,false)⟩::rest) E H K:=bL (aHx rfl hj hb hw) hd hk
theorem Ou{ops:List Oper}{K:List Rec->dG->aH->Prop}{t:Tmp}{w:Bool}(hk:DC P N ops rest (kZ E dst (.tup [])) H (fun rs E' H'=>K (⟨.tup [],some [],[]⟩::rs) E' H'))(hj:iV ops j=some t:=by rfl)(hb:E.get t=some (.tup []):=by rfl)(hd:iW N dst=true:=by rfl):DC P N ops (⟨dst,op,ty,pos,af,some (j,w)⟩::rest) E H K:=bL (aHv rfl hj hb) hd hk
theorem On{t:Tmp}(h:cU P N ⟨some d,op,ty,pos,af,some (j,want)⟩ E H v H2)(hk:AL P G0 N ops K rest ((d,v)::E) H2)(hj:iV ops.toList j=some t:=by rfl)(hb:E.get t=some (.pv (.bool b)):=by rfl)(hw:b=want:=by rfl)(hn:Nat.blt d N=true:=by rfl):AL P G0 N ops K (⟨some d,op,ty,pos,af,some (j,want)⟩::rest) E H:=aGd rfl hj hb hw rfl hn h hk
theorem Fo{t:Tmp}(hk:AL P G0 N ops K rest (kZ E dst (.tup [])) H)(hj:iV ops.toList j=some t:=by rfl)(hb:E.get t=some (.pv (.bool b)):=by rfl)(hw:b=!want:=by rfl)(hd:iW N dst=true:=by rfl):AL P G0 N ops K (⟨dst,op,ty,pos,af,some (j,want)⟩::rest) E H:=aGe rfl hj hb hw hd hk
theorem Oa{t:Tmp}(h:cU P N ⟨some d,op,ty,pos,af,some (j,want)⟩ E H v H2)(hk:AL P G0 N ops K rest ((d,v)::E) H2)(hj:iV ops.toList j=some t:=by rfl)(hb:E.get t=some (.pv (.bool b)):=by rfl)(hw:b=want:=by assumption)(hn:Nat.blt d N=true:=by rfl):AL P G0 N ops K (⟨some d,op,ty,pos,af,some (j,want)⟩::rest) E H:=aGd rfl hj hb hw rfl hn h hk
theorem Fa{t:Tmp}(hk:AL P G0 N ops K rest (kZ E dst (.tup [])) H)(hj:iV ops.toList j=some t:=by rfl)(hb:E.get t=some (.pv (.bool b)):=by rfl)(hw:b=!want:=by assumption)(hd:iW N dst=true:=by rfl):AL P G0 N ops K (⟨dst,op,ty,pos,af,some (j,want)⟩::rest) E H:=aGe rfl hj hb hw hd hk
section
variable{R:Option (List Nat)}{H1:aH}
theorem fh{off:TypeId}{f:Nat}(hF:cV P S f off)(h:∀id,AS R id=true->H1.get id=H.get id)(ho:o.op=.fieldAddr S x f:=by rfl)(hx:aR E x=some (.ref id g i k):=by rfl)(hm:AS R id=true:=by rfl)(hH:H.get id=some ob:=by rfl)(hg:ob.g=g:=by rfl)(hk:k+off=k2:=by rfl):cU P N o E H1 (.ref id g i k2) H1:=bP ho hF hx ((h _ hm).trans hH) hg hk
theorem lh(ha:∀w,(isAgg T).run P w=.ok false w)(h:∀id,AS R id=true->H1.get id=H.get id)(ho:o.op=.load T x:=by rfl)(hx:aR E x=some (.ref id g i k):=by rfl)(hm:AS R id=true:=by rfl)(hH:H.get id=some ob:=by rfl)(hg:ob.g=g:=by rfl)(hi:ob.rows[i]?=some r:=by rfl)(hk:r[k]?=some v:=by rfl):cU P N o E H1 v H1:=aK ho ha hx ((h _ hm).trans hH) hg hi hk
end
section
variable{k:IntKind}{n m:Int}{s u:ByteArray}{rows:List (List PV)}{r:List PV}{i j q f F:Nat}
theorem iS(ho:o.op=.unOp .not t x:=by rfl)(hx:aR E x=some (.pv (.bool b)):=by rfl):cU P N o E H (.pv (.bool (!b))) H:=aIS ho hx
theorem wM(ho:o.op=.binOp .neq t x y t':=by rfl)(hx:aR E x=some (.pv (.int k n)):=by rfl)(hy:aR E y=some (.pv (.int k m)):=by rfl):cU P N o E H (.pv (.bool (!decide (n=m)))) H:=sE ho hx hy
theorem iG(ho:o.op=.binOp .gtr t x y t':=by rfl)(hx:aR E x=some (.pv (.int k n)):=by rfl)(hy:aR E y=some (.pv (.int k m)):=by rfl):cU P N o E H (.pv (.bool (decide (m<n)))) H:=tX ho hx hy
theorem G9(ho:o.op=.binOp .leq t x y t':=by rfl)(hx:aR E x=some (.pv (.int k n)):=by rfl)(hy:aR E y=some (.pv (.int k m)):=by rfl):cU P N o E H (.pv (.bool (decide (n<=m)))) H:=sF ho hx hy
theorem D7(ho:o.op=.binOp .geq t x y t':=by rfl)(hx:aR E x=some (.pv (.int k n)):=by rfl)(hy:aR E y=some (.pv (.int k m)):=by rfl):cU P N o E H (.pv (.bool (decide (m<=n)))) H:=lC ho hx hy
theorem AG(ho:o.op=.binOp .eql t x y t':=by rfl)(hx:aR E x=some (.pv (.str s)):=by rfl)(hy:aR E y=some (.pv (.str u)):=by rfl):cU P N o E H (.pv (.bool (decide (s=u)))) H:=F2 ho hx hy
theorem JI(ho:o.op=.binOp .neq t x y t':=by rfl)(hx:aR E x=some (.pv (.str s)):=by rfl)(hy:aR E y=some (.pv (.str u)):=by rfl):cU P N o E H (.pv (.bool (!decide (s=u)))) H:=aFA ho hx hy
theorem mV(ho:o.op=.binOp .add t x y t':=by rfl)(hx:aR E x=some (.pv (.int .i64 n)):=by rfl)(hy:aR E y=some (.pv (.int .i64 m)):=by rfl){r:Int}(hr:IntKind.i64.wrap (n+m)=r:=by exact jM (by omega) (by omega)):cU P N o E H (.pv (.int .i64 r)) H:=cB ho hx hy hr
theorem NS{off:TypeId}{q2:Nat}(hF:cV P S f off)(ho:o.op=.fieldAddr S x f:=by rfl)(hx:aR E x=some (.pad rows i q):=by rfl)(hk:q+off=q2:=by rfl):cU P N o E H (.pad rows i q2) H:=O8 ho hF hx hk
theorem iN{p:PV}(ha:∀w,(isAgg T).run P w=.ok false w)(ho:o.op=.load T x:=by rfl)(hx:aR E x=some (.pad rows i q):=by rfl)(hi:rows[i]?=some r:=by first|assumption|omega)(hk:r[q]?=some p:=by rfl):cU P N o E H (.pv p) H:=oW ho ha hx hi hk
theorem yT(ho:o.op=.pick c x y:=by rfl)(hc:aR E c=some (.pv (.bool b)):=by rfl)(hb:b=true:=by assumption)(hv:aR E x=some v:=by rfl):cU P N o E H v H:=aCe ho hc hb hv
theorem oU(ho:o.op=.pick c x y:=by rfl)(hc:aR E c=some (.pv (.bool b)):=by rfl)(hb:b=false:=by assumption)(hv:aR E y=some v:=by rfl):cU P N o E H v H:=aCf ho hc hb hv
theorem cH(ho:o.op=.pick c x y:=by rfl)(hc:aR E c=some (.pv (.bool b)):=by rfl)(hv:aR E (if b then x else y)=some v:=by rfl):cU P N o E H v H:=B9 ho hc hv
theorem kG(ht:P.underlying T=some .string)(ho:o.op=.call {callee:=.builtin .len,args:=#[x],argTypes:=#[T]}:=by rfl)(hx:aR E x=some (.pv (.str s)):=by rfl):cU P N o E H (.pv (.int .i64 s.size)) H:=JM ho ht hx
theorem BR{q:Nat}(ho:o.op=.nilCheck x:=by rfl)(hx:aR E x=some (.ref id g i q):=by rfl)(hH:H.get id=some ob:=by rfl)(hg:ob.g=g:=by rfl):cU P N o E H (.ref id g i q) H:=fU ho hx hH hg
end
section
variable{fn:Func}{Q:AV->aH->Prop}{q:Exit}{r r1 r2:AV}{t1 t2:Tmp}
theorem Rt(hq:Q r [])(hf:fn.results=#[.tmp t1]:=by rfl)(ht:E.get t1=some r:=by rfl)(hc:Clo [] r:=by simp):JC P fn [] Q .ret E H:=dV (.inr rfl) hf (aX ht) (Fin.wk hc trivial trivial) hq
theorem Ru(hq:Q (.tup [r1,r2]) [])(hf:fn.results=#[.tmp t1,.tmp t2]:=by rfl)(ht:E.get t1=some r1:=by rfl)(hu:E.get t2=some r2:=by rfl)(hc:Clo [] (.tup [r1,r2]):=by simp):JC P fn [] Q .ret E H:=mQ (.inr rfl) hf (aX ht) (aX hu) (Fin.wk hc trivial trivial) hq
theorem ZB(ha:∀w,(isAgg T).run P w=.ok true w)(hs:∀w,(sizeOf T).run P w=.ok n w)(hx:E.get t1=some (.ref id g i k):=by rfl)(hH:H.get id=some ob:=by rfl)(hg:ob.g=g:=by rfl)(hi:ob.rows[i]?=some cells:=by rfl)(hk:(cells.drop k).take n=cs:=by rfl)(hl:cs.length=n:=by rfl):J9 P E H (.cell t1 T) (.agg cs):=eA hx ha hs hH hg hi hk hl
theorem Bd{c:Code}(hf:P.funcs[f]?=some fn)(hb:fn.body=some c)(hN:fn.ntmps=N)(h:gM P H N c (JC P fn H Q) (mP args) H)(hlen:args.length<=N:=by exact aQR rfl):aI P f args H Q:=aI.body hf hb hN hlen h
end
section
variable{Q:Exit->dG->aH->Prop}
theorem Cn{x y:Code}(h1:b=true->gM P G0 N x Q E H)(h2:b=false->gM P G0 N y Q E H)(hc:aR E c=some (.pv (.bool b)):=by rfl):gM P G0 N (.cond c x y) Q E H:=aG3 hc h1 h2
theorem Sp(t:Tmp){l:List Oper}(h1:b=true->AL P G0 N ops K l ((t,.pv (.bool true))::E) H)(h2:b=false->AL P G0 N ops K l ((t,.pv (.bool false))::E) H)(hb:E.get t=some (.pv (.bool b)):=by rfl):AL P G0 N ops K l E H:=aGc hb h1 h2
theorem Wk(hE:EOk E H' E':=by repeat' first|exact trivial|refine⟨⟨_,rfl,rfl⟩,?_,?_⟩|(simp;done)|(simp;rfl))(hH:U3 H H' H':=by repeat' first|exact trivial|refine⟨⟨_,rfl,rfl⟩,?_,?_⟩|(simp;done)|(simp;rfl))(hk:KOk H' H G0:=by repeat' first|exact trivial|refine⟨rfl,?_⟩):cX G0 E H E' H':=cX.wk hE hH hk
theorem E0(h:aGt E E':=by repeat' first|exact trivial|refine⟨⟨_,rfl,rfl⟩,?_⟩):cX G0 E H E' H:=cX.e0 h
theorem Fu{t:Tmp}(hk:AL P G0 N ops K rest (kZ E dst (.tup [])) H)(hj:iV ops.toList j=some t:=by rfl)(hb:E.get t=some (.tup []):=by rfl)(hd:iW N dst=true:=by rfl):AL P G0 N ops K (⟨dst,op,ty,pos,af,some (j,want)⟩::rest) E H:=aJ5 rfl hj hb hd hk
end
section
variable{ops rest:List Oper}{K:List Rec->dG->aH->Prop}
theorem Nt(h:cU P N ⟨dst,op,ty,pos,af,some (j,true)⟩ (restr E (hV ops ⟨dst,op,ty,pos,af,some (j,true)⟩)) H v H)(hk:DC P N ops rest (kZ E dst v) H (fun rs E' H'=>K (⟨v,none,[]⟩::rs) E' H'))(hj:iV ops j=some t:=by rfl)(hb:E.get t=some (.pv (.bool b)):=by rfl)(hw:b=true:=by first|rfl|assumption)(hd:iW N dst=true:=by rfl):DC P N ops (⟨dst,op,ty,pos,af,some (j,true)⟩::rest) E H K:=bL (aKi rfl hj hb hw h) hd hk
theorem Nf(h:cU P N ⟨dst,op,ty,pos,af,some (j,false)⟩ (restr E (hV ops ⟨dst,op,ty,pos,af,some (j,false)⟩)) H v H)(hk:DC P N ops rest (kZ E dst v) H (fun rs E' H'=>K (⟨v,none,[]⟩::rs) E' H'))(hj:iV ops j=some t:=by rfl)(hb:E.get t=some (.pv (.bool b)):=by rfl)(hw:b=false:=by first|rfl|assumption)(hd:iW N dst=true:=by rfl):DC P N ops (⟨dst,op,ty,pos,af,some (j,false)⟩::rest) E H K:=bL (aKj rfl hj hb hw h) hd hk
end
theorem Zl:(∀ {α:Type} (a:α) (l:List α) (i:Nat),(a::l).drop (i+1)=l.drop i)/\(∀ {α:Type} (l:List α),l.drop 0=l)/\(∀ {α:Type} (a:α) (l:List α) (i:Nat),(a::l).take (i+1)=a::l.take i)/\(∀ {α:Type} (l:List α),l.take 0=[])/\(∀ {α:Type} (i:Nat),([]:List α).take i=[]) /\
  (∀ {α β:Type} (f:α->β) (a:α) (l:List α),(a::l).map f=f a::l.map f)/\(∀ {α β:Type} (f:α->β),[].map f=[])/\(∀ {α:Type} (a b:α) (l:List α),(a::l).set 0 b=b::l)/\(∀ {α:Type} (a b:α) (l:List α) (i:Nat),(a::l).set (i+1) b=a::l.set i b) /\
  (∀ {α:Type} (a:α) (l l2:List α),(a::l)++l2=a::(l++l2))/\(∀ {α:Type} (l:List α),[]++l=l) :=
 ⟨fun _ _ _=>rfl,fun _=>rfl,fun _ _ _=>rfl,fun l=>by simp,fun _=>by simp,fun _ _ _=>rfl,fun _=>rfl,fun _ _ _=>rfl,fun _ _ _ _=>rfl,fun _ _ _=>rfl,fun _=>rfl⟩
theorem Zo:(∀b:Bool,(false&&b)=false)/\(∀b:Bool,(true&&b)=b)/\(∀b:Bool,(b&&false)=false)/\(∀b:Bool,(b&&true)=b)/\(∀b:Bool,(true||b)=true)/\(∀b:Bool,(false||b)=b)/\(∀b:Bool,(b||true)=true)/\(∀b:Bool,(b||false)=b)/\(!true)=false/\(!false)=true:=by simp
end
theorem Ea{t:Nat}{v:AV}(r:EOk E H' L)(h1:∃v0,E.get t=some v0/\v0=v:=by exact⟨_,rfl,rfl⟩)(h2:Clo H' v:=by simp;rfl):EOk E H' ((t,v)::L):=⟨h1,h2,r⟩
theorem Eb{t:Nat}{v:AV}(r:EOk E H' L)(h1:∃v0,E.get t=some v0/\v0=v:=by exact⟨_,rfl,rfl⟩)(h2:Clo H' v:=by simp):EOk E H' ((t,v)::L):=⟨h1,h2,r⟩
theorem Ec{t:Nat}{v:AV}(h2:Clo H' v)(r:EOk E H' L)(h1:∃v0,E.get t=some v0/\v0=v:=by exact⟨_,rfl,rfl⟩):EOk E H' ((t,v)::L):=⟨h1,h2,r⟩
theorem Ha{t:Nat}{L:aH}(r:U3 H H' L)(h1:∃v0,H.get t=some v0/\v0=o:=by exact⟨_,rfl,rfl⟩)(h2:∀r∈o.rows,∀a∈r,Clo H' a:=by simp;rfl):U3 H H' ((t,o)::L):=⟨h1,h2,r⟩
theorem Hb{t:Nat}{L:aH}(r:U3 H H' L)(h1:∃v0,H.get t=some v0/\v0=o:=by exact⟨_,rfl,rfl⟩)(h2:∀r∈o.rows,∀a∈r,Clo H' a:=by simp):U3 H H' ((t,o)::L):=⟨h1,h2,r⟩
theorem Hc{t:Nat}{L:aH}(h2:∀r∈o.rows,∀a∈r,Clo H' a)(r:U3 H H' L)(h1:∃v0,H.get t=some v0/\v0=o:=by exact⟨_,rfl,rfl⟩):U3 H H' ((t,o)::L):=⟨h1,h2,r⟩
end
def aFv:PV->Bool
 |.int _ _=>true
 |.bool _=>true
 |.str _=>true
 |_=>false
theorem PRep.flat{w w'}{I b}{v}{p}(h:PRep w I v p)(a:aFv p=true):PRep w' b v p:=by cases h<;>first|(constructor;done)|(simp[aFv]at a)
def RO(P:Program)(f:FuncId)(args:List AV)(H:aH)(p:PV):Prop :=∀(I:Nat->Prop) (ι:kY) (w:World) (vs:Array Value),Rel I ι H w->vs.size=args.length->(∀(i:Nat) (v:Value) (a:AV),vs[i]?=some v->args[i]?=some a->VRel w I ι H v a) ->
  Calls P f vs w fun e w'=>∃v,e=.returned v/\(∀w2 I2,PRep w2 I2 v p)/\w'.os=w.os/\w'.tape=w.tape/\w'.output=w.output/\w.heap.size<=w'.heap.size /\
   (∀a,a.block<w.heap.size->w'.frozen? a=w.frozen? a)/\∀b,b<w.heap.size->w'.heap[b]?=w.heap[b]?
theorem RO.of{P}{f}{args}{p}(h:aI P f args [] (fun r H=>r=.pv p/\H=[]))(m:aFv p=true):RO P f args [] p:=by
 intro I o w vs l j i;refine(h I _ w _ l j i).mono ?_;rintro e w' ⟨r,H',I',ι',v,rfl,⟨rfl,rfl⟩,q,k2,c⟩;have d:∀b,¬ KA o [] b:=fun b ⟨_,_,_,k,_⟩=>by cases k
 exact⟨v,rfl,fun w2 I2=>q.pv_inv.flat m,c.os,c.tape,c.output,c.size,fun a n=>c.froz a n (d _),fun b g=>c.keep b g (d b)⟩
theorem RO.lend{P}{f}{args args'}{p}{H H1}{id}{ob}(ps)(h:RO P f args' H1 p)(g:H.get id=some ob)(c:ob.rows=ps.map (·.map .pv))(hl:args.length=args'.length)
  (m:∀(i:Nat) (a a'),args[i]?=some a->args'[i]?=some a'->Fz H1 id ob.g ps a a') (j:Sub H1 H) (o:eI H1) (e:H1.get id=none):RO P f args H p:=by
 intro I ι w vs k hlen n;refine h _ _ w _ (k.freeze j o g e) (by omega) ?_;intro i v a' l b;have d:i<args.length:=by
  have:=(aQI.1 b).1;omega
 exact VRel.freeze k j g c (m i _ _ (aQJ d) b) (n i v _ l (aQJ _))
theorem RO.calls{P}{f}{args}{p}{H}(h:RO P f args H p):aI P f args H (fun r H'=>r=.pv p/\H'=H):=by
 intro I n w vs d z k;refine(h I _ w _ d z k).mono ?_;rintro e w' ⟨v,rfl,y,u,t,x,l,q,m⟩;have c:Step I _ H w I n H _ :=
  ⟨u,t,x,l,fun a s _=>q a s,fun _ h=>h,fun _ h=>.inl h,fun _ h=>.inl h,fun b j _=>m b j,fun id o i=>⟨o,i,aQK _,fun _=>⟨rfl,rfl,fun _=>aQK _⟩⟩⟩
 refine⟨.pv p,H,I,n,v,rfl,⟨rfl,rfl⟩,.pv (y _ _),?_,c⟩;refine⟨fun b j=>Nat.lt_of_lt_of_le (d.imm b j) l,fun id o i=>?_,d.inj,c.glob d⟩;exact(d.obj _ o i).keep rfl (fun b' _ _ g=>⟨m _ g,fun h=>h⟩) (fun r _ a _ v k=>k.mono d c)
theorem jK{P}{G0}{N}{Q}{E}{H}{h}(S:α->β->dG×aH)(J:α->β->Prop)(g:α->β->Nat)(e)(c)(i:J e c)(f:cX G0 E H (S e c).1 (S e c).2)
  (round:∀a b,J a b->gM P G0 N h (zQ (fun E' H'=>∃a' d,J a' d/\g a' d<g a b/\cX G0 E' H' (S a' d).1 (S a' d).2) Q) (S a b).1 (S a b).2):gM P G0 N (.loop h) Q E H:=by
 refine bJ (fun s=>S s.1 s.2) (fun s=>J s.1 s.2) (fun s=>g s.1 s.2) (e,c) i f ?_
 simp_all
theorem IZ{P}{G0}{N}{Q}{E}{H}{j}(S:α->β->γ->dG×aH)(J:α->β->γ->Prop)(h:α->β->γ->Nat)(f)(d)(g)(k:J f d g)(i:cX G0 E H (S f d g).1 (S f d g).2)
  (round:∀a b c,J a b c->gM P G0 N j (zQ (fun E' H'=>∃a' e c',J a' e c'/\h a' e c'<h a b c/\cX G0 E' H' (S a' e c').1 (S a' e c').2) Q) (S a b c).1 (S a b c).2):gM P G0 N (.loop j) Q E H:=by
 refine bJ (fun s=>S s.1 s.2.1 s.2.2) (fun s=>J s.1 s.2.1 s.2.2) (fun s=>h s.1 s.2.1 s.2.2) (f,d,g) k i ?_
 simp_all
theorem IY{P}{G0}{N}{Q}{E}{H}{l}{δ:Type}(S:α->β->γ->δ->dG×aH)(J:α->β->γ->δ->Prop)(j:α->β->γ->δ->Nat)(h)(e)(i)(f)(m:J h e i f)(k:cX G0 E H (S h e i f).1 (S h e i f).2)
  (round:∀a b c d,J a b c d->gM P G0 N l (zQ (fun E' H'=>∃a' g c' d',J a' g c' d'/\j a' g c' d'<j a b c d/\cX G0 E' H' (S a' g c' d').1 (S a' g c' d').2) Q) (S a b c d).1 (S a b c d).2):gM P G0 N (.loop l) Q E H:=by
 refine bJ (fun s=>S s.1 s.2.1 s.2.2.1 s.2.2.2) (fun s=>J s.1 s.2.1 s.2.2.1 s.2.2.2) (fun s=>j s.1 s.2.1 s.2.2.1 s.2.2.2) (h,e,i,f) m k ?_
 simp_all
theorem aBg(f:α->List _)(l:List _)(H):∀r∈l.map (fun e=>(f e).map AV.pv),∀a∈r,Clo H a:=by simp
theorem oO{H}{id g}{ps}:∀(i:Nat) (a a'),[][i]?=some a->[][i]?=some a'->Fz H id g ps a a':=fun i a a' h=>by simp
theorem dF{H}{id g}{ps}{x d}{l e}(h:Fz H id g ps x d)(f:∀(i:Nat) (a a'),l[i]?=some a->e[i]?=some a'->Fz H id g ps a a'):
  ∀(i:Nat) (a a'),(x::l)[i]?=some a->(d::e)[i]?=some a'->Fz H id g ps a a'
 |0,a,a',c,b=>by cases c;cases b;exact h
 |i+1,a,a',c,b=>f i a _ c b
inductive Nz(H':aH)(id:Nat):AV->AV->Prop
 |same {a:AV} (h:Clo H' a):Nz H' id a a
 |own:Nz H' id (.pv .nils) (.osl id 0 0 0)
 |weak:Nz H' id (.pv .nils) (.pv (.sl []))
 |agg {cs cs':List AV} (hl:cs.length=cs'.length) (h:∀(i:Nat) (a a':AV),cs[i]?=some a->cs'[i]?=some a'->Nz H' id a a'):Nz H' id (.agg cs) (.agg cs')
 |tup {cs cs':List AV} (hl:cs.length=cs'.length) (h:∀(i:Nat) (a a':AV),cs[i]?=some a->cs'[i]?=some a'->Nz H' id a a'):Nz H' id (.tup cs) (.tup cs')
def aBv(H H':aH):Prop:=∀j o',H'.get j=some o'->∃o,H.get j=some o/\o.g=o'.g/\o.sz=o'.sz/\o.ty=o'.ty/\o.rows.length=o'.rows.length
theorem VRel.alike(r:aBv H H'){a:AV}(h:VRel w I ι H v a):Clo H' a->VRel w I ι H' v a:=by
 induction h with
 |any v=>exact fun _=>.any v
 |pv h=>exact fun _=>.pv h
 |ref o k x j h =>
  intro d;rw[sJ]at d;obtain ⟨g,c⟩:=Option.isSome_iff_exists.1 d;obtain ⟨t,f,s,q,u,y⟩:=r _ g c;rw[k]at f;cases f;exact .ref g c (by omega) j (fun e=>by simp_all)
 |pad b C B G h A z F E d D=>exact fun _=>.pad b C B G h A z F E d D
 |osl o k x j h =>
  intro d;rw[aJN]at d;obtain ⟨g,c⟩:=Option.isSome_iff_exists.1 d;obtain ⟨t,f,s,q,u,y⟩:=r _ g c;rw[k]at f;cases f;exact .osl g c (by omega) j (fun e=>by simp_all)
 |clo p h m =>
  intro d;rw[aJP]at d;exact .clo p (fun i v a n l=>m i v a n l (d a (aQO l)))
 |bnd p h m =>
  intro d;rw[aJQ]at d;exact .bnd p (fun i v a n l=>m i v a n l (d a (aQO l)))
 |agg p j h m =>
  intro d;rw[UA]at d;exact .agg p j (fun i v a n l=>m i v a n l (d a (aQO l)))
 |tup p h m =>
  intro d;rw[aJM]at d;exact .tup p (fun i v a n l=>m i v a n l (d a (aQO l)))
 |mp o k x j h =>
  intro d;rw[aLr]at d;obtain ⟨g,c⟩:=Option.isSome_iff_exists.1 d;obtain ⟨t,f,s,q,u,y⟩:=r _ g c;rw[k]at f;cases f;exact .mp g c (by omega) j (fun e=>by simp_all)
 |it o k x j h =>
  intro d;rw[aLs]at d;obtain ⟨g,c⟩:=Option.isSome_iff_exists.1 d;obtain ⟨t,f,s,q,u,y⟩:=r _ g c;rw[k]at f;cases f;exact .it g c (by omega) j (fun e=>by simp_all)
 |yld o k x j h =>
  intro d;rw[aJL]at d;obtain ⟨g,c⟩:=Option.isSome_iff_exists.1 d;obtain ⟨t,f,s,q,u,y⟩:=r _ g c;rw[k]at f;cases f;exact .yld g c (by omega) j (fun e=>by simp_all)
 |osc o k x j h =>
  intro d;rw[aJO]at d;obtain ⟨g,c⟩:=Option.isSome_iff_exists.1 d;obtain ⟨t,f,s,q,u,y⟩:=r _ g c;rw[k]at f;cases f;exact .osc g c (by omega) j (fun e=>by rw[<-q];exact h (by omega))
theorem Nz.raw{H'}{id}{a a'}(h:Nz H' id a a'){y}{b}(e:a'=.raw y b):a=.raw y b:=by cases h<;>first|exact e|cases e
theorem VRel.nz{w}{I}{ι}{H H'}{id}(t:aBv H H')(l:ι id=none)(g:H'.get id=some ob)(hg:ob.g=0)(e:0<ob.sz){a a'}(s:Nz H' id a a'):∀ {v},VRel w I ι H v a->VRel w I ι H' v a':=by
 induction s with
 |same h=>exact fun c=>c.alike t h
 |own =>
  intro v c;have:=c.pv_inv;cases this;exact .osl ob g (by omega) rfl (fun _=>⟨e,by omega,.inr ⟨l,rfl,rfl,rfl⟩⟩)
 |weak =>
  intro v c;have:=c.pv_inv;cases this;exact .pv .nilsl
 | @agg j n o h k =>
  intro v c;cases c with
  |agg d x q =>
   refine .agg (d.trans o) x (fun i u a' m b=>?_);have f:=List.getElem?_eq_getElem (l:=j) (i:=i) (by have:=(aQI.1 b).1;omega);exact k i _ a' f b (q i u _ m f)
 | @tup j n o h k =>
  intro v c;cases c with
  |tup d q =>
   refine .tup (d.trans o) (fun i u a' m b=>?_);have f:=List.getElem?_eq_getElem (l:=j) (i:=i) (by have:=(aQI.1 b).1;omega);exact k i _ a' f b (q i u _ m f)
def NzL(H:aH)(id:Nat):List AV->List AV->Prop
 | [],[]=>True
 |a::l,b::r=>Nz H id a b/\NzL H id l r
 |_,_=>False
theorem NzL.spec{H}{id}:∀ {l r},NzL H id l r->l.length=r.length/\∀(k:Nat) (a b),l[k]?=some a->r[k]?=some b->Nz H id a b
 | [],[],_=>⟨rfl,fun k a b h=>by grind⟩
 | a::l,b::r,h=>⟨by simp [(NzL.spec h.2).1],fun k x y c d=>by
   cases k with
   |zero=>cases c;cases d;exact h.1
   |succ k=>exact(NzL.spec h.2).2 k x y c d⟩
 | [],_::_,h=>h.elim
 |_::_,[],h=>h.elim
def NzR(H:aH)(id:Nat)(rows rows':List (List AV)):Prop:=(rows=rows'/\∀r∈rows',∀a∈r,Clo H a)\/∃r r',rows=[r]/\rows'=[r']/\NzL H id r r'
theorem NzR.spec{H}{rows rows'}(h:NzR H id rows rows'):rows.length=rows'.length/\∀(i:Nat) (r'),rows'[i]?=some r'->∃r,rows[i]?=some r/\r.length=r'.length/\∀(k:Nat) (b:AV),r'[k]?=some b->∃a,r[k]?=some a/\Nz H id a b:=by
 rcases h with⟨rfl,f⟩|⟨r,r',rfl,rfl,e⟩
 ·exact⟨rfl,fun i r' c=>⟨r',c,rfl,fun k b d=>⟨b,d,.same (f r' (aQO c) b (aQO d))⟩⟩⟩
 refine⟨rfl,fun i r2 c=>?_⟩;cases i with
 |zero =>
  obtain ⟨e1,e2⟩:=e.spec
  grind
 |succ i=>grind
def NzE(E:dG)(H:aH)(id:Nat):dG->Prop
 | []=>True
 |(t,v)::r=>(∃v0,E.get t=some v0/\Nz H id v0 v)/\NzE E H id r
theorem NzE.spec{E}{H}{id}:∀ {E'},NzE E H id E'->∀p∈E',∃v0,E.get p.1=some v0/\Nz H id v0 p.2
 |(t,v)::r,h,p,a=>by
  rcases aQQ.1 a with e|e
  ·subst e;exact h.1
  exact NzE.spec h.2 p e
def NzH(H H2:aH)(id:Nat):aH->Prop
 | []=>True
 |(j,o')::r=>(∃o,H.get j=some o/\o.g=o'.g/\o.sz=o'.sz/\o.ty=o'.ty/\NzR H2 id o.rows o'.rows)/\NzH H H2 id r
theorem NzH.spec{H H2}{id}:∀ {H'},NzH H H2 id H'->∀p∈H',∃o,H.get p.1=some o/\o.g=p.2.g/\o.sz=p.2.sz/\o.ty=p.2.ty/\NzR H2 id o.rows p.2.rows
 |(j,o')::r,h,p,a=>by
  rcases aQQ.1 a with e|e
  ·subst e;exact h.1
  exact NzH.spec h.2 p e
theorem cX.nz(id sz ty:Nat)(P:H.get id=none)(hsz:Nat.blt 0 sz=true)(hE:NzE E ((id,⟨0,sz,ty,[]⟩)::H') id E')(hH:NzH H ((id,⟨0,sz,ty,[]⟩)::H') id H')(hk:KOk ((id,⟨0,sz,ty,[]⟩)::H') H G0):
  cX G0 E H E' ((id,⟨0,sz,ty,[]⟩)::H'):=by
 intro G hG N a w X;obtain ⟨I,ι,hr,C,he⟩:=X.rel;obtain ⟨B,R⟩:=hr.adopt (sz:=sz) (ty:=ty) P (by simp_all);have J:0<sz:=by simp_all
 obtain ⟨f,K⟩:∃f:kY,f=(fun j=>if j=id then none else ι j):=⟨_,rfl⟩;rw[<-K]at B R;have n:f id=none:=by simp_all
 obtain ⟨x,s⟩:∃x:aH,x=(id,(⟨0,sz,ty,[]⟩:Ob))::H:=⟨_,rfl⟩;obtain ⟨q,A⟩:∃q:aH,q=(id,(⟨0,sz,ty,[]⟩:Ob))::H':=⟨_,rfl⟩;rw[<-s]at B R;rw[<-A]at hE hH hk |-;have g1:x.get id=some ⟨0,sz,ty,[]⟩:=by rw[s];simp[aH.get]
 have g2:q.get id=some ⟨0,sz,ty,[]⟩:=by rw[A];simp[aH.get]
 have n1:∀j,j≠id->x.get j=H.get j:=fun j e=>by rw[s];simp[aH.get,kW (Ne.symm e)]
 have n2:∀j,j≠id->q.get j=H'.get j:=fun j e=>by rw[A];simp[aH.get,kW (Ne.symm e)]
 have g:∀j l,q.get j=some l->∃o,x.get j=some o/\o.g=l.g/\o.sz=l.sz/\o.ty=l.ty/\NzR q id o.rows l.rows:=by
  intro j l p;by_cases e:j=id
  ·subst e;rw[g2]at p;cases p;exact⟨_,g1,rfl,rfl,rfl,.inl ⟨rfl,by simp⟩⟩
  rw[n2 j e]at p;obtain ⟨o,m,u⟩:=hH.spec _ (dZ p)
  simp_all
 have L:aBv x q:=fun j l p=>by
  obtain ⟨o,m,u,e3,e4,e5⟩:=g j l p;exact⟨o,m,u,e3,e4,e5.spec.1⟩
 have Q:∀b,KA f q b->KA f x b:=by
  rintro b ⟨j,l,c,p,T⟩;obtain ⟨o,m,_⟩:=g j l p;exact⟨j,o,c,m,T⟩
 have D:Rel I f q w:=by
  refine⟨B.imm,fun j l p=>?_,fun j j' o l b c c' M Y=>?_,B.glob⟩
  ·obtain ⟨o,m,u,e3,e4,e5⟩:=g j l p;obtain ⟨s1,s2⟩:=e5.spec;refine(B.obj j o m).keepG e3.symm e4.symm s1.symm (VZ s1 (fun i r' hi=>by
    obtain ⟨r,t1,t2,U⟩:=s2 i r' hi;refine⟨r,t1,t2,fun k a Z h1 h2 y ts e=>?_⟩;obtain ⟨z,F,u2⟩:=U k Z h2;rw[h1]at F;cases F;exact u2.raw e)) rfl (fun _ _ _ _=>⟨rfl,fun h=>h⟩) (fun i r' hi=>?_)
   obtain ⟨r,t1,t2,U⟩:=s2 i r' hi;refine⟨r,t1,t2,fun k a Z h1 h2 v S=>?_⟩;obtain ⟨y,F,u2⟩:=U k Z h2;rw[h1]at F;cases F;exact VRel.nz L n g2 rfl J u2 S
  obtain ⟨V,m,_⟩:=g j o M;obtain ⟨o2,u,_⟩:=g j' l Y;exact B.inj j j' V o2 b c c' m u
 have d:=C.trans R;have O:Step G.I G.ι G.H G.w I f q w:=by
  refine⟨d.os,d.tape,d.output,d.size,d.froz,d.imm,d.immNew,fun b T=>d.own b (Q b T),d.keep,fun j o M=>?_⟩;obtain ⟨V,m,u⟩:=d.objs j o M;subst hG;have W:=hk.kept j (by rw[M];rfl);by_cases e:j=id
  ·subst e;obtain ⟨o0,e0,_⟩:=C.objs j o M;rw[P]at e0;cases e0
  rw[n1 j e]at m;exact⟨V,W.trans m,u⟩
 refine⟨X.defers,X.size,I,f,D,O,fun t v S=>?_⟩;obtain ⟨v0,f1,f2⟩:=hE.spec _ (gT S);obtain ⟨c,c1,c2⟩:=he t v0 f1;exact⟨c,c1,VRel.nz L n g2 rfl J f2 (c2.mono hr R)⟩
end Go.Abs
namespace Go.Abs
open Go.Proofs.YtmdicgjnmfolfaaGreatDoor
section
theorem aGO{H}(d:DataW H):1<=Rows.uptoBulk d:=by
 cases d with
 |lit l=>cases l<;>simp[Rows.uptoBulk]
 |_=>simp[Rows.uptoBulk]
theorem aGP{H}{d:DataW H}{l}(h:d∈l):Rows.uptoBulk d<=Rows.uptoBulkAll l:=by
 induction l with
 |nil=>cases h
 |cons x r ih =>
  simp[Rows.uptoBulkAll]
  grind
theorem aGQ{H}(l:List (DataW H)):l.length<=Rows.uptoBulkAll l:=by
 induction l with
 |nil=>simp
 |cons x r ih=>have:=aGO x;simp[Rows.uptoBulkAll,aQG];omega
inductive PL(w:World)(I:Nat->Prop):List Value->List PV->Prop
 |nil:PL w I [] []
 |cons {c:Value} {p:PV} {cs:List Value} {ps:List PV} (h:PRep w I c p) (r:PL w I cs ps):PL w I (c::cs) (p::ps)
theorem PL.length{w}{I}{cs}{ps}(h:PL w I cs ps):cs.length=ps.length:=by
 induction h with
 |nil=>rfl
 |cons h r ih=>grind
theorem PL.append{w}{I}{cs cs'}{ps a}(h:PL w I cs ps)(b:PL w I cs' a):PL w I (cs++cs') (ps++a):=by
 induction h with
 |nil=>exact b
 |cons h r c=>exact .cons h c
theorem PL.get{w}{I}{cs}{ps}(h:PL w I cs ps):∀(k:Nat) (c) (p),cs[k]?=some c->ps[k]?=some p->PRep w I c p:=by
 induction h with
 |nil=>simp_all
 |cons h r ih =>
  grind
def EY(P:Program):Nat->List Field->Nat->Bool
 |o,[],n=>Nat.beq o n
 |o,f::r,n=>Nat.beq f.offset o&&EY P (o+P.cellsOf f.type) r n
def JX(P:Program)(e:TypeId):Nat->Nat->List Field
 |_,0=>[]
 |o,k+1=>⟨"",e,o,false, "", "",0⟩::JX P e (o+P.cellsOf e) k
theorem I0{P}{e}:∀ {o k},(JX P e o k).length=k
 |_,0=>rfl
 |o,k+1=>congrArg _ (I0)
theorem SA{P}{e}:∀ {k o i} {f},(JX P e o k)[i]?=some f->f.type=e/\f.offset=o+i*P.cellsOf e
 |0,o,i,f,h=>by cases h
 |k+1,o,0,f,h=>by
  obtain rfl:=Option.some.inj h
  simp_all
 |k+1,o,i+1,f,h=>by
  have:=SA (show (JX P e _ k)[i]?=some f from h)
  grind
def BE(P:Program):Nat->TypeId->Bool
 |0,_=>false
 |n+1,t=>match P.underlying t with
  |some .bool=>true
  |some (.int _)=>true
  |some .string=>true
  |some (.slice e)=>BE P n e&&Nat.blt 0 (P.cellsOf e)
  |some (.struct fs)=>EY P 0 fs.toList (P.cellsOf t)&&fs.toList.all fun f=>BE P n f.type
  |some (.array k e)=>EY P 0 (JX P e 0 k) (P.cellsOf t)&&(JX P e 0 k).all fun f=>BE P n f.type
  |_=>false
def ShF(S:TypeId->List PV->Prop)(c:TypeId->Nat):List Field->List PV->Prop
 | [],ps=>ps=[]
 |f::r,ps=>∃a b,ps=a++b/\a.length=c f.type/\S f.type a/\ShF S c r b
def Sh(P:Program)(B:Nat):Nat->TypeId->List PV->Prop
 |0,_,_=>False
 |n+1,t,ps=>match P.underlying t with
  |some .bool=>∃b,ps=[.bool b]
  |some (.int k)=>∃i,ps=[.int k i]/\(Lit.int k i).wf=true
  |some .string=>∃s,ps=[.str s]/\s.size<=B
  |some (.slice e)=>∃rows,ps=[.sl rows]/\rows.length<=B/\∀r∈rows,r.length=P.cellsOf e/\Sh P B n e r
  |some (.struct fs)=>ShF (fun t ps=>Sh P B n t ps) P.cellsOf fs.toList ps
  |some (.array k e)=>ShF (fun t ps=>Sh P B n t ps) P.cellsOf (JX P e 0 k) ps
  |_=>False
abbrev Old(W:World):Nat->Prop:=fun b=>b<W.heap.size
theorem aFF{W}{a}{v}(h:W.cell? a=some v):a.spot=none/\Old W a.block:=by
 unfold World.cell? at h
 split at h
 ·next c t fr e =>
  refine⟨?_,(Array.getElem?_eq_some_iff.1 e).1⟩
  simp_all
 grind
section
variable{H:Type}{enc:TypeId×Value->H}{P:Program}{W:World}{B:Nat}
theorem R1{P}:∀ {fs} {o n},EY P o fs n=true->o<=n
 | [],o,n,h=>Nat.le_of_eq (Nat.eq_of_beq_eq_true h)
 |f::fs,o,n,h=>by
  simp[EY,aQN]at h;have:=R1 h.2;omega
theorem IM{m n:Nat}{cs:List Value}(p:∀(t:TypeId) (cs:List Value) (x),BE P n t=true->DataW.trod enc P W 0 (fun _=>true) true m t cs=some x->Rows.uptoBulk x.1<=B->∃ps,PL W (Old W) cs ps/\Sh P B n t ps):
  ∀(fs:List Field) (xs:List _) (o:Nat),EY P o fs cs.length=true->(fs.all fun f=>BE P n f.type)=true->xs.length=fs.length ->
   (∀(i:Nat) (f:Field),fs[i]?=some f->DataW.trod enc P W 0 (fun _=>true) true m f.type ((cs.drop f.offset).take (P.cellsOf f.type))=xs[i]?)->Rows.uptoBulkAll (xs.map (·.1))<=B ->
   ∃ps,PL W (Old W) (cs.drop o) ps/\ShF (fun t ps=>Sh P B n t ps) P.cellsOf fs ps
 | [],xs,o,c,_,l,d,j=>by
  have:o=cs.length:=Nat.eq_of_beq_eq_true c;subst this;exact⟨[],by rw[List.drop_length];exact .nil,rfl⟩
 |f::fs,[],o,c,_,l,d,j=>by grind
 | f::fs,x::xs,o,c,e,l,d,j=>by
  simp only[EY,aQN]at c;have r:f.offset=o:=Nat.eq_of_beq_eq_true c.1;simp only[List.all_cons,aQN]at e;simp only[List.map_cons,Rows.uptoBulkAll]at j;have k:=d 0 f rfl;rw[r]at k;obtain ⟨a,q,s⟩:=p f.type _ x e.1 k (by omega);obtain ⟨b,w,u⟩:=IM p fs xs (o+P.cellsOf f.type) c.2 e.2 (by simp_all) (fun i g v=>d (i+1) g v) (by omega);have hle:=R1 c.2;have h:a.length=P.cellsOf f.type:=by
   rw[<-q.length,aQS,aQT];omega
  refine⟨a++b,?_,a,b,rfl,h,s,u⟩;have:=q.append w
  rwa [<-List.drop_drop,List.take_append_drop]at this
theorem KI:∀(n:Nat) (t:TypeId),BE P n t=true->∀(m:Nat) (cs:List Value) (x:DataW H×List MemPlace),DataW.trod enc P W 0 (fun _=>true) true m t cs=some x->Rows.uptoBulk x.1<=B->∃ps,PL W (Old W) cs ps/\Sh P B n t ps
 |0,t,y,m,cs,x,h,R=>by cases y
 | n + 1, t, y, m, cs, x, h, R => by
  unfold BE at y
  split at y
  ·next j =>
   obtain ⟨b,rfl,rfl⟩:=DataW.trod_bool j h;exact⟨[.bool b],.cons (.bool b) .nil,by unfold Sh;rw[j];exact⟨b,rfl⟩⟩
  ·next k j =>
   obtain ⟨i,rfl,rfl,hw⟩:=DataW.trod_int j h;exact⟨[.int k i],.cons (.int k i) .nil,by unfold Sh;rw[j];exact⟨i,rfl,hw⟩⟩
  ·next j =>
   obtain ⟨s,rfl,rfl,hs⟩:=DataW.trod_string j h;have C:s.size<=B:=by
    have Z:s.data.toList.length=s.size:=Array.length_toList;simp only[Rows.uptoBulk]at R;omega
   exact⟨[.str s],.cons (.str s) .nil,by unfold Sh;rw[j];exact⟨s,rfl,C⟩⟩
  ·next e j =>
   simp only[aQN,Nat.blt_eq]at y;obtain ⟨hpe,C⟩:=y;rcases DataW.trod_slice j h with⟨rfl,rfl⟩|⟨a,u,S,g,V,K,rfl,rfl,rfl,_,hlc,hmax,hlen,T,N,_⟩
   ·exact⟨[.sl []],.cons .nilsl .nil,by unfold Sh;rw[j];exact⟨[],rfl,by simp,by simp⟩⟩
   obtain ⟨hrl,N⟩:=N rfl;simp only[Rows.uptoBulk]at R;rcases Nat.eq_zero_or_pos S with hc0|hcpos
   ·have I:u=0:=by omega
    subst I hc0;exact⟨[.sl []],.cons (.empsl a) .nil,by unfold Sh;rw[j];exact⟨[],rfl,by simp,by simp⟩⟩
   have M:∃v,W.cell? a=some v:=by
    rcases Nat.eq_zero_or_pos u with I|hlp
    ·subst I;have G:=N 0 (by omega);have E:=List.getElem?_eq_getElem (l:=V) (i:=0) (by omega);rw[E,Option.bind_eq_some_iff]at G;obtain ⟨c0,U,_⟩:=G;obtain ⟨_,q2,q3⟩:=World.cells?_some U;have:=q3 0 C;simp only[Nat.add_zero,Nat.zero_mul]at this;rw[Addr.add_zero',Addr.add_zero',aQJ (by omega)]at this;exact⟨_,this⟩
    have G:=T 0 hlp;have E:=List.getElem?_eq_getElem (l:=g) (i:=0) (by omega);rw[E,Option.bind_eq_some_iff]at G;obtain ⟨c0,U,_⟩:=G;obtain ⟨_,q2,q3⟩:=World.cells?_some U;have:=q3 0 C;simp only[Nat.zero_mul]at this;rw[Addr.add_zero',Addr.add_zero',aQJ (by omega)]at this;exact⟨_,this⟩
   obtain ⟨v0,hv0⟩:=M;obtain ⟨A,F⟩:=aFF hv0;obtain ⟨b,z,sp⟩:=a;simp only at A F;subst A;have Q:∀i,i<u->∃ps:List PV,∃w,W.cells? 0 (Addr.add ⟨b,z,none⟩ (i*P.cellsOf e)) (P.cellsOf e)=some w/\PL W (Old W) w ps/\Sh P B n e ps:=by
    intro i D;have G:=T i D;have E:=List.getElem?_eq_getElem (l:=g) (i:=i) (by omega);rw[E,Option.bind_eq_some_iff]at G;obtain ⟨w,U,q2⟩:=G;have hbi:Rows.uptoBulk (g[i]'(by omega)).1<=B:=by
     have:=aGP (List.mem_map_of_mem (f:=fun x:DataW H×List MemPlace=>x.1) (List.getElem_mem (l:=g) (n:=i) (by omega)));omega
    obtain ⟨ps,s1,s2⟩:=KI n e hpe K w _ q2 hbi;exact⟨ps,w,U,s1,s2⟩
   obtain ⟨d,r1,r2⟩:∃d:List (List PV),d.length=u/\∀i r,d[i]?=some r->∃w,W.cells? 0 (Addr.add ⟨b,z,none⟩ (i*P.cellsOf e)) (P.cellsOf e)=some w/\PL W (Old W) w r/\Sh P B n e r:=by
    refine⟨(List.range u).map (fun i=>if h:i<u then(Q i h).choose else[]),by simp,fun i r q=>?_⟩
    grind
   have L:∀(i:Nat) (r:List PV),d[i]?=some r->r.length=P.cellsOf e:=fun i r q=>by
    obtain ⟨w,Y,X,c3⟩:=r2 i r q;rw[<-X.length];exact(World.cells?_some Y).2.1
   refine⟨[.sl d],.cons ?_ .nil,by
    unfold Sh;rw[j];refine⟨d,rfl,?_,fun r q=>?_⟩
    ·have:=aGQ (g.map (·.1));simp only[aQE]at this;omega
    obtain ⟨i,D⟩:=aQZ.1 q;obtain ⟨w,Y,X,c3⟩:=r2 i r D;exact⟨L i r D,c3⟩⟩
   rw[<-r1];have o:∀(i:Nat) (r:List PV),d[i]?=some r->∀(k:Nat) (p:PV),r[k]?=some p->∃v,W.cell? ⟨b,z+i*P.cellsOf e+k,none⟩=some v/\PRep W (Old W) v p:=by
    intro i r q k p O;obtain ⟨w,Y,X,c3⟩:=r2 i r q;obtain ⟨_,d1,d2⟩:=World.cells?_some Y;have hkl:k<P.cellsOf e:=by rw[<-L i r q];exact(aQI.1 O).1
    have Z:=d2 k hkl;rw[Addr.add_lit,Addr.add_lit]at Z;have e2:w[k]?=some (w[k]'(by omega)):=aQJ (by omega);exact⟨_,Z.trans e2,X.get k _ p e2 O⟩
   refine PRep.sl b z S (P.cellsOf e) d (fun i k=>(W.cell? ⟨b,z+i*P.cellsOf e+k,none⟩).getD undef) F C (fun r q=>?_) (by omega) (fun i r q k p O=>?_) (fun i r q k p O=>?_)
   ·obtain ⟨i,D⟩:=aQZ.1 q;exact L i r D
   ·obtain ⟨v,v1,v2⟩:=o i r q k p O;simp[v1]
   obtain ⟨v,v1,v2⟩:=o i r q k p O;simp[v1,v2]
  ·next fs j =>
   simp only[aQN]at y;obtain ⟨xs,K,rfl,rfl,hl,J,hf⟩:=DataW.trod_struct j h;simp only[Rows.uptoBulk]at R;obtain ⟨ps,p1,p2⟩:=IM (n:=n) (m:=K) (B:=B) (fun t cs x a b c=>KI n t a K cs x b c) fs.toList xs 0 (by rw[hl];exact y.1) y.2 (by simpa using J) (fun i f D=>hf i f (by simpa using D)) (by omega);exact⟨ps,by simpa using p1,by unfold Sh;rw[j];exact p2⟩
  ·next k e j =>
   simp only[aQN]at y;obtain ⟨xs,K,rfl,rfl,hl,J,hf⟩:=DataW.trod_array j h;simp only[Rows.uptoBulk]at R;obtain ⟨ps,p1,p2⟩:=IM (n:=n) (m:=K) (B:=B) (fun t cs x a b c=>KI n t a K cs x b c) (JX P e 0 k) xs 0 (by rw[hl];exact y.1) y.2 (by rw[I0,J]) (fun i f D=>by
    obtain ⟨g1,g2⟩:=SA D;have hlt:i<k:=by
     have:=(aQI.1 D).1
     rwa [I0]at this
    rw[g1,g2,aQW];exact hf i hlt) (by omega)
   exact⟨ps,by simpa using p1,by unfold Sh;rw[j];exact p2⟩
  grind
end
end
end Go.Abs
