/-
  Parts of the proof: rules of a program logic, contracts, plain laws. Conditions: each theorem's own.
-/
import Derived.Test.YtmdicgjnmfolfaaGreatDoorKR7M1
import Derived.Laws.BytesArg
set_option linter.unusedVariables false
set_option linter.unusedSimpArgs false
set_option maxRecDepth 100000
set_option maxHeartbeats 8000000
namespace Go.Abs
variable{w:World}{I:Nat->Prop}{ι:lR}{H H' G0:aG}{c:Operand}{d t:Tmp}{l l0 r args vs cs cells:List AV}{g off sz n id j i k len m bytes k2 N h:Nat}{E E' L:dC}{a:Act}{z:Value}{v0 v:AV}{e ty S T:TypeId}{aps:List (Nat×AV)}{rows ps:List (List PV)}{α β γ:Type}{b want:Bool}{ob o:Ob}{ops:Array Oper}{rest:List Oper}{P:Program}{Q:Exit->dC->aG->Prop}{K:dC->aG->Prop}{op:Op}{pos:String}{af:Array Edge}{x y:Code}{f:FuncId}{dst:Option Tmp}{s:ByteArray}
section
def A9(w:World)(I:Nat->Prop)(ι:lR)(H:aG)(c:Array Value)(l:List AV):Prop :=c.size=l.length/\∀(j:Nat) (a:AV),l[j]?=some a->∃u,c[j]?=some u/\u.oneCell'=true/\VRel w I ι H u a
theorem QE(off):∀(l:List Value) (k:Nat) (cs:Array Value),
  ((l.zipIdx k).foldl (fun cs p=>cs.setIfInBounds (off+p.2) p.1) cs).size=cs.size /\
  ∀i,((l.zipIdx k).foldl (fun cs p=>cs.setIfInBounds (off+p.2) p.1) cs)[i]?=if off+k<=i/\i<off+k+l.length/\i<cs.size then l[i - (off+k)]? else cs[i]?
 | [],k,cs=>⟨by simp,fun i=>by rw[List.zipIdx_nil,List.foldl_nil,aCd (by grind)]⟩
 |v::l,k,cs=>by
  obtain ⟨h1,h2⟩:=QE off l (k+1) (cs.setIfInBounds (off+k) v);simp only[List.zipIdx_cons,List.foldl_cons]
  grind
def RH(l:List AV)(off:Nat)(vs:List AV):List AV:=l.take off++(vs++l.drop (off+vs.length))
theorem A9.fill{c d:Array Value}{g:List AV}(h:A9 w I ι H c l)(hd:A9 w I ι H d g)(hfit:off+g.length<=l.length):
  A9 w I ι H (d.zipIdx.foldl (fun cs (x,j)=>cs.setIfInBounds (off+j) x) c) (RH l off g):=by
 have n:=QE off d.toList 0 c;have e:d.zipIdx.foldl (fun cs (x,j)=>cs.setIfInBounds (off+j) x) c=(d.toList.zipIdx 0).foldl (fun cs p=>cs.setIfInBounds (off+p.2) p.1) c:=by
  rw[<-Array.foldl_toList,Array.toList_zipIdx]
 rw[e];obtain ⟨o,r⟩:=n;refine⟨by rw[o,h.1];simp[RH];omega,fun j a f=>?_⟩;rw[r j];simp only[Nat.add_zero,Array.length_toList,hd.1];unfold RH at f;by_cases q:j<off
 ·rw[aCd (by omega)];rw[List.getElem?_append_left (by grind),List.getElem?_take,aCe q]at f;exact h.2 j a f
 by_cases c2:j<off+g.length
 ·rw[aCe (by have:=h.1;omega)];have b:min off l.length=off:=by omega
  rw[List.getElem?_append_right (by simp;omega),List.getElem?_append_left (by simp;omega)]at f;simp only[aCt,b]at f;obtain ⟨u,k,i,m⟩:=hd.2 (j - off) a f;exact⟨u,by simpa using k,i,m⟩
 rw[aCd (by omega)];have b:min off l.length=off:=by omega
 rw[List.getElem?_append_right (by simp;omega),List.getElem?_append_right (by simp;omega),List.getElem?_drop]at f;simp only[aCt,b]at f;rw[show off+g.length+(j - off - g.length)=j by omega]at f;exact h.2 j a f
theorem A9.of_cells{w}{I}{ι}{H}{v}{a}{l}(d:VRel w I ι H v a)(h:N0 a=some l):A9 w I ι H v.cells l :=let ⟨b,_,c⟩:=K3 d h;⟨b,c⟩
def pE(E:dC):List (Nat×Operand)->Option (List (Nat×AV))
 | []=>some []
 |(i,x)::r=>match aO E x,pE E r with
  |some v,some vs=>some ((i,v)::vs)
  |_,_=>none
def CQ(place:Nat->Option (Nat×Nat))(l:List AV):List (Nat×AV)->Option (List AV)
 | []=>some l
 |(i,a)::r=>match place i,N0 a with
  |some (off,size),some vs=>if vs.length=size/\off+size<=l.length then CQ place (RH l off vs) r else none
  |_,_=>none
theorem A9.fills{I}(z:kS w I ι H E a)(place):∀ {ps} {aps} {c} {l k:List AV},
  pE E ps=some aps->A9 w I ι H c l->CQ place l aps=some k->∃c',Instr.fill place c (ps.map fun p=>(p.1,a.eval p.2))=some c'/\A9 w I ι H c' k:=by
 intro ps
 induction ps with
 |nil =>
  intro aps c l k e j b;simp[pE]at e;subst e;simp[CQ]at b;subst b;exact⟨c,rfl,j⟩
 | cons p r q =>
  obtain ⟨i,x⟩:=p;intro aps c l k e j b;unfold pE at e
  split at e
  ·rename_i v vs s t;cases e;unfold CQ at b
   split at b
   ·rename_i m f us u o
    split at b
    ·have h:=A9.of_cells (aI z s) o;have hsz:(a.eval x).cells.size=f:=by rw[h.1];omega
     have hcl:=j.1;have g:=A9.fill (off:=m) j h (by omega);obtain ⟨c',y,n⟩:=q t g b;refine⟨c',?_,n⟩;simp only[List.map_cons,Instr.fill,u];rw[aCd (by simp_all)];exact y
    grind
   grind
  grind
section
variable{o:Oper}{x y:Operand}
theorem KA{c}{fs}{places}{aps}(A:o.op=.build T c)(hS:P.underlying T=some (.struct fs))
  (B:∀w,(zeroValue T).run P w=.ok z w) (C:ZV z v0) (m:N0 v0=some l0) (q:∀w,((fs.mapM fun f=>do pure (f.offset,<-sizeOf f.type)):Sem _).run P w=.ok places w)
  (t:pE E c.toList=some aps) (G:CQ (places[·]?) l0 aps=some l):cK P N o E H (.agg l) H :=
 .of_run fun a w I D _ J=>by
  have h:=A9.of_cells (ZV.rel (w:=w) (I:=I) (ι:=D) (H:=H) C) m;obtain ⟨s,h1,g⟩:=A9.fills J _ t h G;refine⟨.agg s,?_,.agg g.1 (fun j u r=>?_) (fun j u b r L=>?_)⟩
  ·have i:Instr.fill (places[·]?) z.cells (c.map fun p=>(p.1,a.eval p.2)).toList=some s:=by simp_all
   simp only[execOp,A,Instr.build,Sem.run_bind,B,run_underlying hS,q,Result.andThen_ok,i,Sem.run_pure]
  ·have k:j<l.length:=by rw[<-g.1];grind
   obtain ⟨v,e,K,_⟩:=g.2 j _ (aCk k);rw[r]at e;cases e;exact K
  obtain ⟨v,e,_,F⟩:=g.2 j b L;rw[r]at e;cases e;exact F
theorem R5{c}{n sz}{e}{z}{l0 l}{aps}(C:o.op=.build T c)(hS:P.underlying T=some (.array n e))
  (D:∀w,(zeroValue T).run P w=.ok z w) (F:ZV z v0) (m:N0 v0=some l0) (G:∀w,(sizeOf e).run P w=.ok sz w)
  (v:pE E c.toList=some aps) (K:CQ (fun i=>some (i*sz,sz)) l0 aps=some l):cK P N o E H (.agg l) H :=
 .of_run fun a w I M _ L=>by
  have h:=A9.of_cells (ZV.rel (w:=w) (I:=I) (ι:=M) (H:=H) F) m;obtain ⟨t,h1,g⟩:=A9.fills L _ v h K;refine⟨.agg t,?_,.agg g.1 (fun j u s=>?_) (fun j u b s A=>?_)⟩
  ·have r:Instr.fill (fun i=>some (i*sz,sz)) z.cells (c.map fun p=>(p.1,a.eval p.2)).toList=some t:=by simp_all
   simp only[execOp,C,Instr.build,Sem.run_bind,D,run_underlying hS,G,Result.andThen_ok,r,Sem.run_pure]
  ·have k:j<l.length:=by rw[<-g.1];grind
   obtain ⟨B,f,O,_⟩:=g.2 j _ (aCk k);rw[s]at f;cases f;exact O
  obtain ⟨B,f,_,J⟩:=g.2 j b A;rw[s]at f;cases f;exact J
def ME:Nat->List (Nat×AV)->Option (List (List AV))
 |_,[]=>some []
 |k,(i,a)::r=>match Nat.beq i k,N0 a,ME (k+1) r with
  |true,some l,some ls=>some (l::ls)
  |_,_,_=>none
theorem UI(he:kS w I ι H E a)(sz:Nat):∀ {ps:List (Nat×Operand)} {aps:List (Nat×AV)} {rows:List (List AV)} {k:Nat} {c:Array Value},
  pE E ps=some aps->ME k aps=some rows->(∀r∈rows,r.length=sz)->(k+rows.length)*sz<=c.size ->
  ∃c',Instr.fill (fun i=>some (i*sz,sz)) c (ps.map fun p=>(p.1,a.eval p.2))=some c'/\c'.size=c.size/\(∀i,i<k*sz->c'[i]?=c[i]?) /\
   ∀(m:Nat) (r:List AV),rows[m]?=some r->∀(j:Nat) (b:AV),r[j]?=some b->∃u,c'[(k+m)*sz+j]?=some u/\u.oneCell'=true/\VRel w I ι H u b:=by
 intro ps
 induction ps with
 |nil =>
  intro aps rows k c s n O R;simp[pE]at s;subst s;simp[ME]at n;subst n;exact⟨c,rfl,rfl,fun _ _=>rfl,by simp⟩
 | cons p r V =>
  obtain ⟨i,x⟩:=p;intro aps rows k c s n O R;unfold pE at s
  split at s
  ·rename_i v vs U e2;cases s;unfold ME at n
   split at n
   ·rename_i l C e3 e4 W;cases n;have K:i=k:=Nat.eq_of_beq_eq_true e3;subst K;have A:l.length=sz:=O l (by simp);have z:=A9.of_cells (aI he U) e4;have B:(i+(C.length+1))*sz<=c.size:=by simpa using R
    have hfit:i*sz+sz<=c.size:=by
     have:(i+1)*sz<=(i+(C.length+1))*sz:=Nat.mul_le_mul_right _ (by omega);rw[Nat.add_mul]at this;omega
    obtain ⟨Q,F⟩:=QE (i*sz) (a.eval x).cells.toList 0 c;have e:(a.eval x).cells.zipIdx.foldl (fun L (x,j)=>L.setIfInBounds (i*sz+j) x) c=((a.eval x).cells.toList.zipIdx 0).foldl (fun L p=>L.setIfInBounds (i*sz+p.2) p.1) c:=by
     rw[<-Array.foldl_toList,Array.toList_zipIdx]
    rw[<-e]at Q F;have hsz:(a.eval x).cells.size=sz:=by rw[z.1,A]
    obtain ⟨c',X,Z,S,Y⟩:=V (k:=i+1) e2 W (fun r h=>O r (by simp[h])) (by rw[Q];rw[show i+1+C.length=i+(C.length+1)by omega];exact B);refine⟨c',?_,Z.trans Q,fun q hq=>?_,fun m r h j b J=>?_⟩
    ·have t:¬ ((a.eval x).cells.size≠sz\/i*sz+(a.eval x).cells.size > c.size):=by omega
     simp only[List.map_cons,Instr.fill];rw[aCd (by simpa using t)];exact X
    ·have g:q<(i+1)*sz:=by rw[Nat.add_mul];omega
     rw[S q g,F q,aCd (by omega)]
    cases m with
    |zero =>
     simp at h;subst h;obtain ⟨u,D,G,M⟩:=z.2 j b J;have hj:j<sz:=by rw[<-A];exact(aCj.1 J).1
     refine⟨u,?_,G,M⟩;have g:(i+0)*sz+j<(i+1)*sz:=by rw[Nat.add_zero,Nat.add_mul i 1,Nat.one_mul];omega
     rw[S _ g,F,aCe (by simp;omega)]
     simpa using D
    |succ m =>
     simp at h;obtain ⟨u,D,G,M⟩:=Y m r h j b J;exact⟨u,by rw[show i+(m+1)=i+1+m by omega];exact D,G,M⟩
   grind
  grind
theorem Rel.newImm{w':World}{c:Array Value}{t:TypeId}(g:Rel I ι H w)(l:w'.os=w.os)(e:w'.tape=w.tape)(i:w'.output=w.output)(hw:w'.heap=w.heap.push (.cells c t (0,0))):
  Rel (fun b=>I b\/b=w.heap.size) ι H w'/\Step I ι H w (fun b=>I b\/b=w.heap.size) ι H w':=by
 have d:∀x,x<w.heap.size->w'.heap[x]?=w.heap[x]?:=fun x k=>by grind
 have hsize:w'.heap.size=w.heap.size+1:=by simp_all
 have f:Step I ι H w (fun b=>I b\/b=w.heap.size) ι H w':=by
  refine⟨l,e,i,by omega,fun a p _=>?_,fun _ h=>.inl h,fun b h=>?_,fun _ h=>.inl h,fun x k _=>d x k,fun _ o h=>⟨o,h,aCl _,fun _=>⟨rfl,rfl,fun _=>aCl _⟩⟩⟩
  ·simp[World.frozen?,d a.block p]
  grind
 refine⟨⟨fun x k=>?_,fun j o s=>?_,g.inj,f.glob g⟩,f⟩
 ·rcases k with h|h
  ·have:=g.imm x h;omega
  omega
 refine(g.obj j o s).keep rfl (fun n cap' e1 m=>⟨d n m,fun e3 h=>?_⟩) (fun r _ a _ v q=>q.mono g f)
 simp_all
theorem T3(n)(a:Array Value):((Array.range n).map (a[· % a.size]!)).size=n:=by simp
theorem PH{c:Array (Nat×Operand)}{rows:List (List AV)}(ho:o.op=.buildSlice T n c)(hT:P.underlying T=some (.slice e))(W:∀w,(sizeOf e).run P w=.ok sz w)
  (hz:∀w,(zeroValue e).run P w=.ok z w) (hn:n*sz<=16777216) (M:0<sz) (hp:pE E c.toList=some aps) (Z:ME 0 aps=some rows) (F:ps.map (·.map AV.pv)=rows) (s:ps.length=n) (L:∀r∈ps,r.length=sz):cK P N o E H (.pv (.sl ps)) H:=by
 intro a w I ι _ _ f he K Q t;subst F;have hf:=fun zc:Array Value=>UI (c:=(Array.range (n*sz)).map (zc[· % zc.size]!)) he sz hp Z (fun r Z=>by
  grind) (by simp_all)
 obtain ⟨V,k1,k2,_,k4⟩:=hf z.cells;have C:V.size=n*sz:=by simp_all
 have A:¬ (n*sz > 2 ^ 24):=by omega
 have B:∃l,(Instr.buildSlice T n (c.map fun p=>(p.1,a.eval p.2))).run P w=.ok (.slice (some ⟨w.heap.size,0,none⟩) n n) (w.alloc (.cells l e))/\l.size=n*sz /\
   ∀(m:Nat) (r:List AV),(ps.map (·.map AV.pv))[m]?=some r->∀(j:Nat) (b:AV),r[j]?=some b->∃u,l[m*sz+j]?=some u/\u.oneCell'=true/\VRel w I ι H u b:=by
  by_cases S:n*sz=0
  ·obtain ⟨c0,h,O,_,q4⟩:=hf #[];refine⟨c0,?_,by rw[O,T3],fun m r R j b J=>by have:=q4 m r R j b J;simpa using this⟩;rw[<-Array.toList_map]at h;simp only[S]at h;simp only[Instr.buildSlice,Sem.run_bind,run_underlying hT,Result.andThen_ok,W,Sem.run_ite,A,if_false,S,if_true,Sem.run_pure,h,newRow,run_newObj];rfl
  refine⟨V,?_,C,fun m r R j b J=>by have:=k4 m r R j b J;simpa using this⟩;rw[<-Array.toList_map]at k1;simp only[Instr.buildSlice,Sem.run_bind,run_underlying hT,Result.andThen_ok,W,Sem.run_ite,A,if_false,S,hz,Sem.run_pure,k1,newRow,run_newObj];rfl
 obtain ⟨g,g1,g2,U⟩:=B;obtain ⟨m1,Y⟩:=Rel.newImm (c:=g) (t:=e) (w':=w.alloc (.cells g e)) f rfl rfl rfl rfl;unfold Oper.wpW execOp;simp only[ho,Sem.run_bind,g1,Result.andThen_ok,Sem.run_pure];refine t _ _ _ ι _ _ ⟨rfl,rfl⟩ (.pv ?_) m1 Y;have q:∀j,(w.alloc (.cells g e)).cell? ⟨w.heap.size,j,none⟩=g[j]?:=fun j=>World.cell?_alloc_new w g e j;have:=PRep.sl (w:=w.alloc (.cells g e)) (I:=fun b=>I b\/b=w.heap.size) w.heap.size 0 n sz ps (fun i k=>(g[i*sz+k]?).getD undef) (.inr rfl) M L (by omega)
  (fun i r G k p t=>by
   obtain ⟨u,h,O,X⟩:=U i (r.map .pv) (by simp[G]) k (.pv p) (by simp[t]);rw[q,aCx,h];rfl)
  (fun i r G k p t=>by
   obtain ⟨u,h,O,X⟩:=U i (r.map .pv) (by simp[G]) k (.pv p) (by simp[t]);rw[h];exact(X.mono f Y).pv_inv)
 rw[s]at this;exact this
theorem GI{c:Array (Nat×Operand)}{rows:List (List AV)}(v:o.op=.buildSlice T n c)(J:P.underlying T=some (.slice e))(M:∀w,(sizeOf e).run P w=.ok sz w)
  (hz:∀w,(zeroValue e).run P w=.ok z w) (hn:n*sz<=16777216) (g:0<sz) (Y:pE E c.toList=some aps) (V:ME 0 aps=some rows) (f:rows.length=n) (s:∀r∈rows,r.length=sz) (B:H.get id=none) :
  cK P N o E H (.osl id 0 0 n) ((id,⟨0,sz,e,rows⟩)::H):=by
 intro a w I X _ _ k he K Q hk;have G:=fun R:Array Value=>UI (c:=(Array.range (n*sz)).map (R[· % R.size]!)) he sz Y V s (by simp_all);have q:¬ (n*sz > 2 ^ 24):=by omega
 have i:∃h,(Instr.buildSlice T n (c.map fun p=>(p.1,a.eval p.2))).run P w=.ok (.slice (some ⟨w.heap.size,0,none⟩) n n) (w.alloc (.cells h e))/\h.size=n*sz /\
   ∀(m:Nat) (r:List AV),rows[m]?=some r->∀(j:Nat) (b:AV),r[j]?=some b->∃u,h[m*sz+j]?=some u/\u.oneCell'=true/\VRel w I X H u b:=by
  by_cases D:n*sz=0
  ·obtain ⟨c0,A,q2,_,q4⟩:=G #[];refine⟨c0,?_,by simp_all,fun m r F j b C=>by have:=q4 m r F j b C;simpa using this⟩;rw[<-Array.toList_map]at A;simp only[D]at A;simp only[Instr.buildSlice,Sem.run_bind,run_underlying J,Result.andThen_ok,M,Sem.run_ite,q,if_false,D,if_true,Sem.run_pure,A,newRow,run_newObj];rfl
  obtain ⟨c',L,Z,_,U⟩:=G z.cells;refine⟨c',?_,by rw[Z,T3],fun m r F j b C=>by have:=U m r F j b C;simpa using this⟩;rw[<-Array.toList_map]at L;simp only[Instr.buildSlice,Sem.run_bind,run_underlying J,Result.andThen_ok,M,Sem.run_ite,q,if_false,D,hz,Sem.run_pure,L,newRow,run_newObj];rfl
 obtain ⟨O,S,g2,g3⟩:=i;have t:n<=maxLen:=by
  have:n<=n*sz:=Nat.le_mul_of_pos_right _ g;simp only[maxLen];omega
 obtain ⟨W,m2⟩:=Rel.place (H':=(id,⟨0,sz,e,rows⟩)::H) (id:=id) (cap:=n) (ob':=⟨0,sz,e,rows⟩) (cs':=O) (w':=w.alloc (.cells O e)) k rfl rfl rfl rfl (fun o v=>by rw[B]at v;cases v) g g2 (by simp[f]) t s g3
  (get_cons_same _ _ _) (fun j hj=>get_cons_other _ _ hj)
 unfold Oper.wpW execOp;simp only[v,Sem.run_bind,S,Result.andThen_ok,Sem.run_pure];exact hk _ _ I _ _ _ ⟨rfl,rfl⟩ (.osl ⟨0,sz,e,rows⟩ (get_cons_same _ _ _) (aCl _) rfl fun _=>⟨g,by simp[f],.inl ⟨w.heap.size,n,0,by simp,by simp,fun _=>by simp⟩⟩) W m2
end
end
section
def cr(P:Program)(e:TypeId)(sz bytes:Nat):Prop:=∃i z,P.info? e=some i/\i.zero=some z/\i.size=sz/\i.bytes=bytes/\z.cells.size=sz/\0<sz
theorem BV{f}{m j}{u:α}(h:((List.range m).map f)[j]?=some u):j<m/\u=f j:=by grind
theorem TC(f:Nat->α){m j}(hj:j<m):((List.range m).map f)[j]?=some (f j):=by simp_all
def sR(w:World)(I:Nat->Prop)(ι:lR)(H:aG)(sz:Nat)(l:List Value)(rows:List (List AV)):Prop :=∀(i:Nat) (r:List AV),rows[i]?=some r->∀(k:Nat) (a:AV),r[k]?=some a->∃u,l[i*sz+k]?=some u/\u.oneCell'=true/\VRel w I ι H u a
theorem sR.app{l1 l2 l3:List Value}{b d:List (List AV)}(m:sR w I ι H sz l1 b)(hl1:l1.length=b.length*sz)(n:sR w I ι H sz l2 d):
  sR w I ι H sz (l1++(l2++l3)) (b++d):=by
 intro i r e k a l;by_cases c:i<b.length
 ·rw[List.getElem?_append_left c]at e;obtain ⟨u,f,h,g⟩:=m i r e k a l;have j:=(aCj.1 f).1;exact⟨u,by grind,h,g⟩
 rw[List.getElem?_append_right (by omega)]at e;obtain ⟨u,f,h,g⟩:=n _ r e k a l;have j:=(aCj.1 f).1;have hm:(i - b.length)*sz+b.length*sz=i*sz:=by rw[<-Nat.add_mul];congr 1;omega
 refine⟨u,?_,h,g⟩
 grind
def Src(w:World)(I:Nat->Prop)(ι:lR)(H:aG)(sz:Nat)(v:Value)(rows:List (List AV)):Prop :=(∃a c news,v=.slice (some a) rows.length c/\news.length=rows.length*sz/\(∀j u,news[j]?=some u->w.cell? (a.add j)=some u)/\(∀u∈news,u.oneCell'=true)/\sR w I ι H sz news rows) \/
 (v=.slice none 0 0/\rows=[])
theorem Ep(h:j<n*sz):j / sz<n:=(Nat.div_lt_iff_lt_mul (by
 grind)).2 h
theorem W2(h:k<sz):(i*sz+k) / sz=i:=by rw[Nat.add_comm,Nat.add_mul_div_right _ _ (by omega),Nat.div_eq_of_lt h];omega
theorem E7(h:k<sz):(i*sz+k) % sz=k:=by rw[Nat.add_comm,Nat.add_mul_mod_self_right,Nat.mod_eq_of_lt h]
theorem xz{v:Value}(h:VRel w I ι H v (.pv (.sl ps)))(hsz:0<sz)(hl:∀r∈ps,r.length=sz):Src w I ι H sz v (ps.map (·.map .pv)):=by
 have L:=h.pv_inv;cases L with
 |nilsl=>exact .inr ⟨rfl,rfl⟩
 |empsl a=>exact .inl ⟨a,0,[],rfl,by simp,by simp,by simp,by intro i r o;grind⟩
 | sl b l B c _ N hI z n hcap M s =>
  by_cases A:ps=[]
  ·subst A;exact .inl ⟨⟨b,l,none⟩,B,[],rfl,by simp,by simp,by simp,by intro i r o;grind⟩
  have P:c=sz:=by
   obtain ⟨r,rs,e⟩:=List.exists_cons_of_ne_nil A
   simp_all
  subst P
  let f:Nat->Value:=fun j=>N (j / c) (j % c)
  have m:∀j,j<ps.length*c->∃r p,ps[j / c]?=some r/\r[j % c]?=some p:=by
   intro j y;have t:=Ep y;have O:ps[j / c]∈ps:=List.getElem_mem t;have C:j % c<ps[j / c].length:=by rw[n _ O];exact Nat.mod_lt _ z
   exact⟨_,_,aCk t,aCk C⟩
  refine .inl ⟨⟨b,l,none⟩,B,(List.range (ps.length*c)).map f,by simp,by simp,?_,?_,?_⟩
  ·intro j u K;obtain ⟨y,rfl⟩:=BV K;obtain ⟨r,p,t,C⟩:=m j y;rw[Addr.add_lit];have:=M _ r t _ p C;rw[show l+j / c*c+j % c=l+j by have:=Nat.div_add_mod' j c;omega]at this;exact this
  ·intro u K;obtain ⟨j,F⟩:=aDA.1 K;obtain ⟨y,rfl⟩:=BV F;obtain ⟨r,p,t,C⟩:=m j y;exact(s _ r t _ p C).oneCell
  intro i r o k a x;rw[aCz]at o;cases e:ps[i]? with
  |none=>rw[e]at o;cases o
  | some q =>
   rw[e]at o;cases o;rw[aCz]at x;cases D:q[k]? with
   |none=>rw[D]at x;cases x
   | some p =>
    rw[D]at x;cases x;have J:i<ps.length:=(aCj.1 e).1;have g:k<c:=by rw[<-n q (aCp e)];exact(aCj.1 D).1
    have E:i*c+k<ps.length*c:=by
     have:(i+1)*c<=ps.length*c:=Nat.mul_le_mul_right _ J;rw[Nat.add_mul]at this;omega
    refine⟨f (i*c+k),TC f E,?_,?_⟩
    ·simp only[f,W2 g,E7 g];exact(s i q e k p D).oneCell
    simp only[f,W2 g,E7 g];exact .pv (s i q e k p D)
theorem lu{v:Value}(X:Rel I ι H w)(h:VRel w I ι H v (.osl id g off len))(J:H.get id=some ob)(O:ob.g=g)(A:ob.sz=sz):
  Src w I ι H sz v ((ob.rows.drop off).take len):=by
 obtain ⟨hle,⟨b,x,W,G,K,F⟩|⟨G,K,F,U⟩⟩:=kB h J O
 ·obtain ⟨Y,L,⟨b',cap',y,q,R,e3,e4,e5,e5',Q⟩|⟨q,_⟩⟩:=(X.obj id ob J).cells (pA h J O)
  ·rw[G]at q;cases q;subst A;have l:((ob.rows.drop off).take len).length=len:=by grind
   have hget:∀j,j<len*ob.sz->∃u,y[off*ob.sz+j]?=some u/\u.oneCell'=true/\∀a r,ob.rows[off+j / ob.sz]?=some r->r[j % ob.sz]?=some a->VRel w I ι H u a:=by
    intro j m;have h1':=Ep m;have c:off+j / ob.sz<ob.rows.length:=by omega
    have V:=List.getElem_mem c;have s:j % ob.sz<ob.rows[off+j / ob.sz].length:=by rw[L _ V];exact Nat.mod_lt _ Y
    obtain ⟨u,N,T,S⟩:=Q _ _ (aCk c) _ _ (aCk s);refine⟨u,?_,T,fun a r o M=>?_⟩
    ·rw[Nat.add_mul,show off*ob.sz+j / ob.sz*ob.sz+j % ob.sz=off*ob.sz+j by have:=Nat.div_add_mod' j ob.sz;omega]at N;exact N
    rw[aCk c]at o;cases o;rw[aCk s]at M;cases M;exact S
   let f:Nat->Value:=fun j=>(y[off*ob.sz+j]?).getD undef
   have z:∀j (m:j<len*ob.sz),y[off*ob.sz+j]?=some (f j)/\(f j).oneCell'=true/\∀a r,ob.rows[off+j / ob.sz]?=some r->r[j % ob.sz]?=some a->VRel w I ι H (f j) a:=by
    grind
   by_cases B:len=0
   ·subst B;have:(ob.rows.drop off).take 0=[]:=by simp
    rw[this];exact .inl ⟨⟨b,W,none⟩,x - off,[],by simp_all,by simp,by simp,by simp,by intro i r n;grind⟩
   have C:=F (by omega);subst C;refine .inl ⟨⟨b,off*ob.sz,none⟩,x - off,(List.range (len*ob.sz)).map f,by rw[K,l],by simp[l],?_,?_,?_⟩
   ·intro j u E;obtain ⟨m,rfl⟩:=BV E;rw[Addr.add_lit,cell_of_row w b _ y ob.ty (0,0) R];exact(z j m).1
   ·intro u E;obtain ⟨j,D⟩:=aDA.1 E;obtain ⟨m,rfl⟩:=BV D;exact(z j m).2.1
   intro i r n k a P;have p:i<len:=by rw[<-l];exact(aCj.1 n).1
   rw[List.getElem?_take,aCe p,List.getElem?_drop]at n;have t:k<ob.sz:=by rw[<-L r (aCp n)];exact(aCj.1 P).1
   have c:i*ob.sz+k<len*ob.sz:=by
    have:(i+1)*ob.sz<=len*ob.sz:=Nat.mul_le_mul_right _ p;rw[Nat.add_mul]at this;omega
   refine⟨f (i*ob.sz+k),TC f c,(z _ c).2.1,(z _ c).2.2 a r ?_ ?_⟩
   ·rw[W2 t];exact n
   rw[E7 t];exact P
  rw[G]at q;cases q
 subst F U;exact .inr ⟨K,by simp⟩
section
variable{o:Oper}{x y:Operand}
theorem yI{t:TypeId}{i}(a:P.underlying t=some (.slice e))(hi:P.info? e=some i)(b)(n c:Nat)(d:n<=c):
  (Builtin.append_ #[t,t] ty #[.slice b n c,.slice none 0 0]).run P w=.ok (.slice b n c) w:=by
 cases b<;>simp[Builtin.append_,run_underlying a,sizeOf,typeInfo,hi,Builtin.lenOf,d,Builtin.firstCells,storeCells]
theorem gj{d:List (List AV)}{H2:aG}(ho:o.op=.call {callee:=.builtin .append,args:=#[x,y],argTypes:=#[T,T]})(hT:P.underlying T=some (.slice e))(hinf:cr P e sz bytes)
  (hx:aO E x=some (.osl id g 0 n)) (X:H.get id=some ob) (hg:ob.g=g) (hosz:ob.sz=sz) (hty:ob.ty=e) (hn:ob.rows.length=n)
  (hsrc:∀(a:Act) (w:World) (I:Nat->Prop) (ι:lR),Rel I ι H w->kS w I ι H E a->Src w I ι H sz (a.eval y) d) (hrl2:∀r∈d,r.length=sz) (hm:d.length=m) (t:(n+m)*bytes<=140737488355328) (hmax:n+m<=9223372036854775807)
  (hH2:H.set id ⟨g+1,sz,e,ob.rows++d⟩=H2):cK P N o E H (.osl id (g+1) 0 (n+m)) H2:=by
 intro a w I ι _ _ hr he K Q hk;obtain ⟨i,z,hi,hz,l,hby,hzs,hsz0⟩:=hinf;subst hg hosz hty hn hm hH2;have Y:ob.rows.length+d.length<=maxLen:=by simp only[maxLen];omega
 have W:(H.set id ⟨ob.g+1,ob.sz,ob.ty,ob.rows++d⟩).get id=some ⟨ob.g+1,ob.sz,ob.ty,ob.rows++d⟩:=aG.get_set_same _ _ _;have h2:∀j,j≠id->(H.set id ⟨ob.g+1,ob.sz,ob.ty,ob.rows++d⟩).get j=H.get j:=fun j hj=>aG.get_set_other _ _ hj;have p:0<ob.sz:=pA (aI he hx) X rfl;have p2:=((hr.obj id ob X).cells p).2.1;have hrl:∀r∈ob.rows++d,r.length=ob.sz:=fun r hr'=>by
  grind
 have U:∀(v':Value) (w':World) (M:lR),(Builtin.append_ #[T,T] o.type #[a.eval x,a.eval y]).run P w=.ok v' w'->VRel w' I M (H.set id ⟨ob.g+1,ob.sz,ob.ty,ob.rows++d⟩) v' (.osl id (ob.g+1) 0 (ob.rows.length+d.length)) ->
   Rel I M (H.set id ⟨ob.g+1,ob.sz,ob.ty,ob.rows++d⟩) w'->Step I ι H w I M (H.set id ⟨ob.g+1,ob.sz,ob.ty,ob.rows++d⟩) w'->o.wpW P a w K Q:=by
  intro v' w' M h k1 O R;unfold Oper.wpW execOp;simp only[ho,resolve,invoke,builtin,Sem.run_bind,Sem.run_pure,Result.andThen_ok,List.map_toArray,List.map_cons,List.map_nil,h];exact hk v' w' I M _ _ ⟨rfl,rfl⟩ k1 O R
 have hs:=hsrc a w I ι hr he;have hvx:=aI he hx;obtain ⟨_,hcase⟩:=kB hvx X rfl;rcases hcase with⟨b,q,oo,c1,c2,c3⟩|⟨c1,c2,_,c4⟩
 ·obtain ⟨p1,_,⟨b',cap',J,e1,e2,e3,e4,e5,e5',e6⟩|⟨e1,_⟩⟩:=(hr.obj id ob X).cells p
  ·rw [c1] at e1;cases e1;have hoo:oo=0:=by omega
   subst hoo;rw[Nat.sub_zero]at c2;have olds:sR w I ι H ob.sz (J.toList.take (ob.rows.length*ob.sz)) ob.rows:=by
    intro V r s k a' D;obtain ⟨u,q1,q2,q3⟩:=e6 V r s k a' D;have hk2:k<ob.sz:=by grind
    have hi2:V<ob.rows.length:=(aCj.1 s).1;have hlt:V*ob.sz+k<ob.rows.length*ob.sz:=by
     have:(V+1)*ob.sz<=ob.rows.length*ob.sz:=Nat.mul_le_mul_right _ hi2;rw[Nat.add_mul]at this;omega
    exact⟨u,by grind,q2,q3⟩
   have hle:ob.rows.length*ob.sz<=J.size:=by rw[e4];exact Nat.mul_le_mul_right _ e5
   have A:(J.toList.take (ob.rows.length*ob.sz)).length=ob.rows.length*ob.sz:=by simp;omega
   rcases hs with⟨ad,c,f,L,G,s3,s4,s5⟩|⟨L,G⟩
   ·by_cases F:ob.rows.length+d.length<=q
    ·-- there is room
     have hfit:ob.rows.length*i.size+f.length<=J.size:=by
      rw[G,l,e4,<-Nat.add_mul];exact Nat.mul_le_mul_right _ F
     have h:=run_append_room (P:=P) w T o.type ob.ty i hT hi b ob.rows.length q J e2 ad d.length c f (by rw[l];exact G) s3 s4 F hfit;rw[l]at h;obtain ⟨O,R⟩:=Rel.update (H':=H.set id ⟨ob.g+1,ob.sz,ob.ty,ob.rows++d⟩) (ob':=⟨ob.g+1,ob.sz,ob.ty,ob.rows++d⟩)
      (cs':=(J.toList.take (ob.rows.length*ob.sz)++f++J.toList.drop (ob.rows.length*ob.sz+f.length)).toArray) hr X c1 e2 (by simp) rfl rfl (fun e=>by simp at e) (by
       rw[l]at hfit;simp only[List.size_toArray,aCg,aCt,aCu,Array.length_toList];omega) (by simpa using F) hrl (fun V r s k a' D=>by
        have:=sR.app (l3:=J.toList.drop (ob.rows.length*ob.sz+f.length)) olds A s5 V r s k a' D
        simpa[List.append_assoc]using this) W h2
     exact U _ _ ι (by rw[c2,L];exact h) (.osl _ W (aCl _) rfl fun _=>⟨p,by simp,.inl ⟨b,q,0,c1,by simp,fun _=>by simp⟩⟩) O R
    have holds:∀j v,(J.toList.take (ob.rows.length*ob.sz))[j]?=some v->w.cell? ((⟨b,0,none⟩:Addr).add j)=some v:=by
     intro j v hv;rw[Addr.add_lit,aCx,cell_of_row w b _ J ob.ty (0,0) e2];rw[List.getElem?_take]at hv
     split at hv
     ·simpa using hv
     cases hv
    have h:=run_append_grow (P:=P) w T o.type ob.ty i z hT hi hz ⟨b,0,none⟩ ob.rows.length q _ (by rw[l];exact A) holds ad d.length c f (by rw[l];exact G) s3 (by omega) (by omega) (growslice_fits (by omega) (by rw[hby];exact t));have hge:=grownCap_ge w (ob.rows.length+d.length) q ob.ty;have hcm:=grownCap_le_maxLen w (ob.rows.length+d.length) q ob.ty Y;obtain ⟨O,R⟩:=Rel.place (H':=H.set id ⟨ob.g+1,ob.sz,ob.ty,ob.rows++d⟩) (id:=id) (cap:=grownCap w (ob.rows.length+d.length) q ob.ty) (ob':=⟨ob.g+1,ob.sz,ob.ty,ob.rows++d⟩)
     (cs':=(J.toList.take (ob.rows.length*ob.sz)).toArray++f.toArray++Builtin.zeroCells z.cells (grownCap w (ob.rows.length+d.length) q ob.ty - (ob.rows.length+d.length)))
     (w':=w.drew.alloc (.cells ((J.toList.take (ob.rows.length*ob.sz)).toArray++f.toArray++Builtin.zeroCells z.cells (grownCap w (ob.rows.length+d.length) q ob.ty - (ob.rows.length+d.length))) ob.ty)) hr rfl rfl rfl rfl
     (fun o' S=>by rw[X]at S;cases S;simp) p1 (by
      simp only[Array.size_append,List.size_toArray,size_zeroCells,hzs,A,G,<-Nat.add_mul];congr 1;omega) (by simpa using hge) hcm hrl (fun V r s k a' D=>by
       obtain ⟨u,q1,q2,q3⟩:=sR.app (l3:=(Builtin.zeroCells z.cells (grownCap w (ob.rows.length+d.length) q ob.ty - (ob.rows.length+d.length))).toList) olds A s5 V r s k a' D;refine⟨u,?_,q2,q3⟩;rw[<-Array.getElem?_toList]
       simpa[List.append_assoc]using q1) W h2
    exact U _ _ _ (by rw[c2,L];exact h) (.osl _ W (aCl _) rfl fun _=>⟨p,by simp,.inl ⟨w.heap.size,_,0,by simp;rfl,by simp,fun _=>by simp⟩⟩) O R
   subst G;have h:=yI (P:=P) (ty:=o.type) (w:=w) hT hi (some ⟨b,0,none⟩) ob.rows.length q e5;obtain ⟨O,R⟩:=Rel.tick (H':=H.set id ⟨ob.g+1,ob.sz,ob.ty,ob.rows++[]⟩) (ob':=⟨ob.g+1,ob.sz,ob.ty,ob.rows++[]⟩) hr X (by simp) rfl rfl (by simp) W h2;exact U _ _ ι (by rw[c2,L];exact h) (.osl _ W (aCl _) rfl fun _=>⟨p,by simp,.inl ⟨b,q,0,c1,by simp,fun _=>by simp⟩⟩) O R
  rw[c1]at e1;cases e1
 have C:ob.rows=[]:=List.eq_nil_of_length_eq_zero c4;have Z:d=[]->o.wpW P a w K Q:=by
  intro h0;subst h0;have h:(Builtin.append_ #[T,T] o.type #[a.eval x,a.eval y]).run P w=.ok (.slice none 0 0) w:=by
   rcases hs with⟨ad,c,f,L,G,s3,s4,s5⟩|⟨L,G⟩
   ·rw[c2,L];simp[Builtin.append_,run_underlying hT,sizeOf,typeInfo,hi,Builtin.lenOf,Builtin.firstCells,loadCells,loadCellsFrom]
   rw[c2,L];exact yI (P:=P) (ty:=o.type) (w:=w) hT hi none 0 0 (aCl _)
  obtain ⟨O,R⟩:=Rel.tick (H':=H.set id ⟨ob.g+1,ob.sz,ob.ty,ob.rows++[]⟩) (ob':=⟨ob.g+1,ob.sz,ob.ty,ob.rows++[]⟩) hr X (by simp) rfl rfl (by simp) W h2;exact U _ _ ι h (.osl _ W (aCl _) rfl fun _=>⟨p,by simp,.inr ⟨c1,rfl,rfl,by simp[C]⟩⟩) O R
 by_cases h0:d=[]
 ·exact Z h0
 have p:0<d.length:=List.length_pos_iff.2 h0;rcases hs with⟨ad,c,f,L,G,s3,s4,s5⟩|⟨L,G⟩
 ·rw [C] at t Y hmax;simp only [List.length_nil,aCx] at t Y hmax;have h:=run_append_nil (P:=P) w T o.type ob.ty i z hT hi hz ad d.length c f (by rw [l];exact G) s3 p (by omega) (by rw [hby];omega);have hge:=grownCap_ge w d.length 0 ob.ty;have hcm:=grownCap_le_maxLen w d.length 0 ob.ty Y;obtain ⟨O,R⟩:=Rel.place (H':=H.set id ⟨ob.g+1,ob.sz,ob.ty,ob.rows++d⟩) (id:=id) (cap:=grownCap w d.length 0 ob.ty) (ob':=⟨ob.g+1,ob.sz,ob.ty,ob.rows++d⟩)
   (cs':=f.toArray++Builtin.zeroCells z.cells (grownCap w d.length 0 ob.ty - d.length))
   (w':=w.drew.alloc (.cells (f.toArray++Builtin.zeroCells z.cells (grownCap w d.length 0 ob.ty - d.length)) ob.ty)) hr rfl rfl rfl rfl
   (fun o' S=>by rw[X]at S;cases S;simp) hsz0 (by
    simp only[Array.size_append,List.size_toArray,size_zeroCells,hzs,G,<-Nat.add_mul];congr 1;omega) (by simpa[C]using hge) hcm hrl (fun V r s k a' D=>by
     rw[C]at s;simp only[List.nil_append]at s;obtain ⟨u,q1,q2,q3⟩:=s5 V r s k a' D;have hlt:=(aCj.1 q1).1;refine⟨u,?_,q2,q3⟩;rw[Array.getElem?_append_left (by simpa using hlt)]
     simpa using q1) W h2
  refine U _ _ _ (by rw[c2,L];exact h) (.osl _ W (aCl _) rfl fun _=>⟨(pA (aI he hx) X rfl:0<ob.sz),by simp,.inl ⟨w.heap.size,_,0,by simp;rfl,by simp[C],fun _=>by simp⟩⟩) O R
 exact absurd G h0
theorem R6{e}{ps}{H2}(C:o.op=.call {callee:=.builtin .append,args:=#[x,y],argTypes:=#[T,T]})(D:P.underlying T=some (.slice e))(d:cr P e sz bytes)
  (p:aO E x=some (.osl id g 0 n)) (t:H.get id=some ob) (J:ob.g=g) (c:ob.sz=sz) (h:ob.ty=e) (u:ob.rows.length=n)
  (q:aO E y=some (.pv (.sl ps))) (j:∀r∈ps,r.length=sz) (hm:ps.length=m) (b:(n+m)*bytes<=140737488355328) (f:n+m<=9223372036854775807)
  (k:H.set id ⟨g+1,sz,e,ob.rows++ps.map (·.map AV.pv)⟩=H2):cK P N o E H (.osl id (g+1) 0 (n+m)) H2:=by
 obtain ⟨i,z,B,K,F,A,s,l⟩:=d;exact gj C D ⟨i,z,B,K,F,A,s,l⟩ p t J c h u (fun a w I ι v G=>xz (aI G q) l j) (fun r v=>by
  grind) (by simp_all) b f k
theorem RY{l c:Nat}{W k2:IntKind}{p b:Int}{d:List AV}(V:o.op=.makeSlice T x y)(hT:P.underlying T=some (.slice e))(t:cr P e sz bytes)(hz:∀w,(zeroValue e).run P w=.ok z w)(hv:ZV z v0)(J:N0 v0=some d)(hrow:d.length=sz)
  (hx:aO E x=some (.pv (.int W p))) (hy:aO E y=some (.pv (.int k2 b))) (h1:0<=p) (h2:p<=b) (hl:p.toNat=l) (hc:b.toNat=c) (hb:bytes*c<=281474976710656) (B:b<=9223372036854775807) (hid:H.get id=none) :
  cK P N o E H (.osl id 0 0 l) ((id,⟨0,sz,e,List.replicate l d⟩)::H):=by
 intro a w I ι _ _ hr he K Q hk;obtain ⟨i,q,Y,A,f,L,M,m⟩:=t;have D:q=z:=by
  have:=hz w;simp[zeroValue,typeInfo,Y,A]at this;exact this
 subst D hl hc;have e1:=(aI he hx).int_inv;have e2:=(aI he hy).int_inv;have G:(i.bytes:Int)*b<=281474976710656:=by
  have h:=hb;rw[<-L]at h;have U:((i.bytes*b.toNat:Nat):Int)<=281474976710656:=by omega
  rw[Int.natCast_mul]at U
  rwa [Int.toNat_of_nonneg (by omega)]at U
 have C:=run_make (P:=P) w T e i q hT Y A W k2 p b h1 h2 G B;have R:=A9.of_cells (ZV.rel (w:=w) (I:=I) (ι:=ι) (H:=H) hv) J;obtain ⟨S,k3⟩:=Rel.place (H':=(id,⟨0,sz,e,List.replicate p.toNat d⟩)::H) (id:=id) (cap:=b.toNat) (ob':=⟨0,sz,e,List.replicate p.toNat d⟩) (cs':=madeCells q.cells (b.toNat*i.size))
  (w':=w.alloc (.cells (madeCells q.cells (b.toNat*i.size)) e)) hr rfl rfl rfl rfl (fun o V=>by simp_all) m (by rw[size_madeCells,f]) (by grind) (by simp only[maxLen];omega)
  (fun r hr'=>by simp_all)
  (fun Z r n k a' F=>by
   rw[List.getElem?_replicate]at n
   split at n
   ·cases n;rename_i hlt;have O:k<sz:=by grind
    obtain ⟨u,X,q2,q3⟩:=R.2 k a' F;refine⟨u,?_,q2,q3⟩;have s:Z*sz+k<b.toNat*sz:=by
     have:(Z+1)*sz<=b.toNat*sz:=Nat.mul_le_mul_right _ (by omega);rw[Nat.add_mul]at this;omega
    have v:k<q.cells.size:=by omega
    rw[Array.getElem?_eq_getElem v]at X;cases X;simp only[madeCells,Array.getElem?_map,f];rw[Array.getElem?_range];simp only[s,if_true,Option.map_some,M,E7 O];rw[getElem!_pos q.cells k v]
   simp_all) (get_cons_same _ _ _) (fun j hj=>get_cons_other _ _ hj)
 unfold Oper.wpW execOp;simp only[V,e1,e2,Sem.run_bind,C,Result.andThen_ok,Sem.run_pure];exact hk _ _ I _ _ _ ⟨rfl,rfl⟩ (.osl _ (get_cons_same _ _ _) (aCl _) rfl fun _=>⟨m,by simp,.inl ⟨w.heap.size,b.toNat,0,by simp,by simp,fun _=>by simp⟩⟩) S k3
theorem Rel.congr{I}{ι}{H H'}{w}(f:Rel I ι H w)(h:∀j,H'.get j=H.get j):Rel I ι H' w/\Step I ι H w I ι H' w:=by
 have e:Step I ι H w I _ _ w:=⟨rfl,rfl,rfl,aCl _,fun _ _ _=>rfl,fun _ h=>h,fun _ h=>.inl h,fun b ⟨j,o,c,i,k⟩=>.inl ⟨j,o,c,(h j).symm.trans i,k⟩,fun _ _ _=>rfl,
  fun j o g=>⟨o,(h j).trans g,aCl _,fun _=>⟨rfl,rfl,fun _=>aCl _⟩⟩⟩
 refine⟨⟨f.imm,fun j o g=>?_,fun j j' o o' b c c' i k=>f.inj j _ o _ b c _ ((h j).symm.trans i) ((h _).symm.trans k),e.glob f⟩,e⟩;exact(f.obj j o ((h j).symm.trans g)).keep rfl (fun _ _ _ _=>⟨rfl,fun h=>h⟩) (fun r _ a _ v l=>l.mono f e)
def fE(s:List UInt8):List (List AV):=s.map fun b=>[.pv (.int .u8 b.toNat)]
theorem R4{bs:List UInt8}{r:ByteArray}(v:o.op=.convert S T x)(hS:P.underlying S=some (.slice e))(i:P.underlying e=some (.int .u8))(B:P.underlying T=some .string)
  (C:aO E x=some (.osl id g off len)) (M:H.get id=some ob) (V:ob.g=g) (q:ob.sz=1) (F:(ob.rows.drop off).take len=fE bs) (J:(⟨bs.toArray⟩:ByteArray)=r):cK P N o E H (.pv (.str r)) H :=
 .of_run fun a w I ι l U=>by
  have s:=aI U C;have h:=lu l s M V q;rw[F]at h;subst J;refine⟨.string ⟨bs.toArray⟩,?_,.pv (.str _)⟩;rcases h with⟨p,c,d,m,t,D,s4,G⟩|⟨m,t⟩
  ·have hnews:d=bs.map fun b=>Value.int .u8 b.toNat:=by
    apply List.ext_getElem?;intro j;by_cases z:j<bs.length
    ·obtain ⟨u,A,q2,R⟩:=G j [.pv (.int .u8 (bs[j]'z).toNat)] (by simp[fE,aCk z]) 0 _ (by simp;rfl);rw[Nat.mul_one,Nat.add_zero]at A;rw[A,R.int_inv]
     simp_all
    rw[List.getElem?_eq_none (by rw[t];simp[fE];omega),List.getElem?_eq_none (by grind)]
   have O:(loadCells p (fE bs).length).run P w=.ok ((bs.map fun b=>(b.toNat:Int)).map (Value.int .u8)).toArray w:=by
    have L:(bs.map fun b=>(b.toNat:Int)).map (Value.int .u8)=d:=by simp_all
    have Q:(fE bs).length=d.length:=by omega
    rw[L,Q];exact run_loadCells_list (P:=P) w p d D
   simp only[execOp,v,m,Sem.run_bind];rw[run_convert_bytes_string w S T e _ _ c hS i B,run_bytesToString w p _ c _ O,foldl_push_bytes];have K:(bs.map fun b=>(b.toNat:Int)).map (fun n=>UInt8.ofNat n.toNat)=bs:=by
    rw[List.map_map]
    conv=>rhs;rw[<-List.map_id bs]
    refine List.map_congr_left fun b _=>?_;simp
   rw[K];simp[ByteArray.empty,ByteArray.emptyWithCapacity];rfl
  have:bs=[]:=by simpa[fE]using t
  subst this;simp only[execOp,v,m,Sem.run_bind];rw[run_convert_bytes_string w S T e _ _ 0 hS i B];simp[Conv.bytesToString];rfl
end
end
section
structure Rec where
 v:AV
 R:Option (List Nat)
 W:aG
def MO:List Nat->Nat->Bool
 | [],_=>false
 |x::r,t=>cond (Nat.beq x t) true (MO r t)
theorem IR{l}{t}:MO l t=true↔t∈l:=by
 induction l with
 |nil=>simp[MO]
 | cons x r a =>
  cases e:Nat.beq x t with
  |true =>
   have:=Nat.eq_of_beq_eq_true e;simp[MO,e,this]
  |false =>
   have:x≠t:=fun h=>by simp_all
   simp[MO,e,a,Ne.symm this]
def sQ:Option (List Nat)->Nat->Bool
 |none,_=>true
 |some l,t=>MO l t
def ZQ:List Operand->List Nat
 | []=>[]
 |.tmp t::r=>t::ZQ r
 |_::r=>ZQ r
def iQ(ops:List Oper)(o:Oper):List Nat :=match o.guard with
 |none=>ZQ o.op.operands.toList
 |some (j,_)=>match jG ops j with
  |some t=>t::ZQ o.op.operands.toList
  |none=>ZQ o.op.operands.toList
def restr(E:dC):List Nat->dC
 | []=>[]
 |t::r=>match E.get t with
  |some v=>(t,v)::restr E r
  |none=>restr E r
theorem S9{E}{l}:∀p∈restr E l,E.get p.1=some p.2/\p.1∈l:=by
 induction l with
 |nil=>simp[restr]
 |cons t r ih =>
  intro p a;unfold restr at a
  grind
inductive DStep(P:Program)(N:Nat)(ops:List Oper)(o:Oper)(E:dC)(H:aG)(r:Rec):Prop
 |plain (hg:o.guard=none) (h:∀H1:aG,(∀id,sQ r.R id=true->H1.get id=H.get id)->cK P N o (restr E (iQ ops o)) H1 r.v (r.W++H1))
 | on (j:Nat) (want:Bool) (t:Tmp) (b:Bool) (hg:o.guard=some (j,want)) (hj:jG ops j=some t) (hb:E.get t=some (.pv (.bool b))) (hw:b=want)
   (h:∀H1:aG,(∀id,sQ r.R id=true->H1.get id=H.get id)->cK P N o (restr E (iQ ops o)) H1 r.v (r.W++H1))
 |off (j:Nat) (want:Bool) (t:Tmp) (x:AV) (hg:o.guard=some (j,want)) (hj:jG ops j=some t) (hb:E.get t=some x) (hw:Z0 want x=true) (hv:r.v=.tup []) (hW:r.W=[])
inductive DChain(P:Program)(N:Nat)(ops:List Oper):List Oper->dC->aG->List Rec->dC->aG->Prop
 |nil {E:dC} {H:aG}:DChain P N ops [] E H [] E H
 | cons {o:Oper} {rest:List Oper} {E E':dC} {H H':aG} {r:Rec} {rs:List Rec} (h:DStep P N ops o E H r) (hd:iX N o.dst=true) (hr:DChain P N ops rest (mQ E o.dst r.v) (r.W++H) rs E' H') :
   DChain P N ops (o::rest) E H (r::rs) E' H'
structure Ent2 where
 o:Oper
 r:Rec
def M6(E:dC)(l:List Ent2)(S:Nat->Bool):Nat->Nat->Option AV
 |0,t=>E.get t
 |k+1,t=>match l[k]? with
  |some x=>if S k=true/\x.o.dst=some t then some x.r.v else M6 E l S k t
  |none=>M6 E l S k t
def LK(H:aG)(l:List Ent2)(S:Nat->Bool):Nat->Nat->Option Ob
 |0,id=>H.get id
 |k+1,id=>match l[k]? with
  |some x=>if S k=true/\(x.r.W.get id).isSome=true then x.r.W.get id else LK H l S k id
  |none=>LK H l S k id
theorem NT(W H)(id):aG.get (W++H) id=match W.get id with|some o=>some o|none=>H.get id:=by
 induction W with
 |nil=>rfl
 |cons x r a =>
  obtain ⟨i,o⟩:=x;cases e:Nat.beq i id with
  |true=>simp[aG.get,e]
  |false=>simpa[aG.get,e]using a
def hkeys(W:aG):List Nat:=W.map (·.1)
def pO(ops:List Oper)(x y:Ent2):Bool :=(match x.o.dst with
   |some d=>MO (iQ ops y.o) d||(match y.o.dst with|some e=>Nat.beq e d|none=>false)
   |none=>false) ||
  (match y.o.dst with
   |some d=>MO (iQ ops x.o) d
   |none=>false) ||
  (hkeys x.r.W).any (fun i=>sQ y.r.R i||MO (hkeys y.r.W) i) ||
  (hkeys y.r.W).any (fun i=>sQ x.r.R i)
def uM(acc:List Nat):List Edge->Nat
 | []=>0
 |e::r=>if Region.binds .any e then((1 <<< e.on) ||| acc.getD e.on 0) ||| uM acc r else uM acc r
def Oe:List Oper->List Nat->List Nat
 | [],acc=>acc
 |o::r,acc=>Oe r (acc++[uM acc o.after.toList])
def NJ(ops:List Oper)(bef:List Nat):Nat->List Ent2->List Ent2->Bool
 |_,_,[]=>true
 |j,prev,y::r=>(prev.zipIdx.all fun(x,i)=>!pO ops x y||(bef.getD j 0).testBit i)&&NJ ops bef (j+1) (prev++[y]) r
def NK:Nat->List Oper->Bool
 |_,[]=>true
 |j,o::r=>(o.after.toList.all fun e=>!Region.binds .any e||Nat.blt e.on j)&&NK (j+1) r
def PK(ops:List Oper)(rs:List Rec):Bool :=NK 0 ops&&NJ ops (Oe ops []) 0 [] (List.zipWith Ent2.mk ops rs)
def Oy(ops:List Oper)(S:Nat->Bool):Prop:=∀j o,ops[j]?=some o->S j=true->∀e∈o.after.toList,Region.binds .any e=true->S e.on=true
def Pre(ops:List Oper)(i j:Nat):Prop:=∀S,Oy ops S->∀o,ops[j]?=some o->(∀e∈o.after.toList,Region.binds .any e=true->S e.on=true)->S i=true
theorem SG{ops:List Oper}{acc:List Nat}(c:∀j,j<acc.length->∀i,(acc.getD j 0).testBit i=true->Pre ops i j)(hlen:acc.length<=ops.length):
  ∀(l:List Edge) (i:Nat),(uM acc l).testBit i=true->∀S,Oy ops S->(∀e∈l,Region.binds .any e=true->S e.on=true)->S i=true:=by
 intro l
 induction l with
 |nil=>intro i h;simp[uM]at h
 | cons e r p =>
  intro i h S k g;unfold uM at h
  split at h
  ·rename_i o;rw[Nat.testBit_or,Nat.testBit_or,Bool.or_eq_true,Bool.or_eq_true]at h;rcases h with(h|h)|h
   ·have:e.on=i:=by
     rw[Nat.testBit_shiftLeft]at h;simp only[aCo,aCm]at h;have q:=h.2;rw[Nat.testBit_one_eq_true_iff_self_eq_zero]at q;omega
    rw[<-this];exact g e (by simp) o
   ·by_cases s:e.on<acc.length
    ·have f:e.on<ops.length:=by omega
     have m:=g e (by simp) o;exact c e.on s i h S k _ (aCk f) (fun d a n=>k e.on _ (aCk f) m d a n)
    simp[List.getD,List.getElem?_eq_none (show acc.length<=e.on by omega)]at h
   exact p i h S k (fun d a=>g d (by simp[a]))
  exact p i h S k (fun d a=>g d (by simp[a]))
theorem uw{ops:List Oper}:∀(rest b:List Oper) (acc:List Nat),ops=b++rest->acc.length=b.length->(∀j,j<acc.length->∀i,(acc.getD j 0).testBit i=true->Pre ops i j) ->
  ∀j i,((Oe rest acc).getD j 0).testBit i=true->Pre ops i j:=by
 intro rest
 induction rest with
 |nil =>
  intro b acc k f g j i c;by_cases h:j<acc.length
  ·exact g j h i c
  simp[Oe,List.getD,List.getElem?_eq_none (show acc.length<=j by omega)]at c
 | cons o r q =>
  intro b acc k f g;refine q (b++[o]) (acc++[uM acc o.after.toList]) (by simp_all) (by simp[f]) ?_;intro j h i c;by_cases e:j<acc.length
  ·have m:(acc.getD j 0).testBit i=true:=by simpa[List.getD,List.getElem?_append_left e]using c
   exact g j e i m
  have n:j=acc.length:=by simp at h;omega
  subst n;have c:(uM acc o.after.toList).testBit i=true:=by simpa[List.getD]using c
  intro S p s d l;have:s=o:=by
   rw[k,List.getElem?_append_right (by omega),f]at d;simp at d;exact d.symm
  subst this;exact SG g (by rw[k,f];simp) _ i c S p l
theorem WP{ops:List Oper}{c:List Nat}:∀(rest a:List Ent2),NJ ops c a.length a rest=true->∀i j,i<j->a.length<=j->∀x y,(a++rest)[i]?=some x->(a++rest)[j]?=some y->pO ops x y=true->(c.getD j 0).testBit i=true:=by
 intro rest
 induction rest with
 |nil =>
  simp_all
 | cons z r q =>
  intro a h i j b hj x y f d k;simp only[NJ,aCo]at h;by_cases e:j=a.length
  ·subst e;have m:y=z:=by
    simp at d;exact d.symm
   subst m;have g:=by rw[List.getElem?_append_left b]at f;exact f
   have o:(x,i)∈a.zipIdx:=by rw[List.mem_zipIdx_iff_getElem?];exact g
   have:=List.all_eq_true.1 h.1 _ o
   simpa[k]using this
  have l:=h.2;have p:a.length+1=(a++[z]).length:=by simp
  rw[p]at l;have n:a++z::r=(a++[z])++r:=by simp
  rw[n]at f d;exact q (a++[z]) l i j b (by simp;omega) x y f d k
theorem WR:∀(l) (k),NK k l=true->∀j o,l[j]?=some o->∀e∈o.after.toList,Region.binds .any e=true->e.on<k+j:=by
 intro l
 induction l with
 |nil=>simp_all
 | cons x r ih =>
  intro k h j o a e b c;simp only[NK,aCo]at h;cases j with
  |zero =>
   simp at a;subst a;have:=List.all_eq_true.1 h.1 e b
   simpa[c]using this
  |succ j =>
   grind
section
variable{ops:List Oper}
theorem EL {l} {S} {t}:∀ (n k),k<=n->(∀ j x,l[j]?=some x->x.o.dst=some t->(j < k->S j=true)/\(k<=j->j < n->S j=false))->M6 E l S n t=M6 E l (fun _=>true) k t:=by
  intro n
  induction n with
  | zero => intro k a h; have : k = 0 := by omega
            subst this;rfl
  | succ n ih =>
    intro k a h;by_cases e:k=n+1
    · subst e
      rw[M6,M6]
      grind
    · rw[M6]
      grind
theorem EK {l} {S} {id}:∀ (n k),k<=n->(∀ j x,l[j]?=some x->(x.r.W.get id).isSome=true->(j < k->S j=true)/\(k<=j->j < n->S j=false))->LK H l S n id=LK H l (fun _=>true) k id:=by
  intro n
  induction n with
  | zero => intro k a h; have : k = 0 := by omega
            subst this;rfl
  | succ n ih =>
    intro k a h;by_cases e:k=n+1
    · subst e
      rw[LK,LK]
      grind
    · rw[LK]
      grind
end
theorem cK.restr{P}{N}{o}{E b}{H1 H2}{l}{v}(h:cK P N o (restr E l) H1 v H2)(k:∀t,t∈l->b.get t=E.get t):cK P N o b H1 v H2:=by intro a w I ι j i f g K Q e;refine h a w I _ j i f (fun t v d=>?_) K Q e;have c:=S9 _ (iA d);exact g t v ((k t c.2).trans c.1)
theorem cQ.get{G0}{E E'}{H H'}(g:∀t,E'.get t=E.get t)(h:∀j,H'.get j=H.get j):cQ G0 E H E' H':=by intro G hG N a w d;obtain ⟨I,n,e,b,k⟩:=d.rel;obtain ⟨i,f⟩:=e.congr h;refine⟨d.defers,d.size,I,n,i,b.trans f,fun t v o=>?_⟩;obtain ⟨c,m,l⟩:=k t v ((g t).symm.trans o);exact⟨c,m,l.mono e f⟩
theorem MT{ops}{x y:Ent2}{d:Nat}(h:x.o.dst=some d)(a:d∈iQ ops y.o):pO ops x y=true:=by simp[pO,h,IR.2 a]
theorem F3{ops}{x y:Ent2}{d:Nat}(h:x.o.dst=some d)(a:y.o.dst=some d):pO ops x y=true:=by simp[pO,h,a,pQ]
theorem MS{ops}{x y:Ent2}{d:Nat}(h:y.o.dst=some d)(a:d∈iQ ops x.o):pO ops x y=true:=by simp[pO,h,IR.2 a]
theorem yO{W}{id}(h:(W.get id).isSome=true):id∈hkeys W:=by obtain ⟨o,a⟩:=Option.isSome_iff_exists.1 h;exact List.mem_map.2 ⟨_,dY a,rfl⟩
theorem ui{ops}{x y}{id}(h:(x.r.W.get id).isSome=true)(h':sQ y.r.R id=true):pO ops x y=true:=by have:(hkeys _).any (fun i=>sQ y.r.R i||MO (hkeys y.r.W) i)=true:=List.any_eq_true.2 ⟨id,yO h,by grind⟩;simp[pO,this]
theorem U0{ops}{x y}{id}(h:(x.r.W.get id).isSome=true)(b:(y.r.W.get id).isSome=true):pO ops x y=true:=by have:(hkeys _).any (fun i=>sQ y.r.R i||MO (hkeys y.r.W) i)=true:=List.any_eq_true.2 ⟨id,yO h,by simp[IR.2 (yO b)]⟩;simp[pO,this]
theorem uj{ops}{x y}{id}(h:(y.r.W.get id).isSome=true)(a:sQ x.r.R id=true):pO ops x y=true:=by have:=List.any_eq_true.2 ⟨id,yO h,a⟩;simp[pO,this]
theorem cK.any_heap{P}{N}{o}{E}{H H1}{v}(h:cK P N o E H v H)(g:∀j,H1.get j=H.get j):cK P N o E H1 v H1:=by intro a w I ι s q f k K Q l;obtain ⟨m,i⟩:=f.congr (fun j=>(g j).symm);refine h a w I _ s q m (fun t v y=>let ⟨c,p,u⟩:=k t v y;⟨c,p,u.mono f i⟩) K Q ?_;rintro c w' I' ι' r H' ⟨rfl,rfl⟩ n b d;obtain ⟨x,e⟩:=b.congr g;exact l c _ _ _ _ _ ⟨rfl,rfl⟩ (n.mono b e) x ((i.trans d).trans e)
theorem DStep.q{P}{N}{ops}{o}{E}{H}{v}(a:o.guard=none)(h:cK P N o (restr E (iQ ops o)) H v H):DStep P N ops o E H ⟨v,none,[]⟩ :=.plain a fun H1 b=>h.any_heap fun j=>b j rfl
theorem DStep.qon{P}{N}{ops}{o}{E}{H}{v}{j}{a}{t}{b}(f:o.guard=some (j,a))(d:jG ops j=some t)(c:E.get t=some (.pv (.bool b)))(g:b=a)(h:cK P N o (restr E (iQ ops o)) H v H):DStep P N ops o E H ⟨v,none,[]⟩ :=.on j _ t b f d c g fun H1 e=>h.any_heap fun j=>e j rfl
theorem DStep.qoff{P}{N}{ops}{o}{E}{H}{j}{a}{t}{x}(d:o.guard=some (j,a))(c:jG ops j=some t)(b:E.get t=some x)(e:Z0 a x=true):DStep P N ops o E H ⟨.tup [],some [],[]⟩ :=.off j _ t x d c b e rfl rfl
abbrev X8:=List PanicEntry
def C7(P:Program)(N:Nat)(o:Oper)(E:dC)(H:aG)(R:AV->aG->Prop)(PP:X8->aG->Prop):Prop :=∀(a:Act) (w:World) (I:Nat->Prop) (ι:lR),a.tmps.size=N->Rel I ι H w->kS w I ι H E a->∀(K:Act->World->Prop) (Q:Exit->Act->World->Prop),
  (∀c w' I' ι' r H',R r H'->VRel w' I' ι' H' c r->Rel I' ι' H' w'->Step I ι H w I' ι' H' w'->K (a.put o.dst c) w') ->
  (∀ch w' I' ι' H',PP ch H'->Rel I' ι' H' w'->Step I ι H w I' ι' H' w'->Q (.panic ch) a w')->o.wpW P a w K Q
section
variable{o:Oper}{R:AV->aG->Prop}{PP:X8->aG->Prop}
theorem St.opP{G}{a}{w}(e:St G N E H a w)(hd:iX N o.dst=true)(h:C7 P N o E H R PP){K}{Q}
  (u:∀r H' a' w',R r H'->St G N (mQ E o.dst r) H' a' w'->K a' w') (m:∀j H' w',PP j H'->St G N E H' a w'->Q (.panic j) a w') {ro} (z:ro=none\/o.noDefer=true):o.wpIn (RF ro) 0 P a w K Q:=by
 refine Oper.wpW_in z ?_;obtain ⟨I,ι,g,i,l⟩:=e.rel;refine h a w I _ e.size g l K Q ?_ ?_
 ·intro c w' k d r H' s x f b;refine u r _ _ _ s ⟨?_,?_,k,d,f,i.trans b,kS.put g b l x (by rw[e.size];exact hd)⟩
  ·rw[lJ];exact e.defers.step g b
  have:=e.size;cases o.dst<;>simpa[Act.put]using this
 intro j w' k d H' p f b;exact m _ _ _ p ⟨e.defers.step g b,e.size,k,d,f,i.trans b,fun t v n=>let ⟨c,q,y⟩:=l t v n;⟨c,q,y.mono g b⟩⟩
end
def lW(o o':Ob):Prop:=o'.g=o.g/\o'.sz=o.sz/\o'.ty=o.ty/\o'.rows.map List.length=o.rows.map List.length
theorem lW.rfl{o}:lW o o:=⟨_root_.rfl,_root_.rfl,_root_.rfl,_root_.rfl⟩
def Shp(ids:List Nat)(H H1:aG):Prop:=∀id∈ids,∀o,H.get id=some o->∃o',H1.get id=some o'/\lW o o'
def nn:List Nat->List Nat->Bool
 | [],[]=>true
 |a::r,b::q=>Nat.beq a b&&nn r q
 |_,_=>false
theorem Z8:∀ {a b},nn a b=true->a=b
 | [],[],_=>rfl
 |a::r,b::q,h=>by
  rw[nn,aCo]at h;rw[Nat.eq_of_beq_eq_true h.1,Z8 h.2]
 | [],_::_,h=>by cases h
 |_::_,[],h=>by cases h
def Xt(o o':Ob):Bool:=Nat.beq o'.g o.g&&(Nat.beq o'.sz o.sz&&(Nat.beq o'.ty o.ty&&nn (o'.rows.map List.length) (o.rows.map List.length)))
def Jm(ids:List Nat)(H:aG)(rs:List Rec):Bool:=rs.all fun r=>ids.all fun id=>match r.W.get id with
 |none=>true
 |some o'=>match H.get id with
  |none=>true
  |some o=>Xt o o'
theorem qz{b}{H}{e}(h:Jm b H e=true):∀r∈e,∀id∈b,∀o',r.W.get id=some o'->∀o,H.get id=some o->lW o o':=by intro r f id d o' c o g;have a:=List.all_eq_true.1 (List.all_eq_true.1 h r f) _ d;simp only[c,g,Xt,aCo]at a;exact⟨Nat.eq_of_beq_eq_true a.1,Nat.eq_of_beq_eq_true a.2.1,Nat.eq_of_beq_eq_true a.2.2.1,Z8 a.2.2.2⟩
theorem VJ{H}{l}{S}{id}{o}(b:H.get id=some o)(h:∀y∈l,∀o',y.r.W.get id=some o'->lW o o'):∀n,∃o',LK H l S n id=some o'/\lW o o'
 |0=>⟨o,b,.rfl⟩
 | n+1=>by
  rw[LK];cases e:l[n]? with
  |none=>exact VJ b h n
  | some y =>
   simp
   split
   ·next c =>
    obtain ⟨o',ho'⟩:=Option.isSome_iff_exists.1 c.2
    grind
   exact VJ b h n
def nv(ks:List Nat)(rs:List Rec):Bool:=rs.all fun r=>ks.all fun id=>match r.W.get id with
 |none=>true
 |some _=>false
theorem ia{ks}{c}(h:nv ks c=true):∀id∈ks,∀r∈c,r.W.get id=none:=by
 intro id a r d;have b:=List.all_eq_true.1 (List.all_eq_true.1 h r d) _ a;cases e:r.W.get _ with
 |none=>rfl
 |some o=>rw[e]at b;cases b
theorem OM{H}{l}{S}{id}(h:∀y∈l,y.r.W.get id=none):∀n,LK H l S n id=H.get id
 |0=>rfl
 | n+1=>by
  rw[LK];cases e:l[n]? with
  |none=>exact OM h n
  |some y =>
   simp;rw[aCd (fun hc=>by grind)];exact OM h n
def nw(ts:List Nat)(ops:Array Oper):Bool:=ops.toList.all fun o=>match o.dst with
 |none=>true
 |some d=>!MO ts d
theorem ib{a}{ops}(h:nw a ops=true):∀t∈a,∀o∈ops.toList,o.dst≠some t:=by intro t d o b c;have:=List.all_eq_true.1 h o b;rw[c]at this;simp[aCy]at this;rw[IR.2 d]at this;cases this
theorem ON{E}{l:List Ent2}{S}{t:Nat}(h:∀y∈l,y.o.dst≠some t):∀n,M6 E l S n t=E.get t
 |0=>rfl
 | n+1=>by
  rw[M6];cases e:l[n]? with
  |none=>exact ON h n
  |some y =>
   simp;rw[aCd (fun b=>h y (aCp e) b.2)];exact ON h n
theorem C7.restr{P}{N}{o}{E c}{H1}{l}{R}{PP}(h:C7 P N o (restr E l) H1 R PP)(j:∀t,t∈l->c.get t=E.get t):C7 P N o c H1 R PP:=by intro a w I ι i f g K Q e b;refine h a w I _ i f (fun t v d=>?_) K Q e b;have b:=S9 _ (iA d);exact g t v ((j t b.2).trans b.1)
inductive DStepP(P:Program)(N:Nat)(ops:List Oper)(PP:X8->aG->aG->Prop)(o:Oper)(E:dC)(H:aG)(r:Rec)(F:Prop):Prop
 |old (hF:F) (h:DStep P N ops o E H r)
 |pan (hg:o.guard=none) (h:∀H1:aG,(∀id,sQ r.R id=true->H1.get id=H.get id)->C7 P N o (restr E (iQ ops o)) H1 (fun v H'=>v=r.v/\H'=r.W++H1/\F) (fun ch H'=>PP ch H1 H'))
def XY:List Prop->Prop
 | []=>True
 |F::r=>F/\XY r
theorem XO:∀ {l},(∀(k:Nat) (F),l[k]?=some F->F)->XY l
 | [],_=>trivial
 |F::r,h=>⟨h 0 F rfl,XO fun k G a=>h (k+1) G a⟩
inductive DChainP(P:Program)(N:Nat)(ops:List Oper)(PP:X8->aG->aG->Prop):List Oper->dC->aG->List Rec->List Prop->dC->aG->Prop
 |nil {E:dC} {H:aG}:DChainP P N ops PP [] E H [] [] E H
 | cons {o:Oper} {rest:List Oper} {E E':dC} {H H':aG} {r:Rec} {rs:List Rec} {F:Prop} {Fs:List Prop} (h:DStepP P N ops PP o E H r F) (hd:iX N o.dst=true) (hr:DChainP P N ops PP rest (mQ E o.dst r.v) (r.W++H) rs Fs E' H') :
   DChainP P N ops PP (o::rest) E H (r::rs) (F::Fs) E' H'
section
variable{ops:List Oper}{PP:X8->aG->aG->Prop}
theorem DChainP.spec{a:List Rec}{g:List Prop}(h:DChainP P N ops PP rest E H a g E' H'):(a.length=rest.length/\g.length=rest.length) /\
  (∀k x,(List.zipWith Ent2.mk rest a)[k]?=some x->iX N x.o.dst=true/\∃F,g[k]?=some F/\∃i c,(∀t,i.get t=M6 E (List.zipWith Ent2.mk rest a) (fun _=>true) k t)/\(∀id,c.get id=LK H (List.zipWith Ent2.mk rest a) (fun _=>true) k id)/\DStepP P N ops PP x.o i c x.r F) /\
  (∀t,E'.get t=M6 E (List.zipWith Ent2.mk rest a) (fun _=>true) rest.length t)/\(∀id,H'.get id=LK H (List.zipWith Ent2.mk rest a) (fun _=>true) rest.length id):=by
 induction h with
 |nil=>exact⟨⟨rfl,rfl⟩,by simp,fun t=>rfl,fun id=>rfl⟩
 | @cons o rest E E' H H' r a F g u w hr b =>
  obtain ⟨⟨v,m⟩,z,h3,h4⟩:=b;have j:∀(l:List Ent2) k t,M6 (mQ E o.dst r.v) l (fun _=>true) k t=M6 E (⟨o,r⟩::l) (fun _=>true) (k+1) t:=by
   intro l k t
   induction k with
   | zero =>
    simp only[M6,List.getElem?_cons_zero];cases hdst:o.dst with
    |none=>rfl
    |some d =>
     simp only[mQ];by_cases e:d=t
     ·subst e;simp[dC.get_cons_same]
     rw[dC.get_cons_other _ _ e];simp[e]
   |succ k b =>
    rw[M6,M6];simp only[List.getElem?_cons_succ];cases l[k]? with
    |none=>exact b
    |some x=>simp only[b]
  have p:∀(l:List Ent2) k id,LK (r.W++H) l (fun _=>true) k id=LK H (⟨o,r⟩::l) (fun _=>true) (k+1) id:=by
   intro l k id
   induction k with
   |zero =>
    simp only[LK,List.getElem?_cons_zero,NT];cases hw:r.W.get id<;>simp
   |succ k b =>
    rw[LK,LK];simp only[List.getElem?_cons_succ];cases l[k]? with
    |none=>exact b
    |some x=>simp only[b]
  refine⟨⟨by simp[v],by simp[m]⟩,?_,?_,?_⟩
  ·intro k x f;cases k with
   |zero =>
    simp at f;subst f;exact⟨w,F,rfl,E,H,fun t=>rfl,fun id=>rfl,u⟩
   |succ k =>
    simp at f;obtain ⟨B,q,n,i,c,A,s,y⟩:=z k x (by simpa using f);exact⟨B,q,n,i,c,fun t=>(A t).trans (j _ k t),fun id=>(s id).trans (p _ k id),y⟩
  all_goals simp_all
end
theorem U2{PP:X8->aG->aG->Prop}{rs:List Rec}(hm:P.follows .mixedOrders=true){Fs:List Prop}(hc:DChainP P N ops.toList PP ops.toList E H rs Fs E' H')(hok:PK ops.toList rs=true)(ids ks:List Nat)(hW:Jm ids H rs=true)(hKs:nv ks rs=true)(ts:List Nat)(hT:nw ts ops=true)(hP:∀ch X H1 H2,(∀t∈ts,X.get t=E.get t)->Shp ids H H1->(∀id∈ks,H1.get id=H.get id)->PP ch H1 H2->Q (.panic ch) X H2)
  (hK:XY Fs->Q .normal E' H'):gC P G0 N (.region id ops true) Q E H:=by
 intro G hG a w hs ro hro;have hnd0:ro=none\/ops.toList.all Oper.noDefer=true:=hro;refine wpIn_region_any hm ?_;obtain ⟨⟨hlen,hlenF⟩,hst,hE',hH'⟩:=hc.spec;obtain ⟨l,hl⟩:∃l,l=List.zipWith Ent2.mk ops.toList rs:=⟨_,rfl⟩;rw[<-hl]at hst hE' hH';simp only[PK,aCo,<-hl]at hok;obtain ⟨hok1,hok2⟩:=hok;have hll:l.length=ops.size:=by simp_all
 have hlo:∀(i:Nat) (x:Ent2),l[i]?=some x->ops.toList[i]?=some x.o:=by
  grind
 have hedge:=WR ops.toList 0 hok1;have hbef:∀(i j:Nat) (x y:Ent2),i<j->l[i]?=some x->l[j]?=some y->pO ops.toList x y=true->Pre ops.toList i j:=fun i j x y hij hx Y hcl =>
  uw ops.toList [] [] rfl rfl (by simp) j i (WP l [] hok2 i j hij (aCw _) x y hx Y hcl)
 have main:∀(L:Nat) (f:Array Bool) (a:Act) (w:World) (X:dC) (H1:aG),f.size=ops.size->((List.range ops.size).filter fun i=>!f.getD i true).length<=L ->
   Oy ops.toList (fun i=>f.getD i false)->(∀k,f.getD k false=true->∀F,Fs[k]?=some F->F)->St G N X H1 a w->(∀t,X.get t=M6 E l (fun i=>f.getD i false) ops.size t)->(∀j,H1.get j=LK H l (fun i=>f.getD i false) ops.size j) ->
   wpAnyIn (RF ro) 0 P .any ops (fun e a w=>∃E H,Q e E H/\St G N E H a w) L f a w:=by
  intro L
  induction L with
  | zero =>
   intro f a w X H1 hsz hcnt M hfac p hE1 hH1;have J:∀i,i<ops.size->f.getD i false=true:=by
    intro i hi;have hnil:=List.eq_nil_of_length_eq_zero (Nat.le_zero.1 hcnt);have:=List.filter_eq_nil_iff.1 hnil i (List.mem_range.2 hi);have R:i<f.size:=by omega
    simp[Array.getD,R]at this |-;exact this
   refine⟨?_,E',H',hK (XO fun k F hF=>hfac k (J k (by have:=(aCj.1 hF).1;rw[hlenF]at this;simpa using this)) F hF),?_⟩
   ·unfold Region.ready;refine List.filter_eq_nil_iff.2 fun i hi=>?_;have:=J i (List.mem_range.1 hi);have R:i<f.size:=by have:=List.mem_range.1 hi;omega
    simp[Array.getD,R]at this;simp[Array.getD,R,this]
   refine cQ.get (G0:=G0) (fun t=>?_) (fun j=>?_) G hG N a w p
   ·rw[hE' t,hE1 t,Array.length_toList];exact(EL (E:=E) ops.size ops.size (aCl _) (fun j x q _=>⟨fun z=>J j z,fun h1 h2=>by omega⟩)).symm
   rw[hH' j,hH1 j,Array.length_toList];exact(EK (H:=H) ops.size ops.size (aCl _) (fun i x hi _=>⟨fun z=>J i z,fun h1 h2=>by omega⟩)).symm
  | succ L ih =>
   intro f a w X H1 hsz hcnt M hfac p hE1 hH1;refine⟨fun hnil=>?_,fun i hi=>?_⟩
   ·-- nothing is left
    have J:∀i,i<ops.size->f.getD i false=true:=by
     intro i
     induction i using Nat.strongRecOn with
     | _ i ihi =>
      intro hi;refine Classical.byContradiction fun hno=>?_;have R:i<f.size:=by omega
      have hno':f.getD i true=false:=by
       simp[Array.getD,R]at hno |-;exact hno
      have z:i<ops.toList.length:=by simpa using hi
      have hr:i∈Region.ready .any ops f:=by
       unfold Region.ready;refine List.mem_filter.2 ⟨List.mem_range.2 hi,?_⟩;have ho:ops[i]?=some ops[i]:=Array.getElem?_eq_getElem hi;simp only[hno',Bool.not_false,Bool.true_and,ho,Option.map_some,Option.getD_some];rw[Array.all_eq_true'];intro e he;cases hb:Region.binds .any e with
       |false=>simp
       |true =>
        have hon:=hedge i ops[i] (by simp[ho]) e (by simpa using he) hb;simp only[Bool.not_true,Bool.false_or];exact ihi e.on (by omega) (by omega)
      rw[hnil]at hr;cases hr
    refine⟨E',H',hK (XO fun k F hF=>hfac k (J k (by have:=(aCj.1 hF).1;rw[hlenF]at this;simpa using this)) F hF),?_⟩;refine cQ.get (G0:=G0) (fun t=>?_) (fun j=>?_) G hG N a w p
    ·rw[hE' t,hE1 t,Array.length_toList];exact(EL (E:=E) ops.size ops.size (aCl _) (fun j x q _=>⟨fun z=>J j z,fun h1 h2=>by omega⟩)).symm
    rw[hH' j,hH1 j,Array.length_toList];exact(EK (H:=H) ops.size ops.size (aCl _) (fun i x hi _=>⟨fun z=>J i z,fun h1 h2=>by omega⟩)).symm
   have hi1:=List.mem_filter.1 hi;have hilt:i<ops.size:=List.mem_range.1 hi1.1;have R:i<f.size:=by omega
   have ho:ops[i]?=some ops[i]:=Array.getElem?_eq_getElem hilt;have hi2:=hi1.2;simp only[ho,Option.map_some,Option.getD_some,aCo]at hi2;obtain ⟨hnl,hpreds⟩:=hi2;have hnl':f.getD i false=false:=by
    simp[Array.getD,R]at hnl |-;exact hnl
   have hpre:∀e∈(ops[i]).after.toList,Region.binds .any e=true->f.getD e.on false=true:=by
    intro e he hb;have:=(Array.all_eq_true'.1 hpreds) e (by simpa using he)
    simpa[hb]using this
   have hil:i<l.length:=by omega
   obtain ⟨x,hx⟩:∃x,l[i]?=some x:=⟨_,aCk hil⟩;have hxo:x.o=ops[i]:=by
    have:=hlo i x hx;simp[ho]at this;exact this.symm
   obtain ⟨W,F,hFi,Ek,Hk,hEk,hHk,hdst⟩:=hst i x hx;have A:∀(j:Nat) (y:Ent2),j<i->l[j]?=some y->pO ops.toList y x=true->f.getD j false=true:=by
    intro j y q Y hcl;exact hbef j i y x q Y hx hcl _ M ops[i] (by simp[ho]) hpre
   have C:∀(j:Nat) (y:Ent2),i<j->l[j]?=some y->pO ops.toList x y=true->f.getD j false=false:=by
    intro j y q Y hcl;cases hjl:f.getD j false with
    |false=>rfl
    |true =>
     have hjlt:j<l.length:=(aCj.1 Y).1;have hjo:ops.toList[j]?=some y.o:=hlo j y Y;have:=hbef i j x y q hx Y hcl _ M y.o hjo (fun e he hb=>M j y.o hjo hjl e he hb);rw[hnl']at this;cases this
   have agreeE:∀t,(∀(j:Nat) (y:Ent2),l[j]?=some y->y.o.dst=some t->(j<i->pO ops.toList y x=true)/\(i<j->pO ops.toList x y=true))->X.get t=Ek.get t:=by
    intro t ht;rw[hE1 t,hEk t];refine EL (E:=E) ops.size i (by omega) (fun j y q K=>⟨fun z=>A j y z q ((ht j y q K).1 z),fun h1 h2=>?_⟩);by_cases e:j=i
    ·subst e;exact hnl'
    exact C j y (by omega) q ((ht j y q K).2 (by omega))
   have agreeH:∀k,(∀(j:Nat) (y:Ent2),l[j]?=some y->(y.r.W.get k).isSome=true->(j<i->pO ops.toList y x=true)/\(i<j->pO ops.toList x y=true))->H1.get k=Hk.get k:=by
    intro k U;rw[hH1 k,hHk k];refine EK (H:=H) ops.size i (by omega) (fun j y q K=>⟨fun z=>A j y z q ((U j y q K).1 z),fun h1 h2=>?_⟩);by_cases e:j=i
    ·subst e;exact hnl'
    exact C j y (by omega) q ((U j y q K).2 (by omega))
   have u:∀t,t∈iQ ops.toList x.o->X.get t=Ek.get t:=fun t ht =>
    agreeE t fun j y q K=>⟨fun _=>MT K ht,fun _=>MS K ht⟩
   have T:∀k,sQ x.r.R k=true->H1.get k=Hk.get k:=fun k U =>
    agreeH k fun j y q K=>⟨fun _=>ui K U,fun _=>uj K U⟩
   have s:∀j,(f.setIfInBounds i true).getD j false=if j=i then true else f.getD j false:=by
    intro j;by_cases e:j=i
    ·subst e;simp[Array.getD,R]
    simp only[Array.getD_eq_getD_getElem?,Array.getElem?_setIfInBounds_ne (Ne.symm e),e,if_false]
   have hdown':Oy ops.toList (fun j=>(f.setIfInBounds i true).getD j false):=by
    intro j o q hjl e he hb;simp only[s]at hjl |-;by_cases ej:j=i
    ·subst ej;have:o=ops[j]:=by simp[ho]at q;exact q.symm
     subst this;have:=hpre e he hb;simp[this]
    simp only[ej,if_false]at hjl;have:=M j o q hjl e he hb;simp only at this;simp[this]
   have hcnt':((List.range ops.size).filter fun j=>!(f.setIfInBounds i true).getD j true).length<=L:=by
    have hlist':∀j,(f.setIfInBounds i true).getD j true=if j=i then true else f.getD j true:=by
     intro j;by_cases e:j=i
     ·subst e;simp[Array.getD,R]
     simp only[Array.getD_eq_getD_getElem?,Array.getElem?_setIfInBounds_ne (Ne.symm e),e,if_false]
    have h1:((List.range ops.size).filter fun j=>!(f.setIfInBounds i true).getD j true)=((List.range ops.size).filter fun j=>!f.getD j true).filter fun j=>j != i:=by
     rw[List.filter_filter];refine List.filter_congr fun j _=>?_;rw[hlist'];by_cases e:j=i<;>simp[e]
    rw[h1];have h2:=List.length_filter_lt_length_iff_exists (p:=fun j=>j != i) (l:=(List.range ops.size).filter fun j=>!f.getD j true) |>.2 ⟨i,List.mem_filter.2 ⟨hi1.1,by simpa using hnl⟩,by simp⟩;omega
   have O:∀(r:AV) (a':Act) (w':World),F->r=x.r.v->St G N (mQ X x.o.dst x.r.v) (x.r.W++H1) a' w'->wpAnyIn (RF ro) 0 P .any ops (fun e a w=>∃E H,Q e E H/\St G N E H a w) L (f.setIfInBounds i true) a' w':=by
    intro r a' w' hFx _ hst';refine ih _ a' w' _ _ (by simp[hsz]) hcnt' hdown' (fun k U F' hF'=>?_) hst' (fun t=>?_) (fun k=>?_)
    ·rw[s]at U;by_cases e:k=i
     ·subst e;rw[hFi]at hF';cases hF';exact hFx
     rw[aCd e]at U;exact hfac k U F' hF'
    ·-- slots
     by_cases K:x.o.dst=some t
     ·have e1:dC.get (mQ X x.o.dst x.r.v) t=some x.r.v:=by rw[K];simp[mQ,dC.get_cons_same]
      rw[e1];have e2:=EL (E:=E) (l:=l) (S:=fun j=>(f.setIfInBounds i true).getD j false) (t:=t) ops.size (i+1) (by omega) (fun j y q hyd=>⟨fun z=>?_,fun h1 h2=>?_⟩)
      ·rw[e2,M6,hx];simp[K]
      ·simp only[s];by_cases ej:j=i
       ·simp[ej]
       simp only[ej,if_false];exact A j y (by omega) q (F3 hyd K)
      simp only[s];rw[aCd (by omega)];exact C j y (by omega) q (F3 K hyd)
     have e1:dC.get (mQ X x.o.dst x.r.v) t=X.get t:=by
      cases hdd:x.o.dst with
      |none=>rfl
      |some d=>exact dC.get_cons_other _ _ (fun e=>K (by rw[hdd,e]))
     rw [e1,hE1 t];have:∀ n,M6 E l (fun i=>f.getD i false) n t=M6 E l (fun j=>(f.setIfInBounds i true).getD j false) n t:=by
      intro n
      induction n with
      |zero=>rfl
      | succ n D =>
       rw[M6,M6];cases hn:l[n]? with
       |none=>exact D
       |some y =>
        simp only;by_cases en:n=i
        ·subst en;rw[hx]at hn;cases hn;rw[aCd (fun h=>K h.2),aCd (fun h=>K h.2)];exact D
        have hS:(f.setIfInBounds i true).getD n false=f.getD n false:=by rw[s,aCd en]
        rw[hS,D]
     exact this _
    rw[NT];by_cases K:(x.r.W.get k).isSome=true
    ·obtain ⟨ob,hob⟩:=Option.isSome_iff_exists.1 K;rw[hob];have e2:=EK (H:=H) (l:=l) (S:=fun j=>(f.setIfInBounds i true).getD j false) (id:=k) ops.size (i+1) (by omega) (fun j y q hyd=>⟨fun z=>?_,fun h1 h2=>?_⟩)
     ·rw[e2,LK,hx];simp[hob]
     ·simp only[s];by_cases ej:j=i
      ·simp[ej]
      simp only[ej,if_false];exact A j y (by omega) q (U0 hyd K)
     simp only[s];rw[aCd (by omega)];exact C j y (by omega) q (U0 K hyd)
    have hnone:x.r.W.get k=none:=by simpa using K
    rw [hnone];simp only;rw [hH1 k];have:∀ n,LK H l (fun i=>f.getD i false) n k=LK H l (fun j=>(f.setIfInBounds i true).getD j false) n k:=by
     intro n
     induction n with
     |zero=>rfl
     | succ n D =>
      rw[LK,LK];cases hn:l[n]? with
      |none=>exact D
      |some y =>
       simp only;by_cases en:n=i
       ·subst en;rw[hx]at hn;cases hn;rw[aCd (fun h=>K h.2),aCd (fun h=>K h.2)];exact D
       have hS:(f.setIfInBounds i true).getD n false=f.getD n false:=by rw[s,aCd en]
       rw[hS,D]
    exact this _
   unfold wpOpIn;simp only[ho];rw[hxo]at hdst u W;rw[hxo]at O;have hgE:∀(j:Nat) (V:Bool) (t:Tmp) (b:Bool),(ops[i]).guard=some (j,V)->jG ops.toList j=some t->Ek.get t=some (.pv (.bool b))->yielded ops a.tmps j=some b:=by
    intro j V t b hg q hb;have hmem:t∈iQ ops.toList ops[i]:=by simp[iQ,hg,q]
    exact CB (E:=X) q ((u t hmem).trans hb) p.rel.choose_spec.choose_spec.2.2
   have hnd:ro=none\/(ops[i]).noDefer=true:=hnd0.imp (fun h=>h) fun h=>List.all_eq_true.1 h _ (by simp);cases hdst with
   | pan hg h =>
    have hlr:∀y∈l,y.r∈rs:=fun y Y=>by
     obtain ⟨k,U⟩:=aDA.1 Y;rw[hl,List.getElem?_zipWith]at U;cases e1:ops.toList[k]? with
     |none=>simp[e1]at U
     |some o=>cases e2:rs[k]? with
      |none=>simp[e1,e2]at U
      |some r=>simp[e1,e2]at U;rw[<-U];exact aCp e2
    have hw:Region.wanted ops[i] (yielded ops a.tmps)=true:=by simp[Region.wanted,hg]
    simp only[hw,if_true];refine p.opP W ((h H1 T).restr u) ?_ ?_ hnd
    ·rintro r H2 a' w' ⟨rfl,rfl,hF⟩ S;exact O _ a' w' hF rfl S
    intro ch H2 w' hp S;refine⟨X,H2,hP ch X H1 H2 (fun t ht=>(hE1 t).trans (ON (fun y Y=>ib hT t ht y.o (by
     obtain ⟨k,U⟩:=aDA.1 Y;exact aCp (hlo k y U))) _)) (fun id hid o ho=>?_) (fun id hid=>(hH1 id).trans (OM (fun y Y=>ia hKs id hid y.r (hlr y Y)) _)) hp,S⟩
    have hsh:=VJ (H:=H) (l:=l) (S:=fun i=>f.getD i false) (id:=id) ho (fun y Y o' ho'=>?_) ops.size
    ·obtain ⟨o',h1,h2⟩:=hsh;exact⟨o',(hH1 id).trans h1,h2⟩
    exact qz hW y.r (hlr y Y) id hid o' ho' o ho
   | old hF hdst =>
    have O:=fun r a' w'=>O r a' w' hF;cases hdst with
    |plain hg h =>
     have hw:Region.wanted ops[i] (yielded ops a.tmps)=true:=by simp[Region.wanted,hg]
     simp only[hw,if_true];refine p.op W ((h H1 T).restr u) ?_ hnd;rintro r H2 a' w' ⟨rfl,rfl⟩ S;exact O _ a' w' rfl S
    |on j V t b hg q hb hw h =>
     have Y:=hgE j V t b hg q hb;have hw:Region.wanted ops[i] (yielded ops a.tmps)=true:=by simp[Region.wanted,hg,Y,hw]
     simp only[hw,if_true];refine p.op W ((h H1 T).restr u) ?_ hnd;rintro r H2 a' w' ⟨rfl,rfl⟩ S;exact O _ a' w' rfl S
    | off j V t x' hg q hb hw hv hW =>
     have hmem:t∈iQ ops.toList ops[i]:=by simp[iQ,hg,q]
     have hw:Region.wanted ops[i] (yielded ops a.tmps)=false :=
      UD (E:=X) hg q ((u t hmem).trans hb) hw p.rel.choose_spec.choose_spec.2.2
     simp only[hw,Bool.false_eq_true,if_false];refine⟨fun _ _=>trivial,?_⟩;refine O (.tup []) _ w hv.symm ?_;obtain ⟨I,ι,hr,hst2,he⟩:=p.rel;rw[hv,hW];refine⟨?_,?_,I,ι,hr,hst2,kS.put hr (Step.refl _ _ _ _) he kS.skip (by rw[p.size];exact W)⟩
     ·rw[lJ];exact p.defers
     have:=p.size;cases (ops[i]).dst<;>simpa[Act.put]using this
 have S:St G N E H a {w with drawn:=w.drawn+1}:=by
  obtain ⟨I,ι,hr,hst2,he⟩:=hs.rel;obtain ⟨k2,k3⟩:=hr.drawn (w':={w with drawn:=w.drawn+1}) rfl rfl rfl rfl;exact⟨hs.defers,hs.size,I,ι,k2,hst2.trans k3,fun t v ht=>let ⟨c,h1,h2⟩:=he t v ht;⟨c,h1,h2.mono hr k3⟩⟩
 refine main ops.size (Array.replicate ops.size false) a _ E H (by simp) (by
  have:=List.length_filter_le (fun i=>!(Array.replicate ops.size false).getD i true) (List.range ops.size)
  simpa using this) (fun j o q hjl=>by simp[Array.getD]at hjl) (fun k U=>by simp[Array.getD]at U) S (fun t=>?_) (fun k=>?_)
 ·have:∀n,M6 E l (fun i=>(Array.replicate ops.size false).getD i false) n t=E.get t:=by
   intro n
   induction n with
   |zero=>rfl
   | succ n D =>
    rw[M6];cases l[n]? with
    |none=>exact D
    |some y =>
     have hf:(Array.replicate ops.size false).getD n false=false:=by simp[Array.getD]
     simp only[hf,Bool.false_eq_true,false_and,if_false];exact D
  exact(this _).symm
 have:∀n,LK H l (fun i=>(Array.replicate ops.size false).getD i false) n k=H.get k:=by
  intro n
  induction n with
  |zero=>rfl
  | succ n D =>
   rw[LK];cases l[n]? with
   |none=>exact D
   |some y =>
    have hf:(Array.replicate ops.size false).getD n false=false:=by simp[Array.getD]
    simp only[hf,Bool.false_eq_true,false_and,if_false];exact D
 exact(this _).symm
theorem DChain.toP{ops:List Oper}{rs:List Rec}(h:DChain P N ops rest E H rs E' H'):DChainP P N ops (fun _ _ _=>False) rest E H rs (rs.map fun _=>True) E' H':=by
 induction h with
 |nil=>exact .nil
 |cons hs hd hr ih=>exact .cons (.old trivial hs) hd ih
theorem Gd{rs:List Rec}(hm:P.follows .mixedOrders=true)(hc:DChain P N ops.toList ops.toList E H rs E' H')(hok:PK ops.toList rs=true)
  (hK:Q .normal E' H'):gC P G0 N (.region id ops true) Q E H :=
 U2 (PP:=fun _ _ _=>False) hm hc.toP hok [] [] (by simp[Jm]) (by simp[nv]) [] (by rw[nw,List.all_eq_true];intro o _;cases o.dst<;>rfl) (fun _ _ _ _ _ _ _ h=>h.elim) fun _=>hK
end
section
def eL(P:Program)(T:TypeId)(cells:List AV):Prop:=∃z v,(∀w,(zeroValue T).run P w=.ok z w)/\ZV z v/\N0 v=some cells
def lX(P:Program)(T:TypeId)(places:List (Nat×Nat))(l0:List AV):Prop :=∃fs pl z v,P.underlying T=some (.struct fs)/\(∀w,(zeroValue T).run P w=.ok z w)/\ZV z v/\N0 v=some l0/\(∀w,((fs.mapM fun f=>do pure (f.offset,<-sizeOf f.type)):Sem (Array (Nat×Nat))).run P w=.ok pl w)/\pl.toList=places
def N1(P:Program)(T:TypeId)(sz:Nat)(l0:List AV):Prop :=∃n e z v,P.underlying T=some (.array n e)/\(∀w,(zeroValue T).run P w=.ok z w)/\ZV z v/\N0 v=some l0/\∀w,(sizeOf e).run P w=.ok sz w
def fC(P:Program)(T e sz:TypeId):Prop:=P.underlying T=some (.slice e)/\(∀w,(sizeOf e).run P w=.ok sz w)/\0<sz/\∃z,∀w,(zeroValue e).run P w=.ok z w
def EI(P:Program)(e:TypeId)(sz bytes:Nat):Prop:=cr P e sz bytes/\0<bytes
theorem EI.mk{P}{e}{sz bytes}{z}(h:(P.info? e).map (fun i=>(i.zero,i.size,i.bytes))=some (some z,sz,bytes))(d:z.cells.size=sz)(c:0<sz)(b:0<bytes):EI P e sz bytes:=by
 refine⟨?_,b⟩;cases a:P.info? e with
 |none=>rw[a]at h;cases h
 |some i =>
  rw[a]at h;simp[Option.map_some,Option.some.injEq,Prod.mk.injEq]at h;obtain ⟨g,f,j⟩:=h;exact⟨i,z,a,g,f,j,d,c⟩
theorem cK.congr{P}{N}{o}{E}{H H2 H3}{v}(h:cK P N o E H v H2)(l:∀j,H3.get j=H2.get j):cK P N o E H v H3:=by intro a w I ι n m k f K Q i;refine h a w I _ n m k f K Q ?_;rintro c w' I' ι' r H' ⟨rfl,rfl⟩ g b d;obtain ⟨p,e⟩:=b.congr l;exact i c _ _ _ _ _ ⟨rfl,rfl⟩ (g.mono b e) p (d.trans e)
theorem wU(H:aG)(id)(o):∀j,aG.get ((id,o)::H) j=(H.set id o).get j:=by
 intro j;by_cases e:j=id
 ·subst e;rw[aG.get_set_same,get_cons_same]
 rw[aG.get_set_other _ _ e,get_cons_other _ _ e]
section
variable{o:Oper}{x y:Operand}
theorem BB{cells}{id n}(b:o.op=.alloc T)(g:eL P T cells)(d:cells.length=n+1)(a:H.get id=none):cK P N o E H (.ref id 0 0 0) ((id,⟨0,n+1,T,[cells]⟩)::H) :=let ⟨_,_,f,e,c⟩:=g;sk b f e c d a
theorem MZ{a}{places}{l0 l}{aps}(f:o.op=.build T a)(c:lX P T places l0)(b:pE E a.toList=some aps)(hf:CQ (fun i=>places[i]?) l0 aps=some l):
  cK P N o E H (.agg l) H:=by
 obtain ⟨fs,pl,z,v,e,h,g,d,j,h6⟩:=c;refine KA f e h g d j b ?_
 grind
theorem yB{a}{sz}{l0 l}{aps}(f:o.op=.build T a)(c:N1 P T sz l0)(b:pE E a.toList=some aps)(h:CQ (fun i=>some (i*sz,sz)) l0 aps=some l):
  cK P N o E H (.agg l) H :=
 let ⟨_,_,_,_,e,j,g,d,k⟩:=c;R5 f e j g d k b h
theorem aN{e:Nat}{a}{aps}{rows}(ps)(h:o.op=.buildSlice T n a)(hS:fC P T e sz)(m:Nat.ble (n*sz) 16777216=true)(f:pE E a.toList=some aps)(j:ME 0 aps=some rows)
  (c:ps.map (·.map AV.pv)=rows) (b:ps.length=n) (d:∀r∈ps,r.length=sz):cK P N o E H (.pv (.sl ps)) H :=
 let ⟨g,k,i,_,l⟩:=hS;PH h g k l (aCs m) i f j c b d
theorem fW{e:Nat}{a}{aps}{rows}(i:o.op=.buildSlice T n a)(hS:fC P T e sz)(g:Nat.ble (n*sz) 16777216=true)(f:pE E a.toList=some aps)(k:ME 0 aps=some rows)
  (b:rows.length=n) (c:∀r∈rows,r.length=sz) (d:H.get id=none):cK P N o E H (.osl id 0 0 n) ((id,⟨0,sz,e,rows⟩)::H) :=
 let ⟨h,l,j,_,m⟩:=hS;GI i h l m (aCs g) j f k b c d
theorem kZ{v}{cells r}{id g n}{ob}(d:o.op=.store T x y)(h:∀w,(sizeOf T).run P w=.ok n w)(e:aO E x=some (.ref id g 0 0))(f:aO E y=some v)(i:N0 v=some cells)
  (c:cells.length=n) (b:H.get id=some ob) (a:ob.g=g) (hi:ob.rows=[r]) (hk:r.length=n):cK P N o E H .any ((id,⟨g,ob.sz,ob.ty,[cells]⟩)::H):=by
 subst a;refine cK.congr (J9 (r':=cells) d e f i h c b rfl (by rw[hi];rfl) (by omega) ?_ rfl) (fun j=>?_)
 ·simp_all
 rw[wU]
 grind
theorem cV{v}{r r'}{id g i k}{ob}{rows'}(e:o.op=.store T x y)(l:∀w,(sizeOf T).run P w=.ok 1 w)(f:aO E x=some (.ref id g i k))(h:aO E y=some v)(m:N0 v=some [v])
  (n:H.get id=some ob) (c:ob.g=g) (hi:ob.rows[i]?=some r) (d:k<r.length) (b:r.set k v=r') (a:ob.rows.set i r'=rows'):cK P N o E H .any ((id,⟨g,ob.sz,ob.ty,rows'⟩)::H):=by
 subst c a;refine cK.congr (J9 e f h m l rfl n rfl hi (by omega) ?_ rfl) (fun j=>wU _ _ _ j);rw[<-b,List.set_eq_take_append_cons_drop,aCe d];rfl
theorem mT{v}{cells r r'}{id g i k n}{ob}{rows'}(f:o.op=.store T x y)(m:∀w,(sizeOf T).run P w=.ok n w)(l:aO E x=some (.ref id g i k))(h:aO E y=some v)(p:N0 v=some cells)
  (q:cells.length=n) (d:H.get id=some ob) (c:ob.g=g) (hi:ob.rows[i]?=some r) (e:k+n<=r.length) (b:r.take k++(cells++r.drop (k+n))=r') (a:ob.rows.set i r'=rows'):cK P N o E H .any ((id,⟨g,ob.sz,ob.ty,rows'⟩)::H):=by
 subst c a;exact cK.congr (J9 f l h p m q d rfl hi e b rfl) (fun j=>wU _ _ _ j)
theorem YR{n m bytes}(a:0<bytes)(h:(n+m)*bytes<=140737488355328):n+m<=9223372036854775807:=by have:n+m<=(n+m)*bytes:=Nat.le_mul_of_pos_right _ a;omega
theorem cG{e}{ob}{ps}{rows'}(u:o.op=.call {callee:=.builtin .append,args:=#[x,y],argTypes:=#[T,T]})(hS:fC P T e sz)(b:EI P e sz bytes)
  (q:aO E x=some (.osl id g 0 n)) (i:H.get id=some ob) (t:ob.g=g) (d:ob.sz=sz) (h:ob.ty=e) (l:ob.rows.length=n)
  (p:aO E y=some (.pv (.sl ps))) (f:∀r∈ps,r.length=sz) (v:ps.length=m) (a:(n+m)*bytes<=140737488355328) (s:n+m=k) (c:ob.rows++ps.map (·.map AV.pv)=rows') :
  cK P N o E H (.osl id (g+1) 0 k) ((id,⟨g+1,sz,e,rows'⟩)::H):=by
 subst s c;exact cK.congr (R6 u hS.1 b.1 q i t d h l p f v a (YR b.2 a) rfl) (fun j=>wU _ _ _ j)
theorem DB{e}{l c:Nat}{s k2}{f g}{b}(A:o.op=.makeSlice T x y)(hS:fC P T e sz)(a:EI P e sz bytes)(i:eL P e b)(d:b.length=sz)
  (m:aO E x=some (.pv (.int s f))) (k:aO E y=some (.pv (.int k2 g))) (r:0<=f) (t:f<=g) (n:f.toNat=l) (q:g.toNat=c) (w:bytes*c<=281474976710656) (h:H.get id=none) :
  cK P N o E H (.osl id 0 0 l) ((id,⟨0,sz,e,List.replicate l b⟩)::H):=by
 obtain ⟨z,v,j,u,p⟩:=i;have hpos:c<=bytes*c:=Nat.le_mul_of_pos_left _ a.2;exact RY A hS.1 a.1 j u p d m k r t n q w (by omega) h
theorem bP{e}{rows}{r}{h}{n}(c:o.op=.indexAddr T x y)(hS:fC P T e sz)
  (d:aO E x=some (.pv (.sl rows))) (f:aO E y=some (.pv (.int h n))) (g:0<=n) (a:n.toNat=m) (hi:rows[m]?=some r) (b:r.length=sz):cK P N o E H (.pad rows m 0) H :=
 RZ c hS.1 hS.2.1 d f g a hi b
theorem dN{e}{c}{n}{m2:Nat}{ob}(f:o.op=.indexAddr T x y)(hS:fC P T e sz)
  (i:aO E x=some (.osl id g off len)) (d:H.get id=some ob) (k:ob.g=g) (a:ob.sz=sz) (h:aO E y=some (.pv (.int c n))) (j:0<=n) (l:n.toNat=m) (hi:m<len) (b:off+m=m2):cK P N o E H (.ref id g m2 0) H :=
 R0 f hS.1 hS.2.1 i d k a h j l hi b
theorem mU{e}{d hi}{rows rows'}{l:Nat}(k:o.op=.slice T x d hi none)(hS:fC P T e sz)(g:aO E x=some (.pv (.sl rows)))
  (a:∀r∈rows,r.length=sz) (c:bnd E d 0=some (l:Int)) (b:bnd E hi rows.length=some (h:Int)) (j:l<=h) (f:h<=rows.length) (i:(rows.take h).drop l=rows'):cK P N o E H (.pv (.sl rows')) H :=
 WO k hS.1 hS.2.1 g a c b j f i
theorem jU{e}{k hi}{a b l:Nat}{ob}(m:o.op=.slice T x k hi none)(hS:fC P T e sz)(n:aO E x=some (.osl id g off len))
  (s:H.get id=some ob) (q:ob.g=g) (f:ob.sz=sz) (j:bnd E k 0=some (l:Int)) (d:bnd E hi len=some (h:Int)) (p:l<=h) (r:h<=len) (c:off+l=a) (i:h - l=b):cK P N o E H (.osl id g a b) H :=
 FV m hS.1 hS.2.1 n s q f j d p r c i
end
section
variable{o:Oper}
theorem Gr{j}{a b}{t d}{v}{H2}(l:o.guard=some (j,a))(e:jG ops.toList j=some t)(c:E.get t=some (.pv (.bool b)))(m:b=a)(hd:o.dst=some d)(g:Nat.blt d N=true)(h:cK P N o E H v H2)
  (i:AL P G0 N ops K rest ((d,v)::E) H2):AL P G0 N ops K (o::rest) E H :=
 aA8 l e c m (by rw[hd];exact g) h fun r H' ⟨f,k⟩=>by subst f k;rw[hd];exact i
theorem sg{c x y}{b}{v}(a:o.op=.pick c x y)(d:aO E c=some (.pv (.bool b)))(hb:b=true)(hv:aO E x=some v):cK P N o E H v H:=DN a d (by simp_all)
theorem si{c x y}{b}{v}(a:o.op=.pick c x y)(d:aO E c=some (.pv (.bool b)))(hb:b=false)(hv:aO E y=some v):cK P N o E H v H:=DN a d (by simp_all)
end
section
theorem cQ.sub{E'}(h:∀k v,E'.get k=some v->E.get k=some v):cQ G0 E H E' H:=by intro G hG N a w c;obtain ⟨I,g,e,b,d⟩:=c.rel;exact⟨c.defers,c.size,I,g,e,b,fun t v f=>d t v (h t v f)⟩
theorem Gp{l}{b}(hb:E.get t=some (.pv (.bool b)))(i:b=true->AL P G0 N ops K l ((t,.pv (.bool true))::E) H)(m:b=false->AL P G0 N ops K l ((t,.pv (.bool false))::E) H):AL P G0 N ops K l E H:=by
 have d:∀c,b=c->AL P G0 N ops K l ((t,.pv (.bool c))::E) H->AL P G0 N ops K l E H:=by
  rintro c rfl h G g a w j;refine h G g a w (cQ.sub (fun k v f=>?_) G g N a w j);by_cases e:t=k
  ·subst e;rw[dC.get_cons_same]at f
   grind
  rwa [dC.get_cons_other _ _ e]at f
 cases b
 ·exact d _ rfl (m rfl)
 exact d _ rfl (i rfl)
def aAU(t:Nat)(D E:dC):Bool:=D.all fun p=>Nat.beq p.1 t||E.all fun q=>!(Nat.beq p.1 q.1)
def cq(n t:Nat)(X:Bool)(E:dC)(H:aG)(E1:dC)(H1:aG):Prop:=(∃b,E1.get t=some (.pv (.bool b))/\b=X)/\H1=H/\E1.drop n=E/\aAU t (E1.take n) E=true
theorem Mz(D E)(k):dC.get (D++E) k=match D.get k with|some v=>some v|none=>E.get k:=by
 induction D with
 |nil=>rfl
 |cons x r a =>
  obtain ⟨i,v⟩:=x;cases e:Nat.beq i k with
  |true=>simp[dC.get,e]
  |false=>simpa[dC.get,e]using a
theorem cq.ent{n t}{X}{d}{H1}(h:cq n t X E H d H1):cQ G0 d H1 ((t,.pv (.bool X))::E) H:=by
 obtain ⟨⟨b,h1,rfl⟩,rfl,i,j⟩:=h;refine cQ.sub fun k v c=>?_;by_cases e:t=k
 ·subst e;rw[dC.get_cons_same]at c
  grind
 rw[dC.get_cons_other _ _ e]at c;have a:d.take n++E=d:=by rw[<-i];exact List.take_append_drop n _
 rw[<-a,Mz];cases m:dC.get _ k with
 |none=>exact c
 |some u =>
  have l:=iA m;have g:=iA c;have f:=List.all_eq_true.1 j _ l;simp only[kV (Ne.symm e),Bool.false_or]at f;have:=List.all_eq_true.1 f _ g;simp[pQ]at this
theorem kH{id n t}{d}{X}{Q}(h:gC P G0 N (.region id ops d) (fun e c H1=>e=.normal/\cq n t X E H c H1) E H)(g:Q .normal ((t,.pv (.bool X))::E) H):gC P G0 N (.region id ops d) Q E H:=by intro G f a w k ro j;refine wpIn_mono (h G f a w k _ j) ?_;rintro e a' w' ⟨c,H1,⟨rfl,i⟩,b⟩;exact⟨_,_,g,(i.ent) G f N _ _ b⟩
theorem aQ{id n t}{X}{Q}(h:AL P G0 N ops (fun c H1=>cq n t X E H c H1) ops.toList E H)(e:Q .normal ((t,.pv (.bool X))::E) H):gC P G0 N (.region id ops false) Q E H :=kH (CM (fun G i a w j ro g Q' f=>h G i a w j _ g _ (fun c H1 a1 w1 d b=>f _ _ _ _ ⟨rfl,d⟩ b))) e
end
section
variable{ops:List Oper}{o:Oper}{r:Rec}
theorem Sf(e:o.guard=some (j,true))(d:jG ops j=some t)(a:E.get t=some (.pv (.bool b)))(c:b=true)(h:cK P N o (restr E (iQ ops o)) H v H):DStep P N ops o E H ⟨v,none,[]⟩:=.qon e d a c h
theorem Sg(e:o.guard=some (j,false))(d:jG ops j=some t)(a:E.get t=some (.pv (.bool b)))(c:b=false)(h:cK P N o (restr E (iQ ops o)) H v H):DStep P N ops o E H ⟨v,none,[]⟩:=.qon e d a c h
theorem Kg(e:o.guard=some (j,true))(d:jG ops j=some t)(a:E.get t=some (.pv (.bool b)))(c:b=false):DStep P N ops o E H ⟨.tup [],some [],[]⟩:=.qoff e d a (by simp[Z0,c])
theorem Kh(e:o.guard=some (j,false))(d:jG ops j=some t)(a:E.get t=some (.pv (.bool b)))(c:b=true):DStep P N ops o E H ⟨.tup [],some [],[]⟩:=.qoff e d a (by simp[Z0,c])
theorem Kf{a}(d:o.guard=some (j,a))(e:jG ops j=some t)(c:E.get t=some (.tup [])):DStep P N ops o E H ⟨.tup [],some [],[]⟩:=.qoff d e c rfl
theorem Cu(e:o.guard=some (j,true))(d:jG ops j=some t)(a:E.get t=some (.pv (.bool b)))(c:b=true)(h:∀H1,(∀id,sQ r.R id=true->H1.get id=H.get id)->cK P N o (restr E (iQ ops o)) H1 r.v (r.W++H1)):DStep P N ops o E H r:=.on j _ t b e d a c h
end
theorem aW.pure{P}{f}{args}{b}(h:aW P f args [] (fun r H=>r=b/\H=[]))(c:∀a∈args,Clo [] a)(H):aW P f args H (fun r H'=>r=b/\H'=H) :=(h.frame0 c (fun _ _ g=>g.2) H).mono fun _ _ ⟨⟨e,_⟩,d⟩=>⟨e,d⟩
def G5(P:Program)(id g:Nat)(args:List AV)(H:aG)(Q:AV->aG->Prop):Prop :=∀(I:Nat->Prop) (ι:lR) (w:World) (vs:Array Value) (v:Value),Rel I ι H w->VRel w I ι H v (.yld id g)->vs.size=args.length->(∀(i:Nat) (v:Value) (a:AV),vs[i]?=some v->args[i]?=some a->VRel w I ι H v a) ->
  ∃l f tmps assign body,v=.func (.yield l) #[] #[]/\(Instr.yield l vs).run P w=.ok (.round l f tmps assign body) w /\
   RoundIn Fence.wide 0 P l f tmps assign body w fun e w'=>∃r H' I' ι' v',e=.returned v'/\Q r H'/\VRel w' I' ι' H' v' r/\Rel I' ι' H' w'/\Step I ι H w I' ι' H' w'
def dI(P:Program)(fv:AV)(args:List AV)(H:aG)(Q:AV->aG->Prop):Prop :=(∃id g,fv=.yld id g/\G5 P id g args H Q)\/∃F caps,(fv=.clo F caps\/(fv=.pv (.fn F)/\caps=[]))/\(∀(args:Array Value) (w:World),(callFunc F args).run P w=.ok (.enter F args) w)/\aW P F (args++caps) H Q
theorem dI.clo{P}{F}{a args}{H}{Q}(b:∀(args) (w),(callFunc F args).run P w=.ok (.enter F args) w)(h:aW P F (args++a) H Q):dI P (.clo F a) args H Q:=.inr ⟨F,a,.inl rfl,b,h⟩
theorem dI.fn{P}{F}{args}{H}{Q}(a:∀(args) (w),(callFunc F args).run P w=.ok (.enter F args) w)(h:aW P F args H Q):dI P (.pv (.fn F)) args H Q:=.inr ⟨F,[],.inr ⟨rfl,rfl⟩,a,by simpa using h⟩
theorem WL{P}{o:Oper}{Q}{f}{args}{c}{e}(s:o.op=.call {callee:=.value f,args:=args,argTypes:=c})(t:aO E f=some (.yld id g))
  (j:xS E args.toList=some e) (h:G5 P id g e H Q):dp P N o E H Q:=by
 intro a w I p _ _ u k K Q' hk;have d:=aI k t;obtain ⟨l1,m⟩:=oK k (nE j);obtain ⟨l,fn,tmps,assign,body,r,x,n⟩:=h I p w (args.map a.eval) _ u d (by simp_all) (fun i v b j q=>m i v b (by simp_all) q);unfold Oper.wpW execOp;simp only[s,resolve,r,Deferred.ofValue,Sem.run_bind,Sem.run_pure,Result.andThen_ok,invoke,Array.empty_append,x];refine n.mono ?_
 grind
theorem cW{P}{N}{o}{E}{H}{Q}{f}{args}{i}{l}{j}(b:o.op=.call {callee:=.value f,args:=args,argTypes:=i})(e:aO E f=some j)
  (c:xS E args.toList=some l) (h:dI P j l H Q):dp P N o E H Q:=by
 rcases h with⟨id,g,rfl,h⟩|⟨F,caps,d,k,a⟩
 ·exact WL b e c h
 rcases d with rfl|⟨rfl,rfl⟩
 ·exact WN b e k c a
 exact bL b e k c (by simpa using a)
def Hj(E:dC):dC->Prop
 | []=>True
 |(t,v)::r=>(∃v0,E.get t=some v0/\v0=v)/\Hj E r
theorem cQ.e0{G0}{E E'}{H}(h:Hj E E'):cQ G0 E H E' H:=by
 refine cQ.env ?_
 induction E' with
 |nil=>simp
 |cons x r ih =>
  obtain ⟨⟨v0,h1,rfl⟩,h2⟩:=h
  grind
theorem Fin.refl{G0 H}{r}:Fin G0 H r H r:=fun _ _ I b _ _ a d c=>⟨I,b,a,d,c⟩
def Us:AV->Option Value
 |.pv (.int k n)=>some (.int k n)
 |.pv (.bool b)=>some (.bool b)
 |.pv (.str s)=>some (.string s)
 |_=>none
def IW:List AV->Option (List Value)
 | []=>some []
 |a::r=>match Us a,IW r with
  |some v,some vs=>some (v::vs)
  |_,_=>none
theorem Mr{w}{I}{ι}{H}{c v}{a}(h:VRel w I ι H c a)(b:Us a=some v):c=v:=by
 unfold Us at b
 split at b<;>cases b
 ·exact h.int_inv
 ·exact h.bool_inv
 exact h.str_inv
theorem IU{c:Value}{d:List Value}(h:VRel w I ι H c (.agg l))(p:IW l=some d):c=.agg d.toArray:=by
 cases h with
 | @agg b _ s n f =>
  congr 1;have m:∀(l:List AV) (d b:List Value),b.length=l.length->(∀(i:Nat) (v:Value) (a:AV),b[i]?=some v->l[i]?=some a->VRel w I ι H v a)->IW l=some d->b=d:=by
   intro l
   induction l with
   |nil=>intro d b n _ e;simp[IW]at e;simp_all
   | cons a r x =>
    intro d b n f e;unfold IW at e
    split at e
    ·rename_i v k o t;cases e;cases b with
     |nil=>grind
     |cons u b =>
      have q:u=v:=Mr (f 0 u a rfl rfl) o;rw[q,x k b (by grind) (fun i v a j g=>f (i+1) v a (by simpa using j) (by simpa using g)) t]
    grind
  have:=m l d b.toList (by simpa using s) (fun i v a j g=>f i v a (by simpa using j) g) p;rw[<-this]
section
variable{o:Oper}{T t':TypeId}{x y:Operand}{l1 l2:List AV}{xs ys:List Value}
theorem AK(g:o.op=.binOp .eql T x y t')(i:aO E x=some (.agg l1))(h:aO E y=some (.agg l2))(f:IW l1=some xs)(l:IW l2=some ys)(k:P.eqGuardType P.depth T=false)
  (d:∀w,(Op.equalIn 10000 T (.agg xs.toArray) (.agg ys.toArray)).run P w=.ok b w):cK P N o E H (.pv (.bool b)) H :=
 .of_run fun a w I ι _ c=>⟨.bool b,by
  have e:=IU (aI c i) f;have j:=IU (aI c h) l;simp[execOp,g,e,j,Sem.run_bind,run_eqGuard_agg w _ _ _ _ _ _ k,Result.andThen_ok,run_eql_struct w,d,Sem.run_pure],.pv (.bool _)⟩
theorem AJ(g:o.op=.binOp .neq T x y t')(i:aO E x=some (.agg l1))(h:aO E y=some (.agg l2))(f:IW l1=some xs)(l:IW l2=some ys)(k:P.eqGuardType P.depth T=false)
  (d:∀w,(Op.equalIn 10000 T (.agg xs.toArray) (.agg ys.toArray)).run P w=.ok b w):cK P N o E H (.pv (.bool (!b))) H :=
 .of_run fun a w I ι _ c=>⟨.bool _,by
  have e:=IU (aI c i) f;have j:=IU (aI c h) l;simp[execOp,g,e,j,Sem.run_bind,run_eqGuard_agg w _ _ _ _ _ _ k,Result.andThen_ok,run_neq_struct w,d,Sem.run_pure],.pv (.bool _)⟩
end
theorem lI{n}(h0 : -9223372036854775808<=n)(h1:n<=9223372036854775807):IntKind.i64.wrap n=n:=by rw[IntKind.wrap_i64];omega
theorem wu8{n}(h0:0<=n)(h1:n<=255):IntKind.u8.wrap n=n:=by
 simp[IntKind.wrap,IntKind.bits,IntKind.signed]
 grind
end
abbrev iv(n:Int):AV:=.pv (.int .i64 n)
abbrev bv(b:Bool):AV:=.pv (.bool b)
abbrev sv(s:ByteArray):AV:=.pv (.str s)
abbrev lv(l:List (List PV)):AV:=.pv (.sl l)
abbrev av(l:List PV):AV:=.agg (l.map .pv)
abbrev bx(n T:Nat)(r:List AV):Ob:=⟨0,n,T,[r]⟩
theorem eE.of{H}(h:∀p∈H,∀r∈p.2.rows,∀a∈r,Clo H a):eE H:=fun _ _ b=>h _ (dY b)
theorem Sub.app{D H}(b:∀p∈D,H.get p.1=none):Sub H (D++H):=fun id o a=>by
 rw[NT];cases e:D.get _ with
 |none=>exact a
 |some o'=>exact absurd (b _ (dY e)) (by simp_all)
def DC(P:Program)(N:Nat)(ops rest:List Oper)(E:dC)(H:aG)(K:List Rec->dC->aG->Prop):Prop:=∃rs E' H',DChain P N ops rest E H rs E' H'/\K rs E' H'
theorem bF{P}{N}{ops}{E}{H}{K}(h:K [] E H):DC P N ops [] E H K:=⟨_,_,_,.nil,h⟩
theorem gW{P}{N}{ops rest}{o}{E}{H}{K}{r}(h:DStep P N ops o E H r)(hd:iX N o.dst=true)
  (b:DC P N ops rest (mQ E o.dst r.v) (r.W++H) (fun a E' H'=>K (r::a) E' H')):DC P N ops (o::rest) E H K:=by
 obtain ⟨a,E',H',d,c⟩:=b;exact⟨_,_,_,.cons h hd d,c⟩
theorem aL{P}{G0}{N id}{Q}{ops}{E}{H}(b:P.follows .mixedOrders=true)
  (h:DC P N ops.toList ops.toList E H (fun a E' H'=>PK ops.toList a=true/\Q .normal E' H')):gC P G0 N (.region id ops true) Q E H:=by
 obtain ⟨a,E',H',e,c,d⟩:=h;exact Gd b e c d
section
section
variable{o:Oper}{H H2:aG}{T e t t':TypeId}{x y:Operand}
theorem Dd(h:cK P N ⟨some d,op,ty,pos,af,none⟩ E H v H2)(hk:AL P G0 N ops K rest ((d,v)::E) H2)(hn:Nat.blt d N=true:=by rfl):AL P G0 N ops K (⟨some d,op,ty,pos,af,none⟩::rest) E H:=jt rfl rfl hn h hk
theorem Uu(h:cK P N ⟨none,op,ty,pos,af,none⟩ E H v H2)(hk:AL P G0 N ops K rest E H2):AL P G0 N ops K (⟨none,op,ty,pos,af,none⟩::rest) E H:=aBe rfl rfl h hk
theorem Sq{x y:Code}(h:gC P G0 N x (xV (gC P G0 N y Q) Q) E H):gC P G0 N (.seq x y) Q E H:=JB h
theorem Rg(h:AL P G0 N ops (fun E H=>Q .normal E H) ops.toList E H):gC P G0 N (.region id ops false) Q E H:=CM h
theorem Zz(h:K E H):AL P G0 N ops K [] E H:=js h
theorem aC(ho:o.op=.move x:=by rfl)(hx:aO E x=some v:=by rfl):cK P N o E H v H:=gH ho hx
theorem aH(ho:o.op=.assign x:=by rfl)(hx:aO E x=some v:=by rfl):cK P N o E H v H:=wY ho hx
theorem Sr{y:Code}(h:AL P G0 N ops (fun E H=>xV (gC P G0 N y Q) Q .normal E H) ops.toList E H):gC P G0 N (.seq (.region id ops false) y) Q E H:=Sq (Rg h)
theorem Dm(hk:AL P G0 N ops K rest ((d,v)::E) H)(ho:op=.move x:=by rfl)(hx:aO E x=some v:=by rfl)(hn:Nat.blt d N=true:=by rfl):AL P G0 N ops K (⟨some d,op,ty,pos,af,none⟩::rest) E H:=Dd (gH ho hx) hk hn
theorem Da(hk:K ((d,v)::E) H)(ho:op=.assign x:=by rfl)(hx:aO E x=some v:=by rfl)(hn:Nat.blt d N=true:=by rfl):AL P G0 N ops K [⟨some d,op,ty,pos,af,none⟩] E H:=Dd (wY ho hx) (Zz hk) hn
theorem Kr{a b:Prop}(h:b)(h1:a:=by kernel_rfl):a/\b:=⟨h1,h⟩
theorem Qq{a:α}{b:β}:a=a/\b=b:=⟨rfl,rfl⟩
theorem Pu{r0:AV}(h:aW P f args [] (fun r H=>r=r0/\H=[]))(hp:∀a∈args,Clo [] a:=by simp):aW P f args H (fun r H'=>r=r0/\H'=H):=aW.pure h hp H
theorem eG(ho:o.op=.extract x n:=by rfl)(hx:aO E x=some (.tup vs):=by rfl)(hv:vs[n]?=some v:=by rfl):cK P N o E H v H:=uG ho hx hv
theorem aV{off:TypeId}{f:Nat}(hF:cS P S f off)(ho:o.op=.fieldAddr S x f:=by rfl)(hx:aO E x=some (.ref id g i k):=by rfl)(hH:H.get id=some ob:=by rfl)(hg:ob.g=g:=by rfl)(hk:k+off=k2:=by rfl):cK P N o E H (.ref id g i k2) H:=nM ho hF hx hH hg hk
theorem bD(ha:∀w,(isAgg T).run P w=.ok false w)(ho:o.op=.load T x:=by rfl)(hx:aO E x=some (.ref id g i k):=by rfl)(hH:H.get id=some ob:=by rfl)(hg:ob.g=g:=by rfl)(hi:ob.rows[i]?=some r:=by rfl)(hk:r[k]?=some v:=by rfl):cK P N o E H v H:=bA ho ha hx hH hg hi hk
theorem kY(ha:∀w,(isAgg T).run P w=.ok true w)(hs:∀w,(sizeOf T).run P w=.ok n w)(ho:o.op=.load T x:=by rfl)(hx:aO E x=some (.ref id g i k):=by rfl)(hH:H.get id=some ob:=by rfl)(hg:ob.g=g:=by rfl)(hi:ob.rows[i]?=some r:=by rfl)(hk:(r.drop k).take n=cs:=by rfl)(hl:cs.length=n:=by rfl):cK P N o E H (.agg cs) H:=aM ho ha hs hx hH hg hi hk hl
theorem iP(hs:∀w,(sizeOf T).run P w=.ok n w)(ho:o.op=.store T x y:=by rfl)(hx:aO E x=some (.ref id g 0 0):=by rfl)(hy:aO E y=some v:=by rfl)(hc:N0 v=some cells:=by rfl)(hn:cells.length=n:=by rfl)(hH:H.get id=some ob:=by rfl)(hg:ob.g=g:=by rfl)(hi:ob.rows=[r]:=by rfl)(hk:r.length=n:=by rfl):cK P N o E H .any ((id,⟨g,ob.sz,ob.ty,[cells]⟩)::H):=kZ ho hs hx hy hc hn hH hg hi hk
theorem eR(ht:P.underlying T=some (.slice e))(ho:o.op=.call {callee:=.builtin .len,args:=#[x],argTypes:=#[T]}:=by rfl)(hx:aO E x=some (.pv (.sl rows)):=by rfl):cK P N o E H (.pv (.int .i64 rows.length)) H:=mY ho ht hx
theorem jE{r:List PV}{kk:IntKind}{n:Int}(hS:fC P T e sz)(ho:o.op=.indexAddr T x y:=by rfl)(hx:aO E x=some (.pv (.sl rows)):=by rfl)(hy:aO E y=some (.pv (.int kk n)):=by rfl)(h0:0<=n:=by omega)(hm:n.toNat=m:=by exact aCq _)(hi:rows[m]?=some r:=by assumption)(hl:r.length=sz:=by rfl):cK P N o E H (.pad rows m 0) H:=bP ho hS hx hy h0 hm hi hl
theorem nP{parts:Array (Nat×Operand)}{places:List (Nat×Nat)}(hB:lX P T places l0)(ho:o.op=.build T parts:=by rfl)(hp:pE E parts.toList=some aps:=by rfl)(hf:CQ (fun i=>places[i]?) l0 aps=some l:=by rfl):cK P N o E H (.agg l) H:=MZ ho hB hp hf
theorem cJ{k:IntKind}{n m:Int}(ho:o.op=.binOp .lss t x y t':=by rfl)(hx:aO E x=some (.pv (.int k n)):=by rfl)(hy:aO E y=some (.pv (.int k m)):=by rfl):cK P N o E H (.pv (.bool (decide (n<m)))) H:=iZ ho hx hy
theorem cF{k:IntKind}{n m:Int}(ho:o.op=.binOp .eql t x y t':=by rfl)(hx:aO E x=some (.pv (.int k n)):=by rfl)(hy:aO E y=some (.pv (.int k m)):=by rfl):cK P N o E H (.pv (.bool (decide (n=m)))) H:=gS ho hx hy
theorem Cq{ops:List Oper}{K:List Rec->dC->aG->Prop}(h:cK P N ⟨dst,op,ty,pos,af,none⟩ (restr E (iQ ops ⟨dst,op,ty,pos,af,none⟩)) H v H)(hk:DC P N ops rest (mQ E dst v) H (fun rs E' H'=>K (⟨v,none,[]⟩::rs) E' H'))(hd:iX N dst=true:=by rfl):DC P N ops (⟨dst,op,ty,pos,af,none⟩::rest) E H K:=gW (DStep.q rfl h) hd hk
theorem Cp{ops:List Oper}{K:List Rec->dC->aG->Prop}(R:List Nat){w:Nat×Ob}(h:∀H1:aG,(∀id,sQ (some R) id=true->H1.get id=H.get id)->cK P N ⟨dst,op,ty,pos,af,none⟩ (restr E (iQ ops ⟨dst,op,ty,pos,af,none⟩)) H1 v (w::H1))(hk:DC P N ops rest (mQ E dst v) (w::H) (fun rs E' H'=>K (⟨v,some R,[w]⟩::rs) E' H'))(hd:iX N dst=true:=by rfl):DC P N ops (⟨dst,op,ty,pos,af,none⟩::rest) E H K:=gW (r:=⟨v,some R,[w]⟩) (DStep.plain rfl h) hd hk
theorem Cr{ops:List Oper}{K:List Rec->dC->aG->Prop}(R:List Nat)(h:∀H1:aG,(∀id,sQ (some R) id=true->H1.get id=H.get id)->cK P N ⟨dst,op,ty,pos,af,none⟩ (restr E (iQ ops ⟨dst,op,ty,pos,af,none⟩)) H1 v H1)(hk:DC P N ops rest (mQ E dst v) H (fun rs E' H'=>K (⟨v,some R,[]⟩::rs) E' H'))(hd:iX N dst=true:=by rfl):DC P N ops (⟨dst,op,ty,pos,af,none⟩::rest) E H K:=gW (r:=⟨v,some R,[]⟩) (DStep.plain rfl h) hd hk
theorem Cs{ops:List Oper}{K:List Rec->dC->aG->Prop}(h:∀H1:aG,(∀id,sQ none id=true->H1.get id=H.get id)->cK P N ⟨dst,op,ty,pos,af,none⟩ (restr E (iQ ops ⟨dst,op,ty,pos,af,none⟩)) H1 v H1)(hk:DC P N ops rest (mQ E dst v) H (fun rs E' H'=>K (⟨v,none,[]⟩::rs) E' H'))(hd:iX N dst=true:=by rfl):DC P N ops (⟨dst,op,ty,pos,af,none⟩::rest) E H K:=gW (r:=⟨v,none,[]⟩) (DStep.plain rfl h) hd hk
theorem Ot{ops:List Oper}{K:List Rec->dC->aG->Prop}{t:Tmp}(hk:DC P N ops rest (mQ E dst (.tup [])) H (fun rs E' H'=>K (⟨.tup [],some [],[]⟩::rs) E' H'))(hj:jG ops j=some t:=by rfl)(hb:E.get t=some (.pv (.bool b)):=by rfl)(hw:b=false:=by first|rfl|assumption)(hd:iX N dst=true:=by rfl):DC P N ops (⟨dst,op,ty,pos,af,some (j,true)⟩::rest) E H K:=gW (Kg rfl hj hb hw) hd hk
theorem Of{ops:List Oper}{K:List Rec->dC->aG->Prop}{t:Tmp}(hk:DC P N ops rest (mQ E dst (.tup [])) H (fun rs E' H'=>K (⟨.tup [],some [],[]⟩::rs) E' H'))(hj:jG ops j=some t:=by rfl)(hb:E.get t=some (.pv (.bool b)):=by rfl)(hw:b=true:=by first|rfl|assumption)(hd:iX N dst=true:=by rfl):DC P N ops (⟨dst,op,ty,pos,af,some (j,false)⟩::rest) E H K:=gW (Kh rfl hj hb hw) hd hk
theorem Ou{ops:List Oper}{K:List Rec->dC->aG->Prop}{t:Tmp}{w:Bool}(hk:DC P N ops rest (mQ E dst (.tup [])) H (fun rs E' H'=>K (⟨.tup [],some [],[]⟩::rs) E' H'))(hj:jG ops j=some t:=by rfl)(hb:E.get t=some (.tup []):=by rfl)(hd:iX N dst=true:=by rfl):DC P N ops (⟨dst,op,ty,pos,af,some (j,w)⟩::rest) E H K:=gW (Kf rfl hj hb) hd hk
theorem On{t:Tmp}(h:cK P N ⟨some d,op,ty,pos,af,some (j,want)⟩ E H v H2)(hk:AL P G0 N ops K rest ((d,v)::E) H2)(hj:jG ops.toList j=some t:=by rfl)(hb:E.get t=some (.pv (.bool b)):=by rfl)(hw:b=want:=by rfl)(hn:Nat.blt d N=true:=by rfl):AL P G0 N ops K (⟨some d,op,ty,pos,af,some (j,want)⟩::rest) E H:=Gr rfl hj hb hw rfl hn h hk
theorem Fo{t:Tmp}(hk:AL P G0 N ops K rest (mQ E dst (.tup [])) H)(hj:jG ops.toList j=some t:=by rfl)(hb:E.get t=some (.pv (.bool b)):=by rfl)(hw:b=!want:=by rfl)(hd:iX N dst=true:=by rfl):AL P G0 N ops K (⟨dst,op,ty,pos,af,some (j,want)⟩::rest) E H:=Gs rfl hj hb hw hd hk
theorem Oa{t:Tmp}(h:cK P N ⟨some d,op,ty,pos,af,some (j,want)⟩ E H v H2)(hk:AL P G0 N ops K rest ((d,v)::E) H2)(hj:jG ops.toList j=some t:=by rfl)(hb:E.get t=some (.pv (.bool b)):=by rfl)(hw:b=want:=by assumption)(hn:Nat.blt d N=true:=by rfl):AL P G0 N ops K (⟨some d,op,ty,pos,af,some (j,want)⟩::rest) E H:=Gr rfl hj hb hw rfl hn h hk
theorem Fa{t:Tmp}(hk:AL P G0 N ops K rest (mQ E dst (.tup [])) H)(hj:jG ops.toList j=some t:=by rfl)(hb:E.get t=some (.pv (.bool b)):=by rfl)(hw:b=!want:=by assumption)(hd:iX N dst=true:=by rfl):AL P G0 N ops K (⟨dst,op,ty,pos,af,some (j,want)⟩::rest) E H:=Gs rfl hj hb hw hd hk
section
variable{R:Option (List Nat)}{H1:aG}
theorem fh{off:TypeId}{f:Nat}(hF:cS P S f off)(h:∀id,sQ R id=true->H1.get id=H.get id)(ho:o.op=.fieldAddr S x f:=by rfl)(hx:aO E x=some (.ref id g i k):=by rfl)(hm:sQ R id=true:=by rfl)(hH:H.get id=some ob:=by rfl)(hg:ob.g=g:=by rfl)(hk:k+off=k2:=by rfl):cK P N o E H1 (.ref id g i k2) H1:=nM ho hF hx ((h _ hm).trans hH) hg hk
theorem lh(ha:∀w,(isAgg T).run P w=.ok false w)(h:∀id,sQ R id=true->H1.get id=H.get id)(ho:o.op=.load T x:=by rfl)(hx:aO E x=some (.ref id g i k):=by rfl)(hm:sQ R id=true:=by rfl)(hH:H.get id=some ob:=by rfl)(hg:ob.g=g:=by rfl)(hi:ob.rows[i]?=some r:=by rfl)(hk:r[k]?=some v:=by rfl):cK P N o E H1 v H1:=bA ho ha hx ((h _ hm).trans hH) hg hi hk
end
section
variable{k:IntKind}{n m:Int}{s u:ByteArray}{r:List PV}{i j q f F:Nat}
theorem iJ(ho:o.op=.unOp .not t x:=by rfl)(hx:aO E x=some (.pv (.bool b)):=by rfl):cK P N o E H (.pv (.bool (!b))) H:=Lb ho hx
theorem rI(ho:o.op=.binOp .neq t x y t':=by rfl)(hx:aO E x=some (.pv (.int k n)):=by rfl)(hy:aO E y=some (.pv (.int k m)):=by rfl):cK P N o E H (.pv (.bool (!decide (n=m)))) H:=vQ ho hx hy
theorem gX(ho:o.op=.binOp .gtr t x y t':=by rfl)(hx:aO E x=some (.pv (.int k n)):=by rfl)(hy:aO E y=some (.pv (.int k m)):=by rfl):cK P N o E H (.pv (.bool (decide (m<n)))) H:=ID ho hx hy
theorem GP(ho:o.op=.binOp .leq t x y t':=by rfl)(hx:aO E x=some (.pv (.int k n)):=by rfl)(hy:aO E y=some (.pv (.int k m)):=by rfl):cK P N o E H (.pv (.bool (decide (n<=m)))) H:=oS ho hx hy
theorem CX(ho:o.op=.binOp .geq t x y t':=by rfl)(hx:aO E x=some (.pv (.int k n)):=by rfl)(hy:aO E y=some (.pv (.int k m)):=by rfl):cK P N o E H (.pv (.bool (decide (m<=n)))) H:=jF ho hx hy
theorem vF(ho:o.op=.binOp .eql t x y t':=by rfl)(hx:aO E x=some (.pv (.str s)):=by rfl)(hy:aO E y=some (.pv (.str u)):=by rfl):cK P N o E H (.pv (.bool (decide (s=u)))) H:=AI ho hx hy
theorem DH(ho:o.op=.binOp .neq t x y t':=by rfl)(hx:aO E x=some (.pv (.str s)):=by rfl)(hy:aO E y=some (.pv (.str u)):=by rfl):cK P N o E H (.pv (.bool (!decide (s=u)))) H:=Bg ho hx hy
theorem iF(ho:o.op=.binOp .add t x y t':=by rfl)(hx:aO E x=some (.pv (.int .i64 n)):=by rfl)(hy:aO E y=some (.pv (.int .i64 m)):=by rfl){r:Int}(hr:IntKind.i64.wrap (n+m)=r:=by exact lI (by omega) (by omega)):cK P N o E H (.pv (.int .i64 r)) H:=eA ho hx hy hr
theorem C2{off:TypeId}{q2:Nat}(hF:cS P S f off)(ho:o.op=.fieldAddr S x f:=by rfl)(hx:aO E x=some (.pad rows i q):=by rfl)(hk:q+off=q2:=by rfl):cK P N o E H (.pad rows i q2) H:=R2 ho hF hx hk
theorem fO{p:PV}(ha:∀w,(isAgg T).run P w=.ok false w)(ho:o.op=.load T x:=by rfl)(hx:aO E x=some (.pad rows i q):=by rfl)(hi:rows[i]?=some r:=by first|assumption|omega)(hk:r[q]?=some p:=by rfl):cK P N o E H (.pv p) H:=pI ho ha hx hi hk
theorem xX(ho:o.op=.pick c x y:=by rfl)(hc:aO E c=some (.pv (.bool b)):=by rfl)(hb:b=true:=by assumption)(hv:aO E x=some v:=by rfl):cK P N o E H v H:=sg ho hc hb hv
theorem nT(ho:o.op=.pick c x y:=by rfl)(hc:aO E c=some (.pv (.bool b)):=by rfl)(hb:b=false:=by assumption)(hv:aO E y=some v:=by rfl):cK P N o E H v H:=si ho hc hb hv
theorem cD(ho:o.op=.pick c x y:=by rfl)(hc:aO E c=some (.pv (.bool b)):=by rfl)(hv:aO E (if b then x else y)=some v:=by rfl):cK P N o E H v H:=DN ho hc hv
theorem gF(ht:P.underlying T=some .string)(ho:o.op=.call {callee:=.builtin .len,args:=#[x],argTypes:=#[T]}:=by rfl)(hx:aO E x=some (.pv (.str s)):=by rfl):cK P N o E H (.pv (.int .i64 s.size)) H:=LQ ho ht hx
theorem vS{q:Nat}(ho:o.op=.nilCheck x:=by rfl)(hx:aO E x=some (.ref id g i q):=by rfl)(hH:H.get id=some ob:=by rfl)(hg:ob.g=g:=by rfl):cK P N o E H (.ref id g i q) H:=fY ho hx hH hg
end
section
variable{fn:Func}{Q:AV->aG->Prop}{q:Exit}{r r1 r2:AV}{t1 t2:Tmp}
theorem Rt(hq:Q r [])(hf:fn.results=#[.tmp t1]:=by rfl)(ht:E.get t1=some r:=by rfl)(hc:Clo [] r:=by simp):LG P fn [] Q .ret E H:=dA (.inr rfl) hf (aJ ht) (Fin.wk hc trivial trivial) hq
theorem Ru(hq:Q (.tup [r1,r2]) [])(hf:fn.results=#[.tmp t1,.tmp t2]:=by rfl)(ht:E.get t1=some r1:=by rfl)(hu:E.get t2=some r2:=by rfl)(hc:Clo [] (.tup [r1,r2]):=by simp):LG P fn [] Q .ret E H:=iN (.inr rfl) hf (aJ ht) (aJ hu) (Fin.wk hc trivial trivial) hq
theorem BT(ha:∀w,(isAgg T).run P w=.ok true w)(hs:∀w,(sizeOf T).run P w=.ok n w)(hx:E.get t1=some (.ref id g i k):=by rfl)(hH:H.get id=some ob:=by rfl)(hg:ob.g=g:=by rfl)(hi:ob.rows[i]?=some cells:=by rfl)(hk:(cells.drop k).take n=cs:=by rfl)(hl:cs.length=n:=by rfl):MV P E H (.cell t1 T) (.agg cs):=eU hx ha hs hH hg hi hk hl
theorem Bd{c:Code}(hf:P.funcs[f]?=some fn)(hb:fn.body=some c)(hN:fn.ntmps=N)(h:gC P H N c (LG P fn H Q) (nK args) H)(hlen:args.length<=N:=by exact aCs rfl):aW P f args H Q:=aW.body hf hb hN hlen h
end
section
theorem Cn{x y:Code}(h1:b=true->gC P G0 N x Q E H)(h2:b=false->gC P G0 N y Q E H)(hc:aO E c=some (.pv (.bool b)):=by rfl):gC P G0 N (.cond c x y) Q E H:=Ge hc h1 h2
theorem Sp(t:Tmp){l:List Oper}(h1:b=true->AL P G0 N ops K l ((t,.pv (.bool true))::E) H)(h2:b=false->AL P G0 N ops K l ((t,.pv (.bool false))::E) H)(hb:E.get t=some (.pv (.bool b)):=by rfl):AL P G0 N ops K l E H:=Gp hb h1 h2
theorem Wk(hE:we E H' E':=by repeat' first|exact trivial|refine⟨⟨_,rfl,rfl⟩,?_,?_⟩|(simp;done)|(simp;rfl))(hH:X7 H H' H':=by repeat' first|exact trivial|refine⟨⟨_,rfl,rfl⟩,?_,?_⟩|(simp;done)|(simp;rfl))(hk:wc H' H G0:=by repeat' first|exact trivial|refine⟨rfl,?_⟩):cQ G0 E H E' H':=cQ.wk hE hH hk
theorem E0(h:Hj E E':=by repeat' first|exact trivial|refine⟨⟨_,rfl,rfl⟩,?_⟩):cQ G0 E H E' H:=cQ.e0 h
theorem Fu{t:Tmp}(hk:AL P G0 N ops K rest (mQ E dst (.tup [])) H)(hj:jG ops.toList j=some t:=by rfl)(hb:E.get t=some (.tup []):=by rfl)(hd:iX N dst=true:=by rfl):AL P G0 N ops K (⟨dst,op,ty,pos,af,some (j,want)⟩::rest) E H:=Oq rfl hj hb hd hk
end
section
variable{ops rest:List Oper}{K:List Rec->dC->aG->Prop}
theorem Nt(h:cK P N ⟨dst,op,ty,pos,af,some (j,true)⟩ (restr E (iQ ops ⟨dst,op,ty,pos,af,some (j,true)⟩)) H v H)(hk:DC P N ops rest (mQ E dst v) H (fun rs E' H'=>K (⟨v,none,[]⟩::rs) E' H'))(hj:jG ops j=some t:=by rfl)(hb:E.get t=some (.pv (.bool b)):=by rfl)(hw:b=true:=by first|rfl|assumption)(hd:iX N dst=true:=by rfl):DC P N ops (⟨dst,op,ty,pos,af,some (j,true)⟩::rest) E H K:=gW (Sf rfl hj hb hw h) hd hk
theorem Nf(h:cK P N ⟨dst,op,ty,pos,af,some (j,false)⟩ (restr E (iQ ops ⟨dst,op,ty,pos,af,some (j,false)⟩)) H v H)(hk:DC P N ops rest (mQ E dst v) H (fun rs E' H'=>K (⟨v,none,[]⟩::rs) E' H'))(hj:jG ops j=some t:=by rfl)(hb:E.get t=some (.pv (.bool b)):=by rfl)(hw:b=false:=by first|rfl|assumption)(hd:iX N dst=true:=by rfl):DC P N ops (⟨dst,op,ty,pos,af,some (j,false)⟩::rest) E H K:=gW (Sg rfl hj hb hw h) hd hk
end
theorem Zl:(∀ {α:Type} (a:α) (l:List α) (i:Nat),(a::l).drop (i+1)=l.drop i)/\(∀ {α:Type} (l:List α),l.drop 0=l)/\(∀ {α:Type} (a:α) (l:List α) (i:Nat),(a::l).take (i+1)=a::l.take i)/\(∀ {α:Type} (l:List α),l.take 0=[])/\(∀ {α:Type} (i:Nat),([]:List α).take i=[]) /\
  (∀ {α β:Type} (f:α->β) (a:α) (l:List α),(a::l).map f=f a::l.map f)/\(∀ {α β:Type} (f:α->β),[].map f=[])/\(∀ {α:Type} (a b:α) (l:List α),(a::l).set 0 b=b::l)/\(∀ {α:Type} (a b:α) (l:List α) (i:Nat),(a::l).set (i+1) b=a::l.set i b) /\
  (∀ {α:Type} (a:α) (l l2:List α),(a::l)++l2=a::(l++l2))/\(∀ {α:Type} (l:List α),[]++l=l) :=
 ⟨fun _ _ _=>rfl,fun _=>rfl,fun _ _ _=>rfl,fun l=>by simp,fun _=>by simp,fun _ _ _=>rfl,fun _=>rfl,fun _ _ _=>rfl,fun _ _ _ _=>rfl,fun _ _ _=>rfl,fun _=>rfl⟩
theorem Zo:(∀b:Bool,(false&&b)=false)/\(∀b:Bool,(true&&b)=b)/\(∀b:Bool,(b&&false)=false)/\(∀b:Bool,(b&&true)=b)/\(∀b:Bool,(true||b)=true)/\(∀b:Bool,(false||b)=b)/\(∀b:Bool,(b||true)=true)/\(∀b:Bool,(b||false)=b)/\(!true)=false/\(!false)=true:=by simp
end
theorem Ea{t:Nat}(r:we E H' L)(h1:∃v0,E.get t=some v0/\v0=v:=by exact⟨_,rfl,rfl⟩)(h2:Clo H' v:=by simp;rfl):we E H' ((t,v)::L):=⟨h1,h2,r⟩
theorem Eb{t:Nat}(r:we E H' L)(h1:∃v0,E.get t=some v0/\v0=v:=by exact⟨_,rfl,rfl⟩)(h2:Clo H' v:=by simp):we E H' ((t,v)::L):=⟨h1,h2,r⟩
theorem Ec{t:Nat}(h2:Clo H' v)(r:we E H' L)(h1:∃v0,E.get t=some v0/\v0=v:=by exact⟨_,rfl,rfl⟩):we E H' ((t,v)::L):=⟨h1,h2,r⟩
theorem Ha{t:Nat}{L:aG}(r:X7 H H' L)(h1:∃v0,H.get t=some v0/\v0=o:=by exact⟨_,rfl,rfl⟩)(h2:∀r∈o.rows,∀a∈r,Clo H' a:=by simp;rfl):X7 H H' ((t,o)::L):=⟨h1,h2,r⟩
theorem Hb{t:Nat}{L:aG}(r:X7 H H' L)(h1:∃v0,H.get t=some v0/\v0=o:=by exact⟨_,rfl,rfl⟩)(h2:∀r∈o.rows,∀a∈r,Clo H' a:=by simp):X7 H H' ((t,o)::L):=⟨h1,h2,r⟩
theorem Hc{t:Nat}{L:aG}(h2:∀r∈o.rows,∀a∈r,Clo H' a)(r:X7 H H' L)(h1:∃v0,H.get t=some v0/\v0=o:=by exact⟨_,rfl,rfl⟩):X7 H H' ((t,o)::L):=⟨h1,h2,r⟩
section
variable{o:Oper}{T t t' e:TypeId}{x y:Operand}{r r' cells:List AV}{rows':List (List AV)}{kk:IntKind}
theorem kc{F:FuncId}{f:Operand}{args:Array Operand}{at_:Array TypeId}{Q:AV->aG->Prop}(hc:∀(args:Array Value) (w:World),(callFunc F args).run P w=.ok (.enter F args) w)(h:aW P F vs H Q)(ho:o.op=.call {callee:=.value f,args:=args,argTypes:=at_}:=by rfl)(hf:aO E f=some (.pv (.fn F)):=by rfl)(hv:xS E args.toList=some vs:=by rfl):dp P N o E H Q:=bL ho hf hc hv h
theorem kl(id:Nat)(hZ:eL P T cells)(ho:o.op=.alloc T:=by rfl)(hn:cells.length=n+1:=by rfl)(hid:H.get id=none:=by rfl):cK P N o E H (.ref id 0 0 0) ((id,⟨0,n+1,T,[cells]⟩)::H):=BB ho hZ hn hid
theorem kb(id:Nat)(ho:o.op=.box T x:=by rfl)(hx:aO E x=some v:=by rfl)(hc:N0 v=some cells:=by rfl)(hn:cells.length=n+1:=by rfl)(hid:H.get id=none:=by rfl):cK P N o E H (.ref id 0 0 0) ((id,⟨0,n+1,T,[cells]⟩)::H):=rW ho hx hc hn hid
theorem ka{n m:Int}{q:Int}(hr:kk.wrap (n+m)=q)(ho:o.op=.binOp .add t x y T:=by rfl)(hx:aO E x=some (.pv (.int kk n)):=by rfl)(hy:aO E y=some (.pv (.int kk m)):=by rfl):cK P N o E H (.pv (.int kk q)) H:=eA ho hx hy hr
theorem kp(ho:o.op=.binOp .add t x y T:=by rfl)(hx:aO E x=some (.pv (.int .i64 (n:Int))):=by rfl)(hy:aO E y=some (.pv (.int .i64 1)):=by rfl)(hn:n<9223372036854775807:=by omega):cK P N o E H (.pv (.int .i64 ((n+1:Nat):Int))) H:=eA ho hx hy (by rw[lI (by omega) (by omega)];omega)
theorem kq{u:ByteArray}(ho:o.op=.binOp .add t x y t':=by rfl)(hx:aO E x=some (.pv (.str s)):=by rfl)(hy:aO E y=some (.pv (.str u)):=by rfl)(hs:s.size+u.size<=9223372036854775807:=by omega):cK P N o E H (.pv (.str (s++u))) H:=fM ho hx hy hs rfl
theorem ku(hs:∀w,(sizeOf T).run P w=.ok 1 w)(ho:o.op=.store T x y:=by rfl)(hx:aO E x=some (.ref id g i k):=by rfl)(hy:aO E y=some v:=by rfl)(hc:N0 v=some [v]:=by rfl)(hH:H.get id=some ob:=by rfl)(hg:ob.g=g:=by rfl)(hi:ob.rows[i]?=some r:=by rfl)(hk:k<r.length:=by exact aCs rfl)(hr':r.set k v=r':=by rfl)(hrows:ob.rows.set i r'=rows':=by rfl):cK P N o E H .any ((id,⟨g,ob.sz,ob.ty,rows'⟩)::H):=cV ho hs hx hy hc hH hg hi hk hr' hrows
theorem kx{n:Int}{w:List PV}(hS:fC P T e sz)(hi:rows[m]?=some w)(ho:o.op=.indexAddr T x y:=by rfl)(hx:aO E x=some (.pv (.sl rows)):=by rfl)(hy:aO E y=some (.pv (.int kk n)):=by rfl)(h0:0<=n:=by omega)(hm:n.toNat=m:=by exact aCq _)(hl:w.length=sz:=by rfl):cK P N o E H (.pad rows m 0) H:=bP ho hS hx hy h0 hm hi hl
theorem ky{n:Int}(hT:P.underlying T=some .string)(ho:o.op=.index T x y:=by rfl)(hx:aO E x=some (.pv (.str s)):=by rfl)(hy:aO E y=some (.pv (.int kk n)):=by rfl)(h0:0<=n:=by omega)(hm:n.toNat=m:=by exact aCq _)(hi:m<s.size:=by omega):cK P N o E H (.pv (.int .u8 (bH s m))) H:=cR ho hT hx hy h0 hm hi rfl
end
section
variable{ops rest:List Oper}{K:List Rec->dC->aG->Prop}{w:Nat×Ob}
theorem Lt(R:List Nat)(h:∀H1:aG,(∀id,sQ (some R) id=true->H1.get id=H.get id)->cK P N ⟨dst,op,ty,pos,af,some (j,true)⟩ (restr E (iQ ops ⟨dst,op,ty,pos,af,some (j,true)⟩)) H1 v H1)(hk:DC P N ops rest (mQ E dst v) H (fun rs E' H'=>K (⟨v,some R,[]⟩::rs) E' H'))(hj:jG ops j=some t:=by rfl)(hb:E.get t=some (.pv (.bool b)):=by rfl)(hw:b=true:=by first|rfl|assumption)(hd:iX N dst=true:=by rfl):DC P N ops (⟨dst,op,ty,pos,af,some (j,true)⟩::rest) E H K:=gW (r:=⟨v,some R,[]⟩) (Cu rfl hj hb hw h) hd hk
theorem Lp(R:List Nat)(h:∀H1:aG,(∀id,sQ (some R) id=true->H1.get id=H.get id)->cK P N ⟨dst,op,ty,pos,af,some (j,true)⟩ (restr E (iQ ops ⟨dst,op,ty,pos,af,some (j,true)⟩)) H1 v (w::H1))(hk:DC P N ops rest (mQ E dst v) (w::H) (fun rs E' H'=>K (⟨v,some R,[w]⟩::rs) E' H'))(hj:jG ops j=some t:=by rfl)(hb:E.get t=some (.pv (.bool b)):=by rfl)(hw:b=true:=by first|rfl|assumption)(hd:iX N dst=true:=by rfl):DC P N ops (⟨dst,op,ty,pos,af,some (j,true)⟩::rest) E H K:=gW (r:=⟨v,some R,[w]⟩) (Cu rfl hj hb hw h) hd hk
end
section
variable{o:Oper}{H H1:aG}{x y:Operand}{R:Option (List Nat)}{r r' cells:List AV}{rows':List (List AV)}
theorem su(hs:∀w,(sizeOf T).run P w=.ok 1 w)(h:∀id,sQ R id=true->H1.get id=H.get id)(ho:o.op=.store T x y:=by rfl)(hx:aO E x=some (.ref id g i k):=by rfl)(hy:aO E y=some v:=by rfl)(hc:N0 v=some [v]:=by rfl)(hm:sQ R id=true:=by rfl)(hH:H.get id=some ob:=by rfl)(hg:ob.g=g:=by rfl)(hi:ob.rows[i]?=some r:=by rfl)(hk:k<r.length:=by exact aCs rfl)(hr':r.set k v=r':=by rfl)(hrows:ob.rows.set i r'=rows':=by rfl):cK P N o E H1 .any ((id,⟨g,ob.sz,ob.ty,rows'⟩)::H1):=cV ho hs hx hy hc ((h _ hm).trans hH) hg hi hk hr' hrows
theorem sx(hs:∀w,(sizeOf T).run P w=.ok n w)(h:∀id,sQ R id=true->H1.get id=H.get id)(ho:o.op=.store T x y:=by rfl)(hx:aO E x=some (.ref id g i k):=by rfl)(hy:aO E y=some v:=by rfl)(hc:N0 v=some cells:=by rfl)(hn:cells.length=n:=by rfl)(hm:sQ R id=true:=by rfl)(hH:H.get id=some ob:=by rfl)(hg:ob.g=g:=by rfl)(hi:ob.rows[i]?=some r:=by rfl)(hk:k+n<=r.length:=by exact aCs rfl)(hr':r.take k++(cells++r.drop (k+n))=r':=by rfl)(hrows:ob.rows.set i r'=rows':=by rfl):cK P N o E H1 .any ((id,⟨g,ob.sz,ob.ty,rows'⟩)::H1):=mT ho hs hx hy hc hn ((h _ hm).trans hH) hg hi hk hr' hrows
theorem sa(hs:∀w,(sizeOf T).run P w=.ok n w)(h:∀id,sQ R id=true->H1.get id=H.get id)(ho:o.op=.store T x y:=by rfl)(hx:aO E x=some (.ref id g 0 0):=by rfl)(hy:aO E y=some v:=by rfl)(hc:N0 v=some cells:=by rfl)(hn:cells.length=n:=by rfl)(hm:sQ R id=true:=by rfl)(hH:H.get id=some ob:=by rfl)(hg:ob.g=g:=by rfl)(hi:ob.rows=[r]:=by rfl)(hk:r.length=n:=by rfl):cK P N o E H1 .any ((id,⟨g,ob.sz,ob.ty,[cells]⟩)::H1):=kZ ho hs hx hy hc hn ((h _ hm).trans hH) hg hi hk
end
section
variable{H H2:aG}
theorem Zd(h:cK P N ⟨some d,op,ty,pos,af,none⟩ E H v H2)(hk:K ((d,v)::E) H2)(hn:Nat.blt d N=true:=by rfl):AL P G0 N ops K [⟨some d,op,ty,pos,af,none⟩] E H:=Dd h (Zz hk) hn
theorem Sd(h:cK P N ⟨some d,op,ty,pos,af,none⟩ E H v H2)(hk:AL P G0 N ⟨⟨some d,op,ty,pos,af,none⟩::rest⟩ (fun E H=>xV (gC P G0 N y Q) Q .normal E H) rest ((d,v)::E) H2)(hn:Nat.blt d N=true:=by rfl):gC P G0 N (.seq (.region id ⟨⟨some d,op,ty,pos,af,none⟩::rest⟩ false) y) Q E H:=Sr (Dd h hk hn)
theorem Sz(h:cK P N ⟨some d,op,ty,pos,af,none⟩ E H v H2)(hk:xV (gC P G0 N y Q) Q .normal ((d,v)::E) H2)(hn:Nat.blt d N=true:=by rfl):gC P G0 N (.seq (.region id ⟨[⟨some d,op,ty,pos,af,none⟩]⟩ false) y) Q E H:=Sr (Dd h (Zz hk) hn)
theorem Rd(h:cK P N ⟨some d,op,ty,pos,af,none⟩ E H v H2)(hk:AL P G0 N ⟨⟨some d,op,ty,pos,af,none⟩::rest⟩ (fun E H=>Q .normal E H) rest ((d,v)::E) H2)(hn:Nat.blt d N=true:=by rfl):gC P G0 N (.region id ⟨⟨some d,op,ty,pos,af,none⟩::rest⟩ false) Q E H:=Rg (Dd h hk hn)
end
end
def Dy:PV->Bool
 |.int _ _=>true
 |.bool _=>true
 |.str _=>true
 |_=>false
theorem PRep.flat{w w'}{I b}{v}{p}(h:PRep w I v p)(a:Dy p=true):PRep w' b v p:=by cases h<;>first|(constructor;done)|(simp[Dy]at a)
def RO(P:Program)(f:FuncId)(args:List AV)(H:aG)(p:PV):Prop :=∀(I:Nat->Prop) (ι:lR) (w:World) (vs:Array Value),Rel I ι H w->vs.size=args.length->(∀(i:Nat) (v:Value) (a:AV),vs[i]?=some v->args[i]?=some a->VRel w I ι H v a) ->
  Calls P f vs w fun e w'=>∃v,e=.returned v/\(∀w2 I2,PRep w2 I2 v p)/\w'.os=w.os/\w'.tape=w.tape/\w'.output=w.output/\w.heap.size<=w'.heap.size /\
   (∀a,a.block<w.heap.size->w'.frozen? a=w.frozen? a)/\∀b,b<w.heap.size->w'.heap[b]?=w.heap[b]?
theorem RO.of{P}{f}{args}{p}(h:aW P f args [] (fun r H=>r=.pv p/\H=[]))(m:Dy p=true):RO P f args [] p:=by
 intro I o w vs l j i;refine(h I _ w _ l j i).mono ?_;rintro e w' ⟨r,H',I',ι',v,rfl,⟨rfl,rfl⟩,q,k2,c⟩;have d:∀b,¬ MW o [] b:=fun b ⟨_,_,_,k,_⟩=>by cases k
 exact⟨v,rfl,fun w2 I2=>q.pv_inv.flat m,c.os,c.tape,c.output,c.size,fun a n=>c.froz a n (d _),fun b g=>c.keep b g (d b)⟩
theorem RO.lend{P}{f}{args args'}{p}{H H1}{id}{ob}(ps)(h:RO P f args' H1 p)(g:H.get id=some ob)(c:ob.rows=ps.map (·.map .pv))(hl:args.length=args'.length)
  (m:∀(i:Nat) (a a'),args[i]?=some a->args'[i]?=some a'->Fz H1 id ob.g ps a a') (j:Sub H1 H) (o:eE H1) (e:H1.get id=none):RO P f args H p:=by
 intro I ι w vs k hlen n;refine h _ _ w _ (k.freeze j o g e) (by omega) ?_;intro i v a' l b;have d:i<args.length:=by
  have:=(aCj.1 b).1;omega
 exact VRel.freeze k j g c (m i _ _ (aCk d) b) (n i v _ l (aCk _))
theorem RO.calls{P}{f}{args}{p}{H}(h:RO P f args H p):aW P f args H (fun r H'=>r=.pv p/\H'=H):=by
 intro I n w vs d z k;refine(h I _ w _ d z k).mono ?_;rintro e w' ⟨v,rfl,y,u,t,x,l,q,m⟩;have c:Step I _ H w I n H _ :=
  ⟨u,t,x,l,fun a s _=>q a s,fun _ h=>h,fun _ h=>.inl h,fun _ h=>.inl h,fun b j _=>m b j,fun id o i=>⟨o,i,aCl _,fun _=>⟨rfl,rfl,fun _=>aCl _⟩⟩⟩
 refine⟨.pv p,H,I,n,v,rfl,⟨rfl,rfl⟩,.pv (y _ _),?_,c⟩;refine⟨fun b j=>Nat.lt_of_lt_of_le (d.imm b j) l,fun id o i=>?_,d.inj,c.glob d⟩;exact(d.obj _ o i).keep rfl (fun b' _ _ g=>⟨m _ g,fun h=>h⟩) (fun r _ a _ v k=>k.mono d c)
theorem fZ{P}{G0}{N}{Q}{E}{H}{h}(S:α->β->dC×aG)(J:α->β->Prop)(g:α->β->Nat)(e)(c)(i:J e c)(f:cQ G0 E H (S e c).1 (S e c).2)
  (round:∀a b,J a b->gC P G0 N h (xV (fun E' H'=>∃a' d,J a' d/\g a' d<g a b/\cQ G0 E' H' (S a' d).1 (S a' d).2) Q) (S a b).1 (S a b).2):gC P G0 N (.loop h) Q E H:=by
 refine bJ (fun s=>S s.1 s.2) (fun s=>J s.1 s.2) (fun s=>g s.1 s.2) (e,c) i f ?_
 simp_all
theorem A6{P}{G0}{N}{Q}{E}{H}{j}(S:α->β->γ->dC×aG)(J:α->β->γ->Prop)(h:α->β->γ->Nat)(f)(d)(g)(k:J f d g)(i:cQ G0 E H (S f d g).1 (S f d g).2)
  (round:∀a b c,J a b c->gC P G0 N j (xV (fun E' H'=>∃a' e c',J a' e c'/\h a' e c'<h a b c/\cQ G0 E' H' (S a' e c').1 (S a' e c').2) Q) (S a b c).1 (S a b c).2):gC P G0 N (.loop j) Q E H:=by
 refine bJ (fun s=>S s.1 s.2.1 s.2.2) (fun s=>J s.1 s.2.1 s.2.2) (fun s=>h s.1 s.2.1 s.2.2) (f,d,g) k i ?_
 simp_all
theorem U1{P}{G0}{N}{Q}{E}{H}{l}{δ:Type}(S:α->β->γ->δ->dC×aG)(J:α->β->γ->δ->Prop)(j:α->β->γ->δ->Nat)(h)(e)(i)(f)(m:J h e i f)(k:cQ G0 E H (S h e i f).1 (S h e i f).2)
  (round:∀a b c d,J a b c d->gC P G0 N l (xV (fun E' H'=>∃a' g c' d',J a' g c' d'/\j a' g c' d'<j a b c d/\cQ G0 E' H' (S a' g c' d').1 (S a' g c' d').2) Q) (S a b c d).1 (S a b c d).2):gC P G0 N (.loop l) Q E H:=by
 refine bJ (fun s=>S s.1 s.2.1 s.2.2.1 s.2.2.2) (fun s=>J s.1 s.2.1 s.2.2.1 s.2.2.2) (fun s=>j s.1 s.2.1 s.2.2.1 s.2.2.2) (h,e,i,f) m k ?_
 simp_all
theorem pf(f:α->List _)(l:List _)(H):∀r∈l.map (fun e=>(f e).map AV.pv),∀a∈r,Clo H a:=by simp
theorem mD{H}{id g}{ps}:∀(i:Nat) (a a'),[][i]?=some a->[][i]?=some a'->Fz H id g ps a a':=fun i a a' h=>by simp
theorem cA{H}{id g}{ps}{x d}{l e}(h:Fz H id g ps x d)(f:∀(i:Nat) (a a'),l[i]?=some a->e[i]?=some a'->Fz H id g ps a a'):
  ∀(i:Nat) (a a'),(x::l)[i]?=some a->(d::e)[i]?=some a'->Fz H id g ps a a'
 |0,a,a',c,b=>by cases c;cases b;exact h
 |i+1,a,a',c,b=>f i a _ c b
end Go.Abs
