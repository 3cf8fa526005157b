/-
  Parts of the proof. Conditions: each theorem's own.
-/
import Derived.Test.YtopnleflllkbmaaGreatDoorKX3rM2
import Derived.Lib.AppendStr
import Derived.Scope
import Derived.Lib.UnsafeStr
import Derived.Lib.MakeNoZero
import Derived.Lib.Builder
import Derived.Lib.Overlaps
import Derived.WalkSpells
import Derived.Lib.SliceRun
import Derived.ChangeKeysEq
import Derived.Lib.ItoaLen
set_option linter.unusedVariables false
set_option linter.unusedSimpArgs false
set_option maxRecDepth 100000
set_option maxHeartbeats 8000000
open List Nat
namespace Go.Proofs
open Tryz
theorem mY:type_of% call132:=call132
theorem mX:type_of% call133:=call133
theorem mW:type_of% call160:=call160
theorem rG:type_of% call204:=call204
theorem lO:type_of% call79:=call79
theorem bW:type_of% isAgg135:=isAgg135
theorem cU:type_of% isAgg137:=isAgg137
theorem gZ:type_of% underlying158:=underlying158
theorem yU:type_of% underlying215:=underlying215
end Go.Proofs
namespace Go.Abs
variable{id b p N:Nat}{d:cY}{x:Go.Loop}{H K:aF}{P:Program}
section
def LR(x:Go.Loop)(E0:cY):Ob:=⟨0,0,0,[[.raw x (E0.map (·.1))],E0.map (·.2)]⟩
section
variable{I:Nat->Prop}{ι:lQ}{w:World}
theorem Hf{x}(m:Rel I ι H w)(e:H.get id=some (LR x d)){v:Value}(j:VRel w I ι H v (.yld id 0)):
  ∃b,ι id=some (b,2)/\v=.func (.yield b) #[] #[]/\w.heap[b]?=some (.loop x)/\¬ I b/\∀(i t:Nat) (a:AV),(d.map (·.1))[i]?=some t->(d.map (·.2))[i]?=some a->∃c,x.tmps[t]?=some c/\VRel w I ι H c a:=by
 cases j with
 |yld o g h2 h3 k =>
  rw[e]at g;cases g;have ⟨_,b,f,e2⟩:=k Z;have ⟨_,b',y,h,k2,k3,l⟩:=(m.obj id _ e).rec Z f;rw[f]at h;have ⟨q1,q2⟩:=l x _ _ Z
  grind
theorem Rel.setRec{y:Go.Loop}{G:cY}{H':aF}(m:Rel I ι H w)(n:H.get id=some (LR x G))(k:ι id=some (b,2))(hy:y.tmps=x.tmps)
  (K:H'.get id=some (LR y G)) (d_:∀j,j≠id->H'.get j=H.get j):Rel I ι H' (w.putObj b (.loop y))/\Step I ι H w I ι H' (w.putObj b (.loop y)):=by
 have ⟨_,b',z,c_,o_,T,k4⟩:=(m.obj id _ n).rec Z k;rw[k]at c_;cases c_;have ⟨Q,A_⟩:=k4 x _ _ Z;subst Q;have u:=(Array.getElem?_eq_some_iff.1 o_).1;have s:∀c,NG ι H' c->NG ι H c:=λc ⟨j,o,B,u_,g⟩=>by
  by_cases e:j=id
  ·subst e;exact⟨j,_,B,n,g⟩
  exact⟨j,o,B,(d_ j e).symm.trans u_,g⟩
 have l:Step I ι H w I ι H' (w.putObj b (.loop y)):=by
  refine⟨Z,Z,Z,F_,λa L _=>?_,λ_ h=>h,λ_ h=>.inl h,λc g=>.inl (s c g),λc g v_=>?_,λj o f=>?_⟩
  ·unfold World.frozen?;by_cases e:a.block=b
   ·rw[e,World.putObj_heap_same u,o_]
   rw[World.putObj_heap_other e]
  ·exact World.putObj_heap_other λe=>v_ ⟨id,_,2,n,by rw[e];exact k⟩
  by_cases e:j=id
  ·subst e;rw[n]at f;cases f;exact⟨_,K,g_ _,λ_=>⟨Z,Z,λh=>by cases h⟩⟩
  exact⟨o,(d_ j e).trans f,g_ _,λ_=>⟨Z,Z,λ_=>g_ _⟩⟩
 refine⟨⟨λc g=>by rw[World.putObj_size];exact m.imm c g,λj o f=>?_,λj N o o' c d d' f F g D=>?_,l.glob m⟩,l⟩
 ·by_cases e:j=id
  ·subst e;rw[K]at f;cases f;refine .inr (.inr (.inr (.inl ⟨Z,b,y,k,World.putObj_heap_same u,T,λz ts r e_=>?_⟩)));simp only[LR,List.cons.injEq,AV.raw.injEq,and_true]at e_;obtain ⟨⟨rfl,rfl⟩,rfl⟩:=e_;refine⟨Z,λi t a W L=>?_⟩;have ⟨c,z_,P⟩:=A_ i t a W L;exact⟨c,by rw[hy];exact z_,P.mono m l⟩
  rw[d_ j e]at f;exact(m.obj j o f).keep Z (λc d g _=>⟨World.putObj_heap_other (λhb=>e (m.inj j id o _ c d 2 f n g (by rw[hb];exact k))),λh=>h⟩) (λr _ a _ v R=>R.mono m l)
 have A:∀j o,H'.get j=some o->∃o,H.get j=some o:=λj o f=>by
  by_cases e:j=id
  ·subst e;exact⟨_,n⟩
  exact⟨o,(d_ j e).symm.trans f⟩
 have ⟨q,f_⟩:=A j o f;have ⟨y_,E⟩:=A N o' F;exact m.inj j N q y_ c d d' f_ E g D
theorem Rel.push(o:Obj)(f:Rel I ι H w):Rel I ι H (w.alloc o)/\Step I ι H w I ι H (w.alloc o):=by
 have g:∀b,b<w.heap.size->(w.alloc o).heap[b]?=w.heap[b]?:=λb e=>by
  show (w.heap.push o)[b]?=_
  grind
 have d:Step I ι H w I ι H (w.alloc o):=by
  refine⟨Z,Z,Z,F_,λa ha _=>?_,λ_ h=>h,λ_ h=>.inl h,λ_ h=>.inl h,λb e _=>g b e,λ_ o h=>⟨o,h,g_ _,λ_=>⟨Z,Z,λ_=>g_ _⟩⟩⟩;unfold World.frozen?
  simp_all
 refine⟨⟨λb e=>by have:=f.imm b e;rw[World.size_alloc];omega,λj o k=>?_,f.inj,d.glob f⟩,d⟩;exact(f.obj j o k).keep Z (λb c _ e=>⟨g b e,λh=>h⟩) (λr _ a _ v i=>i.mono f d)
end
def busy(x:Go.Loop):Go.Loop:={x with state:=.busy}
def left(x:Go.Loop)(c:Code):Go.Loop:={x with state:=.done,pending:=some c}
def Nx(H0:aF)(id:Nat)(x:Go.Loop)(E0:cY)(Q:AV->aF->Prop):Exit->cY->aF->Prop
 |.normal,E,H=>∃K,cL H0 E H [] ((id,LR (busy x) E0)::K)/\Q (.pv (.bool true)) ((id,LR x E0)::K)
 |.ret,E,H=>∃K,cL H0 E H [] ((id,LR (busy x) E0)::K)/\Q (.pv (.bool false)) ((id,LR (left x .ret) E0)::K)
 |.exit j,E,H=>∃K,cL H0 E H [] ((id,LR (busy x) E0)::K)/\Q (.pv (.bool false)) ((id,LR (left x (.exit j)) E0)::K)
 |_,_,_=>False
theorem tX{G:Entry}{I}{ι}{H}{w}{id b}{x y}{e}(c:Step G.I G.ι G.H G.w I ι H w)(h:G.H.get id=some (LR x e))(a:G.ι id=some (b,2))(g:H.get id=some (LR y e)):ι id=some (b,2):=by have ⟨o',d,_,f⟩:=c.objs _ _ h;rw[g]at d;cases d;exact(f Z).1.trans a
theorem uW{I}{ι:lQ}{w}{x}{f:cY}(g:Rel I ι H w)(d:H.get id=some (LR x f))(a:ι id=some (b,2)):w.heap[b]?=some (.loop x):=by
 have ⟨_,b',z,c,k2,k3,e⟩:=(g.obj id _ d).rec Z a;rw[a]at c;have ⟨q1,_⟩:=e x _ _ Z
 simp_all
theorem gV(id)(o)(K:aF):aF.get ((id,o)::K) id=some o:=by simp[aF.get,pI]
theorem BU{id j}(o o')(K:aF)(h:j≠id):aF.get ((id,o)::K) j=aF.get ((id,o')::K) j:=by simp[aF.get,jR (Ne.symm h)]
theorem LJ{h n:Code}{a:AV}{Q:AV->aF->Prop}(E2:cY)(K2:aF)(G:x.state=.ready)(A_:x.pending=none)(hp:x.params=#[p])(hN:x.tmps.size=N)(hxa:x.assign=h)(hxb:x.body=n)(u_:Nat.blt p N=true)
  (hok:zN h=true) (T:zN n=true)
  (h1:gG P ((id,LR x d)::K) N h (yX (λE1 H1=>cL ((id,LR x d)::K) E1 H1 E2 ((id,LR x d)::K2)) (λ_ _ _=>False)) ((p,a)::d) ((id,LR x d)::K))
  (h2:gG P ((id,LR x d)::K) N n (Nx ((id,LR x d)::K) id x d Q) E2 ((id,LR (busy x) d)::K2)):IS P id 0 [a] ((id,LR x d)::K) Q:=by
 subst hxa hxb;have u_:p<N:=F_
 intro I y_ w vs v hr hv hl hvs;have ⟨b,e1,e2,e3,e4,e5⟩:=Hf hr (gV _ _ _) hv;obtain ⟨u,rfl⟩:∃u,vs=#[u]:=by
  match vs,hl with
  |⟨[u]⟩,_=>exact⟨u,Z⟩
 have hu:=hvs 0 u a Z Z;refine⟨b,x.fn,_,x.assign,x.body,e2,run_yield e3 F_,?_⟩;refine roundIn_of_wpIn (F:=Fence.wide) T_ ?_;have z_:(⟨I,y_,(id,LR x d)::K,w,[]⟩:Entry).H=(id,LR x d)::K:=rfl;have hst:St ⟨I,y_,(id,LR x d)::K,w,[]⟩ N ((p,a)::d) ((id,LR x d)::K) {tmps:=(x.params.zip #[u]).foldl (λm (t,a)=>m.setIfInBounds t a) x.tmps,defers:=[]} w:=by
  have ht:(x.params.zip #[u]).foldl (λm (t,a)=>m.setIfInBounds t a) x.tmps=x.tmps.setIfInBounds p u:=by rw[hp];simp
  rw[ht];refine⟨tU.nil _ _ _,by simp[hN],I,y_,hr,Step.refl _ _ _ _,λt y s=>?_⟩;by_cases e:p=t
  ·subst e;rw[cY.get_cons_same]at s;cases s;exact⟨u,by simp[hN,u_],hu⟩
  rw[cY.get_cons_other _ _ e]at s;have ⟨i,hi⟩:=s8.1 (iL s);have ⟨c,c1,c2⟩:=e5 i t y (by rw[r7,hi];rfl) (by rw[r7,hi];rfl);exact⟨c,by show (x.tmps.setIfInBounds p u)[t]?=some c;rw[Array.getElem?_setIfInBounds_ne e];exact c1,c2⟩
 refine wpIn_mono (h1 _ z_ _ w hst (some b) (.inr hok)) ?_;rintro e a1 w1 ⟨E1,H1,q,hs1⟩;cases e with
 | normal =>
  have F:=q _ z_ N a1 w1 hs1;have ⟨I1,ι1,z,B,he1⟩:=F.rel;have E:=tX B (gV _ _ _) e1 (gV _ _ _);have hb1:=uW z (gV _ _ _) E;have ⟨k1,k2⟩:=z.setRec (y:=busy x) (H':=(id,LR (busy x) d)::K2) (gV _ _ _) E Z (gV _ _ _) (λj hj=>BU _ _ _ hj);refine⟨_,run_beginRound hb1 G,?_⟩;have hs3:St ⟨I,y_,(id,LR x d)::K,w,[]⟩ N E2 ((id,LR (busy x) d)::K2) a1 (w1.putObj b (.loop (busy x))) :=
   ⟨F.defers.step z k2,F.size,I1,ι1,k1,B.trans k2,λt y s=>let ⟨c,c1,c2⟩:=he1 t y s;⟨c,c1,c2.mono z k2⟩⟩
  refine wpIn_mono (h2 _ z_ a1 _ hs3 (some b) (.inr T)) ?_;rintro e a2 w3 ⟨E3,H3,R,hs4⟩;have o_:∀(g:Option Code) (y:Go.Loop) (o:aF),y={busy x with state:=if g.isNone then .ready else .done,pending:=g}->cL ((id,LR x d)::K) E3 H3 [] ((id,LR (busy x) d)::o)->Q (.pv (.bool g.isNone)) ((id,LR y d)::o) ->
    ∃v w',(Instr.endRound b g).run P w3=.ok v w'/\∃r H' I' L v',Ending.returned v=.returned v'/\Q r H'/\VRel w' I' L H' v' r/\Rel I' L H' w'/\Step I y_ ((id,LR x d)::K) w I' L H' w':=by
   intro g y o s f e_;have hs5:=f _ z_ N a2 w3 hs4;have ⟨I5,ι5,W,d_,_⟩:=hs5.rel;have D:=tX d_ (gV _ _ _) e1 (gV _ _ _);have hb5:=uW W (gV _ _ _) D;have ⟨z1,z2⟩:=W.setRec (y:=y) (H':=(id,LR y d)::o) (gV _ _ _) D (by rw[s]) (gV _ _ _) (λj hj=>BU _ _ _ hj);refine⟨_,_,run_endRound g hb5,_,_,I5,ι5,_,Z,e_,.pv (.bool _),?_,?_⟩
   ·rw[<-s];exact z1
   rw[<-s];exact d_.trans z2
  cases e with
  |normal =>
   obtain ⟨o,f,e_⟩:=R;refine o_ none x o ?_ f e_;obtain ⟨st,pe,fn,tm,pa,ax,bo,de⟩:=x;simp only at G A_;subst G A_;rfl
  |ret =>
   have ⟨o,f,e_⟩:=R;exact o_ (some .ret) (left x .ret) o Z f e_
  |exit j =>
   have ⟨o,f,e_⟩:=R;exact o_ (some (.exit j)) (left x (.exit j)) o Z f e_
  |goto l=>exact R.elim
  |panic ch=>exact R.elim
  |outgrown=>exact R.elim
 |exit j=>exact q.elim
 |goto l=>exact q.elim
 |ret=>exact q.elim
 |panic ch=>exact q.elim
 |outgrown=>exact q.elim
def Oe(Q:Exit->cY->aF->Prop)(E:cY)(H:aF):Option Code->Prop
 |none=>Q .normal E H
 |some .ret=>Q .ret E H
 |some (.exit j)=>Q (.exit j) E H
 |_=>False
theorem B4{G0:aF}{f:Nat}{e_:List AV}{g:Operand}{ps:Array Tmp}{assign body:Code}{Q:Exit->cY->aF->Prop}{E:cY}(n:cY)(hg:aO E g=some (.clo f e_))(hc:∀(args:Array Value) (w:World),(callFunc f args).run P w=.ok (.enter f args) w)
  (hps:ps=#[p]) (hid:H.get id=none) (hE0:∀q∈n,E.get q.1=some q.2)
  (h:∀x:Go.Loop,x.state=.ready->x.pending=none->x.params=#[p]->x.tmps.size=N->x.assign=assign->x.body=body ->
   aU P f (.yld id 0::e_) ((id,LR x n)::H) (λr H'=>∃(y:Go.Loop) (K:aF),y.tmps=x.tmps/\y.state≠.busy/\H'=(id,LR y n)::K/\∀z:Go.Loop,Oe Q E ((id,LR z n)::K) y.pending)) :
  gG P G0 N (.rangeFunc g ps assign body) Q E H:=by
 intro G hG a w hs ro hro;obtain rfl:ro=none:=hro.resolve_right (λh=>by cases h);have ⟨I,ι,hr,hst,he⟩:=hs.rel;refine wpIn_rangeFunc (F:=RF none) ?_;intro fn _;have hgv:=aJ he hg;generalize hfc:a.eval g=fc at hgv;cases hgv with
 | @clo _ us _ hl hh =>
  have ⟨x,R⟩:∃x:Go.Loop,x={state:=.ready,pending:=none,fn,tmps:=a.tmps,params:=ps,assign,body,defers:=w.heap.size}:=X_;have ⟨a1,a2⟩:=hr.push (.deferred (some []));have ⟨A_,v_⟩:∃A_,A_=w.alloc (.deferred (some [])):=X_;rw[<-v_]at a1 a2;have L:A_.heap.size=w.heap.size+1:=F_
  have hDd:A_.heap[w.heap.size]?=some (.deferred (some [])):=by rw[v_];exact World.alloc_heap_new w _
  have m:aF.get ((id,LR x n)::H) id=some (LR x n):=gV _ _ _;have ⟨b1,b2⟩:=a1.placeX (id:=id) (cap:=2) (x:=.loop x) (w':=A_.alloc (.loop x)) (H':=(id,LR x n)::H) (ob':=LR x n) Z Z Z Z (λo ho=>by simp_all)
   (λhnew hI hmono=>.inr (.inr (.inr (.inl ⟨Z,_,x,H_,hnew,hI,λy ts r hy=>by
    simp only[LR,List.cons.injEq,AV.raw.injEq,and_true]at hy;obtain ⟨⟨rfl,rfl⟩,rfl⟩:=hy;refine⟨Z,λi t v ht u=>?_⟩;rw[r7]at ht u;obtain ⟨q,hq,rfl⟩:=Option.map_eq_some_iff.1 ht;rw[hq]at u;cases u;have ⟨c,c1,c2⟩:=he q.1 q.2 (hE0 q (m8 hq));exact⟨c,by rw[R];exact c1,hmono _ _ (c2.mono hr a2)⟩⟩))))
   m (λj hj=>by simp[aF.get,jR (Ne.symm hj)])
  have ⟨T,hw1⟩:∃T,T=A_.alloc (.loop x):=X_;rw[<-hw1]at b1 b2;have ⟨B,u_⟩:∃B:lQ,B=λj=>if j=id then some (A_.heap.size,2)else ι j:=X_
  rw[<-u_]at b1 b2;have d:B id=some (w.heap.size+1,2):=by rw[u_,L];simp
  have hL1:=uW b1 m d;have W:T.heap[w.heap.size]?=some (.deferred (some [])):=by
   rw[b2.keep _ (by rw[L];omega) (BG a1 hDd)];exact hDd
  have z_:=h x (by rw[R]) (by rw[R]) (by rw[R,hps]) (by rw[R];exact hs.size) (by rw[R]) (by rw[R]) I B T (#[.func (.yield (w.heap.size+1)) #[] #[]]++us) b1 (by simp[hl];omega) (λi v c u F=>by
   cases i with
   |zero =>
    rw[Array.getElem?_append_left H_]at u;simp at u F;subst u F;exact .yld (LR x n) m (g_ _) Z (λ_=>⟨Z,_,d,Z⟩)
   |succ i =>
    rw[Array.getElem?_append_right H_]at u;simp only[getElem?_cons_succ]at F;have:=hh i v c (by simpa using u) F;exact(this.mono hr a2).mono a1 b2)
  refine⟨w.heap.size+1,[mark w.heap.size],T,{target:=.fn (.func f) us,args:=#[.func (.yield (w.heap.size+1)) #[] #[]]},T,f,#[.func (.yield (w.heap.size+1)) #[] #[]]++us,T,?_,?_,λ_ _=>trivial,?_,(λq=>by cases q),?_⟩
  ·rw[hw1,v_,R];exact run_enterLoop_outer _ _ _ _ _
  ·simp only[resolve,hfc];simp[go_sem]
  ·simp[invoke,go_sem,hc]
  refine((callsIn_wide (n:=0)).2 z_).mono ?_;rintro e w3 ⟨r,H',I3,ι3,v3,rfl,⟨y,K,hy1,hy2,rfl,hq⟩,_,hr3,A⟩;have o_:=tX (G:=⟨I,B,(id,LR x n)::H,T,[]⟩) A m d (gV _ _ _);have hb3:=uW hr3 (gV _ _ _) o_;have ⟨z,hz⟩:∃z:Go.Loop,z={y with state:=.exhausted}:=X_;have ⟨z1,z2⟩:=hr3.setRec (y:=z) (H':=(id,LR z n)::K) (gV _ _ _) o_ (by rw[hz]) (gV _ _ _) (λj hj=>BU _ _ _ hj);have ⟨w4,hw4⟩:∃w4,w4=w3.putObj (w.heap.size+1) (.loop z):=X_;rw[<-hw4]at z1 z2;refine⟨y.pending,w4,by rw[hw4,hz];exact run_endLoop hb3 hy2,?_⟩;have s:Step I ι H w I3 ι3 ((id,LR z n)::K) w4:=((a2.trans b2).trans A).trans z2;have hD4:w4.heap[w.heap.size]?=some (.deferred (some [])):=by
   rw[(A.trans z2).keep _ (Array.getElem?_eq_some_iff.1 W).1 (BG b1 W)];exact W
  have y_ : St G N E ((id, LR z n) :: K) { a with defers := [mark w.heap.size] ++ a.defers } w4 := by
   refine⟨?_,hs.size,I3,ι3,z1,hst.trans s,λt v u=>let ⟨c,c1,c2⟩:=he t v u;⟨c,c1,c2.mono hr s⟩⟩;have ⟨Ds,d1,d2,d3⟩:=hs.defers.step hr s;refine⟨w.heap.size::Ds,by rw[d1];rfl,nodup_cons.2 ⟨λhmem=>?_,d2⟩,λD hD=>?_⟩
   ·have hold:∀D∈Ds,D<w.heap.size:=by
     have ⟨Ds',d1',_,d3'⟩:=hs.defers;have he:Ds'=Ds:=by
      have h0:Ds'.map mark=Ds.map mark:=append_cancel_right (d1'.symm.trans d1);have hinj:∀(l c_:List Nat),l.map mark=c_.map mark->l=c_:=by
       intro l
       induction l with
       |nil=>intro c_ h;cases c_ with
        |nil=>rfl
        |cons _ _=>cases h
       | cons D l ih=>intro c_ h;cases c_ with
        |nil=>cases h
        |cons D' c_ =>
         simp only[map_cons,List.cons.injEq,mark,Deferred.mk.injEq,Target.collected.injEq,and_true]at h;rw[h.1,ih c_ h.2]
      exact hinj _ _ h0
     subst he;exact λD hD=>(Array.getElem?_eq_some_iff.1 (d3' D hD).2).1
    exact Nat.lt_irrefl _ (hold _ hmem)
   rcases l9.1 hD with rfl|hD
   ·exact⟨hst.size,hD4⟩
   exact d3 D hD
  have b:=hq z;generalize y.pending=pend at b |-
  match pend,b with
  |none,b=>exact⟨E,_,b,y_⟩
  |some .ret,b=>exact wpIn_ret ⟨E,_,b,y_⟩
  |some (.exit j),b=>exact wpIn_exit ⟨E,_,b,y_⟩
end
theorem aU.congrG{P}{f}{args}{H H1 K K1}{d}(h:aU P f args H1 (λr A_=>r=d/\A_=K1))(u:∀j,H1.get j=H.get j)(p:∀j,K.get j=K1.get j):aU P f args H (λr A_=>r=d/\A_=K):=by intro I ι w vs g q n;have ⟨A,l⟩:=g.congr u;refine(h I _ w _ A q (λi v a o y=>(n i v a o y).mono g l)).mono ?_;rintro e w' ⟨r,H',s,c,v,rfl,⟨rfl,rfl⟩,x,k,z⟩;have ⟨t,m⟩:=k.congr p;exact⟨r,K,s,c,v,Z,⟨Z,Z⟩,x.mono k m,t,(l.trans z).trans m⟩
theorem IS.congrG{P}{id g}{args}{H H1 K K1}{q}(h:IS P id g args H1 (λr A_=>r=q/\A_=K1))(c_:∀j,H1.get j=H.get j)(E:∀j,K.get j=K1.get j):IS P id g args H (λr A_=>r=q/\A_=K):=by intro I ι w vs v k m F A;have ⟨y,o⟩:=k.congr c_;have ⟨l,f,c,b,d,G,B,z⟩:=h I _ w _ v y (m.mono k o) F (λi v a D L=>(A i v a D L).mono k o);refine⟨l,f,c,b,d,G,B,z.mono ?_⟩;rintro e w' ⟨r,H',x,n,v,rfl,⟨rfl,rfl⟩,u,s,d_⟩;have ⟨t,p⟩:=s.congr E;exact⟨r,K,x,n,v,Z,⟨Z,Z⟩,u.mono s p,t,(o.trans d_).trans p⟩
theorem dH.congrG{P}{c}{args}{H H1 K K1}{b}(h:dH P c args H1 (λr A_=>r=b/\A_=K1))(d:∀j,H1.get j=H.get j)(f:∀j,K.get j=K1.get j):dH P c args H (λr A_=>r=b/\A_=K):=by
 rcases h with⟨id,g,e,h⟩|⟨F,a,e,i,h⟩
 ·exact .inl ⟨id,g,e,h.congrG d f⟩
 exact .inr ⟨F,a,e,i,h.congrG d f⟩
theorem mR{i j}{a b}(h:i≠j)(k):aF.get ((i,a)::(j,b)::K) k=aF.get ((j,b)::(i,a)::K) k:=by
 simp[aF.get];cases c:Nat.beq i k with
 |true =>
  have:=eq_of_beq_eq_true c;subst this;rw[jR (Ne.symm h)];rfl
 |false=>all_goals rfl
end Go.Abs
namespace Go.Abs
open Go.Lib
variable{e:TypeId}{id g n b cap l off len c h sz k ty:Nat}{ob:Ob}{s:B_}{H2 H H':aF}{w:World}{ι:lQ}{f:List AV}{I:Nat->Prop}{rows:List (List PV)}{rows':List (List AV)}
section
section
variable{P:Program}{N:Nat}{o:Oper}{E:cY}{T f_:TypeId}{x y:Operand}
theorem CI{w}{I}{ι}(s):tP w I ι H 1 (strCells s) (fO s.data.toList):=by
 intro i r c k a d;rw[fO,r7]at c;obtain ⟨b,e,rfl⟩:=Option.map_eq_some_iff.1 c;cases k with
 |zero =>
  cases d;exact⟨.int _ _,by rw[strCells,Nat.mul_one,Nat.add_zero,r7,e];rfl,Z,.pv (.int _ _)⟩
 |succ k=>grind
theorem RZ(ho:o.op=.call {callee:=.builtin .append,args:=#[x,y],argTypes:=#[T,f_]})(hT:P.underlying T=some (.slice e))(hS:P.underlying f_=some .string)(hinf:jb P e 1 1)(hz0:∀i,P.info? e=some i->i.zero=some (.int .u8 0))
  (hx:aO E x=some (.osl id g 0 n)) (u_:H.get id=some ob) (hg:ob.g=g) (q:ob.sz=1) (hty:ob.ty=e) (hn:ob.rows.length=n)
  (hy:aO E y=some (.pv (.str s))) (hmax:n+s.size<=140737488355328)
  (hH2:H.set id ⟨g+1,1,e,ob.rows++fO s.data.toList⟩=H2):cN P N o E H (.osl id (g+1) 0 (n+s.size)) H2:=by
 intro a w I ι _ _ hr he K Q hk;have ⟨i,z,hi,hz,A,hby,hzs,hsz0⟩:=hinf;have hzi:=hz0 i hi;subst hg hty hn hH2;have f:(fO s.data.toList).length=s.size:=by simp[fO]
 have hml:ob.rows.length+s.size<=maxLen:=by simp only[maxLen];omega
 have W:(H.set id ⟨ob.g+1,1,ob.ty,ob.rows++fO s.data.toList⟩).get id=some ⟨ob.g+1,1,ob.ty,ob.rows++fO s.data.toList⟩:=aF.get_set_same _ _ _;have h2:∀j,j≠id->(H.set id ⟨ob.g+1,1,ob.ty,ob.rows++fO s.data.toList⟩).get j=H.get j:=λj hj=>aF.get_set_other _ _ hj;have v_:0<ob.sz:=qA (aJ he hx) u_ Z;have p2:=((hr.obj id ob u_).cells v_).2.1;rw[q]at p2;have hrl:∀r∈ob.rows++fO s.data.toList,r.length=1:=λr hr'=>by
  rcases mem_append.1 hr' with h|h
  ·simp_all
  obtain ⟨b,_,rfl⟩:=mem_map.1 h;rfl
 have hys:=(aJ he hy).str_inv;have R:∀(v':Value) (w':World) (G:lQ),(Builtin.append_ #[T,f_] o.type #[a.eval x,.string s]).run P w=.ok v' w'->VRel w' I G (H.set id ⟨ob.g+1,1,ob.ty,ob.rows++fO s.data.toList⟩) v' (.osl id (ob.g+1) 0 (ob.rows.length+s.size)) ->
   Rel I G (H.set id ⟨ob.g+1,1,ob.ty,ob.rows++fO s.data.toList⟩) w'->Step I ι H w I G (H.set id ⟨ob.g+1,1,ob.ty,ob.rows++fO s.data.toList⟩) w'->o.wpW P a w K Q:=by
  intro v' w' G l k1 e_ o_;unfold Oper.wpW execOp;simp only[ho,resolve,invoke,builtin,Sem.run_bind,Sem.run_pure,Result.andThen_ok,map_toArray,map_cons,map_nil,hys,l];exact hk v' w' I G _ _ ⟨Z,Z⟩ k1 e_ o_
 have hvx:=aJ he hx;have ⟨_,hcase⟩:=jK hvx u_ Z;rcases hcase with⟨b,m,oo,c1,c2,c3⟩|⟨c1,c2,_,c4⟩
 ·obtain ⟨p1,_,⟨b',cap',L,z_,e2,e3,e4,e5,e5',e6⟩|⟨z_,_⟩⟩:=(hr.obj id ob u_).cells v_
  ·rw [c1] at z_;cases z_;rw [q] at e4 e6;have hoo:oo=0:=X
   subst hoo;rw[Nat.sub_zero]at c2;have A_:tP w I ι H 1 (L.toList.take (ob.rows.length*1)) ob.rows:=by
    intro i' r d_ k a' F
    grind
   have t:(L.toList.take (ob.rows.length*1)).length=ob.rows.length*1:=G_
   have B:(strCells s).length=s.size:=strCells_length s;by_cases hroom:ob.rows.length+s.size<=m
   ·have l:=run_append_room_string (P:=P) w T f_ o.type ob.ty i hT hS hi A b ob.rows.length m L e2 s hroom X;have ⟨e_,o_⟩:=Rel.update (H':=H.set id ⟨ob.g+1,1,ob.ty,ob.rows++fO s.data.toList⟩) (ob':=⟨ob.g+1,1,ob.ty,ob.rows++fO s.data.toList⟩)
     (cs':=(L.toList.take ob.rows.length++strCells s++L.toList.drop (ob.rows.length+s.size)).toArray) hr u_ c1 e2 H_ q.symm Z (λe=>by grind) (by
      grind) G_ G_ (λi' r d_ k a' F=>by
       have:=tP.app (l3:=L.toList.drop (ob.rows.length+s.size)) A_ t (CI (H:=H) s) i' r d_ k a' F;rw[q]
       simpa[append_assoc]using this) W h2
    exact R _ _ ι (by rw[c2];exact l) (.osl _ W (g_ _) Z λ_=>⟨Nat.zero_lt_one,G_,.inl ⟨b,m,0,c1,H_,λ_=>by simp⟩⟩) e_ o_
   have holds:∀j v,(L.toList.take ob.rows.length)[j]?=some v->w.cell? ((⟨b,0,none⟩:Addr).add j)=some v:=by
    intro j v hv;rw[Addr.add_lit,r9,cell_of_row w b _ L ob.ty (0,0) e2];rw[getElem?_take]at hv
    split at hv
    ·simpa using hv
    cases hv
   have l:=run_append_grow_string (P:=P) w T f_ o.type ob.ty i (.int .u8 0) hT hS hi hzi ⟨b,0,none⟩ ob.rows.length m _ (by rw[A];simpa using t) holds s X X (growslice_fits X (by rw[hby];omega));have hge:=grownCap_ge w (ob.rows.length+s.size) m ob.ty;have y_:=grownCap_le_maxLen w (ob.rows.length+s.size) m ob.ty hml;have hz1:(Value.int IntKind.u8 0).cells.size=1:=rfl;have ⟨e_,o_⟩:=Rel.place (H':=H.set id ⟨ob.g+1,1,ob.ty,ob.rows++fO s.data.toList⟩) (id:=id) (cap:=grownCap w (ob.rows.length+s.size) m ob.ty) (ob':=⟨ob.g+1,1,ob.ty,ob.rows++fO s.data.toList⟩)
    (cs':=(L.toList.take ob.rows.length).toArray++(strCells s).toArray++Builtin.zeroCells (Value.int .u8 0).cells (grownCap w (ob.rows.length+s.size) m ob.ty - (ob.rows.length+s.size)))
    (w':=w.drew.alloc (.cells ((L.toList.take ob.rows.length).toArray++(strCells s).toArray++Builtin.zeroCells (Value.int .u8 0).cells (grownCap w (ob.rows.length+s.size) m ob.ty - (ob.rows.length+s.size))) ob.ty)) hr Z Z Z Z
    (λo' c_=>by rw[u_]at c_;cases c_;simp) Nat.zero_lt_one (by
     simp only[Array.size_append,size_toArray,size_zeroCells,hz1,B,q9,Array.length_toList];omega) (by simp only[j_,f];exact hge) y_ hrl (λi' r d_ k a' F=>by
      have ⟨u,q1,q2,q3⟩:=tP.app (l3:=(Builtin.zeroCells (Value.int .u8 0).cells (grownCap w (ob.rows.length+s.size) m ob.ty - (ob.rows.length+s.size))).toList) A_ t (CI (H:=H) s) i' r d_ k a' F;refine⟨u,?_,q2,q3⟩;rw[<-Array.getElem?_toList]
      simpa[append_assoc]using q1) W h2
   exact R _ _ _ (by rw[c2];exact l) (.osl _ W (g_ _) Z λ_=>⟨Nat.zero_lt_one,by simp[f],.inl ⟨w.heap.size,_,0,by simp;rfl,H_,λ_=>by simp⟩⟩) e_ o_
  rw[c1]at z_;cases z_
 have D:ob.rows=[]:=eq_nil_of_length_eq_zero c4;by_cases h0:s.size=0
 ·have hb0:fO s.data.toList=[]:=eq_nil_of_length_eq_zero (by rw[f];exact h0);have l:(Builtin.append_ #[T,f_] o.type #[.slice none 0 0,.string s]).run P w=.ok (.slice none 0 0) w:=by
   have hf:=run_firstCells_string (P:=P) w 1 s;rw[h0]at hf;simp[Builtin.append_,run_underlying hT,run_underlying hS,sizeOf,typeInfo,hi,A,Builtin.lenOf,h0,hf]
  have ⟨e_,o_⟩:=Rel.tick (H':=H.set id ⟨ob.g+1,1,ob.ty,ob.rows++fO s.data.toList⟩) (ob':=⟨ob.g+1,1,ob.ty,ob.rows++fO s.data.toList⟩) hr u_ H_ q.symm Z (by simp[hb0]) W h2;exact R _ _ ι (by rw[c2];exact l) (.osl _ W (g_ _) Z λ_=>⟨Nat.zero_lt_one,by simp[f],.inr ⟨c1,Z,Z,by simp[D,h0]⟩⟩) e_ o_
 have hr0:=run_append_nil_string (P:=P) w T f_ o.type ob.ty i (.int .u8 0) hT hS hi hzi s X X (by rw[hby];omega);have B:(strCells s).length=s.size:=strCells_length s;have z_:(s.data.map λb=>Value.int .u8 b.toNat)=(strCells s).toArray:=by
  apply Array.ext';simp[strCells]
 rw[z_]at hr0;have hml0:s.size<=maxLen:=X
 have hge:=grownCap_ge w s.size 0 ob.ty;have y_:=grownCap_le_maxLen w s.size 0 ob.ty hml0;have hz1:(Value.int IntKind.u8 0).cells.size=1:=rfl;have ⟨e_,o_⟩:=Rel.place (H':=H.set id ⟨ob.g+1,1,ob.ty,ob.rows++fO s.data.toList⟩) (id:=id) (cap:=grownCap w s.size 0 ob.ty) (ob':=⟨ob.g+1,1,ob.ty,ob.rows++fO s.data.toList⟩)
  (cs':=(strCells s).toArray++Builtin.zeroCells (Value.int .u8 0).cells (grownCap w s.size 0 ob.ty - s.size))
  (w':=w.drew.alloc (.cells ((strCells s).toArray++Builtin.zeroCells (Value.int .u8 0).cells (grownCap w s.size 0 ob.ty - s.size)) ob.ty)) hr Z Z Z Z
  (λo' c_=>by rw[u_]at c_;cases c_;simp) Nat.zero_lt_one (by
   simp only[Array.size_append,size_toArray,size_zeroCells,hz1,B];omega) (by simp only[j_,f,D,length_nil,r9];exact hge) y_ hrl (λi' r d_ k a' F=>by
    simp only[D,nil_append]at d_;have ⟨u,q1,q2,q3⟩:=CI (w:=w) (I:=I) (ι:=ι) (H:=H) s i' r d_ k a' F;have hlt:=(m9.1 q1).1;refine⟨u,?_,q2,q3⟩;rw[Array.getElem?_append_left (by simpa using hlt)]
    simpa using q1) W h2
 exact R _ _ _ (by rw[c2];exact hr0) (.osl _ W (g_ _) Z λ_=>⟨Nat.zero_lt_one,by simp[f],.inl ⟨w.heap.size,_,0,by simp;rfl,by simp[D],λ_=>by simp⟩⟩) e_ o_
theorem wF{e}{id g n k}{ob}{s}{rows'}(p:o.op=.call {callee:=.builtin .append,args:=#[x,y],argTypes:=#[T,f_]})(l:fG P T e 1)(hS:P.underlying f_=some .string)(d:EI P e 1 1)(h:∀i,P.info? e=some i->i.zero=some (.int .u8 0))
  (t:aO E x=some (.osl id g 0 n)) (m:H.get id=some ob) (v:ob.g=g) (b:ob.sz=1) (f:ob.ty=e) (q:ob.rows.length=n)
  (r:aO E y=some (.pv (.str s))) (c:n+s.size<=140737488355328) (u:n+s.size=k) (a:ob.rows++fO s.data.toList=rows') :
  cN P N o E H (.osl id (g+1) 0 k) ((id,⟨g+1,1,e,rows'⟩)::H):=by
 subst u a;exact cN.congr (RZ p l.1 hS d.1 h t m v b f q r c Z) (λj=>xQ _ _ _ j)
end
end
section
theorem Clo.up{H H'}(d:∀i,(H.get i).isSome=true->(H'.get i).isSome=true){a}(h:Clo H a):Clo H' a:=by
 induction h with
 |any=>exact .any
 |pv p=>exact .pv p
 |pad rows i k=>exact .pad _ i k
 |ref h=>exact .ref (d _ h)
 |osl h=>exact .osl (d _ h)
 |clo h c=>exact .clo c
 |bnd h c=>exact .bnd c
 |agg h c=>exact .agg c
 |tup h c=>exact .tup c
 |mp h=>exact .mp (d _ h)
 |it h=>exact .it (d _ h)
 |yld h=>exact .yld (d _ h)
 |raw x ts=>exact .raw x _
 |osc h=>exact .osc (d _ h)
theorem Clo.app{D K}{a}(h:Clo K a):Clo (D++K) a:=h.up λi hi=>by
 rw[gH]
 grind
theorem dG.app{D K}(c:∀p∈D,∀r∈p.2.rows,∀a∈r,Clo (D++K) a)(g:dG K):dG (D++K):=by
 intro id o b;rw[gH]at b;cases e:D.get _ with
 |some x =>
  rw[e]at b;cases b;exact c _ (dY e)
 |none =>
  rw[e]at b;exact λr d a f=>(g _ o b r d a f).app
theorem Sub.front{D b K}(f:∀p∈D,K.get p.1=none)(c:∀p∈b,D.get p.1=some p.2):Sub (b++K) (D++K):=by
 intro id o a;rw[gH]at a |-;cases e:b.get _ with
 |some x =>
  rw[e]at a;cases a;rw[c _ (dY e)]
 | none =>
  rw[e]at a;cases d:D.get _ with
  |none=>exact a
  |some x =>
   have:=f _ (dY d);rw[this]at a;cases a
theorem OL.front{G0 D a K}(g:∀p∈a,D.get p.1=some p.2)(f:∀p∈D,G0.get p.1=none):OL G0 (a++K) (D++K):=by
 intro id d;have c:D.get id=none:=by
  cases e:D.get _ with
  |none=>rfl
  |some x =>
   have:=f _ (dY e);rw[this]at d;cases d
 have b:a.get id=none:=by
  cases e:a.get _ with
  |none=>rfl
  |some x =>
   have:=g _ (dY e);rw[c]at this;cases this
 rw[gH,gH,c,b]
theorem cL.front{G0}{E E'}{K}(D d)(z:Dk E (d++K) E')(j:∀p∈D,K.get p.1=none)(g:∀p∈d,D.get p.1=some p.2)(k:∀p∈d,∀r∈p.2.rows,∀a∈r,Clo (d++K) a)(y:dG K)
  (h:∀p∈D,G0.get p.1=none):cL G0 E (D++K) E' (d++K):=by
 intro G n N a w f;have ⟨I,q,l,e,m⟩:=f.rel;subst n;have b:=Sub.front j g;refine⟨f.defers,f.size,I,q,l.restrict b (dG.app k y),e.restrict b (OL.front g h),λt v x=>?_⟩;have ⟨s,i⟩:=z.spec _ (iL x);have ⟨c,o,u⟩:=m t v s;exact⟨c,o,u.restrict b i⟩
section
variable{F:Fence}{P:Program}{b:Frame}{a:Act}{k:List Item}{cs:List Frame}{Q:Exit->Act->World->Prop}
theorem rM{c}:step P (lone (b.atR a (.code (.scope c)::k)) cs w)=.next (lone (b.atR a (.code c::.inScope c::k)) cs w) :=step_lone_go (Z)
theorem UA{c}:step P (lone (b.atR a (.inScope c::k)) cs w)=.next (lone (b.atR a k) cs w) :=step_lone_go (Z)
theorem GI{c}(h:c.wpIn F n P (Exit.noGoto Q) a w):(Code.scope c).wpIn F n P Q a w:=by
 intro b k cs r q o;have j:(lone (b.atR a (.code (.scope c)::k)) _ w).fenced P F:=fenced_calm q o Z;obtain ⟨e,f,g,i,d⟩:=h b _ _ r q o;cases e with
 |normal=>exact⟨.normal,f,g,i,.head j rM (StepsIn.trans d (.one (fenced_calm q o Z) UA))⟩
 | exit id =>
  have hx:exitTo _ (.inScope c::k)=exitTo id k:=rfl;exact⟨_,f,g,i,λk' u=>.head j rM (d.1 _ F_),
   λp u=>let ⟨m,s,t⟩:=d.2 p F_;⟨m,s,.head j rM t⟩⟩
 |goto l=>exact i.elim
 |ret=>exact⟨_,f,g,i,.of_steps (.one j rM) d⟩
 |panic ch=>exact⟨_,f,g,i,.of_steps (.one j rM) d⟩
 |outgrown=>exact⟨_,f,g,i,.of_steps (.one j rM) d⟩
end
def Wc(Q:Exit->cY->aF->Prop):Exit->cY->aF->Prop
 |.goto _,_,_=>False
 |e,E,H=>Q e E H
theorem Bq{P}{G0}{N}{E}{H}{Q}{c}(h:gG P G0 N c (Wc Q) E H):gG P G0 N (.scope c) Q E H:=by intro G d a w i ro g;refine GI (wpIn_mono (h G d a w i _ g) ?_);rintro e a' w' ⟨f,b,q,s⟩;cases e<;>first|exact⟨f,b,q,s⟩|exact q.elim
theorem yR{P}{G0}{N}{E}{H H2}{ops}{id n t}{d}{A_}{Q}(h:gG P G0 N (.region id ops d) (λe c H1=>e=.normal/\ja n t A_ E H2 c H1) E H)(g:Q .normal ((t,.pv (.bool A_))::E) H2):gG P G0 N (.region id ops d) Q E H:=by intro G f a w k ro j;refine wpIn_mono (h G f a w k _ j) ?_;rintro e a' w' ⟨c,H1,⟨rfl,i⟩,b⟩;exact⟨_,_,g,(i.ent) G f N _ _ b⟩
def DQ(H:aF):aF->Prop
 | []=>True
 |(_,o)::r=>(∀r∈o.rows,∀a∈r,Clo H a)/\DQ H r
theorem DQ.spec{H}:∀ {L},DQ H L->∀p∈L,∀r∈p.2.rows,∀a∈r,Clo H a
 |(i,o)::L,h,p,b=>by
  rcases l9.1 b with rfl|b
  ·exact h.1
  exact DQ.spec h.2 p b
theorem dG.ofL{H}(h:DQ H H):dG H:=λ_ _ a=>h.spec _ (dY a)
def lo(D:aF)(n:Nat):Prop:=∀p∈D,900<=p.1/\p.1<n
def clear(K:aF):Prop:=∀i,900<=i->i<1000->K.get i=none
theorem Fin.of_ent{G0 H H'}{r r'}(h:cL G0 [(0,r)] H [(0,r')] H'):Fin G0 H r H' r':=by
 intro G b I i w v f a h3;have ⟨_,_,I',ι',k1,k2,d⟩:=h G b 1 ⟨#[v],G.ds⟩ w ⟨tU.nil _ _ _,Z,I,i,f,a,λt x g=>by
  simp[cY.get]at g;cases e:Nat.beq 0 t with
  |true=>simp_all
  |false=>simp_all⟩
 have ⟨c,hc,hv⟩:=d 0 _ Z
 grind
theorem Sub.front'{D b K}(f:∀p∈D,(b.get p.1).isSome=true\/K.get p.1=none)(c:∀p∈b,D.get p.1=some p.2):Sub (b++K) (D++K):=by
 intro id o a;rw[gH]at a |-;cases e:b.get _ with
 |some x =>
  rw[e]at a;cases a;rw[c _ (dY e)]
 | none =>
  rw[e]at a;cases d:D.get _ with
  |none=>exact a
  |some x =>
   rcases f _ (dY d)with h|h;all_goals simp_all
theorem OL.front'{G0 D a K}(c:∀p∈a,D.get p.1=some p.2)(b:∀p∈D,(a.get p.1).isSome=true\/G0.get p.1=none):OL G0 (a++K) (D++K):=by
 intro id hi;rw[gH,gH];cases e:a.get _ with
 |some x=>rw[c _ (dY e)]
 | none =>
  cases d:D.get _ with
  |none=>rfl
  |some x =>
   rcases b _ (dY d)with h|h;all_goals simp_all
theorem Fin.front'{G0 K}{r}(D d)(k:Clo (d++K) r)(i:∀p∈D,(d.get p.1).isSome=true\/K.get p.1=none)(e:∀p∈d,D.get p.1=some p.2)(j:∀p∈d,∀r∈p.2.rows,∀a∈r,Clo (d++K) a)(o:dG K)
  (f:∀p∈D,(d.get p.1).isSome=true\/G0.get p.1=none):Fin G0 (D++K) r (d++K) r:=by
 intro G g I l w v m n h;subst g;have b:=Sub.front' i e;exact⟨I,l,m.restrict b (dG.app j o),n.restrict b (OL.front' e f),h.restrict b k⟩
theorem Fin.get'{G0 H H'}{r}(a:∀j,H'.get j=H.get j):Fin G0 H r H' r:=Fin.of_ent (cL.get' ⟨⟨_,Z,Z⟩,T_⟩ a)
end
section
section
variable{P:Program}
def KP(ob:Ob):Ob:=⟨ob.g+1,ob.sz,ob.ty,[]⟩
def vJ(ι:lQ)(id:Nat):lQ:=λx=>if x=id then none else ι x
theorem Step.dead{w}{I}{ι}{H}{id}{ob}(g:H.get id=some ob):Step I ι H w (qV I ι id) (vJ ι id) ((id,KP ob)::H) w where
 os:=rfl
 tape:=rfl
 output:=rfl
 size:=g_ _
 froz:=λ_ _ _=>rfl
 imm:=λ_ h=>.inl h
 immNew:=λb c=>by
  rcases c with c|⟨a,c⟩
  ·simp_all
  exact .inr (.inl ⟨id,ob,a,g,c⟩)
 own:=λb c=>by
  have ⟨j,o,a,d,f⟩:=c;by_cases e:j=id
  ·rw[vJ,b7 e]at f;cases f
  rw[vJ,a8 e]at f;rw[get_cons_other _ _ e]at d;exact .inl ⟨j,o,a,d,f⟩
 keep:=λ_ _ _=>rfl
 objs:=λj o d=>by
  by_cases e:j=id
  ·subst e;rw[g]at d;cases d;exact⟨KP _,get_cons_same _ _ _,le_succ _,λh=>absurd h (by simp[KP])⟩
  exact⟨o,by rw[get_cons_other _ _ e];exact d,g_ _,λ_=>⟨a8 e,Z,λ_=>g_ _⟩⟩
theorem Rel.dead{I}(g:Rel I ι H w)(s:H.get id=some ob)(q:0<ob.sz):Rel (qV I ι id) (vJ ι id) ((id,KP ob)::H) w:=by
 have p:=Step.dead (w:=w) (I:=I) (ι:=ι) s;refine⟨λb d=>?_,λj o f=>?_,λj u o z b c y f m n i=>?_,g.glob.mono (λ_ _=>rfl) (λ_ h=>.inl h)⟩
 ·rcases d with d|⟨k,d⟩
  ·exact g.imm b d
  exact g.lt ⟨id,ob,k,s,d⟩
 ·by_cases e:j=id
  ·subst e;rw[get_cons_same]at f;cases f;exact .inl ⟨q,by simp[KP],.inr ⟨b7 Z,Z⟩⟩
  rw[get_cons_other _ _ e]at f;refine(g.obj j o f).keep (a8 e) (λb k B _=>⟨Z,λh=>?_⟩) (λr _ a _ v A=>A.mono g p);rintro(d|⟨l,d⟩)
  ·grind
  exact e (g.inj j id o ob b k l f s B d)
 have x:j≠id:=λe=>by rw[vJ,b7 e]at n;cases n
 have t:u≠id:=λe=>by rw[vJ]at i;grind
 rw[vJ,a8 x]at n;rw[vJ,a8 t]at i;rw[get_cons_other _ _ x]at f;rw[get_cons_other _ _ t]at m;exact g.inj j u o z b c y f m n i
theorem aU.retire{f:FuncId}{args args':List AV}{Q}(ps:List (List PV))(h:aU P f args' ((id,KP ob)::H) Q)(l:H.get id=some ob)(hsz:Nat.blt 0 ob.sz=true)(m:ob.rows=ps.map (·.map .pv))
  (hl:args.length=args'.length) (x:∀(i:Nat) (a a':AV),args[i]?=some a->args'[i]?=some a'->a=a'\/∃off len,a=.osl id ob.g off len/\a'=.pv (.sl ((ps.take (off+len)).drop off))):aU P f args H Q:=by
 intro I o w z k hlen u;have g:=Step.dead (w:=w) (I:=I) (ι:=o) l;refine(h _ _ w z (k.dead l F_) X ?_).mono ?_
 ·intro i v a' y c;have d:i<args.length:=by
   have:=(m9.1 c).1;omega
  have b:=u i v _ y (m_ d);rcases x i _ a' (m_ d) c with e|⟨off,len,B,d_⟩
  ·rw[e]at b;exact b.mono k g
  rw[B]at b;rw[d_];exact .pv (E4 k l m b)
 rintro e w' ⟨r,s,n,j,v,rfl,q,p,t,A⟩;exact⟨r,s,n,j,v,Z,q,p,t,g.trans A⟩
end
end
section
def Ko(v:Value):Prop:=∃p,v=.pointer p
theorem ev{P}{e}{s}(c:P.cellsOf e=s+1)(a)(d:1<=a):liesAt P P.depth e a 0 e 1=true:=by have b:P.depth=(2*(P.types.size+Made.depth)+1)+1:=rfl;rw[b];simp[liesAt,Bool.or_eq_true];rw[b];simp[rowAt,c,d,sameLayout]
theorem LU{I}{ι}{H}{w}{v}{id g}{ob}(k:Rel I ι H w)(h:VRel w I ι H v (.ref id g 0 0))(c:H.get id=some ob)(f:ob.g=g)(d:ob.rows≠[]):
  ∃b cap,v=.pointer (some ⟨b,0,none⟩)/\w.shape? b=some (ob.ty,cap*ob.sz)/\0<cap/\0<ob.sz:=by
 have ⟨b,cap,i,e2⟩:=pN h c f;have e:=QW h c f;obtain ⟨_,_,⟨b',cap',cs,a,l,f3,j,f5,_⟩|⟨a,_⟩⟩:=(k.obj _ _ c).cells e
 ·rw[i]at a;cases a;refine⟨b,cap,F_,by simp[World.shape?,l,j],?_,e⟩;have:=length_pos_iff.2 d;omega
 rw[i]at a;cases a
theorem VRel.sat_inv{w}{I}{ι}{H}{v}{p}(h:VRel w I ι H v (.pv (.sat p))):p v:=by
 have:=h.pv_inv;cases this with
 |sat h1 a=>exact a
section
variable{P:Program}{N:Nat}{o:Oper}{E:cY}{f_ T t t' e:TypeId}{x y:Operand}
theorem BR{P:Program}{t}{n}(h:(P.info? t).map (·.size)=some n):∃j,P.info? t=some j/\j.size=n:=F_
theorem GZ(i:o.op=.convert f_ T x)(hS:P.underlying f_=some (.pointer t))(v:P.underlying T=some .unsafePointer)(hi:(P.info? t).map (·.size)=some (n+1))(k:aO E x=some (.ref id g 0 0))(s:H.get id=some ob)(h:ob.g=g)(d:ob.rows≠[]):cN P N o E H (.ref id g 0 0) H :=.of_run λa w I ι l z=>by
  have f:=aJ z k;have ⟨b,cap,q,m,p,r⟩:=LU l f s h d;have ⟨j,u,h2⟩:=BR hi;have c:=Nat.mul_pos p r;refine⟨_,?_,f⟩;simp only[execOp,i,q];rw[Sem.run_bind,Lib.run_to_unsafe w _ hS v u X m c];rfl
theorem OC(r:o.op=.convert f_ T x)(hS:P.underlying f_=some .unsafePointer)(z:P.underlying T=some (.pointer t))(hi:(P.info? t).map (·.size)=some (n+1))(s:aO E x=some (.ref id g 0 0))(q:H.get id=some ob)(B:ob.g=g)(c:ob.rows≠[])(d:ob.ty=t)(f:ob.sz=n+1):cN P N o E H (.ref id g 0 0) H :=.of_run λa w I ι u A=>by
  have k:=aJ A s;have ⟨b,cap,v,i,p,e4⟩:=LU u k q B c;have ⟨j,l,m⟩:=BR hi;have h:P.cellsOf t=n+1:=by simp[Program.cellsOf,l,m]
  refine⟨_,?_,k⟩;simp only[execOp,r,v];rw[d]at i;rw[Sem.run_bind,Lib.run_from_unsafe w ⟨b,0,none⟩ hS z l i (ev h _ (by rw[h,f,Nat.mul_div_cancel _ X];exact p))];rfl
theorem J1{i k}(r:o.op=.binOp .neq t x y t')(s:P.underlying t=some (.pointer e))(hi:(P.info? e).map (·.size)=some (n+1))(m:aO E x=some (.ref id g i k))(v:aO E y=some (.ref id g i k))(f:H.get id=some ob)(c:ob.g=g):cN P N o E H (.pv (.bool false)) H :=.of_run λa w I ι _ h=>⟨.bool _,by
  have ⟨b,cap,p,l⟩:=pN (aJ h m) f c;have ⟨b',cap',d,q⟩:=pN (aJ h v) f c;rw[p]at d;cases d;have ⟨j,u,h2⟩:=BR hi;simp[execOp,r,l,q,eqGuard_at_pointer,Sem.run_bind,Sem.run_pure,Result.andThen_ok,Lib.run_neq_ptr_same w _ s u],.pv (.bool _)⟩
theorem gh(v):Wa P Extern.AbiNoEscape.same H [v] v:=by
 intro w I ι b a h;have ⟨l⟩:=b
 match l,a with
 | [u],_=>exact⟨u,Z,h 0 u v Z Z⟩
theorem G4(l:o.op=.call {callee:=.builtin .unsafeSliceData,args:=#[x],argTypes:=#[T]})(q:aO E x=some (.osl id g 0 n))(f:H.get id=some ob)(h:ob.g=g)(hn:0<n):cN P N o E H (.ref id g 0 0) H :=.of_run λa w I ι r s=>by
  have k:=aJ s q;have j:=qA k f h;obtain ⟨hl,⟨b,c,oo,i,m,e3⟩|⟨_,_,_,e4⟩⟩:=jK k f h
  ·obtain ⟨_,_,⟨b',cap',cs,d,f2,f3,f4,f5,_⟩|⟨d,_⟩⟩:=(r.obj _ _ f).cells j
   ·rw[i]at d;cases d;refine⟨.pointer (some ⟨b,0,none⟩),?_,.ref _ f (Nat.le_of_eq h.symm) Z λ_=>⟨j,b,c,i,H_⟩⟩;have p:c≠0:=X
    simp[execOp,l,resolve,invoke,builtin,m,Lib.run_unsafeSliceData_row w _ _ _ _ _ p]
   rw[i]at d;cases d
  omega
theorem EM(G:o.op=.call {callee:=.builtin .unsafeSliceData,args:=#[x],argTypes:=#[T]})(c_:P.underlying o.type=some (.pointer e))(L:aO E x=some (.osl id g 0 0))(r:H.get id=some ob)(D:ob.g=g):cN P N o E H (.pv (.sat Ko)) H:=by
 intro a w I l _ _ m u_ K Q e_;have F:=aJ u_ L;have v_:=qA F r D;have d:∀(c:Value) (f:World),(Builtin.unsafeSliceData_ #[T] o.type #[a.eval x]).run P w=.ok c f->Ko c->Rel I l H f->Step I l H w I l H f->o.wpW P a w K Q:=λc f j q u v=>by
  have h:c.oneCell'=true:=by obtain ⟨p,rfl⟩:=q;rfl
  unfold Oper.wpW;have:(execOp a.eval o).run P w=.ok (.value c) f:=by
   simp[execOp,G,resolve,invoke,builtin,j]
  rw[this];exact e_ c f I l _ H ⟨Z,Z⟩ (.pv (.sat h q)) u v
 obtain ⟨hl,⟨b,B,s,d_,k,e3⟩|⟨_,k,_,e4⟩⟩:=jK F r D
 ·by_cases q:B=0
  ·obtain ⟨_,_,⟨b',cap',R,i,o_,f3,f4,f5,_⟩|⟨i,_⟩⟩:=(m.obj id ob r).cells v_
   ·rw[d_]at i;cases i;obtain ⟨u,v⟩:=m.push _;refine d (.pointer (some ⟨w.heap.size,0,none⟩)) _ ?_ ⟨_,Z⟩ u v;rw[k,q];exact Lib.run_unsafeSliceData_zero w #[T] o.type e c_ ⟨b,s,none⟩ 0 (ob.ty,R.size) (by simp[World.shape?,o_])
   rw[d_]at i;cases i
  refine d (.pointer (some ⟨b,s,none⟩)) _ ?_ ⟨_,Z⟩ m (Step.refl _ _ _ _);rw[k];exact Lib.run_unsafeSliceData_row w #[T] o.type ⟨b,s,none⟩ 0 _ X
 refine d (.pointer none) _ ?_ ⟨_,Z⟩ m (Step.refl _ _ _ _);rw[k];rfl
theorem zL{c}(d:o.op=.call {callee:=.builtin .unsafeString,args:=#[x,y],argTypes:=#[T,c]})(h:aO E x=some (.pv (.sat Ko)))(f:aO E y=some (.pv (.int .i64 0))):cN P N o E H (.pv (.str ⟨#[]⟩)) H :=.of_run λa w I ι hr b=>by
  have j:=(aJ b f).int_inv;have i:=(aJ b h).sat_inv;have ⟨p,k⟩:=i;refine⟨_,?_,.pv (.str _)⟩;simp[execOp,d,resolve,invoke,builtin,k,j,Lib.run_unsafeString_none w T _ _ p];rfl
theorem Rel.lost{w':World}(q:Rel I ι H w)(D:H.get id=some ob)(u_:0<ob.sz)(u:ι id=some (b,cap))(d_:w'.os=w.os)(m:w'.tape=w.tape)(s:w'.output=w.output)(l:w'.heap.size=w.heap.size)
  (F:∀c,c≠b->w'.heap[c]?=w.heap[c]?):Rel I (vJ ι id) ((id,KP ob)::H) w'/\Step I ι H w I (vJ ι id) ((id,KP ob)::H) w':=by
 have B:NG ι H b:=⟨id,ob,cap,D,u⟩;have p:Step I ι H w I (vJ ι id) ((id,KP ob)::H) w':=by
  refine⟨d_,m,s,X,λa _ c_=>?_,λ_ h=>h,λ_ h=>.inl h,λc z=>?_,λc _ c_=>F c (λe=>c_ (e▸B)),λj o f=>?_⟩
  ·unfold World.frozen?
   grind
  ·have ⟨j,o,o_,f,i⟩:=z;by_cases e:j=id
   ·rw[vJ,b7 e]at i;cases i
   rw[vJ,a8 e]at i;rw[get_cons_other _ _ e]at f;exact .inl ⟨j,o,o_,f,i⟩
  by_cases e:j=id
  ·subst e;rw[D]at f;cases f;exact⟨KP ob,get_cons_same _ _ _,le_succ _,λh=>absurd h (by simp[KP])⟩
  exact⟨o,by rw[get_cons_other _ _ e];exact f,g_ _,λ_=>⟨a8 e,Z,λ_=>g_ _⟩⟩
 refine⟨⟨λc z=>by rw[l];exact q.imm c z,λj o f=>?_,λj L o v_ c d Q f A i k=>?_,p.glob q⟩,p⟩
 ·by_cases e:j=id
  ·subst e;rw[get_cons_same]at f;cases f;exact .inl ⟨u_,by simp[KP],.inr ⟨b7 Z,Z⟩⟩
  rw[get_cons_other _ _ e]at f;exact(q.obj j o f).keep (a8 e) (λc d R _=>⟨F c (λz=>e (q.inj j id o ob b d cap f D (by rw[<-z];exact R) u)),λh=>h⟩) (λr _ a _ v e_=>e_.mono q p)
 have K:j≠id:=λe=>by rw[vJ,b7 e]at i;cases i
 have G:L≠id:=λe=>by rw[vJ,b7 e]at k;cases k
 rw[vJ,a8 K]at i;rw[vJ,a8 G]at k;rw[get_cons_other _ _ K]at f;rw[get_cons_other _ _ G]at A;exact q.inj j L o v_ c d Q f A i k
theorem BH{z:TypeId}{l:List UInt8}(v_:o.op=.call {callee:=.builtin .unsafeString,args:=#[x,y],argTypes:=#[T,z]})(y_:P.underlying T=some (.pointer e))(hi:(P.info? e).map (·.size)=some 1)(W:aO E x=some (.ref id g 0 0))(hy:aO E y=some (.pv (.int .i64 n)))
  (q:H.get id=some ob) (hg:ob.g=g) (h:ob.sz=1) (r:ob.ty=e) (d:ob.rows=fO l) (A_:l.length=n) (hn:0<n) (p:n<=9223372036854775807) (u_:(⟨l.toArray⟩:B_)=s):cN P N o E H (.pv (.str s)) ((id,KP ob)::H):=by
 subst u_ A_;intro a w I G _ _ B F K Q hk;have o_:=aJ F W;have ⟨b,cap,m,d_⟩:=pN o_ q hg;have c_:=(aJ F hy).int_inv;have ⟨j,h3,R⟩:=BR hi;have z_:P.cellsOf e=1:=by simp[Program.cellsOf,h3,R]
 have hlen:ob.rows.length=l.length:=by rw[d];simp[fO]
 obtain ⟨_,_,⟨b',cap',A,k,D,f3,L,f5,_,f6⟩|⟨k,_⟩⟩:=(B.obj id ob q).cells X
 ·rw[m]at k;cases k;rw[h,Nat.mul_one]at L;have f:∀j x,l[j]?=some x->w.cell? ((⟨b,0,none⟩:Addr).add j)=some (.int .u8 x.toNat):=λj x hj=>by
   have ⟨v,u,_,q3⟩:=f6 j [.pv (.int .u8 x.toNat)] (by rw[d,fO,r7,hj];rfl) 0 _ Z;rw[h,Nat.mul_one,Nat.add_zero,q3.int_inv]at u;rw[Addr.add_lit,r9,cell_of_row w b _ A ob.ty (0,0) D];exact u
  have i:=Lib.run_unsafeString_row (P:=P) w T z o.type e y_ z_ b A.size (by rw[<-r];simp[World.shape?,D]) l (λh0=>by simp_all) X p f;have e_:∀c,c≠b->(w.freeze ⟨b,0,none⟩ l.length).heap[c]?=w.heap[c]?:=λc hcb=>by
   unfold World.freeze
   grind
  have ⟨k1,k2⟩:=B.lost (w':=w.freeze ⟨b,0,none⟩ l.length) q X m (by unfold World.freeze;all_goals grind) (by unfold World.freeze;all_goals grind) (by unfold World.freeze;all_goals grind) (by unfold World.freeze;split<;>simp) e_;unfold Oper.wpW;have:(execOp a.eval o).run P w=.ok (.value (.string ⟨l.toArray⟩)) (w.freeze ⟨b,0,none⟩ l.length):=by
   rw[h]at d_;simp[execOp,v_,resolve,invoke,builtin,d_,c_,i]
  rw[this];exact hk _ _ I (vJ G id) _ _ ⟨Z,Z⟩ (.pv (.str _)) k1 k2
 rw[m]at k;cases k
end
end
section
theorem rR{w}{I}{ι}{H}{v}{id g off len c}{ob}(h:VRel w I ι H v (.osc id g off len c))(hH:H.get id=some ob)(hg:ob.g=g):
  0<ob.sz/\len<=c/\((∃b a,ι id=some (b,off+c)/\v=.slice (some ⟨b,a,none⟩) len c/\(0<c\/off=0->a=off*ob.sz))\/(ι id=none/\v=.slice none 0 0/\off=0/\len=0/\c=0)):=by
 cases h with
 |osc o' h1 h2 _ h3 =>
  simp_all
theorem uh{w}{I}{ι}{H}{v}{id g off len}{ob}(n:Rel I ι H w)(h:VRel w I ι H v (.osl id g off len))(a:H.get id=some ob)(l:ob.g=g):
  ∃c,len<=c/\c<=maxLen/\VRel w I ι H v (.osc id g off len c):=by
 have j:=qA h a l;obtain ⟨h1,⟨b,i,o,e,f,k⟩|⟨e,f,k,m⟩⟩:=jK h a l
 ·obtain ⟨_,_,⟨b',cap',cs,d,e2,e3,e4,e5,e6,e7⟩|⟨d,_⟩⟩:=(n.obj id ob a).cells j
  ·rw[e]at d;cases d;refine⟨i - off,X,X,?_⟩;subst f;refine .osc _ a X Z λ_=>⟨j,X,.inl ⟨b,o,?_,Z,λhh=>k X⟩⟩
   grind
  rw[e]at d;cases d
 subst f k m;exact⟨0,g_ _,l7 _,.osc ob a X Z λ_=>⟨j,g_ _,.inr ⟨e,Z,Z,Z,Z⟩⟩⟩
theorem Su{w}{I}{ι}{H}{v}{id g off len c}{ob}(h:VRel w I ι H v (.osc id g off len c))(d:H.get id=some ob)(l:ob.g=g)(i:off+len<=ob.rows.length):
  VRel w I ι H v (.osl id g off len):=by
 obtain ⟨j,h1,⟨b,m,f,a,e⟩|⟨f,a,e,k,h6⟩⟩:=rR h d l
 ·subst a;refine .osl _ d X Z λ_=>⟨j,i,.inl ⟨b,off+c,m,f,?_,λhh=>e X⟩⟩
  simp_all
 subst a e k;exact .osl _ d X Z λ_=>⟨j,i,.inr ⟨f,Z,Z,Z⟩⟩
section
variable{P:Program}{G0:aF}{N:Nat}{Q:Exit->cY->aF->Prop}{E:cY}{code:Code}
theorem XO{t id g off n c}{ob}(l:E.get t=some (.osc id g off n c))(o:H.get id=some ob)(r:ob.g=g)(q:off+n<=ob.rows.length)(h:gG P G0 N code Q ((t,.osl id g off n)::E) H):gG P G0 N code Q E H:=by
 intro G k a w i;have ⟨I,s,m,d,j⟩:=i.rel;have ⟨v,p,f⟩:=j t _ l;refine h G k a w ⟨i.defers,i.size,I,s,m,d,λu x b=>?_⟩;by_cases e:t=u
 ·subst e;rw[cY.get_cons_same]at b;cases b;exact⟨v,p,Su f o r q⟩
 rw[cY.get_cons_other _ _ e]at b;exact j u x b
end
section
variable{P:Program}{N:Nat}{o:Oper}{E:cY}{T:TypeId}{x y:Operand}
theorem EP{e}{id g off len c}{ob}(f:o.op=.call {callee:=.builtin .cap,args:=#[x],argTypes:=#[T]})(h:P.underlying T=some (.slice e))(k:aO E x=some (.osc id g off len c))(i:H.get id=some ob)(j:ob.g=g):cN P N o E H (.pv (.int .i64 c)) H :=.of_run λa w I ι _ m=>⟨.int _ c,by
  obtain ⟨_,_,⟨b,oo,_,d,_⟩|⟨_,d,_,_,l⟩⟩:=rR (aJ m k) i j
  ·simp[execOp,f,resolve,invoke,builtin,d,Builtin.cap_,run_underlying h,goInt]
  simp[execOp,f,resolve,invoke,builtin,d,l,Builtin.cap_,run_underlying h,goInt],.pv (.int _ _)⟩
theorem EO{e}{id g off len c}{ob}(f:o.op=.call {callee:=.builtin .len,args:=#[x],argTypes:=#[T]})(h:P.underlying T=some (.slice e))(k:aO E x=some (.osc id g off len c))(i:H.get id=some ob)(j:ob.g=g):cN P N o E H (.pv (.int .i64 len)) H :=.of_run λa w I ι _ m=>⟨.int _ len,by
  obtain ⟨_,_,⟨b,oo,_,d,_⟩|⟨_,d,_,l,_⟩⟩:=rR (aJ m k) i j
  ·simp[execOp,f,resolve,invoke,builtin,d,Builtin.len_,run_underlying h,goInt]
  simp[execOp,f,resolve,invoke,builtin,d,l,Builtin.len_,run_underlying h,goInt],.pv (.int _ _)⟩
theorem bb{lo hi:Option Operand}{j i K:Nat}(G:o.op=.slice T x lo hi none)(hS:fG P T e sz)(A_:aO E x=some (.osc id g off len c))
  (q:H.get id=some ob) (u_:ob.g=g) (s:ob.sz=sz) (p:bnd E lo 0=some (l:Int)) (m:bnd E hi len=some (h:Int)) (c_:l<=h) (v_:h<=c) (u:off+l=j) (A:h - l=i) (B:c - l=K):cN P N o E H (.osc id g j i K) H :=
 .of_run λa w I ι hr z=>by
  have W:=aJ z A_;have ⟨L,hle,k⟩:=rR W q u_;have y_:=hS.1;have d_:=hS.2.1;have n:P.elem T=e:=by simp[Program.elem,y_]
  have f:P.underlying T=some (.slice (P.elem T)):=F_
  subst u A B s;rcases k with⟨b,r,D,v,F⟩|⟨D,v,F,R,Q⟩
  ·have t:=nI (P:=P) (b:=true) (len:=len) (cap:=c) z p m c_ v_;have d:=run_slice_any (P:=P) w T (some ⟨b,r,none⟩) len c f (lo.map a.eval) (hi.map a.eval) none;refine⟨.slice (some ⟨b,if c=l then r else r+l*ob.sz,none⟩) (h - l) (c - l),?_,.osc ob q X Z λ_=>⟨L,X,.inl ⟨b,_,?_,Z,λhlt=>?_⟩⟩⟩
   ·simp only[execOp,G,v];simp only[run_sliceAt_slice w T _ _ _ _ f,Sem.run_bind,d,Option.map_none,t,n,d_,sliced,Result.andThen_ok,Sem.run_pure];by_cases o_:c=l
    ·grind
    simp[o_,Addr.add_lit]
   all_goals grind
  subst F R Q;have e_:h=0:=X
  have f_:l=0:=X
  subst e_ f_;have t:=nI (P:=P) (b:=true) (len:=0) (cap:=0) z p m c_ H_;have d:=run_slice_any (P:=P) w T none 0 0 f (lo.map a.eval) (hi.map a.eval) none;refine⟨.slice none 0 0,?_,.osc ob q X Z λ_=>⟨L,X,.inr ⟨D,Z,Z,Z,Z⟩⟩⟩;simp only[execOp,G,v];simp[run_sliceAt_slice w T _ _ _ _ f,d,t,n,d_,sliced]
def aBJ(w:World)(I:Nat->Prop)(ι:lQ)(H:aF)(sz:Nat)(v:Value)(len:Nat)(rows:List (List AV)):Prop :=(∃a c news,v=.slice (some a) len c/\rows.length<=len/\news.length=rows.length*sz/\(∀j u,news[j]?=some u->w.cell? (a.add j)=some u)/\(∀u∈news,u.oneCell'=true)/\tP w I ι H sz news rows) \/
 (v=.slice none 0 0/\len=0/\rows=[])
theorem tP.take{I}{l:List Value}{rows}(h:tP w I ι H sz l rows)(hl:∀r∈rows,r.length=sz)(k:Nat):tP w I ι H sz (l.take (k*sz)) (rows.take k):=by
 intro i r b j a d;rw[getElem?_take]at b
 split at b
 ·have ⟨u,e,c,f⟩:=h i r b j a d;have hjs:j<sz:=G_
  refine⟨u,?_,c,f⟩;rw[getElem?_take,b7]
  ·exact e
  have:(i+1)*sz<=k*sz:=mul_le_mul_right _ X;rw[Nat.add_mul]at this;omega
 grind
theorem tP.drop{w}{I}{ι}{H}{sz}{l}{rows}(h:tP w I ι H sz l rows)(k):tP w I ι H sz (l.drop (k*sz)) (rows.drop k):=by
 intro i r b j a c;rw[getElem?_drop]at b;have ⟨u,q1,q2,q3⟩:=h _ r b j a c
 grind
theorem Fl{w}{I}{ι}{H}{sz id g off len c}{ob}{v}(u:Rel I ι H w)(h:VRel w I ι H v (.osc id g off len c))(i:H.get id=some ob)(q:ob.g=g)(f:ob.sz=sz)(k)(hk:k<=len)(e:off+k<=ob.rows.length):
  aBJ w I ι H sz v len ((ob.rows.drop off).take k):=by
 obtain ⟨B,h1,⟨b,p,s,m,l⟩|⟨s,m,l,z,h6⟩⟩:=rR h i q
 ·have A:VRel w I _ H (.slice (some ⟨b,p,none⟩) k c) (.osl _ g _ k) :=
   .osl _ i X Z λ_=>⟨B,e,.inl ⟨b,off+c,p,s,H_,λhh=>l X⟩⟩
  rcases sk u A i q f with⟨a,c',d,n,r,t,d_,D⟩|⟨n,r⟩
  ·injection n with j q2 q3;injection j with j;subst j;exact .inl ⟨_,c,d,m,X,r,t,d_,D⟩
  cases n
 subst l z;have:k=0:=X
 subst this;exact .inr ⟨m,Z,Z⟩
theorem Rel.write{g2:Nat}{cs:Array Value}{d:List Value}{c:List (List AV)}(t:Rel I ι H w)(Q:H.get id=some ob)(p:ι id=some (b,cap))(D:w.heap[b]?=some (.cells cs ob.ty (0,0)))
  (u_:d.length=c.length*ob.sz) (v_:tP w I ι H ob.sz d c) (L:∀r∈c,r.length=ob.sz) (z_:off<=ob.rows.length) (y_:off+c.length<=cap) (F:ob.g<=g2)
  (A_:H'.get id=some ⟨g2,ob.sz,ob.ty,ob.rows.take off++(c++ob.rows.drop (off+c.length))⟩) (h2:∀j,j≠id->H'.get j=H.get j) :
  Rel I ι H' (w.setRow b (cs.toList.take (off*ob.sz)++d++cs.toList.drop (off*ob.sz+d.length)).toArray)/\Step I ι H w I ι H' (w.setRow b (cs.toList.take (off*ob.sz)++d++cs.toList.drop (off*ob.sz+d.length)).toArray):=by
 obtain ⟨p1,q,⟨b',cap',cs',G,R,e3,f_,e5,e5',W⟩|⟨G,_⟩⟩:=(t.obj id ob Q).cells ((t.obj id ob Q).pos p D)
 ·rw[p]at G;cases G;rw[D]at R;cases R;have l:tP w I ι H ob.sz cs.toList ob.rows:=λi r s k a K=>by
   have ⟨v,A,d_,e_⟩:=W i r s k a K;exact⟨v,by simpa using A,d_,e_⟩
  have B:off<=cap:=X
  have o_:(cs.toList.take (off*ob.sz)).length=(ob.rows.take off).length*ob.sz:=by
   have:off*ob.sz<=cap*ob.sz:=mul_le_mul_right _ B;rw[q9,q9,Array.length_toList,f_,Nat.min_eq_left this,Nat.min_eq_left z_]
  have c_:off*ob.sz+d.length=(off+c.length)*ob.sz:=by rw[u_,Nat.add_mul]
  have f:tP w I ι H ob.sz (d++(cs.toList.drop (off*ob.sz+d.length)++[])) (c++ob.rows.drop (off+c.length)):=by
   refine tP.app v_ u_ ?_;rw[c_];exact l.drop _
  rw[append_nil]at f;have m:=tP.app (l3:=[]) (l.take q off) o_ f;rw[append_nil]at m;have n:(cs.toList.take (off*ob.sz)++d++cs.toList.drop (off*ob.sz+d.length)).toArray.size=cap*ob.sz:=by
   have:(off+c.length)*ob.sz<=cap*ob.sz:=mul_le_mul_right _ y_;simp only[size_toArray,j_,q9,q6,Array.length_toList,f_];omega
  refine Rel.update (ob':=⟨g2,ob.sz,ob.ty,ob.rows.take off++(c++ob.rows.drop (off+c.length))⟩) t Q p D F Z Z (λ_=>?_) n ?_ (λr z=>?_) (λi r s k a K=>?_) A_ h2
  ·simp only[j_,q9,q6];omega
  ·simp only[j_,q9,q6];omega
  ·rcases mem_append.1 z with h|h
   ·exact q r (mem_of_mem_take h)
   rcases mem_append.1 h with h|h
   ·exact L r h
   exact q r (mem_of_mem_drop h)
  have ⟨u,A,d_,e_⟩:=m i r s k a K;refine⟨u,?_,d_,e_⟩;rw[getElem?_toArray,append_assoc];exact A
 simp_all
theorem U8{off n}{rows:List (List AV)}(h:n=0):rows.take off++([]++rows.drop (off+n))=rows:=F_
theorem Jg{D f_:TypeId}{f:Nat}{h:List (List AV)}(ho:o.op=.call {callee:=.builtin .copy,args:=#[x,y],argTypes:=#[D,f_]})(hS:fG P D e sz)
  (hd:∀(a:Act) (w:World) (I:Nat->Prop) (ι:lQ),Rel I ι H w->lJ w I ι H E a->∃c,VRel w I ι H (a.eval x) (.osc id g off len c)) (hH:H.get id=some ob) (hg:ob.g=g) (hsz:ob.sz=sz) (A_:off<=ob.rows.length)
  (p:∀(a:Act) (w:World) (I:Nat->Prop) (ι:lQ),Rel I ι H w->lJ w I ι H E a->aBJ w I ι H sz (a.eval y) f h) (hrl2:∀r∈h,r.length=sz) (hn:h.length=n) (z_:min f len=n)
  (o_:∀j,H2.get j=(H.set id ⟨g,sz,ob.ty,ob.rows.take off++(h++ob.rows.drop (off+n))⟩).get j):cN P N o E H (.pv (.int .i64 n)) H2:=by
 intro a w I ι _ _ G W K Q hk;have ⟨c,hv⟩:=hd a w I ι G W;have ⟨hz,h1,L⟩:=rR hv hH hg;have k:Nat.min f len=n:=z_;have v_:=hS.2.1;have u_:=hS.1;subst hg hsz;have A:n=0->(∀j,H2.get j=H.get j):=λh0 j=>by
  rw[o_ j];have hr0:h=[]:=eq_nil_of_length_eq_zero X;subst hr0;rw[U8 h0];by_cases e:j=id
  ·subst e;rw[aF.get_set_same,hH]
  exact aF.get_set_other _ _ e
 have l:∀d:List Value,∀v d_,a.eval y=.slice (some v) f d_->d.length=n*ob.sz->(∀j u,d[j]?=some u->w.cell? (v.add j)=some u)->(Builtin.firstCells ob.sz n (a.eval y)).run P w=.ok d.toArray w:=λd v d_ c_ e2 e3=>by
  rw[c_];exact run_firstCells_some (P:=P) w ob.sz n v f d_ d e2 e3
 rcases L with⟨b,oo,c1,c2,c3⟩|⟨c1,c2,c3,c4,c5⟩
 ·by_cases m:n=0
  ·have ⟨y_,k3⟩:=G.congr (A m);have z:(execOp a.eval o).run P w=.ok (.value (.int .i64 ((0:Nat):Int))) w:=by
    unfold execOp;have F:(Builtin.firstCells ob.sz n (a.eval y)).run P w=.ok #[] w:=by
     rcases p a w I ι G W with⟨v,d_,d,i,B,t,e_,s5,s6⟩|⟨i,B,t⟩
     ·have:=l d v d_ i G_ e_;have R:d=[]:=eq_nil_of_length_eq_zero F_;rw[this,R]
     rw[i];exact run_firstCells_none (P:=P) (w:=w) ob.sz n 0 0
    have q:(Builtin.lenOf (a.eval y)).run P w=.ok f w:=by
     rcases p a w I ι G W with⟨v,d_,d,i,B,t,e_,s5,s6⟩|⟨i,B,t⟩
     ·rw[i];rfl
     rw[i,B];rfl
    simp only[ho,resolve,invoke,builtin,Sem.run_bind,Sem.run_pure,Result.andThen_ok,map_toArray,map_cons,map_nil,c2,Builtin.copy_,run_underlying u_,v_];simp only[getElem?_toArray,getElem?_cons_zero,getElem?_cons_succ,run_underlying u_,Sem.run_bind,Sem.run_pure,Result.andThen_ok,v_,q,k,F];simp[storeCells,goInt,m]
   unfold Oper.wpW;rw[z];subst m;exact hk _ _ I ι _ _ ⟨Z,Z⟩ (.pv (.int _ _)) y_ k3
  obtain ⟨p1,p2,⟨b',cap',cs,c_,e2,e3,e4,e5,e5',e6⟩|⟨c_,_⟩⟩:=(G.obj id ob hH).cells hz
  ·rw[c1]at c_;cases c_;have hoo:=c3 X;subst hoo;rcases p a w I ι G W with⟨v,d_,d,i,B,t,e_,s5,s6⟩|⟨i,B,t⟩
   ·have hnl:d.length=n*ob.sz:=by rw[t,hn]
    have F:=l d v d_ i hnl e_;have hfit:off*ob.sz+0+d.length<=cs.size:=by
     rw[e4,hnl,Nat.add_zero,<-Nat.add_mul];exact mul_le_mul_right _ X
    have hst:=run_storeCells_at P b (off*ob.sz) ob.ty d 0 cs w e2 hfit s5;simp only[Nat.add_zero]at hst;have ⟨y_,k3⟩:=Rel.write (H':=H2) (off:=off) (g2:=ob.g) G hH c1 e2 t s6 hrl2 A_ X (g_ _) (by rw[o_,aF.get_set_same,hn]) (λj hj=>by rw[o_,aF.get_set_other _ _ hj]);unfold Oper.wpW execOp;simp only[ho,resolve,invoke,builtin,Sem.run_bind,Sem.run_pure,Result.andThen_ok,map_toArray,map_cons,map_nil,c2,Builtin.copy_,run_underlying u_,v_];have q:(Builtin.lenOf (a.eval y)).run P w=.ok f w:=by rw[i];rfl
    simp only[getElem?_toArray,getElem?_cons_zero,getElem?_cons_succ,run_underlying u_,Sem.run_bind,Sem.run_pure,Result.andThen_ok,v_,q,k,F,hst];exact hk _ _ I ι _ _ ⟨Z,Z⟩ (.pv (.int _ _)) y_ k3
   omega
  rw[c1]at c_;cases c_
 have m:n=0:=X
 have ⟨y_,k3⟩:=G.congr (A m);have z:(execOp a.eval o).run P w=.ok (.value (.int .i64 ((0:Nat):Int))) w:=by
  unfold execOp;have F:(Builtin.firstCells ob.sz n (a.eval y)).run P w=.ok #[] w:=by
   rcases p a w I ι G W with⟨v,d_,d,i,B,t,e_,s5,s6⟩|⟨i,B,t⟩
   ·have:=l d v d_ i (by rw[t,hn]) e_;have R:d=[]:=eq_nil_of_length_eq_zero (by rw[t,hn,m];simp);rw[this,R]
   rw[i];exact run_firstCells_none (P:=P) (w:=w) ob.sz n 0 0
  have q:(Builtin.lenOf (a.eval y)).run P w=.ok f w:=by
   rcases p a w I ι G W with⟨v,d_,d,i,B,t,e_,s5,s6⟩|⟨i,B,t⟩
   ·rw[i];rfl
   rw[i,B];rfl
  rw[c4]at k;simp only[ho,resolve,invoke,builtin,Sem.run_bind,Sem.run_pure,Result.andThen_ok,map_toArray,map_cons,map_nil,c2,Builtin.copy_,run_underlying u_,v_];simp only[getElem?_toArray,getElem?_cons_zero,getElem?_cons_succ,run_underlying u_,Sem.run_bind,Sem.run_pure,Result.andThen_ok,v_,q,k,F];simp[storeCells,goInt,m]
 unfold Oper.wpW;rw[z];subst m;exact hk _ _ I ι _ _ ⟨Z,Z⟩ (.pv (.int _ _)) y_ k3
end
end
section
section
variable{P:Program}{N:Nat}{o:Oper}{E:cY}{T:TypeId}{x y:Operand}
theorem tQ(t u ty e:TypeId)(i:TypeInfo)(z:Value)(k d_:IntKind)(A:P.underlying t=some (.slice e))(p:P.underlying u=some (.int d_))(hi:P.info? e=some i)(B:i.zero=some z)
  (b:Option Addr) (c d:Nat) (f:List Value) (hf:∀w:World,(∀a:Addr,w.cell? a=w.cell? a)->True) (s:(Builtin.firstCells i.size c (.slice b c d)).run P w.drew=.ok f.toArray w.drew)
  (n:Nat) (h0:0<n) (hs:0<i.size) (hg:d<c+n) (h63:((c+n:Nat):Int)<=9223372036854775807) (hfit:Builtin.nextslicecap (c+n) d*i.bytes<=281474976710656) (h48:n*i.bytes<=281474976710656) :
  (Builtin.append_ #[t,u] ty #[.slice b c d,.int k n]).run P w =
   .ok (.slice (some ⟨w.heap.size,0,none⟩) (c+n) (grownCap w (c+n) d e))
    (w.drew.alloc (.cells (f.toArray++Builtin.zeroCells z.cells n++Builtin.zeroCells z.cells (grownCap w (c+n) d e - (c+n))) e)):=by
 have D:¬ (c+n<=d):=X
 have v:IntKind.i64.wrap (n:Int)=n:=by rw[IntKind.wrap_i64];omega
 have l:¬ (9223372036854775807<((c:Int)+(n:Int))):=X
 have m:¬ (281474976710656<Builtin.nextslicecap (c+n) d*i.bytes):=X
 have j:¬ (281474976710656<(n:Int)*(i.bytes:Int)):=by
  omega
 have g:¬ ((n:Int)<0):=X
 have h:n≠0:=X
 have q:¬ (n*i.size=0):=Nat.mul_ne_zero h X;simp[Builtin.append_,run_underlying A,run_underlying p,sizeOf,typeInfo,zeroValue,hi,B,asInt,asIntOf,v,D,h,g,q,l,m,j,Question.forced,s,newRow,grownCap]
theorem xd{z:Value}{b:List AV}(g:B7 w I ι H z.cells b)(p:b.length=sz)(d:z.cells.size=sz)(v:0<sz)(n:Nat):
  (Builtin.zeroCells z.cells n).toList.length=n*sz/\(∀u∈(Builtin.zeroCells z.cells n).toList,u.oneCell'=true)/\tP w I ι H sz (Builtin.zeroCells z.cells n).toList (List.replicate n b):=by
 have c:∀j,j<n*sz->∃f:j % sz<z.cells.size,(Builtin.zeroCells z.cells n).toList[j]?=some (z.cells[j % sz]):=by
  intro j s;have f:j % sz<z.cells.size:=by rw[d];exact mod_lt _ v
  refine⟨f,?_⟩;rw[Array.getElem?_toList];simp only[Builtin.zeroCells,Array.getElem?_map]
  grind
 have q:(Builtin.zeroCells z.cells n).toList.length=n*sz:=by rw[Array.length_toList,size_zeroCells,d]
 refine⟨q,?_,?_⟩
 ·intro u G;have ⟨j,s⟩:=s8.1 G;have D:j<n*sz:=by
   have:=(m9.1 s).1;rw[q]at this;exact this
  have ⟨f,e⟩:=c j D;rw[e]at s;cases s;have B:j % sz<b.length:=X
  have ⟨u,h,A,_⟩:=g.2 _ _ (m_ B);rw[Array.getElem?_eq_getElem f]at h;cases h;exact A
 intro i r t k av f;rw[getElem?_replicate]at t
 split at t
 ·cases t;rename_i d_;have m:k<sz:=by rw[<-p];exact(m9.1 f).1
  have l:i*sz+k<n*sz:=by
   have:(i+1)*sz<=n*sz:=mul_le_mul_right _ d_;rw[Nat.add_mul]at this;omega
  have ⟨hk2,e⟩:=c _ l;have ⟨u,h,A,F⟩:=g.2 k av f;refine⟨u,?_,A,F⟩;rw[e];rw[Array.getElem?_eq_getElem (by rw[d];exact m)]at h;cases h;congr 2;exact GE m
 cases t
theorem PX{u_:TypeId}{m bytes id2:Nat}{kk kn:IntKind}{q:Int}(ho:o.op=.call {callee:=.builtin .append,args:=#[x,y],argTypes:=#[T,u_]})(hS:fG P T e sz)(z_:P.underlying u_=some (.int kn))(A:EI P e sz bytes)(hZ:eN P e f)(e_:f.length=sz)
  (hx:aO E x=some (.osc id g 0 n c)) (hH:H.get id=some ob) (hg:ob.g=g) (v_:ob.sz=sz) (o_:n<=ob.rows.length)
  (hy:aO E y=some (.pv (.int kk q))) (hq:q=(m:Int)) (hm0:0<m) (hroom:c<n+m) (hk:n+m=k) (p:(n+m)*bytes<=140737488355328) (hid:H.get id2=none)
  (c_:ob.rows.take n++List.replicate m f=rows'):cN P N o E H (.osl id2 0 0 k) ((id2,⟨0,sz,e,rows'⟩)::H):=by
 intro a w I ι _ _ hr he K Q hkk;have hmax:=cb A.2 p;have ⟨⟨i,z,hi,hz,l,W,hzs,hsz0⟩,_⟩:=A;have ⟨t,zv,z1,z2,z3⟩:=hZ;have ezz:t=z:=by
  have:=z1 w;simp[zeroValue,typeInfo,hi,hz]at this;exact this.symm
 subst ezz hg v_ hk c_ hq;have hml:n+m<=maxLen:=by simp only[maxLen];omega
 have hv:=aJ he hx;have hvy:=(aJ he hy).int_inv;have ⟨s,h1,G⟩:=rR hv hH Z;have hT:=hS.1;have p2:=((hr.obj id ob hH).cells s).2.1;have hcr:=B7.of_cells (ZV.rel (w:=w) (I:=I) (ι:=ι) (H:=H) z2) z3;have ⟨zl,_,zr⟩:=xd hcr e_ hzs s m;have hrl:∀r∈ob.rows.take n++List.replicate m f,r.length=ob.sz:=λr hr'=>by
  grind
 have g1:aF.get ((id2,(⟨0,ob.sz,e,ob.rows.take n++List.replicate m f⟩:Ob))::H) id2=some ⟨0,ob.sz,e,ob.rows.take n++List.replicate m f⟩:=get_cons_same _ _ _;have g2:∀j,j≠id2->aF.get ((id2,(⟨0,ob.sz,e,ob.rows.take n++List.replicate m f⟩:Ob))::H) j=H.get j:=λj hj=>get_cons_other _ _ hj;have R:(ob.rows.take n++List.replicate m f).length=n+m:=F_
 have hge:=grownCap_ge w (n+m) c e;have hcm:=grownCap_le_maxLen w (n+m) c e hml;have v:∀(d:List Value),d.length=n*ob.sz->tP w I ι H ob.sz d (ob.rows.take n) ->
   (Builtin.append_ #[T,u_] o.type #[a.eval x,a.eval y]).run P w=.ok (.slice (some ⟨w.heap.size,0,none⟩) (n+m) (grownCap w (n+m) c e)) (w.drew.alloc (.cells (d.toArray++Builtin.zeroCells t.cells m++Builtin.zeroCells t.cells (grownCap w (n+m) c e - (n+m))) e))->o.wpW P a w K Q:=by
  intro d L q2 h;have ⟨k2,k3⟩:=Rel.place (H':=(id2,⟨0,ob.sz,e,ob.rows.take n++List.replicate m f⟩)::H) (id:=id2) (cap:=grownCap w (n+m) c e) (ob':=⟨0,ob.sz,e,ob.rows.take n++List.replicate m f⟩)
   (cs':=d.toArray++Builtin.zeroCells t.cells m++Builtin.zeroCells t.cells (grownCap w (n+m) c e - (n+m)))
   (w':=w.drew.alloc (.cells (d.toArray++Builtin.zeroCells t.cells m++Builtin.zeroCells t.cells (grownCap w (n+m) c e - (n+m))) e)) hr Z Z Z Z
   (λo' ho'=>by simp_all) s (by
    simp only[Array.size_append,size_toArray,size_zeroCells,hzs,L,<-Nat.add_mul]
    simp_all) F_ hcm hrl (λi' r F k' a' hk'=>by
     have ⟨u,f_,t2,t3⟩:=tP.app (l3:=(Builtin.zeroCells t.cells (grownCap w (n+m) c e - (n+m))).toList) q2 (by rw[L,q9,Nat.min_eq_left o_]) zr i' r F k' a' hk';refine⟨u,?_,t2,t3⟩;rw[<-Array.getElem?_toList]
     simpa[append_assoc]using f_) g1 g2
  unfold Oper.wpW execOp;simp only[ho,resolve,invoke,builtin,Sem.run_bind,Sem.run_pure,Result.andThen_ok,map_toArray,map_cons,map_nil,h];exact hkk _ _ I _ _ _ ⟨Z,Z⟩ (.osl _ g1 (g_ _) Z λ_=>⟨s,by rw[R];omega,.inl ⟨w.heap.size,_,0,by simp;rfl,H_,λ_=>by simp⟩⟩) k2 k3
 have B:Builtin.nextslicecap (n+m) c*i.bytes<=281474976710656:=growslice_fits X (by rw[W];exact p);have d_:m*i.bytes<=281474976710656:=by
  have:m*i.bytes<=(n+m)*i.bytes:=mul_le_mul_right _ X;rw[W]at this |-;omega
 rcases G with⟨b,oo,c1,c2,c3⟩|⟨c1,c2,c3,c4,c5⟩
 ·have hoo:oo=0:=by rw[c3 (.inr Z)];simp
  subst hoo;have y_:=Fl hr (show VRel w I ι H (.slice (some ⟨b,0,none⟩) n c) (.osc id ob.g 0 n c)by rw[<-c2];exact hv) hH Z Z n (g_ _) X;rw[drop_zero]at y_;rcases y_ with⟨ad0,c0,d,f_,t2,t3,t4,t5,t6⟩|⟨f_,_⟩
  ·injection f_ with L q2 q3;injection L with L;subst L;have A_:d.length=n*ob.sz:=by rw[t3,q9,Nat.min_eq_left o_]
   have D:=run_firstCells_some (P:=P) w.drew i.size n ⟨b,0,none⟩ n c d (by rw[l];exact A_) (by simpa using t4);have h:=tQ (P:=P) (w:=w) T u_ o.type e i t kk kn hT z_ hi hz (some ⟨b,0,none⟩) n c d (λ_ _=>trivial) D m hm0 (by rw[l];exact s) X X B d_;exact v d A_ t6 (by rw[c2,hvy];exact h)
  cases f_
 subst c4 c5;have D:=run_firstCells_none (P:=P) (w:=w.drew) i.size 0 0 0;have h:=tQ (P:=P) (w:=w) T u_ o.type e i t kk kn hT z_ hi hz none 0 0 [] (λ_ _=>trivial) D m hm0 (by rw[l];exact s) X X B d_;exact v [] H_ (by intro i r F;simp at F) (by rw[c2,hvy];exact h)
theorem zp(ho:o.op=.call {callee:=.builtin .clear,args:=#[x],argTypes:=#[T]})(hS:fG P T e sz)(hZ:eN P e f)(h:f.length=sz)
  (hx:aO E x=some (.osc id g off len c)) (v_:H.get id=some ob) (hg:ob.g=g) (G:ob.sz=sz) (R:off<=ob.rows.length) (s:ob.rows.take off++(List.replicate len f++ob.rows.drop (off+len))=rows') :
  cN P N o E H .any ((id,⟨g,sz,ob.ty,rows'⟩)::H):=by
 intro a w I W _ _ hr he K Q L;have ⟨z,zv,z1,z2,z3⟩:=hZ;subst hg G s;have hv:=aJ he hx;have ⟨v,h1,t⟩:=rR hv v_ Z;have hT:=hS.1;have B:=B7.of_cells (ZV.rel (w:=w) (I:=I) (ι:=W) (H:=H) z2) z3;have p:z.cells.size=ob.sz:=by rw[<-h];exact B.1
 have m:len=0->(execOp a.eval o).run P w=.ok (.value (.tuple #[])) w->o.wpW P a w K Q:=by
  intro u_ c_;have ⟨k2,k3⟩:=hr.congr (H':=(id,⟨ob.g,ob.sz,ob.ty,ob.rows.take off++(List.replicate len f++ob.rows.drop (off+len))⟩)::H) (λj=>by
   subst u_;rw[replicate_zero,U8 rfl];by_cases e:j=id
   ·subst e;rw[get_cons_same,v_]
   exact get_cons_other _ _ e)
  unfold Oper.wpW;rw[c_];exact L _ _ I W _ _ ⟨Z,Z⟩ (.any _) k2 k3
 rcases t with⟨b,oo,z_,A_,c3⟩|⟨z_,A_,c3,c4,c5⟩
 ·by_cases u_:len=0
  ·refine m u_ ?_;unfold execOp;simp only[ho,resolve,invoke,builtin,Sem.run_bind,Sem.run_pure,Result.andThen_ok,map_toArray,map_cons,map_nil,A_,u_,Builtin.clear_];simp[run_underlying hT]
  obtain ⟨p1,p2,⟨b',cap',cs,e_,e2,e3,e4,e5,e5',e6⟩|⟨e_,_⟩⟩:=(hr.obj id ob v_).cells v
  ·rw [z_] at e_;cases e_;have hoo:=c3 X;subst hoo;have q:(Builtin.zeroCells z.cells len).toList.length=(List.replicate len f).length*ob.sz:=by
    rw[Array.length_toList,size_zeroCells,p,length_replicate]
   have n:∀j,j<len*ob.sz->∃A:j % ob.sz<z.cells.size,(Builtin.zeroCells z.cells len).toList[j]?=some (z.cells[j % ob.sz]):=by
    intro j d_;have A:j % ob.sz<z.cells.size:=by rw[p];exact mod_lt _ v
    refine⟨A,?_⟩;rw[Array.getElem?_toList];simp only[Builtin.zeroCells,Array.getElem?_map]
    grind
   have F:∀u∈(Builtin.zeroCells z.cells len).toList,u.oneCell'=true:=by
    intro u hu;have ⟨j,d_⟩:=s8.1 hu;have hjl:j<len*ob.sz:=by
     have:=(m9.1 d_).1;rw[q,length_replicate]at this;exact this
    have ⟨A,e⟩:=n j hjl;rw[e]at d_;cases d_;have hkr:j % ob.sz<f.length:=by rw[h];exact mod_lt _ v
    have ⟨u,f_,q2,_⟩:=B.2 _ _ (m_ hkr);rw[Array.getElem?_eq_getElem A]at f_;cases f_;exact q2
   have hlr:tP w I W H ob.sz (Builtin.zeroCells z.cells len).toList (List.replicate len f):=by
    intro i r y_ k av A;rw[getElem?_replicate]at y_
    split at y_
    ·cases y_;rename_i hlt;have o_:k<ob.sz:=by rw[<-h];exact(m9.1 A).1
     have l:i*ob.sz+k<len*ob.sz:=by
      have:(i+1)*ob.sz<=len*ob.sz:=mul_le_mul_right _ hlt;rw[Nat.add_mul]at this;omega
     have ⟨hk2,e⟩:=n _ l;have ⟨u,f_,q2,q3⟩:=B.2 k av A;refine⟨u,?_,q2,q3⟩;rw[e];rw[Array.getElem?_eq_getElem (by rw[p];exact o_)]at f_;cases f_;congr 2;exact GE o_
    cases y_
   have l:off*ob.sz+0+(Builtin.zeroCells z.cells len).toList.length<=cs.size:=by
    rw[e4,q,length_replicate,Nat.add_zero,<-Nat.add_mul];exact mul_le_mul_right _ X
   have D:=run_storeCells_at P b (off*ob.sz) ob.ty (Builtin.zeroCells z.cells len).toList 0 cs w e2 l F;simp only[Nat.add_zero]at D;have ⟨k2,k3⟩:=Rel.write (H':=(id,⟨ob.g,ob.sz,ob.ty,ob.rows.take off++(List.replicate len f++ob.rows.drop (off+len))⟩)::H) (off:=off) (g2:=ob.g) hr v_ z_ e2 q hlr (λr hr'=>by rw[(mem_replicate.1 hr').2];exact h) R (by rw[length_replicate];omega) (g_ _) (by rw[get_cons_same,length_replicate]) (λj d_=>get_cons_other _ _ d_);unfold Oper.wpW execOp;simp only[ho,resolve,invoke,builtin,Sem.run_bind,Sem.run_pure,Result.andThen_ok,map_toArray,map_cons,map_nil,A_,Builtin.clear_];have ⟨n',hn'⟩:∃n',len=n'+1:=⟨len - 1,X⟩;subst hn';simp only[getElem?_toArray,getElem?_cons_zero,run_underlying hT,Sem.run_bind,Sem.run_pure,Result.andThen_ok,z1,D];exact L _ _ I W _ _ ⟨Z,Z⟩ (.any _) k2 k3
  rw[z_]at e_;cases e_
 refine m c4 ?_;unfold execOp;simp only[ho,resolve,invoke,builtin,Sem.run_bind,Sem.run_pure,Result.andThen_ok,map_toArray,map_cons,map_nil,A_,Builtin.clear_];simp[run_underlying hT]
end
end
section
section
variable{P:Program}{N:Nat}{o:Oper}{E:cY}{T t t':TypeId}{x y:Operand}
theorem ly{e}(w)(h:P.underlying t=some (.slice e))(a)(n c b c'):(binOp .eql t (.slice a n c) (.slice none b c')).run P w=.ok (.bool a.isNone) w:=by simp[binOp];cases a<;>simp[Op.equal,Op.maxDepth,Lib.run_equalIn_slice_nil w _ t e _ n c _ _ h]
theorem my(i:o.op=.binOp .eql t x (.const (.slice none 0 0)) t')(p:P.underlying t=some (.slice e))(j:aO E x=some (.pv (.sl rows))):ju P N o E H (λr H'=>H'=H/\∃b,r=.pv (.bool b)/\(b=true->rows=[])):=by
 intro a w I m _ _ k h K Q s;have f:=(aJ h j).pv_inv;have l:a.eval (.const (.slice none 0 0))=.slice none 0 0:=rfl;have ⟨b,n,c,q,g⟩:∃(b:Option Addr) (n c:Nat),a.eval x=.slice b n c/\(b.isNone=true->rows=[]):=by
  generalize a.eval x=v at f;cases f with
  |nilsl=>simp_all
  |empsl a=>simp_all
  |sl b off cap sz _ cs g h2 h3 h4 h5 h6=>simp_all
 unfold Oper.wpW;have d:(execOp a.eval o).run P w=.ok (.value (.bool b.isNone)) w:=by
  simp only[execOp,i,q,l,eqGuard_at_slice,Sem.run_bind,Sem.run_pure,Result.andThen_ok,ly _ p]
 rw[d];exact s _ _ I m _ _ ⟨Z,_,Z,g⟩ (.pv (.bool _)) k (Step.refl _ _ _ _)
def Xk(E:cY)(H:aF)(sz:Nat)(y:Operand)(len:Nat)(rows:List (List AV)):Prop :=∀(a:Act) (w:World) (I:Nat->Prop) (ι:lQ),Rel I ι H w->lJ w I ι H E a->aBJ w I ι H sz (a.eval y) len rows
def Xl(E:cY)(H:aF)(x:Operand)(id g off len:Nat):Prop :=∀(a:Act) (w:World) (I:Nat->Prop) (ι:lQ),Rel I ι H w->lJ w I ι H E a->∃c,VRel w I ι H (a.eval x) (.osc id g off len c)
theorem pt{id g off len}{ob}(d:aO E x=some (.osl id g off len))(i:H.get id=some ob)(b:ob.g=g):Xl E H x id g off len:=λa w I ι e f =>
 let ⟨c,_,_,h⟩:=uh e (aJ f d) i b
 ⟨c,h⟩
theorem Xw{D f_ e}{ob}{a rows'}(q:o.op=.call {callee:=.builtin .copy,args:=#[x,y],argTypes:=#[D,f_]})(hS:fG P D e sz)
  (hd:Xl E H x id g off len) (m:H.get id=some ob) (p:ob.g=g) (k:ob.sz=sz) (d:off<=ob.rows.length)
  (f:Xk E H sz y b a) (i:∀r∈a,r.length=sz) (l:a.length=n) (h:min b len=n)
  (c:ob.rows.take off++(a++ob.rows.drop (off+n))=rows'):cN P N o E H (.pv (.int .i64 n)) ((id,⟨g,sz,ob.ty,rows'⟩)::H):=by
 subst c;exact Jg q hS hd m p k d f i l h (λj=>xQ _ _ _ j)
end
def fu(ob:Ob)(k:Nat):Ob:=⟨k,ob.sz,ob.ty,[]⟩
theorem Step.deadK{w}{I}{ι}{H}{id k}{ob}(g:H.get id=some ob)(i:ob.g<k):Step I ι H w (qV I ι id) (vJ ι id) ((id,fu ob k)::H) w where
 os:=rfl
 tape:=rfl
 output:=rfl
 size:=g_ _
 froz:=λ_ _ _=>rfl
 imm:=λ_ h=>.inl h
 immNew:=λb c=>by
  rcases c with c|⟨a,c⟩
  ·simp_all
  exact .inr (.inl ⟨id,ob,a,g,c⟩)
 own:=λb c=>by
  have ⟨j,o,a,d,f⟩:=c;by_cases e:j=id
  ·rw[vJ,b7 e]at f;cases f
  rw[vJ,a8 e]at f;rw[get_cons_other _ _ e]at d;exact .inl ⟨j,o,a,d,f⟩
 keep:=λ_ _ _=>rfl
 objs:=λj o d=>by
  by_cases e:j=id
  ·subst e;rw[g]at d;cases d;exact⟨fu _ k,get_cons_same _ _ _,Nat.le_of_lt i,λh=>absurd h (by simp[fu];omega)⟩
  exact⟨o,by rw[get_cons_other _ _ e];exact d,g_ _,λ_=>⟨a8 e,Z,λ_=>g_ _⟩⟩
theorem Rel.deadK{I}(g:Rel I ι H w)(s:H.get id=some ob)(D:ob.g<k)(q:0<ob.sz):Rel (qV I ι id) (vJ ι id) ((id,fu ob k)::H) w:=by
 have t:=Step.deadK (w:=w) (I:=I) (ι:=ι) s D;refine⟨λb d=>?_,λj o f=>?_,λj y o z b c B f n p i=>?_,g.glob.mono (λ_ _=>rfl) (λ_ h=>.inl h)⟩
 ·rcases d with d|⟨l,d⟩
  ·exact g.imm b d
  exact g.lt ⟨id,ob,l,s,d⟩
 ·by_cases e:j=id
  ·subst e;rw[get_cons_same]at f;cases f;exact .inl ⟨q,by simp[fu],.inr ⟨b7 Z,Z⟩⟩
  rw[get_cons_other _ _ e]at f;refine(g.obj j o f).keep (a8 e) (λb l d_ _=>⟨Z,λh=>?_⟩) (λr _ a _ v A=>A.mono g t);rintro(d|⟨m,d⟩)
  ·grind
  exact e (g.inj j id o ob b l m f s d_ d)
 have x:j≠id:=λe=>by rw[vJ,b7 e]at p;cases p
 have u:y≠id:=λe=>by rw[vJ,b7 e]at i;grind
 rw[vJ,a8 x]at p;rw[vJ,a8 u]at i;rw[get_cons_other _ _ x]at f;rw[get_cons_other _ _ u]at n;exact g.inj j y o z b c B f n p i
theorem Fin.deadO{G0 H}{r}(b:H.get id=some ob)(c:ob.g<k)(a:0<ob.sz)(h:ob.sz=sz)(f:ob.ty=ty):Fin G0 H r ((id,⟨k,sz,ty,[]⟩)::H) r:=by intro G hG I ι w v d e g;subst h f;exact⟨_,_,d.deadK b c a,e.trans (Step.deadK b c),g.mono d (Step.deadK b c)⟩
theorem Fin.bump{G0 H}{rows}(c:H.get id=some ob)(y:ob.g=g)(u:g<k)(l:ob.sz=sz)(s:ob.ty=ty)(x:ob.rows=rows):Fin G0 H (.osl id g off n) ((id,⟨k,sz,ty,rows⟩)::H) (.osl id k off n):=by
 intro G hG I m w v t h f;subst y l s x;have ⟨p,o⟩:=Rel.tick (ob':=⟨k,ob.sz,ob.ty,ob.rows⟩) t c u Z Z Z (get_cons_same _ _ _) (λj r=>get_cons_other _ _ r);refine⟨I,m,p,h.trans o,?_⟩;have ⟨i,d⟩:=jK f c Z;have q:=qA f c Z;have a:v.oneCell'=true:=by
  rcases d with⟨b,cap,oo,_,e,_⟩|⟨_,e,_⟩<;>subst e<;>rfl
 exact .osl _ (get_cons_same _ _ _) (g_ _) a λ_=>⟨q,i,d⟩
end
section
section
variable{P:Program}{G0:aF}{N:Nat}{Q:Exit->cY->aF->Prop}{E:cY}{code:Code}
theorem TM{t id sz}{ty}(r:E.get t=some (.pv .nils))(i:H.get id=none)(hsz:Nat.blt 0 sz=true)(h:gG P G0 N code Q ((t,.osc id 0 0 0 0)::E) ((id,⟨0,sz,ty,[]⟩)::H)):gG P G0 N code Q E H:=by
 intro G o a w d;have ⟨I,ι,l,j,n⟩:=d.rel;have ⟨v,s,f⟩:=n t _ r;have m:0<sz:=F_
 obtain ⟨p,k⟩:=Rel.adopt l i m;have g:v=.slice none 0 0:=by
  have:=f.pv_inv;cases this;rfl
 subst g;refine h G o a w ⟨d.defers,d.size,I,_,p,j.trans k,λu x b=>?_⟩;by_cases e:t=u
 ·subst e;rw[cY.get_cons_same]at b;cases b;exact⟨_,s,.osc _ (get_cons_same _ _ _) (g_ _) Z λ_=>⟨m,g_ _,.inr ⟨H_,Z,Z,Z,Z⟩⟩⟩
 rw[cY.get_cons_other _ _ e]at b;have ⟨c,q,y⟩:=n u x b;exact⟨c,q,y.mono l k⟩
end
section
variable{P:Program}{N:Nat}{o:Oper}{E:cY}{T:TypeId}{x y:Operand}{Q:AV->aF->Prop}
theorem JY{F}{f y}{e}{v}(p:o.op=.call {callee:=.value f,args:=#[.const (.slice none 0 0),y],argTypes:=e})(m:aO E f=some (.pv (.fn F)))
  (l:∀(args) (w),(callFunc F args).run P w=.ok (.enter F args) w) (n:aO E y=some v) (h:aU P F [.pv .nils,v] H Q):ju P N o E H Q:=by
 intro a w I ι _ _ k j K QQ hk;have g:=(aJ j m).fn_inv;unfold Oper.wpW execOp;simp[p,resolve,g,Deferred.ofValue,Sem.run_bind,Sem.run_pure,Result.andThen_ok,invoke,l,Oper.uponW_enter];refine(h I _ w _ k (Z) (λi u b d c=>?_)).mono ?_
 ·match i with
  |0=>simp[Act.eval]at d c;subst d c;exact .pv .nils
  |1=>simp at d c;subst d c;exact aJ j n
  |i+2=>simp at c
 grind
end
theorem Rel.cut(g:Rel I ι H w)(y:H.get id=some ob)(hg:ob.g<k)(N:0<ob.sz)
  (R:H'.get id=some ⟨k,ob.sz,ob.ty,ob.rows.take n⟩) (F:∀j,j≠id->H'.get j=H.get j):Rel I ι H' w/\Step I ι H w I ι H' w:=by
 have f:Step I ι H w I ι H' w:=by
  refine⟨Z,Z,Z,g_ _,λa _ _=>rfl,λ_ h=>h,λ_ h=>.inl h,?_,λ_ _ _=>rfl,?_⟩
  ·rintro x ⟨j,o,c,d,s⟩;by_cases e:j=id
   ·subst e;exact .inl ⟨j,ob,c,y,s⟩
   exact .inl ⟨j,o,c,(F j e).symm.trans d,s⟩
  grind
 refine⟨⟨g.imm,?_,?_,f.glob g⟩,f⟩
 ·intro j o d;by_cases e:j=id
  ·subst e;rw[R]at d;cases d;obtain ⟨G,K,⟨b,E,o_,z,L,v_,y_,e5,d_,f_⟩|⟨z,L⟩⟩:=(g.obj j ob y).cells N
   ·refine .inl ⟨G,λr l=>K r (mem_of_mem_take l),.inl ⟨b,E,o_,z,L,v_,y_,?_,d_,λi r D q a t=>?_⟩⟩
    ·grind
    simp only[getElem?_take]at D
    split at D
    ·have ⟨v,e_,Q,W⟩:=f_ i r D q a t;exact⟨v,e_,Q,W.mono g f⟩
    grind
   exact .inl ⟨G,λr l=>K r (mem_of_mem_take l),.inr ⟨z,F_⟩⟩
  rw[F j e]at d;exact(g.obj j o d).keep Z (λx c _ _=>⟨Z,λh=>h⟩) (λr _ a _ v A_=>A_.mono g f)
 intro j c_ o u_ x c P d A s u;have m:∀j o,H'.get j=some o->∃o,H.get j=some o:=by
  intro j o d;by_cases e:j=id
  ·exact⟨ob,e▸y⟩
  exact⟨o,(F j e).symm.trans d⟩
 have ⟨q,t⟩:=m j o d;have ⟨T,B⟩:=m c_ u_ A;exact g.inj j c_ q T x c P t B s u
theorem Fin.trunc{G0 H}{rows}(c:H.get id=some ob)(t:ob.g=g)(o:g<k)(s:ob.sz=sz)(q:ob.ty=ty)(r:ob.rows.take n=rows):Fin G0 H (.osl id g 0 n) ((id,⟨k,sz,ty,rows⟩)::H) (.osl id k 0 n):=by
 intro G hG I u w v m x f;subst t s q r;have h:=qA f c Z;obtain ⟨q1,d⟩:=jK f c Z;obtain ⟨i,l⟩:=Rel.cut m c o h (get_cons_same _ _ _) (λj p=>get_cons_other _ _ p);refine⟨I,u,i,x.trans l,?_⟩;have a:v.oneCell'=true:=by
  rcases d with⟨b,cap,oo,_,e,_⟩|⟨_,e,_⟩<;>subst e<;>rfl
 exact .osl _ (get_cons_same _ _ _) (g_ _) a λ_=>⟨h,F_,d⟩
theorem aU.congrH{P}{f}{args}{H H1 H2}{b}(h:aU P f args H (λr H'=>r=b/\H'=H1))(n:∀j,H2.get j=H1.get j):aU P f args H (λr H'=>r=b/\H'=H2):=by intro I ι w vs l k p;refine(h I _ w _ l k p).mono ?_;rintro e w' ⟨r,H',g,a,v,rfl,⟨rfl,rfl⟩,o,d,i⟩;have ⟨m,c⟩:=d.congr n;exact⟨r,H2,g,a,v,Z,⟨Z,Z⟩,o.mono d c,m,i.trans c⟩
theorem aU.frameS{P}{f}{args}{H0 H}{c}(h:aU P f args H0 (λr H'=>r=c/\H'=H0))(b:Sub H0 H)(g:dG H0)(i:∀a∈args,Clo H0 a):aU P f args H (λr H'=>r=c/\H'=H):=by
 refine(aU.frame h b g i (λid d=>.inl d)).congrH λj=>?_;rw[gH];cases e:H0.get j with
 |some o=>exact b j o e
 |none=>rfl
theorem Sub.of2{i j}{a b}{H}(h1:H.get i=some a)(h2:H.get j=some b):Sub [(i,a),(j,b)] H:=by
 intro id o c;simp[aF.get]at c;cases e1:Nat.beq i id with
 |true =>
  simp_all
 | false =>
  cases e2:Nat.beq j id with
  |true =>
   simp_all
  |false=>simp_all
end
section
theorem R9{w}{I}{ι}{H}{v}(h:VRel w I ι H v (.pv .nils)):v=.slice none 0 0:=by have:=h.pv_inv;cases this;rfl
section
variable{P:Program}{N:Nat}{o:Oper}{E:cY}{f_ T t t' e:TypeId}{x y:Operand}
theorem J6(f:o.op=.call {callee:=.builtin .cap,args:=#[x],argTypes:=#[T]})(d:P.underlying T=some (.slice e))(h:aO E x=some (.pv .nils)):cN P N o E H (.pv (.int .i64 0)) H :=.of_run λa w I ι _ b=>⟨.int _ 0,by
  have c:=R9 (aJ b h);simp[execOp,f,resolve,invoke,builtin,c,Builtin.cap_,run_underlying d,goInt],.pv (.int _ _)⟩
theorem J4(f:o.op=.call {callee:=.builtin .len,args:=#[x],argTypes:=#[T]})(d:P.underlying T=some (.slice e))(h:aO E x=some (.pv .nils)):cN P N o E H (.pv (.int .i64 0)) H :=.of_run λa w I ι _ b=>⟨.int _ 0,by
  have c:=R9 (aJ b h);simp[execOp,f,resolve,invoke,builtin,c,Builtin.len_,run_underlying d,goInt],.pv (.int _ _)⟩
theorem bu{sz}(c:aO E y=some (.pv .nils)):Xk E H sz y 0 []:=λa w I ι hr b=>.inr ⟨R9 (aJ b c),Z,Z⟩
theorem bc{lo hi}{rows'}(D:o.op=.slice T x lo hi none)(hS:fG P T e sz)(e_:aO E x=some (.osl id g 0 len))
  (i:H.get id=some ob) (z:ob.g=g) (q:ob.sz=sz) (l:bnd E lo 0=some ((0:Nat):Int)) (u:bnd E hi len=some (h:Int)) (y_:h<=len) (v_:g+1=k) (d:ob.rows.take h=rows'):cN P N o E H (.osl id k 0 h) ((id,⟨k,sz,ob.ty,rows'⟩)::H):=by
 subst v_ d q;intro a w I G o_ m A_ W K Q s;refine G3 D hS.1 hS.2.1 e_ i z Z l u (l7 _) y_ Z (Nat.sub_zero h) a w I G o_ m A_ W K Q ?_;rintro c u_ L ι' r H' ⟨rfl,rfl⟩ B v p;have d_:=qA B i z;obtain ⟨q1,A⟩:=jK B i z;obtain ⟨F,R⟩:=Rel.cut (k:=g+1) v i X d_ (get_cons_same _ _ _) (λj c_=>get_cons_other _ _ c_);have f:c.oneCell'=true:=by
  rcases A with⟨b,cap,oo,_,e,_⟩|⟨_,e,_⟩<;>subst e<;>rfl
 exact s c u_ L _ _ _ ⟨Z,Z⟩ (.osl _ (get_cons_same _ _ _) (g_ _) f λ_=>⟨d_,F_,A⟩) F (p.trans R)
theorem S9:∀(n t) (acc),(∀v∈acc.toList,v.oneCell'=true)->∀v∈(Extern.BytealgMakeNoZero.digits n t acc).toList,v.oneCell'=true
 |0,_,_,h=>h
 |n+1,t,acc,h=>by
  refine S9 n _ _ λv a=>?_;rw[Array.toList_push,List.mem_append,r6]at a;rcases a with a|rfl
  ·simp_all
  rfl
theorem lx(w:World)(ps)(t e)(l:P.underlying t=some (.slice e))(n:Nat)(hn:n<=281474976710656):
  ∃cs,(Extern.BytealgMakeNoZero.makeNoZero ps #[t] #[.int .i64 n]).run P w=.ok (.slice (some ⟨w.heap.size,0,none⟩) n cs.size) (w.drew.drew.alloc (.cells cs e))/\n<=cs.size/\(n<=maxLen->cs.size<=maxLen)/\∀v∈cs.toList,v.oneCell'=true:=by
 have f:Extern.BytealgMakeNoZero.makeNoZero ps #[t] #[.int .i64 n] =
   (do
    let .slice d <-underlying t|stuck _
    if n<0||(n:Int) > 2 ^ 48 then runtimePanic _
    let c <-choose _
    askRoom c
    let bytes <-choose _
    let a <-newRow d (Extern.BytealgMakeNoZero.digits c bytes #[])
    pure (.slice (some a) _ c)):=rfl
 refine⟨Extern.BytealgMakeNoZero.digits (grownCap w n 0 e) ((Question.extern "internal/bytealg.MakeNoZero.bytes" 0).cut (w.tape (w.drawn+1) (.extern "internal/bytealg.MakeNoZero.bytes" 0))) #[],?_,?_,?_,?_⟩
 ·rw[f];have k:¬ (n:Int)<0:=X
  have j:¬ (281474976710656:Int)<(n:Int):=X
  simp[run_underlying l,k,j,Question.forced,newRow,Lib.size_digits,grownCap]
 ·rw[Lib.size_digits]
  simpa using grownCap_ge w n 0 e
 ·intro i;rw[Lib.size_digits]
  simpa using grownCap_le_maxLen w n 0 e i
 exact S9 _ _ _ H_
theorem nb{f:Operand}{u:Array TypeId}{F:FuncId}{q:Func}{ps:Array TypeId}{m:Int}(v_:o.op=.call {callee:=.value f,args:=#[x],argTypes:=u})(z_:aO E f=some (.pv (.fn F)))(W:P.funcs[F]?=some q)(h:(q.name == "runtime.NumGoroutine")=false)
  (D:q.body.isNone=true) (o_:Extern.findNext q=none) (he:Extern.find q=some (Extern.BytealgMakeNoZero.makeNoZero ps #[t])) (R:P.underlying t=some (.slice e)) (y_:aO E x=some (.pv (.int .i64 m))) (G:m=(n:Int)) (A:n<=140737488355328) (hid:H.get id=none) :
  cN P N o E H (.osl id 0 0 n) ((id,⟨0,1,e,List.replicate n [.any]⟩)::H):=by
 subst G;intro a w I ι _ _ hr d_ K Q A_;have z:=(aJ d_ z_).fn_inv;have hxv:=(aJ d_ y_).int_inv;have ⟨d,e1,e2,e3,L⟩:=lx (P:=P) w ps t e R n X;have B:=Rel.drawn (w':=w.drew.drew) hr Z Z Z Z;have ⟨u_,d2⟩:=B;have ⟨k1,c_⟩:=Rel.place (H':=(id,⟨0,1,e,List.replicate n [.any]⟩)::H) (id:=id) (cap:=d.size) (ob':=⟨0,1,e,List.replicate n [.any]⟩) (cs':=d) (w':=w.drew.drew.alloc (.cells d e)) u_ Z Z Z Z
  (λo' ho'=>by simp_all) Nat.zero_lt_one H_ F_ (e3 (Nat.le_trans A E_)) (λr hr'=>by simp_all) (λi r v k b s=>by
   rw[getElem?_replicate]at v
   split at v
   ·cases v;cases k with
    |zero =>
     cases s;have p:i*1+0<d.size:=X
     exact⟨d[i*1+0],Array.getElem?_eq_getElem p,L _ (Array.getElem_mem_toList p),.any _⟩
    |succ k=>grind
   grind) (get_cons_same _ _ _) (λj e_=>get_cons_other _ _ e_)
 unfold Oper.wpW;have l:(execOp a.eval o).run P w=.ok (.value (.slice (some ⟨w.heap.size,0,none⟩) n d.size)) (w.drew.drew.alloc (.cells d e)):=by
  unfold execOp;simp only[v_,resolve,z,Deferred.ofValue,Sem.run_bind,Sem.run_pure,Result.andThen_ok,invoke,Array.empty_append,Array.append_empty,run_callFunc_extern W h D o_ he]
  simp_all
 rw[l];exact A_ _ _ I _ _ _ ⟨Z,Z⟩ (.osl ⟨0,1,e,List.replicate n [.any]⟩ (get_cons_same _ _ _) (g_ _) Z λ_=>⟨Nat.zero_lt_one,H_,.inl ⟨w.heap.size,d.size,0,H_,H_,λ_=>by simp⟩⟩) k1 (d2.trans c_)
theorem Ee{lo hi A_:Operand}{rows':List (List PV)}(ho:o.op=.slice T x (some lo) (some hi) (some A_))(hS:fG P T e sz)(hx:aO E x=some (.pv (.sl rows)))(hrows:∀r∈rows,r.length=sz)
  (e_:aO E lo=some (.pv (.int .i64 l))) (K:aO E hi=some (.pv (.int .i64 h))) (Q:aO E A_=some (.pv (.int .i64 h))) (W:l<=h) (h2:h<=rows.length) (v:rows≠[]) (j:(rows.take h).drop l=rows'):cN P N o E H (.pv (.sl rows')) H:=by
 subst j;exact .of_run λa w I ι _ D=>by
  have v_:=(aJ D hx).pv_inv;have e0:=(aJ D e_).int_inv;have y_:=(aJ D K).int_inv;have e2:=(aJ D Q).int_inv;generalize hc:a.eval x=c at v_;have hT:=hS.1;have hs:=hS.2.1;have G:P.elem T=e:=by simp[Program.elem,hT]
  have B:P.underlying T=some (.slice (P.elem T)):=F_
  cases v_ with
  |nilsl=>exact absurd Z v
  |empsl a0=>exact absurd Z v
  | sl b A s u_ _ cs hI c_ z hcap o_ F =>
   have d_:u_=sz:=by
    have ⟨r,rs,e⟩:=exists_cons_of_ne_nil v
    simp_all
   subst d_;have z_:(Instr.sliceBounds true rows.length s (some (.int .i64 l)) (some (.int .i64 h)) (some (.int .i64 h))).run P w=.ok (l,h,h) w:=by
    have u:∀(n y:Nat) (c:BoundsCode),n<=y->(Instr.sliceBound (.int .i64 n) y c).run P w=.ok n w:=λn y c hn=>by
     have:=run_sliceBound (P:=P) w .i64 n y c X X
     simpa using this
    simp[Instr.sliceBounds,u _ _ _ W,u _ _ _ (g_ h),u h s _ X]
   have htl:(rows.take h).length=h:=F_
   have m:∀(i:Nat) (r:List PV),(rows.take h)[i]?=some r->rows[i]?=some r:=λi r j=>by
    grind
   have q:=PRep.cut (w:=w) (I:=I) (b:=b) (off:=A) (cap:=h) (l:=l) (h:=h) (rows:=rows.take h) (cs:=cs) hI c_ (λr j=>z r (mem_of_mem_take j)) X
    (λi r j k p R=>o_ i r (m i r j) k p R) (λi r j k p R=>F i r (m i r j) k p R) W X
   rw[take_take,Nat.min_self]at q;refine⟨_,?_,.pv q⟩;simp only[execOp,ho,hc];have:=run_slice_any (P:=P) w T (some ⟨b,A,none⟩) rows.length s B (some (.int .i64 l)) (some (.int .i64 h)) (some (.int .i64 h));simp only[Option.map_some,run_sliceAt_slice w T _ _ _ _ B,e0,y_,e2,Sem.run_bind,this,z_,G,hs,sliced,Result.andThen_ok,Sem.run_pure];by_cases ec:h=l<;>simp[ec]
end
end
end Go.Abs
namespace Go.Proofs.YtopnleflllkbmaaGreatDoor
open Go.Proofs.Tryz
open Go.Abs
variable{K:aF}{α:Type}{i:Nat}
def iq(u:Bool):AV:=if u then .ref 2001 0 0 0 else .pv .nilp
def D2(buf:AV)(u:Bool):Ob:=⟨0,2,161,[[iq u,buf]]⟩
def yP(g:Nat)(l:List UInt8)(u:Bool):aF:=[(2001,D2 (.osl 2002 g 0 l.length) u),(2002,⟨g,1,5,fO l⟩)]
theorem sA(l):(fO l).length=l.length:=by simp[fO]
theorem eM(H)(l):∀r∈fO l,∀a∈r,Clo H a:=by intro r d a c;obtain ⟨b,_,rfl⟩:=mem_map.1 d;rw[r6]at c;subst c;simp
instance(H)(l):W_ (H) (fO l):=⟨eM H l⟩
theorem uI(l m):fO l++fO m=fO (l++m):=by simp[fO]
theorem gJ{H}{g n}{u}(e:(H.get 2001).isSome=true)(f:(H.get 2002).isSome=true):∀r∈(D2 (.osl 2002 g 0 n) u).rows,∀a∈r,Clo H a:=by
 intro r c a d;simp[D2,r6]at c;subst c;simp[l9,q7,or_false]at d;rcases d with rfl|rfl
 ·cases u<;>simp[iq,e]
 simp[f]
theorem FE(b:AV)(u:Bool)(K:aF):aU Tryz.prog 191 [.ref 2001 0 0 0] ((2001,D2 b u)::K) (λr H'=>r=.tup []/\H'=(2001,D2 b true)::K):=by
 cases u with
 |false =>
  refine Bd func191 Z ntmps191<|O aA<|Y sE<|Y (bA zW)<|Y (bQ isAgg158)<|V (by exact NO Z gZ Z Z)<|Cn ?_ ?_<;>intro c
  ·refine Rd aA<|Y aA<|Y (by exact GZ (n:=1) Z gZ underlying247 (by rfl) Z Z Z (by simp[D2]))<|Y (by exact O9 Z Z func239 Z Z Z Z Z (gh (.ref 2001 0 0 0)))<|Y (by exact OC (n:=1) Z underlying247 gZ (by rfl) Z Z Z (by simp[D2]) Z Z)<|Y sE<|Y (bA zW)<|Uu (ku sizeOf158)<|Zz ?_;exact oT (.inl Z) Z (Fin.get' (H':=(2001,D2 b true)::K) (λj=>wV 2001 (D2 b true) (D2 b false) K j)) ⟨Z,Z⟩
  cases c
 |true =>
  refine Bd func191 Z ntmps191<|O aA<|Y sE<|Y (bA zW)<|Y (bQ isAgg158)<|V (by exact NN Z gZ Z Z Z Z)<|Cn ?_ ?_<;>intro c
  ·cases c
  refine O aA<|Y sE<|Y (bA zW)<|Y (bQ isAgg158)<|Y aA<|V (by exact J1 (n:=1) Z gZ (by rfl) Z Z Z Z)<|Cn ?_ ?_<;>intro d
  ·cases d
  refine aB ?_;exact oT (.inl Z) Z Fin.refl ⟨Z,Z⟩
theorem KQ{i j}{a b a' c}(h:i≠j)(k):aF.get ((i,a)::(j,b)::K) k=aF.get ((i,a)::(j,b)::(i,a')::(j,c)::K) k:=by
 simp[aF.get]
 grind
theorem OM:∀i,Tryz.prog.info? 5=some i->i.zero=some (.int .u8 0):=λi b=>by
 have h:(Tryz.prog.info? 5).map (·.zero)=some _:=rfl;rw[b]at h;exact Option.some.inj h
theorem wm(g)(l m){n}(h:m.length=n):yP (g+1) (l++m) true=[(2001,D2 (.osl 2002 (g+1) 0 (l.length+n)) true),(2002,⟨g+1,1,5,fO (l++m)⟩)]:=by subst h;simp[yP]
theorem kQ(g:Nat)(l:List UInt8)(u:Bool)(c:UInt8)(hl:l.length<70368744177664):aU Tryz.prog 160 [.ref 2001 0 0 0,.pv (.int .u8 c.toNat)] (yP g l u) (λr H'=>r=.pv MJ/\H'=yP (g+1) (l++[c]) true):=by refine Bd func160 Z ntmps160<|Sz aI<|O aA<|V (kc call191 (FE _ u _))<|O aA<|Y aA<|Y sE<|Y (bA iG)<|Y (bQ eC)<|Y aA<|Y (by exact aK [[.int .u8 c.toNat]] Z A8 Z Z Z Z Z (by simp_all))<|Y (by exact cA (ps:=[[.int .u8 c.toNat]]) Z A8 Xb Z Z Z Z Z (sA l) Z (by simp_all) (m:=1) Z (by omega) Z (uI l [c]))<|Y sE<|Y (bA iG)<|Uu (ku qF)<|Zz<|Sz aI<|aC ?_;rw[wm g l [c] (n:=1) rfl];refine cR (.inr Z) Z (aH Z) (Fin.get' (λj=>KQ (by decide) j)) ?_;exact Qq
theorem jC(g:Nat)(l:List UInt8)(u:Bool)(s:B_)(hl:l.length+s.size<70368744177664):aU Tryz.prog 132 [.ref 2001 0 0 0,sv s] (yP g l u) (λr H'=>r=.tup [iv (s.size:Int),.pv MJ]/\H'=yP (g+1) (l++s.data.toList) true):=by refine Bd func132 Z ntmps132<|O aI<|V aI<|O aA<|V (kc call191 (FE _ u _))<|O aA<|Y aA<|Y sE<|Y (bA iG)<|Y (bQ eC)<|Y aA<|Y (by exact wF Z A8 U_ Xb OM Z Z Z Z Z (sA l) Z (by omega) Z (uI l s.data.toList))<|Y sE<|Y (bA iG)<|Uu (ku qF)<|Zz<|O aA<|Y (gE U_)<|Y aI<|V aI<|aC ?_;rw[wm g l s.data.toList (n:=s.size) rfl];refine fP (.inr Z) Z (aH Z) (aH Z) (Fin.get' (λj=>KQ (by decide) j)) ?_;exact Qq
def Bp(g:Nat)(l:List UInt8)(u:Bool):aF:=[(2002,⟨g+1,1,5,[]⟩),(2001,D2 (.osl 2002 g 0 l.length) u)]
theorem PI{i j}{a b a'}(h:i≠j)(k):aF.get ((i,a)::(j,b)::K) k=aF.get ((i,a)::(j,b)::(i,a')::K) k:=by
 simp[aF.get]
 grind
theorem P9(g:Nat)(l:List UInt8)(u:Bool)(hl:l.length<70368744177664):aU Tryz.prog 133 [.ref 2001 0 0 0] (yP g l u) (λr H'=>r=sv ⟨l.toArray⟩/\H'=Bp g l u):=by
 by_cases e:l=[]
 ·subst e;refine Bd func133 Z ntmps133<|Sz aI<|S<|aM a7<|Cq aA<|Cq sE<|Cq (bA iG)<|Cq (bQ eC)<|Cq (by exact EM Z yU Z Z Z)<|Cq aA<|Cq sE<|Cq (bA iG)<|Cq (bQ eC)<|Cq (by exact dS Z dD Z Z Z)<|Cq (by exact zL Z Z Z)<|Cq aI<|bG<|Kr<|aC ?_;refine cR (H':=(Bp g [] u)) (.inr Z) Z (aH Z) (Fin.trans (Fin.deadO (id:=2002) (k:=g+1) (ob:=⟨g,1,5,fO []⟩) Z (Nat.lt_succ_self g) Nat.zero_lt_one Z Z) (Fin.get' (λj=>PI (by decide) j))) ?_;exact Qq
 have c:0<l.length:=List.length_pos_iff.2 e;refine Bd func133 Z ntmps133<|Sz aI<|S<|aM a7<|Cr [2001] (λ_ _=>aA)<|Cr [2001] (λd b=>by exact dN Z Z ((b _ Z).trans Z) Z)<|Cr [2001] (λ_ h=>fh iG h)<|Cr [2001] (λ_ h=>lh eC h)<|Cr [2002] (λd b=>by exact G4 Z Z ((b _ Z).trans Z) Z c)<|Cr [2001] (λ_ _=>aA)<|Cr [2001] (λd b=>by exact dN Z Z ((b _ Z).trans Z) Z)<|Cr [2001] (λ_ h=>fh iG h)<|Cr [2001] (λ_ h=>lh eC h)<|Cr [2002] (λd b=>by exact dS Z dD Z ((b _ Z).trans Z) Z)<|Cp [2001,2002] (λd b=>by exact BH (l:=l) rfl yU (by rfl) rfl rfl ((b _ rfl).trans rfl) rfl rfl rfl rfl rfl c X rfl)<|Cr [] (λ_ _=>aI)<|bG<|Kr<|aC ?_;refine cR (H':=(Bp g l u)) (.inr Z) Z (aH Z) (Fin.get' (λj=>PI E_ j)) ?_;exact Qq
def Mx:aF:=[(2001,D2 (.pv .nils) false)]
theorem aAd(m n:Nat)(hn:m=n)(hl:n<70368744177664):aU Tryz.prog 292 [.ref 2001 0 0 0,iv (n:Int)] [(2001,D2 (.pv .nils) true)] (λr H'=>r=.tup []/\H'=yP 1 [] true):=by refine Bd func292 Z ntmps292<|S<|aM a7<|Cr [2001] (λ_ _=>aA)<|Cr [2001] (λc b=>by exact dN Z Z ((b _ Z).trans Z) Z)<|Cr [2001] (λ_ h=>fh iG h)<|Cr [2001] (λ_ h=>lh eC h)<|Cr [] (λc b=>by exact J6 Z dD Z)<|Cr [] (λc b=>by exact oL Z Z Z (by exact mE (by omega) (by omega)))<|Cr [] (λ_ _=>aA)<|Cr [] (λc b=>by exact dB Z Z Z (show IntKind.i64.wrap (0+(n:Int))=(n:Int)by rw[IntKind.wrap_i64];omega))<|Cp [2002] (λc b=>by exact nb (id:=2002) (n:=n) Z Z func310 (by decide) Z Z Z dD Z Z (by omega) ((b _ Z).trans Z))<|Cr [2001] (λ_ _=>aA)<|Cr [2001] (λc b=>by exact dN Z Z ((b _ Z).trans Z) Z)<|Cr [2001] (λ_ h=>fh iG h)<|Cr [2001] (λ_ h=>lh eC h) ?_;refine Cr [] (λc b=>by exact J4 Z dD Z)<|Cp [2002] (λc b=>by exact bc (h:=0) (k:=1) (rows':=[]) Z A8 Z ((b _ Z).trans Z) Z Z Z Z (l7 _) Z Z)<|Cr [] (λ_ _=>aI)<|bG<|Kr<|O aA<|Y aA<|Y sE<|Y (bA iG)<|Y (bQ eC)<|V (by exact Xw (rows':=[]) Z A8 (pt Z Z Z) Z Z Z (l7 _) (bu Z) (by simp) Z Z Z)<|Rd aA<|Y aA<|Y sE<|Y (bA iG)<|Uu (ku qF)<|Zz ?_;exact oT (H':=yP 1 [] true) (.inl Z) Z (Fin.wk (by(simp;done)) (Hc (gJ Z Z)<|Hc (eM _ _)<|T_) ⟨Z,T_⟩) ⟨Z,Z⟩
theorem y4{p:Prop}(h:p:=by(simp;done)):p:=h
theorem Ur(n:Nat)(h0:0<n)(d:n<70368744177664):aU Tryz.prog 255 [.ref 2001 0 0 0,iv (n:Int)] Mx (λr H'=>r=.tup []/\H'=yP 1 [] true):=by
 refine Bd func255 Z ntmps255<|O aA<|V (kc call191 (FE _ false _))<|S<|O aA<|V cJ<|Cn ?_ ?_<;>intro c
 ·exact absurd (b9 c) X
 refine aB<|S<|aM a7<|Cq aA<|Cq sE<|Cq (bA iG)<|Cq (bQ eC)<|Cq (J6 Z dD Z)<|Cq aA<|Cq sE<|Cq (bA iG)<|Cq (bQ eC)<|Cq (J4 Z dD Z)<|Cq (dM Z Z Z (mE X X))<|Cq aA<|Cq cJ<|bG<|Kr<|Cn ?_ ?_<;>intro b
 ·refine Rd aA<|Y aA<|V (kc call292 (aAd n n Z d)) ?_;exact oT (H':=yP 1 [] true) (.inl Z) Z (Fin.wk y4 (Hc (gJ Z Z)<|Hc (eM _ _)<|T_) ⟨Z,T_⟩) ⟨Z,Z⟩
 exact absurd (b_ b) X
def oX(s:B_)(k:Nat):UInt8:=(s.data.toList[k]?).getD 0
theorem tE(s)(k):aY s k=((oX s k).toNat):=rfl
def qK(b:UInt8):List UInt8:=if b=10 then[92,110]else if b=34\/b=92 then[92,b]else[b]
def cW(l:List UInt8):List UInt8:=34::(l.flatMap qK++[34])
theorem Uy(b):(qK b).length<=2:=by
 unfold qK
 grind
theorem gj(l:List _):(l.flatMap qK).length<=2*l.length:=by
 induction l with
 |nil=>simp_all
 |cons b l ih =>
  rw[flatMap_cons,j_,j7];have:=Uy b;omega
theorem Fe{s}{k}(h:k<s.size):s.data.toList.take (k+1)=s.data.toList.take k++[oX s k]:=by
 have a:k<s.data.toList.length:=F_
 rw[take_add_one,oX,m_ a];rfl
theorem P0{b}{n:Nat}(hn:n<256):decide ((b.toNat:Int)=n)=decide (b=UInt8.ofNat n):=by
 rw[Bool.eq_iff_iff,j0,j0];constructor
 ·intro h;apply UInt8.toNat.inj;rw[UInt8.toNat_ofNat'];omega
 intro h;rw[h,UInt8.toNat_ofNat'];omega
theorem cL.bld0{E E'}(a:NzE E [(2002,⟨0,1,5,[]⟩),(2001,D2 (.osl 2002 0 0 0) false)] 2002 E'):cL [] E Mx E' (yP 0 [] false):=by refine(cL.nz (G0:=[]) _ 1 5 Z Z a ⟨⟨D2 (.pv _) _,Z,Z,Z,Z,.inr ⟨_,_,rfl,rfl,⟨.same (by simp[iq]),⟨.own,T_⟩⟩⟩⟩,T_⟩ T_).trans ?_;exact cL.get (λ_=>rfl) (λj=>mR H_ j)
def lI(s:B_)(k:Nat):List UInt8:=34::(s.data.toList.take k).flatMap qK
theorem dc{s}{k}(hs:s.size<17592186044416):(lI s k).length<70368744170000:=by have:=gj (s.data.toList.take k);rw[q9]at this;have h2:s.data.toList.length=s.size:=rfl;rw[lI,j7];omega
theorem VZ{s}{k}(h:k<s.size):lI s (k+1)=lI s k++qK (oX s k):=by rw[lI,lI,Fe h];simp
theorem tz(s:B_)(H:aF)(v:s.size<17592186044416):RC 260 [sv s] (sv ⟨(cW s.data.toList).toArray⟩) H:=by
 refine Pu ?_;have hsl:s.data.toList.length=s.size:=H_
 refine Bd func260 Z ntmps260<|Sz aI<|Sz (kl 2001 HG)<|S ?_;refine gG.ent (E':=[(0,sv s),(3,.ref 2001 0 0 0)]) (H':=yP 0 [] false) (cL.bld0 ⟨⟨_,Z,.same H_⟩,⟨_,Z,.same m3⟩,T_⟩) ?_;refine Rg<|V (bH Z Z mW Z (kQ 0 [] false 34 E_))<|S<|O aA<|Y (gE U_)<|V aA<|aD<|eU (λ(k g:Nat)=>([(0,sv s),(3,.ref 2001 0 0 0),(8,iv (s.size:Int)),(9,iv (k:Int))],yP g (lI s k) true)) (λk g=>k<=s.size) (λk g=>s.size - k) 0 1 (l7 _) ?_ ?_
 ·exact(cL.wk (Eb<|Ea<|Eb<|Eb<|T_) (Hc (gJ Z Z)<|Hc (eM _ _)<|T_) T_)
 intro k g hk;have hL:=dc (k:=k) v;refine Sz cJ<|S<|Cn ?_ ?_<;>intro p
 ·have q:k<s.size:=I_ p
  have b:=VZ q;refine aB<|S<|aD<|O aA<|V aI<|O aA<|Y aA<|Y (ky U_)<|V aI<|Sz aA<|aD<|O cD<|Da<|Cn ?_ ?_<;>intro n
  ·have l:oX s k=10:=by
    have h:=n;rw[tE,show (10:Int)=((10:Nat):Int)by rfl,P0 E_]at h;exact b9 h
   have e:yP (g+1) (lI s (k+1)) true=yP (g+1) (lI s k++(⟨#[92,110]⟩:B_).data.toList) true:=by rw[b,l];rfl
   refine Rg<|V (kc mY (jC g (lI s k) true ⟨#[92,110]⟩ (by show _+2<_;omega)))<|Rd gX<|V aA ?_;refine⟨k+1,g+1,X,X,?_⟩;show cL _ _ _ _ (yP (g+1) (lI s (k+1)) true);rw[e];exact(cL.wk (Eb<|Ea<|Eb<|Eb<|T_) (Hc (gJ Z Z)<|Hc (eM _ _)<|T_) T_)
  have j:¬ oX s k=10:=by
   have h:=n;rw[tE,show (10:Int)=((10:Nat):Int)by rfl,P0 E_]at h;exact b_ h
  refine S<|O cD<|Da<|Cn ?_ ?_<;>intro d
  ·have l:oX s k=34:=by
    have h:=d;rw[tE,show (34:Int)=((34:Nat):Int)by rfl,P0 E_]at h;exact b9 h
   have e:yP (g+1+1) (lI s (k+1)) true=yP (g+1+1) (lI s k++[92]++[oX s k]) true:=by rw[b,l];simp[qK]
   refine aB<|Cn ?_ ?_<;>intro u
   ·refine Sz (kc mW (kQ g (lI s k) true 92 X))<|Rd aA<|V (kc mW (kQ (g+1) (lI s k++[92]) true (oX s k) G_))<|Rd gX<|V aA ?_;refine⟨k+1,g+1+1,X,X,?_⟩;show cL _ _ _ _ (yP (g+1+1) (lI s (k+1)) true);rw[e];exact(cL.wk (Eb<|Ea<|Eb<|Eb<|T_) (Hc (gJ Z Z)<|Hc (eM _ _)<|T_) T_)
   exact absurd (d.symm.trans u) E_
  have m:¬ oX s k=34:=by
   have h:=d;rw[tE,show (34:Int)=((34:Nat):Int)by rfl,P0 E_]at h;exact b_ h
  refine Rd cD<|Da<|Cn ?_ ?_<;>intro i
  ·have l:oX s k=92:=by
    have h:=i;rw[tE,show (92:Int)=((92:Nat):Int)by rfl,P0 E_]at h;exact b9 h
   have e:yP (g+1+1) (lI s (k+1)) true=yP (g+1+1) (lI s k++[92]++[oX s k]) true:=by rw[b,l];simp[qK]
   refine Sz (kc mW (kQ g (lI s k) true 92 X))<|Rd aA<|V (kc mW (kQ (g+1) (lI s k++[92]) true (oX s k) G_))<|Rd gX<|V aA ?_;refine⟨k+1,g+1+1,X,X,?_⟩;show cL _ _ _ _ (yP (g+1+1) (lI s (k+1)) true);rw[e];exact(cL.wk (Eb<|Ea<|Eb<|Eb<|T_) (Hc (gJ Z Z)<|Hc (eM _ _)<|T_) T_)
  have o:¬ oX s k=92:=by
   have h:=i;rw[tE,show (92:Int)=((92:Nat):Int)by rfl,P0 E_]at h;exact b_ h
  have e:yP (g+1) (lI s (k+1)) true=yP (g+1) (lI s k++[oX s k]) true:=by rw[b,qK,a8 j,a8 (λh=>h.elim m o)]
  refine Rd aA<|V (kc mW (kQ g (lI s k) true (oX s k) X))<|Rd gX<|V aA ?_;refine⟨k+1,g+1,X,X,?_⟩;show cL _ _ _ _ (yP (g+1) (lI s (k+1)) true);rw[e];exact(cL.wk (Eb<|Ea<|Eb<|Eb<|T_) (Hc (gJ Z Z)<|Hc (eM _ _)<|T_) T_)
 have t:k=s.size:=J_ p
 refine aP<|Sz (kc mW (kQ g (lI s k) true 34 X))<|O (kc mX (P9 (g+1) (lI s k++[34]) true G_))<|V aI<|aC ?_;have f:(⟨(lI s k++[34]).toArray⟩:B_)=⟨(cW s.data.toList).toArray⟩:=by
  rw[lI,cW,t,take_of_length_le X];rfl
 rw[<-f];exact Rt Qq
def bT(sep:List UInt8):List (List UInt8)->List UInt8
 | []=>[]
 |x::l=>x++l.flatMap (λy=>sep++y)
def bs(l:List B_):List (List UInt8):=l.map λs=>s.data.toList
def cX(l:List B_):Nat:=(l.map ByteArray.size).sum
theorem xP{l:List _}{k}{s}(h:l[k]?=some s):cX (l.take (k+1))=cX (l.take k)+s.size:=by rw[take_add_one,h,cX,cX];simp
theorem nV(l)(k):cX (l.take k)<=cX l:=by
 have h:cX l=cX (l.take k)+cX (l.drop k):=by
  rw[cX,cX,cX,<-sum_append,<-map_append,take_append_drop]
 omega
theorem fe(sep):∀l,((bs l).flatMap (λy=>sep++y)).length=sep.length*l.length+cX l
 | []=>rfl
 |s::l=>by
  have c:=fe sep l;show (((s.data.toList)::bs l).flatMap _).length=_;rw[flatMap_cons,j_,c,j_,j7,Nat.mul_add,cX,cX,map_cons,sum_cons];have h2:s.data.toList.length=s.size:=rfl;omega
def MR(sep x:B_)(l:List B_)(k:Nat):List UInt8:=x.data.toList++(bs (l.take k)).flatMap (λy=>sep.data.toList++y)
theorem Ak{sep x s}{l}{k}(h:l[k]?=some s):MR sep x l (k+1)=MR sep x l k++(sep.data.toList++s.data.toList):=by rw[MR,MR,take_add_one,h,bs];simp[bs]
theorem Gb{l}{s}(h:s∈l):s.size<=cX l:=by
 induction l with
 |nil=>cases h
 |cons a l b =>
  rw[cX,map_cons,sum_cons];rcases l9.1 h with rfl|h
  ·omega
  exact Nat.le_trans (b h) (le_add_left _ _)
theorem ff{sep x}{l}{k}(a:k<=l.length):(MR sep x l k).length<=x.size+sep.size*l.length+cX l:=by rw[MR,j_,fe,q9,Nat.min_eq_left a];have h1:=nV l k;have b:sep.data.toList.length=sep.size:=rfl;have h3:x.data.toList.length=x.size:=rfl;have h4:sep.size*k<=sep.size*l.length:=mul_le_mul_left _ a;rw[b];omega
theorem x6{p:Prop}(h:p:=by rfl):p:=h
theorem wT(l:List B_)(sep:B_)(H:aF)(h0:0<sep.size)(K:sep.size*l.length+cX l+l.length<17592186044416):RC 204 [.pv (aL l),sv sep] (sv ⟨(bT sep.data.toList (bs l)).toArray⟩) H:=by
 refine Pu ?_;have hml:(l.map S_).length=l.length:=j6 _;rcases l with _|⟨x,_|⟨y,l⟩⟩
 ·refine Bd func204 Z ntmps204<|Sz aI<|S<|O aA<|V (fW aE)<|aD<|O cD<|Da<|Cn ?_ ?_<;>intro h
  ·exact Sz aI<|aC<|Rt<|Qq
  cases h
 ·refine Bd func204 Z ntmps204<|Sz aI<|S<|O aA<|V (fW aE)<|aD<|O cD<|Da<|Cn ?_ ?_<;>intro h
  ·cases h
  refine O cD<|Da<|Cn ?_ ?_<;>intro p
  ·refine O aA<|Y (bU Z bD Z Z X (l_ _) Z Z)<|Y (fZ N_ (hi:=rfl))<|V aI<|aC ?_;have o_:x=⟨(bT sep.data.toList (bs [x])).toArray⟩:=by simp[bT,bs]
   rw[<-o_];exact Rt Qq
  cases p
 have n:((x::y::l).map S_).length=l.length+2:=F_
 have F:(x::y::l).length=l.length+2:=rfl;rw[F]at K;have j:sep.size*(l.length+2)=sep.size*(l.length+1)+sep.size:=by rfl
 have ⟨e_,i⟩:∃e_,e_=sep.size*(l.length+1):=X_;rw[<-i]at j;rw[j]at K;have hdiv:sep.size+1<=9223372036854775807 / (l.length+1):=by
  rw[le_div_iff_mul_le (succ_pos _),Nat.add_mul,<-i];omega
 have hdl:9223372036854775807 / (l.length+1)<=9223372036854775807:=div_le_self _ _;have hMp:0<e_:=F_
 have z:∀k,cX ((x::y::l).take k)<=cX (x::y::l):=nV _;refine Bd func204 Z ntmps204<|Sz aI<|S<|O aA<|V (fW aE)<|aD<|O cD<|Da<|Cn ?_ ?_<;>intro h
 ·exact absurd (b9 h) X
 refine O cD<|Da<|Cn ?_ ?_<;>intro p
 ·exact absurd (b9 p) X
 refine aB<|Sz aI<|S<|O aA<|Y (gE U_)<|V iP<|Cn ?_ ?_<;>intro I
 ·refine S<|O aA<|Y (gE U_)<|Y aA<|Y (fW aE)<|Y (by exact dM Z Z Z (show IntKind.i64.wrap ((((x::y::l).map S_).length:Int) - 1)=((l.length+1:Nat):Int)by rw[IntKind.wrap_i64,n];omega))<|Y (by exact CU (r:=((9223372036854775807 / (l.length+1):Nat):Int)) Z Z Z X (by rw[show (9223372036854775807:Int)=((9223372036854775807:Nat):Int)by rfl,<-Int.ofNat_tdiv,IntKind.wrap_i64];omega))<|V zU ?_;refine Cn ?_ ?_<;>intro d_
  ·exact absurd (b9 d_) X
  refine aB<|Rd aA<|Y aA<|Y (gE U_)<|Y aA<|Y (fW aE)<|Y (by exact dM Z Z Z (show IntKind.i64.wrap ((((x::y::l).map S_).length:Int) - 1)=((l.length+1:Nat):Int)by rw[IntKind.wrap_i64,n];omega))<|Y (by exact oL Z Z Z (show IntKind.i64.wrap ((sep.size:Int)*((l.length+1:Nat):Int))=(e_:Int)by rw[<-Int.natCast_mul,<-i,IntKind.wrap_i64];omega))<|Y (by exact dB Z Z Z (show IntKind.i64.wrap (0+(e_:Int))=(e_:Int)by rw[IntKind.wrap_i64];omega))<|V aI<|S<|O aA<|Y (fW aE)<|V aA<|aD ?_;refine bF (σ:=Nat) (λk=>([(0,.pv (aL (x::y::l))),(1,sv sep),(5,iv ((e_+cX ((x::y::l).take k):Nat):Int)),(39,.pv (aL (x::y::l))),(40,iv (((x::y::l).map S_).length:Int)),(41,iv (k:Int))],[])) (λk=>k<=l.length+2) (λk=>l.length+2 - k) 0 (l7 _) ?_ ?_
  ·exact Wk
  intro k hk;refine Sz cJ<|S<|Cn ?_ ?_<;>intro v
  ·have m:k<l.length+2:=I_ v
   have ⟨s,t⟩:=aS (show k<(x::y::l).length by omega);have w:=cE (f:=S_) t;have c_:=xP t;have h1:=z (k+1);refine aB<|S<|aD<|O (bU Z bD Z Z X x6 w Z)<|Y (fZ N_ (hi:=w))<|V aI<|S<|O aA<|Y (gE U_)<|Y aA<|Y (by exact dM Z Z Z (show IntKind.i64.wrap (9223372036854775807 - ((e_+cX ((x::y::l).take k):Nat):Int))=9223372036854775807 - ((e_+cX ((x::y::l).take k):Nat):Int)by rw[IntKind.wrap_i64];omega))<|V iP ?_;refine Cn ?_ ?_<;>intro G
   ·exact absurd (b9 G) X
   refine aB<|Rd aA<|Y aA<|Y (gE U_)<|Y (by exact dB Z Z Z (show IntKind.i64.wrap (((e_+cX ((x::y::l).take k):Nat):Int)+(s.size:Int))=((e_+cX ((x::y::l).take (k+1)):Nat):Int)by rw[IntKind.wrap_i64,c_];omega))<|V aI<|Rd gX<|V aA ?_;exact⟨k+1,X,X,Wk⟩
  have hge:k=l.length+2:=J_ v
  have hall:cX ((x::y::l).take k)=cX (x::y::l):=F_
  have h2:=z k;refine aP<|Sz (kl 2001 HG)<|O aA<|V (kc call255 (Ur (e_+cX ((x::y::l).take k)) X X))<|O aA<|Y (bU Z bD Z Z X (l_ _) Z Z)<|Y (fZ N_ (hi:=rfl))<|V (kc mY (jC 1 [] true x (by show 0+_<_;have:=nV (x::y::l) 1;simp[cX]at this K;omega)))<|S<|O aA<|Y (by exact eY (l:=1) (h:=((x::y::l).map S_).length) (rows':=(y::l).map S_) Z bD Z (sz:=1) (by intro r N;obtain ⟨q,_,rfl⟩:=mem_map.1 N;rfl) Z Z (by rw[n];omega) (g_ _) (by rw[take_length];rfl))<|Y (fW aE)<|V aA<|aD ?_;have hyl:((y::l).map S_).length=l.length+1:=by rw[j6];rfl
  refine eU (λ(q g:Nat)=>([(1,sv sep),(8,.ref 2001 0 0 0),(63,.pv (aL (y::l))),(64,iv (((y::l).map S_).length:Int)),(65,iv (q:Int))],yP g (MR sep x (y::l) q) true)) (λq g=>q<=l.length+1) (λq g=>l.length+1 - q) 0 2 (l7 _) ?_ ?_
  ·show cL _ _ _ _ (yP (1+1) ([]++x.data.toList++[]) true);rw[append_nil];exact(cL.wk (Eb<|Ea<|Eb<|Eb<|Eb<|T_) (Hc (gJ Z Z)<|Hc (eM _ _)<|T_) T_)
  intro q g L;refine Sz cJ<|S<|Cn ?_ ?_<;>intro A
  ·have m:q<l.length+1:=I_ A
   have ⟨s,t⟩:=aS (show q<(y::l).length by rw[j7];exact m);have w:=cE (f:=S_) t;have o:=ff (sep:=sep) (x:=x) (l:=y::l) (k:=q) (Nat.le_of_lt m);have E:=Ak (sep:=sep) (x:=x) t;have hss:=Gb (m8 t);have D:x.size+cX (y::l)=cX (x::y::l):=by simp[cX]
   have f:(y::l).length=l.length+1:=rfl;rw[f,<-i]at o;refine aB<|S<|aD<|O (kx bD w)<|Y (fZ N_ (hi:=w))<|V aI<|O aA<|V (kc mY (jC g (MR sep x (y::l) q) true sep X))<|Rd aA<|V (kc mY (jC (g+1) (MR sep x (y::l) q++sep.data.toList) true s (by rw[j_];show _+sep.size+_<_;omega)))<|Rd gX<|V aA ?_;refine⟨q+1,g+1+1,X,X,?_⟩;show cL _ _ _ _ (yP (g+1+1) (MR sep x (y::l) (q+1)) true);rw[E,<-append_assoc];exact(cL.wk (Eb<|Ea<|Eb<|Eb<|Eb<|T_) (Hc (gJ Z Z)<|Hc (eM _ _)<|T_) T_)
  have u:q=l.length+1:=J_ A
  have o:=ff (sep:=sep) (x:=x) (l:=y::l) L;have f:(y::l).length=l.length+1:=rfl;have D:x.size+cX (y::l)=cX (x::y::l):=by simp[cX]
  rw[f,<-i]at o;refine aP<|O (kc mX (P9 g (MR sep x (y::l) q) true X))<|V aI<|aC ?_;have B:(⟨(MR sep x (y::l) q).toArray⟩:B_)=⟨(bT sep.data.toList (bs (x::y::l))).toArray⟩:=by
   rw[MR,u,<-f,take_length];rfl
  rw[<-B];exact Rt Qq
 exact absurd (b_ I) X
theorem pU:∀(x y),Op.bytesLess x y=decide (x<y)
 | [],[]=>rfl
 |_::_,[]=>rfl
 | [],_::_=>rfl
 |a::x,b::y=>by
  rw[Op.bytesLess,pU x y];simp[List.cons_lt_cons_iff];all_goals grind
theorem FU(s):lA s s=false:=by
 unfold lA;rw[pU]
 simp_all
theorem Fd{a b}(c:lA a b=false)(d:lA b a=false):a=b:=by
 unfold lA at c d;rw[pU]at c d;have e:=List.le_antisymm (List.not_lt.1 (b_ d)) (List.not_lt.1 (b_ c));have:=BL a b;rw[e]at this
 simpa using this.symm
theorem FT{a b c}(h1:lA a b=true)(h2:lA b c=true):lA a c=true:=by
 unfold lA at *;rw[pU]at *
 grind
theorem sq(s):lA s a6=false:=by
 unfold lA;rw[pU]
 simp_all
theorem OV{a b}:Yo a b=false↔lA b a=true:=by
 unfold Yo;constructor
 ·intro h;simp[q8,p_]at h;cases e:lA b a with
  |true=>rfl
  |false=>exact absurd (Fd h.1 e) h.2
 intro h;simp[q8,p_];refine⟨?_,λe=>?_⟩
 ·cases e:lA a b with
  |false=>rfl
  |true=>have:=FT e h;rw[FU]at this;cases this
 subst e;rw[FU]at h;cases h
theorem SV{s}(h:cH s=true):s≠a6:=by
 simp[cH,k_,r8,p_]at h
 grind
theorem Ui{l}{s}:vi l s=true↔s∈l:=by
 unfold vi
 simp_all
theorem CK(a b):lA a b=decide (a.data.toList<b.data.toList):=by unfold lA;rw[pU,ByteArray.toList_eq,ByteArray.toList_eq]
def ez{α:Type}(f:α->B_)(l:List α)(s:B_):Nat:=l.findIdx (λo=>!lA (f o) s)
def fp{α:Type}(f:α->B_)(l:List α)(s:B_):Bool:=l.any (λo=>decide (f o=s))
def asc{α:Type}(f:α->B_)(l:List α):Prop:=l.Pairwise (λa b=>lA (f a) (f b)=true)
theorem PO{f}{l}(h:asc f l){j:Nat}{a b:α}(c:i<j)(k:l[i]?=some a)(n:l[j]?=some b):lA (f a) (f b)=true:=by
 have ⟨m,d⟩:=m9.1 k;have ⟨g,e⟩:=m9.1 n;have:=pairwise_iff_getElem.1 h i j m g c
 rwa [d,e]at this
theorem aA2{f}{l:List α}{s}{i}(hi:i<=l.length)(h1:∀k,k<i->∀o,l[k]?=some o->lA (f o) s=true)(h2:∀o,l[i]?=some o->lA (f o) s=false):ez f l s=i:=by
 unfold ez;by_cases e:i<l.length
 ·rw[findIdx_eq e]
  grind
 grind
theorem Up{f}{l}{s}{o:α}(j:asc f l)(g:∀k,k<i->∀o,l[k]?=some o->lA (f o) s=true)(c:l[i]?=some o)(d:lA (f o) s=false):fp f l s=decide (f o=s):=by
 rw[fp,Bool.eq_iff_iff,any_eq_true,j0];constructor
 ·rintro⟨x,e,a⟩;have a:=b9 a;have ⟨k,b⟩:=s8.1 e;rcases Nat.lt_trichotomy k i with h|h|h
  ·have:=g k h x b;rw[a,FU]at this;cases this
  ·subst h;rw[c]at b;cases b;exact a
  have:=PO j h c b;rw[a,d]at this;cases this
 grind
theorem Am{f}{l:List α}{s}(c:∀k,k<l.length->∀o,l[k]?=some o->lA (f o) s=true):fp f l s=false:=by rw[fp,any_eq_false];intro o b;have ⟨k,a⟩:=s8.1 b;have:=c k (m9.1 a).1 o a;simp[j0];intro e;rw[e,FU]at this;grind
theorem Uq{i j}(h:i<j):i<=(i+j) / 2/\(i+j) / 2<j:=X
theorem Kg(f)(l:List α)(s):ez f l s<=l.length:=findIdx_le_length
abbrev yz(ps:List (List PV)):List (List AV):=ps.map (·.map .pv)
theorem JR(ps):(yz ps).length=ps.length:=j6 _
theorem wh(ps)(H):∀r∈yz ps,∀a∈r,Clo H a:=ZY _ _ H
instance(ps)(H):W_ (H) (yz ps):=⟨wh ps H⟩
theorem TI{a}{t}:DJ a t=false↔cH t.key=true/\lA a t.key=true/\t.val≠a6/\t.val.size<=200:=by
 simp[DJ,q8,Bool.not_eq_false',OV,p_]
 grind
theorem Ql{s}(h:s≠a6):lA a6 s=true:=by
 cases e:lA _ s with
 |true=>rfl
 |false=>exact absurd (Fd (sq s) e) h
theorem xH{l:List m7}:sW l=true↔(∀t,t∈l->cH t.key=true/\t.val≠a6/\t.val.size<=200)/\asc m7.key l/\l.length<=60:=by
 have g:decide ((l.length:Int)<=60)=decide (l.length<=60):=by
  grind
 rw[sW,g,k_,r8,any_eq_false,j0];constructor
 ·rintro⟨h,y⟩;have s:∀k t,l[k]?=some t->cH t.key=true/\lA (kN m7.key l k) t.key=true/\t.val≠a6/\t.val.size<=200:=λk t o=>by
   have m:=h k (mem_range.2 (m9.1 o).1);rw[TJ,o]at m;simp only[Bool.not_eq_true]at m;exact TI.1 m
  refine⟨λt u=>?_,?_,y⟩
  ·have ⟨k,o⟩:=s8.1 u
   grind
  have key:∀(d i:Nat) (a b:m7),l[i]?=some a->l[i+d+1]?=some b->lA a.key b.key=true:=by
   intro d
   induction d with
   |zero =>
    intro i a b q f;have:=(s (i+1) b f).2.1;rw[kN,q]at this;exact this
   |succ d A =>
    intro i a b q f;have e:i+d+1<l.length:=by have:=(m9.1 f).1;omega
    have ⟨x,r⟩:=aS e;have p:=(s (i+(d+1)+1) b f).2.1;rw[kN,show i+(d+1)=i+d+1 by omega,r]at p;exact FT (A i a x q r) p
  rw[asc,pairwise_iff_getElem];intro i j w v hij;exact key (j - i - 1) i _ _ (m_ w) (by rw[show i+(j - i - 1)+1=j by omega];exact m_ v)
 rintro⟨m,p,z⟩;refine⟨λk o=>?_,z⟩;have e:=mem_range.1 o;rw[TJ,m_ e];simp only[Bool.not_eq_true];have ⟨a,b,c⟩:=m _ (getElem_mem e);refine TI.2 ⟨a,?_,b,c⟩;cases k with
 |zero =>
  have:l[0].key≠a6:=SV a;exact Ql this
 |succ k =>
  rw[kN,m_ (show k<l.length by omega)];exact PO p (lt_succ_self k) (m_ X) (m_ e)
theorem OH(h:AV)(l:List b8)(p:b8->Bool)(H:aF)(hl:l.length<2^62)(m:∀o,o∈l->dH Tryz.prog h [.agg ((bJ o).map .pv)] H (λr H'=>r=.pv (.bool (p o))/\H'=H)):
    RC 293 [.pv (.sl (l.map bJ)),h] (.pv (.int .i64 (AJ p l))) H:=by
  refine Bd func293 Z ntmps293<|Sz aI<|S<|O aA<|Y (fW eW)<|V aA<|aD<|bF (σ:=Nat) (λk=>([(0,.pv (.sl (l.map bJ))),(1,h),(7,.pv (.int .i64 (l.map bJ).length)),(8,.pv (.int .i64 (k:Int)))],H)) (λk=>k<=l.length/\∀j,j<k->∀b,l[j]?=some b->p b=false) (λk=>l.length - k) 0 ⟨X,X⟩ ?_ ?_
  · exact E0
  · rintro k ⟨hk,c⟩
    refine Sz cJ<|S<|Cn ?_ ?_<;>intro hc1
    · have g:k<l.length:=F_
      have ⟨o,f⟩:=aS g;have hi:=cE (f:=bJ) f;have d:=m o (m8 f);refine aB<|S<|aD<|O aA<|V aI<|O aA<|Y aA<|Y aA<|Y (iO ca)<|Y (fA Z cU aZ Z X (Z) Z)<|V (dA Z Z Z (d))<|Cn ?_ ?_<;>intro i
      · skip
        refine O aA<|V aI<|aC ?_;exact cR (H':=H) (.inr Z) Z (aH Z) Fin.refl ⟨by rw[AJ,W8 c f i],Z⟩
      · skip
        refine aB<|Rd gX<|V aA ?_;refine⟨k+1,⟨X,λj hj b hb=>?_⟩,X,E0⟩
        grind
    · have e:k=l.length:=G_
      subst e;refine aP<|Sz aI<|aC ?_;exact cR (H':=H) (.inr Z) Z (aH Z) Fin.refl ⟨by rw[AJ,W9 c],Z⟩
def aEP(id:B_)(o:l6):Bool:=decide (o.id=id)
def nj(x y:Int):Bool:=decide (0<=min x y)&&decide (max x y<1048576)
theorem IQ(b)(l:List _)(p)(H)(c:l.length<2^62)(d:∀o,o∈l->dH Tryz.prog b [.agg ((bJ o).map .pv)] H (λr H'=>r=.pv (.bool (p o))/\H'=H)):
  RC 257 [.pv (.sl (l.map bJ)),b] (.pv (.bool (l.any p))) H:=by
 refine aU.body func257 Z ntmps257 (r_ Z)<|K3<|DL<|qp Z Z Z (xT Z Z)<|qo<|K3<|DL<|qp Z Z Z (gU Z Z)<|qp Z Z Z (gU Z Z)<|qp Z Z Z (bH Z Z call293 Z (OH _ l p H c d))<|qp Z Z Z (jL Z Z Z)<|qp Z Z Z (xT Z Z)<|qo<|aC ?_;exact cR (.inr Z) Z (aH Z) Fin.refl ⟨by rw[Ld],Z⟩
def wA(a b:m7):Bool:=decide (a.key=b.key)&&decide (a.val=b.val)
def qW:List m7->List m7->Bool
 | [],[]=>true
 |a::l,b::r=>wA a b&&qW l r
 |_,_=>false
theorem VI(a b):wA a b=true↔a=b:=by cases a;cases b;simp[wA]
theorem VD:∀(a b),a.length≠b.length->qW a b=false
 | [],[],h=>absurd Z h
 | [],_::_,_=>rfl
 |_::_,[],_=>rfl
 |x::a,y::b,h=>by rw[qW,VD a b (by simp_all)];simp
theorem VE:∀(a b) (k:Nat) (x y),a[k]?=some x->b[k]?=some y->wA x y=false->qW a b=false
 | [],_,k,x,y,h,_,_=>by grind
 |_::_,[],k,x,y,_,h,_=>rfl
 |u::a,v::b,0,x,y,c,d,h=>by cases c;cases d;rw[qW,h];rfl
 |u::a,v::b,k+1,x,y,c,d,h=>by rw[qW,VE a b k x y c d h];simp
theorem P7:∀(a b),a.length=b.length->(∀k,k<a.length->∀x y,a[k]?=some x->b[k]?=some y->wA x y=true)->qW a b=true
 | [],[],_,_=>rfl
 | [],_::_,h,_=>by grind
 |_::_,[],h,_=>by grind
 |u::a,v::b,hl,h=>by
  rw[qW,h 0 (by simp) u v Z Z,P7 a b (by simp_all) (λk hk x y c d=>h (k+1) (by simp_all) x y c d)];rfl
theorem gk (a b:List m7) (H:aF) (ha:a.length < 4611686018427387904) :
    RC 314 [lv (a.map bS),lv (b.map bS)] (bv (qW a b)) H:=by
  refine Pu<|Bd func314 Z ntmps314<|Sz aI<|S<|O aA<|Y (fW dO)<|Y aA<|Y (fW dO)<|V zB<|Cn ?_ ?_<;>intro hc1
  · have i:a.length≠b.length:=G_
    refine Sz aI<|aC<|Rt ?_;exact⟨by rw[VD a b i],Z⟩
  · have f:a.length=b.length:=G_
    refine aB<|S<|O aA<|Y (fW dO)<|V aA<|aD<|bF (σ:=Nat) (λk=>([(0,lv (a.map bS)),(1,lv (b.map bS)),(12,iv (a.map bS).length),(13,iv (k:Int))],[])) (λk=>k<=a.length/\∀j,j<k->∀x y,a[j]?=some x->b[j]?=some y->wA x y=true) (λk=>a.length - k) 0 ⟨X,X⟩ ?_ ?_
    · exact E0
    · rintro k ⟨hk,d⟩
      refine Sz cJ<|S<|Cn ?_ ?_<;>intro hc2
      · have g:k<a.length:=F_
        have ⟨x,o⟩:=aS g;have ⟨y,m⟩:=aS (l:=b) (k:=k) X;have hi:=cE (f:=bS) o;have hi2:=cE (f:=bS) m;refine aB<|S<|aD<|O aA<|V aI<|S<|aM a7<|Cq aA<|Cq aA<|Cq (iO lK)<|Cq (by exact fA Z xB lN Z X (by simp only[Zl,bS,bP,bJ];rfl) Z)<|Cq aA<|Cq aA<|Cq (iO lK)<|Cq (by exact fA Z xB lN Z X (by simp only[Zl,bS,bP,bJ];rfl) Z)<|Cq (J7 Z Z Z Z Z eqGuardType270 (Ws _ _ _ _))<|bG<|Kr ?_;refine Cn ?_ ?_<;>intro e
        · have n:wA x y=false:=by
            have h:(!wA x y)=true:=e
            simpa using h
          refine Sz aI<|aC<|Rt ?_;exact⟨by rw[VE a b k x y o m n],Z⟩
        · have n:wA x y=true:=by
            have h:(!wA x y)=false:=e
            simpa using h
          refine aB<|Rd gX<|V aA ?_;refine⟨k+1,⟨X,λj hj x' y' h1 h2=>?_⟩,X,E0⟩
          grind
      · have l:k=a.length:=G_
        subst l;refine aP<|Sz aI<|aC<|Rt ?_;exact⟨by rw[P7 a b f d],Z⟩
theorem P6:∀ {a b},qW a b=true↔a=b
 | [],[]=>by simp[qW]
 | [],_::_=>by simp[qW]
 |_::_,[]=>by simp[qW]
 |x::a,y::b=>by rw[qW,k_,VI,P6];simp
theorem aDu(k f o g n j m l:B_)(w:World):(Op.equalIn 10000 316 (.agg [.string k,.string o,.string n,.string m].toArray) (.agg [.string f,.string g,.string j,.string l].toArray)).run Tryz.prog w =
  .ok (decide (k=f)&&decide (o=g)&&decide (n=j)&&decide (m=l)) w:=by
 have ⟨i,q⟩:=info_of_underlying U_;refine(run_equalIn_array (P:=Tryz.prog) w 9999 _ _ underlying316 q).trans ?_;have s:∀(d:Nat) (a b:B_) (w:World),(Op.equalIn (d+1) 9 (.string a) (.string b)).run Tryz.prog w=.ok (decide (a=b)) w:=λd a b w=>by rw[run_equalIn_string w d 9 a b U_,BL]
 have t:Tryz.prog.cellsOf 9=1:=by rfl
 by_cases r:k=f<;>by_cases p:o=g<;>by_cases u:n=j<;>by_cases v:m=l<;>simp[range_succ,Op.eqItems,part,t,s,N_,r,p,u,v]
theorem gn(a b:List B_)(H:aF)(ha:a.length<2^62):RC 312 [.pv (aL a),.pv (aL b)] (bv (decide (a=b))) H:=by
 refine Pu ?_;have hma:(a.map S_).length=a.length:=j6 _;refine Bd func312 Z ntmps312<|Sz aI<|S<|O aA<|Y (fW aE)<|Y aA<|Y (fW aE)<|V zB<|Cn ?_ ?_<;>intro hc1
 ·have j:¬ a=b:=by
   grind
  refine Sz aI<|aC<|Rt ?_
  simp_all
 have m:a.length=b.length:=by
  grind
 refine aB<|S<|O aA<|Y (fW aE)<|V aA<|aD<|bF (σ:=Nat) (λk=>([(0,.pv (aL a)),(1,.pv (aL b)),(12,iv ((a.map S_).length:Int)),(13,iv (k:Int))],[])) (λk=>k<=a.length/\a.take k=b.take k) (λk=>a.length - k) 0 ⟨X,H_⟩ ?_ ?_
 ·exact E0
 rintro k ⟨hk,e⟩;refine Sz cJ<|S<|Cn ?_ ?_<;>intro f
 ·have l:k<a.length:=I_ f
  have ⟨x,n⟩:=aS l;have ⟨y,o⟩:=aS (l:=b) (k:=k) X;have hi:=cE (f:=S_) n;have hi2:=cE (f:=S_) o;refine aB<|S<|aD<|O aA<|V aI<|S<|aM a7<|Cq aA<|Cq aA<|Cq (iO bD)<|Cq (fZ N_)<|Cq aA<|Cq aA<|Cq (iO bD)<|Cq (fZ N_)<|Cq DZ<|bG<|Kr<|Cn ?_ ?_<;>intro i
  ·have j:¬ a=b:=by
    grind
   refine Sz aI<|aC<|Rt ?_
   simp_all
  have p:x=y:=by
   have h:(!decide (x=y))=false:=i
   simpa using h
  refine aB<|Rd gX<|V aA ?_;refine⟨k+1,⟨X,?_⟩,X,E0⟩;rw[take_add_one,take_add_one,n,o,e,p]
 have g:k=a.length:=J_ f
 have he:a=b:=by
  have h:=e;rw[g,take_length,m,take_length]at h;exact h
 refine aP<|Sz aI<|aC<|Rt ?_
 simp_all
def yG(a b:l6):Bool:=((decide (a.id=b.id)&&decide (a.kind=b.kind)&&(decide (a.x=b.x)&&decide (a.y=b.y)))&&decide (a.refs=b.refs))&&qW a.tags b.tags
theorem ID{a b}:yG a b=true↔a=b:=by
 cases a;cases b;simp[yG,k_,j0,P6,l6.mk.injEq]
 grind
def okS(o:l6):Prop:=o.refs.length<2^62/\o.tags.length<2^62
theorem x5{p:Prop}(h:p:=by exact aW Z eD sizeOf104 Z Z Z Z (by simp only[Zl,bS,bP,S_,bJ];rfl) Z):p:=h
theorem Qy(a b:l6)(H:aF)(h:okS a):RC 313 [av (bP a),av (bP b)] (bv (yG a b)) H:=by
 refine Pu<|Bd func313 Z ntmps313<|O (kb 2)<|Y (kb 3)<|V aI<|S<|aQ (t:=4) (n:=38) (A_:=yG a b) ?_ ?_
 ·all_goals refine Y (bA qR)<|Y (bQ N_)<|Y (bA qR)<|Y (bQ N_)<|Y wH<|Dm ?_<;>(refine Sp 10 (λd=>?_) λd=>?_)<;>(first|exact s_|refine M<|M<|M<|M<|M ?_|refine U (bA eB)<|U (bQ M_)<|U (bA eB)<|U (bQ M_)<|U cD ?_)<;>refine Y cC<|Dm ?_<;>(refine Sp 17 (λf=>?_) λf=>?_)<;>(first|exact s_|refine M<|M<|M<|M<|M ?_|refine U (bA mK)<|U x5<|U (bA mK)<|U x5<|U (BI Z Z Z Z Z mG (QT _ _ _ _)) ?_)<;>refine Y cC<|Dm ?_<;>(refine Sp 24 (λg=>?_) λg=>?_)<;>(first|exact s_|refine M<|M<|M<|M<|M ?_|refine U (bA eA)<|U (bQ aG)<|U (bA eA)<|U (bQ aG)<|U (kc call312 (gn a.refs b.refs _ h.1)) ?_)<;>refine Y cC<|Dm ?_<;>(refine Sp 31 (λe=>?_) λe=>?_)<;>(first|exact s_|refine M<|M<|M<|M<|M ?_|refine U (bA gA)<|U (bQ dF)<|U (bA gA)<|U (bQ dF)<|U (kc call314 (gk a.tags b.tags _ h.2)) ?_)<;>refine Y cC<|Da ?_<;>exact Gj (h:=by(simp only[yG, *];rfl))
 exact aC<|Rt<|Qq
def EY(a b:b8):Bool:=((((decide (a.refs=b.refs)&&yG a.obj b.obj)&&decide (a.op=b.op))&&(decide (a.id=b.id)&&decide (a.other=b.other)&&decide (a.node=b.node)&&decide (a.key=b.key)))&&decide (a.val=b.val))&&(decide (a.x=b.x)&&decide (a.y=b.y))
theorem pG{a b}:EY a b=true↔a=b:=by
 cases a;cases b;simp[EY,k_,j0,ID,b8.mk.injEq]
 grind
theorem y6{p:Prop}(h:p:=by simp only[Zl,bS,bP,S_,bJ];rfl):p:=h
theorem Qz(a b:b8)(H:aF)(j:a.refs.length<2^62)(i:okS a.obj):RC 295 [av (bJ a),av (bJ b)] (bv (EY a b)) H:=by
 refine Pu<|Bd func295 Z ntmps295<|O (kb 2)<|Y (kb 3)<|V aI<|S<|aQ (t:=5) (n:=14) (A_:=decide (a.refs=b.refs)&&yG a.obj b.obj) ?_ ?_
 ·all_goals refine Y (bA iM)<|Y (bQ aG)<|Y (bA iM)<|Y (bQ aG)<|Y (kc call312 (gn a.refs b.refs _ j))<|Dm ?_<;>(refine Sp 11 (λg=>?_) λg=>?_)<;>(first|exact s_|refine M<|M<|M<|M<|M ?_|refine U (bA uU)<|U (by exact aW Z bW sizeOf135 Z Z Z Z y6 Z)<|U (bA uU)<|U (by exact aW Z bW sizeOf135 Z Z Z Z y6 Z)<|U (kc call313 (Qy a.obj b.obj _ i)) ?_)<;>refine Y cC<|Da ?_<;>exact Gj (h:=by simp_all)
 refine S<|aQ (t:=4) (n:=48) (A_:=EY a b) ?_ ?_
 ·all_goals refine Y aA<|Dm ?_<;>(refine Sp 19 (λf=>?_) λf=>?_)<;>(first|exact s_|refine M<|M<|M<|M<|M ?_|refine U (bA iN)<|U (bQ M_)<|U (bA iN)<|U (bQ M_)<|U cD ?_)<;>refine Y cC<|Dm ?_<;>(refine Sp 26 (λh26=>?_) λh26=>?_)<;>(first|exact s_|refine M<|M<|M<|M<|M<|M<|M<|M<|M<|M<|M<|M<|M<|M<|M<|M<|M<|M<|M ?_|refine U (bA jO)<|U (bQ N_)<|U (bA kM)<|U (bQ N_)<|U (bA qQ)<|U (bQ N_)<|U (bA nN)<|U (bQ N_)<|U (zE Z Xh Z Z)<|U (bA jO)<|U (bQ N_)<|U (bA kM)<|U (bQ N_)<|U (bA qQ)<|U (bQ N_)<|U (bA nN)<|U (bQ N_)<|U (zE Z Xh Z Z)<|U (BI Z Z Z Z Z eqGuardType316 (aDu a.id b.id a.other b.other a.node b.node a.key b.key)) ?_)<;>refine Y cC<|Dm ?_<;>(refine Sp 47 (λh=>?_) λh=>?_)<;>(first|exact s_|refine M<|M<|M<|M<|M ?_|refine U (bA oP)<|U (bQ N_)<|U (bA oP)<|U (bQ N_)<|U wH ?_)<;>refine Y cC<|Dm ?_<;>(refine Sp 54 (λe=>?_) λe=>?_)<;>(first|exact s_|refine M<|M<|M<|M<|M ?_|refine U (bA jE)<|U x5<|U (bA jE)<|U x5<|U (BI Z Z Z Z Z mG (QT _ _ _ _)) ?_)<;>refine Y cC<|Da ?_<;>exact Gj (h:=by(simp only[EY, *];rfl))
 exact aC<|Rt<|Qq
def atP{α:Type}(l:List α)(p:α->Bool)(k:Nat):Bool:=match l[k]? with
 |some s=>p s
 |none=>false
theorem TO{l}{p}{k}{s:α}(h:l[k]?=some s):atP l p k=p s:=by rw[atP,h]
theorem UE(l:List α)(p):(List.range l.length).any (atP l p)=l.any p:=by
 rw[Bool.eq_iff_iff,any_eq_true,any_eq_true];constructor
 ·rintro⟨k,a,h⟩;have b:=mem_range.1 a;rw[TO (m_ b)]at h;exact⟨_,getElem_mem _,h⟩
 rintro⟨x,c,h⟩;have ⟨k,a⟩:=s8.1 c;exact⟨k,mem_range.2 (m9.1 a).1,by rw[TO a];exact h⟩
theorem Ju(s)(H)(b:s.size<2^62):RC 311 [sv s] (bv (!cH s)) H:=by refine Pu ?_;exact Bd func311 Z ntmps311<|Sz aI<|O aA<|Y (bH Z Z oW Z (CY s _ b))<|Y iI<|V aI<|aC<|Rt<|Qq
theorem ZD(l)(H)(d:l.length<2^62)(c:∀s∈l,s.size<2^62):RC 294 [.pv (aL l)] (bv (l.all cH)) H:=by
 refine Pu ?_;have e:l.all cH=!(List.range l.length).any (atP l (λs=>!cH s)):=by
  rw[UE l _,any_eq_not_all_not];simp
 rw[e];exact Bd func294 Z ntmps294<|Sz aI<|O aA<|Y (kc call28 (AQ _ l (atP l _) (λ_=>[]) d (λk s b=>dH.fn call311 (by rw[TO b];exact Ju s _ (c s (m8 b))))))<|Y iI<|V aI<|aC<|Rt<|Qq
end Go.Proofs.YtopnleflllkbmaaGreatDoor
namespace Go.Abs
theorem eK{P}{G0}{N}{Q}{E}{H}{x y}{α:Type}(f_:α->cY×aF)(c_:α->Prop)
  (h:gG P G0 N x (yX (λb H1=>∃a,c_ a/\cL G0 b H1 (f_ a).1 (f_ a).2) Q) E H) (d:∀a,c_ a->gG P G0 N y Q (f_ a).1 (f_ a).2):gG P G0 N (.seq x y) Q E H :=
 K3 (h.mono λe b H1 q=>by
  cases e with
  |normal =>
   have ⟨a,c,f⟩:=q;exact gG.ent f (d a c)
  |_=>exact q)
theorem BV{i}{o}{K:aF}:∀(D:aF),(∀p∈D,p.1=i)->∀j,aF.get ((i,o)::K) j=aF.get ((i,o)::(D++K)) j:=by
 intro D b j;by_cases e:i=j
 ·subst e;simp[aF.get,pI]
 have h:aF.get D j=none:=by
  cases a:aF.get D j with
  |none=>rfl
  |some x=>exact absurd (b _ (dY a)).symm e
 rw[get_cons_other _ _ (Ne.symm e),get_cons_other _ _ (Ne.symm e),gH,h]
theorem nT{H}{x}{c}(h:∀p∈c,Clo H p.2):∀r∈(LR x c).rows,∀a∈r,Clo H a:=by
 intro r d a b;simp[LR,l9,q7,or_false]at d;rcases d with rfl|rfl
 ·rw[r6]at b;subst b;simp
 obtain ⟨p,e,rfl⟩:=mem_map.1 b;exact h p e
def KE(A B:aF):List Nat->Prop
 | []=>True
 |j::r=>A.get j=B.get j/\KE A B r
theorem KE.spec{A B}:∀ {l},KE A B l->∀j∈l,A.get j=B.get j
 |i::r,h,j,a=>by
  rcases l9.1 a with rfl|a
  ·exact h.1
  exact KE.spec h.2 j a
theorem vo{D:aF}{j}(h:j∉D.map (·.1)):D.get j=none:=by
 cases a:D.get j with
 |none=>rfl
 |some o=>exact absurd (mem_map.2 ⟨_,dY a,Z⟩) h
theorem fw(A B){K}(h:KE A B (A.map (·.1)++B.map (·.1)))(j):aF.get (A++K) j=aF.get (B++K) j:=by
 rw[gH,gH];have e:A.get j=B.get j:=by
  by_cases a:j∈A.map (·.1)++B.map (·.1)
  ·exact h.spec j a
  rw[mem_append,not_or]at a;rw[vo a.1,vo a.2]
 rw[e]
end Go.Abs
namespace Go.Proofs.YtopnleflllkbmaaGreatDoor
open Go.Proofs.Tryz
open Go.Abs
variable{α:Type}
def FM(e:b8):b8 :=if e.op=1 then⟨e.op,a6,a6,a6,0,0,a6,a6,[],e.obj⟩
 else if e.op=2 then⟨e.op,e.id,a6,a6,e.x,e.y,a6,a6,[],h_⟩
 else if e.op=3 then⟨e.op,e.id,a6,a6,0,0,e.key,e.val,[],h_⟩
 else if e.op=4 then⟨e.op,e.id,a6,a6,0,0,a6,a6,e.refs,h_⟩
 else if e.op=5 then⟨e.op,e.id,a6,a6,0,0,a6,a6,[],h_⟩
 else if e.op=6 then⟨e.op,e.id,e.other,e.node,0,0,a6,a6,[],h_⟩
 else⟨e.op,e.id,e.other,a6,0,0,a6,a6,[],h_⟩
def wN(e:b8):Bool :=if e.op=1 then oF e.obj
 else cH e.id&&(if e.op=2 then nj e.x e.y else if e.op=3 then cH e.key&&decide ((e.val.size:Int)<=200)
  else if e.op=4 then decide ((0:Int)<(e.refs.length:Int))&&decide ((e.refs.length:Int)<=2000)&&e.refs.all cH
  else if e.op=5 then true else if e.op=6 then cH e.node&&cH e.other else cH e.other)
def fX(e:b8):Bool:=(decide (1<=e.op)&&decide (e.op<=7))&&(wN e&&EY (FM e) e)
def US(e:b8):Prop:=(e.id.size<2^62/\e.other.size<2^62/\e.node.size<2^62/\e.key.size<2^62)/\(e.refs.length<2^62/\∀s∈e.refs,s.size<2^62)/\jl e.obj
theorem aAI{o:l6}(h:jl o):okS o:=⟨h.2.2.1,h.2.1.1⟩
theorem WG:okS h_:=⟨E_,E_⟩
theorem Tp(s:B_)(H:aF)(hs:s.size<2^62):RC 294 [.pv (aL [s])] (bv (cH s)) H:=by
 have h:=ZD [s] H (by show 1<_;omega) (by simpa using hs)
 simpa using h
theorem aEM(s t:B_)(H:aF)(hs:s.size<2^62)(ht:t.size<2^62):RC 294 [.pv (aL [s,t])] (bv (cH s&&cH t)) H:=by
 have h:=ZD [s,t] H (by show 2<_;omega) (by simpa using ⟨hs,ht⟩)
 simpa using h
theorem m4{p:Prop}(h:p:=by simp only[Zl,bS,bP,S_,bJ,h_];rfl):p:=h
theorem gp(e:b8)(H:aF)(he:US e):RC 259 [av (bJ e)] (bv (fX e)) H:=by
 refine Pu ?_;have ⟨⟨h1,h2,h3,h4⟩,⟨h5,h6⟩,h7⟩:=he;have hrl:(e.refs.map S_).length=e.refs.length:=j6 _;have hg:fX e=((decide (1<=e.op)&&decide (e.op<=7))&&(wN e&&EY (FM e) e)):=rfl;have ⟨x,hX⟩:∃x,x=FM e:=X_;have ⟨k,hK⟩:∃k,k=wN e:=X_;rw[<-hX,<-hK]at hg;refine Bd func259 Z ntmps259<|O (kb 1)<|V aI<|O (bA iN)<|Y (bQ M_)<|Y (bA jO)<|Y (bQ N_)<|Y (oI tT)<|Y (kl 3 U4)<|Uu (jA aZ)<|Zz<|O (bA jO)<|Y (bQ N_)<|Y (aK ([e.id].map S_) Z bD Z Z Z Z Z (by simp[S_]))<|Y (kc call294 (Tp e.id _ h1))<|Da<|eK (λ(_:Unit)=>([(1,.ref 1 0 0 0),(3,.ref 3 0 0 0),(4,bv k)],[(3,bx 15 137 ((bJ x).map .pv)),(1,bx 15 137 ((bJ e).map .pv))])) (λ_=>(1<=e.op/\e.op<=7)/\x.refs.length<2^62/\okS x.obj) ?_ ?_
 ·refine O (bA iN)<|V (bQ M_)<|aD<|O cD<|Da<|Cn ?_ ?_<;>intro hc1
  ·have ho:e.op=1:=b9 hc1;have ⟨hx,hk⟩:x=⟨e.op,a6,a6,a6,0,0,a6,a6,[],e.obj⟩/\k=oF e.obj:=by subst hX hK;simp[FM,wN,nj,ho,Bool.and_assoc]
   rw[hx,hk];refine aM a7<|Cr [1] (λ_ h=>fh uU h)<|Cr [1] (λH1 hH=>by exact aW Z bW sizeOf135 Z ((hH _ Z).trans Z) Z Z m4 Z)<|Cr [1] (λ_ h=>fh uU h)<|Cr [1] (λH1 hH=>by exact aW Z bW sizeOf135 Z ((hH _ Z).trans Z) Z Z m4 Z)<|x_ (by exact bH Z Z call286 Z (R4 e.obj _ h7))<|Cr [3] (λ_ h=>fh jO h)<|Cp [3] (λ_ h=>su V_ h)<|Cr [3] (λ_ h=>fh uU h)<|Cp [3] (λ_ h=>sx sizeOf135 h)<|x_ aI ?_;refine bG<|Kr ?_;exact⟨(),⟨⟨X,X⟩,(zero_lt_succ _),aAI h7⟩,Wk⟩
  have ho1:¬ e.op=1:=b_ hc1;refine O cD<|Da<|Cn ?_ ?_<;>intro hc2
  ·have ho:e.op=2:=b9 hc2;have ⟨hx,hk⟩:x=⟨e.op,e.id,a6,a6,e.x,e.y,a6,a6,[],h_⟩/\k=(cH e.id&&decide (0<=min e.x e.y)&&decide (max e.x e.y<1048576)):=by subst hX hK;simp[FM,wN,nj,ho,Bool.and_assoc]
   rw[hx,hk];apply yR (t:=4) (n:=25) (A_:=(cH e.id&&decide (0<=min e.x e.y)&&decide (max e.x e.y<1048576)))
   ·cases hg30:(cH e.id:Bool)
    ·refine aM a7<|Cr [1] (λ_ h=>fh jE h)<|Cr [1] (λH1 hH=>by exact aW Z eD sizeOf104 Z ((hH _ Z).trans Z) Z Z m4 Z)<|x_ aA<|x_ aA<|Ot<|Ot<|Ot<|Ot<|Ot<|Ot<|Ot<|Ot<|x_ cC<|x_ aA<|Ot<|Ot<|Ot<|Ot<|Ot<|Ot<|Ot<|Ot<|x_ cC<|Cr [3] (λ_ h=>fh jE h)<|Cp [3] (λ_ h=>sx sizeOf104 h)<|x_ aI<|bG<|Kr ?_;exact⟨Z,⟨_,Z,by rfl⟩,Z,Z,Z⟩
    cases hg40:(decide (0<=min e.x e.y):Bool)
    ·refine aM a7<|Cr [1] (λ_ h=>fh jE h)<|Cr [1] (λH1 hH=>by exact aW Z eD sizeOf104 Z ((hH _ Z).trans Z) Z Z m4 Z)<|x_ aA<|x_ aA<|Lt [1] (λ_ h=>fh jE h)<|Lt [1] (λ_ h=>fh mM h)<|Lt [1] (λ_ h=>lh M_ h)<|Lt [1] (λ_ h=>fh jE h)<|Lt [1] (λ_ h=>fh mL h)<|Lt [1] (λ_ h=>lh M_ h)<|Lt [] (λH1 hH=>by exact CV Z Z Z Z)<|Lt [] (λH1 hH=>by exact jL Z Z Z) ?_;refine x_ cC<|x_ aA<|Ot<|Ot<|Ot<|Ot<|Ot<|Ot<|Ot<|Ot<|x_ sC<|Cr [3] (λ_ h=>fh jE h)<|Cp [3] (λ_ h=>sx sizeOf104 h)<|x_ aI<|bG<|Kr ?_;exact⟨Z,⟨_,Z,by rfl⟩,Z,Z,Z⟩
    refine aM a7<|Cr [1] (λ_ h=>fh jE h)<|Cr [1] (λH1 hH=>by exact aW Z eD sizeOf104 Z ((hH _ Z).trans Z) Z Z m4 Z)<|x_ aA<|x_ aA<|Lt [1] (λ_ h=>fh jE h)<|Lt [1] (λ_ h=>fh mM h)<|Lt [1] (λ_ h=>lh M_ h)<|Lt [1] (λ_ h=>fh jE h)<|Lt [1] (λ_ h=>fh mL h)<|Lt [1] (λ_ h=>lh M_ h)<|Lt [] (λH1 hH=>by exact CV Z Z Z Z)<|Lt [] (λH1 hH=>by exact jL Z Z Z) ?_;refine x_ cC<|x_ aA<|Lt [1] (λ_ h=>fh jE h)<|Lt [1] (λ_ h=>fh mM h)<|Lt [1] (λ_ h=>lh M_ h)<|Lt [1] (λ_ h=>fh jE h)<|Lt [1] (λ_ h=>fh mL h)<|Lt [1] (λ_ h=>lh M_ h)<|Lt [] (λH1 hH=>by exact Sy Z Z Z Z)<|Lt [] (λH1 hH=>by exact iC Z Z Z) ?_;refine x_ CS<|Cr [3] (λ_ h=>fh jE h)<|Cp [3] (λ_ h=>sx sizeOf104 h)<|x_ aI<|bG<|Kr ?_;exact⟨Z,⟨_,Z,by rfl⟩,Z,Z,Z⟩
   exact⟨(),⟨⟨X,X⟩,(zero_lt_succ _),WG⟩,Wk⟩
  have ho2:¬ e.op=2:=b_ hc2;refine O cD<|Da<|Cn ?_ ?_<;>intro hc3
  ·have ho:e.op=3:=b9 hc3;have ⟨hx,hk⟩:x=⟨e.op,e.id,a6,a6,0,0,e.key,e.val,[],h_⟩/\k=(cH e.id&&cH e.key&&decide ((e.val.size:Int)<=200)):=by subst hX hK;simp[FM,wN,nj,ho,Bool.and_assoc]
   rw[hx,hk];apply yR (t:=4) (n:=20) (A_:=(cH e.id&&cH e.key&&decide ((e.val.size:Int)<=200)))
   ·cases hg58:(cH e.id:Bool)
    ·refine aM a7<|Cr [1] (λ_ h=>fh nN h)<|Cr [1] (λ_ h=>lh N_ h)<|Cr [1] (λ_ h=>fh oP h)<|Cr [1] (λ_ h=>lh N_ h)<|x_ aA<|x_ aA<|Ot<|Ot<|Ot<|Ot<|x_ cC<|x_ aA<|Ot<|Ot<|Ot<|Ot<|x_ cC<|Cr [3] (λ_ h=>fh nN h)<|Cp [3] (λ_ h=>su V_ h)<|Cr [3] (λ_ h=>fh oP h)<|Cp [3] (λ_ h=>su V_ h)<|x_ aI<|bG<|Kr ?_;exact⟨Z,⟨_,Z,by rfl⟩,Z,Z,Z⟩
    cases hg64:(cH e.key:Bool)
    ·refine aM a7<|Cr [1] (λ_ h=>fh nN h)<|Cr [1] (λ_ h=>lh N_ h)<|Cr [1] (λ_ h=>fh oP h)<|Cr [1] (λ_ h=>lh N_ h)<|x_ aA<|x_ aA<|Lt [1] (λ_ h=>fh nN h)<|Lt [1] (λ_ h=>lh N_ h)<|Lt [] (λH1 hH=>by exact aK ([e.key].map S_) Z bD Z Z Z Z Z (by simp[S_]))<|Lt [] (λH1 hH=>by exact bH Z Z call294 Z (Tp e.key _ h4)) ?_;refine x_ cC<|x_ aA<|Ot<|Ot<|Ot<|Ot<|x_ sC<|Cr [3] (λ_ h=>fh nN h)<|Cp [3] (λ_ h=>su V_ h)<|Cr [3] (λ_ h=>fh oP h)<|Cp [3] (λ_ h=>su V_ h)<|x_ aI<|bG<|Kr ?_;exact⟨Z,⟨_,Z,by rfl⟩,Z,Z,Z⟩
    refine aM a7<|Cr [1] (λ_ h=>fh nN h)<|Cr [1] (λ_ h=>lh N_ h)<|Cr [1] (λ_ h=>fh oP h)<|Cr [1] (λ_ h=>lh N_ h)<|x_ aA<|x_ aA<|Lt [1] (λ_ h=>fh nN h)<|Lt [1] (λ_ h=>lh N_ h)<|Lt [] (λH1 hH=>by exact aK ([e.key].map S_) Z bD Z Z Z Z Z (by simp[S_]))<|Lt [] (λH1 hH=>by exact bH Z Z call294 Z (Tp e.key _ h4)) ?_;refine x_ cC<|x_ aA<|Lt [1] (λ_ h=>fh oP h)<|Lt [1] (λ_ h=>lh N_ h)<|Lt [] (λH1 hH=>by exact NP Z U_ Z)<|Lt [] (λH1 hH=>by exact oM Z Z Z) ?_;refine x_ CS<|Cr [3] (λ_ h=>fh nN h)<|Cp [3] (λ_ h=>su V_ h)<|Cr [3] (λ_ h=>fh oP h)<|Cp [3] (λ_ h=>su V_ h)<|x_ aI<|bG<|Kr ?_;exact⟨Z,⟨_,Z,by rfl⟩,Z,Z,Z⟩
   exact⟨(),⟨⟨X,X⟩,(zero_lt_succ _),WG⟩,Wk⟩
  have ho3:¬ e.op=3:=b_ hc3;refine O cD<|Da<|Cn ?_ ?_<;>intro hc4
  ·have ho:e.op=4:=b9 hc4;have ⟨hx,hk⟩:x=⟨e.op,e.id,a6,a6,0,0,a6,a6,e.refs,h_⟩/\k=(cH e.id&&decide ((0:Int)<((e.refs.map S_).length:Int))&&decide (((e.refs.map S_).length:Int)<=2000)&&e.refs.all cH):=by subst hX hK;simp[FM,wN,nj,ho,Bool.and_assoc]
   rw[hx,hk];apply yR (t:=4) (n:=22) (A_:=(cH e.id&&decide ((0:Int)<((e.refs.map S_).length:Int))&&decide (((e.refs.map S_).length:Int)<=2000)&&e.refs.all cH))
   ·cases hg77:(cH e.id:Bool)
    ·refine aM a7<|Cr [1] (λ_ h=>fh iM h)<|Cr [1] (λ_ h=>lh aG h)<|x_ aA<|x_ aA<|Ot<|Ot<|Ot<|Ot<|x_ cC<|x_ aA<|Ot<|Ot<|Ot<|Ot<|x_ cC<|x_ aA<|Ot<|Ot<|Ot<|x_ cC<|Cr [3] (λ_ h=>fh iM h)<|Cp [3] (λ_ h=>su sizeOf22 h)<|x_ aI<|bG<|Kr ?_;exact⟨Z,⟨_,Z,by rfl⟩,Z,Z,Z⟩
    cases hg83:(decide ((0:Int)<((e.refs.map S_).length:Int)):Bool)
    ·refine aM a7<|Cr [1] (λ_ h=>fh iM h)<|Cr [1] (λ_ h=>lh aG h)<|x_ aA<|x_ aA<|Lt [1] (λ_ h=>fh iM h)<|Lt [1] (λ_ h=>lh aG h)<|Lt [] (λH1 hH=>by exact kW Z aE Z)<|Lt [] (λH1 hH=>by exact J5 Z Z Z) ?_;refine x_ cC<|x_ aA<|Ot<|Ot<|Ot<|Ot<|x_ sC<|x_ aA<|Ot<|Ot<|Ot<|x_ cC<|Cr [3] (λ_ h=>fh iM h)<|Cp [3] (λ_ h=>su sizeOf22 h)<|x_ aI<|bG<|Kr ?_;exact⟨Z,⟨_,Z,by rfl⟩,Z,Z,Z⟩
    cases hg89:(decide (((e.refs.map S_).length:Int)<=2000):Bool)
    ·refine aM a7<|Cr [1] (λ_ h=>fh iM h)<|Cr [1] (λ_ h=>lh aG h)<|x_ aA<|x_ aA<|Lt [1] (λ_ h=>fh iM h)<|Lt [1] (λ_ h=>lh aG h)<|Lt [] (λH1 hH=>by exact kW Z aE Z)<|Lt [] (λH1 hH=>by exact J5 Z Z Z) ?_;refine x_ cC<|x_ aA<|Lt [1] (λ_ h=>fh iM h)<|Lt [1] (λ_ h=>lh aG h)<|Lt [] (λH1 hH=>by exact kW Z aE Z)<|Lt [] (λH1 hH=>by exact oM Z Z Z) ?_;refine x_ CS<|x_ aA<|Ot<|Ot<|Ot<|x_ sC<|Cr [3] (λ_ h=>fh iM h)<|Cp [3] (λ_ h=>su sizeOf22 h)<|x_ aI<|bG<|Kr ?_;exact⟨Z,⟨_,Z,by rfl⟩,Z,Z,Z⟩
    refine aM a7<|Cr [1] (λ_ h=>fh iM h)<|Cr [1] (λ_ h=>lh aG h)<|x_ aA<|x_ aA<|Lt [1] (λ_ h=>fh iM h)<|Lt [1] (λ_ h=>lh aG h)<|Lt [] (λH1 hH=>by exact kW Z aE Z)<|Lt [] (λH1 hH=>by exact J5 Z Z Z) ?_;refine x_ cC<|x_ aA<|Lt [1] (λ_ h=>fh iM h)<|Lt [1] (λ_ h=>lh aG h)<|Lt [] (λH1 hH=>by exact kW Z aE Z)<|Lt [] (λH1 hH=>by exact oM Z Z Z) ?_;refine x_ CS<|x_ aA<|Lt [1] (λ_ h=>fh iM h)<|Lt [1] (λ_ h=>lh aG h)<|Lt [] (λH1 hH=>by exact bH Z Z call294 Z (ZD e.refs _ h5 h6)) ?_;refine x_ CS<|Cr [3] (λ_ h=>fh iM h)<|Cp [3] (λ_ h=>su sizeOf22 h)<|x_ aI<|bG<|Kr ?_;exact⟨Z,⟨_,Z,by rfl⟩,Z,Z,Z⟩
   exact⟨(),⟨⟨X,X⟩,h5,WG⟩,Wk⟩
  have ho4:¬ e.op=4:=b_ hc4;refine O cD<|Da<|Cn ?_ ?_<;>intro hc5
  ·have ho:e.op=5:=b9 hc5;have ⟨hx,hk⟩:x=⟨e.op,e.id,a6,a6,0,0,a6,a6,[],h_⟩/\k=cH e.id:=by subst hX hK;simp[FM,wN,nj,ho,Bool.and_assoc]
   rw[hx,hk];refine aB ?_;exact⟨(),⟨⟨X,X⟩,(zero_lt_succ _),WG⟩,Wk⟩
  have ho5:¬ e.op=5:=b_ hc5;refine O cD<|Da<|Cn ?_ ?_<;>intro hc6
  ·have ho:e.op=6:=b9 hc6;have ⟨hx,hk⟩:x=⟨e.op,e.id,e.other,e.node,0,0,a6,a6,[],h_⟩/\k=(cH e.id&&(cH e.node&&cH e.other)):=by subst hX hK;simp[FM,wN,nj,ho,Bool.and_assoc]
   rw[hx,hk];apply yR (t:=4) (n:=16) (A_:=(cH e.id&&(cH e.node&&cH e.other)))
   ·cases hg104:(cH e.id:Bool)
    ·refine aM a7<|Cr [1] (λ_ h=>fh qQ h)<|Cr [1] (λ_ h=>lh N_ h)<|Cr [1] (λ_ h=>fh kM h)<|Cr [1] (λ_ h=>lh N_ h)<|x_ aA<|x_ aA<|Ot<|Ot<|Ot<|Ot<|Ot<|Ot<|x_ cC<|Cr [3] (λ_ h=>fh qQ h)<|Cp [3] (λ_ h=>su V_ h)<|Cr [3] (λ_ h=>fh kM h)<|Cp [3] (λ_ h=>su V_ h)<|x_ aI<|bG<|Kr ?_;exact⟨Z,⟨_,Z,by rfl⟩,Z,Z,Z⟩
    refine aM a7<|Cr [1] (λ_ h=>fh qQ h)<|Cr [1] (λ_ h=>lh N_ h)<|Cr [1] (λ_ h=>fh kM h)<|Cr [1] (λ_ h=>lh N_ h)<|x_ aA<|x_ aA<|Lt [1] (λ_ h=>fh qQ h)<|Lt [1] (λ_ h=>lh N_ h)<|Lt [1] (λ_ h=>fh kM h)<|Lt [1] (λ_ h=>lh N_ h)<|Lt [] (λH1 hH=>by exact aK ([e.node,e.other].map S_) Z bD Z Z Z Z Z (by simp[S_]))<|Lt [] (λH1 hH=>by exact bH Z Z call294 Z (aEM e.node e.other _ h3 h2)) ?_;refine x_ cC<|Cr [3] (λ_ h=>fh qQ h)<|Cp [3] (λ_ h=>su V_ h)<|Cr [3] (λ_ h=>fh kM h)<|Cp [3] (λ_ h=>su V_ h)<|x_ aI<|bG<|Kr ?_;exact⟨Z,⟨_,Z,by rfl⟩,Z,Z,Z⟩
   exact⟨(),⟨⟨X,X⟩,(zero_lt_succ _),WG⟩,Wk⟩
  have ho6:¬ e.op=6:=b_ hc6;refine O cD<|Da<|Cn ?_ ?_<;>intro hc7
  ·have ho:e.op=7:=b9 hc7;have ⟨hx,hk⟩:x=⟨e.op,e.id,e.other,a6,0,0,a6,a6,[],h_⟩/\k=(cH e.id&&cH e.other):=by subst hX hK;simp[FM,wN,nj,ho,Bool.and_assoc]
   rw[hx,hk];apply yR (t:=4) (n:=11) (A_:=(cH e.id&&cH e.other))
   ·cases hg119:(cH e.id:Bool)
    ·refine aM a7<|Cr [1] (λ_ h=>fh kM h)<|Cr [1] (λ_ h=>lh N_ h)<|x_ aA<|x_ aA<|Ot<|Ot<|Ot<|Ot<|x_ cC<|Cr [3] (λ_ h=>fh kM h)<|Cp [3] (λ_ h=>su V_ h)<|x_ aI<|bG<|Kr ?_;exact⟨Z,⟨_,Z,by rfl⟩,Z,Z,Z⟩
    refine aM a7<|Cr [1] (λ_ h=>fh kM h)<|Cr [1] (λ_ h=>lh N_ h)<|x_ aA<|x_ aA<|Lt [1] (λ_ h=>fh kM h)<|Lt [1] (λ_ h=>lh N_ h)<|Lt [] (λH1 hH=>by exact aK ([e.other].map S_) Z bD Z Z Z Z Z (by simp[S_]))<|Lt [] (λH1 hH=>by exact bH Z Z call294 Z (Tp e.other _ h2)) ?_;refine x_ cC<|Cr [3] (λ_ h=>fh kM h)<|Cp [3] (λ_ h=>su V_ h)<|x_ aI<|bG<|Kr ?_;exact⟨Z,⟨_,Z,by rfl⟩,Z,Z,Z⟩
   exact⟨(),⟨⟨X,X⟩,(zero_lt_succ _),WG⟩,Wk⟩
  have ho7:¬ e.op=7:=b_ hc7;refine Sz aI<|aC<|Rt ?_;refine⟨?_,Z⟩;rw[hg];rcases(by omega:e.op<1\/7<e.op)with h|h
  ·rw[decide_eq_false X];rfl
  rw[decide_eq_false (p:=e.op<=7) X,Bool.and_false];rfl
 rintro _ ⟨⟨o1,o7⟩,hr,hs⟩;rw[decide_eq_true o1,decide_eq_true o7]at hg;refine S<|aQ (t:=2) (n:=8) (A_:=k&&EY x e) ?_ ?_
 ·all_goals refine Y aA<|Dm ?_<;>(refine Sp 127 (λh127=>?_) λh127=>?_)<;>(first|exact s_|refine M<|M<|M ?_|refine U (by exact aW Z cU aZ Z Z Z Z m4 Z)<|U (by exact aW Z cU aZ Z Z Z Z m4 Z)<|U (kc call295 (Qz x e _ hr hs)) ?_)<;>refine Y cC<|Da ?_<;>exact Gj (h:=by(rw[h127];rfl))
 refine aC<|Rt ?_;exact⟨by rw[hg];rfl,Z⟩
theorem TG(e:b8)(H:aF)(he:US e):RC 258 [av (bJ e)] (bv (!fX e)) H:=by refine Pu ?_;exact Bd func258 Z ntmps258<|O (kb 1)<|V aI<|O (by exact aW Z cU aZ Z Z Z Z m4 Z)<|Y (kc call259 (gp e _ he))<|Y iI<|V aI<|aC<|Rt<|Qq
def lG(l:List b8):Bool:=decide ((0:Int)<(l.length:Int))&&decide ((l.length:Int)<=200)&&!(l.any (λe=>!fX e))
theorem U2(l:List b8)(H:aF)(hl:l.length<2^62)(he:∀e∈l,US e):RC 206 [.pv (kD l)] (bv (lG l)) H:=by
 refine Pu ?_;have hml:(l.map bJ).length=l.length:=j6 _;refine Bd func206 Z ntmps206<|Sz aI<|S<|aQ (t:=2) (n:=16) (A_:=decide ((0:Int)<((l.map bJ).length:Int))&&decide (((l.map bJ).length:Int)<=200)&&!(l.any (λe=>!fX e))) ?_ ?_
 ·all_goals refine Y aA<|Y (fW eW)<|Y iP<|Dm ?_<;>(refine Sp 6 (λh6=>?_) λh6=>?_)<;>(first|exact s_|refine M<|M<|M ?_|refine U aA<|U (fW eW)<|U G8 ?_)<;>refine Y cC<|Dm ?_<;>(refine Sp 11 (λh11=>?_) λh11=>?_)<;>(first|exact s_|refine M<|M<|M ?_|refine U aA<|U (kc call257 (IQ (.pv (.fn 258)) l (λe=>!fX e) _ hl (λe h=>dH.fn call258 (TG e _ (he e h)))))<|U iI ?_)<;>refine Y cC<|Da ?_<;>exact Gj (h:=by first|(simp_all;done)|(simp_all;omega))
 refine aC<|Rt ?_;exact⟨by rw[lG,hml],Z⟩
theorem Fin.slice0{H1}{id g n}{ob}(ps)(b:H1.get id=some ob)(c:ob.g=g)(a:ob.rows=ps.map (·.map .pv))(d:ps.length=n):
  Fin [] H1 (.osl id g 0 n) [] (.pv (.sl ps)):=by
 subst c d;exact Fin.fz _ b a (.osl H_) Z T_ T_
theorem YK(l:List _):∀r∈l.map S_,r.length=1:=λr a=>by
 obtain ⟨t,_,rfl⟩:=mem_map.1 a;rfl
theorem SS(n:Nat)(H:aF)(l:H.get 904=none)(g:H.get 905=none)(i:dG H)(hn:n<2^40):
  aU Tryz.prog 93 [.pv .nils,iv (n:Int)] H (λr H'=>r=.osl 905 1 0 0/\H'=(905,⟨1,1,9,[]⟩)::H):=by
 refine Bd func93 Z ntmps93 ?_;by_cases k:n=0
 ·subst k;refine TM (t:=0) (id:=905) (sz:=1) (ty:=9) Z g rfl<|Sz aI<|S<|O aA<|V cJ<|Cn ?_ ?_<;>intro f
  ·have h:=b9 f;omega
  refine aB<|S<|O aA<|Y aA<|Y (by exact EP Z aE Z Z Z)<|Y aA<|Y (by exact EO Z aE Z Z Z)<|Y (by exact dM Z Z Z (by exact mE (by omega) (by omega)))<|Y (by exact dM Z Z Z (by exact mE (by omega) (by omega)))<|V aI<|O aA<|V iP<|Cn ?_ ?_<;>intro e
  ·have h:=b9 e;omega
  refine aB<|S<|XO (t:=0) Z Z Z (by decide)<|Rd aA<|V aI<|aC ?_;refine cR (H':=((905,⟨1,1,9,[]⟩)::H)) (.inr Z) Z (aH Z) ((Fin.bump (g:=0) (k:=1) Z Z (by decide) Z Z Z).trans (Fin.get' (λj=>wV _ _ _ _ j))) ?_;exact Qq
 refine TM (t:=0) (id:=904) (sz:=1) (ty:=9) Z l Z ?_;have d:aF.get ((904,(⟨0,1,9,[]⟩:Ob))::H) 905=none:=g;refine Sz aI<|S<|O aA<|V cJ<|Cn ?_ ?_<;>intro c
 ·have h:=b9 c;omega
 refine aB<|S<|O aA<|Y aA<|Y (by exact EP Z aE Z Z Z)<|Y aA<|Y (by exact EO Z aE Z Z Z)<|Y (by exact dM Z Z Z (by exact mE (by omega) (by omega)))<|Y (by exact dM Z Z Z (by exact mE (by omega) (by omega)))<|V aI<|O aA<|V iP<|Cn ?_ ?_<;>intro b
 ·refine Rd aA<|Y aA<|Y (by exact EP Z aE Z Z Z)<|Y (by exact bb (l:=0) (h:=0) Z bD Z Z Z Z Z Z (g_ _) (g_ _) Z Z Z)<|Y aA<|Y (by exact PX (id2:=905) (m:=n) Z bD underlying3 yJ Pf Z Z Z Z Z (g_ _) Z (by omega) (by omega) (by omega) (r9 _) (by omega) d Z)<|Y aA<|Y (by exact EO Z aE Z Z Z)<|Y (by exact kP (l:=0) (h:=0) Z bD Z Z Z Z Z Z (g_ _) (by omega) Z Z)<|V aI<|O aA<|V aI<|aC ?_;refine cR (H':=((905,⟨1,1,9,[]⟩)::H)) (.inr Z) Z (aH Z) ((Fin.trunc (g:=0) (k:=1) (sz:=1) (ty:=9) (rows:=[]) Z Z (by decide) Z Z (List.take_zero)).trans (Fin.front' [_,_,_] [(905,⟨1,1,9,[]⟩)] (by simp;rfl) (by simp_all) (by simp[aF.get]) (by simp) i (by simp_all))) ?_;exact Qq
 have h:=b_ b;omega
theorem kT(ls:List (List B_))(H:aF)(hls:ls.length<2^40)(v:ls.flatten.length<2^40):
  RC 47 [.pv (.sl (ls.map (λl=>[.sl (l.map S_)])))] (.pv (.sl (ls.flatten.map S_))) H:=by
 refine Pu ?_;have hml:(ls.map (λl=>[PV.sl (l.map S_)])).length=ls.length:=j6 _;have e:∀k,((ls.take k).flatten).length<=ls.flatten.length:=λk=>by
  conv=>rhs;rw[<-take_append_drop k ls,flatten_append,j_]
  omega
 have j:∀k l,ls[k]?=some l->(ls.take (k+1)).flatten=(ls.take k).flatten++l:=λk l h=>by
  rw[take_add_one,h,flatten_append];simp
 refine Bd func47 Z ntmps47<|Sz aI<|Sz aI<|S<|O aA<|Y (fW tJ)<|V aA<|aD<|bF (σ:=Nat) (λk=>([(0,.pv (.sl (ls.map (λl=>[.sl (l.map S_)])))),(3,iv (((ls.take k).flatten).length:Int)),(9,.pv (.sl (ls.map (λl=>[.sl (l.map S_)])))),(10,iv ((ls.map (λl=>[PV.sl (l.map S_)])).length:Int)),(11,iv (k:Int))],[])) (λk=>k<=ls.length) (λk=>ls.length - k) 0 X ?_ ?_
 ·exact E0
 intro k y;refine Sz cJ<|S<|Cn ?_ ?_<;>intro m
 ·have i:k<ls.length:=I_ m
  have ⟨l,o⟩:=aS i;have w:=cE (f:=λl=>[PV.sl (l.map S_)]) o;have d:(l.map S_).length=l.length:=j6 _;have s:=j k l o;have x:=e (k+1);have t:((ls.take (k+1)).flatten).length=((ls.take k).flatten).length+l.length:=F_
  have u:IntKind.i64.wrap ((((ls.take k).flatten).length:Int)+((l.map S_).length:Int))=(((ls.take (k+1)).flatten).length:Int):=by rw[IntKind.wrap_i64,d,t];omega
  refine aB<|S<|aD<|O (iO GK)<|Y (fZ aG)<|V aI<|O aA<|Y aA<|Y (fW aE)<|Y (ka u)<|V aI<|O aA<|V cJ<|Cn ?_ ?_<;>intro q
  ·have h:=b9 q;omega
  refine aB<|Rd gX<|V aA ?_;exact⟨k+1,X,X,E0⟩
 have f:k=ls.length:=J_ m
 subst f;rw[take_length];refine aP<|O aA<|Y (JY Z Z call93 Z (SS ls.flatten.length [] Z Z (dG.of H_) v))<|V aI<|S<|O aA<|Y (fW tJ)<|V aA<|aD<|eU (λ(k:Nat) (g:Nat)=>([(6,.osl 905 g 0 ((ls.take k).flatten.map S_).length),(25,.pv (.sl (ls.map (λl=>[.sl (l.map S_)])))),(26,iv ((ls.map (λl=>[PV.sl (l.map S_)])).length:Int)),(27,iv (k:Int))],[(905,⟨g,1,9,yz ((ls.take k).flatten.map S_)⟩)])) (λk g=>k<=ls.length) (λk g=>ls.length - k) 0 1 X ?_ ?_
 ·exact E0
 intro k g y;refine Sz cJ<|S<|Cn ?_ ?_<;>intro n
 ·have i:k<ls.length:=I_ n
  have ⟨l,o⟩:=aS i;have w:=cE (f:=λl=>[PV.sl (l.map S_)]) o;have d:(l.map S_).length=l.length:=j6 _;have hml3:((ls.take k).flatten.map S_).length=((ls.take k).flatten).length:=j6 _;have s:=j k l o;have x:=e (k+1);have t:((ls.take (k+1)).flatten).length=((ls.take k).flatten).length+l.length:=F_
  refine aB<|S<|aD<|O (iO GK)<|Y (fZ aG)<|V aI<|Rd aA<|Y aA<|Y (by exact cA Z bD yJ Z Z Z Z Z (JR _) Z (YK l) Z X (by simp_all:((ls.take k).flatten.map S_).length+(l.map S_).length=((ls.take (k+1)).flatten.map S_).length) (by rw[s,map_append,yz,yz,map_append]:yz ((ls.take k).flatten.map S_)++(l.map S_).map (·.map .pv)=yz ((ls.take (k+1)).flatten.map S_)))<|V aI<|Rd gX<|V aA ?_;exact⟨k+1,g+1,X,X,cL.dup ⟨⟨_,Z,Z⟩,⟨_,Z,Z⟩,⟨_,Z,Z⟩,⟨_,Z,Z⟩,T_⟩⟩
 have f:k=ls.length:=J_ n
 subst f;rw[take_length];refine aP<|O aA<|V aI<|aC ?_;refine cR (H':=[]) (.inr Z) Z (aH Z) (Fin.slice0 (id:=905) (ls.flatten.map S_) Z Z Z Z) ?_;exact Qq
theorem BW{o}(h:oF o=true):o.refs.length<=2000/\o.tags.length<=60/\sW o.tags=true/\cH o.id=true/\(o.kind=2->2<=o.refs.length):=by rw[oF,k_,NX,vU]at h;have a:=h.1;simp[q8,Bool.not_eq_false',p_]at a;have ⟨⟨⟨⟨a1,d⟩,b⟩,c⟩,a5⟩:=a;refine⟨X,(xH.1 b).2.2,b,d,λe=>?_⟩;rw[e,show EZ 2=2 from rfl]at c;omega
theorem uE{e}:fX e=true↔(1<=e.op/\e.op<=7)/\wN e=true/\FM e=e:=by rw[fX,k_,k_,k_,j0,j0,pG]
theorem IE{e}(h:fX e=true):e.val.size<=200:=by
 have ⟨_,a,b⟩:=uE.1 h;have d:(FM e).val=e.val:=by rw[b]
 by_cases c:e.op=3
 ·rw[wN,a8 X,a8 X,b7 c,k_,k_,j0]at a;omega
 have:e.val=a6:=by
  rw[<-d,FM]
  grind
 rw[this];decide
abbrev aEN(m:List l6)(s:B_):Option l6:=m.find? (aEP s)
theorem Ar{o}(h:oF o=true):1<=o.kind/\o.kind<=5:=by
 rw[oF,k_,NX,vU]at h;have g:=h.1;simp[q8,p_]at g;have e:=g.1.1.1.1;unfold eF at e;by_cases a:o.kind=1
 ·omega
 by_cases b:o.kind=2
 ·omega
 by_cases c:o.kind=3
 ·omega
 by_cases d:o.kind=4
 ·omega
 by_cases f:o.kind=5
 ·omega
 rw[a8 a,a8 b,a8 c,a8 d,a8 f]at e;exact absurd Z e
def pZ(s:B_):B_:=aT (s.size:Int)++⟨#[58]⟩++s
def aN(l:List B_):List UInt8:=l.flatMap λs=>(pZ s).data.toList
def yM(l:List B_):B_:=FD ⟨(aN l).toArray⟩
theorem nL{n}(b : -9223372036854775808<=n)(c:n<=9223372036854775807):(aT n).size<=21:=by have:=Lib.itoa_length_le n b c;show (Lib.itoa n).toArray.size<=21;omega
theorem nE(s):(pZ s).size=(aT (s.size)).size+1+s.size:=by rw[pZ,ByteArray.size_append,ByteArray.size_append];rfl
theorem pP(l)(s):aN (l++[s])=aN l++(pZ s).data.toList:=by rw[aN,aN,flatMap_append,flatMap_cons,flatMap_nil,append_nil]
theorem uD:∀(l) (k),(aN (l.take k)).length<=(aN l).length:=λl k=>by
 have h:aN l=aN (l.take k)++aN (l.drop k):=by rw[aN,aN,aN,<-flatMap_append,take_append_drop]
 rw[h,j_];omega
theorem fF{l:List α}{k}{a}(h:l[k]?=some a):l.take (k+1)=l.take k++[a]:=by rw[take_add_one,h,Option.toList_some]
theorem pB(s:B_):s.data.toList.length=s.size:=rfl
theorem zT:∀l,l.length<=(aN l).length
 | []=>g_ _
 |s::r=>by
  have ih:=zT r;have h:aN (s::r)=(pZ s).data.toList++aN r:=rfl;rw[h,j_,j7,pB,nE];omega
theorem ZI(l:List B_)(H:aF)(hl:(aN l).length<35184372088832):RC 81 [.pv (aL l)] (sv (yM l)) H:=by
 refine Pu ?_;have hml:(l.map S_).length=l.length:=j6 _;have hll:=zT l;refine Bd func81 Z ntmps81<|Sz aI<|Sz (kl 2001 HG)<|S<|S ?_;refine gG.ent (E':=[(0,.pv (aL l)),(3,.ref 2001 0 0 0)]) (H':=yP 0 [] false) (cL.bld0 ⟨⟨_,Z,.same H_⟩,⟨_,Z,.same m3⟩,T_⟩) ?_;refine Rd aA<|Y (fW aE)<|V aA<|aD<|B5 (λ(k g:Nat) (u:Bool)=>([(3,.ref 2001 0 0 0),(6,.pv (aL l)),(7,iv ((l.map S_).length:Int)),(8,iv (k:Int))],yP g (aN (l.take k)) u)) (λk g u=>k<=l.length) (λk g u=>l.length - k) 0 0 false (l7 _) ?_ ?_
 ·exact(cL.wk (Ea<|Eb<|Eb<|Eb<|T_) (Hc (gJ Z Z)<|Hc (eM _ _)<|T_) T_)
 intro k g u hk;have hle:=uD l k;refine Sz cJ<|S<|Cn ?_ ?_<;>intro d
 ·have j:k<l.length:=I_ d
  have ⟨s,i⟩:=aS j;have hi:=cE (f:=S_) i;have f:=uD l (k+1);rw[fF i,pP,j_,pB,nE]at f;have hsz:s.size<35184372088832:=X
  refine aB<|S<|aD<|O (iO bD)<|Y (fZ N_)<|V aI<|Rd aA<|Y (gE U_)<|Y (kc lO (pQ (s.size:Int) X X _))<|Y (by exact fC Z Z Z (by have:(⟨#[58]⟩:B_).size=1:=rfl;omega) Z)<|Y aA<|Y (by exact fC Z Z Z (by rw[ByteArray.size_append];have:(⟨#[58]⟩:B_).size=1:=rfl;omega) Z)<|V (kc mY (jC g (aN (l.take k)) u (pZ s) (by rw[nE];omega)))<|Rd gX<|V aA ?_;refine⟨k+1,g+1,true,X,X,?_⟩;rw[fF i,pP];exact(cL.wk (Ea<|Eb<|Eb<|Eb<|T_) (Hc (gJ Z Z)<|Hc (eM _ _)<|T_) T_)
 have h:k=l.length:=J_ d
 subst h;rw[take_length];exact aP<|O (kc mX (P9 g (aN l) u X))<|Y (kc call106 (sg ⟨(aN l).toArray⟩ _ (by show (aN l).toArray.size<_;grind)))<|V aI<|aC<|Rt<|Qq
theorem rF(s):(FD s).size=16:=rfl
def N1:B_->Nat->B_
 |t,0=>t
 |t,n+1=>N1 (FD t) n
theorem wj:∀(a b) (t),N1 (N1 t a) b=N1 t (a+b)
 |0,b,t=>by rw[r9];rfl
 |a+1,b,t=>by
  rw[show a+1+b=(a+b)+1 by omega];exact wj a b _
theorem KY(t)(n):N1 t (n+1)=FD (N1 t n):=by rw[<-wj n 1 t];rfl
theorem Me{t}(h:t.size=16):∀n,(N1 t n).size=16
 |0=>h
 |n+1=>by rw[KY,rF]
def Db(m:B_):Nat:=TB (U0 m.size) m.data.toList
def dJ(m:B_):List Nat:=(List.range 16).map (UW (Db m))
def GU(m:B_):Nat:=((dJ m).map (15 - ·)).sum
def Di(m:B_):List Nat:=dJ m++[GU m / 16,GU m % 16]
theorem aAv(m):(dJ m).length=16:=rfl
theorem Ve(m):(Di m).length=18:=rfl
theorem P8:∀l:List _,(l.map (15 - ·)).sum<=15*l.length
 | []=>g_ _
 |a::r=>by
  have:=P8 r;simp[map_cons,sum_cons,j7];omega
theorem cp(m):GU m<=240:=by have:=P8 (dJ m);exact this
theorem aAr(m:B_):∀d∈Di m,d<16:=by
 intro d a;rcases mem_append.1 a with h|h
 ·obtain ⟨j,_,rfl⟩:=mem_map.1 h;exact ET _ _
 have:=cp m;simp only[l9,q7,or_false]at h;rcases h with rfl|rfl<;>omega
def NQ:B_:=⟨#[110,111,100,101]⟩
def oZ(s:B_)(i k:Nat):B_:=yM [s,aT (i:Int),aT (k:Int)]
def XD(s:B_)(i:Nat):List B_:=(List.range 18).map λk=>N1 (oZ s i k) 15
def oi(s:B_)(i:Nat):B_:=yM (XD s i)
def xX(s:B_)(h:Nat):List B_:=(List.range (2 ^ h)).map (oi s)
def ek(a b:B_):B_:=yM [NQ,a,b]
def ry:List B_->List B_
 |a::b::r=>ek a b::ry r
 |_=>[]
def xR:Nat->List B_->Nat->List B_
 |0,_,_=>[]
 |h+1,l,i=>l.getD (i ^^^ 1) a6::xR h (ry l) (i / 2)
def ln(s:B_)(i:Nat)(m:B_):List B_:=(List.range 18).map λk=>N1 (oZ s i k) ((Di m).getD k 0)
def vT(b:UInt8):Bool:=(48<=b&&b<=57)||(97<=b&&b<=102)
def m6(t:B_):Bool:=decide (t.size=16)&&t.data.toList.all vT
theorem OO:∀(n) (l),l.length=2*n->(ry l).length=n
 |0,[],_=>rfl
 |n+1,a::b::r,h=>by
  have:=OO n r G_;rw[ry,j7,this]
 |n+1,[a],h=>by grind
 |n+1,[],h=>by grind
 |0,a::r,h=>by grind
theorem rv:∀(n) (l) (k),l.length=2*n->k<n->(ry l).getD k a6=ek (l.getD (2*k) a6) (l.getD (2*k+1) a6)
 |0,l,k,_,c=>by omega
 |n+1,[],k,h,_=>by grind
 |n+1,[a],k,h,_=>by grind
 |n+1,a::b::r,0,h,_=>rfl
 |n+1,a::b::r,k+1,h,c=>by
  have d:=rv n r k G_ X;rw[ry,show 2*(k+1)=2*k+1+1 by omega,getD_cons_succ,d,getD_cons_succ,getD_cons_succ,getD_cons_succ,getD_cons_succ]
theorem rj(i):i ^^^ 1=if i % 2=1 then i - 1 else i+1:=by
 have h2:(i ^^^ 1) / 2=i / 2:=by
  rw[xor_div_two];simp
 have h3:=by
  have:=xor_mod_two_pow (a:=i) (b:=1) (n:=1)
  simpa using this
 have h4:(i ^^^ 1) % 2=1 - i % 2:=by
  grind
 split
 ·omega
 omega
theorem V2:∀(h) (l) (i),(xR h l i).length=h
 |0,_,_=>rfl
 |h+1,l,i=>by rw[xR,j7,V2 h]
theorem WS(s)(h):(xX s h).length=2 ^ h:=by simp[xX]
theorem Ap{l:List α}{k}{d}(h:k<l.length):l.getD k d∈l:=F_
theorem Ky{n}(h:n<16):vT (UInt8.ofNat (wU n).toNat)=true:=by revert n;decide
theorem C3(s):m6 (FD s)=true:=by rw[m6,k_,j0];refine⟨rF s,?_⟩;rw[all_eq_true];intro b a;obtain ⟨j,_,rfl⟩:=mem_map.1 (show b∈(List.range _).map _ from by simpa[FD,BT]using a);exact Ky (ET _ _)
theorem aA4{t}(h:m6 t=true):∀n,m6 (N1 t n)=true
 |0=>h
 |n+1=>by rw[KY];exact C3 _
theorem jY{t}(h:m6 t=true):t.size=16:=by rw[m6,k_,j0]at h;omega
theorem Gd(s)(i)(m):∀t∈ln s i m,m6 t=true:=by intro t a;obtain ⟨k,_,rfl⟩:=mem_map.1 a;exact aA4 (C3 _) _
theorem Gc(s)(i)(m):(ln s i m).length=18:=rfl
theorem X2:∀(n) (l),l.length<=n->∀t∈ry l,m6 t=true
 |_,[],_,t,c=>by simp[ry]at c
 |_,[a],_,t,c=>by simp[ry]at c
 |0,a::b::r,h,t,c=>by grind
 |n+1,a::b::r,h,t,c=>by
  rcases l9.1 c with rfl|c
  ·exact C3 _
  exact X2 n r (by grind) t c
theorem V3:∀(h) (l) (i),l.length=2 ^ h->i<2 ^ h->(∀t∈l,m6 t=true)->∀t∈xR h l i,m6 t=true
 |0,_,_,_,_,_,t,a=>by simp[xR]at a
 | h+1,l,i,hl,hi,ha,t,a=>by
  have b:l.length=2*2 ^ h:=X
  rcases l9.1 a with rfl|a
  ·rw[rj]
   grind
  exact V3 h _ _ (OO _ _ b) X (X2 _ _ (g_ _)) t a
theorem WT(s)(h):∀t∈xX s h,m6 t=true:=by intro t a;obtain ⟨k,_,rfl⟩:=mem_map.1 a;exact C3 _
def cB(l:List B_):List (List AV):=l.map λs=>[.pv (.str s)]
theorem eS(l):(cB l).length=l.length:=j6 _
theorem gO(l)(s):cB l++[[.pv (.str s)]]=cB (l++[s]):=by rw[cB,cB,map_append];rfl
theorem aV(H)(l):∀r∈cB l,∀a∈r,Clo H a:=by intro r d a c;obtain ⟨b,_,rfl⟩:=mem_map.1 d;rw[r6]at c;subst c;simp
instance(H)(l):W_ (H) (cB l):=⟨aV H l⟩
theorem eT(l):cB l=(l.map S_).map (·.map .pv):=by rw[map_map];rfl
def iQ(t:m7):B_:=t.key++⟨#[61]⟩++⟨(cW t.val.data.toList).toArray⟩
def wK(L:List B_):aF:=[(903,⟨L.length,1,9,cB L⟩),(4,bx 1 22 [.osl 903 L.length 0 L.length])]
theorem Xz(L)(s):wK (L++[s])=[(903,⟨L.length+1,1,9,cB (L++[s])⟩),(4,bx 1 22 [.osl 903 (L.length+1) 0 (L.length+1)])]:=by simp[wK]
theorem rB(s:B_):(⟨(cW s.data.toList).toArray⟩:B_).size<=2*s.size+2:=by show (cW _).length<=_;have:=gj s.data.toList;have h:s.data.toList.length=s.size:=rfl;rw[cW,j7,j_,length_singleton];omega
theorem va{i j}{a b a' d}{id}(h:(aF.get [(i,a),(j,b)] id).isSome=true):(aF.get [(i,a'),(j,d)] id).isSome=true:=by
 simp[aF.get]at h |-
 grind
theorem Px(t:m7)(L:List B_)(hk:t.key.size<2^40)(hv:t.val.size<2^40)(hL:L.length<2^40):
  aU Tryz.prog 309 [av (bS t),.ref 4 0 0 0] (wK L) (λr H'=>r=.tup []/\H'=wK (L++[iQ t])):=by
 rw[Xz];have hq:=rB t.val;have h61:(⟨#[61]⟩:B_).size=1:=rfl;have hks:(t.key++⟨#[61]⟩:B_).size=t.key.size+1:=F_
 refine Bd func309 Z ntmps309<|Sz (kb 2)<|aM a7<|Cr [4] (λ_ h=>lh aG h)<|Cr [2] (λ_ h=>fh pS h)<|Cr [2] (λ_ h=>lh N_ h)<|x_ (by exact fC Z Z Z X Z)<|Cr [2] (λ_ h=>fh qP h)<|Cr [2] (λ_ h=>lh N_ h)<|x_ (by exact bH Z Z call260 Z (tz t.val _ X))<|x_ (by exact fC Z Z Z X Z)<|x_ (by exact aK [[.str (iQ t)]] Z bD Z Z Z Z Z F_)<|Cp [903] (λd b=>by exact cA (ps:=[[.str (iQ t)]]) Z bD yJ Z ((b _ Z).trans Z) Z Z Z (eS L) Z F_ (m:=1) Z X Z (gO L (iQ t))) ?_;refine Cp [4] (λ_ h=>sa sizeOf22 h)<|bG<|Kr ?_;exact oT (H':=[(903,⟨L.length+1,1,9,cB (L++[iQ t])⟩),(4,bx 1 22 [.osl 903 (L.length+1) 0 (L.length+1)])]) (.inl Z) Z P_ ⟨Z,Z⟩
def W3(l:List m7):B_:=⟨(bT [32] (bs (l.map iQ))).toArray⟩
def jN(l:List m7):B_×Int:=if sW l then(if 20000<(W3 l).size then(a6,2)else(W3 l,0))else(a6,1)
theorem WQ{t}(hk:t.key.size<=24)(hv:t.val.size<=200):(iQ t).size<=427:=by have hq:=rB t.val;have h61:(⟨#[61]⟩:B_).size=1:=rfl;rw[iQ,ByteArray.size_append,ByteArray.size_append];omega
theorem dI{s}(h:cH s=true):s.size<=24:=by rw[cH,k_,k_,j0]at h;omega
theorem pA{l}{n}(h:∀s,s∈l->s.size<=n):cX l<=n*l.length:=by
 induction l with
 |nil=>exact l7 _
 |cons a l b =>
  rw[cX,map_cons,sum_cons,j7,mul_succ];have h1:=h a mem_cons_self;have d:=b (λs c=>h s (mem_cons_of_mem _ c));rw[cX]at d;omega
theorem aCs{L}{K:aF}{r}(h:aU Tryz.prog 204 [.pv (aL L),sv ⟨#[32]⟩] [] (λx H'=>x=sv r/\H'=[])):aU Tryz.prog 204 [.osl 903 L.length 0 L.length,sv ⟨#[32]⟩] ((903,⟨L.length,1,9,cB L⟩)::K) (λx H'=>x=sv r/\H'=(903,⟨L.length,1,9,cB L⟩)::K):=by
 exact RO.calls (RO.lend _ (RO.of h Z) (get_cons_same _ _ _) (eT L) Z
  (bC (.osl (by rw[drop_zero,take_of_length_le H_])) (bC (.same H_) kK)) (λ_ _ h=>by cases h) (λ_ _ h=>by cases h) Z)
theorem v7{p:Prop}(h:p:=by(simp;rfl)):p:=h
theorem VG(l:List m7)(H:aF)(z:MF l):RC 288 [.pv (pY l)] (.tup [sv (jN l).1,iv (jN l).2]) H:=by
 refine Pu ?_;have hml:(l.map bS).length=l.length:=j6 _;refine Bd func288 Z ntmps288<|O aI<|V aI<|S<|O aA<|Y (kc call305 (CH l _ z))<|V iI<|Cn ?_ ?_<;>intro hc1
 ·have i:sW l=false:=F_
  have e:jN l=(a6,1):=by rw[jN,a8 F_]
  rw[e];exact O aI<|V aI<|aC<|Ru<|Qq
 have i:sW l=true:=F_
 have ⟨u,g2,g3⟩:=xH.1 i;refine aB<|Sz (kl 4 Wd)<|O (gW Z Z)<|V aI<|S<|S ?_;refine gG.ent (E':=[(0,.pv (pY l)),(4,.ref 4 0 0 0),(5,.clo 309 [.ref 4 0 0 0])]) (H':=wK []) (Q_ 903 1 9) ?_;refine Rd aA<|Y (fW dO)<|V aA<|aD<|bF (σ:=Nat) (λk=>([(4,.ref 4 0 0 0),(5,.clo 309 [.ref 4 0 0 0]),(13,.pv (pY l)),(14,iv ((l.map bS).length:Int)),(15,iv (k:Int))],wK ((l.take k).map iQ))) (λk=>k<=l.length) (λk=>l.length - k) 0 (l7 _) ?_ ?_
 ·exact L_
 intro k hk;refine Sz cJ<|S<|Cn ?_ ?_<;>intro d
 ·have j:k<l.length:=I_ d
  have ⟨t,g⟩:=aS j;have w:=cE (f:=bS) g;have ⟨m,B,v⟩:=u t (m8 g);have b4:=dI m;have q:((l.take k).map iQ).length<2^40:=G_
  have o:(l.take (k+1)).map iQ=(l.take k).map iQ++[iQ t]:=by rw[take_add_one,g,map_append];rfl
  refine aB<|S<|aD<|O (bU Z lK Z Z X x6 w Z)<|Y (by exact fA Z xB lN Z w (by simp only[Zl,bS];rfl) Z)<|Y (kl 7 We)<|Uu (jA lN)<|Zz<|Rd aA<|Y (wQ xB lN)<|V (by exact dA Z Z Z (dH.clo call309 (aU.frame (Px t ((l.take k).map iQ) X X q) (HN.sub ⟨Z,Z,T_⟩) (dG.ofL ⟨(aV _ _),v7,T_⟩) m3 (λid h=>.inl (va h)))))<|Rd gX<|V aA ?_;refine⟨k+1,X,X,?_⟩;show cL _ _ _ _ (wK ((l.take (k+1)).map iQ));rw[o];exact L_
 have n:k=l.length:=J_ d
 subst n;have hsb:cX (l.map iQ)<=427*l.length:=by
  have:=pA (l:=l.map iQ) (n:=427) (λs A=>by
   obtain ⟨t,g,rfl⟩:=mem_map.1 A;have ⟨m,B,v⟩:=u t g;exact WQ (dI m) v)
  rwa [j6]at this
 have y:aU Tryz.prog 204 [.pv (aL (l.map iQ)),sv ⟨#[32]⟩] [] (λx H'=>x=sv (W3 l)/\H'=[]):=wT (l.map iQ) ⟨#[32]⟩ [] E_ (by rw[j6];show 1*_+_+_<_;omega);have p:=aCs (L:=l.map iQ) (K:=[(4,bx 1 22 [.osl 903 (l.map iQ).length 0 (l.map iQ).length])]) y;rw[take_length];refine aP<|O (bQ aG)<|Y (kc rG (p))<|V aI<|S<|O aA<|Y (gE U_)<|V iP<|Cn ?_ ?_<;>intro f
 ·have e:jN l=(a6,2):=by
   rw[jN,b7 i,b7 (I_ f)]
  rw[e];exact O aI<|V aI<|aC<|Ru<|Qq
 have e:jN l=(W3 l,0):=by
  rw[jN,b7 i,a8 (J_ f)]
 rw[e];exact aB<|O aA<|Y aI<|V aI<|aC<|Ru<|Qq
theorem Bj{t}(h:t.size<2^40):∀n,(N1 t n).size<2^40
 |0=>h
 |n+1=>by rw[KY,rF];decide
theorem wi(t)(n:Nat)(H)(e:t.size<2^40)(hn:n<1000):RC 172 [sv t,iv n] (sv (N1 t n)) H:=by
 refine Pu<|Bd func172 Z ntmps172<|Sz aI<|S<|O aA<|V aA<|aD<|bF (λk=>([(0,sv (N1 t k)),(5,iv n),(6,iv k)],[])) (λk=>k<=n) (λk=>n - k) 0 (l7 _) ?_ ?_
 ·exact Wk
 intro k hk;have b:=λH=>sg (N1 t k) H (by have:=Bj e k;omega);rw[<-KY]at b;refine Sz cJ<|S<|Cn ?_ ?_<;>intro c
 ·have hlt:=I_ c
  refine aB<|S<|aD<|Rd aA<|Y (bH Z Z call106 Z (b _))<|V aI<|Rd (by exact dB Z Z Z (show IntKind.i64.wrap _=((k+1:Nat):Int)by rw[mE X X];omega))<|V aA ?_;exact⟨k+1,X,X,Wk⟩
 have d:k=n:=J_ c
 subst d;exact aP<|O aA<|V aI<|aC<|Rt<|Qq
theorem uk(l)(H)(b:(aN l).length<35184372088832):RC 226 [.pv (aL l)] (sv (yM l)) H:=by refine Pu ?_;exact Bd func226 Z ntmps226<|Sz aI<|O aA<|Y (bH Z Z call81 Z (ZI l _ b))<|V aI<|aC<|Rt<|Qq
theorem ve(a b c):(aN [a,b,c]).length=(pZ a).size+(pZ b).size+(pZ c).size:=by simp[aN,pB];omega
theorem IA(n:Nat)(h:n<2^40):(aT n).size<=21:=nL X X
theorem pC{s}(h:s.size<2^40):(pZ s).size<=s.size+22:=by have:=IA _ h;rw[nE];omega
theorem sj(s:B_)(i k:Nat)(H:aF)(b:s.size<2^40)(hi:i<2^40)(c:k<2^40):RC 173 [sv s,iv (i:Int),iv (k:Int)] (sv (oZ s i k)) H:=by
 refine Pu ?_;have h1:=IA i hi;have h2:=IA k c;have d:(aN [s,aT (i:Int),aT (k:Int)]).length<35184372088832:=by
  have e1:=pC b;have e2:=pC (s:=aT (i:Int)) X;have e3:=pC (s:=aT (k:Int)) X;rw[ve];omega
 exact Bd func173 Z ntmps173<|Sz aI<|O aA<|Y aA<|Y (kc lO (pQ (i:Int) X X _))<|Y aA<|Y (kc lO (pQ (k:Int) X X _))<|Y (aK [[.str s],[.str (aT (i:Int))],[.str (aT (k:Int))]] Z bD Z Z Z Z Z F_)<|Y (kc call226 (uk _ _ d))<|V aI<|aC<|Rt<|Qq
theorem Tg(a b:B_)(d:Bool)(H:aF)(g:a.size<2^40)(f:b.size<2^40):RC 229 [sv a,sv b,bv d] (sv (if d=true then ek b a else ek a b)) H:=by
 refine Pu ?_;have h:∀x y:B_,x.size<2^40->y.size<2^40->(aN [NQ,x,y]).length<35184372088832:=by
  intro x y i j;have e1:=pC (s:=NQ) E_;have e2:=pC i;have e3:=pC j;have e4:NQ.size=4:=rfl;rw[ve];omega
 refine Bd func229 Z ntmps229<|Sz aI<|S<|Sz aA<|Cn ?_ ?_<;>intro e
 ·subst e;exact Rd aA<|Y aA<|Y aI<|V aI<|O aA<|Y aA<|Y (aK [[.str NQ],[.str b],[.str a]] Z bD Z Z Z Z Z F_)<|Y (kc call226 (uk [NQ,b,a] _ (h b a f g)))<|V aI<|aC<|Rt<|Qq
 subst e;exact aB<|O aA<|Y aA<|Y (aK [[.str NQ],[.str a],[.str b]] Z bD Z Z Z Z Z F_)<|Y (kc call226 (uk [NQ,a,b] _ (h a b g f)))<|V aI<|aC<|Rt<|Qq
def XC(s:B_)(i k:Nat):List B_:=(List.range k).map λk=>N1 (oZ s i k) 15
theorem pr(s)(i k):XC s i (k+1)=XC s i k++[N1 (oZ s i k) 15]:=by rw[XC,range_succ,map_append];rfl
theorem XB(s)(i k):(XC s i k).length=k:=by simp[XC]
theorem EC(s)(i k):(oZ s i k).size=16:=rF _
theorem KL{b}(a:b<2^40):∀(l),(∀s∈l,s.size<=b)->(aN l).length<=(b+22)*l.length
 | [],_=>g_ _
 |s::r,h=>by
  have ih:=KL a r (λx c=>h x (mem_cons_of_mem _ c));have hs:=h s mem_cons_self;have e:aN (s::r)=(pZ s).data.toList++aN r:=rfl;have h2:=pC (s:=s) X;rw[e,j_,j7,pB,Nat.mul_add];omega
theorem Bi(t)(H)(a:t.size<2^40):RC 172 [sv t,iv 15] (sv (N1 t 15)) H:=wi t _ H a H_
theorem aA3(s:B_)(i:Nat)(H:aF)(g:s.size<2^40)(hi:i<2^40):RC 227 [sv s,iv (i:Int)] (sv (oi s i)) H:=by
 refine Pu<|Bd func227 Z ntmps227<|Sz aI<|Sz (eI (id:=905) (sz:=1) (ty:=9) Z Z Z)<|S<|Sz aA<|aD<|bF (σ:=Nat) (λk=>([(0,sv s),(1,iv (i:Int)),(5,.osl 905 k 0 k),(7,iv (k:Int))],[(905,⟨k,1,9,cB (XC s i k)⟩)])) (λk=>k<=18) (λk=>18 - k) 0 (l7 _) ?_ ?_
 ·exact L_
 intro k hk;have d:=XB s i k;have e:=pr s i k;refine Sz cJ<|S<|Cn ?_ ?_<;>intro b
 ·have hlt:k<18:=I_ b
  refine aB<|S<|aD<|O aA<|V aI<|Rd aA<|Y aA<|Y aA<|Y aA<|Y (kc call173 (sj s i k _ g hi X))<|Y (kc call172 (Bi (oZ s i k) _ (by rw[EC];decide)))<|Y (by exact aK [[.str (N1 (oZ s i k) 15)]] Z bD Z Z Z Z Z F_)<|Y (by exact cA (ps:=[[.str (N1 (oZ s i k) 15)]]) Z bD yJ Z Z Z Z Z (by rw[eS,d]) Z F_ (m:=1) Z X Z (gO _ (N1 (oZ s i k) 15)))<|V aI<|Rd kp<|V aA ?_;refine⟨k+1,X,X,?_⟩;dsimp only;rw[e];exact(cL.wk (Eb<|Eb<|Ea<|Eb<|T_) (Hc (aV _ _)<|T_) T_)
 have c:k=18:=J_ b
 subst c;refine aP<|S ?_;refine gG.ent (cL.fz (id:=905) (E':=[(5,.pv (aL (XD s i)))]) (H':=[]) ((XD s i).map S_) Z (eT _)
  (by intro p f;simp only[l9,q7,or_false]at f;subst f;exact⟨_,Z,.osl x6⟩) Z T_ T_) ?_
 exact Rd aA<|Y (by exact bH Z Z call226 Z (uk (XD s i) _ (by have h:=KL (b:=16) E_ (XD s i) (λx j=>by obtain ⟨k,_,rfl⟩:=mem_map.1 j;exact Nat.le_of_eq (Me (EC s i k) 15));rw[show (XD s i).length=18 from XB s i 18]at h;omega)))<|V aI<|aC<|Rt<|Qq
end Go.Proofs.YtopnleflllkbmaaGreatDoor
namespace Go.Abs
variable{P:Program}{id p p2 N:Nat}
theorem Pi{x:Go.Loop}{k s:Code}{g:cY}{a W:AV}{K:aF}{Q:AV->aF->Prop}(E2:cY)(K2:aF)(f_:x.state=.ready)(z_:x.pending=none)(hp:x.params=#[p,p2])(hN:x.tmps.size=N)(hxa:x.assign=k)(hxb:x.body=s)(hpN:Nat.blt p N=true)(E:Nat.blt p2 N=true)(hpp:Nat.beq p p2=false)
  (hok:zN k=true) (hok2:zN s=true)
  (h1:gG P ((id,LR x g)::K) N k (yX (λE1 H1=>cL ((id,LR x g)::K) E1 H1 E2 ((id,LR x g)::K2)) (λ_ _ _=>False)) ((p2,W)::(p,a)::g) ((id,LR x g)::K))
  (h2:gG P ((id,LR x g)::K) N s (Nx ((id,LR x g)::K) id x g Q) E2 ((id,LR (busy x) g)::K2)):IS P id 0 [a,W] ((id,LR x g)::K) Q:=by
 subst hxa hxb;have hpN:p<N:=F_
 have E:p2<N:=F_
 have hpp:p≠p2:=λe=>by simp_all
 intro I A_ w vs v hr hv hl hvs;have ⟨b,e1,v_,e3,e4,e5⟩:=Hf hr (gV _ _ _) hv;obtain ⟨u,z,rfl⟩:∃u z,vs=#[u,z]:=by
  match vs,hl with
  |⟨[u,z]⟩,_=>exact⟨u,z,Z⟩
 have hu:=hvs 0 u a Z Z;have hu2:=hvs 1 z W Z Z;refine⟨b,x.fn,_,x.assign,x.body,v_,run_yield e3 F_,?_⟩;refine roundIn_of_wpIn (F:=Fence.wide) T_ ?_;have hG:(⟨I,A_,(id,LR x g)::K,w,[]⟩:Entry).H=(id,LR x g)::K:=rfl;have hst:St ⟨I,A_,(id,LR x g)::K,w,[]⟩ N ((p2,W)::(p,a)::g) ((id,LR x g)::K) {tmps:=(x.params.zip #[u,z]).foldl (λo (t,a)=>o.setIfInBounds t a) x.tmps,defers:=[]} w:=by
  have ht:(x.params.zip #[u,z]).foldl (λo (t,a)=>o.setIfInBounds t a) x.tmps=(x.tmps.setIfInBounds p u).setIfInBounds p2 z:=by rw[hp];simp
  rw[ht];refine⟨tU.nil _ _ _,by simp[hN],I,A_,hr,Step.refl _ _ _ _,λt y m=>?_⟩;by_cases v_:p2=t
  ·subst v_;rw[cY.get_cons_same]at m;cases m;exact⟨z,by simp[hN,E],hu2⟩
  rw[cY.get_cons_other _ _ v_]at m;by_cases e:p=t
  ·subst e;rw[cY.get_cons_same]at m;cases m;exact⟨u,by show ((x.tmps.setIfInBounds p u).setIfInBounds p2 z)[p]?=some u;rw[Array.getElem?_setIfInBounds_ne v_];simp[hN,hpN],hu⟩
  rw[cY.get_cons_other _ _ e]at m;have ⟨i,hi⟩:=s8.1 (iL m);have ⟨c,c1,c2⟩:=e5 i t y (by rw[r7,hi];rfl) (by rw[r7,hi];rfl);exact⟨c,by show ((x.tmps.setIfInBounds p u).setIfInBounds p2 z)[t]?=some c;rw[Array.getElem?_setIfInBounds_ne v_,Array.getElem?_setIfInBounds_ne e];exact c1,c2⟩
 refine wpIn_mono (h1 _ hG _ w hst (some b) (.inr hok)) ?_;rintro e a1 w1 ⟨E1,H1,q,hs1⟩;cases e with
 | normal =>
  have L:=q _ hG N a1 w1 hs1;have ⟨I1,ι1,B,G,he1⟩:=L.rel;have c_:=tX G (gV _ _ _) e1 (gV _ _ _);have hb1:=uW B (gV _ _ _) c_;have ⟨k1,k2⟩:=B.setRec (y:=busy x) (H':=(id,LR (busy x) g)::K2) (gV _ _ _) c_ Z (gV _ _ _) (λj hj=>BU _ _ _ hj);refine⟨_,run_beginRound hb1 f_,?_⟩;have hs3:St ⟨I,A_,(id,LR x g)::K,w,[]⟩ N E2 ((id,LR (busy x) g)::K2) a1 (w1.putObj b (.loop (busy x))) :=
   ⟨L.defers.step B k2,L.size,I1,ι1,k1,G.trans k2,λt y m=>let ⟨c,c1,c2⟩:=he1 t y m;⟨c,c1,c2.mono B k2⟩⟩
  refine wpIn_mono (h2 _ hG a1 _ hs3 (some b) (.inr hok2)) ?_;rintro e W w3 ⟨E3,H3,u_,hs4⟩;have o_:∀(h:Option Code) (y:Go.Loop) (A:aF),y={busy x with state:=if h.isNone then .ready else .done,pending:=h}->cL ((id,LR x g)::K) E3 H3 [] ((id,LR (busy x) g)::A)->Q (.pv (.bool h.isNone)) ((id,LR y g)::A) ->
    ∃v w',(Instr.endRound b h).run P w3=.ok v w'/\∃r H' I' e_ v',Ending.returned v=.returned v'/\Q r H'/\VRel w' I' e_ H' v' r/\Rel I' e_ H' w'/\Step I A_ ((id,LR x g)::K) w I' e_ H' w':=by
   intro h y A m f T;have hs5:=f _ hG N W w3 hs4;have ⟨I5,ι5,y_,F,_⟩:=hs5.rel;have D:=tX F (gV _ _ _) e1 (gV _ _ _);have hb5:=uW y_ (gV _ _ _) D;have ⟨z1,z2⟩:=y_.setRec (y:=y) (H':=(id,LR y g)::A) (gV _ _ _) D (by rw[m]) (gV _ _ _) (λj hj=>BU _ _ _ hj);refine⟨_,_,run_endRound h hb5,_,_,I5,ι5,_,Z,T,.pv (.bool _),?_,?_⟩
   ·rw[<-m];exact z1
   rw[<-m];exact F.trans z2
  cases e with
  |normal =>
   obtain ⟨A,f,T⟩:=u_;refine o_ none x A ?_ f T;obtain ⟨st,pe,fn,tm,pa,ax,bo,de⟩:=x;simp only at f_ z_;subst f_ z_;rfl
  |ret =>
   have ⟨A,f,T⟩:=u_;exact o_ (some .ret) (left x .ret) A Z f T
  |exit j =>
   have ⟨A,f,T⟩:=u_;exact o_ (some (.exit j)) (left x (.exit j)) A Z f T
  |goto l=>exact u_.elim
  |panic ch=>exact u_.elim
  |outgrown=>exact u_.elim
 |exit j=>exact q.elim
 |goto l=>exact q.elim
 |ret=>exact q.elim
 |panic ch=>exact q.elim
 |outgrown=>exact q.elim
theorem qk{G0:aF}{f:Nat}{e_:List AV}{g:Operand}{ps:Array Tmp}{assign body:Code}{Q:Exit->cY->aF->Prop}{E:cY}{H:aF}(n:cY)(hg:aO E g=some (.clo f e_))(hc:∀(args:Array Value) (w:World),(callFunc f args).run P w=.ok (.enter f args) w)
  (hps:ps=#[p,p2]) (hid:H.get id=none) (hE0:∀q∈n,E.get q.1=some q.2)
  (h:∀x:Go.Loop,x.state=.ready->x.pending=none->x.params=#[p,p2]->x.tmps.size=N->x.assign=assign->x.body=body ->
   aU P f (.yld id 0::e_) ((id,LR x n)::H) (λr H'=>∃(y:Go.Loop) (K:aF),y.tmps=x.tmps/\y.state≠.busy/\H'=(id,LR y n)::K/\∀z:Go.Loop,Oe Q E ((id,LR z n)::K) y.pending)) :
  gG P G0 N (.rangeFunc g ps assign body) Q E H:=by
 intro G hG a w hs ro hro;obtain rfl:ro=none:=hro.resolve_right (λh=>by cases h);have ⟨I,ι,hr,hst,he⟩:=hs.rel;refine wpIn_rangeFunc (F:=RF none) ?_;intro fn _;have hgv:=aJ he hg;generalize hfc:a.eval g=fc at hgv;cases hgv with
 | @clo _ us _ hl hh =>
  have ⟨x,R⟩:∃x:Go.Loop,x={state:=.ready,pending:=none,fn,tmps:=a.tmps,params:=ps,assign,body,defers:=w.heap.size}:=X_;have ⟨a1,a2⟩:=hr.push (.deferred (some []));have ⟨A_,v_⟩:∃A_,A_=w.alloc (.deferred (some [])):=X_;rw[<-v_]at a1 a2;have L:A_.heap.size=w.heap.size+1:=F_
  have hDd:A_.heap[w.heap.size]?=some (.deferred (some [])):=by rw[v_];exact World.alloc_heap_new w _
  have m:aF.get ((id,LR x n)::H) id=some (LR x n):=gV _ _ _;have ⟨b1,b2⟩:=a1.placeX (id:=id) (cap:=2) (x:=.loop x) (w':=A_.alloc (.loop x)) (H':=(id,LR x n)::H) (ob':=LR x n) Z Z Z Z (λo ho=>by simp_all)
   (λhnew hI hmono=>.inr (.inr (.inr (.inl ⟨Z,_,x,H_,hnew,hI,λy ts r hy=>by
    simp only[LR,List.cons.injEq,AV.raw.injEq,and_true]at hy;obtain ⟨⟨rfl,rfl⟩,rfl⟩:=hy;refine⟨Z,λi t v ht u=>?_⟩;rw[r7]at ht u;obtain ⟨q,hq,rfl⟩:=Option.map_eq_some_iff.1 ht;rw[hq]at u;cases u;have ⟨c,c1,c2⟩:=he q.1 q.2 (hE0 q (m8 hq));exact⟨c,by rw[R];exact c1,hmono _ _ (c2.mono hr a2)⟩⟩))))
   m (λj hj=>by simp[aF.get,jR (Ne.symm hj)])
  have ⟨T,hw1⟩:∃T,T=A_.alloc (.loop x):=X_;rw[<-hw1]at b1 b2;have ⟨B,u_⟩:∃B:lQ,B=λj=>if j=id then some (A_.heap.size,2)else ι j:=X_
  rw[<-u_]at b1 b2;have d:B id=some (w.heap.size+1,2):=by rw[u_,L];simp
  have hL1:=uW b1 m d;have W:T.heap[w.heap.size]?=some (.deferred (some [])):=by
   rw[b2.keep _ (by rw[L];omega) (BG a1 hDd)];exact hDd
  have z_:=h x (by rw[R]) (by rw[R]) (by rw[R,hps]) (by rw[R];exact hs.size) (by rw[R]) (by rw[R]) I B T (#[.func (.yield (w.heap.size+1)) #[] #[]]++us) b1 (by simp[hl];omega) (λi v c u F=>by
   cases i with
   |zero =>
    rw[Array.getElem?_append_left H_]at u;simp at u F;subst u F;exact .yld (LR x n) m (g_ _) Z (λ_=>⟨Z,_,d,Z⟩)
   |succ i =>
    rw[Array.getElem?_append_right H_]at u;simp only[getElem?_cons_succ]at F;have:=hh i v c (by simpa using u) F;exact(this.mono hr a2).mono a1 b2)
  refine⟨w.heap.size+1,[mark w.heap.size],T,{target:=.fn (.func f) us,args:=#[.func (.yield (w.heap.size+1)) #[] #[]]},T,f,#[.func (.yield (w.heap.size+1)) #[] #[]]++us,T,?_,?_,λ_ _=>trivial,?_,(λq=>by cases q),?_⟩
  ·rw[hw1,v_,R];exact run_enterLoop_outer _ _ _ _ _
  ·simp only[resolve,hfc];simp[go_sem]
  ·simp[invoke,go_sem,hc]
  refine((callsIn_wide (n:=0)).2 z_).mono ?_;rintro e w3 ⟨r,H',I3,ι3,v3,rfl,⟨y,K,hy1,hy2,rfl,hq⟩,_,hr3,A⟩;have o_:=tX (G:=⟨I,B,(id,LR x n)::H,T,[]⟩) A m d (gV _ _ _);have hb3:=uW hr3 (gV _ _ _) o_;have ⟨z,hz⟩:∃z:Go.Loop,z={y with state:=.exhausted}:=X_;have ⟨z1,z2⟩:=hr3.setRec (y:=z) (H':=(id,LR z n)::K) (gV _ _ _) o_ (by rw[hz]) (gV _ _ _) (λj hj=>BU _ _ _ hj);have ⟨w4,hw4⟩:∃w4,w4=w3.putObj (w.heap.size+1) (.loop z):=X_;rw[<-hw4]at z1 z2;refine⟨y.pending,w4,by rw[hw4,hz];exact run_endLoop hb3 hy2,?_⟩;have s:Step I ι H w I3 ι3 ((id,LR z n)::K) w4:=((a2.trans b2).trans A).trans z2;have hD4:w4.heap[w.heap.size]?=some (.deferred (some [])):=by
   rw[(A.trans z2).keep _ (Array.getElem?_eq_some_iff.1 W).1 (BG b1 W)];exact W
  have y_ : St G N E ((id, LR z n) :: K) { a with defers := [mark w.heap.size] ++ a.defers } w4 := by
   refine⟨?_,hs.size,I3,ι3,z1,hst.trans s,λt v u=>let ⟨c,c1,c2⟩:=he t v u;⟨c,c1,c2.mono hr s⟩⟩;have ⟨Ds,d1,d2,d3⟩:=hs.defers.step hr s;refine⟨w.heap.size::Ds,by rw[d1];rfl,nodup_cons.2 ⟨λhmem=>?_,d2⟩,λD hD=>?_⟩
   ·have hold:∀D∈Ds,D<w.heap.size:=by
     have ⟨Ds',d1',_,d3'⟩:=hs.defers;have he:Ds'=Ds:=by
      have h0:Ds'.map mark=Ds.map mark:=append_cancel_right (d1'.symm.trans d1);have hinj:∀(l c_:List Nat),l.map mark=c_.map mark->l=c_:=by
       intro l
       induction l with
       |nil=>intro c_ h;cases c_ with
        |nil=>rfl
        |cons _ _=>cases h
       | cons D l ih=>intro c_ h;cases c_ with
        |nil=>cases h
        |cons D' c_ =>
         simp only[map_cons,List.cons.injEq,mark,Deferred.mk.injEq,Target.collected.injEq,and_true]at h;rw[h.1,ih c_ h.2]
      exact hinj _ _ h0
     subst he;exact λD hD=>(Array.getElem?_eq_some_iff.1 (d3' D hD).2).1
    exact Nat.lt_irrefl _ (hold _ hmem)
   rcases l9.1 hD with rfl|hD
   ·exact⟨hst.size,hD4⟩
   exact d3 D hD
  have b:=hq z;generalize y.pending=pend at b |-
  match pend,b with
  |none,b=>exact⟨E,_,b,y_⟩
  |some .ret,b=>exact wpIn_ret ⟨E,_,b,y_⟩
  |some (.exit j),b=>exact wpIn_exit ⟨E,_,b,y_⟩
end Go.Abs
namespace Go.Proofs.YtopnleflllkbmaaGreatDoor
open Go.Proofs.Tryz
open Go.Abs
theorem iZ(l:List _):∀r∈l.map S_,r.length=1:=λr a=>by
 obtain ⟨t,_,rfl⟩:=mem_map.1 a;rfl
def cSZ(l:List B_):Ob:=bx 1 22 [.pv (aL l)]
def cNZ:Ob:=bx 1 3 [iv 2]
theorem Md(l)(H)(d:H.get 931=none)(e:H.get 932=none):
  aU Tryz.prog 228 [.pv (aL l),iv 2] H (λr H'=>r=.clo 266 [.ref 931 0 0 0,.ref 932 0 0 0]/\H'=(932,cNZ)::(931,cSZ l)::H):=by
 have b:=e;refine Bd func228 Z ntmps228<|O (wL Z Z Z Z d)<|Y (wL (id:=932) Z Z Z Z b)<|V aI<|S<|O (bQ M_)<|V cJ<|Cn ?_ ?_<;>intro c
 ·cases c
 refine aB<|O (gW Z Z)<|V aI<|aC<|cR (.inr Z) Z (aH Z) Fin.refl Qq
def EL(l:List B_)(k:Nat):List B_:=(l.drop (2*k)).take 2
theorem zh(l)(k):((l.map S_).drop (2*k)).take 2=(EL l k).map S_:=by rw[EL,map_take,map_drop]
theorem aDa{n:Nat}(h:2<=n):min (2:Int) n=2:=Int.min_eq_left X
theorem Bh(l:List B_)(h:AV)(c:Nat->aF)(m:Nat)(hl:l.length=2*m)(hm:m<2^40)(i:∀k,(c k).get 931=some (cSZ l))(o:∀k,(c k).get 932=some cNZ)
  (p:∀k,k<m->dH Tryz.prog h [.pv (aL (EL l k))] (c k) (λr H'=>r=bv true/\H'=c (k+1))) :
  aU Tryz.prog 266 [h,.ref 931 0 0 0,.ref 932 0 0 0] (c 0) (λr H'=>r=.tup []/\H'=c m):=by
 have hml:(l.map S_).length=l.length:=j6 _;refine Bd func266 Z ntmps266<|Sz aI<|aD<|bF (σ:=Nat) (λk=>([(0,h),(1,.ref 931 0 0 0),(2,.ref 932 0 0 0),(4,iv ((2*k:Nat):Int))],c k)) (λk=>k<=m) (λk=>m - k) 0 (l7 _) ?_ ?_
 ·exact E0
 rintro k hkm;refine S<|O aA<|Y (aX Z aG Z (i k) Z Z Z)<|Y (fW aE)<|V cJ<|Cn ?_ ?_<;>intro e
 ·have hlt:2*k<l.length:=I_ e
  have d:k<m:=X
  have j:=p k d;have hdl:((l.map S_).drop (2*k)).length=l.length - 2*k:=F_
  refine aB<|S<|aD<|S<|aM a7<|Cq (aX Z M_ Z (o k) Z Z Z)<|Cq (aX Z aG Z (i k) Z Z Z)<|Cq aA<|Cq (eY (l:=2*k) (h:=(l.map S_).length) (rows':=(l.map S_).drop (2*k)) Z bD Z (iZ l) Z Z X (g_ _) G_)<|Cq (fW aE)<|Cq (CV (r:=2) Z Z Z X)<|Cq aI<|bG<|Kr<|O aA<|Y (aX Z aG Z (i k) Z Z Z)<|Y aA<|Y aA<|Y aA<|Y (by exact dB Z Z Z (show IntKind.i64.wrap (((2*k:Nat):Int)+2)=((2*k+2:Nat):Int)by rw[IntKind.wrap_i64];omega))<|Y aA<|Y aA<|Y (by exact dB Z Z Z (show IntKind.i64.wrap (((2*k:Nat):Int)+2)=((2*k+2:Nat):Int)by rw[IntKind.wrap_i64];omega)) ?_;refine Y (by exact Ee (l:=2*k) (h:=2*k+2) (rows':=(EL l k).map S_) Z bD Z (iZ l) Z Z Z X X G_ (by rw[<-zh,drop_take];simp_all))<|Y (dA Z Z Z (j))<|V iI ?_;refine Cn ?_ ?_<;>intro g
  ·cases g
  refine aB<|Rd aA<|Y (aX Z M_ Z (o (k+1)) Z Z Z)<|Y (by exact dB Z Z Z (show IntKind.i64.wrap (((2*k:Nat):Int)+2)=((2*(k+1):Nat):Int)by rw[IntKind.wrap_i64];omega))<|Da ?_;exact⟨k+1,d,X,E0⟩
 have hge:l.length<=2*k:=J_ e
 have n:k=m:=X
 refine aP ?_;rw[<-n];exact oT (H':=c k) (.inl Z) Z Fin.refl ⟨Z,Z⟩
theorem mn{W}{j}(h:2*j+2<=W.length):((EL W j).map S_)[0]?=some (S_ (W.getD (2*j) a6))/\((EL W j).map S_)[1]?=some (S_ (W.getD (2*j+1) a6)):=by
 have h0:(EL W j)[0]?=some (W.getD (2*j) a6):=by
  rw[EL,getElem?_take_of_lt H_,getElem?_drop,Nat.add_zero,getD_eq_getElem?_getD,m_ X];rfl
 have h1:(EL W j)[1]?=some (W.getD (2*j+1) a6):=by
  rw[EL,getElem?_take_of_lt H_,getElem?_drop,getD_eq_getElem?_getD,m_ X];rfl
 exact⟨F_,F_⟩
def upA(l:List B_)(j:Nat):B_:=ek (l.getD (2*j) a6) (l.getD (2*j+1) a6)
def ru(l:List B_)(k:Nat):List B_:=(List.range k).map (upA l)
theorem Ep(l)(k):ru l (k+1)=ru l k++[upA l k]:=by rw[ru,range_succ,map_append];rfl
theorem rr(l)(k):(ru l k).length=k:=by simp[ru]
theorem Ps{l}{m}(h:l.length=2*m):ru l m=ry l:=by
 apply ext_getElem?;intro k;have hl:=OO m l h;by_cases a:k<m
 ·have:=rv m l k h a;rw[getD_eq_getElem?_getD,m_ _]at this;rw[ru,r7,getElem?_range a,m_ X];exact congrArg _ this.symm
 rw[getElem?_eq_none (by rw[rr];omega),getElem?_eq_none X]
def upK(l L:List B_):aF:=[(905,⟨L.length,1,9,cB L⟩),(3,bx 1 22 [.osl 905 L.length 0 L.length]),(932,cNZ),(931,cSZ l)]
theorem Pt(l L)(s):upK l (L++[s])=[(905,⟨L.length+1,1,9,cB (L++[s])⟩),(3,bx 1 22 [.osl 905 (L.length+1) 0 (L.length+1)]),(932,cNZ),(931,cSZ l)]:=by simp[upK]
def upE:cY:=[(3,.ref 3 0 0 0)]
theorem Z0(H)(l):∀r∈(cSZ l).rows,∀a∈r,Clo H a:=by intro r c a b;simp[cSZ,bx,r6]at c;subst c;rw[r6]at b;subst b;simp
instance(H)(l):W_ (H) ((cSZ l).rows):=⟨Z0 H l⟩
theorem Z1(H):∀r∈cNZ.rows,∀a∈r,Clo H a:=by intro r c a b;simp[cNZ,bx,r6]at c;subst c;rw[r6]at b;subst b;simp
instance(H):W_ (H) (cNZ.rows):=⟨Z1 H⟩
theorem Vy(l:List B_)(m:Nat)(H:aF)(w:l.length=2*m)(d_:m<2^40)(hs:∀s∈l,s.size=16):RC 175 [.pv (aL l)] (.pv (aL (ry l))) H:=by
 refine Pu<|Bd func175 Z ntmps175<|Sz aI<|Sz (kl 3 Wd)<|S<|O aA<|V (kc call228 (Md l _ Z Z))<|aD ?_;refine gG.ent (E':=[(3,.ref 3 0 0 0),(6,.clo 266 [.ref 931 0 0 0,.ref 932 0 0 0])]) (H':=upK l []) ?_ ?_
 ·exact (Q_ 905 1 9)
 refine B4 (id:=904) (p:=7) upE Z call266 Z Z (by simp[upE];rfl) ?_;intro x o g v u q t;refine(Bh l (.yld 904 0) (λk=>(904,LR x upE)::upK l (ru l k)) m w d_ (λk=>rfl) (λk=>rfl) ?_).mono ?_
 ·intro k hk;have B:∀j,j<l.length->(l.getD j a6).size<2^40:=λj hj=>by simp_all
  have i:=λH=>Tg (l.getD (2*k) a6) (l.getD (2*k+1) a6) false H (B _ X) (B _ X);simp only[Bool.false_eq_true,if_false]at i;have ⟨y,A⟩:=mn (W:=l) (j:=k) X;have hfl:=rr l k;refine .inl ⟨904,0,Z,?_⟩;refine LJ [(3,.ref 3 0 0 0),(4,.pv (aL (EL l k)))] (upK l (ru l k)) o g v u q t Z Z Z ?_ ?_
  ·refine Rg<|Da ?_;exact(cL.wk (Ea<|Eb<|T_) (Hc (nT (by intro p d;simp only[upE,l9,q7,or_false]at d;subst d;simp only[DI];rfl))<|Hc (aV _ _)<|Ha<|Hc (Z1 _)<|Hc (Z0 _ _)<|T_) ⟨Z,Z,Z,Z,Z,T_⟩)
  rw[Ep,Pt];refine aD<|aM a7<|Cr [3] (λ_ h=>lh aG h)<|x_ aA<|x_ (by exact bU Z bD Z Z X x6 y Z)<|x_ ((fZ N_ (hi:=y)))<|x_ aA<|x_ (by exact bU Z bD Z Z X x6 A Z)<|x_ ((fZ N_ (hi:=A)))<|x_ (by exact bH Z Z call229 Z (i _))<|x_ (by exact aK [[.str (upA l k)]] Z bD Z Z Z Z Z F_)<|Cp [905] (λn e=>by exact cA (ps:=[[.str (upA l k)]]) Z bD yJ Z ((e _ Z).trans Z) Z Z Z (eS _) Z F_ (m:=1) Z X Z (gO (ru l k) (upA l k))) ?_;refine Cp [3] (λ_ h=>sa sizeOf22 h)<|bG<|Kr ?_;exact⟨[(905,⟨(ru l k).length+1,1,9,cB (ru l k++[upA l k])⟩),(3,bx 1 22 [.osl 905 ((ru l k).length+1) 0 ((ru l k).length+1)]),(932,cNZ),(931,cSZ l)],(cL.wk T_ (Hc (nT (by intro p d;simp only[upE,l9,q7,or_false]at d;subst d;simp only[DI];rfl))<|Hc (aV _ _)<|Ha<|Hc (Z1 _)<|Hc (Z0 _ _)<|T_) ⟨Z,Z,Z,Z,Z,T_⟩),Z,Z⟩
 rintro r H' ⟨rfl,rfl⟩;refine⟨x,_,Z,F_,Z,λz=>?_⟩;rw[g,Ps w];have ⟨c,f⟩:∃c,c=ry l:=X_;rw[<-f];have hol:(c.map S_).length=c.length:=j6 _;refine gG.ent (cL.fzG (id:=905) (E':=[(3,.ref 3 0 0 0)]) (H':=[(3,bx 1 22 [.pv (aL c)])]) (c.map S_) Z (eT _) ?_ Z ?_ ?_) ?_
 ·intro p d;simp only[l9,q7,or_false]at d;rcases d with rfl;exact⟨_,Z,.same m3⟩
 ·refine⟨⟨_,Z,Z,Z,Z,lW Z (bC (.osl ?_) kK)⟩,T_⟩
  grind
 ·exact T_
 exact O (bQ aG)<|V aI<|aC<|Rt<|Qq
def ZM(s:B_)(n k:Nat):List B_:=(List.range n).map λj=>if j<k then oi s j else a6
theorem PH(s)(n k):(ZM s n k).length=n:=by simp[ZM]
theorem ZL(s){n k j}(h:j<n):(ZM s n k)[j]?=some (if j<k then oi s j else a6):=by rw[ZM,r7,getElem?_range h];rfl
theorem Ub(s){n k}(h:k<n):(ZM s n k).set k (oi s k)=ZM s n (k+1):=by
 apply ext_getElem?;intro j;by_cases a:j<n
 ·rw[ZL s a];by_cases e:k=j
  ·subst e;rw[getElem?_set_self (by rw[PH];exact h),b7 (lt_succ_self _)]
  rw[getElem?_set_ne e,ZL s a]
  grind
 rw[getElem?_eq_none (by rw[length_set,PH];omega),getElem?_eq_none (by rw[PH];omega)]
theorem Kk(s)(n):ZM s n 0=List.replicate n a6:=by rw[ZM];simp[not_lt_zero,if_false];rw[map_const',length_range]
theorem Uc(s)(h):ZM s (2 ^ h) (2 ^ h)=xX s h:=by
 rw[ZM,xX]
 simp_all
theorem xg(n):cB (List.replicate n a6)=List.replicate n [sv a6]:=by rw[cB,map_replicate]
theorem xf(l)(k)(x):(cB l).set k [sv x]=cB (l.set k x):=by rw[cB,cB,map_set]
theorem F1{h}(a:h<=8):2 ^ h<=256:=Nat.pow_le_pow_right H_ a
theorem Yq{h:Nat}(a:h<=8):IntKind.i64.wrap (1*2 ^ ((h:Int)).toNat)=((2 ^ h:Nat)):=by have:=F1 a;rw[l_,Int.one_mul,show 2 ^ h=((2 ^ h:Nat):Int)by rfl];generalize 2 ^ h=n at this |-;rw[mE X X]
theorem Ud(s:B_)(h:Nat)(H:aF)(l:s.size<2^40)(i:h<=8):RC 174 [sv s,iv (h:Int)] (.pv (aL (xX s h))) H:=by
 refine Pu ?_;have j:=F1 i;have g:=xg (2 ^ h);rw[<-Kk s]at g;rw[<-Uc];obtain ⟨n,m⟩:∃n,n=2 ^ h:=X_;have e:=Yq i;rw[<-m]at j g e |-;refine Bd func174 Z ntmps174<|Sz aI<|O aA<|Y (by exact O8 Z Z Z (by omega) (by simp[IntKind.bits];omega) e)<|Y (by exact D8 (id:=905) Z bD yJ Pf Z Z Z (by omega) (by omega) (l_ _) (l_ _) (by omega) Z)<|V aI<|S<|O aA<|Y (by exact dS Z aE Z Z Z)<|V aA<|aD ?_;refine bF (σ:=Nat) (λk=>([(0,sv s),(5,.osl 905 0 0 n),(11,iv (n:Int)),(12,iv (k:Int))],[(905,⟨0,1,9,cB (ZM s n k)⟩)])) (λk=>k<=n) (λk=>n - k) 0 (l7 _) ?_ ?_
 ·rw[g];exact Wk
 intro k hk;have hln:=PH s n k;refine Sz cJ<|S<|Cn ?_ ?_<;>intro c
 ·have d:k<n:=I_ c
  have hrow:(cB (ZM s n k))[k]?=some [sv a6]:=by
   rw[cB,r7,ZL s d,a8 (Nat.lt_irrefl _)];rfl
  have hset:(cB (ZM s n k)).set k [sv (oi s k)]=cB (ZM s n (k+1)):=by rw[xf,Ub s d]
  refine aB<|S<|aD<|O aA<|V aI<|Rd aA<|Y aA<|Y aA<|Y aA<|Y (kc call227 (aA3 s k _ l X))<|Y (by exact dL Z bD Z Z Z Z Z X (by exact l_ _) X Z)<|Uu (by exact cQ (r:=[sv a6]) (r':=[sv (oi s k)]) (rows':=cB (ZM s n (k+1))) Z V_ Z Z Z Z Z F_ H_ Z F_)<|Zz<|Rd kp<|V aA ?_;exact⟨k+1,X,X,(cL.wk (Eb<|Ea<|Eb<|Eb<|T_) (Hc (aV _ _)<|T_) T_)⟩
 have f:k=n:=J_ c
 subst f;have htk:((ZM s k k).map S_).take k=(ZM s k k).map S_:=take_of_length_le F_;refine aP<|O aA<|V aI<|aC ?_;refine cR (H':=[]) (.inr Z) Z (aH Z) (Fin.fz (r':=.pv (aL (ZM s k k))) (id:=905) ((ZM s k k).map S_) Z (eT _) (.osl F_) Z T_ T_) ?_;exact Qq
end Go.Proofs.YtopnleflllkbmaaGreatDoor
