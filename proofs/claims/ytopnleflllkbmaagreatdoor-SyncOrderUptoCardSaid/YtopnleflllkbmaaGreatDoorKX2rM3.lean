/-
  Parts of the proof. Conditions: each theorem's own.
-/
import Derived.Test.YtopnleflllkbmaaGreatDoorKX2rM2
import Derived.Lib.AppendStr
import Derived.Scope
import Derived.Lib.UnsafeStr
import Derived.Lib.MakeNoZero
import Derived.Lib.Builder
import Derived.Lib.Overlaps
import Derived.WalkSpells
import Derived.Lib.SliceRun
import Derived.ChangeKeysEq
import Derived.Lib.ItoaLen
set_option linter.unusedVariables false
set_option linter.unusedSimpArgs false
set_option maxRecDepth 100000
set_option maxHeartbeats 8000000
namespace Go.Proofs
open Tryz
theorem Bn:type_of% call106:=call106
theorem nB:type_of% call132:=call132
theorem nA:type_of% call133:=call133
theorem mZ:type_of% call160:=call160
theorem TM:type_of% call191:=call191
theorem rG:type_of% call204:=call204
theorem Bi:type_of% call226:=call226
theorem GQ:type_of% call294:=call294
theorem lM:type_of% call79:=call79
theorem Nq:type_of% call81:=call81
theorem Bg:type_of% func133:=func133
theorem Be:type_of% func191:=func191
theorem aEK:type_of% func204:=func204
theorem bW:type_of% isAgg135:=isAgg135
theorem cT:type_of% isAgg137:=isAgg137
theorem DN:type_of% isAgg158:=isAgg158
theorem iy:type_of% ntmps133:=ntmps133
theorem iw:type_of% ntmps191:=ntmps191
theorem aDG:type_of% ntmps204:=ntmps204
theorem gW:type_of% underlying158:=underlying158
theorem yM:type_of% underlying215:=underlying215
theorem IT:type_of% underlying247:=underlying247
end Go.Proofs
namespace Go.Abs
variable{id b p N:Nat}{d:cY}{x:Go.Loop}{H K:aF}{P:Program}
section
def LR(x:Go.Loop)(E0:cY):Ob:=⟨0,0,0,[[.raw x (E0.map (·.1))],E0.map (·.2)]⟩
section
variable{I:Nat->Prop}{ι:lP}{w:World}
theorem Fw{x}(m:Rel I ι H w)(e:H.get id=some (LR x d)){v:Value}(j:VRel w I ι H v (.yld id 0)):
  ∃b,ι id=some (b,2)/\v=.func (.yield b) #[] #[]/\w.heap[b]?=some (.loop x)/\¬ I b/\∀(i t:Nat) (a:AV),(d.map (·.1))[i]?=some t->(d.map (·.2))[i]?=some a->∃c,x.tmps[t]?=some c/\VRel w I ι H c a:=by
 cases j with
 |yld o g h2 h3 k =>
  rw[e]at g;cases g;obtain ⟨_,b,f,e2⟩:=k Z;obtain ⟨_,b',y,h,k2,k3,l⟩:=(m.obj id _ e).rec Z f;rw[f]at h;obtain ⟨q1,q2⟩:=l x _ _ Z
  grind
theorem Rel.setRec{y:Go.Loop}{G:cY}{H':aF}(m:Rel I ι H w)(n:H.get id=some (LR x G))(k:ι id=some (b,2))(hy:y.tmps=x.tmps)
  (K:H'.get id=some (LR y G)) (d_:∀j,j≠id->H'.get j=H.get j):Rel I ι H' (w.putObj b (.loop y))/\Step I ι H w I ι H' (w.putObj b (.loop y)):=by
 obtain ⟨_,b',z,c_,o_,T,k4⟩:=(m.obj id _ n).rec Z k;rw[k]at c_;cases c_;obtain ⟨Q,A_⟩:=k4 x _ _ Z;subst Q;have u:=(Array.getElem?_eq_some_iff.1 o_).1;have s:∀c,NF ι H' c->NF ι H c:=fun c ⟨j,o,B,u_,g⟩=>by
  by_cases e:j=id
  ·subst e;exact⟨j,_,B,n,g⟩
  exact⟨j,o,B,(d_ j e).symm.trans u_,g⟩
 have l:Step I ι H w I ι H' (w.putObj b (.loop y)):=by
  refine⟨Z,Z,Z,F_,fun a L _=>?_,fun _ h=>h,fun _ h=>.inl h,fun c g=>.inl (s c g),fun c g v_=>?_,fun j o f=>?_⟩
  ·unfold World.frozen?;by_cases e:a.block=b
   ·rw[e,World.putObj_heap_same u,o_]
   rw[World.putObj_heap_other e]
  ·exact World.putObj_heap_other fun e=>v_ ⟨id,_,2,n,by rw[e];exact k⟩
  by_cases e:j=id
  ·subst e;rw[n]at f;cases f;exact⟨_,K,j6 _,fun _=>⟨Z,Z,fun h=>by cases h⟩⟩
  exact⟨o,(d_ j e).trans f,j6 _,fun _=>⟨Z,Z,fun _=>j6 _⟩⟩
 refine⟨⟨fun c g=>by rw[World.putObj_size];exact m.imm c g,fun j o f=>?_,fun j N o o' c d d' f F g D=>?_,l.glob m⟩,l⟩
 ·by_cases e:j=id
  ·subst e;rw[K]at f;cases f;refine .inr (.inr (.inr (.inl ⟨Z,b,y,k,World.putObj_heap_same u,T,fun z ts r e_=>?_⟩)));simp only[LR,List.cons.injEq,AV.raw.injEq,and_true]at e_;obtain ⟨⟨rfl,rfl⟩,rfl⟩:=e_;refine⟨Z,fun i t a W L=>?_⟩;obtain ⟨c,z_,P⟩:=A_ i t a W L;exact⟨c,by rw[hy];exact z_,P.mono m l⟩
  rw[d_ j e]at f;exact(m.obj j o f).keep Z (fun c d g _=>⟨World.putObj_heap_other (fun hb=>e (m.inj j id o _ c d 2 f n g (by rw[hb];exact k))),fun h=>h⟩) (fun r _ a _ v R=>R.mono m l)
 have A:∀j o,H'.get j=some o->∃o,H.get j=some o:=fun j o f=>by
  by_cases e:j=id
  ·subst e;exact⟨_,n⟩
  exact⟨o,(d_ j e).symm.trans f⟩
 obtain ⟨q,f_⟩:=A j o f;obtain ⟨y_,E⟩:=A N o' F;exact m.inj j N q y_ c d d' f_ E g D
theorem Rel.push(o:Obj)(f:Rel I ι H w):Rel I ι H (w.alloc o)/\Step I ι H w I ι H (w.alloc o):=by
 have g:∀b,b<w.heap.size->(w.alloc o).heap[b]?=w.heap[b]?:=fun b e=>by
  show (w.heap.push o)[b]?=_
  grind
 have d:Step I ι H w I ι H (w.alloc o):=by
  refine⟨Z,Z,Z,F_,fun a ha _=>?_,fun _ h=>h,fun _ h=>.inl h,fun _ h=>.inl h,fun b e _=>g b e,fun _ o h=>⟨o,h,j6 _,fun _=>⟨Z,Z,fun _=>j6 _⟩⟩⟩;unfold World.frozen?
  simp_all
 refine⟨⟨fun b e=>by have:=f.imm b e;rw[World.size_alloc];omega,fun j o k=>?_,f.inj,d.glob f⟩,d⟩;exact(f.obj j o k).keep Z (fun b c _ e=>⟨g b e,fun h=>h⟩) (fun r _ a _ v i=>i.mono f d)
end
def busy(x:Go.Loop):Go.Loop:={x with state:=.busy}
def left(x:Go.Loop)(c:Code):Go.Loop:={x with state:=.done,pending:=some c}
def Mw(H0:aF)(id:Nat)(x:Go.Loop)(E0:cY)(Q:AV->aF->Prop):Exit->cY->aF->Prop
 |.normal,E,H=>∃K,cJ H0 E H [] ((id,LR (busy x) E0)::K)/\Q (.pv (.bool true)) ((id,LR x E0)::K)
 |.ret,E,H=>∃K,cJ H0 E H [] ((id,LR (busy x) E0)::K)/\Q (.pv (.bool false)) ((id,LR (left x .ret) E0)::K)
 |.exit j,E,H=>∃K,cJ H0 E H [] ((id,LR (busy x) E0)::K)/\Q (.pv (.bool false)) ((id,LR (left x (.exit j)) E0)::K)
 |_,_,_=>False
theorem tV{G:Entry}{I}{ι}{H}{w}{id b}{x y}{e}(c:Step G.I G.ι G.H G.w I ι H w)(h:G.H.get id=some (LR x e))(a:G.ι id=some (b,2))(g:H.get id=some (LR y e)):ι id=some (b,2):=by obtain ⟨o',d,_,f⟩:=c.objs _ _ h;rw[g]at d;cases d;exact(f Z).1.trans a
theorem uU{I}{ι:lP}{w}{x}{f:cY}(g:Rel I ι H w)(d:H.get id=some (LR x f))(a:ι id=some (b,2)):w.heap[b]?=some (.loop x):=by
 obtain ⟨_,b',z,c,k2,k3,e⟩:=(g.obj id _ d).rec Z a;rw[a]at c;obtain ⟨q1,_⟩:=e x _ _ Z
 simp_all
theorem gQ(id)(o)(K:aF):aF.get ((id,o)::K) id=some o:=by simp[aF.get,pF]
theorem BP{id j}(o o')(K:aF)(h:j≠id):aF.get ((id,o)::K) j=aF.get ((id,o')::K) j:=by simp[aF.get,jP (Ne.symm h)]
theorem LJ{h n:Code}{a:AV}{Q:AV->aF->Prop}(E2:cY)(K2:aF)(G:x.state=.ready)(A_:x.pending=none)(hp:x.params=#[p])(hN:x.tmps.size=N)(hxa:x.assign=h)(hxb:x.body=n)(u_:Nat.blt p N=true)
  (hok:zF h=true) (T:zF n=true)
  (h1:fZ P ((id,LR x d)::K) N h (yP (fun E1 H1=>cJ ((id,LR x d)::K) E1 H1 E2 ((id,LR x d)::K2)) (fun _ _ _=>False)) ((p,a)::d) ((id,LR x d)::K))
  (h2:fZ P ((id,LR x d)::K) N n (Mw ((id,LR x d)::K) id x d Q) E2 ((id,LR (busy x) d)::K2)):IS P id 0 [a] ((id,LR x d)::K) Q:=by
 subst hxa hxb;have u_:p<N:=F_
 intro I y_ w vs v hr hv hl hvs;obtain ⟨b,e1,e2,e3,e4,e5⟩:=Fw hr (gQ _ _ _) hv;obtain ⟨u,rfl⟩:∃u,vs=#[u]:=by
  match vs,hl with
  |⟨[u]⟩,_=>exact⟨u,Z⟩
 have hu:=hvs 0 u a Z Z;refine⟨b,x.fn,_,x.assign,x.body,e2,run_yield e3 F_,?_⟩;refine roundIn_of_wpIn (F:=Fence.wide) T_ ?_;have z_:(⟨I,y_,(id,LR x d)::K,w,[]⟩:Entry).H=(id,LR x d)::K:=rfl;have hst:St ⟨I,y_,(id,LR x d)::K,w,[]⟩ N ((p,a)::d) ((id,LR x d)::K) {tmps:=(x.params.zip #[u]).foldl (fun m (t,a)=>m.setIfInBounds t a) x.tmps,defers:=[]} w:=by
  have ht:(x.params.zip #[u]).foldl (fun m (t,a)=>m.setIfInBounds t a) x.tmps=x.tmps.setIfInBounds p u:=by rw[hp];simp
  rw[ht];refine⟨tR.nil _ _ _,by simp[hN],I,y_,hr,Step.refl _ _ _ _,fun t y s=>?_⟩;by_cases e:p=t
  ·subst e;rw[cY.get_cons_same]at s;cases s;exact⟨u,by simp[hN,u_],hu⟩
  rw[cY.get_cons_other _ _ e]at s;obtain ⟨i,hi⟩:=r_.1 (iJ s);obtain ⟨c,c1,c2⟩:=e5 i t y (by rw[r6,hi];rfl) (by rw[r6,hi];rfl);exact⟨c,by show (x.tmps.setIfInBounds p u)[t]?=some c;rw[Array.getElem?_setIfInBounds_ne e];exact c1,c2⟩
 refine wpIn_mono (h1 _ z_ _ w hst (some b) (.inr hok)) ?_;rintro e a1 w1 ⟨E1,H1,q,hs1⟩;cases e with
 | normal =>
  have F:=q _ z_ N a1 w1 hs1;obtain ⟨I1,ι1,z,B,he1⟩:=F.rel;have E:=tV B (gQ _ _ _) e1 (gQ _ _ _);have hb1:=uU z (gQ _ _ _) E;obtain ⟨k1,k2⟩:=z.setRec (y:=busy x) (H':=(id,LR (busy x) d)::K2) (gQ _ _ _) E Z (gQ _ _ _) (fun j hj=>BP _ _ _ hj);refine⟨_,run_beginRound hb1 G,?_⟩;have hs3:St ⟨I,y_,(id,LR x d)::K,w,[]⟩ N E2 ((id,LR (busy x) d)::K2) a1 (w1.putObj b (.loop (busy x))) :=
   ⟨F.defers.step z k2,F.size,I1,ι1,k1,B.trans k2,fun t y s=>let ⟨c,c1,c2⟩:=he1 t y s;⟨c,c1,c2.mono z k2⟩⟩
  refine wpIn_mono (h2 _ z_ a1 _ hs3 (some b) (.inr T)) ?_;rintro e a2 w3 ⟨E3,H3,R,hs4⟩;have o_:∀(g:Option Code) (y:Go.Loop) (o:aF),y={busy x with state:=if g.isNone then .ready else .done,pending:=g}->cJ ((id,LR x d)::K) E3 H3 [] ((id,LR (busy x) d)::o)->Q (.pv (.bool g.isNone)) ((id,LR y d)::o) ->
    ∃v w',(Instr.endRound b g).run P w3=.ok v w'/\∃r H' I' L v',Ending.returned v=.returned v'/\Q r H'/\VRel w' I' L H' v' r/\Rel I' L H' w'/\Step I y_ ((id,LR x d)::K) w I' L H' w':=by
   intro g y o s f e_;have hs5:=f _ z_ N a2 w3 hs4;obtain ⟨I5,ι5,W,d_,_⟩:=hs5.rel;have D:=tV d_ (gQ _ _ _) e1 (gQ _ _ _);have hb5:=uU W (gQ _ _ _) D;obtain ⟨z1,z2⟩:=W.setRec (y:=y) (H':=(id,LR y d)::o) (gQ _ _ _) D (by rw[s]) (gQ _ _ _) (fun j hj=>BP _ _ _ hj);refine⟨_,_,run_endRound g hb5,_,_,I5,ι5,_,Z,e_,.pv (.bool _),?_,?_⟩
   ·rw[<-s];exact z1
   rw[<-s];exact d_.trans z2
  cases e with
  |normal =>
   obtain ⟨o,f,e_⟩:=R;refine o_ none x o ?_ f e_;obtain ⟨st,pe,fn,tm,pa,ax,bo,de⟩:=x;simp only at G A_;subst G A_;rfl
  |ret =>
   obtain ⟨o,f,e_⟩:=R;exact o_ (some .ret) (left x .ret) o Z f e_
  |exit j =>
   obtain ⟨o,f,e_⟩:=R;exact o_ (some (.exit j)) (left x (.exit j)) o Z f e_
  |goto l=>exact R.elim
  |panic ch=>exact R.elim
  |outgrown=>exact R.elim
 |exit j=>exact q.elim
 |goto l=>exact q.elim
 |ret=>exact q.elim
 |panic ch=>exact q.elim
 |outgrown=>exact q.elim
def Na(Q:Exit->cY->aF->Prop)(E:cY)(H:aF):Option Code->Prop
 |none=>Q .normal E H
 |some .ret=>Q .ret E H
 |some (.exit j)=>Q (.exit j) E H
 |_=>False
theorem BW{G0:aF}{f:Nat}{e_:List AV}{g:Operand}{ps:Array Tmp}{assign body:Code}{Q:Exit->cY->aF->Prop}{E:cY}(n:cY)(hg:aO E g=some (.clo f e_))(hc:∀(args:Array Value) (w:World),(callFunc f args).run P w=.ok (.enter f args) w)
  (hps:ps=#[p]) (hid:H.get id=none) (hE0:∀q∈n,E.get q.1=some q.2)
  (h:∀x:Go.Loop,x.state=.ready->x.pending=none->x.params=#[p]->x.tmps.size=N->x.assign=assign->x.body=body ->
   aS P f (.yld id 0::e_) ((id,LR x n)::H) (fun r H'=>∃(y:Go.Loop) (K:aF),y.tmps=x.tmps/\y.state≠.busy/\H'=(id,LR y n)::K/\∀z:Go.Loop,Na Q E ((id,LR z n)::K) y.pending)) :
  fZ P G0 N (.rangeFunc g ps assign body) Q E H:=by
 intro G hG a w hs ro hro;obtain rfl:ro=none:=hro.resolve_right (fun h=>by cases h);obtain ⟨I,ι,hr,hst,he⟩:=hs.rel;refine wpIn_rangeFunc (F:=RF none) ?_;intro fn _;have hgv:=aI he hg;generalize hfc:a.eval g=fc at hgv;cases hgv with
 | @clo _ us _ hl hh =>
  obtain ⟨x,R⟩:∃x:Go.Loop,x={state:=.ready,pending:=none,fn,tmps:=a.tmps,params:=ps,assign,body,defers:=w.heap.size}:=X_;obtain ⟨a1,a2⟩:=hr.push (.deferred (some []));obtain ⟨A_,v_⟩:∃A_,A_=w.alloc (.deferred (some [])):=X_;rw[<-v_]at a1 a2;have L:A_.heap.size=w.heap.size+1:=F_
  have hDd:A_.heap[w.heap.size]?=some (.deferred (some [])):=by rw[v_];exact World.alloc_heap_new w _
  have m:aF.get ((id,LR x n)::H) id=some (LR x n):=gQ _ _ _;obtain ⟨b1,b2⟩:=a1.placeX (id:=id) (cap:=2) (x:=.loop x) (w':=A_.alloc (.loop x)) (H':=(id,LR x n)::H) (ob':=LR x n) Z Z Z Z (fun o ho=>by simp_all)
   (fun hnew hI hmono=>.inr (.inr (.inr (.inl ⟨Z,_,x,H_,hnew,hI,fun y ts r hy=>by
    simp only[LR,List.cons.injEq,AV.raw.injEq,and_true]at hy;obtain ⟨⟨rfl,rfl⟩,rfl⟩:=hy;refine⟨Z,fun i t v ht u=>?_⟩;rw[r6]at ht u;obtain ⟨q,hq,rfl⟩:=Option.map_eq_some_iff.1 ht;rw[hq]at u;cases u;obtain ⟨c,c1,c2⟩:=he q.1 q.2 (hE0 q (m7 hq));exact⟨c,by rw[R];exact c1,hmono _ _ (c2.mono hr a2)⟩⟩))))
   m (fun j hj=>by simp[aF.get,jP (Ne.symm hj)])
  obtain ⟨T,hw1⟩:∃T,T=A_.alloc (.loop x):=X_;rw[<-hw1]at b1 b2;obtain ⟨B,u_⟩:∃B:lP,B=fun j=>if j=id then some (A_.heap.size,2)else ι j:=X_
  rw[<-u_]at b1 b2;have d:B id=some (w.heap.size+1,2):=by rw[u_,L];simp
  have hL1:=uU b1 m d;have W:T.heap[w.heap.size]?=some (.deferred (some [])):=by
   rw[b2.keep _ (by rw[L];omega) (BD a1 hDd)];exact hDd
  have z_:=h x (by rw[R]) (by rw[R]) (by rw[R,hps]) (by rw[R];exact hs.size) (by rw[R]) (by rw[R]) I B T (#[.func (.yield (w.heap.size+1)) #[] #[]]++us) b1 (by simp[hl];omega) (fun i v c u F=>by
   cases i with
   |zero =>
    rw[Array.getElem?_append_left H_]at u;simp at u F;subst u F;exact .yld (LR x n) m (j6 _) Z (fun _=>⟨Z,_,d,Z⟩)
   |succ i =>
    rw[Array.getElem?_append_right H_]at u;simp only[List.getElem?_cons_succ]at F;have:=hh i v c (by simpa using u) F;exact(this.mono hr a2).mono a1 b2)
  refine⟨w.heap.size+1,[mark w.heap.size],T,{target:=.fn (.func f) us,args:=#[.func (.yield (w.heap.size+1)) #[] #[]]},T,f,#[.func (.yield (w.heap.size+1)) #[] #[]]++us,T,?_,?_,fun _ _=>trivial,?_,(fun q=>by cases q),?_⟩
  ·rw[hw1,v_,R];exact run_enterLoop_outer _ _ _ _ _
  ·simp only[resolve,hfc];simp[go_sem]
  ·simp[invoke,go_sem,hc]
  refine((callsIn_wide (n:=0)).2 z_).mono ?_;rintro e w3 ⟨r,H',I3,ι3,v3,rfl,⟨y,K,hy1,hy2,rfl,hq⟩,_,hr3,A⟩;have o_:=tV (G:=⟨I,B,(id,LR x n)::H,T,[]⟩) A m d (gQ _ _ _);have hb3:=uU hr3 (gQ _ _ _) o_;obtain ⟨z,hz⟩:∃z:Go.Loop,z={y with state:=.exhausted}:=X_;obtain ⟨z1,z2⟩:=hr3.setRec (y:=z) (H':=(id,LR z n)::K) (gQ _ _ _) o_ (by rw[hz]) (gQ _ _ _) (fun j hj=>BP _ _ _ hj);obtain ⟨w4,hw4⟩:∃w4,w4=w3.putObj (w.heap.size+1) (.loop z):=X_;rw[<-hw4]at z1 z2;refine⟨y.pending,w4,by rw[hw4,hz];exact run_endLoop hb3 hy2,?_⟩;have s:Step I ι H w I3 ι3 ((id,LR z n)::K) w4:=((a2.trans b2).trans A).trans z2;have hD4:w4.heap[w.heap.size]?=some (.deferred (some [])):=by
   rw[(A.trans z2).keep _ (Array.getElem?_eq_some_iff.1 W).1 (BD b1 W)];exact W
  have y_ : St G N E ((id, LR z n) :: K) { a with defers := [mark w.heap.size] ++ a.defers } w4 := by
   refine⟨?_,hs.size,I3,ι3,z1,hst.trans s,fun t v u=>let ⟨c,c1,c2⟩:=he t v u;⟨c,c1,c2.mono hr s⟩⟩;obtain ⟨Ds,d1,d2,d3⟩:=hs.defers.step hr s;refine⟨w.heap.size::Ds,by rw[d1];rfl,List.nodup_cons.2 ⟨fun hmem=>?_,d2⟩,fun D hD=>?_⟩
   ·have hold:∀D∈Ds,D<w.heap.size:=by
     obtain ⟨Ds',d1',_,d3'⟩:=hs.defers;have he:Ds'=Ds:=by
      have h0:Ds'.map mark=Ds.map mark:=List.append_cancel_right (d1'.symm.trans d1);have hinj:∀(l c_:List Nat),l.map mark=c_.map mark->l=c_:=by
       intro l
       induction l with
       |nil=>intro c_ h;cases c_ with
        |nil=>rfl
        |cons _ _=>cases h
       | cons D l ih=>intro c_ h;cases c_ with
        |nil=>cases h
        |cons D' c_ =>
         simp only[List.map_cons,List.cons.injEq,mark,Deferred.mk.injEq,Target.collected.injEq,and_true]at h;rw[h.1,ih c_ h.2]
      exact hinj _ _ h0
     subst he;exact fun D hD=>(Array.getElem?_eq_some_iff.1 (d3' D hD).2).1
    exact Nat.lt_irrefl _ (hold _ hmem)
   rcases l7.1 hD with rfl|hD
   ·exact⟨hst.size,hD4⟩
   exact d3 D hD
  have b:=hq z;generalize y.pending=pend at b |-
  match pend,b with
  |none,b=>exact⟨E,_,b,y_⟩
  |some .ret,b=>exact wpIn_ret ⟨E,_,b,y_⟩
  |some (.exit j),b=>exact wpIn_exit ⟨E,_,b,y_⟩
end
theorem aS.congrG{P}{f}{args}{H H1 K K1}{d}(h:aS P f args H1 (fun r A_=>r=d/\A_=K1))(u:∀j,H1.get j=H.get j)(p:∀j,K.get j=K1.get j):aS P f args H (fun r A_=>r=d/\A_=K):=by intro I ι w vs g q n;obtain ⟨A,l⟩:=g.congr u;refine(h I _ w _ A q (fun i v a o y=>(n i v a o y).mono g l)).mono ?_;rintro e w' ⟨r,H',s,c,v,rfl,⟨rfl,rfl⟩,x,k,z⟩;obtain ⟨t,m⟩:=k.congr p;exact⟨r,K,s,c,v,Z,⟨Z,Z⟩,x.mono k m,t,(l.trans z).trans m⟩
theorem IS.congrG{P}{id g}{args}{H H1 K K1}{q}(h:IS P id g args H1 (fun r A_=>r=q/\A_=K1))(c_:∀j,H1.get j=H.get j)(E:∀j,K.get j=K1.get j):IS P id g args H (fun r A_=>r=q/\A_=K):=by intro I ι w vs v k m F A;obtain ⟨y,o⟩:=k.congr c_;obtain ⟨l,f,c,b,d,G,B,z⟩:=h I _ w _ v y (m.mono k o) F (fun i v a D L=>(A i v a D L).mono k o);refine⟨l,f,c,b,d,G,B,z.mono ?_⟩;rintro e w' ⟨r,H',x,n,v,rfl,⟨rfl,rfl⟩,u,s,d_⟩;obtain ⟨t,p⟩:=s.congr E;exact⟨r,K,x,n,v,Z,⟨Z,Z⟩,u.mono s p,t,(o.trans d_).trans p⟩
theorem dF.congrG{P}{c}{args}{H H1 K K1}{b}(h:dF P c args H1 (fun r A_=>r=b/\A_=K1))(d:∀j,H1.get j=H.get j)(f:∀j,K.get j=K1.get j):dF P c args H (fun r A_=>r=b/\A_=K):=by
 rcases h with⟨id,g,e,h⟩|⟨F,a,e,i,h⟩
 ·exact .inl ⟨id,g,e,h.congrG d f⟩
 exact .inr ⟨F,a,e,i,h.congrG d f⟩
theorem mT{i j}{a b}(h:i≠j)(k):aF.get ((i,a)::(j,b)::K) k=aF.get ((j,b)::(i,a)::K) k:=by
 simp[aF.get];cases c:Nat.beq i k with
 |true =>
  have:=Nat.eq_of_beq_eq_true c;subst this;rw[jP (Ne.symm h)];rfl
 |false=>all_goals rfl
end Go.Abs
namespace Go.Abs
open Go.Lib
variable{e:TypeId}{id g n b cap l off len c h sz k ty:Nat}{ob:Ob}{s:B_}{H2 H H':aF}{w:World}{ι:lP}{f:List AV}{I:Nat->Prop}{rows:List (List PV)}{rows':List (List AV)}
section
section
variable{P:Program}{N:Nat}{o:Oper}{E:cY}{T f_:TypeId}{x y:Operand}
theorem B9{w}{I}{ι}(s):tN w I ι H 1 (strCells s) (fK s.data.toList):=by
 intro i r c k a d;rw[fK,r6]at c;obtain ⟨b,e,rfl⟩:=Option.map_eq_some_iff.1 c;cases k with
 |zero =>
  cases d;exact⟨.int _ _,by rw[strCells,Nat.mul_one,Nat.add_zero,r6,e];rfl,Z,.pv (.int _ _)⟩
 |succ k=>grind
theorem RU(ho:o.op=.call {callee:=.builtin .append,args:=#[x,y],argTypes:=#[T,f_]})(hT:P.underlying T=some (.slice e))(hS:P.underlying f_=some .string)(hinf:gz P e 1 1)(hz0:∀i,P.info? e=some i->i.zero=some (.int .u8 0))
  (hx:aO E x=some (.osl id g 0 n)) (u_:H.get id=some ob) (hg:ob.g=g) (q:ob.sz=1) (hty:ob.ty=e) (hn:ob.rows.length=n)
  (hy:aO E y=some (.pv (.str s))) (hmax:n+s.size<=140737488355328)
  (hH2:H.set id ⟨g+1,1,e,ob.rows++fK s.data.toList⟩=H2):cL P N o E H (.osl id (g+1) 0 (n+s.size)) H2:=by
 intro a w I ι _ _ hr he K Q hk;obtain ⟨i,z,hi,hz,A,hby,hzs,hsz0⟩:=hinf;have hzi:=hz0 i hi;subst hg hty hn hH2;have f:(fK s.data.toList).length=s.size:=by simp[fK]
 have hml:ob.rows.length+s.size<=maxLen:=by simp only[maxLen];omega
 have W:(H.set id ⟨ob.g+1,1,ob.ty,ob.rows++fK s.data.toList⟩).get id=some ⟨ob.g+1,1,ob.ty,ob.rows++fK s.data.toList⟩:=aF.get_set_same _ _ _;have h2:∀j,j≠id->(H.set id ⟨ob.g+1,1,ob.ty,ob.rows++fK s.data.toList⟩).get j=H.get j:=fun j hj=>aF.get_set_other _ _ hj;have v_:0<ob.sz:=pZ (aI he hx) u_ Z;have p2:=((hr.obj id ob u_).cells v_).2.1;rw[q]at p2;have hrl:∀r∈ob.rows++fK s.data.toList,r.length=1:=fun r hr'=>by
  rcases List.mem_append.1 hr' with h|h
  ·simp_all
  obtain ⟨b,_,rfl⟩:=List.mem_map.1 h;rfl
 have hys:=(aI he hy).str_inv;have R:∀(v':Value) (w':World) (G:lP),(Builtin.append_ #[T,f_] o.type #[a.eval x,.string s]).run P w=.ok v' w'->VRel w' I G (H.set id ⟨ob.g+1,1,ob.ty,ob.rows++fK s.data.toList⟩) v' (.osl id (ob.g+1) 0 (ob.rows.length+s.size)) ->
   Rel I G (H.set id ⟨ob.g+1,1,ob.ty,ob.rows++fK s.data.toList⟩) w'->Step I ι H w I G (H.set id ⟨ob.g+1,1,ob.ty,ob.rows++fK s.data.toList⟩) w'->o.wpW P a w K Q:=by
  intro v' w' G l k1 e_ o_;unfold Oper.wpW execOp;simp only[ho,resolve,invoke,builtin,Sem.run_bind,Sem.run_pure,Result.andThen_ok,List.map_toArray,List.map_cons,List.map_nil,hys,l];exact hk v' w' I G _ _ ⟨Z,Z⟩ k1 e_ o_
 have hvx:=aI he hx;obtain ⟨_,hcase⟩:=jJ hvx u_ Z;rcases hcase with⟨b,m,oo,c1,c2,c3⟩|⟨c1,c2,_,c4⟩
 ·obtain ⟨p1,_,⟨b',cap',L,z_,e2,e3,e4,e5,e5',e6⟩|⟨z_,_⟩⟩:=(hr.obj id ob u_).cells v_
  ·rw [c1] at z_;cases z_;rw [q] at e4 e6;have hoo:oo=0:=X
   subst hoo;rw[Nat.sub_zero]at c2;have A_:tN w I ι H 1 (L.toList.take (ob.rows.length*1)) ob.rows:=by
    intro i' r d_ k a' F
    grind
   have t:(L.toList.take (ob.rows.length*1)).length=ob.rows.length*1:=G_
   have B:(strCells s).length=s.size:=strCells_length s;by_cases hroom:ob.rows.length+s.size<=m
   ·have l:=run_append_room_string (P:=P) w T f_ o.type ob.ty i hT hS hi A b ob.rows.length m L e2 s hroom X;obtain ⟨e_,o_⟩:=Rel.update (H':=H.set id ⟨ob.g+1,1,ob.ty,ob.rows++fK s.data.toList⟩) (ob':=⟨ob.g+1,1,ob.ty,ob.rows++fK s.data.toList⟩)
     (cs':=(L.toList.take ob.rows.length++strCells s++L.toList.drop (ob.rows.length+s.size)).toArray) hr u_ c1 e2 H_ q.symm Z (fun e=>by grind) (by
      grind) G_ G_ (fun i' r d_ k a' F=>by
       have:=tN.app (l3:=L.toList.drop (ob.rows.length+s.size)) A_ t (B9 (H:=H) s) i' r d_ k a' F;rw[q]
       simpa[List.append_assoc]using this) W h2
    exact R _ _ ι (by rw[c2];exact l) (.osl _ W (j6 _) Z fun _=>⟨Nat.zero_lt_one,G_,.inl ⟨b,m,0,c1,H_,fun _=>by simp⟩⟩) e_ o_
   have holds:∀j v,(L.toList.take ob.rows.length)[j]?=some v->w.cell? ((⟨b,0,none⟩:Addr).add j)=some v:=by
    intro j v hv;rw[Addr.add_lit,r7,cell_of_row w b _ L ob.ty (0,0) e2];rw[List.getElem?_take]at hv
    split at hv
    ·simpa using hv
    cases hv
   have l:=run_append_grow_string (P:=P) w T f_ o.type ob.ty i (.int .u8 0) hT hS hi hzi ⟨b,0,none⟩ ob.rows.length m _ (by rw[A];simpa using t) holds s X X (growslice_fits X (by rw[hby];omega));have hge:=grownCap_ge w (ob.rows.length+s.size) m ob.ty;have y_:=grownCap_le_maxLen w (ob.rows.length+s.size) m ob.ty hml;have hz1:(Value.int IntKind.u8 0).cells.size=1:=rfl;obtain ⟨e_,o_⟩:=Rel.place (H':=H.set id ⟨ob.g+1,1,ob.ty,ob.rows++fK s.data.toList⟩) (id:=id) (cap:=grownCap w (ob.rows.length+s.size) m ob.ty) (ob':=⟨ob.g+1,1,ob.ty,ob.rows++fK s.data.toList⟩)
    (cs':=(L.toList.take ob.rows.length).toArray++(strCells s).toArray++Builtin.zeroCells (Value.int .u8 0).cells (grownCap w (ob.rows.length+s.size) m ob.ty - (ob.rows.length+s.size)))
    (w':=w.drew.alloc (.cells ((L.toList.take ob.rows.length).toArray++(strCells s).toArray++Builtin.zeroCells (Value.int .u8 0).cells (grownCap w (ob.rows.length+s.size) m ob.ty - (ob.rows.length+s.size))) ob.ty)) hr Z Z Z Z
    (fun o' c_=>by rw[u_]at c_;cases c_;simp) Nat.zero_lt_one (by
     simp only[Array.size_append,List.size_toArray,size_zeroCells,hz1,B,q8,Array.length_toList];omega) (by simp only[j9,f];exact hge) y_ hrl (fun i' r d_ k a' F=>by
      obtain ⟨u,q1,q2,q3⟩:=tN.app (l3:=(Builtin.zeroCells (Value.int .u8 0).cells (grownCap w (ob.rows.length+s.size) m ob.ty - (ob.rows.length+s.size))).toList) A_ t (B9 (H:=H) s) i' r d_ k a' F;refine⟨u,?_,q2,q3⟩;rw[<-Array.getElem?_toList]
      simpa[List.append_assoc]using q1) W h2
   exact R _ _ _ (by rw[c2];exact l) (.osl _ W (j6 _) Z fun _=>⟨Nat.zero_lt_one,by simp[f],.inl ⟨w.heap.size,_,0,by simp;rfl,H_,fun _=>by simp⟩⟩) e_ o_
  rw[c1]at z_;cases z_
 have D:ob.rows=[]:=List.eq_nil_of_length_eq_zero c4;by_cases h0:s.size=0
 ·have hb0:fK s.data.toList=[]:=List.eq_nil_of_length_eq_zero (by rw[f];exact h0);have l:(Builtin.append_ #[T,f_] o.type #[.slice none 0 0,.string s]).run P w=.ok (.slice none 0 0) w:=by
   have hf:=run_firstCells_string (P:=P) w 1 s;rw[h0]at hf;simp[Builtin.append_,run_underlying hT,run_underlying hS,sizeOf,typeInfo,hi,A,Builtin.lenOf,h0,hf]
  obtain ⟨e_,o_⟩:=Rel.tick (H':=H.set id ⟨ob.g+1,1,ob.ty,ob.rows++fK s.data.toList⟩) (ob':=⟨ob.g+1,1,ob.ty,ob.rows++fK s.data.toList⟩) hr u_ H_ q.symm Z (by simp[hb0]) W h2;exact R _ _ ι (by rw[c2];exact l) (.osl _ W (j6 _) Z fun _=>⟨Nat.zero_lt_one,by simp[f],.inr ⟨c1,Z,Z,by simp[D,h0]⟩⟩) e_ o_
 have hr0:=run_append_nil_string (P:=P) w T f_ o.type ob.ty i (.int .u8 0) hT hS hi hzi s X X (by rw[hby];omega);have B:(strCells s).length=s.size:=strCells_length s;have z_:(s.data.map fun b=>Value.int .u8 b.toNat)=(strCells s).toArray:=by
  apply Array.ext';simp[strCells]
 rw[z_]at hr0;have hml0:s.size<=maxLen:=X
 have hge:=grownCap_ge w s.size 0 ob.ty;have y_:=grownCap_le_maxLen w s.size 0 ob.ty hml0;have hz1:(Value.int IntKind.u8 0).cells.size=1:=rfl;obtain ⟨e_,o_⟩:=Rel.place (H':=H.set id ⟨ob.g+1,1,ob.ty,ob.rows++fK s.data.toList⟩) (id:=id) (cap:=grownCap w s.size 0 ob.ty) (ob':=⟨ob.g+1,1,ob.ty,ob.rows++fK s.data.toList⟩)
  (cs':=(strCells s).toArray++Builtin.zeroCells (Value.int .u8 0).cells (grownCap w s.size 0 ob.ty - s.size))
  (w':=w.drew.alloc (.cells ((strCells s).toArray++Builtin.zeroCells (Value.int .u8 0).cells (grownCap w s.size 0 ob.ty - s.size)) ob.ty)) hr Z Z Z Z
  (fun o' c_=>by rw[u_]at c_;cases c_;simp) Nat.zero_lt_one (by
   simp only[Array.size_append,List.size_toArray,size_zeroCells,hz1,B];omega) (by simp only[j9,f,D,List.length_nil,r7];exact hge) y_ hrl (fun i' r d_ k a' F=>by
    simp only[D,List.nil_append]at d_;obtain ⟨u,q1,q2,q3⟩:=B9 (w:=w) (I:=I) (ι:=ι) (H:=H) s i' r d_ k a' F;have hlt:=(m_.1 q1).1;refine⟨u,?_,q2,q3⟩;rw[Array.getElem?_append_left (by simpa using hlt)]
    simpa using q1) W h2
 exact R _ _ _ (by rw[c2];exact hr0) (.osl _ W (j6 _) Z fun _=>⟨Nat.zero_lt_one,by simp[f],.inl ⟨w.heap.size,_,0,by simp;rfl,by simp[D],fun _=>by simp⟩⟩) e_ o_
theorem wD{e}{id g n k}{ob}{s}{rows'}(p:o.op=.call {callee:=.builtin .append,args:=#[x,y],argTypes:=#[T,f_]})(l:fF P T e 1)(hS:P.underlying f_=some .string)(d:EI P e 1 1)(h:∀i,P.info? e=some i->i.zero=some (.int .u8 0))
  (t:aO E x=some (.osl id g 0 n)) (m:H.get id=some ob) (v:ob.g=g) (b:ob.sz=1) (f:ob.ty=e) (q:ob.rows.length=n)
  (r:aO E y=some (.pv (.str s))) (c:n+s.size<=140737488355328) (u:n+s.size=k) (a:ob.rows++fK s.data.toList=rows') :
  cL P N o E H (.osl id (g+1) 0 k) ((id,⟨g+1,1,e,rows'⟩)::H):=by
 subst u a;exact cL.congr (RU p l.1 hS d.1 h t m v b f q r c Z) (fun j=>xM _ _ _ j)
end
end
section
theorem Clo.up{H H'}(d:∀i,(H.get i).isSome=true->(H'.get i).isSome=true){a}(h:Clo H a):Clo H' a:=by
 induction h with
 |any=>exact .any
 |pv p=>exact .pv p
 |pad rows i k=>exact .pad _ i k
 |ref h=>exact .ref (d _ h)
 |osl h=>exact .osl (d _ h)
 |clo h c=>exact .clo c
 |bnd h c=>exact .bnd c
 |agg h c=>exact .agg c
 |tup h c=>exact .tup c
 |mp h=>exact .mp (d _ h)
 |it h=>exact .it (d _ h)
 |yld h=>exact .yld (d _ h)
 |raw x ts=>exact .raw x _
 |osc h=>exact .osc (d _ h)
theorem Clo.app{D K}{a}(h:Clo K a):Clo (D++K) a:=h.up fun i hi=>by
 rw[gC]
 grind
theorem dD.app{D K}(c:∀p∈D,∀r∈p.2.rows,∀a∈r,Clo (D++K) a)(g:dD K):dD (D++K):=by
 intro id o b;rw[gC]at b;cases e:D.get _ with
 |some x =>
  rw[e]at b;cases b;exact c _ (dX e)
 |none =>
  rw[e]at b;exact fun r d a f=>(g _ o b r d a f).app
theorem Sub.front{D b K}(f:∀p∈D,K.get p.1=none)(c:∀p∈b,D.get p.1=some p.2):Sub (b++K) (D++K):=by
 intro id o a;rw[gC]at a |-;cases e:b.get _ with
 |some x =>
  rw[e]at a;cases a;rw[c _ (dX e)]
 | none =>
  rw[e]at a;cases d:D.get _ with
  |none=>exact a
  |some x =>
   have:=f _ (dX d);rw[this]at a;cases a
theorem OI.front{G0 D a K}(g:∀p∈a,D.get p.1=some p.2)(f:∀p∈D,G0.get p.1=none):OI G0 (a++K) (D++K):=by
 intro id d;have c:D.get id=none:=by
  cases e:D.get _ with
  |none=>rfl
  |some x =>
   have:=f _ (dX e);rw[this]at d;cases d
 have b:a.get id=none:=by
  cases e:a.get _ with
  |none=>rfl
  |some x =>
   have:=g _ (dX e);rw[c]at this;cases this
 rw[gC,gC,c,b]
theorem cJ.front{G0}{E E'}{K}(D d)(z:Ca E (d++K) E')(j:∀p∈D,K.get p.1=none)(g:∀p∈d,D.get p.1=some p.2)(k:∀p∈d,∀r∈p.2.rows,∀a∈r,Clo (d++K) a)(y:dD K)
  (h:∀p∈D,G0.get p.1=none):cJ G0 E (D++K) E' (d++K):=by
 intro G n N a w f;obtain ⟨I,q,l,e,m⟩:=f.rel;subst n;have b:=Sub.front j g;refine⟨f.defers,f.size,I,q,l.restrict b (dD.app k y),e.restrict b (OI.front g h),fun t v x=>?_⟩;obtain ⟨s,i⟩:=z.spec _ (iJ x);obtain ⟨c,o,u⟩:=m t v s;exact⟨c,o,u.restrict b i⟩
section
variable{F:Fence}{P:Program}{b:Frame}{a:Act}{k:List Item}{cs:List Frame}{Q:Exit->Act->World->Prop}
theorem rM{c}:step P (lone (b.atR a (.code (.scope c)::k)) cs w)=.next (lone (b.atR a (.code c::.inScope c::k)) cs w) :=step_lone_go (Z)
theorem TT{c}:step P (lone (b.atR a (.inScope c::k)) cs w)=.next (lone (b.atR a k) cs w) :=step_lone_go (Z)
theorem GF{c}(h:c.wpIn F n P (Exit.noGoto Q) a w):(Code.scope c).wpIn F n P Q a w:=by
 intro b k cs r q o;have j:(lone (b.atR a (.code (.scope c)::k)) _ w).fenced P F:=fenced_calm q o Z;obtain ⟨e,f,g,i,d⟩:=h b _ _ r q o;cases e with
 |normal=>exact⟨.normal,f,g,i,.head j rM (StepsIn.trans d (.one (fenced_calm q o Z) TT))⟩
 | exit id =>
  have hx:exitTo _ (.inScope c::k)=exitTo id k:=rfl;exact⟨_,f,g,i,fun k' u=>.head j rM (d.1 _ F_),
   fun p u=>let ⟨m,s,t⟩:=d.2 p F_;⟨m,s,.head j rM t⟩⟩
 |goto l=>exact i.elim
 |ret=>exact⟨_,f,g,i,.of_steps (.one j rM) d⟩
 |panic ch=>exact⟨_,f,g,i,.of_steps (.one j rM) d⟩
 |outgrown=>exact⟨_,f,g,i,.of_steps (.one j rM) d⟩
end
def Vq(Q:Exit->cY->aF->Prop):Exit->cY->aF->Prop
 |.goto _,_,_=>False
 |e,E,H=>Q e E H
theorem Ak{P}{G0}{N}{E}{H}{Q}{c}(h:fZ P G0 N c (Vq Q) E H):fZ P G0 N (.scope c) Q E H:=by intro G d a w i ro g;refine GF (wpIn_mono (h G d a w i _ g) ?_);rintro e a' w' ⟨f,b,q,s⟩;cases e<;>first|exact⟨f,b,q,s⟩|exact q.elim
theorem yJ{P}{G0}{N}{E}{H H2}{ops}{id n t}{d}{A_}{Q}(h:fZ P G0 N (.region id ops d) (fun e c H1=>e=.normal/\gw n t A_ E H2 c H1) E H)(g:Q .normal ((t,.pv (.bool A_))::E) H2):fZ P G0 N (.region id ops d) Q E H:=by intro G f a w k ro j;refine wpIn_mono (h G f a w k _ j) ?_;rintro e a' w' ⟨c,H1,⟨rfl,i⟩,b⟩;exact⟨_,_,g,(i.ent) G f N _ _ b⟩
def DJ(H:aF):aF->Prop
 | []=>True
 |(_,o)::r=>(∀r∈o.rows,∀a∈r,Clo H a)/\DJ H r
theorem DJ.spec{H}:∀ {L},DJ H L->∀p∈L,∀r∈p.2.rows,∀a∈r,Clo H a
 |(i,o)::L,h,p,b=>by
  rcases l7.1 b with rfl|b
  ·exact h.1
  exact DJ.spec h.2 p b
theorem dD.ofL{H}(h:DJ H H):dD H:=fun _ _ a=>h.spec _ (dX a)
def lo(D:aF)(n:Nat):Prop:=∀p∈D,900<=p.1/\p.1<n
def clear(K:aF):Prop:=∀i,900<=i->i<1000->K.get i=none
theorem Fin.of_ent{G0 H H'}{r r'}(h:cJ G0 [(0,r)] H [(0,r')] H'):Fin G0 H r H' r':=by
 intro G b I i w v f a h3;obtain ⟨_,_,I',ι',k1,k2,d⟩:=h G b 1 ⟨#[v],G.ds⟩ w ⟨tR.nil _ _ _,Z,I,i,f,a,fun t x g=>by
  simp[cY.get]at g;cases e:Nat.beq 0 t with
  |true=>simp_all
  |false=>simp_all⟩
 obtain ⟨c,hc,hv⟩:=d 0 _ Z
 grind
theorem Sub.front'{D b K}(f:∀p∈D,(b.get p.1).isSome=true\/K.get p.1=none)(c:∀p∈b,D.get p.1=some p.2):Sub (b++K) (D++K):=by
 intro id o a;rw[gC]at a |-;cases e:b.get _ with
 |some x =>
  rw[e]at a;cases a;rw[c _ (dX e)]
 | none =>
  rw[e]at a;cases d:D.get _ with
  |none=>exact a
  |some x =>
   rcases f _ (dX d)with h|h;all_goals simp_all
theorem OI.front'{G0 D a K}(c:∀p∈a,D.get p.1=some p.2)(b:∀p∈D,(a.get p.1).isSome=true\/G0.get p.1=none):OI G0 (a++K) (D++K):=by
 intro id hi;rw[gC,gC];cases e:a.get _ with
 |some x=>rw[c _ (dX e)]
 | none =>
  cases d:D.get _ with
  |none=>rfl
  |some x =>
   rcases b _ (dX d)with h|h;all_goals simp_all
theorem Fin.front'{G0 K}{r}(D d)(k:Clo (d++K) r)(i:∀p∈D,(d.get p.1).isSome=true\/K.get p.1=none)(e:∀p∈d,D.get p.1=some p.2)(j:∀p∈d,∀r∈p.2.rows,∀a∈r,Clo (d++K) a)(o:dD K)
  (f:∀p∈D,(d.get p.1).isSome=true\/G0.get p.1=none):Fin G0 (D++K) r (d++K) r:=by
 intro G g I l w v m n h;subst g;have b:=Sub.front' i e;exact⟨I,l,m.restrict b (dD.app j o),n.restrict b (OI.front' e f),h.restrict b k⟩
theorem Fin.get'{G0 H H'}{r}(a:∀j,H'.get j=H.get j):Fin G0 H r H' r:=Fin.of_ent (cJ.get' ⟨⟨_,Z,Z⟩,T_⟩ a)
end
section
section
variable{P:Program}
def KQ(ob:Ob):Ob:=⟨ob.g+1,ob.sz,ob.ty,[]⟩
def vJ(ι:lP)(id:Nat):lP:=fun x=>if x=id then none else ι x
theorem Step.dead{w}{I}{ι}{H}{id}{ob}(g:H.get id=some ob):Step I ι H w (qU I ι id) (vJ ι id) ((id,KQ ob)::H) w where
 os:=rfl
 tape:=rfl
 output:=rfl
 size:=j6 _
 froz:=fun _ _ _=>rfl
 imm:=fun _ h=>.inl h
 immNew:=fun b c=>by
  rcases c with c|⟨a,c⟩
  ·simp_all
  exact .inr (.inl ⟨id,ob,a,g,c⟩)
 own:=fun b c=>by
  obtain ⟨j,o,a,d,f⟩:=c;by_cases e:j=id
  ·rw[vJ,b6 e]at f;cases f
  rw[vJ,a8 e]at f;rw[get_cons_other _ _ e]at d;exact .inl ⟨j,o,a,d,f⟩
 keep:=fun _ _ _=>rfl
 objs:=fun j o d=>by
  by_cases e:j=id
  ·subst e;rw[g]at d;cases d;exact⟨KQ _,get_cons_same _ _ _,Nat.le_succ _,fun h=>absurd h (by simp[KQ])⟩
  exact⟨o,by rw[get_cons_other _ _ e];exact d,j6 _,fun _=>⟨a8 e,Z,fun _=>j6 _⟩⟩
theorem Rel.dead{I}(g:Rel I ι H w)(s:H.get id=some ob)(q:0<ob.sz):Rel (qU I ι id) (vJ ι id) ((id,KQ ob)::H) w:=by
 have p:=Step.dead (w:=w) (I:=I) (ι:=ι) s;refine⟨fun b d=>?_,fun j o f=>?_,fun j u o z b c y f m n i=>?_,g.glob.mono (fun _ _=>rfl) (fun _ h=>.inl h)⟩
 ·rcases d with d|⟨k,d⟩
  ·exact g.imm b d
  exact g.lt ⟨id,ob,k,s,d⟩
 ·by_cases e:j=id
  ·subst e;rw[get_cons_same]at f;cases f;exact .inl ⟨q,by simp[KQ],.inr ⟨b6 Z,Z⟩⟩
  rw[get_cons_other _ _ e]at f;refine(g.obj j o f).keep (a8 e) (fun b k B _=>⟨Z,fun h=>?_⟩) (fun r _ a _ v A=>A.mono g p);rintro(d|⟨l,d⟩)
  ·grind
  exact e (g.inj j id o ob b k l f s B d)
 have x:j≠id:=fun e=>by rw[vJ,b6 e]at n;cases n
 have t:u≠id:=fun e=>by rw[vJ]at i;grind
 rw[vJ,a8 x]at n;rw[vJ,a8 t]at i;rw[get_cons_other _ _ x]at f;rw[get_cons_other _ _ t]at m;exact g.inj j u o z b c y f m n i
theorem aS.retire{f:FuncId}{args args':List AV}{Q}(ps:List (List PV))(h:aS P f args' ((id,KQ ob)::H) Q)(l:H.get id=some ob)(hsz:Nat.blt 0 ob.sz=true)(m:ob.rows=ps.map (·.map .pv))
  (hl:args.length=args'.length) (x:∀(i:Nat) (a a':AV),args[i]?=some a->args'[i]?=some a'->a=a'\/∃off len,a=.osl id ob.g off len/\a'=.pv (.sl ((ps.take (off+len)).drop off))):aS P f args H Q:=by
 intro I o w z k hlen u;have g:=Step.dead (w:=w) (I:=I) (ι:=o) l;refine(h _ _ w z (k.dead l F_) X ?_).mono ?_
 ·intro i v a' y c;have d:i<args.length:=by
   have:=(m_.1 c).1;omega
  have b:=u i v _ y (m8 d);rcases x i _ a' (m8 d) c with e|⟨off,len,B,d_⟩
  ·rw[e]at b;exact b.mono k g
  rw[B]at b;rw[d_];exact .pv (EU k l m b)
 rintro e w' ⟨r,s,n,j,v,rfl,q,p,t,A⟩;exact⟨r,s,n,j,v,Z,q,p,t,g.trans A⟩
end
end
section
def Jk(v:Value):Prop:=∃p,v=.pointer p
theorem dt{P}{e}{s}(c:P.cellsOf e=s+1)(a)(d:1<=a):liesAt P P.depth e a 0 e 1=true:=by have b:P.depth=(2*(P.types.size+Made.depth)+1)+1:=rfl;rw[b];simp[liesAt,Bool.or_eq_true];rw[b];simp[rowAt,c,d,sameLayout]
theorem LU{I}{ι}{H}{w}{v}{id g}{ob}(k:Rel I ι H w)(h:VRel w I ι H v (.ref id g 0 0))(c:H.get id=some ob)(f:ob.g=g)(d:ob.rows≠[]):
  ∃b cap,v=.pointer (some ⟨b,0,none⟩)/\w.shape? b=some (ob.ty,cap*ob.sz)/\0<cap/\0<ob.sz:=by
 obtain ⟨b,cap,i,e2⟩:=pI h c f;have e:=QU h c f;obtain ⟨_,_,⟨b',cap',cs,a,l,f3,j,f5,_⟩|⟨a,_⟩⟩:=(k.obj _ _ c).cells e
 ·rw[i]at a;cases a;refine⟨b,cap,F_,by simp[World.shape?,l,j],?_,e⟩;have:=List.length_pos_iff.2 d;omega
 rw[i]at a;cases a
theorem VRel.sat_inv{w}{I}{ι}{H}{v}{p}(h:VRel w I ι H v (.pv (.sat p))):p v:=by
 have:=h.pv_inv;cases this with
 |sat h1 a=>exact a
section
variable{P:Program}{N:Nat}{o:Oper}{E:cY}{f_ T t t' e:TypeId}{x y:Operand}
theorem BM{P:Program}{t}{n}(h:(P.info? t).map (·.size)=some n):∃j,P.info? t=some j/\j.size=n:=F_
theorem G3(i:o.op=.convert f_ T x)(hS:P.underlying f_=some (.pointer t))(v:P.underlying T=some .unsafePointer)(hi:(P.info? t).map (·.size)=some (n+1))(k:aO E x=some (.ref id g 0 0))(s:H.get id=some ob)(h:ob.g=g)(d:ob.rows≠[]):cL P N o E H (.ref id g 0 0) H :=.of_run fun a w I ι l z=>by
  have f:=aI z k;obtain ⟨b,cap,q,m,p,r⟩:=LU l f s h d;obtain ⟨j,u,h2⟩:=BM hi;have c:=Nat.mul_pos p r;refine⟨_,?_,f⟩;simp only[execOp,i,q];rw[Sem.run_bind,Lib.run_to_unsafe w _ hS v u X m c];rfl
theorem OA(r:o.op=.convert f_ T x)(hS:P.underlying f_=some .unsafePointer)(z:P.underlying T=some (.pointer t))(hi:(P.info? t).map (·.size)=some (n+1))(s:aO E x=some (.ref id g 0 0))(q:H.get id=some ob)(B:ob.g=g)(c:ob.rows≠[])(d:ob.ty=t)(f:ob.sz=n+1):cL P N o E H (.ref id g 0 0) H :=.of_run fun a w I ι u A=>by
  have k:=aI A s;obtain ⟨b,cap,v,i,p,e4⟩:=LU u k q B c;obtain ⟨j,l,m⟩:=BM hi;have h:P.cellsOf t=n+1:=by simp[Program.cellsOf,l,m]
  refine⟨_,?_,k⟩;simp only[execOp,r,v];rw[d]at i;rw[Sem.run_bind,Lib.run_from_unsafe w ⟨b,0,none⟩ hS z l i (dt h _ (by rw[h,f,Nat.mul_div_cancel _ X];exact p))];rfl
theorem J1{i k}(r:o.op=.binOp .neq t x y t')(s:P.underlying t=some (.pointer e))(hi:(P.info? e).map (·.size)=some (n+1))(m:aO E x=some (.ref id g i k))(v:aO E y=some (.ref id g i k))(f:H.get id=some ob)(c:ob.g=g):cL P N o E H (.pv (.bool false)) H :=.of_run fun a w I ι _ h=>⟨.bool _,by
  obtain ⟨b,cap,p,l⟩:=pI (aI h m) f c;obtain ⟨b',cap',d,q⟩:=pI (aI h v) f c;rw[p]at d;cases d;obtain ⟨j,u,h2⟩:=BM hi;simp[execOp,r,l,q,eqGuard_at_pointer,Sem.run_bind,Sem.run_pure,Result.andThen_ok,Lib.run_neq_ptr_same w _ s u],.pv (.bool _)⟩
theorem fi(v):Vo P Extern.AbiNoEscape.same H [v] v:=by
 intro w I ι b a h;obtain ⟨l⟩:=b
 match l,a with
 | [u],_=>exact⟨u,Z,h 0 u v Z Z⟩
theorem G5(l:o.op=.call {callee:=.builtin .unsafeSliceData,args:=#[x],argTypes:=#[T]})(q:aO E x=some (.osl id g 0 n))(f:H.get id=some ob)(h:ob.g=g)(hn:0<n):cL P N o E H (.ref id g 0 0) H :=.of_run fun a w I ι r s=>by
  have k:=aI s q;have j:=pZ k f h;obtain ⟨hl,⟨b,c,oo,i,m,e3⟩|⟨_,_,_,e4⟩⟩:=jJ k f h
  ·obtain ⟨_,_,⟨b',cap',cs,d,f2,f3,f4,f5,_⟩|⟨d,_⟩⟩:=(r.obj _ _ f).cells j
   ·rw[i]at d;cases d;refine⟨.pointer (some ⟨b,0,none⟩),?_,.ref _ f (Nat.le_of_eq h.symm) Z fun _=>⟨j,b,c,i,H_⟩⟩;have p:c≠0:=X
    simp[execOp,l,resolve,invoke,builtin,m,Lib.run_unsafeSliceData_row w _ _ _ _ _ p]
   rw[i]at d;cases d
  omega
theorem EB(G:o.op=.call {callee:=.builtin .unsafeSliceData,args:=#[x],argTypes:=#[T]})(c_:P.underlying o.type=some (.pointer e))(L:aO E x=some (.osl id g 0 0))(r:H.get id=some ob)(D:ob.g=g):cL P N o E H (.pv (.sat Jk)) H:=by
 intro a w I l _ _ m u_ K Q e_;have F:=aI u_ L;have v_:=pZ F r D;have d:∀(c:Value) (f:World),(Builtin.unsafeSliceData_ #[T] o.type #[a.eval x]).run P w=.ok c f->Jk c->Rel I l H f->Step I l H w I l H f->o.wpW P a w K Q:=fun c f j q u v=>by
  have h:c.oneCell'=true:=by obtain ⟨p,rfl⟩:=q;rfl
  unfold Oper.wpW;have:(execOp a.eval o).run P w=.ok (.value c) f:=by
   simp[execOp,G,resolve,invoke,builtin,j]
  rw[this];exact e_ c f I l _ H ⟨Z,Z⟩ (.pv (.sat h q)) u v
 obtain ⟨hl,⟨b,B,s,d_,k,e3⟩|⟨_,k,_,e4⟩⟩:=jJ F r D
 ·by_cases q:B=0
  ·obtain ⟨_,_,⟨b',cap',R,i,o_,f3,f4,f5,_⟩|⟨i,_⟩⟩:=(m.obj id ob r).cells v_
   ·rw[d_]at i;cases i;obtain ⟨u,v⟩:=m.push _;refine d (.pointer (some ⟨w.heap.size,0,none⟩)) _ ?_ ⟨_,Z⟩ u v;rw[k,q];exact Lib.run_unsafeSliceData_zero w #[T] o.type e c_ ⟨b,s,none⟩ 0 (ob.ty,R.size) (by simp[World.shape?,o_])
   rw[d_]at i;cases i
  refine d (.pointer (some ⟨b,s,none⟩)) _ ?_ ⟨_,Z⟩ m (Step.refl _ _ _ _);rw[k];exact Lib.run_unsafeSliceData_row w #[T] o.type ⟨b,s,none⟩ 0 _ X
 refine d (.pointer none) _ ?_ ⟨_,Z⟩ m (Step.refl _ _ _ _);rw[k];rfl
theorem zD{c}(d:o.op=.call {callee:=.builtin .unsafeString,args:=#[x,y],argTypes:=#[T,c]})(h:aO E x=some (.pv (.sat Jk)))(f:aO E y=some (.pv (.int .i64 0))):cL P N o E H (.pv (.str ⟨#[]⟩)) H :=.of_run fun a w I ι hr b=>by
  have j:=(aI b f).int_inv;have i:=(aI b h).sat_inv;obtain ⟨p,k⟩:=i;refine⟨_,?_,.pv (.str _)⟩;simp[execOp,d,resolve,invoke,builtin,k,j,Lib.run_unsafeString_none w T _ _ p];rfl
theorem Rel.lost{w':World}(q:Rel I ι H w)(D:H.get id=some ob)(u_:0<ob.sz)(u:ι id=some (b,cap))(d_:w'.os=w.os)(m:w'.tape=w.tape)(s:w'.output=w.output)(l:w'.heap.size=w.heap.size)
  (F:∀c,c≠b->w'.heap[c]?=w.heap[c]?):Rel I (vJ ι id) ((id,KQ ob)::H) w'/\Step I ι H w I (vJ ι id) ((id,KQ ob)::H) w':=by
 have B:NF ι H b:=⟨id,ob,cap,D,u⟩;have p:Step I ι H w I (vJ ι id) ((id,KQ ob)::H) w':=by
  refine⟨d_,m,s,X,fun a _ c_=>?_,fun _ h=>h,fun _ h=>.inl h,fun c z=>?_,fun c _ c_=>F c (fun e=>c_ (e▸B)),fun j o f=>?_⟩
  ·unfold World.frozen?
   grind
  ·obtain ⟨j,o,o_,f,i⟩:=z;by_cases e:j=id
   ·rw[vJ,b6 e]at i;cases i
   rw[vJ,a8 e]at i;rw[get_cons_other _ _ e]at f;exact .inl ⟨j,o,o_,f,i⟩
  by_cases e:j=id
  ·subst e;rw[D]at f;cases f;exact⟨KQ ob,get_cons_same _ _ _,Nat.le_succ _,fun h=>absurd h (by simp[KQ])⟩
  exact⟨o,by rw[get_cons_other _ _ e];exact f,j6 _,fun _=>⟨a8 e,Z,fun _=>j6 _⟩⟩
 refine⟨⟨fun c z=>by rw[l];exact q.imm c z,fun j o f=>?_,fun j L o v_ c d Q f A i k=>?_,p.glob q⟩,p⟩
 ·by_cases e:j=id
  ·subst e;rw[get_cons_same]at f;cases f;exact .inl ⟨u_,by simp[KQ],.inr ⟨b6 Z,Z⟩⟩
  rw[get_cons_other _ _ e]at f;exact(q.obj j o f).keep (a8 e) (fun c d R _=>⟨F c (fun z=>e (q.inj j id o ob b d cap f D (by rw[<-z];exact R) u)),fun h=>h⟩) (fun r _ a _ v e_=>e_.mono q p)
 have K:j≠id:=fun e=>by rw[vJ,b6 e]at i;cases i
 have G:L≠id:=fun e=>by rw[vJ,b6 e]at k;cases k
 rw[vJ,a8 K]at i;rw[vJ,a8 G]at k;rw[get_cons_other _ _ K]at f;rw[get_cons_other _ _ G]at A;exact q.inj j L o v_ c d Q f A i k
theorem BE{z:TypeId}{l:List UInt8}(v_:o.op=.call {callee:=.builtin .unsafeString,args:=#[x,y],argTypes:=#[T,z]})(y_:P.underlying T=some (.pointer e))(hi:(P.info? e).map (·.size)=some 1)(W:aO E x=some (.ref id g 0 0))(hy:aO E y=some (.pv (.int .i64 n)))
  (q:H.get id=some ob) (hg:ob.g=g) (h:ob.sz=1) (r:ob.ty=e) (d:ob.rows=fK l) (A_:l.length=n) (hn:0<n) (p:n<=9223372036854775807) (u_:(⟨l.toArray⟩:B_)=s):cL P N o E H (.pv (.str s)) ((id,KQ ob)::H):=by
 subst u_ A_;intro a w I G _ _ B F K Q hk;have o_:=aI F W;obtain ⟨b,cap,m,d_⟩:=pI o_ q hg;have c_:=(aI F hy).int_inv;obtain ⟨j,h3,R⟩:=BM hi;have z_:P.cellsOf e=1:=by simp[Program.cellsOf,h3,R]
 have hlen:ob.rows.length=l.length:=by rw[d];simp[fK]
 obtain ⟨_,_,⟨b',cap',A,k,D,f3,L,f5,_,f6⟩|⟨k,_⟩⟩:=(B.obj id ob q).cells X
 ·rw[m]at k;cases k;rw[h,Nat.mul_one]at L;have f:∀j x,l[j]?=some x->w.cell? ((⟨b,0,none⟩:Addr).add j)=some (.int .u8 x.toNat):=fun j x hj=>by
   obtain ⟨v,u,_,q3⟩:=f6 j [.pv (.int .u8 x.toNat)] (by rw[d,fK,r6,hj];rfl) 0 _ Z;rw[h,Nat.mul_one,Nat.add_zero,q3.int_inv]at u;rw[Addr.add_lit,r7,cell_of_row w b _ A ob.ty (0,0) D];exact u
  have i:=Lib.run_unsafeString_row (P:=P) w T z o.type e y_ z_ b A.size (by rw[<-r];simp[World.shape?,D]) l (fun h0=>by simp_all) X p f;have e_:∀c,c≠b->(w.freeze ⟨b,0,none⟩ l.length).heap[c]?=w.heap[c]?:=fun c hcb=>by
   unfold World.freeze
   grind
  obtain ⟨k1,k2⟩:=B.lost (w':=w.freeze ⟨b,0,none⟩ l.length) q X m (by unfold World.freeze;all_goals grind) (by unfold World.freeze;all_goals grind) (by unfold World.freeze;all_goals grind) (by unfold World.freeze;split<;>simp) e_;unfold Oper.wpW;have:(execOp a.eval o).run P w=.ok (.value (.string ⟨l.toArray⟩)) (w.freeze ⟨b,0,none⟩ l.length):=by
   rw[h]at d_;simp[execOp,v_,resolve,invoke,builtin,d_,c_,i]
  rw[this];exact hk _ _ I (vJ G id) _ _ ⟨Z,Z⟩ (.pv (.str _)) k1 k2
 rw[m]at k;cases k
end
end
section
theorem rR{w}{I}{ι}{H}{v}{id g off len c}{ob}(h:VRel w I ι H v (.osc id g off len c))(hH:H.get id=some ob)(hg:ob.g=g):
  0<ob.sz/\len<=c/\((∃b a,ι id=some (b,off+c)/\v=.slice (some ⟨b,a,none⟩) len c/\(0<c\/off=0->a=off*ob.sz))\/(ι id=none/\v=.slice none 0 0/\off=0/\len=0/\c=0)):=by
 cases h with
 |osc o' h1 h2 _ h3 =>
  simp_all
theorem tc{w}{I}{ι}{H}{v}{id g off len}{ob}(n:Rel I ι H w)(h:VRel w I ι H v (.osl id g off len))(a:H.get id=some ob)(l:ob.g=g):
  ∃c,len<=c/\c<=maxLen/\VRel w I ι H v (.osc id g off len c):=by
 have j:=pZ h a l;obtain ⟨h1,⟨b,i,o,e,f,k⟩|⟨e,f,k,m⟩⟩:=jJ h a l
 ·obtain ⟨_,_,⟨b',cap',cs,d,e2,e3,e4,e5,e6,e7⟩|⟨d,_⟩⟩:=(n.obj id ob a).cells j
  ·rw[e]at d;cases d;refine⟨i - off,X,X,?_⟩;subst f;refine .osc _ a X Z fun _=>⟨j,X,.inl ⟨b,o,?_,Z,fun hh=>k X⟩⟩
   grind
  rw[e]at d;cases d
 subst f k m;exact⟨0,j6 _,l6 _,.osc ob a X Z fun _=>⟨j,j6 _,.inr ⟨e,Z,Z,Z,Z⟩⟩⟩
theorem Ry{w}{I}{ι}{H}{v}{id g off len c}{ob}(h:VRel w I ι H v (.osc id g off len c))(d:H.get id=some ob)(l:ob.g=g)(i:off+len<=ob.rows.length):
  VRel w I ι H v (.osl id g off len):=by
 obtain ⟨j,h1,⟨b,m,f,a,e⟩|⟨f,a,e,k,h6⟩⟩:=rR h d l
 ·subst a;refine .osl _ d X Z fun _=>⟨j,i,.inl ⟨b,off+c,m,f,?_,fun hh=>e X⟩⟩
  simp_all
 subst a e k;exact .osl _ d X Z fun _=>⟨j,i,.inr ⟨f,Z,Z,Z⟩⟩
section
variable{P:Program}{G0:aF}{N:Nat}{Q:Exit->cY->aF->Prop}{E:cY}{code:Code}
theorem XB{t id g off n c}{ob}(l:E.get t=some (.osc id g off n c))(o:H.get id=some ob)(r:ob.g=g)(q:off+n<=ob.rows.length)(h:fZ P G0 N code Q ((t,.osl id g off n)::E) H):fZ P G0 N code Q E H:=by
 intro G k a w i;obtain ⟨I,s,m,d,j⟩:=i.rel;obtain ⟨v,p,f⟩:=j t _ l;refine h G k a w ⟨i.defers,i.size,I,s,m,d,fun u x b=>?_⟩;by_cases e:t=u
 ·subst e;rw[cY.get_cons_same]at b;cases b;exact⟨v,p,Ry f o r q⟩
 rw[cY.get_cons_other _ _ e]at b;exact j u x b
end
section
variable{P:Program}{N:Nat}{o:Oper}{E:cY}{T:TypeId}{x y:Operand}
theorem EH{e}{id g off len c}{ob}(f:o.op=.call {callee:=.builtin .cap,args:=#[x],argTypes:=#[T]})(h:P.underlying T=some (.slice e))(k:aO E x=some (.osc id g off len c))(i:H.get id=some ob)(j:ob.g=g):cL P N o E H (.pv (.int .i64 c)) H :=.of_run fun a w I ι _ m=>⟨.int _ c,by
  obtain ⟨_,_,⟨b,oo,_,d,_⟩|⟨_,d,_,_,l⟩⟩:=rR (aI m k) i j
  ·simp[execOp,f,resolve,invoke,builtin,d,Builtin.cap_,run_underlying h,goInt]
  simp[execOp,f,resolve,invoke,builtin,d,l,Builtin.cap_,run_underlying h,goInt],.pv (.int _ _)⟩
theorem EG{e}{id g off len c}{ob}(f:o.op=.call {callee:=.builtin .len,args:=#[x],argTypes:=#[T]})(h:P.underlying T=some (.slice e))(k:aO E x=some (.osc id g off len c))(i:H.get id=some ob)(j:ob.g=g):cL P N o E H (.pv (.int .i64 len)) H :=.of_run fun a w I ι _ m=>⟨.int _ len,by
  obtain ⟨_,_,⟨b,oo,_,d,_⟩|⟨_,d,_,l,_⟩⟩:=rR (aI m k) i j
  ·simp[execOp,f,resolve,invoke,builtin,d,Builtin.len_,run_underlying h,goInt]
  simp[execOp,f,resolve,invoke,builtin,d,l,Builtin.len_,run_underlying h,goInt],.pv (.int _ _)⟩
theorem Z9{lo hi:Option Operand}{j i K:Nat}(G:o.op=.slice T x lo hi none)(hS:fF P T e sz)(A_:aO E x=some (.osc id g off len c))
  (q:H.get id=some ob) (u_:ob.g=g) (s:ob.sz=sz) (p:bnd E lo 0=some (l:Int)) (m:bnd E hi len=some (h:Int)) (c_:l<=h) (v_:h<=c) (u:off+l=j) (A:h - l=i) (B:c - l=K):cL P N o E H (.osc id g j i K) H :=
 .of_run fun a w I ι hr z=>by
  have W:=aI z A_;obtain ⟨L,hle,k⟩:=rR W q u_;have y_:=hS.1;have d_:=hS.2.1;have n:P.elem T=e:=by simp[Program.elem,y_]
  have f:P.underlying T=some (.slice (P.elem T)):=F_
  subst u A B s;rcases k with⟨b,r,D,v,F⟩|⟨D,v,F,R,Q⟩
  ·have t:=nN (P:=P) (b:=true) (len:=len) (cap:=c) z p m c_ v_;have d:=run_slice_any (P:=P) w T (some ⟨b,r,none⟩) len c f (lo.map a.eval) (hi.map a.eval) none;refine⟨.slice (some ⟨b,if c=l then r else r+l*ob.sz,none⟩) (h - l) (c - l),?_,.osc ob q X Z fun _=>⟨L,X,.inl ⟨b,_,?_,Z,fun hlt=>?_⟩⟩⟩
   ·simp only[execOp,G,v];simp only[run_sliceAt_slice w T _ _ _ _ f,Sem.run_bind,d,Option.map_none,t,n,d_,sliced,Result.andThen_ok,Sem.run_pure];by_cases o_:c=l
    ·grind
    simp[o_,Addr.add_lit]
   all_goals grind
  subst F R Q;have e_:h=0:=X
  have f_:l=0:=X
  subst e_ f_;have t:=nN (P:=P) (b:=true) (len:=0) (cap:=0) z p m c_ H_;have d:=run_slice_any (P:=P) w T none 0 0 f (lo.map a.eval) (hi.map a.eval) none;refine⟨.slice none 0 0,?_,.osc ob q X Z fun _=>⟨L,X,.inr ⟨D,Z,Z,Z,Z⟩⟩⟩;simp only[execOp,G,v];simp[run_sliceAt_slice w T _ _ _ _ f,d,t,n,d_,sliced]
def aAs(w:World)(I:Nat->Prop)(ι:lP)(H:aF)(sz:Nat)(v:Value)(len:Nat)(rows:List (List AV)):Prop :=(∃a c news,v=.slice (some a) len c/\rows.length<=len/\news.length=rows.length*sz/\(∀j u,news[j]?=some u->w.cell? (a.add j)=some u)/\(∀u∈news,u.oneCell'=true)/\tN w I ι H sz news rows) \/
 (v=.slice none 0 0/\len=0/\rows=[])
theorem tN.take{I}{l:List Value}{rows}(h:tN w I ι H sz l rows)(hl:∀r∈rows,r.length=sz)(k:Nat):tN w I ι H sz (l.take (k*sz)) (rows.take k):=by
 intro i r b j a d;rw[List.getElem?_take]at b
 split at b
 ·obtain ⟨u,e,c,f⟩:=h i r b j a d;have hjs:j<sz:=G_
  refine⟨u,?_,c,f⟩;rw[List.getElem?_take,b6]
  ·exact e
  have:(i+1)*sz<=k*sz:=Nat.mul_le_mul_right _ X;rw[Nat.add_mul]at this;omega
 grind
theorem tN.drop{w}{I}{ι}{H}{sz}{l}{rows}(h:tN w I ι H sz l rows)(k):tN w I ι H sz (l.drop (k*sz)) (rows.drop k):=by
 intro i r b j a c;rw[List.getElem?_drop]at b;obtain ⟨u,q1,q2,q3⟩:=h _ r b j a c
 grind
theorem Ed{w}{I}{ι}{H}{sz id g off len c}{ob}{v}(u:Rel I ι H w)(h:VRel w I ι H v (.osc id g off len c))(i:H.get id=some ob)(q:ob.g=g)(f:ob.sz=sz)(k)(hk:k<=len)(e:off+k<=ob.rows.length):
  aAs w I ι H sz v len ((ob.rows.drop off).take k):=by
 obtain ⟨B,h1,⟨b,p,s,m,l⟩|⟨s,m,l,z,h6⟩⟩:=rR h i q
 ·have A:VRel w I _ H (.slice (some ⟨b,p,none⟩) k c) (.osl _ g _ k) :=
   .osl _ i X Z fun _=>⟨B,e,.inl ⟨b,off+c,p,s,H_,fun hh=>l X⟩⟩
  rcases qx u A i q f with⟨a,c',d,n,r,t,d_,D⟩|⟨n,r⟩
  ·injection n with j q2 q3;injection j with j;subst j;exact .inl ⟨_,c,d,m,X,r,t,d_,D⟩
  cases n
 subst l z;have:k=0:=X
 subst this;exact .inr ⟨m,Z,Z⟩
theorem Rel.write{g2:Nat}{cs:Array Value}{d:List Value}{c:List (List AV)}(t:Rel I ι H w)(Q:H.get id=some ob)(p:ι id=some (b,cap))(D:w.heap[b]?=some (.cells cs ob.ty (0,0)))
  (u_:d.length=c.length*ob.sz) (v_:tN w I ι H ob.sz d c) (L:∀r∈c,r.length=ob.sz) (z_:off<=ob.rows.length) (y_:off+c.length<=cap) (F:ob.g<=g2)
  (A_:H'.get id=some ⟨g2,ob.sz,ob.ty,ob.rows.take off++(c++ob.rows.drop (off+c.length))⟩) (h2:∀j,j≠id->H'.get j=H.get j) :
  Rel I ι H' (w.setRow b (cs.toList.take (off*ob.sz)++d++cs.toList.drop (off*ob.sz+d.length)).toArray)/\Step I ι H w I ι H' (w.setRow b (cs.toList.take (off*ob.sz)++d++cs.toList.drop (off*ob.sz+d.length)).toArray):=by
 obtain ⟨p1,q,⟨b',cap',cs',G,R,e3,f_,e5,e5',W⟩|⟨G,_⟩⟩:=(t.obj id ob Q).cells ((t.obj id ob Q).pos p D)
 ·rw[p]at G;cases G;rw[D]at R;cases R;have l:tN w I ι H ob.sz cs.toList ob.rows:=fun i r s k a K=>by
   obtain ⟨v,A,d_,e_⟩:=W i r s k a K;exact⟨v,by simpa using A,d_,e_⟩
  have B:off<=cap:=X
  have o_:(cs.toList.take (off*ob.sz)).length=(ob.rows.take off).length*ob.sz:=by
   have:off*ob.sz<=cap*ob.sz:=Nat.mul_le_mul_right _ B;rw[q8,q8,Array.length_toList,f_,Nat.min_eq_left this,Nat.min_eq_left z_]
  have c_:off*ob.sz+d.length=(off+c.length)*ob.sz:=by rw[u_,Nat.add_mul]
  have f:tN w I ι H ob.sz (d++(cs.toList.drop (off*ob.sz+d.length)++[])) (c++ob.rows.drop (off+c.length)):=by
   refine tN.app v_ u_ ?_;rw[c_];exact l.drop _
  rw[List.append_nil]at f;have m:=tN.app (l3:=[]) (l.take q off) o_ f;rw[List.append_nil]at m;have n:(cs.toList.take (off*ob.sz)++d++cs.toList.drop (off*ob.sz+d.length)).toArray.size=cap*ob.sz:=by
   have:(off+c.length)*ob.sz<=cap*ob.sz:=Nat.mul_le_mul_right _ y_;simp only[List.size_toArray,j9,q8,q6,Array.length_toList,f_];omega
  refine Rel.update (ob':=⟨g2,ob.sz,ob.ty,ob.rows.take off++(c++ob.rows.drop (off+c.length))⟩) t Q p D F Z Z (fun _=>?_) n ?_ (fun r z=>?_) (fun i r s k a K=>?_) A_ h2
  ·simp only[j9,q8,q6];omega
  ·simp only[j9,q8,q6];omega
  ·rcases List.mem_append.1 z with h|h
   ·exact q r (List.mem_of_mem_take h)
   rcases List.mem_append.1 h with h|h
   ·exact L r h
   exact q r (List.mem_of_mem_drop h)
  obtain ⟨u,A,d_,e_⟩:=m i r s k a K;refine⟨u,?_,d_,e_⟩;rw[List.getElem?_toArray,List.append_assoc];exact A
 simp_all
theorem UQ{off n}{rows:List (List AV)}(h:n=0):rows.take off++([]++rows.drop (off+n))=rows:=F_
theorem Ib{D f_:TypeId}{f:Nat}{h:List (List AV)}(ho:o.op=.call {callee:=.builtin .copy,args:=#[x,y],argTypes:=#[D,f_]})(hS:fF P D e sz)
  (hd:∀(a:Act) (w:World) (I:Nat->Prop) (ι:lP),Rel I ι H w->lH w I ι H E a->∃c,VRel w I ι H (a.eval x) (.osc id g off len c)) (hH:H.get id=some ob) (hg:ob.g=g) (hsz:ob.sz=sz) (A_:off<=ob.rows.length)
  (p:∀(a:Act) (w:World) (I:Nat->Prop) (ι:lP),Rel I ι H w->lH w I ι H E a->aAs w I ι H sz (a.eval y) f h) (hrl2:∀r∈h,r.length=sz) (hn:h.length=n) (z_:min f len=n)
  (o_:∀j,H2.get j=(H.set id ⟨g,sz,ob.ty,ob.rows.take off++(h++ob.rows.drop (off+n))⟩).get j):cL P N o E H (.pv (.int .i64 n)) H2:=by
 intro a w I ι _ _ G W K Q hk;obtain ⟨c,hv⟩:=hd a w I ι G W;obtain ⟨hz,h1,L⟩:=rR hv hH hg;have k:Nat.min f len=n:=z_;have v_:=hS.2.1;have u_:=hS.1;subst hg hsz;have A:n=0->(∀j,H2.get j=H.get j):=fun h0 j=>by
  rw[o_ j];have hr0:h=[]:=List.eq_nil_of_length_eq_zero X;subst hr0;rw[UQ h0];by_cases e:j=id
  ·subst e;rw[aF.get_set_same,hH]
  exact aF.get_set_other _ _ e
 have l:∀d:List Value,∀v d_,a.eval y=.slice (some v) f d_->d.length=n*ob.sz->(∀j u,d[j]?=some u->w.cell? (v.add j)=some u)->(Builtin.firstCells ob.sz n (a.eval y)).run P w=.ok d.toArray w:=fun d v d_ c_ e2 e3=>by
  rw[c_];exact run_firstCells_some (P:=P) w ob.sz n v f d_ d e2 e3
 rcases L with⟨b,oo,c1,c2,c3⟩|⟨c1,c2,c3,c4,c5⟩
 ·by_cases m:n=0
  ·obtain ⟨y_,k3⟩:=G.congr (A m);have z:(execOp a.eval o).run P w=.ok (.value (.int .i64 ((0:Nat):Int))) w:=by
    unfold execOp;have F:(Builtin.firstCells ob.sz n (a.eval y)).run P w=.ok #[] w:=by
     rcases p a w I ι G W with⟨v,d_,d,i,B,t,e_,s5,s6⟩|⟨i,B,t⟩
     ·have:=l d v d_ i G_ e_;have R:d=[]:=List.eq_nil_of_length_eq_zero F_;rw[this,R]
     rw[i];exact run_firstCells_none (P:=P) (w:=w) ob.sz n 0 0
    have q:(Builtin.lenOf (a.eval y)).run P w=.ok f w:=by
     rcases p a w I ι G W with⟨v,d_,d,i,B,t,e_,s5,s6⟩|⟨i,B,t⟩
     ·rw[i];rfl
     rw[i,B];rfl
    simp only[ho,resolve,invoke,builtin,Sem.run_bind,Sem.run_pure,Result.andThen_ok,List.map_toArray,List.map_cons,List.map_nil,c2,Builtin.copy_,run_underlying u_,v_];simp only[List.getElem?_toArray,List.getElem?_cons_zero,List.getElem?_cons_succ,run_underlying u_,Sem.run_bind,Sem.run_pure,Result.andThen_ok,v_,q,k,F];simp[storeCells,goInt,m]
   unfold Oper.wpW;rw[z];subst m;exact hk _ _ I ι _ _ ⟨Z,Z⟩ (.pv (.int _ _)) y_ k3
  obtain ⟨p1,p2,⟨b',cap',cs,c_,e2,e3,e4,e5,e5',e6⟩|⟨c_,_⟩⟩:=(G.obj id ob hH).cells hz
  ·rw[c1]at c_;cases c_;have hoo:=c3 X;subst hoo;rcases p a w I ι G W with⟨v,d_,d,i,B,t,e_,s5,s6⟩|⟨i,B,t⟩
   ·have hnl:d.length=n*ob.sz:=by rw[t,hn]
    have F:=l d v d_ i hnl e_;have hfit:off*ob.sz+0+d.length<=cs.size:=by
     rw[e4,hnl,Nat.add_zero,<-Nat.add_mul];exact Nat.mul_le_mul_right _ X
    have hst:=run_storeCells_at P b (off*ob.sz) ob.ty d 0 cs w e2 hfit s5;simp only[Nat.add_zero]at hst;obtain ⟨y_,k3⟩:=Rel.write (H':=H2) (off:=off) (g2:=ob.g) G hH c1 e2 t s6 hrl2 A_ X (j6 _) (by rw[o_,aF.get_set_same,hn]) (fun j hj=>by rw[o_,aF.get_set_other _ _ hj]);unfold Oper.wpW execOp;simp only[ho,resolve,invoke,builtin,Sem.run_bind,Sem.run_pure,Result.andThen_ok,List.map_toArray,List.map_cons,List.map_nil,c2,Builtin.copy_,run_underlying u_,v_];have q:(Builtin.lenOf (a.eval y)).run P w=.ok f w:=by rw[i];rfl
    simp only[List.getElem?_toArray,List.getElem?_cons_zero,List.getElem?_cons_succ,run_underlying u_,Sem.run_bind,Sem.run_pure,Result.andThen_ok,v_,q,k,F,hst];exact hk _ _ I ι _ _ ⟨Z,Z⟩ (.pv (.int _ _)) y_ k3
   omega
  rw[c1]at c_;cases c_
 have m:n=0:=X
 obtain ⟨y_,k3⟩:=G.congr (A m);have z:(execOp a.eval o).run P w=.ok (.value (.int .i64 ((0:Nat):Int))) w:=by
  unfold execOp;have F:(Builtin.firstCells ob.sz n (a.eval y)).run P w=.ok #[] w:=by
   rcases p a w I ι G W with⟨v,d_,d,i,B,t,e_,s5,s6⟩|⟨i,B,t⟩
   ·have:=l d v d_ i (by rw[t,hn]) e_;have R:d=[]:=List.eq_nil_of_length_eq_zero (by rw[t,hn,m];simp);rw[this,R]
   rw[i];exact run_firstCells_none (P:=P) (w:=w) ob.sz n 0 0
  have q:(Builtin.lenOf (a.eval y)).run P w=.ok f w:=by
   rcases p a w I ι G W with⟨v,d_,d,i,B,t,e_,s5,s6⟩|⟨i,B,t⟩
   ·rw[i];rfl
   rw[i,B];rfl
  rw[c4]at k;simp only[ho,resolve,invoke,builtin,Sem.run_bind,Sem.run_pure,Result.andThen_ok,List.map_toArray,List.map_cons,List.map_nil,c2,Builtin.copy_,run_underlying u_,v_];simp only[List.getElem?_toArray,List.getElem?_cons_zero,List.getElem?_cons_succ,run_underlying u_,Sem.run_bind,Sem.run_pure,Result.andThen_ok,v_,q,k,F];simp[storeCells,goInt,m]
 unfold Oper.wpW;rw[z];subst m;exact hk _ _ I ι _ _ ⟨Z,Z⟩ (.pv (.int _ _)) y_ k3
end
end
section
section
variable{P:Program}{N:Nat}{o:Oper}{E:cY}{T:TypeId}{x y:Operand}
theorem tO(t u ty e:TypeId)(i:TypeInfo)(z:Value)(k d_:IntKind)(A:P.underlying t=some (.slice e))(p:P.underlying u=some (.int d_))(hi:P.info? e=some i)(B:i.zero=some z)
  (b:Option Addr) (c d:Nat) (f:List Value) (hf:∀w:World,(∀a:Addr,w.cell? a=w.cell? a)->True) (s:(Builtin.firstCells i.size c (.slice b c d)).run P w.drew=.ok f.toArray w.drew)
  (n:Nat) (h0:0<n) (hs:0<i.size) (hg:d<c+n) (h63:((c+n:Nat):Int)<=9223372036854775807) (hfit:Builtin.nextslicecap (c+n) d*i.bytes<=281474976710656) (h48:n*i.bytes<=281474976710656) :
  (Builtin.append_ #[t,u] ty #[.slice b c d,.int k n]).run P w =
   .ok (.slice (some ⟨w.heap.size,0,none⟩) (c+n) (grownCap w (c+n) d e))
    (w.drew.alloc (.cells (f.toArray++Builtin.zeroCells z.cells n++Builtin.zeroCells z.cells (grownCap w (c+n) d e - (c+n))) e)):=by
 have D:¬ (c+n<=d):=X
 have v:IntKind.i64.wrap (n:Int)=n:=by rw[IntKind.wrap_i64];omega
 have l:¬ (9223372036854775807<((c:Int)+(n:Int))):=X
 have m:¬ (281474976710656<Builtin.nextslicecap (c+n) d*i.bytes):=X
 have j:¬ (281474976710656<(n:Int)*(i.bytes:Int)):=by
  omega
 have g:¬ ((n:Int)<0):=X
 have h:n≠0:=X
 have q:¬ (n*i.size=0):=Nat.mul_ne_zero h X;simp[Builtin.append_,run_underlying A,run_underlying p,sizeOf,typeInfo,zeroValue,hi,B,asInt,asIntOf,v,D,h,g,q,l,m,j,Question.forced,s,newRow,grownCap]
theorem vw{z:Value}{b:List AV}(g:BZ w I ι H z.cells b)(p:b.length=sz)(d:z.cells.size=sz)(v:0<sz)(n:Nat):
  (Builtin.zeroCells z.cells n).toList.length=n*sz/\(∀u∈(Builtin.zeroCells z.cells n).toList,u.oneCell'=true)/\tN w I ι H sz (Builtin.zeroCells z.cells n).toList (List.replicate n b):=by
 have c:∀j,j<n*sz->∃f:j % sz<z.cells.size,(Builtin.zeroCells z.cells n).toList[j]?=some (z.cells[j % sz]):=by
  intro j s;have f:j % sz<z.cells.size:=by rw[d];exact Nat.mod_lt _ v
  refine⟨f,?_⟩;rw[Array.getElem?_toList];simp only[Builtin.zeroCells,Array.getElem?_map]
  grind
 have q:(Builtin.zeroCells z.cells n).toList.length=n*sz:=by rw[Array.length_toList,size_zeroCells,d]
 refine⟨q,?_,?_⟩
 ·intro u G;obtain ⟨j,s⟩:=r_.1 G;have D:j<n*sz:=by
   have:=(m_.1 s).1;rw[q]at this;exact this
  obtain ⟨f,e⟩:=c j D;rw[e]at s;cases s;have B:j % sz<b.length:=X
  obtain ⟨u,h,A,_⟩:=g.2 _ _ (m8 B);rw[Array.getElem?_eq_getElem f]at h;cases h;exact A
 intro i r t k av f;rw[List.getElem?_replicate]at t
 split at t
 ·cases t;rename_i d_;have m:k<sz:=by rw[<-p];exact(m_.1 f).1
  have l:i*sz+k<n*sz:=by
   have:(i+1)*sz<=n*sz:=Nat.mul_le_mul_right _ d_;rw[Nat.add_mul]at this;omega
  obtain ⟨hk2,e⟩:=c _ l;obtain ⟨u,h,A,F⟩:=g.2 k av f;refine⟨u,?_,A,F⟩;rw[e];rw[Array.getElem?_eq_getElem (by rw[d];exact m)]at h;cases h;congr 2;exact GA m
 cases t
theorem PT{u_:TypeId}{m bytes id2:Nat}{kk kn:IntKind}{q:Int}(ho:o.op=.call {callee:=.builtin .append,args:=#[x,y],argTypes:=#[T,u_]})(hS:fF P T e sz)(z_:P.underlying u_=some (.int kn))(A:EI P e sz bytes)(hZ:eO P e f)(e_:f.length=sz)
  (hx:aO E x=some (.osc id g 0 n c)) (hH:H.get id=some ob) (hg:ob.g=g) (v_:ob.sz=sz) (o_:n<=ob.rows.length)
  (hy:aO E y=some (.pv (.int kk q))) (hq:q=(m:Int)) (hm0:0<m) (hroom:c<n+m) (hk:n+m=k) (p:(n+m)*bytes<=140737488355328) (hid:H.get id2=none)
  (c_:ob.rows.take n++List.replicate m f=rows'):cL P N o E H (.osl id2 0 0 k) ((id2,⟨0,sz,e,rows'⟩)::H):=by
 intro a w I ι _ _ hr he K Q hkk;have hmax:=az A.2 p;obtain ⟨⟨i,z,hi,hz,l,W,hzs,hsz0⟩,_⟩:=A;obtain ⟨t,zv,z1,z2,z3⟩:=hZ;have ezz:t=z:=by
  have:=z1 w;simp[zeroValue,typeInfo,hi,hz]at this;exact this.symm
 subst ezz hg v_ hk c_ hq;have hml:n+m<=maxLen:=by simp only[maxLen];omega
 have hv:=aI he hx;have hvy:=(aI he hy).int_inv;obtain ⟨s,h1,G⟩:=rR hv hH Z;have hT:=hS.1;have p2:=((hr.obj id ob hH).cells s).2.1;have hcr:=BZ.of_cells (ZV.rel (w:=w) (I:=I) (ι:=ι) (H:=H) z2) z3;obtain ⟨zl,_,zr⟩:=vw hcr e_ hzs s m;have hrl:∀r∈ob.rows.take n++List.replicate m f,r.length=ob.sz:=fun r hr'=>by
  grind
 have g1:aF.get ((id2,(⟨0,ob.sz,e,ob.rows.take n++List.replicate m f⟩:Ob))::H) id2=some ⟨0,ob.sz,e,ob.rows.take n++List.replicate m f⟩:=get_cons_same _ _ _;have g2:∀j,j≠id2->aF.get ((id2,(⟨0,ob.sz,e,ob.rows.take n++List.replicate m f⟩:Ob))::H) j=H.get j:=fun j hj=>get_cons_other _ _ hj;have R:(ob.rows.take n++List.replicate m f).length=n+m:=F_
 have hge:=grownCap_ge w (n+m) c e;have hcm:=grownCap_le_maxLen w (n+m) c e hml;have v:∀(d:List Value),d.length=n*ob.sz->tN w I ι H ob.sz d (ob.rows.take n) ->
   (Builtin.append_ #[T,u_] o.type #[a.eval x,a.eval y]).run P w=.ok (.slice (some ⟨w.heap.size,0,none⟩) (n+m) (grownCap w (n+m) c e)) (w.drew.alloc (.cells (d.toArray++Builtin.zeroCells t.cells m++Builtin.zeroCells t.cells (grownCap w (n+m) c e - (n+m))) e))->o.wpW P a w K Q:=by
  intro d L q2 h;obtain ⟨k2,k3⟩:=Rel.place (H':=(id2,⟨0,ob.sz,e,ob.rows.take n++List.replicate m f⟩)::H) (id:=id2) (cap:=grownCap w (n+m) c e) (ob':=⟨0,ob.sz,e,ob.rows.take n++List.replicate m f⟩)
   (cs':=d.toArray++Builtin.zeroCells t.cells m++Builtin.zeroCells t.cells (grownCap w (n+m) c e - (n+m)))
   (w':=w.drew.alloc (.cells (d.toArray++Builtin.zeroCells t.cells m++Builtin.zeroCells t.cells (grownCap w (n+m) c e - (n+m))) e)) hr Z Z Z Z
   (fun o' ho'=>by simp_all) s (by
    simp only[Array.size_append,List.size_toArray,size_zeroCells,hzs,L,<-Nat.add_mul]
    simp_all) F_ hcm hrl (fun i' r F k' a' hk'=>by
     obtain ⟨u,f_,t2,t3⟩:=tN.app (l3:=(Builtin.zeroCells t.cells (grownCap w (n+m) c e - (n+m))).toList) q2 (by rw[L,q8,Nat.min_eq_left o_]) zr i' r F k' a' hk';refine⟨u,?_,t2,t3⟩;rw[<-Array.getElem?_toList]
     simpa[List.append_assoc]using f_) g1 g2
  unfold Oper.wpW execOp;simp only[ho,resolve,invoke,builtin,Sem.run_bind,Sem.run_pure,Result.andThen_ok,List.map_toArray,List.map_cons,List.map_nil,h];exact hkk _ _ I _ _ _ ⟨Z,Z⟩ (.osl _ g1 (j6 _) Z fun _=>⟨s,by rw[R];omega,.inl ⟨w.heap.size,_,0,by simp;rfl,H_,fun _=>by simp⟩⟩) k2 k3
 have B:Builtin.nextslicecap (n+m) c*i.bytes<=281474976710656:=growslice_fits X (by rw[W];exact p);have d_:m*i.bytes<=281474976710656:=by
  have:m*i.bytes<=(n+m)*i.bytes:=Nat.mul_le_mul_right _ X;rw[W]at this |-;omega
 rcases G with⟨b,oo,c1,c2,c3⟩|⟨c1,c2,c3,c4,c5⟩
 ·have hoo:oo=0:=by rw[c3 (.inr Z)];simp
  subst hoo;have y_:=Ed hr (show VRel w I ι H (.slice (some ⟨b,0,none⟩) n c) (.osc id ob.g 0 n c)by rw[<-c2];exact hv) hH Z Z n (j6 _) X;rw[List.drop_zero]at y_;rcases y_ with⟨ad0,c0,d,f_,t2,t3,t4,t5,t6⟩|⟨f_,_⟩
  ·injection f_ with L q2 q3;injection L with L;subst L;have A_:d.length=n*ob.sz:=by rw[t3,q8,Nat.min_eq_left o_]
   have D:=run_firstCells_some (P:=P) w.drew i.size n ⟨b,0,none⟩ n c d (by rw[l];exact A_) (by simpa using t4);have h:=tO (P:=P) (w:=w) T u_ o.type e i t kk kn hT z_ hi hz (some ⟨b,0,none⟩) n c d (fun _ _=>trivial) D m hm0 (by rw[l];exact s) X X B d_;exact v d A_ t6 (by rw[c2,hvy];exact h)
  cases f_
 subst c4 c5;have D:=run_firstCells_none (P:=P) (w:=w.drew) i.size 0 0 0;have h:=tO (P:=P) (w:=w) T u_ o.type e i t kk kn hT z_ hi hz none 0 0 [] (fun _ _=>trivial) D m hm0 (by rw[l];exact s) X X B d_;exact v [] H_ (by intro i r F;simp at F) (by rw[c2,hvy];exact h)
theorem yk(ho:o.op=.call {callee:=.builtin .clear,args:=#[x],argTypes:=#[T]})(hS:fF P T e sz)(hZ:eO P e f)(h:f.length=sz)
  (hx:aO E x=some (.osc id g off len c)) (v_:H.get id=some ob) (hg:ob.g=g) (G:ob.sz=sz) (R:off<=ob.rows.length) (s:ob.rows.take off++(List.replicate len f++ob.rows.drop (off+len))=rows') :
  cL P N o E H .any ((id,⟨g,sz,ob.ty,rows'⟩)::H):=by
 intro a w I W _ _ hr he K Q L;obtain ⟨z,zv,z1,z2,z3⟩:=hZ;subst hg G s;have hv:=aI he hx;obtain ⟨v,h1,t⟩:=rR hv v_ Z;have hT:=hS.1;have B:=BZ.of_cells (ZV.rel (w:=w) (I:=I) (ι:=W) (H:=H) z2) z3;have p:z.cells.size=ob.sz:=by rw[<-h];exact B.1
 have m:len=0->(execOp a.eval o).run P w=.ok (.value (.tuple #[])) w->o.wpW P a w K Q:=by
  intro u_ c_;obtain ⟨k2,k3⟩:=hr.congr (H':=(id,⟨ob.g,ob.sz,ob.ty,ob.rows.take off++(List.replicate len f++ob.rows.drop (off+len))⟩)::H) (fun j=>by
   subst u_;rw[List.replicate_zero,UQ rfl];by_cases e:j=id
   ·subst e;rw[get_cons_same,v_]
   exact get_cons_other _ _ e)
  unfold Oper.wpW;rw[c_];exact L _ _ I W _ _ ⟨Z,Z⟩ (.any _) k2 k3
 rcases t with⟨b,oo,z_,A_,c3⟩|⟨z_,A_,c3,c4,c5⟩
 ·by_cases u_:len=0
  ·refine m u_ ?_;unfold execOp;simp only[ho,resolve,invoke,builtin,Sem.run_bind,Sem.run_pure,Result.andThen_ok,List.map_toArray,List.map_cons,List.map_nil,A_,u_,Builtin.clear_];simp[run_underlying hT]
  obtain ⟨p1,p2,⟨b',cap',cs,e_,e2,e3,e4,e5,e5',e6⟩|⟨e_,_⟩⟩:=(hr.obj id ob v_).cells v
  ·rw [z_] at e_;cases e_;have hoo:=c3 X;subst hoo;have q:(Builtin.zeroCells z.cells len).toList.length=(List.replicate len f).length*ob.sz:=by
    rw[Array.length_toList,size_zeroCells,p,List.length_replicate]
   have n:∀j,j<len*ob.sz->∃A:j % ob.sz<z.cells.size,(Builtin.zeroCells z.cells len).toList[j]?=some (z.cells[j % ob.sz]):=by
    intro j d_;have A:j % ob.sz<z.cells.size:=by rw[p];exact Nat.mod_lt _ v
    refine⟨A,?_⟩;rw[Array.getElem?_toList];simp only[Builtin.zeroCells,Array.getElem?_map]
    grind
   have F:∀u∈(Builtin.zeroCells z.cells len).toList,u.oneCell'=true:=by
    intro u hu;obtain ⟨j,d_⟩:=r_.1 hu;have hjl:j<len*ob.sz:=by
     have:=(m_.1 d_).1;rw[q,List.length_replicate]at this;exact this
    obtain ⟨A,e⟩:=n j hjl;rw[e]at d_;cases d_;have hkr:j % ob.sz<f.length:=by rw[h];exact Nat.mod_lt _ v
    obtain ⟨u,f_,q2,_⟩:=B.2 _ _ (m8 hkr);rw[Array.getElem?_eq_getElem A]at f_;cases f_;exact q2
   have hlr:tN w I W H ob.sz (Builtin.zeroCells z.cells len).toList (List.replicate len f):=by
    intro i r y_ k av A;rw[List.getElem?_replicate]at y_
    split at y_
    ·cases y_;rename_i hlt;have o_:k<ob.sz:=by rw[<-h];exact(m_.1 A).1
     have l:i*ob.sz+k<len*ob.sz:=by
      have:(i+1)*ob.sz<=len*ob.sz:=Nat.mul_le_mul_right _ hlt;rw[Nat.add_mul]at this;omega
     obtain ⟨hk2,e⟩:=n _ l;obtain ⟨u,f_,q2,q3⟩:=B.2 k av A;refine⟨u,?_,q2,q3⟩;rw[e];rw[Array.getElem?_eq_getElem (by rw[p];exact o_)]at f_;cases f_;congr 2;exact GA o_
    cases y_
   have l:off*ob.sz+0+(Builtin.zeroCells z.cells len).toList.length<=cs.size:=by
    rw[e4,q,List.length_replicate,Nat.add_zero,<-Nat.add_mul];exact Nat.mul_le_mul_right _ X
   have D:=run_storeCells_at P b (off*ob.sz) ob.ty (Builtin.zeroCells z.cells len).toList 0 cs w e2 l F;simp only[Nat.add_zero]at D;obtain ⟨k2,k3⟩:=Rel.write (H':=(id,⟨ob.g,ob.sz,ob.ty,ob.rows.take off++(List.replicate len f++ob.rows.drop (off+len))⟩)::H) (off:=off) (g2:=ob.g) hr v_ z_ e2 q hlr (fun r hr'=>by rw[(List.mem_replicate.1 hr').2];exact h) R (by rw[List.length_replicate];omega) (j6 _) (by rw[get_cons_same,List.length_replicate]) (fun j d_=>get_cons_other _ _ d_);unfold Oper.wpW execOp;simp only[ho,resolve,invoke,builtin,Sem.run_bind,Sem.run_pure,Result.andThen_ok,List.map_toArray,List.map_cons,List.map_nil,A_,Builtin.clear_];obtain ⟨n',hn'⟩:∃n',len=n'+1:=⟨len - 1,X⟩;subst hn';simp only[List.getElem?_toArray,List.getElem?_cons_zero,run_underlying hT,Sem.run_bind,Sem.run_pure,Result.andThen_ok,z1,D];exact L _ _ I W _ _ ⟨Z,Z⟩ (.any _) k2 k3
  rw[z_]at e_;cases e_
 refine m c4 ?_;unfold execOp;simp only[ho,resolve,invoke,builtin,Sem.run_bind,Sem.run_pure,Result.andThen_ok,List.map_toArray,List.map_cons,List.map_nil,A_,Builtin.clear_];simp[run_underlying hT]
end
end
section
section
variable{P:Program}{N:Nat}{o:Oper}{E:cY}{T t t':TypeId}{x y:Operand}
theorem ke{e}(w)(h:P.underlying t=some (.slice e))(a)(n c b c'):(binOp .eql t (.slice a n c) (.slice none b c')).run P w=.ok (.bool a.isNone) w:=by simp[binOp];cases a<;>simp[Op.equal,Op.maxDepth,Lib.run_equalIn_slice_nil w _ t e _ n c _ _ h]
theorem lr(i:o.op=.binOp .eql t x (.const (.slice none 0 0)) t')(p:P.underlying t=some (.slice e))(j:aO E x=some (.pv (.sl rows))):ja P N o E H (fun r H'=>H'=H/\∃b,r=.pv (.bool b)/\(b=true->rows=[])):=by
 intro a w I m _ _ k h K Q s;have f:=(aI h j).pv_inv;have l:a.eval (.const (.slice none 0 0))=.slice none 0 0:=rfl;obtain ⟨b,n,c,q,g⟩:∃(b:Option Addr) (n c:Nat),a.eval x=.slice b n c/\(b.isNone=true->rows=[]):=by
  generalize a.eval x=v at f;cases f with
  |nilsl=>simp_all
  |empsl a=>simp_all
  |sl b off cap sz _ cs g h2 h3 h4 h5 h6=>simp_all
 unfold Oper.wpW;have d:(execOp a.eval o).run P w=.ok (.value (.bool b.isNone)) w:=by
  simp only[execOp,i,q,l,eqGuard_at_slice,Sem.run_bind,Sem.run_pure,Result.andThen_ok,ke _ p]
 rw[d];exact s _ _ I m _ _ ⟨Z,_,Z,g⟩ (.pv (.bool _)) k (Step.refl _ _ _ _)
def Xa(E:cY)(H:aF)(sz:Nat)(y:Operand)(len:Nat)(rows:List (List AV)):Prop :=∀(a:Act) (w:World) (I:Nat->Prop) (ι:lP),Rel I ι H w->lH w I ι H E a->aAs w I ι H sz (a.eval y) len rows
def Xb(E:cY)(H:aF)(x:Operand)(id g off len:Nat):Prop :=∀(a:Act) (w:World) (I:Nat->Prop) (ι:lP),Rel I ι H w->lH w I ι H E a->∃c,VRel w I ι H (a.eval x) (.osc id g off len c)
theorem ny{id g off len}{ob}(d:aO E x=some (.osl id g off len))(i:H.get id=some ob)(b:ob.g=g):Xb E H x id g off len:=fun a w I ι e f =>
 let ⟨c,_,_,h⟩:=tc e (aI f d) i b
 ⟨c,h⟩
theorem Xm{D f_ e}{ob}{a rows'}(q:o.op=.call {callee:=.builtin .copy,args:=#[x,y],argTypes:=#[D,f_]})(hS:fF P D e sz)
  (hd:Xb E H x id g off len) (m:H.get id=some ob) (p:ob.g=g) (k:ob.sz=sz) (d:off<=ob.rows.length)
  (f:Xa E H sz y b a) (i:∀r∈a,r.length=sz) (l:a.length=n) (h:min b len=n)
  (c:ob.rows.take off++(a++ob.rows.drop (off+n))=rows'):cL P N o E H (.pv (.int .i64 n)) ((id,⟨g,sz,ob.ty,rows'⟩)::H):=by
 subst c;exact Ib q hS hd m p k d f i l h (fun j=>xM _ _ _ j)
end
def ev(ob:Ob)(k:Nat):Ob:=⟨k,ob.sz,ob.ty,[]⟩
theorem Step.deadK{w}{I}{ι}{H}{id k}{ob}(g:H.get id=some ob)(i:ob.g<k):Step I ι H w (qU I ι id) (vJ ι id) ((id,ev ob k)::H) w where
 os:=rfl
 tape:=rfl
 output:=rfl
 size:=j6 _
 froz:=fun _ _ _=>rfl
 imm:=fun _ h=>.inl h
 immNew:=fun b c=>by
  rcases c with c|⟨a,c⟩
  ·simp_all
  exact .inr (.inl ⟨id,ob,a,g,c⟩)
 own:=fun b c=>by
  obtain ⟨j,o,a,d,f⟩:=c;by_cases e:j=id
  ·rw[vJ,b6 e]at f;cases f
  rw[vJ,a8 e]at f;rw[get_cons_other _ _ e]at d;exact .inl ⟨j,o,a,d,f⟩
 keep:=fun _ _ _=>rfl
 objs:=fun j o d=>by
  by_cases e:j=id
  ·subst e;rw[g]at d;cases d;exact⟨ev _ k,get_cons_same _ _ _,Nat.le_of_lt i,fun h=>absurd h (by simp[ev];omega)⟩
  exact⟨o,by rw[get_cons_other _ _ e];exact d,j6 _,fun _=>⟨a8 e,Z,fun _=>j6 _⟩⟩
theorem Rel.deadK{I}(g:Rel I ι H w)(s:H.get id=some ob)(D:ob.g<k)(q:0<ob.sz):Rel (qU I ι id) (vJ ι id) ((id,ev ob k)::H) w:=by
 have t:=Step.deadK (w:=w) (I:=I) (ι:=ι) s D;refine⟨fun b d=>?_,fun j o f=>?_,fun j y o z b c B f n p i=>?_,g.glob.mono (fun _ _=>rfl) (fun _ h=>.inl h)⟩
 ·rcases d with d|⟨l,d⟩
  ·exact g.imm b d
  exact g.lt ⟨id,ob,l,s,d⟩
 ·by_cases e:j=id
  ·subst e;rw[get_cons_same]at f;cases f;exact .inl ⟨q,by simp[ev],.inr ⟨b6 Z,Z⟩⟩
  rw[get_cons_other _ _ e]at f;refine(g.obj j o f).keep (a8 e) (fun b l d_ _=>⟨Z,fun h=>?_⟩) (fun r _ a _ v A=>A.mono g t);rintro(d|⟨m,d⟩)
  ·grind
  exact e (g.inj j id o ob b l m f s d_ d)
 have x:j≠id:=fun e=>by rw[vJ,b6 e]at p;cases p
 have u:y≠id:=fun e=>by rw[vJ,b6 e]at i;grind
 rw[vJ,a8 x]at p;rw[vJ,a8 u]at i;rw[get_cons_other _ _ x]at f;rw[get_cons_other _ _ u]at n;exact g.inj j y o z b c B f n p i
theorem Fin.deadO{G0 H}{r}(b:H.get id=some ob)(c:ob.g<k)(a:0<ob.sz)(h:ob.sz=sz)(f:ob.ty=ty):Fin G0 H r ((id,⟨k,sz,ty,[]⟩)::H) r:=by intro G hG I ι w v d e g;subst h f;exact⟨_,_,d.deadK b c a,e.trans (Step.deadK b c),g.mono d (Step.deadK b c)⟩
theorem Fin.bump{G0 H}{rows}(c:H.get id=some ob)(y:ob.g=g)(u:g<k)(l:ob.sz=sz)(s:ob.ty=ty)(x:ob.rows=rows):Fin G0 H (.osl id g off n) ((id,⟨k,sz,ty,rows⟩)::H) (.osl id k off n):=by
 intro G hG I m w v t h f;subst y l s x;obtain ⟨p,o⟩:=Rel.tick (ob':=⟨k,ob.sz,ob.ty,ob.rows⟩) t c u Z Z Z (get_cons_same _ _ _) (fun j r=>get_cons_other _ _ r);refine⟨I,m,p,h.trans o,?_⟩;obtain ⟨i,d⟩:=jJ f c Z;have q:=pZ f c Z;have a:v.oneCell'=true:=by
  rcases d with⟨b,cap,oo,_,e,_⟩|⟨_,e,_⟩<;>subst e<;>rfl
 exact .osl _ (get_cons_same _ _ _) (j6 _) a fun _=>⟨q,i,d⟩
end
section
section
variable{P:Program}{G0:aF}{N:Nat}{Q:Exit->cY->aF->Prop}{E:cY}{code:Code}
theorem S9{t id sz}{ty}(r:E.get t=some (.pv .nils))(i:H.get id=none)(hsz:Nat.blt 0 sz=true)(h:fZ P G0 N code Q ((t,.osc id 0 0 0 0)::E) ((id,⟨0,sz,ty,[]⟩)::H)):fZ P G0 N code Q E H:=by
 intro G o a w d;obtain ⟨I,ι,l,j,n⟩:=d.rel;obtain ⟨v,s,f⟩:=n t _ r;have m:0<sz:=F_
 obtain ⟨p,k⟩:=Rel.adopt l i m;have g:v=.slice none 0 0:=by
  have:=f.pv_inv;cases this;rfl
 subst g;refine h G o a w ⟨d.defers,d.size,I,_,p,j.trans k,fun u x b=>?_⟩;by_cases e:t=u
 ·subst e;rw[cY.get_cons_same]at b;cases b;exact⟨_,s,.osc _ (get_cons_same _ _ _) (j6 _) Z fun _=>⟨m,j6 _,.inr ⟨H_,Z,Z,Z,Z⟩⟩⟩
 rw[cY.get_cons_other _ _ e]at b;obtain ⟨c,q,y⟩:=n u x b;exact⟨c,q,y.mono l k⟩
end
section
variable{P:Program}{N:Nat}{o:Oper}{E:cY}{T:TypeId}{x y:Operand}{Q:AV->aF->Prop}
theorem J0{F}{f y}{e}{v}(p:o.op=.call {callee:=.value f,args:=#[.const (.slice none 0 0),y],argTypes:=e})(m:aO E f=some (.pv (.fn F)))
  (l:∀(args) (w),(callFunc F args).run P w=.ok (.enter F args) w) (n:aO E y=some v) (h:aS P F [.pv .nils,v] H Q):ja P N o E H Q:=by
 intro a w I ι _ _ k j K QQ hk;have g:=(aI j m).fn_inv;unfold Oper.wpW execOp;simp[p,resolve,g,Deferred.ofValue,Sem.run_bind,Sem.run_pure,Result.andThen_ok,invoke,l,Oper.uponW_enter];refine(h I _ w _ k (Z) (fun i u b d c=>?_)).mono ?_
 ·match i with
  |0=>simp[Act.eval]at d c;subst d c;exact .pv .nils
  |1=>simp at d c;subst d c;exact aI j n
  |i+2=>simp at c
 grind
end
theorem Rel.cut(g:Rel I ι H w)(y:H.get id=some ob)(hg:ob.g<k)(N:0<ob.sz)
  (R:H'.get id=some ⟨k,ob.sz,ob.ty,ob.rows.take n⟩) (F:∀j,j≠id->H'.get j=H.get j):Rel I ι H' w/\Step I ι H w I ι H' w:=by
 have f:Step I ι H w I ι H' w:=by
  refine⟨Z,Z,Z,j6 _,fun a _ _=>rfl,fun _ h=>h,fun _ h=>.inl h,?_,fun _ _ _=>rfl,?_⟩
  ·rintro x ⟨j,o,c,d,s⟩;by_cases e:j=id
   ·subst e;exact .inl ⟨j,ob,c,y,s⟩
   exact .inl ⟨j,o,c,(F j e).symm.trans d,s⟩
  grind
 refine⟨⟨g.imm,?_,?_,f.glob g⟩,f⟩
 ·intro j o d;by_cases e:j=id
  ·subst e;rw[R]at d;cases d;obtain ⟨G,K,⟨b,E,o_,z,L,v_,y_,e5,d_,f_⟩|⟨z,L⟩⟩:=(g.obj j ob y).cells N
   ·refine .inl ⟨G,fun r l=>K r (List.mem_of_mem_take l),.inl ⟨b,E,o_,z,L,v_,y_,?_,d_,fun i r D q a t=>?_⟩⟩
    ·grind
    simp only[List.getElem?_take]at D
    split at D
    ·obtain ⟨v,e_,Q,W⟩:=f_ i r D q a t;exact⟨v,e_,Q,W.mono g f⟩
    grind
   exact .inl ⟨G,fun r l=>K r (List.mem_of_mem_take l),.inr ⟨z,F_⟩⟩
  rw[F j e]at d;exact(g.obj j o d).keep Z (fun x c _ _=>⟨Z,fun h=>h⟩) (fun r _ a _ v A_=>A_.mono g f)
 intro j c_ o u_ x c P d A s u;have m:∀j o,H'.get j=some o->∃o,H.get j=some o:=by
  intro j o d;by_cases e:j=id
  ·exact⟨ob,e▸y⟩
  exact⟨o,(F j e).symm.trans d⟩
 obtain ⟨q,t⟩:=m j o d;obtain ⟨T,B⟩:=m c_ u_ A;exact g.inj j c_ q T x c P t B s u
theorem Fin.trunc{G0 H}{rows}(c:H.get id=some ob)(t:ob.g=g)(o:g<k)(s:ob.sz=sz)(q:ob.ty=ty)(r:ob.rows.take n=rows):Fin G0 H (.osl id g 0 n) ((id,⟨k,sz,ty,rows⟩)::H) (.osl id k 0 n):=by
 intro G hG I u w v m x f;subst t s q r;have h:=pZ f c Z;obtain ⟨q1,d⟩:=jJ f c Z;obtain ⟨i,l⟩:=Rel.cut m c o h (get_cons_same _ _ _) (fun j p=>get_cons_other _ _ p);refine⟨I,u,i,x.trans l,?_⟩;have a:v.oneCell'=true:=by
  rcases d with⟨b,cap,oo,_,e,_⟩|⟨_,e,_⟩<;>subst e<;>rfl
 exact .osl _ (get_cons_same _ _ _) (j6 _) a fun _=>⟨h,F_,d⟩
theorem aS.congrH{P}{f}{args}{H H1 H2}{b}(h:aS P f args H (fun r H'=>r=b/\H'=H1))(n:∀j,H2.get j=H1.get j):aS P f args H (fun r H'=>r=b/\H'=H2):=by intro I ι w vs l k p;refine(h I _ w _ l k p).mono ?_;rintro e w' ⟨r,H',g,a,v,rfl,⟨rfl,rfl⟩,o,d,i⟩;obtain ⟨m,c⟩:=d.congr n;exact⟨r,H2,g,a,v,Z,⟨Z,Z⟩,o.mono d c,m,i.trans c⟩
theorem aS.frameS{P}{f}{args}{H0 H}{c}(h:aS P f args H0 (fun r H'=>r=c/\H'=H0))(b:Sub H0 H)(g:dD H0)(i:∀a∈args,Clo H0 a):aS P f args H (fun r H'=>r=c/\H'=H):=by
 refine(aS.frame h b g i (fun id d=>.inl d)).congrH fun j=>?_;rw[gC];cases e:H0.get j with
 |some o=>exact b j o e
 |none=>rfl
theorem Sub.of2{i j}{a b}{H}(h1:H.get i=some a)(h2:H.get j=some b):Sub [(i,a),(j,b)] H:=by
 intro id o c;simp[aF.get]at c;cases e1:Nat.beq i id with
 |true =>
  simp_all
 | false =>
  cases e2:Nat.beq j id with
  |true =>
   simp_all
  |false=>simp_all
end
section
theorem RZ{w}{I}{ι}{H}{v}(h:VRel w I ι H v (.pv .nils)):v=.slice none 0 0:=by have:=h.pv_inv;cases this;rfl
section
variable{P:Program}{N:Nat}{o:Oper}{E:cY}{f_ T t t' e:TypeId}{x y:Operand}
theorem J6(f:o.op=.call {callee:=.builtin .cap,args:=#[x],argTypes:=#[T]})(d:P.underlying T=some (.slice e))(h:aO E x=some (.pv .nils)):cL P N o E H (.pv (.int .i64 0)) H :=.of_run fun a w I ι _ b=>⟨.int _ 0,by
  have c:=RZ (aI b h);simp[execOp,f,resolve,invoke,builtin,c,Builtin.cap_,run_underlying d,goInt],.pv (.int _ _)⟩
theorem J4(f:o.op=.call {callee:=.builtin .len,args:=#[x],argTypes:=#[T]})(d:P.underlying T=some (.slice e))(h:aO E x=some (.pv .nils)):cL P N o E H (.pv (.int .i64 0)) H :=.of_run fun a w I ι _ b=>⟨.int _ 0,by
  have c:=RZ (aI b h);simp[execOp,f,resolve,invoke,builtin,c,Builtin.len_,run_underlying d,goInt],.pv (.int _ _)⟩
theorem ao{sz}(c:aO E y=some (.pv .nils)):Xa E H sz y 0 []:=fun a w I ι hr b=>.inr ⟨RZ (aI b c),Z,Z⟩
theorem aa{lo hi}{rows'}(D:o.op=.slice T x lo hi none)(hS:fF P T e sz)(e_:aO E x=some (.osl id g 0 len))
  (i:H.get id=some ob) (z:ob.g=g) (q:ob.sz=sz) (l:bnd E lo 0=some ((0:Nat):Int)) (u:bnd E hi len=some (h:Int)) (y_:h<=len) (v_:g+1=k) (d:ob.rows.take h=rows'):cL P N o E H (.osl id k 0 h) ((id,⟨k,sz,ob.ty,rows'⟩)::H):=by
 subst v_ d q;intro a w I G o_ m A_ W K Q s;refine G4 D hS.1 hS.2.1 e_ i z Z l u (l6 _) y_ Z (Nat.sub_zero h) a w I G o_ m A_ W K Q ?_;rintro c u_ L ι' r H' ⟨rfl,rfl⟩ B v p;have d_:=pZ B i z;obtain ⟨q1,A⟩:=jJ B i z;obtain ⟨F,R⟩:=Rel.cut (k:=g+1) v i X d_ (get_cons_same _ _ _) (fun j c_=>get_cons_other _ _ c_);have f:c.oneCell'=true:=by
  rcases A with⟨b,cap,oo,_,e,_⟩|⟨_,e,_⟩<;>subst e<;>rfl
 exact s c u_ L _ _ _ ⟨Z,Z⟩ (.osl _ (get_cons_same _ _ _) (j6 _) f fun _=>⟨d_,F_,A⟩) F (p.trans R)
theorem SX:∀(n t) (acc),(∀v∈acc.toList,v.oneCell'=true)->∀v∈(Extern.BytealgMakeNoZero.digits n t acc).toList,v.oneCell'=true
 |0,_,_,h=>h
 |n+1,t,acc,h=>by
  refine SX n _ _ fun v a=>?_;rw[Array.toList_push,List.mem_append,q_]at a;rcases a with a|rfl
  ·simp_all
  rfl
theorem kd(w:World)(ps)(t e)(l:P.underlying t=some (.slice e))(n:Nat)(hn:n<=281474976710656):
  ∃cs,(Extern.BytealgMakeNoZero.makeNoZero ps #[t] #[.int .i64 n]).run P w=.ok (.slice (some ⟨w.heap.size,0,none⟩) n cs.size) (w.drew.drew.alloc (.cells cs e))/\n<=cs.size/\(n<=maxLen->cs.size<=maxLen)/\∀v∈cs.toList,v.oneCell'=true:=by
 have f:Extern.BytealgMakeNoZero.makeNoZero ps #[t] #[.int .i64 n] =
   (do
    let .slice d <-underlying t|stuck _
    if n<0||(n:Int) > 2 ^ 48 then runtimePanic _
    let c <-choose _
    askRoom c
    let bytes <-choose _
    let a <-newRow d (Extern.BytealgMakeNoZero.digits c bytes #[])
    pure (.slice (some a) _ c)):=rfl
 refine⟨Extern.BytealgMakeNoZero.digits (grownCap w n 0 e) ((Question.extern "internal/bytealg.MakeNoZero.bytes" 0).cut (w.tape (w.drawn+1) (.extern "internal/bytealg.MakeNoZero.bytes" 0))) #[],?_,?_,?_,?_⟩
 ·rw[f];have k:¬ (n:Int)<0:=X
  have j:¬ (281474976710656:Int)<(n:Int):=X
  simp[run_underlying l,k,j,Question.forced,newRow,Lib.size_digits,grownCap]
 ·rw[Lib.size_digits]
  simpa using grownCap_ge w n 0 e
 ·intro i;rw[Lib.size_digits]
  simpa using grownCap_le_maxLen w n 0 e i
 exact SX _ _ _ H_
theorem ly{f:Operand}{u:Array TypeId}{F:FuncId}{q:Func}{ps:Array TypeId}{m:Int}(v_:o.op=.call {callee:=.value f,args:=#[x],argTypes:=u})(z_:aO E f=some (.pv (.fn F)))(W:P.funcs[F]?=some q)(h:(q.name == "runtime.NumGoroutine")=false)
  (D:q.body.isNone=true) (o_:Extern.findNext q=none) (he:Extern.find q=some (Extern.BytealgMakeNoZero.makeNoZero ps #[t])) (R:P.underlying t=some (.slice e)) (y_:aO E x=some (.pv (.int .i64 m))) (G:m=(n:Int)) (A:n<=140737488355328) (hid:H.get id=none) :
  cL P N o E H (.osl id 0 0 n) ((id,⟨0,1,e,List.replicate n [.any]⟩)::H):=by
 subst G;intro a w I ι _ _ hr d_ K Q A_;have z:=(aI d_ z_).fn_inv;have hxv:=(aI d_ y_).int_inv;obtain ⟨d,e1,e2,e3,L⟩:=kd (P:=P) w ps t e R n X;have B:=Rel.drawn (w':=w.drew.drew) hr Z Z Z Z;obtain ⟨u_,d2⟩:=B;obtain ⟨k1,c_⟩:=Rel.place (H':=(id,⟨0,1,e,List.replicate n [.any]⟩)::H) (id:=id) (cap:=d.size) (ob':=⟨0,1,e,List.replicate n [.any]⟩) (cs':=d) (w':=w.drew.drew.alloc (.cells d e)) u_ Z Z Z Z
  (fun o' ho'=>by simp_all) Nat.zero_lt_one H_ F_ (e3 (Nat.le_trans A E_)) (fun r hr'=>by simp_all) (fun i r v k b s=>by
   rw[List.getElem?_replicate]at v
   split at v
   ·cases v;cases k with
    |zero =>
     cases s;have p:i*1+0<d.size:=X
     exact⟨d[i*1+0],Array.getElem?_eq_getElem p,L _ (Array.getElem_mem_toList p),.any _⟩
    |succ k=>grind
   grind) (get_cons_same _ _ _) (fun j e_=>get_cons_other _ _ e_)
 unfold Oper.wpW;have l:(execOp a.eval o).run P w=.ok (.value (.slice (some ⟨w.heap.size,0,none⟩) n d.size)) (w.drew.drew.alloc (.cells d e)):=by
  unfold execOp;simp only[v_,resolve,z,Deferred.ofValue,Sem.run_bind,Sem.run_pure,Result.andThen_ok,invoke,Array.empty_append,Array.append_empty,run_callFunc_extern W h D o_ he]
  simp_all
 rw[l];exact A_ _ _ I _ _ _ ⟨Z,Z⟩ (.osl ⟨0,1,e,List.replicate n [.any]⟩ (get_cons_same _ _ _) (j6 _) Z fun _=>⟨Nat.zero_lt_one,H_,.inl ⟨w.heap.size,d.size,0,H_,H_,fun _=>by simp⟩⟩) k1 (d2.trans c_)
theorem Cu{lo hi A_:Operand}{rows':List (List PV)}(ho:o.op=.slice T x (some lo) (some hi) (some A_))(hS:fF P T e sz)(hx:aO E x=some (.pv (.sl rows)))(hrows:∀r∈rows,r.length=sz)
  (e_:aO E lo=some (.pv (.int .i64 l))) (K:aO E hi=some (.pv (.int .i64 h))) (Q:aO E A_=some (.pv (.int .i64 h))) (W:l<=h) (h2:h<=rows.length) (v:rows≠[]) (j:(rows.take h).drop l=rows'):cL P N o E H (.pv (.sl rows')) H:=by
 subst j;exact .of_run fun a w I ι _ D=>by
  have v_:=(aI D hx).pv_inv;have e0:=(aI D e_).int_inv;have y_:=(aI D K).int_inv;have e2:=(aI D Q).int_inv;generalize hc:a.eval x=c at v_;have hT:=hS.1;have hs:=hS.2.1;have G:P.elem T=e:=by simp[Program.elem,hT]
  have B:P.underlying T=some (.slice (P.elem T)):=F_
  cases v_ with
  |nilsl=>exact absurd Z v
  |empsl a0=>exact absurd Z v
  | sl b A s u_ _ cs hI c_ z hcap o_ F =>
   have d_:u_=sz:=by
    obtain ⟨r,rs,e⟩:=List.exists_cons_of_ne_nil v
    simp_all
   subst d_;have z_:(Instr.sliceBounds true rows.length s (some (.int .i64 l)) (some (.int .i64 h)) (some (.int .i64 h))).run P w=.ok (l,h,h) w:=by
    have u:∀(n y:Nat) (c:BoundsCode),n<=y->(Instr.sliceBound (.int .i64 n) y c).run P w=.ok n w:=fun n y c hn=>by
     have:=run_sliceBound (P:=P) w .i64 n y c X X
     simpa using this
    simp[Instr.sliceBounds,u _ _ _ W,u _ _ _ (j6 h),u h s _ X]
   have htl:(rows.take h).length=h:=F_
   have m:∀(i:Nat) (r:List PV),(rows.take h)[i]?=some r->rows[i]?=some r:=fun i r j=>by
    grind
   have q:=PRep.cut (w:=w) (I:=I) (b:=b) (off:=A) (cap:=h) (l:=l) (h:=h) (rows:=rows.take h) (cs:=cs) hI c_ (fun r j=>z r (List.mem_of_mem_take j)) X
    (fun i r j k p R=>o_ i r (m i r j) k p R) (fun i r j k p R=>F i r (m i r j) k p R) W X
   rw[List.take_take,Nat.min_self]at q;refine⟨_,?_,.pv q⟩;simp only[execOp,ho,hc];have:=run_slice_any (P:=P) w T (some ⟨b,A,none⟩) rows.length s B (some (.int .i64 l)) (some (.int .i64 h)) (some (.int .i64 h));simp only[Option.map_some,run_sliceAt_slice w T _ _ _ _ B,e0,y_,e2,Sem.run_bind,this,z_,G,hs,sliced,Result.andThen_ok,Sem.run_pure];by_cases ec:h=l<;>simp[ec]
end
end
end Go.Abs
namespace Go.Proofs.YtopnleflllkbmaaGreatDoor
open Go.Proofs.Tryz
open Go.Abs
variable{K:aF}{α:Type}{i:Nat}
def gl(u:Bool):AV:=if u then .ref 2001 0 0 0 else .pv .nilp
def DU(buf:AV)(u:Bool):Ob:=⟨0,2,161,[[gl u,buf]]⟩
def yH(g:Nat)(l:List UInt8)(u:Bool):aF:=[(2001,DU (.osl 2002 g 0 l.length) u),(2002,⟨g,1,5,fK l⟩)]
theorem rY(l):(fK l).length=l.length:=by simp[fK]
theorem eJ(H)(l):∀r∈fK l,∀a∈r,Clo H a:=by intro r d a c;obtain ⟨b,_,rfl⟩:=List.mem_map.1 d;rw[q_]at c;subst c;simp
instance(H)(l):W_ (H) (fK l):=⟨eJ H l⟩
theorem uF(l m):fK l++fK m=fK (l++m):=by simp[fK]
theorem gD{H}{g n}{u}(e:(H.get 2001).isSome=true)(f:(H.get 2002).isSome=true):∀r∈(DU (.osl 2002 g 0 n) u).rows,∀a∈r,Clo H a:=by
 intro r c a d;simp[DU,q_]at c;subst c;simp[l7,n_,or_false]at d;rcases d with rfl|rfl
 ·cases u<;>simp[gl,e]
 simp[f]
theorem E8(b:AV)(u:Bool)(K:aF):aS Tryz.prog 191 [.ref 2001 0 0 0] ((2001,DU b u)::K) (fun r H'=>r=.tup []/\H'=(2001,DU b true)::K):=by
 cases u with
 |false =>
  refine Bd Be Z iw<|C V<|Y sC<|Y (bD zM)<|Y (bS DN)<|O (by exact NO Z gW Z Z)<|Cn ?_ ?_<;>intro c
  ·refine Rd V<|Y V<|Y (by exact G3 (n:=1) Z gW IT (by rfl) Z Z Z (by simp[DU]))<|Y (by exact O3 Z Z func239 Z Z Z Z Z (fi (.ref 2001 0 0 0)))<|Y (by exact OA (n:=1) Z IT gW (by rfl) Z Z Z (by simp[DU]) Z Z)<|Y sC<|Y (bD zM)<|Uu (ku aAq)<|Zz ?_;exact oP (.inl Z) Z (Fin.get' (H':=(2001,DU b true)::K) (fun j=>wQ 2001 (DU b true) (DU b false) K j)) ⟨Z,Z⟩
  cases c
 |true =>
  refine Bd Be Z iw<|C V<|Y sC<|Y (bD zM)<|Y (bS DN)<|O (by exact NN Z gW Z Z Z Z)<|Cn ?_ ?_<;>intro c
  ·cases c
  refine C V<|Y sC<|Y (bD zM)<|Y (bS DN)<|Y V<|O (by exact J1 (n:=1) Z gW (by rfl) Z Z Z Z)<|Cn ?_ ?_<;>intro d
  ·cases d
  refine aA ?_;exact oP (.inl Z) Z Fin.refl ⟨Z,Z⟩
theorem KR{i j}{a b a' c}(h:i≠j)(k):aF.get ((i,a)::(j,b)::K) k=aF.get ((i,a)::(j,b)::(i,a')::(j,c)::K) k:=by
 simp[aF.get]
 grind
theorem OJ:∀i,Tryz.prog.info? 5=some i->i.zero=some (.int .u8 0):=fun i b=>by
 have h:(Tryz.prog.info? 5).map (·.zero)=some _:=rfl;rw[b]at h;exact Option.some.inj h
theorem vj(g)(l m){n}(h:m.length=n):yH (g+1) (l++m) true=[(2001,DU (.osl 2002 (g+1) 0 (l.length+n)) true),(2002,⟨g+1,1,5,fK (l++m)⟩)]:=by subst h;simp[yH]
theorem kK(g:Nat)(l:List UInt8)(u:Bool)(c:UInt8)(hl:l.length<70368744177664):aS Tryz.prog 160 [.ref 2001 0 0 0,.pv (.int .u8 c.toNat)] (yH g l u) (fun r H'=>r=.pv MJ/\H'=yH (g+1) (l++[c]) true):=by refine Bd func160 Z ntmps160<|Sz U<|C V<|O (kc TM (E8 _ u _))<|C V<|Y V<|Y sC<|Y (bD iE)<|Y (bS eA)<|Y V<|Y (by exact aL [[.int .u8 c.toNat]] Z A5 Z Z Z Z Z (by simp_all))<|Y (by exact cA (ps:=[[.int .u8 c.toNat]]) Z A5 Wr Z Z Z Z Z (rY l) Z (by simp_all) (m:=1) Z (by omega) Z (uF l [c]))<|Y sC<|Y (bD iE)<|Uu (ku qC)<|Zz<|Sz U<|aC ?_;rw[vj g l [c] (n:=1) rfl];refine cR (.inr Z) Z (aJ Z) (Fin.get' (fun j=>KR (by decide) j)) ?_;exact Qq
theorem jA(g:Nat)(l:List UInt8)(u:Bool)(s:B_)(hl:l.length+s.size<70368744177664):aS Tryz.prog 132 [.ref 2001 0 0 0,sv s] (yH g l u) (fun r H'=>r=.tup [iv (s.size:Int),.pv MJ]/\H'=yH (g+1) (l++s.data.toList) true):=by refine Bd func132 Z ntmps132<|C U<|O U<|C V<|O (kc TM (E8 _ u _))<|C V<|Y V<|Y sC<|Y (bD iE)<|Y (bS eA)<|Y V<|Y (by exact wD Z A5 U_ Wr OJ Z Z Z Z Z (rY l) Z (by omega) Z (uF l s.data.toList))<|Y sC<|Y (bD iE)<|Uu (ku qC)<|Zz<|C V<|Y (gM U_)<|Y U<|O U<|aC ?_;rw[vj g l s.data.toList (n:=s.size) rfl];refine hU (.inr Z) Z (aJ Z) (aJ Z) (Fin.get' (fun j=>KR (by decide) j)) ?_;exact Qq
def Aj(g:Nat)(l:List UInt8)(u:Bool):aF:=[(2002,⟨g+1,1,5,[]⟩),(2001,DU (.osl 2002 g 0 l.length) u)]
theorem PC{i j}{a b a'}(h:i≠j)(k):aF.get ((i,a)::(j,b)::K) k=aF.get ((i,a)::(j,b)::(i,a')::K) k:=by
 simp[aF.get]
 grind
theorem P7(g:Nat)(l:List UInt8)(u:Bool)(hl:l.length<70368744177664):aS Tryz.prog 133 [.ref 2001 0 0 0] (yH g l u) (fun r H'=>r=sv ⟨l.toArray⟩/\H'=Aj g l u):=by
 by_cases e:l=[]
 ·subst e;refine Bd Bg Z iy<|Sz U<|S<|aN a7<|Cq V<|Cq sC<|Cq (bD iE)<|Cq (bS eA)<|Cq (by exact EB Z yM Z Z Z)<|Cq V<|Cq sC<|Cq (bD iE)<|Cq (bS eA)<|Cq (by exact dT Z dB Z Z Z)<|Cq (by exact zD Z Z Z)<|Cq U<|bJ<|Kr<|aC ?_;refine cR (H':=(Aj g [] u)) (.inr Z) Z (aJ Z) (Fin.trans (Fin.deadO (id:=2002) (k:=g+1) (ob:=⟨g,1,5,fK []⟩) Z (Nat.lt_succ_self g) Nat.zero_lt_one Z Z) (Fin.get' (fun j=>PC (by decide) j))) ?_;exact Qq
 have c:0<l.length:=List.length_pos_iff.2 e;refine Bd Bg Z iy<|Sz U<|S<|aN a7<|Cr [2001] (fun _ _=>V)<|Cr [2001] (fun d b=>by exact dK Z Z ((b _ Z).trans Z) Z)<|Cr [2001] (fun _ h=>fh iE h)<|Cr [2001] (fun _ h=>lh eA h)<|Cr [2002] (fun d b=>by exact G5 Z Z ((b _ Z).trans Z) Z c)<|Cr [2001] (fun _ _=>V)<|Cr [2001] (fun d b=>by exact dK Z Z ((b _ Z).trans Z) Z)<|Cr [2001] (fun _ h=>fh iE h)<|Cr [2001] (fun _ h=>lh eA h)<|Cr [2002] (fun d b=>by exact dT Z dB Z ((b _ Z).trans Z) Z)<|Cp [2001,2002] (fun d b=>by exact BE (l:=l) rfl yM (by rfl) rfl rfl ((b _ rfl).trans rfl) rfl rfl rfl rfl rfl c (by omega) rfl)<|Cr [] (fun _ _=>U)<|bJ<|Kr<|aC ?_;refine cR (H':=(Aj g l u)) (.inr Z) Z (aJ Z) (Fin.get' (fun j=>PC (by decide) j)) ?_;exact Qq
def Ma:aF:=[(2001,DU (.pv .nils) false)]
theorem aAZ(m n:Nat)(hn:m=n)(hl:n<70368744177664):aS Tryz.prog 292 [.ref 2001 0 0 0,iv (n:Int)] [(2001,DU (.pv .nils) true)] (fun r H'=>r=.tup []/\H'=yH 1 [] true):=by refine Bd func292 Z ntmps292<|S<|aN a7<|Cr [2001] (fun _ _=>V)<|Cr [2001] (fun c b=>by exact dK Z Z ((b _ Z).trans Z) Z)<|Cr [2001] (fun _ h=>fh iE h)<|Cr [2001] (fun _ h=>lh eA h)<|Cr [] (fun c b=>by exact J6 Z dB Z)<|Cr [] (fun c b=>by exact qM Z Z Z (by exact qD (by omega) (by omega)))<|Cr [] (fun _ _=>V)<|Cr [] (fun c b=>by exact eQ Z Z Z (show IntKind.i64.wrap (0+(n:Int))=(n:Int)by rw[IntKind.wrap_i64];omega))<|Cp [2002] (fun c b=>by exact ly (id:=2002) (n:=n) Z Z func310 (by decide) Z Z Z dB Z Z (by omega) ((b _ Z).trans Z))<|Cr [2001] (fun _ _=>V)<|Cr [2001] (fun c b=>by exact dK Z Z ((b _ Z).trans Z) Z)<|Cr [2001] (fun _ h=>fh iE h)<|Cr [2001] (fun _ h=>lh eA h) ?_;refine Cr [] (fun c b=>by exact J4 Z dB Z)<|Cp [2002] (fun c b=>by exact aa (h:=0) (k:=1) (rows':=[]) Z A5 Z ((b _ Z).trans Z) Z Z Z Z (l6 _) Z Z)<|Cr [] (fun _ _=>U)<|bJ<|Kr<|C V<|Y V<|Y sC<|Y (bD iE)<|Y (bS eA)<|O (by exact Xm (rows':=[]) Z A5 (ny Z Z Z) Z Z Z (l6 _) (ao Z) (by simp) Z Z Z)<|Rd V<|Y V<|Y sC<|Y (bD iE)<|Uu (ku qC)<|Zz ?_;exact oP (H':=yH 1 [] true) (.inl Z) Z (Fin.wk (by(simp;done)) (Hc (gD Z Z)<|Hc (eJ _ _)<|T_) ⟨Z,T_⟩) ⟨Z,Z⟩
theorem Ud(n:Nat)(h0:0<n)(d:n<70368744177664):aS Tryz.prog 255 [.ref 2001 0 0 0,iv (n:Int)] Ma (fun r H'=>r=.tup []/\H'=yH 1 [] true):=by
 refine Bd func255 Z ntmps255<|C V<|O (kc TM (E8 _ false _))<|S<|C V<|O cM<|Cn ?_ ?_<;>intro c
 ·exact absurd (b9 c) X
 refine aA<|S<|aN a7<|Cq V<|Cq sC<|Cq (bD iE)<|Cq (bS eA)<|Cq (J6 Z dB Z)<|Cq V<|Cq sC<|Cq (bD iE)<|Cq (bS eA)<|Cq (J4 Z dB Z)<|Cq (dP Z Z Z (qD X X))<|Cq V<|Cq cM<|bJ<|Kr<|Cn ?_ ?_<;>intro b
 ·refine Rd V<|Y V<|O (kc call292 (aAZ n n Z d)) ?_;exact oP (H':=yH 1 [] true) (.inl Z) Z (Fin.wk (by(simp;done)) (Hc (gD Z Z)<|Hc (eJ _ _)<|T_) ⟨Z,T_⟩) ⟨Z,Z⟩
 exact absurd (b_ b) X
def oV(s:B_)(k:Nat):UInt8:=(s.data.toList[k]?).getD 0
theorem tB(s)(k):bA s k=((oV s k).toNat):=rfl
def qG(b:UInt8):List UInt8:=if b=10 then[92,110]else if b=34\/b=92 then[92,b]else[b]
def cW(l:List UInt8):List UInt8:=34::(l.flatMap qG++[34])
theorem Uj(b):(qG b).length<=2:=by
 unfold qG
 grind
theorem fk(l:List _):(l.flatMap qG).length<=2*l.length:=by
 induction l with
 |nil=>simp_all
 |cons b l ih =>
  rw[List.flatMap_cons,j9,j8];have:=Uj b;omega
theorem Dt{s}{k}(h:k<s.size):s.data.toList.take (k+1)=s.data.toList.take k++[oV s k]:=by
 have a:k<s.data.toList.length:=F_
 rw[List.take_add_one,oV,m8 a];rfl
theorem PX{b}{n:Nat}(hn:n<256):decide ((b.toNat:Int)=n)=decide (b=UInt8.ofNat n):=by
 rw[Bool.eq_iff_iff,k_,k_];constructor
 ·intro h;apply UInt8.toNat.inj;rw[UInt8.toNat_ofNat'];omega
 intro h;rw[h,UInt8.toNat_ofNat'];omega
theorem cJ.bld0{E E'}(a:NzE E [(2002,⟨0,1,5,[]⟩),(2001,DU (.osl 2002 0 0 0) false)] 2002 E'):cJ [] E Ma E' (yH 0 [] false):=by refine(cJ.nz (G0:=[]) _ 1 5 Z Z a ⟨⟨DU (.pv _) _,Z,Z,Z,Z,.inr ⟨_,_,rfl,rfl,⟨.same (by simp[gl]),⟨.own,T_⟩⟩⟩⟩,T_⟩ T_).trans ?_;exact cJ.get (fun _=>rfl) (fun j=>mT H_ j)
def lG(s:B_)(k:Nat):List UInt8:=34::(s.data.toList.take k).flatMap qG
theorem cd{s}{k}(hs:s.size<17592186044416):(lG s k).length<70368744170000:=by have:=fk (s.data.toList.take k);rw[q8]at this;have h2:s.data.toList.length=s.size:=rfl;rw[lG,j8];omega
theorem VH{s}{k}(h:k<s.size):lG s (k+1)=lG s k++qG (oV s k):=by rw[lG,lG,Dt h];simp
theorem sg(s:B_)(H:aF)(v:s.size<17592186044416):RC 260 [sv s] (sv ⟨(cW s.data.toList).toArray⟩) H:=by
 refine Pu ?_;have hsl:s.data.toList.length=s.size:=H_
 refine Bd func260 Z ntmps260<|Sz U<|Sz (kl 2001 HG)<|S ?_;refine fZ.ent (E':=[(0,sv s),(3,.ref 2001 0 0 0)]) (H':=yH 0 [] false) (cJ.bld0 ⟨⟨_,Z,.same H_⟩,⟨_,Z,.same (by simp;rfl)⟩,T_⟩) ?_;refine Rg<|O (bF Z Z mZ Z (kK 0 [] false 34 E_))<|S<|C V<|Y (gM U_)<|O V<|aD<|fR (fun(k g:Nat)=>([(0,sv s),(3,.ref 2001 0 0 0),(8,iv (s.size:Int)),(9,iv (k:Int))],yH g (lG s k) true)) (fun k g=>k<=s.size) (fun k g=>s.size - k) 0 1 (l6 _) ?_ ?_
 ·exact(cJ.wk (Eb<|Ea<|Eb<|Eb<|T_) (Hc (gD Z Z)<|Hc (eJ _ _)<|T_) T_)
 intro k g hk;have hL:=cd (k:=k) v;refine Sz cM<|S<|Cn ?_ ?_<;>intro p
 ·have q:k<s.size:=I_ p
  have b:=VH q;refine aA<|S<|aD<|C V<|O U<|C V<|Y V<|Y (ky U_)<|O U<|Sz V<|aD<|C cD<|Da<|Cn ?_ ?_<;>intro n
  ·have l:oV s k=10:=by
    have h:=n;rw[tB,show (10:Int)=((10:Nat):Int)by rfl,PX E_]at h;exact b9 h
   have e:yH (g+1) (lG s (k+1)) true=yH (g+1) (lG s k++(⟨#[92,110]⟩:B_).data.toList) true:=by rw[b,l];rfl
   refine Rg<|O (kc nB (jA g (lG s k) true ⟨#[92,110]⟩ (by show _+2<_;omega)))<|Rd gT<|O V ?_;refine⟨k+1,g+1,X,X,?_⟩;show cJ _ _ _ _ (yH (g+1) (lG s (k+1)) true);rw[e];exact(cJ.wk (Eb<|Ea<|Eb<|Eb<|T_) (Hc (gD Z Z)<|Hc (eJ _ _)<|T_) T_)
  have j:¬ oV s k=10:=by
   have h:=n;rw[tB,show (10:Int)=((10:Nat):Int)by rfl,PX E_]at h;exact b_ h
  refine S<|C cD<|Da<|Cn ?_ ?_<;>intro d
  ·have l:oV s k=34:=by
    have h:=d;rw[tB,show (34:Int)=((34:Nat):Int)by rfl,PX E_]at h;exact b9 h
   have e:yH (g+1+1) (lG s (k+1)) true=yH (g+1+1) (lG s k++[92]++[oV s k]) true:=by rw[b,l];simp[qG]
   refine aA<|Cn ?_ ?_<;>intro u
   ·refine Sz (kc mZ (kK g (lG s k) true 92 X))<|Rd V<|O (kc mZ (kK (g+1) (lG s k++[92]) true (oV s k) G_))<|Rd gT<|O V ?_;refine⟨k+1,g+1+1,X,X,?_⟩;show cJ _ _ _ _ (yH (g+1+1) (lG s (k+1)) true);rw[e];exact(cJ.wk (Eb<|Ea<|Eb<|Eb<|T_) (Hc (gD Z Z)<|Hc (eJ _ _)<|T_) T_)
   exact absurd (d.symm.trans u) E_
  have m:¬ oV s k=34:=by
   have h:=d;rw[tB,show (34:Int)=((34:Nat):Int)by rfl,PX E_]at h;exact b_ h
  refine Rd cD<|Da<|Cn ?_ ?_<;>intro i
  ·have l:oV s k=92:=by
    have h:=i;rw[tB,show (92:Int)=((92:Nat):Int)by rfl,PX E_]at h;exact b9 h
   have e:yH (g+1+1) (lG s (k+1)) true=yH (g+1+1) (lG s k++[92]++[oV s k]) true:=by rw[b,l];simp[qG]
   refine Sz (kc mZ (kK g (lG s k) true 92 X))<|Rd V<|O (kc mZ (kK (g+1) (lG s k++[92]) true (oV s k) G_))<|Rd gT<|O V ?_;refine⟨k+1,g+1+1,X,X,?_⟩;show cJ _ _ _ _ (yH (g+1+1) (lG s (k+1)) true);rw[e];exact(cJ.wk (Eb<|Ea<|Eb<|Eb<|T_) (Hc (gD Z Z)<|Hc (eJ _ _)<|T_) T_)
  have o:¬ oV s k=92:=by
   have h:=i;rw[tB,show (92:Int)=((92:Nat):Int)by rfl,PX E_]at h;exact b_ h
  have e:yH (g+1) (lG s (k+1)) true=yH (g+1) (lG s k++[oV s k]) true:=by rw[b,qG,a8 j,a8 (fun h=>h.elim m o)]
  refine Rd V<|O (kc mZ (kK g (lG s k) true (oV s k) X))<|Rd gT<|O V ?_;refine⟨k+1,g+1,X,X,?_⟩;show cJ _ _ _ _ (yH (g+1) (lG s (k+1)) true);rw[e];exact(cJ.wk (Eb<|Ea<|Eb<|Eb<|T_) (Hc (gD Z Z)<|Hc (eJ _ _)<|T_) T_)
 have t:k=s.size:=J_ p
 refine aP<|Sz (kc mZ (kK g (lG s k) true 34 X))<|C (kc nA (P7 (g+1) (lG s k++[34]) true G_))<|O U<|aC ?_;have f:(⟨(lG s k++[34]).toArray⟩:B_)=⟨(cW s.data.toList).toArray⟩:=by
  rw[lG,cW,t,List.take_of_length_le X];rfl
 rw[<-f];exact Rt Qq
def bQ(sep:List UInt8):List (List UInt8)->List UInt8
 | []=>[]
 |x::l=>x++l.flatMap (fun y=>sep++y)
def bs(l:List B_):List (List UInt8):=l.map fun s=>s.data.toList
def cX(l:List B_):Nat:=(l.map ByteArray.size).sum
theorem xL{l:List _}{k}{s}(h:l[k]?=some s):cX (l.take (k+1))=cX (l.take k)+s.size:=by rw[List.take_add_one,h,cX,cX];simp
theorem nY(l)(k):cX (l.take k)<=cX l:=by
 have h:cX l=cX (l.take k)+cX (l.drop k):=by
  rw[cX,cX,cX,<-List.sum_append,<-List.map_append,List.take_append_drop]
 omega
theorem dz(sep):∀l,((bs l).flatMap (fun y=>sep++y)).length=sep.length*l.length+cX l
 | []=>rfl
 |s::l=>by
  have c:=dz sep l;show (((s.data.toList)::bs l).flatMap _).length=_;rw[List.flatMap_cons,j9,c,j9,j8,Nat.mul_add,cX,cX,List.map_cons,List.sum_cons];have h2:s.data.toList.length=s.size:=rfl;omega
def MR(sep x:B_)(l:List B_)(k:Nat):List UInt8:=x.data.toList++(bs (l.take k)).flatMap (fun y=>sep.data.toList++y)
theorem zd{sep x s}{l}{k}(h:l[k]?=some s):MR sep x l (k+1)=MR sep x l k++(sep.data.toList++s.data.toList):=by rw[MR,MR,List.take_add_one,h,bs];simp[bs]
theorem Eo{l}{s}(h:s∈l):s.size<=cX l:=by
 induction l with
 |nil=>cases h
 |cons a l b =>
  rw[cX,List.map_cons,List.sum_cons];rcases l7.1 h with rfl|h
  ·omega
  exact Nat.le_trans (b h) (Nat.le_add_left _ _)
theorem eb{sep x}{l}{k}(a:k<=l.length):(MR sep x l k).length<=x.size+sep.size*l.length+cX l:=by rw[MR,j9,dz,q8,Nat.min_eq_left a];have h1:=nY l k;have b:sep.data.toList.length=sep.size:=rfl;have h3:x.data.toList.length=x.size:=rfl;have h4:sep.size*k<=sep.size*l.length:=Nat.mul_le_mul_left _ a;rw[b];omega
theorem wN(l:List B_)(sep:B_)(H:aF)(h0:0<sep.size)(K:sep.size*l.length+cX l+l.length<17592186044416):RC 204 [.pv (aK l),sv sep] (sv ⟨(bQ sep.data.toList (bs l)).toArray⟩) H:=by
 refine Pu ?_;have hml:(l.map S_).length=l.length:=h_ _;rcases l with _|⟨x,_|⟨y,l⟩⟩
 ·refine Bd aEK Z aDG<|Sz U<|S<|C V<|O (fV aE)<|aD<|C cD<|Da<|Cn ?_ ?_<;>intro h
  ·exact Sz U<|aC<|Rt<|Qq
  cases h
 ·refine Bd aEK Z aDG<|Sz U<|S<|C V<|O (fV aE)<|aD<|C cD<|Da<|Cn ?_ ?_<;>intro h
  ·cases h
  refine C cD<|Da<|Cn ?_ ?_<;>intro p
  ·refine C V<|Y (bU Z bH Z Z X (l8 _) Z Z)<|Y (fY N_ (hi:=rfl))<|O U<|aC ?_;have o_:x=⟨(bQ sep.data.toList (bs [x])).toArray⟩:=by simp[bQ,bs]
   rw[<-o_];exact Rt Qq
  cases p
 have n:((x::y::l).map S_).length=l.length+2:=F_
 have F:(x::y::l).length=l.length+2:=rfl;rw[F]at K;have j:sep.size*(l.length+2)=sep.size*(l.length+1)+sep.size:=by rfl
 obtain ⟨e_,i⟩:∃e_,e_=sep.size*(l.length+1):=X_;rw[<-i]at j;rw[j]at K;have hdiv:sep.size+1<=9223372036854775807 / (l.length+1):=by
  rw[Nat.le_div_iff_mul_le (Nat.succ_pos _),Nat.add_mul,<-i];omega
 have hdl:9223372036854775807 / (l.length+1)<=9223372036854775807:=Nat.div_le_self _ _;have hMp:0<e_:=F_
 have z:∀k,cX ((x::y::l).take k)<=cX (x::y::l):=nY _;refine Bd aEK Z aDG<|Sz U<|S<|C V<|O (fV aE)<|aD<|C cD<|Da<|Cn ?_ ?_<;>intro h
 ·exact absurd (b9 h) X
 refine C cD<|Da<|Cn ?_ ?_<;>intro p
 ·exact absurd (b9 p) X
 refine aA<|Sz U<|S<|C V<|Y (gM U_)<|O iY<|Cn ?_ ?_<;>intro I
 ·refine S<|C V<|Y (gM U_)<|Y V<|Y (fV aE)<|Y (by exact dP Z Z Z (show IntKind.i64.wrap ((((x::y::l).map S_).length:Int) - 1)=((l.length+1:Nat):Int)by rw[IntKind.wrap_i64,n];omega))<|Y (by exact CM (r:=((9223372036854775807 / (l.length+1):Nat):Int)) Z Z Z X (by rw[show (9223372036854775807:Int)=((9223372036854775807:Nat):Int)by rfl,<-Int.ofNat_tdiv,IntKind.wrap_i64];omega))<|O B0 ?_;refine Cn ?_ ?_<;>intro d_
  ·exact absurd (b9 d_) X
  refine aA<|Rd V<|Y V<|Y (gM U_)<|Y V<|Y (fV aE)<|Y (by exact dP Z Z Z (show IntKind.i64.wrap ((((x::y::l).map S_).length:Int) - 1)=((l.length+1:Nat):Int)by rw[IntKind.wrap_i64,n];omega))<|Y (by exact qM Z Z Z (show IntKind.i64.wrap ((sep.size:Int)*((l.length+1:Nat):Int))=(e_:Int)by rw[<-Int.natCast_mul,<-i,IntKind.wrap_i64];omega))<|Y (by exact eQ Z Z Z (show IntKind.i64.wrap (0+(e_:Int))=(e_:Int)by rw[IntKind.wrap_i64];omega))<|O U<|S<|C V<|Y (fV aE)<|O V<|aD ?_;refine bC (σ:=Nat) (fun k=>([(0,.pv (aK (x::y::l))),(1,sv sep),(5,iv ((e_+cX ((x::y::l).take k):Nat):Int)),(39,.pv (aK (x::y::l))),(40,iv (((x::y::l).map S_).length:Int)),(41,iv (k:Int))],[])) (fun k=>k<=l.length+2) (fun k=>l.length+2 - k) 0 (l6 _) ?_ ?_
  ·exact Wk
  intro k hk;refine Sz cM<|S<|Cn ?_ ?_<;>intro v
  ·have m:k<l.length+2:=I_ v
   obtain ⟨s,t⟩:=aU (show k<(x::y::l).length by omega);have w:=cC (f:=S_) t;have c_:=xL t;have h1:=z (k+1);refine aA<|S<|aD<|C (bU Z bH Z Z X (by rfl) w Z)<|Y (fY N_ (hi:=w))<|O U<|S<|C V<|Y (gM U_)<|Y V<|Y (by exact dP Z Z Z (show IntKind.i64.wrap (9223372036854775807 - ((e_+cX ((x::y::l).take k):Nat):Int))=9223372036854775807 - ((e_+cX ((x::y::l).take k):Nat):Int)by rw[IntKind.wrap_i64];omega))<|O iY ?_;refine Cn ?_ ?_<;>intro G
   ·exact absurd (b9 G) X
   refine aA<|Rd V<|Y V<|Y (gM U_)<|Y (by exact eQ Z Z Z (show IntKind.i64.wrap (((e_+cX ((x::y::l).take k):Nat):Int)+(s.size:Int))=((e_+cX ((x::y::l).take (k+1)):Nat):Int)by rw[IntKind.wrap_i64,c_];omega))<|O U<|Rd gT<|O V ?_;exact⟨k+1,X,X,Wk⟩
  have hge:k=l.length+2:=J_ v
  have hall:cX ((x::y::l).take k)=cX (x::y::l):=F_
  have h2:=z k;refine aP<|Sz (kl 2001 HG)<|C V<|O (kc call255 (Ud (e_+cX ((x::y::l).take k)) X X))<|C V<|Y (bU Z bH Z Z X (l8 _) Z Z)<|Y (fY N_ (hi:=rfl))<|O (kc nB (jA 1 [] true x (by show 0+_<_;have:=nY (x::y::l) 1;simp[cX]at this K;omega)))<|S<|C V<|Y (by exact fD (l:=1) (h:=((x::y::l).map S_).length) (rows':=(y::l).map S_) Z bH Z (sz:=1) (by intro r N;obtain ⟨q,_,rfl⟩:=List.mem_map.1 N;rfl) Z Z (by rw[n];omega) (j6 _) (by rw[List.take_length];rfl))<|Y (fV aE)<|O V<|aD ?_;have hyl:((y::l).map S_).length=l.length+1:=by rw[h_];rfl
  refine fR (fun(q g:Nat)=>([(1,sv sep),(8,.ref 2001 0 0 0),(63,.pv (aK (y::l))),(64,iv (((y::l).map S_).length:Int)),(65,iv (q:Int))],yH g (MR sep x (y::l) q) true)) (fun q g=>q<=l.length+1) (fun q g=>l.length+1 - q) 0 2 (l6 _) ?_ ?_
  ·show cJ _ _ _ _ (yH (1+1) ([]++x.data.toList++[]) true);rw[List.append_nil];exact(cJ.wk (Eb<|Ea<|Eb<|Eb<|Eb<|T_) (Hc (gD Z Z)<|Hc (eJ _ _)<|T_) T_)
  intro q g L;refine Sz cM<|S<|Cn ?_ ?_<;>intro A
  ·have m:q<l.length+1:=I_ A
   obtain ⟨s,t⟩:=aU (show q<(y::l).length by rw[j8];exact m);have w:=cC (f:=S_) t;have o:=eb (sep:=sep) (x:=x) (l:=y::l) (k:=q) (Nat.le_of_lt m);have E:=zd (sep:=sep) (x:=x) t;have hss:=Eo (m7 t);have D:x.size+cX (y::l)=cX (x::y::l):=by simp[cX]
   have f:(y::l).length=l.length+1:=rfl;rw[f,<-i]at o;refine aA<|S<|aD<|C (kx bH w)<|Y (fY N_ (hi:=w))<|O U<|C V<|O (kc nB (jA g (MR sep x (y::l) q) true sep X))<|Rd V<|O (kc nB (jA (g+1) (MR sep x (y::l) q++sep.data.toList) true s (by rw[j9];show _+sep.size+_<_;omega)))<|Rd gT<|O V ?_;refine⟨q+1,g+1+1,X,X,?_⟩;show cJ _ _ _ _ (yH (g+1+1) (MR sep x (y::l) (q+1)) true);rw[E,<-List.append_assoc];exact(cJ.wk (Eb<|Ea<|Eb<|Eb<|Eb<|T_) (Hc (gD Z Z)<|Hc (eJ _ _)<|T_) T_)
  have u:q=l.length+1:=J_ A
  have o:=eb (sep:=sep) (x:=x) (l:=y::l) L;have f:(y::l).length=l.length+1:=rfl;have D:x.size+cX (y::l)=cX (x::y::l):=by simp[cX]
  rw[f,<-i]at o;refine aP<|C (kc nA (P7 g (MR sep x (y::l) q) true X))<|O U<|aC ?_;have B:(⟨(MR sep x (y::l) q).toArray⟩:B_)=⟨(bQ sep.data.toList (bs (x::y::l))).toArray⟩:=by
   rw[MR,u,<-f,List.take_length];rfl
  rw[<-B];exact Rt Qq
 exact absurd (b_ I) X
theorem pR:∀(x y),Op.bytesLess x y=decide (x<y)
 | [],[]=>rfl
 |_::_,[]=>rfl
 | [],_::_=>rfl
 |a::x,b::y=>by
  rw[Op.bytesLess,pR x y];simp[List.cons_lt_cons_iff];all_goals grind
theorem FQ(s):lY s s=false:=by
 unfold lY;rw[pR]
 simp_all
theorem FO{a b}(c:lY a b=false)(d:lY b a=false):a=b:=by
 unfold lY at c d;rw[pR]at c d;have e:=List.le_antisymm (List.not_lt.1 (b_ d)) (List.not_lt.1 (b_ c));have:=BH a b;rw[e]at this
 simpa using this.symm
theorem FP{a b c}(h1:lY a b=true)(h2:lY b c=true):lY a c=true:=by
 unfold lY at *;rw[pR]at *
 grind
theorem qz(s):lY s a6=false:=by
 unfold lY;rw[pR]
 simp_all
theorem OR{a b}:Ye a b=false↔lY b a=true:=by
 unfold Ye;constructor
 ·intro h;simp[q9,p_]at h;cases e:lY b a with
  |true=>rfl
  |false=>exact absurd (FO h.1 e) h.2
 intro h;simp[q9,p_];refine⟨?_,fun e=>?_⟩
 ·cases e:lY a b with
  |false=>rfl
  |true=>have:=FP e h;rw[FQ]at this;cases this
 subst e;rw[FQ]at h;cases h
theorem SK{s}(h:cG s=true):s≠a6:=by
 simp[cG,j0,r8,p_]at h
 grind
theorem Tv{l}{s}:uf l s=true↔s∈l:=by
 unfold uf
 simp_all
theorem CC(a b):lY a b=decide (a.data.toList<b.data.toList):=by unfold lY;rw[pR,ByteArray.toList_eq,ByteArray.toList_eq]
def dw{α:Type}(f:α->B_)(l:List α)(s:B_):Nat:=l.findIdx (fun o=>!lY (f o) s)
def eo{α:Type}(f:α->B_)(l:List α)(s:B_):Bool:=l.any (fun o=>decide (f o=s))
def asc{α:Type}(f:α->B_)(l:List α):Prop:=l.Pairwise (fun a b=>lY (f a) (f b)=true)
theorem PI{f}{l}(h:asc f l){j:Nat}{a b:α}(c:i<j)(k:l[i]?=some a)(n:l[j]?=some b):lY (f a) (f b)=true:=by
 obtain ⟨m,d⟩:=m_.1 k;obtain ⟨g,e⟩:=m_.1 n;have:=List.pairwise_iff_getElem.1 h i j m g c
 rwa [d,e]at this
theorem aAR{f}{l:List α}{s}{i}(hi:i<=l.length)(h1:∀k,k<i->∀o,l[k]?=some o->lY (f o) s=true)(h2:∀o,l[i]?=some o->lY (f o) s=false):dw f l s=i:=by
 unfold dw;by_cases e:i<l.length
 ·rw[List.findIdx_eq e]
  grind
 grind
theorem Ub{f}{l}{s}{o:α}(j:asc f l)(g:∀k,k<i->∀o,l[k]?=some o->lY (f o) s=true)(c:l[i]?=some o)(d:lY (f o) s=false):eo f l s=decide (f o=s):=by
 rw[eo,Bool.eq_iff_iff,List.any_eq_true,k_];constructor
 ·rintro⟨x,e,a⟩;have a:=b9 a;obtain ⟨k,b⟩:=r_.1 e;rcases Nat.lt_trichotomy k i with h|h|h
  ·have:=g k h x b;rw[a,FQ]at this;cases this
  ·subst h;rw[c]at b;cases b;exact a
  have:=PI j h c b;rw[a,d]at this;cases this
 grind
theorem zf{f}{l:List α}{s}(c:∀k,k<l.length->∀o,l[k]?=some o->lY (f o) s=true):eo f l s=false:=by rw[eo,List.any_eq_false];intro o b;obtain ⟨k,a⟩:=r_.1 b;have:=c k (m_.1 a).1 o a;simp[k_];intro e;rw[e,FQ]at this;grind
theorem Uc{i j}(h:i<j):i<=(i+j) / 2/\(i+j) / 2<j:=X
theorem Jc(f)(l:List α)(s):dw f l s<=l.length:=List.findIdx_le_length
abbrev No(ps:List (List PV)):List (List AV):=ps.map (·.map .pv)
theorem YC(ps):(No ps).length=ps.length:=h_ _
theorem Uz(ps)(H):∀r∈No ps,∀a∈r,Clo H a:=ZE _ _ H
instance(ps)(H):W_ (H) (No ps):=⟨Uz ps H⟩
theorem S4{a}{t}:DB a t=false↔cG t.key=true/\lY a t.key=true/\t.val≠a6/\t.val.size<=200:=by
 simp[DB,q9,Bool.not_eq_false',OR,p_]
 grind
theorem Pq{s}(h:s≠a6):lY a6 s=true:=by
 cases e:lY _ s with
 |true=>rfl
 |false=>exact absurd (FO (qz s) e) h
theorem xD{l:List l_}:sU l=true↔(∀t,t∈l->cG t.key=true/\t.val≠a6/\t.val.size<=200)/\asc l_.key l/\l.length<=60:=by
 have g:decide ((l.length:Int)<=60)=decide (l.length<=60):=by
  grind
 rw[sU,g,j0,r8,List.any_eq_false,k_];constructor
 ·rintro⟨h,y⟩;have s:∀k t,l[k]?=some t->cG t.key=true/\lY (kH l_.key l k) t.key=true/\t.val≠a6/\t.val.size<=200:=fun k t o=>by
   have m:=h k (List.mem_range.2 (m_.1 o).1);rw[S5,o]at m;simp only[Bool.not_eq_true]at m;exact S4.1 m
  refine⟨fun t u=>?_,?_,y⟩
  ·obtain ⟨k,o⟩:=r_.1 u
   grind
  have key:∀(d i:Nat) (a b:l_),l[i]?=some a->l[i+d+1]?=some b->lY a.key b.key=true:=by
   intro d
   induction d with
   |zero =>
    intro i a b q f;have:=(s (i+1) b f).2.1;rw[kH,q]at this;exact this
   |succ d A =>
    intro i a b q f;have e:i+d+1<l.length:=by have:=(m_.1 f).1;omega
    obtain ⟨x,r⟩:=aU e;have p:=(s (i+(d+1)+1) b f).2.1;rw[kH,show i+(d+1)=i+d+1 by omega,r]at p;exact FP (A i a x q r) p
  rw[asc,List.pairwise_iff_getElem];intro i j w v hij;exact key (j - i - 1) i _ _ (m8 w) (by rw[show i+(j - i - 1)+1=j by omega];exact m8 v)
 rintro⟨m,p,z⟩;refine⟨fun k o=>?_,z⟩;have e:=List.mem_range.1 o;rw[S5,m8 e];simp only[Bool.not_eq_true];obtain ⟨a,b,c⟩:=m _ (List.getElem_mem e);refine S4.2 ⟨a,?_,b,c⟩;cases k with
 |zero =>
  have:l[0].key≠a6:=SK a;exact Pq this
 |succ k =>
  rw[kH,m8 (show k<l.length by omega)];exact PI p (Nat.lt_succ_self k) (m8 X) (m8 e)
theorem OE(h:AV)(l:List b8)(p:b8->Bool)(H:aF)(hl:l.length<2^62)(m:∀o,o∈l->dF Tryz.prog h [.agg ((bL o).map .pv)] H (fun r H'=>r=.pv (.bool (p o))/\H'=H)):
    RC 293 [.pv (.sl (l.map bL)),h] (.pv (.int .i64 (AE p l))) H:=by
  refine Bd func293 Z ntmps293<|Sz U<|S<|C V<|Y (fV eS)<|O V<|aD<|bC (σ:=Nat) (fun k=>([(0,.pv (.sl (l.map bL))),(1,h),(7,.pv (.int .i64 (l.map bL).length)),(8,.pv (.int .i64 (k:Int)))],H)) (fun k=>k<=l.length/\∀j,j<k->∀b,l[j]?=some b->p b=false) (fun k=>l.length - k) 0 ⟨X,X⟩ ?_ ?_
  · exact E0
  · rintro k ⟨hk,c⟩
    refine Sz cM<|S<|Cn ?_ ?_<;>intro hc1
    · have g:k<l.length:=F_
      obtain ⟨o,f⟩:=aU g;have hi:=cC (f:=bL) f;have d:=m o (m7 f);refine aA<|S<|aD<|C V<|O U<|C V<|Y V<|Y V<|Y (iM ay)<|Y (eU Z cT aZ Z X (Z) Z)<|O (cZ Z Z Z (d))<|Cn ?_ ?_<;>intro i
      · skip
        refine C V<|O U<|aC ?_;exact cR (H':=H) (.inr Z) Z (aJ Z) Fin.refl ⟨by rw[AE,WS c f i],Z⟩
      · skip
        refine aA<|Rd gT<|O V ?_;refine⟨k+1,⟨X,fun j hj b hb=>?_⟩,X,E0⟩
        grind
    · have e:k=l.length:=G_
      subst e;refine aP<|Sz U<|aC ?_;exact cR (H':=H) (.inr Z) Z (aJ Z) Fin.refl ⟨by rw[AE,WT c],Z⟩
def aDw(id:B_)(o:j_):Bool:=decide (o.id=id)
def mf(x y:Int):Bool:=decide (0<=min x y)&&decide (max x y<1048576)
theorem IQ(b)(l:List _)(p)(H)(c:l.length<2^62)(d:∀o,o∈l->dF Tryz.prog b [.agg ((bL o).map .pv)] H (fun r H'=>r=.pv (.bool (p o))/\H'=H)):
  RC 257 [.pv (.sl (l.map bL)),b] (.pv (.bool (l.any p))) H:=by
 refine aS.body func257 Z ntmps257 (r9 Z)<|K4<|DE<|ph Z Z Z (xP Z Z)<|pg<|K4<|DE<|ph Z Z Z (gP Z Z)<|ph Z Z Z (gP Z Z)<|ph Z Z Z (bF Z Z call293 Z (OE _ l p H c d))<|ph Z Z Z (jK Z Z Z)<|ph Z Z Z (xP Z Z)<|pg<|aC ?_;exact cR (.inr Z) Z (aJ Z) Fin.refl ⟨by rw[Kc],Z⟩
def vY(a b:l_):Bool:=decide (a.key=b.key)&&decide (a.val=b.val)
def qV:List l_->List l_->Bool
 | [],[]=>true
 |a::l,b::r=>vY a b&&qV l r
 |_,_=>false
theorem UZ(a b):vY a b=true↔a=b:=by cases a;cases b;simp[vY]
theorem UV:∀(a b),a.length≠b.length->qV a b=false
 | [],[],h=>absurd Z h
 | [],_::_,_=>rfl
 |_::_,[],_=>rfl
 |x::a,y::b,h=>by rw[qV,UV a b (by simp_all)];simp
theorem UW:∀(a b) (k:Nat) (x y),a[k]?=some x->b[k]?=some y->vY x y=false->qV a b=false
 | [],_,k,x,y,h,_,_=>by grind
 |_::_,[],k,x,y,_,h,_=>rfl
 |u::a,v::b,0,x,y,c,d,h=>by cases c;cases d;rw[qV,h];rfl
 |u::a,v::b,k+1,x,y,c,d,h=>by rw[qV,UW a b k x y c d h];simp
theorem P5:∀(a b),a.length=b.length->(∀k,k<a.length->∀x y,a[k]?=some x->b[k]?=some y->vY x y=true)->qV a b=true
 | [],[],_,_=>rfl
 | [],_::_,h,_=>by grind
 |_::_,[],h,_=>by grind
 |u::a,v::b,hl,h=>by
  rw[qV,h 0 (by simp) u v Z Z,P5 a b (by simp_all) (fun k hk x y c d=>h (k+1) (by simp_all) x y c d)];rfl
theorem fl (a b:List l_) (H:aF) (ha:a.length < 4611686018427387904) :
    RC 314 [lv (a.map bP),lv (b.map bP)] (bv (qV a b)) H:=by
  refine Pu<|Bd func314 Z ntmps314<|Sz U<|S<|C V<|Y (fV dL)<|Y V<|Y (fV dL)<|O AY<|Cn ?_ ?_<;>intro hc1
  · have i:a.length≠b.length:=G_
    refine Sz U<|aC<|Rt ?_;exact⟨by rw[UV a b i],Z⟩
  · have f:a.length=b.length:=G_
    refine aA<|S<|C V<|Y (fV dL)<|O V<|aD<|bC (σ:=Nat) (fun k=>([(0,lv (a.map bP)),(1,lv (b.map bP)),(12,iv (a.map bP).length),(13,iv (k:Int))],[])) (fun k=>k<=a.length/\∀j,j<k->∀x y,a[j]?=some x->b[j]?=some y->vY x y=true) (fun k=>a.length - k) 0 ⟨X,X⟩ ?_ ?_
    · exact E0
    · rintro k ⟨hk,d⟩
      refine Sz cM<|S<|Cn ?_ ?_<;>intro hc2
      · have g:k<a.length:=F_
        obtain ⟨x,o⟩:=aU g;obtain ⟨y,m⟩:=aU (l:=b) (k:=k) X;have hi:=cC (f:=bP) o;have hi2:=cC (f:=bP) m;refine aA<|S<|aD<|C V<|O U<|S<|aN a7<|Cq V<|Cq V<|Cq (iM lI)<|Cq (by exact eU Z wX lL Z X (by simp only[Zl,bP,bM,bL];rfl) Z)<|Cq V<|Cq V<|Cq (iM lI)<|Cq (by exact eU Z wX lL Z X (by simp only[Zl,bP,bM,bL];rfl) Z)<|Cq (J7 Z Z Z Z Z eqGuardType270 (Wf _ _ _ _))<|bJ<|Kr ?_;refine Cn ?_ ?_<;>intro e
        · have n:vY x y=false:=by
            have h:(!vY x y)=true:=e
            simpa using h
          refine Sz U<|aC<|Rt ?_;exact⟨by rw[UW a b k x y o m n],Z⟩
        · have n:vY x y=true:=by
            have h:(!vY x y)=false:=e
            simpa using h
          refine aA<|Rd gT<|O V ?_;refine⟨k+1,⟨X,fun j hj x' y' h1 h2=>?_⟩,X,E0⟩
          grind
      · have l:k=a.length:=G_
        subst l;refine aP<|Sz U<|aC<|Rt ?_;exact⟨by rw[P5 a b f d],Z⟩
theorem P4:∀ {a b},qV a b=true↔a=b
 | [],[]=>by simp[qV]
 | [],_::_=>by simp[qV]
 |_::_,[]=>by simp[qV]
 |x::a,y::b=>by rw[qV,j0,UZ,P4];simp
theorem aDb(k f o g n j m l:B_)(w:World):(Op.equalIn 10000 316 (.agg [.string k,.string o,.string n,.string m].toArray) (.agg [.string f,.string g,.string j,.string l].toArray)).run Tryz.prog w =
  .ok (decide (k=f)&&decide (o=g)&&decide (n=j)&&decide (m=l)) w:=by
 obtain ⟨i,q⟩:=info_of_underlying U_;refine(run_equalIn_array (P:=Tryz.prog) w 9999 _ _ underlying316 q).trans ?_;have s:∀(d:Nat) (a b:B_) (w:World),(Op.equalIn (d+1) 9 (.string a) (.string b)).run Tryz.prog w=.ok (decide (a=b)) w:=fun d a b w=>by rw[run_equalIn_string w d 9 a b U_,BH]
 have t:Tryz.prog.cellsOf 9=1:=by rfl
 by_cases r:k=f<;>by_cases p:o=g<;>by_cases u:n=j<;>by_cases v:m=l<;>simp[List.range_succ,Op.eqItems,part,t,s,N_,r,p,u,v]
theorem fp(a b:List B_)(H:aF)(ha:a.length<2^62):RC 312 [.pv (aK a),.pv (aK b)] (bv (decide (a=b))) H:=by
 refine Pu ?_;have hma:(a.map S_).length=a.length:=h_ _;refine Bd func312 Z ntmps312<|Sz U<|S<|C V<|Y (fV aE)<|Y V<|Y (fV aE)<|O AY<|Cn ?_ ?_<;>intro hc1
 ·have j:¬ a=b:=by
   grind
  refine Sz U<|aC<|Rt ?_
  simp_all
 have m:a.length=b.length:=by
  grind
 refine aA<|S<|C V<|Y (fV aE)<|O V<|aD<|bC (σ:=Nat) (fun k=>([(0,.pv (aK a)),(1,.pv (aK b)),(12,iv ((a.map S_).length:Int)),(13,iv (k:Int))],[])) (fun k=>k<=a.length/\a.take k=b.take k) (fun k=>a.length - k) 0 ⟨X,H_⟩ ?_ ?_
 ·exact E0
 rintro k ⟨hk,e⟩;refine Sz cM<|S<|Cn ?_ ?_<;>intro f
 ·have l:k<a.length:=I_ f
  obtain ⟨x,n⟩:=aU l;obtain ⟨y,o⟩:=aU (l:=b) (k:=k) X;have hi:=cC (f:=S_) n;have hi2:=cC (f:=S_) o;refine aA<|S<|aD<|C V<|O U<|S<|aN a7<|Cq V<|Cq V<|Cq (iM bH)<|Cq (fY N_)<|Cq V<|Cq V<|Cq (iM bH)<|Cq (fY N_)<|Cq GU<|bJ<|Kr<|Cn ?_ ?_<;>intro i
  ·have j:¬ a=b:=by
    grind
   refine Sz U<|aC<|Rt ?_
   simp_all
  have p:x=y:=by
   have h:(!decide (x=y))=false:=i
   simpa using h
  refine aA<|Rd gT<|O V ?_;refine⟨k+1,⟨X,?_⟩,X,E0⟩;rw[List.take_add_one,List.take_add_one,n,o,e,p]
 have g:k=a.length:=J_ f
 have he:a=b:=by
  have h:=e;rw[g,List.take_length,m,List.take_length]at h;exact h
 refine aP<|Sz U<|aC<|Rt ?_
 simp_all
def yB(a b:j_):Bool:=((decide (a.id=b.id)&&decide (a.kind=b.kind)&&(decide (a.x=b.x)&&decide (a.y=b.y)))&&decide (a.refs=b.refs))&&qV a.tags b.tags
theorem ID{a b}:yB a b=true↔a=b:=by
 cases a;cases b;simp[yB,j0,k_,P4,j_.mk.injEq]
 grind
def okS(o:j_):Prop:=o.refs.length<2^62/\o.tags.length<2^62
theorem Qf(a b:j_)(H:aF)(h:okS a):RC 313 [av (bM a),av (bM b)] (bv (yB a b)) H:=by
 refine Pu<|Bd func313 Z ntmps313<|C (kb 2)<|Y (kb 3)<|O U<|S<|aR (t:=4) (n:=38) (A_:=yB a b) ?_ ?_
 ·all_goals refine Y (bD qQ)<|Y (bS N_)<|Y (bD qQ)<|Y (bS N_)<|Y wF<|Dm ?_<;>(refine Sp 10 (fun d=>?_) fun d=>?_)<;>(first|contradiction|refine M<|M<|M<|M<|M ?_|refine J (bD dZ)<|J (bS M_)<|J (bD dZ)<|J (bS M_)<|J cD ?_)<;>refine Y cE<|Dm ?_<;>(refine Sp 17 (fun f=>?_) fun f=>?_)<;>(first|contradiction|refine M<|M<|M<|M<|M ?_|refine J (bD mM)<|J (by exact aW Z eB sizeOf104 Z Z Z Z (by simp only[Zl,bP,bM,S_,bL];rfl) Z)<|J (bD mM)<|J (by exact aW Z eB sizeOf104 Z Z Z Z (by simp only[Zl,bP,bM,S_,bL];rfl) Z)<|J (BF Z Z Z Z Z mJ (QP _ _ _ _)) ?_)<;>refine Y cE<|Dm ?_<;>(refine Sp 24 (fun g=>?_) fun g=>?_)<;>(first|contradiction|refine M<|M<|M<|M<|M ?_|refine J (bD dY)<|J (bS aH)<|J (bD dY)<|J (bS aH)<|J (kc call312 (fp a.refs b.refs _ h.1)) ?_)<;>refine Y cE<|Dm ?_<;>(refine Sp 31 (fun e=>?_) fun e=>?_)<;>(first|contradiction|refine M<|M<|M<|M<|M ?_|refine J (bD fU)<|J (bS dC)<|J (bD fU)<|J (bS dC)<|J (kc call314 (fl a.tags b.tags _ h.2)) ?_)<;>refine Y cE<|Da ?_<;>exact Gj (h:=by(simp only[yB, *];rfl))
 exact aC<|Rt<|Qq
def ES(a b:b8):Bool:=((((decide (a.refs=b.refs)&&yB a.obj b.obj)&&decide (a.op=b.op))&&(decide (a.id=b.id)&&decide (a.other=b.other)&&decide (a.node=b.node)&&decide (a.key=b.key)))&&decide (a.val=b.val))&&(decide (a.x=b.x)&&decide (a.y=b.y))
theorem pE{a b}:ES a b=true↔a=b:=by
 cases a;cases b;simp[ES,j0,k_,ID,b8.mk.injEq]
 grind
theorem Qg(a b:b8)(H:aF)(j:a.refs.length<2^62)(i:okS a.obj):RC 295 [av (bL a),av (bL b)] (bv (ES a b)) H:=by
 refine Pu<|Bd func295 Z ntmps295<|C (kb 2)<|Y (kb 3)<|O U<|S<|aR (t:=5) (n:=14) (A_:=decide (a.refs=b.refs)&&yB a.obj b.obj) ?_ ?_
 ·all_goals refine Y (bD iK)<|Y (bS aH)<|Y (bD iK)<|Y (bS aH)<|Y (kc call312 (fp a.refs b.refs _ j))<|Dm ?_<;>(refine Sp 11 (fun g=>?_) fun g=>?_)<;>(first|contradiction|refine M<|M<|M<|M<|M ?_|refine J (bD uS)<|J (by exact aW Z bW sizeOf135 Z Z Z Z (by simp only[Zl,bP,bM,S_,bL];rfl) Z)<|J (bD uS)<|J (by exact aW Z bW sizeOf135 Z Z Z Z (by simp only[Zl,bP,bM,S_,bL];rfl) Z)<|J (kc call313 (Qf a.obj b.obj _ i)) ?_)<;>refine Y cE<|Da ?_<;>exact Gj (h:=by simp_all)
 refine S<|aR (t:=4) (n:=48) (A_:=ES a b) ?_ ?_
 ·all_goals refine Y V<|Dm ?_<;>(refine Sp 19 (fun f=>?_) fun f=>?_)<;>(first|contradiction|refine M<|M<|M<|M<|M ?_|refine J (bD iL)<|J (bS M_)<|J (bD iL)<|J (bS M_)<|J cD ?_)<;>refine Y cE<|Dm ?_<;>(refine Sp 26 (fun h26=>?_) fun h26=>?_)<;>(first|contradiction|refine M<|M<|M<|M<|M<|M<|M<|M<|M<|M<|M<|M<|M<|M<|M<|M<|M<|M<|M ?_|refine J (bD jN)<|J (bS N_)<|J (bD kG)<|J (bS N_)<|J (bD qP)<|J (bS N_)<|J (bD nR)<|J (bS N_)<|J (yW Z Wx Z Z)<|J (bD jN)<|J (bS N_)<|J (bD kG)<|J (bS N_)<|J (bD qP)<|J (bS N_)<|J (bD nR)<|J (bS N_)<|J (yW Z Wx Z Z)<|J (BF Z Z Z Z Z eqGuardType316 (aDb a.id b.id a.other b.other a.node b.node a.key b.key)) ?_)<;>refine Y cE<|Dm ?_<;>(refine Sp 47 (fun h=>?_) fun h=>?_)<;>(first|contradiction|refine M<|M<|M<|M<|M ?_|refine J (bD oM)<|J (bS N_)<|J (bD oM)<|J (bS N_)<|J wF ?_)<;>refine Y cE<|Dm ?_<;>(refine Sp 54 (fun e=>?_) fun e=>?_)<;>(first|contradiction|refine M<|M<|M<|M<|M ?_|refine J (bD jC)<|J (by exact aW Z eB sizeOf104 Z Z Z Z (by simp only[Zl,bP,bM,S_,bL];rfl) Z)<|J (bD jC)<|J (by exact aW Z eB sizeOf104 Z Z Z Z (by simp only[Zl,bP,bM,S_,bL];rfl) Z)<|J (BF Z Z Z Z Z mJ (QP _ _ _ _)) ?_)<;>refine Y cE<|Da ?_<;>exact Gj (h:=by(simp only[ES, *];rfl))
 exact aC<|Rt<|Qq
def atP{α:Type}(l:List α)(p:α->Bool)(k:Nat):Bool:=match l[k]? with
 |some s=>p s
 |none=>false
theorem TB{l}{p}{k}{s:α}(h:l[k]?=some s):atP l p k=p s:=by rw[atP,h]
theorem TW(l:List α)(p):(List.range l.length).any (atP l p)=l.any p:=by
 rw[Bool.eq_iff_iff,List.any_eq_true,List.any_eq_true];constructor
 ·rintro⟨k,a,h⟩;have b:=List.mem_range.1 a;rw[TB (m8 b)]at h;exact⟨_,List.getElem_mem _,h⟩
 rintro⟨x,c,h⟩;obtain ⟨k,a⟩:=r_.1 c;exact⟨k,List.mem_range.2 (m_.1 a).1,by rw[TB a];exact h⟩
theorem Iq(s)(H)(b:s.size<2^62):RC 311 [sv s] (bv (!cG s)) H:=by refine Pu ?_;exact Bd func311 Z ntmps311<|Sz U<|C V<|Y (bF Z Z oU Z (CQ s _ b))<|Y iT<|O U<|aC<|Rt<|Qq
theorem YV(l)(H)(d:l.length<2^62)(c:∀s∈l,s.size<2^62):RC 294 [.pv (aK l)] (bv (l.all cG)) H:=by
 refine Pu ?_;have e:l.all cG=!(List.range l.length).any (atP l (fun s=>!cG s)):=by
  rw[TW l _,List.any_eq_not_all_not];simp
 rw[e];exact Bd func294 Z ntmps294<|Sz U<|C V<|Y (kc LI (AK _ l (atP l _) (fun _=>[]) d (fun k s b=>dF.fn call311 (by rw[TB b];exact Iq s _ (c s (m7 b))))))<|Y iT<|O U<|aC<|Rt<|Qq
end Go.Proofs.YtopnleflllkbmaaGreatDoor
namespace Go.Abs
theorem eN{P}{G0}{N}{Q}{E}{H}{x y}{α:Type}(f_:α->cY×aF)(c_:α->Prop)
  (h:fZ P G0 N x (yP (fun b H1=>∃a,c_ a/\cJ G0 b H1 (f_ a).1 (f_ a).2) Q) E H) (d:∀a,c_ a->fZ P G0 N y Q (f_ a).1 (f_ a).2):fZ P G0 N (.seq x y) Q E H :=
 K4 (h.mono fun e b H1 q=>by
  cases e with
  |normal =>
   obtain ⟨a,c,f⟩:=q;exact fZ.ent f (d a c)
  |_=>exact q)
theorem BQ{i}{o}{K:aF}:∀(D:aF),(∀p∈D,p.1=i)->∀j,aF.get ((i,o)::K) j=aF.get ((i,o)::(D++K)) j:=by
 intro D b j;by_cases e:i=j
 ·subst e;simp[aF.get,pF]
 have h:aF.get D j=none:=by
  cases a:aF.get D j with
  |none=>rfl
  |some x=>exact absurd (b _ (dX a)).symm e
 rw[get_cons_other _ _ (Ne.symm e),get_cons_other _ _ (Ne.symm e),gC,h]
theorem nW{H}{x}{c}(h:∀p∈c,Clo H p.2):∀r∈(LR x c).rows,∀a∈r,Clo H a:=by
 intro r d a b;simp[LR,l7,n_,or_false]at d;rcases d with rfl|rfl
 ·rw[q_]at b;subst b;simp
 obtain ⟨p,e,rfl⟩:=List.mem_map.1 b;exact h p e
def KE(A B:aF):List Nat->Prop
 | []=>True
 |j::r=>A.get j=B.get j/\KE A B r
theorem KE.spec{A B}:∀ {l},KE A B l->∀j∈l,A.get j=B.get j
 |i::r,h,j,a=>by
  rcases l7.1 a with rfl|a
  ·exact h.1
  exact KE.spec h.2 j a
theorem uo{D:aF}{j}(h:j∉D.map (·.1)):D.get j=none:=by
 cases a:D.get j with
 |none=>rfl
 |some o=>exact absurd (List.mem_map.2 ⟨_,dX a,Z⟩) h
theorem ew(A B){K}(h:KE A B (A.map (·.1)++B.map (·.1)))(j):aF.get (A++K) j=aF.get (B++K) j:=by
 rw[gC,gC];have e:A.get j=B.get j:=by
  by_cases a:j∈A.map (·.1)++B.map (·.1)
  ·exact h.spec j a
  rw[List.mem_append,not_or]at a;rw[uo a.1,uo a.2]
 rw[e]
end Go.Abs
namespace Go.Proofs.YtopnleflllkbmaaGreatDoor
open Go.Proofs.Tryz
open Go.Abs
variable{α:Type}
def FH(e:b8):b8 :=if e.op=1 then⟨e.op,a6,a6,a6,0,0,a6,a6,[],e.obj⟩
 else if e.op=2 then⟨e.op,e.id,a6,a6,e.x,e.y,a6,a6,[],g_⟩
 else if e.op=3 then⟨e.op,e.id,a6,a6,0,0,e.key,e.val,[],g_⟩
 else if e.op=4 then⟨e.op,e.id,a6,a6,0,0,a6,a6,e.refs,g_⟩
 else if e.op=5 then⟨e.op,e.id,a6,a6,0,0,a6,a6,[],g_⟩
 else if e.op=6 then⟨e.op,e.id,e.other,e.node,0,0,a6,a6,[],g_⟩
 else⟨e.op,e.id,e.other,a6,0,0,a6,a6,[],g_⟩
def wI(e:b8):Bool :=if e.op=1 then oH e.obj
 else cG e.id&&(if e.op=2 then mf e.x e.y else if e.op=3 then cG e.key&&decide ((e.val.size:Int)<=200)
  else if e.op=4 then decide ((0:Int)<(e.refs.length:Int))&&decide ((e.refs.length:Int)<=2000)&&e.refs.all cG
  else if e.op=5 then true else if e.op=6 then cG e.node&&cG e.other else cG e.other)
def fT(e:b8):Bool:=(decide (1<=e.op)&&decide (e.op<=7))&&(wI e&&ES (FH e) e)
def UB(e:b8):Prop:=(e.id.size<2^62/\e.other.size<2^62/\e.node.size<2^62/\e.key.size<2^62)/\(e.refs.length<2^62/\∀s∈e.refs,s.size<2^62)/\iq e.obj
theorem Zw{o:j_}(h:iq o):okS o:=⟨h.2.2.1,h.2.1.1⟩
theorem VS:okS g_:=⟨E_,E_⟩
theorem Tc(s:B_)(H:aF)(hs:s.size<2^62):RC 294 [.pv (aK [s])] (bv (cG s)) H:=by
 have h:=YV [s] H (by show 1<_;omega) (by simpa using hs)
 simpa using h
theorem aDt(s t:B_)(H:aF)(hs:s.size<2^62)(ht:t.size<2^62):RC 294 [.pv (aK [s,t])] (bv (cG s&&cG t)) H:=by
 have h:=YV [s,t] H (by show 2<_;omega) (by simpa using ⟨hs,ht⟩)
 simpa using h
theorem fq(e:b8)(H:aF)(he:UB e):RC 259 [av (bL e)] (bv (fT e)) H:=by
 refine Pu ?_;obtain ⟨⟨h1,h2,h3,h4⟩,⟨h5,h6⟩,h7⟩:=he;have hrl:(e.refs.map S_).length=e.refs.length:=h_ _;have hg:fT e=((decide (1<=e.op)&&decide (e.op<=7))&&(wI e&&ES (FH e) e)):=rfl;obtain ⟨x,hX⟩:∃x,x=FH e:=X_;obtain ⟨k,hK⟩:∃k,k=wI e:=X_;rw[<-hX,<-hK]at hg;refine Bd func259 Z ntmps259<|C (kb 1)<|O U<|C (bD iL)<|Y (bS M_)<|Y (bD jN)<|Y (bS N_)<|Y (oO tQ)<|Y (kl 3 UM)<|Uu (iU aZ)<|Zz<|C (bD jN)<|Y (bS N_)<|Y (aL ([e.id].map S_) Z bH Z Z Z Z Z (by simp[S_]))<|Y (kc GQ (Tc e.id _ h1))<|Da<|eN (fun(_:Unit)=>([(1,.ref 1 0 0 0),(3,.ref 3 0 0 0),(4,bv k)],[(3,bx 15 137 ((bL x).map .pv)),(1,bx 15 137 ((bL e).map .pv))])) (fun _=>(1<=e.op/\e.op<=7)/\x.refs.length<2^62/\okS x.obj) ?_ ?_
 ·refine C (bD iL)<|O (bS M_)<|aD<|C cD<|Da<|Cn ?_ ?_<;>intro hc1
  ·have ho:e.op=1:=b9 hc1;obtain ⟨hx,hk⟩:x=⟨e.op,a6,a6,a6,0,0,a6,a6,[],e.obj⟩/\k=oH e.obj:=by subst hX hK;simp[FH,wI,mf,ho,Bool.and_assoc]
   rw[hx,hk];refine aN a7<|Cr [1] (fun _ h=>fh uS h)<|Cr [1] (fun H1 hH=>by exact aW Z bW sizeOf135 Z ((hH _ Z).trans Z) Z Z (by simp only[Zl,bP,bM,S_,bL,g_];rfl) Z)<|Cr [1] (fun _ h=>fh uS h)<|Cr [1] (fun H1 hH=>by exact aW Z bW sizeOf135 Z ((hH _ Z).trans Z) Z Z (by simp only[Zl,bP,bM,S_,bL,g_];rfl) Z)<|Cr [] (fun H1 hH=>by exact bF Z Z call286 Z (RW e.obj _ h7))<|Cr [3] (fun _ h=>fh jN h)<|Cp [3] (fun _ h=>su V_ h)<|Cr [3] (fun _ h=>fh uS h)<|Cp [3] (fun _ h=>sx sizeOf135 h)<|Cr [] (fun _ _=>U) ?_;refine bJ<|Kr ?_;exact⟨(),⟨⟨X,X⟩,(Nat.zero_lt_succ _),Zw h7⟩,Wk⟩
  have ho1:¬ e.op=1:=b_ hc1;refine C cD<|Da<|Cn ?_ ?_<;>intro hc2
  ·have ho:e.op=2:=b9 hc2;obtain ⟨hx,hk⟩:x=⟨e.op,e.id,a6,a6,e.x,e.y,a6,a6,[],g_⟩/\k=(cG e.id&&decide (0<=min e.x e.y)&&decide (max e.x e.y<1048576)):=by subst hX hK;simp[FH,wI,mf,ho,Bool.and_assoc]
   rw[hx,hk];apply yJ (t:=4) (n:=25) (A_:=(cG e.id&&decide (0<=min e.x e.y)&&decide (max e.x e.y<1048576)))
   ·cases hg30:(cG e.id:Bool)
    ·refine aN a7<|Cr [1] (fun _ h=>fh jC h)<|Cr [1] (fun H1 hH=>by exact aW Z eB sizeOf104 Z ((hH _ Z).trans Z) Z Z (by simp only[Zl,bP,bM,S_,bL,g_];rfl) Z)<|Cr [] (fun _ _=>V)<|Cr [] (fun _ _=>V)<|Ot<|Ot<|Ot<|Ot<|Ot<|Ot<|Ot<|Ot<|Cr [] (fun _ _=>cE)<|Cr [] (fun _ _=>V)<|Ot<|Ot<|Ot<|Ot<|Ot<|Ot<|Ot<|Ot<|Cr [] (fun _ _=>cE)<|Cr [3] (fun _ h=>fh jC h)<|Cp [3] (fun _ h=>sx sizeOf104 h)<|Cr [] (fun _ _=>U)<|bJ<|Kr ?_;exact⟨Z,⟨_,Z,by rfl⟩,Z,Z,Z⟩
    cases hg40:(decide (0<=min e.x e.y):Bool)
    ·refine aN a7<|Cr [1] (fun _ h=>fh jC h)<|Cr [1] (fun H1 hH=>by exact aW Z eB sizeOf104 Z ((hH _ Z).trans Z) Z Z (by simp only[Zl,bP,bM,S_,bL,g_];rfl) Z)<|Cr [] (fun _ _=>V)<|Cr [] (fun _ _=>V)<|Lt [1] (fun _ h=>fh jC h)<|Lt [1] (fun _ h=>fh mO h)<|Lt [1] (fun _ h=>lh M_ h)<|Lt [1] (fun _ h=>fh jC h)<|Lt [1] (fun _ h=>fh mN h)<|Lt [1] (fun _ h=>lh M_ h)<|Lt [] (fun H1 hH=>by exact CN Z Z Z Z)<|Lt [] (fun H1 hH=>by exact jK Z Z Z) ?_;refine Cr [] (fun _ _=>cE)<|Cr [] (fun _ _=>V)<|Ot<|Ot<|Ot<|Ot<|Ot<|Ot<|Ot<|Ot<|Cr [] (fun _ _=>vP)<|Cr [3] (fun _ h=>fh jC h)<|Cp [3] (fun _ h=>sx sizeOf104 h)<|Cr [] (fun _ _=>U)<|bJ<|Kr ?_;exact⟨Z,⟨_,Z,by rfl⟩,Z,Z,Z⟩
    refine aN a7<|Cr [1] (fun _ h=>fh jC h)<|Cr [1] (fun H1 hH=>by exact aW Z eB sizeOf104 Z ((hH _ Z).trans Z) Z Z (by simp only[Zl,bP,bM,S_,bL,g_];rfl) Z)<|Cr [] (fun _ _=>V)<|Cr [] (fun _ _=>V)<|Lt [1] (fun _ h=>fh jC h)<|Lt [1] (fun _ h=>fh mO h)<|Lt [1] (fun _ h=>lh M_ h)<|Lt [1] (fun _ h=>fh jC h)<|Lt [1] (fun _ h=>fh mN h)<|Lt [1] (fun _ h=>lh M_ h)<|Lt [] (fun H1 hH=>by exact CN Z Z Z Z)<|Lt [] (fun H1 hH=>by exact jK Z Z Z) ?_;refine Cr [] (fun _ _=>cE)<|Cr [] (fun _ _=>V)<|Lt [1] (fun _ h=>fh jC h)<|Lt [1] (fun _ h=>fh mO h)<|Lt [1] (fun _ h=>lh M_ h)<|Lt [1] (fun _ h=>fh jC h)<|Lt [1] (fun _ h=>fh mN h)<|Lt [1] (fun _ h=>lh M_ h)<|Lt [] (fun H1 hH=>by exact Sf Z Z Z Z)<|Lt [] (fun H1 hH=>by exact iA Z Z Z) ?_;refine Cr [] (fun _ _=>CK)<|Cr [3] (fun _ h=>fh jC h)<|Cp [3] (fun _ h=>sx sizeOf104 h)<|Cr [] (fun _ _=>U)<|bJ<|Kr ?_;exact⟨Z,⟨_,Z,by rfl⟩,Z,Z,Z⟩
   exact⟨(),⟨⟨X,X⟩,(Nat.zero_lt_succ _),VS⟩,Wk⟩
  have ho2:¬ e.op=2:=b_ hc2;refine C cD<|Da<|Cn ?_ ?_<;>intro hc3
  ·have ho:e.op=3:=b9 hc3;obtain ⟨hx,hk⟩:x=⟨e.op,e.id,a6,a6,0,0,e.key,e.val,[],g_⟩/\k=(cG e.id&&cG e.key&&decide ((e.val.size:Int)<=200)):=by subst hX hK;simp[FH,wI,mf,ho,Bool.and_assoc]
   rw[hx,hk];apply yJ (t:=4) (n:=20) (A_:=(cG e.id&&cG e.key&&decide ((e.val.size:Int)<=200)))
   ·cases hg58:(cG e.id:Bool)
    ·refine aN a7<|Cr [1] (fun _ h=>fh nR h)<|Cr [1] (fun _ h=>lh N_ h)<|Cr [1] (fun _ h=>fh oM h)<|Cr [1] (fun _ h=>lh N_ h)<|Cr [] (fun _ _=>V)<|Cr [] (fun _ _=>V)<|Ot<|Ot<|Ot<|Ot<|Cr [] (fun _ _=>cE)<|Cr [] (fun _ _=>V)<|Ot<|Ot<|Ot<|Ot<|Cr [] (fun _ _=>cE)<|Cr [3] (fun _ h=>fh nR h)<|Cp [3] (fun _ h=>su V_ h)<|Cr [3] (fun _ h=>fh oM h)<|Cp [3] (fun _ h=>su V_ h)<|Cr [] (fun _ _=>U)<|bJ<|Kr ?_;exact⟨Z,⟨_,Z,by rfl⟩,Z,Z,Z⟩
    cases hg64:(cG e.key:Bool)
    ·refine aN a7<|Cr [1] (fun _ h=>fh nR h)<|Cr [1] (fun _ h=>lh N_ h)<|Cr [1] (fun _ h=>fh oM h)<|Cr [1] (fun _ h=>lh N_ h)<|Cr [] (fun _ _=>V)<|Cr [] (fun _ _=>V)<|Lt [1] (fun _ h=>fh nR h)<|Lt [1] (fun _ h=>lh N_ h)<|Lt [] (fun H1 hH=>by exact aL ([e.key].map S_) Z bH Z Z Z Z Z (by simp[S_]))<|Lt [] (fun H1 hH=>by exact bF Z Z GQ Z (Tc e.key _ h4)) ?_;refine Cr [] (fun _ _=>cE)<|Cr [] (fun _ _=>V)<|Ot<|Ot<|Ot<|Ot<|Cr [] (fun _ _=>vP)<|Cr [3] (fun _ h=>fh nR h)<|Cp [3] (fun _ h=>su V_ h)<|Cr [3] (fun _ h=>fh oM h)<|Cp [3] (fun _ h=>su V_ h)<|Cr [] (fun _ _=>U)<|bJ<|Kr ?_;exact⟨Z,⟨_,Z,by rfl⟩,Z,Z,Z⟩
    refine aN a7<|Cr [1] (fun _ h=>fh nR h)<|Cr [1] (fun _ h=>lh N_ h)<|Cr [1] (fun _ h=>fh oM h)<|Cr [1] (fun _ h=>lh N_ h)<|Cr [] (fun _ _=>V)<|Cr [] (fun _ _=>V)<|Lt [1] (fun _ h=>fh nR h)<|Lt [1] (fun _ h=>lh N_ h)<|Lt [] (fun H1 hH=>by exact aL ([e.key].map S_) Z bH Z Z Z Z Z (by simp[S_]))<|Lt [] (fun H1 hH=>by exact bF Z Z GQ Z (Tc e.key _ h4)) ?_;refine Cr [] (fun _ _=>cE)<|Cr [] (fun _ _=>V)<|Lt [1] (fun _ h=>fh oM h)<|Lt [1] (fun _ h=>lh N_ h)<|Lt [] (fun H1 hH=>by exact NP Z U_ Z)<|Lt [] (fun H1 hH=>by exact pJ Z Z Z) ?_;refine Cr [] (fun _ _=>CK)<|Cr [3] (fun _ h=>fh nR h)<|Cp [3] (fun _ h=>su V_ h)<|Cr [3] (fun _ h=>fh oM h)<|Cp [3] (fun _ h=>su V_ h)<|Cr [] (fun _ _=>U)<|bJ<|Kr ?_;exact⟨Z,⟨_,Z,by rfl⟩,Z,Z,Z⟩
   exact⟨(),⟨⟨X,X⟩,(Nat.zero_lt_succ _),VS⟩,Wk⟩
  have ho3:¬ e.op=3:=b_ hc3;refine C cD<|Da<|Cn ?_ ?_<;>intro hc4
  ·have ho:e.op=4:=b9 hc4;obtain ⟨hx,hk⟩:x=⟨e.op,e.id,a6,a6,0,0,a6,a6,e.refs,g_⟩/\k=(cG e.id&&decide ((0:Int)<((e.refs.map S_).length:Int))&&decide (((e.refs.map S_).length:Int)<=2000)&&e.refs.all cG):=by subst hX hK;simp[FH,wI,mf,ho,Bool.and_assoc]
   rw[hx,hk];apply yJ (t:=4) (n:=22) (A_:=(cG e.id&&decide ((0:Int)<((e.refs.map S_).length:Int))&&decide (((e.refs.map S_).length:Int)<=2000)&&e.refs.all cG))
   ·cases hg77:(cG e.id:Bool)
    ·refine aN a7<|Cr [1] (fun _ h=>fh iK h)<|Cr [1] (fun _ h=>lh aH h)<|Cr [] (fun _ _=>V)<|Cr [] (fun _ _=>V)<|Ot<|Ot<|Ot<|Ot<|Cr [] (fun _ _=>cE)<|Cr [] (fun _ _=>V)<|Ot<|Ot<|Ot<|Ot<|Cr [] (fun _ _=>cE)<|Cr [] (fun _ _=>V)<|Ot<|Ot<|Ot<|Cr [] (fun _ _=>cE)<|Cr [3] (fun _ h=>fh iK h)<|Cp [3] (fun _ h=>su sizeOf22 h)<|Cr [] (fun _ _=>U)<|bJ<|Kr ?_;exact⟨Z,⟨_,Z,by rfl⟩,Z,Z,Z⟩
    cases hg83:(decide ((0:Int)<((e.refs.map S_).length:Int)):Bool)
    ·refine aN a7<|Cr [1] (fun _ h=>fh iK h)<|Cr [1] (fun _ h=>lh aH h)<|Cr [] (fun _ _=>V)<|Cr [] (fun _ _=>V)<|Lt [1] (fun _ h=>fh iK h)<|Lt [1] (fun _ h=>lh aH h)<|Lt [] (fun H1 hH=>by exact kR Z aE Z)<|Lt [] (fun H1 hH=>by exact J5 Z Z Z) ?_;refine Cr [] (fun _ _=>cE)<|Cr [] (fun _ _=>V)<|Ot<|Ot<|Ot<|Ot<|Cr [] (fun _ _=>vP)<|Cr [] (fun _ _=>V)<|Ot<|Ot<|Ot<|Cr [] (fun _ _=>cE)<|Cr [3] (fun _ h=>fh iK h)<|Cp [3] (fun _ h=>su sizeOf22 h)<|Cr [] (fun _ _=>U)<|bJ<|Kr ?_;exact⟨Z,⟨_,Z,by rfl⟩,Z,Z,Z⟩
    cases hg89:(decide (((e.refs.map S_).length:Int)<=2000):Bool)
    ·refine aN a7<|Cr [1] (fun _ h=>fh iK h)<|Cr [1] (fun _ h=>lh aH h)<|Cr [] (fun _ _=>V)<|Cr [] (fun _ _=>V)<|Lt [1] (fun _ h=>fh iK h)<|Lt [1] (fun _ h=>lh aH h)<|Lt [] (fun H1 hH=>by exact kR Z aE Z)<|Lt [] (fun H1 hH=>by exact J5 Z Z Z) ?_;refine Cr [] (fun _ _=>cE)<|Cr [] (fun _ _=>V)<|Lt [1] (fun _ h=>fh iK h)<|Lt [1] (fun _ h=>lh aH h)<|Lt [] (fun H1 hH=>by exact kR Z aE Z)<|Lt [] (fun H1 hH=>by exact pJ Z Z Z) ?_;refine Cr [] (fun _ _=>CK)<|Cr [] (fun _ _=>V)<|Ot<|Ot<|Ot<|Cr [] (fun _ _=>vP)<|Cr [3] (fun _ h=>fh iK h)<|Cp [3] (fun _ h=>su sizeOf22 h)<|Cr [] (fun _ _=>U)<|bJ<|Kr ?_;exact⟨Z,⟨_,Z,by rfl⟩,Z,Z,Z⟩
    refine aN a7<|Cr [1] (fun _ h=>fh iK h)<|Cr [1] (fun _ h=>lh aH h)<|Cr [] (fun _ _=>V)<|Cr [] (fun _ _=>V)<|Lt [1] (fun _ h=>fh iK h)<|Lt [1] (fun _ h=>lh aH h)<|Lt [] (fun H1 hH=>by exact kR Z aE Z)<|Lt [] (fun H1 hH=>by exact J5 Z Z Z) ?_;refine Cr [] (fun _ _=>cE)<|Cr [] (fun _ _=>V)<|Lt [1] (fun _ h=>fh iK h)<|Lt [1] (fun _ h=>lh aH h)<|Lt [] (fun H1 hH=>by exact kR Z aE Z)<|Lt [] (fun H1 hH=>by exact pJ Z Z Z) ?_;refine Cr [] (fun _ _=>CK)<|Cr [] (fun _ _=>V)<|Lt [1] (fun _ h=>fh iK h)<|Lt [1] (fun _ h=>lh aH h)<|Lt [] (fun H1 hH=>by exact bF Z Z GQ Z (YV e.refs _ h5 h6)) ?_;refine Cr [] (fun _ _=>CK)<|Cr [3] (fun _ h=>fh iK h)<|Cp [3] (fun _ h=>su sizeOf22 h)<|Cr [] (fun _ _=>U)<|bJ<|Kr ?_;exact⟨Z,⟨_,Z,by rfl⟩,Z,Z,Z⟩
   exact⟨(),⟨⟨X,X⟩,h5,VS⟩,Wk⟩
  have ho4:¬ e.op=4:=b_ hc4;refine C cD<|Da<|Cn ?_ ?_<;>intro hc5
  ·have ho:e.op=5:=b9 hc5;obtain ⟨hx,hk⟩:x=⟨e.op,e.id,a6,a6,0,0,a6,a6,[],g_⟩/\k=cG e.id:=by subst hX hK;simp[FH,wI,mf,ho,Bool.and_assoc]
   rw[hx,hk];refine aA ?_;exact⟨(),⟨⟨X,X⟩,(Nat.zero_lt_succ _),VS⟩,Wk⟩
  have ho5:¬ e.op=5:=b_ hc5;refine C cD<|Da<|Cn ?_ ?_<;>intro hc6
  ·have ho:e.op=6:=b9 hc6;obtain ⟨hx,hk⟩:x=⟨e.op,e.id,e.other,e.node,0,0,a6,a6,[],g_⟩/\k=(cG e.id&&(cG e.node&&cG e.other)):=by subst hX hK;simp[FH,wI,mf,ho,Bool.and_assoc]
   rw[hx,hk];apply yJ (t:=4) (n:=16) (A_:=(cG e.id&&(cG e.node&&cG e.other)))
   ·cases hg104:(cG e.id:Bool)
    ·refine aN a7<|Cr [1] (fun _ h=>fh qP h)<|Cr [1] (fun _ h=>lh N_ h)<|Cr [1] (fun _ h=>fh kG h)<|Cr [1] (fun _ h=>lh N_ h)<|Cr [] (fun _ _=>V)<|Cr [] (fun _ _=>V)<|Ot<|Ot<|Ot<|Ot<|Ot<|Ot<|Cr [] (fun _ _=>cE)<|Cr [3] (fun _ h=>fh qP h)<|Cp [3] (fun _ h=>su V_ h)<|Cr [3] (fun _ h=>fh kG h)<|Cp [3] (fun _ h=>su V_ h)<|Cr [] (fun _ _=>U)<|bJ<|Kr ?_;exact⟨Z,⟨_,Z,by rfl⟩,Z,Z,Z⟩
    refine aN a7<|Cr [1] (fun _ h=>fh qP h)<|Cr [1] (fun _ h=>lh N_ h)<|Cr [1] (fun _ h=>fh kG h)<|Cr [1] (fun _ h=>lh N_ h)<|Cr [] (fun _ _=>V)<|Cr [] (fun _ _=>V)<|Lt [1] (fun _ h=>fh qP h)<|Lt [1] (fun _ h=>lh N_ h)<|Lt [1] (fun _ h=>fh kG h)<|Lt [1] (fun _ h=>lh N_ h)<|Lt [] (fun H1 hH=>by exact aL ([e.node,e.other].map S_) Z bH Z Z Z Z Z (by simp[S_]))<|Lt [] (fun H1 hH=>by exact bF Z Z GQ Z (aDt e.node e.other _ h3 h2)) ?_;refine Cr [] (fun _ _=>cE)<|Cr [3] (fun _ h=>fh qP h)<|Cp [3] (fun _ h=>su V_ h)<|Cr [3] (fun _ h=>fh kG h)<|Cp [3] (fun _ h=>su V_ h)<|Cr [] (fun _ _=>U)<|bJ<|Kr ?_;exact⟨Z,⟨_,Z,by rfl⟩,Z,Z,Z⟩
   exact⟨(),⟨⟨X,X⟩,(Nat.zero_lt_succ _),VS⟩,Wk⟩
  have ho6:¬ e.op=6:=b_ hc6;refine C cD<|Da<|Cn ?_ ?_<;>intro hc7
  ·have ho:e.op=7:=b9 hc7;obtain ⟨hx,hk⟩:x=⟨e.op,e.id,e.other,a6,0,0,a6,a6,[],g_⟩/\k=(cG e.id&&cG e.other):=by subst hX hK;simp[FH,wI,mf,ho,Bool.and_assoc]
   rw[hx,hk];apply yJ (t:=4) (n:=11) (A_:=(cG e.id&&cG e.other))
   ·cases hg119:(cG e.id:Bool)
    ·refine aN a7<|Cr [1] (fun _ h=>fh kG h)<|Cr [1] (fun _ h=>lh N_ h)<|Cr [] (fun _ _=>V)<|Cr [] (fun _ _=>V)<|Ot<|Ot<|Ot<|Ot<|Cr [] (fun _ _=>cE)<|Cr [3] (fun _ h=>fh kG h)<|Cp [3] (fun _ h=>su V_ h)<|Cr [] (fun _ _=>U)<|bJ<|Kr ?_;exact⟨Z,⟨_,Z,by rfl⟩,Z,Z,Z⟩
    refine aN a7<|Cr [1] (fun _ h=>fh kG h)<|Cr [1] (fun _ h=>lh N_ h)<|Cr [] (fun _ _=>V)<|Cr [] (fun _ _=>V)<|Lt [1] (fun _ h=>fh kG h)<|Lt [1] (fun _ h=>lh N_ h)<|Lt [] (fun H1 hH=>by exact aL ([e.other].map S_) Z bH Z Z Z Z Z (by simp[S_]))<|Lt [] (fun H1 hH=>by exact bF Z Z GQ Z (Tc e.other _ h2)) ?_;refine Cr [] (fun _ _=>cE)<|Cr [3] (fun _ h=>fh kG h)<|Cp [3] (fun _ h=>su V_ h)<|Cr [] (fun _ _=>U)<|bJ<|Kr ?_;exact⟨Z,⟨_,Z,by rfl⟩,Z,Z,Z⟩
   exact⟨(),⟨⟨X,X⟩,(Nat.zero_lt_succ _),VS⟩,Wk⟩
  have ho7:¬ e.op=7:=b_ hc7;refine Sz U<|aC<|Rt ?_;refine⟨?_,Z⟩;rw[hg];rcases(by omega:e.op<1\/7<e.op)with h|h
  ·rw[decide_eq_false X];rfl
  rw[decide_eq_false (p:=e.op<=7) X,Bool.and_false];rfl
 rintro _ ⟨⟨o1,o7⟩,hr,hs⟩;rw[decide_eq_true o1,decide_eq_true o7]at hg;refine S<|aR (t:=2) (n:=8) (A_:=k&&ES x e) ?_ ?_
 ·all_goals refine Y V<|Dm ?_<;>(refine Sp 127 (fun h127=>?_) fun h127=>?_)<;>(first|contradiction|refine M<|M<|M ?_|refine J (by exact aW Z cT aZ Z Z Z Z (by simp only[Zl,bP,bM,S_,bL,g_];rfl) Z)<|J (by exact aW Z cT aZ Z Z Z Z (by simp only[Zl,bP,bM,S_,bL,g_];rfl) Z)<|J (kc call295 (Qg x e _ hr hs)) ?_)<;>refine Y cE<|Da ?_<;>exact Gj (h:=by(rw[h127];rfl))
 refine aC<|Rt ?_;exact⟨by rw[hg];rfl,Z⟩
theorem S2(e:b8)(H:aF)(he:UB e):RC 258 [av (bL e)] (bv (!fT e)) H:=by refine Pu ?_;exact Bd func258 Z ntmps258<|C (kb 1)<|O U<|C (by exact aW Z cT aZ Z Z Z Z (by simp only[Zl,bP,bM,S_,bL,g_];rfl) Z)<|Y (kc call259 (fq e _ he))<|Y iT<|O U<|aC<|Rt<|Qq
def lD(l:List b8):Bool:=decide ((0:Int)<(l.length:Int))&&decide ((l.length:Int)<=200)&&!(l.any (fun e=>!fT e))
theorem UK(l:List b8)(H:aF)(hl:l.length<2^62)(he:∀e∈l,UB e):RC 206 [.pv (jZ l)] (bv (lD l)) H:=by
 refine Pu ?_;have hml:(l.map bL).length=l.length:=h_ _;refine Bd func206 Z ntmps206<|Sz U<|S<|aR (t:=2) (n:=16) (A_:=decide ((0:Int)<((l.map bL).length:Int))&&decide (((l.map bL).length:Int)<=200)&&!(l.any (fun e=>!fT e))) ?_ ?_
 ·all_goals refine Y V<|Y (fV eS)<|Y iY<|Dm ?_<;>(refine Sp 6 (fun h6=>?_) fun h6=>?_)<;>(first|contradiction|refine M<|M<|M ?_|refine J V<|J (fV eS)<|J IA ?_)<;>refine Y cE<|Dm ?_<;>(refine Sp 11 (fun h11=>?_) fun h11=>?_)<;>(first|contradiction|refine M<|M<|M ?_|refine J V<|J (kc call257 (IQ (.pv (.fn 258)) l (fun e=>!fT e) _ hl (fun e h=>dF.fn call258 (S2 e _ (he e h)))))<|J iT ?_)<;>refine Y cE<|Da ?_<;>exact Gj (h:=by first|(simp_all;done)|(simp_all;omega))
 refine aC<|Rt ?_;exact⟨by rw[lD,hml],Z⟩
theorem Fin.slice0{H1}{id g n}{ob}(ps)(b:H1.get id=some ob)(c:ob.g=g)(a:ob.rows=ps.map (·.map .pv))(d:ps.length=n):
  Fin [] H1 (.osl id g 0 n) [] (.pv (.sl ps)):=by
 subst c d;exact Fin.fz _ b a (.osl H_) Z T_ T_
theorem X5(l:List _):∀r∈l.map S_,r.length=1:=fun r a=>by
 obtain ⟨t,_,rfl⟩:=List.mem_map.1 a;rfl
theorem SH(n:Nat)(H:aF)(l:H.get 904=none)(g:H.get 905=none)(i:dD H)(hn:n<2^40):
  aS Tryz.prog 93 [.pv .nils,iv (n:Int)] H (fun r H'=>r=.osl 905 1 0 0/\H'=(905,⟨1,1,9,[]⟩)::H):=by
 refine Bd func93 Z ntmps93 ?_;by_cases k:n=0
 ·subst k;refine S9 (t:=0) (id:=905) (sz:=1) (ty:=9) Z g rfl<|Sz U<|S<|C V<|O cM<|Cn ?_ ?_<;>intro f
  ·have h:=b9 f;omega
  refine aA<|S<|C V<|Y V<|Y (by exact EH Z aE Z Z Z)<|Y V<|Y (by exact EG Z aE Z Z Z)<|Y (by exact dP Z Z Z (by exact qD (by omega) (by omega)))<|Y (by exact dP Z Z Z (by exact qD (by omega) (by omega)))<|O U<|C V<|O iY<|Cn ?_ ?_<;>intro e
  ·have h:=b9 e;omega
  refine aA<|S<|XB (t:=0) Z Z Z (by decide)<|Rd V<|O U<|aC ?_;refine cR (H':=((905,⟨1,1,9,[]⟩)::H)) (.inr Z) Z (aJ Z) ((Fin.bump (g:=0) (k:=1) Z Z (by decide) Z Z Z).trans (Fin.get' (fun j=>wQ _ _ _ _ j))) ?_;exact Qq
 refine S9 (t:=0) (id:=904) (sz:=1) (ty:=9) Z l Z ?_;have d:aF.get ((904,(⟨0,1,9,[]⟩:Ob))::H) 905=none:=g;refine Sz U<|S<|C V<|O cM<|Cn ?_ ?_<;>intro c
 ·have h:=b9 c;omega
 refine aA<|S<|C V<|Y V<|Y (by exact EH Z aE Z Z Z)<|Y V<|Y (by exact EG Z aE Z Z Z)<|Y (by exact dP Z Z Z (by exact qD (by omega) (by omega)))<|Y (by exact dP Z Z Z (by exact qD (by omega) (by omega)))<|O U<|C V<|O iY<|Cn ?_ ?_<;>intro b
 ·refine Rd V<|Y V<|Y (by exact EH Z aE Z Z Z)<|Y (by exact Z9 (l:=0) (h:=0) Z bH Z Z Z Z Z Z (j6 _) (j6 _) Z Z Z)<|Y V<|Y (by exact PT (id2:=905) (m:=n) Z bH underlying3 xE Oc Z Z Z Z Z (j6 _) Z (by omega) (by omega) (by omega) (r7 _) (by omega) d Z)<|Y V<|Y (by exact EG Z aE Z Z Z)<|Y (by exact kJ (l:=0) (h:=0) Z bH Z Z Z Z Z Z (j6 _) (by omega) Z Z)<|O U<|C V<|O U<|aC ?_;refine cR (H':=((905,⟨1,1,9,[]⟩)::H)) (.inr Z) Z (aJ Z) ((Fin.trunc (g:=0) (k:=1) (sz:=1) (ty:=9) (rows:=[]) Z Z (by decide) Z Z (List.take_zero)).trans (Fin.front' [_,_,_] [(905,⟨1,1,9,[]⟩)] (by simp;rfl) (by simp_all) (by simp[aF.get]) (by simp) i (by simp_all))) ?_;exact Qq
 have h:=b_ b;omega
theorem kO(ls:List (List B_))(H:aF)(hls:ls.length<2^40)(v:ls.flatten.length<2^40):
  RC 47 [.pv (.sl (ls.map (fun l=>[.sl (l.map S_)])))] (.pv (.sl (ls.flatten.map S_))) H:=by
 refine Pu ?_;have hml:(ls.map (fun l=>[PV.sl (l.map S_)])).length=ls.length:=h_ _;have e:∀k,((ls.take k).flatten).length<=ls.flatten.length:=fun k=>by
  conv=>rhs;rw[<-List.take_append_drop k ls,List.flatten_append,j9]
  omega
 have j:∀k l,ls[k]?=some l->(ls.take (k+1)).flatten=(ls.take k).flatten++l:=fun k l h=>by
  rw[List.take_add_one,h,List.flatten_append];simp
 refine Bd func47 Z ntmps47<|Sz U<|Sz U<|S<|C V<|Y (fV tH)<|O V<|aD<|bC (σ:=Nat) (fun k=>([(0,.pv (.sl (ls.map (fun l=>[.sl (l.map S_)])))),(3,iv (((ls.take k).flatten).length:Int)),(9,.pv (.sl (ls.map (fun l=>[.sl (l.map S_)])))),(10,iv ((ls.map (fun l=>[PV.sl (l.map S_)])).length:Int)),(11,iv (k:Int))],[])) (fun k=>k<=ls.length) (fun k=>ls.length - k) 0 X ?_ ?_
 ·exact E0
 intro k y;refine Sz cM<|S<|Cn ?_ ?_<;>intro m
 ·have i:k<ls.length:=I_ m
  obtain ⟨l,o⟩:=aU i;have w:=cC (f:=fun l=>[PV.sl (l.map S_)]) o;have d:(l.map S_).length=l.length:=h_ _;have s:=j k l o;have x:=e (k+1);have t:((ls.take (k+1)).flatten).length=((ls.take k).flatten).length+l.length:=F_
  have u:IntKind.i64.wrap ((((ls.take k).flatten).length:Int)+((l.map S_).length:Int))=(((ls.take (k+1)).flatten).length:Int):=by rw[IntKind.wrap_i64,d,t];omega
  refine aA<|S<|aD<|C (iM GH)<|Y (fY aH)<|O U<|C V<|Y V<|Y (fV aE)<|Y (ka u)<|O U<|C V<|O cM<|Cn ?_ ?_<;>intro q
  ·have h:=b9 q;omega
  refine aA<|Rd gT<|O V ?_;exact⟨k+1,X,X,E0⟩
 have f:k=ls.length:=J_ m
 subst f;rw[List.take_length];refine aP<|C V<|Y (J0 Z Z call93 Z (SH ls.flatten.length [] Z Z (dD.of H_) v))<|O U<|S<|C V<|Y (fV tH)<|O V<|aD<|fR (fun(k:Nat) (g:Nat)=>([(6,.osl 905 g 0 ((ls.take k).flatten.map S_).length),(25,.pv (.sl (ls.map (fun l=>[.sl (l.map S_)])))),(26,iv ((ls.map (fun l=>[PV.sl (l.map S_)])).length:Int)),(27,iv (k:Int))],[(905,⟨g,1,9,No ((ls.take k).flatten.map S_)⟩)])) (fun k g=>k<=ls.length) (fun k g=>ls.length - k) 0 1 X ?_ ?_
 ·exact E0
 intro k g y;refine Sz cM<|S<|Cn ?_ ?_<;>intro n
 ·have i:k<ls.length:=I_ n
  obtain ⟨l,o⟩:=aU i;have w:=cC (f:=fun l=>[PV.sl (l.map S_)]) o;have d:(l.map S_).length=l.length:=h_ _;have hml3:((ls.take k).flatten.map S_).length=((ls.take k).flatten).length:=h_ _;have s:=j k l o;have x:=e (k+1);have t:((ls.take (k+1)).flatten).length=((ls.take k).flatten).length+l.length:=F_
  refine aA<|S<|aD<|C (iM GH)<|Y (fY aH)<|O U<|Rd V<|Y V<|Y (by exact cA Z bH xE Z Z Z Z Z (YC _) Z (X5 l) Z X (by simp_all:((ls.take k).flatten.map S_).length+(l.map S_).length=((ls.take (k+1)).flatten.map S_).length) (by rw[s,List.map_append,No,No,List.map_append]:No ((ls.take k).flatten.map S_)++(l.map S_).map (·.map .pv)=No ((ls.take (k+1)).flatten.map S_)))<|O U<|Rd gT<|O V ?_;exact⟨k+1,g+1,X,X,cJ.dup ⟨⟨_,Z,Z⟩,⟨_,Z,Z⟩,⟨_,Z,Z⟩,⟨_,Z,Z⟩,T_⟩⟩
 have f:k=ls.length:=J_ n
 subst f;rw[List.take_length];refine aP<|C V<|O U<|aC ?_;refine cR (H':=[]) (.inr Z) Z (aJ Z) (Fin.slice0 (id:=905) (ls.flatten.map S_) Z Z Z Z) ?_;exact Qq
theorem BR{o}(h:oH o=true):o.refs.length<=2000/\o.tags.length<=60/\sU o.tags=true/\cG o.id=true/\(o.kind=2->2<=o.refs.length):=by rw[oH,j0,NX,vT]at h;have a:=h.1;simp[q9,Bool.not_eq_false',p_]at a;obtain ⟨⟨⟨⟨a1,d⟩,b⟩,c⟩,a5⟩:=a;refine⟨X,(xD.1 b).2.2,b,d,fun e=>?_⟩;rw[e,show ET 2=2 from rfl]at c;omega
theorem uB{e}:fT e=true↔(1<=e.op/\e.op<=7)/\wI e=true/\FH e=e:=by rw[fT,j0,j0,j0,k_,k_,pE]
theorem IE{e}(h:fT e=true):e.val.size<=200:=by
 obtain ⟨_,a,b⟩:=uB.1 h;have d:(FH e).val=e.val:=by rw[b]
 by_cases c:e.op=3
 ·rw[wI,a8 X,a8 X,b6 c,j0,j0,k_]at a;omega
 have:e.val=a6:=by
  rw[<-d,FH]
  grind
 rw[this];decide
abbrev aDu(m:List j_)(s:B_):Option j_:=m.find? (aDw s)
theorem zk{o}(h:oH o=true):1<=o.kind/\o.kind<=5:=by
 rw[oH,j0,NX,vT]at h;have g:=h.1;simp[q9,p_]at g;have e:=g.1.1.1.1;unfold eD at e;by_cases a:o.kind=1
 ·omega
 by_cases b:o.kind=2
 ·omega
 by_cases c:o.kind=3
 ·omega
 by_cases d:o.kind=4
 ·omega
 by_cases f:o.kind=5
 ·omega
 rw[a8 a,a8 b,a8 c,a8 d,a8 f]at e;exact absurd Z e
def pY(s:B_):B_:=aQ (s.size:Int)++⟨#[58]⟩++s
def aM(l:List B_):List UInt8:=l.flatMap fun s=>(pY s).data.toList
def C6(l:List B_):B_:=E7 ⟨(aM l).toArray⟩
theorem nP{n}(b : -9223372036854775808<=n)(c:n<=9223372036854775807):(aQ n).size<=21:=by have:=Lib.itoa_length_le n b c;show (Lib.itoa n).toArray.size<=21;omega
theorem nJ(s):(pY s).size=(aQ (s.size)).size+1+s.size:=by rw[pY,ByteArray.size_append,ByteArray.size_append];rfl
theorem pK(l)(s):aM (l++[s])=aM l++(pY s).data.toList:=by rw[aM,aM,List.flatMap_append,List.flatMap_cons,List.flatMap_nil,List.append_nil]
theorem uA:∀(l) (k),(aM (l.take k)).length<=(aM l).length:=fun l k=>by
 have h:aM l=aM (l.take k)++aM (l.drop k):=by rw[aM,aM,aM,<-List.flatMap_append,List.take_append_drop]
 rw[h,j9];omega
theorem fN{l:List α}{k}{a}(h:l[k]?=some a):l.take (k+1)=l.take k++[a]:=by rw[List.take_add_one,h,Option.toList_some]
theorem oZ(s:B_):s.data.toList.length=s.size:=rfl
theorem zJ:∀l,l.length<=(aM l).length
 | []=>j6 _
 |s::r=>by
  have ih:=zJ r;have h:aM (s::r)=(pY s).data.toList++aM r:=rfl;rw[h,j9,j8,oZ,nJ];omega
theorem Y0(l:List B_)(H:aF)(hl:(aM l).length<35184372088832):RC 81 [.pv (aK l)] (sv (C6 l)) H:=by
 refine Pu ?_;have hml:(l.map S_).length=l.length:=h_ _;have hll:=zJ l;refine Bd func81 Z ntmps81<|Sz U<|Sz (kl 2001 HG)<|S<|S ?_;refine fZ.ent (E':=[(0,.pv (aK l)),(3,.ref 2001 0 0 0)]) (H':=yH 0 [] false) (cJ.bld0 ⟨⟨_,Z,.same H_⟩,⟨_,Z,.same (by simp;rfl)⟩,T_⟩) ?_;refine Rd V<|Y (fV aE)<|O V<|aD<|BX (fun(k g:Nat) (u:Bool)=>([(3,.ref 2001 0 0 0),(6,.pv (aK l)),(7,iv ((l.map S_).length:Int)),(8,iv (k:Int))],yH g (aM (l.take k)) u)) (fun k g u=>k<=l.length) (fun k g u=>l.length - k) 0 0 false (l6 _) ?_ ?_
 ·exact(cJ.wk (Ea<|Eb<|Eb<|Eb<|T_) (Hc (gD Z Z)<|Hc (eJ _ _)<|T_) T_)
 intro k g u hk;have hle:=uA l k;refine Sz cM<|S<|Cn ?_ ?_<;>intro d
 ·have j:k<l.length:=I_ d
  obtain ⟨s,i⟩:=aU j;have hi:=cC (f:=S_) i;have f:=uA l (k+1);rw[fN i,pK,j9,oZ,nJ]at f;have hsz:s.size<35184372088832:=X
  refine aA<|S<|aD<|C (iM bH)<|Y (fY N_)<|O U<|Rd V<|Y (gM U_)<|Y (kc lM (pL (s.size:Int) X X _))<|Y (by exact eW Z Z Z (by have:(⟨#[58]⟩:B_).size=1:=rfl;omega) Z)<|Y V<|Y (by exact eW Z Z Z (by rw[ByteArray.size_append];have:(⟨#[58]⟩:B_).size=1:=rfl;omega) Z)<|O (kc nB (jA g (aM (l.take k)) u (pY s) (by rw[nJ];omega)))<|Rd gT<|O V ?_;refine⟨k+1,g+1,true,X,X,?_⟩;rw[fN i,pK];exact(cJ.wk (Ea<|Eb<|Eb<|Eb<|T_) (Hc (gD Z Z)<|Hc (eJ _ _)<|T_) T_)
 have h:k=l.length:=J_ d
 subst h;rw[List.take_length];exact aP<|C (kc nA (P7 g (aM l) u X))<|Y (kc Bn (qu ⟨(aM l).toArray⟩ _ (by show (aM l).toArray.size<_;grind)))<|O U<|aC<|Rt<|Qq
theorem rD(s):(E7 s).size=16:=rfl
def N0:B_->Nat->B_
 |t,0=>t
 |t,n+1=>N0 (E7 t) n
theorem vi:∀(a b) (t),N0 (N0 t a) b=N0 t (a+b)
 |0,b,t=>by rw[r7];rfl
 |a+1,b,t=>by
  rw[show a+1+b=(a+b)+1 by omega];exact vi a b _
theorem KZ(t)(n):N0 t (n+1)=E7 (N0 t n):=by rw[<-vi n 1 t];rfl
theorem Le{t}(h:t.size=16):∀n,(N0 t n).size=16
 |0=>h
 |n+1=>by rw[KZ,rD]
def Br(m:B_):Nat:=SY (UI m.size) m.data.toList
def dJ(m:B_):List Nat:=(List.range 16).map (UE (Br m))
def GW(m:B_):Nat:=((dJ m).map (15 - ·)).sum
def By(m:B_):List Nat:=dJ m++[GW m / 16,GW m % 16]
theorem aAf(m):(dJ m).length=16:=rfl
theorem Up(m):(By m).length=18:=rfl
theorem P6:∀l:List _,(l.map (15 - ·)).sum<=15*l.length
 | []=>j6 _
 |a::r=>by
  have:=P6 r;simp[List.map_cons,List.sum_cons,j8];omega
theorem bk(m):GW m<=240:=by have:=P6 (dJ m);exact this
theorem aAb(m:B_):∀d∈By m,d<16:=by
 intro d a;rcases List.mem_append.1 a with h|h
 ·obtain ⟨j,_,rfl⟩:=List.mem_map.1 h;exact EN _ _
 have:=bk m;simp only[l7,n_,or_false]at h;rcases h with rfl|rfl<;>omega
def NQ:B_:=⟨#[110,111,100,101]⟩
def oX(s:B_)(i k:Nat):B_:=C6 [s,aQ (i:Int),aQ (k:Int)]
def WX(s:B_)(i:Nat):List B_:=(List.range 18).map fun k=>N0 (oX s i k) 15
def mx(s:B_)(i:Nat):B_:=C6 (WX s i)
def xS(s:B_)(h:Nat):List B_:=(List.range (2 ^ h)).map (mx s)
def dj(a b:B_):B_:=C6 [NQ,a,b]
def ql:List B_->List B_
 |a::b::r=>dj a b::ql r
 |_=>[]
def xN:Nat->List B_->Nat->List B_
 |0,_,_=>[]
 |h+1,l,i=>l.getD (i ^^^ 1) a6::xN h (ql l) (i / 2)
def jv(s:B_)(i:Nat)(m:B_):List B_:=(List.range 18).map fun k=>N0 (oX s i k) ((By m).getD k 0)
def GO(b:UInt8):Bool:=(48<=b&&b<=57)||(97<=b&&b<=102)
def l9(t:B_):Bool:=decide (t.size=16)&&t.data.toList.all GO
theorem OL:∀(n) (l),l.length=2*n->(ql l).length=n
 |0,[],_=>rfl
 |n+1,a::b::r,h=>by
  have:=OL n r G_;rw[ql,j8,this]
 |n+1,[a],h=>by grind
 |n+1,[],h=>by grind
 |0,a::r,h=>by grind
theorem qk:∀(n) (l) (k),l.length=2*n->k<n->(ql l).getD k a6=dj (l.getD (2*k) a6) (l.getD (2*k+1) a6)
 |0,l,k,_,c=>by omega
 |n+1,[],k,h,_=>by grind
 |n+1,[a],k,h,_=>by grind
 |n+1,a::b::r,0,h,_=>rfl
 |n+1,a::b::r,k+1,h,c=>by
  have d:=qk n r k G_ X;rw[ql,show 2*(k+1)=2*k+1+1 by omega,List.getD_cons_succ,d,List.getD_cons_succ,List.getD_cons_succ,List.getD_cons_succ,List.getD_cons_succ]
theorem qc(i):i ^^^ 1=if i % 2=1 then i - 1 else i+1:=by
 have h2:(i ^^^ 1) / 2=i / 2:=by
  rw[Nat.xor_div_two];simp
 have h3:=by
  have:=Nat.xor_mod_two_pow (a:=i) (b:=1) (n:=1)
  simpa using this
 have h4:(i ^^^ 1) % 2=1 - i % 2:=by
  grind
 split
 ·omega
 omega
theorem VJ:∀(h) (l) (i),(xN h l i).length=h
 |0,_,_=>rfl
 |h+1,l,i=>by rw[xN,j8,VJ h]
theorem WB(s)(h):(xS s h).length=2 ^ h:=by simp[xS]
theorem zi{l:List α}{k}{d}(h:k<l.length):l.getD k d∈l:=F_
theorem Jx{n}(h:n<16):GO (UInt8.ofNat (wP n).toNat)=true:=by revert n;decide
theorem CV(s):l9 (E7 s)=true:=by rw[l9,j0,k_];refine⟨rD s,?_⟩;rw[List.all_eq_true];intro b a;obtain ⟨j,_,rfl⟩:=List.mem_map.1 (show b∈(List.range _).map _ from by simpa[E7,BO]using a);exact Jx (EN _ _)
theorem aAT{t}(h:l9 t=true):∀n,l9 (N0 t n)=true
 |0=>h
 |n+1=>by rw[KZ];exact CV _
theorem kS{t}(h:l9 t=true):t.size=16:=by rw[l9,j0,k_]at h;omega
theorem Er(s)(i)(m):∀t∈jv s i m,l9 t=true:=by intro t a;obtain ⟨k,_,rfl⟩:=List.mem_map.1 a;exact aAT (CV _) _
theorem Ep(s)(i)(m):(jv s i m).length=18:=rfl
theorem XP:∀(n) (l),l.length<=n->∀t∈ql l,l9 t=true
 |_,[],_,t,c=>by simp[ql]at c
 |_,[a],_,t,c=>by simp[ql]at c
 |0,a::b::r,h,t,c=>by grind
 |n+1,a::b::r,h,t,c=>by
  rcases l7.1 c with rfl|c
  ·exact CV _
  exact XP n r (by grind) t c
theorem VK:∀(h) (l) (i),l.length=2 ^ h->i<2 ^ h->(∀t∈l,l9 t=true)->∀t∈xN h l i,l9 t=true
 |0,_,_,_,_,_,t,a=>by simp[xN]at a
 | h+1,l,i,hl,hi,ha,t,a=>by
  have b:l.length=2*2 ^ h:=X
  rcases l7.1 a with rfl|a
  ·rw[qc]
   grind
  exact VK h _ _ (OL _ _ b) X (XP _ _ (j6 _)) t a
theorem WC(s)(h):∀t∈xS s h,l9 t=true:=by intro t a;obtain ⟨k,_,rfl⟩:=List.mem_map.1 a;exact CV _
def bZ(l:List B_):List (List AV):=l.map fun s=>[.pv (.str s)]
theorem eH(l):(bZ l).length=l.length:=h_ _
theorem gO(l)(s):bZ l++[[.pv (.str s)]]=bZ (l++[s]):=by rw[bZ,bZ,List.map_append];rfl
theorem aV(H)(l):∀r∈bZ l,∀a∈r,Clo H a:=by intro r d a c;obtain ⟨b,_,rfl⟩:=List.mem_map.1 d;rw[q_]at c;subst c;simp
instance(H)(l):W_ (H) (bZ l):=⟨aV H l⟩
theorem eC(l):bZ l=(l.map S_).map (·.map .pv):=by rw[List.map_map];rfl
def iN(t:l_):B_:=t.key++⟨#[61]⟩++⟨(cW t.val.data.toList).toArray⟩
def wK(L:List B_):aF:=[(903,⟨L.length,1,9,bZ L⟩),(4,bx 1 22 [.osl 903 L.length 0 L.length])]
theorem Xp(L)(s):wK (L++[s])=[(903,⟨L.length+1,1,9,bZ (L++[s])⟩),(4,bx 1 22 [.osl 903 (L.length+1) 0 (L.length+1)])]:=by simp[wK]
theorem qZ(s:B_):(⟨(cW s.data.toList).toArray⟩:B_).size<=2*s.size+2:=by show (cW _).length<=_;have:=fk s.data.toList;have h:s.data.toList.length=s.size:=rfl;rw[cW,j8,j9,List.length_singleton];omega
theorem tv{i j}{a b a' d}{id}(h:(aF.get [(i,a),(j,b)] id).isSome=true):(aF.get [(i,a'),(j,d)] id).isSome=true:=by
 simp[aF.get]at h |-
 grind
theorem Pb(t:l_)(L:List B_)(hk:t.key.size<2^40)(hv:t.val.size<2^40)(hL:L.length<2^40):
  aS Tryz.prog 309 [av (bP t),.ref 4 0 0 0] (wK L) (fun r H'=>r=.tup []/\H'=wK (L++[iN t])):=by
 rw[Xp];have hq:=qZ t.val;have h61:(⟨#[61]⟩:B_).size=1:=rfl;have hks:(t.key++⟨#[61]⟩:B_).size=t.key.size+1:=F_
 refine Bd func309 Z ntmps309<|Sz (kb 2)<|aN a7<|Cr [4] (fun _ h=>lh aH h)<|Cr [2] (fun _ h=>fh pO h)<|Cr [2] (fun _ h=>lh N_ h)<|Cr [] (fun d b=>by exact eW Z Z Z X Z)<|Cr [2] (fun _ h=>fh qO h)<|Cr [2] (fun _ h=>lh N_ h)<|Cr [] (fun d b=>by exact bF Z Z call260 Z (sg t.val _ X))<|Cr [] (fun d b=>by exact eW Z Z Z X Z)<|Cr [] (fun d b=>by exact aL [[.str (iN t)]] Z bH Z Z Z Z Z F_)<|Cp [903] (fun d b=>by exact cA (ps:=[[.str (iN t)]]) Z bH xE Z ((b _ Z).trans Z) Z Z Z (eH L) Z F_ (m:=1) Z X Z (gO L (iN t))) ?_;refine Cp [4] (fun _ h=>sa sizeOf22 h)<|bJ<|Kr ?_;exact oP (H':=[(903,⟨L.length+1,1,9,bZ (L++[iN t])⟩),(4,bx 1 22 [.osl 903 (L.length+1) 0 (L.length+1)])]) (.inl Z) Z P_ ⟨Z,Z⟩
def WN(l:List l_):B_:=⟨(bQ [32] (bs (l.map iN))).toArray⟩
def jM(l:List l_):B_×Int:=if sU l then(if 20000<(WN l).size then(a6,2)else(WN l,0))else(a6,1)
theorem V4{t}(hk:t.key.size<=24)(hv:t.val.size<=200):(iN t).size<=427:=by have hq:=qZ t.val;have h61:(⟨#[61]⟩:B_).size=1:=rfl;rw[iN,ByteArray.size_append,ByteArray.size_append];omega
theorem dG{s}(h:cG s=true):s.size<=24:=by rw[cG,j0,j0,k_]at h;omega
theorem oY{l}{n}(h:∀s,s∈l->s.size<=n):cX l<=n*l.length:=by
 induction l with
 |nil=>exact l6 _
 |cons a l b =>
  rw[cX,List.map_cons,List.sum_cons,j8,Nat.mul_succ];have h1:=h a List.mem_cons_self;have d:=b (fun s c=>h s (List.mem_cons_of_mem _ c));rw[cX]at d;omega
theorem aCa{L}{K:aF}{r}(h:aS Tryz.prog 204 [.pv (aK L),sv ⟨#[32]⟩] [] (fun x H'=>x=sv r/\H'=[])):aS Tryz.prog 204 [.osl 903 L.length 0 L.length,sv ⟨#[32]⟩] ((903,⟨L.length,1,9,bZ L⟩)::K) (fun x H'=>x=sv r/\H'=(903,⟨L.length,1,9,bZ L⟩)::K):=by
 exact RO.calls (RO.lend _ (RO.of h Z) (get_cons_same _ _ _) (eC L) Z
  (bG (.osl (by rw[List.drop_zero,List.take_of_length_le H_])) (bG (.same H_) kT)) (fun _ _ h=>by cases h) (fun _ _ h=>by cases h) Z)
theorem UX(l:List l_)(H:aF)(z:ME l):RC 288 [.pv (pX l)] (.tup [sv (jM l).1,iv (jM l).2]) H:=by
 refine Pu ?_;have hml:(l.map bP).length=l.length:=h_ _;refine Bd func288 Z ntmps288<|C U<|O U<|S<|C V<|Y (kc Bh (B8 l _ z))<|O iT<|Cn ?_ ?_<;>intro hc1
 ·have i:sU l=false:=F_
  have e:jM l=(a6,1):=by rw[jM,a8 F_]
  rw[e];exact C U<|O U<|aC<|Ru<|Qq
 have i:sU l=true:=F_
 obtain ⟨u,g2,g3⟩:=xD.1 i;refine aA<|Sz (kl 4 Vr)<|C (gR Z Z)<|O U<|S<|S ?_;refine fZ.ent (E':=[(0,.pv (pX l)),(4,.ref 4 0 0 0),(5,.clo 309 [.ref 4 0 0 0])]) (H':=wK []) (Q_ 903 1 9) ?_;refine Rd V<|Y (fV dL)<|O V<|aD<|bC (σ:=Nat) (fun k=>([(4,.ref 4 0 0 0),(5,.clo 309 [.ref 4 0 0 0]),(13,.pv (pX l)),(14,iv ((l.map bP).length:Int)),(15,iv (k:Int))],wK ((l.take k).map iN))) (fun k=>k<=l.length) (fun k=>l.length - k) 0 (l6 _) ?_ ?_
 ·exact L_
 intro k hk;refine Sz cM<|S<|Cn ?_ ?_<;>intro d
 ·have j:k<l.length:=I_ d
  obtain ⟨t,g⟩:=aU j;have w:=cC (f:=bP) g;obtain ⟨m,B,v⟩:=u t (m7 g);have b4:=dG m;have q:((l.take k).map iN).length<2^40:=G_
  have o:(l.take (k+1)).map iN=(l.take k).map iN++[iN t]:=by rw[List.take_add_one,g,List.map_append];rfl
  refine aA<|S<|aD<|C (bU Z lI Z Z X (by rfl) w Z)<|Y (by exact eU Z wX lL Z w (by simp only[Zl,bP];rfl) Z)<|Y (kl 7 Vs)<|Uu (iU lL)<|Zz<|Rd V<|Y (vC wX lL)<|O (by exact cZ Z Z Z (dF.clo call309 (aS.frame (Pb t ((l.take k).map iN) X X q) (HN.sub ⟨Z,Z,T_⟩) (dD.ofL ⟨(aV _ _),(by(simp;rfl)),T_⟩) (by simp;rfl) (fun id h=>.inl (tv h)))))<|Rd gT<|O V ?_;refine⟨k+1,X,X,?_⟩;show cJ _ _ _ _ (wK ((l.take (k+1)).map iN));rw[o];exact L_
 have n:k=l.length:=J_ d
 subst n;have hsb:cX (l.map iN)<=427*l.length:=by
  have:=oY (l:=l.map iN) (n:=427) (fun s A=>by
   obtain ⟨t,g,rfl⟩:=List.mem_map.1 A;obtain ⟨m,B,v⟩:=u t g;exact V4 (dG m) v)
  rwa [h_]at this
 have y:aS Tryz.prog 204 [.pv (aK (l.map iN)),sv ⟨#[32]⟩] [] (fun x H'=>x=sv (WN l)/\H'=[]):=wN (l.map iN) ⟨#[32]⟩ [] E_ (by rw[h_];show 1*_+_+_<_;omega);have p:=aCa (L:=l.map iN) (K:=[(4,bx 1 22 [.osl 903 (l.map iN).length 0 (l.map iN).length])]) y;rw[List.take_length];refine aP<|C (bS aH)<|Y (kc rG (p))<|O U<|S<|C V<|Y (gM U_)<|O iY<|Cn ?_ ?_<;>intro f
 ·have e:jM l=(a6,2):=by
   rw[jM,b6 i,b6 (I_ f)]
  rw[e];exact C U<|O U<|aC<|Ru<|Qq
 have e:jM l=(WN l,0):=by
  rw[jM,b6 i,a8 (J_ f)]
 rw[e];exact aA<|C V<|Y U<|O U<|aC<|Ru<|Qq
theorem Ad{t}(h:t.size<2^40):∀n,(N0 t n).size<2^40
 |0=>h
 |n+1=>by rw[KZ,rD];decide
theorem vh(t)(n:Nat)(H)(e:t.size<2^40)(hn:n<1000):RC 172 [sv t,iv n] (sv (N0 t n)) H:=by
 refine Pu<|Bd func172 Z ntmps172<|Sz U<|S<|C V<|O V<|aD<|bC (fun k=>([(0,sv (N0 t k)),(5,iv n),(6,iv k)],[])) (fun k=>k<=n) (fun k=>n - k) 0 (l6 _) ?_ ?_
 ·exact Wk
 intro k hk;have b:=fun H=>qu (N0 t k) H (by have:=Ad e k;omega);rw[<-KZ]at b;refine Sz cM<|S<|Cn ?_ ?_<;>intro c
 ·have hlt:=I_ c
  refine aA<|S<|aD<|Rd V<|Y (bF Z Z Bn Z (b _))<|O U<|Rd (by exact eQ Z Z Z (show IntKind.i64.wrap _=((k+1:Nat):Int)by rw[qD X X];omega))<|O V ?_;exact⟨k+1,X,X,Wk⟩
 have d:k=n:=J_ c
 subst d;exact aP<|C V<|O U<|aC<|Rt<|Qq
theorem tg(l)(H)(b:(aM l).length<35184372088832):RC 226 [.pv (aK l)] (sv (C6 l)) H:=by refine Pu ?_;exact Bd func226 Z ntmps226<|Sz U<|C V<|Y (bF Z Z Nq Z (Y0 l _ b))<|O U<|aC<|Rt<|Qq
theorem ub(a b c):(aM [a,b,c]).length=(pY a).size+(pY b).size+(pY c).size:=by simp[aM,oZ];omega
theorem IB(n:Nat)(h:n<2^40):(aQ n).size<=21:=nP X X
theorem pA{s}(h:s.size<2^40):(pY s).size<=s.size+22:=by have:=IB _ h;rw[nJ];omega
theorem qw(s:B_)(i k:Nat)(H:aF)(b:s.size<2^40)(hi:i<2^40)(c:k<2^40):RC 173 [sv s,iv (i:Int),iv (k:Int)] (sv (oX s i k)) H:=by
 refine Pu ?_;have h1:=IB i hi;have h2:=IB k c;have d:(aM [s,aQ (i:Int),aQ (k:Int)]).length<35184372088832:=by
  have e1:=pA b;have e2:=pA (s:=aQ (i:Int)) X;have e3:=pA (s:=aQ (k:Int)) X;rw[ub];omega
 exact Bd func173 Z ntmps173<|Sz U<|C V<|Y V<|Y (kc lM (pL (i:Int) X X _))<|Y V<|Y (kc lM (pL (k:Int) X X _))<|Y (aL [[.str s],[.str (aQ (i:Int))],[.str (aQ (k:Int))]] Z bH Z Z Z Z Z F_)<|Y (kc Bi (tg _ _ d))<|O U<|aC<|Rt<|Qq
theorem So(a b:B_)(d:Bool)(H:aF)(g:a.size<2^40)(f:b.size<2^40):RC 229 [sv a,sv b,bv d] (sv (if d=true then dj b a else dj a b)) H:=by
 refine Pu ?_;have h:∀x y:B_,x.size<2^40->y.size<2^40->(aM [NQ,x,y]).length<35184372088832:=by
  intro x y i j;have e1:=pA (s:=NQ) E_;have e2:=pA i;have e3:=pA j;have e4:NQ.size=4:=rfl;rw[ub];omega
 refine Bd func229 Z ntmps229<|Sz U<|S<|Sz V<|Cn ?_ ?_<;>intro e
 ·subst e;exact Rd V<|Y V<|Y U<|O U<|C V<|Y V<|Y (aL [[.str NQ],[.str b],[.str a]] Z bH Z Z Z Z Z F_)<|Y (kc Bi (tg [NQ,b,a] _ (h b a f g)))<|O U<|aC<|Rt<|Qq
 subst e;exact aA<|C V<|Y V<|Y (aL [[.str NQ],[.str a],[.str b]] Z bH Z Z Z Z Z F_)<|Y (kc Bi (tg [NQ,a,b] _ (h a b g f)))<|O U<|aC<|Rt<|Qq
def WW(s:B_)(i k:Nat):List B_:=(List.range k).map fun k=>N0 (oX s i k) 15
theorem nx(s)(i k):WW s i (k+1)=WW s i k++[N0 (oX s i k) 15]:=by rw[WW,List.range_succ,List.map_append];rfl
theorem WV(s)(i k):(WW s i k).length=k:=by simp[WW]
theorem D4(s)(i k):(oX s i k).size=16:=rD _
theorem KK{b}(a:b<2^40):∀(l),(∀s∈l,s.size<=b)->(aM l).length<=(b+22)*l.length
 | [],_=>j6 _
 |s::r,h=>by
  have ih:=KK a r (fun x c=>h x (List.mem_cons_of_mem _ c));have hs:=h s List.mem_cons_self;have e:aM (s::r)=(pY s).data.toList++aM r:=rfl;have h2:=pA (s:=s) X;rw[e,j9,j8,oZ,Nat.mul_add];omega
theorem Ac(t)(H)(a:t.size<2^40):RC 172 [sv t,iv 15] (sv (N0 t 15)) H:=vh t _ H a H_
theorem aAS(s:B_)(i:Nat)(H:aF)(g:s.size<2^40)(hi:i<2^40):RC 227 [sv s,iv (i:Int)] (sv (mx s i)) H:=by
 refine Pu<|Bd func227 Z ntmps227<|Sz U<|Sz (by exact eF (id:=905) (sz:=1) (ty:=9) Z Z Z)<|S<|Sz V<|aD<|bC (σ:=Nat) (fun k=>([(0,sv s),(1,iv (i:Int)),(5,.osl 905 k 0 k),(7,iv (k:Int))],[(905,⟨k,1,9,bZ (WW s i k)⟩)])) (fun k=>k<=18) (fun k=>18 - k) 0 (l6 _) ?_ ?_
 ·exact(cJ.wk (Eb<|Eb<|Ea<|Eb<|T_) (Hc (aV _ _)<|T_) T_)
 intro k hk;have d:=WV s i k;have e:=nx s i k;refine Sz cM<|S<|Cn ?_ ?_<;>intro b
 ·have hlt:k<18:=by have:=b9 b;omega
  refine aA<|S<|aD<|C V<|O U<|Rd V<|Y V<|Y V<|Y V<|Y (kc call173 (qw s i k _ g hi (by omega)))<|Y (kc call172 (Ac (oX s i k) _ (by rw[D4];decide)))<|Y (by exact aL [[.str (N0 (oX s i k) 15)]] Z bH Z Z Z Z Z (by simp_all))<|Y (by exact cA (ps:=[[.str (N0 (oX s i k) 15)]]) Z bH xE Z Z Z Z Z (by rw[eH,d]) Z (by simp_all) (m:=1) Z (by omega) Z (gO _ (N0 (oX s i k) 15)))<|O U<|Rd kp<|O V ?_;refine⟨k+1,by omega,by omega,?_⟩;dsimp only;rw[e];exact(cJ.wk (Eb<|Eb<|Ea<|Eb<|T_) (Hc (aV _ _)<|T_) T_)
 have c:k=18:=by have:=b_ b;omega
 subst c;refine aP<|S ?_;refine fZ.ent (cJ.fz (id:=905) (E':=[(5,.pv (aK (WX s i)))]) (H':=[]) ((WX s i).map S_) Z (eC _)
  (by intro p f;simp only[l7,n_,or_false]at f;subst f;exact⟨_,Z,.osl (by rfl)⟩) Z T_ T_) ?_
 exact Rd V<|Y (by exact bF Z Z Bi Z (tg (WX s i) _ (by have h:=KK (b:=16) (by decide) (WX s i) (fun x j=>by obtain ⟨k,_,rfl⟩:=List.mem_map.1 j;exact Nat.le_of_eq (Le (D4 s i k) 15));rw[show (WX s i).length=18 from WV s i 18]at h;omega)))<|O U<|aC<|Rt<|Qq
end Go.Proofs.YtopnleflllkbmaaGreatDoor
namespace Go.Abs
variable{P:Program}{id p p2 N:Nat}
theorem Og{x:Go.Loop}{k s:Code}{g:cY}{a W:AV}{K:aF}{Q:AV->aF->Prop}(E2:cY)(K2:aF)(f_:x.state=.ready)(z_:x.pending=none)(hp:x.params=#[p,p2])(hN:x.tmps.size=N)(hxa:x.assign=k)(hxb:x.body=s)(hpN:Nat.blt p N=true)(E:Nat.blt p2 N=true)(hpp:Nat.beq p p2=false)
  (hok:zF k=true) (hok2:zF s=true)
  (h1:fZ P ((id,LR x g)::K) N k (yP (fun E1 H1=>cJ ((id,LR x g)::K) E1 H1 E2 ((id,LR x g)::K2)) (fun _ _ _=>False)) ((p2,W)::(p,a)::g) ((id,LR x g)::K))
  (h2:fZ P ((id,LR x g)::K) N s (Mw ((id,LR x g)::K) id x g Q) E2 ((id,LR (busy x) g)::K2)):IS P id 0 [a,W] ((id,LR x g)::K) Q:=by
 subst hxa hxb;have hpN:p<N:=F_
 have E:p2<N:=F_
 have hpp:p≠p2:=fun e=>by simp_all
 intro I A_ w vs v hr hv hl hvs;obtain ⟨b,e1,v_,e3,e4,e5⟩:=Fw hr (gQ _ _ _) hv;obtain ⟨u,z,rfl⟩:∃u z,vs=#[u,z]:=by
  match vs,hl with
  |⟨[u,z]⟩,_=>exact⟨u,z,Z⟩
 have hu:=hvs 0 u a Z Z;have hu2:=hvs 1 z W Z Z;refine⟨b,x.fn,_,x.assign,x.body,v_,run_yield e3 F_,?_⟩;refine roundIn_of_wpIn (F:=Fence.wide) T_ ?_;have hG:(⟨I,A_,(id,LR x g)::K,w,[]⟩:Entry).H=(id,LR x g)::K:=rfl;have hst:St ⟨I,A_,(id,LR x g)::K,w,[]⟩ N ((p2,W)::(p,a)::g) ((id,LR x g)::K) {tmps:=(x.params.zip #[u,z]).foldl (fun o (t,a)=>o.setIfInBounds t a) x.tmps,defers:=[]} w:=by
  have ht:(x.params.zip #[u,z]).foldl (fun o (t,a)=>o.setIfInBounds t a) x.tmps=(x.tmps.setIfInBounds p u).setIfInBounds p2 z:=by rw[hp];simp
  rw[ht];refine⟨tR.nil _ _ _,by simp[hN],I,A_,hr,Step.refl _ _ _ _,fun t y m=>?_⟩;by_cases v_:p2=t
  ·subst v_;rw[cY.get_cons_same]at m;cases m;exact⟨z,by simp[hN,E],hu2⟩
  rw[cY.get_cons_other _ _ v_]at m;by_cases e:p=t
  ·subst e;rw[cY.get_cons_same]at m;cases m;exact⟨u,by show ((x.tmps.setIfInBounds p u).setIfInBounds p2 z)[p]?=some u;rw[Array.getElem?_setIfInBounds_ne v_];simp[hN,hpN],hu⟩
  rw[cY.get_cons_other _ _ e]at m;obtain ⟨i,hi⟩:=r_.1 (iJ m);obtain ⟨c,c1,c2⟩:=e5 i t y (by rw[r6,hi];rfl) (by rw[r6,hi];rfl);exact⟨c,by show ((x.tmps.setIfInBounds p u).setIfInBounds p2 z)[t]?=some c;rw[Array.getElem?_setIfInBounds_ne v_,Array.getElem?_setIfInBounds_ne e];exact c1,c2⟩
 refine wpIn_mono (h1 _ hG _ w hst (some b) (.inr hok)) ?_;rintro e a1 w1 ⟨E1,H1,q,hs1⟩;cases e with
 | normal =>
  have L:=q _ hG N a1 w1 hs1;obtain ⟨I1,ι1,B,G,he1⟩:=L.rel;have c_:=tV G (gQ _ _ _) e1 (gQ _ _ _);have hb1:=uU B (gQ _ _ _) c_;obtain ⟨k1,k2⟩:=B.setRec (y:=busy x) (H':=(id,LR (busy x) g)::K2) (gQ _ _ _) c_ Z (gQ _ _ _) (fun j hj=>BP _ _ _ hj);refine⟨_,run_beginRound hb1 f_,?_⟩;have hs3:St ⟨I,A_,(id,LR x g)::K,w,[]⟩ N E2 ((id,LR (busy x) g)::K2) a1 (w1.putObj b (.loop (busy x))) :=
   ⟨L.defers.step B k2,L.size,I1,ι1,k1,G.trans k2,fun t y m=>let ⟨c,c1,c2⟩:=he1 t y m;⟨c,c1,c2.mono B k2⟩⟩
  refine wpIn_mono (h2 _ hG a1 _ hs3 (some b) (.inr hok2)) ?_;rintro e W w3 ⟨E3,H3,u_,hs4⟩;have o_:∀(h:Option Code) (y:Go.Loop) (A:aF),y={busy x with state:=if h.isNone then .ready else .done,pending:=h}->cJ ((id,LR x g)::K) E3 H3 [] ((id,LR (busy x) g)::A)->Q (.pv (.bool h.isNone)) ((id,LR y g)::A) ->
    ∃v w',(Instr.endRound b h).run P w3=.ok v w'/\∃r H' I' e_ v',Ending.returned v=.returned v'/\Q r H'/\VRel w' I' e_ H' v' r/\Rel I' e_ H' w'/\Step I A_ ((id,LR x g)::K) w I' e_ H' w':=by
   intro h y A m f T;have hs5:=f _ hG N W w3 hs4;obtain ⟨I5,ι5,y_,F,_⟩:=hs5.rel;have D:=tV F (gQ _ _ _) e1 (gQ _ _ _);have hb5:=uU y_ (gQ _ _ _) D;obtain ⟨z1,z2⟩:=y_.setRec (y:=y) (H':=(id,LR y g)::A) (gQ _ _ _) D (by rw[m]) (gQ _ _ _) (fun j hj=>BP _ _ _ hj);refine⟨_,_,run_endRound h hb5,_,_,I5,ι5,_,Z,T,.pv (.bool _),?_,?_⟩
   ·rw[<-m];exact z1
   rw[<-m];exact F.trans z2
  cases e with
  |normal =>
   obtain ⟨A,f,T⟩:=u_;refine o_ none x A ?_ f T;obtain ⟨st,pe,fn,tm,pa,ax,bo,de⟩:=x;simp only at f_ z_;subst f_ z_;rfl
  |ret =>
   obtain ⟨A,f,T⟩:=u_;exact o_ (some .ret) (left x .ret) A Z f T
  |exit j =>
   obtain ⟨A,f,T⟩:=u_;exact o_ (some (.exit j)) (left x (.exit j)) A Z f T
  |goto l=>exact u_.elim
  |panic ch=>exact u_.elim
  |outgrown=>exact u_.elim
 |exit j=>exact q.elim
 |goto l=>exact q.elim
 |ret=>exact q.elim
 |panic ch=>exact q.elim
 |outgrown=>exact q.elim
theorem pb{G0:aF}{f:Nat}{e_:List AV}{g:Operand}{ps:Array Tmp}{assign body:Code}{Q:Exit->cY->aF->Prop}{E:cY}{H:aF}(n:cY)(hg:aO E g=some (.clo f e_))(hc:∀(args:Array Value) (w:World),(callFunc f args).run P w=.ok (.enter f args) w)
  (hps:ps=#[p,p2]) (hid:H.get id=none) (hE0:∀q∈n,E.get q.1=some q.2)
  (h:∀x:Go.Loop,x.state=.ready->x.pending=none->x.params=#[p,p2]->x.tmps.size=N->x.assign=assign->x.body=body ->
   aS P f (.yld id 0::e_) ((id,LR x n)::H) (fun r H'=>∃(y:Go.Loop) (K:aF),y.tmps=x.tmps/\y.state≠.busy/\H'=(id,LR y n)::K/\∀z:Go.Loop,Na Q E ((id,LR z n)::K) y.pending)) :
  fZ P G0 N (.rangeFunc g ps assign body) Q E H:=by
 intro G hG a w hs ro hro;obtain rfl:ro=none:=hro.resolve_right (fun h=>by cases h);obtain ⟨I,ι,hr,hst,he⟩:=hs.rel;refine wpIn_rangeFunc (F:=RF none) ?_;intro fn _;have hgv:=aI he hg;generalize hfc:a.eval g=fc at hgv;cases hgv with
 | @clo _ us _ hl hh =>
  obtain ⟨x,R⟩:∃x:Go.Loop,x={state:=.ready,pending:=none,fn,tmps:=a.tmps,params:=ps,assign,body,defers:=w.heap.size}:=X_;obtain ⟨a1,a2⟩:=hr.push (.deferred (some []));obtain ⟨A_,v_⟩:∃A_,A_=w.alloc (.deferred (some [])):=X_;rw[<-v_]at a1 a2;have L:A_.heap.size=w.heap.size+1:=F_
  have hDd:A_.heap[w.heap.size]?=some (.deferred (some [])):=by rw[v_];exact World.alloc_heap_new w _
  have m:aF.get ((id,LR x n)::H) id=some (LR x n):=gQ _ _ _;obtain ⟨b1,b2⟩:=a1.placeX (id:=id) (cap:=2) (x:=.loop x) (w':=A_.alloc (.loop x)) (H':=(id,LR x n)::H) (ob':=LR x n) Z Z Z Z (fun o ho=>by simp_all)
   (fun hnew hI hmono=>.inr (.inr (.inr (.inl ⟨Z,_,x,H_,hnew,hI,fun y ts r hy=>by
    simp only[LR,List.cons.injEq,AV.raw.injEq,and_true]at hy;obtain ⟨⟨rfl,rfl⟩,rfl⟩:=hy;refine⟨Z,fun i t v ht u=>?_⟩;rw[r6]at ht u;obtain ⟨q,hq,rfl⟩:=Option.map_eq_some_iff.1 ht;rw[hq]at u;cases u;obtain ⟨c,c1,c2⟩:=he q.1 q.2 (hE0 q (m7 hq));exact⟨c,by rw[R];exact c1,hmono _ _ (c2.mono hr a2)⟩⟩))))
   m (fun j hj=>by simp[aF.get,jP (Ne.symm hj)])
  obtain ⟨T,hw1⟩:∃T,T=A_.alloc (.loop x):=X_;rw[<-hw1]at b1 b2;obtain ⟨B,u_⟩:∃B:lP,B=fun j=>if j=id then some (A_.heap.size,2)else ι j:=X_
  rw[<-u_]at b1 b2;have d:B id=some (w.heap.size+1,2):=by rw[u_,L];simp
  have hL1:=uU b1 m d;have W:T.heap[w.heap.size]?=some (.deferred (some [])):=by
   rw[b2.keep _ (by rw[L];omega) (BD a1 hDd)];exact hDd
  have z_:=h x (by rw[R]) (by rw[R]) (by rw[R,hps]) (by rw[R];exact hs.size) (by rw[R]) (by rw[R]) I B T (#[.func (.yield (w.heap.size+1)) #[] #[]]++us) b1 (by simp[hl];omega) (fun i v c u F=>by
   cases i with
   |zero =>
    rw[Array.getElem?_append_left H_]at u;simp at u F;subst u F;exact .yld (LR x n) m (j6 _) Z (fun _=>⟨Z,_,d,Z⟩)
   |succ i =>
    rw[Array.getElem?_append_right H_]at u;simp only[List.getElem?_cons_succ]at F;have:=hh i v c (by simpa using u) F;exact(this.mono hr a2).mono a1 b2)
  refine⟨w.heap.size+1,[mark w.heap.size],T,{target:=.fn (.func f) us,args:=#[.func (.yield (w.heap.size+1)) #[] #[]]},T,f,#[.func (.yield (w.heap.size+1)) #[] #[]]++us,T,?_,?_,fun _ _=>trivial,?_,(fun q=>by cases q),?_⟩
  ·rw[hw1,v_,R];exact run_enterLoop_outer _ _ _ _ _
  ·simp only[resolve,hfc];simp[go_sem]
  ·simp[invoke,go_sem,hc]
  refine((callsIn_wide (n:=0)).2 z_).mono ?_;rintro e w3 ⟨r,H',I3,ι3,v3,rfl,⟨y,K,hy1,hy2,rfl,hq⟩,_,hr3,A⟩;have o_:=tV (G:=⟨I,B,(id,LR x n)::H,T,[]⟩) A m d (gQ _ _ _);have hb3:=uU hr3 (gQ _ _ _) o_;obtain ⟨z,hz⟩:∃z:Go.Loop,z={y with state:=.exhausted}:=X_;obtain ⟨z1,z2⟩:=hr3.setRec (y:=z) (H':=(id,LR z n)::K) (gQ _ _ _) o_ (by rw[hz]) (gQ _ _ _) (fun j hj=>BP _ _ _ hj);obtain ⟨w4,hw4⟩:∃w4,w4=w3.putObj (w.heap.size+1) (.loop z):=X_;rw[<-hw4]at z1 z2;refine⟨y.pending,w4,by rw[hw4,hz];exact run_endLoop hb3 hy2,?_⟩;have s:Step I ι H w I3 ι3 ((id,LR z n)::K) w4:=((a2.trans b2).trans A).trans z2;have hD4:w4.heap[w.heap.size]?=some (.deferred (some [])):=by
   rw[(A.trans z2).keep _ (Array.getElem?_eq_some_iff.1 W).1 (BD b1 W)];exact W
  have y_ : St G N E ((id, LR z n) :: K) { a with defers := [mark w.heap.size] ++ a.defers } w4 := by
   refine⟨?_,hs.size,I3,ι3,z1,hst.trans s,fun t v u=>let ⟨c,c1,c2⟩:=he t v u;⟨c,c1,c2.mono hr s⟩⟩;obtain ⟨Ds,d1,d2,d3⟩:=hs.defers.step hr s;refine⟨w.heap.size::Ds,by rw[d1];rfl,List.nodup_cons.2 ⟨fun hmem=>?_,d2⟩,fun D hD=>?_⟩
   ·have hold:∀D∈Ds,D<w.heap.size:=by
     obtain ⟨Ds',d1',_,d3'⟩:=hs.defers;have he:Ds'=Ds:=by
      have h0:Ds'.map mark=Ds.map mark:=List.append_cancel_right (d1'.symm.trans d1);have hinj:∀(l c_:List Nat),l.map mark=c_.map mark->l=c_:=by
       intro l
       induction l with
       |nil=>intro c_ h;cases c_ with
        |nil=>rfl
        |cons _ _=>cases h
       | cons D l ih=>intro c_ h;cases c_ with
        |nil=>cases h
        |cons D' c_ =>
         simp only[List.map_cons,List.cons.injEq,mark,Deferred.mk.injEq,Target.collected.injEq,and_true]at h;rw[h.1,ih c_ h.2]
      exact hinj _ _ h0
     subst he;exact fun D hD=>(Array.getElem?_eq_some_iff.1 (d3' D hD).2).1
    exact Nat.lt_irrefl _ (hold _ hmem)
   rcases l7.1 hD with rfl|hD
   ·exact⟨hst.size,hD4⟩
   exact d3 D hD
  have b:=hq z;generalize y.pending=pend at b |-
  match pend,b with
  |none,b=>exact⟨E,_,b,y_⟩
  |some .ret,b=>exact wpIn_ret ⟨E,_,b,y_⟩
  |some (.exit j),b=>exact wpIn_exit ⟨E,_,b,y_⟩
end Go.Abs
namespace Go.Proofs.YtopnleflllkbmaaGreatDoor
open Go.Proofs.Tryz
open Go.Abs
theorem iX(l:List _):∀r∈l.map S_,r.length=1:=fun r a=>by
 obtain ⟨t,_,rfl⟩:=List.mem_map.1 a;rfl
def cSZ(l:List B_):Ob:=bx 1 22 [.pv (aK l)]
def cNZ:Ob:=bx 1 3 [iv 2]
theorem Ld(l)(H)(d:H.get 931=none)(e:H.get 932=none):
  aS Tryz.prog 228 [.pv (aK l),iv 2] H (fun r H'=>r=.clo 266 [.ref 931 0 0 0,.ref 932 0 0 0]/\H'=(932,cNZ)::(931,cSZ l)::H):=by
 have b:=e;refine Bd func228 Z ntmps228<|C (uO Z Z Z Z d)<|Y (uO (id:=932) Z Z Z Z b)<|O U<|S<|C (bS M_)<|O cM<|Cn ?_ ?_<;>intro c
 ·cases c
 refine aA<|C (gR Z Z)<|O U<|aC<|cR (.inr Z) Z (aJ Z) Fin.refl Qq
def EA(l:List B_)(k:Nat):List B_:=(l.drop (2*k)).take 2
theorem yc(l)(k):((l.map S_).drop (2*k)).take 2=(EA l k).map S_:=by rw[EA,List.map_take,List.map_drop]
theorem aDS{n:Nat}(h:2<=n):min (2:Int) n=2:=Int.min_eq_left X
theorem Ab(l:List B_)(h:AV)(c:Nat->aF)(m:Nat)(hl:l.length=2*m)(hm:m<2^40)(i:∀k,(c k).get 931=some (cSZ l))(o:∀k,(c k).get 932=some cNZ)
  (p:∀k,k<m->dF Tryz.prog h [.pv (aK (EA l k))] (c k) (fun r H'=>r=bv true/\H'=c (k+1))) :
  aS Tryz.prog 266 [h,.ref 931 0 0 0,.ref 932 0 0 0] (c 0) (fun r H'=>r=.tup []/\H'=c m):=by
 have hml:(l.map S_).length=l.length:=h_ _;refine Bd func266 Z ntmps266<|Sz U<|aD<|bC (σ:=Nat) (fun k=>([(0,h),(1,.ref 931 0 0 0),(2,.ref 932 0 0 0),(4,iv ((2*k:Nat):Int))],c k)) (fun k=>k<=m) (fun k=>m - k) 0 (l6 _) ?_ ?_
 ·exact E0
 rintro k hkm;refine S<|C V<|Y (aX Z aH Z (i k) Z Z Z)<|Y (fV aE)<|O cM<|Cn ?_ ?_<;>intro e
 ·have hlt:2*k<l.length:=I_ e
  have d:k<m:=X
  have j:=p k d;have hdl:((l.map S_).drop (2*k)).length=l.length - 2*k:=F_
  refine aA<|S<|aD<|S<|aN a7<|Cq (aX Z M_ Z (o k) Z Z Z)<|Cq (aX Z aH Z (i k) Z Z Z)<|Cq V<|Cq (fD (l:=2*k) (h:=(l.map S_).length) (rows':=(l.map S_).drop (2*k)) Z bH Z (iX l) Z Z X (j6 _) G_)<|Cq (fV aE)<|Cq (CN (r:=2) Z Z Z X)<|Cq U<|bJ<|Kr<|C V<|Y (aX Z aH Z (i k) Z Z Z)<|Y V<|Y V<|Y V<|Y (by exact eQ Z Z Z (show IntKind.i64.wrap (((2*k:Nat):Int)+2)=((2*k+2:Nat):Int)by rw[IntKind.wrap_i64];omega))<|Y V<|Y V<|Y (by exact eQ Z Z Z (show IntKind.i64.wrap (((2*k:Nat):Int)+2)=((2*k+2:Nat):Int)by rw[IntKind.wrap_i64];omega)) ?_;refine Y (by exact Cu (l:=2*k) (h:=2*k+2) (rows':=(EA l k).map S_) Z bH Z (iX l) Z Z Z X X G_ (by rw[<-yc,List.drop_take];simp_all))<|Y (cZ Z Z Z (j))<|O iT ?_;refine Cn ?_ ?_<;>intro g
  ·cases g
  refine aA<|Rd V<|Y (aX Z M_ Z (o (k+1)) Z Z Z)<|Y (by exact eQ Z Z Z (show IntKind.i64.wrap (((2*k:Nat):Int)+2)=((2*(k+1):Nat):Int)by rw[IntKind.wrap_i64];omega))<|Da ?_;exact⟨k+1,d,X,E0⟩
 have hge:l.length<=2*k:=J_ e
 have n:k=m:=X
 refine aP ?_;rw[<-n];exact oP (H':=c k) (.inl Z) Z Fin.refl ⟨Z,Z⟩
theorem lf{W}{j}(h:2*j+2<=W.length):((EA W j).map S_)[0]?=some (S_ (W.getD (2*j) a6))/\((EA W j).map S_)[1]?=some (S_ (W.getD (2*j+1) a6)):=by
 have h0:(EA W j)[0]?=some (W.getD (2*j) a6):=by
  rw[EA,List.getElem?_take_of_lt H_,List.getElem?_drop,Nat.add_zero,List.getD_eq_getElem?_getD,m8 X];rfl
 have h1:(EA W j)[1]?=some (W.getD (2*j+1) a6):=by
  rw[EA,List.getElem?_take_of_lt H_,List.getElem?_drop,List.getD_eq_getElem?_getD,m8 X];rfl
 exact⟨F_,F_⟩
def upA(l:List B_)(j:Nat):B_:=dj (l.getD (2*j) a6) (l.getD (2*j+1) a6)
def qj(l:List B_)(k:Nat):List B_:=(List.range k).map (upA l)
theorem Dg(l)(k):qj l (k+1)=qj l k++[upA l k]:=by rw[qj,List.range_succ,List.map_append];rfl
theorem qi(l)(k):(qj l k).length=k:=by simp[qj]
theorem Oy{l}{m}(h:l.length=2*m):qj l m=ql l:=by
 apply List.ext_getElem?;intro k;have hl:=OL m l h;by_cases a:k<m
 ·have:=qk m l k h a;rw[List.getD_eq_getElem?_getD,m8 _]at this;rw[qj,r6,List.getElem?_range a,m8 X];exact congrArg _ this.symm
 rw[List.getElem?_eq_none (by rw[qi];omega),List.getElem?_eq_none X]
def upK(l L:List B_):aF:=[(905,⟨L.length,1,9,bZ L⟩),(3,bx 1 22 [.osl 905 L.length 0 L.length]),(932,cNZ),(931,cSZ l)]
theorem Oz(l L)(s):upK l (L++[s])=[(905,⟨L.length+1,1,9,bZ (L++[s])⟩),(3,bx 1 22 [.osl 905 (L.length+1) 0 (L.length+1)]),(932,cNZ),(931,cSZ l)]:=by simp[upK]
def upE:cY:=[(3,.ref 3 0 0 0)]
theorem ZG(H)(l):∀r∈(cSZ l).rows,∀a∈r,Clo H a:=by intro r c a b;simp[cSZ,bx,q_]at c;subst c;rw[q_]at b;subst b;simp
instance(H)(l):W_ (H) ((cSZ l).rows):=⟨ZG H l⟩
theorem ZH(H):∀r∈cNZ.rows,∀a∈r,Clo H a:=by intro r c a b;simp[cNZ,bx,q_]at c;subst c;rw[q_]at b;subst b;simp
instance(H):W_ (H) (cNZ.rows):=⟨ZH H⟩
theorem Vm(l:List B_)(m:Nat)(H:aF)(w:l.length=2*m)(d_:m<2^40)(hs:∀s∈l,s.size=16):RC 175 [.pv (aK l)] (.pv (aK (ql l))) H:=by
 refine Pu<|Bd func175 Z ntmps175<|Sz U<|Sz (kl 3 Vr)<|S<|C V<|O (kc call228 (Ld l _ Z Z))<|aD ?_;refine fZ.ent (E':=[(3,.ref 3 0 0 0),(6,.clo 266 [.ref 931 0 0 0,.ref 932 0 0 0])]) (H':=upK l []) ?_ ?_
 ·exact (Q_ 905 1 9)
 refine BW (id:=904) (p:=7) upE Z call266 Z Z (by simp[upE];rfl) ?_;intro x o g v u q t;refine(Ab l (.yld 904 0) (fun k=>(904,LR x upE)::upK l (qj l k)) m w d_ (fun k=>rfl) (fun k=>rfl) ?_).mono ?_
 ·intro k hk;have B:∀j,j<l.length->(l.getD j a6).size<2^40:=fun j hj=>by simp_all
  have i:=fun H=>So (l.getD (2*k) a6) (l.getD (2*k+1) a6) false H (B _ X) (B _ X);simp only[Bool.false_eq_true,if_false]at i;obtain ⟨y,A⟩:=lf (W:=l) (j:=k) X;have hfl:=qi l k;refine .inl ⟨904,0,Z,?_⟩;refine LJ [(3,.ref 3 0 0 0),(4,.pv (aK (EA l k)))] (upK l (qj l k)) o g v u q t Z Z Z ?_ ?_
  ·refine Rg<|Da ?_;exact(cJ.wk (Ea<|Eb<|T_) (Hc (nW (by intro p d;simp only[upE,l7,n_,or_false]at d;subst d;simp only[DA];rfl))<|Hc (aV _ _)<|Ha<|Hc (ZH _)<|Hc (ZG _ _)<|T_) ⟨Z,Z,Z,Z,Z,T_⟩)
  rw[Dg,Oz];refine aD<|aN a7<|Cr [3] (fun _ h=>lh aH h)<|Cr [] (fun _ _=>V)<|Cr [] (fun n e=>by exact bU Z bH Z Z X (by rfl) y Z)<|Cr [] (fun _ _=>(fY N_ (hi:=y)))<|Cr [] (fun _ _=>V)<|Cr [] (fun n e=>by exact bU Z bH Z Z X (by rfl) A Z)<|Cr [] (fun _ _=>(fY N_ (hi:=A)))<|Cr [] (fun n e=>by exact bF Z Z call229 Z (i _))<|Cr [] (fun n e=>by exact aL [[.str (upA l k)]] Z bH Z Z Z Z Z F_)<|Cp [905] (fun n e=>by exact cA (ps:=[[.str (upA l k)]]) Z bH xE Z ((e _ Z).trans Z) Z Z Z (eH _) Z F_ (m:=1) Z X Z (gO (qj l k) (upA l k))) ?_;refine Cp [3] (fun _ h=>sa sizeOf22 h)<|bJ<|Kr ?_;exact⟨[(905,⟨(qj l k).length+1,1,9,bZ (qj l k++[upA l k])⟩),(3,bx 1 22 [.osl 905 ((qj l k).length+1) 0 ((qj l k).length+1)]),(932,cNZ),(931,cSZ l)],(cJ.wk T_ (Hc (nW (by intro p d;simp only[upE,l7,n_,or_false]at d;subst d;simp only[DA];rfl))<|Hc (aV _ _)<|Ha<|Hc (ZH _)<|Hc (ZG _ _)<|T_) ⟨Z,Z,Z,Z,Z,T_⟩),Z,Z⟩
 rintro r H' ⟨rfl,rfl⟩;refine⟨x,_,Z,F_,Z,fun z=>?_⟩;rw[g,Oy w];obtain ⟨c,f⟩:∃c,c=ql l:=X_;rw[<-f];have hol:(c.map S_).length=c.length:=h_ _;refine fZ.ent (cJ.fzG (id:=905) (E':=[(3,.ref 3 0 0 0)]) (H':=[(3,bx 1 22 [.pv (aK c)])]) (c.map S_) Z (eC _) ?_ Z ?_ ?_) ?_
 ·intro p d;simp only[l7,n_,or_false]at d;rcases d with rfl;exact⟨_,Z,.same (by simp;rfl)⟩
 ·refine⟨⟨_,Z,Z,Z,Z,lW Z (bG (.osl ?_) kT)⟩,T_⟩
  grind
 ·exact T_
 exact C (bS aH)<|O U<|aC<|Rt<|Qq
def Y4(s:B_)(n k:Nat):List B_:=(List.range n).map fun j=>if j<k then mx s j else a6
theorem PB(s)(n k):(Y4 s n k).length=n:=by simp[Y4]
theorem Y3(s){n k j}(h:j<n):(Y4 s n k)[j]?=some (if j<k then mx s j else a6):=by rw[Y4,r6,List.getElem?_range h];rfl
theorem To(s){n k}(h:k<n):(Y4 s n k).set k (mx s k)=Y4 s n (k+1):=by
 apply List.ext_getElem?;intro j;by_cases a:j<n
 ·rw[Y3 s a];by_cases e:k=j
  ·subst e;rw[List.getElem?_set_self (by rw[PB];exact h),b6 (Nat.lt_succ_self _)]
  rw[List.getElem?_set_ne e,Y3 s a]
  grind
 rw[List.getElem?_eq_none (by rw[List.length_set,PB];omega),List.getElem?_eq_none (by rw[PB];omega)]
theorem Jg(s)(n):Y4 s n 0=List.replicate n a6:=by rw[Y4];simp[Nat.not_lt_zero,if_false];rw[List.map_const',List.length_range]
theorem Tp(s)(h):Y4 s (2 ^ h) (2 ^ h)=xS s h:=by
 rw[Y4,xS]
 simp_all
theorem wa(n):bZ (List.replicate n a6)=List.replicate n [sv a6]:=by rw[bZ,List.map_replicate]
theorem vz(l)(k)(x):(bZ l).set k [sv x]=bZ (l.set k x):=by rw[bZ,bZ,List.map_set]
theorem FX{h}(a:h<=8):2 ^ h<=256:=Nat.pow_le_pow_right H_ a
theorem Yg{h:Nat}(a:h<=8):IntKind.i64.wrap (1*2 ^ ((h:Int)).toNat)=((2 ^ h:Nat)):=by have:=FX a;rw[l8,Int.one_mul,show 2 ^ h=((2 ^ h:Nat):Int)by rfl];generalize 2 ^ h=n at this |-;rw[qD X X]
theorem Tq(s:B_)(h:Nat)(H:aF)(l:s.size<2^40)(i:h<=8):RC 174 [sv s,iv (h:Int)] (.pv (aK (xS s h))) H:=by
 refine Pu ?_;have j:=FX i;have g:=wa (2 ^ h);rw[<-Jg s]at g;rw[<-Tp];obtain ⟨n,m⟩:∃n,n=2 ^ h:=X_;have e:=Yg i;rw[<-m]at j g e |-;refine Bd func174 Z ntmps174<|Sz U<|C V<|Y (by exact O2 Z Z Z (by omega) (by simp[IntKind.bits];omega) e)<|Y (by exact D0 (id:=905) Z bH xE Oc Z Z Z (by omega) (by omega) (l8 _) (l8 _) (by omega) Z)<|O U<|S<|C V<|Y (by exact dT Z aE Z Z Z)<|O V<|aD ?_;refine bC (σ:=Nat) (fun k=>([(0,sv s),(5,.osl 905 0 0 n),(11,iv (n:Int)),(12,iv (k:Int))],[(905,⟨0,1,9,bZ (Y4 s n k)⟩)])) (fun k=>k<=n) (fun k=>n - k) 0 (l6 _) ?_ ?_
 ·rw[g];exact Wk
 intro k hk;have hln:=PB s n k;refine Sz cM<|S<|Cn ?_ ?_<;>intro c
 ·have d:k<n:=by have:=b9 c;omega
  have hrow:(bZ (Y4 s n k))[k]?=some [sv a6]:=by
   rw[bZ,r6,Y3 s d,a8 (Nat.lt_irrefl _)];rfl
  have hset:(bZ (Y4 s n k)).set k [sv (mx s k)]=bZ (Y4 s n (k+1)):=by rw[vz,To s d]
  refine aA<|S<|aD<|C V<|O U<|Rd V<|Y V<|Y V<|Y V<|Y (kc call227 (aAS s k _ l (by omega)))<|Y (by exact dI Z bH Z Z Z Z Z (by omega) (by exact l8 _) (by omega) Z)<|Uu (by exact cQ (r:=[sv a6]) (r':=[sv (mx s k)]) (rows':=bZ (Y4 s n (k+1))) Z V_ Z Z Z Z Z (by simp_all) (by simp) Z (by simp_all))<|Zz<|Rd kp<|O V ?_;exact⟨k+1,by omega,by omega,(cJ.wk (Eb<|Ea<|Eb<|Eb<|T_) (Hc (aV _ _)<|T_) T_)⟩
 have f:k=n:=by have:=b_ c;omega
 subst f;have htk:((Y4 s k k).map S_).take k=(Y4 s k k).map S_:=List.take_of_length_le (by simp_all);refine aP<|C V<|O U<|aC ?_;refine cR (H':=[]) (.inr Z) Z (aJ Z) (Fin.fz (r':=.pv (aK (Y4 s k k))) (id:=905) ((Y4 s k k).map S_) Z (eC _) (.osl (by simp_all)) Z T_ T_) ?_;exact Qq
end Go.Proofs.YtopnleflllkbmaaGreatDoor
