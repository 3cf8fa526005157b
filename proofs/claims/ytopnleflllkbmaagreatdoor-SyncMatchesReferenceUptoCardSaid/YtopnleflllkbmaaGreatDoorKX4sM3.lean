/-
  Parts of the proof. Conditions: each theorem's own.
-/
import Derived.Test.YtopnleflllkbmaaGreatDoorKX4sM2
set_option linter.unusedVariables false
set_option linter.unusedSimpArgs false
set_option maxRecDepth 100000
set_option maxHeartbeats 8000000
open List Nat
open List renaming length->C
open Option renaming some->A,none->ζ
open Bool renaming true->N,false->η
open ByteArray renaming data->μ
open Array renaming toList->ν
open Decidable renaming decide->θ
open Go.IntKind renaming i64->ξ
open Go.Proofs.Tryz renaming prog->φ
open Go.Proofs.YtopnleflllkbmaaGreatDoor
namespace Go.Proofs
open Tryz
theorem nS:type_of% call132:=call132
theorem nR:type_of% call133:=call133
theorem nQ:type_of% call160:=call160
theorem sD:type_of% call204:=call204
theorem mD:type_of% call79:=call79
theorem cD:type_of% isAgg135:=isAgg135
theorem cW:type_of% isAgg137:=isAgg137
theorem iJ:type_of% underlying158:=underlying158
theorem zM:type_of% underlying215:=underlying215
end Go.Proofs
namespace Go.Abs
variable{id b p m4:Nat}{d:dD}{x:Go.Loop}{H K:aF}{P:Program}
section
def LR(x:Go.Loop)(E0:dD):Ob:=⟨0,0,0,[[.raw x (E0.map (·.1))],E0.map (·.2)]⟩
section
variable{I:Nat->Prop}{ι:mG}{w:World}
theorem Jf{x}(m:Rel I ι H w)(e:H.get id=A (LR x d)){v:Value}(j:VRel w I ι H v (.yld id 0)):
  ∃b,ι id=A (b,2)/\v=.func (.yield b) #[] #[]/\w.heap[b]?=A (.loop x)/\¬ I b/\∀(i t:Nat) (a:AV),(d.map (·.1))[i]?=A t->(d.map (·.2))[i]?=A a->∃c,x.tmps[t]?=A c/\VRel w I ι H c a:=by
 cases j with
 |yld o g E F k =>
  rw[e]at g;cases g;have ⟨_,b,f,D⟩:=k Z;have ⟨_,B,y,h,k2,G,l⟩:=(m.obj id _ e).rec Z f;rw[f]at h;have ⟨J,K⟩:=l x _ _ Z
  grind
theorem Rel.setRec{y:Go.Loop}{G:dD}{H':aF}(m:Rel I ι H w)(n:H.get id=A (LR x G))(k:ι id=A (b,2))(hy:y.tmps=x.tmps)
  (K:H'.get id=A (LR y G)) (J:∀j,j≠id->H'.get j=H.get j):Rel I ι H' (w.putObj b (.loop y))/\Step I ι H w I ι H' (w.putObj b (.loop y)):=by
 have ⟨_,b',z,p,o_,J0,k4⟩:=(m.obj id _ n).rec Z k;rw[k]at p;cases p;have ⟨Q,A_⟩:=k4 x _ _ Z;subst Q;have u:=(Array.getElem?_eq_some_iff.1 o_).1;have s:∀c,OH ι H' c->OH ι H c:=λc ⟨j,o,B,u_,g⟩=>by
  by_cases e:j=id
  .subst e;exact⟨j,_,B,n,g⟩
  exact⟨j,o,B,(J j e).symm.trans u_,g⟩
 have l:Step I ι H w I ι H' (w.putObj b (.loop y)):=by
  refine⟨Z,Z,Z,F_,λa L _=>?_,λ_ h=>h,λ_ h=>.inl h,λc g=>.inl (s c g),λc g v_=>?_,λj o f=>?_⟩
  .unfold World.frozen?;by_cases e:a.block=b
   .rw[e,World.putObj_heap_same u,o_]
   rw[World.putObj_heap_other e]
  .exact World.putObj_heap_other λe=>v_ ⟨id,_,2,n,by rw[e];exact k⟩
  by_cases e:j=id
  .subst e;rw[n]at f;cases f;exact⟨_,K,h_ _,λ_=>⟨Z,Z,λh=>by cases h⟩⟩
  exact⟨o,(J j e).trans f,h_ _,λ_=>⟨Z,Z,λ_=>h_ _⟩⟩
 refine⟨⟨λc g=>by rw[World.putObj_size];exact m.imm c g,λj o f=>?_,λj m4 o o' c d d' f F g D=>?_,l.glob m⟩,l⟩
 .by_cases e:j=id
  .subst e;rw[K]at f;cases f;refine .inr (.inr (.inr (.inl ⟨Z,b,y,k,World.putObj_heap_same u,J0,λz ts r e_=>?_⟩)));simp only[LR,List.cons.injEq,AV.raw.injEq,and_true]at e_;obtain ⟨⟨rfl,rfl⟩,rfl⟩:=e_;refine⟨Z,λi t a W L=>?_⟩;have ⟨c,z_,P⟩:=A_ i t a W L;exact⟨c,by rw[hy];exact z_,P.mono m l⟩
  rw[J j e]at f;exact(m.obj j o f).keep Z (λc d g _=>⟨World.putObj_heap_other (λhb=>e (m.inj j id o _ c d 2 f n g (by rw[hb];exact k))),λh=>h⟩) (λr _ a _ v R=>R.mono m l)
 have i_:∀j o,H'.get j=A o->∃o,H.get j=A o:=λj o f=>by
  by_cases e:j=id
  .subst e;exact⟨_,n⟩
  exact⟨o,(J j e).symm.trans f⟩
 have ⟨q,f_⟩:=i_ j o f;have ⟨y_,E⟩:=i_ m4 o' F;exact m.inj j m4 q y_ c d d' f_ E g D
theorem Rel.push(o:Obj)(f:Rel I ι H w):Rel I ι H (w.alloc o)/\Step I ι H w I ι H (w.alloc o):=by
 have g:∀b,b<w.heap.size->(w.alloc o).heap[b]?=w.heap[b]?:=λb e=>by
  show (w.heap.push o)[b]?=_
  grind
 have d:Step I ι H w I ι H (w.alloc o):=by
  refine⟨Z,Z,Z,F_,λa B _=>?_,λ_ h=>h,λ_ h=>.inl h,λ_ h=>.inl h,λb e _=>g b e,λ_ o h=>⟨o,h,h_ _,λ_=>⟨Z,Z,λ_=>h_ _⟩⟩⟩;unfold World.frozen?
  simp_all
 refine⟨⟨λb e=>by have:=f.imm b e;rw[World.size_alloc];omega,λj o k=>?_,f.inj,d.glob f⟩,d⟩;exact(f.obj j o k).keep Z (λb c _ e=>⟨g b e,λh=>h⟩) (λr _ a _ v i=>i.mono f d)
end
def busy(x:Go.Loop):Go.Loop:={x with state:=.busy}
def left(x:Go.Loop)(c:Code):Go.Loop:={x with state:=.done,pending:=A c}
def Qh(H0:aF)(id:Nat)(x:Go.Loop)(E0:dD)(Q:AV->aF->Prop):Exit->dD->aF->Prop
 |.normal,E,H=>∃K,cH H0 E H [] ((id,LR (busy x) E0)::K)/\Q (.pv (.bool N)) ((id,LR x E0)::K)
 |.ret,E,H=>∃K,cH H0 E H [] ((id,LR (busy x) E0)::K)/\Q (.pv (.bool η)) ((id,LR (left x .ret) E0)::K)
 |.exit j,E,H=>∃K,cH H0 E H [] ((id,LR (busy x) E0)::K)/\Q (.pv (.bool η)) ((id,LR (left x (.exit j)) E0)::K)
 |_,_,_=>False
theorem uT{G:Entry}{I}{ι}{H}{w}{id b}{x y}{e}(c:Step G.I G.ι G.H G.w I ι H w)(h:G.H.get id=A (LR x e))(a:G.ι id=A (b,2))(g:H.get id=A (LR y e)):ι id=A (b,2):=by have ⟨B,d,_,f⟩:=c.objs _ _ h;rw[g]at d;cases d;exact(f Z).1.trans a
theorem vV{I}{ι:mG}{w}{x}{f:dD}(g:Rel I ι H w)(d:H.get id=A (LR x f))(a:ι id=A (b,2)):w.heap[b]?=A (.loop x):=by
 have ⟨_,B,z,c,k2,D,e⟩:=(g.obj id _ d).rec Z a;rw[a]at c;have ⟨E,_⟩:=e x _ _ Z
 simp_all
theorem iF(id)(o)(K:aF):aF.get ((id,o)::K) id=A o:=by simp[aF.get,qA]
theorem CF{id j}(o o')(K:aF)(h:j≠id):aF.get ((id,o)::K) j=aF.get ((id,o')::K) j:=by simp[aF.get,kH (Ne.symm h)]
theorem MV{h n:Code}{a:AV}{Q:AV->aF->Prop}(E2:dD)(k:aF)(G:x.state=.ready)(A_:x.pending=ζ)(hp:x.params=#[p])(hN:x.tmps.size=m4)(hxa:x.assign=h)(hxb:x.body=n)(u_:Nat.blt p m4=N)
  (κ:AG h=N) (J0:AG n=N)
  (h1:gO P ((id,LR x d)::K) m4 h (zP (λE1 H1=>cH ((id,LR x d)::K) E1 H1 E2 ((id,LR x d)::k)) (λ_ _ _=>False)) ((p,a)::d) ((id,LR x d)::K))
  (h2:gO P ((id,LR x d)::K) m4 n (Qh ((id,LR x d)::K) id x d Q) E2 ((id,LR (busy x) d)::k)):JV P id 0 [a] ((id,LR x d)::K) Q:=by
 subst hxa hxb;have u_:p<m4:=F_
 intro I J w vs v hr hv hl hvs;have ⟨b,e1,e2,e3,e4,e5⟩:=Jf hr (iF _ _ _) hv;obtain ⟨u,rfl⟩:∃u,vs=#[u]:=by
  match vs,hl with
  |⟨[u]⟩,_=>exact⟨u,Z⟩
 have hu:=hvs 0 u a Z Z;refine⟨b,x.fn,_,x.assign,x.body,e2,run_yield e3 F_,?_⟩;refine roundIn_of_wpIn (F:=Fence.wide) T_ ?_;have z_:(⟨I,J,(id,LR x d)::K,w,[]⟩:Entry).H=(id,LR x d)::K:=rfl;have β:St ⟨I,J,(id,LR x d)::K,w,[]⟩ m4 ((p,a)::d) ((id,LR x d)::K) {tmps:=(x.params.zip #[u]).foldl (λm (t,a)=>m.setIfInBounds t a) x.tmps,defers:=[]} w:=by
  have ht:(x.params.zip #[u]).foldl (λm (t,a)=>m.setIfInBounds t a) x.tmps=x.tmps.setIfInBounds p u:=by rw[hp];simp
  rw[ht];refine⟨uQ.nil _ _ _,by simp[hN],I,J,hr,Step.refl _ _ _ _,λt y s=>?_⟩;by_cases e:p=t
  .subst e;rw[dD.get_cons_same]at s;cases s;exact⟨u,by simp[hN,u_],hu⟩
  rw[dD.get_cons_other _ _ e]at s;have ⟨i,hi⟩:=s8.1 (iV s);have ⟨c,c1,c2⟩:=e5 i t y (by rw[r7,hi];rfl) (by rw[r7,hi];rfl);exact⟨c,by show (x.tmps.setIfInBounds p u)[t]?=A c;rw[Array.getElem?_setIfInBounds_ne e];exact c1,c2⟩
 refine wpIn_mono (h1 _ z_ _ w β (A b) (.inr κ)) ?_;rintro e a1 w1 ⟨E1,H1,q,hs1⟩;cases e with
 | normal =>
  have F:=q _ z_ m4 a1 w1 hs1;have ⟨I1,ι1,z,B,ρ⟩:=F.rel;have E:=uT B (iF _ _ _) e1 (iF _ _ _);have τ:=vV z (iF _ _ _) E;have ⟨k1,k2⟩:=z.setRec (y:=busy x) (H':=(id,LR (busy x) d)::k) (iF _ _ _) E Z (iF _ _ _) (λj hj=>CF _ _ _ hj);refine⟨_,run_beginRound τ G,?_⟩;have δ:St ⟨I,J,(id,LR x d)::K,w,[]⟩ m4 E2 ((id,LR (busy x) d)::k) a1 (w1.putObj b (.loop (busy x))) :=
   ⟨F.defers.step z k2,F.size,I1,ι1,k1,B.trans k2,λt y s=>let ⟨c,c1,c2⟩:=ρ t y s;⟨c,c1,c2.mono z k2⟩⟩
  refine wpIn_mono (h2 _ z_ a1 _ δ (A b) (.inr J0)) ?_;rintro e a2 w3 ⟨E3,H3,R,hs4⟩;have o_:∀(g:Option Code) (y:Go.Loop) (o:aF),y={busy x with state:=if g.isNone then .ready else .done,pending:=g}->cH ((id,LR x d)::K) E3 H3 [] ((id,LR (busy x) d)::o)->Q (.pv (.bool g.isNone)) ((id,LR y d)::o) ->
    ∃v w',(Instr.endRound b g).run P w3=.ok v w'/\∃r H' I' L v',Ending.returned v=.returned v'/\Q r H'/\VRel w' I' L H' v' r/\Rel I' L H' w'/\Step I J ((id,LR x d)::K) w I' L H' w':=by
   intro g y o s f H;have γ:=f _ z_ m4 a2 w3 hs4;have ⟨I5,ι5,W,d_,_⟩:=γ.rel;have D:=uT d_ (iF _ _ _) e1 (iF _ _ _);have σ:=vV W (iF _ _ _) D;have ⟨z1,z2⟩:=W.setRec (y:=y) (H':=(id,LR y d)::o) (iF _ _ _) D (by rw[s]) (iF _ _ _) (λj hj=>CF _ _ _ hj);refine⟨_,_,run_endRound g σ,_,_,I5,ι5,_,Z,H,.pv (.bool _),?_,?_⟩
   .rw[<-s];exact z1
   rw[<-s];exact d_.trans z2
  cases e with
  |normal =>
   obtain ⟨o,f,H⟩:=R;refine o_ ζ x o ?_ f H;obtain ⟨st,pe,fn,tm,pa,ax,bo,de⟩:=x;simp only at G A_;subst G A_;rfl
  |ret =>
   have ⟨o,f,H⟩:=R;exact o_ (A .ret) (left x .ret) o Z f H
  |exit j =>
   have ⟨o,f,H⟩:=R;exact o_ (A (.exit j)) (left x (.exit j)) o Z f H
  |goto l=>exact R.elim
  |panic ch=>exact R.elim
  |outgrown=>exact R.elim
 |exit j=>exact q.elim
 |goto l=>exact q.elim
 |ret=>exact q.elim
 |panic ch=>exact q.elim
 |outgrown=>exact q.elim
def Ql(Q:Exit->dD->aF->Prop)(E:dD)(H:aF):Option Code->Prop
 |none=>Q .normal E H
 |some .ret=>Q .ret E H
 |some (.exit j)=>Q (.exit j) E H
 |_=>False
theorem CN{G0:aF}{f:Nat}{e_:List AV}{g:Operand}{ps:Array Tmp}{assign body:Code}{Q:Exit->dD->aF->Prop}{E:dD}(n:dD)(hg:aS E g=A (.clo f e_))(hc:∀(args:Array Value) (w:World),(callFunc f args).run P w=.ok (.enter f args) w)
  (hps:ps=#[p]) (hid:H.get id=ζ) (hE0:∀q∈n,E.get q.1=A q.2)
  (h:∀x:Go.Loop,x.state=.ready->x.pending=ζ->x.params=#[p]->x.tmps.size=m4->x.assign=assign->x.body=body ->
   aW P f (.yld id 0::e_) ((id,LR x n)::H) (λr H'=>∃(y:Go.Loop) (K:aF),y.tmps=x.tmps/\y.state≠.busy/\H'=(id,LR y n)::K/\∀z:Go.Loop,Ql Q E ((id,LR z n)::K) y.pending)) :
  gO P G0 m4 (.rangeFunc g ps assign body) Q E H:=by
 intro G hG a w hs ro hro;obtain rfl:ro=ζ:=hro.resolve_right (λh=>by cases h);have ⟨I,ι,hr,δ,he⟩:=hs.rel;refine wpIn_rangeFunc (F:=RF ζ) ?_;intro fn _;have ρ:=aK he hg;generalize hfc:a.eval g=fc at ρ;cases ρ with
 | @clo _ us _ hl hh =>
  have ⟨x,R⟩:∃x:Go.Loop,x={state:=.ready,pending:=ζ,fn,tmps:=a.tmps,params:=ps,assign,body,defers:=w.heap.size}:=X_;have ⟨a1,a2⟩:=hr.push (.deferred (A []));have ⟨A_,v_⟩:∃A_,A_=w.alloc (.deferred (A [])):=X_;rw[<-v_]at a1 a2;have L:A_.heap.size=w.heap.size+1:=F_
  have σ:A_.heap[w.heap.size]?=A (.deferred (A [])):=by rw[v_];exact World.alloc_heap_new w _
  have m:aF.get ((id,LR x n)::H) id=A (LR x n):=iF _ _ _;have ⟨b1,b2⟩:=a1.placeX (id:=id) (cap:=2) (x:=.loop x) (w':=A_.alloc (.loop x)) (H':=(id,LR x n)::H) (ob':=LR x n) Z Z Z Z (λo ho=>by simp_all)
   (λhnew hI k=>.inr (.inr (.inr (.inl ⟨Z,_,x,H_,hnew,hI,λy ts r hy=>by
    simp only[LR,List.cons.injEq,AV.raw.injEq,and_true]at hy;obtain ⟨⟨rfl,rfl⟩,rfl⟩:=hy;refine⟨Z,λi t v ht u=>?_⟩;rw[r7]at ht u;obtain ⟨q,hq,rfl⟩:=Option.map_eq_some_iff.1 ht;rw[hq]at u;cases u;have ⟨c,c1,c2⟩:=he q.1 q.2 (hE0 q (m7 hq));exact⟨c,by rw[R];exact c1,k _ _ (c2.mono hr a2)⟩⟩))))
   m (λj hj=>by simp[aF.get,kH (Ne.symm hj)])
  have ⟨J0,γ⟩:∃J0,J0=A_.alloc (.loop x):=X_;rw[<-γ]at b1 b2;have ⟨B,u_⟩:∃B:mG,B=λj=>if j=id then A (A_.heap.size,2)else ι j:=X_
  rw[<-u_]at b1 b2;have d:B id=A (w.heap.size+1,2):=by rw[u_,L];simp
  have hL1:=vV b1 m d;have W:J0.heap[w.heap.size]?=A (.deferred (A [])):=by
   rw[b2.keep _ (by rw[L];omega) (B4 a1 σ)];exact σ
  have z_:=h x (by rw[R]) (by rw[R]) (by rw[R,hps]) (by rw[R];exact hs.size) (by rw[R]) (by rw[R]) I B J0 (#[.func (.yield (w.heap.size+1)) #[] #[]]++us) b1 (by simp[hl];omega) (λi v c u F=>by
   cases i with
   |zero =>
    rw[Array.getElem?_append_left H_]at u;simp at u F;subst u F;exact .yld (LR x n) m (h_ _) Z (λ_=>⟨Z,_,d,Z⟩)
   |succ i =>
    rw[Array.getElem?_append_right H_]at u;simp only[getElem?_cons_succ]at F;have:=hh i v c (by simpa using u) F;exact(this.mono hr a2).mono a1 b2)
  refine⟨w.heap.size+1,[mark w.heap.size],J0,{target:=.fn (.func f) us,args:=#[.func (.yield (w.heap.size+1)) #[] #[]]},J0,f,#[.func (.yield (w.heap.size+1)) #[] #[]]++us,J0,?_,?_,λ_ _=>trivial,?_,(λq=>by cases q),?_⟩
  .rw[γ,v_,R];exact run_enterLoop_outer _ _ _ _ _
  .simp only[resolve,hfc];simp[go_sem]
  .simp[invoke,go_sem,hc]
  refine((callsIn_wide (n:=0)).2 z_).mono ?_;rintro e w3 ⟨r,H',I3,ι3,v3,rfl,⟨y,K,hy1,hy2,rfl,hq⟩,_,hr3,i_⟩;have o_:=uT (G:=⟨I,B,(id,LR x n)::H,J0,[]⟩) i_ m d (iF _ _ _);have hb3:=vV hr3 (iF _ _ _) o_;have ⟨z,hz⟩:∃z:Go.Loop,z={y with state:=.exhausted}:=X_;have ⟨z1,z2⟩:=hr3.setRec (y:=z) (H':=(id,LR z n)::K) (iF _ _ _) o_ (by rw[hz]) (iF _ _ _) (λj hj=>CF _ _ _ hj);have ⟨o,β⟩:∃o,o=w3.putObj (w.heap.size+1) (.loop z):=X_;rw[<-β]at z1 z2;refine⟨y.pending,o,by rw[β,hz];exact run_endLoop hb3 hy2,?_⟩;have s:Step I ι H w I3 ι3 ((id,LR z n)::K) o:=((a2.trans b2).trans i_).trans z2;have hD4:o.heap[w.heap.size]?=A (.deferred (A [])):=by
   rw[(i_.trans z2).keep _ (Array.getElem?_eq_some_iff.1 W).1 (B4 b1 W)];exact W
  have y_ : St G m4 E ((id, LR z n) :: K) { a with defers := [mark w.heap.size] ++ a.defers } o := by
   refine⟨?_,hs.size,I3,ι3,z1,δ.trans s,λt v u=>let ⟨c,c1,c2⟩:=he t v u;⟨c,c1,c2.mono hr s⟩⟩;have ⟨Ds,d1,d2,d3⟩:=hs.defers.step hr s;refine⟨w.heap.size::Ds,by rw[d1];rfl,nodup_cons.2 ⟨λhmem=>?_,d2⟩,λD hD=>?_⟩
   .have hold:∀D∈Ds,D<w.heap.size:=by
     have ⟨τ,d1',_,d3'⟩:=hs.defers;have he:τ=Ds:=by
      have h0:τ.map mark=Ds.map mark:=append_cancel_right (d1'.symm.trans d1);have κ:∀(l J:List Nat),l.map mark=J.map mark->l=J:=by
       intro l
       induction l with
       |nil=>intro J h;cases J with
        |nil=>rfl
        |cons _ _=>cases h
       | cons D l ih=>intro J h;cases J with
        |nil=>cases h
        |cons D' J =>
         simp only[map_cons,List.cons.injEq,mark,Deferred.mk.injEq,Target.collected.injEq,and_true]at h;rw[h.1,ih J h.2]
      exact κ _ _ h0
     subst he;exact λD hD=>(Array.getElem?_eq_some_iff.1 (d3' D hD).2).1
    exact Nat.lt_irrefl _ (hold _ hmem)
   rcases l9.1 hD with rfl|hD
   .exact⟨δ.size,hD4⟩
   exact d3 D hD
  have b:=hq z;generalize y.pending=pend at b |-
  match pend,b with
  |none,b=>exact⟨E,_,b,y_⟩
  |some .ret,b=>exact wpIn_ret ⟨E,_,b,y_⟩
  |some (.exit j),b=>exact wpIn_exit ⟨E,_,b,y_⟩
end
theorem aW.congrG{P}{f}{args}{H H1 K K1}{d}(h:aW P f args H1 (λr A_=>r=d/\A_=K1))(u:∀j,H1.get j=H.get j)(p:∀j,K.get j=K1.get j):aW P f args H (λr A_=>r=d/\A_=K):=by intro I ι w vs g q n;have ⟨B,l⟩:=g.congr u;refine(h I _ w _ B q (λi v a o y=>(n i v a o y).mono g l)).mono ?_;rintro e w' ⟨r,H',s,c,v,rfl,⟨rfl,rfl⟩,x,k,z⟩;have ⟨t,m⟩:=k.congr p;exact⟨r,K,s,c,v,Z,⟨Z,Z⟩,x.mono k m,t,(l.trans z).trans m⟩
theorem JV.congrG{P}{id g}{args}{H H1 K K1}{q}(h:JV P id g args H1 (λr A_=>r=q/\A_=K1))(J:∀j,H1.get j=H.get j)(E:∀j,K.get j=K1.get j):JV P id g args H (λr A_=>r=q/\A_=K):=by intro I ι w vs v k m F Q;have ⟨y,o⟩:=k.congr J;have ⟨l,f,c,b,d,G,B,z⟩:=h I _ w _ v y (m.mono k o) F (λi v a D L=>(Q i v a D L).mono k o);refine⟨l,f,c,b,d,G,B,z.mono ?_⟩;rintro e w' ⟨r,H',x,n,v,rfl,⟨rfl,rfl⟩,u,s,d_⟩;have ⟨t,p⟩:=s.congr E;exact⟨r,K,x,n,v,Z,⟨Z,Z⟩,u.mono s p,t,(o.trans d_).trans p⟩
theorem dO.congrG{P}{c}{args}{H H1 K K1}{b}(h:dO P c args H1 (λr A_=>r=b/\A_=K1))(d:∀j,H1.get j=H.get j)(f:∀j,K.get j=K1.get j):dO P c args H (λr A_=>r=b/\A_=K):=by
 rcases h with⟨id,g,e,h⟩|⟨F,a,e,i,h⟩
 .exact .inl ⟨id,g,e,h.congrG d f⟩
 exact .inr ⟨F,a,e,i,h.congrG d f⟩
theorem nK{i j}{a b}(h:i≠j)(k):aF.get ((i,a)::(j,b)::K) k=aF.get ((j,b)::(i,a)::K) k:=by
 simp[aF.get];cases c:Nat.beq i k with
 |true =>
  have:=eq_of_beq_eq_true c;subst this;rw[kH (Ne.symm h)];rfl
 |false=>all_goals rfl
end Go.Abs
namespace Go.Abs
open Go.Lib
variable{e:TypeId}{id g n b cap l off len c h sz k ty:Nat}{ob:Ob}{s:B_}{H2 H H':aF}{w:World}{ι:mG}{f:List AV}{I:Nat->Prop}{rows:List (List PV)}{rows':List (List AV)}
section
section
variable{P:Program}{m4:Nat}{o:Oper}{E:dD}{J0 f_:TypeId}{x y:Operand}
theorem C2{w}{I}{ι}(s):uL w I ι H 1 (strCells s) (fX (ν (μ s))):=by
 intro i r c k a d;rw[fX,r7]at c;obtain ⟨b,e,rfl⟩:=Option.map_eq_some_iff.1 c;cases k with
 |zero =>
  cases d;exact⟨.int _ _,by rw[strCells,Nat.mul_one,Nat.add_zero,r7,e];rfl,Z,.pv (.int _ _)⟩
 |succ k=>grind
theorem S7(ho:o.op=.call {callee:=.builtin .append,args:=#[x,y],argTypes:=#[J0,f_]})(hT:P.underlying J0=A (.slice e))(hS:P.underlying f_=A .string)(β:mi P e 1 1)(hz0:∀i,P.info? e=A i->i.zero=A (.int .u8 0))
  (hx:aS E x=A (.osl id g 0 n)) (d:H.get id=A ob) (hg:ob.g=g) (q:ob.sz=1) (hty:ob.ty=e) (hn:C ob.rows=n)
  (hy:aS E y=A (.pv (.str s))) (hmax:n+s.size<=140737488355328)
  (hH2:H.set id ⟨g+1,1,e,ob.rows++fX (ν (μ s))⟩=H2):cP P m4 o E H (.osl id (g+1) 0 (n+s.size)) H2:=by
 intro a w I ι _ _ hr he K Q hk;have ⟨i,z,hi,hz,i_,γ,hzs,hsz0⟩:=β;have hzi:=hz0 i hi;subst hg hty hn hH2;have f:C (fX (ν (μ s)))=s.size:=by simp[fX]
 have hml:C ob.rows+s.size<=maxLen:=by simp only[maxLen];omega
 have W:(H.set id ⟨ob.g+1,1,ob.ty,ob.rows++fX (ν (μ s))⟩).get id=A ⟨ob.g+1,1,ob.ty,ob.rows++fX (ν (μ s))⟩:=aF.get_set_same _ _ _;have h2:∀j,j≠id->(H.set id ⟨ob.g+1,1,ob.ty,ob.rows++fX (ν (μ s))⟩).get j=H.get j:=λj hj=>aF.get_set_other _ _ hj;have v_:0<ob.sz:=qR (aK he hx) d Z;have p2:=((hr.obj id ob d).cells v_).2.1;rw[q]at p2;have hrl:∀r∈ob.rows++fX (ν (μ s)),C r=1:=λr hr'=>by
  rcases mem_append.1 hr' with h|h
  .simp_all
  obtain ⟨b,_,rfl⟩:=mem_map.1 h;rfl
 have hys:=(aK he hy).str_inv;have R:∀(v':Value) (w':World) (G:mG),(Builtin.append_ #[J0,f_] o.type #[a.eval x,.string s]).run P w=.ok v' w'->VRel w' I G (H.set id ⟨ob.g+1,1,ob.ty,ob.rows++fX (ν (μ s))⟩) v' (.osl id (ob.g+1) 0 (C ob.rows+s.size)) ->
   Rel I G (H.set id ⟨ob.g+1,1,ob.ty,ob.rows++fX (ν (μ s))⟩) w'->Step I ι H w I G (H.set id ⟨ob.g+1,1,ob.ty,ob.rows++fX (ν (μ s))⟩) w'->o.wpW P a w K Q:=by
  intro v' w' G l k1 J c;unfold Oper.wpW execOp;simp only[ho,resolve,invoke,builtin,Sem.run_bind,Sem.run_pure,Result.andThen_ok,map_toArray,map_cons,map_nil,hys,l];exact hk v' w' I G _ _ ⟨Z,Z⟩ k1 J c
 have hvx:=aK he hx;have ⟨_,τ⟩:=jY hvx d Z;rcases τ with⟨b,m,oo,c1,c2,c3⟩|⟨c1,c2,_,c4⟩
 .obtain ⟨p1,_,⟨b',cap',L,z_,e2,e3,e4,e5,e5',e6⟩|⟨z_,_⟩⟩:=(hr.obj id ob d).cells v_
  .rw [c1] at z_;cases z_;rw [q] at e4 e6;have hoo:oo=0:=X
   subst hoo;rw[Nat.sub_zero]at c2;have A_:uL w I ι H 1 (L.toList.take (C ob.rows*1)) ob.rows:=by
    intro i' r p k a' F
    grind
   have t:C (L.toList.take (C ob.rows*1))=C ob.rows*1:=G_
   have B:C (strCells s)=s.size:=strCells_length s;by_cases κ:C ob.rows+s.size<=m
   .have l:=run_append_room_string (P:=P) w J0 f_ o.type ob.ty i hT hS hi i_ b (C ob.rows) m L e2 s κ X;have ⟨J,c⟩:=Rel.update (H':=H.set id ⟨ob.g+1,1,ob.ty,ob.rows++fX (ν (μ s))⟩) (ob':=⟨ob.g+1,1,ob.ty,ob.rows++fX (ν (μ s))⟩)
     (cs':=(L.toList.take (C ob.rows)++strCells s++L.toList.drop (C ob.rows+s.size)).toArray) hr d c1 e2 H_ q.symm Z (λe=>by grind) (by
      grind) G_ G_ (λi' r p k a' F=>by
       have:=uL.app (l3:=L.toList.drop (C ob.rows+s.size)) A_ t (C2 (H:=H) s) i' r p k a' F;rw[q]
       simpa[append_assoc]using this) W h2
    exact R _ _ ι (by rw[c2];exact l) (.osl _ W (h_ _) Z λ_=>⟨Nat.zero_lt_one,G_,.inl ⟨b,m,0,c1,H_,λ_=>by simp⟩⟩) J c
   have ρ:∀j v,(L.toList.take (C ob.rows))[j]?=A v->w.cell? ((⟨b,0,ζ⟩:Addr).add j)=A v:=by
    intro j v hv;rw[Addr.add_lit,r8,cell_of_row w b _ L ob.ty (0,0) e2];rw[getElem?_take]at hv
    split at hv
    .simpa using hv
    cases hv
   have l:=run_append_grow_string (P:=P) w J0 f_ o.type ob.ty i (.int .u8 0) hT hS hi hzi ⟨b,0,ζ⟩ (C ob.rows) m _ (by rw[i_];simpa using t) ρ s X X (growslice_fits X (by rw[γ];omega));have σ:=grownCap_ge w (C ob.rows+s.size) m ob.ty;have y_:=grownCap_le_maxLen w (C ob.rows+s.size) m ob.ty hml;have δ:(Value.int IntKind.u8 0).cells.size=1:=rfl;have ⟨J,c⟩:=Rel.place (H':=H.set id ⟨ob.g+1,1,ob.ty,ob.rows++fX (ν (μ s))⟩) (id:=id) (cap:=grownCap w (C ob.rows+s.size) m ob.ty) (ob':=⟨ob.g+1,1,ob.ty,ob.rows++fX (ν (μ s))⟩)
    (cs':=(L.toList.take (C ob.rows)).toArray++(strCells s).toArray++Builtin.zeroCells (Value.int .u8 0).cells (grownCap w (C ob.rows+s.size) m ob.ty - (C ob.rows+s.size)))
    (w':=w.drew.alloc (.cells ((L.toList.take (C ob.rows)).toArray++(strCells s).toArray++Builtin.zeroCells (Value.int .u8 0).cells (grownCap w (C ob.rows+s.size) m ob.ty - (C ob.rows+s.size))) ob.ty)) hr Z Z Z Z
    (λo' c_=>by rw[d]at c_;cases c_;simp) Nat.zero_lt_one (by
     simp only[Array.size_append,size_toArray,size_zeroCells,δ,B,q9,Array.length_toList];omega) (by simp only[j8,f];exact σ) y_ hrl (λi' r p k a' F=>by
      have ⟨u,q1,q2,q3⟩:=uL.app (l3:=(Builtin.zeroCells (Value.int .u8 0).cells (grownCap w (C ob.rows+s.size) m ob.ty - (C ob.rows+s.size))).toList) A_ t (C2 (H:=H) s) i' r p k a' F;refine⟨u,?_,q2,q3⟩;rw[<-Array.getElem?_toList]
      simpa[append_assoc]using q1) W h2
   exact R _ _ _ (by rw[c2];exact l) (.osl _ W (h_ _) Z λ_=>⟨Nat.zero_lt_one,by simp[f],.inl ⟨w.heap.size,_,0,by simp;rfl,H_,λ_=>by simp⟩⟩) J c
  rw[c1]at z_;cases z_
 have D:ob.rows=[]:=eq_nil_of_length_eq_zero c4;by_cases h0:s.size=0
 .have hb0:fX (ν (μ s))=[]:=eq_nil_of_length_eq_zero (by rw[f];exact h0);have l:(Builtin.append_ #[J0,f_] o.type #[.slice ζ 0 0,.string s]).run P w=.ok (.slice ζ 0 0) w:=by
   have hf:=run_firstCells_string (P:=P) w 1 s;rw[h0]at hf;simp[Builtin.append_,run_underlying hT,run_underlying hS,sizeOf,typeInfo,hi,i_,Builtin.lenOf,h0,hf]
  have ⟨J,c⟩:=Rel.tick (H':=H.set id ⟨ob.g+1,1,ob.ty,ob.rows++fX (ν (μ s))⟩) (ob':=⟨ob.g+1,1,ob.ty,ob.rows++fX (ν (μ s))⟩) hr d H_ q.symm Z (by simp[hb0]) W h2;exact R _ _ ι (by rw[c2];exact l) (.osl _ W (h_ _) Z λ_=>⟨Nat.zero_lt_one,by simp[f],.inr ⟨c1,Z,Z,by simp[D,h0]⟩⟩) J c
 have hr0:=run_append_nil_string (P:=P) w J0 f_ o.type ob.ty i (.int .u8 0) hT hS hi hzi s X X (by rw[γ];omega);have B:C (strCells s)=s.size:=strCells_length s;have z_:(s.data.map λb=>Value.int .u8 b.toNat)=(strCells s).toArray:=by
  apply Array.ext';simp[strCells]
 rw[z_]at hr0;have hml0:s.size<=maxLen:=X
 have σ:=grownCap_ge w s.size 0 ob.ty;have y_:=grownCap_le_maxLen w s.size 0 ob.ty hml0;have δ:(Value.int IntKind.u8 0).cells.size=1:=rfl;have ⟨J,c⟩:=Rel.place (H':=H.set id ⟨ob.g+1,1,ob.ty,ob.rows++fX (ν (μ s))⟩) (id:=id) (cap:=grownCap w s.size 0 ob.ty) (ob':=⟨ob.g+1,1,ob.ty,ob.rows++fX (ν (μ s))⟩)
  (cs':=(strCells s).toArray++Builtin.zeroCells (Value.int .u8 0).cells (grownCap w s.size 0 ob.ty - s.size))
  (w':=w.drew.alloc (.cells ((strCells s).toArray++Builtin.zeroCells (Value.int .u8 0).cells (grownCap w s.size 0 ob.ty - s.size)) ob.ty)) hr Z Z Z Z
  (λo' c_=>by rw[d]at c_;cases c_;simp) Nat.zero_lt_one (by
   simp only[Array.size_append,size_toArray,size_zeroCells,δ,B];omega) (by simp only[j8,f,D,length_nil,r8];exact σ) y_ hrl (λi' r p k a' F=>by
    simp only[D,nil_append]at p;have ⟨u,q1,q2,q3⟩:=C2 (w:=w) (I:=I) (ι:=ι) (H:=H) s i' r p k a' F;have hlt:=(m_.1 q1).1;refine⟨u,?_,q2,q3⟩;rw[Array.getElem?_append_left (by simpa using hlt)]
    simpa using q1) W h2
 exact R _ _ _ (by rw[c2];exact hr0) (.osl _ W (h_ _) Z λ_=>⟨Nat.zero_lt_one,by simp[f],.inl ⟨w.heap.size,_,0,by simp;rfl,by simp[D],λ_=>by simp⟩⟩) J c
theorem xG{e}{id g n k}{ob}{s}{rows'}(p:o.op=.call {callee:=.builtin .append,args:=#[x,y],argTypes:=#[J0,f_]})(l:fQ P J0 e 1)(B:P.underlying f_=A .string)(d:EI P e 1 1)(h:∀i,P.info? e=A i->i.zero=A (.int .u8 0))
  (t:aS E x=A (.osl id g 0 n)) (m:H.get id=A ob) (v:ob.g=g) (b:ob.sz=1) (f:ob.ty=e) (q:C ob.rows=n)
  (r:aS E y=A (.pv (.str s))) (c:n+s.size<=140737488355328) (u:n+s.size=k) (a:ob.rows++fX (ν (μ s))=rows') :
  cP P m4 o E H (.osl id (g+1) 0 k) ((id,⟨g+1,1,e,rows'⟩)::H):=by
 subst u a;exact cP.congr (S7 p l.1 B d.1 h t m v b f q r c Z) (λj=>yI _ _ _ j)
end
end
section
theorem Clo.up{H H'}(d:∀i,(H.get i).isSome=N->(H'.get i).isSome=N){a}(h:Clo H a):Clo H' a:=by
 induction h with
 |any=>exact .any
 |pv p=>exact .pv p
 |pad rows i k=>exact .pad _ i k
 |ref h=>exact .ref (d _ h)
 |osl h=>exact .osl (d _ h)
 |clo h c=>exact .clo c
 |bnd h c=>exact .bnd c
 |agg h c=>exact .agg c
 |tup h c=>exact .tup c
 |mp h=>exact .mp (d _ h)
 |it h=>exact .it (d _ h)
 |yld h=>exact .yld (d _ h)
 |raw x ts=>exact .raw x _
 |osc h=>exact .osc (d _ h)
theorem Clo.app{D K}{a}(h:Clo K a):Clo (D++K) a:=h.up λi hi=>by
 rw[gH]
 grind
theorem dI.app{D K}(c:∀p∈D,∀r∈p.2.rows,∀a∈r,Clo (D++K) a)(g:dI K):dI (D++K):=by
 intro id o b;rw[gH]at b;cases e:D.get _ with
 |some x =>
  rw[e]at b;cases b;exact c _ (eI e)
 |none =>
  rw[e]at b;exact λr d a f=>(g _ o b r d a f).app
theorem Sub.front{D b K}(f:∀p∈D,K.get p.1=ζ)(c:∀p∈b,D.get p.1=A p.2):Sub (b++K) (D++K):=by
 intro id o a;rw[gH]at a |-;cases e:b.get _ with
 |some x =>
  rw[e]at a;cases a;rw[c _ (eI e)]
 | none =>
  rw[e]at a;cases d:D.get _ with
  |none=>exact a
  |some x =>
   have:=f _ (eI d);rw[this]at a;cases a
theorem PO.front{G0 D a K}(g:∀p∈a,D.get p.1=A p.2)(f:∀p∈D,G0.get p.1=ζ):PO G0 (a++K) (D++K):=by
 intro id d;have c:D.get id=ζ:=by
  cases e:D.get _ with
  |none=>rfl
  |some x =>
   have:=f _ (eI e);rw[this]at d;cases d
 have b:a.get id=ζ:=by
  cases e:a.get _ with
  |none=>rfl
  |some x =>
   have:=g _ (eI e);rw[c]at this;cases this
 rw[gH,gH,c,b]
theorem cH.front{G0}{E E'}{K}(D d)(z:Fv E (d++K) E')(j:∀p∈D,K.get p.1=ζ)(g:∀p∈d,D.get p.1=A p.2)(k:∀p∈d,∀r∈p.2.rows,∀a∈r,Clo (d++K) a)(y:dI K)
  (h:∀p∈D,G0.get p.1=ζ):cH G0 E (D++K) E' (d++K):=by
 intro G n m4 a w f;have ⟨I,q,l,e,m⟩:=f.rel;subst n;have b:=Sub.front j g;refine⟨f.defers,f.size,I,q,l.restrict b (dI.app k y),e.restrict b (PO.front g h),λt v x=>?_⟩;have ⟨s,i⟩:=z.spec _ (iV x);have ⟨c,o,u⟩:=m t v s;exact⟨c,o,u.restrict b i⟩
section
variable{F:Fence}{P:Program}{b:Frame}{a:Act}{k:List Item}{cs:List Frame}{Q:Exit->Act->World->Prop}
theorem sI{c}:step P (lone (b.atR a (.code (.scope c)::k)) cs w)=.next (lone (b.atR a (.code c::.inScope c::k)) cs w) :=step_lone_go (Z)
theorem VG{c}:step P (lone (b.atR a (.inScope c::k)) cs w)=.next (lone (b.atR a k) cs w) :=step_lone_go (Z)
theorem HG{c}(h:c.wpIn F n P (Exit.noGoto Q) a w):(Code.scope c).wpIn F n P Q a w:=by
 intro b k cs r q o;have j:(lone (b.atR a (.code (.scope c)::k)) _ w).fenced P F:=fenced_calm q o Z;obtain ⟨e,f,g,i,d⟩:=h b _ _ r q o;cases e with
 |normal=>exact⟨.normal,f,g,i,.head j sI (StepsIn.trans d (.one (fenced_calm q o Z) VG))⟩
 | exit id =>
  have B:exitTo _ (.inScope c::k)=exitTo id k:=rfl;exact⟨_,f,g,i,λD u=>.head j sI (d.1 _ F_),
   λp u=>let ⟨m,s,t⟩:=d.2 p F_;⟨m,s,.head j sI t⟩⟩
 |goto l=>exact i.elim
 |ret=>exact⟨_,f,g,i,.of_steps (.one j sI) d⟩
 |panic ch=>exact⟨_,f,g,i,.of_steps (.one j sI) d⟩
 |outgrown=>exact⟨_,f,g,i,.of_steps (.one j sI) d⟩
end
def Yd(Q:Exit->dD->aF->Prop):Exit->dD->aF->Prop
 |.goto _,_,_=>False
 |e,E,H=>Q e E H
theorem Dw{P}{G0}{m4}{E}{H}{Q}{c}(h:gO P G0 m4 c (Yd Q) E H):gO P G0 m4 (.scope c) Q E H:=by intro G d a w i ro g;refine HG (wpIn_mono (h G d a w i _ g) ?_);rintro e B w' ⟨f,b,q,s⟩;cases e<;>first|exact⟨f,b,q,s⟩|exact q.elim
theorem zJ{P}{G0}{m4}{E}{H H2}{ops}{id n t}{d}{A_}{Q}(h:gO P G0 m4 (.region id ops d) (λe c H1=>e=.normal/\mh n t A_ E H2 c H1) E H)(g:Q .normal ((t,.pv (.bool A_))::E) H2):gO P G0 m4 (.region id ops d) Q E H:=by intro G f a w k ro j;refine wpIn_mono (h G f a w k _ j) ?_;rintro e B w' ⟨c,H1,⟨rfl,i⟩,b⟩;exact⟨_,_,g,(i.ent) G f m4 _ _ b⟩
def EB(H:aF):aF->Prop
 | []=>True
 |(_,o)::r=>(∀r∈o.rows,∀a∈r,Clo H a)/\EB H r
theorem EB.spec{H}:∀ {L},EB H L->∀p∈L,∀r∈p.2.rows,∀a∈r,Clo H a
 |(i,o)::L,h,p,b=>by
  rcases l9.1 b with rfl|b
  .exact h.1
  exact EB.spec h.2 p b
theorem dI.ofL{H}(h:EB H H):dI H:=λ_ _ a=>h.spec _ (eI a)
def lo(D:aF)(n:Nat):Prop:=∀p∈D,900<=p.1/\p.1<n
def clear(K:aF):Prop:=∀i,900<=i->i<1000->K.get i=ζ
theorem Fin.of_ent{G0 H H'}{r r'}(h:cH G0 [(0,r)] H [(0,r')] H'):Fin G0 H r H' r':=by
 intro G b I i w v f a E;have ⟨_,_,D,B,K,k2,d⟩:=h G b 1 ⟨#[v],G.ds⟩ w ⟨uQ.nil _ _ _,Z,I,i,f,a,λt x g=>by
  simp[dD.get]at g;cases e:Nat.beq 0 t with
  |true=>simp_all
  |false=>simp_all⟩
 have ⟨c,F,J⟩:=d 0 _ Z
 grind
theorem Sub.front'{D b K}(f:∀p∈D,(b.get p.1).isSome=N\/K.get p.1=ζ)(c:∀p∈b,D.get p.1=A p.2):Sub (b++K) (D++K):=by
 intro id o a;rw[gH]at a |-;cases e:b.get _ with
 |some x =>
  rw[e]at a;cases a;rw[c _ (eI e)]
 | none =>
  rw[e]at a;cases d:D.get _ with
  |none=>exact a
  |some x =>
   rcases f _ (eI d)with h|h;all_goals simp_all
theorem PO.front'{G0 D a K}(c:∀p∈a,D.get p.1=A p.2)(b:∀p∈D,(a.get p.1).isSome=N\/G0.get p.1=ζ):PO G0 (a++K) (D++K):=by
 intro id hi;rw[gH,gH];cases e:a.get _ with
 |some x=>rw[c _ (eI e)]
 | none =>
  cases d:D.get _ with
  |none=>rfl
  |some x =>
   rcases b _ (eI d)with h|h;all_goals simp_all
theorem Fin.front'{G0 K}{r}(D d)(k:Clo (d++K) r)(i:∀p∈D,(d.get p.1).isSome=N\/K.get p.1=ζ)(e:∀p∈d,D.get p.1=A p.2)(j:∀p∈d,∀r∈p.2.rows,∀a∈r,Clo (d++K) a)(o:dI K)
  (f:∀p∈D,(d.get p.1).isSome=N\/G0.get p.1=ζ):Fin G0 (D++K) r (d++K) r:=by
 intro G g I l w v m n h;subst g;have b:=Sub.front' i e;exact⟨I,l,m.restrict b (dI.app j o),n.restrict b (PO.front' e f),h.restrict b k⟩
theorem Fin.get'{G0 H H'}{r}(a:∀j,H'.get j=H.get j):Fin G0 H r H' r:=Fin.of_ent (cH.get' ⟨⟨_,Z,Z⟩,T_⟩ a)
end
section
section
variable{P:Program}
def LP(ob:Ob):Ob:=⟨ob.g+1,ob.sz,ob.ty,[]⟩
def wI(ι:mG)(id:Nat):mG:=λx=>if x=id then ζ else ι x
theorem Step.dead{w}{I}{ι}{H}{id}{ob}(g:H.get id=A ob):Step I ι H w (rO I ι id) (wI ι id) ((id,LP ob)::H) w where
 os:=rfl
 tape:=rfl
 output:=rfl
 size:=h_ _
 froz:=λ_ _ _=>rfl
 imm:=λ_ h=>.inl h
 immNew:=λb c=>by
  rcases c with c|⟨a,c⟩
  .simp_all
  exact .inr (.inl ⟨id,ob,a,g,c⟩)
 own:=λb c=>by
  have ⟨j,o,a,d,f⟩:=c;by_cases e:j=id
  .rw[wI,b6 e]at f;cases f
  rw[wI,a8 e]at f;rw[get_cons_other _ _ e]at d;exact .inl ⟨j,o,a,d,f⟩
 keep:=λ_ _ _=>rfl
 objs:=λj o d=>by
  by_cases e:j=id
  .subst e;rw[g]at d;cases d;exact⟨LP _,get_cons_same _ _ _,le_succ _,λh=>absurd h (by simp[LP])⟩
  exact⟨o,by rw[get_cons_other _ _ e];exact d,h_ _,λ_=>⟨a8 e,Z,λ_=>h_ _⟩⟩
theorem Rel.dead{I}(g:Rel I ι H w)(s:H.get id=A ob)(q:0<ob.sz):Rel (rO I ι id) (wI ι id) ((id,LP ob)::H) w:=by
 have p:=Step.dead (w:=w) (I:=I) (ι:=ι) s;refine⟨λb d=>?_,λj o f=>?_,λj u o z b c y f m n i=>?_,g.glob.mono (λ_ _=>rfl) (λ_ h=>.inl h)⟩
 .rcases d with d|⟨k,d⟩
  .exact g.imm b d
  exact g.lt ⟨id,ob,k,s,d⟩
 .by_cases e:j=id
  .subst e;rw[get_cons_same]at f;cases f;exact .inl ⟨q,by simp[LP],.inr ⟨b6 Z,Z⟩⟩
  rw[get_cons_other _ _ e]at f;refine(g.obj j o f).keep (a8 e) (λb k B _=>⟨Z,λh=>?_⟩) (λr _ a _ v D=>D.mono g p);rintro(d|⟨l,d⟩)
  ·grind
  exact e (g.inj j id o ob b k l f s B d)
 have x:j≠id:=λe=>by rw[wI,b6 e]at n;cases n
 have t:u≠id:=λe=>by rw[wI]at i;grind
 rw[wI,a8 x]at n;rw[wI,a8 t]at i;rw[get_cons_other _ _ x]at f;rw[get_cons_other _ _ t]at m;exact g.inj j u o z b c y f m n i
theorem aW.retire{f:FuncId}{args args':List AV}{Q}(ps:List (List PV))(h:aW P f args' ((id,LP ob)::H) Q)(l:H.get id=A ob)(F:Nat.blt 0 ob.sz=N)(m:ob.rows=ps.map (·.map .pv))
  (G:C args=C args') (x:∀(i:Nat) (a D:AV),args[i]?=A a->args'[i]?=A D->a=D\/∃off len,a=.osl id ob.g off len/\D=.pv (.sl ((ps.take (off+len)).drop off))):aW P f args H Q:=by
 intro I o w z k E u;have g:=Step.dead (w:=w) (I:=I) (ι:=o) l;refine(h _ _ w z (k.dead l F_) X ?_).mono ?_
 .intro i v D y c;have d:i<C args:=by
   have:=(m_.1 c).1;omega
  have b:=u i v _ y (p_ d);rcases x i _ D (p_ d) c with e|⟨off,len,B,d_⟩
  .rw[e]at b;exact b.mono k g
  rw[B]at b;rw[d_];exact .pv (FU k l m b)
 rintro e w' ⟨r,s,n,j,v,rfl,q,p,t,i_⟩;exact⟨r,s,n,j,v,Z,q,p,t,g.trans i_⟩
end
end
section
def Mm(v:Value):Prop:=∃p,v=.pointer p
theorem iz{P}{e}{s}(c:P.cellsOf e=s+1)(a)(d:1<=a):liesAt P P.depth e a 0 e 1=N:=by have b:P.depth=(2*(P.types.size+Made.depth)+1)+1:=rfl;rw[b];simp[liesAt,Bool.or_eq_true];rw[b];simp[rowAt,c,d,sameLayout]
theorem M4{I}{ι}{H}{w}{v}{id g}{ob}(k:Rel I ι H w)(h:VRel w I ι H v (.ref id g 0 0))(c:H.get id=A ob)(f:ob.g=g)(d:ob.rows≠[]):
  ∃b cap,v=.pointer (A ⟨b,0,ζ⟩)/\w.shape? b=A (ob.ty,cap*ob.sz)/\0<cap/\0<ob.sz:=by
 have ⟨b,cap,i,D⟩:=qD h c f;have e:=SF h c f;obtain ⟨_,_,⟨B,cap',cs,a,l,E,j,F,_⟩|⟨a,_⟩⟩:=(k.obj _ _ c).cells e
 .rw[i]at a;cases a;refine⟨b,cap,F_,by simp[World.shape?,l,j],?_,e⟩;have:=length_pos_iff.2 d;omega
 rw[i]at a;cases a
theorem VRel.sat_inv{w}{I}{ι}{H}{v}{p}(h:VRel w I ι H v (.pv (.sat p))):p v:=by
 have:=h.pv_inv;cases this with
 |sat B a=>exact a
section
variable{P:Program}{m4:Nat}{o:Oper}{E:dD}{f_ J0 t t' e:TypeId}{x y:Operand}
theorem CD{P:Program}{t}{n}(h:(P.info? t).map (·.size)=A n):∃j,P.info? t=A j/\j.size=n:=F_
theorem HW(i:o.op=.convert f_ J0 x)(B:P.underlying f_=A (.pointer t))(v:P.underlying J0=A .unsafePointer)(hi:(P.info? t).map (·.size)=A (n+1))(k:aS E x=A (.ref id g 0 0))(s:H.get id=A ob)(h:ob.g=g)(d:ob.rows≠[]):cP P m4 o E H (.ref id g 0 0) H :=.of_run λa w I ι l z=>by
  have f:=aK z k;have ⟨b,cap,q,m,p,r⟩:=M4 l f s h d;have ⟨j,u,D⟩:=CD hi;have c:=Nat.mul_pos p r;refine⟨_,?_,f⟩;simp only[execOp,i,q];rw[Sem.run_bind,Lib.run_to_unsafe w _ B v u X m c];rfl
theorem PD(r:o.op=.convert f_ J0 x)(D:P.underlying f_=A .unsafePointer)(z:P.underlying J0=A (.pointer t))(hi:(P.info? t).map (·.size)=A (n+1))(s:aS E x=A (.ref id g 0 0))(q:H.get id=A ob)(B:ob.g=g)(c:ob.rows≠[])(d:ob.ty=t)(f:ob.sz=n+1):cP P m4 o E H (.ref id g 0 0) H :=.of_run λa w I ι u F=>by
  have k:=aK F s;have ⟨b,cap,v,i,p,G⟩:=M4 u k q B c;have ⟨j,l,m⟩:=CD hi;have h:P.cellsOf t=n+1:=by simp[Program.cellsOf,l,m]
  refine⟨_,?_,k⟩;simp only[execOp,r,v];rw[d]at i;rw[Sem.run_bind,Lib.run_from_unsafe w ⟨b,0,ζ⟩ D z l i (iz h _ (by rw[h,f,Nat.mul_div_cancel _ X];exact p))];rfl
theorem KZ{i k}(r:o.op=.binOp .neq t x y t')(s:P.underlying t=A (.pointer e))(hi:(P.info? e).map (·.size)=A (n+1))(m:aS E x=A (.ref id g i k))(v:aS E y=A (.ref id g i k))(f:H.get id=A ob)(c:ob.g=g):cP P m4 o E H (.pv (.bool η)) H :=.of_run λa w I ι _ h=>⟨.bool _,by
  have ⟨b,cap,p,l⟩:=qD (aK h m) f c;have ⟨B,cap',d,q⟩:=qD (aK h v) f c;rw[p]at d;cases d;have ⟨j,u,D⟩:=CD hi;simp[execOp,r,l,q,eqGuard_at_pointer,Sem.run_bind,Sem.run_pure,Result.andThen_ok,Lib.run_neq_ptr_same w _ s u],.pv (.bool _)⟩
theorem kf(v):Yb P Extern.AbiNoEscape.same H [v] v:=by
 intro w I ι b a h;have ⟨l⟩:=b
 match l,a with
 | [u],_=>exact⟨u,Z,h 0 u v Z Z⟩
theorem HZ(l:o.op=.call {callee:=.builtin .unsafeSliceData,args:=#[x],argTypes:=#[J0]})(q:aS E x=A (.osl id g 0 n))(f:H.get id=A ob)(h:ob.g=g)(G:0<n):cP P m4 o E H (.ref id g 0 0) H :=.of_run λa w I ι r s=>by
  have k:=aK s q;have j:=qR k f h;obtain ⟨F,⟨b,c,oo,i,m,B⟩|⟨_,_,_,D⟩⟩:=jY k f h
  .obtain ⟨_,_,⟨b',cap',cs,d,f2,f3,f4,f5,_⟩|⟨d,_⟩⟩:=(r.obj _ _ f).cells j
   .rw[i]at d;cases d;refine⟨.pointer (A ⟨b,0,ζ⟩),?_,.ref _ f (Nat.le_of_eq h.symm) Z λ_=>⟨j,b,c,i,H_⟩⟩;have p:c≠0:=X
    simp[execOp,l,resolve,invoke,builtin,m,Lib.run_unsafeSliceData_row w _ _ _ _ _ p]
   rw[i]at d;cases d
  omega
theorem FC(G:o.op=.call {callee:=.builtin .unsafeSliceData,args:=#[x],argTypes:=#[J0]})(W:P.underlying o.type=A (.pointer e))(L:aS E x=A (.osl id g 0 0))(r:H.get id=A ob)(D:ob.g=g):cP P m4 o E H (.pv (.sat Mm)) H:=by
 intro a w I l _ _ m t K Q n;have F:=aK t L;have y:=qR F r D;have d:∀(c:Value) (f:World),(Builtin.unsafeSliceData_ #[J0] o.type #[a.eval x]).run P w=.ok c f->Mm c->Rel I l H f->Step I l H w I l H f->o.wpW P a w K Q:=λc f j q u v=>by
  have h:c.oneCell'=N:=by obtain ⟨p,rfl⟩:=q;rfl
  unfold Oper.wpW;have:(execOp a.eval o).run P w=.ok (.value c) f:=by
   simp[execOp,G,resolve,invoke,builtin,j]
  rw[this];exact n c f I l _ H ⟨Z,Z⟩ (.pv (.sat h q)) u v
 obtain ⟨hl,⟨b,B,s,J,k,z⟩|⟨_,k,_,e4⟩⟩:=jY F r D
 .by_cases q:B=0
  .obtain ⟨_,_,⟨b',cap',R,i,o_,f3,f4,f5,_⟩|⟨i,_⟩⟩:=(m.obj id ob r).cells y
   .rw[J]at i;cases i;obtain ⟨u,v⟩:=m.push _;refine d (.pointer (A ⟨w.heap.size,0,ζ⟩)) _ ?_ ⟨_,Z⟩ u v;rw[k,q];exact Lib.run_unsafeSliceData_zero w #[J0] o.type e W ⟨b,s,ζ⟩ 0 (ob.ty,R.size) (by simp[World.shape?,o_])
   rw[J]at i;cases i
  refine d (.pointer (A ⟨b,s,ζ⟩)) _ ?_ ⟨_,Z⟩ m (Step.refl _ _ _ _);rw[k];exact Lib.run_unsafeSliceData_row w #[J0] o.type ⟨b,s,ζ⟩ 0 _ X
 refine d (.pointer ζ) _ ?_ ⟨_,Z⟩ m (Step.refl _ _ _ _);rw[k];rfl
theorem AE{c}(d:o.op=.call {callee:=.builtin .unsafeString,args:=#[x,y],argTypes:=#[J0,c]})(h:aS E x=A (.pv (.sat Mm)))(f:aS E y=A (.pv (.int .i64 0))):cP P m4 o E H (.pv (.str ⟨#[]⟩)) H :=.of_run λa w I ι B b=>by
  have j:=(aK b f).int_inv;have i:=(aK b h).sat_inv;have ⟨p,k⟩:=i;refine⟨_,?_,.pv (.str _)⟩;simp[execOp,d,resolve,invoke,builtin,k,j,Lib.run_unsafeString_none w J0 _ _ p];rfl
theorem Rel.lost{w':World}(q:Rel I ι H w)(D:H.get id=A ob)(g:0<ob.sz)(u:ι id=A (b,cap))(P:w'.os=w.os)(m:w'.tape=w.tape)(s:w'.output=w.output)(l:w'.heap.size=w.heap.size)
  (F:∀c,c≠b->w'.heap[c]?=w.heap[c]?):Rel I (wI ι id) ((id,LP ob)::H) w'/\Step I ι H w I (wI ι id) ((id,LP ob)::H) w':=by
 have B:OH ι H b:=⟨id,ob,cap,D,u⟩;have p:Step I ι H w I (wI ι id) ((id,LP ob)::H) w':=by
  refine⟨P,m,s,X,λa _ E=>?_,λ_ h=>h,λ_ h=>.inl h,λc z=>?_,λc _ E=>F c (λe=>E (e▸B)),λj o f=>?_⟩
  .unfold World.frozen?
   grind
  .have ⟨j,o,o_,f,i⟩:=z;by_cases e:j=id
   .rw[wI,b6 e]at i;cases i
   rw[wI,a8 e]at i;rw[get_cons_other _ _ e]at f;exact .inl ⟨j,o,o_,f,i⟩
  by_cases e:j=id
  .subst e;rw[D]at f;cases f;exact⟨LP ob,get_cons_same _ _ _,le_succ _,λh=>absurd h (by simp[LP])⟩
  exact⟨o,by rw[get_cons_other _ _ e];exact f,h_ _,λ_=>⟨a8 e,Z,λ_=>h_ _⟩⟩
 refine⟨⟨λc z=>by rw[l];exact q.imm c z,λj o f=>?_,λj L o n c d Q f J i k=>?_,p.glob q⟩,p⟩
 .by_cases e:j=id
  .subst e;rw[get_cons_same]at f;cases f;exact .inl ⟨g,by simp[LP],.inr ⟨b6 Z,Z⟩⟩
  rw[get_cons_other _ _ e]at f;exact(q.obj j o f).keep (a8 e) (λc d R _=>⟨F c (λz=>e (q.inj j id o ob b d cap f D (by rw[<-z];exact R) u)),λh=>h⟩) (λr _ a _ v W=>W.mono q p)
 have K:j≠id:=λe=>by rw[wI,b6 e]at i;cases i
 have G:L≠id:=λe=>by rw[wI,b6 e]at k;cases k
 rw[wI,a8 K]at i;rw[wI,a8 G]at k;rw[get_cons_other _ _ K]at f;rw[get_cons_other _ _ G]at J;exact q.inj j L o n c d Q f J i k
theorem B6{z:TypeId}{l:List UInt8}(v_:o.op=.call {callee:=.builtin .unsafeString,args:=#[x,y],argTypes:=#[J0,z]})(y_:P.underlying J0=A (.pointer e))(hi:(P.info? e).map (·.size)=A 1)(W:aS E x=A (.ref id g 0 0))(hy:aS E y=A (.pv (.int .i64 n)))
  (q:H.get id=A ob) (hg:ob.g=g) (h:ob.sz=1) (r:ob.ty=e) (d:ob.rows=fX l) (A_:C l=n) (hn:0<n) (p:n<=9223372036854775807) (u_:(⟨l.toArray⟩:B_)=s):cP P m4 o E H (.pv (.str s)) ((id,LP ob)::H):=by
 subst u_ A_;intro a w I G _ _ B F K Q hk;have o_:=aK F W;have ⟨b,cap,m,J⟩:=qD o_ q hg;have c_:=(aK F hy).int_inv;have ⟨j,h3,R⟩:=CD hi;have z_:P.cellsOf e=1:=by simp[Program.cellsOf,h3,R]
 have t:C ob.rows=C l:=by rw[d];simp[fX]
 obtain ⟨_,_,⟨b',cap',i_,k,D,f3,L,f5,_,f6⟩|⟨k,_⟩⟩:=(B.obj id ob q).cells X
 .rw[m]at k;cases k;rw[h,Nat.mul_one]at L;have f:∀j x,l[j]?=A x->w.cell? ((⟨b,0,ζ⟩:Addr).add j)=A (.int .u8 x.toNat):=λj x hj=>by
   have ⟨v,u,_,q3⟩:=f6 j [.pv (.int .u8 x.toNat)] (by rw[d,fX,r7,hj];rfl) 0 _ Z;rw[h,Nat.mul_one,Nat.add_zero,q3.int_inv]at u;rw[Addr.add_lit,r8,cell_of_row w b _ i_ ob.ty (0,0) D];exact u
  have i:=Lib.run_unsafeString_row (P:=P) w J0 z o.type e y_ z_ b i_.size (by rw[<-r];simp[World.shape?,D]) l (λh0=>by simp_all) X p f;have e_:∀c,c≠b->(w.freeze ⟨b,0,ζ⟩ (C l)).heap[c]?=w.heap[c]?:=λc τ=>by
   unfold World.freeze
   grind
  have ⟨k1,k2⟩:=B.lost (w':=w.freeze ⟨b,0,ζ⟩ (C l)) q X m (by unfold World.freeze;all_goals grind) (by unfold World.freeze;all_goals grind) (by unfold World.freeze;all_goals grind) (by unfold World.freeze;split<;>simp) e_;unfold Oper.wpW;have:(execOp a.eval o).run P w=.ok (.value (.string ⟨l.toArray⟩)) (w.freeze ⟨b,0,ζ⟩ (C l)):=by
   rw[h]at J;simp[execOp,v_,resolve,invoke,builtin,J,c_,i]
  rw[this];exact hk _ _ I (wI G id) _ _ ⟨Z,Z⟩ (.pv (.str _)) k1 k2
 rw[m]at k;cases k
end
end
section
theorem sL{w}{I}{ι}{H}{v}{id g off len c}{ob}(h:VRel w I ι H v (.osc id g off len c))(F:H.get id=A ob)(G:ob.g=g):
  0<ob.sz/\len<=c/\((∃b a,ι id=A (b,off+c)/\v=.slice (A ⟨b,a,ζ⟩) len c/\(0<c\/off=0->a=off*ob.sz))\/(ι id=ζ/\v=.slice ζ 0 0/\off=0/\len=0/\c=0)):=by
 cases h with
 |osc J B D _ E =>
  simp_all
theorem wt{w}{I}{ι}{H}{v}{id g off len}{ob}(n:Rel I ι H w)(h:VRel w I ι H v (.osl id g off len))(a:H.get id=A ob)(l:ob.g=g):
  ∃c,len<=c/\c<=maxLen/\VRel w I ι H v (.osc id g off len c):=by
 have j:=qR h a l;obtain ⟨B,⟨b,i,o,e,f,k⟩|⟨e,f,k,m⟩⟩:=jY h a l
 .obtain ⟨_,_,⟨b',cap',cs,d,e2,e3,e4,e5,e6,e7⟩|⟨d,_⟩⟩:=(n.obj id ob a).cells j
  .rw[e]at d;cases d;refine⟨i - off,X,X,?_⟩;subst f;refine .osc _ a X Z λ_=>⟨j,X,.inl ⟨b,o,?_,Z,λD=>k X⟩⟩
   grind
  rw[e]at d;cases d
 subst f k m;exact⟨0,h_ _,k_ _,.osc ob a X Z λ_=>⟨j,h_ _,.inr ⟨e,Z,Z,Z,Z⟩⟩⟩
theorem Uv{w}{I}{ι}{H}{v}{id g off len c}{ob}(h:VRel w I ι H v (.osc id g off len c))(d:H.get id=A ob)(l:ob.g=g)(i:off+len<=C ob.rows):
  VRel w I ι H v (.osl id g off len):=by
 obtain ⟨j,B,⟨b,m,f,a,e⟩|⟨f,a,e,k,D⟩⟩:=sL h d l
 .subst a;refine .osl _ d X Z λ_=>⟨j,i,.inl ⟨b,off+c,m,f,?_,λE=>e X⟩⟩
  simp_all
 subst a e k;exact .osl _ d X Z λ_=>⟨j,i,.inr ⟨f,Z,Z,Z⟩⟩
section
variable{P:Program}{G0:aF}{m4:Nat}{Q:Exit->dD->aF->Prop}{E:dD}{code:Code}
theorem YY{t id g off n c}{ob}(l:E.get t=A (.osc id g off n c))(o:H.get id=A ob)(r:ob.g=g)(q:off+n<=C ob.rows)(h:gO P G0 m4 code Q ((t,.osl id g off n)::E) H):gO P G0 m4 code Q E H:=by
 intro G k a w i;have ⟨I,s,m,d,j⟩:=i.rel;have ⟨v,p,f⟩:=j t _ l;refine h G k a w ⟨i.defers,i.size,I,s,m,d,λu x b=>?_⟩;by_cases e:t=u
 .subst e;rw[dD.get_cons_same]at b;cases b;exact⟨v,p,Uv f o r q⟩
 rw[dD.get_cons_other _ _ e]at b;exact j u x b
end
section
variable{P:Program}{m4:Nat}{o:Oper}{E:dD}{J0:TypeId}{x y:Operand}
theorem FG{e}{id g off len c}{ob}(f:o.op=.call {callee:=.builtin .cap,args:=#[x],argTypes:=#[J0]})(h:P.underlying J0=A (.slice e))(k:aS E x=A (.osc id g off len c))(i:H.get id=A ob)(j:ob.g=g):cP P m4 o E H (.pv (.int .i64 c)) H :=.of_run λa w I ι _ m=>⟨.int _ c,by
  obtain ⟨_,_,⟨b,oo,_,d,_⟩|⟨_,d,_,_,l⟩⟩:=sL (aK m k) i j
  .simp[execOp,f,resolve,invoke,builtin,d,Builtin.cap_,run_underlying h,goInt]
  simp[execOp,f,resolve,invoke,builtin,d,l,Builtin.cap_,run_underlying h,goInt],.pv (.int _ _)⟩
theorem FF{e}{id g off len c}{ob}(f:o.op=.call {callee:=.builtin .len,args:=#[x],argTypes:=#[J0]})(h:P.underlying J0=A (.slice e))(k:aS E x=A (.osc id g off len c))(i:H.get id=A ob)(j:ob.g=g):cP P m4 o E H (.pv (.int .i64 len)) H :=.of_run λa w I ι _ m=>⟨.int _ len,by
  obtain ⟨_,_,⟨b,oo,_,d,_⟩|⟨_,d,_,l,_⟩⟩:=sL (aK m k) i j
  .simp[execOp,f,resolve,invoke,builtin,d,Builtin.len_,run_underlying h,goInt]
  simp[execOp,f,resolve,invoke,builtin,d,l,Builtin.len_,run_underlying h,goInt],.pv (.int _ _)⟩
theorem eb{lo hi:Option Operand}{j i K:Nat}(G:o.op=.slice J0 x lo hi ζ)(hS:fQ P J0 e sz)(A_:aS E x=A (.osc id g off len c))
  (q:H.get id=A ob) (u_:ob.g=g) (s:ob.sz=sz) (p:bnd E lo 0=A (l:Int)) (m:bnd E hi len=A (h:Int)) (J:l<=h) (v_:h<=c) (u:off+l=j) (i_:h - l=i) (B:c - l=K):cP P m4 o E H (.osc id g j i K) H :=
 .of_run λa w I ι hr z=>by
  have W:=aK z A_;have ⟨L,τ,k⟩:=sL W q u_;have y_:=hS.1;have y:=hS.2.1;have n:P.elem J0=e:=by simp[Program.elem,y_]
  have f:P.underlying J0=A (.slice (P.elem J0)):=F_
  subst u i_ B s;rcases k with⟨b,r,D,v,F⟩|⟨D,v,F,R,Q⟩
  .have t:=oC (P:=P) (b:=N) (len:=len) (cap:=c) z p m J v_;have d:=run_slice_any (P:=P) w J0 (A ⟨b,r,ζ⟩) len c f (lo.map a.eval) (hi.map a.eval) ζ;refine⟨.slice (A ⟨b,if c=l then r else r+l*ob.sz,ζ⟩) (h - l) (c - l),?_,.osc ob q X Z λ_=>⟨L,X,.inl ⟨b,_,?_,Z,λσ=>?_⟩⟩⟩
   .simp only[execOp,G,v];simp only[run_sliceAt_slice w J0 _ _ _ _ f,Sem.run_bind,d,Option.map_none,t,n,y,sliced,Result.andThen_ok,Sem.run_pure];by_cases o_:c=l
    .grind
    simp[o_,Addr.add_lit]
   all_goals grind
  subst F R Q;have e_:h=0:=X
  have f_:l=0:=X
  subst e_ f_;have t:=oC (P:=P) (b:=N) (len:=0) (cap:=0) z p m J H_;have d:=run_slice_any (P:=P) w J0 ζ 0 0 f (lo.map a.eval) (hi.map a.eval) ζ;refine⟨.slice ζ 0 0,?_,.osc ob q X Z λ_=>⟨L,X,.inr ⟨D,Z,Z,Z,Z⟩⟩⟩;simp only[execOp,G,v];simp[run_sliceAt_slice w J0 _ _ _ _ f,d,t,n,y,sliced]
def aBy(w:World)(I:Nat->Prop)(ι:mG)(H:aF)(sz:Nat)(v:Value)(len:Nat)(rows:List (List AV)):Prop :=(∃a c B,v=.slice (A a) len c/\C rows<=len/\C B=C rows*sz/\(∀j u,B[j]?=A u->w.cell? (a.add j)=A u)/\(∀u∈B,u.oneCell'=N)/\uL w I ι H sz B rows) \/
 (v=.slice ζ 0 0/\len=0/\rows=[])
theorem uL.take{I}{l:List Value}{rows}(h:uL w I ι H sz l rows)(D:∀r∈rows,C r=sz)(k:Nat):uL w I ι H sz (l.take (k*sz)) (rows.take k):=by
 intro i r b j a d;rw[getElem?_take]at b
 split at b
 .have ⟨u,e,c,f⟩:=h i r b j a d;have B:j<sz:=G_
  refine⟨u,?_,c,f⟩;rw[getElem?_take,b6]
  .exact e
  have:(i+1)*sz<=k*sz:=mul_le_mul_right _ X;rw[Nat.add_mul]at this;omega
 grind
theorem uL.drop{w}{I}{ι}{H}{sz}{l}{rows}(h:uL w I ι H sz l rows)(k):uL w I ι H sz (l.drop (k*sz)) (rows.drop k):=by
 intro i r b j a c;rw[getElem?_drop]at b;have ⟨u,B,D,E⟩:=h _ r b j a c
 grind
theorem Hu{w}{I}{ι}{H}{sz id g off len c}{ob}{v}(u:Rel I ι H w)(h:VRel w I ι H v (.osc id g off len c))(i:H.get id=A ob)(q:ob.g=g)(f:ob.sz=sz)(k)(G:k<=len)(e:off+k<=C ob.rows):
  aBy w I ι H sz v len ((ob.rows.drop off).take k):=by
 obtain ⟨B,E,⟨b,p,s,m,l⟩|⟨s,m,l,z,F⟩⟩:=sL h i q
 .have i_:VRel w I _ H (.slice (A ⟨b,p,ζ⟩) k c) (.osl _ g _ k) :=
   .osl _ i X Z λ_=>⟨B,e,.inl ⟨b,off+c,p,s,H_,λJ=>l X⟩⟩
  rcases vj u i_ i q f with⟨a,c',d,n,r,t,d_,D⟩|⟨n,r⟩
  .injection n with j q2 q3;injection j with j;subst j;exact .inl ⟨_,c,d,m,X,r,t,d_,D⟩
  cases n
 subst l z;have:k=0:=X
 subst this;exact .inr ⟨m,Z,Z⟩
theorem Rel.write{g2:Nat}{cs:Array Value}{d:List Value}{c:List (List AV)}(t:Rel I ι H w)(Q:H.get id=A ob)(p:ι id=A (b,cap))(D:w.heap[b]?=A (.cells cs ob.ty (0,0)))
  (e:C d=C c*ob.sz) (y:uL w I ι H ob.sz d c) (L:∀r∈c,C r=ob.sz) (z_:off<=C ob.rows) (y_:off+C c<=cap) (F:ob.g<=g2)
  (A_:H'.get id=A ⟨g2,ob.sz,ob.ty,ob.rows.take off++(c++ob.rows.drop (off+C c))⟩) (o:∀j,j≠id->H'.get j=H.get j) :
  Rel I ι H' (w.setRow b (cs.toList.take (off*ob.sz)++d++cs.toList.drop (off*ob.sz+C d)).toArray)/\Step I ι H w I ι H' (w.setRow b (cs.toList.take (off*ob.sz)++d++cs.toList.drop (off*ob.sz+C d)).toArray):=by
 obtain ⟨p1,q,⟨b',cap',cs',G,R,e3,f_,e5,e5',W⟩|⟨G,_⟩⟩:=(t.obj id ob Q).cells ((t.obj id ob Q).pos p D)
 .rw[p]at G;cases G;rw[D]at R;cases R;have l:uL w I ι H ob.sz cs.toList ob.rows:=λi r s k a K=>by
   have ⟨v,P,E,J⟩:=W i r s k a K;exact⟨v,by simpa using P,E,J⟩
  have B:off<=cap:=X
  have x:C (cs.toList.take (off*ob.sz))=C (ob.rows.take off)*ob.sz:=by
   have:off*ob.sz<=cap*ob.sz:=mul_le_mul_right _ B;rw[q9,q9,Array.length_toList,f_,Nat.min_eq_left this,Nat.min_eq_left z_]
  have g:off*ob.sz+C d=(off+C c)*ob.sz:=by rw[e,Nat.add_mul]
  have f:uL w I ι H ob.sz (d++(cs.toList.drop (off*ob.sz+C d)++[])) (c++ob.rows.drop (off+C c)):=by
   refine uL.app y e ?_;rw[g];exact l.drop _
  rw[append_nil]at f;have m:=uL.app (l3:=[]) (l.take q off) x f;rw[append_nil]at m;have n:(cs.toList.take (off*ob.sz)++d++cs.toList.drop (off*ob.sz+C d)).toArray.size=cap*ob.sz:=by
   have:(off+C c)*ob.sz<=cap*ob.sz:=mul_le_mul_right _ y_;simp only[size_toArray,j8,q9,q6,Array.length_toList,f_];omega
  refine Rel.update (ob':=⟨g2,ob.sz,ob.ty,ob.rows.take off++(c++ob.rows.drop (off+C c))⟩) t Q p D F Z Z (λ_=>?_) n ?_ (λr z=>?_) (λi r s k a K=>?_) A_ o
  .simp only[j8,q9,q6];omega
  .simp only[j8,q9,q6];omega
  .rcases mem_append.1 z with h|h
   .exact q r (mem_of_mem_take h)
   rcases mem_append.1 h with h|h
   .exact L r h
   exact q r (mem_of_mem_drop h)
  have ⟨u,P,E,J⟩:=m i r s k a K;refine⟨u,?_,E,J⟩;rw[getElem?_toArray,append_assoc];exact P
 simp_all
theorem WK{off n}{rows:List (List AV)}(h:n=0):rows.take off++([]++rows.drop (off+n))=rows:=F_
theorem Lc{D f_:TypeId}{f:Nat}{h:List (List AV)}(ho:o.op=.call {callee:=.builtin .copy,args:=#[x,y],argTypes:=#[D,f_]})(hS:fQ P D e sz)
  (hd:∀(a:Act) (w:World) (I:Nat->Prop) (ι:mG),Rel I ι H w->lX w I ι H E a->∃c,VRel w I ι H (a.eval x) (.osc id g off len c)) (hH:H.get id=A ob) (hg:ob.g=g) (γ:ob.sz=sz) (A_:off<=C ob.rows)
  (p:∀(a:Act) (w:World) (I:Nat->Prop) (ι:mG),Rel I ι H w->lX w I ι H E a->aBy w I ι H sz (a.eval y) f h) (σ:∀r∈h,C r=sz) (hn:C h=n) (z_:min f len=n)
  (o_:∀j,H2.get j=(H.set id ⟨g,sz,ob.ty,ob.rows.take off++(h++ob.rows.drop (off+n))⟩).get j):cP P m4 o E H (.pv (.int .i64 n)) H2:=by
 intro a w I ι _ _ G W K Q hk;have ⟨c,hv⟩:=hd a w I ι G W;have ⟨hz,h1,L⟩:=sL hv hH hg;have k:Nat.min f len=n:=z_;have v_:=hS.2.1;have u_:=hS.1;subst hg γ;have i_:n=0->(∀j,H2.get j=H.get j):=λh0 j=>by
  rw[o_ j];have δ:h=[]:=eq_nil_of_length_eq_zero X;subst δ;rw[WK h0];by_cases e:j=id
  .subst e;rw[aF.get_set_same,hH]
  exact aF.get_set_other _ _ e
 have l:∀d:List Value,∀v J,a.eval y=.slice (A v) f J->C d=n*ob.sz->(∀j u,d[j]?=A u->w.cell? (v.add j)=A u)->(Builtin.firstCells ob.sz n (a.eval y)).run P w=.ok d.toArray w:=λd v J s e2 e3=>by
  rw[s];exact run_firstCells_some (P:=P) w ob.sz n v f J d e2 e3
 rcases L with⟨b,oo,c1,c2,c3⟩|⟨c1,c2,c3,c4,c5⟩
 .by_cases m:n=0
  .have ⟨y_,k3⟩:=G.congr (i_ m);have z:(execOp a.eval o).run P w=.ok (.value (.int .i64 ((0:Nat):Int))) w:=by
    unfold execOp;have F:(Builtin.firstCells ob.sz n (a.eval y)).run P w=.ok #[] w:=by
     rcases p a w I ι G W with⟨v,J,d,i,B,t,e_,s5,s6⟩|⟨i,B,t⟩
     .have:=l d v J i G_ e_;have R:d=[]:=eq_nil_of_length_eq_zero F_;rw[this,R]
     rw[i];exact run_firstCells_none (P:=P) (w:=w) ob.sz n 0 0
    have q:(Builtin.lenOf (a.eval y)).run P w=.ok f w:=by
     rcases p a w I ι G W with⟨v,J,d,i,B,t,e_,s5,s6⟩|⟨i,B,t⟩
     .rw[i];rfl
     rw[i,B];rfl
    simp only[ho,resolve,invoke,builtin,Sem.run_bind,Sem.run_pure,Result.andThen_ok,map_toArray,map_cons,map_nil,c2,Builtin.copy_,run_underlying u_,v_];simp only[getElem?_toArray,getElem?_cons_zero,getElem?_cons_succ,run_underlying u_,Sem.run_bind,Sem.run_pure,Result.andThen_ok,v_,q,k,F];simp[storeCells,goInt,m]
   unfold Oper.wpW;rw[z];subst m;exact hk _ _ I ι _ _ ⟨Z,Z⟩ (.pv (.int _ _)) y_ k3
  obtain ⟨p1,p2,⟨b',cap',cs,s,e2,e3,e4,e5,e5',e6⟩|⟨s,_⟩⟩:=(G.obj id ob hH).cells hz
  .rw[c1]at s;cases s;have κ:=c3 X;subst κ;rcases p a w I ι G W with⟨v,J,d,i,B,t,e_,s5,s6⟩|⟨i,B,t⟩
   .have hnl:C d=n*ob.sz:=by rw[t,hn]
    have F:=l d v J i hnl e_;have τ:off*ob.sz+0+C d<=cs.size:=by
     rw[e4,hnl,Nat.add_zero,<-Nat.add_mul];exact mul_le_mul_right _ X
    have ρ:=run_storeCells_at P b (off*ob.sz) ob.ty d 0 cs w e2 τ s5;simp only[Nat.add_zero]at ρ;have ⟨y_,k3⟩:=Rel.write (H':=H2) (off:=off) (g2:=ob.g) G hH c1 e2 t s6 σ A_ X (h_ _) (by rw[o_,aF.get_set_same,hn]) (λj hj=>by rw[o_,aF.get_set_other _ _ hj]);unfold Oper.wpW execOp;simp only[ho,resolve,invoke,builtin,Sem.run_bind,Sem.run_pure,Result.andThen_ok,map_toArray,map_cons,map_nil,c2,Builtin.copy_,run_underlying u_,v_];have q:(Builtin.lenOf (a.eval y)).run P w=.ok f w:=by rw[i];rfl
    simp only[getElem?_toArray,getElem?_cons_zero,getElem?_cons_succ,run_underlying u_,Sem.run_bind,Sem.run_pure,Result.andThen_ok,v_,q,k,F,ρ];exact hk _ _ I ι _ _ ⟨Z,Z⟩ (.pv (.int _ _)) y_ k3
   omega
  rw[c1]at s;cases s
 have m:n=0:=X
 have ⟨y_,k3⟩:=G.congr (i_ m);have z:(execOp a.eval o).run P w=.ok (.value (.int .i64 ((0:Nat):Int))) w:=by
  unfold execOp;have F:(Builtin.firstCells ob.sz n (a.eval y)).run P w=.ok #[] w:=by
   rcases p a w I ι G W with⟨v,J,d,i,B,t,e_,s5,s6⟩|⟨i,B,t⟩
   .have:=l d v J i (by rw[t,hn]) e_;have R:d=[]:=eq_nil_of_length_eq_zero (by rw[t,hn,m];simp);rw[this,R]
   rw[i];exact run_firstCells_none (P:=P) (w:=w) ob.sz n 0 0
  have q:(Builtin.lenOf (a.eval y)).run P w=.ok f w:=by
   rcases p a w I ι G W with⟨v,J,d,i,B,t,e_,s5,s6⟩|⟨i,B,t⟩
   .rw[i];rfl
   rw[i,B];rfl
  rw[c4]at k;simp only[ho,resolve,invoke,builtin,Sem.run_bind,Sem.run_pure,Result.andThen_ok,map_toArray,map_cons,map_nil,c2,Builtin.copy_,run_underlying u_,v_];simp only[getElem?_toArray,getElem?_cons_zero,getElem?_cons_succ,run_underlying u_,Sem.run_bind,Sem.run_pure,Result.andThen_ok,v_,q,k,F];simp[storeCells,goInt,m]
 unfold Oper.wpW;rw[z];subst m;exact hk _ _ I ι _ _ ⟨Z,Z⟩ (.pv (.int _ _)) y_ k3
end
end
section
section
variable{P:Program}{m4:Nat}{o:Oper}{E:dD}{J0:TypeId}{x y:Operand}
theorem uM(t u ty e:TypeId)(i:TypeInfo)(z:Value)(k F:IntKind)(I:P.underlying t=A (.slice e))(p:P.underlying u=A (.int F))(hi:P.info? e=A i)(B:i.zero=A z)
  (b:Option Addr) (c d:Nat) (f:List Value) (K:∀w:World,(∀a:Addr,w.cell? a=w.cell? a)->True) (s:(Builtin.firstCells i.size c (.slice b c d)).run P w.drew=.ok f.toArray w.drew)
  (n:Nat) (J:0<n) (Q:0<i.size) (L:d<c+n) (H:((c+n:Nat):Int)<=9223372036854775807) (E:Builtin.nextslicecap (c+n) d*i.bytes<=281474976710656) (G:n*i.bytes<=281474976710656) :
  (Builtin.append_ #[t,u] ty #[.slice b c d,.int k n]).run P w =
   .ok (.slice (A ⟨w.heap.size,0,ζ⟩) (c+n) (grownCap w (c+n) d e))
    (w.drew.alloc (.cells (f.toArray++Builtin.zeroCells z.cells n++Builtin.zeroCells z.cells (grownCap w (c+n) d e - (c+n))) e)):=by
 have D:¬ (c+n<=d):=X
 have v:ξ.wrap (n:Int)=n:=by rw[IntKind.wrap_i64];omega
 have l:¬ (9223372036854775807<((c:Int)+(n:Int))):=X
 have m:¬ (281474976710656<Builtin.nextslicecap (c+n) d*i.bytes):=X
 have j:¬ (281474976710656<(n:Int)*(i.bytes:Int)):=by
  omega
 have g:¬ ((n:Int)<0):=X
 have h:n≠0:=X
 have q:¬ (n*i.size=0):=Nat.mul_ne_zero h X;simp[Builtin.append_,run_underlying I,run_underlying p,sizeOf,typeInfo,zeroValue,hi,B,asInt,asIntOf,v,D,h,g,q,l,m,j,Question.forced,s,newRow,grownCap]
theorem zh{z:Value}{b:List AV}(g:CQ w I ι H z.cells b)(p:C b=sz)(d:z.cells.size=sz)(v:0<sz)(n:Nat):
  (C (Builtin.zeroCells z.cells n).toList)=n*sz/\(∀u∈(Builtin.zeroCells z.cells n).toList,u.oneCell'=N)/\uL w I ι H sz (Builtin.zeroCells z.cells n).toList (List.replicate n b):=by
 have c:∀j,j<n*sz->∃f:j % sz<z.cells.size,(Builtin.zeroCells z.cells n).toList[j]?=A (z.cells[j % sz]):=by
  intro j s;have f:j % sz<z.cells.size:=by rw[d];exact mod_lt _ v
  refine⟨f,?_⟩;rw[Array.getElem?_toList];simp only[Builtin.zeroCells,Array.getElem?_map]
  grind
 have q:C (Builtin.zeroCells z.cells n).toList=n*sz:=by rw[Array.length_toList,size_zeroCells,d]
 refine⟨q,?_,?_⟩
 .intro u G;have ⟨j,s⟩:=s8.1 G;have D:j<n*sz:=by
   have:=(m_.1 s).1;rw[q]at this;exact this
  have ⟨f,e⟩:=c j D;rw[e]at s;cases s;have B:j % sz<C b:=X
  have ⟨u,h,E,_⟩:=g.2 _ _ (p_ B);rw[Array.getElem?_eq_getElem f]at h;cases h;exact E
 intro i r t k av f;rw[getElem?_replicate]at t
 split at t
 .cases t;rename_i d_;have m:k<sz:=by rw[<-p];exact(m_.1 f).1
  have l:i*sz+k<n*sz:=by
   have:(i+1)*sz<=n*sz:=mul_le_mul_right _ d_;rw[Nat.add_mul]at this;omega
  have ⟨J,e⟩:=c _ l;have ⟨u,h,E,F⟩:=g.2 k av f;refine⟨u,?_,E,F⟩;rw[e];rw[Array.getElem?_eq_getElem (by rw[d];exact m)]at h;cases h;congr 2;exact HB m
 cases t
theorem RG{u_:TypeId}{m bytes id2:Nat}{kk kn:IntKind}{q:Int}(ho:o.op=.call {callee:=.builtin .append,args:=#[x,y],argTypes:=#[J0,u_]})(hS:fQ P J0 e sz)(z_:P.underlying u_=A (.int kn))(i_:EI P e sz bytes)(hZ:eX P e f)(e_:C f=sz)
  (hx:aS E x=A (.osc id g 0 n c)) (hH:H.get id=A ob) (hg:ob.g=g) (v_:ob.sz=sz) (o_:n<=C ob.rows)
  (hy:aS E y=A (.pv (.int kk q))) (hq:q=(m:Int)) (J:0<m) (hroom:c<n+m) (hk:n+m=k) (p:(n+m)*bytes<=140737488355328) (hid:H.get id2=ζ)
  (c_:ob.rows.take n++List.replicate m f=rows'):cP P m4 o E H (.osl id2 0 0 k) ((id2,⟨0,sz,e,rows'⟩)::H):=by
 intro a w I ι _ _ hr he K Q β;have hmax:=fb i_.2 p;have ⟨⟨i,z,hi,hz,l,W,σ,hsz0⟩,_⟩:=i_;have ⟨t,zv,z1,z2,z3⟩:=hZ;have ρ:t=z:=by
  have:=z1 w;simp[zeroValue,typeInfo,hi,hz]at this;exact this.symm
 subst ρ hg v_ hk c_ hq;have hml:n+m<=maxLen:=by simp only[maxLen];omega
 have hv:=aK he hx;have τ:=(aK he hy).int_inv;have ⟨s,h1,G⟩:=sL hv hH Z;have hT:=hS.1;have p2:=((hr.obj id ob hH).cells s).2.1;have δ:=CQ.of_cells (ZV.rel (w:=w) (I:=I) (ι:=ι) (H:=H) z2) z3;have ⟨zl,_,zr⟩:=zh δ e_ σ s m;have hrl:∀r∈ob.rows.take n++List.replicate m f,C r=ob.sz:=λr hr'=>by
  grind
 have g1:aF.get ((id2,(⟨0,ob.sz,e,ob.rows.take n++List.replicate m f⟩:Ob))::H) id2=A ⟨0,ob.sz,e,ob.rows.take n++List.replicate m f⟩:=get_cons_same _ _ _;have g2:∀j,j≠id2->aF.get ((id2,(⟨0,ob.sz,e,ob.rows.take n++List.replicate m f⟩:Ob))::H) j=H.get j:=λj hj=>get_cons_other _ _ hj;have R:C (ob.rows.take n++List.replicate m f)=n+m:=F_
 have hge:=grownCap_ge w (n+m) c e;have κ:=grownCap_le_maxLen w (n+m) c e hml;have v:∀(d:List Value),C d=n*ob.sz->uL w I ι H ob.sz d (ob.rows.take n) ->
   (Builtin.append_ #[J0,u_] o.type #[a.eval x,a.eval y]).run P w=.ok (.slice (A ⟨w.heap.size,0,ζ⟩) (n+m) (grownCap w (n+m) c e)) (w.drew.alloc (.cells (d.toArray++Builtin.zeroCells t.cells m++Builtin.zeroCells t.cells (grownCap w (n+m) c e - (n+m))) e))->o.wpW P a w K Q:=by
  intro d L q2 h;have ⟨k2,k3⟩:=Rel.place (H':=(id2,⟨0,ob.sz,e,ob.rows.take n++List.replicate m f⟩)::H) (id:=id2) (cap:=grownCap w (n+m) c e) (ob':=⟨0,ob.sz,e,ob.rows.take n++List.replicate m f⟩)
   (cs':=d.toArray++Builtin.zeroCells t.cells m++Builtin.zeroCells t.cells (grownCap w (n+m) c e - (n+m)))
   (w':=w.drew.alloc (.cells (d.toArray++Builtin.zeroCells t.cells m++Builtin.zeroCells t.cells (grownCap w (n+m) c e - (n+m))) e)) hr Z Z Z Z
   (λo' ho'=>by simp_all) s (by
    simp only[Array.size_append,size_toArray,size_zeroCells,σ,L,<-Nat.add_mul]
    simp_all) F_ κ hrl (λi' r F k' a' γ=>by
     have ⟨u,f_,t2,t3⟩:=uL.app (l3:=(Builtin.zeroCells t.cells (grownCap w (n+m) c e - (n+m))).toList) q2 (by rw[L,q9,Nat.min_eq_left o_]) zr i' r F k' a' γ;refine⟨u,?_,t2,t3⟩;rw[<-Array.getElem?_toList]
     simpa[append_assoc]using f_) g1 g2
  unfold Oper.wpW execOp;simp only[ho,resolve,invoke,builtin,Sem.run_bind,Sem.run_pure,Result.andThen_ok,map_toArray,map_cons,map_nil,h];exact β _ _ I _ _ _ ⟨Z,Z⟩ (.osl _ g1 (h_ _) Z λ_=>⟨s,by rw[R];omega,.inl ⟨w.heap.size,_,0,by simp;rfl,H_,λ_=>by simp⟩⟩) k2 k3
 have B:Builtin.nextslicecap (n+m) c*i.bytes<=281474976710656:=growslice_fits X (by rw[W];exact p);have d_:m*i.bytes<=281474976710656:=by
  have:m*i.bytes<=(n+m)*i.bytes:=mul_le_mul_right _ X;rw[W]at this |-;omega
 rcases G with⟨b,oo,c1,c2,c3⟩|⟨c1,c2,c3,c4,c5⟩
 .have hoo:oo=0:=by rw[c3 (.inr Z)];simp
  subst hoo;have y_:=Hu hr (show VRel w I ι H (.slice (A ⟨b,0,ζ⟩) n c) (.osc id ob.g 0 n c)by rw[<-c2];exact hv) hH Z Z n (h_ _) X;rw[drop_zero]at y_;rcases y_ with⟨ad0,c0,d,f_,t2,t3,t4,t5,t6⟩|⟨f_,_⟩
  .injection f_ with L q2 q3;injection L with L;subst L;have A_:C d=n*ob.sz:=by rw[t3,q9,Nat.min_eq_left o_]
   have D:=run_firstCells_some (P:=P) w.drew i.size n ⟨b,0,ζ⟩ n c d (by rw[l];exact A_) (by simpa using t4);have h:=uM (P:=P) (w:=w) J0 u_ o.type e i t kk kn hT z_ hi hz (A ⟨b,0,ζ⟩) n c d (λ_ _=>trivial) D m J (by rw[l];exact s) X X B d_;exact v d A_ t6 (by rw[c2,τ];exact h)
  cases f_
 subst c4 c5;have D:=run_firstCells_none (P:=P) (w:=w.drew) i.size 0 0 0;have h:=uM (P:=P) (w:=w) J0 u_ o.type e i t kk kn hT z_ hi hz ζ 0 0 [] (λ_ _=>trivial) D m J (by rw[l];exact s) X X B d_;exact v [] H_ (by intro i r F;simp at F) (by rw[c2,τ];exact h)
theorem Bs(ho:o.op=.call {callee:=.builtin .clear,args:=#[x],argTypes:=#[J0]})(hS:fQ P J0 e sz)(hZ:eX P e f)(h:C f=sz)
  (hx:aS E x=A (.osc id g off len c)) (v_:H.get id=A ob) (hg:ob.g=g) (G:ob.sz=sz) (R:off<=C ob.rows) (s:ob.rows.take off++(List.replicate len f++ob.rows.drop (off+len))=rows') :
  cP P m4 o E H .any ((id,⟨g,sz,ob.ty,rows'⟩)::H):=by
 intro a w I W _ _ hr he K Q L;have ⟨z,zv,z1,z2,z3⟩:=hZ;subst hg G s;have hv:=aK he hx;have ⟨v,h1,t⟩:=sL hv v_ Z;have hT:=hS.1;have B:=CQ.of_cells (ZV.rel (w:=w) (I:=I) (ι:=W) (H:=H) z2) z3;have p:z.cells.size=ob.sz:=by rw[<-h];exact B.1
 have m:len=0->(execOp a.eval o).run P w=.ok (.value (.tuple #[])) w->o.wpW P a w K Q:=by
  intro u_ c_;have ⟨k2,k3⟩:=hr.congr (H':=(id,⟨ob.g,ob.sz,ob.ty,ob.rows.take off++(List.replicate len f++ob.rows.drop (off+len))⟩)::H) (λj=>by
   subst u_;rw[replicate_zero,WK rfl];by_cases e:j=id
   .subst e;rw[get_cons_same,v_]
   exact get_cons_other _ _ e)
  unfold Oper.wpW;rw[c_];exact L _ _ I W _ _ ⟨Z,Z⟩ (.any _) k2 k3
 rcases t with⟨b,oo,z_,A_,c3⟩|⟨z_,A_,c3,c4,c5⟩
 .by_cases u_:len=0
  .refine m u_ ?_;unfold execOp;simp only[ho,resolve,invoke,builtin,Sem.run_bind,Sem.run_pure,Result.andThen_ok,map_toArray,map_cons,map_nil,A_,u_,Builtin.clear_];simp[run_underlying hT]
  obtain ⟨p1,p2,⟨b',cap',cs,y,e2,e3,e4,e5,e5',e6⟩|⟨y,_⟩⟩:=(hr.obj id ob v_).cells v
  .rw [z_] at y;cases y;have δ:=c3 X;subst δ;have q:C (Builtin.zeroCells z.cells len).toList=C (List.replicate len f)*ob.sz:=by
    rw[Array.length_toList,size_zeroCells,p,length_replicate]
   have n:∀j,j<len*ob.sz->∃J:j % ob.sz<z.cells.size,(Builtin.zeroCells z.cells len).toList[j]?=A (z.cells[j % ob.sz]):=by
    intro j d;have J:j % ob.sz<z.cells.size:=by rw[p];exact mod_lt _ v
    refine⟨J,?_⟩;rw[Array.getElem?_toList];simp only[Builtin.zeroCells,Array.getElem?_map]
    grind
   have F:∀u∈(Builtin.zeroCells z.cells len).toList,u.oneCell'=N:=by
    intro u hu;have ⟨j,d⟩:=s8.1 hu;have τ:j<len*ob.sz:=by
     have:=(m_.1 d).1;rw[q,length_replicate]at this;exact this
    have ⟨J,e⟩:=n j τ;rw[e]at d;cases d;have σ:j % ob.sz<C f:=by rw[h];exact mod_lt _ v
    have ⟨u,f_,q2,_⟩:=B.2 _ _ (p_ σ);rw[Array.getElem?_eq_getElem J]at f_;cases f_;exact q2
   have ρ:uL w I W H ob.sz (Builtin.zeroCells z.cells len).toList (List.replicate len f):=by
    intro i r y_ k av J;rw[getElem?_replicate]at y_
    split at y_
    .cases y_;rename_i hlt;have o_:k<ob.sz:=by rw[<-h];exact(m_.1 J).1
     have l:i*ob.sz+k<len*ob.sz:=by
      have:(i+1)*ob.sz<=len*ob.sz:=mul_le_mul_right _ hlt;rw[Nat.add_mul]at this;omega
     have ⟨β,e⟩:=n _ l;have ⟨u,f_,q2,q3⟩:=B.2 k av J;refine⟨u,?_,q2,q3⟩;rw[e];rw[Array.getElem?_eq_getElem (by rw[p];exact o_)]at f_;cases f_;congr 2;exact HB o_
    cases y_
   have l:off*ob.sz+0+C (Builtin.zeroCells z.cells len).toList<=cs.size:=by
    rw[e4,q,length_replicate,Nat.add_zero,<-Nat.add_mul];exact mul_le_mul_right _ X
   have D:=run_storeCells_at P b (off*ob.sz) ob.ty (Builtin.zeroCells z.cells len).toList 0 cs w e2 l F;simp only[Nat.add_zero]at D;have ⟨k2,k3⟩:=Rel.write (H':=(id,⟨ob.g,ob.sz,ob.ty,ob.rows.take off++(List.replicate len f++ob.rows.drop (off+len))⟩)::H) (off:=off) (g2:=ob.g) hr v_ z_ e2 q ρ (λr γ=>by rw[(mem_replicate.1 γ).2];exact h) R (by rw[length_replicate];omega) (h_ _) (by rw[get_cons_same,length_replicate]) (λj d=>get_cons_other _ _ d);unfold Oper.wpW execOp;simp only[ho,resolve,invoke,builtin,Sem.run_bind,Sem.run_pure,Result.andThen_ok,map_toArray,map_cons,map_nil,A_,Builtin.clear_];have ⟨n',κ⟩:∃n',len=n'+1:=⟨len - 1,X⟩;subst κ;simp only[getElem?_toArray,getElem?_cons_zero,run_underlying hT,Sem.run_bind,Sem.run_pure,Result.andThen_ok,z1,D];exact L _ _ I W _ _ ⟨Z,Z⟩ (.any _) k2 k3
  rw[z_]at y;cases y
 refine m c4 ?_;unfold execOp;simp only[ho,resolve,invoke,builtin,Sem.run_bind,Sem.run_pure,Result.andThen_ok,map_toArray,map_cons,map_nil,A_,Builtin.clear_];simp[run_underlying hT]
end
end
section
section
variable{P:Program}{m4:Nat}{o:Oper}{E:dD}{J0 t t':TypeId}{x y:Operand}
theorem ox{e}(w)(h:P.underlying t=A (.slice e))(a)(n c b B):(binOp .eql t (.slice a n c) (.slice ζ b B)).run P w=.ok (.bool a.isNone) w:=by simp[binOp];cases a<;>simp[Op.equal,Op.maxDepth,Lib.run_equalIn_slice_nil w _ t e _ n c _ _ h]
theorem py(i:o.op=.binOp .eql t x (.const (.slice ζ 0 0)) t')(p:P.underlying t=A (.slice e))(j:aS E x=A (.pv (.sl rows))):nf P m4 o E H (λr H'=>H'=H/\∃b,r=.pv (.bool b)/\(b=N->rows=[])):=by
 intro a w I m _ _ k h K Q s;have f:=(aK h j).pv_inv;have l:a.eval (.const (.slice ζ 0 0))=.slice ζ 0 0:=rfl;have ⟨b,n,c,q,g⟩:∃(b:Option Addr) (n c:Nat),a.eval x=.slice b n c/\(b.isNone=N->rows=[]):=by
  generalize a.eval x=v at f;cases f with
  |nilsl=>simp_all
  |empsl a=>simp_all
  |sl b off cap sz _ cs g B D F G J=>simp_all
 unfold Oper.wpW;have d:(execOp a.eval o).run P w=.ok (.value (.bool b.isNone)) w:=by
  simp only[execOp,i,q,l,eqGuard_at_slice,Sem.run_bind,Sem.run_pure,Result.andThen_ok,ox _ p]
 rw[d];exact s _ _ I m _ _ ⟨Z,_,Z,g⟩ (.pv (.bool _)) k (Step.refl _ _ _ _)
def Zm(E:dD)(H:aF)(sz:Nat)(y:Operand)(len:Nat)(rows:List (List AV)):Prop :=∀(a:Act) (w:World) (I:Nat->Prop) (ι:mG),Rel I ι H w->lX w I ι H E a->aBy w I ι H sz (a.eval y) len rows
def Zn(E:dD)(H:aF)(x:Operand)(id g off len:Nat):Prop :=∀(a:Act) (w:World) (I:Nat->Prop) (ι:mG),Rel I ι H w->lX w I ι H E a->∃c,VRel w I ι H (a.eval x) (.osc id g off len c)
theorem sj{id g off len}{ob}(d:aS E x=A (.osl id g off len))(i:H.get id=A ob)(b:ob.g=g):Zn E H x id g off len:=λa w I ι e f =>
 let ⟨c,_,_,h⟩:=wt e (aK f d) i b
 ⟨c,h⟩
theorem aAA{D f_ e}{ob}{a rows'}(q:o.op=.call {callee:=.builtin .copy,args:=#[x,y],argTypes:=#[D,f_]})(B:fQ P D e sz)
  (F:Zn E H x id g off len) (m:H.get id=A ob) (p:ob.g=g) (k:ob.sz=sz) (d:off<=C ob.rows)
  (f:Zm E H sz y b a) (i:∀r∈a,C r=sz) (l:C a=n) (h:min b len=n)
  (c:ob.rows.take off++(a++ob.rows.drop (off+n))=rows'):cP P m4 o E H (.pv (.int .i64 n)) ((id,⟨g,sz,ob.ty,rows'⟩)::H):=by
 subst c;exact Lc q B F m p k d f i l h (λj=>yI _ _ _ j)
end
def js(ob:Ob)(k:Nat):Ob:=⟨k,ob.sz,ob.ty,[]⟩
theorem Step.deadK{w}{I}{ι}{H}{id k}{ob}(g:H.get id=A ob)(i:ob.g<k):Step I ι H w (rO I ι id) (wI ι id) ((id,js ob k)::H) w where
 os:=rfl
 tape:=rfl
 output:=rfl
 size:=h_ _
 froz:=λ_ _ _=>rfl
 imm:=λ_ h=>.inl h
 immNew:=λb c=>by
  rcases c with c|⟨a,c⟩
  .simp_all
  exact .inr (.inl ⟨id,ob,a,g,c⟩)
 own:=λb c=>by
  have ⟨j,o,a,d,f⟩:=c;by_cases e:j=id
  .rw[wI,b6 e]at f;cases f
  rw[wI,a8 e]at f;rw[get_cons_other _ _ e]at d;exact .inl ⟨j,o,a,d,f⟩
 keep:=λ_ _ _=>rfl
 objs:=λj o d=>by
  by_cases e:j=id
  .subst e;rw[g]at d;cases d;exact⟨js _ k,get_cons_same _ _ _,Nat.le_of_lt i,λh=>absurd h (by simp[js];omega)⟩
  exact⟨o,by rw[get_cons_other _ _ e];exact d,h_ _,λ_=>⟨a8 e,Z,λ_=>h_ _⟩⟩
theorem Rel.deadK{I}(g:Rel I ι H w)(s:H.get id=A ob)(D:ob.g<k)(q:0<ob.sz):Rel (rO I ι id) (wI ι id) ((id,js ob k)::H) w:=by
 have t:=Step.deadK (w:=w) (I:=I) (ι:=ι) s D;refine⟨λb d=>?_,λj o f=>?_,λj y o z b c B f n p i=>?_,g.glob.mono (λ_ _=>rfl) (λ_ h=>.inl h)⟩
 .rcases d with d|⟨l,d⟩
  .exact g.imm b d
  exact g.lt ⟨id,ob,l,s,d⟩
 .by_cases e:j=id
  .subst e;rw[get_cons_same]at f;cases f;exact .inl ⟨q,by simp[js],.inr ⟨b6 Z,Z⟩⟩
  rw[get_cons_other _ _ e]at f;refine(g.obj j o f).keep (a8 e) (λb l E _=>⟨Z,λh=>?_⟩) (λr _ a _ v F=>F.mono g t);rintro(d|⟨m,d⟩)
  ·grind
  exact e (g.inj j id o ob b l m f s E d)
 have x:j≠id:=λe=>by rw[wI,b6 e]at p;cases p
 have u:y≠id:=λe=>by rw[wI,b6 e]at i;grind
 rw[wI,a8 x]at p;rw[wI,a8 u]at i;rw[get_cons_other _ _ x]at f;rw[get_cons_other _ _ u]at n;exact g.inj j y o z b c B f n p i
theorem Fin.deadO{G0 H}{r}(b:H.get id=A ob)(c:ob.g<k)(a:0<ob.sz)(h:ob.sz=sz)(f:ob.ty=ty):Fin G0 H r ((id,⟨k,sz,ty,[]⟩)::H) r:=by intro G B I ι w v d e g;subst h f;exact⟨_,_,d.deadK b c a,e.trans (Step.deadK b c),g.mono d (Step.deadK b c)⟩
theorem Fin.bump{G0 H}{rows}(c:H.get id=A ob)(y:ob.g=g)(u:g<k)(l:ob.sz=sz)(s:ob.ty=ty)(x:ob.rows=rows):Fin G0 H (.osl id g off n) ((id,⟨k,sz,ty,rows⟩)::H) (.osl id k off n):=by
 intro G B I m w v t h f;subst y l s x;have ⟨p,o⟩:=Rel.tick (ob':=⟨k,ob.sz,ob.ty,ob.rows⟩) t c u Z Z Z (get_cons_same _ _ _) (λj r=>get_cons_other _ _ r);refine⟨I,m,p,h.trans o,?_⟩;have ⟨i,d⟩:=jY f c Z;have q:=qR f c Z;have a:v.oneCell'=N:=by
  rcases d with⟨b,cap,oo,_,e,_⟩|⟨_,e,_⟩<;>subst e<;>rfl
 exact .osl _ (get_cons_same _ _ _) (h_ _) a λ_=>⟨q,i,d⟩
end
section
section
variable{P:Program}{G0:aF}{m4:Nat}{Q:Exit->dD->aF->Prop}{E:dD}{code:Code}
theorem UU{t id sz}{ty}(r:E.get t=A (.pv .nils))(i:H.get id=ζ)(B:Nat.blt 0 sz=N)(h:gO P G0 m4 code Q ((t,.osc id 0 0 0 0)::E) ((id,⟨0,sz,ty,[]⟩)::H)):gO P G0 m4 code Q E H:=by
 intro G o a w d;have ⟨I,ι,l,j,n⟩:=d.rel;have ⟨v,s,f⟩:=n t _ r;have m:0<sz:=F_
 obtain ⟨p,k⟩:=Rel.adopt l i m;have g:v=.slice ζ 0 0:=by
  have:=f.pv_inv;cases this;rfl
 subst g;refine h G o a w ⟨d.defers,d.size,I,_,p,j.trans k,λu x b=>?_⟩;by_cases e:t=u
 .subst e;rw[dD.get_cons_same]at b;cases b;exact⟨_,s,.osc _ (get_cons_same _ _ _) (h_ _) Z λ_=>⟨m,h_ _,.inr ⟨H_,Z,Z,Z,Z⟩⟩⟩
 rw[dD.get_cons_other _ _ e]at b;have ⟨c,q,y⟩:=n u x b;exact⟨c,q,y.mono l k⟩
end
section
variable{P:Program}{m4:Nat}{o:Oper}{E:dD}{J0:TypeId}{x y:Operand}{Q:AV->aF->Prop}
theorem KX{F}{f y}{e}{v}(p:o.op=.call {callee:=.value f,args:=#[.const (.slice ζ 0 0),y],argTypes:=e})(m:aS E f=A (.pv (.fn F)))
  (l:∀(args) (w),(callFunc F args).run P w=.ok (.enter F args) w) (n:aS E y=A v) (h:aW P F [.pv .nils,v] H Q):nf P m4 o E H Q:=by
 intro a w I ι _ _ k j K B D;have g:=(aK j m).fn_inv;unfold Oper.wpW execOp;simp[p,resolve,g,Deferred.ofValue,Sem.run_bind,Sem.run_pure,Result.andThen_ok,invoke,l,Oper.uponW_enter];refine(h I _ w _ k (Z) (λi u b d c=>?_)).mono ?_
 .match i with
  |0=>simp[Act.eval]at d c;subst d c;exact .pv .nils
  |1=>simp at d c;subst d c;exact aK j n
  |i+2=>simp at c
 grind
end
theorem Rel.cut(g:Rel I ι H w)(y:H.get id=A ob)(hg:ob.g<k)(m4:0<ob.sz)
  (R:H'.get id=A ⟨k,ob.sz,ob.ty,ob.rows.take n⟩) (F:∀j,j≠id->H'.get j=H.get j):Rel I ι H' w/\Step I ι H w I ι H' w:=by
 have f:Step I ι H w I ι H' w:=by
  refine⟨Z,Z,Z,h_ _,λa _ _=>rfl,λ_ h=>h,λ_ h=>.inl h,?_,λ_ _ _=>rfl,?_⟩
  .rintro x ⟨j,o,c,d,s⟩;by_cases e:j=id
   .subst e;exact .inl ⟨j,ob,c,y,s⟩
   exact .inl ⟨j,o,c,(F j e).symm.trans d,s⟩
  grind
 refine⟨⟨g.imm,?_,?_,f.glob g⟩,f⟩
 .intro j o d;by_cases e:j=id
  .subst e;rw[R]at d;cases d;obtain ⟨G,K,⟨b,E,o_,z,L,v_,y_,e5,p,f_⟩|⟨z,L⟩⟩:=(g.obj j ob y).cells m4
   .refine .inl ⟨G,λr l=>K r (mem_of_mem_take l),.inl ⟨b,E,o_,z,L,v_,y_,?_,p,λi r D q a t=>?_⟩⟩
    .grind
    simp only[getElem?_take]at D
    split at D
    .have ⟨v,e_,Q,W⟩:=f_ i r D q a t;exact⟨v,e_,Q,W.mono g f⟩
    grind
   exact .inl ⟨G,λr l=>K r (mem_of_mem_take l),.inr ⟨z,F_⟩⟩
  rw[F j e]at d;exact(g.obj j o d).keep Z (λx c _ _=>⟨Z,λh=>h⟩) (λr _ a _ v A_=>A_.mono g f)
 intro j J o u_ x c P d i_ s u;have m:∀j o,H'.get j=A o->∃o,H.get j=A o:=by
  intro j o d;by_cases e:j=id
  .exact⟨ob,e▸y⟩
  exact⟨o,(F j e).symm.trans d⟩
 have ⟨q,t⟩:=m j o d;have ⟨J0,B⟩:=m J u_ i_;exact g.inj j J q J0 x c P t B s u
theorem Fin.trunc{G0 H}{rows}(c:H.get id=A ob)(t:ob.g=g)(o:g<k)(s:ob.sz=sz)(q:ob.ty=ty)(r:ob.rows.take n=rows):Fin G0 H (.osl id g 0 n) ((id,⟨k,sz,ty,rows⟩)::H) (.osl id k 0 n):=by
 intro G hG I u w v m x f;subst t s q r;have h:=qR f c Z;obtain ⟨q1,d⟩:=jY f c Z;obtain ⟨i,l⟩:=Rel.cut m c o h (get_cons_same _ _ _) (λj p=>get_cons_other _ _ p);refine⟨I,u,i,x.trans l,?_⟩;have a:v.oneCell'=true:=by
  rcases d with⟨b,cap,oo,_,e,_⟩|⟨_,e,_⟩<;>subst e<;>rfl
 exact .osl _ (get_cons_same _ _ _) (h_ _) a λ_=>⟨h,F_,d⟩
theorem aW.congrH{P}{f}{args}{H H1 H2}{b}(h:aW P f args H (λr H'=>r=b/\H'=H1))(n:∀j,H2.get j=H1.get j):aW P f args H (λr H'=>r=b/\H'=H2):=by intro I ι w vs l k p;refine(h I _ w _ l k p).mono ?_;rintro e w' ⟨r,H',g,a,v,rfl,⟨rfl,rfl⟩,o,d,i⟩;have ⟨m,c⟩:=d.congr n;exact⟨r,H2,g,a,v,Z,⟨Z,Z⟩,o.mono d c,m,i.trans c⟩
theorem aW.frameS{P}{f}{args}{H0 H}{c}(h:aW P f args H0 (λr H'=>r=c/\H'=H0))(b:Sub H0 H)(g:dI H0)(i:∀a∈args,Clo H0 a):aW P f args H (λr H'=>r=c/\H'=H):=by
 refine(aW.frame h b g i (λid d=>.inl d)).congrH λj=>?_;rw[gH];cases e:H0.get j with
 |some o=>exact b j o e
 |none=>rfl
theorem Sub.of2{i j}{a b}{H}(E:H.get i=A a)(F:H.get j=A b):Sub [(i,a),(j,b)] H:=by
 intro id o c;simp[aF.get]at c;cases B:Nat.beq i id with
 |true =>
  simp_all
 | false =>
  cases D:Nat.beq j id with
  |true =>
   simp_all
  |false=>simp_all
end
section
theorem TE{w}{I}{ι}{H}{v}(h:VRel w I ι H v (.pv .nils)):v=.slice ζ 0 0:=by have:=h.pv_inv;cases this;rfl
section
variable{P:Program}{m4:Nat}{o:Oper}{E:dD}{f_ J0 t t' e:TypeId}{x y:Operand}
theorem K6(f:o.op=.call {callee:=.builtin .cap,args:=#[x],argTypes:=#[J0]})(d:P.underlying J0=A (.slice e))(h:aS E x=A (.pv .nils)):cP P m4 o E H (.pv (.int .i64 0)) H :=.of_run λa w I ι _ b=>⟨.int _ 0,by
  have c:=TE (aK b h);simp[execOp,f,resolve,invoke,builtin,c,Builtin.cap_,run_underlying d,goInt],.pv (.int _ _)⟩
theorem K4(f:o.op=.call {callee:=.builtin .len,args:=#[x],argTypes:=#[J0]})(d:P.underlying J0=A (.slice e))(h:aS E x=A (.pv .nils)):cP P m4 o E H (.pv (.int .i64 0)) H :=.of_run λa w I ι _ b=>⟨.int _ 0,by
  have c:=TE (aK b h);simp[execOp,f,resolve,invoke,builtin,c,Builtin.len_,run_underlying d,goInt],.pv (.int _ _)⟩
theorem ew{sz}(c:aS E y=A (.pv .nils)):Zm E H sz y 0 []:=λa w I ι B b=>.inr ⟨TE (aK b c),Z,Z⟩
theorem ee{lo hi}{rows'}(D:o.op=.slice J0 x lo hi ζ)(hS:fQ P J0 e sz)(e_:aS E x=A (.osl id g 0 len))
  (i:H.get id=A ob) (z:ob.g=g) (q:ob.sz=sz) (l:bnd E lo 0=A ((0:Nat):Int)) (u:bnd E hi len=A (h:Int)) (y_:h<=len) (v_:g+1=k) (d:ob.rows.take h=rows'):cP P m4 o E H (.osl id k 0 h) ((id,⟨k,sz,ob.ty,rows'⟩)::H):=by
 subst v_ d q;intro a w I G o_ m A_ W K Q s;refine HY D hS.1 hS.2.1 e_ i z Z l u (k_ _) y_ Z (Nat.sub_zero h) a w I G o_ m A_ W K Q ?_;rintro c u_ L ι' r H' ⟨rfl,rfl⟩ B v p;have d_:=qR B i z;obtain ⟨q1,i_⟩:=jY B i z;obtain ⟨F,R⟩:=Rel.cut (k:=g+1) v i X d_ (get_cons_same _ _ _) (λj c_=>get_cons_other _ _ c_);have f:c.oneCell'=true:=by
  rcases i_ with⟨b,cap,oo,_,e,_⟩|⟨_,e,_⟩<;>subst e<;>rfl
 exact s c u_ L _ _ _ ⟨Z,Z⟩ (.osl _ (get_cons_same _ _ _) (h_ _) f λ_=>⟨d_,F_,i_⟩) F (p.trans R)
theorem UH:∀(n t) (acc),(∀v∈acc.toList,v.oneCell'=N)->∀v∈(Extern.BytealgMakeNoZero.digits n t acc).toList,v.oneCell'=N
 |0,_,_,h=>h
 |n+1,t,acc,h=>by
  refine UH n _ _ λv a=>?_;rw[Array.toList_push,List.mem_append,q_]at a;rcases a with a|rfl
  .simp_all
  rfl
theorem ov(w:World)(ps)(t e)(l:P.underlying t=A (.slice e))(n:Nat)(B:n<=281474976710656):
  ∃cs,(Extern.BytealgMakeNoZero.makeNoZero ps #[t] #[.int .i64 n]).run P w=.ok (.slice (A ⟨w.heap.size,0,ζ⟩) n cs.size) (w.drew.drew.alloc (.cells cs e))/\n<=cs.size/\(n<=maxLen->cs.size<=maxLen)/\∀v∈cs.toList,v.oneCell'=N:=by
 have f:Extern.BytealgMakeNoZero.makeNoZero ps #[t] #[.int .i64 n] =
   (do
    let .slice d <-underlying t|stuck _
    if n<0||(n:Int) > 2 ^ 48 then runtimePanic _
    let c <-choose _
    askRoom c
    let bytes <-choose _
    let a <-newRow d (Extern.BytealgMakeNoZero.digits c bytes #[])
    pure (.slice (A a) _ c)):=rfl
 refine⟨Extern.BytealgMakeNoZero.digits (grownCap w n 0 e) ((Question.extern "internal/bytealg.MakeNoZero.bytes" 0).cut (w.tape (w.drawn+1) (.extern "internal/bytealg.MakeNoZero.bytes" 0))) #[],?_,?_,?_,?_⟩
 .rw[f];have k:¬ (n:Int)<0:=X
  have j:¬ (281474976710656:Int)<(n:Int):=X
  simp[run_underlying l,k,j,Question.forced,newRow,Lib.size_digits,grownCap]
 .rw[Lib.size_digits]
  simpa using grownCap_ge w n 0 e
 .intro i;rw[Lib.size_digits]
  simpa using grownCap_le_maxLen w n 0 e i
 exact UH _ _ _ H_
theorem qb{f:Operand}{u:Array TypeId}{F:FuncId}{q:Func}{ps:Array TypeId}{m:Int}(v_:o.op=.call {callee:=.value f,args:=#[x],argTypes:=u})(z_:aS E f=A (.pv (.fn F)))(W:P.funcs[F]?=A q)(h:(q.name == "runtime.NumGoroutine")=η)
  (D:q.body.isNone=N) (o_:Extern.findNext q=ζ) (he:Extern.find q=A (Extern.BytealgMakeNoZero.makeNoZero ps #[t])) (R:P.underlying t=A (.slice e)) (y_:aS E x=A (.pv (.int .i64 m))) (G:m=(n:Int)) (i_:n<=140737488355328) (τ:H.get id=ζ) :
  cP P m4 o E H (.osl id 0 0 n) ((id,⟨0,1,e,List.replicate n [.any]⟩)::H):=by
 subst G;intro a w I ι _ _ hr J K Q A_;have z:=(aK J z_).fn_inv;have κ:=(aK J y_).int_inv;have ⟨d,e1,e2,j,L⟩:=ov (P:=P) w ps t e R n X;have B:=Rel.drawn (w':=w.drew.drew) hr Z Z Z Z;have ⟨u_,g⟩:=B;have ⟨k1,c⟩:=Rel.place (H':=(id,⟨0,1,e,List.replicate n [.any]⟩)::H) (id:=id) (cap:=d.size) (ob':=⟨0,1,e,List.replicate n [.any]⟩) (cs':=d) (w':=w.drew.drew.alloc (.cells d e)) u_ Z Z Z Z
  (λo' σ=>by simp_all) Nat.zero_lt_one H_ F_ (j (Nat.le_trans i_ E_)) (λr ρ=>by simp_all) (λi r v k b s=>by
   rw[getElem?_replicate]at v
   split at v
   .cases v;cases k with
    |zero =>
     cases s;have p:i*1+0<d.size:=X
     exact⟨d[i*1+0],Array.getElem?_eq_getElem p,L _ (Array.getElem_mem_toList p),.any _⟩
    |succ k=>grind
   grind) (get_cons_same _ _ _) (λj y=>get_cons_other _ _ y)
 unfold Oper.wpW;have l:(execOp a.eval o).run P w=.ok (.value (.slice (A ⟨w.heap.size,0,ζ⟩) n d.size)) (w.drew.drew.alloc (.cells d e)):=by
  unfold execOp;simp only[v_,resolve,z,Deferred.ofValue,Sem.run_bind,Sem.run_pure,Result.andThen_ok,invoke,Array.empty_append,Array.append_empty,run_callFunc_extern W h D o_ he]
  simp_all
 rw[l];exact A_ _ _ I _ _ _ ⟨Z,Z⟩ (.osl ⟨0,1,e,List.replicate n [.any]⟩ (get_cons_same _ _ _) (h_ _) Z λ_=>⟨Nat.zero_lt_one,H_,.inl ⟨w.heap.size,d.size,0,H_,H_,λ_=>by simp⟩⟩) k1 (g.trans c)
theorem Gl{lo hi A_:Operand}{rows':List (List PV)}(ho:o.op=.slice J0 x (A lo) (A hi) (A A_))(L:fQ P J0 e sz)(hx:aS E x=A (.pv (.sl rows)))(J:∀r∈rows,C r=sz)
  (e_:aS E lo=A (.pv (.int .i64 l))) (K:aS E hi=A (.pv (.int .i64 h))) (Q:aS E A_=A (.pv (.int .i64 h))) (W:l<=h) (h2:h<=C rows) (v:rows≠[]) (j:(rows.take h).drop l=rows'):cP P m4 o E H (.pv (.sl rows')) H:=by
 subst j;exact .of_run λa w I ι _ D=>by
  have d:=(aK D hx).pv_inv;have g:=(aK D e_).int_inv;have y_:=(aK D K).int_inv;have t:=(aK D Q).int_inv;generalize hc:a.eval x=c at d;have hT:=L.1;have hs:=L.2.1;have G:P.elem J0=e:=by simp[Program.elem,hT]
  have B:P.underlying J0=A (.slice (P.elem J0)):=F_
  cases d with
  |nilsl=>exact absurd Z v
  |empsl a0=>exact absurd Z v
  | sl b i_ s u_ _ cs hI c_ z hcap o_ F =>
   have f:u_=sz:=by
    have ⟨r,rs,e⟩:=exists_cons_of_ne_nil v
    simp_all
   subst f;have z_:(Instr.sliceBounds N (C rows) s (A (.int .i64 l)) (A (.int .i64 h)) (A (.int .i64 h))).run P w=.ok (l,h,h) w:=by
    have u:∀(n y:Nat) (c:BoundsCode),n<=y->(Instr.sliceBound (.int .i64 n) y c).run P w=.ok n w:=λn y c hn=>by
     have:=run_sliceBound (P:=P) w .i64 n y c X X
     simpa using this
    simp[Instr.sliceBounds,u _ _ _ W,u _ _ _ (h_ h),u h s _ X]
   have τ:C (rows.take h)=h:=F_
   have m:∀(i:Nat) (r:List PV),(rows.take h)[i]?=A r->rows[i]?=A r:=λi r j=>by
    grind
   have q:=PRep.cut (w:=w) (I:=I) (b:=b) (off:=i_) (cap:=h) (l:=l) (h:=h) (rows:=rows.take h) (cs:=cs) hI c_ (λr j=>z r (mem_of_mem_take j)) X
    (λi r j k p R=>o_ i r (m i r j) k p R) (λi r j k p R=>F i r (m i r j) k p R) W X
   rw[take_take,Nat.min_self]at q;refine⟨_,?_,.pv q⟩;simp only[execOp,ho,hc];have:=run_slice_any (P:=P) w J0 (A ⟨b,i_,ζ⟩) (C rows) s B (A (.int .i64 l)) (A (.int .i64 h)) (A (.int .i64 h));simp only[Option.map_some,run_sliceAt_slice w J0 _ _ _ _ B,g,y_,t,Sem.run_bind,this,z_,G,hs,sliced,Result.andThen_ok,Sem.run_pure];by_cases ec:h=l<;>simp[ec]
end
end
end Go.Abs
namespace Go.Proofs.C
open Go.Proofs.Tryz
open Go.Abs
variable{K:aF}{α:Type}{i:Nat}
def lz(u:Bool):AV:=if u then .ref 2001 0 0 0 else .pv .nilp
def ES(B:AV)(u:Bool):Ob:=⟨0,2,161,[[lz u,B]]⟩
def zH(g:Nat)(l:List UInt8)(u:Bool):aF:=[(2001,ES (.osl 2002 g 0 (C l)) u),(2002,⟨g,1,5,fX l⟩)]
theorem sS(l):C (fX l)=C l:=by simp[fX]
theorem eW(H)(l):∀r∈fX l,∀a∈r,Clo H a:=by intro r d a c;obtain ⟨b,_,rfl⟩:=mem_map.1 d;rw[q_]at c;subst c;simp
instance(H)(l):W_ (H) (fX l):=⟨eW H l⟩
theorem vD(l m):fX l++fX m=fX (l++m):=by simp[fX]
theorem gR{H}{g n}{u}(e:(H.get 2001).isSome=N)(f:(H.get 2002).isSome=N):∀r∈(ES (.osl 2002 g 0 n) u).rows,∀a∈r,Clo H a:=by
 intro r c a d;simp[ES,q_]at c;subst c;simp[l9,q8,or_false]at d;rcases d with rfl|rfl
 .cases u<;>simp[lz,e]
 simp[f]
theorem x7{p:Prop}(h:p:=by rfl):p:=h
theorem F5(b:AV)(u:Bool)(K:aF):aW φ 191 [.ref 2001 0 0 0] ((2001,ES b u)::K) (λr H'=>r=.tup []/\H'=(2001,ES b N)::K):=by
 cases u with
 |false =>
  refine Bd func191 Z ntmps191<|O aA<|Y sW<|Y (bD AP)<|Y (bU isAgg158)<|V (OP Z iJ Z Z)<|Cn ?_ ?_<;>intro c
  ·refine Rd aA<|Y aA<|Y (by exact HW (n:=1) Z iJ underlying247 x7 Z Z Z (by simp[ES]))<|Y (by exact QH Z Z func239 Z Z Z Z Z (kf (.ref 2001 0 0 0)))<|Y (by exact PD (n:=1) Z underlying247 iJ x7 Z Z Z (by simp[ES]) Z Z)<|Y sW<|Y (bD AP)<|Uu (ku sizeOf158)<|Zz ?_;exact pI (.inl Z) Z (Fin.get' (H':=(2001,ES b true)::K) (λj=>xR 2001 (ES b true) (ES b false) K j)) ⟨Z,Z⟩
  cases c
 |true =>
  refine Bd func191 Z ntmps191<|O aA<|Y sW<|Y (bD AP)<|Y (bU isAgg158)<|V (by exact OO Z iJ Z Z Z Z)<|Cn ?_ ?_<;>intro c
  .cases c
  refine O aA<|Y sW<|Y (bD AP)<|Y (bU isAgg158)<|Y aA<|V (by exact KZ (n:=1) Z iJ x7 Z Z Z Z)<|Cn ?_ ?_<;>intro d
  .cases d
  refine aB ?_;exact pI (.inl Z) Z Fin.refl ⟨Z,Z⟩
theorem LQ{i j}{a b B c}(h:i≠j)(k):aF.get ((i,a)::(j,b)::K) k=aF.get ((i,a)::(j,b)::(i,B)::(j,c)::K) k:=by
 simp[aF.get]
 grind
theorem PS:∀i,φ.info? 5=A i->i.zero=A (.int .u8 0):=λi b=>by
 have h:(φ.info? 5).map (·.zero)=A _:=rfl;rw[b]at h;exact Option.some.inj h
theorem yt(g)(l m){n}(h:C m=n):zH (g+1) (l++m) N=[(2001,ES (.osl 2002 (g+1) 0 (C l+n)) N),(2002,⟨g+1,1,5,fX (l++m)⟩)]:=by subst h;simp[zH]
theorem lA(g:Nat)(l:List UInt8)(u:Bool)(c:UInt8)(B:l.length<70368744177664):aW Tryz.prog 160 [.ref 2001 0 0 0,.pv (.int .u8 c.toNat)] (zH g l u) (λr H'=>r=.pv NK/\H'=zH (g+1) (l++[c]) true):=by refine Bd func160 Z ntmps160<|Sz aJ<|O aA<|V (kc call191 (F5 _ u _))<|O aA<|Y aA<|Y sW<|Y (bD iQ)<|Y (bU eM)<|Y aA<|Y (by exact aM [[.int .u8 c.toNat]] Z BV Z Z Z Z Z F_)<|Y (by exact bW (ps:=[[.int .u8 c.toNat]]) Z BV Zb Z Z Z Z Z (sS l) Z F_ (m:=1) Z X Z (vD l [c]))<|Y sW<|Y (bD iQ)<|Uu (ku qU)<|Zz<|Sz aJ<|aC ?_;rw[yt g l [c] (n:=1) rfl];refine cN (.inr Z) Z (aI Z) (Fin.get' (λj=>LQ E_ j)) ?_;exact Qq
theorem jO(g:Nat)(l:List UInt8)(u:Bool)(s:B_)(B:l.length+s.size<70368744177664):aW Tryz.prog 132 [.ref 2001 0 0 0,sv s] (zH g l u) (λr H'=>r=.tup [iv (s.size:Int),.pv NK]/\H'=zH (g+1) (l++s.data.toList) true):=by refine Bd func132 Z ntmps132<|O aJ<|V aJ<|O aA<|V (kc call191 (F5 _ u _))<|O aA<|Y aA<|Y sW<|Y (bD iQ)<|Y (bU eM)<|Y aA<|Y (by exact xG Z BV U_ Zb PS Z Z Z Z Z (sS l) Z X Z (vD l s.data.toList))<|Y sW<|Y (bD iQ)<|Uu (ku qU)<|Zz<|O aA<|Y (gG U_)<|Y aJ<|V aJ<|aC ?_;rw[yt g l s.data.toList (n:=s.size) rfl];refine fO (.inr Z) Z (aI Z) (aI Z) (Fin.get' (λj=>LQ E_ j)) ?_;exact Qq
def Dv(g:Nat)(l:List UInt8)(u:Bool):aF:=[(2002,⟨g+1,1,5,[]⟩),(2001,ES (.osl 2002 g 0 (C l)) u)]
theorem QS{i j}{a b B}(h:i≠j)(k):aF.get ((i,a)::(j,b)::K) k=aF.get ((i,a)::(j,b)::(i,B)::K) k:=by
 simp[aF.get]
 grind
theorem RU(g:Nat)(l:List UInt8)(u:Bool)(B:C l<70368744177664):aW φ 133 [.ref 2001 0 0 0] (zH g l u) (λr H'=>r=sv ⟨l.toArray⟩/\H'=Dv g l u):=by
 by_cases e:l=[]
 ·subst e;refine Bd func133 Z ntmps133<|Sz aJ<|S<|aN a7<|Cq aA<|Cq sW<|Cq (bD iQ)<|Cq (bU eM)<|Cq (by exact FC Z zM Z Z Z)<|Cq aA<|Cq sW<|Cq (bD iQ)<|Cq (bU eM)<|Cq (by exact dQ Z dM Z Z Z)<|Cq (by exact AE Z Z Z)<|Cq aJ<|bG<|Kr<|aC ?_;refine cN (H':=(Dv g [] u)) (.inr Z) Z (aI Z) (Fin.trans (Fin.deadO (id:=2002) (k:=g+1) (ob:=⟨g,1,5,fX []⟩) Z (lt_succ_self g) Nat.zero_lt_one Z Z) (Fin.get' (λj=>QS E_ j))) ?_;exact Qq
 have c:0<C l:=length_pos_iff.2 e;refine Bd func133 Z ntmps133<|Sz aJ<|S<|aN a7<|Cr [2001] (λ_ _=>aA)<|Cr [2001] (λd b=>by exact dW Z Z ((b _ Z).trans Z) Z)<|Cr [2001] (λ_ h=>fh iQ h)<|Cr [2001] (λ_ h=>lh eM h)<|Cr [2002] (λd b=>by exact HZ Z Z ((b _ Z).trans Z) Z c)<|Cr [2001] (λ_ _=>aA)<|Cr [2001] (λd b=>by exact dW Z Z ((b _ Z).trans Z) Z)<|Cr [2001] (λ_ h=>fh iQ h)<|Cr [2001] (λ_ h=>lh eM h)<|Cr [2002] (λd b=>by exact dQ Z dM Z ((b _ Z).trans Z) Z)<|Cp [2001,2002] (λd b=>by exact B6 (l:=l) rfl zM x7 rfl rfl ((b _ rfl).trans rfl) rfl rfl rfl rfl rfl c X rfl)<|x_ aJ<|bG<|Kr<|aC ?_;refine cN (H':=(Dv g l u)) (.inr Z) Z (aI Z) (Fin.get' (λj=>QS E_ j)) ?_;exact Qq
def Ph:aF:=[(2001,ES (.pv .nils) η)]
theorem l5{p:Prop}(h:p:=by(simp;done)):p:=h
theorem aB4(m n:Nat)(D:m=n)(B:n<70368744177664):aW Tryz.prog 292 [.ref 2001 0 0 0,iv (n:Int)] [(2001,ES (.pv .nils) true)] (λr H'=>r=.tup []/\H'=zH 1 [] true):=by refine Bd func292 Z ntmps292<|S<|aN a7<|Cr [2001] (λ_ _=>aA)<|Cr [2001] (λc b=>by exact dW Z Z ((b _ Z).trans Z) Z)<|Cr [2001] (λ_ h=>fh iQ h)<|Cr [2001] (λ_ h=>lh eM h)<|x_ (by exact K6 Z dM Z)<|x_ (by exact pC Z Z Z (by exact lZ X X))<|x_ aA<|x_ (by exact dB Z Z Z (show IntKind.i64.wrap (0+(n:Int))=(n:Int)by rw[IntKind.wrap_i64];omega))<|Cp [2002] (λc b=>by exact qb (id:=2002) (n:=n) Z Z func310 E_ Z Z Z dM Z Z X ((b _ Z).trans Z))<|Cr [2001] (λ_ _=>aA)<|Cr [2001] (λc b=>by exact dW Z Z ((b _ Z).trans Z) Z)<|Cr [2001] (λ_ h=>fh iQ h)<|Cr [2001] (λ_ h=>lh eM h) ?_;refine x_ (by exact K4 Z dM Z)<|Cp [2002] (λc b=>by exact ee (h:=0) (k:=1) (rows':=[]) Z BV Z ((b _ Z).trans Z) Z Z Z Z (k_ _) Z Z)<|x_ aJ<|bG<|Kr<|O aA<|Y aA<|Y sW<|Y (bD iQ)<|Y (bU eM)<|V (by exact aAA (rows':=[]) Z BV (sj Z Z Z) Z Z Z (k_ _) (ew Z) H_ Z Z Z)<|Rd aA<|Y aA<|Y sW<|Y (bD iQ)<|Uu (ku qU)<|Zz ?_;exact pI (H':=zH 1 [] true) (.inl Z) Z (Fin.wk l5 (Hc (gR Z Z)<|Hc (eW _ _)<|T_) ⟨Z,T_⟩) ⟨Z,Z⟩
theorem Ws(n:Nat)(B:0<n)(d:n<70368744177664):aW φ 255 [.ref 2001 0 0 0,iv (n:Int)] Ph (λr H'=>r=.tup []/\H'=zH 1 [] N):=by
 refine Bd func255 Z ntmps255<|O aA<|V (kc call191 (F5 _ η _))<|S<|O aA<|V cF<|Cn ?_ ?_<;>intro c
 .exact absurd (b8 c) X
 refine aB<|S<|aN a7<|Cq aA<|Cq sW<|Cq (bD iQ)<|Cq (bU eM)<|Cq (K6 Z dM Z)<|Cq aA<|Cq sW<|Cq (bD iQ)<|Cq (bU eM)<|Cq (K4 Z dM Z)<|Cq (dV Z Z Z (lZ X X))<|Cq aA<|Cq cF<|bG<|Kr<|Cn ?_ ?_<;>intro b
 .refine Rd aA<|Y aA<|V (kc call292 (aB4 n n Z d)) ?_;exact pI (H':=zH 1 [] N) (.inl Z) Z (Fin.wk l5 (Hc (gR Z Z)<|Hc (eW _ _)<|T_) ⟨Z,T_⟩) ⟨Z,Z⟩
 exact absurd (b_ b) X
def pN(s:B_)(k:Nat):UInt8:=(s.data.toList[k]?).getD 0
theorem uB(s)(k):bA s k=((pN s k).toNat):=rfl
def qY(b:UInt8):List UInt8:=if b=10 then[92,110]else if b=34\/b=92 then[92,b]else[b]
def cX(l:List UInt8):List UInt8:=34::(l.flatMap qY++[34])
theorem Wy(b):C (qY b)<=2:=by
 unfold qY
 grind
theorem kh(l:List _):C (l.flatMap qY)<=2*C l:=by
 induction l with
 |nil=>simp_all
 |cons b l B =>
  rw[flatMap_cons,j8,j6];have:=Wy b;omega
theorem Hl{s}{k}(h:k<s.size):s.data.toList.take (k+1)=s.data.toList.take k++[pN s k]:=by
 have a:k<C s.data.toList:=F_
 rw[take_add_one,pN,p_ a];rfl
theorem RJ{b}{n:Nat}(B:n<256):θ ((b.toNat:Int)=n)=θ (b=UInt8.ofNat n):=by
 rw[Bool.eq_iff_iff,j0,j0];constructor
 .intro h;apply UInt8.toNat.inj;rw[UInt8.toNat_ofNat'];omega
 intro h;rw[h,UInt8.toNat_ofNat'];omega
theorem cH.bld0{E E'}(a:NzE E [(2002,⟨0,1,5,[]⟩),(2001,ES (.osl 2002 0 0 0) η)] 2002 E'):cH [] E Ph E' (zH 0 [] η):=by refine(cH.nz (G0:=[]) _ 1 5 Z Z a ⟨⟨ES (.pv _) _,Z,Z,Z,Z,.inr ⟨_,_,rfl,rfl,⟨.same (by simp[lz]),⟨.own,T_⟩⟩⟩⟩,T_⟩ T_).trans ?_;exact cH.get (λ_=>rfl) (λj=>nK H_ j)
def lW(s:B_)(k:Nat):List UInt8:=34::(s.data.toList.take k).flatMap qY
theorem gd{s}{k}(D:s.size<17592186044416):C (lW s k)<70368744170000:=by have:=kh (s.data.toList.take k);rw[q9]at this;have B:C s.data.toList=s.size:=rfl;rw[lW,j6];omega
theorem XE{s}{k}(h:k<s.size):lW s (k+1)=lW s k++qY (pN s k):=by rw[lW,lW,Hl h];simp
theorem m3{p:Prop}(h:p:=by simp;rfl):p:=h
theorem wh(s:B_)(H:aF)(v:s.size<17592186044416):RC 260 [sv s] (sv ⟨(cX (ν (μ s))).toArray⟩) H:=by
 refine Pu ?_;have B:C s.data.toList=s.size:=H_
 refine Bd func260 Z ntmps260<|Sz aJ<|Sz (kl 2001 IH)<|S ?_;refine gO.ent (E':=[(0,sv s),(3,.ref 2001 0 0 0)]) (H':=zH 0 [] η) (cH.bld0 ⟨⟨_,Z,.same H_⟩,⟨_,Z,.same m3⟩,T_⟩) ?_;refine Rg<|V (bH Z Z nQ Z (lA 0 [] η 34 E_))<|S<|O aA<|Y (gG U_)<|V aA<|aD<|dU (λ(k g:Nat)=>([(0,sv s),(3,.ref 2001 0 0 0),(8,iv (s.size:Int)),(9,iv (k:Int))],zH g (lW s k) N)) (λk g=>k<=s.size) (λk g=>s.size - k) 0 1 (k_ _) ?_ ?_
 .exact(cH.wk (Eb<|Ea<|Eb<|Eb<|T_) (Hc (gR Z Z)<|Hc (eW _ _)<|T_) T_)
 intro k g E;have D:=gd (k:=k) v;refine Sz cF<|S<|Cn ?_ ?_<;>intro p
 .have q:k<s.size:=I_ p
  have b:=XE q;refine aB<|S<|aD<|O aA<|V aJ<|O aA<|Y aA<|Y (ky U_)<|V aJ<|Sz aA<|aD<|O cG<|Da<|Cn ?_ ?_<;>intro n
  .have l:pN s k=10:=by
    have h:=n;rw[uB,show (10:Int)=((10:Nat):Int)by rfl,RJ E_]at h;exact b8 h
   have e:zH (g+1) (lW s (k+1)) N=zH (g+1) (lW s k++(⟨#[92,110]⟩:B_).data.toList) N:=by rw[b,l];rfl
   refine Rg<|V (kc nS (jO g (lW s k) N ⟨#[92,110]⟩ (by show _+2<_;omega)))<|Rd iH<|V aA ?_;refine⟨k+1,g+1,X,X,?_⟩;show cH _ _ _ _ (zH (g+1) (lW s (k+1)) N);rw[e];exact(cH.wk (Eb<|Ea<|Eb<|Eb<|T_) (Hc (gR Z Z)<|Hc (eW _ _)<|T_) T_)
  have j:¬ pN s k=10:=by
   have h:=n;rw[uB,show (10:Int)=((10:Nat):Int)by rfl,RJ E_]at h;exact b_ h
  refine S<|O cG<|Da<|Cn ?_ ?_<;>intro d
  .have l:pN s k=34:=by
    have h:=d;rw[uB,show (34:Int)=((34:Nat):Int)by rfl,RJ E_]at h;exact b8 h
   have e:zH (g+1+1) (lW s (k+1)) N=zH (g+1+1) (lW s k++[92]++[pN s k]) N:=by rw[b,l];simp[qY]
   refine aB<|Cn ?_ ?_<;>intro u
   .refine Sz (kc nQ (lA g (lW s k) N 92 X))<|Rd aA<|V (kc nQ (lA (g+1) (lW s k++[92]) N (pN s k) G_))<|Rd iH<|V aA ?_;refine⟨k+1,g+1+1,X,X,?_⟩;show cH _ _ _ _ (zH (g+1+1) (lW s (k+1)) N);rw[e];exact(cH.wk (Eb<|Ea<|Eb<|Eb<|T_) (Hc (gR Z Z)<|Hc (eW _ _)<|T_) T_)
   exact absurd (d.symm.trans u) E_
  have m:¬ pN s k=34:=by
   have h:=d;rw[uB,show (34:Int)=((34:Nat):Int)by rfl,RJ E_]at h;exact b_ h
  refine Rd cG<|Da<|Cn ?_ ?_<;>intro i
  .have l:pN s k=92:=by
    have h:=i;rw[uB,show (92:Int)=((92:Nat):Int)by rfl,RJ E_]at h;exact b8 h
   have e:zH (g+1+1) (lW s (k+1)) N=zH (g+1+1) (lW s k++[92]++[pN s k]) N:=by rw[b,l];simp[qY]
   refine Sz (kc nQ (lA g (lW s k) N 92 X))<|Rd aA<|V (kc nQ (lA (g+1) (lW s k++[92]) N (pN s k) G_))<|Rd iH<|V aA ?_;refine⟨k+1,g+1+1,X,X,?_⟩;show cH _ _ _ _ (zH (g+1+1) (lW s (k+1)) N);rw[e];exact(cH.wk (Eb<|Ea<|Eb<|Eb<|T_) (Hc (gR Z Z)<|Hc (eW _ _)<|T_) T_)
  have o:¬ pN s k=92:=by
   have h:=i;rw[uB,show (92:Int)=((92:Nat):Int)by rfl,RJ E_]at h;exact b_ h
  have e:zH (g+1) (lW s (k+1)) N=zH (g+1) (lW s k++[pN s k]) N:=by rw[b,qY,a8 j,a8 (λh=>h.elim m o)]
  refine Rd aA<|V (kc nQ (lA g (lW s k) N (pN s k) X))<|Rd iH<|V aA ?_;refine⟨k+1,g+1,X,X,?_⟩;show cH _ _ _ _ (zH (g+1) (lW s (k+1)) N);rw[e];exact(cH.wk (Eb<|Ea<|Eb<|Eb<|T_) (Hc (gR Z Z)<|Hc (eW _ _)<|T_) T_)
 have t:k=s.size:=J_ p
 refine aP<|Sz (kc nQ (lA g (lW s k) N 34 X))<|O (kc nR (RU (g+1) (lW s k++[34]) N G_))<|V aJ<|aC ?_;have f:(⟨(lW s k++[34]).toArray⟩:B_)=⟨(cX (ν (μ s))).toArray⟩:=by
  rw[lW,cX,t,take_of_length_le X];rfl
 rw[<-f];exact Rt Qq
def bZ(sep:List UInt8):List (List UInt8)->List UInt8
 | []=>[]
 |x::l=>x++l.flatMap (λy=>sep++y)
def bs(l:List B_):List (List UInt8):=l.map λs=>ν (μ s)
def dA(l:List B_):Nat:=(l.map ByteArray.size).sum
theorem yH{l:List _}{k}{s}(h:l[k]?=A s):dA (l.take (k+1))=dA (l.take k)+s.size:=by rw[take_add_one,h,dA,dA];simp
theorem oO(l)(k):dA (l.take k)<=dA l:=by
 have h:dA l=dA (l.take k)+dA (l.drop k):=by
  rw[dA,dA,dA,<-sum_append,<-map_append,take_append_drop]
 omega
theorem jf(sep):∀l,C ((bs l).flatMap (λy=>sep++y))=C sep*C l+dA l
 | []=>rfl
 |s::l=>by
  have c:=jf sep l;show C (((ν (μ s))::bs l).flatMap _)=_;rw[flatMap_cons,j8,c,j8,j6,Nat.mul_add,dA,dA,map_cons,sum_cons];have B:C s.data.toList=s.size:=rfl;omega
def NT(sep x:B_)(l:List B_)(k:Nat):List UInt8:=ν (μ x)++(bs (l.take k)).flatMap (λy=>ν (μ sep)++y)
theorem Cj{sep x s}{l}{k}(h:l[k]?=A s):NT sep x l (k+1)=NT sep x l k++(ν (μ sep)++ν (μ s)):=by rw[NT,NT,take_add_one,h,bs];simp[bs]
theorem If{l}{s}(h:s∈l):s.size<=dA l:=by
 induction l with
 |nil=>cases h
 |cons a l b =>
  rw[dA,map_cons,sum_cons];rcases l9.1 h with rfl|h
  .omega
  exact Nat.le_trans (b h) (le_add_left _ _)
theorem jg{sep x}{l}{k}(a:k<=C l):C (NT sep x l k)<=x.size+sep.size*C l+dA l:=by rw[NT,j8,jf,q9,Nat.min_eq_left a];have B:=oO l k;have b:C sep.data.toList=sep.size:=rfl;have D:C x.data.toList=x.size:=rfl;have E:sep.size*k<=sep.size*C l:=mul_le_mul_left _ a;rw[b];omega
theorem xP(l:List B_)(sep:B_)(H:aF)(h0:0<sep.size)(K:sep.size*C l+dA l+C l<17592186044416):RC 204 [.pv (aL l),sv sep] (sv ⟨(bZ (ν (μ sep)) (bs l)).toArray⟩) H:=by
 refine Pu ?_;have e:C (l.map S_)=C l:=g_ _;rcases l with _|⟨x,_|⟨y,l⟩⟩
 .refine Bd func204 Z ntmps204<|Sz aJ<|S<|O aA<|V (fJ aE)<|aD<|O cG<|Da<|Cn ?_ ?_<;>intro h
  .exact Sz aJ<|aC<|Rt<|Qq
  cases h
 .refine Bd func204 Z ntmps204<|Sz aJ<|S<|O aA<|V (fJ aE)<|aD<|O cG<|Da<|Cn ?_ ?_<;>intro h
  .cases h
  refine O cG<|Da<|Cn ?_ ?_<;>intro p
  .refine O aA<|Y (bS Z aZ Z Z X (l_ _) Z Z)<|Y (fK N_ (hi:=rfl))<|V aJ<|aC ?_;have o_:x=⟨(bZ (ν (μ sep)) (bs [x])).toArray⟩:=by simp[bZ,bs]
   rw[<-o_];exact Rt Qq
  cases p
 have n:C ((x::y::l).map S_)=C l+2:=F_
 have F:C (x::y::l)=C l+2:=rfl;rw[F]at K;have j:sep.size*(C l+2)=sep.size*(C l+1)+sep.size:=by rfl
 have ⟨J,i⟩:∃J,J=sep.size*(C l+1):=X_;rw[<-i]at j;rw[j]at K;have Q:sep.size+1<=9223372036854775807 / (C l+1):=by
  rw[le_div_iff_mul_le (succ_pos _),Nat.add_mul,<-i];omega
 have c:9223372036854775807 / (C l+1)<=9223372036854775807:=div_le_self _ _;have b:0<J:=F_
 have z:∀k,dA ((x::y::l).take k)<=dA (x::y::l):=oO _;refine Bd func204 Z ntmps204<|Sz aJ<|S<|O aA<|V (fJ aE)<|aD<|O cG<|Da<|Cn ?_ ?_<;>intro h
 .exact absurd (b8 h) X
 refine O cG<|Da<|Cn ?_ ?_<;>intro p
 .exact absurd (b8 p) X
 refine aB<|Sz aJ<|S<|O aA<|Y (gG U_)<|V iZ<|Cn ?_ ?_<;>intro I
 .refine S<|O aA<|Y (gG U_)<|Y aA<|Y (fJ aE)<|Y (by exact dV Z Z Z (show ξ.wrap ((C ((x::y::l).map S_):Int) - 1)=((C l+1:Nat):Int)by rw[IntKind.wrap_i64,n];omega))<|Y (by exact DF (r:=((9223372036854775807 / (C l+1):Nat):Int)) Z Z Z X (by rw[show (9223372036854775807:Int)=((9223372036854775807:Nat):Int)by rfl,<-Int.ofNat_tdiv,IntKind.wrap_i64];omega))<|V AN ?_;refine Cn ?_ ?_<;>intro a
  .exact absurd (b8 a) X
  refine aB<|Rd aA<|Y aA<|Y (gG U_)<|Y aA<|Y (fJ aE)<|Y (by exact dV Z Z Z (show ξ.wrap ((C ((x::y::l).map S_):Int) - 1)=((C l+1:Nat):Int)by rw[IntKind.wrap_i64,n];omega))<|Y (by exact pC Z Z Z (show ξ.wrap ((sep.size:Int)*((C l+1:Nat):Int))=(J:Int)by rw[<-Int.natCast_mul,<-i,IntKind.wrap_i64];omega))<|Y (by exact dB Z Z Z (show ξ.wrap (0+(J:Int))=(J:Int)by rw[IntKind.wrap_i64];omega))<|V aJ<|S<|O aA<|Y (fJ aE)<|V aA<|aD ?_;refine bC (σ:=Nat) (λk=>([(0,.pv (aL (x::y::l))),(1,sv sep),(5,iv ((J+dA ((x::y::l).take k):Nat):Int)),(39,.pv (aL (x::y::l))),(40,iv (C ((x::y::l).map S_):Int)),(41,iv (k:Int))],[])) (λk=>k<=C l+2) (λk=>C l+2 - k) 0 (k_ _) ?_ ?_
  .exact Wk
  intro k hk;refine Sz cF<|S<|Cn ?_ ?_<;>intro v
  .have m:k<C l+2:=I_ v
   have ⟨s,t⟩:=aR (show k<C (x::y::l) by omega);have w:=cC (f:=S_) t;have W:=yH t;have h1:=z (k+1);refine aB<|S<|aD<|O (bS Z aZ Z Z X x7 w Z)<|Y (fK N_ (hi:=w))<|V aJ<|S<|O aA<|Y (gG U_)<|Y aA<|Y (by exact dV Z Z Z (show ξ.wrap (9223372036854775807 - ((J+dA ((x::y::l).take k):Nat):Int))=9223372036854775807 - ((J+dA ((x::y::l).take k):Nat):Int)by rw[IntKind.wrap_i64];omega))<|V iZ ?_;refine Cn ?_ ?_<;>intro G
   .exact absurd (b8 G) X
   refine aB<|Rd aA<|Y aA<|Y (gG U_)<|Y (by exact dB Z Z Z (show ξ.wrap (((J+dA ((x::y::l).take k):Nat):Int)+(s.size:Int))=((J+dA ((x::y::l).take (k+1)):Nat):Int)by rw[IntKind.wrap_i64,W];omega))<|V aJ<|Rd iH<|V aA ?_;exact⟨k+1,X,X,Wk⟩
  have d:k=C l+2:=J_ v
  have P:dA ((x::y::l).take k)=dA (x::y::l):=F_
  have h2:=z k;refine aP<|Sz (kl 2001 IH)<|O aA<|V (kc call255 (Ws (J+dA ((x::y::l).take k)) X X))<|O aA<|Y (bS Z aZ Z Z X (l_ _) Z Z)<|Y (fK N_ (hi:=rfl))<|V (kc nS (jO 1 [] N x (by show 0+_<_;have:=oO (x::y::l) 1;simp[dA]at this K;omega)))<|S<|O aA<|Y (by exact eG (l:=1) (h:=C ((x::y::l).map S_)) (rows':=(y::l).map S_) Z aZ Z (sz:=1) (by intro r m4;obtain ⟨q,_,rfl⟩:=mem_map.1 m4;rfl) Z Z (by rw[n];omega) (h_ _) (by rw[take_length];rfl))<|Y (fJ aE)<|V aA<|aD ?_;have ρ:C ((y::l).map S_)=C l+1:=by rw[g_];rfl
  refine dU (λ(q g:Nat)=>([(1,sv sep),(8,.ref 2001 0 0 0),(63,.pv (aL (y::l))),(64,iv (C ((y::l).map S_):Int)),(65,iv (q:Int))],zH g (NT sep x (y::l) q) N)) (λq g=>q<=C l+1) (λq g=>C l+1 - q) 0 2 (k_ _) ?_ ?_
  .show cH _ _ _ _ (zH (1+1) ([]++ν (μ x)++[]) N);rw[append_nil];exact(cH.wk (Eb<|Ea<|Eb<|Eb<|Eb<|T_) (Hc (gR Z Z)<|Hc (eW _ _)<|T_) T_)
  intro q g L;refine Sz cF<|S<|Cn ?_ ?_<;>intro R
  .have m:q<C l+1:=I_ R
   have ⟨s,t⟩:=aR (show q<C (y::l) by rw[j6];exact m);have w:=cC (f:=S_) t;have o:=jg (sep:=sep) (x:=x) (l:=y::l) (k:=q) (Nat.le_of_lt m);have E:=Cj (sep:=sep) (x:=x) t;have τ:=If (m7 t);have D:x.size+dA (y::l)=dA (x::y::l):=by simp[dA]
   have f:C (y::l)=C l+1:=rfl;rw[f,<-i]at o;refine aB<|S<|aD<|O (kx aZ w)<|Y (fK N_ (hi:=w))<|V aJ<|O aA<|V (kc nS (jO g (NT sep x (y::l) q) N sep X))<|Rd aA<|V (kc nS (jO (g+1) (NT sep x (y::l) q++ν (μ sep)) N s (by rw[j8];show _+sep.size+_<_;omega)))<|Rd iH<|V aA ?_;refine⟨q+1,g+1+1,X,X,?_⟩;show cH _ _ _ _ (zH (g+1+1) (NT sep x (y::l) (q+1)) N);rw[E,<-append_assoc];exact(cH.wk (Eb<|Ea<|Eb<|Eb<|Eb<|T_) (Hc (gR Z Z)<|Hc (eW _ _)<|T_) T_)
  have u:q=C l+1:=J_ R
  have o:=jg (sep:=sep) (x:=x) (l:=y::l) L;have f:C (y::l)=C l+1:=rfl;have D:x.size+dA (y::l)=dA (x::y::l):=by simp[dA]
  rw[f,<-i]at o;refine aP<|O (kc nR (RU g (NT sep x (y::l) q) N X))<|V aJ<|aC ?_;have B:(⟨(NT sep x (y::l) q).toArray⟩:B_)=⟨(bZ (ν (μ sep)) (bs (x::y::l))).toArray⟩:=by
   rw[NT,u,<-f,take_length];rfl
  rw[<-B];exact Rt Qq
 exact absurd (b_ I) X
theorem qL:∀(x y),Op.bytesLess x y=θ (x<y)
 | [],[]=>rfl
 |_::_,[]=>rfl
 | [],_::_=>rfl
 |a::x,b::y=>by
  rw[Op.bytesLess,qL x y];simp[List.cons_lt_cons_iff];all_goals grind
theorem GL(s):jI s s=η:=by
 unfold jI;rw[qL]
 simp_all
theorem C4{a b}(c:jI a b=η)(d:jI b a=η):a=b:=by
 unfold jI at c d;rw[qL]at c d;have e:=List.le_antisymm (List.not_lt.1 (b_ d)) (List.not_lt.1 (b_ c));have:=B9 a b;rw[e]at this
 simpa using this.symm
theorem GK{a b c}(B:jI a b=N)(D:jI b c=N):jI a c=N:=by
 unfold jI at *;rw[qL]at *
 grind
theorem vk(s):jI s a6=η:=by
 unfold jI;rw[qL]
 simp_all
theorem P2{a b}:sle a b=η↔jI b a=N:=by
 unfold sle;constructor
 .intro h;simp[r6,n_]at h;cases e:jI b a with
  |true=>rfl
  |false=>exact absurd (C4 h.1 e) h.2
 intro h;simp[r6,n_];refine⟨?_,λe=>?_⟩
 .cases e:jI a b with
  |false=>rfl
  |true=>have:=GK e h;rw[GL]at this;cases this
 subst e;rw[GL]at h;cases h
theorem T5{s}(h:cK s=N):s≠a6:=by
 simp[cK,l6,r9,n_]at h
 grind
theorem Wl{l}{s}:xr l s=N↔s∈l:=by
 unfold xr
 simp_all
theorem C5(a b):jI a b=θ (ν (μ a)<ν (μ b)):=by unfold jI;rw[qL,ByteArray.toList_eq,ByteArray.toList_eq]
def wT{α:Type}(f:α->B_)(l:List α)(s:B_):Nat:=l.findIdx (λo=>!jI (f o) s)
def jo{α:Type}(f:α->B_)(l:List α)(s:B_):Bool:=l.any (λo=>θ (f o=s))
def asc{α:Type}(f:α->B_)(l:List α):Prop:=l.Pairwise (λa b=>jI (f a) (f b)=N)
theorem QY{f}{l}(h:asc f l){j:Nat}{a b:α}(c:i<j)(k:l[i]?=A a)(n:l[j]?=A b):jI (f a) (f b)=N:=by
 have ⟨m,d⟩:=m_.1 k;have ⟨g,e⟩:=m_.1 n;have:=pairwise_iff_getElem.1 h i j m g c
 rwa [d,e]at this
theorem Md{f}{l:List α}{s}{i}(hi:i<=C l)(B:∀k,k<i->∀o,l[k]?=A o->jI (f o) s=N)(D:∀o,l[i]?=A o->jI (f o) s=η):wT f l s=i:=by
 unfold wT;by_cases e:i<C l
 .rw[findIdx_eq e]
  grind
 grind
theorem bz{f}{l}{s}{o:α}(j:asc f l)(g:∀k,k<i->∀o,l[k]?=A o->jI (f o) s=N)(c:l[i]?=A o)(d:jI (f o) s=η):jo f l s=θ (f o=s):=by
 rw[jo,Bool.eq_iff_iff,any_eq_true,j0];constructor
 .rintro⟨x,e,a⟩;have a:=b8 a;have ⟨k,b⟩:=s8.1 e;rcases Nat.lt_trichotomy k i with h|h|h
  .have:=g k h x b;rw[a,GL]at this;cases this
  .subst h;rw[c]at b;cases b;exact a
  have:=QY j h c b;rw[a,d]at this;cases this
 grind
theorem Cl{f}{l:List α}{s}(c:∀k,k<C l->∀o,l[k]?=A o->jI (f o) s=N):jo f l s=η:=by rw[jo,any_eq_false];intro o b;have ⟨k,a⟩:=s8.1 b;have:=c k (m_.1 a).1 o a;simp[j0];intro e;rw[e,GL]at this;grind
theorem Wr{i j}(h:i<j):i<=(i+j) / 2/\(i+j) / 2<j:=X
theorem TQ(f)(l:List α)(s):wT f l s<=C l:=findIdx_le_length
abbrev Bf(ps:List (List PV)):List (List AV):=ps.map (·.map .pv)
theorem KM(ps):C (Bf ps)=C ps:=g_ _
theorem yp(ps)(H):∀r∈Bf ps,∀a∈r,Clo H a:=cg _ _ H
instance(ps)(H):W_ (H) (Bf ps):=⟨yp ps H⟩
theorem UQ{a}{t}:D4 a t=η↔cK t.key=N/\jI a t.key=N/\t.val≠a6/\t.val.size<=200:=by
 simp[D4,r6,Bool.not_eq_false',P2,n_]
 grind
theorem Sw{s}(h:s≠a6):jI a6 s=N:=by
 cases e:jI _ s with
 |true=>rfl
 |false=>exact absurd (C4 (vk s) e) h
theorem yB{l:List m9}:tU l=N↔(∀t,t∈l->cK t.key=N/\t.val≠a6/\t.val.size<=200)/\asc m9.key l/\C l<=60:=by
 have g:θ ((C l:Int)<=60)=θ (C l<=60):=by
  grind
 rw[tU,g,l6,r9,any_eq_false,j0];constructor
 .rintro⟨h,y⟩;have s:∀k t,l[k]?=A t->cK t.key=N/\jI (kW m9.key l k) t.key=N/\t.val≠a6/\t.val.size<=200:=λk t o=>by
   have m:=h k (mem_range.2 (m_.1 o).1);rw[UR,o]at m;simp only[Bool.not_eq_true]at m;exact UQ.1 m
  refine⟨λt u=>?_,?_,y⟩
  .have ⟨k,o⟩:=s8.1 u
   grind
  have key:∀(d i:Nat) (a b:m9),l[i]?=A a->l[i+d+1]?=A b->jI a.key b.key=N:=by
   intro d
   induction d with
   |zero =>
    intro i a b q f;have:=(s (i+1) b f).2.1;rw[kW,q]at this;exact this
   |succ d D =>
    intro i a b q f;have e:i+d+1<C l:=by have:=(m_.1 f).1;omega
    have ⟨x,r⟩:=aR e;have p:=(s (i+(d+1)+1) b f).2.1;rw[kW,show i+(d+1)=i+d+1 by omega,r]at p;exact GK (D i a x q r) p
  rw[asc,pairwise_iff_getElem];intro i j w v B;exact key (j - i - 1) i _ _ (p_ w) (by rw[show i+(j - i - 1)+1=j by omega];exact p_ v)
 rintro⟨m,p,z⟩;refine⟨λk o=>?_,z⟩;have e:=mem_range.1 o;rw[UR,p_ e];simp only[Bool.not_eq_true];have ⟨a,b,c⟩:=m _ (getElem_mem e);refine UQ.2 ⟨a,?_,b,c⟩;cases k with
 |zero =>
  have:l[0].key≠a6:=T5 a;exact Sw this
 |succ k =>
  rw[kW,p_ (show k<C l by omega)];exact QY p (lt_succ_self k) (p_ X) (p_ e)
theorem PJ(h:AV)(l:List b9)(p:b9->Bool)(H:aF)(F:C l<2^62)(m:∀o,o∈l->dO φ h [.agg ((bM o).map .pv)] H (λr H'=>r=.pv (.bool (p o))/\H'=H)):
    RC 293 [.pv (.sl (l.map bM)),h] (.pv (.int .i64 (A6 p l))) H:=by
  refine Bd func293 Z ntmps293<|Sz aJ<|S<|O aA<|Y (fJ fE)<|V aA<|aD<|bC (σ:=Nat) (λk=>([(0,.pv (.sl (l.map bM))),(1,h),(7,.pv (.int .i64 (C (l.map bM)))),(8,.pv (.int .i64 (k:Int)))],H)) (λk=>k<=C l/\∀j,j<k->∀b,l[j]?=A b->p b=η) (λk=>C l - k) 0 ⟨X,X⟩ ?_ ?_
  · exact E0
  · rintro k ⟨hk,c⟩
    refine Sz cF<|S<|Cn ?_ ?_<;>intro B
    · have g:k<C l:=F_
      have ⟨o,f⟩:=aR g;have hi:=cC (f:=bM) f;have d:=m o (m7 f);refine aB<|S<|aD<|O aA<|V aJ<|O aA<|Y aA<|Y aA<|Y (jA fa)<|Y (eY Z cW bF Z X (Z) Z)<|V (dH Z Z Z (d))<|Cn ?_ ?_<;>intro i
      · skip
        refine O aA<|V aJ<|aC ?_;exact cN (H':=H) (.inr Z) Z (aI Z) Fin.refl ⟨by rw[A6,YH c f i],Z⟩
      · skip
        refine aB<|Rd iH<|V aA ?_;refine⟨k+1,⟨X,λj E b D=>?_⟩,X,E0⟩
        grind
    · have e:k=C l:=G_
      subst e;refine aP<|Sz aJ<|aC ?_;exact cN (H':=H) (.inr Z) Z (aI Z) Fin.refl ⟨by rw[A6,YI c],Z⟩
def aFE(id:B_)(o:l7):Bool:=θ (o.id=id)
def qh(x y:Int):Bool:=θ (0<=min x y)&&θ (max x y<1048576)
theorem JT(b)(l:List _)(p)(H)(c:C l<2^62)(d:∀o,o∈l->dO φ b [.agg ((bM o).map .pv)] H (λr H'=>r=.pv (.bool (p o))/\H'=H)):
  RC 257 [.pv (.sl (l.map bM)),b] (.pv (.bool (l.any p))) H:=by
 refine aW.body func257 Z ntmps257 (r_ Z)<|ME<|D6<|tu Z Z Z (yN Z Z)<|tt<|ME<|D6<|tu Z Z Z (iD Z Z)<|tu Z Z Z (iD Z Z)<|tu Z Z Z (bH Z Z call293 Z (PJ _ l p H c d))<|tu Z Z Z (jZ Z Z Z)<|tu Z Z Z (yN Z Z)<|tt<|aC ?_;exact cN (.inr Z) Z (aI Z) Fin.refl ⟨by rw[Nb],Z⟩
def xA(a b:m9):Bool:=θ (a.key=b.key)&&θ (a.val=b.val)
def rQ:List m9->List m9->Bool
 | [],[]=>N
 |a::l,b::r=>xA a b&&rQ l r
 |_,_=>η
theorem WU(a b):xA a b=N↔a=b:=by cases a;cases b;simp[xA]
theorem WQ:∀(a b),C a≠C b->rQ a b=η
 | [],[],h=>absurd Z h
 | [],_::_,_=>rfl
 |_::_,[],_=>rfl
 |x::a,y::b,h=>by rw[rQ,WQ a b (by simp_all)];simp
theorem WR:∀(a b) (k:Nat) (x y),a[k]?=A x->b[k]?=A y->xA x y=η->rQ a b=η
 | [],_,k,x,y,h,_,_=>by grind
 |_::_,[],k,x,y,_,h,_=>rfl
 |u::a,v::b,0,x,y,c,d,h=>by cases c;cases d;rw[rQ,h];rfl
 |u::a,v::b,k+1,x,y,c,d,h=>by rw[rQ,WR a b k x y c d h];simp
theorem RR:∀(a b),C a=C b->(∀k,k<C a->∀x y,a[k]?=A x->b[k]?=A y->xA x y=N)->rQ a b=N
 | [],[],_,_=>rfl
 | [],_::_,h,_=>by grind
 |_::_,[],h,_=>by grind
 |u::a,v::b,hl,h=>by
  rw[rQ,h 0 (by simp) u v Z Z,RR a b (by simp_all) (λk B x y c d=>h (k+1) (by simp_all) x y c d)];rfl
theorem kj (a b:List m9) (H:aF) (I:C a < 4611686018427387904) :
    RC 314 [lv (a.map cA),lv (b.map cA)] (bv (rQ a b)) H:=by
  refine Pu<|Bd func314 Z ntmps314<|Sz aJ<|S<|O aA<|Y (fJ dY)<|Y aA<|Y (fJ dY)<|V yQ<|Cn ?_ ?_<;>intro B
  · have i:C a≠C b:=G_
    refine Sz aJ<|aC<|Rt ?_;exact⟨by rw[WQ a b i],Z⟩
  · have f:C a=C b:=G_
    refine aB<|S<|O aA<|Y (fJ dY)<|V aA<|aD<|bC (σ:=Nat) (λk=>([(0,lv (a.map cA)),(1,lv (b.map cA)),(12,iv (C (a.map cA))),(13,iv (k:Int))],[])) (λk=>k<=C a/\∀j,j<k->∀x y,a[j]?=A x->b[j]?=A y->xA x y=N) (λk=>C a - k) 0 ⟨X,X⟩ ?_ ?_
    · exact E0
    · rintro k ⟨hk,d⟩
      refine Sz cF<|S<|Cn ?_ ?_<;>intro D
      · have g:k<C a:=F_
        have ⟨x,o⟩:=aR g;have ⟨y,m⟩:=aR (l:=b) (k:=k) X;have hi:=cC (f:=cA) o;have E:=cC (f:=cA) m;refine aB<|S<|aD<|O aA<|V aJ<|S<|aN a7<|Cq aA<|Cq aA<|Cq (jA lY)<|Cq (by exact eY Z xV mC Z X (by simp only[Zl,cA,bT,bM];rfl) Z)<|Cq aA<|Cq aA<|Cq (jA lY)<|Cq (by exact eY Z xV mC Z X (by simp only[Zl,cA,bT,bM];rfl) Z)<|Cq (K7 Z Z Z Z Z eqGuardType270 (Ys _ _ _ _))<|bG<|Kr ?_;refine Cn ?_ ?_<;>intro e
        · have n:xA x y=η:=by
            have h:(!xA x y)=N:=e
            simpa using h
          refine Sz aJ<|aC<|Rt ?_;exact⟨by rw[WR a b k x y o m n],Z⟩
        · have n:xA x y=N:=by
            have h:(!xA x y)=η:=e
            simpa using h
          refine aB<|Rd iH<|V aA ?_;refine⟨k+1,⟨X,λj J K L F G=>?_⟩,X,E0⟩
          grind
      · have l:k=C a:=G_
        subst l;refine aP<|Sz aJ<|aC<|Rt ?_;exact⟨by rw[RR a b f d],Z⟩
theorem RQ:∀ {a b},rQ a b=N↔a=b
 | [],[]=>by simp[rQ]
 | [],_::_=>by simp[rQ]
 |_::_,[]=>by simp[rQ]
 |x::a,y::b=>by rw[rQ,l6,WU,RQ];simp
theorem aEj(k f o g n j m l:B_)(w:World):(Op.equalIn 10000 316 (.agg [.string k,.string o,.string n,.string m].toArray) (.agg [.string f,.string g,.string j,.string l].toArray)).run φ w =
  .ok (θ (k=f)&&θ (o=g)&&θ (n=j)&&θ (m=l)) w:=by
 have ⟨i,q⟩:=info_of_underlying U_;refine(run_equalIn_array (P:=φ) w 9999 _ _ underlying316 q).trans ?_;have s:∀(d:Nat) (a b:B_) (w:World),(Op.equalIn (d+1) 9 (.string a) (.string b)).run φ w=.ok (θ (a=b)) w:=λd a b w=>by rw[run_equalIn_string w d 9 a b U_,B9]
 have t:φ.cellsOf 9=1:=by rfl
 by_cases r:k=f<;>by_cases p:o=g<;>by_cases u:n=j<;>by_cases v:m=l<;>simp[range_succ,Op.eqItems,part,t,s,N_,r,p,u,v]
theorem kr(a b:List B_)(H:aF)(F:C a<2^62):RC 312 [.pv (aL a),.pv (aL b)] (bv (θ (a=b))) H:=by
 refine Pu ?_;have E:C (a.map S_)=C a:=g_ _;refine Bd func312 Z ntmps312<|Sz aJ<|S<|O aA<|Y (fJ aE)<|Y aA<|Y (fJ aE)<|V yQ<|Cn ?_ ?_<;>intro B
 .have j:¬ a=b:=by
   grind
  refine Sz aJ<|aC<|Rt ?_
  simp_all
 have m:C a=C b:=by
  grind
 refine aB<|S<|O aA<|Y (fJ aE)<|V aA<|aD<|bC (σ:=Nat) (λk=>([(0,.pv (aL a)),(1,.pv (aL b)),(12,iv (C (a.map S_):Int)),(13,iv (k:Int))],[])) (λk=>k<=C a/\a.take k=b.take k) (λk=>C a - k) 0 ⟨X,H_⟩ ?_ ?_
 .exact E0
 rintro k ⟨hk,e⟩;refine Sz cF<|S<|Cn ?_ ?_<;>intro f
 .have l:k<C a:=I_ f
  have ⟨x,n⟩:=aR l;have ⟨y,o⟩:=aR (l:=b) (k:=k) X;have hi:=cC (f:=S_) n;have D:=cC (f:=S_) o;refine aB<|S<|aD<|O aA<|V aJ<|S<|aN a7<|Cq aA<|Cq aA<|Cq (jA aZ)<|Cq (fK N_)<|Cq aA<|Cq aA<|Cq (jA aZ)<|Cq (fK N_)<|Cq EN<|bG<|Kr<|Cn ?_ ?_<;>intro i
  .have j:¬ a=b:=by
    grind
   refine Sz aJ<|aC<|Rt ?_
   simp_all
  have p:x=y:=by
   have h:(!θ (x=y))=η:=i
   simpa using h
  refine aB<|Rd iH<|V aA ?_;refine⟨k+1,⟨X,?_⟩,X,E0⟩;rw[take_add_one,take_add_one,n,o,e,p]
 have g:k=C a:=J_ f
 have G:a=b:=by
  have h:=e;rw[g,take_length,m,take_length]at h;exact h
 refine aP<|Sz aJ<|aC<|Rt ?_
 simp_all
def zA(a b:l7):Bool:=((θ (a.id=b.id)&&θ (a.kind=b.kind)&&(θ (a.x=b.x)&&θ (a.y=b.y)))&&θ (a.refs=b.refs))&&rQ a.tags b.tags
theorem JF{a b}:zA a b=N↔a=b:=by
 cases a;cases b;simp[zA,l6,j0,RQ,l7.mk.injEq]
 grind
def okS(o:l7):Prop:=C o.refs<2^62/\C o.tags<2^62
theorem w6{p:Prop}(h:p:=by exact aX Z eN sizeOf104 Z Z Z Z (by simp only[Zl,cA,bT,S_,bM];rfl) Z):p:=h
theorem Tj(a b:l7)(H:aF)(h:okS a):RC 313 [av (bT a),av (bT b)] (bv (zA a b)) H:=by
 refine Pu<|Bd func313 Z ntmps313<|O (kb 2)<|Y (kb 3)<|V aJ<|S<|aT (t:=4) (n:=38) (A_:=zA a b) ?_ ?_
 .all_goals refine Y (bD rI)<|Y (bU N_)<|Y (bD rI)<|Y (bU N_)<|Y vT<|Dm ?_<;>(refine Sp 10 (λd=>?_) λd=>?_)<;>(first|exact s_|refine M<|M<|M<|M<|M ?_|refine U (bD eK)<|U (bU M_)<|U (bD eK)<|U (bU M_)<|U cG ?_)<;>refine Y cE<|Dm ?_<;>(refine Sp 17 (λf=>?_) λf=>?_)<;>(first|exact s_|refine M<|M<|M<|M<|M ?_|refine U (bD nC)<|U w6<|U (bD nC)<|U w6<|U (B7 Z Z Z Z Z mZ (SB _ _ _ _)) ?_)<;>refine Y cE<|Dm ?_<;>(refine Sp 24 (λg=>?_) λg=>?_)<;>(first|exact s_|refine M<|M<|M<|M<|M ?_|refine U (bD eJ)<|U (bU aG)<|U (bD eJ)<|U (bU aG)<|U (kc call312 (kr a.refs b.refs _ h.1)) ?_)<;>refine Y cE<|Dm ?_<;>(refine Sp 31 (λe=>?_) λe=>?_)<;>(first|exact s_|refine M<|M<|M<|M<|M ?_|refine U (bD gJ)<|U (bU dN)<|U (bD gJ)<|U (bU dN)<|U (kc call314 (kj a.tags b.tags _ h.2)) ?_)<;>refine Y cE<|Da ?_<;>exact Gj (h:=by(simp only[zA, *];rfl))
 exact aC<|Rt<|Qq
def Fb(a b:b9):Bool:=((((θ (a.refs=b.refs)&&zA a.obj b.obj)&&θ (a.op=b.op))&&(θ (a.id=b.id)&&θ (a.other=b.other)&&θ (a.node=b.node)&&θ (a.key=b.key)))&&θ (a.val=b.val))&&(θ (a.x=b.x)&&θ (a.y=b.y))
theorem pX{a b}:Fb a b=N↔a=b:=by
 cases a;cases b;simp[Fb,l6,j0,JF,b9.mk.injEq]
 grind
theorem y7{p:Prop}(h:p:=by simp only[Zl,cA,bT,S_,bM];rfl):p:=h
theorem Tk(a b:b9)(H:aF)(j:C a.refs<2^62)(i:okS a.obj):RC 295 [av (bM a),av (bM b)] (bv (Fb a b)) H:=by
 refine Pu<|Bd func295 Z ntmps295<|O (kb 2)<|Y (kb 3)<|V aJ<|S<|aT (t:=5) (n:=14) (A_:=θ (a.refs=b.refs)&&zA a.obj b.obj) ?_ ?_
 .all_goals refine Y (bD iX)<|Y (bU aG)<|Y (bD iX)<|Y (bU aG)<|Y (kc call312 (kr a.refs b.refs _ j))<|Dm ?_<;>(refine Sp 11 (λg=>?_) λg=>?_)<;>(first|exact s_|refine M<|M<|M<|M<|M ?_|refine U (bD vR)<|U (by exact aX Z cD sizeOf135 Z Z Z Z y7 Z)<|U (bD vR)<|U (by exact aX Z cD sizeOf135 Z Z Z Z y7 Z)<|U (kc call313 (Tj a.obj b.obj _ i)) ?_)<;>refine Y cE<|Da ?_<;>exact Gj (h:=by simp_all)
 refine S<|aT (t:=4) (n:=48) (A_:=Fb a b) ?_ ?_
 .all_goals refine Y aA<|Dm ?_<;>(refine Sp 19 (λf=>?_) λf=>?_)<;>(first|exact s_|refine M<|M<|M<|M<|M ?_|refine U (bD iY)<|U (bU M_)<|U (bD iY)<|U (bU M_)<|U cG ?_)<;>refine Y cE<|Dm ?_<;>(refine Sp 26 (λB=>?_) λB=>?_)<;>(first|exact s_|refine M<|M<|M<|M<|M<|M<|M<|M<|M<|M<|M<|M<|M<|M<|M<|M<|M<|M<|M ?_|refine U (bD kC)<|U (bU N_)<|U (bD kV)<|U (bU N_)<|U (bD rG)<|U (bU N_)<|U (bD oG)<|U (bU N_)<|U (zX Z Zi Z Z)<|U (bD kC)<|U (bU N_)<|U (bD kV)<|U (bU N_)<|U (bD rG)<|U (bU N_)<|U (bD oG)<|U (bU N_)<|U (zX Z Zi Z Z)<|U (B7 Z Z Z Z Z eqGuardType316 (aEj a.id b.id a.other b.other a.node b.node a.key b.key)) ?_)<;>refine Y cE<|Dm ?_<;>(refine Sp 47 (λh=>?_) λh=>?_)<;>(first|exact s_|refine M<|M<|M<|M<|M ?_|refine U (bD pG)<|U (bU N_)<|U (bD pG)<|U (bU N_)<|U vT ?_)<;>refine Y cE<|Dm ?_<;>(refine Sp 54 (λe=>?_) λe=>?_)<;>(first|exact s_|refine M<|M<|M<|M<|M ?_|refine U (bD jR)<|U w6<|U (bD jR)<|U w6<|U (B7 Z Z Z Z Z mZ (SB _ _ _ _)) ?_)<;>refine Y cE<|Da ?_<;>exact Gj (h:=by(simp only[Fb, *];rfl))
 exact aC<|Rt<|Qq
def atP{α:Type}(l:List α)(p:α->Bool)(k:Nat):Bool:=match l[k]? with
 |some s=>p s
 |none=>η
theorem UW{l}{p}{k}{s:α}(h:l[k]?=A s):atP l p k=p s:=by rw[atP,h]
theorem VK(l:List α)(p):(List.range (C l)).any (atP l p)=l.any p:=by
 rw[Bool.eq_iff_iff,any_eq_true,any_eq_true];constructor
 .rintro⟨k,a,h⟩;have b:=mem_range.1 a;rw[UW (p_ b)]at h;exact⟨_,getElem_mem _,h⟩
 rintro⟨x,c,h⟩;have ⟨k,a⟩:=s8.1 c;exact⟨k,mem_range.2 (m_.1 a).1,by rw[UW a];exact h⟩
theorem Lq(s)(H)(b:s.size<2^62):RC 311 [sv s] (bv (!cK s)) H:=by refine Pu ?_;exact Bd func311 Z ntmps311<|Sz aJ<|O aA<|Y (bH Z Z pL Z (DL s _ b))<|Y iE<|V aJ<|aC<|Rt<|Qq
theorem az(l)(H)(d:C l<2^62)(c:∀s∈l,s.size<2^62):RC 294 [.pv (aL l)] (bv (l.all cK)) H:=by
 refine Pu ?_;have e:l.all cK=!(List.range (C l)).any (atP l (λs=>!cK s)):=by
  rw[VK l _,any_eq_not_all_not];simp
 rw[e];exact Bd func294 Z ntmps294<|Sz aJ<|O aA<|Y (kc call28 (BC _ l (atP l _) (λ_=>[]) d (λk s b=>dO.fn call311 (by rw[UW b];exact Lq s _ (c s (m7 b))))))<|Y iE<|V aJ<|aC<|Rt<|Qq
end Go.Proofs.C
namespace Go.Abs
theorem eU{P}{G0}{m4}{Q}{E}{H}{x y}{α:Type}(f_:α->dD×aF)(B:α->Prop)
  (h:gO P G0 m4 x (zP (λb H1=>∃a,B a/\cH G0 b H1 (f_ a).1 (f_ a).2) Q) E H) (d:∀a,B a->gO P G0 m4 y Q (f_ a).1 (f_ a).2):gO P G0 m4 (.seq x y) Q E H :=
 ME (h.mono λe b H1 q=>by
  cases e with
  |normal =>
   have ⟨a,c,f⟩:=q;exact gO.ent f (d a c)
  |_=>exact q)
theorem CG{i}{o}{K:aF}:∀(D:aF),(∀p∈D,p.1=i)->∀j,aF.get ((i,o)::K) j=aF.get ((i,o)::(D++K)) j:=by
 intro D b j;by_cases e:i=j
 .subst e;simp[aF.get,qA]
 have h:aF.get D j=ζ:=by
  cases a:aF.get D j with
  |none=>rfl
  |some x=>exact absurd (b _ (eI a)).symm e
 rw[get_cons_other _ _ (Ne.symm e),get_cons_other _ _ (Ne.symm e),gH,h]
theorem oM{H}{x}{c}(h:∀p∈c,Clo H p.2):∀r∈(LR x c).rows,∀a∈r,Clo H a:=by
 intro r d a b;simp[LR,l9,q8,or_false]at d;rcases d with rfl|rfl
 .rw[q_]at b;subst b;simp
 obtain ⟨p,e,rfl⟩:=mem_map.1 b;exact h p e
def KE(D B:aF):List Nat->Prop
 | []=>True
 |j::r=>D.get j=B.get j/\KE D B r
theorem KE.spec{D B}:∀ {l},KE D B l->∀j∈l,D.get j=B.get j
 |i::r,h,j,a=>by
  rcases l9.1 a with rfl|a
  .exact h.1
  exact KE.spec h.2 j a
theorem xy{D:aF}{j}(h:j∉D.map (·.1)):D.get j=ζ:=by
 cases a:D.get j with
 |none=>rfl
 |some o=>exact absurd (mem_map.2 ⟨_,eI a,Z⟩) h
theorem jt(D B){K}(h:KE D B (D.map (·.1)++B.map (·.1)))(j):aF.get (D++K) j=aF.get (B++K) j:=by
 rw[gH,gH];have e:D.get j=B.get j:=by
  by_cases a:j∈D.map (·.1)++B.map (·.1)
  .exact h.spec j a
  rw[mem_append,not_or]at a;rw[xy a.1,xy a.2]
 rw[e]
end Go.Abs
namespace Go.Proofs.C
open Go.Proofs.Tryz
open Go.Abs
variable{α:Type}
def GD(e:b9):b9 :=if e.op=1 then⟨e.op,a6,a6,a6,0,0,a6,a6,[],e.obj⟩
 else if e.op=2 then⟨e.op,e.id,a6,a6,e.x,e.y,a6,a6,[],j7⟩
 else if e.op=3 then⟨e.op,e.id,a6,a6,0,0,e.key,e.val,[],j7⟩
 else if e.op=4 then⟨e.op,e.id,a6,a6,0,0,a6,a6,e.refs,j7⟩
 else if e.op=5 then⟨e.op,e.id,a6,a6,0,0,a6,a6,[],j7⟩
 else if e.op=6 then⟨e.op,e.id,e.other,e.node,0,0,a6,a6,[],j7⟩
 else⟨e.op,e.id,e.other,a6,0,0,a6,a6,[],j7⟩
def xL(e:b9):Bool :=if e.op=1 then oY e.obj
 else cK e.id&&(if e.op=2 then qh e.x e.y else if e.op=3 then cK e.key&&θ ((e.val.size:Int)<=200)
  else if e.op=4 then θ ((0:Int)<(C e.refs:Int))&&θ ((C e.refs:Int)<=2000)&&e.refs.all cK
  else if e.op=5 then N else if e.op=6 then cK e.node&&cK e.other else cK e.other)
def gN(e:b9):Bool:=(θ (1<=e.op)&&θ (e.op<=7))&&(xL e&&Fb (GD e) e)
def VY(e:b9):Prop:=(e.id.size<2^62/\e.other.size<2^62/\e.node.size<2^62/\e.key.size<2^62)/\(C e.refs<2^62/\∀s∈e.refs,s.size<2^62)/\mw e.obj
theorem aBB{o}(h:mw o):okS o:=⟨h.2.2.1,h.2.1.1⟩
theorem XP:okS j7:=⟨E_,E_⟩
theorem Vq(s)(H)(B:s.size<2^62):RC 294 [.pv (aL [s])] (bv (cK s)) H:=by
 have h:=az [s] H H_ F_
 simpa using h
theorem aFB(s t)(H)(B:s.size<2^62)(D:t.size<2^62):RC 294 [.pv (aL [s,t])] (bv (cK s&&cK t)) H:=by
 have h:=az [s,t] H H_ F_
 simpa using h
theorem y4{p:Prop}(h:p:=by simp only[Zl,cA,bT,S_,bM,j7];rfl):p:=h
theorem v8{p:Prop}(h:p:=by simp[S_]):p:=h
theorem kv(e:b9)(H:aF)(r:VY e):RC 259 [av (bM e)] (bv (gN e)) H:=by
 refine Pu ?_;have ⟨⟨m,b,o,c⟩,⟨d,q⟩,f⟩:=r;have σ:C (e.refs.map S_)=C e.refs:=g_ _;have W:gN e=((θ (1<=e.op)&&θ (e.op<=7))&&(xL e&&Fb (GD e) e)):=rfl;have ⟨x,G⟩:∃x,x=GD e:=X_;have ⟨k,F⟩:∃k,k=xL e:=X_;rw[<-G,<-F]at W;refine Bd func259 Z ntmps259<|O (kb 1)<|V aJ<|O (bD iY)<|Y (bU M_)<|Y (bD kC)<|Y (bU N_)<|Y (pB uO)<|Y (kl 3 WG)<|Uu (jH bF)<|Zz<|O (bD kC)<|Y (bU N_)<|Y (aM ([e.id].map S_) Z aZ Z Z Z Z Z v8)<|Y (kc call294 (Vq e.id _ m))<|Da<|eU (λ(_:Unit)=>([(1,.ref 1 0 0 0),(3,.ref 3 0 0 0),(4,bv k)],[(3,bx 15 137 ((bM x).map .pv)),(1,bx 15 137 ((bM e).map .pv))])) (λ_=>(1<=e.op/\e.op<=7)/\C x.refs<2^62/\okS x.obj) ?_ ?_
 .refine O (bD iY)<|V (bU M_)<|aD<|O cG<|Da<|Cn ?_ ?_<;>intro I
  .have ho:e.op=1:=b8 I;have ⟨E,D⟩:x=⟨e.op,a6,a6,a6,0,0,a6,a6,[],e.obj⟩/\k=oY e.obj:=by subst G F;simp[GD,xL,qh,ho,Bool.and_assoc]
   rw[E,D];refine aN a7<|Cr [1] (λ_ h=>fh vR h)<|Cr [1] (λH1 B=>by exact aX Z cD sizeOf135 Z ((B _ Z).trans Z) Z Z y4 Z)<|Cr [1] (λ_ h=>fh vR h)<|Cr [1] (λH1 B=>by exact aX Z cD sizeOf135 Z ((B _ Z).trans Z) Z Z y4 Z)<|x_ (by exact bH Z Z call286 Z (S9 e.obj _ f))<|Cr [3] (λ_ h=>fh kC h)<|Cp [3] (λ_ h=>su V_ h)<|Cr [3] (λ_ h=>fh vR h)<|Cp [3] (λ_ h=>sx sizeOf135 h)<|x_ aJ ?_;refine bG<|Kr ?_;exact⟨(),⟨⟨X,X⟩,(zero_lt_succ _),aBB f⟩,Wk⟩
  have s:¬ e.op=1:=b_ I;refine O cG<|Da<|Cn ?_ ?_<;>intro J
  .have ho:e.op=2:=b8 J;have ⟨E,D⟩:x=⟨e.op,e.id,a6,a6,e.x,e.y,a6,a6,[],j7⟩/\k=(cK e.id&&θ (0<=min e.x e.y)&&θ (max e.x e.y<1048576)):=by subst G F;simp[GD,xL,qh,ho,Bool.and_assoc]
   rw[E,D];apply zJ (t:=4) (n:=25) (A_:=(cK e.id&&θ (0<=min e.x e.y)&&θ (max e.x e.y<1048576)))
   .cases hg30:(cK e.id:Bool)
    .refine aN a7<|Cr [1] (λ_ h=>fh jR h)<|Cr [1] (λH1 B=>by exact aX Z eN sizeOf104 Z ((B _ Z).trans Z) Z Z y4 Z)<|x_ aA<|x_ aA<|Ot<|Ot<|Ot<|Ot<|Ot<|Ot<|Ot<|Ot<|x_ cE<|x_ aA<|Ot<|Ot<|Ot<|Ot<|Ot<|Ot<|Ot<|Ot<|x_ cE<|Cr [3] (λ_ h=>fh jR h)<|Cp [3] (λ_ h=>sx sizeOf104 h)<|x_ aJ<|bG<|Kr ?_;exact⟨Z,⟨_,Z,by rfl⟩,Z,Z,Z⟩
    cases g:(θ (0<=min e.x e.y):Bool)
    .refine aN a7<|Cr [1] (λ_ h=>fh jR h)<|Cr [1] (λH1 B=>by exact aX Z eN sizeOf104 Z ((B _ Z).trans Z) Z Z y4 Z)<|x_ aA<|x_ aA<|Lt [1] (λ_ h=>fh jR h)<|Lt [1] (λ_ h=>fh nE h)<|Lt [1] (λ_ h=>lh M_ h)<|Lt [1] (λ_ h=>fh jR h)<|Lt [1] (λ_ h=>fh nD h)<|Lt [1] (λ_ h=>lh M_ h)<|Lt [] (λH1 B=>by exact DG Z Z Z Z)<|Lt [] (λH1 B=>by exact jZ Z Z Z) ?_;refine x_ cE<|x_ aA<|Ot<|Ot<|Ot<|Ot<|Ot<|Ot<|Ot<|Ot<|x_ rD<|Cr [3] (λ_ h=>fh jR h)<|Cp [3] (λ_ h=>sx sizeOf104 h)<|x_ aJ<|bG<|Kr ?_;exact⟨Z,⟨_,Z,by rfl⟩,Z,Z,Z⟩
    refine aN a7<|Cr [1] (λ_ h=>fh jR h)<|Cr [1] (λH1 B=>by exact aX Z eN sizeOf104 Z ((B _ Z).trans Z) Z Z y4 Z)<|x_ aA<|x_ aA<|Lt [1] (λ_ h=>fh jR h)<|Lt [1] (λ_ h=>fh nE h)<|Lt [1] (λ_ h=>lh M_ h)<|Lt [1] (λ_ h=>fh jR h)<|Lt [1] (λ_ h=>fh nD h)<|Lt [1] (λ_ h=>lh M_ h)<|Lt [] (λH1 B=>by exact DG Z Z Z Z)<|Lt [] (λH1 B=>by exact jZ Z Z Z) ?_;refine x_ cE<|x_ aA<|Lt [1] (λ_ h=>fh jR h)<|Lt [1] (λ_ h=>fh nE h)<|Lt [1] (λ_ h=>lh M_ h)<|Lt [1] (λ_ h=>fh jR h)<|Lt [1] (λ_ h=>fh nD h)<|Lt [1] (λ_ h=>lh M_ h)<|Lt [] (λH1 B=>by exact Va Z Z Z Z)<|Lt [] (λH1 B=>by exact iM Z Z Z) ?_;refine x_ BO<|Cr [3] (λ_ h=>fh jR h)<|Cp [3] (λ_ h=>sx sizeOf104 h)<|x_ aJ<|bG<|Kr ?_;exact⟨Z,⟨_,Z,by rfl⟩,Z,Z,Z⟩
   exact⟨(),⟨⟨X,X⟩,(zero_lt_succ _),XP⟩,Wk⟩
  have u:¬ e.op=2:=b_ J;refine O cG<|Da<|Cn ?_ ?_<;>intro K
  .have ho:e.op=3:=b8 K;have ⟨E,D⟩:x=⟨e.op,e.id,a6,a6,0,0,e.key,e.val,[],j7⟩/\k=(cK e.id&&cK e.key&&θ ((e.val.size:Int)<=200)):=by subst G F;simp[GD,xL,qh,ho,Bool.and_assoc]
   rw[E,D];apply zJ (t:=4) (n:=20) (A_:=(cK e.id&&cK e.key&&θ ((e.val.size:Int)<=200)))
   .cases hg58:(cK e.id:Bool)
    .refine aN a7<|Cr [1] (λ_ h=>fh oG h)<|Cr [1] (λ_ h=>lh N_ h)<|Cr [1] (λ_ h=>fh pG h)<|Cr [1] (λ_ h=>lh N_ h)<|x_ aA<|x_ aA<|Ot<|Ot<|Ot<|Ot<|x_ cE<|x_ aA<|Ot<|Ot<|Ot<|Ot<|x_ cE<|Cr [3] (λ_ h=>fh oG h)<|Cp [3] (λ_ h=>su V_ h)<|Cr [3] (λ_ h=>fh pG h)<|Cp [3] (λ_ h=>su V_ h)<|x_ aJ<|bG<|Kr ?_;exact⟨Z,⟨_,Z,by rfl⟩,Z,Z,Z⟩
    cases i:(cK e.key:Bool)
    .refine aN a7<|Cr [1] (λ_ h=>fh oG h)<|Cr [1] (λ_ h=>lh N_ h)<|Cr [1] (λ_ h=>fh pG h)<|Cr [1] (λ_ h=>lh N_ h)<|x_ aA<|x_ aA<|Lt [1] (λ_ h=>fh oG h)<|Lt [1] (λ_ h=>lh N_ h)<|Lt [] (λH1 B=>by exact aM ([e.key].map S_) Z aZ Z Z Z Z Z v8)<|Lt [] (λH1 B=>by exact bH Z Z call294 Z (Vq e.key _ c)) ?_;refine x_ cE<|x_ aA<|Ot<|Ot<|Ot<|Ot<|x_ rD<|Cr [3] (λ_ h=>fh oG h)<|Cp [3] (λ_ h=>su V_ h)<|Cr [3] (λ_ h=>fh pG h)<|Cp [3] (λ_ h=>su V_ h)<|x_ aJ<|bG<|Kr ?_;exact⟨Z,⟨_,Z,by rfl⟩,Z,Z,Z⟩
    refine aN a7<|Cr [1] (λ_ h=>fh oG h)<|Cr [1] (λ_ h=>lh N_ h)<|Cr [1] (λ_ h=>fh pG h)<|Cr [1] (λ_ h=>lh N_ h)<|x_ aA<|x_ aA<|Lt [1] (λ_ h=>fh oG h)<|Lt [1] (λ_ h=>lh N_ h)<|Lt [] (λH1 B=>by exact aM ([e.key].map S_) Z aZ Z Z Z Z Z v8)<|Lt [] (λH1 B=>by exact bH Z Z call294 Z (Vq e.key _ c)) ?_;refine x_ cE<|x_ aA<|Lt [1] (λ_ h=>fh pG h)<|Lt [1] (λ_ h=>lh N_ h)<|Lt [] (λH1 B=>by exact OQ Z U_ Z)<|Lt [] (λH1 B=>by exact pD Z Z Z) ?_;refine x_ BO<|Cr [3] (λ_ h=>fh oG h)<|Cp [3] (λ_ h=>su V_ h)<|Cr [3] (λ_ h=>fh pG h)<|Cp [3] (λ_ h=>su V_ h)<|x_ aJ<|bG<|Kr ?_;exact⟨Z,⟨_,Z,by rfl⟩,Z,Z,Z⟩
   exact⟨(),⟨⟨X,X⟩,(zero_lt_succ _),XP⟩,Wk⟩
  have v:¬ e.op=3:=b_ K;refine O cG<|Da<|Cn ?_ ?_<;>intro L
  .have ho:e.op=4:=b8 L;have ⟨E,D⟩:x=⟨e.op,e.id,a6,a6,0,0,a6,a6,e.refs,j7⟩/\k=(cK e.id&&θ ((0:Int)<(C (e.refs.map S_):Int))&&θ ((C (e.refs.map S_):Int)<=2000)&&e.refs.all cK):=by subst G F;simp[GD,xL,qh,ho,Bool.and_assoc]
   rw[E,D];apply zJ (t:=4) (n:=22) (A_:=(cK e.id&&θ ((0:Int)<(C (e.refs.map S_):Int))&&θ ((C (e.refs.map S_):Int)<=2000)&&e.refs.all cK))
   .cases hg77:(cK e.id:Bool)
    .refine aN a7<|Cr [1] (λ_ h=>fh iX h)<|Cr [1] (λ_ h=>lh aG h)<|x_ aA<|x_ aA<|Ot<|Ot<|Ot<|Ot<|x_ cE<|x_ aA<|Ot<|Ot<|Ot<|Ot<|x_ cE<|x_ aA<|Ot<|Ot<|Ot<|x_ cE<|Cr [3] (λ_ h=>fh iX h)<|Cp [3] (λ_ h=>su sizeOf22 h)<|x_ aJ<|bG<|Kr ?_;exact⟨Z,⟨_,Z,by rfl⟩,Z,Z,Z⟩
    cases j:(θ ((0:Int)<(C (e.refs.map S_):Int)):Bool)
    .refine aN a7<|Cr [1] (λ_ h=>fh iX h)<|Cr [1] (λ_ h=>lh aG h)<|x_ aA<|x_ aA<|Lt [1] (λ_ h=>fh iX h)<|Lt [1] (λ_ h=>lh aG h)<|Lt [] (λH1 B=>by exact lI Z aE Z)<|Lt [] (λH1 B=>by exact K5 Z Z Z) ?_;refine x_ cE<|x_ aA<|Ot<|Ot<|Ot<|Ot<|x_ rD<|x_ aA<|Ot<|Ot<|Ot<|x_ cE<|Cr [3] (λ_ h=>fh iX h)<|Cp [3] (λ_ h=>su sizeOf22 h)<|x_ aJ<|bG<|Kr ?_;exact⟨Z,⟨_,Z,by rfl⟩,Z,Z,Z⟩
    cases l:(θ ((C (e.refs.map S_):Int)<=2000):Bool)
    .refine aN a7<|Cr [1] (λ_ h=>fh iX h)<|Cr [1] (λ_ h=>lh aG h)<|x_ aA<|x_ aA<|Lt [1] (λ_ h=>fh iX h)<|Lt [1] (λ_ h=>lh aG h)<|Lt [] (λH1 B=>by exact lI Z aE Z)<|Lt [] (λH1 B=>by exact K5 Z Z Z) ?_;refine x_ cE<|x_ aA<|Lt [1] (λ_ h=>fh iX h)<|Lt [1] (λ_ h=>lh aG h)<|Lt [] (λH1 B=>by exact lI Z aE Z)<|Lt [] (λH1 B=>by exact pD Z Z Z) ?_;refine x_ BO<|x_ aA<|Ot<|Ot<|Ot<|x_ rD<|Cr [3] (λ_ h=>fh iX h)<|Cp [3] (λ_ h=>su sizeOf22 h)<|x_ aJ<|bG<|Kr ?_;exact⟨Z,⟨_,Z,by rfl⟩,Z,Z,Z⟩
    refine aN a7<|Cr [1] (λ_ h=>fh iX h)<|Cr [1] (λ_ h=>lh aG h)<|x_ aA<|x_ aA<|Lt [1] (λ_ h=>fh iX h)<|Lt [1] (λ_ h=>lh aG h)<|Lt [] (λH1 B=>by exact lI Z aE Z)<|Lt [] (λH1 B=>by exact K5 Z Z Z) ?_;refine x_ cE<|x_ aA<|Lt [1] (λ_ h=>fh iX h)<|Lt [1] (λ_ h=>lh aG h)<|Lt [] (λH1 B=>by exact lI Z aE Z)<|Lt [] (λH1 B=>by exact pD Z Z Z) ?_;refine x_ BO<|x_ aA<|Lt [1] (λ_ h=>fh iX h)<|Lt [1] (λ_ h=>lh aG h)<|Lt [] (λH1 B=>by exact bH Z Z call294 Z (az e.refs _ d q)) ?_;refine x_ BO<|Cr [3] (λ_ h=>fh iX h)<|Cp [3] (λ_ h=>su sizeOf22 h)<|x_ aJ<|bG<|Kr ?_;exact⟨Z,⟨_,Z,by rfl⟩,Z,Z,Z⟩
   exact⟨(),⟨⟨X,X⟩,d,XP⟩,Wk⟩
  have w:¬ e.op=4:=b_ L;refine O cG<|Da<|Cn ?_ ?_<;>intro P
  .have ho:e.op=5:=b8 P;have ⟨E,D⟩:x=⟨e.op,e.id,a6,a6,0,0,a6,a6,[],j7⟩/\k=cK e.id:=by subst G F;simp[GD,xL,qh,ho,Bool.and_assoc]
   rw[E,D];refine aB ?_;exact⟨(),⟨⟨X,X⟩,(zero_lt_succ _),XP⟩,Wk⟩
  have y:¬ e.op=5:=b_ P;refine O cG<|Da<|Cn ?_ ?_<;>intro Q
  .have ho:e.op=6:=b8 Q;have ⟨E,D⟩:x=⟨e.op,e.id,e.other,e.node,0,0,a6,a6,[],j7⟩/\k=(cK e.id&&(cK e.node&&cK e.other)):=by subst G F;simp[GD,xL,qh,ho,Bool.and_assoc]
   rw[E,D];apply zJ (t:=4) (n:=16) (A_:=(cK e.id&&(cK e.node&&cK e.other)))
   .cases hg104:(cK e.id:Bool)
    .refine aN a7<|Cr [1] (λ_ h=>fh rG h)<|Cr [1] (λ_ h=>lh N_ h)<|Cr [1] (λ_ h=>fh kV h)<|Cr [1] (λ_ h=>lh N_ h)<|x_ aA<|x_ aA<|Ot<|Ot<|Ot<|Ot<|Ot<|Ot<|x_ cE<|Cr [3] (λ_ h=>fh rG h)<|Cp [3] (λ_ h=>su V_ h)<|Cr [3] (λ_ h=>fh kV h)<|Cp [3] (λ_ h=>su V_ h)<|x_ aJ<|bG<|Kr ?_;exact⟨Z,⟨_,Z,by rfl⟩,Z,Z,Z⟩
    refine aN a7<|Cr [1] (λ_ h=>fh rG h)<|Cr [1] (λ_ h=>lh N_ h)<|Cr [1] (λ_ h=>fh kV h)<|Cr [1] (λ_ h=>lh N_ h)<|x_ aA<|x_ aA<|Lt [1] (λ_ h=>fh rG h)<|Lt [1] (λ_ h=>lh N_ h)<|Lt [1] (λ_ h=>fh kV h)<|Lt [1] (λ_ h=>lh N_ h)<|Lt [] (λH1 B=>by exact aM ([e.node,e.other].map S_) Z aZ Z Z Z Z Z v8)<|Lt [] (λH1 B=>by exact bH Z Z call294 Z (aFB e.node e.other _ o b)) ?_;refine x_ cE<|Cr [3] (λ_ h=>fh rG h)<|Cp [3] (λ_ h=>su V_ h)<|Cr [3] (λ_ h=>fh kV h)<|Cp [3] (λ_ h=>su V_ h)<|x_ aJ<|bG<|Kr ?_;exact⟨Z,⟨_,Z,by rfl⟩,Z,Z,Z⟩
   exact⟨(),⟨⟨X,X⟩,(zero_lt_succ _),XP⟩,Wk⟩
  have z:¬ e.op=6:=b_ Q;refine O cG<|Da<|Cn ?_ ?_<;>intro R
  .have ho:e.op=7:=b8 R;have ⟨E,D⟩:x=⟨e.op,e.id,e.other,a6,0,0,a6,a6,[],j7⟩/\k=(cK e.id&&cK e.other):=by subst G F;simp[GD,xL,qh,ho,Bool.and_assoc]
   rw[E,D];apply zJ (t:=4) (n:=11) (A_:=(cK e.id&&cK e.other))
   .cases hg119:(cK e.id:Bool)
    .refine aN a7<|Cr [1] (λ_ h=>fh kV h)<|Cr [1] (λ_ h=>lh N_ h)<|x_ aA<|x_ aA<|Ot<|Ot<|Ot<|Ot<|x_ cE<|Cr [3] (λ_ h=>fh kV h)<|Cp [3] (λ_ h=>su V_ h)<|x_ aJ<|bG<|Kr ?_;exact⟨Z,⟨_,Z,by rfl⟩,Z,Z,Z⟩
    refine aN a7<|Cr [1] (λ_ h=>fh kV h)<|Cr [1] (λ_ h=>lh N_ h)<|x_ aA<|x_ aA<|Lt [1] (λ_ h=>fh kV h)<|Lt [1] (λ_ h=>lh N_ h)<|Lt [] (λH1 B=>by exact aM ([e.other].map S_) Z aZ Z Z Z Z Z v8)<|Lt [] (λH1 B=>by exact bH Z Z call294 Z (Vq e.other _ b)) ?_;refine x_ cE<|Cr [3] (λ_ h=>fh kV h)<|Cp [3] (λ_ h=>su V_ h)<|x_ aJ<|bG<|Kr ?_;exact⟨Z,⟨_,Z,by rfl⟩,Z,Z,Z⟩
   exact⟨(),⟨⟨X,X⟩,(zero_lt_succ _),XP⟩,Wk⟩
  have τ:¬ e.op=7:=b_ R;refine Sz aJ<|aC<|Rt ?_;refine⟨?_,Z⟩;rw[W];rcases(by omega:e.op<1\/7<e.op)with h|h
  .rw[decide_eq_false X];rfl
  rw[decide_eq_false (p:=e.op<=7) X,Bool.and_false];rfl
 rintro _ ⟨⟨o1,o7⟩,hr,hs⟩;rw[decide_eq_true o1,decide_eq_true o7]at W;refine S<|aT (t:=2) (n:=8) (A_:=k&&Fb x e) ?_ ?_
 .all_goals refine Y aA<|Dm ?_<;>(refine Sp 127 (λa=>?_) λa=>?_)<;>(first|exact s_|refine M<|M<|M ?_|refine U (by exact aX Z cW bF Z Z Z Z y4 Z)<|U (by exact aX Z cW bF Z Z Z Z y4 Z)<|U (kc call295 (Tk x e _ hr hs)) ?_)<;>refine Y cE<|Da ?_<;>exact Gj (h:=by(rw[a];rfl))
 refine aC<|Rt ?_;exact⟨by rw[W];rfl,Z⟩
theorem UO(e)(H)(b:VY e):RC 258 [av (bM e)] (bv (!gN e)) H:=by refine Pu ?_;exact Bd func258 Z ntmps258<|O (tP (id:=1) Z Z Z Z Z)<|V aJ<|O (aX Z cW bF Z Z Z Z (Z) Z)<|Y (bH Z Z call259 Z (kv e _ b))<|Y iE<|V aJ<|aC<|Rt<|Qq
def lU(l:List b9):Bool:=θ ((0:Int)<(C l:Int))&&θ ((C l:Int)<=200)&&!(l.any (λe=>!gN e))
theorem WE(l)(H:aF)(i:C l<2^62)(f:∀e∈l,VY e):RC 206 [.pv (kR l)] (bv (lU l)) H:=by
 refine Pu ?_;have c:C (l.map bM)=C l:=g_ _;refine Bd func206 Z ntmps206<|Sz aJ<|S<|aT (t:=2) (n:=16) (A_:=θ ((0:Int)<(C (l.map bM):Int))&&θ ((C (l.map bM):Int)<=200)&&!(l.any (λe=>!gN e))) ?_ ?_
 .all_goals refine Y aA<|Y (fJ fE)<|Y iZ<|Dm ?_<;>(refine Sp 6 (λg=>?_) λg=>?_)<;>(first|refine M<|M<|M ?_|refine U aA<|U (fJ fE)<|U EQ ?_)<;>refine Y cE<|Dm ?_<;>(refine Sp 11 (λd=>?_) λd=>?_)<;>(first|refine M<|M<|M ?_|refine U aA<|U (kc call257 (JT _ l _ _ i (λe h=>dO.fn call258 (UO e _ (f e h)))))<|U iE ?_)<;>refine Y cE<|Da ?_<;>(exact⟨⟨_,Z,G_⟩,Z,Z,Z⟩)
 refine aC<|Rt ?_;exact⟨by rw[lU,c],Z⟩
theorem Fin.slice0{H1}{id g n}{ob}(ps)(b:H1.get id=A ob)(c:ob.g=g)(a:ob.rows=ps.map (·.map .pv))(d:C ps=n):
  Fin [] H1 (.osl id g 0 n) [] (.pv (.sl ps)):=by
 subst c d;exact Fin.fz _ b a (.osl H_) Z T_ T_
theorem ZW(l:List _):∀r∈l.map S_,C r=1:=λr a=>by
 obtain ⟨t,_,rfl⟩:=mem_map.1 a;rfl
theorem T1(n:Nat)(H:aF)(l:H.get 904=ζ)(g:H.get 905=ζ)(i:dI H)(B:n<2^40):
  aW φ 93 [.pv .nils,iv (n:Int)] H (λr H'=>r=.osl 905 1 0 0/\H'=(905,⟨1,1,9,[]⟩)::H):=by
 refine Bd func93 Z ntmps93 ?_;by_cases k:n=0
 .subst k;refine UU (t:=0) (id:=905) (sz:=1) (ty:=9) Z g rfl<|Sz aJ<|S<|O aA<|V cF<|Cn ?_ ?_<;>intro f
  .have h:=b8 f;omega
  refine aB<|S<|O aA<|Y aA<|Y (by exact FG Z aE Z Z Z)<|Y aA<|Y (by exact FF Z aE Z Z Z)<|Y (by exact dV Z Z Z (by exact lZ X X))<|Y (by exact dV Z Z Z (by exact lZ X X))<|V aJ<|O aA<|V iZ<|Cn ?_ ?_<;>intro e
  .have h:=b8 e;omega
  refine aB<|S<|YY (t:=0) Z Z Z E_<|Rd aA<|V aJ<|aC ?_;refine cN (H':=((905,⟨1,1,9,[]⟩)::H)) (.inr Z) Z (aI Z) ((Fin.bump (g:=0) (k:=1) Z Z E_ Z Z Z).trans (Fin.get' (λj=>xR _ _ _ _ j))) ?_;exact Qq
 refine UU (t:=0) (id:=904) (sz:=1) (ty:=9) Z l Z ?_;have d:aF.get ((904,(⟨0,1,9,[]⟩:Ob))::H) 905=ζ:=g;refine Sz aJ<|S<|O aA<|V cF<|Cn ?_ ?_<;>intro c
 .have h:=b8 c;omega
 refine aB<|S<|O aA<|Y aA<|Y (by exact FG Z aE Z Z Z)<|Y aA<|Y (by exact FF Z aE Z Z Z)<|Y (by exact dV Z Z Z (by exact lZ X X))<|Y (by exact dV Z Z Z (by exact lZ X X))<|V aJ<|O aA<|V iZ<|Cn ?_ ?_<;>intro b
 ·refine Rd aA<|Y aA<|Y (by exact FG Z aE Z Z Z)<|Y (by exact eb (l:=0) (h:=0) Z aZ Z Z Z Z Z Z (h_ _) (h_ _) Z Z Z)<|Y aA<|Y (by exact RG (id2:=905) (m:=n) Z aZ underlying3 sZ Rl Z Z Z Z Z (h_ _) Z X X X (r8 _) X d Z)<|Y aA<|Y (by exact FF Z aE Z Z Z)<|Y (by exact kZ (l:=0) (h:=0) Z aZ Z Z Z Z Z Z (h_ _) X Z Z)<|V aJ<|O aA<|V aJ<|aC ?_;refine cN (H':=((905,⟨1,1,9,[]⟩)::H)) (.inr Z) Z (aI Z) ((Fin.trunc (g:=0) (k:=1) (sz:=1) (ty:=9) (rows:=[]) Z Z E_ Z Z (take_zero)).trans (Fin.front' [_,_,_] [(905,⟨1,1,9,[]⟩)] m3 F_ (by simp[aF.get]) H_ i F_)) ?_;exact Qq
 have h:=b_ b;omega
theorem lF(ls:List (List B_))(H:aF)(D:C ls<2^40)(v:C ls.flatten<2^40):
  RC 47 [.pv (.sl (ls.map (λl=>[.sl (l.map S_)])))] (.pv (.sl (ls.flatten.map S_))) H:=by
 refine Pu ?_;have E:C (ls.map (λl=>[PV.sl (l.map S_)]))=C ls:=g_ _;have e:∀k,C ((ls.take k).flatten)<=C ls.flatten:=λk=>by
  conv=>rhs;rw[<-take_append_drop k ls,flatten_append,j8]
  omega
 have j:∀k l,ls[k]?=A l->(ls.take (k+1)).flatten=(ls.take k).flatten++l:=λk l h=>by
  rw[take_add_one,h,flatten_append];simp
 refine Bd func47 Z ntmps47<|Sz aJ<|Sz aJ<|S<|O aA<|Y (fJ iB)<|V aA<|aD<|bC (σ:=Nat) (λk=>([(0,.pv (.sl (ls.map (λl=>[.sl (l.map S_)])))),(3,iv (C ((ls.take k).flatten):Int)),(9,.pv (.sl (ls.map (λl=>[.sl (l.map S_)])))),(10,iv (C (ls.map (λl=>[PV.sl (l.map S_)])):Int)),(11,iv (k:Int))],[])) (λk=>k<=C ls) (λk=>C ls - k) 0 X ?_ ?_
 .exact E0
 intro k y;refine Sz cF<|S<|Cn ?_ ?_<;>intro m
 .have i:k<C ls:=I_ m
  have ⟨l,o⟩:=aR i;have w:=cC (f:=λl=>[PV.sl (l.map S_)]) o;have d:C (l.map S_)=C l:=g_ _;have s:=j k l o;have x:=e (k+1);have t:C ((ls.take (k+1)).flatten)=C ((ls.take k).flatten)+C l:=F_
  have u:ξ.wrap ((C ((ls.take k).flatten):Int)+(C (l.map S_):Int))=(C ((ls.take (k+1)).flatten):Int):=by rw[IntKind.wrap_i64,d,t];omega
  refine aB<|S<|aD<|O (jA uS)<|Y (fK aG)<|V aJ<|O aA<|Y aA<|Y (fJ aE)<|Y (ka u)<|V aJ<|O aA<|V cF<|Cn ?_ ?_<;>intro q
  .have h:=b8 q;omega
  refine aB<|Rd iH<|V aA ?_;exact⟨k+1,X,X,E0⟩
 have f:k=C ls:=J_ m
 subst f;rw[take_length];refine aP<|O aA<|Y (KX Z Z call93 Z (T1 (C ls.flatten) [] Z Z (dI.of H_) v))<|V aJ<|S<|O aA<|Y (fJ iB)<|V aA<|aD<|dU (λ(k:Nat) (g:Nat)=>([(6,.osl 905 g 0 (C ((ls.take k).flatten.map S_))),(25,.pv (.sl (ls.map (λl=>[.sl (l.map S_)])))),(26,iv (C (ls.map (λl=>[PV.sl (l.map S_)])):Int)),(27,iv (k:Int))],[(905,⟨g,1,9,Bf ((ls.take k).flatten.map S_)⟩)])) (λk g=>k<=C ls) (λk g=>C ls - k) 0 1 X ?_ ?_
 .exact E0
 intro k g y;refine Sz cF<|S<|Cn ?_ ?_<;>intro n
 .have i:k<C ls:=I_ n
  have ⟨l,o⟩:=aR i;have w:=cC (f:=λl=>[PV.sl (l.map S_)]) o;have d:C (l.map S_)=C l:=g_ _;have B:C ((ls.take k).flatten.map S_)=C ((ls.take k).flatten):=g_ _;have s:=j k l o;have x:=e (k+1);have t:C ((ls.take (k+1)).flatten)=C ((ls.take k).flatten)+C l:=F_
  refine aB<|S<|aD<|O (jA uS)<|Y (fK aG)<|V aJ<|Rd aA<|Y aA<|Y (by exact bW Z aZ sZ Z Z Z Z Z (KM _) Z (ZW l) Z X (by simp_all:C ((ls.take k).flatten.map S_)+C (l.map S_)=C ((ls.take (k+1)).flatten.map S_)) (by rw[s,map_append,Bf,Bf,map_append]:Bf ((ls.take k).flatten.map S_)++(l.map S_).map (·.map .pv)=Bf ((ls.take (k+1)).flatten.map S_)))<|V aJ<|Rd iH<|V aA ?_;exact⟨k+1,g+1,X,X,cH.dup ⟨⟨_,Z,Z⟩,⟨_,Z,Z⟩,⟨_,Z,Z⟩,⟨_,Z,Z⟩,T_⟩⟩
 have f:k=C ls:=J_ n
 subst f;rw[take_length];refine aP<|O aA<|V aJ<|aC ?_;refine cN (H':=[]) (.inr Z) Z (aI Z) (Fin.slice0 (id:=905) (ls.flatten.map S_) Z Z Z Z) ?_;exact Qq
theorem CH{o}(h:oY o=N):C o.refs<=2000/\C o.tags<=60/\tU o.tags=N/\cK o.id=N/\(o.kind=2->2<=C o.refs):=by rw[oY,l6,OY,wU]at h;have a:=h.1;simp[r6,Bool.not_eq_false',n_]at a;have ⟨⟨⟨⟨B,d⟩,b⟩,c⟩,D⟩:=a;refine⟨X,(yB.1 b).2.2,b,d,λe=>?_⟩;rw[e,show FT 2=2 from rfl]at c;omega
theorem uY{e}:gN e=N↔(1<=e.op/\e.op<=7)/\xL e=N/\GD e=e:=by rw[gN,l6,l6,l6,j0,j0,pX]
theorem JG{e}(h:gN e=N):e.val.size<=200:=by
 have ⟨_,a,b⟩:=uY.1 h;have d:(GD e).val=e.val:=by rw[b]
 by_cases c:e.op=3
 .rw[xL,a8 X,a8 X,b6 c,l6,l6,j0]at a;omega
 have:e.val=a6:=by
  rw[<-d,GD]
  grind
 rw[this];decide
abbrev aFC(m:List l7)(s:B_):Option l7:=m.find? (aFE s)
theorem Cv{o}(h:oY o=N):1<=o.kind/\o.kind<=5:=by
 rw[oY,l6,OY,wU]at h;have g:=h.1;simp[r6,n_]at g;have e:=g.1.1.1.1;unfold eP at e;by_cases a:o.kind=1
 .omega
 by_cases b:o.kind=2
 .omega
 by_cases c:o.kind=3
 .omega
 by_cases d:o.kind=4
 .omega
 by_cases f:o.kind=5
 .omega
 rw[a8 a,a8 b,a8 c,a8 d,a8 f]at e;exact absurd Z e
def qQ(s:B_):B_:=aV (s.size:Int)++⟨#[58]⟩++s
def aO(l:List B_):List UInt8:=l.flatMap λs=>(qQ s).data.toList
def uI(l:List B_):B_:=F4 ⟨(aO l).toArray⟩
theorem oE{n}(b : -9223372036854775808<=n)(c:n<=9223372036854775807):(aV n).size<=21:=by have:=Lib.itoa_length_le n b c;show (Lib.itoa n).toArray.size<=21;omega
theorem nY(s):(qQ s).size=(aV (s.size)).size+1+s.size:=by rw[qQ,ByteArray.size_append,ByteArray.size_append];rfl
theorem qF(l)(s):aO (l++[s])=aO l++(qQ s).data.toList:=by rw[aO,aO,flatMap_append,flatMap_cons,flatMap_nil,append_nil]
theorem uX:∀(l) (k),C (aO (l.take k))<=C (aO l):=λl k=>by
 have h:aO l=aO (l.take k)++aO (l.drop k):=by rw[aO,aO,aO,<-flatMap_append,take_append_drop]
 rw[h,j8];omega
theorem dT{l:List α}{k}{a}(h:l[k]?=A a):l.take (k+1)=l.take k++[a]:=by rw[take_add_one,h,Option.toList_some]
theorem pS(s:B_):C s.data.toList=s.size:=rfl
theorem AK:∀l,C l<=C (aO l)
 | []=>h_ _
 |s::r=>by
  have B:=AK r;have h:aO (s::r)=(qQ s).data.toList++aO r:=rfl;rw[h,j8,j6,pS,nY];omega
theorem bg(l:List B_)(H:aF)(I:C (aO l)<35184372088832):RC 81 [.pv (aL l)] (sv (uI l)) H:=by
 refine Pu ?_;have E:C (l.map S_)=C l:=g_ _;have D:=AK l;refine Bd func81 Z ntmps81<|Sz aJ<|Sz (kl 2001 IH)<|S<|S ?_;refine gO.ent (E':=[(0,.pv (aL l)),(3,.ref 2001 0 0 0)]) (H':=zH 0 [] η) (cH.bld0 ⟨⟨_,Z,.same H_⟩,⟨_,Z,.same m3⟩,T_⟩) ?_;refine Rd aA<|Y (fJ aE)<|V aA<|aD<|CO (λ(k g:Nat) (u:Bool)=>([(3,.ref 2001 0 0 0),(6,.pv (aL l)),(7,iv (C (l.map S_):Int)),(8,iv (k:Int))],zH g (aO (l.take k)) u)) (λk g u=>k<=C l) (λk g u=>C l - k) 0 0 η (k_ _) ?_ ?_
 .exact(cH.wk (Ea<|Eb<|Eb<|Eb<|T_) (Hc (gR Z Z)<|Hc (eW _ _)<|T_) T_)
 intro k g u G;have B:=uX l k;refine Sz cF<|S<|Cn ?_ ?_<;>intro d
 .have j:k<C l:=I_ d
  have ⟨s,i⟩:=aR j;have hi:=cC (f:=S_) i;have f:=uX l (k+1);rw[dT i,qF,j8,pS,nY]at f;have F:s.size<35184372088832:=X
  refine aB<|S<|aD<|O (jA aZ)<|Y (fK N_)<|V aJ<|Rd aA<|Y (gG U_)<|Y (kc mD (qI (s.size:Int) X X _))<|Y (by exact fC Z Z Z (by have:(⟨#[58]⟩:B_).size=1:=rfl;omega) Z)<|Y aA<|Y (by exact fC Z Z Z (by rw[ByteArray.size_append];have:(⟨#[58]⟩:B_).size=1:=rfl;omega) Z)<|V (kc nS (jO g (aO (l.take k)) u (qQ s) (by rw[nY];omega)))<|Rd iH<|V aA ?_;refine⟨k+1,g+1,N,X,X,?_⟩;rw[dT i,qF];exact(cH.wk (Ea<|Eb<|Eb<|Eb<|T_) (Hc (gR Z Z)<|Hc (eW _ _)<|T_) T_)
 have h:k=C l:=J_ d
 subst h;rw[take_length];exact aP<|O (kc nR (RU g (aO l) u X))<|Y (kc call106 (vg ⟨(aO l).toArray⟩ _ (by show (aO l).toArray.size<_;grind)))<|V aJ<|aC<|Rt<|Qq
theorem sC(s):(F4 s).size=16:=rfl
def O2:B_->Nat->B_
 |t,0=>t
 |t,n+1=>O2 (F4 t) n
theorem yr:∀(a b) (t),O2 (O2 t a) b=O2 t (a+b)
 |0,b,t=>by rw[r8];rfl
 |a+1,b,t=>by
  rw[show a+1+b=(a+b)+1 by omega];exact yr a b _
theorem MB(t)(n):O2 t (n+1)=F4 (O2 t n):=by rw[<-yr n 1 t];rfl
theorem Oi{t}(h:t.size=16):∀n,(O2 t n).size=16
 |0=>h
 |n+1=>by rw[MB,sC]
def Fj(m:B_):Nat:=UJ (WC m.size) (ν (μ m))
def dJ(m:B_):List Nat:=(List.range 16).map (V3 (Fj m))
def HS(m:B_):Nat:=((dJ m).map (15 - ·)).sum
def Fq(m:B_):List Nat:=dJ m++[HS m / 16,HS m % 16]
theorem aBk(m):C (dJ m)=16:=rfl
theorem Xe(m):C (Fq m)=18:=rfl
theorem RT:∀l:List _,(l.map (15 - ·)).sum<=15*C l
 | []=>h_ _
 |a::r=>by
  have:=RT r;simp[map_cons,sum_cons,j6];omega
theorem fm(m):HS m<=240:=by have:=RT (dJ m);exact this
theorem aBh(m:B_):∀d∈Fq m,d<16:=by
 intro d a;rcases mem_append.1 a with h|h
 .obtain ⟨j,_,rfl⟩:=mem_map.1 h;exact FK _ _
 have:=fm m;simp only[l9,q8,or_false]at h;rcases h with rfl|rfl<;>omega
def OR:B_:=⟨#[110,111,100,101]⟩
def pP(s:B_)(i k:Nat):B_:=uI [s,aV (i:Int),aV (k:Int)]
def YN(s:B_)(i:Nat):List B_:=(List.range 18).map λk=>O2 (pP s i k) 15
def ra(s:B_)(i:Nat):B_:=uI (YN s i)
def yR(s:B_)(h:Nat):List B_:=(List.range (2 ^ h)).map (ra s)
def iq(a b:B_):B_:=uI [OR,a,b]
def va:List B_->List B_
 |a::b::r=>iq a b::va r
 |_=>[]
def yJ:Nat->List B_->Nat->List B_
 |0,_,_=>[]
 |h+1,l,i=>l.getD (i ^^^ 1) a6::yJ h (va l) (i / 2)
def oi(s:B_)(i:Nat)(m:B_):List B_:=(List.range 18).map λk=>O2 (pP s i k) ((Fq m).getD k 0)
def wF(b:UInt8):Bool:=(48<=b&&b<=57)||(97<=b&&b<=102)
def m6(t:B_):Bool:=θ (t.size=16)&&t.data.toList.all wF
theorem PU:∀(n) (l),C l=2*n->C (va l)=n
 |0,[],_=>rfl
 |n+1,a::b::r,h=>by
  have:=PU n r G_;rw[va,j6,this]
 |n+1,[a],h=>by grind
 |n+1,[],h=>by grind
 |0,a::r,h=>by grind
theorem uz:∀(n) (l) (k),C l=2*n->k<n->(va l).getD k a6=iq (l.getD (2*k) a6) (l.getD (2*k+1) a6)
 |0,l,k,_,c=>by omega
 |n+1,[],k,h,_=>by grind
 |n+1,[a],k,h,_=>by grind
 |n+1,a::b::r,0,h,_=>rfl
 |n+1,a::b::r,k+1,h,c=>by
  have d:=uz n r k G_ X;rw[va,show 2*(k+1)=2*k+1+1 by omega,getD_cons_succ,d,getD_cons_succ,getD_cons_succ,getD_cons_succ,getD_cons_succ]
theorem uk(i):i ^^^ 1=if i % 2=1 then i - 1 else i+1:=by
 have B:(i ^^^ 1) / 2=i / 2:=by
  rw[xor_div_two];simp
 have D:=by
  have:=xor_mod_two_pow (a:=i) (b:=1) (n:=1)
  simpa using this
 have E:(i ^^^ 1) % 2=1 - i % 2:=by
  grind
 split
 .omega
 omega
theorem XG:∀(h) (l) (i),C (yJ h l i)=h
 |0,_,_=>rfl
 |h+1,l,i=>by rw[yJ,j6,XG h]
theorem X2(s)(h):C (yR s h)=2 ^ h:=by simp[yR]
theorem Ct{l:List α}{k}{d}(h:k<C l):l.getD k d∈l:=F_
theorem Mw{n}(h:n<16):wF (UInt8.ofNat (xQ n).toNat)=N:=by revert n;decide
theorem AM(s):m6 (F4 s)=N:=by rw[m6,l6,j0];refine⟨sC s,?_⟩;rw[all_eq_true];intro b a;obtain ⟨j,_,rfl⟩:=mem_map.1 (show b∈(List.range _).map _ from by simpa[F4,CE]using a);exact Mw (FK _ _)
theorem aBW{t}(h:m6 t=N):∀n,m6 (O2 t n)=N
 |0=>h
 |n+1=>by rw[MB];exact AM _
theorem iW{t}(h:m6 t=N):t.size=16:=by rw[m6,l6,j0]at h;omega
theorem Ih(s)(i)(m):∀t∈oi s i m,m6 t=N:=by intro t a;obtain ⟨k,_,rfl⟩:=mem_map.1 a;exact aBW (AM _) _
theorem Ig(s)(i)(m):C (oi s i m)=18:=rfl
theorem ZC:∀(n) (l),C l<=n->∀t∈va l,m6 t=N
 |_,[],_,t,c=>by simp[va]at c
 |_,[a],_,t,c=>by simp[va]at c
 |0,a::b::r,h,t,c=>by grind
 |n+1,a::b::r,h,t,c=>by
  rcases l9.1 c with rfl|c
  .exact AM _
  exact ZC n r (by grind) t c
theorem XH:∀(h) (l) (i),C l=2 ^ h->i<2 ^ h->(∀t∈l,m6 t=N)->∀t∈yJ h l i,m6 t=N
 |0,_,_,_,_,_,t,a=>by simp[yJ]at a
 | h+1,l,i,hl,hi,ha,t,a=>by
  have b:C l=2*2 ^ h:=X
  rcases l9.1 a with rfl|a
  .rw[uk]
   grind
  exact XH h _ _ (PU _ _ b) X (ZC _ _ (h_ _)) t a
theorem X3(s)(h):∀t∈yR s h,m6 t=N:=by intro t a;obtain ⟨k,_,rfl⟩:=mem_map.1 a;exact AM _
def bQ(l:List B_):List (List AV):=l.map λs=>[.pv (.str s)]
theorem cY(l):C (bQ l)=C l:=g_ _
theorem gB(l)(s):bQ l++[[.pv (.str s)]]=bQ (l++[s]):=by rw[bQ,bQ,map_append];rfl
theorem aQ(H)(l):∀r∈bQ l,∀a∈r,Clo H a:=by intro r d a c;obtain ⟨b,_,rfl⟩:=mem_map.1 d;rw[q_]at c;subst c;simp
instance(H)(l):W_ (H) (bQ l):=⟨aQ H l⟩
theorem dS(l):bQ l=(l.map S_).map (·.map .pv):=by rw[map_map];rfl
def jB(t:m9):B_:=t.key++⟨#[61]⟩++⟨(cX (ν (μ t.val))).toArray⟩
def wK(L:List B_):aF:=[(903,⟨C L,1,9,bQ L⟩),(4,bx 1 22 [.osl 903 (C L) 0 (C L)])]
theorem aAD(L)(s):wK (L++[s])=[(903,⟨C L+1,1,9,bQ (L++[s])⟩),(4,bx 1 22 [.osl 903 (C L+1) 0 (C L+1)])]:=by simp[wK]
theorem rY(s:B_):(⟨(cX (ν (μ s))).toArray⟩:B_).size<=2*s.size+2:=by show C (cX _)<=_;have:=kh (ν (μ s));have h:C s.data.toList=s.size:=rfl;rw[cX,j6,j8,length_singleton];omega
theorem xh{i j}{a b B d}{id}(h:(aF.get [(i,a),(j,b)] id).isSome=N):(aF.get [(i,B),(j,d)] id).isSome=N:=by
 simp[aF.get]at h |-
 grind
theorem Sc(t:m9)(L:List B_)(F:t.key.size<2^40)(H:t.val.size<2^40)(E:C L<2^40):
  aW φ 309 [av (cA t),.ref 4 0 0 0] (wK L) (λr H'=>r=.tup []/\H'=wK (L++[jB t])):=by
 rw[aAD];have G:=rY t.val;have B:(⟨#[61]⟩:B_).size=1:=rfl;have D:(t.key++⟨#[61]⟩:B_).size=t.key.size+1:=F_
 refine Bd func309 Z ntmps309<|Sz (kb 2)<|aN a7<|Cr [4] (λ_ h=>lh aG h)<|Cr [2] (λ_ h=>fh qK h)<|Cr [2] (λ_ h=>lh N_ h)<|x_ (by exact fC Z Z Z X Z)<|Cr [2] (λ_ h=>fh rF h)<|Cr [2] (λ_ h=>lh N_ h)<|x_ (by exact bH Z Z call260 Z (wh t.val _ X))<|x_ (by exact fC Z Z Z X Z)<|x_ (by exact aM [[.str (jB t)]] Z aZ Z Z Z Z Z F_)<|Cp [903] (λd b=>by exact bW (ps:=[[.str (jB t)]]) Z aZ sZ Z ((b _ Z).trans Z) Z Z Z (cY L) Z F_ (m:=1) Z X Z (gB L (jB t))) ?_;refine Cp [4] (λ_ h=>sa sizeOf22 h)<|bG<|Kr ?_;exact pI (H':=[(903,⟨C L+1,1,9,bQ (L++[jB t])⟩),(4,bx 1 22 [.osl 903 (C L+1) 0 (C L+1)])]) (.inl Z) Z P_ ⟨Z,Z⟩
def YD(l:List m9):B_:=⟨(bZ [32] (bs (l.map jB))).toArray⟩
def kB(l:List m9):B_×Int:=if tU l then(if 20000<(YD l).size then(a6,2)else(YD l,0))else(a6,1)
theorem X0{t}(D:t.key.size<=24)(F:t.val.size<=200):(jB t).size<=427:=by have E:=rY t.val;have B:(⟨#[61]⟩:B_).size=1:=rfl;rw[jB,ByteArray.size_append,ByteArray.size_append];omega
theorem dR{s}(h:cK s=N):s.size<=24:=by rw[cK,l6,l6,j0]at h;omega
theorem pR{l}{n}(h:∀s,s∈l->s.size<=n):dA l<=n*C l:=by
 induction l with
 |nil=>exact k_ _
 |cons a l b =>
  rw[dA,map_cons,sum_cons,j6,mul_succ];have B:=h a mem_cons_self;have d:=b (λs c=>h s (mem_cons_of_mem _ c));rw[dA]at d;omega
theorem aDi{L}{K:aF}{r}(h:aW φ 204 [.pv (aL L),sv ⟨#[32]⟩] [] (λx H'=>x=sv r/\H'=[])):aW φ 204 [.osl 903 (C L) 0 (C L),sv ⟨#[32]⟩] ((903,⟨C L,1,9,bQ L⟩)::K) (λx H'=>x=sv r/\H'=(903,⟨C L,1,9,bQ L⟩)::K):=by
 exact RO.calls (RO.lend _ (RO.of h Z) (get_cons_same _ _ _) (dS L) Z
  (bJ (.osl (by rw[drop_zero,take_of_length_le H_])) (bJ (.same H_) kG)) (λ_ _ h=>by cases h) (λ_ _ h=>by cases h) Z)
theorem w8{p:Prop}(h:p:=by(simp;rfl)):p:=h
theorem WS(l:List m9)(H:aF)(z:NF l):RC 288 [.pv (qP l)] (.tup [sv (kB l).1,iv (kB l).2]) H:=by
 refine Pu ?_;have E:C (l.map cA)=C l:=g_ _;refine Bd func288 Z ntmps288<|O aJ<|V aJ<|S<|O aA<|Y (kc call305 (C1 l _ z))<|V iE<|Cn ?_ ?_<;>intro D
 .have i:tU l=η:=F_
  have e:kB l=(a6,1):=by rw[kB,a8 F_]
  rw[e];exact O aJ<|V aJ<|aC<|Ru<|Qq
 have i:tU l=N:=F_
 have ⟨u,J,P⟩:=yB.1 i;refine aB<|Sz (kl 4 Ye)<|O (iG Z Z)<|V aJ<|S<|S ?_;refine gO.ent (E':=[(0,.pv (qP l)),(4,.ref 4 0 0 0),(5,.clo 309 [.ref 4 0 0 0])]) (H':=wK []) (Q_ 903 1 9) ?_;refine Rd aA<|Y (fJ dY)<|V aA<|aD<|bC (σ:=Nat) (λk=>([(4,.ref 4 0 0 0),(5,.clo 309 [.ref 4 0 0 0]),(13,.pv (qP l)),(14,iv (C (l.map cA):Int)),(15,iv (k:Int))],wK ((l.take k).map jB))) (λk=>k<=C l) (λk=>C l - k) 0 (k_ _) ?_ ?_
 .exact L_
 intro k Q;refine Sz cF<|S<|Cn ?_ ?_<;>intro d
 .have j:k<C l:=I_ d
  have ⟨t,g⟩:=aR j;have w:=cC (f:=cA) g;have ⟨m,B,v⟩:=u t (m7 g);have I:=dR m;have q:C ((l.take k).map jB)<2^40:=G_
  have o:(l.take (k+1)).map jB=(l.take k).map jB++[jB t]:=by rw[take_add_one,g,map_append];rfl
  refine aB<|S<|aD<|O (bS Z lY Z Z X x7 w Z)<|Y (by exact eY Z xV mC Z w (by simp only[Zl,cA];rfl) Z)<|Y (kl 7 Yf)<|Uu (jH mC)<|Zz<|Rd aA<|Y (xD xV mC)<|V (by exact dH Z Z Z (dO.clo call309 (aW.frame (Sc t ((l.take k).map jB) X X q) (HI.sub ⟨Z,Z,T_⟩) (dI.ofL ⟨(aQ _ _),w8,T_⟩) m3 (λid h=>.inl (xh h)))))<|Rd iH<|V aA ?_;refine⟨k+1,X,X,?_⟩;show cH _ _ _ _ (wK ((l.take (k+1)).map jB));rw[o];exact L_
 have n:k=C l:=J_ d
 subst n;have F:dA (l.map jB)<=427*C l:=by
  have:=pR (l:=l.map jB) (n:=427) (λs G=>by
   obtain ⟨t,g,rfl⟩:=mem_map.1 G;have ⟨m,B,v⟩:=u t g;exact X0 (dR m) v)
  rwa [g_]at this
 have y:aW φ 204 [.pv (aL (l.map jB)),sv ⟨#[32]⟩] [] (λx H'=>x=sv (YD l)/\H'=[]):=xP (l.map jB) ⟨#[32]⟩ [] E_ (by rw[g_];show 1*_+_+_<_;omega);have p:=aDi (L:=l.map jB) (K:=[(4,bx 1 22 [.osl 903 (C (l.map jB)) 0 (C (l.map jB))])]) y;rw[take_length];refine aP<|O (bU aG)<|Y (kc sD (p))<|V aJ<|S<|O aA<|Y (gG U_)<|V iZ<|Cn ?_ ?_<;>intro f
 .have e:kB l=(a6,2):=by
   rw[kB,b6 i,b6 (I_ f)]
  rw[e];exact O aJ<|V aJ<|aC<|Ru<|Qq
 have e:kB l=(YD l,0):=by
  rw[kB,b6 i,a8 (J_ f)]
 rw[e];exact aB<|O aA<|Y aJ<|V aJ<|aC<|Ru<|Qq
theorem Do{t}(h:t.size<2^40):∀n,(O2 t n).size<2^40
 |0=>h
 |n+1=>by rw[MB,sC];decide
theorem yq(t)(n:Nat)(H)(e:t.size<2^40)(D:n<1000):RC 172 [sv t,iv n] (sv (O2 t n)) H:=by
 refine Pu<|Bd func172 Z ntmps172<|Sz aJ<|S<|O aA<|V aA<|aD<|bC (λk=>([(0,sv (O2 t k)),(5,iv n),(6,iv k)],[])) (λk=>k<=n) (λk=>n - k) 0 (k_ _) ?_ ?_
 .exact Wk
 intro k B;have b:=λH=>vg (O2 t k) H (by have:=Do e k;omega);rw[<-MB]at b;refine Sz cF<|S<|Cn ?_ ?_<;>intro c
 .have hlt:=I_ c
  refine aB<|S<|aD<|Rd aA<|Y (bH Z Z call106 Z (b _))<|V aJ<|Rd (by exact dB Z Z Z (show ξ.wrap _=((k+1:Nat):Int)by rw[lZ X X];omega))<|V aA ?_;exact⟨k+1,X,X,Wk⟩
 have d:k=n:=J_ c
 subst d;exact aP<|O aA<|V aJ<|aC<|Rt<|Qq
theorem wx(l)(H)(b:C (aO l)<35184372088832):RC 226 [.pv (aL l)] (sv (uI l)) H:=by refine Pu ?_;exact Bd func226 Z ntmps226<|Sz aJ<|O aA<|Y (bH Z Z call81 Z (bg l _ b))<|V aJ<|aC<|Rt<|Qq
theorem xl(a b c):C (aO [a,b,c])=(qQ a).size+(qQ b).size+(qQ c).size:=by simp[aO,pS];omega
theorem JD(n:Nat)(h:n<2^40):(aV n).size<=21:=oE X X
theorem pT{s}(h:s.size<2^40):(qQ s).size<=s.size+22:=by have:=JD _ h;rw[nY];omega
theorem vi(s:B_)(i k:Nat)(H:aF)(b:s.size<2^40)(hi:i<2^40)(c:k<2^40):RC 173 [sv s,iv (i:Int),iv (k:Int)] (sv (pP s i k)) H:=by
 refine Pu ?_;have F:=JD i hi;have G:=JD k c;have d:C (aO [s,aV (i:Int),aV (k:Int)])<35184372088832:=by
  have B:=pT b;have D:=pT (s:=aV (i:Int)) X;have E:=pT (s:=aV (k:Int)) X;rw[xl];omega
 exact Bd func173 Z ntmps173<|Sz aJ<|O aA<|Y aA<|Y (kc mD (qI (i:Int) X X _))<|Y aA<|Y (kc mD (qI (k:Int) X X _))<|Y (aM [[.str s],[.str (aV (i:Int))],[.str (aV (k:Int))]] Z aZ Z Z Z Z Z F_)<|Y (kc call226 (wx _ _ d))<|V aJ<|aC<|Rt<|Qq
theorem Vh(a b:B_)(d:Bool)(H:aF)(g:a.size<2^40)(f:b.size<2^40):RC 229 [sv a,sv b,bv d] (sv (if d=N then iq b a else iq a b)) H:=by
 refine Pu ?_;have h:∀x y:B_,x.size<2^40->y.size<2^40->C (aO [OR,x,y])<35184372088832:=by
  intro x y i j;have B:=pT (s:=OR) E_;have D:=pT i;have E:=pT j;have F:OR.size=4:=rfl;rw[xl];omega
 refine Bd func229 Z ntmps229<|Sz aJ<|S<|Sz aA<|Cn ?_ ?_<;>intro e
 .subst e;exact Rd aA<|Y aA<|Y aJ<|V aJ<|O aA<|Y aA<|Y (aM [[.str OR],[.str b],[.str a]] Z aZ Z Z Z Z Z F_)<|Y (kc call226 (wx [OR,b,a] _ (h b a f g)))<|V aJ<|aC<|Rt<|Qq
 subst e;exact aB<|O aA<|Y aA<|Y (aM [[.str OR],[.str a],[.str b]] Z aZ Z Z Z Z Z F_)<|Y (kc call226 (wx [OR,a,b] _ (h a b g f)))<|V aJ<|aC<|Rt<|Qq
def YM(s:B_)(i k:Nat):List B_:=(List.range k).map λk=>O2 (pP s i k) 15
theorem si(s)(i k):YM s i (k+1)=YM s i k++[O2 (pP s i k) 15]:=by rw[YM,range_succ,map_append];rfl
theorem YL(s)(i k):C (YM s i k)=k:=by simp[YM]
theorem E5(s)(i k):(pP s i k).size=16:=sC _
theorem LN{b}(a:b<2^40):∀(l),(∀s∈l,s.size<=b)->C (aO l)<=(b+22)*C l
 | [],_=>h_ _
 |s::r,h=>by
  have E:=LN a r (λx c=>h x (mem_cons_of_mem _ c));have D:=h s mem_cons_self;have e:aO (s::r)=(qQ s).data.toList++aO r:=rfl;have B:=pT (s:=s) X;rw[e,j8,j6,pS,Nat.mul_add];omega
theorem Dn(t)(H)(a:t.size<2^40):RC 172 [sv t,iv 15] (sv (O2 t 15)) H:=yq t _ H a H_
theorem aBV(s:B_)(i:Nat)(H:aF)(g:s.size<2^40)(hi:i<2^40):RC 227 [sv s,iv (i:Int)] (sv (ra s i)) H:=by
 refine Pu<|Bd func227 Z ntmps227<|Sz aJ<|Sz (cZ (id:=905) (sz:=1) (ty:=9) Z Z Z)<|S<|Sz aA<|aD<|bC (σ:=Nat) (λk=>([(0,sv s),(1,iv (i:Int)),(5,.osl 905 k 0 k),(7,iv (k:Int))],[(905,⟨k,1,9,bQ (YM s i k)⟩)])) (λk=>k<=18) (λk=>18 - k) 0 (k_ _) ?_ ?_
 .exact L_
 intro k B;have d:=YL s i k;have e:=si s i k;refine Sz cF<|S<|Cn ?_ ?_<;>intro b
 .have hlt:k<18:=I_ b
  refine aB<|S<|aD<|O aA<|V aJ<|Rd aA<|Y aA<|Y aA<|Y aA<|Y (kc call173 (vi s i k _ g hi X))<|Y (kc call172 (Dn (pP s i k) _ (by rw[E5];decide)))<|Y (by exact aM [[.str (O2 (pP s i k) 15)]] Z aZ Z Z Z Z Z F_)<|Y (by exact bW (ps:=[[.str (O2 (pP s i k) 15)]]) Z aZ sZ Z Z Z Z Z (by rw[cY,d]) Z F_ (m:=1) Z X Z (gB _ (O2 (pP s i k) 15)))<|V aJ<|Rd kp<|V aA ?_;refine⟨k+1,X,X,?_⟩;dsimp only;rw[e];exact(cH.wk (Eb<|Eb<|Ea<|Eb<|T_) (Hc (aQ _ _)<|T_) T_)
 have c:k=18:=J_ b
 subst c;refine aP<|S ?_;refine gO.ent (cH.fz (id:=905) (E':=[(5,.pv (aL (YN s i)))]) (H':=[]) ((YN s i).map S_) Z (dS _)
  (by intro p f;simp only[l9,q8,or_false]at f;subst f;exact⟨_,Z,.osl x7⟩) Z T_ T_) ?_
 exact Rd aA<|Y (by exact bH Z Z call226 Z (wx (YN s i) _ (by have h:=LN (b:=16) E_ (YN s i) (λx j=>by obtain ⟨k,_,rfl⟩:=mem_map.1 j;exact Nat.le_of_eq (Oi (E5 s i k) 15));rw[show C (YN s i)=18 from YL s i 18]at h;omega)))<|V aJ<|aC<|Rt<|Qq
end Go.Proofs.C
namespace Go.Abs
variable{P:Program}{id p p2 m4:Nat}
theorem Ro{x:Go.Loop}{k s:Code}{g:dD}{a W:AV}{K:aF}{Q:AV->aF->Prop}(E2:dD)(K2:aF)(f_:x.state=.ready)(z_:x.pending=ζ)(hp:x.params=#[p,p2])(hN:x.tmps.size=m4)(hxa:x.assign=k)(hxb:x.body=s)(d:Nat.blt p m4=N)(E:Nat.blt p2 m4=N)(δ:Nat.beq p p2=η)
  (κ:AG k=N) (R:AG s=N)
  (h1:gO P ((id,LR x g)::K) m4 k (zP (λE1 H1=>cH ((id,LR x g)::K) E1 H1 E2 ((id,LR x g)::K2)) (λ_ _ _=>False)) ((p2,W)::(p,a)::g) ((id,LR x g)::K))
  (h2:gO P ((id,LR x g)::K) m4 s (Qh ((id,LR x g)::K) id x g Q) E2 ((id,LR (busy x) g)::K2)):JV P id 0 [a,W] ((id,LR x g)::K) Q:=by
 subst hxa hxb;have d:p<m4:=F_
 have E:p2<m4:=F_
 have δ:p≠p2:=λe=>by simp_all
 intro I A_ w vs v hr hv hl n;have ⟨b,e1,J,e3,e4,e5⟩:=Jf hr (iF _ _ _) hv;obtain ⟨u,z,rfl⟩:∃u z,vs=#[u,z]:=by
  match vs,hl with
  |⟨[u,z]⟩,_=>exact⟨u,z,Z⟩
 have hu:=n 0 u a Z Z;have hu2:=n 1 z W Z Z;refine⟨b,x.fn,_,x.assign,x.body,J,run_yield e3 F_,?_⟩;refine roundIn_of_wpIn (F:=Fence.wide) T_ ?_;have hG:(⟨I,A_,(id,LR x g)::K,w,[]⟩:Entry).H=(id,LR x g)::K:=rfl;have hst:St ⟨I,A_,(id,LR x g)::K,w,[]⟩ m4 ((p2,W)::(p,a)::g) ((id,LR x g)::K) {tmps:=(x.params.zip #[u,z]).foldl (λo (t,a)=>o.setIfInBounds t a) x.tmps,defers:=[]} w:=by
  have ht:(x.params.zip #[u,z]).foldl (λo (t,a)=>o.setIfInBounds t a) x.tmps=(x.tmps.setIfInBounds p u).setIfInBounds p2 z:=by rw[hp];simp
  rw[ht];refine⟨uQ.nil _ _ _,by simp[hN],I,A_,hr,Step.refl _ _ _ _,λt y m=>?_⟩;by_cases J:p2=t
  .subst J;rw[dD.get_cons_same]at m;cases m;exact⟨z,by simp[hN,E],hu2⟩
  rw[dD.get_cons_other _ _ J]at m;by_cases e:p=t
  .subst e;rw[dD.get_cons_same]at m;cases m;exact⟨u,by show ((x.tmps.setIfInBounds p u).setIfInBounds p2 z)[p]?=A u;rw[Array.getElem?_setIfInBounds_ne J];simp[hN,d],hu⟩
  rw[dD.get_cons_other _ _ e]at m;have ⟨i,hi⟩:=s8.1 (iV m);have ⟨c,c1,c2⟩:=e5 i t y (by rw[r7,hi];rfl) (by rw[r7,hi];rfl);exact⟨c,by show ((x.tmps.setIfInBounds p u).setIfInBounds p2 z)[t]?=A c;rw[Array.getElem?_setIfInBounds_ne J,Array.getElem?_setIfInBounds_ne e];exact c1,c2⟩
 refine wpIn_mono (h1 _ hG _ w hst (A b) (.inr κ)) ?_;rintro e a1 w1 ⟨E1,H1,q,hs1⟩;cases e with
 | normal =>
  have L:=q _ hG m4 a1 w1 hs1;have ⟨I1,ι1,B,G,ρ⟩:=L.rel;have c_:=uT G (iF _ _ _) e1 (iF _ _ _);have τ:=vV B (iF _ _ _) c_;have ⟨k1,k2⟩:=B.setRec (y:=busy x) (H':=(id,LR (busy x) g)::K2) (iF _ _ _) c_ Z (iF _ _ _) (λj hj=>CF _ _ _ hj);refine⟨_,run_beginRound τ f_,?_⟩;have γ:St ⟨I,A_,(id,LR x g)::K,w,[]⟩ m4 E2 ((id,LR (busy x) g)::K2) a1 (w1.putObj b (.loop (busy x))) :=
   ⟨L.defers.step B k2,L.size,I1,ι1,k1,G.trans k2,λt y m=>let ⟨c,c1,c2⟩:=ρ t y m;⟨c,c1,c2.mono B k2⟩⟩
  refine wpIn_mono (h2 _ hG a1 _ γ (A b) (.inr R)) ?_;rintro e W w3 ⟨E3,H3,u_,hs4⟩;have o_:∀(h:Option Code) (y:Go.Loop) (H:aF),y={busy x with state:=if h.isNone then .ready else .done,pending:=h}->cH ((id,LR x g)::K) E3 H3 [] ((id,LR (busy x) g)::H)->Q (.pv (.bool h.isNone)) ((id,LR y g)::H) ->
    ∃v w',(Instr.endRound b h).run P w3=.ok v w'/\∃r H' I' e_ v',Ending.returned v=.returned v'/\Q r H'/\VRel w' I' e_ H' v' r/\Rel I' e_ H' w'/\Step I A_ ((id,LR x g)::K) w I' e_ H' w':=by
   intro h y H m f J0;have β:=f _ hG m4 W w3 hs4;have ⟨I5,ι5,y_,F,_⟩:=β.rel;have D:=uT F (iF _ _ _) e1 (iF _ _ _);have σ:=vV y_ (iF _ _ _) D;have ⟨z1,z2⟩:=y_.setRec (y:=y) (H':=(id,LR y g)::H) (iF _ _ _) D (by rw[m]) (iF _ _ _) (λj hj=>CF _ _ _ hj);refine⟨_,_,run_endRound h σ,_,_,I5,ι5,_,Z,J0,.pv (.bool _),?_,?_⟩
   .rw[<-m];exact z1
   rw[<-m];exact F.trans z2
  cases e with
  |normal =>
   obtain ⟨H,f,J0⟩:=u_;refine o_ ζ x H ?_ f J0;obtain ⟨st,pe,fn,tm,pa,ax,bo,de⟩:=x;simp only at f_ z_;subst f_ z_;rfl
  |ret =>
   have ⟨H,f,J0⟩:=u_;exact o_ (A .ret) (left x .ret) H Z f J0
  |exit j =>
   have ⟨H,f,J0⟩:=u_;exact o_ (A (.exit j)) (left x (.exit j)) H Z f J0
  |goto l=>exact u_.elim
  |panic ch=>exact u_.elim
  |outgrown=>exact u_.elim
 |exit j=>exact q.elim
 |goto l=>exact q.elim
 |ret=>exact q.elim
 |panic ch=>exact q.elim
 |outgrown=>exact q.elim
theorem tk{G0:aF}{f:Nat}{e_:List AV}{g:Operand}{ps:Array Tmp}{assign body:Code}{Q:Exit->dD->aF->Prop}{E:dD}{H:aF}(n:dD)(hg:aS E g=A (.clo f e_))(hc:∀(args:Array Value) (w:World),(callFunc f args).run P w=.ok (.enter f args) w)
  (hps:ps=#[p,p2]) (hid:H.get id=ζ) (hE0:∀q∈n,E.get q.1=A q.2)
  (h:∀x:Go.Loop,x.state=.ready->x.pending=ζ->x.params=#[p,p2]->x.tmps.size=m4->x.assign=assign->x.body=body ->
   aW P f (.yld id 0::e_) ((id,LR x n)::H) (λr H'=>∃(y:Go.Loop) (K:aF),y.tmps=x.tmps/\y.state≠.busy/\H'=(id,LR y n)::K/\∀z:Go.Loop,Ql Q E ((id,LR z n)::K) y.pending)) :
  gO P G0 m4 (.rangeFunc g ps assign body) Q E H:=by
 intro G hG a w hs ro hro;obtain rfl:ro=ζ:=hro.resolve_right (λh=>by cases h);have ⟨I,ι,hr,δ,he⟩:=hs.rel;refine wpIn_rangeFunc (F:=RF ζ) ?_;intro fn _;have ρ:=aK he hg;generalize hfc:a.eval g=fc at ρ;cases ρ with
 | @clo _ us _ hl hh =>
  have ⟨x,R⟩:∃x:Go.Loop,x={state:=.ready,pending:=ζ,fn,tmps:=a.tmps,params:=ps,assign,body,defers:=w.heap.size}:=X_;have ⟨a1,a2⟩:=hr.push (.deferred (A []));have ⟨A_,v_⟩:∃A_,A_=w.alloc (.deferred (A [])):=X_;rw[<-v_]at a1 a2;have L:A_.heap.size=w.heap.size+1:=F_
  have σ:A_.heap[w.heap.size]?=A (.deferred (A [])):=by rw[v_];exact World.alloc_heap_new w _
  have m:aF.get ((id,LR x n)::H) id=A (LR x n):=iF _ _ _;have ⟨b1,b2⟩:=a1.placeX (id:=id) (cap:=2) (x:=.loop x) (w':=A_.alloc (.loop x)) (H':=(id,LR x n)::H) (ob':=LR x n) Z Z Z Z (λo ho=>by simp_all)
   (λhnew hI k=>.inr (.inr (.inr (.inl ⟨Z,_,x,H_,hnew,hI,λy ts r hy=>by
    simp only[LR,List.cons.injEq,AV.raw.injEq,and_true]at hy;obtain ⟨⟨rfl,rfl⟩,rfl⟩:=hy;refine⟨Z,λi t v ht u=>?_⟩;rw[r7]at ht u;obtain ⟨q,hq,rfl⟩:=Option.map_eq_some_iff.1 ht;rw[hq]at u;cases u;have ⟨c,c1,c2⟩:=he q.1 q.2 (hE0 q (m7 hq));exact⟨c,by rw[R];exact c1,k _ _ (c2.mono hr a2)⟩⟩))))
   m (λj hj=>by simp[aF.get,kH (Ne.symm hj)])
  have ⟨J0,γ⟩:∃J0,J0=A_.alloc (.loop x):=X_;rw[<-γ]at b1 b2;have ⟨B,u_⟩:∃B:mG,B=λj=>if j=id then A (A_.heap.size,2)else ι j:=X_
  rw[<-u_]at b1 b2;have d:B id=A (w.heap.size+1,2):=by rw[u_,L];simp
  have hL1:=vV b1 m d;have W:J0.heap[w.heap.size]?=A (.deferred (A [])):=by
   rw[b2.keep _ (by rw[L];omega) (B4 a1 σ)];exact σ
  have z_:=h x (by rw[R]) (by rw[R]) (by rw[R,hps]) (by rw[R];exact hs.size) (by rw[R]) (by rw[R]) I B J0 (#[.func (.yield (w.heap.size+1)) #[] #[]]++us) b1 (by simp[hl];omega) (λi v c u F=>by
   cases i with
   |zero =>
    rw[Array.getElem?_append_left H_]at u;simp at u F;subst u F;exact .yld (LR x n) m (h_ _) Z (λ_=>⟨Z,_,d,Z⟩)
   |succ i =>
    rw[Array.getElem?_append_right H_]at u;simp only[getElem?_cons_succ]at F;have:=hh i v c (by simpa using u) F;exact(this.mono hr a2).mono a1 b2)
  refine⟨w.heap.size+1,[mark w.heap.size],J0,{target:=.fn (.func f) us,args:=#[.func (.yield (w.heap.size+1)) #[] #[]]},J0,f,#[.func (.yield (w.heap.size+1)) #[] #[]]++us,J0,?_,?_,λ_ _=>trivial,?_,(λq=>by cases q),?_⟩
  .rw[γ,v_,R];exact run_enterLoop_outer _ _ _ _ _
  .simp only[resolve,hfc];simp[go_sem]
  .simp[invoke,go_sem,hc]
  refine((callsIn_wide (n:=0)).2 z_).mono ?_;rintro e w3 ⟨r,H',I3,ι3,v3,rfl,⟨y,K,hy1,hy2,rfl,hq⟩,_,hr3,i_⟩;have o_:=uT (G:=⟨I,B,(id,LR x n)::H,J0,[]⟩) i_ m d (iF _ _ _);have hb3:=vV hr3 (iF _ _ _) o_;have ⟨z,hz⟩:∃z:Go.Loop,z={y with state:=.exhausted}:=X_;have ⟨z1,z2⟩:=hr3.setRec (y:=z) (H':=(id,LR z n)::K) (iF _ _ _) o_ (by rw[hz]) (iF _ _ _) (λj hj=>CF _ _ _ hj);have ⟨o,β⟩:∃o,o=w3.putObj (w.heap.size+1) (.loop z):=X_;rw[<-β]at z1 z2;refine⟨y.pending,o,by rw[β,hz];exact run_endLoop hb3 hy2,?_⟩;have s:Step I ι H w I3 ι3 ((id,LR z n)::K) o:=((a2.trans b2).trans i_).trans z2;have hD4:o.heap[w.heap.size]?=A (.deferred (A [])):=by
   rw[(i_.trans z2).keep _ (Array.getElem?_eq_some_iff.1 W).1 (B4 b1 W)];exact W
  have y_ : St G m4 E ((id, LR z n) :: K) { a with defers := [mark w.heap.size] ++ a.defers } o := by
   refine⟨?_,hs.size,I3,ι3,z1,δ.trans s,λt v u=>let ⟨c,c1,c2⟩:=he t v u;⟨c,c1,c2.mono hr s⟩⟩;have ⟨Ds,d1,d2,d3⟩:=hs.defers.step hr s;refine⟨w.heap.size::Ds,by rw[d1];rfl,nodup_cons.2 ⟨λhmem=>?_,d2⟩,λD hD=>?_⟩
   .have hold:∀D∈Ds,D<w.heap.size:=by
     have ⟨τ,d1',_,d3'⟩:=hs.defers;have he:τ=Ds:=by
      have h0:τ.map mark=Ds.map mark:=append_cancel_right (d1'.symm.trans d1);have κ:∀(l J:List Nat),l.map mark=J.map mark->l=J:=by
       intro l
       induction l with
       |nil=>intro J h;cases J with
        |nil=>rfl
        |cons _ _=>cases h
       | cons D l ih=>intro J h;cases J with
        |nil=>cases h
        |cons D' J =>
         simp only[map_cons,List.cons.injEq,mark,Deferred.mk.injEq,Target.collected.injEq,and_true]at h;rw[h.1,ih J h.2]
      exact κ _ _ h0
     subst he;exact λD hD=>(Array.getElem?_eq_some_iff.1 (d3' D hD).2).1
    exact Nat.lt_irrefl _ (hold _ hmem)
   rcases l9.1 hD with rfl|hD
   .exact⟨δ.size,hD4⟩
   exact d3 D hD
  have b:=hq z;generalize y.pending=pend at b |-
  match pend,b with
  |none,b=>exact⟨E,_,b,y_⟩
  |some .ret,b=>exact wpIn_ret ⟨E,_,b,y_⟩
  |some (.exit j),b=>exact wpIn_exit ⟨E,_,b,y_⟩
end Go.Abs
namespace Go.Proofs.C
open Go.Proofs.Tryz
open Go.Abs
theorem jL(l:List _):∀r∈l.map S_,C r=1:=λr a=>by
 obtain ⟨t,_,rfl⟩:=mem_map.1 a;rfl
def cSZ(l:List B_):Ob:=bx 1 22 [.pv (aL l)]
def cNZ:Ob:=bx 1 3 [iv 2]
theorem Oh(l)(H)(d:H.get 931=ζ)(e:H.get 932=ζ):
  aW φ 228 [.pv (aL l),iv 2] H (λr H'=>r=.clo 266 [.ref 931 0 0 0,.ref 932 0 0 0]/\H'=(932,cNZ)::(931,cSZ l)::H):=by
 have b:=e;refine Bd func228 Z ntmps228<|O (tP Z Z Z Z d)<|Y (tP (id:=932) Z Z Z Z b)<|V aJ<|S<|O (bU M_)<|V cF<|Cn ?_ ?_<;>intro c
 .cases c
 refine aB<|O (iG Z Z)<|V aJ<|aC<|cN (.inr Z) Z (aI Z) Fin.refl ?_;exact Qq
def FB(l:List B_)(k:Nat):List B_:=(l.drop (2*k)).take 2
theorem Bm(l)(k):((l.map S_).drop (2*k)).take 2=(FB l k).map S_:=by rw[FB,map_take,map_drop]
theorem aE0{n:Nat}(h:2<=n):min (2:Int) n=2:=Int.min_eq_left X
theorem Dl(l:List B_)(h:AV)(c:Nat->aF)(m:Nat)(G:C l=2*m)(H:m<2^40)(i:∀k,(c k).get 931=A (cSZ l))(o:∀k,(c k).get 932=A cNZ)
  (p:∀k,k<m->dO φ h [.pv (aL (FB l k))] (c k) (λr H'=>r=bv N/\H'=c (k+1))) :
  aW φ 266 [h,.ref 931 0 0 0,.ref 932 0 0 0] (c 0) (λr H'=>r=.tup []/\H'=c m):=by
 have F:C (l.map S_)=C l:=g_ _;refine Bd func266 Z ntmps266<|Sz aJ<|aD<|bC (σ:=Nat) (λk=>([(0,h),(1,.ref 931 0 0 0),(2,.ref 932 0 0 0),(4,iv ((2*k:Nat):Int))],c k)) (λk=>k<=m) (λk=>m - k) 0 (k_ _) ?_ ?_
 .exact E0
 rintro k E;refine S<|O aA<|Y (aY Z aG Z (i k) Z Z Z)<|Y (fJ aE)<|V cF<|Cn ?_ ?_<;>intro e
 .have hlt:2*k<C l:=I_ e
  have d:k<m:=X
  have j:=p k d;have B:C ((l.map S_).drop (2*k))=C l - 2*k:=F_
  refine aB<|S<|aD<|S<|aN a7<|Cq (aY Z M_ Z (o k) Z Z Z)<|Cq (aY Z aG Z (i k) Z Z Z)<|Cq aA<|Cq (eG (l:=2*k) (h:=C (l.map S_)) (rows':=(l.map S_).drop (2*k)) Z aZ Z (jL l) Z Z X (h_ _) G_)<|Cq (fJ aE)<|Cq (DG (r:=2) Z Z Z X)<|Cq aJ<|bG<|Kr<|O aA<|Y (aY Z aG Z (i k) Z Z Z)<|Y aA<|Y aA<|Y aA<|Y (by exact dB Z Z Z (show ξ.wrap (((2*k:Nat):Int)+2)=((2*k+2:Nat):Int)by rw[IntKind.wrap_i64];omega))<|Y aA<|Y aA<|Y (by exact dB Z Z Z (show ξ.wrap (((2*k:Nat):Int)+2)=((2*k+2:Nat):Int)by rw[IntKind.wrap_i64];omega)) ?_;refine Y (by exact Gl (l:=2*k) (h:=2*k+2) (rows':=(FB l k).map S_) Z aZ Z (jL l) Z Z Z X X G_ (by rw[<-Bm,drop_take];simp_all))<|Y (dH Z Z Z (j))<|V iE ?_;refine Cn ?_ ?_<;>intro g
  .cases g
  refine aB<|Rd aA<|Y (aY Z M_ Z (o (k+1)) Z Z Z)<|Y (by exact dB Z Z Z (show ξ.wrap (((2*k:Nat):Int)+2)=((2*(k+1):Nat):Int)by rw[IntKind.wrap_i64];omega))<|Da ?_;exact⟨k+1,d,X,E0⟩
 have D:C l<=2*k:=J_ e
 have n:k=m:=X
 refine aP ?_;rw[<-n];exact pI (H':=c k) (.inl Z) Z Fin.refl ⟨Z,Z⟩
theorem pk{W}{j}(h:2*j+2<=C W):((FB W j).map S_)[0]?=A (S_ (W.getD (2*j) a6))/\((FB W j).map S_)[1]?=A (S_ (W.getD (2*j+1) a6)):=by
 have B:(FB W j)[0]?=A (W.getD (2*j) a6):=by
  rw[FB,getElem?_take_of_lt H_,getElem?_drop,Nat.add_zero,getD_eq_getElem?_getD,p_ X];rfl
 have D:(FB W j)[1]?=A (W.getD (2*j+1) a6):=by
  rw[FB,getElem?_take_of_lt H_,getElem?_drop,getD_eq_getElem?_getD,p_ X];rfl
 exact⟨F_,F_⟩
def upA(l:List B_)(j:Nat):B_:=iq (l.getD (2*j) a6) (l.getD (2*j+1) a6)
def uy(l:List B_)(k:Nat):List B_:=(List.range k).map (upA l)
theorem Gw(l)(k):uy l (k+1)=uy l k++[upA l k]:=by rw[uy,range_succ,map_append];rfl
theorem ux(l)(k):C (uy l k)=k:=by simp[uy]
theorem Rz{l}{m}(h:C l=2*m):uy l m=va l:=by
 apply ext_getElem?;intro k;have B:=PU m l h;by_cases a:k<m
 .have:=uz m l k h a;rw[getD_eq_getElem?_getD,p_ _]at this;rw[uy,r7,getElem?_range a,p_ X];exact congrArg _ this.symm
 rw[getElem?_eq_none (by rw[ux];omega),getElem?_eq_none X]
def upK(l L:List B_):aF:=[(905,⟨C L,1,9,bQ L⟩),(3,bx 1 22 [.osl 905 (C L) 0 (C L)]),(932,cNZ),(931,cSZ l)]
theorem Sa(l L)(s):upK l (L++[s])=[(905,⟨C L+1,1,9,bQ (L++[s])⟩),(3,bx 1 22 [.osl 905 (C L+1) 0 (C L+1)]),(932,cNZ),(931,cSZ l)]:=by simp[upK]
def upE:dD:=[(3,.ref 3 0 0 0)]
theorem cm(H)(l):∀r∈(cSZ l).rows,∀a∈r,Clo H a:=by intro r c a b;simp[cSZ,bx,q_]at c;subst c;rw[q_]at b;subst b;simp
instance(H)(l):W_ (H) ((cSZ l).rows):=⟨cm H l⟩
theorem cn(H):∀r∈cNZ.rows,∀a∈r,Clo H a:=by intro r c a b;simp[cNZ,bx,q_]at c;subst c;rw[q_]at b;subst b;simp
instance(H):W_ (H) (cNZ.rows):=⟨cn H⟩
theorem Xz(l:List B_)(m:Nat)(H:aF)(w:C l=2*m)(E:m<2^40)(J:∀s∈l,s.size=16):RC 175 [.pv (aL l)] (.pv (aL (va l))) H:=by
 refine Pu<|Bd func175 Z ntmps175<|Sz aJ<|Sz (kl 3 Ye)<|S<|O aA<|V (kc call228 (Oh l _ Z Z))<|aD ?_;refine gO.ent (E':=[(3,.ref 3 0 0 0),(6,.clo 266 [.ref 931 0 0 0,.ref 932 0 0 0])]) (H':=upK l []) ?_ ?_
 .exact (Q_ 905 1 9)
 refine CN (id:=904) (p:=7) upE Z call266 Z Z (by simp[upE];rfl) ?_;intro x o g v u q t;refine(Dl l (.yld 904 0) (λk=>(904,LR x upE)::upK l (uy l k)) m w E (λk=>rfl) (λk=>rfl) ?_).mono ?_
 .intro k hk;have B:∀j,j<C l->(l.getD j a6).size<2^40:=λj I=>by simp_all
  have i:=λH=>Vh (l.getD (2*k) a6) (l.getD (2*k+1) a6) η H (B _ X) (B _ X);simp only[Bool.false_eq_true,if_false]at i;have ⟨y,D⟩:=pk (W:=l) (j:=k) X;have F:=ux l k;refine .inl ⟨904,0,Z,?_⟩;refine MV [(3,.ref 3 0 0 0),(4,.pv (aL (FB l k)))] (upK l (uy l k)) o g v u q t Z Z Z ?_ ?_
  .refine Rg<|Da ?_;exact(cH.wk (Ea<|Eb<|T_) (Hc (oM (by intro p d;simp only[upE,l9,q8,or_false]at d;subst d;simp only[D3];rfl))<|Hc (aQ _ _)<|Ha<|Hc (cn _)<|Hc (cm _ _)<|T_) ⟨Z,Z,Z,Z,Z,T_⟩)
  rw[Gw,Sa];refine aD<|aN a7<|Cr [3] (λ_ h=>lh aG h)<|x_ aA<|x_ (by exact bS Z aZ Z Z X x7 y Z)<|x_ ((fK N_ (hi:=y)))<|x_ aA<|x_ (by exact bS Z aZ Z Z X x7 D Z)<|x_ ((fK N_ (hi:=D)))<|x_ (by exact bH Z Z call229 Z (i _))<|x_ (by exact aM [[.str (upA l k)]] Z aZ Z Z Z Z Z F_)<|Cp [905] (λn e=>by exact bW (ps:=[[.str (upA l k)]]) Z aZ sZ Z ((e _ Z).trans Z) Z Z Z (cY _) Z F_ (m:=1) Z X Z (gB (uy l k) (upA l k))) ?_;refine Cp [3] (λ_ h=>sa sizeOf22 h)<|bG<|Kr ?_;exact⟨[(905,⟨C (uy l k)+1,1,9,bQ (uy l k++[upA l k])⟩),(3,bx 1 22 [.osl 905 (C (uy l k)+1) 0 (C (uy l k)+1)]),(932,cNZ),(931,cSZ l)],(cH.wk T_ (Hc (oM (by intro p d;simp only[upE,l9,q8,or_false]at d;subst d;simp only[D3];rfl))<|Hc (aQ _ _)<|Ha<|Hc (cn _)<|Hc (cm _ _)<|T_) ⟨Z,Z,Z,Z,Z,T_⟩),Z,Z⟩
 rintro r H' ⟨rfl,rfl⟩;refine⟨x,_,Z,F_,Z,λz=>?_⟩;rw[g,Rz w];have ⟨c,f⟩:∃c,c=va l:=X_;rw[<-f];have G:C (c.map S_)=C c:=g_ _;refine gO.ent (cH.fzG (id:=905) (E':=[(3,.ref 3 0 0 0)]) (H':=[(3,bx 1 22 [.pv (aL c)])]) (c.map S_) Z (dS _) ?_ Z ?_ ?_) ?_
 .intro p d;simp only[l9,q8,or_false]at d;rcases d with rfl;exact⟨_,Z,.same m3⟩
 .refine⟨⟨_,Z,Z,Z,Z,mO Z (bJ (.osl ?_) kG)⟩,T_⟩
  grind
 .exact T_
 exact O (bU aG)<|V aJ<|aC<|Rt<|Qq
def bl(s:B_)(n k:Nat):List B_:=(List.range n).map λj=>if j<k then ra s j else a6
theorem QP(s)(n k):C (bl s n k)=n:=by simp[bl]
theorem bk(s){n k j}(h:j<n):(bl s n k)[j]?=A (if j<k then ra s j else a6):=by rw[bl,r7,getElem?_range h];rfl
theorem Wd(s){n k}(h:k<n):(bl s n k).set k (ra s k)=bl s n (k+1):=by
 apply ext_getElem?;intro j;by_cases a:j<n
 .rw[bk s a];by_cases e:k=j
  .subst e;rw[getElem?_set_self (by rw[QP];exact h),b6 (lt_succ_self _)]
  rw[getElem?_set_ne e,bk s a]
  grind
 rw[getElem?_eq_none (by rw[length_set,QP];omega),getElem?_eq_none (by rw[QP];omega)]
theorem Mi(s)(n):bl s n 0=List.replicate n a6:=by rw[bl];simp[not_lt_zero,if_false];rw[map_const',length_range]
theorem We(s)(h):bl s (2 ^ h) (2 ^ h)=yR s h:=by
 rw[bl,yR]
 simp_all
theorem zk(n):bQ (List.replicate n a6)=List.replicate n [sv a6]:=by rw[bQ,map_replicate]
theorem zj(l)(k)(x):(bQ l).set k [sv x]=bQ (l.set k x):=by rw[bQ,bQ,map_set]
theorem GS{h}(a:h<=8):2 ^ h<=256:=Nat.pow_le_pow_right H_ a
theorem aAV{h:Nat}(a:h<=8):ξ.wrap (1*2 ^ ((h:Int)).toNat)=((2 ^ h:Nat)):=by have:=GS a;rw[l_,Int.one_mul,show 2 ^ h=((2 ^ h:Nat):Int)by rfl];generalize 2 ^ h=n at this |-;rw[lZ X X]
theorem Wf(s:B_)(h:Nat)(H:aF)(l:s.size<2^40)(i:h<=8):RC 174 [sv s,iv (h:Int)] (.pv (aL (yR s h))) H:=by
 refine Pu ?_;have j:=GS i;have g:=zk (2 ^ h);rw[<-Mi s]at g;rw[<-We];have e:=aAV i;generalize 2 ^ h=n at j g e |-;refine Bd func174 Z ntmps174<|Sz aJ<|O aA<|Y (by exact QG Z Z Z X (by simp[IntKind.bits];omega) e)<|Y (by exact EX (id:=905) Z aZ sZ Rl Z Z Z X X (l_ _) (l_ _) X Z)<|V aJ<|S<|O aA<|Y (by exact dQ Z aE Z Z Z)<|V aA<|aD ?_;refine bC (σ:=Nat) (λk=>([(0,sv s),(5,.osl 905 0 0 n),(11,iv (n:Int)),(12,iv (k:Int))],[(905,⟨0,1,9,bQ (bl s n k)⟩)])) (λk=>k<=n) (λk=>n - k) 0 (k_ _) ?_ ?_
 .rw[g];exact Wk
 intro k G;have E:=QP s n k;refine Sz cF<|S<|Cn ?_ ?_<;>intro c
 .have d:k<n:=I_ c
  have B:(bQ (bl s n k))[k]?=A [sv a6]:=by
   rw[bQ,r7,bk s d,a8 (Nat.lt_irrefl _)];rfl
  have D:(bQ (bl s n k)).set k [sv (ra s k)]=bQ (bl s n (k+1)):=by rw[zj,Wd s d]
  refine aB<|S<|aD<|O aA<|V aJ<|Rd aA<|Y aA<|Y aA<|Y aA<|Y (kc call227 (aBV s k _ l X))<|Y (by exact dK Z aZ Z Z Z Z Z X (by exact l_ _) X Z)<|Uu (by exact cT (r:=[sv a6]) (r':=[sv (ra s k)]) (rows':=bQ (bl s n (k+1))) Z V_ Z Z Z Z Z F_ H_ Z F_)<|Zz<|Rd kp<|V aA ?_;exact⟨k+1,X,X,(cH.wk (Eb<|Ea<|Eb<|Eb<|T_) (Hc (aQ _ _)<|T_) T_)⟩
 have f:k=n:=J_ c
 subst f;have F:((bl s k k).map S_).take k=(bl s k k).map S_:=take_of_length_le F_;refine aP<|O aA<|V aJ<|aC ?_;refine cN (H':=[]) (.inr Z) Z (aI Z) (Fin.fz (r':=.pv (aL (bl s k k))) (id:=905) ((bl s k k).map S_) Z (dS _) (.osl F_) Z T_ T_) ?_;exact Qq
end Go.Proofs.C
