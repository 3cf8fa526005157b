/-
  Parts of the proof. Conditions: each theorem's own.
-/
import Derived.Test.YtopnleflllkbmaaGreatDoorKX6sM2
set_option linter.unusedVariables false
set_option linter.unusedSimpArgs false
set_option maxRecDepth 100000
set_option maxHeartbeats 8000000
open List Nat
open List renaming length->C
open Option renaming some->A,none->ζ
open Bool renaming true->T,false->η
open ByteArray renaming data->μ
open Array renaming toList->ν
open Decidable renaming decide->θ
open Go.IntKind renaming i64->ξ
open Go.Proofs.Tryz renaming prog->φ
open Go.Proofs.YtopnleflllkbmaaGreatDoor
namespace Go.Proofs
open Tryz
theorem nM:type_of% call132:=call132
theorem nL:type_of% call133:=call133
theorem nK:type_of% call160:=call160
theorem sA:type_of% call204:=call204
theorem mB:type_of% call79:=call79
theorem cB:type_of% isAgg135:=isAgg135
theorem cY:type_of% isAgg137:=isAgg137
theorem iF:type_of% underlying158:=underlying158
theorem zG:type_of% underlying215:=underlying215
end Go.Proofs
namespace Go.Abs
variable{id b p r4:Nat}{d:dG}{x:Go.Loop}{H K:aF}{P:Program}
section
def LR(x:Go.Loop)(E0:dG):Ob:=⟨0,0,0,[[.raw x (E0.map (·.1))],E0.map (·.2)]⟩
section
variable{I:Nat->Prop}{ι:mD}{w:World}
theorem Ko{x}(m:Rel I ι H w)(e:H.get id=A (LR x d)){v:Value}(j:VRel w I ι H v (.yld id 0)):
  ∃b,ι id=A (b,2)/\v=.func (.yield b) #[] #[]/\w.heap[b]?=A (.loop x)/\¬ I b/\∀(i t:Nat) (a:AV),(d.map (·.1))[i]?=A t->(d.map (·.2))[i]?=A a->∃c,x.tmps[t]?=A c/\VRel w I ι H c a:=by
 cases j with
 |yld o g E F k =>
  rw[e]at g;cases g;have ⟨_,b,f,D⟩:=k Z;have ⟨_,B,y,h,k2,G,l⟩:=(m.obj id _ e).rec Z f;rw[f]at h;have ⟨J,K⟩:=l x _ _ Z
  grind
theorem Rel.setRec{y:Go.Loop}{G:dG}{H':aF}(m:Rel I ι H w)(n:H.get id=A (LR x G))(k:ι id=A (b,2))(hy:y.tmps=x.tmps)
  (K:H'.get id=A (LR y G)) (J:∀j,j≠id->H'.get j=H.get j):Rel I ι H' (w.putObj b (.loop y))/\Step I ι H w I ι H' (w.putObj b (.loop y)):=by
 have ⟨_,b',z,p,o_,u4,k4⟩:=(m.obj id _ n).rec Z k;rw[k]at p;cases p;have ⟨Q,A_⟩:=k4 x _ _ Z;subst Q;have u:=(Array.getElem?_eq_some_iff.1 o_).1;have s:∀c,OF ι H' c->OF ι H c:=λc ⟨j,o,B,u_,g⟩=>by
  by_cases e:j=id
  .subst e;exact⟨j,_,B,n,g⟩
  exact⟨j,o,B,(J j e).symm.trans u_,g⟩
 have l:Step I ι H w I ι H' (w.putObj b (.loop y)):=by
  refine⟨Z,Z,Z,F_,λa L _=>?_,λ_ h=>h,λ_ h=>.inl h,λc g=>.inl (s c g),λc g v_=>?_,λj o f=>?_⟩
  .unfold World.frozen?;by_cases e:a.block=b
   .rw[e,World.putObj_heap_same u,o_]
   rw[World.putObj_heap_other e]
  .exact World.putObj_heap_other λe=>v_ ⟨id,_,2,n,by rw[e];exact k⟩
  by_cases e:j=id
  .subst e;rw[n]at f;cases f;exact⟨_,K,h_ _,λ_=>⟨Z,Z,λh=>by cases h⟩⟩
  exact⟨o,(J j e).trans f,h_ _,λ_=>⟨Z,Z,λ_=>h_ _⟩⟩
 refine⟨⟨λc g=>by rw[World.putObj_size];exact m.imm c g,λj o f=>?_,λj r4 o o' c d d' f F g D=>?_,l.glob m⟩,l⟩
 .by_cases e:j=id
  .subst e;rw[K]at f;cases f;refine .inr (.inr (.inr (.inl ⟨Z,b,y,k,World.putObj_heap_same u,u4,λz ts r e_=>?_⟩)));simp only[LR,List.cons.injEq,AV.raw.injEq,and_true]at e_;obtain ⟨⟨rfl,rfl⟩,rfl⟩:=e_;refine⟨Z,λi t a W L=>?_⟩;have ⟨c,z_,P⟩:=A_ i t a W L;exact⟨c,by rw[hy];exact z_,P.mono m l⟩
  rw[J j e]at f;exact(m.obj j o f).keep Z (λc d g _=>⟨World.putObj_heap_other (λhb=>e (m.inj j id o _ c d 2 f n g (by rw[hb];exact k))),λh=>h⟩) (λr _ a _ v R=>R.mono m l)
 have i_:∀j o,H'.get j=A o->∃o,H.get j=A o:=λj o f=>by
  by_cases e:j=id
  .subst e;exact⟨_,n⟩
  exact⟨o,(J j e).symm.trans f⟩
 have ⟨q,f_⟩:=i_ j o f;have ⟨y_,E⟩:=i_ r4 o' F;exact m.inj j r4 q y_ c d d' f_ E g D
theorem Rel.push(o:Obj)(f:Rel I ι H w):Rel I ι H (w.alloc o)/\Step I ι H w I ι H (w.alloc o):=by
 have g:∀b,b<w.heap.size->(w.alloc o).heap[b]?=w.heap[b]?:=λb e=>by
  show (w.heap.push o)[b]?=_
  grind
 have d:Step I ι H w I ι H (w.alloc o):=by
  refine⟨Z,Z,Z,F_,λa B _=>?_,λ_ h=>h,λ_ h=>.inl h,λ_ h=>.inl h,λb e _=>g b e,λ_ o h=>⟨o,h,h_ _,λ_=>⟨Z,Z,λ_=>h_ _⟩⟩⟩;unfold World.frozen?
  simp_all
 refine⟨⟨λb e=>by have:=f.imm b e;rw[World.size_alloc];omega,λj o k=>?_,f.inj,d.glob f⟩,d⟩;exact(f.obj j o k).keep Z (λb c _ e=>⟨g b e,λh=>h⟩) (λr _ a _ v i=>i.mono f d)
end
def busy(x:Go.Loop):Go.Loop:={x with state:=.busy}
def left(x:Go.Loop)(c:Code):Go.Loop:={x with state:=.done,pending:=A c}
def Sa(H0:aF)(id:Nat)(x:Go.Loop)(E0:dG)(Q:AV->aF->Prop):Exit->dG->aF->Prop
 |.normal,E,H=>∃K,cH H0 E H [] ((id,LR (busy x) E0)::K)/\Q (.pv (.bool T)) ((id,LR x E0)::K)
 |.ret,E,H=>∃K,cH H0 E H [] ((id,LR (busy x) E0)::K)/\Q (.pv (.bool η)) ((id,LR (left x .ret) E0)::K)
 |.exit j,E,H=>∃K,cH H0 E H [] ((id,LR (busy x) E0)::K)/\Q (.pv (.bool η)) ((id,LR (left x (.exit j)) E0)::K)
 |_,_,_=>False
theorem uO{G:Entry}{I}{ι}{H}{w}{id b}{x y}{e}(c:Step G.I G.ι G.H G.w I ι H w)(h:G.H.get id=A (LR x e))(a:G.ι id=A (b,2))(g:H.get id=A (LR y e)):ι id=A (b,2):=by have ⟨B,d,_,f⟩:=c.objs _ _ h;rw[g]at d;cases d;exact(f Z).1.trans a
theorem vQ{I}{ι:mD}{w}{x}{f:dG}(g:Rel I ι H w)(d:H.get id=A (LR x f))(a:ι id=A (b,2)):w.heap[b]?=A (.loop x):=by
 have ⟨_,B,z,c,k2,D,e⟩:=(g.obj id _ d).rec Z a;rw[a]at c;have ⟨E,_⟩:=e x _ _ Z
 simp_all
theorem iB(id)(o)(K:aF):aF.get ((id,o)::K) id=A o:=by simp[aF.get,pW]
theorem B9{id j}(o o')(K:aF)(h:j≠id):aF.get ((id,o)::K) j=aF.get ((id,o')::K) j:=by simp[aF.get,kE (Ne.symm h)]
theorem MS{h n:Code}{a:AV}{Q:AV->aF->Prop}(E2:dG)(J:aF)(G:x.state=.ready)(A_:x.pending=ζ)(hp:x.params=#[p])(hN:x.tmps.size=r4)(hxa:x.assign=h)(hxb:x.body=n)(u_:Nat.blt p r4=T)
  (κ:AA h=T) (u4:AA n=T)
  (h1:fW P ((id,LR x d)::K) r4 h (zJ (λE1 H1=>cH ((id,LR x d)::K) E1 H1 E2 ((id,LR x d)::J)) (λ_ _ _=>False)) ((p,a)::d) ((id,LR x d)::K))
  (h2:fW P ((id,LR x d)::K) r4 n (Sa ((id,LR x d)::K) id x d Q) E2 ((id,LR (busy x) d)::J)):JS P id 0 [a] ((id,LR x d)::K) Q:=by
 subst hxa hxb;have u_:p<r4:=F_
 intro I y_ w vs v hr hv hl hvs;have ⟨b,e1,e2,e3,e4,e5⟩:=Ko hr (iB _ _ _) hv;obtain ⟨u,rfl⟩:∃u,vs=#[u]:=by
  match vs,hl with
  |⟨[u]⟩,_=>exact⟨u,Z⟩
 have hu:=hvs 0 u a Z Z;refine⟨b,x.fn,_,x.assign,x.body,e2,run_yield e3 F_,?_⟩;refine roundIn_of_wpIn (F:=Fence.wide) T_ ?_;have k:(⟨I,y_,(id,LR x d)::K,w,[]⟩:Entry).H=(id,LR x d)::K:=rfl;have β:St ⟨I,y_,(id,LR x d)::K,w,[]⟩ r4 ((p,a)::d) ((id,LR x d)::K) {tmps:=(x.params.zip #[u]).foldl (λm (t,a)=>m.setIfInBounds t a) x.tmps,defers:=[]} w:=by
  have ht:(x.params.zip #[u]).foldl (λm (t,a)=>m.setIfInBounds t a) x.tmps=x.tmps.setIfInBounds p u:=by rw[hp];simp
  rw[ht];refine⟨uM.nil _ _ _,by simp[hN],I,y_,hr,Step.refl _ _ _ _,λt y s=>?_⟩;by_cases e:p=t
  .subst e;rw[dG.get_cons_same]at s;cases s;exact⟨u,by simp[hN,u_],hu⟩
  rw[dG.get_cons_other _ _ e]at s;have ⟨i,hi⟩:=s8.1 (iS s);have ⟨c,c1,c2⟩:=e5 i t y (by rw[r8,hi];rfl) (by rw[r8,hi];rfl);exact⟨c,by show (x.tmps.setIfInBounds p u)[t]?=A c;rw[Array.getElem?_setIfInBounds_ne e];exact c1,c2⟩
 refine wpIn_mono (h1 _ k _ w β (A b) (.inr κ)) ?_;rintro e a1 w1 ⟨E1,H1,q,hs1⟩;cases e with
 | normal =>
  have F:=q _ k r4 a1 w1 hs1;have ⟨I1,ι1,z,B,ρ⟩:=F.rel;have E:=uO B (iB _ _ _) e1 (iB _ _ _);have τ:=vQ z (iB _ _ _) E;have ⟨k1,k2⟩:=z.setRec (y:=busy x) (H':=(id,LR (busy x) d)::J) (iB _ _ _) E Z (iB _ _ _) (λj hj=>B9 _ _ _ hj);refine⟨_,run_beginRound τ G,?_⟩;have δ:St ⟨I,y_,(id,LR x d)::K,w,[]⟩ r4 E2 ((id,LR (busy x) d)::J) a1 (w1.putObj b (.loop (busy x))) :=
   ⟨F.defers.step z k2,F.size,I1,ι1,k1,B.trans k2,λt y s=>let ⟨c,c1,c2⟩:=ρ t y s;⟨c,c1,c2.mono z k2⟩⟩
  refine wpIn_mono (h2 _ k a1 _ δ (A b) (.inr u4)) ?_;rintro e a2 w3 ⟨E3,H3,R,hs4⟩;have o_:∀(g:Option Code) (y:Go.Loop) (o:aF),y={busy x with state:=if g.isNone then .ready else .done,pending:=g}->cH ((id,LR x d)::K) E3 H3 [] ((id,LR (busy x) d)::o)->Q (.pv (.bool g.isNone)) ((id,LR y d)::o) ->
    ∃v w',(Instr.endRound b g).run P w3=.ok v w'/\∃r H' I' L v',Ending.returned v=.returned v'/\Q r H'/\VRel w' I' L H' v' r/\Rel I' L H' w'/\Step I y_ ((id,LR x d)::K) w I' L H' w':=by
   intro g y o s f H;have γ:=f _ k r4 a2 w3 hs4;have ⟨I5,ι5,W,d_,_⟩:=γ.rel;have D:=uO d_ (iB _ _ _) e1 (iB _ _ _);have σ:=vQ W (iB _ _ _) D;have ⟨z1,z2⟩:=W.setRec (y:=y) (H':=(id,LR y d)::o) (iB _ _ _) D (by rw[s]) (iB _ _ _) (λj hj=>B9 _ _ _ hj);refine⟨_,_,run_endRound g σ,_,_,I5,ι5,_,Z,H,.pv (.bool _),?_,?_⟩
   .rw[<-s];exact z1
   rw[<-s];exact d_.trans z2
  cases e with
  |normal =>
   obtain ⟨o,f,H⟩:=R;refine o_ ζ x o ?_ f H;obtain ⟨st,pe,fn,tm,pa,ax,bo,de⟩:=x;simp only at G A_;subst G A_;rfl
  |ret =>
   have ⟨o,f,H⟩:=R;exact o_ (A .ret) (left x .ret) o Z f H
  |exit j =>
   have ⟨o,f,H⟩:=R;exact o_ (A (.exit j)) (left x (.exit j)) o Z f H
  |goto l=>exact R.elim
  |panic ch=>exact R.elim
  |outgrown=>exact R.elim
 |exit j=>exact q.elim
 |goto l=>exact q.elim
 |ret=>exact q.elim
 |panic ch=>exact q.elim
 |outgrown=>exact q.elim
def Sf(Q:Exit->dG->aF->Prop)(E:dG)(H:aF):Option Code->Prop
 |none=>Q .normal E H
 |some .ret=>Q .ret E H
 |some (.exit j)=>Q (.exit j) E H
 |_=>False
theorem CH{G0:aF}{f:Nat}{e_:List AV}{g:Operand}{ps:Array Tmp}{assign body:Code}{Q:Exit->dG->aF->Prop}{E:dG}(n:dG)(hg:aQ E g=A (.clo f e_))(hc:∀(args:Array Value) (w:World),(callFunc f args).run P w=.ok (.enter f args) w)
  (hps:ps=#[p]) (hid:H.get id=ζ) (hE0:∀q∈n,E.get q.1=A q.2)
  (h:∀x:Go.Loop,x.state=.ready->x.pending=ζ->x.params=#[p]->x.tmps.size=r4->x.assign=assign->x.body=body ->
   aU P f (.yld id 0::e_) ((id,LR x n)::H) (λr H'=>∃(y:Go.Loop) (K:aF),y.tmps=x.tmps/\y.state≠.busy/\H'=(id,LR y n)::K/\∀z:Go.Loop,Sf Q E ((id,LR z n)::K) y.pending)) :
  fW P G0 r4 (.rangeFunc g ps assign body) Q E H:=by
 intro G hG a w hs ro hro;obtain rfl:ro=ζ:=hro.resolve_right (λh=>by cases h);have ⟨I,ι,hr,δ,he⟩:=hs.rel;refine wpIn_rangeFunc (F:=RF ζ) ?_;intro fn _;have ρ:=aJ he hg;generalize hfc:a.eval g=fc at ρ;cases ρ with
 | @clo _ us _ hl hh =>
  have ⟨x,R⟩:∃x:Go.Loop,x={state:=.ready,pending:=ζ,fn,tmps:=a.tmps,params:=ps,assign,body,defers:=w.heap.size}:=X_;have ⟨a1,a2⟩:=hr.push (.deferred (A []));have ⟨A_,v_⟩:∃A_,A_=w.alloc (.deferred (A [])):=X_;rw[<-v_]at a1 a2;have L:A_.heap.size=w.heap.size+1:=F_
  have σ:A_.heap[w.heap.size]?=A (.deferred (A [])):=by rw[v_];exact World.alloc_heap_new w _
  have m:aF.get ((id,LR x n)::H) id=A (LR x n):=iB _ _ _;have ⟨b1,b2⟩:=a1.placeX (id:=id) (cap:=2) (x:=.loop x) (w':=A_.alloc (.loop x)) (H':=(id,LR x n)::H) (ob':=LR x n) Z Z Z Z (λo ho=>by simp_all)
   (λhnew hI k=>.inr (.inr (.inr (.inl ⟨Z,_,x,H_,hnew,hI,λy ts r hy=>by
    simp only[LR,List.cons.injEq,AV.raw.injEq,and_true]at hy;obtain ⟨⟨rfl,rfl⟩,rfl⟩:=hy;refine⟨Z,λi t v ht u=>?_⟩;rw[r8]at ht u;obtain ⟨q,hq,rfl⟩:=Option.map_eq_some_iff.1 ht;rw[hq]at u;cases u;have ⟨c,c1,c2⟩:=he q.1 q.2 (hE0 q (m7 hq));exact⟨c,by rw[R];exact c1,k _ _ (c2.mono hr a2)⟩⟩))))
   m (λj hj=>by simp[aF.get,kE (Ne.symm hj)])
  have ⟨u4,γ⟩:∃u4,u4=A_.alloc (.loop x):=X_;rw[<-γ]at b1 b2;have ⟨B,u_⟩:∃B:mD,B=λj=>if j=id then A (A_.heap.size,2)else ι j:=X_
  rw[<-u_]at b1 b2;have d:B id=A (w.heap.size+1,2):=by rw[u_,L];simp
  have hL1:=vQ b1 m d;have W:u4.heap[w.heap.size]?=A (.deferred (A [])):=by
   rw[b2.keep _ (by rw[L];omega) (BV a1 σ)];exact σ
  have z_:=h x (by rw[R]) (by rw[R]) (by rw[R,hps]) (by rw[R];exact hs.size) (by rw[R]) (by rw[R]) I B u4 (#[.func (.yield (w.heap.size+1)) #[] #[]]++us) b1 (by simp[hl];omega) (λi v c u F=>by
   cases i with
   |zero =>
    rw[Array.getElem?_append_left H_]at u;simp at u F;subst u F;exact .yld (LR x n) m (h_ _) Z (λ_=>⟨Z,_,d,Z⟩)
   |succ i =>
    rw[Array.getElem?_append_right H_]at u;simp only[getElem?_cons_succ]at F;have:=hh i v c (by simpa using u) F;exact(this.mono hr a2).mono a1 b2)
  refine⟨w.heap.size+1,[mark w.heap.size],u4,{target:=.fn (.func f) us,args:=#[.func (.yield (w.heap.size+1)) #[] #[]]},u4,f,#[.func (.yield (w.heap.size+1)) #[] #[]]++us,u4,?_,?_,λ_ _=>trivial,?_,(λq=>by cases q),?_⟩
  .rw[γ,v_,R];exact run_enterLoop_outer _ _ _ _ _
  .simp only[resolve,hfc];simp[go_sem]
  .simp[invoke,go_sem,hc]
  refine((callsIn_wide (n:=0)).2 z_).mono ?_;rintro e w3 ⟨r,H',I3,ι3,v3,rfl,⟨y,K,hy1,hy2,rfl,hq⟩,_,hr3,i_⟩;have o_:=uO (G:=⟨I,B,(id,LR x n)::H,u4,[]⟩) i_ m d (iB _ _ _);have hb3:=vQ hr3 (iB _ _ _) o_;have ⟨z,hz⟩:∃z:Go.Loop,z={y with state:=.exhausted}:=X_;have ⟨z1,z2⟩:=hr3.setRec (y:=z) (H':=(id,LR z n)::K) (iB _ _ _) o_ (by rw[hz]) (iB _ _ _) (λj hj=>B9 _ _ _ hj);have ⟨o,β⟩:∃o,o=w3.putObj (w.heap.size+1) (.loop z):=X_;rw[<-β]at z1 z2;refine⟨y.pending,o,by rw[β,hz];exact run_endLoop hb3 hy2,?_⟩;have s:Step I ι H w I3 ι3 ((id,LR z n)::K) o:=((a2.trans b2).trans i_).trans z2;have hD4:o.heap[w.heap.size]?=A (.deferred (A [])):=by
   rw[(i_.trans z2).keep _ (Array.getElem?_eq_some_iff.1 W).1 (BV b1 W)];exact W
  have y_ : St G r4 E ((id, LR z n) :: K) { a with defers := [mark w.heap.size] ++ a.defers } o := by
   refine⟨?_,hs.size,I3,ι3,z1,δ.trans s,λt v u=>let ⟨c,c1,c2⟩:=he t v u;⟨c,c1,c2.mono hr s⟩⟩;have ⟨Ds,d1,d2,d3⟩:=hs.defers.step hr s;refine⟨w.heap.size::Ds,by rw[d1];rfl,nodup_cons.2 ⟨λhmem=>?_,d2⟩,λD hD=>?_⟩
   .have hold:∀D∈Ds,D<w.heap.size:=by
     have ⟨τ,d1',_,d3'⟩:=hs.defers;have he:τ=Ds:=by
      have h0:τ.map mark=Ds.map mark:=append_cancel_right (d1'.symm.trans d1);have κ:∀(l J:List Nat),l.map mark=J.map mark->l=J:=by
       intro l
       induction l with
       |nil=>intro J h;cases J with
        |nil=>rfl
        |cons _ _=>cases h
       | cons D l ih=>intro J h;cases J with
        |nil=>cases h
        |cons D' J =>
         simp only[map_cons,List.cons.injEq,mark,Deferred.mk.injEq,Target.collected.injEq,and_true]at h;rw[h.1,ih J h.2]
      exact κ _ _ h0
     subst he;exact λD hD=>(Array.getElem?_eq_some_iff.1 (d3' D hD).2).1
    exact Nat.lt_irrefl _ (hold _ hmem)
   rcases l9.1 hD with rfl|hD
   .exact⟨δ.size,hD4⟩
   exact d3 D hD
  have b:=hq z;generalize y.pending=pend at b |-
  match pend,b with
  |none,b=>exact⟨E,_,b,y_⟩
  |some .ret,b=>exact wpIn_ret ⟨E,_,b,y_⟩
  |some (.exit j),b=>exact wpIn_exit ⟨E,_,b,y_⟩
end
theorem aU.congrG{P}{f}{args}{H H1 K K1}{d}(h:aU P f args H1 (λr A_=>r=d/\A_=K1))(u:∀j,H1.get j=H.get j)(p:∀j,K.get j=K1.get j):aU P f args H (λr A_=>r=d/\A_=K):=by intro I ι w vs g q n;have ⟨B,l⟩:=g.congr u;refine(h I _ w _ B q (λi v a o y=>(n i v a o y).mono g l)).mono ?_;rintro e w' ⟨r,H',s,c,v,rfl,⟨rfl,rfl⟩,x,k,z⟩;have ⟨t,m⟩:=k.congr p;exact⟨r,K,s,c,v,Z,⟨Z,Z⟩,x.mono k m,t,(l.trans z).trans m⟩
theorem JS.congrG{P}{id g}{args}{H H1 K K1}{q}(h:JS P id g args H1 (λr A_=>r=q/\A_=K1))(J:∀j,H1.get j=H.get j)(E:∀j,K.get j=K1.get j):JS P id g args H (λr A_=>r=q/\A_=K):=by intro I ι w vs v k m F Q;have ⟨y,o⟩:=k.congr J;have ⟨l,f,c,b,d,G,B,z⟩:=h I _ w _ v y (m.mono k o) F (λi v a D L=>(Q i v a D L).mono k o);refine⟨l,f,c,b,d,G,B,z.mono ?_⟩;rintro e w' ⟨r,H',x,n,v,rfl,⟨rfl,rfl⟩,u,s,d_⟩;have ⟨t,p⟩:=s.congr E;exact⟨r,K,x,n,v,Z,⟨Z,Z⟩,u.mono s p,t,(o.trans d_).trans p⟩
theorem dQ.congrG{P}{c}{args}{H H1 K K1}{b}(h:dQ P c args H1 (λr A_=>r=b/\A_=K1))(d:∀j,H1.get j=H.get j)(f:∀j,K.get j=K1.get j):dQ P c args H (λr A_=>r=b/\A_=K):=by
 rcases h with⟨id,g,e,h⟩|⟨F,a,e,i,h⟩
 .exact .inl ⟨id,g,e,h.congrG d f⟩
 exact .inr ⟨F,a,e,i,h.congrG d f⟩
theorem nG{i j}{a b}(h:i≠j)(k):aF.get ((i,a)::(j,b)::K) k=aF.get ((j,b)::(i,a)::K) k:=by
 simp[aF.get];cases c:Nat.beq i k with
 |true =>
  have:=eq_of_beq_eq_true c;subst this;rw[kE (Ne.symm h)];rfl
 |false=>all_goals rfl
end Go.Abs
namespace Go.Abs
open Go.Lib
variable{e:TypeId}{id g n b cap l off len c h sz k ty:Nat}{ob:Ob}{s:B_}{H2 H H':aF}{w:World}{ι:mD}{f:List AV}{I:Nat->Prop}{rows:List (List PV)}{rows':List (List AV)}
section
section
variable{P:Program}{r4:Nat}{o:Oper}{E:dG}{u4 f_:TypeId}{x y:Operand}
theorem CV{w}{I}{ι}(s):uG w I ι H 1 (strCells s) (fV (ν (μ s))):=by
 intro i r c k a d;rw[fV,r8]at c;obtain ⟨b,e,rfl⟩:=Option.map_eq_some_iff.1 c;cases k with
 |zero =>
  cases d;exact⟨.int _ _,by rw[strCells,Nat.mul_one,Nat.add_zero,r8,e];rfl,Z,.pv (.int _ _)⟩
 |succ k=>grind
theorem TA(ho:o.op=.call {callee:=.builtin .append,args:=#[x,y],argTypes:=#[u4,f_]})(hT:P.underlying u4=A (.slice e))(hS:P.underlying f_=A .string)(β:mu P e 1 1)(hz0:∀i,P.info? e=A i->i.zero=A (.int .u8 0))
  (hx:aQ E x=A (.osl id g 0 n)) (d:H.get id=A ob) (hg:ob.g=g) (q:ob.sz=1) (hty:ob.ty=e) (hn:C ob.rows=n)
  (hy:aQ E y=A (.pv (.str s))) (hmax:n+s.size<=140737488355328)
  (hH2:H.set id ⟨g+1,1,e,ob.rows++fV (ν (μ s))⟩=H2):cP P r4 o E H (.osl id (g+1) 0 (n+s.size)) H2:=by
 intro a w I ι _ _ hr he K Q hk;have ⟨i,z,hi,hz,i_,γ,hzs,hsz0⟩:=β;have hzi:=hz0 i hi;subst hg hty hn hH2;have f:C (fV (ν (μ s)))=s.size:=by simp[fV]
 have hml:C ob.rows+s.size<=maxLen:=by simp only[maxLen];omega
 have W:(H.set id ⟨ob.g+1,1,ob.ty,ob.rows++fV (ν (μ s))⟩).get id=A ⟨ob.g+1,1,ob.ty,ob.rows++fV (ν (μ s))⟩:=aF.get_set_same _ _ _;have h2:∀j,j≠id->(H.set id ⟨ob.g+1,1,ob.ty,ob.rows++fV (ν (μ s))⟩).get j=H.get j:=λj hj=>aF.get_set_other _ _ hj;have v_:0<ob.sz:=qO (aJ he hx) d Z;have p2:=((hr.obj id ob d).cells v_).2.1;rw[q]at p2;have hrl:∀r∈ob.rows++fV (ν (μ s)),C r=1:=λr hr'=>by
  rcases mem_append.1 hr' with h|h
  .simp_all
  obtain ⟨b,_,rfl⟩:=mem_map.1 h;rfl
 have hys:=(aJ he hy).str_inv;have R:∀(v':Value) (w':World) (G:mD),(Builtin.append_ #[u4,f_] o.type #[a.eval x,.string s]).run P w=.ok v' w'->VRel w' I G (H.set id ⟨ob.g+1,1,ob.ty,ob.rows++fV (ν (μ s))⟩) v' (.osl id (ob.g+1) 0 (C ob.rows+s.size)) ->
   Rel I G (H.set id ⟨ob.g+1,1,ob.ty,ob.rows++fV (ν (μ s))⟩) w'->Step I ι H w I G (H.set id ⟨ob.g+1,1,ob.ty,ob.rows++fV (ν (μ s))⟩) w'->o.wpW P a w K Q:=by
  intro v' w' G l k1 J c;unfold Oper.wpW execOp;simp only[ho,resolve,invoke,builtin,Sem.run_bind,Sem.run_pure,Result.andThen_ok,map_toArray,map_cons,map_nil,hys,l];exact hk v' w' I G _ _ ⟨Z,Z⟩ k1 J c
 have hvx:=aJ he hx;have ⟨_,τ⟩:=jX hvx d Z;rcases τ with⟨b,m,oo,c1,c2,c3⟩|⟨c1,c2,_,c4⟩
 .obtain ⟨p1,_,⟨b',cap',L,z_,e2,e3,e4,e5,e5',e6⟩|⟨z_,_⟩⟩:=(hr.obj id ob d).cells v_
  .rw [c1] at z_;cases z_;rw [q] at e4 e6;have hoo:oo=0:=X
   subst hoo;rw[Nat.sub_zero]at c2;have A_:uG w I ι H 1 (L.toList.take (C ob.rows*1)) ob.rows:=by
    intro i' r p k a' F
    grind
   have t:C (L.toList.take (C ob.rows*1))=C ob.rows*1:=G_
   have B:C (strCells s)=s.size:=strCells_length s;by_cases κ:C ob.rows+s.size<=m
   .have l:=run_append_room_string (P:=P) w u4 f_ o.type ob.ty i hT hS hi i_ b (C ob.rows) m L e2 s κ X;have ⟨J,c⟩:=Rel.update (H':=H.set id ⟨ob.g+1,1,ob.ty,ob.rows++fV (ν (μ s))⟩) (ob':=⟨ob.g+1,1,ob.ty,ob.rows++fV (ν (μ s))⟩)
     (cs':=(L.toList.take (C ob.rows)++strCells s++L.toList.drop (C ob.rows+s.size)).toArray) hr d c1 e2 H_ q.symm Z (λe=>by grind) (by
      grind) G_ G_ (λi' r p k a' F=>by
       have:=uG.app (l3:=L.toList.drop (C ob.rows+s.size)) A_ t (CV (H:=H) s) i' r p k a' F;rw[q]
       simpa[append_assoc]using this) W h2
    exact R _ _ ι (by rw[c2];exact l) (.osl _ W (h_ _) Z λ_=>⟨Nat.zero_lt_one,G_,.inl ⟨b,m,0,c1,H_,λ_=>by simp⟩⟩) J c
   have ρ:∀j v,(L.toList.take (C ob.rows))[j]?=A v->w.cell? ((⟨b,0,ζ⟩:Addr).add j)=A v:=by
    intro j v hv;rw[Addr.add_lit,r7,cell_of_row w b _ L ob.ty (0,0) e2];rw[getElem?_take]at hv
    split at hv
    .simpa using hv
    cases hv
   have l:=run_append_grow_string (P:=P) w u4 f_ o.type ob.ty i (.int .u8 0) hT hS hi hzi ⟨b,0,ζ⟩ (C ob.rows) m _ (by rw[i_];simpa using t) ρ s X X (growslice_fits X (by rw[γ];omega));have σ:=grownCap_ge w (C ob.rows+s.size) m ob.ty;have y_:=grownCap_le_maxLen w (C ob.rows+s.size) m ob.ty hml;have δ:(Value.int IntKind.u8 0).cells.size=1:=rfl;have ⟨J,c⟩:=Rel.place (H':=H.set id ⟨ob.g+1,1,ob.ty,ob.rows++fV (ν (μ s))⟩) (id:=id) (cap:=grownCap w (C ob.rows+s.size) m ob.ty) (ob':=⟨ob.g+1,1,ob.ty,ob.rows++fV (ν (μ s))⟩)
    (cs':=(L.toList.take (C ob.rows)).toArray++(strCells s).toArray++Builtin.zeroCells (Value.int .u8 0).cells (grownCap w (C ob.rows+s.size) m ob.ty - (C ob.rows+s.size)))
    (w':=w.drew.alloc (.cells ((L.toList.take (C ob.rows)).toArray++(strCells s).toArray++Builtin.zeroCells (Value.int .u8 0).cells (grownCap w (C ob.rows+s.size) m ob.ty - (C ob.rows+s.size))) ob.ty)) hr Z Z Z Z
    (λo' c_=>by rw[d]at c_;cases c_;simp) Nat.zero_lt_one (by
     simp only[Array.size_append,size_toArray,size_zeroCells,δ,B,m_,Array.length_toList];omega) (by simp only[j8,f];exact σ) y_ hrl (λi' r p k a' F=>by
      have ⟨u,q1,q2,q3⟩:=uG.app (l3:=(Builtin.zeroCells (Value.int .u8 0).cells (grownCap w (C ob.rows+s.size) m ob.ty - (C ob.rows+s.size))).toList) A_ t (CV (H:=H) s) i' r p k a' F;refine⟨u,?_,q2,q3⟩;rw[<-Array.getElem?_toList]
      simpa[append_assoc]using q1) W h2
   exact R _ _ _ (by rw[c2];exact l) (.osl _ W (h_ _) Z λ_=>⟨Nat.zero_lt_one,by simp[f],.inl ⟨w.heap.size,_,0,by simp;rfl,H_,λ_=>by simp⟩⟩) J c
  rw[c1]at z_;cases z_
 have D:ob.rows=[]:=eq_nil_of_length_eq_zero c4;by_cases h0:s.size=0
 .have hb0:fV (ν (μ s))=[]:=eq_nil_of_length_eq_zero (by rw[f];exact h0);have l:(Builtin.append_ #[u4,f_] o.type #[.slice ζ 0 0,.string s]).run P w=.ok (.slice ζ 0 0) w:=by
   have hf:=run_firstCells_string (P:=P) w 1 s;rw[h0]at hf;simp[Builtin.append_,run_underlying hT,run_underlying hS,sizeOf,typeInfo,hi,i_,Builtin.lenOf,h0,hf]
  have ⟨J,c⟩:=Rel.tick (H':=H.set id ⟨ob.g+1,1,ob.ty,ob.rows++fV (ν (μ s))⟩) (ob':=⟨ob.g+1,1,ob.ty,ob.rows++fV (ν (μ s))⟩) hr d H_ q.symm Z (by simp[hb0]) W h2;exact R _ _ ι (by rw[c2];exact l) (.osl _ W (h_ _) Z λ_=>⟨Nat.zero_lt_one,by simp[f],.inr ⟨c1,Z,Z,by simp[D,h0]⟩⟩) J c
 have hr0:=run_append_nil_string (P:=P) w u4 f_ o.type ob.ty i (.int .u8 0) hT hS hi hzi s X X (by rw[γ];omega);have B:C (strCells s)=s.size:=strCells_length s;have z_:(s.data.map λb=>Value.int .u8 b.toNat)=(strCells s).toArray:=by
  apply Array.ext';simp[strCells]
 rw[z_]at hr0;have hml0:s.size<=maxLen:=X
 have σ:=grownCap_ge w s.size 0 ob.ty;have y_:=grownCap_le_maxLen w s.size 0 ob.ty hml0;have δ:(Value.int IntKind.u8 0).cells.size=1:=rfl;have ⟨J,c⟩:=Rel.place (H':=H.set id ⟨ob.g+1,1,ob.ty,ob.rows++fV (ν (μ s))⟩) (id:=id) (cap:=grownCap w s.size 0 ob.ty) (ob':=⟨ob.g+1,1,ob.ty,ob.rows++fV (ν (μ s))⟩)
  (cs':=(strCells s).toArray++Builtin.zeroCells (Value.int .u8 0).cells (grownCap w s.size 0 ob.ty - s.size))
  (w':=w.drew.alloc (.cells ((strCells s).toArray++Builtin.zeroCells (Value.int .u8 0).cells (grownCap w s.size 0 ob.ty - s.size)) ob.ty)) hr Z Z Z Z
  (λo' c_=>by rw[d]at c_;cases c_;simp) Nat.zero_lt_one (by
   simp only[Array.size_append,size_toArray,size_zeroCells,δ,B];omega) (by simp only[j8,f,D,length_nil,r7];exact σ) y_ hrl (λi' r p k a' F=>by
    simp only[D,nil_append]at p;have ⟨u,q1,q2,q3⟩:=CV (w:=w) (I:=I) (ι:=ι) (H:=H) s i' r p k a' F;have hlt:=(m9.1 q1).1;refine⟨u,?_,q2,q3⟩;rw[Array.getElem?_append_left (by simpa using hlt)]
    simpa using q1) W h2
 exact R _ _ _ (by rw[c2];exact hr0) (.osl _ W (h_ _) Z λ_=>⟨Nat.zero_lt_one,by simp[f],.inl ⟨w.heap.size,_,0,by simp;rfl,by simp[D],λ_=>by simp⟩⟩) J c
theorem xB{e}{id g n k}{ob}{s}{rows'}(p:o.op=.call {callee:=.builtin .append,args:=#[x,y],argTypes:=#[u4,f_]})(l:fN P u4 e 1)(B:P.underlying f_=A .string)(d:EI P e 1 1)(h:∀i,P.info? e=A i->i.zero=A (.int .u8 0))
  (t:aQ E x=A (.osl id g 0 n)) (m:H.get id=A ob) (v:ob.g=g) (b:ob.sz=1) (f:ob.ty=e) (q:C ob.rows=n)
  (r:aQ E y=A (.pv (.str s))) (c:n+s.size<=140737488355328) (u:n+s.size=k) (a:ob.rows++fV (ν (μ s))=rows') :
  cP P r4 o E H (.osl id (g+1) 0 k) ((id,⟨g+1,1,e,rows'⟩)::H):=by
 subst u a;exact cP.congr (TA p l.1 B d.1 h t m v b f q r c Z) (λj=>yF _ _ _ j)
end
end
section
theorem Clo.up{H H'}(d:∀i,(H.get i).isSome=T->(H'.get i).isSome=T){a}(h:Clo H a):Clo H' a:=by
 induction h with
 |any=>exact .any
 |pv p=>exact .pv p
 |pad rows i k=>exact .pad _ i k
 |ref h=>exact .ref (d _ h)
 |osl h=>exact .osl (d _ h)
 |clo h c=>exact .clo c
 |bnd h c=>exact .bnd c
 |agg h c=>exact .agg c
 |tup h c=>exact .tup c
 |mp h=>exact .mp (d _ h)
 |it h=>exact .it (d _ h)
 |yld h=>exact .yld (d _ h)
 |raw x ts=>exact .raw x _
 |osc h=>exact .osc (d _ h)
theorem Clo.app{D K}{a}(h:Clo K a):Clo (D++K) a:=h.up λi hi=>by
 rw[gN]
 grind
theorem dN.app{D K}(c:∀p∈D,∀r∈p.2.rows,∀a∈r,Clo (D++K) a)(g:dN K):dN (D++K):=by
 intro id o b;rw[gN]at b;cases e:D.get _ with
 |some x =>
  rw[e]at b;cases b;exact c _ (eH e)
 |none =>
  rw[e]at b;exact λr d a f=>(g _ o b r d a f).app
theorem Sub.front{D b K}(f:∀p∈D,K.get p.1=ζ)(c:∀p∈b,D.get p.1=A p.2):Sub (b++K) (D++K):=by
 intro id o a;rw[gN]at a |-;cases e:b.get _ with
 |some x =>
  rw[e]at a;cases a;rw[c _ (eH e)]
 | none =>
  rw[e]at a;cases d:D.get _ with
  |none=>exact a
  |some x =>
   have:=f _ (eH d);rw[this]at a;cases a
theorem PN.front{G0 D a K}(g:∀p∈a,D.get p.1=A p.2)(f:∀p∈D,G0.get p.1=ζ):PN G0 (a++K) (D++K):=by
 intro id d;have c:D.get id=ζ:=by
  cases e:D.get _ with
  |none=>rfl
  |some x =>
   have:=f _ (eH e);rw[this]at d;cases d
 have b:a.get id=ζ:=by
  cases e:a.get _ with
  |none=>rfl
  |some x =>
   have:=g _ (eH e);rw[c]at this;cases this
 rw[gN,gN,c,b]
theorem cH.front{G0}{E E'}{K}(D d)(z:Hl E (d++K) E')(j:∀p∈D,K.get p.1=ζ)(g:∀p∈d,D.get p.1=A p.2)(k:∀p∈d,∀r∈p.2.rows,∀a∈r,Clo (d++K) a)(y:dN K)
  (h:∀p∈D,G0.get p.1=ζ):cH G0 E (D++K) E' (d++K):=by
 intro G n r4 a w f;have ⟨I,q,l,e,m⟩:=f.rel;subst n;have b:=Sub.front j g;refine⟨f.defers,f.size,I,q,l.restrict b (dN.app k y),e.restrict b (PN.front g h),λt v x=>?_⟩;have ⟨s,i⟩:=z.spec _ (iS x);have ⟨c,o,u⟩:=m t v s;exact⟨c,o,u.restrict b i⟩
section
variable{F:Fence}{P:Program}{b:Frame}{a:Act}{k:List Item}{cs:List Frame}{Q:Exit->Act->World->Prop}
theorem sE{c}:step P (lone (b.atR a (.code (.scope c)::k)) cs w)=.next (lone (b.atR a (.code c::.inScope c::k)) cs w) :=step_lone_go (Z)
theorem VL{c}:step P (lone (b.atR a (.inScope c::k)) cs w)=.next (lone (b.atR a k) cs w) :=step_lone_go (Z)
theorem HE{c}(h:c.wpIn F n P (Exit.noGoto Q) a w):(Code.scope c).wpIn F n P Q a w:=by
 intro b k cs r q o;have j:(lone (b.atR a (.code (.scope c)::k)) _ w).fenced P F:=fenced_calm q o Z;obtain ⟨e,f,g,i,d⟩:=h b _ _ r q o;cases e with
 |normal=>exact⟨.normal,f,g,i,.head j sE (StepsIn.trans d (.one (fenced_calm q o Z) VL))⟩
 | exit id =>
  have B:exitTo _ (.inScope c::k)=exitTo id k:=rfl;exact⟨_,f,g,i,λD u=>.head j sE (d.1 _ F_),
   λp u=>let ⟨m,s,t⟩:=d.2 p F_;⟨m,s,.head j sE t⟩⟩
 |goto l=>exact i.elim
 |ret=>exact⟨_,f,g,i,.of_steps (.one j sE) d⟩
 |panic ch=>exact⟨_,f,g,i,.of_steps (.one j sE) d⟩
 |outgrown=>exact⟨_,f,g,i,.of_steps (.one j sE) d⟩
end
def Zx(Q:Exit->dG->aF->Prop):Exit->dG->aF->Prop
 |.goto _,_,_=>False
 |e,E,H=>Q e E H
theorem Fp{P}{G0}{r4}{E}{H}{Q}{c}(h:fW P G0 r4 c (Zx Q) E H):fW P G0 r4 (.scope c) Q E H:=by intro G d a w i ro g;refine HE (wpIn_mono (h G d a w i _ g) ?_);rintro e B w' ⟨f,b,q,s⟩;cases e<;>first|exact⟨f,b,q,s⟩|exact q.elim
theorem zD{P}{G0}{r4}{E}{H H2}{ops}{id n t}{d}{A_}{Q}(h:fW P G0 r4 (.region id ops d) (λe c H1=>e=.normal/\mr n t A_ E H2 c H1) E H)(g:Q .normal ((t,.pv (.bool A_))::E) H2):fW P G0 r4 (.region id ops d) Q E H:=by intro G f a w k ro j;refine wpIn_mono (h G f a w k _ j) ?_;rintro e B w' ⟨c,H1,⟨rfl,i⟩,b⟩;exact⟨_,_,g,(i.ent) G f r4 _ _ b⟩
def D8(H:aF):aF->Prop
 | []=>True
 |(_,o)::r=>(∀r∈o.rows,∀a∈r,Clo H a)/\D8 H r
theorem D8.spec{H}:∀ {L},D8 H L->∀p∈L,∀r∈p.2.rows,∀a∈r,Clo H a
 |(i,o)::L,h,p,b=>by
  rcases l9.1 b with rfl|b
  .exact h.1
  exact D8.spec h.2 p b
theorem dN.ofL{H}(h:D8 H H):dN H:=λ_ _ a=>h.spec _ (eH a)
def lo(D:aF)(n:Nat):Prop:=∀p∈D,900<=p.1/\p.1<n
def clear(K:aF):Prop:=∀i,900<=i->i<1000->K.get i=ζ
theorem Fin.of_ent{G0 H H'}{r r'}(h:cH G0 [(0,r)] H [(0,r')] H'):Fin G0 H r H' r':=by
 intro G b I i w v f a E;have ⟨_,_,D,B,K,k2,d⟩:=h G b 1 ⟨#[v],G.ds⟩ w ⟨uM.nil _ _ _,Z,I,i,f,a,λt x g=>by
  simp[dG.get]at g;cases e:Nat.beq 0 t with
  |true=>simp_all
  |false=>simp_all⟩
 have ⟨c,F,J⟩:=d 0 _ Z
 grind
theorem Sub.front'{D b K}(f:∀p∈D,(b.get p.1).isSome=T\/K.get p.1=ζ)(c:∀p∈b,D.get p.1=A p.2):Sub (b++K) (D++K):=by
 intro id o a;rw[gN]at a |-;cases e:b.get _ with
 |some x =>
  rw[e]at a;cases a;rw[c _ (eH e)]
 | none =>
  rw[e]at a;cases d:D.get _ with
  |none=>exact a
  |some x =>
   rcases f _ (eH d)with h|h;all_goals simp_all
theorem PN.front'{G0 D a K}(c:∀p∈a,D.get p.1=A p.2)(b:∀p∈D,(a.get p.1).isSome=T\/G0.get p.1=ζ):PN G0 (a++K) (D++K):=by
 intro id hi;rw[gN,gN];cases e:a.get _ with
 |some x=>rw[c _ (eH e)]
 | none =>
  cases d:D.get _ with
  |none=>rfl
  |some x =>
   rcases b _ (eH d)with h|h;all_goals simp_all
theorem Fin.front'{G0 K}{r}(D d)(k:Clo (d++K) r)(i:∀p∈D,(d.get p.1).isSome=T\/K.get p.1=ζ)(e:∀p∈d,D.get p.1=A p.2)(j:∀p∈d,∀r∈p.2.rows,∀a∈r,Clo (d++K) a)(o:dN K)
  (f:∀p∈D,(d.get p.1).isSome=T\/G0.get p.1=ζ):Fin G0 (D++K) r (d++K) r:=by
 intro G g I l w v m n h;subst g;have b:=Sub.front' i e;exact⟨I,l,m.restrict b (dN.app j o),n.restrict b (PN.front' e f),h.restrict b k⟩
theorem Fin.get'{G0 H H'}{r}(a:∀j,H'.get j=H.get j):Fin G0 H r H' r:=Fin.of_ent (cH.get' ⟨⟨_,Z,Z⟩,T_⟩ a)
end
section
section
variable{P:Program}
def LQ(ob:Ob):Ob:=⟨ob.g+1,ob.sz,ob.ty,[]⟩
def wC(ι:mD)(id:Nat):mD:=λx=>if x=id then ζ else ι x
theorem Step.dead{w}{I}{ι}{H}{id}{ob}(g:H.get id=A ob):Step I ι H w (rJ I ι id) (wC ι id) ((id,LQ ob)::H) w where
 os:=rfl
 tape:=rfl
 output:=rfl
 size:=h_ _
 froz:=λ_ _ _=>rfl
 imm:=λ_ h=>.inl h
 immNew:=λb c=>by
  rcases c with c|⟨a,c⟩
  .simp_all
  exact .inr (.inl ⟨id,ob,a,g,c⟩)
 own:=λb c=>by
  have ⟨j,o,a,d,f⟩:=c;by_cases e:j=id
  .rw[wC,b6 e]at f;cases f
  rw[wC,a8 e]at f;rw[get_cons_other _ _ e]at d;exact .inl ⟨j,o,a,d,f⟩
 keep:=λ_ _ _=>rfl
 objs:=λj o d=>by
  by_cases e:j=id
  .subst e;rw[g]at d;cases d;exact⟨LQ _,get_cons_same _ _ _,le_succ _,λh=>absurd h (by simp[LQ])⟩
  exact⟨o,by rw[get_cons_other _ _ e];exact d,h_ _,λ_=>⟨a8 e,Z,λ_=>h_ _⟩⟩
theorem Rel.dead{I}(g:Rel I ι H w)(s:H.get id=A ob)(q:0<ob.sz):Rel (rJ I ι id) (wC ι id) ((id,LQ ob)::H) w:=by
 have p:=Step.dead (w:=w) (I:=I) (ι:=ι) s;refine⟨λb d=>?_,λj o f=>?_,λj u o z b c y f m n i=>?_,g.glob.mono (λ_ _=>rfl) (λ_ h=>.inl h)⟩
 .rcases d with d|⟨k,d⟩
  .exact g.imm b d
  exact g.lt ⟨id,ob,k,s,d⟩
 .by_cases e:j=id
  .subst e;rw[get_cons_same]at f;cases f;exact .inl ⟨q,by simp[LQ],.inr ⟨b6 Z,Z⟩⟩
  rw[get_cons_other _ _ e]at f;refine(g.obj j o f).keep (a8 e) (λb k B _=>⟨Z,λh=>?_⟩) (λr _ a _ v D=>D.mono g p);rintro(d|⟨l,d⟩)
  ·grind
  exact e (g.inj j id o ob b k l f s B d)
 have x:j≠id:=λe=>by rw[wC,b6 e]at n;cases n
 have t:u≠id:=λe=>by rw[wC]at i;grind
 rw[wC,a8 x]at n;rw[wC,a8 t]at i;rw[get_cons_other _ _ x]at f;rw[get_cons_other _ _ t]at m;exact g.inj j u o z b c y f m n i
theorem aU.retire{f:FuncId}{args args':List AV}{Q}(ps:List (List PV))(h:aU P f args' ((id,LQ ob)::H) Q)(l:H.get id=A ob)(F:Nat.blt 0 ob.sz=T)(m:ob.rows=ps.map (·.map .pv))
  (G:C args=C args') (x:∀(i:Nat) (a D:AV),args[i]?=A a->args'[i]?=A D->a=D\/∃off len,a=.osl id ob.g off len/\D=.pv (.sl ((ps.take (off+len)).drop off))):aU P f args H Q:=by
 intro I o w z k E u;have g:=Step.dead (w:=w) (I:=I) (ι:=o) l;refine(h _ _ w z (k.dead l F_) X ?_).mono ?_
 .intro i v D y c;have d:i<C args:=by
   have:=(m9.1 c).1;omega
  have b:=u i v _ y (n_ d);rcases x i _ D (n_ d) c with e|⟨off,len,B,d_⟩
  .rw[e]at b;exact b.mono k g
  rw[B]at b;rw[d_];exact .pv (FR k l m b)
 rintro e w' ⟨r,s,n,j,v,rfl,q,p,t,i_⟩;exact⟨r,s,n,j,v,Z,q,p,t,g.trans i_⟩
end
end
section
def Og(v:Value):Prop:=∃p,v=.pointer p
theorem jl{P}{e}{s}(c:P.cellsOf e=s+1)(a)(d:1<=a):liesAt P P.depth e a 0 e 1=T:=by have b:P.depth=(2*(P.types.size+Made.depth)+1)+1:=rfl;rw[b];simp[liesAt,Bool.or_eq_true];rw[b];simp[rowAt,c,d,sameLayout]
theorem M0{I}{ι}{H}{w}{v}{id g}{ob}(k:Rel I ι H w)(h:VRel w I ι H v (.ref id g 0 0))(c:H.get id=A ob)(f:ob.g=g)(d:ob.rows≠[]):
  ∃b cap,v=.pointer (A ⟨b,0,ζ⟩)/\w.shape? b=A (ob.ty,cap*ob.sz)/\0<cap/\0<ob.sz:=by
 have ⟨b,cap,i,D⟩:=pZ h c f;have e:=SG h c f;obtain ⟨_,_,⟨B,cap',cs,a,l,E,j,F,_⟩|⟨a,_⟩⟩:=(k.obj _ _ c).cells e
 .rw[i]at a;cases a;refine⟨b,cap,F_,by simp[World.shape?,l,j],?_,e⟩;have:=length_pos_iff.2 d;omega
 rw[i]at a;cases a
theorem VRel.sat_inv{w}{I}{ι}{H}{v}{p}(h:VRel w I ι H v (.pv (.sat p))):p v:=by
 have:=h.pv_inv;cases this with
 |sat B a=>exact a
section
variable{P:Program}{r4:Nat}{o:Oper}{E:dG}{f_ u4 t t' e:TypeId}{x y:Operand}
theorem B6{P:Program}{t}{n}(h:(P.info? t).map (·.size)=A n):∃j,P.info? t=A j/\j.size=n:=F_
theorem HU(i:o.op=.convert f_ u4 x)(B:P.underlying f_=A (.pointer t))(v:P.underlying u4=A .unsafePointer)(hi:(P.info? t).map (·.size)=A (n+1))(k:aQ E x=A (.ref id g 0 0))(s:H.get id=A ob)(h:ob.g=g)(d:ob.rows≠[]):cP P r4 o E H (.ref id g 0 0) H :=.of_run λa w I ι l z=>by
  have f:=aJ z k;have ⟨b,cap,q,m,p,r⟩:=M0 l f s h d;have ⟨j,u,D⟩:=B6 hi;have c:=Nat.mul_pos p r;refine⟨_,?_,f⟩;simp only[execOp,i,q];rw[Sem.run_bind,Lib.run_to_unsafe w _ B v u X m c];rfl
theorem PC(r:o.op=.convert f_ u4 x)(D:P.underlying f_=A .unsafePointer)(z:P.underlying u4=A (.pointer t))(hi:(P.info? t).map (·.size)=A (n+1))(s:aQ E x=A (.ref id g 0 0))(q:H.get id=A ob)(B:ob.g=g)(c:ob.rows≠[])(d:ob.ty=t)(f:ob.sz=n+1):cP P r4 o E H (.ref id g 0 0) H :=.of_run λa w I ι u F=>by
  have k:=aJ F s;have ⟨b,cap,v,i,p,G⟩:=M0 u k q B c;have ⟨j,l,m⟩:=B6 hi;have h:P.cellsOf t=n+1:=by simp[Program.cellsOf,l,m]
  refine⟨_,?_,k⟩;simp only[execOp,r,v];rw[d]at i;rw[Sem.run_bind,Lib.run_from_unsafe w ⟨b,0,ζ⟩ D z l i (jl h _ (by rw[h,f,Nat.mul_div_cancel _ X];exact p))];rfl
theorem KZ{i k}(r:o.op=.binOp .neq t x y t')(s:P.underlying t=A (.pointer e))(hi:(P.info? e).map (·.size)=A (n+1))(m:aQ E x=A (.ref id g i k))(v:aQ E y=A (.ref id g i k))(f:H.get id=A ob)(c:ob.g=g):cP P r4 o E H (.pv (.bool η)) H :=.of_run λa w I ι _ h=>⟨.bool _,by
  have ⟨b,cap,p,l⟩:=pZ (aJ h m) f c;have ⟨B,cap',d,q⟩:=pZ (aJ h v) f c;rw[p]at d;cases d;have ⟨j,u,D⟩:=B6 hi;simp[execOp,r,l,q,eqGuard_at_pointer,Sem.run_bind,Sem.run_pure,Result.andThen_ok,Lib.run_neq_ptr_same w _ s u],.pv (.bool _)⟩
theorem ld(v):Zv P Extern.AbiNoEscape.same H [v] v:=by
 intro w I ι b a h;have ⟨l⟩:=b
 match l,a with
 | [u],_=>exact⟨u,Z,h 0 u v Z Z⟩
theorem HW(l:o.op=.call {callee:=.builtin .unsafeSliceData,args:=#[x],argTypes:=#[u4]})(q:aQ E x=A (.osl id g 0 n))(f:H.get id=A ob)(h:ob.g=g)(G:0<n):cP P r4 o E H (.ref id g 0 0) H :=.of_run λa w I ι r s=>by
  have k:=aJ s q;have j:=qO k f h;obtain ⟨F,⟨b,c,oo,i,m,B⟩|⟨_,_,_,D⟩⟩:=jX k f h
  .obtain ⟨_,_,⟨b',cap',cs,d,f2,f3,f4,f5,_⟩|⟨d,_⟩⟩:=(r.obj _ _ f).cells j
   .rw[i]at d;cases d;refine⟨.pointer (A ⟨b,0,ζ⟩),?_,.ref _ f (Nat.le_of_eq h.symm) Z λ_=>⟨j,b,c,i,H_⟩⟩;have p:c≠0:=X
    simp[execOp,l,resolve,invoke,builtin,m,Lib.run_unsafeSliceData_row w _ _ _ _ _ p]
   rw[i]at d;cases d
  omega
theorem FB(G:o.op=.call {callee:=.builtin .unsafeSliceData,args:=#[x],argTypes:=#[u4]})(W:P.underlying o.type=A (.pointer e))(L:aQ E x=A (.osl id g 0 0))(r:H.get id=A ob)(D:ob.g=g):cP P r4 o E H (.pv (.sat Og)) H:=by
 intro a w I l _ _ m t K Q n;have F:=aJ t L;have y:=qO F r D;have d:∀(c:Value) (f:World),(Builtin.unsafeSliceData_ #[u4] o.type #[a.eval x]).run P w=.ok c f->Og c->Rel I l H f->Step I l H w I l H f->o.wpW P a w K Q:=λc f j q u v=>by
  have h:c.oneCell'=T:=by obtain ⟨p,rfl⟩:=q;rfl
  unfold Oper.wpW;have:(execOp a.eval o).run P w=.ok (.value c) f:=by
   simp[execOp,G,resolve,invoke,builtin,j]
  rw[this];exact n c f I l _ H ⟨Z,Z⟩ (.pv (.sat h q)) u v
 obtain ⟨hl,⟨b,B,s,J,k,z⟩|⟨_,k,_,e4⟩⟩:=jX F r D
 .by_cases q:B=0
  .obtain ⟨_,_,⟨b',cap',R,i,o_,f3,f4,f5,_⟩|⟨i,_⟩⟩:=(m.obj id ob r).cells y
   .rw[J]at i;cases i;obtain ⟨u,v⟩:=m.push _;refine d (.pointer (A ⟨w.heap.size,0,ζ⟩)) _ ?_ ⟨_,Z⟩ u v;rw[k,q];exact Lib.run_unsafeSliceData_zero w #[u4] o.type e W ⟨b,s,ζ⟩ 0 (ob.ty,R.size) (by simp[World.shape?,o_])
   rw[J]at i;cases i
  refine d (.pointer (A ⟨b,s,ζ⟩)) _ ?_ ⟨_,Z⟩ m (Step.refl _ _ _ _);rw[k];exact Lib.run_unsafeSliceData_row w #[u4] o.type ⟨b,s,ζ⟩ 0 _ X
 refine d (.pointer ζ) _ ?_ ⟨_,Z⟩ m (Step.refl _ _ _ _);rw[k];rfl
theorem zZ{c}(d:o.op=.call {callee:=.builtin .unsafeString,args:=#[x,y],argTypes:=#[u4,c]})(h:aQ E x=A (.pv (.sat Og)))(f:aQ E y=A (.pv (.int .i64 0))):cP P r4 o E H (.pv (.str ⟨#[]⟩)) H :=.of_run λa w I ι B b=>by
  have j:=(aJ b f).int_inv;have i:=(aJ b h).sat_inv;have ⟨p,k⟩:=i;refine⟨_,?_,.pv (.str _)⟩;simp[execOp,d,resolve,invoke,builtin,k,j,Lib.run_unsafeString_none w u4 _ _ p];rfl
theorem Rel.lost{w':World}(q:Rel I ι H w)(D:H.get id=A ob)(g:0<ob.sz)(u:ι id=A (b,cap))(P:w'.os=w.os)(m:w'.tape=w.tape)(s:w'.output=w.output)(l:w'.heap.size=w.heap.size)
  (F:∀c,c≠b->w'.heap[c]?=w.heap[c]?):Rel I (wC ι id) ((id,LQ ob)::H) w'/\Step I ι H w I (wC ι id) ((id,LQ ob)::H) w':=by
 have B:OF ι H b:=⟨id,ob,cap,D,u⟩;have p:Step I ι H w I (wC ι id) ((id,LQ ob)::H) w':=by
  refine⟨P,m,s,X,λa _ E=>?_,λ_ h=>h,λ_ h=>.inl h,λc z=>?_,λc _ E=>F c (λe=>E (e▸B)),λj o f=>?_⟩
  .unfold World.frozen?
   grind
  .have ⟨j,o,o_,f,i⟩:=z;by_cases e:j=id
   .rw[wC,b6 e]at i;cases i
   rw[wC,a8 e]at i;rw[get_cons_other _ _ e]at f;exact .inl ⟨j,o,o_,f,i⟩
  by_cases e:j=id
  .subst e;rw[D]at f;cases f;exact⟨LQ ob,get_cons_same _ _ _,le_succ _,λh=>absurd h (by simp[LQ])⟩
  exact⟨o,by rw[get_cons_other _ _ e];exact f,h_ _,λ_=>⟨a8 e,Z,λ_=>h_ _⟩⟩
 refine⟨⟨λc z=>by rw[l];exact q.imm c z,λj o f=>?_,λj L o n c d Q f J i k=>?_,p.glob q⟩,p⟩
 .by_cases e:j=id
  .subst e;rw[get_cons_same]at f;cases f;exact .inl ⟨g,by simp[LQ],.inr ⟨b6 Z,Z⟩⟩
  rw[get_cons_other _ _ e]at f;exact(q.obj j o f).keep (a8 e) (λc d R _=>⟨F c (λz=>e (q.inj j id o ob b d cap f D (by rw[<-z];exact R) u)),λh=>h⟩) (λr _ a _ v W=>W.mono q p)
 have K:j≠id:=λe=>by rw[wC,b6 e]at i;cases i
 have G:L≠id:=λe=>by rw[wC,b6 e]at k;cases k
 rw[wC,a8 K]at i;rw[wC,a8 G]at k;rw[get_cons_other _ _ K]at f;rw[get_cons_other _ _ G]at J;exact q.inj j L o n c d Q f J i k
theorem BW{z:TypeId}{l:List UInt8}(v_:o.op=.call {callee:=.builtin .unsafeString,args:=#[x,y],argTypes:=#[u4,z]})(y_:P.underlying u4=A (.pointer e))(hi:(P.info? e).map (·.size)=A 1)(W:aQ E x=A (.ref id g 0 0))(hy:aQ E y=A (.pv (.int .i64 n)))
  (q:H.get id=A ob) (hg:ob.g=g) (h:ob.sz=1) (r:ob.ty=e) (d:ob.rows=fV l) (A_:C l=n) (hn:0<n) (p:n<=9223372036854775807) (u_:(⟨l.toArray⟩:B_)=s):cP P r4 o E H (.pv (.str s)) ((id,LQ ob)::H):=by
 subst u_ A_;intro a w I G _ _ B F K Q hk;have o_:=aJ F W;have ⟨b,cap,m,J⟩:=pZ o_ q hg;have c_:=(aJ F hy).int_inv;have ⟨j,h3,R⟩:=B6 hi;have z_:P.cellsOf e=1:=by simp[Program.cellsOf,h3,R]
 have t:C ob.rows=C l:=by rw[d];simp[fV]
 obtain ⟨_,_,⟨b',cap',i_,k,D,f3,L,f5,_,f6⟩|⟨k,_⟩⟩:=(B.obj id ob q).cells X
 .rw[m]at k;cases k;rw[h,Nat.mul_one]at L;have f:∀j x,l[j]?=A x->w.cell? ((⟨b,0,ζ⟩:Addr).add j)=A (.int .u8 x.toNat):=λj x hj=>by
   have ⟨v,u,_,q3⟩:=f6 j [.pv (.int .u8 x.toNat)] (by rw[d,fV,r8,hj];rfl) 0 _ Z;rw[h,Nat.mul_one,Nat.add_zero,q3.int_inv]at u;rw[Addr.add_lit,r7,cell_of_row w b _ i_ ob.ty (0,0) D];exact u
  have i:=Lib.run_unsafeString_row (P:=P) w u4 z o.type e y_ z_ b i_.size (by rw[<-r];simp[World.shape?,D]) l (λh0=>by simp_all) X p f;have e_:∀c,c≠b->(w.freeze ⟨b,0,ζ⟩ (C l)).heap[c]?=w.heap[c]?:=λc τ=>by
   unfold World.freeze
   grind
  have ⟨k1,k2⟩:=B.lost (w':=w.freeze ⟨b,0,ζ⟩ (C l)) q X m (by unfold World.freeze;all_goals grind) (by unfold World.freeze;all_goals grind) (by unfold World.freeze;all_goals grind) (by unfold World.freeze;split<;>simp) e_;unfold Oper.wpW;have:(execOp a.eval o).run P w=.ok (.value (.string ⟨l.toArray⟩)) (w.freeze ⟨b,0,ζ⟩ (C l)):=by
   rw[h]at J;simp[execOp,v_,resolve,invoke,builtin,J,c_,i]
  rw[this];exact hk _ _ I (wC G id) _ _ ⟨Z,Z⟩ (.pv (.str _)) k1 k2
 rw[m]at k;cases k
end
end
section
theorem sI{w}{I}{ι}{H}{v}{id g off len c}{ob}(h:VRel w I ι H v (.osc id g off len c))(F:H.get id=A ob)(G:ob.g=g):
  0<ob.sz/\len<=c/\((∃b a,ι id=A (b,off+c)/\v=.slice (A ⟨b,a,ζ⟩) len c/\(0<c\/off=0->a=off*ob.sz))\/(ι id=ζ/\v=.slice ζ 0 0/\off=0/\len=0/\c=0)):=by
 cases h with
 |osc J B D _ E =>
  simp_all
theorem xx{w}{I}{ι}{H}{v}{id g off len}{ob}(n:Rel I ι H w)(h:VRel w I ι H v (.osl id g off len))(a:H.get id=A ob)(l:ob.g=g):
  ∃c,len<=c/\c<=maxLen/\VRel w I ι H v (.osc id g off len c):=by
 have j:=qO h a l;obtain ⟨B,⟨b,i,o,e,f,k⟩|⟨e,f,k,m⟩⟩:=jX h a l
 .obtain ⟨_,_,⟨b',cap',cs,d,e2,e3,e4,e5,e6,e7⟩|⟨d,_⟩⟩:=(n.obj id ob a).cells j
  .rw[e]at d;cases d;refine⟨i - off,X,X,?_⟩;subst f;refine .osc _ a X Z λ_=>⟨j,X,.inl ⟨b,o,?_,Z,λD=>k X⟩⟩
   grind
  rw[e]at d;cases d
 subst f k m;exact⟨0,h_ _,l7 _,.osc ob a X Z λ_=>⟨j,h_ _,.inr ⟨e,Z,Z,Z,Z⟩⟩⟩
theorem Wl{w}{I}{ι}{H}{v}{id g off len c}{ob}(h:VRel w I ι H v (.osc id g off len c))(d:H.get id=A ob)(l:ob.g=g)(i:off+len<=C ob.rows):
  VRel w I ι H v (.osl id g off len):=by
 obtain ⟨j,B,⟨b,m,f,a,e⟩|⟨f,a,e,k,D⟩⟩:=sI h d l
 .subst a;refine .osl _ d X Z λ_=>⟨j,i,.inl ⟨b,off+c,m,f,?_,λE=>e X⟩⟩
  simp_all
 subst a e k;exact .osl _ d X Z λ_=>⟨j,i,.inr ⟨f,Z,Z,Z⟩⟩
section
variable{P:Program}{G0:aF}{r4:Nat}{Q:Exit->dG->aF->Prop}{E:dG}{code:Code}
theorem Y5{t id g off n c}{ob}(l:E.get t=A (.osc id g off n c))(o:H.get id=A ob)(r:ob.g=g)(q:off+n<=C ob.rows)(h:fW P G0 r4 code Q ((t,.osl id g off n)::E) H):fW P G0 r4 code Q E H:=by
 intro G k a w i;have ⟨I,s,m,d,j⟩:=i.rel;have ⟨v,p,f⟩:=j t _ l;refine h G k a w ⟨i.defers,i.size,I,s,m,d,λu x b=>?_⟩;by_cases e:t=u
 .subst e;rw[dG.get_cons_same]at b;cases b;exact⟨v,p,Wl f o r q⟩
 rw[dG.get_cons_other _ _ e]at b;exact j u x b
end
section
variable{P:Program}{r4:Nat}{o:Oper}{E:dG}{u4:TypeId}{x y:Operand}
theorem FE{e}{id g off len c}{ob}(f:o.op=.call {callee:=.builtin .cap,args:=#[x],argTypes:=#[u4]})(h:P.underlying u4=A (.slice e))(k:aQ E x=A (.osc id g off len c))(i:H.get id=A ob)(j:ob.g=g):cP P r4 o E H (.pv (.int .i64 c)) H :=.of_run λa w I ι _ m=>⟨.int _ c,by
  obtain ⟨_,_,⟨b,oo,_,d,_⟩|⟨_,d,_,_,l⟩⟩:=sI (aJ m k) i j
  .simp[execOp,f,resolve,invoke,builtin,d,Builtin.cap_,run_underlying h,goInt]
  simp[execOp,f,resolve,invoke,builtin,d,l,Builtin.cap_,run_underlying h,goInt],.pv (.int _ _)⟩
theorem FD{e}{id g off len c}{ob}(f:o.op=.call {callee:=.builtin .len,args:=#[x],argTypes:=#[u4]})(h:P.underlying u4=A (.slice e))(k:aQ E x=A (.osc id g off len c))(i:H.get id=A ob)(j:ob.g=g):cP P r4 o E H (.pv (.int .i64 len)) H :=.of_run λa w I ι _ m=>⟨.int _ len,by
  obtain ⟨_,_,⟨b,oo,_,d,_⟩|⟨_,d,_,l,_⟩⟩:=sI (aJ m k) i j
  .simp[execOp,f,resolve,invoke,builtin,d,Builtin.len_,run_underlying h,goInt]
  simp[execOp,f,resolve,invoke,builtin,d,l,Builtin.len_,run_underlying h,goInt],.pv (.int _ _)⟩
theorem ep{lo hi:Option Operand}{j i K:Nat}(G:o.op=.slice u4 x lo hi ζ)(hS:fN P u4 e sz)(A_:aQ E x=A (.osc id g off len c))
  (q:H.get id=A ob) (u_:ob.g=g) (s:ob.sz=sz) (p:bnd E lo 0=A (l:Int)) (m:bnd E hi len=A (h:Int)) (J:l<=h) (v_:h<=c) (u:off+l=j) (i_:h - l=i) (B:c - l=K):cP P r4 o E H (.osc id g j i K) H :=
 .of_run λa w I ι hr z=>by
  have W:=aJ z A_;have ⟨L,τ,k⟩:=sI W q u_;have y_:=hS.1;have y:=hS.2.1;have n:P.elem u4=e:=by simp[Program.elem,y_]
  have f:P.underlying u4=A (.slice (P.elem u4)):=F_
  subst u i_ B s;rcases k with⟨b,r,D,v,F⟩|⟨D,v,F,R,Q⟩
  .have t:=nV (P:=P) (b:=T) (len:=len) (cap:=c) z p m J v_;have d:=run_slice_any (P:=P) w u4 (A ⟨b,r,ζ⟩) len c f (lo.map a.eval) (hi.map a.eval) ζ;refine⟨.slice (A ⟨b,if c=l then r else r+l*ob.sz,ζ⟩) (h - l) (c - l),?_,.osc ob q X Z λ_=>⟨L,X,.inl ⟨b,_,?_,Z,λσ=>?_⟩⟩⟩
   .simp only[execOp,G,v];simp only[run_sliceAt_slice w u4 _ _ _ _ f,Sem.run_bind,d,Option.map_none,t,n,y,sliced,Result.andThen_ok,Sem.run_pure];by_cases o_:c=l
    .grind
    simp[o_,Addr.add_lit]
   all_goals grind
  subst F R Q;have e_:h=0:=X
  have f_:l=0:=X
  subst e_ f_;have t:=nV (P:=P) (b:=T) (len:=0) (cap:=0) z p m J H_;have d:=run_slice_any (P:=P) w u4 ζ 0 0 f (lo.map a.eval) (hi.map a.eval) ζ;refine⟨.slice ζ 0 0,?_,.osc ob q X Z λ_=>⟨L,X,.inr ⟨D,Z,Z,Z,Z⟩⟩⟩;simp only[execOp,G,v];simp[run_sliceAt_slice w u4 _ _ _ _ f,d,t,n,y,sliced]
def aCi(w:World)(I:Nat->Prop)(ι:mD)(H:aF)(sz:Nat)(v:Value)(len:Nat)(rows:List (List AV)):Prop :=(∃a c B,v=.slice (A a) len c/\C rows<=len/\C B=C rows*sz/\(∀j u,B[j]?=A u->w.cell? (a.add j)=A u)/\(∀u∈B,u.oneCell'=T)/\uG w I ι H sz B rows) \/
 (v=.slice ζ 0 0/\len=0/\rows=[])
theorem uG.take{I}{l:List Value}{rows}(h:uG w I ι H sz l rows)(D:∀r∈rows,C r=sz)(k:Nat):uG w I ι H sz (l.take (k*sz)) (rows.take k):=by
 intro i r b j a d;rw[getElem?_take]at b
 split at b
 .have ⟨u,e,c,f⟩:=h i r b j a d;have B:j<sz:=G_
  refine⟨u,?_,c,f⟩;rw[getElem?_take,b6]
  .exact e
  have:(i+1)*sz<=k*sz:=mul_le_mul_right _ X;rw[Nat.add_mul]at this;omega
 grind
theorem uG.drop{w}{I}{ι}{H}{sz}{l}{rows}(h:uG w I ι H sz l rows)(k):uG w I ι H sz (l.drop (k*sz)) (rows.drop k):=by
 intro i r b j a c;rw[getElem?_drop]at b;have ⟨u,B,D,E⟩:=h _ r b j a c
 grind
theorem Jh{w}{I}{ι}{H}{sz id g off len c}{ob}{v}(u:Rel I ι H w)(h:VRel w I ι H v (.osc id g off len c))(i:H.get id=A ob)(q:ob.g=g)(f:ob.sz=sz)(k)(G:k<=len)(e:off+k<=C ob.rows):
  aCi w I ι H sz v len ((ob.rows.drop off).take k):=by
 obtain ⟨B,E,⟨b,p,s,m,l⟩|⟨s,m,l,z,F⟩⟩:=sI h i q
 .have i_:VRel w I _ H (.slice (A ⟨b,p,ζ⟩) k c) (.osl _ g _ k) :=
   .osl _ i X Z λ_=>⟨B,e,.inl ⟨b,off+c,p,s,H_,λJ=>l X⟩⟩
  rcases we u i_ i q f with⟨a,c',d,n,r,t,d_,D⟩|⟨n,r⟩
  .injection n with j q2 q3;injection j with j;subst j;exact .inl ⟨_,c,d,m,X,r,t,d_,D⟩
  cases n
 subst l z;have:k=0:=X
 subst this;exact .inr ⟨m,Z,Z⟩
theorem Rel.write{g2:Nat}{cs:Array Value}{d:List Value}{c:List (List AV)}(t:Rel I ι H w)(Q:H.get id=A ob)(p:ι id=A (b,cap))(D:w.heap[b]?=A (.cells cs ob.ty (0,0)))
  (e:C d=C c*ob.sz) (y:uG w I ι H ob.sz d c) (L:∀r∈c,C r=ob.sz) (z_:off<=C ob.rows) (y_:off+C c<=cap) (F:ob.g<=g2)
  (A_:H'.get id=A ⟨g2,ob.sz,ob.ty,ob.rows.take off++(c++ob.rows.drop (off+C c))⟩) (o:∀j,j≠id->H'.get j=H.get j) :
  Rel I ι H' (w.setRow b (cs.toList.take (off*ob.sz)++d++cs.toList.drop (off*ob.sz+C d)).toArray)/\Step I ι H w I ι H' (w.setRow b (cs.toList.take (off*ob.sz)++d++cs.toList.drop (off*ob.sz+C d)).toArray):=by
 obtain ⟨p1,q,⟨b',cap',cs',G,R,e3,f_,e5,e5',W⟩|⟨G,_⟩⟩:=(t.obj id ob Q).cells ((t.obj id ob Q).pos p D)
 .rw[p]at G;cases G;rw[D]at R;cases R;have l:uG w I ι H ob.sz cs.toList ob.rows:=λi r s k a K=>by
   have ⟨v,P,E,J⟩:=W i r s k a K;exact⟨v,by simpa using P,E,J⟩
  have B:off<=cap:=X
  have x:C (cs.toList.take (off*ob.sz))=C (ob.rows.take off)*ob.sz:=by
   have:off*ob.sz<=cap*ob.sz:=mul_le_mul_right _ B;rw[m_,m_,Array.length_toList,f_,Nat.min_eq_left this,Nat.min_eq_left z_]
  have g:off*ob.sz+C d=(off+C c)*ob.sz:=by rw[e,Nat.add_mul]
  have f:uG w I ι H ob.sz (d++(cs.toList.drop (off*ob.sz+C d)++[])) (c++ob.rows.drop (off+C c)):=by
   refine uG.app y e ?_;rw[g];exact l.drop _
  rw[append_nil]at f;have m:=uG.app (l3:=[]) (l.take q off) x f;rw[append_nil]at m;have n:(cs.toList.take (off*ob.sz)++d++cs.toList.drop (off*ob.sz+C d)).toArray.size=cap*ob.sz:=by
   have:(off+C c)*ob.sz<=cap*ob.sz:=mul_le_mul_right _ y_;simp only[size_toArray,j8,m_,p_,Array.length_toList,f_];omega
  refine Rel.update (ob':=⟨g2,ob.sz,ob.ty,ob.rows.take off++(c++ob.rows.drop (off+C c))⟩) t Q p D F Z Z (λ_=>?_) n ?_ (λr z=>?_) (λi r s k a K=>?_) A_ o
  .simp only[j8,m_,p_];omega
  .simp only[j8,m_,p_];omega
  .rcases mem_append.1 z with h|h
   .exact q r (mem_of_mem_take h)
   rcases mem_append.1 h with h|h
   .exact L r h
   exact q r (mem_of_mem_drop h)
  have ⟨u,P,E,J⟩:=m i r s k a K;refine⟨u,?_,E,J⟩;rw[getElem?_toArray,append_assoc];exact P
 simp_all
theorem WP{off n}{rows:List (List AV)}(h:n=0):rows.take off++([]++rows.drop (off+n))=rows:=F_
theorem Mr{D f_:TypeId}{f:Nat}{h:List (List AV)}(ho:o.op=.call {callee:=.builtin .copy,args:=#[x,y],argTypes:=#[D,f_]})(hS:fN P D e sz)
  (hd:∀(a:Act) (w:World) (I:Nat->Prop) (ι:mD),Rel I ι H w->lS w I ι H E a->∃c,VRel w I ι H (a.eval x) (.osc id g off len c)) (hH:H.get id=A ob) (hg:ob.g=g) (γ:ob.sz=sz) (A_:off<=C ob.rows)
  (p:∀(a:Act) (w:World) (I:Nat->Prop) (ι:mD),Rel I ι H w->lS w I ι H E a->aCi w I ι H sz (a.eval y) f h) (σ:∀r∈h,C r=sz) (hn:C h=n) (z_:min f len=n)
  (o_:∀j,H2.get j=(H.set id ⟨g,sz,ob.ty,ob.rows.take off++(h++ob.rows.drop (off+n))⟩).get j):cP P r4 o E H (.pv (.int .i64 n)) H2:=by
 intro a w I ι _ _ G W K Q hk;have ⟨c,hv⟩:=hd a w I ι G W;have ⟨hz,h1,L⟩:=sI hv hH hg;have k:Nat.min f len=n:=z_;have v_:=hS.2.1;have u_:=hS.1;subst hg γ;have i_:n=0->(∀j,H2.get j=H.get j):=λh0 j=>by
  rw[o_ j];have δ:h=[]:=eq_nil_of_length_eq_zero X;subst δ;rw[WP h0];by_cases e:j=id
  .subst e;rw[aF.get_set_same,hH]
  exact aF.get_set_other _ _ e
 have l:∀d:List Value,∀v J,a.eval y=.slice (A v) f J->C d=n*ob.sz->(∀j u,d[j]?=A u->w.cell? (v.add j)=A u)->(Builtin.firstCells ob.sz n (a.eval y)).run P w=.ok d.toArray w:=λd v J s e2 e3=>by
  rw[s];exact run_firstCells_some (P:=P) w ob.sz n v f J d e2 e3
 rcases L with⟨b,oo,c1,c2,c3⟩|⟨c1,c2,c3,c4,c5⟩
 .by_cases m:n=0
  .have ⟨y_,k3⟩:=G.congr (i_ m);have z:(execOp a.eval o).run P w=.ok (.value (.int .i64 ((0:Nat):Int))) w:=by
    unfold execOp;have F:(Builtin.firstCells ob.sz n (a.eval y)).run P w=.ok #[] w:=by
     rcases p a w I ι G W with⟨v,J,d,i,B,t,e_,s5,s6⟩|⟨i,B,t⟩
     .have:=l d v J i G_ e_;have R:d=[]:=eq_nil_of_length_eq_zero F_;rw[this,R]
     rw[i];exact run_firstCells_none (P:=P) (w:=w) ob.sz n 0 0
    have q:(Builtin.lenOf (a.eval y)).run P w=.ok f w:=by
     rcases p a w I ι G W with⟨v,J,d,i,B,t,e_,s5,s6⟩|⟨i,B,t⟩
     .rw[i];rfl
     rw[i,B];rfl
    simp only[ho,resolve,invoke,builtin,Sem.run_bind,Sem.run_pure,Result.andThen_ok,map_toArray,map_cons,map_nil,c2,Builtin.copy_,run_underlying u_,v_];simp only[getElem?_toArray,getElem?_cons_zero,getElem?_cons_succ,run_underlying u_,Sem.run_bind,Sem.run_pure,Result.andThen_ok,v_,q,k,F];simp[storeCells,goInt,m]
   unfold Oper.wpW;rw[z];subst m;exact hk _ _ I ι _ _ ⟨Z,Z⟩ (.pv (.int _ _)) y_ k3
  obtain ⟨p1,p2,⟨b',cap',cs,s,e2,e3,e4,e5,e5',e6⟩|⟨s,_⟩⟩:=(G.obj id ob hH).cells hz
  .rw[c1]at s;cases s;have κ:=c3 X;subst κ;rcases p a w I ι G W with⟨v,J,d,i,B,t,e_,s5,s6⟩|⟨i,B,t⟩
   .have hnl:C d=n*ob.sz:=by rw[t,hn]
    have F:=l d v J i hnl e_;have τ:off*ob.sz+0+C d<=cs.size:=by
     rw[e4,hnl,Nat.add_zero,<-Nat.add_mul];exact mul_le_mul_right _ X
    have ρ:=run_storeCells_at P b (off*ob.sz) ob.ty d 0 cs w e2 τ s5;simp only[Nat.add_zero]at ρ;have ⟨y_,k3⟩:=Rel.write (H':=H2) (off:=off) (g2:=ob.g) G hH c1 e2 t s6 σ A_ X (h_ _) (by rw[o_,aF.get_set_same,hn]) (λj hj=>by rw[o_,aF.get_set_other _ _ hj]);unfold Oper.wpW execOp;simp only[ho,resolve,invoke,builtin,Sem.run_bind,Sem.run_pure,Result.andThen_ok,map_toArray,map_cons,map_nil,c2,Builtin.copy_,run_underlying u_,v_];have q:(Builtin.lenOf (a.eval y)).run P w=.ok f w:=by rw[i];rfl
    simp only[getElem?_toArray,getElem?_cons_zero,getElem?_cons_succ,run_underlying u_,Sem.run_bind,Sem.run_pure,Result.andThen_ok,v_,q,k,F,ρ];exact hk _ _ I ι _ _ ⟨Z,Z⟩ (.pv (.int _ _)) y_ k3
   omega
  rw[c1]at s;cases s
 have m:n=0:=X
 have ⟨y_,k3⟩:=G.congr (i_ m);have z:(execOp a.eval o).run P w=.ok (.value (.int .i64 ((0:Nat):Int))) w:=by
  unfold execOp;have F:(Builtin.firstCells ob.sz n (a.eval y)).run P w=.ok #[] w:=by
   rcases p a w I ι G W with⟨v,J,d,i,B,t,e_,s5,s6⟩|⟨i,B,t⟩
   .have:=l d v J i (by rw[t,hn]) e_;have R:d=[]:=eq_nil_of_length_eq_zero (by rw[t,hn,m];simp);rw[this,R]
   rw[i];exact run_firstCells_none (P:=P) (w:=w) ob.sz n 0 0
  have q:(Builtin.lenOf (a.eval y)).run P w=.ok f w:=by
   rcases p a w I ι G W with⟨v,J,d,i,B,t,e_,s5,s6⟩|⟨i,B,t⟩
   .rw[i];rfl
   rw[i,B];rfl
  rw[c4]at k;simp only[ho,resolve,invoke,builtin,Sem.run_bind,Sem.run_pure,Result.andThen_ok,map_toArray,map_cons,map_nil,c2,Builtin.copy_,run_underlying u_,v_];simp only[getElem?_toArray,getElem?_cons_zero,getElem?_cons_succ,run_underlying u_,Sem.run_bind,Sem.run_pure,Result.andThen_ok,v_,q,k,F];simp[storeCells,goInt,m]
 unfold Oper.wpW;rw[z];subst m;exact hk _ _ I ι _ _ ⟨Z,Z⟩ (.pv (.int _ _)) y_ k3
end
end
section
section
variable{P:Program}{r4:Nat}{o:Oper}{E:dG}{u4:TypeId}{x y:Operand}
theorem uH(t u ty e:TypeId)(i:TypeInfo)(z:Value)(k F:IntKind)(I:P.underlying t=A (.slice e))(p:P.underlying u=A (.int F))(hi:P.info? e=A i)(B:i.zero=A z)
  (b:Option Addr) (c d:Nat) (f:List Value) (K:∀w:World,(∀a:Addr,w.cell? a=w.cell? a)->True) (s:(Builtin.firstCells i.size c (.slice b c d)).run P w.drew=.ok f.toArray w.drew)
  (n:Nat) (J:0<n) (Q:0<i.size) (L:d<c+n) (H:((c+n:Nat):Int)<=9223372036854775807) (E:Builtin.nextslicecap (c+n) d*i.bytes<=281474976710656) (G:n*i.bytes<=281474976710656) :
  (Builtin.append_ #[t,u] ty #[.slice b c d,.int k n]).run P w =
   .ok (.slice (A ⟨w.heap.size,0,ζ⟩) (c+n) (grownCap w (c+n) d e))
    (w.drew.alloc (.cells (f.toArray++Builtin.zeroCells z.cells n++Builtin.zeroCells z.cells (grownCap w (c+n) d e - (c+n))) e)):=by
 have D:¬ (c+n<=d):=X
 have v:ξ.wrap (n:Int)=n:=by rw[IntKind.wrap_i64];omega
 have l:¬ (9223372036854775807<((c:Int)+(n:Int))):=X
 have m:¬ (281474976710656<Builtin.nextslicecap (c+n) d*i.bytes):=X
 have j:¬ (281474976710656<(n:Int)*(i.bytes:Int)):=by
  omega
 have g:¬ ((n:Int)<0):=X
 have h:n≠0:=X
 have q:¬ (n*i.size=0):=Nat.mul_ne_zero h X;simp[Builtin.append_,run_underlying I,run_underlying p,sizeOf,typeInfo,zeroValue,hi,B,asInt,asIntOf,v,D,h,g,q,l,m,j,Question.forced,s,newRow,grownCap]
theorem Au{z:Value}{b:List AV}(g:CK w I ι H z.cells b)(p:C b=sz)(d:z.cells.size=sz)(v:0<sz)(n:Nat):
  (C (Builtin.zeroCells z.cells n).toList)=n*sz/\(∀u∈(Builtin.zeroCells z.cells n).toList,u.oneCell'=T)/\uG w I ι H sz (Builtin.zeroCells z.cells n).toList (List.replicate n b):=by
 have c:∀j,j<n*sz->∃f:j % sz<z.cells.size,(Builtin.zeroCells z.cells n).toList[j]?=A (z.cells[j % sz]):=by
  intro j s;have f:j % sz<z.cells.size:=by rw[d];exact mod_lt _ v
  refine⟨f,?_⟩;rw[Array.getElem?_toList];simp only[Builtin.zeroCells,Array.getElem?_map]
  grind
 have q:C (Builtin.zeroCells z.cells n).toList=n*sz:=by rw[Array.length_toList,size_zeroCells,d]
 refine⟨q,?_,?_⟩
 .intro u G;have ⟨j,s⟩:=s8.1 G;have D:j<n*sz:=by
   have:=(m9.1 s).1;rw[q]at this;exact this
  have ⟨f,e⟩:=c j D;rw[e]at s;cases s;have B:j % sz<C b:=X
  have ⟨u,h,E,_⟩:=g.2 _ _ (n_ B);rw[Array.getElem?_eq_getElem f]at h;cases h;exact E
 intro i r t k av f;rw[getElem?_replicate]at t
 split at t
 .cases t;rename_i d_;have m:k<sz:=by rw[<-p];exact(m9.1 f).1
  have l:i*sz+k<n*sz:=by
   have:(i+1)*sz<=n*sz:=mul_le_mul_right _ d_;rw[Nat.add_mul]at this;omega
  have ⟨J,e⟩:=c _ l;have ⟨u,h,E,F⟩:=g.2 k av f;refine⟨u,?_,E,F⟩;rw[e];rw[Array.getElem?_eq_getElem (by rw[d];exact m)]at h;cases h;congr 2;exact G8 m
 cases t
theorem RG{u_:TypeId}{m bytes id2:Nat}{kk kn:IntKind}{q:Int}(ho:o.op=.call {callee:=.builtin .append,args:=#[x,y],argTypes:=#[u4,u_]})(hS:fN P u4 e sz)(z_:P.underlying u_=A (.int kn))(i_:EI P e sz bytes)(hZ:eU P e f)(e_:C f=sz)
  (hx:aQ E x=A (.osc id g 0 n c)) (hH:H.get id=A ob) (hg:ob.g=g) (v_:ob.sz=sz) (o_:n<=C ob.rows)
  (hy:aQ E y=A (.pv (.int kk q))) (hq:q=(m:Int)) (J:0<m) (hroom:c<n+m) (hk:n+m=k) (p:(n+m)*bytes<=140737488355328) (hid:H.get id2=ζ)
  (c_:ob.rows.take n++List.replicate m f=rows'):cP P r4 o E H (.osl id2 0 0 k) ((id2,⟨0,sz,e,rows'⟩)::H):=by
 intro a w I ι _ _ hr he K Q β;have hmax:=fp i_.2 p;have ⟨⟨i,z,hi,hz,l,W,σ,hsz0⟩,_⟩:=i_;have ⟨t,zv,z1,z2,z3⟩:=hZ;have ρ:t=z:=by
  have:=z1 w;simp[zeroValue,typeInfo,hi,hz]at this;exact this.symm
 subst ρ hg v_ hk c_ hq;have hml:n+m<=maxLen:=by simp only[maxLen];omega
 have hv:=aJ he hx;have τ:=(aJ he hy).int_inv;have ⟨s,h1,G⟩:=sI hv hH Z;have hT:=hS.1;have p2:=((hr.obj id ob hH).cells s).2.1;have δ:=CK.of_cells (ZV.rel (w:=w) (I:=I) (ι:=ι) (H:=H) z2) z3;have ⟨zl,_,zr⟩:=Au δ e_ σ s m;have hrl:∀r∈ob.rows.take n++List.replicate m f,C r=ob.sz:=λr hr'=>by
  grind
 have g1:aF.get ((id2,(⟨0,ob.sz,e,ob.rows.take n++List.replicate m f⟩:Ob))::H) id2=A ⟨0,ob.sz,e,ob.rows.take n++List.replicate m f⟩:=get_cons_same _ _ _;have g2:∀j,j≠id2->aF.get ((id2,(⟨0,ob.sz,e,ob.rows.take n++List.replicate m f⟩:Ob))::H) j=H.get j:=λj hj=>get_cons_other _ _ hj;have R:C (ob.rows.take n++List.replicate m f)=n+m:=F_
 have hge:=grownCap_ge w (n+m) c e;have κ:=grownCap_le_maxLen w (n+m) c e hml;have v:∀(d:List Value),C d=n*ob.sz->uG w I ι H ob.sz d (ob.rows.take n) ->
   (Builtin.append_ #[u4,u_] o.type #[a.eval x,a.eval y]).run P w=.ok (.slice (A ⟨w.heap.size,0,ζ⟩) (n+m) (grownCap w (n+m) c e)) (w.drew.alloc (.cells (d.toArray++Builtin.zeroCells t.cells m++Builtin.zeroCells t.cells (grownCap w (n+m) c e - (n+m))) e))->o.wpW P a w K Q:=by
  intro d L q2 h;have ⟨k2,k3⟩:=Rel.place (H':=(id2,⟨0,ob.sz,e,ob.rows.take n++List.replicate m f⟩)::H) (id:=id2) (cap:=grownCap w (n+m) c e) (ob':=⟨0,ob.sz,e,ob.rows.take n++List.replicate m f⟩)
   (cs':=d.toArray++Builtin.zeroCells t.cells m++Builtin.zeroCells t.cells (grownCap w (n+m) c e - (n+m)))
   (w':=w.drew.alloc (.cells (d.toArray++Builtin.zeroCells t.cells m++Builtin.zeroCells t.cells (grownCap w (n+m) c e - (n+m))) e)) hr Z Z Z Z
   (λo' ho'=>by simp_all) s (by
    simp only[Array.size_append,size_toArray,size_zeroCells,σ,L,<-Nat.add_mul]
    simp_all) F_ κ hrl (λi' r F k' a' γ=>by
     have ⟨u,f_,t2,t3⟩:=uG.app (l3:=(Builtin.zeroCells t.cells (grownCap w (n+m) c e - (n+m))).toList) q2 (by rw[L,m_,Nat.min_eq_left o_]) zr i' r F k' a' γ;refine⟨u,?_,t2,t3⟩;rw[<-Array.getElem?_toList]
     simpa[append_assoc]using f_) g1 g2
  unfold Oper.wpW execOp;simp only[ho,resolve,invoke,builtin,Sem.run_bind,Sem.run_pure,Result.andThen_ok,map_toArray,map_cons,map_nil,h];exact β _ _ I _ _ _ ⟨Z,Z⟩ (.osl _ g1 (h_ _) Z λ_=>⟨s,by rw[R];omega,.inl ⟨w.heap.size,_,0,by simp;rfl,H_,λ_=>by simp⟩⟩) k2 k3
 have B:Builtin.nextslicecap (n+m) c*i.bytes<=281474976710656:=growslice_fits X (by rw[W];exact p);have d_:m*i.bytes<=281474976710656:=by
  have:m*i.bytes<=(n+m)*i.bytes:=mul_le_mul_right _ X;rw[W]at this |-;omega
 rcases G with⟨b,oo,c1,c2,c3⟩|⟨c1,c2,c3,c4,c5⟩
 .have hoo:oo=0:=by rw[c3 (.inr Z)];simp
  subst hoo;have y_:=Jh hr (show VRel w I ι H (.slice (A ⟨b,0,ζ⟩) n c) (.osc id ob.g 0 n c)by rw[<-c2];exact hv) hH Z Z n (h_ _) X;rw[drop_zero]at y_;rcases y_ with⟨ad0,c0,d,f_,t2,t3,t4,t5,t6⟩|⟨f_,_⟩
  .injection f_ with L q2 q3;injection L with L;subst L;have A_:C d=n*ob.sz:=by rw[t3,m_,Nat.min_eq_left o_]
   have D:=run_firstCells_some (P:=P) w.drew i.size n ⟨b,0,ζ⟩ n c d (by rw[l];exact A_) (by simpa using t4);have h:=uH (P:=P) (w:=w) u4 u_ o.type e i t kk kn hT z_ hi hz (A ⟨b,0,ζ⟩) n c d (λ_ _=>trivial) D m J (by rw[l];exact s) X X B d_;exact v d A_ t6 (by rw[c2,τ];exact h)
  cases f_
 subst c4 c5;have D:=run_firstCells_none (P:=P) (w:=w.drew) i.size 0 0 0;have h:=uH (P:=P) (w:=w) u4 u_ o.type e i t kk kn hT z_ hi hz ζ 0 0 [] (λ_ _=>trivial) D m J (by rw[l];exact s) X X B d_;exact v [] H_ (by intro i r F;simp at F) (by rw[c2,τ];exact h)
theorem Di(ho:o.op=.call {callee:=.builtin .clear,args:=#[x],argTypes:=#[u4]})(hS:fN P u4 e sz)(hZ:eU P e f)(h:C f=sz)
  (hx:aQ E x=A (.osc id g off len c)) (v_:H.get id=A ob) (hg:ob.g=g) (G:ob.sz=sz) (R:off<=C ob.rows) (s:ob.rows.take off++(List.replicate len f++ob.rows.drop (off+len))=rows') :
  cP P r4 o E H .any ((id,⟨g,sz,ob.ty,rows'⟩)::H):=by
 intro a w I W _ _ hr he K Q L;have ⟨z,zv,z1,z2,z3⟩:=hZ;subst hg G s;have hv:=aJ he hx;have ⟨v,h1,t⟩:=sI hv v_ Z;have hT:=hS.1;have B:=CK.of_cells (ZV.rel (w:=w) (I:=I) (ι:=W) (H:=H) z2) z3;have p:z.cells.size=ob.sz:=by rw[<-h];exact B.1
 have m:len=0->(execOp a.eval o).run P w=.ok (.value (.tuple #[])) w->o.wpW P a w K Q:=by
  intro u_ c_;have ⟨k2,k3⟩:=hr.congr (H':=(id,⟨ob.g,ob.sz,ob.ty,ob.rows.take off++(List.replicate len f++ob.rows.drop (off+len))⟩)::H) (λj=>by
   subst u_;rw[replicate_zero,WP rfl];by_cases e:j=id
   .subst e;rw[get_cons_same,v_]
   exact get_cons_other _ _ e)
  unfold Oper.wpW;rw[c_];exact L _ _ I W _ _ ⟨Z,Z⟩ (.any _) k2 k3
 rcases t with⟨b,oo,z_,A_,c3⟩|⟨z_,A_,c3,c4,c5⟩
 .by_cases u_:len=0
  .refine m u_ ?_;unfold execOp;simp only[ho,resolve,invoke,builtin,Sem.run_bind,Sem.run_pure,Result.andThen_ok,map_toArray,map_cons,map_nil,A_,u_,Builtin.clear_];simp[run_underlying hT]
  obtain ⟨p1,p2,⟨b',cap',cs,y,e2,e3,e4,e5,e5',e6⟩|⟨y,_⟩⟩:=(hr.obj id ob v_).cells v
  .rw [z_] at y;cases y;have δ:=c3 X;subst δ;have q:C (Builtin.zeroCells z.cells len).toList=C (List.replicate len f)*ob.sz:=by
    rw[Array.length_toList,size_zeroCells,p,length_replicate]
   have n:∀j,j<len*ob.sz->∃J:j % ob.sz<z.cells.size,(Builtin.zeroCells z.cells len).toList[j]?=A (z.cells[j % ob.sz]):=by
    intro j d;have J:j % ob.sz<z.cells.size:=by rw[p];exact mod_lt _ v
    refine⟨J,?_⟩;rw[Array.getElem?_toList];simp only[Builtin.zeroCells,Array.getElem?_map]
    grind
   have F:∀u∈(Builtin.zeroCells z.cells len).toList,u.oneCell'=T:=by
    intro u hu;have ⟨j,d⟩:=s8.1 hu;have τ:j<len*ob.sz:=by
     have:=(m9.1 d).1;rw[q,length_replicate]at this;exact this
    have ⟨J,e⟩:=n j τ;rw[e]at d;cases d;have σ:j % ob.sz<C f:=by rw[h];exact mod_lt _ v
    have ⟨u,f_,q2,_⟩:=B.2 _ _ (n_ σ);rw[Array.getElem?_eq_getElem J]at f_;cases f_;exact q2
   have ρ:uG w I W H ob.sz (Builtin.zeroCells z.cells len).toList (List.replicate len f):=by
    intro i r y_ k av J;rw[getElem?_replicate]at y_
    split at y_
    .cases y_;rename_i hlt;have o_:k<ob.sz:=by rw[<-h];exact(m9.1 J).1
     have l:i*ob.sz+k<len*ob.sz:=by
      have:(i+1)*ob.sz<=len*ob.sz:=mul_le_mul_right _ hlt;rw[Nat.add_mul]at this;omega
     have ⟨β,e⟩:=n _ l;have ⟨u,f_,q2,q3⟩:=B.2 k av J;refine⟨u,?_,q2,q3⟩;rw[e];rw[Array.getElem?_eq_getElem (by rw[p];exact o_)]at f_;cases f_;congr 2;exact G8 o_
    cases y_
   have l:off*ob.sz+0+C (Builtin.zeroCells z.cells len).toList<=cs.size:=by
    rw[e4,q,length_replicate,Nat.add_zero,<-Nat.add_mul];exact mul_le_mul_right _ X
   have D:=run_storeCells_at P b (off*ob.sz) ob.ty (Builtin.zeroCells z.cells len).toList 0 cs w e2 l F;simp only[Nat.add_zero]at D;have ⟨k2,k3⟩:=Rel.write (H':=(id,⟨ob.g,ob.sz,ob.ty,ob.rows.take off++(List.replicate len f++ob.rows.drop (off+len))⟩)::H) (off:=off) (g2:=ob.g) hr v_ z_ e2 q ρ (λr γ=>by rw[(mem_replicate.1 γ).2];exact h) R (by rw[length_replicate];omega) (h_ _) (by rw[get_cons_same,length_replicate]) (λj d=>get_cons_other _ _ d);unfold Oper.wpW execOp;simp only[ho,resolve,invoke,builtin,Sem.run_bind,Sem.run_pure,Result.andThen_ok,map_toArray,map_cons,map_nil,A_,Builtin.clear_];have ⟨n',κ⟩:∃n',len=n'+1:=⟨len - 1,X⟩;subst κ;simp only[getElem?_toArray,getElem?_cons_zero,run_underlying hT,Sem.run_bind,Sem.run_pure,Result.andThen_ok,z1,D];exact L _ _ I W _ _ ⟨Z,Z⟩ (.any _) k2 k3
  rw[z_]at y;cases y
 refine m c4 ?_;unfold execOp;simp only[ho,resolve,invoke,builtin,Sem.run_bind,Sem.run_pure,Result.andThen_ok,map_toArray,map_cons,map_nil,A_,Builtin.clear_];simp[run_underlying hT]
end
end
section
section
variable{P:Program}{r4:Nat}{o:Oper}{E:dG}{u4 t t':TypeId}{x y:Operand}
theorem pq{e}(w)(h:P.underlying t=A (.slice e))(a)(n c b B):(binOp .eql t (.slice a n c) (.slice ζ b B)).run P w=.ok (.bool a.isNone) w:=by simp[binOp];cases a<;>simp[Op.equal,Op.maxDepth,Lib.run_equalIn_slice_nil w _ t e _ n c _ _ h]
theorem qo(i:o.op=.binOp .eql t x (.const (.slice ζ 0 0)) t')(p:P.underlying t=A (.slice e))(j:aQ E x=A (.pv (.sl rows))):nv P r4 o E H (λr H'=>H'=H/\∃b,r=.pv (.bool b)/\(b=T->rows=[])):=by
 intro a w I m _ _ k h K Q s;have f:=(aJ h j).pv_inv;have l:a.eval (.const (.slice ζ 0 0))=.slice ζ 0 0:=rfl;have ⟨b,n,c,q,g⟩:∃(b:Option Addr) (n c:Nat),a.eval x=.slice b n c/\(b.isNone=T->rows=[]):=by
  generalize a.eval x=v at f;cases f with
  |nilsl=>simp_all
  |empsl a=>simp_all
  |sl b off cap sz _ cs g B D F G J=>simp_all
 unfold Oper.wpW;have d:(execOp a.eval o).run P w=.ok (.value (.bool b.isNone)) w:=by
  simp only[execOp,i,q,l,eqGuard_at_slice,Sem.run_bind,Sem.run_pure,Result.andThen_ok,pq _ p]
 rw[d];exact s _ _ I m _ _ ⟨Z,_,Z,g⟩ (.pv (.bool _)) k (Step.refl _ _ _ _)
def aA7(E:dG)(H:aF)(sz:Nat)(y:Operand)(len:Nat)(rows:List (List AV)):Prop :=∀(a:Act) (w:World) (I:Nat->Prop) (ι:mD),Rel I ι H w->lS w I ι H E a->aCi w I ι H sz (a.eval y) len rows
def aA8(E:dG)(H:aF)(x:Operand)(id g off len:Nat):Prop :=∀(a:Act) (w:World) (I:Nat->Prop) (ι:mD),Rel I ι H w->lS w I ι H E a->∃c,VRel w I ι H (a.eval x) (.osc id g off len c)
theorem tq{id g off len}{ob}(d:aQ E x=A (.osl id g off len))(i:H.get id=A ob)(b:ob.g=g):aA8 E H x id g off len:=λa w I ι e f =>
 let ⟨c,_,_,h⟩:=xx e (aJ f d) i b
 ⟨c,h⟩
theorem aAj{D f_ e}{ob}{a rows'}(q:o.op=.call {callee:=.builtin .copy,args:=#[x,y],argTypes:=#[D,f_]})(B:fN P D e sz)
  (F:aA8 E H x id g off len) (m:H.get id=A ob) (p:ob.g=g) (k:ob.sz=sz) (d:off<=C ob.rows)
  (f:aA7 E H sz y b a) (i:∀r∈a,C r=sz) (l:C a=n) (h:min b len=n)
  (c:ob.rows.take off++(a++ob.rows.drop (off+n))=rows'):cP P r4 o E H (.pv (.int .i64 n)) ((id,⟨g,sz,ob.ty,rows'⟩)::H):=by
 subst c;exact Mr q B F m p k d f i l h (λj=>yF _ _ _ j)
end
def kj(ob:Ob)(k:Nat):Ob:=⟨k,ob.sz,ob.ty,[]⟩
theorem Step.deadK{w}{I}{ι}{H}{id k}{ob}(g:H.get id=A ob)(i:ob.g<k):Step I ι H w (rJ I ι id) (wC ι id) ((id,kj ob k)::H) w where
 os:=rfl
 tape:=rfl
 output:=rfl
 size:=h_ _
 froz:=λ_ _ _=>rfl
 imm:=λ_ h=>.inl h
 immNew:=λb c=>by
  rcases c with c|⟨a,c⟩
  .simp_all
  exact .inr (.inl ⟨id,ob,a,g,c⟩)
 own:=λb c=>by
  have ⟨j,o,a,d,f⟩:=c;by_cases e:j=id
  .rw[wC,b6 e]at f;cases f
  rw[wC,a8 e]at f;rw[get_cons_other _ _ e]at d;exact .inl ⟨j,o,a,d,f⟩
 keep:=λ_ _ _=>rfl
 objs:=λj o d=>by
  by_cases e:j=id
  .subst e;rw[g]at d;cases d;exact⟨kj _ k,get_cons_same _ _ _,Nat.le_of_lt i,λh=>absurd h (by simp[kj];omega)⟩
  exact⟨o,by rw[get_cons_other _ _ e];exact d,h_ _,λ_=>⟨a8 e,Z,λ_=>h_ _⟩⟩
theorem Rel.deadK{I}(g:Rel I ι H w)(s:H.get id=A ob)(D:ob.g<k)(q:0<ob.sz):Rel (rJ I ι id) (wC ι id) ((id,kj ob k)::H) w:=by
 have t:=Step.deadK (w:=w) (I:=I) (ι:=ι) s D;refine⟨λb d=>?_,λj o f=>?_,λj y o z b c B f n p i=>?_,g.glob.mono (λ_ _=>rfl) (λ_ h=>.inl h)⟩
 .rcases d with d|⟨l,d⟩
  .exact g.imm b d
  exact g.lt ⟨id,ob,l,s,d⟩
 .by_cases e:j=id
  .subst e;rw[get_cons_same]at f;cases f;exact .inl ⟨q,by simp[kj],.inr ⟨b6 Z,Z⟩⟩
  rw[get_cons_other _ _ e]at f;refine(g.obj j o f).keep (a8 e) (λb l E _=>⟨Z,λh=>?_⟩) (λr _ a _ v F=>F.mono g t);rintro(d|⟨m,d⟩)
  ·grind
  exact e (g.inj j id o ob b l m f s E d)
 have x:j≠id:=λe=>by rw[wC,b6 e]at p;cases p
 have u:y≠id:=λe=>by rw[wC,b6 e]at i;grind
 rw[wC,a8 x]at p;rw[wC,a8 u]at i;rw[get_cons_other _ _ x]at f;rw[get_cons_other _ _ u]at n;exact g.inj j y o z b c B f n p i
theorem Fin.deadO{G0 H}{r}(b:H.get id=A ob)(c:ob.g<k)(a:0<ob.sz)(h:ob.sz=sz)(f:ob.ty=ty):Fin G0 H r ((id,⟨k,sz,ty,[]⟩)::H) r:=by intro G B I ι w v d e g;subst h f;exact⟨_,_,d.deadK b c a,e.trans (Step.deadK b c),g.mono d (Step.deadK b c)⟩
theorem Fin.bump{G0 H}{rows}(c:H.get id=A ob)(y:ob.g=g)(u:g<k)(l:ob.sz=sz)(s:ob.ty=ty)(x:ob.rows=rows):Fin G0 H (.osl id g off n) ((id,⟨k,sz,ty,rows⟩)::H) (.osl id k off n):=by
 intro G B I m w v t h f;subst y l s x;have ⟨p,o⟩:=Rel.tick (ob':=⟨k,ob.sz,ob.ty,ob.rows⟩) t c u Z Z Z (get_cons_same _ _ _) (λj r=>get_cons_other _ _ r);refine⟨I,m,p,h.trans o,?_⟩;have ⟨i,d⟩:=jX f c Z;have q:=qO f c Z;have a:v.oneCell'=T:=by
  rcases d with⟨b,cap,oo,_,e,_⟩|⟨_,e,_⟩<;>subst e<;>rfl
 exact .osl _ (get_cons_same _ _ _) (h_ _) a λ_=>⟨q,i,d⟩
end
section
section
variable{P:Program}{G0:aF}{r4:Nat}{Q:Exit->dG->aF->Prop}{E:dG}{code:Code}
theorem UY{t id sz}{ty}(r:E.get t=A (.pv .nils))(i:H.get id=ζ)(B:Nat.blt 0 sz=T)(h:fW P G0 r4 code Q ((t,.osc id 0 0 0 0)::E) ((id,⟨0,sz,ty,[]⟩)::H)):fW P G0 r4 code Q E H:=by
 intro G o a w d;have ⟨I,ι,l,j,n⟩:=d.rel;have ⟨v,s,f⟩:=n t _ r;have m:0<sz:=F_
 obtain ⟨p,k⟩:=Rel.adopt l i m;have g:v=.slice ζ 0 0:=by
  have:=f.pv_inv;cases this;rfl
 subst g;refine h G o a w ⟨d.defers,d.size,I,_,p,j.trans k,λu x b=>?_⟩;by_cases e:t=u
 .subst e;rw[dG.get_cons_same]at b;cases b;exact⟨_,s,.osc _ (get_cons_same _ _ _) (h_ _) Z λ_=>⟨m,h_ _,.inr ⟨H_,Z,Z,Z,Z⟩⟩⟩
 rw[dG.get_cons_other _ _ e]at b;have ⟨c,q,y⟩:=n u x b;exact⟨c,q,y.mono l k⟩
end
section
variable{P:Program}{r4:Nat}{o:Oper}{E:dG}{u4:TypeId}{x y:Operand}{Q:AV->aF->Prop}
theorem KX{F}{f y}{e}{v}(p:o.op=.call {callee:=.value f,args:=#[.const (.slice ζ 0 0),y],argTypes:=e})(m:aQ E f=A (.pv (.fn F)))
  (l:∀(args) (w),(callFunc F args).run P w=.ok (.enter F args) w) (n:aQ E y=A v) (h:aU P F [.pv .nils,v] H Q):nv P r4 o E H Q:=by
 intro a w I ι _ _ k j K B D;have g:=(aJ j m).fn_inv;unfold Oper.wpW execOp;simp[p,resolve,g,Deferred.ofValue,Sem.run_bind,Sem.run_pure,Result.andThen_ok,invoke,l,Oper.uponW_enter];refine(h I _ w _ k (Z) (λi u b d c=>?_)).mono ?_
 .match i with
  |0=>simp[Act.eval]at d c;subst d c;exact .pv .nils
  |1=>simp at d c;subst d c;exact aJ j n
  |i+2=>simp at c
 grind
end
theorem Rel.cut(g:Rel I ι H w)(y:H.get id=A ob)(hg:ob.g<k)(r4:0<ob.sz)
  (R:H'.get id=A ⟨k,ob.sz,ob.ty,ob.rows.take n⟩) (F:∀j,j≠id->H'.get j=H.get j):Rel I ι H' w/\Step I ι H w I ι H' w:=by
 have f:Step I ι H w I ι H' w:=by
  refine⟨Z,Z,Z,h_ _,λa _ _=>rfl,λ_ h=>h,λ_ h=>.inl h,?_,λ_ _ _=>rfl,?_⟩
  .rintro x ⟨j,o,c,d,s⟩;by_cases e:j=id
   .subst e;exact .inl ⟨j,ob,c,y,s⟩
   exact .inl ⟨j,o,c,(F j e).symm.trans d,s⟩
  grind
 refine⟨⟨g.imm,?_,?_,f.glob g⟩,f⟩
 .intro j o d;by_cases e:j=id
  .subst e;rw[R]at d;cases d;obtain ⟨G,K,⟨b,E,o_,z,L,v_,y_,e5,p,f_⟩|⟨z,L⟩⟩:=(g.obj j ob y).cells r4
   .refine .inl ⟨G,λr l=>K r (mem_of_mem_take l),.inl ⟨b,E,o_,z,L,v_,y_,?_,p,λi r D q a t=>?_⟩⟩
    .grind
    simp only[getElem?_take]at D
    split at D
    .have ⟨v,e_,Q,W⟩:=f_ i r D q a t;exact⟨v,e_,Q,W.mono g f⟩
    grind
   exact .inl ⟨G,λr l=>K r (mem_of_mem_take l),.inr ⟨z,F_⟩⟩
  rw[F j e]at d;exact(g.obj j o d).keep Z (λx c _ _=>⟨Z,λh=>h⟩) (λr _ a _ v A_=>A_.mono g f)
 intro j J o u_ x c P d i_ s u;have m:∀j o,H'.get j=A o->∃o,H.get j=A o:=by
  intro j o d;by_cases e:j=id
  .exact⟨ob,e▸y⟩
  exact⟨o,(F j e).symm.trans d⟩
 have ⟨q,t⟩:=m j o d;have ⟨u4,B⟩:=m J u_ i_;exact g.inj j J q u4 x c P t B s u
theorem Fin.trunc{G0 H}{rows}(c:H.get id=A ob)(t:ob.g=g)(o:g<k)(s:ob.sz=sz)(q:ob.ty=ty)(r:ob.rows.take n=rows):Fin G0 H (.osl id g 0 n) ((id,⟨k,sz,ty,rows⟩)::H) (.osl id k 0 n):=by
 intro G hG I u w v m x f;subst t s q r;have h:=qO f c Z;obtain ⟨q1,d⟩:=jX f c Z;obtain ⟨i,l⟩:=Rel.cut m c o h (get_cons_same _ _ _) (λj p=>get_cons_other _ _ p);refine⟨I,u,i,x.trans l,?_⟩;have a:v.oneCell'=true:=by
  rcases d with⟨b,cap,oo,_,e,_⟩|⟨_,e,_⟩<;>subst e<;>rfl
 exact .osl _ (get_cons_same _ _ _) (h_ _) a λ_=>⟨h,F_,d⟩
theorem aU.congrH{P}{f}{args}{H H1 H2}{b}(h:aU P f args H (λr H'=>r=b/\H'=H1))(n:∀j,H2.get j=H1.get j):aU P f args H (λr H'=>r=b/\H'=H2):=by intro I ι w vs l k p;refine(h I _ w _ l k p).mono ?_;rintro e w' ⟨r,H',g,a,v,rfl,⟨rfl,rfl⟩,o,d,i⟩;have ⟨m,c⟩:=d.congr n;exact⟨r,H2,g,a,v,Z,⟨Z,Z⟩,o.mono d c,m,i.trans c⟩
theorem aU.frameS{P}{f}{args}{H0 H}{c}(h:aU P f args H0 (λr H'=>r=c/\H'=H0))(b:Sub H0 H)(g:dN H0)(i:∀a∈args,Clo H0 a):aU P f args H (λr H'=>r=c/\H'=H):=by
 refine(aU.frame h b g i (λid d=>.inl d)).congrH λj=>?_;rw[gN];cases e:H0.get j with
 |some o=>exact b j o e
 |none=>rfl
theorem Sub.of2{i j}{a b}{H}(E:H.get i=A a)(F:H.get j=A b):Sub [(i,a),(j,b)] H:=by
 intro id o c;simp[aF.get]at c;cases B:Nat.beq i id with
 |true =>
  simp_all
 | false =>
  cases D:Nat.beq j id with
  |true =>
   simp_all
  |false=>simp_all
end
section
theorem TJ{w}{I}{ι}{H}{v}(h:VRel w I ι H v (.pv .nils)):v=.slice ζ 0 0:=by have:=h.pv_inv;cases this;rfl
section
variable{P:Program}{r4:Nat}{o:Oper}{E:dG}{f_ u4 t t' e:TypeId}{x y:Operand}
theorem K6(f:o.op=.call {callee:=.builtin .cap,args:=#[x],argTypes:=#[u4]})(d:P.underlying u4=A (.slice e))(h:aQ E x=A (.pv .nils)):cP P r4 o E H (.pv (.int .i64 0)) H :=.of_run λa w I ι _ b=>⟨.int _ 0,by
  have c:=TJ (aJ b h);simp[execOp,f,resolve,invoke,builtin,c,Builtin.cap_,run_underlying d,goInt],.pv (.int _ _)⟩
theorem K4(f:o.op=.call {callee:=.builtin .len,args:=#[x],argTypes:=#[u4]})(d:P.underlying u4=A (.slice e))(h:aQ E x=A (.pv .nils)):cP P r4 o E H (.pv (.int .i64 0)) H :=.of_run λa w I ι _ b=>⟨.int _ 0,by
  have c:=TJ (aJ b h);simp[execOp,f,resolve,invoke,builtin,c,Builtin.len_,run_underlying d,goInt],.pv (.int _ _)⟩
theorem fk{sz}(c:aQ E y=A (.pv .nils)):aA7 E H sz y 0 []:=λa w I ι B b=>.inr ⟨TJ (aJ b c),Z,Z⟩
theorem eu{lo hi}{rows'}(D:o.op=.slice u4 x lo hi ζ)(hS:fN P u4 e sz)(e_:aQ E x=A (.osl id g 0 len))
  (i:H.get id=A ob) (z:ob.g=g) (q:ob.sz=sz) (l:bnd E lo 0=A ((0:Nat):Int)) (u:bnd E hi len=A (h:Int)) (y_:h<=len) (v_:g+1=k) (d:ob.rows.take h=rows'):cP P r4 o E H (.osl id k 0 h) ((id,⟨k,sz,ob.ty,rows'⟩)::H):=by
 subst v_ d q;intro a w I G o_ m A_ W K Q s;refine HV D hS.1 hS.2.1 e_ i z Z l u (l7 _) y_ Z (Nat.sub_zero h) a w I G o_ m A_ W K Q ?_;rintro c u_ L ι' r H' ⟨rfl,rfl⟩ B v p;have d_:=qO B i z;obtain ⟨q1,i_⟩:=jX B i z;obtain ⟨F,R⟩:=Rel.cut (k:=g+1) v i X d_ (get_cons_same _ _ _) (λj c_=>get_cons_other _ _ c_);have f:c.oneCell'=true:=by
  rcases i_ with⟨b,cap,oo,_,e,_⟩|⟨_,e,_⟩<;>subst e<;>rfl
 exact s c u_ L _ _ _ ⟨Z,Z⟩ (.osl _ (get_cons_same _ _ _) (h_ _) f λ_=>⟨d_,F_,i_⟩) F (p.trans R)
theorem UK:∀(n t) (acc),(∀v∈acc.toList,v.oneCell'=T)->∀v∈(Extern.BytealgMakeNoZero.digits n t acc).toList,v.oneCell'=T
 |0,_,_,h=>h
 |n+1,t,acc,h=>by
  refine UK n _ _ λv a=>?_;rw[Array.toList_push,List.mem_append,q9]at a;rcases a with a|rfl
  .simp_all
  rfl
theorem po(w:World)(ps)(t e)(l:P.underlying t=A (.slice e))(n:Nat)(B:n<=281474976710656):
  ∃cs,(Extern.BytealgMakeNoZero.makeNoZero ps #[t] #[.int .i64 n]).run P w=.ok (.slice (A ⟨w.heap.size,0,ζ⟩) n cs.size) (w.drew.drew.alloc (.cells cs e))/\n<=cs.size/\(n<=maxLen->cs.size<=maxLen)/\∀v∈cs.toList,v.oneCell'=T:=by
 have f:Extern.BytealgMakeNoZero.makeNoZero ps #[t] #[.int .i64 n] =
   (do
    let .slice d <-underlying t|stuck _
    if n<0||(n:Int) > 2 ^ 48 then runtimePanic _
    let c <-choose _
    askRoom c
    let bytes <-choose _
    let a <-newRow d (Extern.BytealgMakeNoZero.digits c bytes #[])
    pure (.slice (A a) _ c)):=rfl
 refine⟨Extern.BytealgMakeNoZero.digits (grownCap w n 0 e) ((Question.extern "internal/bytealg.MakeNoZero.bytes" 0).cut (w.tape (w.drawn+1) (.extern "internal/bytealg.MakeNoZero.bytes" 0))) #[],?_,?_,?_,?_⟩
 .rw[f];have k:¬ (n:Int)<0:=X
  have j:¬ (281474976710656:Int)<(n:Int):=X
  simp[run_underlying l,k,j,Question.forced,newRow,Lib.size_digits,grownCap]
 .rw[Lib.size_digits]
  simpa using grownCap_ge w n 0 e
 .intro i;rw[Lib.size_digits]
  simpa using grownCap_le_maxLen w n 0 e i
 exact UK _ _ _ H_
theorem qt{f:Operand}{u:Array TypeId}{F:FuncId}{q:Func}{ps:Array TypeId}{m:Int}(v_:o.op=.call {callee:=.value f,args:=#[x],argTypes:=u})(z_:aQ E f=A (.pv (.fn F)))(W:P.funcs[F]?=A q)(h:(q.name == "runtime.NumGoroutine")=η)
  (D:q.body.isNone=T) (o_:Extern.findNext q=ζ) (he:Extern.find q=A (Extern.BytealgMakeNoZero.makeNoZero ps #[t])) (R:P.underlying t=A (.slice e)) (y_:aQ E x=A (.pv (.int .i64 m))) (G:m=(n:Int)) (i_:n<=140737488355328) (τ:H.get id=ζ) :
  cP P r4 o E H (.osl id 0 0 n) ((id,⟨0,1,e,List.replicate n [.any]⟩)::H):=by
 subst G;intro a w I ι _ _ hr J K Q A_;have z:=(aJ J z_).fn_inv;have κ:=(aJ J y_).int_inv;have ⟨d,e1,e2,j,L⟩:=po (P:=P) w ps t e R n X;have B:=Rel.drawn (w':=w.drew.drew) hr Z Z Z Z;have ⟨u_,g⟩:=B;have ⟨k1,c⟩:=Rel.place (H':=(id,⟨0,1,e,List.replicate n [.any]⟩)::H) (id:=id) (cap:=d.size) (ob':=⟨0,1,e,List.replicate n [.any]⟩) (cs':=d) (w':=w.drew.drew.alloc (.cells d e)) u_ Z Z Z Z
  (λo' σ=>by simp_all) Nat.zero_lt_one H_ F_ (j (Nat.le_trans i_ E_)) (λr ρ=>by simp_all) (λi r v k b s=>by
   rw[getElem?_replicate]at v
   split at v
   .cases v;cases k with
    |zero =>
     cases s;have p:i*1+0<d.size:=X
     exact⟨d[i*1+0],Array.getElem?_eq_getElem p,L _ (Array.getElem_mem_toList p),.any _⟩
    |succ k=>grind
   grind) (get_cons_same _ _ _) (λj y=>get_cons_other _ _ y)
 unfold Oper.wpW;have l:(execOp a.eval o).run P w=.ok (.value (.slice (A ⟨w.heap.size,0,ζ⟩) n d.size)) (w.drew.drew.alloc (.cells d e)):=by
  unfold execOp;simp only[v_,resolve,z,Deferred.ofValue,Sem.run_bind,Sem.run_pure,Result.andThen_ok,invoke,Array.empty_append,Array.append_empty,run_callFunc_extern W h D o_ he]
  simp_all
 rw[l];exact A_ _ _ I _ _ _ ⟨Z,Z⟩ (.osl ⟨0,1,e,List.replicate n [.any]⟩ (get_cons_same _ _ _) (h_ _) Z λ_=>⟨Nat.zero_lt_one,H_,.inl ⟨w.heap.size,d.size,0,H_,H_,λ_=>by simp⟩⟩) k1 (g.trans c)
theorem Ic{lo hi A_:Operand}{rows':List (List PV)}(ho:o.op=.slice u4 x (A lo) (A hi) (A A_))(L:fN P u4 e sz)(hx:aQ E x=A (.pv (.sl rows)))(J:∀r∈rows,C r=sz)
  (e_:aQ E lo=A (.pv (.int .i64 l))) (K:aQ E hi=A (.pv (.int .i64 h))) (Q:aQ E A_=A (.pv (.int .i64 h))) (W:l<=h) (h2:h<=C rows) (v:rows≠[]) (j:(rows.take h).drop l=rows'):cP P r4 o E H (.pv (.sl rows')) H:=by
 subst j;exact .of_run λa w I ι _ D=>by
  have d:=(aJ D hx).pv_inv;have g:=(aJ D e_).int_inv;have y_:=(aJ D K).int_inv;have t:=(aJ D Q).int_inv;generalize hc:a.eval x=c at d;have hT:=L.1;have hs:=L.2.1;have G:P.elem u4=e:=by simp[Program.elem,hT]
  have B:P.underlying u4=A (.slice (P.elem u4)):=F_
  cases d with
  |nilsl=>exact absurd Z v
  |empsl a0=>exact absurd Z v
  | sl b i_ s u_ _ cs hI c_ z hcap o_ F =>
   have f:u_=sz:=by
    have ⟨r,rs,e⟩:=exists_cons_of_ne_nil v
    simp_all
   subst f;have z_:(Instr.sliceBounds T (C rows) s (A (.int .i64 l)) (A (.int .i64 h)) (A (.int .i64 h))).run P w=.ok (l,h,h) w:=by
    have u:∀(n y:Nat) (c:BoundsCode),n<=y->(Instr.sliceBound (.int .i64 n) y c).run P w=.ok n w:=λn y c hn=>by
     have:=run_sliceBound (P:=P) w .i64 n y c X X
     simpa using this
    simp[Instr.sliceBounds,u _ _ _ W,u _ _ _ (h_ h),u h s _ X]
   have τ:C (rows.take h)=h:=F_
   have m:∀(i:Nat) (r:List PV),(rows.take h)[i]?=A r->rows[i]?=A r:=λi r j=>by
    grind
   have q:=PRep.cut (w:=w) (I:=I) (b:=b) (off:=i_) (cap:=h) (l:=l) (h:=h) (rows:=rows.take h) (cs:=cs) hI c_ (λr j=>z r (mem_of_mem_take j)) X
    (λi r j k p R=>o_ i r (m i r j) k p R) (λi r j k p R=>F i r (m i r j) k p R) W X
   rw[take_take,Nat.min_self]at q;refine⟨_,?_,.pv q⟩;simp only[execOp,ho,hc];have:=run_slice_any (P:=P) w u4 (A ⟨b,i_,ζ⟩) (C rows) s B (A (.int .i64 l)) (A (.int .i64 h)) (A (.int .i64 h));simp only[Option.map_some,run_sliceAt_slice w u4 _ _ _ _ B,g,y_,t,Sem.run_bind,this,z_,G,hs,sliced,Result.andThen_ok,Sem.run_pure];by_cases ec:h=l<;>simp[ec]
end
end
end Go.Abs
namespace Go.Proofs.C
open Go.Proofs.Tryz
open Go.Abs
variable{K:aF}{α:Type}{i:Nat}
def mj(u:Bool):AV:=if u then .ref 2001 0 0 0 else .pv .nilp
def EM(B:AV)(u:Bool):Ob:=⟨0,2,161,[[mj u,B]]⟩
def zB(g:Nat)(l:List UInt8)(u:Bool):aF:=[(2001,EM (.osl 2002 g 0 (C l)) u),(2002,⟨g,1,5,fV l⟩)]
theorem sO(l):C (fV l)=C l:=by simp[fV]
theorem eT(H)(l):∀r∈fV l,∀a∈r,Clo H a:=by intro r d a c;obtain ⟨b,_,rfl⟩:=mem_map.1 d;rw[q9]at c;subst c;simp
instance(H)(l):W_ (H) (fV l):=⟨eT H l⟩
theorem vB(l m):fV l++fV m=fV (l++m):=by simp[fV]
theorem gO{H}{g n}{u}(e:(H.get 2001).isSome=T)(f:(H.get 2002).isSome=T):∀r∈(EM (.osl 2002 g 0 n) u).rows,∀a∈r,Clo H a:=by
 intro r c a d;simp[EM,q9]at c;subst c;simp[l9,q8,or_false]at d;rcases d with rfl|rfl
 .cases u<;>simp[mj,e]
 simp[f]
theorem x7{p:Prop}(h:p:=by rfl):p:=h
theorem F2(b:AV)(u:Bool)(K:aF):aU φ 191 [.ref 2001 0 0 0] ((2001,EM b u)::K) (λr H'=>r=.tup []/\H'=(2001,EM b T)::K):=by
 cases u with
 |false =>
  refine Bd func191 Z ntmps191<|U aA<|Y pA<|Y (bC AH)<|Y (bQ isAgg158)<|V (OO Z iF Z Z)<|Cn ?_ ?_<;>intro c
  ·refine Rd aA<|Y aA<|Y (by exact HU (n:=1) Z iF underlying247 x7 Z Z Z (by simp[EM]))<|Y (by exact QH Z Z func239 Z Z Z Z Z (ld (.ref 2001 0 0 0)))<|Y (by exact PC (n:=1) Z underlying247 iF x7 Z Z Z (by simp[EM]) Z Z)<|Y pA<|Y (bC AH)<|Uu (ku sizeOf158)<|Zz ?_;exact pE (.inl Z) Z (Fin.get' (H':=(2001,EM b true)::K) (λj=>xO 2001 (EM b true) (EM b false) K j)) ⟨Z,Z⟩
  cases c
 |true =>
  refine Bd func191 Z ntmps191<|U aA<|Y pA<|Y (bC AH)<|Y (bQ isAgg158)<|V (by exact ON Z iF Z Z Z Z)<|Cn ?_ ?_<;>intro c
  .cases c
  refine U aA<|Y pA<|Y (bC AH)<|Y (bQ isAgg158)<|Y aA<|V (by exact KZ (n:=1) Z iF x7 Z Z Z Z)<|Cn ?_ ?_<;>intro d
  .cases d
  refine aB ?_;exact pE (.inl Z) Z Fin.refl ⟨Z,Z⟩
theorem LS{i j}{a b B c}(h:i≠j)(k):aF.get ((i,a)::(j,b)::K) k=aF.get ((i,a)::(j,b)::(i,B)::(j,c)::K) k:=by
 simp[aF.get]
 grind
theorem PO:∀i,φ.info? 5=A i->i.zero=A (.int .u8 0):=λi b=>by
 have h:(φ.info? 5).map (·.zero)=A _:=rfl;rw[b]at h;exact Option.some.inj h
theorem Ag(g)(l m){n}(h:C m=n):zB (g+1) (l++m) T=[(2001,EM (.osl 2002 (g+1) 0 (C l+n)) T),(2002,⟨g+1,1,5,fV (l++m)⟩)]:=by subst h;simp[zB]
theorem kZ(g:Nat)(l:List UInt8)(u:Bool)(c:UInt8)(B:l.length<70368744177664):aU Tryz.prog 160 [.ref 2001 0 0 0,.pv (.int .u8 c.toNat)] (zB g l u) (λr H'=>r=.pv NJ/\H'=zB (g+1) (l++[c]) true):=by refine Bd func160 Z ntmps160<|Sz aH<|U aA<|V (kc call191 (F2 _ u _))<|U aA<|Y aA<|Y pA<|Y (bC iO)<|Y (bQ eK)<|Y aA<|Y (by exact aL [[.int .u8 c.toNat]] Z BM Z Z Z Z Z F_)<|Y (by exact bW (ps:=[[.int .u8 c.toNat]]) Z BM ei5 Z Z Z Z Z (sO l) Z F_ (m:=1) Z X Z (vB l [c]))<|Y pA<|Y (bC iO)<|Uu (ku qR)<|Zz<|Sz aH<|aC ?_;rw[Ag g l [c] (n:=1) rfl];refine cT (.inr Z) Z (aI Z) (Fin.get' (λj=>LS E_ j)) ?_;exact Qq
theorem jK(g:Nat)(l:List UInt8)(u:Bool)(s:B_)(B:l.length+s.size<70368744177664):aU Tryz.prog 132 [.ref 2001 0 0 0,sv s] (zB g l u) (λr H'=>r=.tup [iv (s.size:Int),.pv NJ]/\H'=zB (g+1) (l++s.data.toList) true):=by refine Bd func132 Z ntmps132<|U aH<|V aH<|U aA<|V (kc call191 (F2 _ u _))<|U aA<|Y aA<|Y pA<|Y (bC iO)<|Y (bQ eK)<|Y aA<|Y (by exact xB Z BM U_ ei5 PO Z Z Z Z Z (sO l) Z X Z (vB l s.data.toList))<|Y pA<|Y (bC iO)<|Uu (ku qR)<|Zz<|U aA<|Y (gL U_)<|Y aH<|V aH<|aC ?_;rw[Ag g l s.data.toList (n:=s.size) rfl];refine gD (.inr Z) Z (aI Z) (aI Z) (Fin.get' (λj=>LS E_ j)) ?_;exact Qq
def Fm(g:Nat)(l:List UInt8)(u:Bool):aF:=[(2002,⟨g+1,1,5,[]⟩),(2001,EM (.osl 2002 g 0 (C l)) u)]
theorem QT{i j}{a b B}(h:i≠j)(k):aF.get ((i,a)::(j,b)::K) k=aF.get ((i,a)::(j,b)::(i,B)::K) k:=by
 simp[aF.get]
 grind
theorem RW(g:Nat)(l:List UInt8)(u:Bool)(B:C l<70368744177664):aU φ 133 [.ref 2001 0 0 0] (zB g l u) (λr H'=>r=sv ⟨l.toArray⟩/\H'=Fm g l u):=by
 by_cases e:l=[]
 ·subst e;refine Bd func133 Z ntmps133<|Sz aH<|S<|aM a7<|Cq aA<|Cq pA<|Cq (bC iO)<|Cq (bQ eK)<|Cq (by exact FB Z zG Z Z Z)<|Cq aA<|Cq pA<|Cq (bC iO)<|Cq (bQ eK)<|Cq (by exact dR Z dM Z Z Z)<|Cq (by exact zZ Z Z Z)<|Cq aH<|bG<|Kr<|aC ?_;refine cT (H':=(Fm g [] u)) (.inr Z) Z (aI Z) (Fin.trans (Fin.deadO (id:=2002) (k:=g+1) (ob:=⟨g,1,5,fV []⟩) Z (lt_succ_self g) Nat.zero_lt_one Z Z) (Fin.get' (λj=>QT E_ j))) ?_;exact Qq
 have c:0<C l:=length_pos_iff.2 e;refine Bd func133 Z ntmps133<|Sz aH<|S<|aM a7<|Cr [2001] (λ_ _=>aA)<|Cr [2001] (λd b=>by exact cL Z Z ((b _ Z).trans Z) Z)<|Cr [2001] (λ_ h=>fh iO h)<|Cr [2001] (λ_ h=>lh eK h)<|Cr [2002] (λd b=>by exact HW Z Z ((b _ Z).trans Z) Z c)<|Cr [2001] (λ_ _=>aA)<|Cr [2001] (λd b=>by exact cL Z Z ((b _ Z).trans Z) Z)<|Cr [2001] (λ_ h=>fh iO h)<|Cr [2001] (λ_ h=>lh eK h)<|Cr [2002] (λd b=>by exact dR Z dM Z ((b _ Z).trans Z) Z)<|Cp [2001,2002] (λd b=>by exact BW (l:=l) rfl zG x7 rfl rfl ((b _ rfl).trans rfl) rfl rfl rfl rfl rfl c X rfl)<|x_ aH<|bG<|Kr<|aC ?_;refine cT (H':=(Fm g l u)) (.inr Z) Z (aI Z) (Fin.get' (λj=>QT E_ j)) ?_;exact Qq
def Qy:aF:=[(2001,EM (.pv .nils) η)]
theorem m5{p:Prop}(h:p:=by(simp;done)):p:=h
theorem aCL(m n:Nat)(D:m=n)(B:n<70368744177664):aU Tryz.prog 292 [.ref 2001 0 0 0,iv (n:Int)] [(2001,EM (.pv .nils) true)] (λr H'=>r=.tup []/\H'=zB 1 [] true):=by refine Bd func292 Z ntmps292<|S<|aM a7<|Cr [2001] (λ_ _=>aA)<|Cr [2001] (λc b=>by exact cL Z Z ((b _ Z).trans Z) Z)<|Cr [2001] (λ_ h=>fh iO h)<|Cr [2001] (λ_ h=>lh eK h)<|x_ (by exact K6 Z dM Z)<|x_ (by exact oZ Z Z Z (by exact lT X X))<|x_ aA<|x_ (by exact dD Z Z Z (show IntKind.i64.wrap (0+(n:Int))=(n:Int)by rw[IntKind.wrap_i64];omega))<|Cp [2002] (λc b=>by exact qt (id:=2002) (n:=n) Z Z func310 E_ Z Z Z dM Z Z X ((b _ Z).trans Z))<|Cr [2001] (λ_ _=>aA)<|Cr [2001] (λc b=>by exact cL Z Z ((b _ Z).trans Z) Z)<|Cr [2001] (λ_ h=>fh iO h)<|Cr [2001] (λ_ h=>lh eK h) ?_;refine x_ (by exact K4 Z dM Z)<|Cp [2002] (λc b=>by exact eu (h:=0) (k:=1) (rows':=[]) Z BM Z ((b _ Z).trans Z) Z Z Z Z (l7 _) Z Z)<|x_ aH<|bG<|Kr<|U aA<|Y aA<|Y pA<|Y (bC iO)<|Y (bQ eK)<|V (by exact aAj (rows':=[]) Z BM (tq Z Z Z) Z Z Z (l7 _) (fk Z) H_ Z Z Z)<|Rd aA<|Y aA<|Y pA<|Y (bC iO)<|Uu (ku qR)<|Zz ?_;exact pE (H':=zB 1 [] true) (.inl Z) Z (Fin.wk m5 (Hc (gO Z Z)<|Hc (eT _ _)<|T_) ⟨Z,T_⟩) ⟨Z,Z⟩
theorem Yi(n:Nat)(B:0<n)(d:n<70368744177664):aU φ 255 [.ref 2001 0 0 0,iv (n:Int)] Qy (λr H'=>r=.tup []/\H'=zB 1 [] T):=by
 refine Bd func255 Z ntmps255<|U aA<|V (kc call191 (F2 _ η _))<|S<|U aA<|V cI<|Cn ?_ ?_<;>intro c
 .exact absurd (b9 c) X
 refine aB<|S<|aM a7<|Cq aA<|Cq pA<|Cq (bC iO)<|Cq (bQ eK)<|Cq (K6 Z dM Z)<|Cq aA<|Cq pA<|Cq (bC iO)<|Cq (bQ eK)<|Cq (K4 Z dM Z)<|Cq (dT Z Z Z (lT X X))<|Cq aA<|Cq cI<|bG<|Kr<|Cn ?_ ?_<;>intro b
 .refine Rd aA<|Y aA<|V (kc call292 (aCL n n Z d)) ?_;exact pE (H':=zB 1 [] T) (.inl Z) Z (Fin.wk m5 (Hc (gO Z Z)<|Hc (eT _ _)<|T_) ⟨Z,T_⟩) ⟨Z,Z⟩
 exact absurd (b_ b) X
def pI(s:B_)(k:Nat):UInt8:=(s.data.toList[k]?).getD 0
theorem tY(s)(k):aZ s k=((pI s k).toNat):=rfl
def qV(b:UInt8):List UInt8:=if b=10 then[92,110]else if b=34\/b=92 then[92,b]else[b]
def dB(l:List UInt8):List UInt8:=34::(l.flatMap qV++[34])
theorem Yp(b):C (qV b)<=2:=by
 unfold qV
 grind
theorem lg(l:List _):C (l.flatMap qV)<=2*C l:=by
 induction l with
 |nil=>simp_all
 |cons b l B =>
  rw[flatMap_cons,j8,j6];have:=Yp b;omega
theorem Iy{s}{k}(h:k<s.size):s.data.toList.take (k+1)=s.data.toList.take k++[pI s k]:=by
 have a:k<C s.data.toList:=F_
 rw[take_add_one,pI,n_ a];rfl
theorem RK{b}{n:Nat}(B:n<256):θ ((b.toNat:Int)=n)=θ (b=UInt8.ofNat n):=by
 rw[Bool.eq_iff_iff,k_,k_];constructor
 .intro h;apply UInt8.toNat.inj;rw[UInt8.toNat_ofNat'];omega
 intro h;rw[h,UInt8.toNat_ofNat'];omega
theorem cH.bld0{E E'}(a:NzE E [(2002,⟨0,1,5,[]⟩),(2001,EM (.osl 2002 0 0 0) η)] 2002 E'):cH [] E Qy E' (zB 0 [] η):=by refine(cH.nz (G0:=[]) _ 1 5 Z Z a ⟨⟨EM (.pv _) _,Z,Z,Z,Z,.inr ⟨_,_,rfl,rfl,⟨.same (by simp[mj]),⟨.own,T_⟩⟩⟩⟩,T_⟩ T_).trans ?_;exact cH.get (λ_=>rfl) (λj=>nG H_ j)
def lR(s:B_)(k:Nat):List UInt8:=34::(s.data.toList.take k).flatMap qV
theorem gu{s}{k}(D:s.size<17592186044416):C (lR s k)<70368744170000:=by have:=lg (s.data.toList.take k);rw[m_]at this;have B:C s.data.toList=s.size:=rfl;rw[lR,j6];omega
theorem XG{s}{k}(h:k<s.size):lR s (k+1)=lR s k++qV (pI s k):=by rw[lR,lR,Iy h];simp
theorem xk(s:B_)(H:aF)(v:s.size<17592186044416):RC 260 [sv s] (sv ⟨(dB (ν (μ s))).toArray⟩) H:=by
 refine Pu ?_;have B:C s.data.toList=s.size:=H_
 refine Bd func260 Z ntmps260<|Sz aH<|Sz (kl 2001 IF)<|S ?_;refine fW.ent (E':=[(0,sv s),(3,.ref 2001 0 0 0)]) (H':=zB 0 [] η) (cH.bld0 ⟨⟨_,Z,.same H_⟩,⟨_,Z,.same m3⟩,T_⟩) ?_;refine Rg<|V (bH Z Z nK Z (kZ 0 [] η 34 E_))<|S<|U aA<|Y (gL U_)<|V aA<|aE<|eZ (λ(k g:Nat)=>([(0,sv s),(3,.ref 2001 0 0 0),(8,iv (s.size:Int)),(9,iv (k:Int))],zB g (lR s k) T)) (λk g=>k<=s.size) (λk g=>s.size - k) 0 1 (l7 _) ?_ ?_
 .exact(cH.wk (Eb<|Ea<|Eb<|Eb<|T_) (Hc (gO Z Z)<|Hc (eT _ _)<|T_) T_)
 intro k g E;have D:=gu (k:=k) v;refine Sz cI<|S<|Cn ?_ ?_<;>intro p
 .have q:k<s.size:=I_ p
  have b:=XG q;refine aB<|S<|aE<|U aA<|V aH<|U aA<|Y aA<|Y (ky U_)<|V aH<|Sz aA<|aE<|U cF<|Da<|Cn ?_ ?_<;>intro n
  .have l:pI s k=10:=by
    have h:=n;rw[tY,show (10:Int)=((10:Nat):Int)by rfl,RK E_]at h;exact b9 h
   have e:zB (g+1) (lR s (k+1)) T=zB (g+1) (lR s k++(⟨#[92,110]⟩:B_).data.toList) T:=by rw[b,l];rfl
   refine Rg<|V (kc nM (jK g (lR s k) T ⟨#[92,110]⟩ (by show _+2<_;omega)))<|Rd iD<|V aA ?_;refine⟨k+1,g+1,X,X,?_⟩;show cH _ _ _ _ (zB (g+1) (lR s (k+1)) T);rw[e];exact(cH.wk (Eb<|Ea<|Eb<|Eb<|T_) (Hc (gO Z Z)<|Hc (eT _ _)<|T_) T_)
  have j:¬ pI s k=10:=by
   have h:=n;rw[tY,show (10:Int)=((10:Nat):Int)by rfl,RK E_]at h;exact b_ h
  refine S<|U cF<|Da<|Cn ?_ ?_<;>intro d
  .have l:pI s k=34:=by
    have h:=d;rw[tY,show (34:Int)=((34:Nat):Int)by rfl,RK E_]at h;exact b9 h
   have e:zB (g+1+1) (lR s (k+1)) T=zB (g+1+1) (lR s k++[92]++[pI s k]) T:=by rw[b,l];simp[qV]
   refine aB<|Cn ?_ ?_<;>intro u
   .refine Sz (kc nK (kZ g (lR s k) T 92 X))<|Rd aA<|V (kc nK (kZ (g+1) (lR s k++[92]) T (pI s k) G_))<|Rd iD<|V aA ?_;refine⟨k+1,g+1+1,X,X,?_⟩;show cH _ _ _ _ (zB (g+1+1) (lR s (k+1)) T);rw[e];exact(cH.wk (Eb<|Ea<|Eb<|Eb<|T_) (Hc (gO Z Z)<|Hc (eT _ _)<|T_) T_)
   exact absurd (d.symm.trans u) E_
  have m:¬ pI s k=34:=by
   have h:=d;rw[tY,show (34:Int)=((34:Nat):Int)by rfl,RK E_]at h;exact b_ h
  refine Rd cF<|Da<|Cn ?_ ?_<;>intro i
  .have l:pI s k=92:=by
    have h:=i;rw[tY,show (92:Int)=((92:Nat):Int)by rfl,RK E_]at h;exact b9 h
   have e:zB (g+1+1) (lR s (k+1)) T=zB (g+1+1) (lR s k++[92]++[pI s k]) T:=by rw[b,l];simp[qV]
   refine Sz (kc nK (kZ g (lR s k) T 92 X))<|Rd aA<|V (kc nK (kZ (g+1) (lR s k++[92]) T (pI s k) G_))<|Rd iD<|V aA ?_;refine⟨k+1,g+1+1,X,X,?_⟩;show cH _ _ _ _ (zB (g+1+1) (lR s (k+1)) T);rw[e];exact(cH.wk (Eb<|Ea<|Eb<|Eb<|T_) (Hc (gO Z Z)<|Hc (eT _ _)<|T_) T_)
  have o:¬ pI s k=92:=by
   have h:=i;rw[tY,show (92:Int)=((92:Nat):Int)by rfl,RK E_]at h;exact b_ h
  have e:zB (g+1) (lR s (k+1)) T=zB (g+1) (lR s k++[pI s k]) T:=by rw[b,qV,a8 j,a8 (λh=>h.elim m o)]
  refine Rd aA<|V (kc nK (kZ g (lR s k) T (pI s k) X))<|Rd iD<|V aA ?_;refine⟨k+1,g+1,X,X,?_⟩;show cH _ _ _ _ (zB (g+1) (lR s (k+1)) T);rw[e];exact(cH.wk (Eb<|Ea<|Eb<|Eb<|T_) (Hc (gO Z Z)<|Hc (eT _ _)<|T_) T_)
 have t:k=s.size:=J_ p
 refine aP<|Sz (kc nK (kZ g (lR s k) T 34 X))<|U (kc nL (RW (g+1) (lR s k++[34]) T G_))<|V aH<|aC ?_;have f:(⟨(lR s k++[34]).toArray⟩:B_)=⟨(dB (ν (μ s))).toArray⟩:=by
  rw[lR,dB,t,take_of_length_le X];rfl
 rw[<-f];exact Rt Qq
def bT(sep:List UInt8):List (List UInt8)->List UInt8
 | []=>[]
 |x::l=>x++l.flatMap (λy=>sep++y)
def bs(l:List B_):List (List UInt8):=l.map λs=>ν (μ s)
def dF(l:List B_):Nat:=(l.map ByteArray.size).sum
theorem yE{l:List _}{k}{s}(h:l[k]?=A s):dF (l.take (k+1))=dF (l.take k)+s.size:=by rw[take_add_one,h,dF,dF];simp
theorem oK(l)(k):dF (l.take k)<=dF l:=by
 have h:dF l=dF (l.take k)+dF (l.drop k):=by
  rw[dF,dF,dF,<-sum_append,<-map_append,take_append_drop]
 omega
theorem jr(sep):∀l,C ((bs l).flatMap (λy=>sep++y))=C sep*C l+dF l
 | []=>rfl
 |s::l=>by
  have c:=jr sep l;show C (((ν (μ s))::bs l).flatMap _)=_;rw[flatMap_cons,j8,c,j8,j6,Nat.mul_add,dF,dF,map_cons,sum_cons];have B:C s.data.toList=s.size:=rfl;omega
def NR(sep x:B_)(l:List B_)(k:Nat):List UInt8:=ν (μ x)++(bs (l.take k)).flatMap (λy=>ν (μ sep)++y)
theorem Ed{sep x s}{l}{k}(h:l[k]?=A s):NR sep x l (k+1)=NR sep x l k++(ν (μ sep)++ν (μ s)):=by rw[NR,NR,take_add_one,h,bs];simp[bs]
theorem Jr{l}{s}(h:s∈l):s.size<=dF l:=by
 induction l with
 |nil=>cases h
 |cons a l b =>
  rw[dF,map_cons,sum_cons];rcases l9.1 h with rfl|h
  .omega
  exact Nat.le_trans (b h) (le_add_left _ _)
theorem js{sep x}{l}{k}(a:k<=C l):C (NR sep x l k)<=x.size+sep.size*C l+dF l:=by rw[NR,j8,jr,m_,Nat.min_eq_left a];have B:=oK l k;have b:C sep.data.toList=sep.size:=rfl;have D:C x.data.toList=x.size:=rfl;have E:sep.size*k<=sep.size*C l:=mul_le_mul_left _ a;rw[b];omega
theorem xM(l:List B_)(sep:B_)(H:aF)(h0:0<sep.size)(K:sep.size*C l+dF l+C l<17592186044416):RC 204 [.pv (aK l),sv sep] (sv ⟨(bT (ν (μ sep)) (bs l)).toArray⟩) H:=by
 refine Pu ?_;have e:C (l.map S_)=C l:=g_ _;rcases l with _|⟨x,_|⟨y,l⟩⟩
 .refine Bd func204 Z ntmps204<|Sz aH<|S<|U aA<|V (fM aD)<|aE<|U cF<|Da<|Cn ?_ ?_<;>intro h
  .exact Sz aH<|aC<|Rt<|Qq
  cases h
 .refine Bd func204 Z ntmps204<|Sz aH<|S<|U aA<|V (fM aD)<|aE<|U cF<|Da<|Cn ?_ ?_<;>intro h
  .cases h
  refine U cF<|Da<|Cn ?_ ?_<;>intro p
  .refine U aA<|Y (bP Z aY Z Z X (l_ _) Z Z)<|Y (fS N_ (hi:=rfl))<|V aH<|aC ?_;have o_:x=⟨(bT (ν (μ sep)) (bs [x])).toArray⟩:=by simp[bT,bs]
   rw[<-o_];exact Rt Qq
  cases p
 have n:C ((x::y::l).map S_)=C l+2:=F_
 have F:C (x::y::l)=C l+2:=rfl;rw[F]at K;have j:sep.size*(C l+2)=sep.size*(C l+1)+sep.size:=by rfl
 have ⟨J,i⟩:∃J,J=sep.size*(C l+1):=X_;rw[<-i]at j;rw[j]at K;have Q:sep.size+1<=9223372036854775807 / (C l+1):=by
  rw[le_div_iff_mul_le (succ_pos _),Nat.add_mul,<-i];omega
 have c:9223372036854775807 / (C l+1)<=9223372036854775807:=div_le_self _ _;have b:0<J:=F_
 have z:∀k,dF ((x::y::l).take k)<=dF (x::y::l):=oK _;refine Bd func204 Z ntmps204<|Sz aH<|S<|U aA<|V (fM aD)<|aE<|U cF<|Da<|Cn ?_ ?_<;>intro h
 .exact absurd (b9 h) X
 refine U cF<|Da<|Cn ?_ ?_<;>intro p
 .exact absurd (b9 p) X
 refine aB<|Sz aH<|S<|U aA<|Y (gL U_)<|V iX<|Cn ?_ ?_<;>intro I
 .refine S<|U aA<|Y (gL U_)<|Y aA<|Y (fM aD)<|Y (by exact dT Z Z Z (show ξ.wrap ((C ((x::y::l).map S_):Int) - 1)=((C l+1:Nat):Int)by rw[IntKind.wrap_i64,n];omega))<|Y (by exact C8 (r:=((9223372036854775807 / (C l+1):Nat):Int)) Z Z Z X (by rw[show (9223372036854775807:Int)=((9223372036854775807:Nat):Int)by rfl,<-Int.ofNat_tdiv,IntKind.wrap_i64];omega))<|V AF ?_;refine Cn ?_ ?_<;>intro a
  .exact absurd (b9 a) X
  refine aB<|Rd aA<|Y aA<|Y (gL U_)<|Y aA<|Y (fM aD)<|Y (by exact dT Z Z Z (show ξ.wrap ((C ((x::y::l).map S_):Int) - 1)=((C l+1:Nat):Int)by rw[IntKind.wrap_i64,n];omega))<|Y (by exact oZ Z Z Z (show ξ.wrap ((sep.size:Int)*((C l+1:Nat):Int))=(J:Int)by rw[<-Int.natCast_mul,<-i,IntKind.wrap_i64];omega))<|Y (by exact dD Z Z Z (show ξ.wrap (0+(J:Int))=(J:Int)by rw[IntKind.wrap_i64];omega))<|V aH<|S<|U aA<|Y (fM aD)<|V aA<|aE ?_;refine bF (σ:=Nat) (λk=>([(0,.pv (aK (x::y::l))),(1,sv sep),(5,iv ((J+dF ((x::y::l).take k):Nat):Int)),(39,.pv (aK (x::y::l))),(40,iv (C ((x::y::l).map S_):Int)),(41,iv (k:Int))],[])) (λk=>k<=C l+2) (λk=>C l+2 - k) 0 (l7 _) ?_ ?_
  .exact Wk
  intro k hk;refine Sz cI<|S<|Cn ?_ ?_<;>intro v
  .have m:k<C l+2:=I_ v
   have ⟨s,t⟩:=aR (show k<C (x::y::l) by omega);have w:=cC (f:=S_) t;have W:=yE t;have h1:=z (k+1);refine aB<|S<|aE<|U (bP Z aY Z Z X x7 w Z)<|Y (fS N_ (hi:=w))<|V aH<|S<|U aA<|Y (gL U_)<|Y aA<|Y (by exact dT Z Z Z (show ξ.wrap (9223372036854775807 - ((J+dF ((x::y::l).take k):Nat):Int))=9223372036854775807 - ((J+dF ((x::y::l).take k):Nat):Int)by rw[IntKind.wrap_i64];omega))<|V iX ?_;refine Cn ?_ ?_<;>intro G
   .exact absurd (b9 G) X
   refine aB<|Rd aA<|Y aA<|Y (gL U_)<|Y (by exact dD Z Z Z (show ξ.wrap (((J+dF ((x::y::l).take k):Nat):Int)+(s.size:Int))=((J+dF ((x::y::l).take (k+1)):Nat):Int)by rw[IntKind.wrap_i64,W];omega))<|V aH<|Rd iD<|V aA ?_;exact⟨k+1,X,X,Wk⟩
  have d:k=C l+2:=J_ v
  have P:dF ((x::y::l).take k)=dF (x::y::l):=F_
  have h2:=z k;refine aP<|Sz (kl 2001 IF)<|U aA<|V (kc call255 (Yi (J+dF ((x::y::l).take k)) X X))<|U aA<|Y (bP Z aY Z Z X (l_ _) Z Z)<|Y (fS N_ (hi:=rfl))<|V (kc nM (jK 1 [] T x (by show 0+_<_;have:=oK (x::y::l) 1;simp[dF]at this K;omega)))<|S<|U aA<|Y (by exact eM (l:=1) (h:=C ((x::y::l).map S_)) (rows':=(y::l).map S_) Z aY Z (sz:=1) (by intro r r4;obtain ⟨q,_,rfl⟩:=mem_map.1 r4;rfl) Z Z (by rw[n];omega) (h_ _) (by rw[take_length];rfl))<|Y (fM aD)<|V aA<|aE ?_;have ρ:C ((y::l).map S_)=C l+1:=by rw[g_];rfl
  refine eZ (λ(q g:Nat)=>([(1,sv sep),(8,.ref 2001 0 0 0),(63,.pv (aK (y::l))),(64,iv (C ((y::l).map S_):Int)),(65,iv (q:Int))],zB g (NR sep x (y::l) q) T)) (λq g=>q<=C l+1) (λq g=>C l+1 - q) 0 2 (l7 _) ?_ ?_
  .show cH _ _ _ _ (zB (1+1) ([]++ν (μ x)++[]) T);rw[append_nil];exact(cH.wk (Eb<|Ea<|Eb<|Eb<|Eb<|T_) (Hc (gO Z Z)<|Hc (eT _ _)<|T_) T_)
  intro q g L;refine Sz cI<|S<|Cn ?_ ?_<;>intro R
  .have m:q<C l+1:=I_ R
   have ⟨s,t⟩:=aR (show q<C (y::l) by rw[j6];exact m);have w:=cC (f:=S_) t;have o:=js (sep:=sep) (x:=x) (l:=y::l) (k:=q) (Nat.le_of_lt m);have E:=Ed (sep:=sep) (x:=x) t;have τ:=Jr (m7 t);have D:x.size+dF (y::l)=dF (x::y::l):=by simp[dF]
   have f:C (y::l)=C l+1:=rfl;rw[f,<-i]at o;refine aB<|S<|aE<|U (kx aY w)<|Y (fS N_ (hi:=w))<|V aH<|U aA<|V (kc nM (jK g (NR sep x (y::l) q) T sep X))<|Rd aA<|V (kc nM (jK (g+1) (NR sep x (y::l) q++ν (μ sep)) T s (by rw[j8];show _+sep.size+_<_;omega)))<|Rd iD<|V aA ?_;refine⟨q+1,g+1+1,X,X,?_⟩;show cH _ _ _ _ (zB (g+1+1) (NR sep x (y::l) (q+1)) T);rw[E,<-append_assoc];exact(cH.wk (Eb<|Ea<|Eb<|Eb<|Eb<|T_) (Hc (gO Z Z)<|Hc (eT _ _)<|T_) T_)
  have u:q=C l+1:=J_ R
  have o:=js (sep:=sep) (x:=x) (l:=y::l) L;have f:C (y::l)=C l+1:=rfl;have D:x.size+dF (y::l)=dF (x::y::l):=by simp[dF]
  rw[f,<-i]at o;refine aP<|U (kc nL (RW g (NR sep x (y::l) q) T X))<|V aH<|aC ?_;have B:(⟨(NR sep x (y::l) q).toArray⟩:B_)=⟨(bT (ν (μ sep)) (bs (x::y::l))).toArray⟩:=by
   rw[NR,u,<-f,take_length];rfl
  rw[<-B];exact Rt Qq
 exact absurd (b_ I) X
theorem qG:∀(x y),Op.bytesLess x y=θ (x<y)
 | [],[]=>rfl
 |_::_,[]=>rfl
 | [],_::_=>rfl
 |a::x,b::y=>by
  rw[Op.bytesLess,qG x y];simp[List.cons_lt_cons_iff];all_goals grind
theorem GI(s):jV s s=η:=by
 unfold jV;rw[qG]
 simp_all
theorem CX{a b}(c:jV a b=η)(d:jV b a=η):a=b:=by
 unfold jV at c d;rw[qG]at c d;have e:=List.le_antisymm (List.not_lt.1 (b_ d)) (List.not_lt.1 (b_ c));have:=B0 a b;rw[e]at this
 simpa using this.symm
theorem GH{a b c}(B:jV a b=T)(D:jV b c=T):jV a c=T:=by
 unfold jV at *;rw[qG]at *
 grind
theorem wg(s):jV s a6=η:=by
 unfold jV;rw[qG]
 simp_all
theorem P4{a b}:sle a b=η↔jV b a=T:=by
 unfold sle;constructor
 .intro h;simp[q_,q7]at h;cases e:jV b a with
  |true=>rfl
  |false=>exact absurd (CX h.1 e) h.2
 intro h;simp[q_,q7];refine⟨?_,λe=>?_⟩
 .cases e:jV a b with
  |false=>rfl
  |true=>have:=GH e h;rw[GI]at this;cases this
 subst e;rw[GI]at h;cases h
theorem T5{s}(h:cJ s=T):s≠a6:=by
 simp[cJ,l6,r9,q7]at h
 grind
theorem Yc{l}{s}:yw l s=T↔s∈l:=by
 unfold yw
 simp_all
theorem zV(a b):jV a b=θ (ν (μ a)<ν (μ b)):=by unfold jV;rw[qG,ByteArray.toList_eq,ByteArray.toList_eq]
def EB{α:Type}(f:α->B_)(l:List α)(s:B_):Nat:=l.findIdx (λo=>!jV (f o) s)
def kf{α:Type}(f:α->B_)(l:List α)(s:B_):Bool:=l.any (λo=>θ (f o=s))
def asc{α:Type}(f:α->B_)(l:List α):Prop:=l.Pairwise (λa b=>jV (f a) (f b)=T)
theorem QY{f}{l}(h:asc f l){j:Nat}{a b:α}(c:i<j)(k:l[i]?=A a)(n:l[j]?=A b):jV (f a) (f b)=T:=by
 have ⟨m,d⟩:=m9.1 k;have ⟨g,e⟩:=m9.1 n;have:=pairwise_iff_getElem.1 h i j m g c
 rwa [d,e]at this
theorem Ns{f}{l:List α}{s}{i}(hi:i<=C l)(B:∀k,k<i->∀o,l[k]?=A o->jV (f o) s=T)(D:∀o,l[i]?=A o->jV (f o) s=η):EB f l s=i:=by
 unfold EB;by_cases e:i<C l
 .rw[findIdx_eq e]
  grind
 grind
theorem ze{f}{l}{s}{o:α}(j:asc f l)(g:∀k,k<i->∀o,l[k]?=A o->jV (f o) s=T)(c:l[i]?=A o)(d:jV (f o) s=η):kf f l s=θ (f o=s):=by
 rw[kf,Bool.eq_iff_iff,any_eq_true,k_];constructor
 .rintro⟨x,e,a⟩;have a:=b9 a;have ⟨k,b⟩:=s8.1 e;rcases Nat.lt_trichotomy k i with h|h|h
  .have:=g k h x b;rw[a,GI]at this;cases this
  .subst h;rw[c]at b;cases b;exact a
  have:=QY j h c b;rw[a,d]at this;cases this
 grind
theorem Ef{f}{l:List α}{s}(c:∀k,k<C l->∀o,l[k]?=A o->jV (f o) s=T):kf f l s=η:=by rw[kf,any_eq_false];intro o b;have ⟨k,a⟩:=s8.1 b;have:=c k (m9.1 a).1 o a;simp[k_];intro e;rw[e,GI]at this;grind
theorem Yh{i j}(h:i<j):i<=(i+j) / 2/\(i+j) / 2<j:=X
theorem sb(f)(l:List α)(s):EB f l s<=C l:=findIdx_le_length
abbrev Cu(ps:List (List PV)):List (List AV):=ps.map (·.map .pv)
theorem KM(ps):C (Cu ps)=C ps:=g_ _
theorem Ac(ps)(H):∀r∈Cu ps,∀a∈r,Clo H a:=cy _ _ H
instance(ps)(H):W_ (H) (Cu ps):=⟨Ac ps H⟩
theorem UU{a}{t}:DZ a t=η↔cJ t.key=T/\jV a t.key=T/\t.val≠a6/\t.val.size<=200:=by
 simp[DZ,q_,Bool.not_eq_false',P4,q7]
 grind
theorem Un{s}(h:s≠a6):jV a6 s=T:=by
 cases e:jV _ s with
 |true=>rfl
 |false=>exact absurd (CX (wg s) e) h
theorem xY{l:List m8}:tR l=T↔(∀t,t∈l->cJ t.key=T/\t.val≠a6/\t.val.size<=200)/\asc m8.key l/\C l<=60:=by
 have g:θ ((C l:Int)<=60)=θ (C l<=60):=by
  grind
 rw[tR,g,l6,r9,any_eq_false,k_];constructor
 .rintro⟨h,y⟩;have s:∀k t,l[k]?=A t->cJ t.key=T/\jV (kW m8.key l k) t.key=T/\t.val≠a6/\t.val.size<=200:=λk t o=>by
   have m:=h k (mem_range.2 (m9.1 o).1);rw[UV,o]at m;simp only[Bool.not_eq_true]at m;exact UU.1 m
  refine⟨λt u=>?_,?_,y⟩
  .have ⟨k,o⟩:=s8.1 u
   grind
  have key:∀(d i:Nat) (a b:m8),l[i]?=A a->l[i+d+1]?=A b->jV a.key b.key=T:=by
   intro d
   induction d with
   |zero =>
    intro i a b q f;have:=(s (i+1) b f).2.1;rw[kW,q]at this;exact this
   |succ d D =>
    intro i a b q f;have e:i+d+1<C l:=by have:=(m9.1 f).1;omega
    have ⟨x,r⟩:=aR e;have p:=(s (i+(d+1)+1) b f).2.1;rw[kW,show i+(d+1)=i+d+1 by omega,r]at p;exact GH (D i a x q r) p
  rw[asc,pairwise_iff_getElem];intro i j w v B;exact key (j - i - 1) i _ _ (n_ w) (by rw[show i+(j - i - 1)+1=j by omega];exact n_ v)
 rintro⟨m,p,z⟩;refine⟨λk o=>?_,z⟩;have e:=mem_range.1 o;rw[UV,n_ e];simp only[Bool.not_eq_true];have ⟨a,b,c⟩:=m _ (getElem_mem e);refine UU.2 ⟨a,?_,b,c⟩;cases k with
 |zero =>
  have:l[0].key≠a6:=T5 a;exact Un this
 |succ k =>
  rw[kW,n_ (show k<C l by omega)];exact QY p (lt_succ_self k) (n_ X) (n_ e)
theorem PI(h:AV)(l:List b8)(p:b8->Bool)(H:aF)(F:C l<2^62)(m:∀o,o∈l->dQ φ h [.agg ((bL o).map .pv)] H (λr H'=>r=.pv (.bool (p o))/\H'=H)):
    RC 293 [.pv (.sl (l.map bL)),h] (.pv (.int .i64 (AY p l))) H:=by
  refine Bd func293 Z ntmps293<|Sz aH<|S<|U aA<|Y (fM fD)<|V aA<|aE<|bF (σ:=Nat) (λk=>([(0,.pv (.sl (l.map bL))),(1,h),(7,.pv (.int .i64 (C (l.map bL)))),(8,.pv (.int .i64 (k:Int)))],H)) (λk=>k<=C l/\∀j,j<k->∀b,l[j]?=A b->p b=η) (λk=>C l - k) 0 ⟨X,X⟩ ?_ ?_
  · exact E0
  · rintro k ⟨hk,c⟩
    refine Sz cI<|S<|Cn ?_ ?_<;>intro B
    · have g:k<C l:=F_
      have ⟨o,f⟩:=aR g;have hi:=cC (f:=bL) f;have d:=m o (m7 f);refine aB<|S<|aE<|U aA<|V aH<|U aA<|Y aA<|Y aA<|Y (iV fo)<|Y (fF Z cY bD Z X (Z) Z)<|V (dK Z Z Z (d))<|Cn ?_ ?_<;>intro i
      · skip
        refine U aA<|V aH<|aC ?_;exact cT (H':=H) (.inr Z) Z (aI Z) Fin.refl ⟨by rw[AY,YO c f i],Z⟩
      · skip
        refine aB<|Rd iD<|V aA ?_;refine⟨k+1,⟨X,λj E b D=>?_⟩,X,E0⟩
        grind
    · have e:k=C l:=G_
      subst e;refine aP<|Sz aH<|aC ?_;exact cT (H':=H) (.inr Z) Z (aI Z) Fin.refl ⟨by rw[AY,YP c],Z⟩
def aFr(id:B_)(o:l8):Bool:=θ (o.id=id)
def ra(x y:Int):Bool:=θ (0<=min x y)&&θ (max x y<1048576)
theorem JQ(b)(l:List _)(p)(H)(c:C l<2^62)(d:∀o,o∈l->dQ φ b [.agg ((bL o).map .pv)] H (λr H'=>r=.pv (.bool (p o))/\H'=H)):
  RC 257 [.pv (.sl (l.map bL)),b] (.pv (.bool (l.any p))) H:=by
 refine aU.body func257 Z ntmps257 (r_ Z)<|ME<|D3<|ur Z Z Z (yI Z Z)<|uq<|ME<|D3<|ur Z Z Z (iA Z Z)<|ur Z Z Z (iA Z Z)<|ur Z Z Z (bH Z Z call293 Z (PI _ l p H c d))<|ur Z Z Z (jY Z Z Z)<|ur Z Z Z (yI Z Z)<|uq<|aC ?_;exact cT (.inr Z) Z (aI Z) Fin.refl ⟨by rw[Pc],Z⟩
def wT(a b:m8):Bool:=θ (a.key=b.key)&&θ (a.val=b.val)
def rK:List m8->List m8->Bool
 | [],[]=>T
 |a::l,b::r=>wT a b&&rK l r
 |_,_=>η
theorem WZ(a b):wT a b=T↔a=b:=by cases a;cases b;simp[wT]
theorem WV:∀(a b),C a≠C b->rK a b=η
 | [],[],h=>absurd Z h
 | [],_::_,_=>rfl
 |_::_,[],_=>rfl
 |x::a,y::b,h=>by rw[rK,WV a b (by simp_all)];simp
theorem WW:∀(a b) (k:Nat) (x y),a[k]?=A x->b[k]?=A y->wT x y=η->rK a b=η
 | [],_,k,x,y,h,_,_=>by grind
 |_::_,[],k,x,y,_,h,_=>rfl
 |u::a,v::b,0,x,y,c,d,h=>by cases c;cases d;rw[rK,h];rfl
 |u::a,v::b,k+1,x,y,c,d,h=>by rw[rK,WW a b k x y c d h];simp
theorem RU:∀(a b),C a=C b->(∀k,k<C a->∀x y,a[k]?=A x->b[k]?=A y->wT x y=T)->rK a b=T
 | [],[],_,_=>rfl
 | [],_::_,h,_=>by grind
 |_::_,[],h,_=>by grind
 |u::a,v::b,hl,h=>by
  rw[rK,h 0 (by simp) u v Z Z,RU a b (by simp_all) (λk B x y c d=>h (k+1) (by simp_all) x y c d)];rfl
theorem lj (a b:List m8) (H:aF) (I:C a < 4611686018427387904) :
    RC 314 [lv (a.map bU),lv (b.map bU)] (bv (rK a b)) H:=by
  refine Pu<|Bd func314 Z ntmps314<|Sz aH<|S<|U aA<|Y (fM dU)<|Y aA<|Y (fM dU)<|V xI<|Cn ?_ ?_<;>intro B
  · have i:C a≠C b:=G_
    refine Sz aH<|aC<|Rt ?_;exact⟨by rw[WV a b i],Z⟩
  · have f:C a=C b:=G_
    refine aB<|S<|U aA<|Y (fM dU)<|V aA<|aE<|bF (σ:=Nat) (λk=>([(0,lv (a.map bU)),(1,lv (b.map bU)),(12,iv (C (a.map bU))),(13,iv (k:Int))],[])) (λk=>k<=C a/\∀j,j<k->∀x y,a[j]?=A x->b[j]?=A y->wT x y=T) (λk=>C a - k) 0 ⟨X,X⟩ ?_ ?_
    · exact E0
    · rintro k ⟨hk,d⟩
      refine Sz cI<|S<|Cn ?_ ?_<;>intro D
      · have g:k<C a:=F_
        have ⟨x,o⟩:=aR g;have ⟨y,m⟩:=aR (l:=b) (k:=k) X;have hi:=cC (f:=bU) o;have E:=cC (f:=bU) m;refine aB<|S<|aE<|U aA<|V aH<|S<|aM a7<|Cq aA<|Cq aA<|Cq (iV lU)<|Cq (by exact fF Z xS mA Z X (by simp only[Zl,bU,bS,bL];rfl) Z)<|Cq aA<|Cq aA<|Cq (iV lU)<|Cq (by exact fF Z xS mA Z X (by simp only[Zl,bU,bS,bL];rfl) Z)<|Cq (K7 Z Z Z Z Z eqGuardType270 (aAO _ _ _ _))<|bG<|Kr ?_;refine Cn ?_ ?_<;>intro e
        · have n:wT x y=η:=by
            have h:(!wT x y)=T:=e
            simpa using h
          refine Sz aH<|aC<|Rt ?_;exact⟨by rw[WW a b k x y o m n],Z⟩
        · have n:wT x y=T:=by
            have h:(!wT x y)=η:=e
            simpa using h
          refine aB<|Rd iD<|V aA ?_;refine⟨k+1,⟨X,λj J K L F G=>?_⟩,X,E0⟩
          grind
      · have l:k=C a:=G_
        subst l;refine aP<|Sz aH<|aC<|Rt ?_;exact⟨by rw[RU a b f d],Z⟩
theorem RT:∀ {a b},rK a b=T↔a=b
 | [],[]=>by simp[rK]
 | [],_::_=>by simp[rK]
 |_::_,[]=>by simp[rK]
 |x::a,y::b=>by rw[rK,l6,WZ,RT];simp
theorem aF6(k f o g n j m l:B_)(w:World):(Op.equalIn 10000 316 (.agg [.string k,.string o,.string n,.string m].toArray) (.agg [.string f,.string g,.string j,.string l].toArray)).run φ w =
  .ok (θ (k=f)&&θ (o=g)&&θ (n=j)&&θ (m=l)) w:=by
 have ⟨i,q⟩:=info_of_underlying U_;refine(run_equalIn_array (P:=φ) w 9999 _ _ underlying316 q).trans ?_;have s:∀(d:Nat) (a b:B_) (w:World),(Op.equalIn (d+1) 9 (.string a) (.string b)).run φ w=.ok (θ (a=b)) w:=λd a b w=>by rw[run_equalIn_string w d 9 a b U_,B0]
 have t:φ.cellsOf 9=1:=by rfl
 by_cases r:k=f<;>by_cases p:o=g<;>by_cases u:n=j<;>by_cases v:m=l<;>simp[range_succ,Op.eqItems,part,t,s,N_,r,p,u,v]
theorem ln(a b:List B_)(H:aF)(F:C a<2^62):RC 312 [.pv (aK a),.pv (aK b)] (bv (θ (a=b))) H:=by
 refine Pu ?_;have E:C (a.map S_)=C a:=g_ _;refine Bd func312 Z ntmps312<|Sz aH<|S<|U aA<|Y (fM aD)<|Y aA<|Y (fM aD)<|V xI<|Cn ?_ ?_<;>intro B
 .have j:¬ a=b:=by
   grind
  refine Sz aH<|aC<|Rt ?_
  simp_all
 have m:C a=C b:=by
  grind
 refine aB<|S<|U aA<|Y (fM aD)<|V aA<|aE<|bF (σ:=Nat) (λk=>([(0,.pv (aK a)),(1,.pv (aK b)),(12,iv (C (a.map S_):Int)),(13,iv (k:Int))],[])) (λk=>k<=C a/\a.take k=b.take k) (λk=>C a - k) 0 ⟨X,H_⟩ ?_ ?_
 .exact E0
 rintro k ⟨hk,e⟩;refine Sz cI<|S<|Cn ?_ ?_<;>intro f
 .have l:k<C a:=I_ f
  have ⟨x,n⟩:=aR l;have ⟨y,o⟩:=aR (l:=b) (k:=k) X;have hi:=cC (f:=S_) n;have D:=cC (f:=S_) o;refine aB<|S<|aE<|U aA<|V aH<|S<|aM a7<|Cq aA<|Cq aA<|Cq (iV aY)<|Cq (fS N_)<|Cq aA<|Cq aA<|Cq (iV aY)<|Cq (fS N_)<|Cq E4<|bG<|Kr<|Cn ?_ ?_<;>intro i
  .have j:¬ a=b:=by
    grind
   refine Sz aH<|aC<|Rt ?_
   simp_all
  have p:x=y:=by
   have h:(!θ (x=y))=η:=i
   simpa using h
  refine aB<|Rd iD<|V aA ?_;refine⟨k+1,⟨X,?_⟩,X,E0⟩;rw[take_add_one,take_add_one,n,o,e,p]
 have g:k=C a:=J_ f
 have G:a=b:=by
  have h:=e;rw[g,take_length,m,take_length]at h;exact h
 refine aP<|Sz aH<|aC<|Rt ?_
 simp_all
def yT(a b:l8):Bool:=((θ (a.id=b.id)&&θ (a.kind=b.kind)&&(θ (a.x=b.x)&&θ (a.y=b.y)))&&θ (a.refs=b.refs))&&rK a.tags b.tags
theorem JD{a b}:yT a b=T↔a=b:=by
 cases a;cases b;simp[yT,l6,k_,RT,l8.mk.injEq]
 grind
def okS(o:l8):Prop:=C o.refs<2^62/\C o.tags<2^62
theorem y6{p:Prop}(h:p:=by exact aW Z eL sizeOf104 Z Z Z Z (by simp only[Zl,bU,bS,S_,bL];rfl) Z):p:=h
theorem Vb(a b:l8)(H:aF)(h:okS a):RC 313 [av (bS a),av (bS b)] (bv (yT a b)) H:=by
 refine Pu<|Bd func313 Z ntmps313<|U (kb 2)<|Y (kb 3)<|V aH<|S<|aT (t:=4) (n:=38) (A_:=yT a b) ?_ ?_
 .all_goals refine Y (bC rD)<|Y (bQ N_)<|Y (bC rD)<|Y (bQ N_)<|Y wU<|Dm ?_<;>(refine Sp 10 (λd=>?_) λd=>?_)<;>(first|exact s_|refine M<|M<|M<|M<|M ?_|refine O (bC eJ)<|O (bQ M_)<|O (bC eJ)<|O (bQ M_)<|O cF ?_)<;>refine Y cD<|Dm ?_<;>(refine Sp 17 (λf=>?_) λf=>?_)<;>(first|exact s_|refine M<|M<|M<|M<|M ?_|refine O (bC mY)<|O y6<|O (bC mY)<|O y6<|O (BY Z Z Z Z Z mU (SD _ _ _ _)) ?_)<;>refine Y cD<|Dm ?_<;>(refine Sp 24 (λg=>?_) λg=>?_)<;>(first|exact s_|refine M<|M<|M<|M<|M ?_|refine O (bC eI)<|O (bQ aG)<|O (bC eI)<|O (bQ aG)<|O (kc call312 (ln a.refs b.refs _ h.1)) ?_)<;>refine Y cD<|Dm ?_<;>(refine Sp 31 (λe=>?_) λe=>?_)<;>(first|exact s_|refine M<|M<|M<|M<|M ?_|refine O (bC gF)<|O (bQ dP)<|O (bC gF)<|O (bQ dP)<|O (kc call314 (lj a.tags b.tags _ h.2)) ?_)<;>refine Y cD<|Da ?_<;>exact Gj (h:=by(simp only[yT, *];rfl))
 exact aC<|Rt<|Qq
def FP(a b:b8):Bool:=((((θ (a.refs=b.refs)&&yT a.obj b.obj)&&θ (a.op=b.op))&&(θ (a.id=b.id)&&θ (a.other=b.other)&&θ (a.node=b.node)&&θ (a.key=b.key)))&&θ (a.val=b.val))&&(θ (a.x=b.x)&&θ (a.y=b.y))
theorem pU{a b}:FP a b=T↔a=b:=by
 cases a;cases b;simp[FP,l6,k_,JD,b8.mk.injEq]
 grind
theorem y7{p:Prop}(h:p:=by simp only[Zl,bU,bS,S_,bL];rfl):p:=h
theorem Vc(a b:b8)(H:aF)(j:C a.refs<2^62)(i:okS a.obj):RC 295 [av (bL a),av (bL b)] (bv (FP a b)) H:=by
 refine Pu<|Bd func295 Z ntmps295<|U (kb 2)<|Y (kb 3)<|V aH<|S<|aT (t:=5) (n:=14) (A_:=θ (a.refs=b.refs)&&yT a.obj b.obj) ?_ ?_
 .all_goals refine Y (bC iT)<|Y (bQ aG)<|Y (bC iT)<|Y (bQ aG)<|Y (kc call312 (ln a.refs b.refs _ j))<|Dm ?_<;>(refine Sp 11 (λg=>?_) λg=>?_)<;>(first|exact s_|refine M<|M<|M<|M<|M ?_|refine O (bC vO)<|O (by exact aW Z cB sizeOf135 Z Z Z Z y7 Z)<|O (bC vO)<|O (by exact aW Z cB sizeOf135 Z Z Z Z y7 Z)<|O (kc call313 (Vb a.obj b.obj _ i)) ?_)<;>refine Y cD<|Da ?_<;>exact Gj (h:=by simp_all)
 refine S<|aT (t:=4) (n:=48) (A_:=FP a b) ?_ ?_
 .all_goals refine Y aA<|Dm ?_<;>(refine Sp 19 (λf=>?_) λf=>?_)<;>(first|exact s_|refine M<|M<|M<|M<|M ?_|refine O (bC iU)<|O (bQ M_)<|O (bC iU)<|O (bQ M_)<|O cF ?_)<;>refine Y cD<|Dm ?_<;>(refine Sp 26 (λB=>?_) λB=>?_)<;>(first|exact s_|refine M<|M<|M<|M<|M<|M<|M<|M<|M<|M<|M<|M<|M<|M<|M<|M<|M<|M<|M ?_|refine O (bC kB)<|O (bQ N_)<|O (bC kV)<|O (bQ N_)<|O (bC rC)<|O (bQ N_)<|O (bC oA)<|O (bQ N_)<|O (zP Z aA4 Z Z)<|O (bC kB)<|O (bQ N_)<|O (bC kV)<|O (bQ N_)<|O (bC rC)<|O (bQ N_)<|O (bC oA)<|O (bQ N_)<|O (zP Z aA4 Z Z)<|O (BY Z Z Z Z Z eqGuardType316 (aF6 a.id b.id a.other b.other a.node b.node a.key b.key)) ?_)<;>refine Y cD<|Dm ?_<;>(refine Sp 47 (λh=>?_) λh=>?_)<;>(first|exact s_|refine M<|M<|M<|M<|M ?_|refine O (bC pC)<|O (bQ N_)<|O (bC pC)<|O (bQ N_)<|O wU ?_)<;>refine Y cD<|Dm ?_<;>(refine Sp 54 (λe=>?_) λe=>?_)<;>(first|exact s_|refine M<|M<|M<|M<|M ?_|refine O (bC jP)<|O y6<|O (bC jP)<|O y6<|O (BY Z Z Z Z Z mU (SD _ _ _ _)) ?_)<;>refine Y cD<|Da ?_<;>exact Gj (h:=by(simp only[FP, *];rfl))
 exact aC<|Rt<|Qq
def atP{α:Type}(l:List α)(p:α->Bool)(k:Nat):Bool:=match l[k]? with
 |some s=>p s
 |none=>η
theorem U0{l}{p}{k}{s:α}(h:l[k]?=A s):atP l p k=p s:=by rw[atP,h]
theorem VP(l:List α)(p):(List.range (C l)).any (atP l p)=l.any p:=by
 rw[Bool.eq_iff_iff,any_eq_true,any_eq_true];constructor
 .rintro⟨k,a,h⟩;have b:=mem_range.1 a;rw[U0 (n_ b)]at h;exact⟨_,getElem_mem _,h⟩
 rintro⟨x,c,h⟩;have ⟨k,a⟩:=s8.1 c;exact⟨k,mem_range.2 (m9.1 a).1,by rw[U0 a];exact h⟩
theorem Nh(s)(H)(b:s.size<2^62):RC 311 [sv s] (bv (!cJ s)) H:=by refine Pu ?_;exact Bd func311 Z ntmps311<|Sz aH<|U aA<|Y (bH Z Z pH Z (DE s _ b))<|Y iH<|V aH<|aC<|Rt<|Qq
theorem bn(l)(H)(d:C l<2^62)(c:∀s∈l,s.size<2^62):RC 294 [.pv (aK l)] (bv (l.all cJ)) H:=by
 refine Pu ?_;have e:l.all cJ=!(List.range (C l)).any (atP l (λs=>!cJ s)):=by
  rw[VP l _,any_eq_not_all_not];simp
 rw[e];exact Bd func294 Z ntmps294<|Sz aH<|U aA<|Y (kc call28 (A5 _ l (atP l _) (λ_=>[]) d (λk s b=>dQ.fn call311 (by rw[U0 b];exact Nh s _ (c s (m7 b))))))<|Y iH<|V aH<|aC<|Rt<|Qq
end Go.Proofs.C
namespace Go.Abs
theorem eR{P}{G0}{r4}{Q}{E}{H}{x y}{α:Type}(f_:α->dG×aF)(B:α->Prop)
  (h:fW P G0 r4 x (zJ (λb H1=>∃a,B a/\cH G0 b H1 (f_ a).1 (f_ a).2) Q) E H) (d:∀a,B a->fW P G0 r4 y Q (f_ a).1 (f_ a).2):fW P G0 r4 (.seq x y) Q E H :=
 ME (h.mono λe b H1 q=>by
  cases e with
  |normal =>
   have ⟨a,c,f⟩:=q;exact fW.ent f (d a c)
  |_=>exact q)
theorem CA{i}{o}{K:aF}:∀(D:aF),(∀p∈D,p.1=i)->∀j,aF.get ((i,o)::K) j=aF.get ((i,o)::(D++K)) j:=by
 intro D b j;by_cases e:i=j
 .subst e;simp[aF.get,pW]
 have h:aF.get D j=ζ:=by
  cases a:aF.get D j with
  |none=>rfl
  |some x=>exact absurd (b _ (eH a)).symm e
 rw[get_cons_other _ _ (Ne.symm e),get_cons_other _ _ (Ne.symm e),gN,h]
theorem oI{H}{x}{c}(h:∀p∈c,Clo H p.2):∀r∈(LR x c).rows,∀a∈r,Clo H a:=by
 intro r d a b;simp[LR,l9,q8,or_false]at d;rcases d with rfl|rfl
 .rw[q9]at b;subst b;simp
 obtain ⟨p,e,rfl⟩:=mem_map.1 b;exact h p e
def KE(D B:aF):List Nat->Prop
 | []=>True
 |j::r=>D.get j=B.get j/\KE D B r
theorem KE.spec{D B}:∀ {l},KE D B l->∀j∈l,D.get j=B.get j
 |i::r,h,j,a=>by
  rcases l9.1 a with rfl|a
  .exact h.1
  exact KE.spec h.2 j a
theorem zg{D:aF}{j}(h:j∉D.map (·.1)):D.get j=ζ:=by
 cases a:D.get j with
 |none=>rfl
 |some o=>exact absurd (mem_map.2 ⟨_,eH a,Z⟩) h
theorem km(D B){K}(h:KE D B (D.map (·.1)++B.map (·.1)))(j):aF.get (D++K) j=aF.get (B++K) j:=by
 rw[gN,gN];have e:D.get j=B.get j:=by
  by_cases a:j∈D.map (·.1)++B.map (·.1)
  .exact h.spec j a
  rw[mem_append,not_or]at a;rw[zg a.1,zg a.2]
 rw[e]
end Go.Abs
namespace Go.Proofs.C
open Go.Proofs.Tryz
open Go.Abs
variable{α:Type}
def GB(e:b8):b8 :=if e.op=1 then⟨e.op,a6,a6,a6,0,0,a6,a6,[],e.obj⟩
 else if e.op=2 then⟨e.op,e.id,a6,a6,e.x,e.y,a6,a6,[],j7⟩
 else if e.op=3 then⟨e.op,e.id,a6,a6,0,0,e.key,e.val,[],j7⟩
 else if e.op=4 then⟨e.op,e.id,a6,a6,0,0,a6,a6,e.refs,j7⟩
 else if e.op=5 then⟨e.op,e.id,a6,a6,0,0,a6,a6,[],j7⟩
 else if e.op=6 then⟨e.op,e.id,e.other,e.node,0,0,a6,a6,[],j7⟩
 else⟨e.op,e.id,e.other,a6,0,0,a6,a6,[],j7⟩
def xH(e:b8):Bool :=if e.op=1 then oV e.obj
 else cJ e.id&&(if e.op=2 then ra e.x e.y else if e.op=3 then cJ e.key&&θ ((e.val.size:Int)<=200)
  else if e.op=4 then θ ((0:Int)<(C e.refs:Int))&&θ ((C e.refs:Int)<=2000)&&e.refs.all cJ
  else if e.op=5 then T else if e.op=6 then cJ e.node&&cJ e.other else cJ e.other)
def gK(e:b8):Bool:=(θ (1<=e.op)&&θ (e.op<=7))&&(xH e&&FP (GB e) e)
def V4(e:b8):Prop:=(e.id.size<2^62/\e.other.size<2^62/\e.node.size<2^62/\e.key.size<2^62)/\(C e.refs<2^62/\∀s∈e.refs,s.size<2^62)/\nh e.obj
theorem aBk{o}(h:nh o):okS o:=⟨h.2.2.1,h.2.1.1⟩
theorem XU:okS j7:=⟨E_,E_⟩
theorem Xh(s)(H)(B:s.size<2^62):RC 294 [.pv (aK [s])] (bv (cJ s)) H:=by
 have h:=bn [s] H H_ F_
 simpa using h
theorem aFo(s t)(H)(B:s.size<2^62)(D:t.size<2^62):RC 294 [.pv (aK [s,t])] (bv (cJ s&&cJ t)) H:=by
 have h:=bn [s,t] H H_ F_
 simpa using h
theorem j5{p:Prop}(h:p:=by simp only[Zl,bU,bS,S_,bL,j7];rfl):p:=h
theorem lp(e:b8)(H:aF)(r:V4 e):RC 259 [av (bL e)] (bv (gK e)) H:=by
 refine Pu ?_;have ⟨⟨m,b,o,c⟩,⟨d,q⟩,f⟩:=r;have σ:C (e.refs.map S_)=C e.refs:=g_ _;have W:gK e=((θ (1<=e.op)&&θ (e.op<=7))&&(xH e&&FP (GB e) e)):=rfl;have ⟨x,G⟩:∃x,x=GB e:=X_;have ⟨k,F⟩:∃k,k=xH e:=X_;rw[<-G,<-F]at W;refine Bd func259 Z ntmps259<|U (kb 1)<|V aH<|U (bC iU)<|Y (bQ M_)<|Y (bC kB)<|Y (bQ N_)<|Y (oD uJ)<|Y (kl 3 WL)<|Uu (jG bD)<|Zz<|U (bC kB)<|Y (bQ N_)<|Y (aL ([e.id].map S_) Z aY Z Z Z Z Z (by simp[S_]))<|Y (kc call294 (Xh e.id _ m))<|Da<|eR (λ(_:Unit)=>([(1,.ref 1 0 0 0),(3,.ref 3 0 0 0),(4,bv k)],[(3,bx 15 137 ((bL x).map .pv)),(1,bx 15 137 ((bL e).map .pv))])) (λ_=>(1<=e.op/\e.op<=7)/\C x.refs<2^62/\okS x.obj) ?_ ?_
 .refine U (bC iU)<|V (bQ M_)<|aE<|U cF<|Da<|Cn ?_ ?_<;>intro I
  .have ho:e.op=1:=b9 I;have ⟨E,D⟩:x=⟨e.op,a6,a6,a6,0,0,a6,a6,[],e.obj⟩/\k=oV e.obj:=by subst G F;simp[GB,xH,ra,ho,Bool.and_assoc]
   rw[E,D];refine aM a7<|Cr [1] (λ_ h=>fh vO h)<|Cr [1] (λH1 B=>by exact aW Z cB sizeOf135 Z ((B _ Z).trans Z) Z Z j5 Z)<|Cr [1] (λ_ h=>fh vO h)<|Cr [1] (λH1 B=>by exact aW Z cB sizeOf135 Z ((B _ Z).trans Z) Z Z j5 Z)<|x_ (by exact bH Z Z call286 Z (TD e.obj _ f))<|Cr [3] (λ_ h=>fh kB h)<|Cp [3] (λ_ h=>su V_ h)<|Cr [3] (λ_ h=>fh vO h)<|Cp [3] (λ_ h=>sx sizeOf135 h)<|x_ aH ?_;refine bG<|Kr ?_;exact⟨(),⟨⟨X,X⟩,(zero_lt_succ _),aBk f⟩,Wk⟩
  have s:¬ e.op=1:=b_ I;refine U cF<|Da<|Cn ?_ ?_<;>intro J
  .have ho:e.op=2:=b9 J;have ⟨E,D⟩:x=⟨e.op,e.id,a6,a6,e.x,e.y,a6,a6,[],j7⟩/\k=(cJ e.id&&θ (0<=min e.x e.y)&&θ (max e.x e.y<1048576)):=by subst G F;simp[GB,xH,ra,ho,Bool.and_assoc]
   rw[E,D];apply zD (t:=4) (n:=25) (A_:=(cJ e.id&&θ (0<=min e.x e.y)&&θ (max e.x e.y<1048576)))
   .cases hg30:(cJ e.id:Bool)
    .refine aM a7<|Cr [1] (λ_ h=>fh jP h)<|Cr [1] (λH1 B=>by exact aW Z eL sizeOf104 Z ((B _ Z).trans Z) Z Z j5 Z)<|x_ aA<|x_ aA<|Ot<|Ot<|Ot<|Ot<|Ot<|Ot<|Ot<|Ot<|x_ cD<|x_ aA<|Ot<|Ot<|Ot<|Ot<|Ot<|Ot<|Ot<|Ot<|x_ cD<|Cr [3] (λ_ h=>fh jP h)<|Cp [3] (λ_ h=>sx sizeOf104 h)<|x_ aH<|bG<|Kr ?_;exact⟨Z,⟨_,Z,by rfl⟩,Z,Z,Z⟩
    cases g:(θ (0<=min e.x e.y):Bool)
    .refine aM a7<|Cr [1] (λ_ h=>fh jP h)<|Cr [1] (λH1 B=>by exact aW Z eL sizeOf104 Z ((B _ Z).trans Z) Z Z j5 Z)<|x_ aA<|x_ aA<|Lt [1] (λ_ h=>fh jP h)<|Lt [1] (λ_ h=>fh nA h)<|Lt [1] (λ_ h=>lh M_ h)<|Lt [1] (λ_ h=>fh jP h)<|Lt [1] (λ_ h=>fh mZ h)<|Lt [1] (λ_ h=>lh M_ h)<|Lt [] (λH1 B=>by exact C9 Z Z Z Z)<|Lt [] (λH1 B=>by exact jY Z Z Z) ?_;refine x_ cD<|x_ aA<|Ot<|Ot<|Ot<|Ot<|Ot<|Ot<|Ot<|Ot<|x_ sQ<|Cr [3] (λ_ h=>fh jP h)<|Cp [3] (λ_ h=>sx sizeOf104 h)<|x_ aH<|bG<|Kr ?_;exact⟨Z,⟨_,Z,by rfl⟩,Z,Z,Z⟩
    refine aM a7<|Cr [1] (λ_ h=>fh jP h)<|Cr [1] (λH1 B=>by exact aW Z eL sizeOf104 Z ((B _ Z).trans Z) Z Z j5 Z)<|x_ aA<|x_ aA<|Lt [1] (λ_ h=>fh jP h)<|Lt [1] (λ_ h=>fh nA h)<|Lt [1] (λ_ h=>lh M_ h)<|Lt [1] (λ_ h=>fh jP h)<|Lt [1] (λ_ h=>fh mZ h)<|Lt [1] (λ_ h=>lh M_ h)<|Lt [] (λH1 B=>by exact C9 Z Z Z Z)<|Lt [] (λH1 B=>by exact jY Z Z Z) ?_;refine x_ cD<|x_ aA<|Lt [1] (λ_ h=>fh jP h)<|Lt [1] (λ_ h=>fh nA h)<|Lt [1] (λ_ h=>lh M_ h)<|Lt [1] (λ_ h=>fh jP h)<|Lt [1] (λ_ h=>fh mZ h)<|Lt [1] (λ_ h=>lh M_ h)<|Lt [] (λH1 B=>by exact Wp Z Z Z Z)<|Lt [] (λH1 B=>by exact iK Z Z Z) ?_;refine x_ C6<|Cr [3] (λ_ h=>fh jP h)<|Cp [3] (λ_ h=>sx sizeOf104 h)<|x_ aH<|bG<|Kr ?_;exact⟨Z,⟨_,Z,by rfl⟩,Z,Z,Z⟩
   exact⟨(),⟨⟨X,X⟩,(zero_lt_succ _),XU⟩,Wk⟩
  have u:¬ e.op=2:=b_ J;refine U cF<|Da<|Cn ?_ ?_<;>intro K
  .have ho:e.op=3:=b9 K;have ⟨E,D⟩:x=⟨e.op,e.id,a6,a6,0,0,e.key,e.val,[],j7⟩/\k=(cJ e.id&&cJ e.key&&θ ((e.val.size:Int)<=200)):=by subst G F;simp[GB,xH,ra,ho,Bool.and_assoc]
   rw[E,D];apply zD (t:=4) (n:=20) (A_:=(cJ e.id&&cJ e.key&&θ ((e.val.size:Int)<=200)))
   .cases hg58:(cJ e.id:Bool)
    .refine aM a7<|Cr [1] (λ_ h=>fh oA h)<|Cr [1] (λ_ h=>lh N_ h)<|Cr [1] (λ_ h=>fh pC h)<|Cr [1] (λ_ h=>lh N_ h)<|x_ aA<|x_ aA<|Ot<|Ot<|Ot<|Ot<|x_ cD<|x_ aA<|Ot<|Ot<|Ot<|Ot<|x_ cD<|Cr [3] (λ_ h=>fh oA h)<|Cp [3] (λ_ h=>su V_ h)<|Cr [3] (λ_ h=>fh pC h)<|Cp [3] (λ_ h=>su V_ h)<|x_ aH<|bG<|Kr ?_;exact⟨Z,⟨_,Z,by rfl⟩,Z,Z,Z⟩
    cases i:(cJ e.key:Bool)
    .refine aM a7<|Cr [1] (λ_ h=>fh oA h)<|Cr [1] (λ_ h=>lh N_ h)<|Cr [1] (λ_ h=>fh pC h)<|Cr [1] (λ_ h=>lh N_ h)<|x_ aA<|x_ aA<|Lt [1] (λ_ h=>fh oA h)<|Lt [1] (λ_ h=>lh N_ h)<|Lt [] (λH1 B=>by exact aL ([e.key].map S_) Z aY Z Z Z Z Z (by simp[S_]))<|Lt [] (λH1 B=>by exact bH Z Z call294 Z (Xh e.key _ c)) ?_;refine x_ cD<|x_ aA<|Ot<|Ot<|Ot<|Ot<|x_ sQ<|Cr [3] (λ_ h=>fh oA h)<|Cp [3] (λ_ h=>su V_ h)<|Cr [3] (λ_ h=>fh pC h)<|Cp [3] (λ_ h=>su V_ h)<|x_ aH<|bG<|Kr ?_;exact⟨Z,⟨_,Z,by rfl⟩,Z,Z,Z⟩
    refine aM a7<|Cr [1] (λ_ h=>fh oA h)<|Cr [1] (λ_ h=>lh N_ h)<|Cr [1] (λ_ h=>fh pC h)<|Cr [1] (λ_ h=>lh N_ h)<|x_ aA<|x_ aA<|Lt [1] (λ_ h=>fh oA h)<|Lt [1] (λ_ h=>lh N_ h)<|Lt [] (λH1 B=>by exact aL ([e.key].map S_) Z aY Z Z Z Z Z (by simp[S_]))<|Lt [] (λH1 B=>by exact bH Z Z call294 Z (Xh e.key _ c)) ?_;refine x_ cD<|x_ aA<|Lt [1] (λ_ h=>fh pC h)<|Lt [1] (λ_ h=>lh N_ h)<|Lt [] (λH1 B=>by exact OP Z U_ Z)<|Lt [] (λH1 B=>by exact mW Z Z Z) ?_;refine x_ C6<|Cr [3] (λ_ h=>fh oA h)<|Cp [3] (λ_ h=>su V_ h)<|Cr [3] (λ_ h=>fh pC h)<|Cp [3] (λ_ h=>su V_ h)<|x_ aH<|bG<|Kr ?_;exact⟨Z,⟨_,Z,by rfl⟩,Z,Z,Z⟩
   exact⟨(),⟨⟨X,X⟩,(zero_lt_succ _),XU⟩,Wk⟩
  have v:¬ e.op=3:=b_ K;refine U cF<|Da<|Cn ?_ ?_<;>intro L
  .have ho:e.op=4:=b9 L;have ⟨E,D⟩:x=⟨e.op,e.id,a6,a6,0,0,a6,a6,e.refs,j7⟩/\k=(cJ e.id&&θ ((0:Int)<(C (e.refs.map S_):Int))&&θ ((C (e.refs.map S_):Int)<=2000)&&e.refs.all cJ):=by subst G F;simp[GB,xH,ra,ho,Bool.and_assoc]
   rw[E,D];apply zD (t:=4) (n:=22) (A_:=(cJ e.id&&θ ((0:Int)<(C (e.refs.map S_):Int))&&θ ((C (e.refs.map S_):Int)<=2000)&&e.refs.all cJ))
   .cases hg77:(cJ e.id:Bool)
    .refine aM a7<|Cr [1] (λ_ h=>fh iT h)<|Cr [1] (λ_ h=>lh aG h)<|x_ aA<|x_ aA<|Ot<|Ot<|Ot<|Ot<|x_ cD<|x_ aA<|Ot<|Ot<|Ot<|Ot<|x_ cD<|x_ aA<|Ot<|Ot<|Ot<|x_ cD<|Cr [3] (λ_ h=>fh iT h)<|Cp [3] (λ_ h=>su sizeOf22 h)<|x_ aH<|bG<|Kr ?_;exact⟨Z,⟨_,Z,by rfl⟩,Z,Z,Z⟩
    cases j:(θ ((0:Int)<(C (e.refs.map S_):Int)):Bool)
    .refine aM a7<|Cr [1] (λ_ h=>fh iT h)<|Cr [1] (λ_ h=>lh aG h)<|x_ aA<|x_ aA<|Lt [1] (λ_ h=>fh iT h)<|Lt [1] (λ_ h=>lh aG h)<|Lt [] (λH1 B=>by exact lH Z aD Z)<|Lt [] (λH1 B=>by exact K5 Z Z Z) ?_;refine x_ cD<|x_ aA<|Ot<|Ot<|Ot<|Ot<|x_ sQ<|x_ aA<|Ot<|Ot<|Ot<|x_ cD<|Cr [3] (λ_ h=>fh iT h)<|Cp [3] (λ_ h=>su sizeOf22 h)<|x_ aH<|bG<|Kr ?_;exact⟨Z,⟨_,Z,by rfl⟩,Z,Z,Z⟩
    cases l:(θ ((C (e.refs.map S_):Int)<=2000):Bool)
    .refine aM a7<|Cr [1] (λ_ h=>fh iT h)<|Cr [1] (λ_ h=>lh aG h)<|x_ aA<|x_ aA<|Lt [1] (λ_ h=>fh iT h)<|Lt [1] (λ_ h=>lh aG h)<|Lt [] (λH1 B=>by exact lH Z aD Z)<|Lt [] (λH1 B=>by exact K5 Z Z Z) ?_;refine x_ cD<|x_ aA<|Lt [1] (λ_ h=>fh iT h)<|Lt [1] (λ_ h=>lh aG h)<|Lt [] (λH1 B=>by exact lH Z aD Z)<|Lt [] (λH1 B=>by exact mW Z Z Z) ?_;refine x_ C6<|x_ aA<|Ot<|Ot<|Ot<|x_ sQ<|Cr [3] (λ_ h=>fh iT h)<|Cp [3] (λ_ h=>su sizeOf22 h)<|x_ aH<|bG<|Kr ?_;exact⟨Z,⟨_,Z,by rfl⟩,Z,Z,Z⟩
    refine aM a7<|Cr [1] (λ_ h=>fh iT h)<|Cr [1] (λ_ h=>lh aG h)<|x_ aA<|x_ aA<|Lt [1] (λ_ h=>fh iT h)<|Lt [1] (λ_ h=>lh aG h)<|Lt [] (λH1 B=>by exact lH Z aD Z)<|Lt [] (λH1 B=>by exact K5 Z Z Z) ?_;refine x_ cD<|x_ aA<|Lt [1] (λ_ h=>fh iT h)<|Lt [1] (λ_ h=>lh aG h)<|Lt [] (λH1 B=>by exact lH Z aD Z)<|Lt [] (λH1 B=>by exact mW Z Z Z) ?_;refine x_ C6<|x_ aA<|Lt [1] (λ_ h=>fh iT h)<|Lt [1] (λ_ h=>lh aG h)<|Lt [] (λH1 B=>by exact bH Z Z call294 Z (bn e.refs _ d q)) ?_;refine x_ C6<|Cr [3] (λ_ h=>fh iT h)<|Cp [3] (λ_ h=>su sizeOf22 h)<|x_ aH<|bG<|Kr ?_;exact⟨Z,⟨_,Z,by rfl⟩,Z,Z,Z⟩
   exact⟨(),⟨⟨X,X⟩,d,XU⟩,Wk⟩
  have w:¬ e.op=4:=b_ L;refine U cF<|Da<|Cn ?_ ?_<;>intro P
  .have ho:e.op=5:=b9 P;have ⟨E,D⟩:x=⟨e.op,e.id,a6,a6,0,0,a6,a6,[],j7⟩/\k=cJ e.id:=by subst G F;simp[GB,xH,ra,ho,Bool.and_assoc]
   rw[E,D];refine aB ?_;exact⟨(),⟨⟨X,X⟩,(zero_lt_succ _),XU⟩,Wk⟩
  have y:¬ e.op=5:=b_ P;refine U cF<|Da<|Cn ?_ ?_<;>intro Q
  .have ho:e.op=6:=b9 Q;have ⟨E,D⟩:x=⟨e.op,e.id,e.other,e.node,0,0,a6,a6,[],j7⟩/\k=(cJ e.id&&(cJ e.node&&cJ e.other)):=by subst G F;simp[GB,xH,ra,ho,Bool.and_assoc]
   rw[E,D];apply zD (t:=4) (n:=16) (A_:=(cJ e.id&&(cJ e.node&&cJ e.other)))
   .cases hg104:(cJ e.id:Bool)
    .refine aM a7<|Cr [1] (λ_ h=>fh rC h)<|Cr [1] (λ_ h=>lh N_ h)<|Cr [1] (λ_ h=>fh kV h)<|Cr [1] (λ_ h=>lh N_ h)<|x_ aA<|x_ aA<|Ot<|Ot<|Ot<|Ot<|Ot<|Ot<|x_ cD<|Cr [3] (λ_ h=>fh rC h)<|Cp [3] (λ_ h=>su V_ h)<|Cr [3] (λ_ h=>fh kV h)<|Cp [3] (λ_ h=>su V_ h)<|x_ aH<|bG<|Kr ?_;exact⟨Z,⟨_,Z,by rfl⟩,Z,Z,Z⟩
    refine aM a7<|Cr [1] (λ_ h=>fh rC h)<|Cr [1] (λ_ h=>lh N_ h)<|Cr [1] (λ_ h=>fh kV h)<|Cr [1] (λ_ h=>lh N_ h)<|x_ aA<|x_ aA<|Lt [1] (λ_ h=>fh rC h)<|Lt [1] (λ_ h=>lh N_ h)<|Lt [1] (λ_ h=>fh kV h)<|Lt [1] (λ_ h=>lh N_ h)<|Lt [] (λH1 B=>by exact aL ([e.node,e.other].map S_) Z aY Z Z Z Z Z (by simp[S_]))<|Lt [] (λH1 B=>by exact bH Z Z call294 Z (aFo e.node e.other _ o b)) ?_;refine x_ cD<|Cr [3] (λ_ h=>fh rC h)<|Cp [3] (λ_ h=>su V_ h)<|Cr [3] (λ_ h=>fh kV h)<|Cp [3] (λ_ h=>su V_ h)<|x_ aH<|bG<|Kr ?_;exact⟨Z,⟨_,Z,by rfl⟩,Z,Z,Z⟩
   exact⟨(),⟨⟨X,X⟩,(zero_lt_succ _),XU⟩,Wk⟩
  have z:¬ e.op=6:=b_ Q;refine U cF<|Da<|Cn ?_ ?_<;>intro R
  .have ho:e.op=7:=b9 R;have ⟨E,D⟩:x=⟨e.op,e.id,e.other,a6,0,0,a6,a6,[],j7⟩/\k=(cJ e.id&&cJ e.other):=by subst G F;simp[GB,xH,ra,ho,Bool.and_assoc]
   rw[E,D];apply zD (t:=4) (n:=11) (A_:=(cJ e.id&&cJ e.other))
   .cases hg119:(cJ e.id:Bool)
    .refine aM a7<|Cr [1] (λ_ h=>fh kV h)<|Cr [1] (λ_ h=>lh N_ h)<|x_ aA<|x_ aA<|Ot<|Ot<|Ot<|Ot<|x_ cD<|Cr [3] (λ_ h=>fh kV h)<|Cp [3] (λ_ h=>su V_ h)<|x_ aH<|bG<|Kr ?_;exact⟨Z,⟨_,Z,by rfl⟩,Z,Z,Z⟩
    refine aM a7<|Cr [1] (λ_ h=>fh kV h)<|Cr [1] (λ_ h=>lh N_ h)<|x_ aA<|x_ aA<|Lt [1] (λ_ h=>fh kV h)<|Lt [1] (λ_ h=>lh N_ h)<|Lt [] (λH1 B=>by exact aL ([e.other].map S_) Z aY Z Z Z Z Z (by simp[S_]))<|Lt [] (λH1 B=>by exact bH Z Z call294 Z (Xh e.other _ b)) ?_;refine x_ cD<|Cr [3] (λ_ h=>fh kV h)<|Cp [3] (λ_ h=>su V_ h)<|x_ aH<|bG<|Kr ?_;exact⟨Z,⟨_,Z,by rfl⟩,Z,Z,Z⟩
   exact⟨(),⟨⟨X,X⟩,(zero_lt_succ _),XU⟩,Wk⟩
  have τ:¬ e.op=7:=b_ R;refine Sz aH<|aC<|Rt ?_;refine⟨?_,Z⟩;rw[W];rcases(by omega:e.op<1\/7<e.op)with h|h
  .rw[decide_eq_false X];rfl
  rw[decide_eq_false (p:=e.op<=7) X,Bool.and_false];rfl
 rintro _ ⟨⟨o1,o7⟩,hr,hs⟩;rw[decide_eq_true o1,decide_eq_true o7]at W;refine S<|aT (t:=2) (n:=8) (A_:=k&&FP x e) ?_ ?_
 .all_goals refine Y aA<|Dm ?_<;>(refine Sp 127 (λa=>?_) λa=>?_)<;>(first|exact s_|refine M<|M<|M ?_|refine O (by exact aW Z cY bD Z Z Z Z j5 Z)<|O (by exact aW Z cY bD Z Z Z Z j5 Z)<|O (kc call295 (Vc x e _ hr hs)) ?_)<;>refine Y cD<|Da ?_<;>exact Gj (h:=by(rw[a];rfl))
 refine aC<|Rt ?_;exact⟨by rw[W];rfl,Z⟩
theorem US(e)(H)(b:V4 e):RC 258 [av (bL e)] (bv (!gK e)) H:=by refine Pu ?_;exact Bd func258 Z ntmps258<|U (tL (id:=1) Z Z Z Z Z)<|V aH<|U (aW Z cY bD Z Z Z Z (Z) Z)<|Y (bH Z Z call259 Z (lp e _ b))<|Y iH<|V aH<|aC<|Rt<|Qq
def lP(l:List b8):Bool:=θ ((0:Int)<(C l:Int))&&θ ((C l:Int)<=200)&&!(l.any (λe=>!gK e))
theorem WJ(l)(H:aF)(i:C l<2^62)(f:∀e∈l,V4 e):RC 206 [.pv (kP l)] (bv (lP l)) H:=by
 refine Pu ?_;have c:C (l.map bL)=C l:=g_ _;refine Bd func206 Z ntmps206<|Sz aH<|S<|aT (t:=2) (n:=16) (A_:=θ ((0:Int)<(C (l.map bL):Int))&&θ ((C (l.map bL):Int)<=200)&&!(l.any (λe=>!gK e))) ?_ ?_
 .all_goals refine Y aA<|Y (fM fD)<|Y iX<|Dm ?_<;>(refine Sp 6 (λg=>?_) λg=>?_)<;>(first|refine M<|M<|M ?_|refine O aA<|O (fM fD)<|O H7 ?_)<;>refine Y cD<|Dm ?_<;>(refine Sp 11 (λd=>?_) λd=>?_)<;>(first|refine M<|M<|M ?_|refine O aA<|O (kc call257 (JQ _ l _ _ i (λe h=>dQ.fn call258 (US e _ (f e h)))))<|O iH ?_)<;>refine Y cD<|Da ?_<;>(exact⟨⟨_,Z,G_⟩,Z,Z,Z⟩)
 refine aC<|Rt ?_;exact⟨by rw[lP,c],Z⟩
theorem Fin.slice0{H1}{id g n}{ob}(ps)(b:H1.get id=A ob)(c:ob.g=g)(a:ob.rows=ps.map (·.map .pv))(d:C ps=n):
  Fin [] H1 (.osl id g 0 n) [] (.pv (.sl ps)):=by
 subst c d;exact Fin.fz _ b a (.osl H_) Z T_ T_
theorem Z4(l:List _):∀r∈l.map S_,C r=1:=λr a=>by
 obtain ⟨t,_,rfl⟩:=mem_map.1 a;rfl
theorem T3(n:Nat)(H:aF)(l:H.get 904=ζ)(g:H.get 905=ζ)(i:dN H)(B:n<2^40):
  aU φ 93 [.pv .nils,iv (n:Int)] H (λr H'=>r=.osl 905 1 0 0/\H'=(905,⟨1,1,9,[]⟩)::H):=by
 refine Bd func93 Z ntmps93 ?_;by_cases k:n=0
 .subst k;refine UY (t:=0) (id:=905) (sz:=1) (ty:=9) Z g rfl<|Sz aH<|S<|U aA<|V cI<|Cn ?_ ?_<;>intro f
  .have h:=b9 f;omega
  refine aB<|S<|U aA<|Y aA<|Y (by exact FE Z aD Z Z Z)<|Y aA<|Y (by exact FD Z aD Z Z Z)<|Y (by exact dT Z Z Z (by exact lT X X))<|Y (by exact dT Z Z Z (by exact lT X X))<|V aH<|U aA<|V iX<|Cn ?_ ?_<;>intro e
  .have h:=b9 e;omega
  refine aB<|S<|Y5 (t:=0) Z Z Z E_<|Rd aA<|V aH<|aC ?_;refine cT (H':=((905,⟨1,1,9,[]⟩)::H)) (.inr Z) Z (aI Z) ((Fin.bump (g:=0) (k:=1) Z Z E_ Z Z Z).trans (Fin.get' (λj=>xO _ _ _ _ j))) ?_;exact Qq
 refine UY (t:=0) (id:=904) (sz:=1) (ty:=9) Z l Z ?_;have d:aF.get ((904,(⟨0,1,9,[]⟩:Ob))::H) 905=ζ:=g;refine Sz aH<|S<|U aA<|V cI<|Cn ?_ ?_<;>intro c
 .have h:=b9 c;omega
 refine aB<|S<|U aA<|Y aA<|Y (by exact FE Z aD Z Z Z)<|Y aA<|Y (by exact FD Z aD Z Z Z)<|Y (by exact dT Z Z Z (by exact lT X X))<|Y (by exact dT Z Z Z (by exact lT X X))<|V aH<|U aA<|V iX<|Cn ?_ ?_<;>intro b
 ·refine Rd aA<|Y aA<|Y (by exact FE Z aD Z Z Z)<|Y (by exact ep (l:=0) (h:=0) Z aY Z Z Z Z Z Z (h_ _) (h_ _) Z Z Z)<|Y aA<|Y (by exact RG (id2:=905) (m:=n) Z aY underlying3 sW Th Z Z Z Z Z (h_ _) Z X X X (r7 _) X d Z)<|Y aA<|Y (by exact FD Z aD Z Z Z)<|Y (by exact kY (l:=0) (h:=0) Z aY Z Z Z Z Z Z (h_ _) X Z Z)<|V aH<|U aA<|V aH<|aC ?_;refine cT (H':=((905,⟨1,1,9,[]⟩)::H)) (.inr Z) Z (aI Z) ((Fin.trunc (g:=0) (k:=1) (sz:=1) (ty:=9) (rows:=[]) Z Z E_ Z Z (take_zero)).trans (Fin.front' [_,_,_] [(905,⟨1,1,9,[]⟩)] m3 F_ (by simp[aF.get]) H_ i F_)) ?_;exact Qq
 have h:=b_ b;omega
theorem lD(ls:List (List B_))(H:aF)(D:C ls<2^40)(v:C ls.flatten<2^40):
  RC 47 [.pv (.sl (ls.map (λl=>[.sl (l.map S_)])))] (.pv (.sl (ls.flatten.map S_))) H:=by
 refine Pu ?_;have E:C (ls.map (λl=>[PV.sl (l.map S_)]))=C ls:=g_ _;have e:∀k,C ((ls.take k).flatten)<=C ls.flatten:=λk=>by
  conv=>rhs;rw[<-take_append_drop k ls,flatten_append,j8]
  omega
 have j:∀k l,ls[k]?=A l->(ls.take (k+1)).flatten=(ls.take k).flatten++l:=λk l h=>by
  rw[take_add_one,h,flatten_append];simp
 refine Bd func47 Z ntmps47<|Sz aH<|Sz aH<|S<|U aA<|Y (fM uC)<|V aA<|aE<|bF (σ:=Nat) (λk=>([(0,.pv (.sl (ls.map (λl=>[.sl (l.map S_)])))),(3,iv (C ((ls.take k).flatten):Int)),(9,.pv (.sl (ls.map (λl=>[.sl (l.map S_)])))),(10,iv (C (ls.map (λl=>[PV.sl (l.map S_)])):Int)),(11,iv (k:Int))],[])) (λk=>k<=C ls) (λk=>C ls - k) 0 X ?_ ?_
 .exact E0
 intro k y;refine Sz cI<|S<|Cn ?_ ?_<;>intro m
 .have i:k<C ls:=I_ m
  have ⟨l,o⟩:=aR i;have w:=cC (f:=λl=>[PV.sl (l.map S_)]) o;have d:C (l.map S_)=C l:=g_ _;have s:=j k l o;have x:=e (k+1);have t:C ((ls.take (k+1)).flatten)=C ((ls.take k).flatten)+C l:=F_
  have u:ξ.wrap ((C ((ls.take k).flatten):Int)+(C (l.map S_):Int))=(C ((ls.take (k+1)).flatten):Int):=by rw[IntKind.wrap_i64,d,t];omega
  refine aB<|S<|aE<|U (iV HG)<|Y (fS aG)<|V aH<|U aA<|Y aA<|Y (fM aD)<|Y (ka u)<|V aH<|U aA<|V cI<|Cn ?_ ?_<;>intro q
  .have h:=b9 q;omega
  refine aB<|Rd iD<|V aA ?_;exact⟨k+1,X,X,E0⟩
 have f:k=C ls:=J_ m
 subst f;rw[take_length];refine aP<|U aA<|Y (KX Z Z call93 Z (T3 (C ls.flatten) [] Z Z (dN.of H_) v))<|V aH<|S<|U aA<|Y (fM uC)<|V aA<|aE<|eZ (λ(k:Nat) (g:Nat)=>([(6,.osl 905 g 0 (C ((ls.take k).flatten.map S_))),(25,.pv (.sl (ls.map (λl=>[.sl (l.map S_)])))),(26,iv (C (ls.map (λl=>[PV.sl (l.map S_)])):Int)),(27,iv (k:Int))],[(905,⟨g,1,9,Cu ((ls.take k).flatten.map S_)⟩)])) (λk g=>k<=C ls) (λk g=>C ls - k) 0 1 X ?_ ?_
 .exact E0
 intro k g y;refine Sz cI<|S<|Cn ?_ ?_<;>intro n
 .have i:k<C ls:=I_ n
  have ⟨l,o⟩:=aR i;have w:=cC (f:=λl=>[PV.sl (l.map S_)]) o;have d:C (l.map S_)=C l:=g_ _;have B:C ((ls.take k).flatten.map S_)=C ((ls.take k).flatten):=g_ _;have s:=j k l o;have x:=e (k+1);have t:C ((ls.take (k+1)).flatten)=C ((ls.take k).flatten)+C l:=F_
  refine aB<|S<|aE<|U (iV HG)<|Y (fS aG)<|V aH<|Rd aA<|Y aA<|Y (by exact bW Z aY sW Z Z Z Z Z (KM _) Z (Z4 l) Z X (by simp_all:C ((ls.take k).flatten.map S_)+C (l.map S_)=C ((ls.take (k+1)).flatten.map S_)) (by rw[s,map_append,Cu,Cu,map_append]:Cu ((ls.take k).flatten.map S_)++(l.map S_).map (·.map .pv)=Cu ((ls.take (k+1)).flatten.map S_)))<|V aH<|Rd iD<|V aA ?_;exact⟨k+1,g+1,X,X,cH.dup ⟨⟨_,Z,Z⟩,⟨_,Z,Z⟩,⟨_,Z,Z⟩,⟨_,Z,Z⟩,T_⟩⟩
 have f:k=C ls:=J_ n
 subst f;rw[take_length];refine aP<|U aA<|V aH<|aC ?_;refine cT (H':=[]) (.inr Z) Z (aI Z) (Fin.slice0 (id:=905) (ls.flatten.map S_) Z Z Z Z) ?_;exact Qq
theorem CB{o}(h:oV o=T):C o.refs<=2000/\C o.tags<=60/\tR o.tags=T/\cJ o.id=T/\(o.kind=2->2<=C o.refs):=by rw[oV,l6,OX,wM]at h;have a:=h.1;simp[q_,Bool.not_eq_false',q7]at a;have ⟨⟨⟨⟨B,d⟩,b⟩,c⟩,D⟩:=a;refine⟨X,(xY.1 b).2.2,b,d,λe=>?_⟩;rw[e,show FQ 2=2 from rfl]at c;omega
theorem uW{e}:gK e=T↔(1<=e.op/\e.op<=7)/\xH e=T/\GB e=e:=by rw[gK,l6,l6,l6,k_,k_,pU]
theorem JE{e}(h:gK e=T):e.val.size<=200:=by
 have ⟨_,a,b⟩:=uW.1 h;have d:(GB e).val=e.val:=by rw[b]
 by_cases c:e.op=3
 .rw[xH,a8 X,a8 X,b6 c,l6,l6,k_]at a;omega
 have:e.val=a6:=by
  rw[<-d,GB]
  grind
 rw[this];decide
abbrev aFp(m:List l8)(s:B_):Option l8:=m.find? (aFr s)
theorem El{o}(h:oV o=T):1<=o.kind/\o.kind<=5:=by
 rw[oV,l6,OX,wM]at h;have g:=h.1;simp[q_,q7]at g;have e:=g.1.1.1.1;unfold eN at e;by_cases a:o.kind=1
 .omega
 by_cases b:o.kind=2
 .omega
 by_cases c:o.kind=3
 .omega
 by_cases d:o.kind=4
 .omega
 by_cases f:o.kind=5
 .omega
 rw[a8 a,a8 b,a8 c,a8 d,a8 f]at e;exact absurd Z e
def qN(s:B_):B_:=aV (s.size:Int)++⟨#[58]⟩++s
def aO(l:List B_):List UInt8:=l.flatMap λs=>(qN s).data.toList
def yY(l:List B_):B_:=F1 ⟨(aO l).toArray⟩
theorem nY{n}(b : -9223372036854775808<=n)(c:n<=9223372036854775807):(aV n).size<=21:=by have:=Lib.itoa_length_le n b c;show (Lib.itoa n).toArray.size<=21;omega
theorem nS(s):(qN s).size=(aV (s.size)).size+1+s.size:=by rw[qN,ByteArray.size_append,ByteArray.size_append];rfl
theorem qA(l)(s):aO (l++[s])=aO l++(qN s).data.toList:=by rw[aO,aO,flatMap_append,flatMap_cons,flatMap_nil,append_nil]
theorem uV:∀(l) (k),C (aO (l.take k))<=C (aO l):=λl k=>by
 have h:aO l=aO (l.take k)++aO (l.drop k):=by rw[aO,aO,aO,<-flatMap_append,take_append_drop]
 rw[h,j8];omega
theorem eP{l:List α}{k}{a}(h:l[k]?=A a):l.take (k+1)=l.take k++[a]:=by rw[take_add_one,h,Option.toList_some]
theorem pO(s:B_):C s.data.toList=s.size:=rfl
theorem AE:∀l,C l<=C (aO l)
 | []=>h_ _
 |s::r=>by
  have B:=AE r;have h:aO (s::r)=(qN s).data.toList++aO r:=rfl;rw[h,j8,j6,pO,nS];omega
theorem bz(l:List B_)(H:aF)(I:C (aO l)<35184372088832):RC 81 [.pv (aK l)] (sv (yY l)) H:=by
 refine Pu ?_;have E:C (l.map S_)=C l:=g_ _;have D:=AE l;refine Bd func81 Z ntmps81<|Sz aH<|Sz (kl 2001 IF)<|S<|S ?_;refine fW.ent (E':=[(0,.pv (aK l)),(3,.ref 2001 0 0 0)]) (H':=zB 0 [] η) (cH.bld0 ⟨⟨_,Z,.same H_⟩,⟨_,Z,.same m3⟩,T_⟩) ?_;refine Rd aA<|Y (fM aD)<|V aA<|aE<|CI (λ(k g:Nat) (u:Bool)=>([(3,.ref 2001 0 0 0),(6,.pv (aK l)),(7,iv (C (l.map S_):Int)),(8,iv (k:Int))],zB g (aO (l.take k)) u)) (λk g u=>k<=C l) (λk g u=>C l - k) 0 0 η (l7 _) ?_ ?_
 .exact(cH.wk (Ea<|Eb<|Eb<|Eb<|T_) (Hc (gO Z Z)<|Hc (eT _ _)<|T_) T_)
 intro k g u G;have B:=uV l k;refine Sz cI<|S<|Cn ?_ ?_<;>intro d
 .have j:k<C l:=I_ d
  have ⟨s,i⟩:=aR j;have hi:=cC (f:=S_) i;have f:=uV l (k+1);rw[eP i,qA,j8,pO,nS]at f;have F:s.size<35184372088832:=X
  refine aB<|S<|aE<|U (iV aY)<|Y (fS N_)<|V aH<|Rd aA<|Y (gL U_)<|Y (kc mB (qB (s.size:Int) X X _))<|Y (by exact fJ Z Z Z (by have:(⟨#[58]⟩:B_).size=1:=rfl;omega) Z)<|Y aA<|Y (by exact fJ Z Z Z (by rw[ByteArray.size_append];have:(⟨#[58]⟩:B_).size=1:=rfl;omega) Z)<|V (kc nM (jK g (aO (l.take k)) u (qN s) (by rw[nS];omega)))<|Rd iD<|V aA ?_;refine⟨k+1,g+1,T,X,X,?_⟩;rw[eP i,qA];exact(cH.wk (Ea<|Eb<|Eb<|Eb<|T_) (Hc (gO Z Z)<|Hc (eT _ _)<|T_) T_)
 have h:k=C l:=J_ d
 subst h;rw[take_length];exact aP<|U (kc nL (RW g (aO l) u X))<|Y (kc call106 (vz ⟨(aO l).toArray⟩ _ (by show (aO l).toArray.size<_;grind)))<|V aH<|aC<|Rt<|Qq
theorem rY(s):(F1 s).size=16:=rfl
def O1:B_->Nat->B_
 |t,0=>t
 |t,n+1=>O1 (F1 t) n
theorem Ae:∀(a b) (t),O1 (O1 t a) b=O1 t (a+b)
 |0,b,t=>by rw[r7];rfl
 |a+1,b,t=>by
  rw[show a+1+b=(a+b)+1 by omega];exact Ae a b _
theorem MB(t)(n):O1 t (n+1)=F1 (O1 t n):=by rw[<-Ae n 1 t];rfl
theorem Qf{t}(h:t.size=16):∀n,(O1 t n).size=16
 |0=>h
 |n+1=>by rw[MB,rY]
def Gz(m:B_):Nat:=UM (WH m.size) (ν (μ m))
def dJ(m:B_):List Nat:=(List.range 16).map (WD (Gz m))
def HQ(m:B_):Nat:=((dJ m).map (15 - ·)).sum
def Hh(m:B_):List Nat:=dJ m++[HQ m / 16,HQ m % 16]
theorem aC4(m):C (dJ m)=16:=rfl
theorem Yv(m):C (Hh m)=18:=rfl
theorem RV:∀l:List _,(l.map (15 - ·)).sum<=15*C l
 | []=>h_ _
 |a::r=>by
  have:=RV r;simp[map_cons,sum_cons,j6];omega
theorem gb(m):HQ m<=240:=by have:=RV (dJ m);exact this
theorem aCZ(m:B_):∀d∈Hh m,d<16:=by
 intro d a;rcases mem_append.1 a with h|h
 .obtain ⟨j,_,rfl⟩:=mem_map.1 h;exact FI _ _
 have:=gb m;simp only[l9,q8,or_false]at h;rcases h with rfl|rfl<;>omega
def OQ:B_:=⟨#[110,111,100,101]⟩
def pK(s:B_)(i k:Nat):B_:=yY [s,aV (i:Int),aV (k:Int)]
def YU(s:B_)(i:Nat):List B_:=(List.range 18).map λk=>O1 (pK s i k) 15
def sc(s:B_)(i:Nat):B_:=yY (YU s i)
def yL(s:B_)(h:Nat):List B_:=(List.range (2 ^ h)).map (sc s)
def jg(a b:B_):B_:=yY [OQ,a,b]
def vr:List B_->List B_
 |a::b::r=>jg a b::vr r
 |_=>[]
def yG:Nat->List B_->Nat->List B_
 |0,_,_=>[]
 |h+1,l,i=>l.getD (i ^^^ 1) a6::yG h (vr l) (i / 2)
def pg(s:B_)(i:Nat)(m:B_):List B_:=(List.range 18).map λk=>O1 (pK s i k) ((Hh m).getD k 0)
def sS(b:UInt8):Bool:=(48<=b&&b<=57)||(97<=b&&b<=102)
def m6(t:B_):Bool:=θ (t.size=16)&&t.data.toList.all sS
theorem PT:∀(n) (l),C l=2*n->C (vr l)=n
 |0,[],_=>rfl
 |n+1,a::b::r,h=>by
  have:=PT n r G_;rw[vr,j6,this]
 |n+1,[a],h=>by grind
 |n+1,[],h=>by grind
 |0,a::r,h=>by grind
theorem vq:∀(n) (l) (k),C l=2*n->k<n->(vr l).getD k a6=jg (l.getD (2*k) a6) (l.getD (2*k+1) a6)
 |0,l,k,_,c=>by omega
 |n+1,[],k,h,_=>by grind
 |n+1,[a],k,h,_=>by grind
 |n+1,a::b::r,0,h,_=>rfl
 |n+1,a::b::r,k+1,h,c=>by
  have d:=vq n r k G_ X;rw[vr,show 2*(k+1)=2*k+1+1 by omega,getD_cons_succ,d,getD_cons_succ,getD_cons_succ,getD_cons_succ,getD_cons_succ]
theorem vi(i):i ^^^ 1=if i % 2=1 then i - 1 else i+1:=by
 have B:(i ^^^ 1) / 2=i / 2:=by
  rw[xor_div_two];simp
 have D:=by
  have:=xor_mod_two_pow (a:=i) (b:=1) (n:=1)
  simpa using this
 have E:(i ^^^ 1) % 2=1 - i % 2:=by
  grind
 split
 .omega
 omega
theorem XK:∀(h) (l) (i),C (yG h l i)=h
 |0,_,_=>rfl
 |h+1,l,i=>by rw[yG,j6,XK h]
theorem X7(s)(h):C (yL s h)=2 ^ h:=by simp[yL]
theorem Ei{l:List α}{k}{d}(h:k<C l):l.getD k d∈l:=F_
theorem Ow{n}(h:n<16):sS (UInt8.ofNat (xN n).toNat)=T:=by revert n;decide
theorem DJ(s):m6 (F1 s)=T:=by rw[m6,l6,k_];refine⟨rY s,?_⟩;rw[all_eq_true];intro b a;obtain ⟨j,_,rfl⟩:=mem_map.1 (show b∈(List.range _).map _ from by simpa[F1,B8]using a);exact Ow (FI _ _)
theorem aCF{t}(h:m6 t=T):∀n,m6 (O1 t n)=T
 |0=>h
 |n+1=>by rw[MB];exact DJ _
theorem iJ{t}(h:m6 t=T):t.size=16:=by rw[m6,l6,k_]at h;omega
theorem Jt(s)(i)(m):∀t∈pg s i m,m6 t=T:=by intro t a;obtain ⟨k,_,rfl⟩:=mem_map.1 a;exact aCF (DJ _) _
theorem Js(s)(i)(m):C (pg s i m)=18:=rfl
theorem ZJ:∀(n) (l),C l<=n->∀t∈vr l,m6 t=T
 |_,[],_,t,c=>by simp[vr]at c
 |_,[a],_,t,c=>by simp[vr]at c
 |0,a::b::r,h,t,c=>by grind
 |n+1,a::b::r,h,t,c=>by
  rcases l9.1 c with rfl|c
  .exact DJ _
  exact ZJ n r (by grind) t c
theorem XL:∀(h) (l) (i),C l=2 ^ h->i<2 ^ h->(∀t∈l,m6 t=T)->∀t∈yG h l i,m6 t=T
 |0,_,_,_,_,_,t,a=>by simp[yG]at a
 | h+1,l,i,hl,hi,ha,t,a=>by
  have b:C l=2*2 ^ h:=X
  rcases l9.1 a with rfl|a
  .rw[vi]
   grind
  exact XL h _ _ (PT _ _ b) X (ZJ _ _ (h_ _)) t a
theorem X8(s)(h):∀t∈yL s h,m6 t=T:=by intro t a;obtain ⟨k,_,rfl⟩:=mem_map.1 a;exact DJ _
def bZ(l:List B_):List (List AV):=l.map λs=>[.pv (.str s)]
theorem dI(l):C (bZ l)=C l:=g_ _
theorem gT(l)(s):bZ l++[[.pv (.str s)]]=bZ (l++[s]):=by rw[bZ,bZ,map_append];rfl
theorem aN(H)(l):∀r∈bZ l,∀a∈r,Clo H a:=by intro r d a c;obtain ⟨b,_,rfl⟩:=mem_map.1 d;rw[q9]at c;subst c;simp
instance(H)(l):W_ (H) (bZ l):=⟨aN H l⟩
theorem dA(l):bZ l=(l.map S_).map (·.map .pv):=by rw[map_map];rfl
def iY(t:m8):B_:=t.key++⟨#[61]⟩++⟨(dB (ν (μ t.val))).toArray⟩
def wK(L:List B_):aF:=[(903,⟨C L,1,9,bZ L⟩),(4,bx 1 22 [.osl 903 (C L) 0 (C L)])]
theorem aAm(L)(s):wK (L++[s])=[(903,⟨C L+1,1,9,bZ (L++[s])⟩),(4,bx 1 22 [.osl 903 (C L+1) 0 (C L+1)])]:=by simp[wK]
theorem rT(s:B_):(⟨(dB (ν (μ s))).toArray⟩:B_).size<=2*s.size+2:=by show C (dB _)<=_;have:=lg (ν (μ s));have h:C s.data.toList=s.size:=rfl;rw[dB,j6,j8,length_singleton];omega
theorem ym{i j}{a b B d}{id}(h:(aF.get [(i,a),(j,b)] id).isSome=T):(aF.get [(i,B),(j,d)] id).isSome=T:=by
 simp[aF.get]at h |-
 grind
theorem Ty(t:m8)(L:List B_)(F:t.key.size<2^40)(H:t.val.size<2^40)(E:C L<2^40):
  aU φ 309 [av (bU t),.ref 4 0 0 0] (wK L) (λr H'=>r=.tup []/\H'=wK (L++[iY t])):=by
 rw[aAm];have G:=rT t.val;have B:(⟨#[61]⟩:B_).size=1:=rfl;have D:(t.key++⟨#[61]⟩:B_).size=t.key.size+1:=F_
 refine Bd func309 Z ntmps309<|Sz (kb 2)<|aM a7<|Cr [4] (λ_ h=>lh aG h)<|Cr [2] (λ_ h=>fh qD h)<|Cr [2] (λ_ h=>lh N_ h)<|x_ (by exact fJ Z Z Z X Z)<|Cr [2] (λ_ h=>fh rB h)<|Cr [2] (λ_ h=>lh N_ h)<|x_ (by exact bH Z Z call260 Z (xk t.val _ X))<|x_ (by exact fJ Z Z Z X Z)<|x_ (by exact aL [[.str (iY t)]] Z aY Z Z Z Z Z F_)<|Cp [903] (λd b=>by exact bW (ps:=[[.str (iY t)]]) Z aY sW Z ((b _ Z).trans Z) Z Z Z (dI L) Z F_ (m:=1) Z X Z (gT L (iY t))) ?_;refine Cp [4] (λ_ h=>sa sizeOf22 h)<|bG<|Kr ?_;exact pE (H':=[(903,⟨C L+1,1,9,bZ (L++[iY t])⟩),(4,bx 1 22 [.osl 903 (C L+1) 0 (C L+1)])]) (.inl Z) Z P_ ⟨Z,Z⟩
def YJ(l:List m8):B_:=⟨(bT [32] (bs (l.map iY))).toArray⟩
def kA(l:List m8):B_×Int:=if tR l then(if 20000<(YJ l).size then(a6,2)else(YJ l,0))else(a6,1)
theorem X5{t}(D:t.key.size<=24)(F:t.val.size<=200):(iY t).size<=427:=by have E:=rT t.val;have B:(⟨#[61]⟩:B_).size=1:=rfl;rw[iY,ByteArray.size_append,ByteArray.size_append];omega
theorem dS{s}(h:cJ s=T):s.size<=24:=by rw[cJ,l6,l6,k_]at h;omega
theorem pN{l}{n}(h:∀s,s∈l->s.size<=n):dF l<=n*C l:=by
 induction l with
 |nil=>exact l7 _
 |cons a l b =>
  rw[dF,map_cons,sum_cons,j6,mul_succ];have B:=h a mem_cons_self;have d:=b (λs c=>h s (mem_cons_of_mem _ c));rw[dF]at d;omega
theorem aE3{L}{K:aF}{r}(h:aU φ 204 [.pv (aK L),sv ⟨#[32]⟩] [] (λx H'=>x=sv r/\H'=[])):aU φ 204 [.osl 903 (C L) 0 (C L),sv ⟨#[32]⟩] ((903,⟨C L,1,9,bZ L⟩)::K) (λx H'=>x=sv r/\H'=(903,⟨C L,1,9,bZ L⟩)::K):=by
 exact RO.calls (RO.lend _ (RO.of h Z) (get_cons_same _ _ _) (dA L) Z
  (bA (.osl (by rw[drop_zero,take_of_length_le H_])) (bA (.same H_) jA)) (λ_ _ h=>by cases h) (λ_ _ h=>by cases h) Z)
theorem w8{p:Prop}(h:p:=by(simp;rfl)):p:=h
theorem WX(l:List m8)(H:aF)(z:NF l):RC 288 [.pv (qM l)] (.tup [sv (kA l).1,iv (kA l).2]) H:=by
 refine Pu ?_;have E:C (l.map bU)=C l:=g_ _;refine Bd func288 Z ntmps288<|U aH<|V aH<|S<|U aA<|Y (kc call305 (CU l _ z))<|V iH<|Cn ?_ ?_<;>intro D
 .have i:tR l=η:=F_
  have e:kA l=(a6,1):=by rw[kA,a8 F_]
  rw[e];exact U aH<|V aH<|aC<|Ru<|Qq
 have i:tR l=T:=F_
 have ⟨u,J,P⟩:=xY.1 i;refine aB<|Sz (kl 4 Zy)<|U (iC Z Z)<|V aH<|S<|S ?_;refine fW.ent (E':=[(0,.pv (qM l)),(4,.ref 4 0 0 0),(5,.clo 309 [.ref 4 0 0 0])]) (H':=wK []) (Q_ 903 1 9) ?_;refine Rd aA<|Y (fM dU)<|V aA<|aE<|bF (σ:=Nat) (λk=>([(4,.ref 4 0 0 0),(5,.clo 309 [.ref 4 0 0 0]),(13,.pv (qM l)),(14,iv (C (l.map bU):Int)),(15,iv (k:Int))],wK ((l.take k).map iY))) (λk=>k<=C l) (λk=>C l - k) 0 (l7 _) ?_ ?_
 .exact L_
 intro k Q;refine Sz cI<|S<|Cn ?_ ?_<;>intro d
 .have j:k<C l:=I_ d
  have ⟨t,g⟩:=aR j;have w:=cC (f:=bU) g;have ⟨m,B,v⟩:=u t (m7 g);have I:=dS m;have q:C ((l.take k).map iY)<2^40:=G_
  have o:(l.take (k+1)).map iY=(l.take k).map iY++[iY t]:=by rw[take_add_one,g,map_append];rfl
  refine aB<|S<|aE<|U (bP Z lU Z Z X x7 w Z)<|Y (by exact fF Z xS mA Z w (by simp only[Zl,bU];rfl) Z)<|Y (kl 7 aAA)<|Uu (jG mA)<|Zz<|Rd aA<|Y (wY xS mA)<|V (by exact dK Z Z Z (dQ.clo call309 (aU.frame (Ty t ((l.take k).map iY) X X q) (EX.sub ⟨Z,Z,T_⟩) (dN.ofL ⟨(aN _ _),w8,T_⟩) m3 (λid h=>.inl (ym h)))))<|Rd iD<|V aA ?_;refine⟨k+1,X,X,?_⟩;show cH _ _ _ _ (wK ((l.take (k+1)).map iY));rw[o];exact L_
 have n:k=C l:=J_ d
 subst n;have F:dF (l.map iY)<=427*C l:=by
  have:=pN (l:=l.map iY) (n:=427) (λs G=>by
   obtain ⟨t,g,rfl⟩:=mem_map.1 G;have ⟨m,B,v⟩:=u t g;exact X5 (dS m) v)
  rwa [g_]at this
 have y:aU φ 204 [.pv (aK (l.map iY)),sv ⟨#[32]⟩] [] (λx H'=>x=sv (YJ l)/\H'=[]):=xM (l.map iY) ⟨#[32]⟩ [] E_ (by rw[g_];show 1*_+_+_<_;omega);have p:=aE3 (L:=l.map iY) (K:=[(4,bx 1 22 [.osl 903 (C (l.map iY)) 0 (C (l.map iY))])]) y;rw[take_length];refine aP<|U (bQ aG)<|Y (kc sA (p))<|V aH<|S<|U aA<|Y (gL U_)<|V iX<|Cn ?_ ?_<;>intro f
 .have e:kA l=(a6,2):=by
   rw[kA,b6 i,b6 (I_ f)]
  rw[e];exact U aH<|V aH<|aC<|Ru<|Qq
 have e:kA l=(YJ l,0):=by
  rw[kA,b6 i,a8 (J_ f)]
 rw[e];exact aB<|U aA<|Y aH<|V aH<|aC<|Ru<|Qq
theorem Ff{t}(h:t.size<2^40):∀n,(O1 t n).size<2^40
 |0=>h
 |n+1=>by rw[MB,rY];decide
theorem Ad(t)(n:Nat)(H)(e:t.size<2^40)(D:n<1000):RC 172 [sv t,iv n] (sv (O1 t n)) H:=by
 refine Pu<|Bd func172 Z ntmps172<|Sz aH<|S<|U aA<|V aA<|aE<|bF (λk=>([(0,sv (O1 t k)),(5,iv n),(6,iv k)],[])) (λk=>k<=n) (λk=>n - k) 0 (l7 _) ?_ ?_
 .exact Wk
 intro k B;have b:=λH=>vz (O1 t k) H (by have:=Ff e k;omega);rw[<-MB]at b;refine Sz cI<|S<|Cn ?_ ?_<;>intro c
 .have hlt:=I_ c
  refine aB<|S<|aE<|Rd aA<|Y (bH Z Z call106 Z (b _))<|V aH<|Rd (by exact dD Z Z Z (show ξ.wrap _=((k+1:Nat):Int)by rw[lT X X];omega))<|V aA ?_;exact⟨k+1,X,X,Wk⟩
 have d:k=n:=J_ c
 subst d;exact aP<|U aA<|V aH<|aC<|Rt<|Qq
theorem yb(l)(H)(b:C (aO l)<35184372088832):RC 226 [.pv (aK l)] (sv (yY l)) H:=by refine Pu ?_;exact Bd func226 Z ntmps226<|Sz aH<|U aA<|Y (bH Z Z call81 Z (bz l _ b))<|V aH<|aC<|Rt<|Qq
theorem yq(a b c):C (aO [a,b,c])=(qN a).size+(qN b).size+(qN c).size:=by simp[aO,pO];omega
theorem JA(n:Nat)(h:n<2^40):(aV n).size<=21:=nY X X
theorem pQ{s}(h:s.size<2^40):(qN s).size<=s.size+22:=by have:=JA _ h;rw[nS];omega
theorem wb(s:B_)(i k:Nat)(H:aF)(b:s.size<2^40)(hi:i<2^40)(c:k<2^40):RC 173 [sv s,iv (i:Int),iv (k:Int)] (sv (pK s i k)) H:=by
 refine Pu ?_;have F:=JA i hi;have G:=JA k c;have d:C (aO [s,aV (i:Int),aV (k:Int)])<35184372088832:=by
  have B:=pQ b;have D:=pQ (s:=aV (i:Int)) X;have E:=pQ (s:=aV (k:Int)) X;rw[yq];omega
 exact Bd func173 Z ntmps173<|Sz aH<|U aA<|Y aA<|Y (kc mB (qB (i:Int) X X _))<|Y aA<|Y (kc mB (qB (k:Int) X X _))<|Y (aL [[.str s],[.str (aV (i:Int))],[.str (aV (k:Int))]] Z aY Z Z Z Z Z F_)<|Y (kc call226 (yb _ _ d))<|V aH<|aC<|Rt<|Qq
theorem Wy(a b:B_)(d:Bool)(H:aF)(g:a.size<2^40)(f:b.size<2^40):RC 229 [sv a,sv b,bv d] (sv (if d=T then jg b a else jg a b)) H:=by
 refine Pu ?_;have h:∀x y:B_,x.size<2^40->y.size<2^40->C (aO [OQ,x,y])<35184372088832:=by
  intro x y i j;have B:=pQ (s:=OQ) E_;have D:=pQ i;have E:=pQ j;have F:OQ.size=4:=rfl;rw[yq];omega
 refine Bd func229 Z ntmps229<|Sz aH<|S<|Sz aA<|Cn ?_ ?_<;>intro e
 .subst e;exact Rd aA<|Y aA<|Y aH<|V aH<|U aA<|Y aA<|Y (aL [[.str OQ],[.str b],[.str a]] Z aY Z Z Z Z Z F_)<|Y (kc call226 (yb [OQ,b,a] _ (h b a f g)))<|V aH<|aC<|Rt<|Qq
 subst e;exact aB<|U aA<|Y aA<|Y (aL [[.str OQ],[.str a],[.str b]] Z aY Z Z Z Z Z F_)<|Y (kc call226 (yb [OQ,a,b] _ (h a b g f)))<|V aH<|aC<|Rt<|Qq
def YT(s:B_)(i k:Nat):List B_:=(List.range k).map λk=>O1 (pK s i k) 15
theorem tp(s)(i k):YT s i (k+1)=YT s i k++[O1 (pK s i k) 15]:=by rw[YT,range_succ,map_append];rfl
theorem YS(s)(i k):C (YT s i k)=k:=by simp[YT]
theorem EY(s)(i k):(pK s i k).size=16:=rY _
theorem LN{b}(a:b<2^40):∀(l),(∀s∈l,s.size<=b)->C (aO l)<=(b+22)*C l
 | [],_=>h_ _
 |s::r,h=>by
  have E:=LN a r (λx c=>h x (mem_cons_of_mem _ c));have D:=h s mem_cons_self;have e:aO (s::r)=(qN s).data.toList++aO r:=rfl;have B:=pQ (s:=s) X;rw[e,j8,j6,pO,Nat.mul_add];omega
theorem Fe(t)(H)(a:t.size<2^40):RC 172 [sv t,iv 15] (sv (O1 t 15)) H:=Ad t _ H a H_
theorem aCE(s:B_)(i:Nat)(H:aF)(g:s.size<2^40)(hi:i<2^40):RC 227 [sv s,iv (i:Int)] (sv (sc s i)) H:=by
 refine Pu<|Bd func227 Z ntmps227<|Sz aH<|Sz (dZ (id:=905) (sz:=1) (ty:=9) Z Z Z)<|S<|Sz aA<|aE<|bF (σ:=Nat) (λk=>([(0,sv s),(1,iv (i:Int)),(5,.osl 905 k 0 k),(7,iv (k:Int))],[(905,⟨k,1,9,bZ (YT s i k)⟩)])) (λk=>k<=18) (λk=>18 - k) 0 (l7 _) ?_ ?_
 .exact L_
 intro k B;have d:=YS s i k;have e:=tp s i k;refine Sz cI<|S<|Cn ?_ ?_<;>intro b
 .have hlt:k<18:=I_ b
  refine aB<|S<|aE<|U aA<|V aH<|Rd aA<|Y aA<|Y aA<|Y aA<|Y (kc call173 (wb s i k _ g hi X))<|Y (kc call172 (Fe (pK s i k) _ (by rw[EY];decide)))<|Y (by exact aL [[.str (O1 (pK s i k) 15)]] Z aY Z Z Z Z Z F_)<|Y (by exact bW (ps:=[[.str (O1 (pK s i k) 15)]]) Z aY sW Z Z Z Z Z (by rw[dI,d]) Z F_ (m:=1) Z X Z (gT _ (O1 (pK s i k) 15)))<|V aH<|Rd kp<|V aA ?_;refine⟨k+1,X,X,?_⟩;dsimp only;rw[e];exact(cH.wk (Eb<|Eb<|Ea<|Eb<|T_) (Hc (aN _ _)<|T_) T_)
 have c:k=18:=J_ b
 subst c;refine aP<|S ?_;refine fW.ent (cH.fz (id:=905) (E':=[(5,.pv (aK (YU s i)))]) (H':=[]) ((YU s i).map S_) Z (dA _)
  (by intro p f;simp only[l9,q8,or_false]at f;subst f;exact⟨_,Z,.osl x7⟩) Z T_ T_) ?_
 exact Rd aA<|Y (by exact bH Z Z call226 Z (yb (YU s i) _ (by have h:=LN (b:=16) E_ (YU s i) (λx j=>by obtain ⟨k,_,rfl⟩:=mem_map.1 j;exact Nat.le_of_eq (Qf (EY s i k) 15));rw[show C (YU s i)=18 from YS s i 18]at h;omega)))<|V aH<|aC<|Rt<|Qq
end Go.Proofs.C
namespace Go.Abs
variable{P:Program}{id p p2 r4:Nat}
theorem Tk{x:Go.Loop}{k s:Code}{g:dG}{a W:AV}{K:aF}{Q:AV->aF->Prop}(E2:dG)(K2:aF)(f_:x.state=.ready)(z_:x.pending=ζ)(hp:x.params=#[p,p2])(hN:x.tmps.size=r4)(hxa:x.assign=k)(hxb:x.body=s)(d:Nat.blt p r4=T)(E:Nat.blt p2 r4=T)(δ:Nat.beq p p2=η)
  (κ:AA k=T) (R:AA s=T)
  (h1:fW P ((id,LR x g)::K) r4 k (zJ (λE1 H1=>cH ((id,LR x g)::K) E1 H1 E2 ((id,LR x g)::K2)) (λ_ _ _=>False)) ((p2,W)::(p,a)::g) ((id,LR x g)::K))
  (h2:fW P ((id,LR x g)::K) r4 s (Sa ((id,LR x g)::K) id x g Q) E2 ((id,LR (busy x) g)::K2)):JS P id 0 [a,W] ((id,LR x g)::K) Q:=by
 subst hxa hxb;have d:p<r4:=F_
 have E:p2<r4:=F_
 have δ:p≠p2:=λe=>by simp_all
 intro I A_ w vs v hr hv hl n;have ⟨b,e1,J,e3,e4,e5⟩:=Ko hr (iB _ _ _) hv;obtain ⟨u,z,rfl⟩:∃u z,vs=#[u,z]:=by
  match vs,hl with
  |⟨[u,z]⟩,_=>exact⟨u,z,Z⟩
 have hu:=n 0 u a Z Z;have hu2:=n 1 z W Z Z;refine⟨b,x.fn,_,x.assign,x.body,J,run_yield e3 F_,?_⟩;refine roundIn_of_wpIn (F:=Fence.wide) T_ ?_;have hG:(⟨I,A_,(id,LR x g)::K,w,[]⟩:Entry).H=(id,LR x g)::K:=rfl;have hst:St ⟨I,A_,(id,LR x g)::K,w,[]⟩ r4 ((p2,W)::(p,a)::g) ((id,LR x g)::K) {tmps:=(x.params.zip #[u,z]).foldl (λo (t,a)=>o.setIfInBounds t a) x.tmps,defers:=[]} w:=by
  have ht:(x.params.zip #[u,z]).foldl (λo (t,a)=>o.setIfInBounds t a) x.tmps=(x.tmps.setIfInBounds p u).setIfInBounds p2 z:=by rw[hp];simp
  rw[ht];refine⟨uM.nil _ _ _,by simp[hN],I,A_,hr,Step.refl _ _ _ _,λt y m=>?_⟩;by_cases J:p2=t
  .subst J;rw[dG.get_cons_same]at m;cases m;exact⟨z,by simp[hN,E],hu2⟩
  rw[dG.get_cons_other _ _ J]at m;by_cases e:p=t
  .subst e;rw[dG.get_cons_same]at m;cases m;exact⟨u,by show ((x.tmps.setIfInBounds p u).setIfInBounds p2 z)[p]?=A u;rw[Array.getElem?_setIfInBounds_ne J];simp[hN,d],hu⟩
  rw[dG.get_cons_other _ _ e]at m;have ⟨i,hi⟩:=s8.1 (iS m);have ⟨c,c1,c2⟩:=e5 i t y (by rw[r8,hi];rfl) (by rw[r8,hi];rfl);exact⟨c,by show ((x.tmps.setIfInBounds p u).setIfInBounds p2 z)[t]?=A c;rw[Array.getElem?_setIfInBounds_ne J,Array.getElem?_setIfInBounds_ne e];exact c1,c2⟩
 refine wpIn_mono (h1 _ hG _ w hst (A b) (.inr κ)) ?_;rintro e a1 w1 ⟨E1,H1,q,hs1⟩;cases e with
 | normal =>
  have L:=q _ hG r4 a1 w1 hs1;have ⟨I1,ι1,B,G,ρ⟩:=L.rel;have c_:=uO G (iB _ _ _) e1 (iB _ _ _);have τ:=vQ B (iB _ _ _) c_;have ⟨k1,k2⟩:=B.setRec (y:=busy x) (H':=(id,LR (busy x) g)::K2) (iB _ _ _) c_ Z (iB _ _ _) (λj hj=>B9 _ _ _ hj);refine⟨_,run_beginRound τ f_,?_⟩;have γ:St ⟨I,A_,(id,LR x g)::K,w,[]⟩ r4 E2 ((id,LR (busy x) g)::K2) a1 (w1.putObj b (.loop (busy x))) :=
   ⟨L.defers.step B k2,L.size,I1,ι1,k1,G.trans k2,λt y m=>let ⟨c,c1,c2⟩:=ρ t y m;⟨c,c1,c2.mono B k2⟩⟩
  refine wpIn_mono (h2 _ hG a1 _ γ (A b) (.inr R)) ?_;rintro e W w3 ⟨E3,H3,u_,hs4⟩;have o_:∀(h:Option Code) (y:Go.Loop) (H:aF),y={busy x with state:=if h.isNone then .ready else .done,pending:=h}->cH ((id,LR x g)::K) E3 H3 [] ((id,LR (busy x) g)::H)->Q (.pv (.bool h.isNone)) ((id,LR y g)::H) ->
    ∃v w',(Instr.endRound b h).run P w3=.ok v w'/\∃r H' I' e_ v',Ending.returned v=.returned v'/\Q r H'/\VRel w' I' e_ H' v' r/\Rel I' e_ H' w'/\Step I A_ ((id,LR x g)::K) w I' e_ H' w':=by
   intro h y H m f u4;have β:=f _ hG r4 W w3 hs4;have ⟨I5,ι5,y_,F,_⟩:=β.rel;have D:=uO F (iB _ _ _) e1 (iB _ _ _);have σ:=vQ y_ (iB _ _ _) D;have ⟨z1,z2⟩:=y_.setRec (y:=y) (H':=(id,LR y g)::H) (iB _ _ _) D (by rw[m]) (iB _ _ _) (λj hj=>B9 _ _ _ hj);refine⟨_,_,run_endRound h σ,_,_,I5,ι5,_,Z,u4,.pv (.bool _),?_,?_⟩
   .rw[<-m];exact z1
   rw[<-m];exact F.trans z2
  cases e with
  |normal =>
   obtain ⟨H,f,u4⟩:=u_;refine o_ ζ x H ?_ f u4;obtain ⟨st,pe,fn,tm,pa,ax,bo,de⟩:=x;simp only at f_ z_;subst f_ z_;rfl
  |ret =>
   have ⟨H,f,u4⟩:=u_;exact o_ (A .ret) (left x .ret) H Z f u4
  |exit j =>
   have ⟨H,f,u4⟩:=u_;exact o_ (A (.exit j)) (left x (.exit j)) H Z f u4
  |goto l=>exact u_.elim
  |panic ch=>exact u_.elim
  |outgrown=>exact u_.elim
 |exit j=>exact q.elim
 |goto l=>exact q.elim
 |ret=>exact q.elim
 |panic ch=>exact q.elim
 |outgrown=>exact q.elim
theorem uj{G0:aF}{f:Nat}{e_:List AV}{g:Operand}{ps:Array Tmp}{assign body:Code}{Q:Exit->dG->aF->Prop}{E:dG}{H:aF}(n:dG)(hg:aQ E g=A (.clo f e_))(hc:∀(args:Array Value) (w:World),(callFunc f args).run P w=.ok (.enter f args) w)
  (hps:ps=#[p,p2]) (hid:H.get id=ζ) (hE0:∀q∈n,E.get q.1=A q.2)
  (h:∀x:Go.Loop,x.state=.ready->x.pending=ζ->x.params=#[p,p2]->x.tmps.size=r4->x.assign=assign->x.body=body ->
   aU P f (.yld id 0::e_) ((id,LR x n)::H) (λr H'=>∃(y:Go.Loop) (K:aF),y.tmps=x.tmps/\y.state≠.busy/\H'=(id,LR y n)::K/\∀z:Go.Loop,Sf Q E ((id,LR z n)::K) y.pending)) :
  fW P G0 r4 (.rangeFunc g ps assign body) Q E H:=by
 intro G hG a w hs ro hro;obtain rfl:ro=ζ:=hro.resolve_right (λh=>by cases h);have ⟨I,ι,hr,δ,he⟩:=hs.rel;refine wpIn_rangeFunc (F:=RF ζ) ?_;intro fn _;have ρ:=aJ he hg;generalize hfc:a.eval g=fc at ρ;cases ρ with
 | @clo _ us _ hl hh =>
  have ⟨x,R⟩:∃x:Go.Loop,x={state:=.ready,pending:=ζ,fn,tmps:=a.tmps,params:=ps,assign,body,defers:=w.heap.size}:=X_;have ⟨a1,a2⟩:=hr.push (.deferred (A []));have ⟨A_,v_⟩:∃A_,A_=w.alloc (.deferred (A [])):=X_;rw[<-v_]at a1 a2;have L:A_.heap.size=w.heap.size+1:=F_
  have σ:A_.heap[w.heap.size]?=A (.deferred (A [])):=by rw[v_];exact World.alloc_heap_new w _
  have m:aF.get ((id,LR x n)::H) id=A (LR x n):=iB _ _ _;have ⟨b1,b2⟩:=a1.placeX (id:=id) (cap:=2) (x:=.loop x) (w':=A_.alloc (.loop x)) (H':=(id,LR x n)::H) (ob':=LR x n) Z Z Z Z (λo ho=>by simp_all)
   (λhnew hI k=>.inr (.inr (.inr (.inl ⟨Z,_,x,H_,hnew,hI,λy ts r hy=>by
    simp only[LR,List.cons.injEq,AV.raw.injEq,and_true]at hy;obtain ⟨⟨rfl,rfl⟩,rfl⟩:=hy;refine⟨Z,λi t v ht u=>?_⟩;rw[r8]at ht u;obtain ⟨q,hq,rfl⟩:=Option.map_eq_some_iff.1 ht;rw[hq]at u;cases u;have ⟨c,c1,c2⟩:=he q.1 q.2 (hE0 q (m7 hq));exact⟨c,by rw[R];exact c1,k _ _ (c2.mono hr a2)⟩⟩))))
   m (λj hj=>by simp[aF.get,kE (Ne.symm hj)])
  have ⟨u4,γ⟩:∃u4,u4=A_.alloc (.loop x):=X_;rw[<-γ]at b1 b2;have ⟨B,u_⟩:∃B:mD,B=λj=>if j=id then A (A_.heap.size,2)else ι j:=X_
  rw[<-u_]at b1 b2;have d:B id=A (w.heap.size+1,2):=by rw[u_,L];simp
  have hL1:=vQ b1 m d;have W:u4.heap[w.heap.size]?=A (.deferred (A [])):=by
   rw[b2.keep _ (by rw[L];omega) (BV a1 σ)];exact σ
  have z_:=h x (by rw[R]) (by rw[R]) (by rw[R,hps]) (by rw[R];exact hs.size) (by rw[R]) (by rw[R]) I B u4 (#[.func (.yield (w.heap.size+1)) #[] #[]]++us) b1 (by simp[hl];omega) (λi v c u F=>by
   cases i with
   |zero =>
    rw[Array.getElem?_append_left H_]at u;simp at u F;subst u F;exact .yld (LR x n) m (h_ _) Z (λ_=>⟨Z,_,d,Z⟩)
   |succ i =>
    rw[Array.getElem?_append_right H_]at u;simp only[getElem?_cons_succ]at F;have:=hh i v c (by simpa using u) F;exact(this.mono hr a2).mono a1 b2)
  refine⟨w.heap.size+1,[mark w.heap.size],u4,{target:=.fn (.func f) us,args:=#[.func (.yield (w.heap.size+1)) #[] #[]]},u4,f,#[.func (.yield (w.heap.size+1)) #[] #[]]++us,u4,?_,?_,λ_ _=>trivial,?_,(λq=>by cases q),?_⟩
  .rw[γ,v_,R];exact run_enterLoop_outer _ _ _ _ _
  .simp only[resolve,hfc];simp[go_sem]
  .simp[invoke,go_sem,hc]
  refine((callsIn_wide (n:=0)).2 z_).mono ?_;rintro e w3 ⟨r,H',I3,ι3,v3,rfl,⟨y,K,hy1,hy2,rfl,hq⟩,_,hr3,i_⟩;have o_:=uO (G:=⟨I,B,(id,LR x n)::H,u4,[]⟩) i_ m d (iB _ _ _);have hb3:=vQ hr3 (iB _ _ _) o_;have ⟨z,hz⟩:∃z:Go.Loop,z={y with state:=.exhausted}:=X_;have ⟨z1,z2⟩:=hr3.setRec (y:=z) (H':=(id,LR z n)::K) (iB _ _ _) o_ (by rw[hz]) (iB _ _ _) (λj hj=>B9 _ _ _ hj);have ⟨o,β⟩:∃o,o=w3.putObj (w.heap.size+1) (.loop z):=X_;rw[<-β]at z1 z2;refine⟨y.pending,o,by rw[β,hz];exact run_endLoop hb3 hy2,?_⟩;have s:Step I ι H w I3 ι3 ((id,LR z n)::K) o:=((a2.trans b2).trans i_).trans z2;have hD4:o.heap[w.heap.size]?=A (.deferred (A [])):=by
   rw[(i_.trans z2).keep _ (Array.getElem?_eq_some_iff.1 W).1 (BV b1 W)];exact W
  have y_ : St G r4 E ((id, LR z n) :: K) { a with defers := [mark w.heap.size] ++ a.defers } o := by
   refine⟨?_,hs.size,I3,ι3,z1,δ.trans s,λt v u=>let ⟨c,c1,c2⟩:=he t v u;⟨c,c1,c2.mono hr s⟩⟩;have ⟨Ds,d1,d2,d3⟩:=hs.defers.step hr s;refine⟨w.heap.size::Ds,by rw[d1];rfl,nodup_cons.2 ⟨λhmem=>?_,d2⟩,λD hD=>?_⟩
   .have hold:∀D∈Ds,D<w.heap.size:=by
     have ⟨τ,d1',_,d3'⟩:=hs.defers;have he:τ=Ds:=by
      have h0:τ.map mark=Ds.map mark:=append_cancel_right (d1'.symm.trans d1);have κ:∀(l J:List Nat),l.map mark=J.map mark->l=J:=by
       intro l
       induction l with
       |nil=>intro J h;cases J with
        |nil=>rfl
        |cons _ _=>cases h
       | cons D l ih=>intro J h;cases J with
        |nil=>cases h
        |cons D' J =>
         simp only[map_cons,List.cons.injEq,mark,Deferred.mk.injEq,Target.collected.injEq,and_true]at h;rw[h.1,ih J h.2]
      exact κ _ _ h0
     subst he;exact λD hD=>(Array.getElem?_eq_some_iff.1 (d3' D hD).2).1
    exact Nat.lt_irrefl _ (hold _ hmem)
   rcases l9.1 hD with rfl|hD
   .exact⟨δ.size,hD4⟩
   exact d3 D hD
  have b:=hq z;generalize y.pending=pend at b |-
  match pend,b with
  |none,b=>exact⟨E,_,b,y_⟩
  |some .ret,b=>exact wpIn_ret ⟨E,_,b,y_⟩
  |some (.exit j),b=>exact wpIn_exit ⟨E,_,b,y_⟩
end Go.Abs
namespace Go.Proofs.C
open Go.Proofs.Tryz
open Go.Abs
theorem jF(l:List _):∀r∈l.map S_,C r=1:=λr a=>by
 obtain ⟨t,_,rfl⟩:=mem_map.1 a;rfl
def cSZ(l:List B_):Ob:=bx 1 22 [.pv (aK l)]
def cNZ:Ob:=bx 1 3 [iv 2]
theorem Qe(l)(H)(d:H.get 931=ζ)(e:H.get 932=ζ):
  aU φ 228 [.pv (aK l),iv 2] H (λr H'=>r=.clo 266 [.ref 931 0 0 0,.ref 932 0 0 0]/\H'=(932,cNZ)::(931,cSZ l)::H):=by
 have b:=e;refine Bd func228 Z ntmps228<|U (tL Z Z Z Z d)<|Y (tL (id:=932) Z Z Z Z b)<|V aH<|S<|U (bQ M_)<|V cI<|Cn ?_ ?_<;>intro c
 .cases c
 refine aB<|U (iC Z Z)<|V aH<|aC<|cT (.inr Z) Z (aI Z) Fin.refl Qq
def E9(l:List B_)(k:Nat):List B_:=(l.drop (2*k)).take 2
theorem Db(l)(k):((l.map S_).drop (2*k)).take 2=(E9 l k).map S_:=by rw[E9,map_take,map_drop]
theorem aFM{n:Nat}(h:2<=n):min (2:Int) n=2:=Int.min_eq_left X
theorem Fc(l:List B_)(h:AV)(c:Nat->aF)(m:Nat)(G:C l=2*m)(H:m<2^40)(i:∀k,(c k).get 931=A (cSZ l))(o:∀k,(c k).get 932=A cNZ)
  (p:∀k,k<m->dQ φ h [.pv (aK (E9 l k))] (c k) (λr H'=>r=bv T/\H'=c (k+1))) :
  aU φ 266 [h,.ref 931 0 0 0,.ref 932 0 0 0] (c 0) (λr H'=>r=.tup []/\H'=c m):=by
 have F:C (l.map S_)=C l:=g_ _;refine Bd func266 Z ntmps266<|Sz aH<|aE<|bF (σ:=Nat) (λk=>([(0,h),(1,.ref 931 0 0 0),(2,.ref 932 0 0 0),(4,iv ((2*k:Nat):Int))],c k)) (λk=>k<=m) (λk=>m - k) 0 (l7 _) ?_ ?_
 .exact E0
 rintro k E;refine S<|U aA<|Y (aX Z aG Z (i k) Z Z Z)<|Y (fM aD)<|V cI<|Cn ?_ ?_<;>intro e
 .have hlt:2*k<C l:=I_ e
  have d:k<m:=X
  have j:=p k d;have B:C ((l.map S_).drop (2*k))=C l - 2*k:=F_
  refine aB<|S<|aE<|S<|aM a7<|Cq (aX Z M_ Z (o k) Z Z Z)<|Cq (aX Z aG Z (i k) Z Z Z)<|Cq aA<|Cq (eM (l:=2*k) (h:=C (l.map S_)) (rows':=(l.map S_).drop (2*k)) Z aY Z (jF l) Z Z X (h_ _) G_)<|Cq (fM aD)<|Cq (C9 (r:=2) Z Z Z X)<|Cq aH<|bG<|Kr<|U aA<|Y (aX Z aG Z (i k) Z Z Z)<|Y aA<|Y aA<|Y aA<|Y (by exact dD Z Z Z (show ξ.wrap (((2*k:Nat):Int)+2)=((2*k+2:Nat):Int)by rw[IntKind.wrap_i64];omega))<|Y aA<|Y aA<|Y (by exact dD Z Z Z (show ξ.wrap (((2*k:Nat):Int)+2)=((2*k+2:Nat):Int)by rw[IntKind.wrap_i64];omega)) ?_;refine Y (by exact Ic (l:=2*k) (h:=2*k+2) (rows':=(E9 l k).map S_) Z aY Z (jF l) Z Z Z X X G_ (by rw[<-Db,drop_take];simp_all))<|Y (dK Z Z Z (j))<|V iH ?_;refine Cn ?_ ?_<;>intro g
  .cases g
  refine aB<|Rd aA<|Y (aX Z M_ Z (o (k+1)) Z Z Z)<|Y (by exact dD Z Z Z (show ξ.wrap (((2*k:Nat):Int)+2)=((2*(k+1):Nat):Int)by rw[IntKind.wrap_i64];omega))<|Da ?_;exact⟨k+1,d,X,E0⟩
 have D:C l<=2*k:=J_ e
 have n:k=m:=X
 refine aP ?_;rw[<-n];exact pE (H':=c k) (.inl Z) Z Fin.refl ⟨Z,Z⟩
theorem qg{W}{j}(h:2*j+2<=C W):((E9 W j).map S_)[0]?=A (S_ (W.getD (2*j) a6))/\((E9 W j).map S_)[1]?=A (S_ (W.getD (2*j+1) a6)):=by
 have B:(E9 W j)[0]?=A (W.getD (2*j) a6):=by
  rw[E9,getElem?_take_of_lt H_,getElem?_drop,Nat.add_zero,getD_eq_getElem?_getD,n_ X];rfl
 have D:(E9 W j)[1]?=A (W.getD (2*j+1) a6):=by
  rw[E9,getElem?_take_of_lt H_,getElem?_drop,getD_eq_getElem?_getD,n_ X];rfl
 exact⟨F_,F_⟩
def upA(l:List B_)(j:Nat):B_:=jg (l.getD (2*j) a6) (l.getD (2*j+1) a6)
def vp(l:List B_)(k:Nat):List B_:=(List.range k).map (upA l)
theorem Im(l)(k):vp l (k+1)=vp l k++[upA l k]:=by rw[vp,range_succ,map_append];rfl
theorem vo(l)(k):C (vp l k)=k:=by simp[vp]
theorem Tv{l}{m}(h:C l=2*m):vp l m=vr l:=by
 apply ext_getElem?;intro k;have B:=PT m l h;by_cases a:k<m
 .have:=vq m l k h a;rw[getD_eq_getElem?_getD,n_ _]at this;rw[vp,r8,getElem?_range a,n_ X];exact congrArg _ this.symm
 rw[getElem?_eq_none (by rw[vo];omega),getElem?_eq_none X]
def upK(l L:List B_):aF:=[(905,⟨C L,1,9,bZ L⟩),(3,bx 1 22 [.osl 905 (C L) 0 (C L)]),(932,cNZ),(931,cSZ l)]
theorem Tw(l L)(s):upK l (L++[s])=[(905,⟨C L+1,1,9,bZ (L++[s])⟩),(3,bx 1 22 [.osl 905 (C L+1) 0 (C L+1)]),(932,cNZ),(931,cSZ l)]:=by simp[upK]
def upE:dG:=[(3,.ref 3 0 0 0)]
theorem da(H)(l):∀r∈(cSZ l).rows,∀a∈r,Clo H a:=by intro r c a b;simp[cSZ,bx,q9]at c;subst c;rw[q9]at b;subst b;simp
instance(H)(l):W_ (H) ((cSZ l).rows):=⟨da H l⟩
theorem db(H):∀r∈cNZ.rows,∀a∈r,Clo H a:=by intro r c a b;simp[cNZ,bx,q9]at c;subst c;rw[q9]at b;subst b;simp
instance(H):W_ (H) (cNZ.rows):=⟨db H⟩
theorem Zt(l:List B_)(m:Nat)(H:aF)(w:C l=2*m)(E:m<2^40)(J:∀s∈l,s.size=16):RC 175 [.pv (aK l)] (.pv (aK (vr l))) H:=by
 refine Pu<|Bd func175 Z ntmps175<|Sz aH<|Sz (kl 3 Zy)<|S<|U aA<|V (kc call228 (Qe l _ Z Z))<|aE ?_;refine fW.ent (E':=[(3,.ref 3 0 0 0),(6,.clo 266 [.ref 931 0 0 0,.ref 932 0 0 0])]) (H':=upK l []) ?_ ?_
 .exact (Q_ 905 1 9)
 refine CH (id:=904) (p:=7) upE Z call266 Z Z (by simp[upE];rfl) ?_;intro x o g v u q t;refine(Fc l (.yld 904 0) (λk=>(904,LR x upE)::upK l (vp l k)) m w E (λk=>rfl) (λk=>rfl) ?_).mono ?_
 .intro k hk;have B:∀j,j<C l->(l.getD j a6).size<2^40:=λj I=>by simp_all
  have i:=λH=>Wy (l.getD (2*k) a6) (l.getD (2*k+1) a6) η H (B _ X) (B _ X);simp only[Bool.false_eq_true,if_false]at i;have ⟨y,D⟩:=qg (W:=l) (j:=k) X;have F:=vo l k;refine .inl ⟨904,0,Z,?_⟩;refine MS [(3,.ref 3 0 0 0),(4,.pv (aK (E9 l k)))] (upK l (vp l k)) o g v u q t Z Z Z ?_ ?_
  .refine Rg<|Da ?_;exact(cH.wk (Ea<|Eb<|T_) (Hc (oI (by intro p d;simp only[upE,l9,q8,or_false]at d;subst d;simp only[DY];rfl))<|Hc (aN _ _)<|Ha<|Hc (db _)<|Hc (da _ _)<|T_) ⟨Z,Z,Z,Z,Z,T_⟩)
  rw[Im,Tw];refine aE<|aM a7<|Cr [3] (λ_ h=>lh aG h)<|x_ aA<|x_ (by exact bP Z aY Z Z X x7 y Z)<|x_ ((fS N_ (hi:=y)))<|x_ aA<|x_ (by exact bP Z aY Z Z X x7 D Z)<|x_ ((fS N_ (hi:=D)))<|x_ (by exact bH Z Z call229 Z (i _))<|x_ (by exact aL [[.str (upA l k)]] Z aY Z Z Z Z Z F_)<|Cp [905] (λn e=>by exact bW (ps:=[[.str (upA l k)]]) Z aY sW Z ((e _ Z).trans Z) Z Z Z (dI _) Z F_ (m:=1) Z X Z (gT (vp l k) (upA l k))) ?_;refine Cp [3] (λ_ h=>sa sizeOf22 h)<|bG<|Kr ?_;exact⟨[(905,⟨C (vp l k)+1,1,9,bZ (vp l k++[upA l k])⟩),(3,bx 1 22 [.osl 905 (C (vp l k)+1) 0 (C (vp l k)+1)]),(932,cNZ),(931,cSZ l)],(cH.wk T_ (Hc (oI (by intro p d;simp only[upE,l9,q8,or_false]at d;subst d;simp only[DY];rfl))<|Hc (aN _ _)<|Ha<|Hc (db _)<|Hc (da _ _)<|T_) ⟨Z,Z,Z,Z,Z,T_⟩),Z,Z⟩
 rintro r H' ⟨rfl,rfl⟩;refine⟨x,_,Z,F_,Z,λz=>?_⟩;rw[g,Tv w];have ⟨c,f⟩:∃c,c=vr l:=X_;rw[<-f];have G:C (c.map S_)=C c:=g_ _;refine fW.ent (cH.fzG (id:=905) (E':=[(3,.ref 3 0 0 0)]) (H':=[(3,bx 1 22 [.pv (aK c)])]) (c.map S_) Z (dA _) ?_ Z ?_ ?_) ?_
 .intro p d;simp only[l9,q8,or_false]at d;rcases d with rfl;exact⟨_,Z,.same m3⟩
 .refine⟨⟨_,Z,Z,Z,Z,jO Z (bA (.osl ?_) jA)⟩,T_⟩
  grind
 .exact T_
 exact U (bQ aG)<|V aH<|aC<|Rt<|Qq
def cd(s:B_)(n k:Nat):List B_:=(List.range n).map λj=>if j<k then sc s j else a6
theorem QP(s)(n k):C (cd s n k)=n:=by simp[cd]
theorem cc(s){n k j}(h:j<n):(cd s n k)[j]?=A (if j<k then sc s j else a6):=by rw[cd,r8,getElem?_range h];rfl
theorem Xt(s){n k}(h:k<n):(cd s n k).set k (sc s k)=cd s n (k+1):=by
 apply ext_getElem?;intro j;by_cases a:j<n
 .rw[cc s a];by_cases e:k=j
  .subst e;rw[getElem?_set_self (by rw[QP];exact h),b6 (lt_succ_self _)]
  rw[getElem?_set_ne e,cc s a]
  grind
 rw[getElem?_eq_none (by rw[length_set,QP];omega),getElem?_eq_none (by rw[QP];omega)]
theorem Ny(s)(n):cd s n 0=List.replicate n a6:=by rw[cd];simp[not_lt_zero,if_false];rw[map_const',length_range]
theorem Xu(s)(h):cd s (2 ^ h) (2 ^ h)=yL s h:=by
 rw[cd,yL]
 simp_all
theorem Ax(n):bZ (List.replicate n a6)=List.replicate n [sv a6]:=by rw[bZ,map_replicate]
theorem Aw(l)(k)(x):(bZ l).set k [sv x]=bZ (l.set k x):=by rw[bZ,bZ,map_set]
theorem GQ{h}(a:h<=8):2 ^ h<=256:=Nat.pow_le_pow_right H_ a
theorem aBD{h:Nat}(a:h<=8):ξ.wrap (1*2 ^ ((h:Int)).toNat)=((2 ^ h:Nat)):=by have:=GQ a;rw[l_,Int.one_mul,show 2 ^ h=((2 ^ h:Nat):Int)by rfl];generalize 2 ^ h=n at this |-;rw[lT X X]
theorem Xv(s:B_)(h:Nat)(H:aF)(l:s.size<2^40)(i:h<=8):RC 174 [sv s,iv (h:Int)] (.pv (aK (yL s h))) H:=by
 refine Pu ?_;have j:=GQ i;have g:=Ax (2 ^ h);rw[<-Ny s]at g;rw[<-Xu];have e:=aBD i;generalize 2 ^ h=n at j g e |-;refine Bd func174 Z ntmps174<|Sz aH<|U aA<|Y (by exact QG Z Z Z X (by simp[IntKind.bits];omega) e)<|Y (by exact ET (id:=905) Z aY sW Th Z Z Z X X (l_ _) (l_ _) X Z)<|V aH<|S<|U aA<|Y (by exact dR Z aD Z Z Z)<|V aA<|aE ?_;refine bF (σ:=Nat) (λk=>([(0,sv s),(5,.osl 905 0 0 n),(11,iv (n:Int)),(12,iv (k:Int))],[(905,⟨0,1,9,bZ (cd s n k)⟩)])) (λk=>k<=n) (λk=>n - k) 0 (l7 _) ?_ ?_
 .rw[g];exact Wk
 intro k G;have E:=QP s n k;refine Sz cI<|S<|Cn ?_ ?_<;>intro c
 .have d:k<n:=I_ c
  have B:(bZ (cd s n k))[k]?=A [sv a6]:=by
   rw[bZ,r8,cc s d,a8 (Nat.lt_irrefl _)];rfl
  have D:(bZ (cd s n k)).set k [sv (sc s k)]=bZ (cd s n (k+1)):=by rw[Aw,Xt s d]
  refine aB<|S<|aE<|U aA<|V aH<|Rd aA<|Y aA<|Y aA<|Y aA<|Y (kc call227 (aCE s k _ l X))<|Y (by exact dL Z aY Z Z Z Z Z X (by exact l_ _) X Z)<|Uu (by exact cM (r:=[sv a6]) (r':=[sv (sc s k)]) (rows':=bZ (cd s n (k+1))) Z V_ Z Z Z Z Z F_ H_ Z F_)<|Zz<|Rd kp<|V aA ?_;exact⟨k+1,X,X,(cH.wk (Eb<|Ea<|Eb<|Eb<|T_) (Hc (aN _ _)<|T_) T_)⟩
 have f:k=n:=J_ c
 subst f;have F:((cd s k k).map S_).take k=(cd s k k).map S_:=take_of_length_le F_;refine aP<|U aA<|V aH<|aC ?_;refine cT (H':=[]) (.inr Z) Z (aI Z) (Fin.fz (r':=.pv (aK (cd s k k))) (id:=905) ((cd s k k).map S_) Z (dA _) (.osl F_) Z T_ T_) ?_;exact Qq
end Go.Proofs.C
