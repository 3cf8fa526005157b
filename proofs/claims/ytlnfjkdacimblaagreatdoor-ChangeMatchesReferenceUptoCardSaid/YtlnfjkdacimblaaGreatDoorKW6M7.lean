/-
  Parts of the proof: rules of an abstract program logic, contracts of functions, plain laws. Conditions: each theorem's own.
-/
import Derived.Test.YtlnfjkdacimblaaGreatDoorKW6M6
import Derived.Lib.AppendStr
import Derived.Lib.UnsafeStr
import Derived.Lib.MakeNoZero
import Derived.Lib.Builder
set_option linter.unusedVariables false
set_option linter.unusedSimpArgs false
set_option maxRecDepth 100000
set_option maxHeartbeats 8000000
namespace Go.Proofs
theorem lM:type_of% Tryz.call125:=Tryz.call125
theorem w5:type_of% Tryz.call33:=Tryz.call33
theorem sM:type_of% Tryz.call35:=Tryz.call35
theorem pL:type_of% Tryz.call71:=Tryz.call71
theorem N7:type_of% Tryz.call72:=Tryz.call72
theorem aCR:type_of% Tryz.func35:=Tryz.func35
theorem aI5:type_of% Tryz.func71:=Tryz.func71
theorem aCQ:type_of% Tryz.func72:=Tryz.func72
theorem EK:type_of% Tryz.isAgg216:=Tryz.isAgg216
theorem d9:type_of% Tryz.isAgg52:=Tryz.isAgg52
theorem zE:type_of% Tryz.isAgg60:=Tryz.isAgg60
theorem YG:type_of% Tryz.ntmps35:=Tryz.ntmps35
theorem aHz:type_of% Tryz.ntmps71:=Tryz.ntmps71
theorem YF:type_of% Tryz.ntmps72:=Tryz.ntmps72
theorem A9:type_of% Tryz.sizeOf174:=Tryz.sizeOf174
theorem sL:type_of% Tryz.underlying123:=Tryz.underlying123
theorem A5:type_of% Tryz.underlying166:=Tryz.underlying166
theorem gJ:type_of% Tryz.underlying60:=Tryz.underlying60
end Go.Proofs
namespace Go.Abs
section
def LR (x:Go.Loop) (E0:dG):Ob:=⟨0,0,0,[[.raw x (E0.map (·.1))],E0.map (·.2)]⟩
section
variable {I:Nat→Prop} {ι:fF} {H:aE} {w:World}
theorem aFK {id:Nat} {x:Go.Loop} {E0:dG} (hr:Rel I ι H w) (hH:H.get id=some (LR x E0)) {v:Value} (hv:VRel w I ι H v (.yld id 0)) :
  ∃ b,ι id=some (b,2)∧v=.func (.yield b) #[] #[]∧w.heap[b]?=some (.loop x)∧¬ I b∧∀ (i t:Nat) (a:AV),(E0.map (·.1))[i]?=some t→(E0.map (·.2))[i]?=some a→∃ c,x.tmps[t]?=some c∧VRel w I ι H c a:=by
 cases hv with
 | yld o h1 h2 h3 h4 =>
  rw [hH] at h1;cases h1;obtain ⟨_,b,e1,e2⟩:=h4 rfl;obtain ⟨_,b',y,k1,k2,k3,k4⟩:=(hr.obj id _ hH).rec rfl e1;rw [e1] at k1;cases k1;obtain ⟨q1,q2⟩:=k4 x _ _ rfl;subst q1;exact⟨b,e1,e2,k2,k3,q2⟩
theorem Rel.setRec {id b:Nat} {x y:Go.Loop} {E0:dG} {H':aE} (hr:Rel I ι H w) (hH:H.get id=some (LR x E0)) (hι:ι id=some (b,2)) (hy:y.tmps=x.tmps)
  (h1:H'.get id=some (LR y E0)) (h2:∀ j,j≠id→H'.get j=H.get j):Rel I ι H' (w.putObj b (.loop y))∧Step I ι H w I ι H' (w.putObj b (.loop y)):=by
 obtain ⟨_,b',z,k1,k2,k3,k4⟩:=(hr.obj id _ hH).rec rfl hι;rw [hι] at k1;cases k1;obtain ⟨q1,q2⟩:=k4 x _ _ rfl;subst q1;have hlt:=(Array.getElem?_eq_some_iff.1 k2).1;have hown:∀ c,FP ι H' c→FP ι H c:=fun c ⟨j,o,cap,ho,hc⟩=>by
  by_cases e:j=id
  ·subst e;exact⟨j,_,cap,hH,hc⟩
  exact⟨j,o,cap,(h2 j e).symm.trans ho,hc⟩
 have hst:Step I ι H w I ι H' (w.putObj b (.loop y)):=by
  refine⟨rfl,rfl,rfl,by rw [World.putObj_size];exact aIx _,fun a ha _=>?_,fun _ h=>h,fun _ h=>.inl h,fun c hc=>.inl (hown c hc),fun c hc hn=>?_,fun j o hj=>?_⟩
  ·unfold World.frozen?;by_cases e:a.block=b
   ·rw [e,World.putObj_heap_same hlt,k2]
   rw [World.putObj_heap_other e]
  ·exact World.putObj_heap_other fun e=>hn ⟨id,_,2,hH,by rw [e];exact hι⟩
  by_cases e:j=id
  ·subst e;rw [hH] at hj;cases hj;exact⟨_,h1,aIx _,fun _=>⟨rfl,rfl,fun h=>by cases h⟩⟩
  exact⟨o,(h2 j e).trans hj,aIx _,fun _=>⟨rfl,rfl,fun _=>aIx _⟩⟩
 refine⟨⟨fun c hc=>by rw [World.putObj_size];exact hr.imm c hc,fun j o hj=>?_,fun j j' o o' c d d' hj hj' hc hc'=>?_,hst.glob hr⟩,hst⟩
 ·by_cases e:j=id
  ·subst e;rw [h1] at hj;cases hj;refine .inr (.inr (.inr ⟨rfl,b,y,hι,World.putObj_heap_same hlt,k3,fun z ts r hz=>?_⟩));simp only [LR,List.cons.injEq,AV.raw.injEq,and_true] at hz;obtain ⟨⟨rfl,rfl⟩,rfl⟩:=hz;refine⟨rfl,fun i t a ht ha=>?_⟩;obtain ⟨c,c1,c2⟩:=q2 i t a ht ha;exact⟨c,by rw [hy];exact c1,c2.mono hr hst⟩
  rw [h2 j e] at hj;exact(hr.obj j o hj).keep rfl (fun c d hc _=>⟨World.putObj_heap_other (fun hb=>e (hr.inj j id o _ c d 2 hj hH hc (by rw [hb];exact hι))),fun h=>h⟩) (fun r _ a _ v hv=>hv.mono hr hst)
 have key:∀ j o,H'.get j=some o→∃ o,H.get j=some o:=fun j o hj=>by
  by_cases e:j=id
  ·subst e;exact⟨_,hH⟩
  exact⟨o,(h2 j e).symm.trans hj⟩
 obtain ⟨q,hq⟩:=key j o hj;obtain ⟨q',hq'⟩:=key j' o' hj';exact hr.inj j j' q q' c d d' hq hq' hc hc'
theorem Rel.push (o:Obj) (hr:Rel I ι H w):Rel I ι H (w.alloc o)∧Step I ι H w I ι H (w.alloc o):=by
 have hk:∀ b,b < w.heap.size→(w.alloc o).heap[b]?=w.heap[b]?:=fun b hb=>by
  show (w.heap.push o)[b]?=_;rw [Array.getElem?_push,aIp (Nat.ne_of_lt hb)]
 have hst:Step I ι H w I ι H (w.alloc o):=by
  refine⟨rfl,rfl,rfl,by rw [World.size_alloc];omega,fun a ha _=>?_,fun _ h=>h,fun _ h=>.inl h,fun _ h=>.inl h,fun b hb _=>hk b hb,fun _ o h=>⟨o,h,aIx _,fun _=>⟨rfl,rfl,fun _=>aIx _⟩⟩⟩;unfold World.frozen?;rw [hk _ ha]
 refine⟨⟨fun b hb=>by have:=hr.imm b hb;rw [World.size_alloc];omega,fun j o hj=>?_,hr.inj,hst.glob hr⟩,hst⟩;exact(hr.obj j o hj).keep rfl (fun b c _ hb=>⟨hk b hb,fun h=>h⟩) (fun r _ a _ v hv=>hv.mono hr hst)
end
def busy (x:Go.Loop):Go.Loop:={x with state:=.busy}
def left (x:Go.Loop) (c:Code):Go.Loop:={x with state:=.done,pending:=some c}
def aGG (H0:aE) (id:Nat) (x:Go.Loop) (E0:dG) (Q:AV→aE→Prop):Exit→dG→aE→Prop
 | .normal,E,H=>∃ K,cY H0 E H [] ((id,LR (busy x) E0)::K)∧Q (.pv (.bool true)) ((id,LR x E0)::K)
 | .ret,E,H=>∃ K,cY H0 E H [] ((id,LR (busy x) E0)::K)∧Q (.pv (.bool false)) ((id,LR (left x .ret) E0)::K)
 | .exit j,E,H=>∃ K,cY H0 E H [] ((id,LR (busy x) E0)::K)∧Q (.pv (.bool false)) ((id,LR (left x (.exit j)) E0)::K)
 | _,_,_=>False
theorem AC {G:Entry} {I:Nat→Prop} {ι:fF} {H:aE} {w:World} {id b:Nat} {x y:Go.Loop} {E0:dG} (hst:Step G.I G.ι G.H G.w I ι H w) (hG:G.H.get id=some (LR x E0)) (hι:G.ι id=some (b,2)) (hH:H.get id=some (LR y E0)):ι id=some (b,2):=by obtain ⟨o',e1,_,e3⟩:=hst.objs id _ hG;rw [hH] at e1;cases e1;exact(e3 rfl).1.trans hι
theorem BP {I:Nat→Prop} {ι:fF} {H:aE} {w:World} {id b:Nat} {x:Go.Loop} {E0:dG} (hr:Rel I ι H w) (hH:H.get id=some (LR x E0)) (hι:ι id=some (b,2)):w.heap[b]?=some (.loop x):=by obtain ⟨_,b',z,k1,k2,k3,k4⟩:=(hr.obj id _ hH).rec rfl hι;rw [hι] at k1;cases k1;obtain ⟨q1,_⟩:=k4 x _ _ rfl;subst q1;exact k2
theorem mJ (id:Nat) (o:Ob) (K:aE):aE.get ((id,o)::K) id=some o:=by simp [aE.get,jR]
theorem IA {id j:Nat} (o o':Ob) (K:aE) (h:j≠id):aE.get ((id,o)::K) j=aE.get ((id,o')::K) j:=by simp [aE.get,pJ (Ne.symm h)]
theorem C3 {P:Program} {id p N:Nat} {x:Go.Loop} {assign body:Code} {E0:dG} {a:AV} {K:aE} {Q:AV→aE→Prop} (E2:dG) (K2:aE) (hx1:x.state=.ready) (hx2:x.pending=none) (hp:x.params=#[p]) (hN:x.tmps.size=N) (hxa:x.assign=assign) (hxb:x.body=body) (hpN:Nat.blt p N=true)
  (hok:jB assign=true) (hok2:jB body=true)
  (h1:iB P ((id,LR x E0)::K) N assign (zU (fun E1 H1=>cY ((id,LR x E0)::K) E1 H1 E2 ((id,LR x E0)::K2)) (fun _ _ _=>False)) ((p,a)::E0) ((id,LR x E0)::K))
  (h2:iB P ((id,LR x E0)::K) N body (aGG ((id,LR x E0)::K) id x E0 Q) E2 ((id,LR (busy x) E0)::K2)):EJ P id 0 [a] ((id,LR x E0)::K) Q:=by
 subst hxa hxb;have hpN:p < N:=by simpa [Nat.blt_eq] using hpN
 intro I ι w vs v hr hv hl hvs;obtain ⟨b,e1,e2,e3,e4,e5⟩:=aFK hr (mJ _ _ _) hv;obtain ⟨u,rfl⟩:∃ u,vs=#[u]:=by
  match vs,hl with
  | ⟨[u]⟩,_=>exact⟨u,rfl⟩
 have hu:=hvs 0 u a rfl rfl;refine⟨b,x.fn,_,x.assign,x.body,e2,run_yield e3 (by rw [hp];rfl),?_⟩;refine roundIn_of_wpIn (F:=Fence.wide) trivial ?_;have hG:(⟨I,ι,(id,LR x E0)::K,w⟩:Entry).H=(id,LR x E0)::K:=rfl;have hst:St ⟨I,ι,(id,LR x E0)::K,w⟩ N ((p,a)::E0) ((id,LR x E0)::K) {tmps:=(x.params.zip #[u]).foldl (fun tmps (t,a)=>tmps.setIfInBounds t a) x.tmps,defers:=[]} w:=by
  have ht:(x.params.zip #[u]).foldl (fun tmps (t,a)=>tmps.setIfInBounds t a) x.tmps=x.tmps.setIfInBounds p u:=by rw [hp];simp
  rw [ht];refine⟨zT.nil _ _,by simp [hN],I,ι,hr,Step.refl _ _ _ _,fun t y hy=>?_⟩;by_cases e:p=t
  ·subst e;rw [dG.get_cons_same] at hy;cases hy;exact⟨u,by simp [hN,hpN],hu⟩
  rw [dG.get_cons_other _ _ e] at hy;obtain ⟨i,hi⟩:=aJM.1 (gD hy);obtain ⟨c,c1,c2⟩:=e5 i t y (by rw [aJL,hi];rfl) (by rw [aJL,hi];rfl);exact⟨c,by show (x.tmps.setIfInBounds p u)[t]?=some c;rw [Array.getElem?_setIfInBounds_ne e];exact c1,c2⟩
 refine wpIn_mono (h1 _ hG _ w hst (some b) (.inr hok)) ?_;rintro e a1 w1 ⟨E1,H1,q,hs1⟩;cases e with
 | normal =>
  have hs2:=q _ hG N a1 w1 hs1;obtain ⟨I1,ι1,hr1,hst1,he1⟩:=hs2.rel;have hι1:=AC hst1 (mJ _ _ _) e1 (mJ _ _ _);have hb1:=BP hr1 (mJ _ _ _) hι1;obtain ⟨k1,k2⟩:=hr1.setRec (y:=busy x) (H':=(id,LR (busy x) E0)::K2) (mJ _ _ _) hι1 rfl (mJ _ _ _) (fun j hj=>IA _ _ _ hj);refine⟨_,run_beginRound hb1 hx1,?_⟩;have hs3:St ⟨I,ι,(id,LR x E0)::K,w⟩ N E2 ((id,LR (busy x) E0)::K2) a1 (w1.putObj b (.loop (busy x))) :=
   ⟨hs2.defers.step hr1 k2,hs2.size,I1,ι1,k1,hst1.trans k2,fun t y hy=>let ⟨c,c1,c2⟩:=he1 t y hy;⟨c,c1,c2.mono hr1 k2⟩⟩
  refine wpIn_mono (h2 _ hG a1 _ hs3 (some b) (.inr hok2)) ?_;rintro e a2 w3 ⟨E3,H3,q3,hs4⟩;have fin:∀ (jump:Option Code) (y:Go.Loop) (K3:aE),y={busy x with state:=if jump.isNone then .ready else .done,pending:=jump}→cY ((id,LR x E0)::K) E3 H3 [] ((id,LR (busy x) E0)::K3)→Q (.pv (.bool jump.isNone)) ((id,LR y E0)::K3) →
    ∃ v w',(Instr.endRound b jump).run P w3=.ok v w'∧∃ r H' I' ι' v',Ending.returned v=.returned v'∧Q r H'∧VRel w' I' ι' H' v' r∧Rel I' ι' H' w'∧Step I ι ((id,LR x E0)::K) w I' ι' H' w':=by
   intro jump y K3 hy hent hQ;have hs5:=hent _ hG N a2 w3 hs4;obtain ⟨I5,ι5,hr5,hst5,_⟩:=hs5.rel;have hι5:=AC hst5 (mJ _ _ _) e1 (mJ _ _ _);have hb5:=BP hr5 (mJ _ _ _) hι5;obtain ⟨z1,z2⟩:=hr5.setRec (y:=y) (H':=(id,LR y E0)::K3) (mJ _ _ _) hι5 (by rw [hy]) (mJ _ _ _) (fun j hj=>IA _ _ _ hj);refine⟨_,_,run_endRound jump hb5,_,_,I5,ι5,_,rfl,hQ,.pv (.bool _),?_,?_⟩
   ·rw [← hy];exact z1
   rw [← hy];exact hst5.trans z2
  cases e with
  | normal =>
   obtain ⟨K3,hent,hQ⟩:=q3;refine fin none x K3 ?_ hent hQ;obtain ⟨st,pe,fn,tm,pa,ax,bo,de⟩:=x;simp only at hx1 hx2;subst hx1 hx2;rfl
  | ret =>
   obtain ⟨K3,hent,hQ⟩:=q3;exact fin (some .ret) (left x .ret) K3 rfl hent hQ
  | exit j =>
   obtain ⟨K3,hent,hQ⟩:=q3;exact fin (some (.exit j)) (left x (.exit j)) K3 rfl hent hQ
  | goto l=>exact q3.elim
  | panic ch=>exact q3.elim
  | outgrown=>exact q3.elim
 | exit j=>exact q.elim
 | goto l=>exact q.elim
 | ret=>exact q.elim
 | panic ch=>exact q.elim
 | outgrown=>exact q.elim
def aGH (Q:Exit→dG→aE→Prop) (E:dG) (H:aE):Option Code→Prop
 | none=>Q .normal E H
 | some .ret=>Q .ret E H
 | some (.exit j)=>Q (.exit j) E H
 | _=>False
theorem rN {P:Program} {G0:aE} {N f id p:Nat} {caps:List AV} {g:Operand} {ps:Array Tmp} {assign body:Code} {Q:Exit→dG→aE→Prop} {E:dG} {H:aE} (E0:dG) (hg:aW E g=some (.clo f caps)) (hc:∀ (args:Array Value) (w:World),(callFunc f args).run P w=.ok (.enter f args) w)
  (hps:ps=#[p]) (hid:H.get id=none) (hE0:∀ q∈E0,E.get q.1=some q.2)
  (h:∀ x:Go.Loop,x.state=.ready→x.pending=none→x.params=#[p]→x.tmps.size=N→x.assign=assign→x.body=body →
   aH P f (.yld id 0::caps) ((id,LR x E0)::H) (fun r H'=>∃ (y:Go.Loop) (K:aE),y.tmps=x.tmps∧y.state≠.busy∧H'=(id,LR y E0)::K∧∀ z:Go.Loop,aGH Q E ((id,LR z E0)::K) y.pending)) :
  iB P G0 N (.rangeFunc g ps assign body) Q E H:=by
 intro G hG a w hs ro hro;obtain rfl:ro=none:=hro.resolve_right (fun h=>by cases h);obtain ⟨I,ι,hr,hst,he⟩:=hs.rel;refine wpIn_rangeFunc (F:=RF none) ?_;intro fn _;have hgv:=aM he hg;generalize hfc:a.eval g=fc at hgv;cases hgv with
 | @clo _ us _ hl hh =>
  obtain ⟨x,hx⟩:∃ x:Go.Loop,x={state:=.ready,pending:=none,fn,tmps:=a.tmps,params:=ps,assign,body,defers:=w.heap.size}:=⟨_,rfl⟩;obtain ⟨a1,a2⟩:=hr.push (.deferred (some []));obtain ⟨wd,hwd⟩:∃ wd,wd=w.alloc (.deferred (some [])):=⟨_,rfl⟩;rw [← hwd] at a1 a2;have hwds:wd.heap.size=w.heap.size+1:=by rw [hwd,World.size_alloc]
  have hDd:wd.heap[w.heap.size]?=some (.deferred (some [])):=by rw [hwd];exact World.alloc_heap_new w _
  have hidH:aE.get ((id,LR x E0)::H) id=some (LR x E0):=mJ _ _ _;obtain ⟨b1,b2⟩:=a1.placeX (id:=id) (cap:=2) (x:=.loop x) (w':=wd.alloc (.loop x)) (H':=(id,LR x E0)::H) (ob':=LR x E0) rfl rfl rfl rfl (fun o ho=>by rw [hid] at ho;cases ho)
   (fun hnew hI hmono=>.inr (.inr (.inr ⟨rfl,_,x,by simp,hnew,hI,fun y ts r hy=>by
    simp only [LR,List.cons.injEq,AV.raw.injEq,and_true] at hy;obtain ⟨⟨rfl,rfl⟩,rfl⟩:=hy;refine⟨rfl,fun i t v ht hv=>?_⟩;rw [aJL] at ht hv;obtain ⟨q,hq,rfl⟩:=Option.map_eq_some_iff.1 ht;rw [hq] at hv;cases hv;obtain ⟨c,c1,c2⟩:=he q.1 q.2 (hE0 q (aJB hq));exact⟨c,by rw [hx];exact c1,hmono _ _ (c2.mono hr a2)⟩⟩)))
   hidH (fun j hj=>by simp [aE.get,pJ (Ne.symm hj)])
  obtain ⟨w1,hw1⟩:∃ w1,w1=wd.alloc (.loop x):=⟨_,rfl⟩;rw [← hw1] at b1 b2;obtain ⟨ι1,hι1⟩:∃ ι1:fF,ι1=fun j=>if j=id then some (wd.heap.size,2)else ι j:=⟨_,rfl⟩
  rw [← hι1] at b1 b2;have hιid:ι1 id=some (w.heap.size+1,2):=by rw [hι1,hwds];simp
  have hL1:=BP b1 hidH hιid;have hD1:w1.heap[w.heap.size]?=some (.deferred (some [])):=by
   rw [b2.keep _ (by rw [hwds];omega) (BU a1 hDd)];exact hDd
  have hcall:=h x (by rw [hx]) (by rw [hx]) (by rw [hx,hps]) (by rw [hx];exact hs.size) (by rw [hx]) (by rw [hx]) I ι1 w1 (#[.func (.yield (w.heap.size+1)) #[] #[]]++us) b1 (by simp [hl];omega) (fun i v c hv hc'=>by
   cases i with
   | zero =>
    rw [Array.getElem?_append_left (by simp)] at hv;simp at hv hc';subst hv hc';exact .yld (LR x E0) hidH (aIx _) rfl (fun _=>⟨rfl,_,hιid,rfl⟩)
   | succ i =>
    rw [Array.getElem?_append_right (by simp)] at hv;simp only [List.getElem?_cons_succ] at hc';have:=hh i v c (by simpa using hv) hc';exact(this.mono hr a2).mono a1 b2)
  refine⟨w.heap.size+1,[mark w.heap.size],w1,{target:=.fn (.func f) us,args:=#[.func (.yield (w.heap.size+1)) #[] #[]]},w1,f,#[.func (.yield (w.heap.size+1)) #[] #[]]++us,w1,?_,?_,fun _ _=>trivial,?_,(fun q=>by cases q),?_⟩
  ·rw [hw1,hwd,hx];exact run_enterLoop_outer _ _ _ _ _
  ·simp only [resolve,hfc];simp [go_sem]
  ·simp [invoke,go_sem,hc]
  refine((callsIn_wide (n:=0)).2 hcall).mono ?_;rintro e w3 ⟨r,H',I3,ι3,v3,rfl,⟨y,K,hy1,hy2,rfl,hq⟩,_,hr3,hst3⟩;have hι3:=AC (G:=⟨I,ι1,(id,LR x E0)::H,w1⟩) hst3 hidH hιid (mJ _ _ _);have hb3:=BP hr3 (mJ _ _ _) hι3;obtain ⟨z,hz⟩:∃ z:Go.Loop,z={y with state:=.exhausted}:=⟨_,rfl⟩;obtain ⟨z1,z2⟩:=hr3.setRec (y:=z) (H':=(id,LR z E0)::K) (mJ _ _ _) hι3 (by rw [hz]) (mJ _ _ _) (fun j hj=>IA _ _ _ hj);obtain ⟨w4,hw4⟩:∃ w4,w4=w3.putObj (w.heap.size+1) (.loop z):=⟨_,rfl⟩;rw [← hw4] at z1 z2;refine⟨y.pending,w4,by rw [hw4,hz];exact run_endLoop hb3 hy2,?_⟩;have hall:Step I ι H w I3 ι3 ((id,LR z E0)::K) w4:=((a2.trans b2).trans hst3).trans z2;have hD4:w4.heap[w.heap.size]?=some (.deferred (some [])):=by
   rw [(hst3.trans z2).keep _ (Array.getElem?_eq_some_iff.1 hD1).1 (BU b1 hD1)];exact hD1
  have hs4:St G N E ((id,LR z E0)::K) {a with defers:=[mark w.heap.size]++a.defers} w4:=by
   refine⟨?_,hs.size,I3,ι3,z1,hst.trans hall,fun t v hv=>let ⟨c,c1,c2⟩:=he t v hv;⟨c,c1,c2.mono hr hall⟩⟩;obtain ⟨Ds,d1,d2,d3⟩:=hs.defers.step hr hall;refine⟨w.heap.size::Ds,by rw [d1];rfl,List.nodup_cons.2 ⟨fun hmem=>?_,d2⟩,fun D hD=>?_⟩
   ·have hold:∀ D∈Ds,D < w.heap.size:=by
     obtain ⟨Ds',d1',_,d3'⟩:=hs.defers;have he:Ds'=Ds:=by
      have h0:Ds'.map mark=Ds.map mark:=by rw [← d1',← d1]
      have hinj:∀ (l l':List Nat),l.map mark=l'.map mark→l=l':=by
       intro l
       induction l with
       | nil=>intro l' h;cases l' with
        | nil=>rfl
        | cons _ _=>cases h
       | cons D l ih=>intro l' h;cases l' with
        | nil=>cases h
        | cons D' l' =>
         simp only [List.map_cons,List.cons.injEq,mark,Deferred.mk.injEq,Target.collected.injEq,and_true] at h;rw [h.1,ih l' h.2]
      exact hinj _ _ h0
     subst he;exact fun D hD=>(Array.getElem?_eq_some_iff.1 (d3' D hD).2).1
    exact Nat.lt_irrefl _ (hold _ hmem)
   rcases aJD.1 hD with rfl|hD
   ·exact⟨hst.size,hD4⟩
   exact d3 D hD
  have hq':=hq z;generalize y.pending=pend at hq' ⊢
  match pend,hq' with
  | none,hq'=>exact⟨E,_,hq',hs4⟩
  | some .ret,hq'=>exact wpIn_ret ⟨E,_,hq',hs4⟩
  | some (.exit j),hq'=>exact wpIn_exit ⟨E,_,hq',hs4⟩
end
theorem aH.congrG {P:Program} {f:FuncId} {args:List AV} {H H1 K K1:aE} {r0:AV} (h:aH P f args H1 (fun r X=>r=r0∧X=K1)) (he:∀ j,H1.get j=H.get j) (hk:∀ j,K.get j=K1.get j):aH P f args H (fun r X=>r=r0∧X=K):=by intro I ι w vs hr hl hv;obtain ⟨p1,p2⟩:=hr.congr he;refine(h I ι w vs p1 hl (fun i v a h1 h2=>(hv i v a h1 h2).mono hr p2)).mono ?_;rintro e w' ⟨r,H',I',ι',v,rfl,⟨rfl,rfl⟩,k1,k2,k3⟩;obtain ⟨q1,q2⟩:=k2.congr hk;exact⟨r,K,I',ι',v,rfl,⟨rfl,rfl⟩,k1.mono k2 q2,q1,(p2.trans k3).trans q2⟩
theorem EJ.congrG {P:Program} {id g:Nat} {args:List AV} {H H1 K K1:aE} {r0:AV} (h:EJ P id g args H1 (fun r X=>r=r0∧X=K1)) (he:∀ j,H1.get j=H.get j) (hk:∀ j,K.get j=K1.get j):EJ P id g args H (fun r X=>r=r0∧X=K):=by intro I ι w vs v hr hvy hl hv;obtain ⟨p1,p2⟩:=hr.congr he;obtain ⟨l,f,tmps,assign,body,e1,e2,e3⟩:=h I ι w vs v p1 (hvy.mono hr p2) hl (fun i v a h1 h2=>(hv i v a h1 h2).mono hr p2);refine⟨l,f,tmps,assign,body,e1,e2,e3.mono ?_⟩;rintro e w' ⟨r,H',I',ι',v,rfl,⟨rfl,rfl⟩,k1,k2,k3⟩;obtain ⟨q1,q2⟩:=k2.congr hk;exact⟨r,K,I',ι',v,rfl,⟨rfl,rfl⟩,k1.mono k2 q2,q1,(p2.trans k3).trans q2⟩
theorem dN.congrG {P:Program} {fv:AV} {args:List AV} {H H1 K K1:aE} {r0:AV} (h:dN P fv args H1 (fun r X=>r=r0∧X=K1)) (he:∀ j,H1.get j=H.get j) (hk:∀ j,K.get j=K1.get j):dN P fv args H (fun r X=>r=r0∧X=K):=by
 rcases h with⟨id,g,e,h⟩|⟨F,caps,e,hc,h⟩
 ·exact .inl ⟨id,g,e,h.congrG he hk⟩
 exact .inr ⟨F,caps,e,hc,h.congrG he hk⟩
theorem mR {i j:Nat} {a b:Ob} {K:aE} (h:i≠j) (k:Nat):aE.get ((i,a)::(j,b)::K) k=aE.get ((j,b)::(i,a)::K) k:=by
 simp only [aE.get];cases e1:Nat.beq i k with
 | true =>
  have:=Nat.eq_of_beq_eq_true e1;subst this;rw [pJ (Ne.symm h)];rfl
 | false=>cases e2:Nat.beq j k<;>rfl
end Go.Abs
namespace Go.Abs
open Go.Lib
section
section
variable {P:Program} {N:Nat} {o:Oper} {E:dG} {H:aE} {T S:TypeId} {x y:Operand}
theorem vM {w:World} {I:Nat→Prop} {ι:fF} (s:ByteArray):oS w I ι H 1 (strCells s) (fT s.data.toList):=by
 intro i r hi k a hk;rw [fT,aJL] at hi;obtain ⟨b,hb,rfl⟩:=Option.map_eq_some_iff.1 hi;cases k with
 | zero =>
  cases hk;exact⟨.int .u8 b.toNat,by rw [strCells,Nat.mul_one,Nat.add_zero,aJL,hb];rfl,rfl,.pv (.int _ _)⟩
 | succ k=>simp at hk
theorem HM {e:TypeId} {id g n:Nat} {ob:Ob} {s:ByteArray} {H2:aE} (ho:o.op=.call {callee:=.builtin .append,args:=#[x,y],argTypes:=#[T,S]}) (hT:P.underlying T=some (.slice e)) (hS:P.underlying S=some .string) (hinf:MC P e 1 1) (hz0:∀ i,P.info? e=some i→i.zero=some (.int .u8 0))
  (hx:aW E x=some (.osl id g 0 n)) (hH:H.get id=some ob) (hg:ob.g=g) (hosz:ob.sz=1) (hty:ob.ty=e) (hn:ob.rows.length=n)
  (hy:aW E y=some (.pv (.str s))) (hmax:n+s.size≤140737488355328)
  (hH2:H.set id ⟨g+1,1,e,ob.rows++fT s.data.toList⟩=H2):dQ P N o E H (.osl id (g+1) 0 (n+s.size)) H2:=by
 intro a w I ι _ _ hr he K Q hk;obtain ⟨i,z,hi,hz,hsize,hby,hzs,hsz0⟩:=hinf;have hzi:=hz0 i hi;subst hg hty hn hH2;have hlen2:(fT s.data.toList).length=s.size:=by simp [fT]
 have hml:ob.rows.length+s.size≤maxLen:=by simp only [maxLen];omega
 have h1:(H.set id ⟨ob.g+1,1,ob.ty,ob.rows++fT s.data.toList⟩).get id=some ⟨ob.g+1,1,ob.ty,ob.rows++fT s.data.toList⟩:=aE.get_set_same _ _ _;have h2:∀ j,j≠id→(H.set id ⟨ob.g+1,1,ob.ty,ob.rows++fT s.data.toList⟩).get j=H.get j:=fun j hj=>aE.get_set_other _ _ hj;have hpos:0 < ob.sz:=lS (aM he hx) hH rfl;have p2:=((hr.obj id ob hH).cells hpos).2.1;rw [hosz] at p2;have hrl:∀ r∈ob.rows++fT s.data.toList,r.length=1:=fun r hr'=>by
  rcases List.mem_append.1 hr' with h|h
  ·exact p2 r h
  obtain ⟨b,_,rfl⟩:=List.mem_map.1 h;rfl
 have hys:=(aM he hy).str_inv;have fin:∀ (v':Value) (w':World) (ι':fF),(Builtin.append_ #[T,S] o.type #[a.eval x,.string s]).run P w=.ok v' w'→VRel w' I ι' (H.set id ⟨ob.g+1,1,ob.ty,ob.rows++fT s.data.toList⟩) v' (.osl id (ob.g+1) 0 (ob.rows.length+s.size)) →
   Rel I ι' (H.set id ⟨ob.g+1,1,ob.ty,ob.rows++fT s.data.toList⟩) w'→Step I ι H w I ι' (H.set id ⟨ob.g+1,1,ob.ty,ob.rows++fT s.data.toList⟩) w'→o.wpW P a w K Q:=by
  intro v' w' ι' hrun k1 k2 k3;unfold Oper.wpW execOp;simp only [ho,resolve,invoke,builtin,Sem.run_bind,Sem.run_pure,Result.andThen_ok,List.map_toArray,List.map_cons,List.map_nil,hys,hrun];exact hk v' w' I ι' _ _ ⟨rfl,rfl⟩ k1 k2 k3
 have hvx:=aM he hx;obtain ⟨_,hcase⟩:=gH hvx hH rfl;rcases hcase with⟨b,cap,oo,c1,c2,c3⟩|⟨c1,c2,_,c4⟩
 ·obtain ⟨p1,_,⟨b',cap',cs,e1,e2,e3,e4,e5,e5',e6⟩|⟨e1,_⟩⟩:=(hr.obj id ob hH).cells hpos
  ·rw [c1] at e1;cases e1;rw [hosz] at e4 e6;have hoo:oo=0:=by rw [c3 (by omega)];simp
   subst hoo;rw [Nat.sub_zero] at c2;have olds:oS w I ι H 1 (cs.toList.take (ob.rows.length*1)) ob.rows:=by
    intro i' r hi' k a' hk';obtain ⟨u,q1,q2,q3⟩:=e6 i' r hi' k a' hk';have hk2:k < 1:=by rw [← p2 r (aJB hi')];exact(aIv.1 hk').1
    have hi2:i' < ob.rows.length:=(aIv.1 hi').1;exact⟨u,by rw [List.getElem?_take,aIq (by omega)];simpa using q1,q2,q3⟩
   have holen:(cs.toList.take (ob.rows.length*1)).length=ob.rows.length*1:=by simp;omega
   have hslen:(strCells s).length=s.size:=strCells_length s;by_cases hroom:ob.rows.length+s.size≤cap
   ·have hrun:=run_append_room_string (P:=P) w T S o.type ob.ty i hT hS hi hsize b ob.rows.length cap cs e2 s hroom (by omega);obtain ⟨k2,k3⟩:=Rel.update (H':=H.set id ⟨ob.g+1,1,ob.ty,ob.rows++fT s.data.toList⟩) (ob':=⟨ob.g+1,1,ob.ty,ob.rows++fT s.data.toList⟩)
     (cs':=(cs.toList.take ob.rows.length++strCells s++cs.toList.drop (ob.rows.length+s.size)).toArray) hr hH c1 e2 (by simp) hosz.symm rfl (fun e=>by simp at e) (by
      simp only [List.size_toArray,aIs,aJF,aJG,Array.length_toList,hslen,hosz];omega) (by simp only [aIs,hlen2];exact hroom) (by rw [hosz];exact hrl) (fun i' r hi' k a' hk'=>by
       have:=oS.app (l3:=cs.toList.drop (ob.rows.length+s.size)) olds holen (vM (H:=H) s) i' r hi' k a' hk';rw [hosz]
       simpa [List.append_assoc] using this) h1 h2
    exact fin _ _ ι (by rw [c2];exact hrun) (.osl _ h1 (aIx _) rfl fun _=>⟨Nat.zero_lt_one,by simp [hlen2],.inl ⟨b,cap,0,c1,by simp,fun _=>by simp⟩⟩) k2 k3
   have holds:∀ j v,(cs.toList.take ob.rows.length)[j]?=some v→w.cell? ((⟨b,0,none⟩:Addr).add j)=some v:=by
    intro j v hv;rw [Addr.add_lit,aJJ,cell_of_row w b _ cs ob.ty (0,0) e2];rw [List.getElem?_take] at hv
    split at hv
    ·simpa using hv
    cases hv
   have hrun:=run_append_grow_string (P:=P) w T S o.type ob.ty i (.int .u8 0) hT hS hi hzi ⟨b,0,none⟩ ob.rows.length cap _ (by rw [hsize];simpa using holen) holds s (by omega) (by omega) (growslice_fits (by omega) (by rw [hby];omega));have hge:=grownCap_ge w (ob.rows.length+s.size) cap ob.ty;have hcm:=grownCap_le_maxLen w (ob.rows.length+s.size) cap ob.ty hml;have hz1:(Value.int IntKind.u8 0).cells.size=1:=rfl;obtain ⟨k2,k3⟩:=Rel.place (H':=H.set id ⟨ob.g+1,1,ob.ty,ob.rows++fT s.data.toList⟩) (id:=id) (cap:=grownCap w (ob.rows.length+s.size) cap ob.ty) (ob':=⟨ob.g+1,1,ob.ty,ob.rows++fT s.data.toList⟩)
    (cs':=(cs.toList.take ob.rows.length).toArray++(strCells s).toArray++Builtin.zeroCells (Value.int .u8 0).cells (grownCap w (ob.rows.length+s.size) cap ob.ty - (ob.rows.length+s.size)))
    (w':=w.drew.alloc (.cells ((cs.toList.take ob.rows.length).toArray++(strCells s).toArray++Builtin.zeroCells (Value.int .u8 0).cells (grownCap w (ob.rows.length+s.size) cap ob.ty - (ob.rows.length+s.size))) ob.ty)) hr rfl rfl rfl rfl
    (fun o' ho'=>by rw [hH] at ho';cases ho';simp) Nat.zero_lt_one (by
     simp only [Array.size_append,List.size_toArray,size_zeroCells,hz1,hslen,aJF,Array.length_toList];omega) (by simp only [aIs,hlen2];exact hge) hcm hrl (fun i' r hi' k a' hk'=>by
      obtain ⟨u,q1,q2,q3⟩:=oS.app (l3:=(Builtin.zeroCells (Value.int .u8 0).cells (grownCap w (ob.rows.length+s.size) cap ob.ty - (ob.rows.length+s.size))).toList) olds holen (vM (H:=H) s) i' r hi' k a' hk';refine⟨u,?_,q2,q3⟩;rw [← Array.getElem?_toList]
      simpa [List.append_assoc] using q1) h1 h2
   exact fin _ _ _ (by rw [c2];exact hrun) (.osl _ h1 (aIx _) rfl fun _=>⟨Nat.zero_lt_one,by simp [hlen2],.inl ⟨w.heap.size,_,0,by simp;rfl,by simp,fun _=>by simp⟩⟩) k2 k3
  rw [c1] at e1;cases e1
 have hnil:ob.rows=[]:=List.eq_nil_of_length_eq_zero c4;by_cases h0:s.size=0
 ·have hb0:fT s.data.toList=[]:=List.eq_nil_of_length_eq_zero (by rw [hlen2];exact h0);have hrun:(Builtin.append_ #[T,S] o.type #[.slice none 0 0,.string s]).run P w=.ok (.slice none 0 0) w:=by
   have hf:=run_firstCells_string (P:=P) w 1 s;rw [h0] at hf;simp [Builtin.append_,run_underlying hT,run_underlying hS,sizeOf,typeInfo,hi,hsize,Builtin.lenOf,h0,hf]
  obtain ⟨k2,k3⟩:=Rel.tick (H':=H.set id ⟨ob.g+1,1,ob.ty,ob.rows++fT s.data.toList⟩) (ob':=⟨ob.g+1,1,ob.ty,ob.rows++fT s.data.toList⟩) hr hH (by simp) hosz.symm rfl (by simp [hb0]) h1 h2;exact fin _ _ ι (by rw [c2];exact hrun) (.osl _ h1 (aIx _) rfl fun _=>⟨Nat.zero_lt_one,by simp [hlen2],.inr ⟨c1,rfl,rfl,by simp [hnil,h0]⟩⟩) k2 k3
 have hr0:=run_append_nil_string (P:=P) w T S o.type ob.ty i (.int .u8 0) hT hS hi hzi s (by omega) (by omega) (by rw [hby];omega);have hslen:(strCells s).length=s.size:=strCells_length s;have e1:(s.data.map fun b=>Value.int .u8 b.toNat)=(strCells s).toArray:=by
  apply Array.ext';simp [strCells]
 rw [e1] at hr0;have hml0:s.size≤maxLen:=by omega
 have hge:=grownCap_ge w s.size 0 ob.ty;have hcm:=grownCap_le_maxLen w s.size 0 ob.ty hml0;have hz1:(Value.int IntKind.u8 0).cells.size=1:=rfl;obtain ⟨k2,k3⟩:=Rel.place (H':=H.set id ⟨ob.g+1,1,ob.ty,ob.rows++fT s.data.toList⟩) (id:=id) (cap:=grownCap w s.size 0 ob.ty) (ob':=⟨ob.g+1,1,ob.ty,ob.rows++fT s.data.toList⟩)
  (cs':=(strCells s).toArray++Builtin.zeroCells (Value.int .u8 0).cells (grownCap w s.size 0 ob.ty - s.size))
  (w':=w.drew.alloc (.cells ((strCells s).toArray++Builtin.zeroCells (Value.int .u8 0).cells (grownCap w s.size 0 ob.ty - s.size)) ob.ty)) hr rfl rfl rfl rfl
  (fun o' ho'=>by rw [hH] at ho';cases ho';simp) Nat.zero_lt_one (by
   simp only [Array.size_append,List.size_toArray,size_zeroCells,hz1,hslen];omega) (by simp only [aIs,hlen2,hnil,List.length_nil,aJJ];exact hge) hcm hrl (fun i' r hi' k a' hk'=>by
    simp only [hnil,List.nil_append] at hi';obtain ⟨u,q1,q2,q3⟩:=vM (w:=w) (I:=I) (ι:=ι) (H:=H) s i' r hi' k a' hk';have hlt:=(aIv.1 q1).1;refine⟨u,?_,q2,q3⟩;rw [Array.getElem?_append_left (by simpa using hlt)]
    simpa using q1) h1 h2
 exact fin _ _ _ (by rw [c2];exact hr0) (.osl _ h1 (aIx _) rfl fun _=>⟨Nat.zero_lt_one,by simp [hlen2],.inl ⟨w.heap.size,_,0,by simp;rfl,by simp [hnil],fun _=>by simp⟩⟩) k2 k3
theorem BB {e:TypeId} {id g n k:Nat} {ob:Ob} {s:ByteArray} {rows':List (List AV)} (ho:o.op=.call {callee:=.builtin .append,args:=#[x,y],argTypes:=#[T,S]}) (hSl:eH P T e 1) (hS:P.underlying S=some .string) (hinf:EI P e 1 1) (hz0:∀ i,P.info? e=some i→i.zero=some (.int .u8 0))
  (hx:aW E x=some (.osl id g 0 n)) (hH:H.get id=some ob) (hg:ob.g=g) (hosz:ob.sz=1) (hty:ob.ty=e) (hn:ob.rows.length=n)
  (hy:aW E y=some (.pv (.str s))) (hmax:n+s.size≤140737488355328) (hk:n+s.size=k) (hrows:ob.rows++fT s.data.toList=rows') :
  dQ P N o E H (.osl id (g+1) 0 k) ((id,⟨g+1,1,e,rows'⟩)::H):=by
 subst hk hrows;exact dQ.congr (HM ho hSl.1 hS hinf.1 hz0 hx hH hg hosz hty hn hy hmax rfl) (fun j=>nY _ _ _ j)
end
end
section
def aBG (v:Value):Prop:=∃ p,v=.pointer p
theorem PZ {P:Program} {e:TypeId} {s:Nat} (hc:P.cellsOf e=s+1) (count:Nat) (hn:1≤count):liesAt P P.depth e count 0 e 1=true:=by have hd:P.depth=(2*(P.types.size+Made.depth)+1)+1:=rfl;rw [hd];simp only [liesAt,Bool.or_eq_true];left;rw [hd];simp [rowAt,hc,hn,sameLayout]
theorem DG {I:Nat→Prop} {ι:fF} {H:aE} {w:World} {v:Value} {id g:Nat} {ob:Ob} (hr:Rel I ι H w) (h:VRel w I ι H v (.ref id g 0 0)) (hH:H.get id=some ob) (hg:ob.g=g) (hne:ob.rows≠[]) :
  ∃ b cap,v=.pointer (some ⟨b,0,none⟩)∧w.shape? b=some (ob.ty,cap*ob.sz)∧0 < cap∧0 < ob.sz:=by
 obtain ⟨b,cap,e1,e2⟩:=l9 h hH hg;have hz:=HE h hH hg;obtain ⟨_,_,⟨b',cap',cs,f1,f2,f3,f4,f5,_⟩|⟨f1,_⟩⟩:=(hr.obj id ob hH).cells hz
 ·rw [e1] at f1;cases f1;refine⟨b,cap,by rw [e2];simp,by simp [World.shape?,f2,f4],?_,hz⟩;have:0 < ob.rows.length:=List.length_pos_iff.2 hne;omega
 rw [e1] at f1;cases f1
theorem VRel.sat_inv {w:World} {I:Nat→Prop} {ι:fF} {H:aE} {v:Value} {p:Value→Prop} (h:VRel w I ι H v (.pv (.sat p))):p v:=by
 have:=h.pv_inv;cases this with
 | sat h1 h2=>exact h2
section
variable {P:Program} {N:Nat} {o:Oper} {E:dG} {H:aE} {S T t t' e:TypeId} {x y:Operand} {id g n:Nat} {ob:Ob}
theorem uX {P:Program} {t:TypeId} {n:Nat} (h:(P.info? t).map (·.size)=some n):∃ j,P.info? t=some j∧j.size=n:=by
 cases hi:P.info? t with
 | none=>rw [hi] at h;cases h
 | some j=>rw [hi] at h;exact⟨j,rfl,Option.some.inj h⟩
theorem zJ (ho:o.op=.convert S T x) (hS:P.underlying S=some (.pointer t)) (hT:P.underlying T=some .unsafePointer) (hi:(P.info? t).map (·.size)=some (n+1)) (hx:aW E x=some (.ref id g 0 0)) (hH:H.get id=some ob) (hg:ob.g=g) (hne:ob.rows≠[]):dQ P N o E H (.ref id g 0 0) H :=.of_run fun a w I ι hr he=>by
  have hv:=aM he hx;obtain ⟨b,cap,e1,e2,e3,e4⟩:=DG hr hv hH hg hne;obtain ⟨j,h1,h2⟩:=uX hi;rw [e1] at hv;have hpos:0 < cap*ob.sz:=Nat.mul_pos e3 e4;refine⟨_,?_,hv⟩;simp only [execOp,ho,e1];rw [Sem.run_bind,Lib.run_to_unsafe w ⟨b,0,none⟩ hS hT h1 (by omega) e2 hpos];rfl
theorem FD (ho:o.op=.convert S T x) (hS:P.underlying S=some .unsafePointer) (hT:P.underlying T=some (.pointer t)) (hi:(P.info? t).map (·.size)=some (n+1)) (hx:aW E x=some (.ref id g 0 0)) (hH:H.get id=some ob) (hg:ob.g=g) (hne:ob.rows≠[]) (hty:ob.ty=t) (hsz:ob.sz=n+1):dQ P N o E H (.ref id g 0 0) H :=.of_run fun a w I ι hr he=>by
  have hv:=aM he hx;obtain ⟨b,cap,e1,e2,e3,e4⟩:=DG hr hv hH hg hne;obtain ⟨j,h1,h2⟩:=uX hi;rw [e1] at hv;have hc:P.cellsOf t=n+1:=by simp [Program.cellsOf,h1,h2]
  refine⟨_,?_,hv⟩;simp only [execOp,ho,e1];rw [hty] at e2;rw [Sem.run_bind,Lib.run_from_unsafe w ⟨b,0,none⟩ hS hT h1 e2 (PZ hc _ (by rw [hc,hsz,Nat.mul_div_cancel _ (by omega)];exact e3))];rfl
theorem BV {i k:Nat} (ho:o.op=.binOp .neq t x y t') (ht:P.underlying t=some (.pointer e)) (hi:(P.info? e).map (·.size)=some (n+1)) (hx:aW E x=some (.ref id g i k)) (hy:aW E y=some (.ref id g i k)) (hH:H.get id=some ob) (hg:ob.g=g):dQ P N o E H (.pv (.bool false)) H :=.of_run fun a w I ι _ he=>⟨.bool false,by
  obtain ⟨b,cap,q1,e1⟩:=l9 (aM he hx) hH hg;obtain ⟨b',cap',q2,e2⟩:=l9 (aM he hy) hH hg;rw [q1] at q2;cases q2;obtain ⟨j,h1,h2⟩:=uX hi;simp only [execOp,ho,e1,e2,eqGuard_at_pointer,Sem.run_bind,Sem.run_pure,Result.andThen_ok,Lib.run_neq_ptr_same w _ ht h1],.pv (.bool _)⟩
theorem QN (v:AV):YL P Extern.AbiNoEscape.same H [v] v:=by
 intro w I ι cs hl h;obtain ⟨l⟩:=cs
 match l,hl with
 | [u],_=>exact⟨u,rfl,h 0 u v rfl rfl⟩
theorem zL (ho:o.op=.call {callee:=.builtin .unsafeSliceData,args:=#[x],argTypes:=#[T]}) (hx:aW E x=some (.osl id g 0 n)) (hH:H.get id=some ob) (hg:ob.g=g) (hn:0 < n):dQ P N o E H (.ref id g 0 0) H :=.of_run fun a w I ι hr he=>by
  have hv:=aM he hx;have hz:=lS hv hH hg;obtain ⟨hl,⟨b,cap,oo,e1,e2,e3⟩|⟨_,_,_,e4⟩⟩:=gH hv hH hg
  ·obtain ⟨_,_,⟨b',cap',cs,f1,f2,f3,f4,f5,_⟩|⟨f1,_⟩⟩:=(hr.obj id ob hH).cells hz
   ·rw [e1] at f1;cases f1;obtain rfl:oo=0:=by rw [e3 (.inr rfl)];simp
    refine⟨.pointer (some ⟨b,0,none⟩),?_,.ref ob hH (Nat.le_of_eq hg.symm) rfl fun _=>⟨hz,b,cap,e1,by simp⟩⟩;have hc:cap≠0:=by omega
    simp [execOp,ho,resolve,invoke,builtin,e2,Lib.run_unsafeSliceData_row w _ _ _ _ _ hc]
   rw [e1] at f1;cases f1
  omega
theorem xJ (ho:o.op=.call {callee:=.builtin .unsafeSliceData,args:=#[x],argTypes:=#[T]}) (hp:P.underlying o.type=some (.pointer e)) (hx:aW E x=some (.osl id g 0 0)) (hH:H.get id=some ob) (hg:ob.g=g):dQ P N o E H (.pv (.sat aBG)) H:=by
 intro a w I ι _ _ hr he K Q hk;have hv:=aM he hx;have hz:=lS hv hH hg;have fin:∀ (c:Value) (w':World),(Builtin.unsafeSliceData_ #[T] o.type #[a.eval x]).run P w=.ok c w'→aBG c→Rel I ι H w'→Step I ι H w I ι H w'→o.wpW P a w K Q:=fun c w' hrun hc k1 k2=>by
  have hone:c.oneCell'=true:=by obtain ⟨p,rfl⟩:=hc;rfl
  unfold Oper.wpW;have:(execOp a.eval o).run P w=.ok (.value c) w':=by
   simp [execOp,ho,resolve,invoke,builtin,hrun]
  rw [this];exact hk c w' I ι _ H ⟨rfl,rfl⟩ (.pv (.sat hone hc)) k1 k2
 obtain ⟨hl,⟨b,cap,oo,e1,e2,e3⟩|⟨_,e2,_,e4⟩⟩:=gH hv hH hg
 ·by_cases hc:cap=0
  ·obtain ⟨_,_,⟨b',cap',cs,f1,f2,f3,f4,f5,_⟩|⟨f1,_⟩⟩:=(hr.obj id ob hH).cells hz
   ·rw [e1] at f1;cases f1;obtain ⟨k1,k2⟩:=hr.push (.view ⟨b,oo,none⟩ e);refine fin (.pointer (some ⟨w.heap.size,0,none⟩)) _ ?_ ⟨_,rfl⟩ k1 k2;rw [e2,hc];exact Lib.run_unsafeSliceData_zero w #[T] o.type e hp ⟨b,oo,none⟩ 0 (ob.ty,cs.size) (by simp [World.shape?,f2])
   rw [e1] at f1;cases f1
  refine fin (.pointer (some ⟨b,oo,none⟩)) _ ?_ ⟨_,rfl⟩ hr (Step.refl _ _ _ _);rw [e2];exact Lib.run_unsafeSliceData_row w #[T] o.type ⟨b,oo,none⟩ 0 _ (by omega)
 refine fin (.pointer none) _ ?_ ⟨_,rfl⟩ hr (Step.refl _ _ _ _);rw [e2];exact Lib.run_unsafeSliceData_nil w #[T] o.type 0 0
theorem sX {T2:TypeId} (ho:o.op=.call {callee:=.builtin .unsafeString,args:=#[x,y],argTypes:=#[T,T2]}) (hx:aW E x=some (.pv (.sat aBG))) (hy:aW E y=some (.pv (.int .i64 0))):dQ P N o E H (.pv (.str ⟨#[]⟩)) H :=.of_run fun a w I ι hr he=>by
  have h2:=(aM he hy).int_inv;have h1:=(aM he hx).sat_inv;obtain ⟨p,hp⟩:=h1;refine⟨_,?_,.pv (.str _)⟩;simp [execOp,ho,resolve,invoke,builtin,hp,h2,Lib.run_unsafeString_none w T T2 o.type p];rfl
theorem Rel.lost {I:Nat→Prop} {ι:fF} {w w':World} {b cap:Nat} (hr:Rel I ι H w) (hH:H.get id=some ob) (hz:0 < ob.sz) (hι:ι id=some (b,cap)) (hos:w'.os=w.os) (htape:w'.tape=w.tape) (hout:w'.output=w.output) (hsize:w'.heap.size=w.heap.size)
  (hw:∀ c,c≠b→w'.heap[c]?=w.heap[c]?):Rel I (wU ι id) ((id,SW ob)::H) w'∧Step I ι H w I (wU ι id) ((id,SW ob)::H) w':=by
 have hown:FP ι H b:=⟨id,ob,cap,hH,hι⟩;have hst:Step I ι H w I (wU ι id) ((id,SW ob)::H) w':=by
  refine⟨hos,htape,hout,by omega,fun a _ hn=>?_,fun _ h=>h,fun _ h=>.inl h,fun c hc=>?_,fun c _ hn=>hw c (fun e=>hn (e▸hown)),fun j o hj=>?_⟩
  ·unfold World.frozen?;rw [hw a.block (fun e=>hn (by rw [e];exact hown))]
  ·obtain ⟨j,o,cp,hj,hi⟩:=hc;by_cases e:j=id
   ·rw [wU,aIq e] at hi;cases hi
   rw [wU,aIp e] at hi;rw [get_cons_other _ _ e] at hj;exact .inl ⟨j,o,cp,hj,hi⟩
  by_cases e:j=id
  ·subst e;rw [hH] at hj;cases hj;exact⟨SW ob,get_cons_same _ _ _,Nat.le_succ _,fun h=>absurd h (by simp [SW])⟩
  exact⟨o,by rw [get_cons_other _ _ e];exact hj,aIx _,fun _=>⟨aIp e,rfl,fun _=>aIx _⟩⟩
 refine⟨⟨fun c hc=>by rw [hsize];exact hr.imm c hc,fun j o hj=>?_,fun j j' o o' c d d' hj hj' hi hi'=>?_,hst.glob hr⟩,hst⟩
 ·by_cases e:j=id
  ·subst e;rw [get_cons_same] at hj;cases hj;exact .inl ⟨hz,by simp [SW],.inr ⟨aIq rfl,rfl⟩⟩
  rw [get_cons_other _ _ e] at hj;exact(hr.obj j o hj).keep (aIp e) (fun c d e1 _=>⟨hw c (fun hc=>e (hr.inj j id o ob b d cap hj hH (by rw [← hc];exact e1) hι)),fun h=>h⟩) (fun r _ a _ v hv=>hv.mono hr hst)
 have n1:j≠id:=fun e=>by rw [wU,aIq e] at hi;cases hi
 have n2:j'≠id:=fun e=>by rw [wU,aIq e] at hi';cases hi'
 rw [wU,aIp n1] at hi;rw [wU,aIp n2] at hi';rw [get_cons_other _ _ n1] at hj;rw [get_cons_other _ _ n2] at hj';exact hr.inj j j' o o' c d d' hj hj' hi hi'
theorem uP {T2:TypeId} {l:List UInt8} {s:ByteArray} (ho:o.op=.call {callee:=.builtin .unsafeString,args:=#[x,y],argTypes:=#[T,T2]}) (hT:P.underlying T=some (.pointer e)) (hi:(P.info? e).map (·.size)=some 1) (hx:aW E x=some (.ref id g 0 0)) (hy:aW E y=some (.pv (.int .i64 n)))
  (hH:H.get id=some ob) (hg:ob.g=g) (hsz:ob.sz=1) (hty:ob.ty=e) (hrows:ob.rows=fT l) (hl:l.length=n) (hn:0 < n) (hn2:n≤9223372036854775807) (hs:(⟨l.toArray⟩:ByteArray)=s):dQ P N o E H (.pv (.str s)) ((id,SW ob)::H):=by
 subst hs hl;intro a w I ι _ _ hr he K Q hk;have hv:=aM he hx;obtain ⟨b,cap,e1,e2⟩:=l9 hv hH hg;have h2:=(aM he hy).int_inv;obtain ⟨j,h3,h4⟩:=uX hi;have hc:P.cellsOf e=1:=by simp [Program.cellsOf,h3,h4]
 have hlen:ob.rows.length=l.length:=by rw [hrows];simp [fT]
 obtain ⟨_,_,⟨b',cap',cs,f1,f2,f3,f4,f5,_,f6⟩|⟨f1,_⟩⟩:=(hr.obj id ob hH).cells (by omega)
 ·rw [e1] at f1;cases f1;rw [hsz,Nat.mul_one] at f4;have hcell:∀ j x,l[j]?=some x→w.cell? ((⟨b,0,none⟩:Addr).add j)=some (.int .u8 x.toNat):=fun j x hj=>by
   obtain ⟨v,q1,_,q3⟩:=f6 j [.pv (.int .u8 x.toNat)] (by rw [hrows,fT,aJL,hj];rfl) 0 _ rfl;rw [hsz,Nat.mul_one,Nat.add_zero,q3.int_inv] at q1;rw [Addr.add_lit,aJJ,cell_of_row w b _ cs ob.ty (0,0) f2];exact q1
  have hrun:=Lib.run_unsafeString_row (P:=P) w T T2 o.type e hT hc b cs.size (by rw [← hty];simp [World.shape?,f2]) l (fun h0=>by rw [h0] at hn;exact Nat.lt_irrefl _ hn) (by omega) hn2 hcell;have hw:∀ c,c≠b→(w.freeze ⟨b,0,none⟩ l.length).heap[c]?=w.heap[c]?:=fun c hcb=>by
   unfold World.freeze
   split
   ·rfl
   simp only [Array.getElem?_modify];rw [aIp (fun h=>hcb h.symm)]
  obtain ⟨k1,k2⟩:=hr.lost (w':=w.freeze ⟨b,0,none⟩ l.length) hH (by omega) e1 (by unfold World.freeze;split<;>rfl) (by unfold World.freeze;split<;>rfl) (by unfold World.freeze;split<;>rfl) (by unfold World.freeze;split<;>simp) hw;unfold Oper.wpW;have:(execOp a.eval o).run P w=.ok (.value (.string ⟨l.toArray⟩)) (w.freeze ⟨b,0,none⟩ l.length):=by
   rw [hsz] at e2;simp [execOp,ho,resolve,invoke,builtin,e2,h2,hrun]
  rw [this];exact hk _ _ I (wU ι id) _ _ ⟨rfl,rfl⟩ (.pv (.str _)) k1 k2
 rw [e1] at f1;cases f1
end
end
section
theorem HS {w:World} {I:Nat→Prop} {ι:fF} {H:aE} {v:Value} (h:VRel w I ι H v (.pv .nils)):v=.slice none 0 0:=by have:=h.pv_inv;cases this;rfl
section
variable {P:Program} {N:Nat} {o:Oper} {E:dG} {H:aE} {S T t t' e:TypeId} {x y:Operand} {id g n:Nat} {ob:Ob}
theorem BZ (ho:o.op=.call {callee:=.builtin .cap,args:=#[x],argTypes:=#[T]}) (ht:P.underlying T=some (.slice e)) (hx:aW E x=some (.pv .nils)):dQ P N o E H (.pv (.int .i64 0)) H :=.of_run fun a w I ι _ he=>⟨.int .i64 0,by
  have e1:=HS (aM he hx);simp [execOp,ho,resolve,invoke,builtin,e1,Builtin.cap_,run_underlying ht,goInt],.pv (.int _ _)⟩
theorem BX (ho:o.op=.call {callee:=.builtin .len,args:=#[x],argTypes:=#[T]}) (ht:P.underlying T=some (.slice e)) (hx:aW E x=some (.pv .nils)):dQ P N o E H (.pv (.int .i64 0)) H :=.of_run fun a w I ι _ he=>⟨.int .i64 0,by
  have e1:=HS (aM he hx);simp [execOp,ho,resolve,invoke,builtin,e1,Builtin.len_,run_underlying ht,goInt],.pv (.int _ _)⟩
theorem OW {sz:Nat} (hy:aW E y=some (.pv .nils)):VJ E H sz y 0 []:=fun a w I ι hr he=>.inr ⟨HS (aM he hy),rfl,rfl⟩
theorem OJ {lo hi:Option Operand} {len h sz k:Nat} {rows':List (List AV)} (ho:o.op=.slice T x lo hi none) (hS:eH P T e sz) (hx:aW E x=some (.osl id g 0 len))
  (hH:H.get id=some ob) (hg:ob.g=g) (hsz:ob.sz=sz) (hlo:KA E lo 0=some ((0:Nat):Int)) (hhi:KA E hi len=some (h:Int)) (h2:h≤len) (hk:g+1=k) (hrows:ob.rows.take h=rows'):dQ P N o E H (.osl id k 0 h) ((id,⟨k,sz,ob.ty,rows'⟩)::H):=by
 subst hk hrows hsz;intro a w I ι h1 h1' hr he K Q hkk;refine zK ho hS.1 hS.2.1 hx hH hg rfl hlo hhi (aJI _) h2 rfl (Nat.sub_zero h) a w I ι h1 h1' hr he K Q ?_;rintro c w' I' ι' r H' ⟨rfl,rfl⟩ hv hr' hst;have hz:=lS hv hH hg;obtain ⟨q1,q2⟩:=gH hv hH hg;obtain ⟨k2,k3⟩:=Rel.cut (k:=g+1) (n:=h) (H':=(id,⟨g+1,ob.sz,ob.ty,ob.rows.take h⟩)::H') hr' hH (by omega) hz (get_cons_same _ _ _) (fun j hj=>get_cons_other _ _ hj);have hone:c.oneCell'=true:=by
  rcases q2 with⟨b,cap,oo,_,e,_⟩|⟨_,e,_⟩<;>subst e<;>rfl
 exact hkk c w' I' ι' _ _ ⟨rfl,rfl⟩ (.osl _ (get_cons_same _ _ _) (aIx _) hone fun _=>⟨hz,by simp only [aJF];omega,q2⟩) k2 (hst.trans k3)
theorem IV:∀ (n t:Nat) (acc:Array Value),(∀ v∈acc.toList,v.oneCell'=true)→∀ v∈(Extern.BytealgMakeNoZero.digits n t acc).toList,v.oneCell'=true
 | 0,_,_,h=>h
 | n+1,t,acc,h=>by
  rw [Extern.BytealgMakeNoZero.digits];refine IV n _ _ fun v hv=>?_;rw [Array.toList_push,List.mem_append,aIu] at hv;rcases hv with hv|rfl
  ·exact h v hv
  rfl
theorem R2 (w:World) (ps:Array TypeId) (t e:TypeId) (ht:P.underlying t=some (.slice e)) (n:Nat) (hn:n≤281474976710656) :
  ∃ cs:Array Value,(Extern.BytealgMakeNoZero.makeNoZero ps #[t] #[.int .i64 n]).run P w=.ok (.slice (some ⟨w.heap.size,0,none⟩) n cs.size) (w.drew.drew.alloc (.cells cs e))∧n≤cs.size∧(n≤maxLen→cs.size≤maxLen)∧∀ v∈cs.toList,v.oneCell'=true:=by
 have hdef:Extern.BytealgMakeNoZero.makeNoZero ps #[t] #[.int .i64 n] =
   (do
    let .slice elem ← underlying t|stuck "bytealg.MakeNoZero: slice type expected"
    if(n:Int) < 0||(n:Int) > 2 ^ 48 then runtimePanic (.error "makeslice: len out of range")
    let cap ← choose (.appendCap (n:Int).toNat 0 elem)
    askRoom cap
    let bytes ← choose (.extern "internal/bytealg.MakeNoZero.bytes" 0)
    let a ← newRow elem (Extern.BytealgMakeNoZero.digits cap bytes #[])
    pure (.slice (some a) (n:Int).toNat cap)):=rfl
 refine⟨Extern.BytealgMakeNoZero.digits (grownCap w n 0 e) ((Question.extern "internal/bytealg.MakeNoZero.bytes" 0).cut (w.tape (w.drawn+1) (.extern "internal/bytealg.MakeNoZero.bytes" 0))) #[],?_,?_,?_,?_⟩
 ·rw [hdef];have h1:¬ (n:Int) < 0:=by omega
  have h2:¬ (281474976710656:Int) < (n:Int):=by omega
  simp [run_underlying ht,h1,h2,Question.forced,newRow,Lib.size_digits,grownCap]
 ·rw [Lib.size_digits]
  simpa using grownCap_ge w n 0 e
 ·intro hm;rw [Lib.size_digits]
  simpa using grownCap_le_maxLen w n 0 e hm
 exact IV _ _ _ (by simp)
theorem SF {f:Operand} {at_:Array TypeId} {F:FuncId} {fn:Func} {ps:Array TypeId} {m:Int} (ho:o.op=.call {callee:=.value f,args:=#[x],argTypes:=at_}) (hf:aW E f=some (.pv (.fn F))) (hF:P.funcs[F]?=some fn) (hname:(fn.name == "runtime.NumGoroutine")=false)
  (hb:fn.body.isNone=true) (hn:Extern.findNext fn=none) (he:Extern.find fn=some (Extern.BytealgMakeNoZero.makeNoZero ps #[t])) (ht:P.underlying t=some (.slice e)) (hx:aW E x=some (.pv (.int .i64 m))) (hm:m=(n:Int)) (hml:n≤140737488355328) (hid:H.get id=none) :
  dQ P N o E H (.osl id 0 0 n) ((id,⟨0,1,e,List.replicate n [.any]⟩)::H):=by
 subst hm;intro a w I ι _ _ hr hE K Q hk;have hfv:=(aM hE hf).fn_inv;have hxv:=(aM hE hx).int_inv;obtain ⟨cs,e1,e2,e3,e4⟩:=R2 (P:=P) w ps t e ht n (by omega);have hrd:=Rel.drawn (w':=w.drew.drew) hr rfl rfl rfl rfl;obtain ⟨d1,d2⟩:=hrd;obtain ⟨k1,k2⟩:=Rel.place (H':=(id,⟨0,1,e,List.replicate n [.any]⟩)::H) (id:=id) (cap:=cs.size) (ob':=⟨0,1,e,List.replicate n [.any]⟩) (cs':=cs) (w':=w.drew.drew.alloc (.cells cs e)) d1 rfl rfl rfl rfl
  (fun o' ho'=>by rw [hid] at ho';cases ho') Nat.zero_lt_one (by simp) (by simpa using e2) (e3 (Nat.le_trans hml (by decide))) (fun r hr'=>by obtain ⟨_,rfl⟩:=List.mem_replicate.1 hr';rfl) (fun i r hi k b hk'=>by
   rw [List.getElem?_replicate] at hi
   split at hi
   ·cases hi;cases k with
    | zero =>
     cases hk';have hlt:i*1+0 < cs.size:=by omega
     exact⟨cs[i*1+0],Array.getElem?_eq_getElem hlt,e4 _ (Array.getElem_mem_toList hlt),.any _⟩
    | succ k=>simp at hk'
   cases hi) (get_cons_same _ _ _) (fun j hj=>get_cons_other _ _ hj)
 unfold Oper.wpW;have hrun:(execOp a.eval o).run P w=.ok (.value (.slice (some ⟨w.heap.size,0,none⟩) n cs.size)) (w.drew.drew.alloc (.cells cs e)):=by
  unfold execOp;simp only [ho,resolve,hfv,Deferred.ofValue,Sem.run_bind,Sem.run_pure,Result.andThen_ok,invoke,Array.empty_append,Array.append_empty,run_callFunc_extern hF hname hb hn he];simp [hxv,e1]
 rw [hrun];exact hk _ _ I _ _ _ ⟨rfl,rfl⟩ (.osl ⟨0,1,e,List.replicate n [.any]⟩ (get_cons_same _ _ _) (aIx _) rfl fun _=>⟨Nat.zero_lt_one,by simp,.inl ⟨w.heap.size,cs.size,0,by simp,by simp,fun _=>by simp⟩⟩) k1 (d2.trans k2)
end
end
end Go.Abs
namespace Go.Proofs.YtlnfjkdacimblaaGreatDoor
open Go.Proofs.Tryz
open Go.Abs
def Q7 (u:Bool):AV:=if u then .ref 2001 0 0 0 else .pv .nilp
def tY (buf:AV) (u:Bool):Ob:=⟨0,2,62,[[Q7 u,buf]]⟩
def uC (g:Nat) (l:List UInt8) (u:Bool):aE:=[(2001,tY (.osl 2002 g 0 l.length) u),(2002,⟨g,1,5,fT l⟩)]
theorem y6 (l:List UInt8):(fT l).length=l.length:=by simp [fT]
theorem fH (H:aE) (l:List UInt8):∀ r∈fT l,∀ a∈r,Clo H a:=by intro r hr a ha;obtain ⟨b,_,rfl⟩:=List.mem_map.1 hr;rw [aIu] at ha;subst ha;simp
theorem y7 (l m:List UInt8):fT l++fT m=fT (l++m):=by simp [fT]
theorem iA {H:aE} {g n:Nat} {u:Bool} (h1:(H.get 2001).isSome=true) (h2:(H.get 2002).isSome=true):∀ r∈(tY (.osl 2002 g 0 n) u).rows,∀ a∈r,Clo H a:=by
 intro r hr a ha;simp only [tY,aIu] at hr;subst hr;simp only [aJD,aJH,or_false] at ha;rcases ha with rfl|rfl
 ·cases u<;>simp [Q7,h1]
 simp [h2]
theorem x6 (buf:AV) (u:Bool) (K:aE):aH Tryz.prog 72 [.ref 2001 0 0 0] ((2001,tY buf u)::K) (fun r H'=>r=.tup []∧H'=(2001,tY buf true)::K):=by
 cases u with
 | false =>
  refine Bd aCQ rfl YF<|Sr<|Dd aD<|Dd pY<|Dd (bH xW)<|Dd (cA zE)<|Dd (by exact xL rfl gJ rfl rfl)<|Zz ?_;refine Cn ?_ ?_<;>intro hc1
  ·refine Rg<|Dd aD<|Dd aD<|Dd (by exact zJ (n:=1) rfl gJ A5 (by kernel_rfl) rfl rfl rfl (by simp [tY]))<|Dd (by exact BY rfl rfl func128 rfl rfl rfl rfl rfl (QN (.ref 2001 0 0 0)))<|Dd (by exact FD (n:=1) rfl A5 gJ (by kernel_rfl) rfl rfl rfl (by simp [tY]) rfl rfl)<|Dd pY<|Dd (bH xW)<|Uu (by exact bW rfl aHK rfl rfl rfl rfl rfl rfl (aJE rfl) rfl rfl)<|Zz ?_;exact qT (.inl rfl) rfl (Fin.get' (H':=(2001,tY buf true)::K) (fun j=>pP 2001 (tY buf true) (tY buf false) K j)) ⟨rfl,rfl⟩
  cases hc1
 | true =>
  refine Bd aCQ rfl YF<|Sr<|Dd aD<|Dd pY<|Dd (bH xW)<|Dd (cA zE)<|Dd (by exact sY rfl gJ rfl rfl rfl rfl)<|Zz ?_;refine Cn ?_ ?_<;>intro hc1
  ·cases hc1
  refine Sr<|Dd aD<|Dd pY<|Dd (bH xW)<|Dd (cA zE)<|Dd aD<|Dd (by exact BV (n:=1) rfl gJ (by kernel_rfl) rfl rfl rfl rfl)<|Zz ?_;refine Cn ?_ ?_<;>intro hc2
  ·cases hc2
  refine aB ?_;exact qT (.inl rfl) rfl Fin.refl ⟨rfl,rfl⟩
theorem CC {i j:Nat} {a b a' b':Ob} {K:aE} (h:i≠j) (k:Nat):aE.get ((i,a)::(j,b)::K) k=aE.get ((i,a)::(j,b)::(i,a')::(j,b')::K) k:=by
 simp only [aE.get];cases e1:Nat.beq i k with
 | true=>rfl
 | false=>cases e2:Nat.beq j k<;>simp
theorem TR:∀ i,Tryz.prog.info? 5=some i→i.zero=some (.int .u8 0):=fun i hi=>by
 have h:(Tryz.prog.info? 5).map (·.zero)=some (some (.int .u8 0)):=by kernel_rfl
 rw [hi] at h;exact Option.some.inj h
theorem VA (g:Nat) (l m:List UInt8) {n:Nat} (h:m.length=n):uC (g+1) (l++m) true=[(2001,tY (.osl 2002 (g+1) 0 (l.length+n)) true),(2002,⟨g+1,1,5,fT (l++m)⟩)]:=by subst h;simp [uC]
theorem jM (g:Nat) (l:List UInt8) (u:Bool) (c:UInt8) (hl:l.length < 70368744177664):aH Tryz.prog 125 [.ref 2001 0 0 0,.pv (.int .u8 c.toNat)] (uC g l u) (fun r H'=>r=.pv J1∧H'=uC (g+1) (l++[c]) true):=by refine Bd func125 rfl ntmps125<|Sr<|Dd aO<|Zz<|Sr<|Dd aD<|Dd (by exact aA rfl rfl N7 rfl (x6 _ u _))<|Zz<|Sr<|Dd aD<|Dd aD<|Dd pY<|Dd (bH iQ)<|Dd (cA d9)<|Dd aD<|Dd (by exact aT [[.int .u8 c.toNat]] rfl OZ rfl rfl rfl rfl rfl (by intro r hr;rw [aIu] at hr;subst hr;rfl))<|Dd (by exact c6 (ps:=[[.int .u8 c.toNat]]) rfl OZ ei5 rfl rfl rfl rfl rfl (y6 l) rfl (by intro r hr;rw [aIu] at hr;subst hr;rfl) (m:=1) rfl (by omega) rfl (y7 l [c]))<|Dd pY<|Dd (bH iQ)<|Uu (by exact bW rfl nP rfl rfl rfl rfl rfl rfl (aJE rfl) rfl rfl)<|Zz<|Sr<|Dd aO<|Zz<|aC ?_;rw [VA g l [c] (n:=1) rfl];refine cZ (H':=[(2001,tY (.osl 2002 (g+1) 0 (l.length+1)) true),(2002,⟨g+1,1,5,fT (l++[c])⟩)]) (.inr rfl) rfl (aN rfl) (Fin.get' (fun j=>CC (by decide) j)) ?_;exact Qq
theorem mO (g:Nat) (l:List UInt8) (u:Bool) (s:ByteArray) (hl:l.length+s.size < 70368744177664):aH Tryz.prog 33 [.ref 2001 0 0 0,sv s] (uC g l u) (fun r H'=>r=.tup [iv (s.size:Int),.pv J1]∧H'=uC (g+1) (l++s.data.toList) true):=by refine Bd func33 rfl ntmps33<|Sr<|Dd aO<|Dd aO<|Zz<|Sr<|Dd aD<|Dd (by exact aA rfl rfl N7 rfl (x6 _ u _))<|Zz<|Sr<|Dd aD<|Dd aD<|Dd pY<|Dd (bH iQ)<|Dd (cA d9)<|Dd aD<|Dd (by exact BB rfl OZ underlying9 ei5 TR rfl rfl rfl rfl rfl (y6 l) rfl (by omega) rfl (y7 l s.data.toList))<|Dd pY<|Dd (bH iQ)<|Uu (by exact bW rfl nP rfl rfl rfl rfl rfl rfl (aJE rfl) rfl rfl)<|Zz<|Sr<|Dd aD<|Dd (jJ underlying9)<|Dd aO<|Dd aO<|Zz<|aC ?_;rw [VA g l s.data.toList (n:=s.size) rfl];refine iD (H':=[(2001,tY (.osl 2002 (g+1) 0 (l.length+s.size)) true),(2002,⟨g+1,1,5,fT (l++s.data.toList)⟩)]) (.inr rfl) rfl (aN rfl) (aN rfl) (Fin.get' (fun j=>CC (by decide) j)) ?_;exact Qq
def X1 (g:Nat) (l:List UInt8) (u:Bool):aE:=[(2002,⟨g+1,1,5,[]⟩),(2001,tY (.osl 2002 g 0 l.length) u)]
theorem GB {i j:Nat} {a b a':Ob} {K:aE} (h:i≠j) (k:Nat):aE.get ((i,a)::(j,b)::K) k=aE.get ((i,a)::(j,b)::(i,a')::K) k:=by
 simp only [aE.get];cases e1:Nat.beq i k with
 | true=>rfl
 | false=>cases e2:Nat.beq j k<;>simp
theorem TX (g:Nat) (l:List UInt8) (u:Bool) (hl:l.length < 70368744177664):aH Tryz.prog 35 [.ref 2001 0 0 0] (uC g l u) (fun r H'=>r=sv ⟨l.toArray⟩∧H'=X1 g l u):=by
 by_cases h0:l=[]
 ·subst h0;refine Bd aCR rfl YG<|Sr<|Dd aO<|Zz<|Sq<|aU follows<|Cq aD<|Cq pY<|Cq (bH iQ)<|Cq (cA d9)<|Cq (by exact xJ rfl sL rfl rfl rfl)<|Cq aD<|Cq pY<|Cq (bH iQ)<|Cq (cA d9)<|Cq (by exact dV rfl eE rfl rfl rfl)<|Cq (by exact sX rfl rfl rfl)<|Cq aO<|bM<|Kr<|aC ?_;refine cZ (H':=(X1 g [] u)) (.inr rfl) rfl (aN rfl) (Fin.trans (Fin.deadO (id:=2002) (k:=g+1) (ob:=⟨g,1,5,fT []⟩) rfl (Nat.lt_succ_self g) Nat.zero_lt_one rfl rfl) (Fin.get' (fun j=>GB (by decide) j))) ?_;exact Qq
 have hpos:0 < l.length:=List.length_pos_iff.2 h0;refine Bd aCR rfl YG<|Sr<|Dd aO<|Zz<|Sq<|aU follows<|Cr [2001] (fun _ _=>aD)<|Cr [2001] (fun H1 hH=>by exact dS rfl rfl ((hH _ rfl).trans rfl) rfl)<|Cr [2001] (fun _ h=>fh iQ h)<|Cr [2001] (fun _ h=>lh d9 h)<|Cr [2002] (fun H1 hH=>by exact zL rfl rfl ((hH _ rfl).trans rfl) rfl hpos)<|Cr [2001] (fun _ _=>aD)<|Cr [2001] (fun H1 hH=>by exact dS rfl rfl ((hH _ rfl).trans rfl) rfl)<|Cr [2001] (fun _ h=>fh iQ h)<|Cr [2001] (fun _ h=>lh d9 h)<|Cr [2002] (fun H1 hH=>by exact dV rfl eE rfl ((hH _ rfl).trans rfl) rfl)<|Cp [2001,2002] (fun H1 hH=>by exact uP (l:=l) rfl sL (by kernel_rfl) rfl rfl ((hH _ rfl).trans rfl) rfl rfl rfl rfl rfl hpos (by omega) rfl)<|Cr [] (fun _ _=>aO)<|bM<|Kr<|aC ?_;refine cZ (H':=(X1 g l u)) (.inr rfl) rfl (aN rfl) (Fin.get' (fun j=>GB (by decide) j)) ?_;exact Qq
def TB:aE:=[(2001,tY (.pv .nils) false)]
theorem aFk (m n:Nat) (hn:m=n) (hl:n < 70368744177664):aH Tryz.prog 173 [.ref 2001 0 0 0,iv (n:Int)] [(2001,tY (.pv .nils) true)] (fun r H'=>r=.tup []∧H'=uC 1 [] true):=by refine Bd func173 rfl ntmps173<|Sq<|aU follows<|Cr [2001] (fun _ _=>aD)<|Cr [2001] (fun H1 hH=>by exact dS rfl rfl ((hH _ rfl).trans rfl) rfl)<|Cr [2001] (fun _ h=>fh iQ h)<|Cr [2001] (fun _ h=>lh d9 h)<|Cr [] (fun H1 hH=>by exact BZ rfl eE rfl)<|Cr [] (fun H1 hH=>by exact F0 rfl rfl rfl (by exact OL (by omega) (by omega)))<|Cr [] (fun _ _=>aD)<|Cr [] (fun H1 hH=>by exact iM rfl rfl rfl (show IntKind.i64.wrap (0+(n:Int))=(n:Int)by rw [IntKind.wrap_i64];omega))<|Cp [2002] (fun H1 hH=>by exact SF (id:=2002) (n:=n) rfl rfl func224 (by decide) rfl rfl rfl eE rfl rfl (by omega) ((hH _ rfl).trans rfl))<|Cr [2001] (fun _ _=>aD)<|Cr [2001] (fun H1 hH=>by exact dS rfl rfl ((hH _ rfl).trans rfl) rfl)<|Cr [2001] (fun _ h=>fh iQ h)<|Cr [2001] (fun _ h=>lh d9 h) ?_;refine Cr [] (fun H1 hH=>by exact BX rfl eE rfl)<|Cp [2002] (fun H1 hH=>by exact OJ (h:=0) (k:=1) (rows':=[]) rfl OZ rfl ((hH _ rfl).trans rfl) rfl rfl rfl rfl (aJI _) rfl rfl)<|Cr [] (fun _ _=>aO)<|bM<|Kr<|Sr<|Dd aD<|Dd aD<|Dd pY<|Dd (bH iQ)<|Dd (cA d9)<|Dd (by exact GJ (rows':=[]) rfl OZ (AY rfl rfl rfl) rfl rfl rfl (aJI _) (OW rfl) (by simp) rfl rfl rfl)<|Zz<|Rg<|Dd aD<|Dd aD<|Dd pY<|Dd (bH iQ)<|Uu (by exact bW rfl nP rfl rfl rfl rfl rfl rfl (aJE rfl) rfl rfl)<|Zz ?_;exact qT (H':=uC 1 [] true) (.inl rfl) rfl (Fin.wk (by(simp;done)) (Hc (iA rfl rfl)<|Hc (fH _ _)<|trivial) ⟨rfl,trivial⟩) ⟨rfl,rfl⟩
theorem aDg (n:Nat) (h0:0 < n) (hl:n < 70368744177664):aH Tryz.prog 127 [.ref 2001 0 0 0,iv (n:Int)] TB (fun r H'=>r=.tup []∧H'=uC 1 [] true):=by
 refine Bd func127 rfl ntmps127<|Sr<|Dd aD<|Dd (by exact aA rfl rfl N7 rfl (x6 _ false _))<|Zz<|Sq<|Sr<|Dd aD<|Dd dD<|Zz ?_;refine Cn ?_ ?_<;>intro hc1
 ·exact absurd (aIn hc1) (by omega)
 refine aB<|Sq<|aU follows<|Cq aD<|Cq pY<|Cq (bH iQ)<|Cq (cA d9)<|Cq (by exact BZ rfl eE rfl)<|Cq aD<|Cq pY<|Cq (bH iQ)<|Cq (cA d9)<|Cq (by exact BX rfl eE rfl)<|Cq (by exact gC rfl rfl rfl (by exact OL (by omega) (by omega)))<|Cq aD<|Cq dD<|bM<|Kr ?_;refine Cn ?_ ?_<;>intro hc2
 ·refine Rg<|Dd aD<|Dd aD<|Dd (by exact aA rfl rfl call173 rfl (aFk n n rfl hl))<|Zz ?_;exact qT (H':=uC 1 [] true) (.inl rfl) rfl (Fin.wk (by(simp;done)) (Hc (iA rfl rfl)<|Hc (fH _ _)<|trivial) ⟨rfl,trivial⟩) ⟨rfl,rfl⟩
 exact absurd (aIo hc2) (by omega)
def lH (s:ByteArray) (k:Nat):UInt8:=(s.data.toList[k]?).getD 0
theorem oO (s:ByteArray) (k:Nat):bP s k=((lH s k).toNat:Int):=rfl
def lW (b:UInt8):List UInt8:=if b=10 then[92,110] else if b=34∨b=92 then[92,b] else[b]
def dE (l:List UInt8):List UInt8:=34::(l.flatMap lW++[34])
theorem aDu (b:UInt8):(lW b).length≤2:=by
 unfold lW
 split
 ·exact aIx _
 split
 ·exact aIx _
 exact Nat.le_succ _
theorem QP (l:List UInt8):(l.flatMap lW).length≤2*l.length:=by
 induction l with
 | nil=>exact aJI _
 | cons b l ih =>
  rw [List.flatMap_cons,aIs,aIt];have:=aDu b;omega
theorem ZM {s:ByteArray} {k:Nat} (h:k < s.size):s.data.toList.take (k+1)=s.data.toList.take k++[lH s k]:=by
 have hk:k < s.data.toList.length:=by simpa using h
 rw [List.take_add_one,aIw hk,lH,aIw hk];rfl
theorem GM {b:UInt8} {n:Nat} (hn:n < 256):decide ((b.toNat:Int)=(n:Int))=decide (b=UInt8.ofNat n):=by
 rw [Bool.eq_iff_iff,aIy,aIy];constructor
 ·intro h;have:b.toNat=n:=by omega
  apply UInt8.toNat.inj;rw [this,UInt8.toNat_ofNat'];omega
 intro h;rw [h,UInt8.toNat_ofNat'];omega
theorem cY.bld0 {E E':dG} (hE:NzE E [(2002,⟨0,1,5,[]⟩),(2001,tY (.osl 2002 0 0 0) false)] 2002 E'):cY [] E TB E' (uC 0 [] false):=by refine(cY.nz (G0:=[]) (H:=TB) (H':=[(2001,tY (.osl 2002 0 0 0) false)]) 2002 1 5 rfl rfl hE ⟨⟨tY (.pv .nils) false,rfl,rfl,rfl,rfl,.inr ⟨_,_,rfl,rfl,⟨.same (by simp [Q7]),⟨.own,trivial⟩⟩⟩⟩,trivial⟩ trivial).trans ?_;exact cY.get (fun _=>rfl) (fun j=>mR (by decide) j)
def jE (s:ByteArray) (k:Nat):List UInt8:=34::(s.data.toList.take k).flatMap lW
theorem PC {s:ByteArray} {k:Nat} (hs:s.size < 17592186044416):(jE s k).length < 70368744170000:=by
 have:=QP (s.data.toList.take k);rw [aJF] at this;have h2:s.data.toList.length=s.size:=by simp
 rw [jE,aIt];omega
theorem K5 {s:ByteArray} {k:Nat} (h:k < s.size):jE s (k+1)=jE s k++lW (lH s k):=by rw [jE,jE,ZM h,List.flatMap_append];simp
theorem UC (s:ByteArray) (H:aE) (hs:s.size < 17592186044416):aH Tryz.prog 69 [sv s] H (fun r H'=>r=sv ⟨(dE s.data.toList).toArray⟩∧H'=H):=by
 refine Pu ?_;have hsl:s.data.toList.length=s.size:=by simp
 refine Bd func69 rfl ntmps69<|Sr<|Dd aO<|Zz<|Sr<|Dd (by exact bJ (id:=2001) rfl TM rfl rfl)<|Zz<|Sq ?_;refine iB.ent (E':=[(0,sv s),(3,.ref 2001 0 0 0)]) (H':=uC 0 [] false) (cY.bld0 ⟨⟨_,rfl,.same (by simp)⟩,⟨_,rfl,.same (by simp;rfl)⟩,trivial⟩) ?_;refine Rg<|Dd (by exact aA rfl rfl lM rfl (jM 0 [] false 34 (by decide)))<|Zz<|Sq<|Sr<|Dd aD<|Dd (jJ underlying9)<|Dd aD<|Zz<|aF ?_;refine gU (fun(k g:Nat)=>([(0,sv s),(3,.ref 2001 0 0 0),(8,iv (s.size:Int)),(9,iv (k:Int))],uC g (jE s k) true)) (fun k g=>k≤s.size) (fun k g=>s.size - k) 0 1 (aJI _) ?_ ?_
 ·exact(cY.wk (Eb<|Ea<|Eb<|Eb<|trivial) (Hc (iA rfl rfl)<|Hc (fH _ _)<|trivial) trivial)
 intro k g hk;have hL:=PC (k:=k) hs;refine Sr<|Dd dD<|Zz<|Sq ?_;refine Cn ?_ ?_<;>intro hc1
 ·have hlt:k < s.size:=by have:=aIn hc1;omega
  have hnext:=K5 hlt;refine aB<|Sq<|aF<|Sr<|Dd aD<|Dd aO<|Zz<|Sr<|Dd aD<|Dd aD<|Dd (by exact cF rfl underlying9 rfl rfl (by omega) (by exact aJC _) (by omega) rfl)<|Dd aO<|Zz<|Sr<|Dd aD<|Zz<|aF<|Sr<|Dd cI<|Da ?_;refine Cn ?_ ?_<;>intro hc2
  ·have hb:lH s k=10:=by
    have h:=hc2;rw [oO,show (10:Int)=((10:Nat):Int)by rfl,GM (by decide)] at h;exact aIn h
   have hE:uC (g+1) (jE s (k+1)) true=uC (g+1) (jE s k++(⟨#[92,110]⟩:ByteArray).data.toList) true:=by rw [hnext,hb];rfl
   refine Rg<|Dd (by exact aA rfl rfl w5 rfl (mO g (jE s k) true ⟨#[92,110]⟩ (by show _+2 < _;omega)))<|Zz<|Rg<|Dd eL<|Dd aD<|Zz ?_;refine⟨k+1,g+1,by omega,by omega,?_⟩;show cY _ _ _ _ (uC (g+1) (jE s (k+1)) true);rw [hE];exact(cY.wk (Eb<|Ea<|Eb<|Eb<|trivial) (Hc (iA rfl rfl)<|Hc (fH _ _)<|trivial) trivial)
  have hb10:¬ lH s k=10:=by
   have h:=hc2;rw [oO,show (10:Int)=((10:Nat):Int)by rfl,GM (by decide)] at h;exact aIo h
  refine Sq<|Sr<|Dd cI<|Da ?_;refine Cn ?_ ?_<;>intro hc3
  ·have hb:lH s k=34:=by
    have h:=hc3;rw [oO,show (34:Int)=((34:Nat):Int)by rfl,GM (by decide)] at h;exact aIn h
   have hE:uC (g+1+1) (jE s (k+1)) true=uC (g+1+1) (jE s k++[92]++[lH s k]) true:=by rw [hnext,hb];simp [lW]
   refine aB ?_;refine Cn ?_ ?_<;>intro hc4
   ·refine Sr<|Dd (by exact aA rfl rfl lM rfl (jM g (jE s k) true 92 (by omega)))<|Zz<|Rg<|Dd aD<|Dd (by exact aA rfl rfl lM rfl (jM (g+1) (jE s k++[92]) true (lH s k) (by rw [aIs,List.length_singleton];omega)))<|Zz<|Rg<|Dd eL<|Dd aD<|Zz ?_;refine⟨k+1,g+1+1,by omega,by omega,?_⟩;show cY _ _ _ _ (uC (g+1+1) (jE s (k+1)) true);rw [hE];exact(cY.wk (Eb<|Ea<|Eb<|Eb<|trivial) (Hc (iA rfl rfl)<|Hc (fH _ _)<|trivial) trivial)
   exact absurd (hc3.symm.trans hc4) (by decide)
  have hb34:¬ lH s k=34:=by
   have h:=hc3;rw [oO,show (34:Int)=((34:Nat):Int)by rfl,GM (by decide)] at h;exact aIo h
  refine Rg<|Dd cI<|Da ?_;refine Cn ?_ ?_<;>intro hc5
  ·have hb:lH s k=92:=by
    have h:=hc5;rw [oO,show (92:Int)=((92:Nat):Int)by rfl,GM (by decide)] at h;exact aIn h
   have hE:uC (g+1+1) (jE s (k+1)) true=uC (g+1+1) (jE s k++[92]++[lH s k]) true:=by rw [hnext,hb];simp [lW]
   refine Sr<|Dd (by exact aA rfl rfl lM rfl (jM g (jE s k) true 92 (by omega)))<|Zz<|Rg<|Dd aD<|Dd (by exact aA rfl rfl lM rfl (jM (g+1) (jE s k++[92]) true (lH s k) (by rw [aIs,List.length_singleton];omega)))<|Zz<|Rg<|Dd eL<|Dd aD<|Zz ?_;refine⟨k+1,g+1+1,by omega,by omega,?_⟩;show cY _ _ _ _ (uC (g+1+1) (jE s (k+1)) true);rw [hE];exact(cY.wk (Eb<|Ea<|Eb<|Eb<|trivial) (Hc (iA rfl rfl)<|Hc (fH _ _)<|trivial) trivial)
  have hb92:¬ lH s k=92:=by
   have h:=hc5;rw [oO,show (92:Int)=((92:Nat):Int)by rfl,GM (by decide)] at h;exact aIo h
  have hE:uC (g+1) (jE s (k+1)) true=uC (g+1) (jE s k++[lH s k]) true:=by rw [hnext,lW,aIp hb10,aIp (fun h=>h.elim hb34 hb92)]
  refine Rg<|Dd aD<|Dd (by exact aA rfl rfl lM rfl (jM g (jE s k) true (lH s k) (by omega)))<|Zz<|Rg<|Dd eL<|Dd aD<|Zz ?_;refine⟨k+1,g+1,by omega,by omega,?_⟩;show cY _ _ _ _ (uC (g+1) (jE s (k+1)) true);rw [hE];exact(cY.wk (Eb<|Ea<|Eb<|Eb<|trivial) (Hc (iA rfl rfl)<|Hc (fH _ _)<|trivial) trivial)
 have hge:k=s.size:=by have:=aIo hc1;omega
 refine aZ<|Sr<|Dd (by exact aA rfl rfl lM rfl (jM g (jE s k) true 34 (by omega)))<|Zz<|Sr<|Dd (by exact aA rfl rfl sM rfl (TX (g+1) (jE s k++[34]) true (by rw [aIs,List.length_singleton];omega)))<|Dd aO<|Zz<|aC ?_;have hres:(⟨(jE s k++[34]).toArray⟩:ByteArray)=⟨(dE s.data.toList).toArray⟩:=by
  rw [jE,dE,hge,List.take_of_length_le (by omega)];rfl
 rw [← hres];exact Rt Qq
def bS (sep:List UInt8):List (List UInt8)→List UInt8
 | []=>[]
 | x::l=>x++l.flatMap (fun y=>sep++y)
def bs (l:List ByteArray):List (List UInt8):=l.map fun s=>s.data.toList
def dH (l:List ByteArray):Nat:=(l.map ByteArray.size).sum
theorem rT {l:List ByteArray} {k:Nat} {s:ByteArray} (h:l[k]?=some s):dH (l.take (k+1))=dH (l.take k)+s.size:=by rw [List.take_add_one,h,dH,dH,List.map_append,List.sum_append];simp
theorem kZ (l:List ByteArray) (k:Nat):dH (l.take k)≤dH l:=by
 have h:dH l=dH (l.take k)+dH (l.drop k):=by
  rw [dH,dH,dH,← List.sum_append,← List.map_append,List.take_append_drop]
 omega
theorem P5 (sep:List UInt8):∀ l:List ByteArray,((bs l).flatMap (fun y=>sep++y)).length=sep.length*l.length+dH l
 | []=>by simp [bs,dH]
 | s::l=>by
  have ih:=P5 sep l;show (((s.data.toList)::bs l).flatMap (fun y=>sep++y)).length=_;rw [List.flatMap_cons,aIs,ih,aIs,aIt,Nat.mul_add,dH,dH,List.map_cons,List.sum_cons];have h2:s.data.toList.length=s.size:=by simp
  omega
def D1 (sep x:ByteArray) (l:List ByteArray) (k:Nat):List UInt8:=x.data.toList++(bs (l.take k)).flatMap (fun y=>sep.data.toList++y)
theorem W6 {sep x s:ByteArray} {l:List ByteArray} {k:Nat} (h:l[k]?=some s):D1 sep x l (k+1)=D1 sep x l k++(sep.data.toList++s.data.toList):=by rw [D1,D1,List.take_add_one,h,bs,List.map_append,List.flatMap_append];simp [bs]
theorem Z0 {l:List ByteArray} {s:ByteArray} (h:s∈l):s.size≤dH l:=by
 induction l with
 | nil=>cases h
 | cons a l ih =>
  rw [dH,List.map_cons,List.sum_cons];rcases aJD.1 h with rfl|h
  ·exact Nat.le_add_right _ _
  exact Nat.le_trans (ih h) (Nat.le_add_left _ _)
theorem P6 {sep x:ByteArray} {l:List ByteArray} {k:Nat} (hk:k≤l.length):(D1 sep x l k).length≤x.size+sep.size*l.length+dH l:=by
 rw [D1,aIs,P5,aJF,Nat.min_eq_left hk];have h1:=kZ l k;have h2:sep.data.toList.length=sep.size:=by simp
 have h3:x.data.toList.length=x.size:=by simp
 have h4:sep.size*k≤sep.size*l.length:=Nat.mul_le_mul_left _ hk;rw [h2];omega
theorem rB (l:List ByteArray) (sep:ByteArray) (H:aE) (h0:0 < sep.size) (hl:sep.size*l.length+dH l+l.length < 17592186044416):aH Tryz.prog 71 [.pv (cS l),sv sep] H (fun r H'=>r=sv ⟨(bS sep.data.toList (bs l)).toArray⟩∧H'=H):=by
 refine Pu ?_;have hml:(l.map encStr).length=l.length:=aIr _;rcases l with _|⟨x,_|⟨y,l⟩⟩
 ·refine Bd aI5 rfl aHz<|Sr<|Dd aO<|Zz<|Sq<|Sr<|Dd aD<|Dd (fK aK)<|Zz<|aF<|Sr<|Dd cI<|Da ?_;refine Cn ?_ ?_<;>intro hc1
  ·exact Sr<|Dd aO<|Zz<|aC<|Rt<|Qq
  cases hc1
 ·refine Bd aI5 rfl aHz<|Sr<|Dd aO<|Zz<|Sq<|Sr<|Dd aD<|Dd (fK aK)<|Zz<|aF<|Sr<|Dd cI<|Da ?_;refine Cn ?_ ?_<;>intro hc1
  ·cases hc1
  refine Sr<|Dd cI<|Da ?_;refine Cn ?_ ?_<;>intro hc2
  ·refine Sr<|Dd aD<|Dd (by exact dU rfl cC rfl rfl (by omega) (by exact aJC _) rfl rfl)<|Dd (fM isAgg9 (hi:=rfl))<|Dd aO<|Zz<|aC ?_;have hx:x=⟨(bS sep.data.toList (bs [x])).toArray⟩:=by simp [bS,bs]
   rw [← hx];exact Rt Qq
  cases hc2
 have hll:((x::y::l).map encStr).length=l.length+2:=by rw [hml];rfl
 have hn2:(x::y::l).length=l.length+2:=rfl;rw [hn2] at hl;have hmul:sep.size*(l.length+2)=sep.size*(l.length+1)+sep.size:=by rw [← Nat.mul_succ]
 obtain ⟨M,hMT⟩:∃ M,M=sep.size*(l.length+1):=⟨_,rfl⟩;rw [← hMT] at hmul;rw [hmul] at hl;have hdiv:sep.size+1≤9223372036854775807 / (l.length+1):=by
  rw [Nat.le_div_iff_mul_le (Nat.succ_pos _),Nat.add_mul,← hMT];omega
 have hdl:9223372036854775807 / (l.length+1)≤9223372036854775807:=Nat.div_le_self _ _;have hMp:0 < M:=by rw [hMT];exact Nat.mul_pos h0 (Nat.succ_pos _)
 have hsz:∀ k,dH ((x::y::l).take k)≤dH (x::y::l):=kZ _;refine Bd aI5 rfl aHz<|Sr<|Dd aO<|Zz<|Sq<|Sr<|Dd aD<|Dd (fK aK)<|Zz<|aF<|Sr<|Dd cI<|Da ?_;refine Cn ?_ ?_<;>intro hc1
 ·exact absurd (aIn hc1) (by rw [hll];omega)
 refine Sr<|Dd cI<|Da ?_;refine Cn ?_ ?_<;>intro hc2
 ·exact absurd (aIn hc2) (by rw [hll];omega)
 refine aB<|Sr<|Dd aO<|Zz<|Sq<|Sr<|Dd aD<|Dd (jJ underlying9)<|Dd kC<|Zz ?_;refine Cn ?_ ?_<;>intro hc3
 ·refine Sq<|Sr<|Dd aD<|Dd (jJ underlying9)<|Dd aD<|Dd (fK aK)<|Dd (by exact gC rfl rfl rfl (show IntKind.i64.wrap ((((x::y::l).map encStr).length:Int) - 1)=((l.length+1:Nat):Int)by rw [IntKind.wrap_i64,hll];omega))<|Dd (by exact FZ (r:=((9223372036854775807 / (l.length+1):Nat):Int)) rfl rfl rfl (by omega) (by rw [show (9223372036854775807:Int)=((9223372036854775807:Nat):Int)by rfl,← Int.ofNat_tdiv,IntKind.wrap_i64];omega))<|Dd wP<|Zz ?_;refine Cn ?_ ?_<;>intro hc4
  ·exact absurd (aIn hc4) (by omega)
  refine aB<|Rg<|Dd aD<|Dd aD<|Dd (jJ underlying9)<|Dd aD<|Dd (fK aK)<|Dd (by exact gC rfl rfl rfl (show IntKind.i64.wrap ((((x::y::l).map encStr).length:Int) - 1)=((l.length+1:Nat):Int)by rw [IntKind.wrap_i64,hll];omega))<|Dd (by exact F0 rfl rfl rfl (show IntKind.i64.wrap ((sep.size:Int)*((l.length+1:Nat):Int))=(M:Int)by rw [← Int.natCast_mul,← hMT,IntKind.wrap_i64];omega))<|Dd (by exact iM rfl rfl rfl (show IntKind.i64.wrap (0+(M:Int))=(M:Int)by rw [IntKind.wrap_i64];omega))<|Dd aO<|Zz<|Sq<|Sr<|Dd aD<|Dd (fK aK)<|Dd aD<|Zz<|aF ?_;refine bG (σ:=Nat) (fun k=>([(0,.pv (cS (x::y::l))),(1,sv sep),(5,iv ((M+dH ((x::y::l).take k):Nat):Int)),(39,.pv (cS (x::y::l))),(40,iv (((x::y::l).map encStr).length:Int)),(41,iv (k:Int))],[])) (fun k=>k≤l.length+2) (fun k=>l.length+2 - k) 0 (aJI _) ?_ ?_
  ·exact Wk
  intro k hk;refine Sr<|Dd dD<|Zz<|Sq ?_;refine Cn ?_ ?_<;>intro hc5
  ·have hlt:k < l.length+2:=by have:=aIn hc5;omega
   obtain ⟨s,hs⟩:=aX (show k < (x::y::l).length by omega);have hi:=bZ (f:=encStr) hs;have hst:=rT hs;have h1:=hsz (k+1);refine aB<|Sq<|aF<|Sr<|Dd (by exact dU rfl cC rfl rfl (by omega) (by exact aJC _) hi rfl)<|Dd (fM isAgg9 (hi:=hi))<|Dd aO<|Zz<|Sq<|Sr<|Dd aD<|Dd (jJ underlying9)<|Dd aD<|Dd (by exact gC rfl rfl rfl (show IntKind.i64.wrap (9223372036854775807 - ((M+dH ((x::y::l).take k):Nat):Int))=9223372036854775807 - ((M+dH ((x::y::l).take k):Nat):Int)by rw [IntKind.wrap_i64];omega))<|Dd kC<|Zz ?_;refine Cn ?_ ?_<;>intro hc6
   ·exact absurd (aIn hc6) (by omega)
   refine aB<|Rg<|Dd aD<|Dd aD<|Dd (jJ underlying9)<|Dd (by exact iM rfl rfl rfl (show IntKind.i64.wrap (((M+dH ((x::y::l).take k):Nat):Int)+(s.size:Int))=((M+dH ((x::y::l).take (k+1)):Nat):Int)by rw [IntKind.wrap_i64,hst];omega))<|Dd aO<|Zz<|Rg<|Dd eL<|Dd aD<|Zz ?_;exact⟨k+1,by omega,by omega,Wk⟩
  have hge:k=l.length+2:=by have:=aIo hc5;omega
  have hall:dH ((x::y::l).take k)=dH (x::y::l):=by rw [hge,← hn2,List.take_length]
  have h2:=hsz k;refine aZ<|Sr<|Dd (by exact bJ (id:=2001) rfl TM rfl rfl)<|Zz<|Sr<|Dd aD<|Dd (by exact aA rfl rfl call127 rfl (aDg (M+dH ((x::y::l).take k)) (by omega) (by omega)))<|Zz<|Sr<|Dd aD<|Dd (by exact dU rfl cC rfl rfl (by omega) (by exact aJC _) rfl rfl)<|Dd (fM isAgg9 (hi:=rfl))<|Dd (by exact aA rfl rfl w5 rfl (mO 1 [] true x (by show 0+_ < _;have:=kZ (x::y::l) 1;simp [dH] at this hl;omega)))<|Zz<|Sq<|Sr<|Dd aD<|Dd (by exact iY (l:=1) (h:=((x::y::l).map encStr).length) (rows':=(y::l).map encStr) rfl cC rfl (sz:=1) (by intro r hr;obtain ⟨q,_,rfl⟩:=List.mem_map.1 hr;rfl) rfl rfl (by rw [hll];omega) (aIx _) (by rw [List.take_length];rfl))<|Dd (fK aK)<|Dd aD<|Zz<|aF ?_;have hyl:((y::l).map encStr).length=l.length+1:=by rw [aIr];rfl
  refine gU (fun(q g:Nat)=>([(1,sv sep),(8,.ref 2001 0 0 0),(63,.pv (cS (y::l))),(64,iv (((y::l).map encStr).length:Int)),(65,iv (q:Int))],uC g (D1 sep x (y::l) q) true)) (fun q g=>q≤l.length+1) (fun q g=>l.length+1 - q) 0 2 (aJI _) ?_ ?_
  ·show cY _ _ _ _ (uC (1+1) ([]++x.data.toList++[]) true);rw [List.append_nil];exact(cY.wk (Eb<|Ea<|Eb<|Eb<|Eb<|trivial) (Hc (iA rfl rfl)<|Hc (fH _ _)<|trivial) trivial)
  intro q g hq;refine Sr<|Dd dD<|Zz<|Sq ?_;refine Cn ?_ ?_<;>intro hc7
  ·have hlt:q < l.length+1:=by have:=aIn hc7;omega
   obtain ⟨s,hs⟩:=aX (show q < (y::l).length by rw [aIt];exact hlt);have hi:=bZ (f:=encStr) hs;have hpl:=P6 (sep:=sep) (x:=x) (l:=y::l) (k:=q) (Nat.le_of_lt hlt);have hnx:=W6 (sep:=sep) (x:=x) hs;have hss:=Z0 (aJB hs);have hxs:x.size+dH (y::l)=dH (x::y::l):=by simp [dH]
   have hll2:(y::l).length=l.length+1:=rfl;rw [hll2,← hMT] at hpl;refine aB<|Sq<|aF<|Sr<|Dd (by exact dU rfl cC rfl rfl (by omega) (by exact aJC _) hi rfl)<|Dd (fM isAgg9 (hi:=hi))<|Dd aO<|Zz<|Sr<|Dd aD<|Dd (by exact aA rfl rfl w5 rfl (mO g (D1 sep x (y::l) q) true sep (by omega)))<|Zz<|Rg<|Dd aD<|Dd (by exact aA rfl rfl w5 rfl (mO (g+1) (D1 sep x (y::l) q++sep.data.toList) true s (by rw [aIs];show _+sep.size+_ < _;omega)))<|Zz<|Rg<|Dd eL<|Dd aD<|Zz ?_;refine⟨q+1,g+1+1,by omega,by omega,?_⟩;show cY _ _ _ _ (uC (g+1+1) (D1 sep x (y::l) (q+1)) true);rw [hnx,← List.append_assoc];exact(cY.wk (Eb<|Ea<|Eb<|Eb<|Eb<|trivial) (Hc (iA rfl rfl)<|Hc (fH _ _)<|trivial) trivial)
  have hge2:q=l.length+1:=by have:=aIo hc7;omega
  have hpl:=P6 (sep:=sep) (x:=x) (l:=y::l) hq;have hll2:(y::l).length=l.length+1:=rfl;have hxs:x.size+dH (y::l)=dH (x::y::l):=by simp [dH]
  rw [hll2,← hMT] at hpl;refine aZ<|Sr<|Dd (by exact aA rfl rfl sM rfl (TX g (D1 sep x (y::l) q) true (by omega)))<|Dd aO<|Zz<|aC ?_;have hres:(⟨(D1 sep x (y::l) q).toArray⟩:ByteArray)=⟨(bS sep.data.toList (bs (x::y::l))).toArray⟩:=by
   rw [D1,hge2,← hll2,List.take_length];rfl
  rw [← hres];exact Rt Qq
 exact absurd (aIo hc3) (by omega)
def nU (l:List ByteArray):List (List AV):=l.map fun s=>[.pv (.str s)]
theorem C5 (l:List ByteArray):(nU l).length=l.length:=aIr _
theorem C6 (l:List ByteArray) (s:ByteArray):nU l++[[.pv (.str s)]]=nU (l++[s]):=by rw [nU,nU,List.map_append];rfl
theorem fB (H:aE) (l:List ByteArray):∀ r∈nU l,∀ a∈r,Clo H a:=by intro r hr a ha;obtain ⟨b,_,rfl⟩:=List.mem_map.1 hr;rw [aIu] at ha;subst ha;simp
theorem rF (l:List ByteArray):nU l=(l.map encStr).map (·.map .pv):=by rw [List.map_map];rfl
def gF (t:GTag):ByteArray:=t.key++⟨#[61]⟩++⟨(dE t.val.data.toList).toArray⟩
def wK (L:List ByteArray):aE:=[(903,⟨L.length,1,9,nU L⟩),(4,bx 1 46 [.osl 903 L.length 0 L.length])]
theorem aEs (L:List ByteArray) (s:ByteArray):wK (L++[s])=[(903,⟨L.length+1,1,9,nU (L++[s])⟩),(4,bx 1 46 [.osl 903 (L.length+1) 0 (L.length+1)])]:=by simp [wK]
theorem m6 (s:ByteArray):(⟨(dE s.data.toList).toArray⟩:ByteArray).size≤2*s.size+2:=by
 show (dE s.data.toList).length≤_;have:=QP s.data.toList;have h:s.data.toList.length=s.size:=by simp
 rw [dE,aIt,aIs,List.length_singleton];omega
theorem aAz {i j:Nat} {a b a' b':Ob} {id:Nat} (h:(aE.get [(i,a),(j,b)] id).isSome=true):(aE.get [(i,a'),(j,b')] id).isSome=true:=by
 simp only [aE.get] at h ⊢;cases e1:Nat.beq i id with
 | true=>rfl
 | false =>
  rw [e1] at h;cases e2:Nat.beq j id with
  | true=>rfl
  | false=>rw [e2] at h;exact h
theorem aCa (t:GTag) (L:List ByteArray) (hk:t.key.size < 1099511627776) (hv:t.val.size < 1099511627776) (hL:L.length < 1099511627776) :
  aH Tryz.prog 171 [av (aQ t),.ref 4 0 0 0] (wK L) (fun r H'=>r=.tup []∧H'=wK (L++[gF t])):=by
 rw [aEs];have hq:=m6 t.val;have h61:(⟨#[61]⟩:ByteArray).size=1:=rfl;have hks:(t.key++⟨#[61]⟩:ByteArray).size=t.key.size+1:=by rw [ByteArray.size_append];rfl
 refine Bd func171 rfl ntmps171<|Sr<|Dd (by exact cE (id:=2) rfl rfl rfl rfl rfl)<|Zz<|aU follows<|Cr [4] (fun _ h=>lh aV h)<|Cr [2] (fun _ h=>fh jD h)<|Cr [2] (fun _ h=>lh isAgg9 h)<|Cr [] (fun H1 hH=>by exact cP rfl rfl rfl (by omega) rfl)<|Cr [2] (fun _ h=>fh kU h)<|Cr [2] (fun _ h=>lh isAgg9 h)<|Cr [] (fun H1 hH=>by exact aA rfl rfl call69 rfl (UC t.val _ (by omega)))<|Cr [] (fun H1 hH=>by exact cP rfl rfl rfl (by omega) rfl)<|Cr [] (fun H1 hH=>by exact aT [[.str (gF t)]] rfl cC rfl rfl rfl rfl rfl (by intro r hr;rw [aIu] at hr;subst hr;rfl))<|Cp [903] (fun H1 hH=>by exact c6 (ps:=[[.str (gF t)]]) rfl cC E4 rfl ((hH _ rfl).trans rfl) rfl rfl rfl (C5 L) rfl (by intro r hr;rw [aIu] at hr;subst hr;rfl) (m:=1) rfl (by omega) rfl (C6 L (gF t))) ?_;refine Cp [4] (fun H1 hH=>by exact cV rfl sizeOf46 rfl rfl rfl rfl ((hH _ rfl).trans rfl) rfl rfl rfl)<|bM<|Kr ?_;exact qT (H':=[(903,⟨L.length+1,1,9,nU (L++[gF t])⟩),(4,bx 1 46 [.osl 903 (L.length+1) 0 (L.length+1)])]) (.inl rfl) rfl (Fin.wk (by(simp;done)) (Hc (fB _ _)<|Ha<|trivial) ⟨rfl,rfl,trivial⟩) ⟨rfl,rfl⟩
def EY (l:List GTag):ByteArray:=⟨(bS [32] (bs (l.map gF))).toArray⟩
def gY (l:List GTag):ByteArray×Int:=if nM l then(if 20000 < (EY l).size then(aP,2)else(EY l,0))else(aP,1)
theorem LK {t:GTag} (hk:t.key.size≤24) (hv:t.val.size≤200):(gF t).size≤427:=by have hq:=m6 t.val;have h61:(⟨#[61]⟩:ByteArray).size=1:=rfl;rw [gF,ByteArray.size_append,ByteArray.size_append,h61];omega
theorem dK {s:ByteArray} (h:bU s=true):s.size≤24:=by rw [bU,aJA,aJA,aIy] at h;omega
theorem lQ {l:List ByteArray} {n:Nat} (h:∀ s,s∈l→s.size≤n):dH l≤n*l.length:=by
 induction l with
 | nil=>exact aJI _
 | cons a l ih =>
  rw [dH,List.map_cons,List.sum_cons,aIt,Nat.mul_succ];have h1:=h a List.mem_cons_self;have h2:=ih (fun s hs=>h s (List.mem_cons_of_mem _ hs));rw [dH] at h2;omega
theorem aGg {L:List ByteArray} {K:aE} {r:ByteArray} (h:aH Tryz.prog 71 [.pv (cS L),sv ⟨#[32]⟩] [] (fun x H'=>x=sv r∧H'=[])):aH Tryz.prog 71 [.osl 903 L.length 0 L.length,sv ⟨#[32]⟩] ((903,⟨L.length,1,9,nU L⟩)::K) (fun x H'=>x=sv r∧H'=(903,⟨L.length,1,9,nU L⟩)::K):=by
 exact RO.calls (RO.lend (id:=903) (H1:=[]) (L.map encStr) (RO.of h rfl) (get_cons_same _ _ _) (rF L) rfl
  (dC (.osl (by rw [aJJ,List.drop_zero,List.take_of_length_le (by rw [aIr];exact aIx _)])) (dC (.same (by simp)) oK)) (fun _ _ h=>by cases h) (fun _ _ h=>by cases h) rfl)
theorem KN (l:List GTag) (H:aE) (hl:rW l):aH Tryz.prog 123 [.pv (iL l)] H (fun r H'=>r=.tup [sv (gY l).1,iv (gY l).2]∧H'=H):=by
 refine Pu ?_;have hml:(l.map aQ).length=l.length:=aIr _;refine Bd func123 rfl ntmps123<|Sr<|Dd aO<|Dd aO<|Zz<|Sq<|Sr<|Dd aD<|Dd (by exact aA rfl rfl YI rfl (vL l _ hl))<|Dd jU<|Zz ?_;refine Cn ?_ ?_<;>intro hc1
 ·have hg:nM l=false:=by rw [← aJK];exact hc1
  have e:gY l=(aP,1):=by rw [gY,aIp (by rw [hg];decide)]
  rw [e];exact Sr<|Dd aO<|Dd aO<|Zz<|aC<|Ru<|Qq
 have hg:nM l=true:=by rw [← Bool.not_eq_false'];exact hc1
 obtain ⟨g1,g2,g3⟩:=rL.1 hg;refine aB<|Sr<|Dd (by exact bJ (id:=4) rfl aGR rfl rfl)<|Zz<|Sr<|Dd (by exact fU rfl rfl)<|Dd aO<|Zz<|Sq<|Sq ?_;refine iB.ent (E':=[(0,.pv (iL l)),(4,.ref 4 0 0 0),(5,.clo 171 [.ref 4 0 0 0])]) (H':=wK []) (cY.nz 903 1 9 rfl rfl ⟨⟨_,rfl,(by exact Nz.same (by(simp;done)))⟩,⟨_,rfl,(by exact Nz.same (by(simp;rfl)))⟩,⟨_,rfl,(by exact Nz.same (by(simp;rfl)))⟩,trivial⟩ ⟨⟨_,rfl,rfl,rfl,rfl,(by exact .inr ⟨_,_,rfl,rfl,(by repeat(first|exact trivial|refine⟨(by exact Nz.own),?_⟩))⟩)⟩,trivial⟩ trivial) ?_;refine Rg<|Dd aD<|Dd (fK cK)<|Dd aD<|Zz<|aF ?_;refine bG (σ:=Nat) (fun k=>([(4,.ref 4 0 0 0),(5,.clo 171 [.ref 4 0 0 0]),(13,.pv (iL l)),(14,iv ((l.map aQ).length:Int)),(15,iv (k:Int))],wK ((l.take k).map gF))) (fun k=>k≤l.length) (fun k=>l.length - k) 0 (aJI _) ?_ ?_
 ·exact(cY.wk (Ea<|Ea<|Eb<|Eb<|Eb<|trivial) (Hc (fB _ _)<|Ha<|trivial) trivial)
 intro k hk;refine Sr<|Dd dD<|Zz<|Sq ?_;refine Cn ?_ ?_<;>intro hc2
 ·have hlt:k < l.length:=by have:=aIn hc2;omega
  obtain ⟨t,ht⟩:=aX hlt;have hi:=bZ (f:=aQ) ht;obtain ⟨b1,b2,b3⟩:=g1 t (aJB ht);have b4:=dK b1;have hLl:((l.take k).map gF).length < 1099511627776:=by rw [aIr,aJF];omega
  have hnx:(l.take (k+1)).map gF=(l.take k).map gF++[gF t]:=by rw [List.take_add_one,ht,List.map_append];rfl
  refine aB<|Sq<|aF<|Sr<|Dd (by exact dU rfl lJ rfl rfl (by omega) (by exact aJC _) hi rfl)<|Dd (by exact bQ rfl fX dR rfl hi (by simp only [Zl,aQ];rfl) rfl)<|Dd (by exact bJ (id:=7) rfl OH rfl rfl)<|Uu (fP dR)<|Zz<|Rg<|Dd aD<|Dd (qZ fX dR)<|Dd (by exact eT rfl rfl rfl (dN.clo call171 (aH.frame (aCa t ((l.take k).map gF) (by omega) (by omega) hLl) (aCf.sub ⟨rfl,rfl,trivial⟩) (dF.ofL ⟨(by exact fB _ _),(by(simp;rfl)),trivial⟩) (by simp;rfl) (fun id h=>.inl (aAz h)))))<|Zz<|Rg<|Dd eL<|Dd aD<|Zz ?_;refine⟨k+1,by omega,by omega,?_⟩;show cY _ _ _ _ (wK ((l.take (k+1)).map gF));rw [hnx];exact(cY.wk (Ea<|Ea<|Eb<|Eb<|Eb<|trivial) (Hc (fB _ _)<|Ha<|trivial) trivial)
 have hge:k=l.length:=by have:=aIo hc2;omega
 subst hge;have hsb:dH (l.map gF)≤427*l.length:=by
  have:=lQ (l:=l.map gF) (n:=427) (fun s hs=>by
   obtain ⟨t,ht,rfl⟩:=List.mem_map.1 hs;obtain ⟨b1,b2,b3⟩:=g1 t ht;exact LK (dK b1) b3)
  rwa [aIr] at this
 have hj:aH Tryz.prog 71 [.pv (cS (l.map gF)),sv ⟨#[32]⟩] [] (fun x H'=>x=sv (EY l)∧H'=[]):=rB (l.map gF) ⟨#[32]⟩ [] (by decide) (by rw [aIr];show 1*_+_+_ < _;omega);have hj2:=aGg (L:=l.map gF) (K:=[(4,bx 1 46 [.osl 903 (l.map gF).length 0 (l.map gF).length])]) hj;rw [List.take_length];refine aZ<|Sr<|Dd (cA aV)<|Dd (by exact aA rfl rfl pL rfl (hj2))<|Dd aO<|Zz<|Sq<|Sr<|Dd aD<|Dd (jJ underlying9)<|Dd kC<|Zz ?_;refine Cn ?_ ?_<;>intro hc3
 ·have e:gY l=(aP,2):=by
   rw [gY,aIq hg,aIq (by have:=aIn hc3;omega)]
  rw [e];exact Sr<|Dd aO<|Dd aO<|Zz<|aC<|Ru<|Qq
 have e:gY l=(EY l,0):=by
  rw [gY,aIq hg,aIp (by have:=aIo hc3;omega)]
 rw [e];exact aB<|Sr<|Dd aD<|Dd aO<|Dd aO<|Zz<|aC<|Ru<|Qq
def nA (c:UInt8):Option UInt8:=if c=92 then some 92 else if c=34 then some 34 else if c=110 then some 10 else none
def kP:List UInt8→Option (List UInt8×Nat)
 | []=>none
 | [c]=>if c=34 then some ([],1)else none
 | c::e::r=>if c=34 then some ([],1)else if c=10 then none else if c=92 then(nA e).bind fun b=>(kP r).map fun p=>(b::p.1,p.2+2)else(kP (e::r)).map fun p=>(c::p.1,p.2+1)
def sC (s:ByteArray):ByteArray×Int:=match kP (s.data.toList.drop 1)with
 | some (d,n)=>(⟨d.toArray⟩,((n+1:Nat):Int))
 | none=>(aP,0)
theorem vE {r:List UInt8}:kP (34::r)=some ([],1):=by cases r<;>rfl
theorem C7 {r:List UInt8}:kP (10::r)=none:=by cases r<;>rfl
theorem pM {r:List UInt8} {e:UInt8}:kP (92::e::r)=(nA e).bind fun b=>(kP r).map fun p=>(b::p.1,p.2+2):=rfl
theorem vF {c:UInt8} {r:List UInt8} (h1:c≠34) (h2:c≠10) (h3:c≠92):kP (c::r)=(kP r).map fun p=>(c::p.1,p.2+1):=by
 cases r with
 | nil =>
  show (if c=34 then some ([],1)else none)=_;rw [aIp h1];rfl
 | cons e r=>rw [kP,aIp h1,aIp h2,aIp h3]
def rQ (o:Option (List UInt8×Nat)) (w:List UInt8) (i:Nat):ByteArray×Int:=match o with
 | some (d,n)=>(⟨(w++d).toArray⟩,((i+n:Nat):Int))
 | none=>(aP,0)
theorem uH {o:Option (List UInt8×Nat)} {w:List UInt8} {b:UInt8} {i k:Nat}:rQ (o.map fun p=>(b::p.1,p.2+k)) w i=rQ o (w++[b]) (i+k):=by
 cases o with
 | none=>rfl
 | some p=>simp only [rQ,Option.map_some,List.append_assoc,List.singleton_append];congr 2;omega
theorem sD {s:ByteArray} {i:Nat} (h:i < s.size):s.data.toList.drop i=lH s i::s.data.toList.drop (i+1):=by
 have hk:i < s.data.toList.length:=by simpa using h
 rw [List.drop_eq_getElem_cons hk,lH,aIw hk];rfl
theorem u3 {s:ByteArray} {i:Nat} (h:s.size≤i):s.data.toList.drop i=[]:=List.drop_eq_nil_of_le (by simpa using h)
theorem u6 {s:ByteArray} {i n:Nat} (hn:n < 256) {b:Bool} (h:decide (bP s i=(n:Int))=b):decide (lH s i=UInt8.ofNat n)=b:=by rw [← h,oO,GM hn]
theorem Y8 (c:UInt8):(Lib.indexByte (⟨#[92,34,110]⟩:ByteArray).data.toList ((c.toNat:Int).toNat.toUInt8) = -1∧nA c=none)∨∃ k:Nat,k < 3∧Lib.indexByte (⟨#[92,34,110]⟩:ByteArray).data.toList ((c.toNat:Int).toNat.toUInt8)=(k:Int)∧nA c=some (lH ⟨#[92,34,10]⟩ k):=by
 have h0:((c.toNat:Int).toNat.toUInt8)=c:=by simp
 rw [h0];by_cases h1:c=92
 ·subst h1;exact .inr ⟨0,by decide,by decide,by decide⟩
 by_cases h2:c=34
 ·subst h2;exact .inr ⟨1,by decide,by decide,by decide⟩
 by_cases h3:c=110
 ·subst h3;exact .inr ⟨2,by decide,by decide,by decide⟩
 refine .inl ⟨?_,by rw [nA,aIp h1,aIp h2,aIp h3]⟩;have e1:((92:UInt8) == c)=false:=by simp [Ne.symm h1]
 have e2:((34:UInt8) == c)=false:=by simp [Ne.symm h2]
 have e3:((110:UInt8) == c)=false:=by simp [Ne.symm h3]
 simp only [Lib.indexByte,e1,e2,e3];rfl
theorem RN (s:ByteArray) (H:aE) (hs:s.size < 1099511627776):aH Tryz.prog 186 [sv s] H (fun r H'=>r=.tup [sv (sC s).1,iv (sC s).2]∧H'=H):=by
 refine Pu ?_;have hG:sC s=rQ (kP (s.data.toList.drop 1)) [] 1:=by
  unfold sC rQ;cases kP (s.data.toList.drop 1)with
  | none=>rfl
  | some p =>
   show ((⟨p.1.toArray⟩:ByteArray),((p.2+1:Nat):Int))=((⟨([]++p.1).toArray⟩:ByteArray),((1+p.2:Nat):Int));rw [List.nil_append,Nat.add_comm]
 obtain ⟨res,hres⟩:∃ res,res=sC s:=⟨_,rfl⟩;rw [← hres] at hG ⊢;refine Bd func186 rfl ntmps186<|Sr<|Dd aO<|Dd aO<|Zz<|Sr<|Dd (by exact bJ (id:=2001) rfl TM rfl rfl)<|Zz<|Sq<|Sq ?_;refine iB.ent (E':=[(0,sv s),(4,.ref 2001 0 0 0)]) (H':=uC 0 [] false) (cY.bld0 ⟨⟨_,rfl,.same (by simp)⟩,⟨_,rfl,.same (by simp;rfl)⟩,trivial⟩) ?_;refine Rg<|Dd aO<|Zz<|aF ?_;refine X3 (fun(i g:Nat) (w:List UInt8) (u:Bool)=>([(0,sv s),(4,.ref 2001 0 0 0),(5,iv (i:Int))],uC g w u)) (fun i g w u=>w.length≤i∧i < 2199023255552∧res=rQ (kP (s.data.toList.drop i)) w i) (fun i g w u=>s.size+1 - i) 1 0 [] false ⟨aJI _,by decide,hG⟩ ?_ ?_
 ·exact(cY.wk (Eb<|Ea<|Eb<|trivial) (Hc (iA rfl rfl)<|Hc (fH _ _)<|trivial) trivial)
 rintro i g w u ⟨hwl,hib,hinv⟩;refine Sq<|Sr<|Dd aD<|Dd aD<|Dd (jJ underlying9)<|Dd dD<|Zz ?_;refine Cn ?_ ?_<;>intro hc1
 ·have hlt:i < s.size:=by have:=aIn hc1;omega
  have hd:=sD hlt;refine aB<|Sq<|aF<|Sr<|Dd aD<|Dd aD<|Dd (by exact cF rfl underlying9 rfl rfl (by omega) (by exact aJC _) (by omega) rfl)<|Dd aO<|Zz<|Sr<|Dd aD<|Zz<|aF<|Sr<|Dd cI<|Da ?_;refine Cn ?_ ?_<;>intro hc2
  ·have hb:lH s i=34:=aIn (u6 (n:=34) (by decide) hc2);have hr:res=(⟨w.toArray⟩,((i+1:Nat):Int)):=by rw [hinv,hd,hb,vE,rQ,List.append_nil]
   rw [hr];exact Sr<|Dd (by exact aA rfl rfl sM rfl (TX g w u (by omega)))<|Dd aD<|Dd eL<|Dd aO<|Dd aO<|Zz<|aC<|Ru<|Qq
  have hb34:lH s i≠34:=aIo (u6 (n:=34) (by decide) hc2);refine Sr<|Dd cI<|Da ?_;refine Cn ?_ ?_<;>intro hc3
  ·have hb:lH s i=10:=aIn (u6 (n:=10) (by decide) hc3);have hr:res=(aP,0):=by rw [hinv,hd,hb,C7,rQ]
   rw [hr];exact Sr<|Dd aO<|Dd aO<|Zz<|aC<|Ru<|Qq
  have hb10:lH s i≠10:=aIo (u6 (n:=10) (by decide) hc3);refine Sr<|Dd cI<|Da ?_;refine Cn ?_ ?_<;>intro hc4
  ·have hb:lH s i=92:=aIn (u6 (n:=92) (by decide) hc4);refine Sr<|Dd aD<|Dd eL<|Dd aO<|Zz<|Sr<|Dd aO<|Zz<|Sq<|Sr<|Dd aD<|Dd aD<|Dd (jJ underlying9)<|Dd dD<|Zz ?_;refine Cn ?_ ?_<;>intro hc5
   ·have hlt2:i+1 < s.size:=by have:=aIn hc5;omega
    have hd2:=sD hlt2;rcases Y8 (lH s (i+1))with⟨x1,x2⟩|⟨q,hq,x1,x2⟩
    ·have hr:res=(aP,0):=by rw [hinv,hd,hb,hd2,pM,x2];rfl
     have hneg:Lib.indexByte (⟨#[92,34,110]⟩:ByteArray).data.toList (bP s (i+1)).toNat.toUInt8 = -1:=x1;rw [hr];refine Rg<|Dd aD<|Dd aD<|Dd (by exact cF rfl underlying9 rfl rfl (by omega) (by exact aJC _) (by omega) rfl)<|Dd (by exact aA rfl rfl C0 rfl (p9 _ _ _))<|Dd aO<|Zz<|Sq<|Sr<|Dd aD<|Dd dD<|Zz ?_;refine Cn ?_ ?_<;>intro hc6
     ·exact Sr<|Dd aO<|Dd aO<|Zz<|aC<|Ru<|Qq
     exact absurd (aIo hc6) (by rw [hneg];decide)
    have hpos:Lib.indexByte (⟨#[92,34,110]⟩:ByteArray).data.toList (bP s (i+1)).toNat.toUInt8=(q:Int):=x1;have hq3:q < (⟨#[92,34,10]⟩:ByteArray).size:=hq;refine Rg<|Dd aD<|Dd aD<|Dd (by exact cF rfl underlying9 rfl rfl (by omega) (by exact aJC _) (by omega) rfl)<|Dd (by exact aA rfl rfl C0 rfl (p9 _ _ _))<|Dd aO<|Zz<|Sq<|Sr<|Dd aD<|Dd dD<|Zz ?_;refine Cn ?_ ?_<;>intro hc7
    ·exact absurd (aIn hc7) (by rw [hpos];omega)
    refine aB<|Rg<|Dd aD<|Dd (by exact cF rfl underlying9 rfl rfl (by rw [hpos];omega) (by rw [hpos];exact aJC _) hq3 rfl)<|Dd (by exact aA rfl rfl lM rfl (jM g w u (lH ⟨#[92,34,10]⟩ q) (by omega)))<|Zz<|Rg<|Dd aD<|Dd eL<|Da ?_;refine⟨i+1+1,g+1,w++[lH ⟨#[92,34,10]⟩ q],true,⟨by rw [aIs,List.length_singleton];omega,by omega,?_⟩,by omega,(cY.wk (Eb<|Ea<|Eb<|trivial) (Hc (iA rfl rfl)<|Hc (fH _ _)<|trivial) trivial)⟩;rw [hinv,hd,hb,hd2,pM,x2];exact uH
   have hge:s.size≤i+1:=by have:=aIo hc5;omega
   have hr:res=(aP,0):=by rw [hinv,hd,hb,u3 hge];rfl
   rw [hr];refine aB<|Sq<|Sr<|Dd aD<|Dd dD<|Zz ?_;refine Cn ?_ ?_<;>intro hc8
   ·exact Sr<|Dd aO<|Dd aO<|Zz<|aC<|Ru<|Qq
   cases hc8
  have hb92:lH s i≠92:=aIo (u6 (n:=92) (by decide) hc4);refine Rg<|Dd aD<|Dd (by exact aA rfl rfl lM rfl (jM g w u (lH s i) (by omega)))<|Zz<|Rg<|Dd aD<|Dd eL<|Da ?_;refine⟨i+1,g+1,w++[lH s i],true,⟨by rw [aIs,List.length_singleton];omega,by omega,?_⟩,by omega,(cY.wk (Eb<|Ea<|Eb<|trivial) (Hc (iA rfl rfl)<|Hc (fH _ _)<|trivial) trivial)⟩;rw [hinv,hd,vF hb34 hb10 hb92,uH]
 have hge:s.size≤i:=by have:=aIo hc1;omega
 have hr:res=(aP,0):=by rw [hinv,u3 hge];rfl
 rw [hr];exact aZ<|Sr<|Dd aO<|Dd aO<|Zz<|aC<|Ru<|Qq
end Go.Proofs.YtlnfjkdacimblaaGreatDoor
namespace Go.Abs
theorem gT {P:Program} {G0:aE} {N:Nat} {Q:Exit→dG→aE→Prop} {E:dG} {H:aE} {x y:Code} {α:Type} (S:α→dG×aE) (J:α→Prop)
  (h:iB P G0 N x (zU (fun E1 H1=>∃ a,J a∧cY G0 E1 H1 (S a).1 (S a).2) Q) E H) (h':∀ a,J a→iB P G0 N y Q (S a).1 (S a).2):iB P G0 N (.seq x y) Q E H :=
 CQ (h.mono fun e E1 H1 q=>by
  cases e with
  | normal =>
   obtain ⟨a,ha,he⟩:=q;exact iB.ent he (h' a ha)
  | _=>exact q)
theorem u0 {i:Nat} {o:Ob} {K:aE}:∀ (D:aE),(∀ p∈D,p.1=i)→∀ j,aE.get ((i,o)::K) j=aE.get ((i,o)::(D++K)) j:=by
 intro D hD j;by_cases e:i=j
 ·subst e;simp [aE.get,jR]
 have h:aE.get D j=none:=by
  cases hg:aE.get D j with
  | none=>rfl
  | some x=>exact absurd (hD _ (d6 hg)).symm e
 rw [get_cons_other _ _ (Ne.symm e),get_cons_other _ _ (Ne.symm e),jQ,h]
theorem gG {H:aE} {x:Go.Loop} {E0:dG} (h:∀ p∈E0,Clo H p.2):∀ r∈(LR x E0).rows,∀ a∈r,Clo H a:=by
 intro r hr a ha;simp only [LR,aJD,aJH,or_false] at hr;rcases hr with rfl|rfl
 ·rw [aIu] at ha;subst ha;simp
 obtain ⟨p,hp,rfl⟩:=List.mem_map.1 ha;exact h p hp
end Go.Abs
namespace Go.Proofs.YtlnfjkdacimblaaGreatDoor
open Go.Proofs.Tryz
open Go.Abs
def kG (s:ByteArray) (i:Nat):Int:=if i < s.size then sF (bP s i)else 0
def tS (s:ByteArray):Ob:=bx 1 9 [sv s]
def tC:Ob:=bx 256 214 qM
def tA:Ob:=bx 1 216 [.clo 184 [.ref 921 0 0 0,.ref 923 0 0 0]]
theorem aGA (s:ByteArray) (i:Nat) (H:aE) (h1:H.get 921=some (tS s)) (h2:H.get 923=some tC) (hi:i < 4611686018427387904) (hs:s.size < 4611686018427387904) :
  aH Tryz.prog 184 [iv (i:Int),.ref 921 0 0 0,.ref 923 0 0 0] H (fun r H'=>r=.pv (.int .u8 (kG s i))∧H'=H):=by
 refine Bd func184 rfl ntmps184<|Sr<|Dd aO<|Zz<|Sq<|Sr<|Dd aD<|Dd (by exact aR rfl isAgg9 rfl h1 rfl rfl rfl)<|Dd (jJ underlying9)<|Dd wP<|Zz ?_;refine Cn ?_ ?_<;>intro hc1
 ·have e:kG s i=0:=by rw [kG,aIp (by have:=aIn hc1;omega)]
  rw [e];refine Sr<|Dd aO<|Zz<|aC ?_;refine cZ (H':=H) (.inr rfl) rfl (aN rfl) Fin.refl ?_;exact Qq
 have hlt:i < s.size:=by have:=aIo hc1;omega
 have e:kG s i=sF (bP s i):=by rw [kG,aIq hlt]
 rw [e];refine aB<|Sr<|Dd (by exact aR rfl isAgg9 rfl h1 rfl rfl rfl)<|Dd aD<|Dd (by exact cF rfl underlying9 rfl rfl (by omega) (by exact aJC _) (by omega) rfl)<|Dd (by exact fQ (m:=(bP s i).toNat) (k2:=(bP s i).toNat) rfl fV dY rfl h2 rfl rfl (u4 s i) rfl (u5 s i) (by omega))<|Dd (by exact aR rfl N5 rfl h2 rfl rfl (aE9 s i))<|Dd aO<|Zz<|aC ?_;refine cZ (H':=H) (.inr rfl) rfl (aN rfl) Fin.refl ?_;exact Qq
theorem OS (s:ByteArray) (H:aE) (h1:H.get 921=none) (h2:H.get 923=none) (h3:H.get 924=none) (hc:dF H) :
  aH Tryz.prog 135 [sv s] H (fun r H'=>r=.clo 185 [.ref 921 0 0 0,.ref 924 0 0 0]∧H'=(924,tA)::(923,tC)::(921,tS s)::H):=by
 have h2':aE.get ((921,tS s)::H) 923=none:=h2;refine Bd func135 rfl ntmps135<|Sr<|Dd (by exact cE (id:=921) rfl rfl rfl rfl h1)<|Dd aO<|Zz<|Sr<|Dd (by exact aA rfl rfl call183 rfl (L0 _))<|Dd (by exact bJ (id:=923) rfl TO rfl h2)<|Uu (by exact cV rfl A8 rfl rfl rfl rfl rfl rfl rfl (by simp))<|Zz<|Sr<|Dd (by exact fU rfl rfl)<|Dd (by exact bJ (id:=924) rfl aGU rfl h3)<|Uu (fP sizeOf216)<|Zz<|Sr<|Dd (by exact fU rfl rfl)<|Dd aO<|Zz<|aC ?_;refine cZ (H':=((924,tA)::(923,tC)::(921,tS s)::H)) (.inr rfl) rfl (aN rfl) (Fin.get' (fun j=>by simp only [aE.get];cases Nat.beq 924 j<;>cases Nat.beq 923 j<;>rfl)) ?_;exact Qq
def qX (p:Nat→Bool):Nat→Nat→Nat
 | 0,i=>i
 | n+1,i=>if p i then qX p n (i+1)else i
theorem yJ (p:Nat→Bool):∀ (n i:Nat),i≤qX p n i∧qX p n i≤i+n
 | 0,i=>⟨aIx _,aIx _⟩
 | n+1,i=>by
  rw [qX]
  split
  ·have:=yJ p n (i+1);omega
  omega
theorem BL (p:Nat→Bool):∀ (n i:Nat),∀ j,i≤j→j < qX p n i→p j=true
 | 0,i,j,h1,h2=>by rw [qX] at h2;omega
 | n+1,i,j,h1,h2=>by
  rw [qX] at h2
  split at h2
  ·by_cases e:j=i
   ·subst e;assumption
   exact BL p n (i+1) j (by omega) h2
  omega
theorem rI (p:Nat→Bool):∀ (n i:Nat),qX p n i < i+n→p (qX p n i)=false
 | 0,i,h=>by rw [qX] at h;omega
 | n+1,i,h=>by
  rw [qX] at h ⊢
  split at h
  ·rename_i hp;rw [aIq hp];exact rI p n (i+1) (by omega)
  rename_i hp;rw [aIp hp];exact Bool.not_eq_true _▸hp
theorem sV (p:Nat→Bool) {n i j:Nat} (h1:i≤j) (h2:j≤i+n) (h3:∀ k,i≤k→k < j→p k=true) (h4:p j=false∨j=i+n):qX p n i=j:=by
 obtain ⟨l1,l2⟩:=yJ p n i;rcases Nat.lt_trichotomy (qX p n i) j with h|h|h
 ·have:=rI p n i (by omega);rw [h3 _ l1 h] at this;cases this
 ·exact h
 have:=BL p n i j h1 h;rcases h4 with h4|h4
 ·rw [h4] at this;cases this
 omega
def oV (s:ByteArray) (j:Nat):Bool:=decide (j < s.size)&&!decide (bP s j=10)
def pW (s:ByteArray) (j:Nat):Bool:=decide (kG s j=3)||decide (kG s j=4)||decide (kG s j=5)
def FC (s:ByteArray) (j:Nat):Bool:=decide (kG s j=4)
def yS (s:ByteArray) (i:Nat):Nat:=qX (oV s) (s.size - i) i
def vC (s:ByteArray) (i:Nat):Nat:=qX (pW s) (s.size - i) i
def AZ (s:ByteArray) (i:Nat):Nat:=qX (FC s) (s.size - i) i
structure GFound where
 kind:Int
 text:ByteArray
 pos:Nat
 err:Int
def CK (f:GFound):List PV:=[.int .i64 f.kind,.str f.text,.int .i64 f.pos,.int .i64 f.err]
def pX (i:Nat):GFound:=⟨0,aP,i,3⟩
def tV (s:ByteArray) (i j:Nat):GFound:=⟨1,s.extract i j,i,if 24 < j - i then 2 else 0⟩
def zN (s:ByteArray) (i j:Nat):GFound:=⟨2,s.extract i j,i,if decide (7 < j - i)||decide (kG s j=3)||decide (kG s j=5)then 4 else 0⟩
def xS (s:ByteArray) (i:Nat):GFound×Nat:=if 0 < (sC (s.extract i s.size)).2 then(⟨3,(sC (s.extract i s.size)).1,i,0⟩,i+(sC (s.extract i s.size)).2.toNat)else(pX i,i)
def eF (s:ByteArray) (i:Nat):Option GFound×Nat :=if kG s i=1 then(none,i+1)else if kG s i=2 then(none,yS s i)else if kG s i=3 then(some (tV s i (vC s i)),vC s i)
 else if kG s i=4 then(some (zN s i (AZ s i)),AZ s i)else if kG s i=7 then(some (xS s i).1,(xS s i).2)
 else if kG s i=6 then(some ⟨4,s.extract i (i+1),i,0⟩,i+1)else(some (pX i),i)
def iH (s:ByteArray):Nat→Nat→List GFound
 | 0,_=>[]
 | n+1,i=>if i < s.size then(match eF s i with
  | (none,j)=>iH s n j
  | (some f,j)=>f::(if f.err=0 then iH s n j else[]))else[]
theorem GK:∀ (l:List UInt8) (p:List UInt8×Nat),kP l=some p→p.2≤l.length
 | [],p,h=>by cases h
 | [c],p,h=>by
  rw [kP] at h
  split at h
  ·cases h;exact aIx _
  cases h
 | c :: e :: r, p, h => by
  rw [kP] at h
  split at h
  ·cases h;exact Nat.le_add_left _ _
  split at h
  ·cases h
  split at h
  ·cases hg:nA e with
   | none=>rw [hg] at h;cases h
   | some b =>
    rw [hg] at h;cases hu:kP r with
    | none=>rw [hu] at h;cases h
    | some q =>
     rw [hu] at h;cases h;have:=GK r q hu;show q.2+2≤r.length+1+1;omega
  cases hu:kP (e::r)with
  | none=>rw [hu] at h;cases h
  | some q =>
   rw [hu] at h;cases h;have:=GK (e::r) q hu;show q.2+1≤r.length+1+1;rw [aIt] at this;omega
theorem QG (s:ByteArray):0≤(sC s).2∧(sC s).2≤s.size:=by
 have hl:s.data.toList.length=s.size:=by simp
 unfold sC;cases hu:kP (s.data.toList.drop 1)with
 | none=>exact⟨Int.le_refl _,Int.natCast_nonneg _⟩
 | some p =>
  have:=GK _ p hu;rw [aJG,hl] at this;refine⟨Int.natCast_nonneg _,?_⟩;show ((p.2+1:Nat):Int)≤_;have h0:0 < s.size:=by
   cases h0:s.data.toList with
   | nil=>rw [h0] at hu;cases hu
   | cons a l=>rw [h0] at hl;rw [← hl];exact Nat.succ_pos _
  omega
theorem L7 (s:ByteArray) (i:Nat) (h:kG s i≠0):i < s.size:=by
 by_cases e:i < s.size
 ·exact e
 exact absurd (aIp e) h
def tF (f:GFound):Ob:=bx 4 174 ((CK f).map .pv)
theorem tM (H:aE) (f:GFound):∀ r∈(tF f).rows,∀ a∈r,Clo H a:=by intro r hr a ha;simp only [tF,bx,aIu] at hr;subst hr;obtain ⟨p,_,rfl⟩:=List.mem_map.1 ha;simp
theorem H8 {α:Type} {l m:List α} {k:Nat} {d:α} (h:l.drop k=d::m):l[k]?=some d∧l.drop (k+1)=m:=by
 refine⟨?_,?_⟩
 ·have:=congrArg (·[0]?) h
  simpa using this
 rw [← List.drop_drop,h];rfl
theorem FV {s:ByteArray} {i j:Nat} {f:GFound} (h:eF s i=(some f,j)) (he:f.err=0) (hi:i < s.size):i < j∧j≤s.size:=by
 have hfirst:∀ (p:Nat→Bool),p i=true→i < qX p (s.size - i) i∧qX p (s.size - i) i≤s.size:=fun p hp=>by
  obtain ⟨l1,l2⟩:=yJ p (s.size - i) i;refine⟨?_,by omega⟩;rcases Nat.lt_or_ge i (qX p (s.size - i) i)with h|h
  ·exact h
  have h3:=rI p (s.size - i) i (by omega);rw [show qX p (s.size - i) i=i by omega,hp] at h3;cases h3
 unfold eF at h
 split at h
 ·cases h
 split at h
 ·cases h
 split at h
 ·rename_i e3;cases h;exact hfirst _ (by rw [pW,e3];rfl)
 split at h
 ·rename_i e4;cases h;exact hfirst _ (by rw [FC,e4];rfl)
 split at h
 ·have hul:=QG (s.extract i s.size);have hexs:(s.extract i s.size).size≤s.size - i:=by rw [ByteArray.size_extract];omega
  unfold xS at h
  split at h
  ·rename_i hpos;cases h;show i < i+(sC (s.extract i s.size)).2.toNat∧i+(sC (s.extract i s.size)).2.toNat≤s.size;omega
  cases h;cases he
 split at h
 ·cases h;exact⟨Nat.lt_succ_self _,hi⟩
 cases h;cases he
theorem ltD {i n:Nat} (h:decide ((i:Int) < (n:Int))=true):i < n:=by have:=aIn h;omega
theorem DA (s:ByteArray) (fv:AV) (Hs:Nat→aE) (cont:Nat→Bool) (m:Nat) (hs:s.size < 1099511627776) (h1:∀ k,(Hs k).get 921=some (tS s)) (h2:∀ k,(Hs k).get 923=some tC) (h3:∀ k,(Hs k).get 924=some tA) (h6:∀ k,(Hs k).get 926=none) (hcl:∀ k,dF (Hs k)) (hf:∀ k,Clo (Hs k) fv)
  (hm:m≤(iH s (s.size+1) 0).length) (hall:∀ k,k+1 < m→cont k=true) (hend:m=(iH s (s.size+1) 0).length∨(0 < m∧cont (m - 1)=false))
  (hy:∀ k d,(iH s (s.size+1) 0)[k]?=some d→k < m→dN Tryz.prog fv [.agg ((CK d).map .pv)] ((926,tF d)::Hs k) (fun r H'=>r=bv (cont k)∧H'=(926,tF d)::Hs (k+1))) :
  aH Tryz.prog 185 [fv,.ref 921 0 0 0,.ref 924 0 0 0] (Hs 0) (fun r H'=>r=.tup []∧H'=Hs m):=by
 obtain ⟨ds,hds⟩:∃ ds,ds=iH s (s.size+1) 0:=⟨_,rfl⟩;rw [← hds] at hy hm hend;have hat:∀ (k i:Nat) (f:GFound),i≤s.size+1→dN Tryz.prog (.clo 184 [.ref 921 0 0 0,.ref 923 0 0 0]) [iv (i:Int)] ((926,tF f)::Hs k) (fun r H'=>r=.pv (.int .u8 (kG s i))∧H'=(926,tF f)::Hs k):=fun k i f hi =>
  dN.clo call184 (aGA s i ((926,tF f)::Hs k) (h1 k) (h2 k) (by omega) (by omega))
 have hfree:∀ (G0:aE) (k i:Nat) (E:dG) (o:Ob),G0=Hs 0→E.get 0=some fv→E.get 1=some (.ref 921 0 0 0)→E.get 2=some (.ref 924 0 0 0)→E.get 4=some (iv (i:Int)) →
   cY G0 E ((926,o)::Hs k) [(0,fv),(1,.ref 921 0 0 0),(2,.ref 924 0 0 0),(4,iv (i:Int))] (Hs k):=fun G0 k i E o hG q0 q1 q2 q4=>by
  subst hG;exact cY.front (K:=Hs k) [(926,o)] [] ⟨⟨_,q0,rfl⟩,hf k,⟨_,q1,rfl⟩,(by rw [NX];show ((Hs k).get 921).isSome=true;rw [h1];rfl),⟨_,q2,rfl⟩,(by rw [NX];show ((Hs k).get 924).isSome=true;rw [h3];rfl),⟨_,q4,rfl⟩,(by simp),trivial⟩ (by simp [h6]) (by simp) (by simp) (hcl k) (by simp [h6])
 refine Bd func185 rfl ntmps185<|X2<|Sr<|Dd aO<|Zz<|Sq<|X4<|aF ?_;refine gU (fun(i k:Nat)=>([(0,fv),(1,.ref 921 0 0 0),(2,.ref 924 0 0 0),(4,iv (i:Int))],Hs k)) (fun i k=>i≤s.size∧k≤m∧(k=0∨cont (k - 1)=true)∧∃ n,s.size - i < n∧ds.drop k=iH s n i) (fun i k=>s.size - i) 0 0 ⟨aJI _,aJI _,.inl rfl,s.size+1,Nat.lt_succ_self _,by rw [List.drop_zero,hds]⟩ ?_ ?_
 ·exact E0
 rintro i k ⟨hi,hkm,hkc,n,hn,hinv⟩;refine Sq<|Sr<|Dd aD<|Dd (by exact aR rfl isAgg9 rfl (h1 k) rfl rfl rfl)<|Dd (jJ underlying9)<|Dd dD<|Zz ?_;refine Cn ?_ ?_<;>intro hc1
 ·have hlt:i < s.size:=by have:=aIn hc1;omega
  obtain ⟨n,rfl⟩:∃ n',n=n'+1:=⟨n - 1,by omega⟩;rw [iH,aIq hlt] at hinv;refine aB<|aF<|Sr<|Dd aD<|Dd aO<|Zz<|Sr<|Dd aD<|Dd (jG zQ)<|Dd (jG aHC)<|Dd (by exact bJ (id:=926) rfl YR rfl (h6 k))<|Uu (fP A9)<|Zz ?_;refine gT (fun(a:GFound×Nat)=>([(0,fv),(1,.ref 921 0 0 0),(2,.ref 924 0 0 0),(4,iv (a.2:Int)),(6,.ref 926 0 0 0)],(926,tF a.1)::Hs k)) (fun a=>eF s i=(some a.1,a.2)) ?_ ?_
  ·refine Sq ?_;refine iB.ent (E':=[(0,fv),(1,.ref 921 0 0 0),(2,.ref 924 0 0 0),(4,iv (i:Int)),(5,iv (i:Int)),(6,.ref 926 0 0 0)]) (H':=(926,tF (pX i))::Hs k) (cY.get' ⟨⟨_,rfl,rfl⟩,⟨_,rfl,rfl⟩,⟨_,rfl,rfl⟩,⟨_,rfl,rfl⟩,⟨_,rfl,rfl⟩,⟨_,rfl,rfl⟩,trivial⟩ (fun j=>pP 926 (tF (pX i)) _ (Hs k) j)) ?_;refine Rg<|Dd (by exact aR rfl EK rfl (h3 k) rfl rfl rfl)<|Dd aD<|Dd (by exact eT rfl rfl rfl (hat k i (pX i) (by omega)))<|Zz<|aF<|Sr<|Dd cI<|Da ?_;refine Cn ?_ ?_<;>intro hc2
   ·have e1:kG s i=1:=aIn hc2;have hst:eF s i=(none,i+1):=by rw [eF,aIq e1]
    rw [hst] at hinv;refine Sr<|Dd aD<|Dd eL<|Dd aO<|Zz<|aZ ?_;exact⟨i+1,k,⟨by omega,hkm,hkc,n,by omega,hinv⟩,by omega,hfree _ _ _ _ _ rfl rfl rfl rfl rfl⟩
   have n1:kG s i≠1:=aIo hc2;refine Sr<|Dd cI<|Da ?_;refine Cn ?_ ?_<;>intro hc3
   ·have e2:kG s i=2:=aIn hc3;have hst:eF s i=(none,yS s i):=by rw [eF,aIp n1,aIq e2]
    rw [hst] at hinv;refine Sq<|aF ?_;refine bG (σ:=Nat) (fun j=>([(0,fv),(1,.ref 921 0 0 0),(2,.ref 924 0 0 0),(4,iv (j:Int))],(926,tF (pX i))::Hs k)) (fun j=>i≤j∧j≤s.size∧∀ q,i≤q→q < j→oV s q=true) (fun j=>s.size - j) i ⟨aIx _,hi,fun q h1 h2=>by omega⟩ ?_ ?_
    ·exact E0
    rintro j ⟨hij,hj,hpre⟩;refine Sq<|Sq ?_;refine bD (t:=37) (n:=11) (X:=oV s j) ?_ ?_
    ·all_goals refine Dd aD ?_
     all_goals refine Dd (by exact aR rfl isAgg9 rfl (h1 k) rfl rfl rfl)<|Dd (jJ underlying9)<|Dd dD<|Dm ?_
     all_goals refine Sp 32 (fun h32=>?_) fun h32=>?_
     all_goals try contradiction
     all_goals first|refine Fo<|Fo<|Fo<|Fo ?_|refine On (by exact aR rfl isAgg9 rfl (h1 k) rfl rfl rfl)<|On aD<|On (by exact cF rfl underlying9 rfl rfl (by omega) (by exact aJC _) (ltD h32) rfl)<|On tU ?_
     all_goals refine Dd dI<|Zz ?_
     all_goals(exact⟨⟨_,rfl,by first|(simp_all [oV];done)|(simp_all [oV];omega)⟩,rfl,rfl,rfl⟩)
    refine Cn ?_ ?_<;>intro hc4
    ·have hjs:j < s.size:=by
      have h:=hc4;rw [oV,aJA,aIy] at h;exact h.1
     refine aB<|aF<|Rg<|Dd aD<|Dd eL<|Da ?_;exact⟨j+1,⟨by omega,by omega,fun q q1 q2=>by
      by_cases e:q=j
      ·subst e;exact hc4
      exact hpre q q1 (by omega)⟩,by omega,E0⟩
    have hle:yS s i=j:=sV _ hij (by omega) hpre (.inl hc4);have hgt:i < j:=by
     rcases Nat.lt_or_ge i j with h|h
     ·exact h
     have hji:j=i:=by omega
     subst hji;rw [oV,decide_eq_true hlt,Bool.true_and,Bool.not_eq_false',aIy] at hc4;rw [kG,aIq hlt,hc4] at e2;exact absurd e2 (by decide)
    rw [hle] at hinv;refine aZ<|aZ ?_;exact⟨j,k,⟨hj,hkm,hkc,n,by omega,hinv⟩,by omega,hfree _ _ _ _ _ rfl rfl rfl rfl rfl⟩
   have n2:kG s i≠2:=aIo hc3;refine Sr<|Dd cI<|Da ?_;refine Cn ?_ ?_<;>intro hc5
   ·have e3:kG s i=3:=aIn hc5;refine Sq<|Sr<|Dd (by exact aR rfl EK rfl (h3 k) rfl rfl rfl)<|Dd aD<|Dd (by exact eT rfl rfl rfl (hat k i (pX i) (by omega)))<|Dd aO<|Zz<|aF ?_;refine bG (σ:=Nat) (fun j=>([(0,fv),(1,.ref 921 0 0 0),(2,.ref 924 0 0 0),(4,iv (j:Int)),(5,iv (i:Int)),(6,.ref 926 0 0 0),(7,.pv (.int .u8 (kG s j)))],(926,tF (pX i))::Hs k)) (fun j=>i≤j∧j≤s.size∧∀ q,i≤q→q < j→pW s q=true) (fun j=>s.size - j) i ⟨aIx _,hi,fun q h1 h2=>by omega⟩ ?_ ?_
    ·exact E0
    rintro j ⟨hij,hj,hpre⟩;refine Sq<|Sq ?_;refine bD (t:=54) (n:=12) (X:=pW s j) ?_ ?_
    ·all_goals refine Dd aD ?_
     all_goals refine Dd cI<|Dm ?_
     all_goals refine Sp 47 (fun h47=>?_) fun h47=>?_
     all_goals try contradiction
     all_goals first|refine Fo<|Fo ?_|refine On aD<|On cI ?_
     all_goals refine Dd dI<|Dm ?_
     all_goals refine Sp 51 (fun h51=>?_) fun h51=>?_
     all_goals try contradiction
     all_goals first|refine Fo<|Fo ?_|refine On aD<|On cI ?_
     all_goals refine Dd dI<|Zz ?_
     all_goals(exact⟨⟨_,rfl,by(simp only [pW, *];rfl)⟩,rfl,rfl,rfl⟩)
    refine Cn ?_ ?_<;>intro hc6
    ·have hjs:j < s.size:=L7 s j (fun e=>by rw [pW,e] at hc6;cases hc6);refine aB<|Sq<|aF<|Rg<|Dd aD<|Dd eL<|Dd aO<|Zz<|Rg<|Dd (by exact aR rfl EK rfl (h3 k) rfl rfl rfl)<|Dd aD<|Dd (by exact eT rfl rfl rfl (hat k (j+1) (pX i) (by omega)))<|Da ?_;exact⟨j+1,⟨by omega,by omega,fun q q1 q2=>by
      by_cases e:q=j
      ·subst e;exact hc6
      exact hpre q q1 (by omega)⟩,by omega,E0⟩
    have hle:vC s i=j:=sV _ hij (by omega) hpre (.inl hc6);have hst:eF s i=(some (tV s i j),j):=by rw [eF,aIp n1,aIp n2,aIq e3,hle]
    refine aZ<|Sq<|aU follows<|Cr [921] (fun H1 hH=>by exact aR rfl isAgg9 rfl ((hH _ rfl).trans (h1 k)) rfl rfl rfl)<|Cr [] (fun _ _=>aD)<|Cr [] (fun _ _=>aD)<|Cr [] (fun H1 hH=>by exact cW (l:=i) (h:=j) rfl underlying9 rfl rfl rfl (by omega) (by omega) rfl)<|Cr [926] (fun _ h=>fh lF h)<|Cr [926] (fun _ h=>fh pR h)<|Cp [926] (fun H1 hH=>by exact bW rfl sizeOf3 rfl rfl rfl ((hH _ rfl).trans rfl) rfl rfl (aJE rfl) rfl rfl)<|Cr [926] (fun _ h=>fh lF h)<|Cr [926] (fun _ h=>fh f7 h)<|Cp [926] (fun H1 hH=>by exact bW rfl sizeOf9 rfl rfl rfl ((hH _ rfl).trans rfl) rfl rfl (aJE rfl) rfl rfl)<|Cr [926] (fun _ h=>fh oL h)<|Cp [926] (fun H1 hH=>by exact bW rfl sizeOf25 rfl rfl rfl ((hH _ rfl).trans rfl) rfl rfl (aJE rfl) rfl rfl) ?_;refine bM<|Kr<|Sr<|Dd aD<|Dd aD<|Dd (by exact gC rfl rfl rfl (show IntKind.i64.wrap ((j:Int) - (i:Int))=((j - i:Nat):Int)by rw [IntKind.wrap_i64];omega))<|Dd kC<|Zz ?_;refine Cn ?_ ?_<;>intro hc7
    ·have hE:tV s i j=⟨1,s.extract i j,i,2⟩:=by rw [tV,aIq (by have:=aIn hc7;omega)]
     rw [hE] at hst;refine Rg<|Dd (bH oL)<|Uu (by exact bW rfl sizeOf25 rfl rfl rfl rfl rfl rfl (aJE rfl) rfl rfl)<|Zz ?_;exact⟨(⟨1,s.extract i j,i,2⟩,j),hst,cY.get' ⟨⟨_,rfl,rfl⟩,⟨_,rfl,rfl⟩,⟨_,rfl,rfl⟩,⟨_,rfl,rfl⟩,⟨_,rfl,rfl⟩,trivial⟩ (fun q=>u0 [_,_,_,_] (by simp) q)⟩
    have hE:tV s i j=⟨1,s.extract i j,i,0⟩:=by rw [tV,aIp (by have:=aIo hc7;omega)]
    rw [hE] at hst;refine aB ?_;exact⟨(⟨1,s.extract i j,i,0⟩,j),hst,cY.get' ⟨⟨_,rfl,rfl⟩,⟨_,rfl,rfl⟩,⟨_,rfl,rfl⟩,⟨_,rfl,rfl⟩,⟨_,rfl,rfl⟩,trivial⟩ (fun q=>u0 [_,_,_] (by simp) q)⟩
   have n3:kG s i≠3:=aIo hc5;refine Sr<|Dd cI<|Da ?_;refine Cn ?_ ?_<;>intro hc8
   ·have e4:kG s i=4:=aIn hc8;refine Sq<|aF ?_;refine bG (σ:=Nat) (fun j=>([(0,fv),(1,.ref 921 0 0 0),(2,.ref 924 0 0 0),(4,iv (j:Int)),(5,iv (i:Int)),(6,.ref 926 0 0 0)],(926,tF (pX i))::Hs k)) (fun j=>i≤j∧j≤s.size∧∀ q,i≤q→q < j→FC s q=true) (fun j=>s.size - j) i ⟨aIx _,hi,fun q h1 h2=>by omega⟩ ?_ ?_
    ·exact E0
    rintro j ⟨hij,hj,hpre⟩;refine Sq<|Sr<|Dd (by exact aR rfl EK rfl (h3 k) rfl rfl rfl)<|Dd aD<|Dd (by exact eT rfl rfl rfl (hat k j (pX i) (by omega)))<|Dd cI<|Zz ?_;refine Cn ?_ ?_<;>intro hc9
    ·have hjs:j < s.size:=L7 s j (fun e=>by rw [e] at hc9;cases hc9);refine aB<|aF<|Rg<|Dd aD<|Dd eL<|Da ?_;exact⟨j+1,⟨by omega,by omega,fun q q1 q2=>by
      by_cases e:q=j
      ·subst e;exact hc9
      exact hpre q q1 (by omega)⟩,by omega,E0⟩
    have hle:AZ s i=j:=sV _ hij (by omega) hpre (.inl hc9);have hst:eF s i=(some (zN s i j),j):=by rw [eF,aIp n1,aIp n2,aIp n3,aIq e4,hle]
    refine aZ<|Sq<|aU follows<|Cr [921] (fun H1 hH=>by exact aR rfl isAgg9 rfl ((hH _ rfl).trans (h1 k)) rfl rfl rfl)<|Cr [] (fun _ _=>aD)<|Cr [] (fun _ _=>aD)<|Cr [] (fun H1 hH=>by exact cW (l:=i) (h:=j) rfl underlying9 rfl rfl rfl (by omega) (by omega) rfl)<|Cr [926] (fun _ h=>fh lF h)<|Cr [926] (fun _ h=>fh pR h)<|Cp [926] (fun H1 hH=>by exact bW rfl sizeOf3 rfl rfl rfl ((hH _ rfl).trans rfl) rfl rfl (aJE rfl) rfl rfl)<|Cr [926] (fun _ h=>fh lF h)<|Cr [926] (fun _ h=>fh f7 h)<|Cp [926] (fun H1 hH=>by exact bW rfl sizeOf9 rfl rfl rfl ((hH _ rfl).trans rfl) rfl rfl (aJE rfl) rfl rfl)<|Cr [926] (fun _ h=>fh oL h)<|Cp [926] (fun H1 hH=>by exact bW rfl sizeOf25 rfl rfl rfl ((hH _ rfl).trans rfl) rfl rfl (aJE rfl) rfl rfl) ?_;refine bM<|Kr<|Sq ?_;refine iB.ent (E':=[(0,fv),(1,.ref 921 0 0 0),(2,.ref 924 0 0 0),(4,iv (j:Int)),(5,iv (i:Int)),(6,.ref 926 0 0 0)]) (H':=(926,tF ⟨2,s.extract i j,i,0⟩)::Hs k) (cY.get' ⟨⟨_,rfl,rfl⟩,⟨_,rfl,rfl⟩,⟨_,rfl,rfl⟩,⟨_,rfl,rfl⟩,⟨_,rfl,rfl⟩,⟨_,rfl,rfl⟩,trivial⟩ (fun q=>u0 [_,_,_] (by simp) q)) ?_;have h7:decide (7 < ((j - i:Nat):Int))=decide (7 < j - i):=by rw [Bool.eq_iff_iff,aIy,aIy];omega
    refine Rg<|Dd (by exact aR rfl EK rfl (h3 k) rfl rfl rfl)<|Dd aD<|Dd (by exact eT rfl rfl rfl (hat k j ⟨2,s.extract i j,i,0⟩ (by omega)))<|Dd aO<|Zz<|Sq ?_;refine bD (t:=105) (n:=14) (X:=decide (7 < ((j - i:Nat):Int))||decide (kG s j=3)||decide (kG s j=5)) ?_ ?_
    ·all_goals refine Dd aD ?_
     all_goals refine Dd aD<|Dd (by exact gC rfl rfl rfl (show IntKind.i64.wrap ((j:Int) - (i:Int))=((j - i:Nat):Int)by rw [IntKind.wrap_i64];omega))<|Dd kC<|Dm ?_
     all_goals refine Sp 98 (fun h98=>?_) fun h98=>?_
     all_goals try contradiction
     all_goals first|refine Fo<|Fo ?_|refine On aD<|On cI ?_
     all_goals refine Dd dI<|Dm ?_
     all_goals refine Sp 102 (fun h102=>?_) fun h102=>?_
     all_goals try contradiction
     all_goals first|refine Fo<|Fo ?_|refine On aD<|On cI ?_
     all_goals refine Dd dI<|Zz ?_
     all_goals(exact⟨⟨_,rfl,by first|(simp_all [pW];done)|(simp_all;omega)⟩,rfl,rfl,rfl⟩)
    refine Cn ?_ ?_<;>intro hc10
    ·have hE:zN s i j=⟨2,s.extract i j,i,4⟩:=by rw [zN,← h7,hc10];rfl
     rw [hE] at hst;refine Rg<|Dd (bH oL)<|Uu (by exact bW rfl sizeOf25 rfl rfl rfl rfl rfl rfl (aJE rfl) rfl rfl)<|Zz ?_;exact⟨(⟨2,s.extract i j,i,4⟩,j),hst,cY.get' ⟨⟨_,rfl,rfl⟩,⟨_,rfl,rfl⟩,⟨_,rfl,rfl⟩,⟨_,rfl,rfl⟩,⟨_,rfl,rfl⟩,trivial⟩ (fun q=>u0 [_] (by simp) q)⟩
    have hE:zN s i j=⟨2,s.extract i j,i,0⟩:=by rw [zN,← h7,hc10];rfl
    rw [hE] at hst;refine aB ?_;exact⟨(⟨2,s.extract i j,i,0⟩,j),hst,E0⟩
   have n4:kG s i≠4:=aIo hc8;refine Sr<|Dd cI<|Da ?_;refine Cn ?_ ?_<;>intro hc11
   ·have e7:kG s i=7:=aIn hc11;have hst:eF s i=(some (xS s i).1,(xS s i).2):=by rw [eF,aIp n1,aIp n2,aIp n3,aIp n4,aIq e7]
    have hexs:(s.extract i s.size).size≤s.size - i:=by rw [ByteArray.size_extract];omega
    have hun:=fun H=>RN (s.extract i s.size) H (by omega);have hul:=QG (s.extract i s.size);obtain ⟨u,hu⟩:∃ u,u=sC (s.extract i s.size):=⟨_,rfl⟩;have hgs:xS s i=if 0 < u.2 then(⟨3,u.1,i,0⟩,i+u.2.toNat)else(pX i,i):=by rw [xS,← hu]
    rw [← hu] at hun hul;obtain ⟨ut,un⟩:=u;simp only at hun hul hgs;refine Sr<|Dd (by exact aR rfl isAgg9 rfl (h1 k) rfl rfl rfl)<|Dd aD<|Dd (by exact cW (l:=i) (h:=s.size) rfl underlying9 rfl rfl rfl (by omega) (by omega) rfl)<|Dd (by exact aA rfl rfl call186 rfl (hun _))<|Dd aD<|Dd eZ<|Dd eZ<|Dd aO<|Dd aO<|Zz<|Sq<|Sr<|Dd aD<|Dd kC<|Zz ?_;refine Cn ?_ ?_<;>intro hc12
    ·rw [hgs,aIq (aIn hc12)] at hst;refine Rg<|Dd aD<|Dd (bH lF)<|Dd (bH pR)<|Uu (by exact bW rfl sizeOf3 rfl rfl rfl rfl rfl rfl (aJE rfl) rfl rfl)<|Dd (bH lF)<|Dd (bH f7)<|Uu (by exact bW rfl sizeOf9 rfl rfl rfl rfl rfl rfl (aJE rfl) rfl rfl)<|Dd (bH oL)<|Uu (by exact bW rfl sizeOf25 rfl rfl rfl rfl rfl rfl (aJE rfl) rfl rfl)<|Zz<|Rg<|Dd aD<|Dd aD<|Dd (by exact iM rfl rfl rfl (show IntKind.i64.wrap ((i:Int)+un)=((i+un.toNat:Nat):Int)by rw [IntKind.wrap_i64];omega))<|Da ?_;exact⟨(⟨3,ut,i,0⟩,i+un.toNat),hst,cY.get' ⟨⟨_,rfl,rfl⟩,⟨_,rfl,rfl⟩,⟨_,rfl,rfl⟩,⟨_,rfl,rfl⟩,⟨_,rfl,rfl⟩,trivial⟩ (fun q=>u0 [_,_,_] (by simp) q)⟩
    have hu0:=aIo hc12;rw [hgs,aIp hu0] at hst;have e0:i+un.toNat=i:=by omega
    refine aB<|Rg<|Dd aD<|Dd aD<|Dd (by exact iM rfl rfl rfl (show IntKind.i64.wrap ((i:Int)+un)=((i+un.toNat:Nat):Int)by rw [IntKind.wrap_i64];omega))<|Da ?_;rw [e0];exact⟨(pX i,i),hst,E0⟩
   have n7:kG s i≠7:=aIo hc11;refine Sr<|Dd cI<|Da ?_;refine Cn ?_ ?_<;>intro hc13
   ·have e6:kG s i=6:=aIn hc13;have hst:eF s i=(some ⟨4,s.extract i (i+1),i,0⟩,i+1):=by rw [eF,aIp n1,aIp n2,aIp n3,aIp n4,aIp n7,aIq e6]
    refine Sr<|Dd aD<|Dd eL<|Dd aO<|Zz<|aU follows<|Cr [921] (fun H1 hH=>by exact aR rfl isAgg9 rfl ((hH _ rfl).trans (h1 k)) rfl rfl rfl)<|Cr [] (fun _ _=>aD)<|Cr [] (fun _ _=>aD)<|Cr [] (fun H1 hH=>by exact cW (l:=i) (h:=(i+1)) rfl underlying9 rfl rfl rfl (by omega) (by omega) rfl)<|Cr [926] (fun _ h=>fh lF h)<|Cr [926] (fun _ h=>fh pR h)<|Cp [926] (fun H1 hH=>by exact bW rfl sizeOf3 rfl rfl rfl ((hH _ rfl).trans rfl) rfl rfl (aJE rfl) rfl rfl)<|Cr [926] (fun _ h=>fh lF h)<|Cr [926] (fun _ h=>fh f7 h)<|Cp [926] (fun H1 hH=>by exact bW rfl sizeOf9 rfl rfl rfl ((hH _ rfl).trans rfl) rfl rfl (aJE rfl) rfl rfl)<|Cr [926] (fun _ h=>fh oL h)<|Cp [926] (fun H1 hH=>by exact bW rfl sizeOf25 rfl rfl rfl ((hH _ rfl).trans rfl) rfl rfl (aJE rfl) rfl rfl) ?_;refine bM<|Kr ?_;exact⟨(⟨4,s.extract i (i+1),i,0⟩,i+1),hst,cY.get' ⟨⟨_,rfl,rfl⟩,⟨_,rfl,rfl⟩,⟨_,rfl,rfl⟩,⟨_,rfl,rfl⟩,⟨_,rfl,rfl⟩,trivial⟩ (fun q=>u0 [_,_,_] (by simp) q)⟩
   have n6:kG s i≠6:=aIo hc13;have hst:eF s i=(some (pX i),i):=by rw [eF,aIp n1,aIp n2,aIp n3,aIp n4,aIp n7,aIp n6]
   refine aB ?_;exact⟨(pX i,i),hst,E0⟩
  rintro⟨f,j⟩ hst;rw [hst] at hinv;simp only at hinv hst;obtain ⟨hk1,hk2⟩:=H8 hinv;have hkl:=(aIv.1 hk1).1;have hkm2:k < m:=by
   rcases Nat.lt_or_ge k m with h|h
   ·exact h
   have hkem:k=m:=Nat.le_antisymm hkm h;subst hkem;rcases hend with h|⟨h,h'⟩
   ·omega
   rcases hkc with h2|h2
   ·omega
   rw [h2] at h';cases h'
  have hstop:ds.length=k+1∨cont k=false→k+1=m:=fun h=>by
   rcases h with h|h
   ·omega
   rcases Nat.lt_or_ge (k+1) m with h3|h3
   ·rw [hall k h3] at h;cases h
   omega
  have hyk:=hy k f hk1 hkm2;cases hck:cont k with
  | false =>
   have hkk:=hstop (.inr hck);rw [hck] at hyk;refine Sr<|Dd aD<|Dd (qZ isAgg174 A9)<|Dd (by exact eT rfl rfl rfl (hyk))<|Dd jU<|Dd aD<|Fo<|Fo<|Fo<|Dd dI<|Zz ?_;refine Cn ?_ ?_<;>intro hc14
   ·refine aC ?_;rw [← hkk];exact qT (H':=Hs (k+1)) (.inr rfl) rfl (Fin.pops' [(926,tF f)] (by simp) (hcl _) (by simp [h6]) (by simp [h6])) ⟨rfl,rfl⟩
   cases hc14
  | true =>
   rw [hck] at hyk;refine Sr<|Dd aD<|Dd (qZ isAgg174 A9)<|Dd (by exact eT rfl rfl rfl (hyk))<|Dd jU<|Dd aD<|On (bH oL)<|On (cA kK)<|On tU<|Dd dI<|Zz ?_;refine Cn ?_ ?_<;>intro hc15
   ·have hne:f.err≠0:=by
     have h:=hc15
     simpa using h
    rw [aIp hne] at hk2;have hkk:=hstop (.inl (by have:=List.drop_eq_nil_iff.1 hk2;omega));refine aC ?_;rw [← hkk];exact qT (H':=Hs (k+1)) (.inr rfl) rfl (Fin.pops' [(926,tF f)] (by simp) (hcl _) (by simp [h6]) (by simp [h6])) ⟨rfl,rfl⟩
   have he0:f.err=0:=by
    have h:=hc15
    simpa using h
   obtain ⟨g1,g2⟩:=FV hst he0 hlt;rw [aIq he0] at hk2;refine aB ?_;exact⟨j,k+1,⟨g2,hkm2,.inr hck,n,by omega,hk2⟩,by omega,hfree _ _ _ _ _ rfl rfl rfl rfl rfl⟩
 have hge:s.size≤i:=by have:=aIo hc1;omega
 have hnil:iH s n i=[]:=by
  cases n with
  | zero=>rfl
  | succ n=>rw [iH,aIp (by omega)]
 rw [hnil] at hinv;have hkd:=List.drop_eq_nil_iff.1 hinv;have hkk:k=m:=by omega
 refine aZ ?_;rw [← hkk];exact qT (H':=Hs k) (.inl rfl) rfl Fin.refl ⟨rfl,rfl⟩
end Go.Proofs.YtlnfjkdacimblaaGreatDoor
