/-
  Parts of the proof: rules of an abstract program logic, contracts of functions, plain laws. Conditions: each theorem's own.
-/
import Derived.Test.YtmdicgjnmfolfaaGreatDoorKR3M5
import Derived.Laws.BitsLemmas
import Derived.Below
import Derived.Shelf.Strconv.ErrVarAll
import Derived.Shelf.Strconv.AtoiAll
import Derived.Shelf.LaysC
import Derived.Shelf.Strings.SlTrimAscii
import Derived.Shelf.Lays
import Derived.Ground.NamesProg
import Derived.WideLaws
import Derived.Laws.Build
set_option linter.unusedVariables false
set_option linter.unusedSimpArgs false
set_option maxRecDepth 100000
set_option maxHeartbeats 8000000
namespace Go.Proofs
open Tryz
theorem xG:type_of% call162:=call162
theorem vP:type_of% call40:=call40
theorem aG4:type_of% call71:=call71
theorem aPF:type_of% call73:=call73
theorem A8:type_of% call90:=call90
theorem eC:type_of% isAgg25:=isAgg25
theorem eT:type_of% isAgg26:=isAgg26
theorem DF:type_of% isAgg72:=isAgg72
theorem IJ:type_of% sizeOf72:=sizeOf72
end Go.Proofs
namespace Go.Abs
variable{P:Program}{id p p2 N:Nat}
theorem Z7{x:Go.Loop}{k s:Code}{g:dB}{a W:AV}{K:aH}{Q:AV->aH->Prop}(E2:dB)(K2:aH)(S:x.state=.ready)(Z:x.pending=none)(hp:x.params=#[p,p2])(hN:x.tmps.size=N)(hxa:x.assign=k)(hxb:x.body=s)(hpN:Nat.blt p N=true)(E:Nat.blt p2 N=true)(hpp:Nat.beq p p2=false)
  (hok:wC k=true) (hok2:wC s=true)
  (h1:gR P ((id,LR x g)::K) N k (yP (fun E1 H1=>dA ((id,LR x g)::K) E1 H1 E2 ((id,LR x g)::K2)) (fun _ _ _=>False)) ((p2,W)::(p,a)::g) ((id,LR x g)::K))
  (h2:gR P ((id,LR x g)::K) N s (aGN ((id,LR x g)::K) id x g Q) E2 ((id,LR (busy x) g)::K2)):EN P id 0 [a,W] ((id,LR x g)::K) Q:=by
 subst hxa hxb;have hpN:p<N:=by simp_all
 have E:p2<N:=by simp_all
 have hpp:p≠p2:=fun e=>by simp_all
 intro I X w vs v hr hv hl hvs;obtain ⟨b,e1,V,e3,e4,e5⟩:=aDm hr (fX _ _ _) hv;obtain ⟨u,z,rfl⟩:∃u z,vs=#[u,z]:=by
  match vs,hl with
  |⟨[u,z]⟩,_=>exact⟨u,z,rfl⟩
 have hu:=hvs 0 u a rfl rfl;have hu2:=hvs 1 z W rfl rfl;refine⟨b,x.fn,_,x.assign,x.body,V,run_yield e3 (by simp_all),?_⟩;refine roundIn_of_wpIn (F:=Fence.wide) trivial ?_;have hG:(⟨I,X,(id,LR x g)::K,w,[]⟩:Entry).H=(id,LR x g)::K:=rfl;have hst:St ⟨I,X,(id,LR x g)::K,w,[]⟩ N ((p2,W)::(p,a)::g) ((id,LR x g)::K) {tmps:=(x.params.zip #[u,z]).foldl (fun o (t,a)=>o.setIfInBounds t a) x.tmps,defers:=[]} w:=by
  have ht:(x.params.zip #[u,z]).foldl (fun o (t,a)=>o.setIfInBounds t a) x.tmps=(x.tmps.setIfInBounds p u).setIfInBounds p2 z:=by rw[hp];simp
  rw[ht];refine⟨rA.nil _ _ _,by simp[hN],I,X,hr,Step.refl _ _ _ _,fun t y m=>?_⟩;by_cases V:p2=t
  ·subst V;rw[dB.get_cons_same]at m;cases m;exact⟨z,by simp[hN,E],hu2⟩
  rw[dB.get_cons_other _ _ V]at m;by_cases e:p=t
  ·subst e;rw[dB.get_cons_same]at m;cases m;exact⟨u,by show ((x.tmps.setIfInBounds p u).setIfInBounds p2 z)[p]?=some u;rw[Array.getElem?_setIfInBounds_ne V];simp[hN,hpN],hu⟩
  rw[dB.get_cons_other _ _ e]at m;obtain ⟨i,hi⟩:=aPf.1 (gL m);obtain ⟨c,c1,c2⟩:=e5 i t y (by rw[aPe,hi];rfl) (by rw[aPe,hi];rfl);exact⟨c,by show ((x.tmps.setIfInBounds p u).setIfInBounds p2 z)[t]?=some c;rw[Array.getElem?_setIfInBounds_ne V,Array.getElem?_setIfInBounds_ne e];exact c1,c2⟩
 refine wpIn_mono (h1 _ hG _ w hst (some b) (.inr hok)) ?_;rintro e a1 w1 ⟨E1,H1,q,hs1⟩;cases e with
 | normal =>
  have L:=q _ hG N a1 w1 hs1;obtain ⟨I1,ι1,B,G,he1⟩:=L.rel;have J:=rF G (fX _ _ _) e1 (fX _ _ _);have hb1:=sA B (fX _ _ _) J;obtain ⟨k1,k2⟩:=B.setRec (y:=busy x) (H':=(id,LR (busy x) g)::K2) (fX _ _ _) J rfl (fX _ _ _) (fun j hj=>yH _ _ _ hj);refine⟨_,run_beginRound hb1 S,?_⟩;have hs3:St ⟨I,X,(id,LR x g)::K,w,[]⟩ N E2 ((id,LR (busy x) g)::K2) a1 (w1.putObj b (.loop (busy x))) :=
   ⟨L.defers.step B k2,L.size,I1,ι1,k1,G.trans k2,fun t y m=>let ⟨c,c1,c2⟩:=he1 t y m;⟨c,c1,c2.mono B k2⟩⟩
  refine wpIn_mono (h2 _ hG a1 _ hs3 (some b) (.inr hok2)) ?_;rintro e W w3 ⟨E3,H3,U,hs4⟩;have O:∀(h:Option Code) (y:Go.Loop) (A:aH),y={busy x with state:=if h.isNone then .ready else .done,pending:=h}->dA ((id,LR x g)::K) E3 H3 [] ((id,LR (busy x) g)::A)->Q (.pv (.bool h.isNone)) ((id,LR y g)::A) ->
    ∃v w',(Instr.endRound b h).run P w3=.ok v w'/\∃r H' I' M v',Ending.returned v=.returned v'/\Q r H'/\VRel w' I' M H' v' r/\Rel I' M H' w'/\Step I X ((id,LR x g)::K) w I' M H' w':=by
   intro h y A m f T;have hs5:=f _ hG N W w3 hs4;obtain ⟨I5,ι5,Y,F,_⟩:=hs5.rel;have D:=rF F (fX _ _ _) e1 (fX _ _ _);have hb5:=sA Y (fX _ _ _) D;obtain ⟨z1,z2⟩:=Y.setRec (y:=y) (H':=(id,LR y g)::A) (fX _ _ _) D (by rw[m]) (fX _ _ _) (fun j hj=>yH _ _ _ hj);refine⟨_,_,run_endRound h hb5,_,_,I5,ι5,_,rfl,T,.pv (.bool _),?_,?_⟩
   ·rw[<-m];exact z1
   rw[<-m];exact F.trans z2
  cases e with
  |normal =>
   obtain ⟨A,f,T⟩:=U;refine O none x A ?_ f T;obtain ⟨st,pe,fn,tm,pa,ax,bo,de⟩:=x;simp only at S Z;subst S Z;rfl
  |ret =>
   obtain ⟨A,f,T⟩:=U;exact O (some .ret) (left x .ret) A rfl f T
  |exit j =>
   obtain ⟨A,f,T⟩:=U;exact O (some (.exit j)) (left x (.exit j)) A rfl f T
  |goto l=>exact U.elim
  |panic ch=>exact U.elim
  |outgrown=>exact U.elim
 |exit j=>exact q.elim
 |goto l=>exact q.elim
 |ret=>exact q.elim
 |panic ch=>exact q.elim
 |outgrown=>exact q.elim
theorem NJ{G0:aH}{f:Nat}{M:List AV}{g:Operand}{ps:Array Tmp}{assign body:Code}{Q:Exit->dB->aH->Prop}{E:dB}{H:aH}(n:dB)(hg:aP E g=some (.clo f M))(hc:∀(args:Array Value) (w:World),(callFunc f args).run P w=.ok (.enter f args) w)
  (hps:ps=#[p,p2]) (hid:H.get id=none) (hE0:∀q∈n,E.get q.1=some q.2)
  (h:∀x:Go.Loop,x.state=.ready->x.pending=none->x.params=#[p,p2]->x.tmps.size=N->x.assign=assign->x.body=body ->
   aI P f (.yld id 0::M) ((id,LR x n)::H) (fun r H'=>∃(y:Go.Loop) (K:aH),y.tmps=x.tmps/\y.state≠.busy/\H'=(id,LR y n)::K/\∀z:Go.Loop,aGQ Q E ((id,LR z n)::K) y.pending)) :
  gR P G0 N (.rangeFunc g ps assign body) Q E H:=by
 intro G hG a w hs ro hro;obtain rfl:ro=none:=hro.resolve_right (fun h=>by cases h);obtain ⟨I,ι,hr,hst,he⟩:=hs.rel;refine wpIn_rangeFunc (F:=RF none) ?_;intro fn _;have hgv:=aJ he hg;generalize hfc:a.eval g=fc at hgv;cases hgv with
 | @clo _ us _ hl hh =>
  obtain ⟨x,R⟩:∃x:Go.Loop,x={state:=.ready,pending:=none,fn,tmps:=a.tmps,params:=ps,assign,body,defers:=w.heap.size}:=⟨_,rfl⟩;obtain ⟨a1,a2⟩:=hr.push (.deferred (some []));obtain ⟨X,V⟩:∃X,X=w.alloc (.deferred (some [])):=⟨_,rfl⟩;rw[<-V]at a1 a2;have L:X.heap.size=w.heap.size+1:=by simp_all
  have hDd:X.heap[w.heap.size]?=some (.deferred (some [])):=by rw[V];exact World.alloc_heap_new w _
  have m:aH.get ((id,LR x n)::H) id=some (LR x n):=fX _ _ _;obtain ⟨b1,b2⟩:=a1.placeX (id:=id) (cap:=2) (x:=.loop x) (w':=X.alloc (.loop x)) (H':=(id,LR x n)::H) (ob':=LR x n) rfl rfl rfl rfl (fun o ho=>by simp_all)
   (fun hnew hI hmono=>.inr (.inr (.inr ⟨rfl,_,x,by simp,hnew,hI,fun y ts r hy=>by
    simp only[LR,List.cons.injEq,AV.raw.injEq,and_true]at hy;obtain ⟨⟨rfl,rfl⟩,rfl⟩:=hy;refine⟨rfl,fun i t v ht u=>?_⟩;rw[aPe]at ht u;obtain ⟨q,hq,rfl⟩:=Option.map_eq_some_iff.1 ht;rw[hq]at u;cases u;obtain ⟨c,c1,c2⟩:=he q.1 q.2 (hE0 q (aP4 hq));exact⟨c,by rw[R];exact c1,hmono _ _ (c2.mono hr a2)⟩⟩)))
   m (fun j hj=>by simp[aH.get,kX (Ne.symm hj)])
  obtain ⟨T,hw1⟩:∃T,T=X.alloc (.loop x):=⟨_,rfl⟩;rw[<-hw1]at b1 b2;obtain ⟨B,U⟩:∃B:kJ,B=fun j=>if j=id then some (X.heap.size,2)else ι j:=⟨_,rfl⟩
  rw[<-U]at b1 b2;have d:B id=some (w.heap.size+1,2):=by rw[U,L];simp
  have hL1:=sA b1 m d;have W:T.heap[w.heap.size]?=some (.deferred (some [])):=by
   rw[b2.keep _ (by rw[L];omega) (xU a1 hDd)];exact hDd
  have Z:=h x (by rw[R]) (by rw[R]) (by rw[R,hps]) (by rw[R];exact hs.size) (by rw[R]) (by rw[R]) I B T (#[.func (.yield (w.heap.size+1)) #[] #[]]++us) b1 (by simp[hl];omega) (fun i v c u F=>by
   cases i with
   |zero =>
    rw[Array.getElem?_append_left (by simp)]at u;simp at u F;subst u F;exact .yld (LR x n) m (aP0 _) rfl (fun _=>⟨rfl,_,d,rfl⟩)
   |succ i =>
    rw[Array.getElem?_append_right (by simp)]at u;simp only[List.getElem?_cons_succ]at F;have:=hh i v c (by simpa using u) F;exact(this.mono hr a2).mono a1 b2)
  refine⟨w.heap.size+1,[mark w.heap.size],T,{target:=.fn (.func f) us,args:=#[.func (.yield (w.heap.size+1)) #[] #[]]},T,f,#[.func (.yield (w.heap.size+1)) #[] #[]]++us,T,?_,?_,fun _ _=>trivial,?_,(fun q=>by cases q),?_⟩
  ·rw[hw1,V,R];exact run_enterLoop_outer _ _ _ _ _
  ·simp only[resolve,hfc];simp[go_sem]
  ·simp[invoke,go_sem,hc]
  refine((callsIn_wide (n:=0)).2 Z).mono ?_;rintro e w3 ⟨r,H',I3,ι3,v3,rfl,⟨y,K,hy1,hy2,rfl,hq⟩,_,hr3,A⟩;have O:=rF (G:=⟨I,B,(id,LR x n)::H,T,[]⟩) A m d (fX _ _ _);have hb3:=sA hr3 (fX _ _ _) O;obtain ⟨z,hz⟩:∃z:Go.Loop,z={y with state:=.exhausted}:=⟨_,rfl⟩;obtain ⟨z1,z2⟩:=hr3.setRec (y:=z) (H':=(id,LR z n)::K) (fX _ _ _) O (by rw[hz]) (fX _ _ _) (fun j hj=>yH _ _ _ hj);obtain ⟨w4,hw4⟩:∃w4,w4=w3.putObj (w.heap.size+1) (.loop z):=⟨_,rfl⟩;rw[<-hw4]at z1 z2;refine⟨y.pending,w4,by rw[hw4,hz];exact run_endLoop hb3 hy2,?_⟩;have s:Step I ι H w I3 ι3 ((id,LR z n)::K) w4:=((a2.trans b2).trans A).trans z2;have hD4:w4.heap[w.heap.size]?=some (.deferred (some [])):=by
   rw[(A.trans z2).keep _ (Array.getElem?_eq_some_iff.1 W).1 (xU b1 W)];exact W
  have Y : St G N E ((id, LR z n) :: K) { a with defers := [mark w.heap.size] ++ a.defers } w4 := by
   refine⟨?_,hs.size,I3,ι3,z1,hst.trans s,fun t v u=>let ⟨c,c1,c2⟩:=he t v u;⟨c,c1,c2.mono hr s⟩⟩;obtain ⟨Ds,d1,d2,d3⟩:=hs.defers.step hr s;refine⟨w.heap.size::Ds,by rw[d1];rfl,List.nodup_cons.2 ⟨fun hmem=>?_,d2⟩,fun D hD=>?_⟩
   ·have hold:∀D∈Ds,D<w.heap.size:=by
     obtain ⟨Ds',d1',_,d3'⟩:=hs.defers;have he:Ds'=Ds:=by
      have h0:Ds'.map mark=Ds.map mark:=List.append_cancel_right (d1'.symm.trans d1);have hinj:∀(l J:List Nat),l.map mark=J.map mark->l=J:=by
       intro l
       induction l with
       |nil=>intro J h;cases J with
        |nil=>rfl
        |cons _ _=>cases h
       | cons D l ih=>intro J h;cases J with
        |nil=>cases h
        |cons D' J =>
         simp only[List.map_cons,List.cons.injEq,mark,Deferred.mk.injEq,Target.collected.injEq,and_true]at h;rw[h.1,ih J h.2]
      exact hinj _ _ h0
     subst he;exact fun D hD=>(Array.getElem?_eq_some_iff.1 (d3' D hD).2).1
    exact Nat.lt_irrefl _ (hold _ hmem)
   rcases aP6.1 hD with rfl|hD
   ·exact⟨hst.size,hD4⟩
   exact d3 D hD
  have b:=hq z;generalize y.pending=pend at b |-
  match pend,b with
  |none,b=>exact⟨E,_,b,Y⟩
  |some .ret,b=>exact wpIn_ret ⟨E,_,b,Y⟩
  |some (.exit j),b=>exact wpIn_exit ⟨E,_,b,Y⟩
end Go.Abs
namespace Go.Proofs.YtmdicgjnmfolfaaGreatDoor
open Go.Proofs.Tryz
open Go.Abs
theorem gX(l:List ByteArray):∀r∈l.map encStr,r.length=1:=fun r hr=>by
 obtain ⟨t,_,rfl⟩:=List.mem_map.1 hr;rfl
def cSZ(l:List ByteArray):Ob:=bx 1 22 [.pv (bA l)]
def cNZ:Ob:=bx 1 3 [iv 2]
theorem aFb(l:List ByteArray)(H:aH)(h1:H.get 931=none)(h2:H.get 932=none):
  aI Tryz.prog 137 [.pv (bA l),iv 2] H (fun r H'=>r=.clo 178 [.ref 931 0 0 0,.ref 932 0 0 0]/\H'=(932,cNZ)::(931,cSZ l)::H):=by
 have h2':aH.get ((931,cSZ l)::H) 932=none:=h2;refine Bd func137 rfl ntmps137<|Sr<|Dd (by exact cD (id:=931) rfl rfl rfl rfl h1)<|Dd (by exact cD (id:=932) rfl rfl rfl rfl h2')<|Dd aL<|Zz<|Sq<|Sr<|Dd (bC isAgg3)<|Dd cZ<|Zz ?_;refine Cn ?_ ?_<;>intro hc1
 ·cases hc1
 refine aC<|Sr<|Dd (by exact gJ rfl rfl)<|Dd aL<|Zz<|aB ?_;refine eG (H':=((932,cNZ)::(931,cSZ l)::H)) (.inr rfl) rfl (bD rfl) Fin.refl ?_;exact Qq
def BN(l:List ByteArray)(k:Nat):List ByteArray:=(l.drop (2*k)).take 2
theorem aBw(l:List ByteArray)(k:Nat):((l.map encStr).drop (2*k)).take 2=(BN l k).map encStr:=by rw[BN,List.map_take,List.map_drop]
theorem aHx{n:Nat}(h:2<=n):min (2:Int) (n:Int)=2:=Int.min_eq_left (by omega)
theorem aC5(l:List ByteArray)(fv:AV)(Hs:Nat->aH)(m:Nat)(hl:l.length=2*m)(hm:m<1099511627776)(h1:∀k,(Hs k).get 931=some (cSZ l))(h2:∀k,(Hs k).get 932=some cNZ)
  (hy:∀k,k<m->dK Tryz.prog fv [.pv (bA (BN l k))] (Hs k) (fun r H'=>r=bv true/\H'=Hs (k+1))) :
  aI Tryz.prog 178 [fv,.ref 931 0 0 0,.ref 932 0 0 0] (Hs 0) (fun r H'=>r=.tup []/\H'=Hs m):=by
 have hml:(l.map encStr).length=l.length:=aPU _;refine Bd func178 rfl ntmps178<|Sr<|Dd aL<|Zz<|aG ?_;refine bT (σ:=Nat) (fun k=>([(0,fv),(1,.ref 931 0 0 0),(2,.ref 932 0 0 0),(4,iv ((2*k:Nat):Int))],Hs k)) (fun k=>k<=m) (fun k=>m - k) 0 (aPb _) ?_ ?_
 ·exact E0
 rintro k hkm;refine Sq<|Sr<|Dd aE<|Dd (by exact aK rfl aF rfl (h1 k) rfl rfl rfl)<|Dd (fE aD)<|Dd cZ<|Zz ?_;refine Cn ?_ ?_<;>intro hc1
 ·have hlt:2*k<l.length:=by have:=aPQ hc1;omega
  have hkm2:k<m:=by omega
  have hyk:=hy k hkm2;have hdl:((l.map encStr).drop (2*k)).length=l.length - 2*k:=by rw[aP9,hml]
  refine aC<|Sq<|aG<|Sq<|aN follows<|Cq (by exact aK rfl isAgg3 rfl (h2 k) rfl rfl rfl)<|Cq (by exact aK rfl aF rfl (h1 k) rfl rfl rfl)<|Cq aE<|Cq (by exact yS (l:=2*k) (h:=(l.map encStr).length) (rows':=(l.map encStr).drop (2*k)) rfl cB rfl (gX l) rfl rfl (by omega) (aP0 _) (by rw[List.take_length]))<|Cq (fE aD)<|Cq (by exact KA (r:=2) rfl rfl rfl (by rw[hdl];exact aHx (by omega)))<|Cq aL<|bL<|Kr<|Sr<|Dd aE<|Dd (by exact aK rfl aF rfl (h1 k) rfl rfl rfl)<|Dd aE<|Dd aE<|Dd aE<|Dd (by exact bZ rfl rfl rfl (show IntKind.i64.wrap (((2*k:Nat):Int)+2)=((2*k+2:Nat):Int)by rw[IntKind.wrap_i64];omega))<|Dd aE<|Dd aE<|Dd (by exact bZ rfl rfl rfl (show IntKind.i64.wrap (((2*k:Nat):Int)+2)=((2*k+2:Nat):Int)by rw[IntKind.wrap_i64];omega)) ?_;refine Dd (by exact aDK (l:=2*k) (h:=2*k+2) (rows':=(BN l k).map encStr) rfl cB rfl (gX l) rfl rfl rfl (by omega) (by omega) (by intro h;rw[List.map_eq_nil_iff]at h;rw[h]at hlt;exact absurd hlt (Nat.not_lt_zero _)) (by rw[<-aBw,List.drop_take];congr 1;omega))<|Dd (by exact cU rfl rfl rfl (hyk))<|Dd iQ<|Zz ?_;refine Cn ?_ ?_<;>intro hc2
  ·cases hc2
  refine aC<|Rg<|Dd aE<|Dd (by exact aK rfl isAgg3 rfl (h2 (k+1)) rfl rfl rfl)<|Dd (by exact bZ rfl rfl rfl (show IntKind.i64.wrap (((2*k:Nat):Int)+2)=((2*(k+1):Nat):Int)by rw[IntKind.wrap_i64];omega))<|Da ?_;exact⟨k+1,hkm2,by omega,E0⟩
 have hge:l.length<=2*k:=by have:=aPR hc1;omega
 have hkk:k=m:=by omega
 refine aY ?_;rw[<-hkk];exact sI (H':=Hs k) (.inl rfl) rfl Fin.refl ⟨rfl,rfl⟩
end Go.Proofs.YtmdicgjnmfolfaaGreatDoor
namespace Go.Abs
theorem fJ{P}{G0}{N}{Q}{E}{H}{x y}{α:Type}(S:α->dB×aH)(J:α->Prop)
  (h:gR P G0 N x (yP (fun b H1=>∃a,J a/\dA G0 b H1 (S a).1 (S a).2) Q) E H) (d:∀a,J a->gR P G0 N y Q (S a).1 (S a).2):gR P G0 N (.seq x y) Q E H :=
 GI (h.mono fun e b H1 q=>by
  cases e with
  |normal =>
   obtain ⟨a,c,f⟩:=q;exact gR.ent f (d a c)
  |_=>exact q)
theorem yI{i}{o}{K:aH}:∀(D:aH),(∀p∈D,p.1=i)->∀j,aH.get ((i,o)::K) j=aH.get ((i,o)::(D++K)) j:=by
 intro D b j;by_cases e:i=j
 ·subst e;simp[aH.get,oO]
 have h:aH.get D j=none:=by
  cases a:aH.get D j with
  |none=>rfl
  |some x=>exact absurd (b _ (dY a)).symm e
 rw[get_cons_other _ _ (Ne.symm e),get_cons_other _ _ (Ne.symm e),fW,h]
theorem lC{H}{x}{c}(h:∀p∈c,Clo H p.2):∀r∈(LR x c).rows,∀a∈r,Clo H a:=by
 intro r d a b;simp[LR,aP6,aPa,or_false]at d;rcases d with rfl|rfl
 ·rw[aPX]at b;subst b;simp
 obtain ⟨p,e,rfl⟩:=List.mem_map.1 b;exact h p e
end Go.Abs
namespace Go.Proofs.YtmdicgjnmfolfaaGreatDoor
open Go.Proofs.Tryz
open Go.Abs
variable{j n k h:Nat}
theorem YK{W:List ByteArray}(h:2*j+2<=W.length):((BN W j).map encStr)[0]?=some (encStr (W.getD (2*j) sNil))/\((BN W j).map encStr)[1]?=some (encStr (W.getD (2*j+1) sNil)):=by
 have h0:(BN W j)[0]?=some (W.getD (2*j) sNil):=by
  rw[BN,List.getElem?_take_of_lt (by decide),List.getElem?_drop,Nat.add_zero,List.getD_eq_getElem?_getD,aPZ (by omega)];rfl
 have h1:(BN W j)[1]?=some (W.getD (2*j+1) sNil):=by
  rw[BN,List.getElem?_take_of_lt (by decide),List.getElem?_drop,List.getD_eq_getElem?_getD,aPZ (by omega)];rfl
 exact⟨by rw[aPe,h0];rfl,by rw[aPe,h1];rfl⟩
def upA(l:List ByteArray)(j:Nat):ByteArray:=FS (l.getD (2*j) sNil) (l.getD (2*j+1) sNil)
def upS(l:List ByteArray)(k:Nat):List ByteArray:=(List.range k).map (upA l)
theorem aDS(l:List ByteArray)(k:Nat):upS l (k+1)=upS l k++[upA l k]:=by rw[upS,List.range_succ,List.map_append];rfl
theorem aAH(l:List ByteArray)(k:Nat):(upS l k).length=k:=by simp[upS]
theorem aGg{l:List ByteArray}{m:Nat}(h:l.length=2*m):upS l m=RM l:=by
 apply List.ext_getElem?;intro k;have hl:=CM m l h;by_cases hk:k<m
 ·have:=RL m l k h hk;rw[List.getD_eq_getElem?_getD,aPZ (by omega)]at this;rw[upS,aPe,List.getElem?_range hk,aPZ (by omega)];exact congrArg some this.symm
 rw[List.getElem?_eq_none (by rw[aAH];omega),List.getElem?_eq_none (by omega)]
def upK(l L:List ByteArray):aH:=[(905,⟨L.length,1,9,dF L⟩),(3,bx 1 22 [.osl 905 L.length 0 L.length]),(932,cNZ),(931,cSZ l)]
theorem aGh(l L:List ByteArray)(s:ByteArray):upK l (L++[s])=[(905,⟨L.length+1,1,9,dF (L++[s])⟩),(3,bx 1 22 [.osl 905 (L.length+1) 0 (L.length+1)]),(932,cNZ),(931,cSZ l)]:=by simp[upK]
def upE:dB:=[(3,.ref 3 0 0 0)]
theorem TF(H:aH)(l:List ByteArray):∀r∈(cSZ l).rows,∀a∈r,Clo H a:=by intro r hr a ha;simp only[cSZ,bx,aPX]at hr;subst hr;rw[aPX]at ha;subst ha;simp
theorem TG(H:aH):∀r∈cNZ.rows,∀a∈r,Clo H a:=by intro r hr a ha;simp only[cNZ,bx,aPX]at hr;subst hr;rw[aPX]at ha;subst ha;simp
theorem aBJ(l:List ByteArray)(m:Nat)(H:aH)(hl:l.length=2*m)(hm:m<1099511627776)(hs:∀s∈l,s.size=16):aI Tryz.prog 87 [.pv (bA l)] H (fun r H'=>r=.pv (bA (RM l))/\H'=H):=by
 refine Pu ?_;refine Bd func87 rfl ntmps87<|Sr<|Dd aL<|Zz<|Sr<|Dd (by exact bW (id:=3) rfl aDD rfl rfl)<|Zz<|Sq<|Sr<|Dd aE<|Dd (by exact aA rfl rfl call137 rfl (aFb l _ rfl rfl))<|Zz<|aG ?_;refine gR.ent (E':=[(3,.ref 3 0 0 0),(6,.clo 178 [.ref 931 0 0 0,.ref 932 0 0 0])]) (H':=upK l []) ?_ ?_
 ·exact(dA.nz 905 1 9 rfl rfl ⟨⟨_,rfl,(by exact Nz.same (by(simp;rfl)))⟩,⟨_,rfl,(by exact Nz.same (by(simp;exact⟨rfl,rfl⟩)))⟩,trivial⟩ ⟨⟨_,rfl,rfl,rfl,rfl,(by exact .inr ⟨_,_,rfl,rfl,(by repeat(first|exact trivial|refine⟨(by exact Nz.own),?_⟩))⟩)⟩,⟨_,rfl,rfl,rfl,rfl,(by exact .inl ⟨rfl,(by exact TG _)⟩)⟩,⟨_,rfl,rfl,rfl,rfl,(by exact .inl ⟨rfl,(by exact TF _ _)⟩)⟩,trivial⟩ trivial)
 refine C6 (id:=904) (p:=7) upE rfl call178 rfl rfl (by simp[upE];rfl) ?_;intro x hx1 hx2 hx3 hx4 hx5 hx6;refine(aC5 l (.yld 904 0) (fun k=>(904,LR x upE)::upK l (upS l k)) m hl hm (fun k=>rfl) (fun k=>rfl) ?_).mono ?_
 ·intro k hk;have hn:∀j,j<l.length->(l.getD j sNil).size<1099511627776:=fun j hj=>by rw[hs _ (pR hj)];decide
  have hnd:=fun H=>aAb (l.getD (2*k) sNil) (l.getD (2*k+1) sNil) false H (hn _ (by omega)) (hn _ (by omega));simp only[Bool.false_eq_true,if_false]at hnd;obtain ⟨p0,p1⟩:=YK (W:=l) (j:=k) (by omega);have hfl:=aAH l k;refine .inl ⟨904,0,rfl,?_⟩;refine RG [(3,.ref 3 0 0 0),(4,.pv (bA (BN l k)))] (upK l (upS l k)) hx1 hx2 hx3 hx4 hx5 hx6 rfl rfl rfl ?_ ?_
  ·refine Rg<|Da ?_;exact(dA.wk (Ea<|Eb<|trivial) (Hc (lC (by intro p hp;simp only[upE,aP6,aPa,or_false]at hp;subst hp;simp only[rU];rfl))<|Hc (cE _ _)<|Ha<|Hc (TG _)<|Hc (TF _ _)<|trivial) ⟨rfl,rfl,rfl,rfl,rfl,trivial⟩)
  rw[aDS,aGh];refine aG<|aN follows<|Cr [3] (fun _ h=>lh aF h)<|Cr [] (fun _ _=>aE)<|Cr [] (fun H1 hH=>by exact bP rfl cB rfl rfl (by omega) (by exact aP5 _) p0 rfl)<|Cr [] (fun _ _=>(iJ isAgg9 (hi:=p0)))<|Cr [] (fun _ _=>aE)<|Cr [] (fun H1 hH=>by exact bP rfl cB rfl rfl (by omega) (by exact aP5 _) p1 rfl)<|Cr [] (fun _ _=>(iJ isAgg9 (hi:=p1)))<|Cr [] (fun H1 hH=>by exact aA rfl rfl call95 rfl (hnd _))<|Cr [] (fun H1 hH=>by exact aR [[.str (upA l k)]] rfl cB rfl rfl rfl rfl rfl (by intro r hr;rw[aPX]at hr;subst hr;rfl))<|Cp [905] (fun H1 hH=>by exact dL (ps:=[[.str (upA l k)]]) rfl cB EF rfl ((hH _ rfl).trans rfl) rfl rfl rfl (kQ _) rfl (by intro r hr;rw[aPX]at hr;subst hr;rfl) (m:=1) rfl (by omega) rfl (mF (upS l k) (upA l k))) ?_;refine Cp [3] (fun H1 hH=>by exact cM rfl sizeOf22 rfl rfl rfl rfl ((hH _ rfl).trans rfl) rfl rfl rfl)<|bL<|Kr ?_;exact⟨[(905,⟨(upS l k).length+1,1,9,dF (upS l k++[upA l k])⟩),(3,bx 1 22 [.osl 905 ((upS l k).length+1) 0 ((upS l k).length+1)]),(932,cNZ),(931,cSZ l)],(dA.wk trivial (Hc (lC (by intro p hp;simp only[upE,aP6,aPa,or_false]at hp;subst hp;simp only[rU];rfl))<|Hc (cE _ _)<|Ha<|Hc (TG _)<|Hc (TF _ _)<|trivial) ⟨rfl,rfl,rfl,rfl,rfl,trivial⟩),rfl,rfl⟩
 rintro r H' ⟨rfl,rfl⟩;refine⟨x,_,rfl,by rw[hx1];decide,rfl,fun z=>?_⟩;rw[hx2,aGg hl];obtain ⟨out,hout⟩:∃out,out=RM l:=⟨_,rfl⟩;rw[<-hout];have hol:(out.map encStr).length=out.length:=aPU _;refine gR.ent (dA.fzG (id:=905) (E':=[(3,.ref 3 0 0 0)]) (H':=[(3,bx 1 22 [.pv (bA out)])]) (out.map encStr) rfl (gC _) ?_ rfl ?_ ?_) ?_
 ·intro p hp;simp only[aP6,aPa,or_false]at hp;rcases hp with rfl;exact⟨_,rfl,.same (by simp;rfl)⟩
 ·refine⟨⟨_,rfl,rfl,rfl,rfl,qM rfl (dR (.osl ?_) qN)⟩,trivial⟩;rw[aPc,List.drop_zero,<-hol,List.take_length]
 ·exact trivial
 exact Sr<|Dd (bC aF)<|Dd aL<|Zz<|aB<|Rt<|Qq
def S0(s:ByteArray)(n k:Nat):List ByteArray:=(List.range n).map fun j=>if j<k then S1 s j else sNil
theorem F0(s:ByteArray)(n k:Nat):(S0 s n k).length=n:=by simp[S0]
theorem SZ(s:ByteArray)(h:j<n):(S0 s n k)[j]?=some (if j<k then S1 s j else sNil):=by rw[S0,aPe,List.getElem?_range h];rfl
theorem aII(s:ByteArray)(h:k<n):(S0 s n k).set k (S1 s k)=S0 s n (k+1):=by
 apply List.ext_getElem?;intro j;by_cases hj:j<n
 ·rw[SZ s hj];by_cases e:k=j
  ·subst e;rw[List.getElem?_set_self (by rw[F0];exact h),aPT (Nat.lt_succ_self _)]
  rw[List.getElem?_set_ne e,SZ s hj];by_cases h1:j<k
  ·rw[aPT h1,aPT (by omega)]
  rw[aPS h1,aPS (by omega)]
 rw[List.getElem?_eq_none (by rw[List.length_set,F0];omega),List.getElem?_eq_none (by rw[F0];omega)]
theorem aEq(s:ByteArray)(n:Nat):S0 s n 0=List.replicate n sNil:=by rw[S0];simp only[Nat.not_lt_zero,if_false];rw[List.map_const',List.length_range]
theorem aIJ(s:ByteArray)(h:Nat):S0 s (2 ^ h) (2 ^ h)=mS s h:=by rw[S0,mS];refine List.map_congr_left fun j hj=>?_;rw[aPT (List.mem_range.1 hj)]
theorem aBT(n:Nat):dF (List.replicate n sNil)=List.replicate n [sv sNil]:=by rw[dF,List.map_replicate]
theorem aBS(l:List ByteArray)(k:Nat)(x:ByteArray):(dF l).set k [sv x]=dF (l.set k x):=by rw[dF,dF,List.map_set]
theorem sZ(hh:h<=8):2 ^ h<=256:=Nat.pow_le_pow_right (by decide) hh
theorem aGt(hh:h<=8):IntKind.i64.wrap (1*2 ^ ((h:Int)).toNat)=((2 ^ h:Nat):Int):=by have:=sZ hh;rw[aP5,Int.one_mul,show (2:Int) ^ h=((2 ^ h:Nat):Int)by exact_mod_cast rfl];generalize 2 ^ h=n at this |-;rw[kK (by omega) (by omega)]
theorem aAk(s:ByteArray)(h:Nat)(H:aH)(hs:s.size<1099511627776)(hh:h<=8):aI Tryz.prog 86 [sv s,iv (h:Int)] H (fun r H'=>r=.pv (bA (mS s h))/\H'=H):=by
 refine Pu ?_;have hp:=sZ hh;have hz:=aBT (2 ^ h);rw[<-aEq s]at hz;rw[<-aIJ];obtain ⟨n,hn⟩:∃n,n=2 ^ h:=⟨_,rfl⟩;have hsh:=aGt hh;rw[<-hn]at hp hz hsh |-;refine Bd func86 rfl ntmps86<|Sr<|Dd aL<|Zz<|Sr<|Dd aE<|Dd (by exact FH rfl rfl rfl (by omega) (by simp[IntKind.bits];omega) hsh)<|Dd (by exact BF (id:=905) rfl cB EF zo9 rfl rfl rfl (by omega) (by omega) (aP5 _) (aP5 _) (by omega) rfl)<|Dd aL<|Zz<|Sq<|Sr<|Dd aE<|Dd (by exact eF rfl aD rfl rfl rfl)<|Dd aE<|Zz<|aG ?_;refine bT (σ:=Nat) (fun k=>([(0,sv s),(5,.osl 905 0 0 n),(11,iv (n:Int)),(12,iv (k:Int))],[(905,⟨0,1,9,dF (S0 s n k)⟩)])) (fun k=>k<=n) (fun k=>n - k) 0 (aPb _) ?_ ?_
 ·rw[hz];exact Wk
 intro k hk;have hln:=F0 s n k;refine Sr<|Dd cZ<|Zz<|Sq ?_;refine Cn ?_ ?_<;>intro hc1
 ·have hlt:k<n:=by have:=aPQ hc1;omega
  have hrow:(dF (S0 s n k))[k]?=some [sv sNil]:=by
   rw[dF,aPe,SZ s hlt,aPS (Nat.lt_irrefl _)];rfl
  have hset:(dF (S0 s n k)).set k [sv (S1 s k)]=dF (S0 s n (k+1)):=by rw[aBS,aII s hlt]
  refine aC<|Sq<|aG<|Sr<|Dd aE<|Dd aL<|Zz<|Rg<|Dd aE<|Dd aE<|Dd aE<|Dd aE<|Dd (by exact aA rfl rfl call136 rfl (aKq s k _ hs (by omega)))<|Dd (by exact dP rfl cB rfl rfl rfl rfl rfl (by omega) (by exact aP5 _) (by omega) rfl)<|Uu (by exact bH (r:=[sv sNil]) (r':=[sv (S1 s k)]) (rows':=dF (S0 s n (k+1))) rfl sizeOf9 rfl rfl rfl rfl rfl (by rw[aPc];exact hrow) (by simp) rfl (by rw[aPc];exact hset))<|Zz<|Rg<|Dd (by exact bZ rfl rfl rfl (show IntKind.i64.wrap ((k:Int)+1)=((k+1:Nat):Int)by rw[kK (by omega) (by omega)];omega))<|Dd aE<|Zz ?_;exact⟨k+1,by omega,by omega,(dA.wk (Eb<|Ea<|Eb<|Eb<|trivial) (Hc (cE _ _)<|trivial) trivial)⟩
 have hge:k=n:=by have:=aPR hc1;omega
 subst hge;have htk:((S0 s k k).map encStr).take k=(S0 s k k).map encStr:=List.take_of_length_le (by rw[aPU,F0];exact aP0 _);refine aY<|Sr<|Dd aE<|Dd aL<|Zz<|aB ?_;refine eG (H':=[]) (.inr rfl) rfl (bD rfl) (Fin.fz (r':=.pv (bA (S0 s k k))) (id:=905) ((S0 s k k).map encStr) rfl (gC _) (.osl (by rw[aPc,List.drop_zero,htk])) rfl trivial trivial) ?_;exact Qq
theorem XW(s:ByteArray)(h:Nat)(H:aH)(hs:s.size<1099511627776)(hh:h<=8):aI Tryz.prog 25 [sv s,iv (h:Int)] H (fun r H'=>r=.tup [sv (uD s h),iv 0]/\H'=H):=by
 refine Pu ?_;refine Bd func25 rfl ntmps25<|Sr<|Dd aL<|Dd aL<|Zz<|Sq<|Sq ?_;refine aT (t:=12) (n:=7) (X:=decide ((h:Int)<0)||decide (8<(h:Int))) ?_ ?_
 ·all_goals refine Dd aE ?_
  all_goals refine Dd cZ<|Dm ?_
  all_goals refine Sp 9 (fun h9=>?_) fun h9=>?_
  all_goals try contradiction
  all_goals refine On aE<|On iE<|Dd cG<|Zz ?_
  all_goals(exact⟨⟨_,rfl,by rfl⟩,rfl,rfl,rfl⟩)
 refine Cn ?_ ?_<;>intro hc1
 ·have hb:=hc1;exact absurd (by simpa using hb) (show ¬ ((h:Int)<0\/8<(h:Int))by omega)
 refine aC<|Sr<|Dd aE<|Dd aE<|Dd (by exact aA rfl rfl call86 rfl (aAk s h _ hs hh))<|Dd aL<|Zz<|Sq<|aG ?_;refine jA (fun(j:Nat) (l:List ByteArray)=>([(6,.pv (bA l))],[])) (fun j l=>l.length=2 ^ j/\PI j l=uD s h/\(∀t∈l,t.size=16)/\j<=8) (fun j l=>j) h (mS s h) ⟨yD s h,rfl,fun t ht=>uP (CX s h t ht),hh⟩ ?_ ?_
 ·exact Wk
 rintro j l ⟨hl,hr,hz,hj⟩;have hml:(l.map encStr).length=l.length:=aPU _;have hp:=sZ hj;refine Sq<|Sr<|Dd aE<|Dd (fE aD)<|Dd iE<|Zz ?_;refine Cn ?_ ?_<;>intro hc2
 ·have hlt:1<l.length:=by have:=aPQ hc2;omega
  obtain ⟨i,rfl⟩:∃i,j=i+1:=by
   cases j with
   |zero=>rw[hl]at hlt;exact absurd hlt (by decide)
   |succ i=>exact⟨i,rfl⟩
  have hl2:l.length=2*2 ^ i:=by rw[hl,Nat.pow_succ,Nat.mul_comm]
  have hpi:=sZ (h:=i) (by omega);refine aC<|aG<|Rg<|Dd aE<|Dd (by exact aA rfl rfl call87 rfl (aBJ l (2 ^ i) _ hl2 (by omega) hz))<|Da ?_;exact⟨i,RM l,⟨CM _ _ hl2,hr,fun t ht=>uP (JY _ _ (aP0 _) t ht),by omega⟩,by omega,Wk⟩
 have hge:l.length<=1:=by have:=aPR hc2;omega
 have hj0:j=0:=by
  cases j with
  |zero=>rfl
  |succ i =>
   have:2 ^ (i+1)=2*2 ^ i:=by rw[Nat.pow_succ,Nat.mul_comm]
   have:0<2 ^ i:=Nat.two_pow_pos i;omega
 subst hj0;obtain ⟨a,rfl⟩:∃a,l=[a]:=List.length_eq_one_iff.1 hl;have ha:a=uD s h:=hr;subst ha;have hi:([uD s h].map encStr)[0]?=some (encStr (uD s h)):=rfl;exact aY<|Sr<|Dd aE<|Dd (by exact bP rfl cB rfl rfl (by omega) (by exact aP5 _) hi rfl)<|Dd (iJ isAgg9 (hi:=hi))<|Dd aL<|Dd aL<|Zz<|aB<|Ru<|Qq
abbrev HXJ:ByteArray:=⟨#[48,49,50,51,52,53,54,55,56,57,97,98,99,100,101,102]⟩
theorem aFE(h:n<16):Lib.indexByte HXJ.data.toList (sM n).toNat.toUInt8=(n:Int):=by revert h;revert n;decide
theorem ZR(m:ByteArray)(hk:k<16):cP (qS m) k=sM (MH (stJ m) k):=by have hb:=aAp (BU (stJ m) k);have e:(qS m).data.toList=uS (stJ m):=rfl;rw[cP,e,uS,aPe,List.getElem?_range hk];show ((UInt8.ofNat (sM (MH (stJ m) k)).toNat).toNat:Int)=_;rw[UInt8.toNat_ofNat',Nat.mod_eq_of_lt (by omega),Int.toNat_of_nonneg hb.1]
theorem aF4(m:ByteArray)(hk:k<16):(dJ m)[k]?=some (MH (stJ m) k):=by rw[dJ,aPe,List.getElem?_range hk];rfl
theorem aI4(m:ByteArray)(hk:k<16):(GS m).getD k 0=MH (stJ m) k:=by rw[List.getD_eq_getElem?_getD,GS,List.getElem?_append_left (by rw[CA];exact hk),aF4 m hk];rfl
theorem aLF(m:ByteArray):(GS m).getD 16 0=BL m / 16:=by rw[List.getD_eq_getElem?_getD,GS,List.getElem?_append_right (by rw[CA];exact aP0 _),CA];rfl
theorem aLE(m:ByteArray):(GS m).getD 17 0=BL m % 16:=by rw[List.getD_eq_getElem?_getD,GS,List.getElem?_append_right (by rw[CA];decide),CA];rfl
def DJ(m:ByteArray)(k:Nat):Nat:=(((dJ m).take k).map (15 - ·)).sum
theorem X9(m:ByteArray)(hk:k<16):DJ m (k+1)=DJ m k+(15 - MH (stJ m) k):=by rw[DJ,List.take_add_one,aF4 m hk,List.map_append,List.sum_append];rfl
theorem aDl(m:ByteArray)(k:Nat):DJ m k<=240:=by
 have h:=K9 ((dJ m).take k);have h2:((dJ m).take k).length<=16:=by rw[aP8,CA];omega
 rw[DJ];omega
theorem aBj(m:ByteArray):DJ m 16=BL m:=by rw[DJ,List.take_of_length_le (by rw[CA];exact aP0 _),BL]
def MI(m:ByteArray):Ob:=bx 1 9 [sv m]
theorem QW(m:ByteArray)(H:aH)(h1:H.get 961=none):aI Tryz.prog 92 [sv m] H (fun r H'=>r=.clo 139 [.ref 961 0 0 0]/\H'=(961,MI m)::H):=by refine Bd func92 rfl ntmps92<|Sr<|Dd (by exact cD (id:=961) rfl rfl rfl rfl h1)<|Dd aL<|Zz<|Sr<|Dd (by exact gJ rfl rfl)<|Dd aL<|Zz<|aB ?_;refine eG (H':=((961,MI m)::H)) (.inr rfl) rfl (bD rfl) Fin.refl ?_;exact Qq
theorem QX(m:ByteArray)(fv:AV)(Hs:Nat->aH)(hm:m.size<1099511627776)(h1:∀k,(Hs k).get 961=some (MI m))
  (hy:∀k:Nat,k<18->dK Tryz.prog fv [iv (k:Int),iv (((GS m).getD k 0:Nat):Int)] (Hs k) (fun r H'=>r=bv true/\H'=Hs (k+1))) :
  aI Tryz.prog 139 [fv,.ref 961 0 0 0] (Hs 0) (fun r H'=>r=.tup []/\H'=Hs 18):=by
 have hsz:=jJ m;have hsum:=fun H=>UG m H (by omega);have y16:=hy 16 (by decide);have y17:=hy 17 (by decide);have hle:=US m;rw[aLF]at y16;rw[aLE]at y17;refine Bd func139 rfl ntmps139<|Sr<|Dd aL<|Zz<|Sr<|Dd (by exact aK rfl isAgg9 rfl (h1 0) rfl rfl rfl)<|Dd (by exact aA rfl rfl TU rfl (hsum _))<|Dd aL<|Zz<|Sq<|Sr<|Dd aE<|Dd (jV underlying9)<|Dd aE<|Zz<|aG ?_;refine bT (σ:=Nat) (fun k=>([(0,fv),(1,.ref 961 0 0 0),(3,iv (DJ m k:Int)),(4,sv (qS m)),(10,iv 16),(11,iv (k:Int))],Hs k)) (fun k=>k<=16) (fun k=>16 - k) 0 (aPb _) ?_ ?_
 ·rw[hsz];exact E0
 intro k hk;have hyk:=fun(h:k<16)=>hy k (by omega);refine Sr<|Dd cZ<|Zz<|Sq ?_;refine Cn ?_ ?_<;>intro hc1
 ·have hlt:k<16:=by have:=aPQ hc1;omega
  have hyk:=hyk hlt;rw[aI4 m hlt]at hyk;have hnl:=BU (stJ m) k;have hr1:=aDl m k;have hr2:=X9 m hlt;have hib:=fun H=>pQ HXJ (sM (MH (stJ m) k)) H;rw[aFE hnl]at hib;refine aC<|Sq<|aG<|Sr<|Dd aE<|Dd aL<|Zz<|Sr<|Dd aE<|Dd aE<|Dd (by exact dO rfl underlying9 rfl rfl (by omega) (aP5 _) (by omega) (ZR m hlt))<|Dd (by exact aA rfl rfl xI rfl (hib _))<|Dd aL<|Zz<|Sr<|Dd aE<|Dd aE<|Dd (by exact dW rfl rfl rfl (show IntKind.i64.wrap (15 - (MH (stJ m) k:Int))=((15 - MH (stJ m) k:Nat):Int)by rw[kK (by omega) (by omega)];omega))<|Dd (by exact bZ rfl rfl rfl (show IntKind.i64.wrap ((DJ m k:Int)+((15 - MH (stJ m) k:Nat):Int))=(DJ m (k+1):Int)by rw[kK (by omega) (by omega)];omega))<|Dd aL<|Zz<|Sr<|Dd aE<|Dd aE<|Dd aE<|Dd (by exact cU rfl rfl rfl (hyk))<|Dd iQ<|Zz ?_;refine Cn ?_ ?_<;>intro hc2
  ·cases hc2
  refine aC<|Rg<|Dd (by exact bZ rfl rfl rfl (show IntKind.i64.wrap ((k:Int)+1)=((k+1:Nat):Int)by rw[kK (by omega) (by omega)];omega))<|Dd aE<|Zz ?_;exact⟨k+1,by omega,by omega,E0⟩
 have hge:k=16:=by have:=aPR hc1;omega
 subst hge;rw[aBj];refine aY<|Sr<|Dd aE<|Dd aE<|Dd (by exact zK rfl rfl rfl (by decide) (show IntKind.i64.wrap (((BL m:Nat):Int).tdiv 16)=((BL m / 16:Nat):Int)by rw[Int.tdiv_eq_ediv_of_nonneg (by omega),kK (by omega) (by omega)];omega))<|Dd (by exact cU rfl rfl rfl (y16))<|Zz ?_;refine Cn ?_ ?_<;>intro hc3
 ·refine Rg<|Dd aE<|Dd aE<|Dd (by exact wB rfl rfl rfl (by decide) (show ((BL m:Nat):Int).tmod 16=((BL m % 16:Nat):Int)by rw[Int.tmod_eq_emod_of_nonneg (by omega)];omega))<|Dd (by exact cU rfl rfl rfl (y17))<|Zz ?_;exact sI (H':=Hs 18) (.inl rfl) rfl Fin.refl ⟨rfl,rfl⟩
 cases hc3
theorem aG8{a b:Nat}(ha:a<4611686018427387904)(hb:b<4611686018427387904):bits .xor .i64 (a:Int) (b:Int)=((a ^^^ b:Nat):Int):=by have h:=Nat.xor_lt_two_pow (n:=62) ha hb;have ha':a % 2 ^ IntKind.i64.bits=a:=Nat.mod_eq_of_lt (Nat.lt_of_lt_of_le ha (by decide));have hb':b % 2 ^ IntKind.i64.bits=b:=Nat.mod_eq_of_lt (Nat.lt_of_lt_of_le hb (by decide));simp only[bits,BitVec.ofInt_natCast,BitVec.toNat_xor,BitVec.toNat_ofNat,ha',hb'];rw[kK (by omega) (by omega)]
theorem aI5{p:Prop}[Decidable p](h:¬ p):AV.pv (.bool (decide p))=bv false:=by rw[decide_eq_false h]
def sgP(s:ByteArray)(i:Nat)(m:ByteArray)(k:Nat):List ByteArray:=(List.range k).map fun k=>BC (lK s i k) ((GS m).getD k 0)
theorem aDb(s:ByteArray)(i:Nat)(m:ByteArray)(k:Nat):sgP s i m (k+1)=sgP s i m k++[BC (lK s i k) ((GS m).getD k 0)]:=by rw[sgP,List.range_succ,List.map_append];rfl
theorem aGv(s:ByteArray)(i:Nat)(m:ByteArray)(k:Nat):(sgP s i m k).length=k:=by simp[sgP]
theorem cS.eqJ{P:Program}{N:Nat}{o:Oper}{E:dB}{H H2:aH}{v v':AV}(h:cS P N o E H v H2)(e:v=v'):cS P N o E H v' H2:=e▸h
def sgE:dB:=[(4,.ref 4 0 0 0),(6,.ref 6 0 0 0),(10,.ref 10 0 0 0)]
def sgT(s:ByteArray)(i:Nat):aH:=[(8,bx 3 25 [iv 0,.pv (.sl []),.pv (.sl [])]),(6,bx 1 3 [iv (i:Int)]),(4,bx 1 9 [sv s])]
def sgK(s:ByteArray)(i:Nat)(m:ByteArray)(L:List ByteArray):aH:=[(905,⟨L.length,1,9,dF L⟩),(10,bx 3 25 [iv (i:Int),.osl 905 L.length 0 L.length,.pv .nils]),(961,MI m),(8,bx 3 25 [iv 0,.pv (.sl []),.pv (.sl [])]),(6,bx 1 3 [iv (i:Int)]),(4,bx 1 9 [sv s])]
theorem aGw(s:ByteArray)(i:Nat)(m:ByteArray)(L:List ByteArray)(x:ByteArray):sgK s i m (L++[x])=[(905,⟨L.length+1,1,9,dF (L++[x])⟩),(10,bx 3 25 [iv (i:Int),.osl 905 (L.length+1) 0 (L.length+1),.pv .nils]),(961,MI m),(8,bx 3 25 [iv 0,.pv (.sl []),.pv (.sl [])]),(6,bx 1 3 [iv (i:Int)]),(4,bx 1 9 [sv s])]:=by simp[sgK]
theorem xZ(H:aH)(m:ByteArray):∀r∈(MI m).rows,∀a∈r,Clo H a:=by intro r hr a ha;simp only[MI,bx,aPX]at hr;subst hr;rw[aPX]at ha;subst ha;simp
theorem aGs(s m:ByteArray)(h i:Nat)(H:aH)(hs:s.size<1099511627776)(hm:m.size<1099511627776)(hh:h<=8)(hi:i<2 ^ h):
  aI Tryz.prog 32 [sv s,iv (h:Int),iv (i:Int),sv m] H (fun r H'=>r=.tup [.agg [iv (i:Int),.pv (bA (E5 s i m)),.pv (bA (nI h (mS s h) i))],iv 0]/\H'=H):=by
 refine Pu ?_;have hp:=sZ hh;have hsh:=aGt hh;have hkeys:=fun H=>aAk s h H hs hh;have hkl:=yD s h;have hpath:∀L,L=nI h (mS s h) i->True:=fun _ _=>trivial;refine Bd func32 rfl ntmps32<|Sr<|Dd (by exact cD (id:=4) rfl rfl rfl rfl rfl)<|Dd (by exact cD (id:=6) rfl rfl rfl rfl rfl)<|Dd (by exact bW (id:=8) rfl aBO rfl rfl)<|Dd aL<|Zz<|Sq<|Sq<|aN follows<|Cq aE<|Cq (by exact cS.eqJ (qC rfl rfl rfl) (aI5 (by omega)))<|Cq aE<|Nf aE<|Nf (by exact cS.eqJ (FM rfl rfl rfl) (aI5 (by omega)))<|Cq cG<|Cq aE<|Nf (bC isAgg3)<|Nf (by exact cS.eqJ (qC rfl rfl rfl) (aI5 (by omega)))<|Cq cG<|Cq aE<|Nf (bC isAgg3)<|Nf aE<|Nf (by exact FH rfl rfl rfl (by omega) (by simp[IntKind.bits];omega) hsh)<|Nf (by exact cS.eqJ (mQ rfl rfl rfl) (aI5 (by omega)))<|Cq cG<|bL<|Kr ?_;refine Cn ?_ ?_<;>intro hc1
 ·cases hc1
 refine aC<|Sr<|Dd (bC isAgg3)<|Dd (vC aNM)<|Dd (by exact bW (id:=10) rfl aBO rfl rfl)<|Uu (lG sizeOf25)<|Zz<|Sq<|Sr<|Dd aE<|Dd (by exact aA rfl rfl call92 rfl (QW m _ rfl))<|Zz<|aG ?_;refine gR.ent (E':=[(1,iv (h:Int)),(4,.ref 4 0 0 0),(6,.ref 6 0 0 0),(8,.ref 8 0 0 0),(10,.ref 10 0 0 0),(35,.clo 139 [.ref 961 0 0 0])]) (H':=sgK s i m []) ?_ ?_
 ·exact(dA.nz 905 1 9 rfl rfl ⟨⟨_,rfl,(by exact Nz.same (by(simp;done)))⟩,⟨_,rfl,(by exact Nz.same (by(simp;rfl)))⟩,⟨_,rfl,(by exact Nz.same (by(simp;rfl)))⟩,⟨_,rfl,(by exact Nz.same (by(simp;rfl)))⟩,⟨_,rfl,(by exact Nz.same (by(simp;rfl)))⟩,⟨_,rfl,(by exact Nz.same (by(simp;rfl)))⟩,trivial⟩ ⟨⟨_,rfl,rfl,rfl,rfl,(by exact .inr ⟨_,_,rfl,rfl,(by repeat(first|exact trivial|refine⟨(by first|exact Nz.own|exact Nz.same (by(simp;done))),?_⟩))⟩)⟩,⟨_,rfl,rfl,rfl,rfl,(by exact .inl ⟨rfl,(by exact xZ _ _)⟩)⟩,⟨_,rfl,rfl,rfl,rfl,(by exact .inl ⟨rfl,(by(simp;done))⟩)⟩,⟨_,rfl,rfl,rfl,rfl,(by exact .inl ⟨rfl,(by(simp;done))⟩)⟩,⟨_,rfl,rfl,rfl,rfl,(by exact .inl ⟨rfl,(by(simp;done))⟩)⟩,trivial⟩ trivial)
 refine NJ (id:=904) (p:=36) (p2:=37) sgE rfl call139 rfl rfl (by simp[sgE];exact⟨rfl,rfl,rfl⟩) ?_;intro x hx1 hx2 hx3 hx4 hx5 hx6;refine(QX m (.yld 904 0) (fun k=>(904,LR x sgE)::sgK s i m (sgP s i m k)) hm (fun k=>rfl) ?_).mono ?_
 ·intro k hk;have hd:=ZM m _ (pR (d:=0) (by rw[KK];exact hk));have hst:=fun H=>aAO s i k H hs (by omega) (by omega);have hfl:=aGv s i m k;have hnx:=aDb s i m k;have hch:=fun H=>TD (lK s i k) ((GS m).getD k 0) H (by rw[BJ];decide) (by omega);obtain ⟨d,hdd⟩:∃d,d=(GS m).getD k 0:=⟨_,rfl⟩;rw[<-hdd]at hd hnx hch |-;refine .inl ⟨904,0,rfl,?_⟩;refine Z7 [(4,.ref 4 0 0 0),(6,.ref 6 0 0 0),(10,.ref 10 0 0 0),(11,iv (k:Int)),(12,iv (d:Int))] (sgK s i m (sgP s i m k)) hx1 hx2 hx3 hx4 hx5 hx6 rfl rfl rfl rfl rfl ?_ ?_
  ·refine Sr<|Dd aL<|Zz<|Rg<|Da ?_;exact(dA.wk (Ea<|Ea<|Ea<|Eb<|Eb<|trivial) (Hc (lC (by intro p hp;simp only[sgE,aP6,aPa,or_false]at hp;rcases hp with rfl|rfl|rfl<;>(simp only[rU];rfl)))<|Hc (cE _ _)<|Ha<|Hc (xZ _ _)<|Hb<|Hb<|Hb<|trivial) ⟨rfl,rfl,rfl,rfl,rfl,rfl,rfl,trivial⟩)
  rw[hnx,aGw];refine aG<|aN follows<|Cr [10] (fun _ h=>fh iS h)<|Cr [10] (fun _ h=>lh aF h)<|Cr [4] (fun _ h=>lh isAgg9 h)<|Cr [6] (fun _ h=>lh isAgg3 h)<|Cr [] (fun _ _=>aE)<|Cr [] (fun H1 hH=>by exact aA rfl rfl call96 rfl (hst _))<|Cr [] (fun _ _=>aE)<|Cr [] (fun H1 hH=>by exact aA rfl rfl aPD rfl (hch _))<|Cr [] (fun H1 hH=>by exact aR [[.str (BC (lK s i k) d)]] rfl cB rfl rfl rfl rfl rfl (by intro r hr;rw[aPX]at hr;subst hr;rfl))<|Cp [905] (fun H1 hH=>by exact dL (ps:=[[.str (BC (lK s i k) d)]]) rfl cB EF rfl ((hH _ rfl).trans rfl) rfl rfl rfl (kQ _) rfl (by intro r hr;rw[aPX]at hr;subst hr;rfl) (m:=1) rfl (by omega) rfl (mF (sgP s i m k) (BC (lK s i k) d)))<|Cr [10] (fun _ h=>fh iS h)<|Cp [10] (fun H1 hH=>by exact bH rfl sizeOf22 rfl rfl rfl ((hH _ rfl).trans rfl) rfl rfl (by simp only[aPW,List.length_nil];omega) (by simp only[Zl,encStr];rfl) (by simp only[Zl,encStr];rfl)) ?_;refine bL<|Kr ?_;exact⟨[(905,⟨(sgP s i m k).length+1,1,9,dF (sgP s i m k++[BC (lK s i k) d])⟩),(10,bx 3 25 [iv (i:Int),.osl 905 ((sgP s i m k).length+1) 0 ((sgP s i m k).length+1),.pv .nils]),(961,MI m),(8,bx 3 25 [iv 0,.pv (.sl []),.pv (.sl [])]),(6,bx 1 3 [iv (i:Int)]),(4,bx 1 9 [sv s])],(dA.wk trivial (Hc (lC (by intro p hp;simp only[sgE,aP6,aPa,or_false]at hp;rcases hp with rfl|rfl|rfl<;>(simp only[rU];rfl)))<|Hc (cE _ _)<|Ha<|Hc (xZ _ _)<|Hb<|Hb<|Hb<|trivial) ⟨rfl,rfl,rfl,rfl,rfl,rfl,rfl,trivial⟩),rfl,rfl⟩
 rintro r H' ⟨rfl,rfl⟩;refine⟨x,_,rfl,by rw[hx1];decide,rfl,fun z=>?_⟩;rw[hx2,show sgP s i m 18=E5 s i m from rfl];obtain ⟨S,hS⟩:∃S,S=E5 s i m:=⟨_,rfl⟩;rw[<-hS];have hol:(S.map encStr).length=S.length:=aPU _;refine gR.ent (dA.fzG (id:=905) (E':=[(1,iv (h:Int)),(4,.ref 4 0 0 0),(6,.ref 6 0 0 0),(8,.ref 8 0 0 0),(10,.ref 10 0 0 0)]) (H':=(10,bx 3 25 [iv (i:Int),.pv (bA S),.pv .nils])::sgT s i) (S.map encStr) rfl (gC _) ?_ rfl ?_ ?_) ?_
 ·intro p hp;simp only[aP6,aPa,or_false]at hp;rcases hp with rfl|rfl|rfl|rfl|rfl
  ·exact⟨_,rfl,.same (by simp)⟩
  ·exact⟨_,rfl,.same (by simp;rfl)⟩
  ·exact⟨_,rfl,.same (by simp;rfl)⟩
  ·exact⟨_,rfl,.same (by simp;rfl)⟩
  exact⟨_,rfl,.same (by simp;rfl)⟩
 ·refine⟨⟨_,rfl,rfl,rfl,rfl,qM rfl (dR (.same (by simp)) (dR (.osl ?_) (dR (.same (by simp)) qN)))⟩,⟨_,rfl,rfl,rfl,rfl,iD (by simp)⟩,⟨_,rfl,rfl,rfl,rfl,iD (by simp)⟩,⟨_,rfl,rfl,rfl,rfl,iD (by simp)⟩,trivial⟩;rw[aPc,List.drop_zero,<-hol,List.take_length]
 ·exact trivial
 refine Sq<|Sq<|aN follows<|Cq (bC isAgg9)<|Cq aE<|Cq (by exact aA rfl rfl call86 rfl (hkeys _))<|Cq (bC isAgg3)<|Cq aL<|Cq aL<|bL<|Kr<|aG ?_;refine gR.ent (E':=[(8,.ref 8 0 0 0),(10,.ref 10 0 0 0),(13,.pv (bA (mS s h))),(14,iv (i:Int))]) (H':=(906,⟨0,1,9,[]⟩)::(10,bx 3 25 [iv (i:Int),.pv (bA S),.osl 906 0 0 0])::sgT s i) ?_ ?_
 ·exact(dA.nz 906 1 9 rfl rfl ⟨⟨_,rfl,(by exact Nz.same (by(simp;rfl)))⟩,⟨_,rfl,(by exact Nz.same (by(simp;rfl)))⟩,⟨_,rfl,(by exact Nz.same (by(simp;done)))⟩,⟨_,rfl,(by exact Nz.same (by(simp;done)))⟩,trivial⟩ ⟨⟨_,rfl,rfl,rfl,rfl,(by exact .inr ⟨_,_,rfl,rfl,(by repeat(first|exact trivial|refine⟨(by first|exact Nz.own|exact Nz.same (by(simp;done))),?_⟩))⟩)⟩,⟨_,rfl,rfl,rfl,rfl,(by exact .inl ⟨rfl,(by(simp;done))⟩)⟩,⟨_,rfl,rfl,rfl,rfl,(by exact .inl ⟨rfl,(by(simp;done))⟩)⟩,⟨_,rfl,rfl,rfl,rfl,(by exact .inl ⟨rfl,(by(simp;done))⟩)⟩,trivial⟩ trivial)
 refine Q8 (fun(j:Nat) (l:List ByteArray) (q:Nat) (A:List ByteArray)=>([(8,.ref 8 0 0 0),(10,.ref 10 0 0 0),(13,.pv (bA l)),(14,iv (q:Int))],[(906,⟨A.length,1,9,dF A⟩),(10,bx 3 25 [iv (i:Int),.pv (bA S),.osl 906 A.length 0 A.length]),(8,bx 3 25 [iv 0,.pv (.sl []),.pv (.sl [])]),(6,bx 1 3 [iv (i:Int)]),(4,bx 1 9 [sv s])]))
  (fun j l q A=>l.length=2 ^ j/\q<2 ^ j/\A++nI j l q=nI h (mS s h) i/\(∀t∈l,t.size=16)/\j<=8/\A.length+j<=8) (fun j l q A=>j) h (mS s h) i [] ⟨hkl,hi,rfl,fun t ht=>uP (CX s h t ht),hh,by rw[List.length_nil];omega⟩ ?_ ?_
 ·exact(dA.wk (Ea<|Ea<|Eb<|Eb<|trivial) (Hc (cE _ _)<|Ha<|Hb<|Hb<|Hb<|trivial) trivial)
 rintro j l q A ⟨hl,hq,hr,hz,hj,hA⟩;have hml:(l.map encStr).length=l.length:=aPU _;have hpj:=sZ hj;refine Sq<|Sr<|Dd aE<|Dd (fE aD)<|Dd iE<|Zz ?_;refine Cn ?_ ?_<;>intro hc2
 ·have hlt:1<l.length:=by have:=aPQ hc2;omega
  obtain ⟨u,rfl⟩:∃u,j=u+1:=by
   cases j with
   |zero=>rw[hl]at hlt;exact absurd hlt (by decide)
   |succ u=>exact⟨u,rfl⟩
  have hl2:l.length=2*2 ^ u:=by rw[hl,Nat.pow_succ,Nat.mul_comm]
  have hpu:=sZ (h:=u) (by omega);have hq2:q / 2<2 ^ u:=by rw[Nat.pow_succ]at hq;omega
  have hx:=RH q;have hxl:q ^^^ 1<l.length:=by
   rw[hx]
   split<;>omega
  have hix:(l.map encStr)[q ^^^ 1]?=some (encStr (l.getD (q ^^^ 1) sNil)):=by
   rw[aPe,List.getD_eq_getElem?_getD,aPZ hxl];rfl
  have hr2:(A++[l.getD (q ^^^ 1) sNil])++nI u (RM l) (q / 2)=nI h (mS s h) i:=by
   rw[<-hr,List.append_assoc];rfl
  obtain ⟨e,he⟩:∃e,e=l.getD (q ^^^ 1) sNil:=⟨_,rfl⟩;obtain ⟨y,hy⟩:∃y,y=q ^^^ 1:=⟨_,rfl⟩;have hxo:=aG8 (a:=q) (b:=1) (by omega) (by decide);rw[<-he]at hix hr2;rw[<-hy]at hix hxo hxl;have hnl:(A++[e]).length=A.length+1:=by rw[aPV];rfl
  refine aC<|Sq<|aG<|aN follows<|Cr [10] (fun _ h=>fh mN h)<|Cr [10] (fun _ h=>lh aF h)<|Cr [] (fun _ _=>aE)<|Cr [] (fun _ _=>aE)<|Cr [] (fun H1 hH=>by exact mC rfl (by simp) rfl rfl hxo)<|Cr [] (fun H1 hH=>by exact bP rfl cB rfl rfl (by omega) (by exact aP5 _) hix rfl)<|Cr [] (fun _ _=>(iJ isAgg9 (hi:=hix)))<|Cr [] (fun H1 hH=>by exact aR [[.str e]] rfl cB rfl rfl rfl rfl rfl (by intro r hr;rw[aPX]at hr;subst hr;rfl))<|Cp [906] (fun H1 hH=>by exact dL (ps:=[[.str e]]) rfl cB EF rfl ((hH _ rfl).trans rfl) rfl rfl rfl (kQ _) rfl (by intro r hr;rw[aPX]at hr;subst hr;rfl) (m:=1) rfl (by omega) rfl (mF A e))<|Cr [10] (fun _ h=>fh mN h)<|Cp [10] (fun H1 hH=>by exact bH rfl sizeOf22 rfl rfl rfl ((hH _ rfl).trans rfl) rfl rfl (by simp only[aPW,List.length_nil];omega) (by simp only[Zl,encStr];rfl) (by simp only[Zl,encStr];rfl)) ?_;refine bL<|Kr<|Rg<|Dd aE<|Dd (by exact aA rfl rfl call87 rfl (aBJ l (2 ^ u) _ hl2 (by omega) hz))<|Dd aE<|Dd (by exact zK rfl rfl rfl (by decide) (show IntKind.i64.wrap ((q:Int).tdiv 2)=((q / 2:Nat):Int)by rw[Int.tdiv_eq_ediv_of_nonneg (by omega),kK (by omega) (by omega)];omega))<|Dd aL<|Da ?_;refine⟨u,RM l,q / 2,A++[e],⟨CM _ _ hl2,hq2,hr2,fun t ht=>uP (JY _ _ (aP0 _) t ht),by omega,by omega⟩,by omega,?_⟩;dsimp only;rw[hnl];exact(dA.wk (Ea<|Ea<|Eb<|Eb<|trivial) (Hc (cE _ _)<|Ha<|Hb<|Hb<|Hb<|trivial) trivial)
 have hge:l.length<=1:=by have:=aPR hc2;omega
 have hj0:j=0:=by
  cases j with
  |zero=>rfl
  |succ u =>
   have:2 ^ (u+1)=2*2 ^ u:=by rw[Nat.pow_succ,Nat.mul_comm]
   have:0<2 ^ u:=Nat.two_pow_pos u;omega
 subst hj0;have hA2:A=nI h (mS s h) i:=by rw[<-hr,nI,List.append_nil]
 have hal:(A.map encStr).length=A.length:=aPU _;rw[<-hA2];refine aY<|Sq ?_;refine gR.ent (dA.fzG (id:=906) (E':=[(8,.ref 8 0 0 0),(10,.ref 10 0 0 0)]) (H':=(10,bx 3 25 [iv (i:Int),.pv (bA S),.pv (bA A)])::sgT s i) (A.map encStr) rfl (gC _) ?_ rfl ?_ ?_) ?_
 ·intro p hp;simp only[aP6,aPa,or_false]at hp;rcases hp with rfl|rfl
  ·exact⟨_,rfl,.same (by simp;rfl)⟩
  exact⟨_,rfl,.same (by simp;rfl)⟩
 ·refine⟨⟨_,rfl,rfl,rfl,rfl,qM rfl (dR (.same (by simp)) (dR (.same (by simp)) (dR (.osl ?_) qN)))⟩,⟨_,rfl,rfl,rfl,rfl,iD (by simp)⟩,⟨_,rfl,rfl,rfl,rfl,iD (by simp)⟩,⟨_,rfl,rfl,rfl,rfl,iD (by simp)⟩,trivial⟩;rw[aPc,List.drop_zero,<-hal,List.take_length]
 ·exact trivial
 refine Rg<|Dd (by exact aM rfl eC sizeOf25 rfl rfl rfl rfl (by simp only[Zl,encStr];rfl) rfl)<|Uu (lG sizeOf25)<|Dd aL<|Zz<|aB ?_;refine vI (H':=[]) (.inr rfl) rfl (gD rfl eC sizeOf25 rfl rfl rfl (by simp only[Zl,encStr];rfl) rfl) (bD rfl) (Fin.wk (by simp) trivial trivial) ?_;exact Qq
end Go.Proofs.YtmdicgjnmfolfaaGreatDoor
namespace Go.Abs
open Go.RowKit
theorem Rel.below{I}{ι}{H}{w w'}(d:Below w.heap.size w w')(f:Rel I ι H w):Rel I ι H w'/\Step I ι H w I ι H w':=by
 have g:=d.block;have e:Step I ι H w I ι H w':=by
  refine⟨d.os,d.tape,d.output,d.size,fun a ha _=>?_,fun _ h=>h,fun _ h=>.inl h,fun _ h=>.inl h,fun b d _=>g b d,fun _ o h=>⟨o,h,aP0 _,fun _=>⟨rfl,rfl,fun _=>aP0 _⟩⟩⟩;unfold World.frozen?
  simp_all
 refine⟨⟨fun b h=>?_,fun j o k=>?_,f.inj,e.glob f⟩,e⟩
 ·have:=f.imm b h;have:=d.size;omega
 exact(f.obj j o k).keep rfl (fun b c _ d=>⟨g b d,fun h=>h⟩) (fun r _ a _ v i=>i.mono f e)
end Go.Abs
namespace Go.Abs
open Go.Proofs
def aMz(v:Value):Prop:=∃t p,v=.iface t p
abbrev aCW:PV:=.sat aMz
def nY(s:ByteArray):Int×PV:=match Lib.atoiAll s.data.toList with
 |.ok v=>(v,HL)
 |.range=>(Lib.atoiSat s.data.toList,aCW)
 |_=>(0,aCW)
theorem atoi_c{P:Program}{ρ:Shelf.Ren}(L:LaysC.n172 P ρ){G1 G2:Nat}(B:(G1,GV.face)∈S3)(J:P.globalNamed "strconv.ErrSyntax" = some G1)(F:(G2,GV.face)∈S3)(M:P.globalNamed "strconv.ErrRange" = some G2)(s:ByteArray)(hs:s.size<1099511627776)(H:aH):
  aI P (ρ.f 172) [.pv (.str s)] H (fun r H'=>r=.tup [.pv (.int .i64 (nY s).1),.pv (nY s).2]/\H'=H):=by
 intro I D w R Q K S;obtain ⟨v,rfl⟩:∃v,R=#[v]:=by
  match R,K with
  |⟨[v]⟩,_=>exact⟨v,rfl⟩
 have e1:=(S 0 v _ rfl rfl).str_inv;subst e1;have j:∀(g:String) (G:Nat),(G,GV.face)∈S3->P.globalNamed g=some G->∃t p,w.var? P g=some #[.iface t p]:=fun g G X Z=>by
  obtain ⟨_,cs,t,f,l,q,p,V⟩:=Q.glob _ X;subst V;exact⟨q,p,by simp only[World.var?,Z,Option.bind_some,l]⟩
 have m:∀(n:Int) (x:Value) (a:PV) (d:World),RowKit.Below w.heap.size w d->(∀I H,VRel d I D H x (.pv a))->∃r H' E o O,(Ending.returned (.tuple #[.int .i64 n,x]))=.returned O/\(r=.tup [.pv (.int .i64 n),.pv a]/\H'=H)/\VRel d E o H' O r/\Rel E o H' d/\Step I D H w E o H' d:=fun n x a d u U=>by
  obtain ⟨Y,W⟩:=Rel.below u Q;refine⟨_,_,I,D,_,rfl,⟨rfl,rfl⟩,.tup rfl fun i v b y l=>?_,Y,W⟩
  match i,y,l with
  |0,y,l=>cases y;cases l;exact .pv (.int _ _)
  |1,y,l=>cases y;cases l;exact U _ _
  |i+2,y,l=>simp at y
 rw[nY];cases h:Lib.atoiAll s.data.toList with
 | ok n =>
  refine(Any.strconv_Atoi_ok L s (by omega) n h w).mono ?_;rintro e d ⟨rfl,T⟩;have u:RowKit.Below w.heap.size w d:=by
   rcases T with rfl|⟨t,rfl⟩
   ·exact RowKit.Below.refl _ _
   exact Lib.bytesWorld_below w _ t
  exact m n .nilIface HL d u (fun _ _=>.pv (.sat rfl rfl))
 |range =>
  obtain ⟨t,p,A⟩:=j _ G2 F M;refine(Any.strconv_Atoi_range_var L s (by omega) h t p w A).mono ?_;rintro e d ⟨N,rfl,_,_,u⟩;exact m _ _ aCW d u (fun _ _=>.pv (.sat rfl ⟨_,_,rfl⟩))
 |_ =>
  obtain ⟨t,p,A⟩:=j _ G1 B J;refine(Any.strconv_Atoi_syntax_var L s (by omega) h t p w A).mono ?_;rintro e d ⟨N,rfl,_,_,u⟩;exact m 0 _ aCW d u (fun _ _=>.pv (.sat rfl ⟨_,_,rfl⟩))
theorem XQ{P}{ρ}(L:Lays.n160 P ρ)(d:(P.info? (ρ.t 116)).map (fun i=>(i.zero,i.size))=some (some (.agg (Array.replicate 256 (.bool false))),256))(s c)(o:s.size<=9223372036854775807)(g:c.size<4294967281)
  (p:∀(j:Nat) b,c.data.toList[j]?=some b->b.toNat<128) (H) :
  aI P (ρ.f 160) [.pv (.str s),.pv (.str c)] H (fun r H'=>r=.pv (.str ⟨(Lib.trimS s.data.toList c.data.toList).toArray⟩)/\H'=H):=by
 intro I q w h m f k;obtain ⟨v,u,rfl⟩:∃v u,h=#[v,u]:=by
  match h,f with
  |⟨[v,u]⟩,_=>exact⟨v,u,rfl⟩
 have x:=(k 0 v _ rfl rfl).str_inv;have n:=(k 1 u _ rfl rfl).str_inv;subst x n;refine(Any.strings_Trim_laid L d s c w o g p).mono ?_;rintro e w' ⟨rfl,y⟩;obtain ⟨t,l⟩:=Rel.below y m;exact⟨_,_,I,q,_,rfl,⟨rfl,rfl⟩,.pv (.str _),t,l⟩
end Go.Abs
section
namespace Go.Proofs
open Go.RowKit Go.Sort Go.Shelf
def aPJ:Go.Shelf.Ren:=⟨fun|160=>125|232=>169|231=>168|227=>170|234=>172|233=>171|236=>174|235=>173|228=>210|271=>213|151=>212|197=>211|120=>248|152=>247|260=>246|137=>140|119=>270|224=>222|225=>221|217=>180|266=>214|n=>n,fun|9=>9|4=>4|3=>3|5=>5|117=>193|116=>192|0=>0|124=>196|21=>21|105=>227|46=>125|119=>158|139=>277|138=>276|n=>n,fun|3=>4|4=>5|n=>n⟩
theorem aPO:Go.Proofs.Lays.n160 Tryz.prog aPJ:={
  mixed:=by kernel_rfl
  f119:=Tryz.func270.trans (congrArg some (by kernel_rfl))
  f120:=Tryz.func248.trans (congrArg some (by kernel_rfl))
  f137:=Tryz.func140.trans (congrArg some (by kernel_rfl))
  f151:=Tryz.func212.trans (congrArg some (by kernel_rfl))
  f152:=Tryz.func247.trans (congrArg some (by kernel_rfl))
  f160:=Tryz.func125.trans (congrArg some (by kernel_rfl))
  f197:=Tryz.func211.trans (congrArg some (by kernel_rfl))
  f217:=Tryz.func180.trans (congrArg some (by kernel_rfl))
  f224:=Tryz.func222.trans (congrArg some (by kernel_rfl))
  f225:=Tryz.func221.trans (congrArg some (by kernel_rfl))
  f227:=Tryz.func170.trans (congrArg some (by kernel_rfl))
  f228:=Tryz.func210.trans (congrArg some (by kernel_rfl))
  f231:=Tryz.func168.trans (congrArg some (by kernel_rfl))
  f232:=Tryz.func169.trans (congrArg some (by kernel_rfl))
  f233:=Tryz.func171.trans (congrArg some (by kernel_rfl))
  f234:=Tryz.func172.trans (congrArg some (by kernel_rfl))
  f235:=Tryz.func173.trans (congrArg some (by kernel_rfl))
  f236:=Tryz.func174.trans (congrArg some (by kernel_rfl))
  f260:=Tryz.func246.trans (congrArg some (by kernel_rfl))
  f266:=Tryz.func214.trans (congrArg some (by kernel_rfl))
  f271:=Tryz.func213.trans (congrArg some (by kernel_rfl))
  t0:=aGM
  a0:=aPC
  z0:=aO6
  v0:=aIw
  t3:=Tryz.underlying3
  a3:=Tryz.isAgg3
  z3:=Tryz.sizeOf3
  v3:=CI
  t4:=dD
  a4:=oT
  z4:=Tryz.sizeOf4
  v4:=mX
  t5:=fQ
  a5:=A7
  z5:=cL
  v5:=CH
  t9:=Tryz.underlying9
  a9:=Tryz.isAgg9
  z9:=Tryz.sizeOf9
  v9:=tT
  t21:=Tryz.underlying21
  a21:=Tryz.isAgg21
  z21:=Tryz.sizeOf21
  v21:=Tryz.zeroValue21
  t46:=ER
  a46:=XL
  z46:=TQ
  v46:=GU
  t105:=Tryz.underlying227
  a105:=Tryz.isAgg227
  z105:=Tryz.sizeOf227
  v105:=Tryz.zeroValue227
  t116:=Tryz.underlying192
  a116:=Tryz.isAgg192
  z116:=Tryz.sizeOf192
  t117:=Tryz.underlying193
  a117:=Tryz.isAgg193
  z117:=Tryz.sizeOf193
  v117:=Tryz.zeroValue193
  t119:=fK
  a119:=aNX
  z119:=xB
  t124:=Tryz.underlying196
  a124:=Tryz.isAgg196
  z124:=Tryz.sizeOf196
  v124:=Tryz.zeroValue196
  t138:=Tryz.underlying276
  a138:=Tryz.isAgg276
  z138:=Tryz.sizeOf276
  v138:=Tryz.zeroValue276
  t139:=Tryz.underlying277
  a139:=Tryz.isAgg277
  z139:=Tryz.sizeOf277
  v139:=Tryz.zeroValue277
  g3:=by kernel_rfl
  g4:=by kernel_rfl}
end Go.Proofs
namespace Go.Proofs.YtmdicgjnmfolfaaGreatDoor
open Go.Proofs.Tryz
open Go.Abs
abbrev HXT:ByteArray:=⟨#[48,49,50,51,52,53,54,55,56,57,97,98,99,100,101,102]⟩
theorem aKu(b:UInt8):HXT.data.toList.contains b=DB b:=by
 have h:∀n:Fin 256,HXT.data.toList.contains (UInt8.ofNat n.1)=DB (UInt8.ofNat n.1):=by decide +kernel
 have:=h ⟨b.toNat,b.toNat_lt⟩
 simpa using this
theorem wY{α:Type}(p:α->Bool):∀l:List α,l.dropWhile p=[]↔l.all p=true
 | []=>by simp
 |a::r=>by
  rw[List.dropWhile_cons,List.all_cons];cases h:p a with
  |true=>rw[aPT rfl,Bool.true_and];exact wY p r
  |false=>rw[aPS (by decide)];simp
theorem DT{α:Type}{p q:α->Bool}:∀ {l:List α},(l.dropWhile p).all q=true->(∀a,p a=true->q a=true)->l.all q=true
 | [],_,_=>rfl
 | a::r,h,hpq=>by
  rw[List.dropWhile_cons]at h;cases hp:p a with
  |true =>
   rw[hp,aPT rfl]at h;rw[List.all_cons,hpq a hp,Bool.true_and];exact DT h hpq
  |false =>
   rw[hp,aPS (by decide)]at h;exact h
theorem aDW(l:List UInt8):Lib.trimS l HXT.data.toList=[]↔l.all DB=true:=by
 have e:(fun b=>HXT.data.toList.contains b)=DB:=funext aKu;unfold Lib.trimS Lib.trimLeftS Lib.trimRightS;rw[e,wY];constructor
 ·intro h;rw[List.all_reverse]at h;have h2:=DT h (fun a ha=>ha)
  rwa [List.all_reverse]at h2
 intro h;have h2:(l.reverse.dropWhile DB)=[]:=(wY _ _).2 (by rw[List.all_reverse];exact h);rw[h2];rfl
theorem aGj(s:ByteArray)(hs:s.size<1099511627776)(H:aH):aI Tryz.prog 125 [sv s,sv HXT] H (fun r H'=>r=sv ⟨(Lib.trimS s.data.toList HXT.data.toList).toArray⟩/\H'=H) :=XQ aPO (by kernel_rfl) s HXT (by omega) (by decide) (ascii_of_all (by decide)) H
theorem aEz(s:ByteArray)(hs:s.size<1099511627776)(H:aH):aI Tryz.prog 73 [sv s] H (fun r H'=>r=bv (isJ s)/\H'=H):=by
 refine Pu ?_;have htr:=fun H=>aGj s hs H;have hn:=aDW s.data.toList;obtain ⟨t,ht⟩:∃t,t=Lib.trimS s.data.toList HXT.data.toList:=⟨_,rfl⟩;rw[<-ht]at htr hn;have hb:isJ s=(decide ((s.size:Int)=16)&&decide ((⟨t.toArray⟩:ByteArray)=sNil)):=by
  rw[isJ];congr 1
  ·exact decide_eq_decide.2 (by omega)
  have h2:((⟨t.toArray⟩:ByteArray)=sNil)↔t=[]:=by
   constructor
   ·intro h;have:=congrArg (fun b:ByteArray=>b.data.toList) h
    simpa using this
   intro h;rw[h]
  cases h3:s.data.toList.all DB with
  |true=>exact(decide_eq_true (h2.2 (hn.2 h3))).symm
  |false=>exact(decide_eq_false (fun h=>by rw[hn.1 (h2.1 h)]at h3;cases h3)).symm
 clear ht hn;refine Bd func73 rfl ntmps73<|Sr<|Dd aL<|Zz<|Sq ?_;refine aT (t:=2) (n:=10) (X:=isJ s) ?_ ?_
 ·all_goals refine Dd aE ?_
  all_goals refine Dd (jV underlying9)<|Dd cK<|Dm ?_
  all_goals refine Sp 6 (fun h6=>?_) fun h6=>?_
  all_goals try contradiction
  all_goals first|refine Fo<|Fo<|Fo ?_|refine On aE<|On (by exact aA rfl rfl call125 rfl (htr _))<|On zE ?_
  all_goals refine Dd cG<|Da ?_
  all_goals(exact⟨⟨_,rfl,by(rw[hb,h6];rfl)⟩,rfl,rfl,rfl⟩)
 exact aB<|Rt<|Qq
end Go.Proofs.YtmdicgjnmfolfaaGreatDoor
end
namespace Go.Proofs.YtmdicgjnmfolfaaGreatDoor
open Go.Proofs.Tryz
open Go.Abs
variable{key m:ByteArray}{i:Int}{l p:List ByteArray}
def MD(t:ByteArray):Bool:=!isJ t
theorem aKc(t:ByteArray)(ht:t.size<1099511627776)(H:aH):aI Tryz.prog 91 [sv t] H (fun r H'=>r=bv (MD t)/\H'=H):=by refine Pu ?_;exact Bd func91 rfl ntmps91<|Sr<|Dd aL<|Zz<|Sr<|Dd aE<|Dd (by exact aA rfl rfl aPF rfl (aEz t ht _))<|Dd iQ<|Dd aL<|Zz<|aB<|Rt<|Qq
theorem RB(l:List ByteArray)(q:ByteArray->Bool):((List.range l.length).any fun k=>match l[k]? with|some s=>q s|none=>false)=l.any q:=by
 rw[Bool.eq_iff_iff,List.any_eq_true,List.any_eq_true];constructor
 ·rintro⟨k,hk,h⟩;have hk:=List.mem_range.1 hk;rw[aPZ hk]at h;exact⟨_,List.getElem_mem hk,h⟩
 rintro⟨s,hs,h⟩;obtain ⟨k,hk⟩:=aPf.1 hs;exact⟨k,List.mem_range.2 (aPY.1 hk).1,by rw[hk];exact h⟩
theorem aJP(l:List ByteArray)(hl:l.length<1099511627776)(ht:∀t∈l,t.size<1099511627776)(H:aH):aI Tryz.prog 90 [.pv (bA l)] H (fun r H'=>r=bv (l.any MD)/\H'=H):=by
 refine Pu ?_;have hc:=rT (.pv (.fn 91)) l (fun k=>match l[k]? with|some s=>MD s|none=>false) (fun _=>[]) (by omega) (fun k s hk=>by
  simp only[hk];exact dK.fn call91 (aKc s (ht s (aP4 hk)) []))
 rw[RB]at hc;exact Bd func90 rfl ntmps90<|Sr<|Dd aL<|Zz<|Sr<|Dd aE<|Dd (by exact aA rfl rfl TT rfl (hc))<|Dd aL<|Zz<|aB<|Rt<|Qq
def KT(i:Int)(l p:List ByteArray):Bool:=((((!decide (((l.map encStr).length:Int)=18)||decide (8<((p.map encStr).length:Int)))||l.any MD)||p.any MD)||decide (i<0))||decide (((2 ^ p.length:Nat):Int)<=i)
theorem GJ(l:List ByteArray):l.any MD=!l.all isJ:=by
 induction l with
 |nil=>rfl
 |cons a r ih=>rw[List.any_cons,List.all_cons,ih,MD,Bool.not_and]
theorem aGc(h:KT i l p=true):rW key m i l p=false:=by
 rw[KT,GJ,GJ,aPU,aPU]at h;cases hv:rW key m i l p with
 |false=>rfl
 |true =>
  rw[rW]at hv;simp only[aP3,aP1]at hv;obtain ⟨⟨⟨⟨⟨a1,a2⟩,a3⟩,a4⟩,a5,a6⟩,a7⟩:=hv;have a6':i<((2 ^ p.length:Nat):Int):=by exact_mod_cast a6
  rw[a3,a4,decide_eq_true (show (l.length:Int)=18 by omega),decide_eq_false (show ¬ 8<(p.length:Int)by omega),decide_eq_false (show ¬ i<0 by omega),decide_eq_false (show ¬ ((2 ^ p.length:Nat):Int)<=i by omega)]at h;exact absurd h (by decide)
theorem aJl(h:KT i l p=false):∃q:Nat,i=(q:Int)/\q<2 ^ p.length/\l.length=18/\p.length<=8/\(∀t∈l,isJ t=true)/\(∀t∈p,isJ t=true)/\rW key m i l p=decide (AU (yK (AW m l)) p q=key):=by
 rw[KT,GJ,GJ,aPU,aPU]at h;simp only[aPg,Bool.not_eq_false',aP2,aP1]at h;obtain ⟨⟨⟨⟨⟨a1,a2⟩,a3⟩,a4⟩,a5⟩,a6⟩:=h;obtain ⟨q,rfl⟩:∃q:Nat,i=(q:Int):=⟨i.toNat,by omega⟩;have a1':l.length=18:=by omega
 have a2':p.length<=8:=by omega
 have a6':(q:Int)<((2 ^ p.length:Nat):Int):=by omega
 refine⟨q,rfl,by omega,a1',a2',List.all_eq_true.1 a3,List.all_eq_true.1 a4,?_⟩;have a7:(q:Int)<2 ^ p.length:=by exact_mod_cast a6'
 rw[rW,a3,a4,decide_eq_true (⟨a1',a2'⟩:l.length=18/\p.length<=8),decide_eq_true (⟨by omega,a7⟩:0<=(q:Int)/\(q:Int)<2 ^ p.length),aP5];rfl
def evP(m:ByteArray)(l:List ByteArray)(k:Nat):List ByteArray:=(List.range k).map fun k=>BC (l.getD k sNil) (15 - (GS m).getD k 0)
theorem aFV(m:ByteArray)(l:List ByteArray)(k:Nat):evP m l (k+1)=evP m l k++[BC (l.getD k sNil) (15 - (GS m).getD k 0)]:=by rw[evP,List.range_succ,List.map_append];rfl
theorem aAr(m:ByteArray)(l:List ByteArray)(k:Nat):(evP m l k).length=k:=by simp[evP]
theorem S6(h:l.length=18):evP m l 18=AW m l:=by
 apply List.ext_getElem?;intro k;rw[AW,List.getElem?_zipWith,evP,aPe];by_cases hk:k<18
 ·have h1:l[k]?=some (l.getD k sNil):=by
   rw[List.getD_eq_getElem?_getD,aPZ (by omega)];rfl
  have h2:(GS m)[k]?=some ((GS m).getD k 0):=by
   rw[List.getD_eq_getElem?_getD,aPZ (by rw[KK];exact hk)];rfl
  rw[List.getElem?_range hk,h1,h2];rfl
 rw[List.getElem?_eq_none (by simp;omega),List.getElem?_eq_none (by omega)];rfl
theorem aIs{a:Nat}(ha:a<4611686018427387904):bits .and .i64 (a:Int) 1=((a % 2:Nat):Int):=by have h:=(bits_nat .i64 62 (by decide) (fun n h0 h1=>kK (by omega) (by omega)) a 1 ha (by decide)).1;rw[Nat.and_one_is_mod]at h;exact h
def vfE:dB:=[(5,.ref 5 0 0 0),(9,.ref 9 0 0 0)]
def vfK(i:Int)(l p:List ByteArray)(m:ByteArray)(L:List ByteArray):aH:=[(905,⟨L.length,1,9,dF L⟩),(9,bx 1 22 [.osl 905 L.length 0 L.length]),(961,MI m),(5,bx 3 25 [iv i,.pv (bA l),.pv (bA p)])]
theorem aGb(i:Int)(l p:List ByteArray)(m:ByteArray)(L:List ByteArray)(x:ByteArray):vfK i l p m (L++[x])=[(905,⟨L.length+1,1,9,dF (L++[x])⟩),(9,bx 1 22 [.osl 905 (L.length+1) 0 (L.length+1)]),(961,MI m),(5,bx 3 25 [iv i,.pv (bA l),.pv (bA p)])]:=by simp[vfK]
theorem CL(key m:ByteArray)(i:Int)(l p:List ByteArray)(H:aH)(hm:m.size<1099511627776)(hi0 : -4611686018427387904<=i)(hi1:i<4611686018427387904)(hl:l.length<1099511627776)(hp:p.length<1099511627776)(hls:∀t∈l,t.size<1099511627776)(hps:∀t∈p,t.size<1099511627776):
  aI Tryz.prog 28 [sv key,sv m,.agg [iv i,.pv (bA l),.pv (bA p)]] H (fun r H'=>r=bv (rW key m i l p)/\H'=H):=by
 refine Pu ?_;have hml:(l.map encStr).length=l.length:=aPU _;have hmp:(p.map encStr).length=p.length:=aPU _;have hol:=fun H=>aJP l hl hls H;have hop:=fun H=>aJP p hp hps H;have hle8:decide (8<((p.map encStr).length:Int))=false->p.length<=8:=fun h=>by have:=aPR h;omega
 have hshl:p.length<=8->IntKind.i64.wrap (1*2 ^ (((p.map encStr).length:Int)).toNat)=((2 ^ p.length:Nat):Int):=fun h=>by rw[hmp];exact aGt h
 refine Bd func28 rfl ntmps28<|Sr<|Dd (by exact cD (id:=5) rfl rfl rfl rfl rfl)<|Dd aL<|Zz<|Sr<|Dd (aS mN)<|Dd (bC aF)<|Dd (fE aD)<|Dd aL<|Zz<|Sr<|Dd aL<|Zz<|Sq<|Sq ?_;refine kH (t:=49) (n:=32) (X:=KT i l p) ?_ ?_
 ·cases hg22:(!decide (((l.map encStr).length:Int)=18):Bool)
  ·cases hg26:(decide (8<((p.map encStr).length:Int)):Bool)
   ·cases hg32:(l.any MD:Bool)
    ·cases hg38:(p.any MD:Bool)
     ·cases hg43:(decide (i<0):Bool)
      ·refine aN follows<|Cq (aS iS)<|Cq (bC aF)<|Cq (fE aD)<|Cq xY<|Cq aE<|Nf aE<|Nf iE<|Cq nX<|Cq aE<|Nf aE<|Nf (aS iS)<|Nf (bC aF)<|Nf (by exact cU rfl rfl rfl (dK.fn A8 (hol _)))<|Cq nX<|Cq aE<|Nf aE<|Nf (aS mN)<|Nf (bC aF)<|Nf (by exact cU rfl rfl rfl (dK.fn A8 (hop _)))<|Cq nX<|Cq aE<|Nf (aS jG)<|Nf (bC isAgg3)<|Nf cZ<|Cq nX<|Cq aE<|Nf (aS jG)<|Nf (bC isAgg3)<|Nf aE<|Nf (by exact FH rfl rfl rfl (by omega) (by have:=hle8 hg26;simp[IntKind.bits];omega) (hshl (hle8 hg26)))<|Nf DD<|Cq nX<|bL<|Kr ?_;exact⟨rfl,⟨_,rfl,by(rw[KT,hg22,hg26,hg32,hg38,hg43];rfl)⟩,rfl,rfl,rfl⟩
      refine aN follows<|Cq (aS iS)<|Cq (bC aF)<|Cq (fE aD)<|Cq xY<|Cq aE<|Nf aE<|Nf iE<|Cq nX<|Cq aE<|Nf aE<|Nf (aS iS)<|Nf (bC aF)<|Nf (by exact cU rfl rfl rfl (dK.fn A8 (hol _)))<|Cq nX<|Cq aE<|Nf aE<|Nf (aS mN)<|Nf (bC aF)<|Nf (by exact cU rfl rfl rfl (dK.fn A8 (hop _)))<|Cq nX<|Cq aE<|Nf (aS jG)<|Nf (bC isAgg3)<|Nf cZ<|Cq nX<|Cq aE<|Of<|Of<|Of<|Of<|Of<|Cq wQ<|bL<|Kr ?_;exact⟨rfl,⟨_,rfl,by(rw[KT,hg22,hg26,hg32,hg38,hg43];rfl)⟩,rfl,rfl,rfl⟩
     refine aN follows<|Cq (aS iS)<|Cq (bC aF)<|Cq (fE aD)<|Cq xY<|Cq aE<|Nf aE<|Nf iE<|Cq nX<|Cq aE<|Nf aE<|Nf (aS iS)<|Nf (bC aF)<|Nf (by exact cU rfl rfl rfl (dK.fn A8 (hol _)))<|Cq nX<|Cq aE<|Nf aE<|Nf (aS mN)<|Nf (bC aF)<|Nf (by exact cU rfl rfl rfl (dK.fn A8 (hop _)))<|Cq nX<|Cq aE<|Of<|Of<|Of<|Cq wQ<|Cq aE<|Of<|Of<|Of<|Of<|Of<|Cq cG<|bL<|Kr ?_;exact⟨rfl,⟨_,rfl,by(rw[KT,hg22,hg26,hg32,hg38];rfl)⟩,rfl,rfl,rfl⟩
    refine aN follows<|Cq (aS iS)<|Cq (bC aF)<|Cq (fE aD)<|Cq xY<|Cq aE<|Nf aE<|Nf iE<|Cq nX<|Cq aE<|Nf aE<|Nf (aS iS)<|Nf (bC aF)<|Nf (by exact cU rfl rfl rfl (dK.fn A8 (hol _)))<|Cq nX<|Cq aE<|Of<|Of<|Of<|Of<|Cq wQ<|Cq aE<|Of<|Of<|Of<|Cq cG<|Cq aE<|Of<|Of<|Of<|Of<|Of<|Cq cG<|bL<|Kr ?_;exact⟨rfl,⟨_,rfl,by(rw[KT,hg22,hg26,hg32];rfl)⟩,rfl,rfl,rfl⟩
   refine aN follows<|Cq (aS iS)<|Cq (bC aF)<|Cq (fE aD)<|Cq xY<|Cq aE<|Nf aE<|Nf iE<|Cq nX<|Cq aE<|Of<|Of<|Of<|Of<|Cq wQ<|Cq aE<|Of<|Of<|Of<|Of<|Cq cG<|Cq aE<|Of<|Of<|Of<|Cq cG<|Cq aE<|Of<|Of<|Of<|Of<|Of<|Cq cG<|bL<|Kr ?_;exact⟨rfl,⟨_,rfl,by(rw[KT,hg22,hg26];rfl)⟩,rfl,rfl,rfl⟩
  refine aN follows<|Cq (aS iS)<|Cq (bC aF)<|Cq (fE aD)<|Cq xY<|Cq aE<|Of<|Of<|Cq wQ<|Cq aE<|Of<|Of<|Of<|Of<|Cq cG<|Cq aE<|Of<|Of<|Of<|Of<|Cq cG<|Cq aE<|Of<|Of<|Of<|Cq cG<|Cq aE<|Of<|Of<|Of<|Of<|Of<|Cq cG<|bL<|Kr ?_;exact⟨rfl,⟨_,rfl,by(rw[KT,hg22];rfl)⟩,rfl,rfl,rfl⟩
 refine Cn ?_ ?_<;>intro hc1
 ·have hb:=hc1;rw[aGc hb];exact Sr<|Dd aL<|Zz<|aB<|Rt<|Qq
 have hb:=hc1;obtain ⟨q,rfl,hq,h18,h8,hlj,hpj,hv⟩:=aJl (key:=key) (m:=m) hb;rw[hv];clear hv hb;have hp8:=sZ h8;refine aC<|Sr<|Dd (by exact bW (id:=9) rfl aDD rfl rfl)<|Zz<|Sq<|Sr<|Dd aE<|Dd (by exact aA rfl rfl call92 rfl (QW m _ rfl))<|Zz<|aG ?_;refine gR.ent (E':=[(0,sv key),(5,.ref 5 0 0 0),(9,.ref 9 0 0 0),(51,.clo 139 [.ref 961 0 0 0])]) (H':=vfK q l p m []) ?_ ?_
 ·exact(dA.nz 905 1 9 rfl rfl ⟨⟨_,rfl,(by exact Nz.same (by(simp;done)))⟩,⟨_,rfl,(by exact Nz.same (by(simp;rfl)))⟩,⟨_,rfl,(by exact Nz.same (by(simp;rfl)))⟩,⟨_,rfl,(by exact Nz.same (by(simp;rfl)))⟩,trivial⟩ ⟨⟨_,rfl,rfl,rfl,rfl,(by exact .inr ⟨_,_,rfl,rfl,(by repeat(first|exact trivial|refine⟨(by exact Nz.own),?_⟩))⟩)⟩,⟨_,rfl,rfl,rfl,rfl,(by exact .inl ⟨rfl,(by exact xZ _ _)⟩)⟩,⟨_,rfl,rfl,rfl,rfl,(by exact .inl ⟨rfl,(by(simp;done))⟩)⟩,trivial⟩ trivial)
 refine NJ (id:=904) (p:=52) (p2:=53) vfE rfl call139 rfl rfl (by simp[vfE];exact⟨rfl,rfl⟩) ?_;intro x hx1 hx2 hx3 hx4 hx5 hx6;refine(QX m (.yld 904 0) (fun k=>(904,LR x vfE)::vfK q l p m (evP m l k)) hm (fun k=>rfl) ?_).mono ?_
 ·intro k hk;have hd:=ZM m _ (pR (d:=0) (by rw[KK];exact hk));have hfl:=aAr m l k;have hnx:=aFV m l k;have hix:(l.map encStr)[k]?=some (encStr (l.getD k sNil)):=by
   rw[aPe,List.getD_eq_getElem?_getD,aPZ (by omega)];rfl
  have hsz:(l.getD k sNil).size<1099511627776:=hls _ (pR (by omega));obtain ⟨u,hu⟩:∃u,u=l.getD k sNil:=⟨_,rfl⟩;obtain ⟨d,hdd⟩:∃d,d=(GS m).getD k 0:=⟨_,rfl⟩;rw[<-hdd]at hd hnx |-;rw[<-hu]at hnx hix hsz;have hch:=fun H=>TD u (15 - d) H hsz (by omega);refine .inl ⟨904,0,rfl,?_⟩;refine Z7 [(5,.ref 5 0 0 0),(9,.ref 9 0 0 0),(10,iv (k:Int)),(11,iv (d:Int))] (vfK q l p m (evP m l k)) hx1 hx2 hx3 hx4 hx5 hx6 rfl rfl rfl rfl rfl ?_ ?_
  ·refine Sr<|Dd aL<|Zz<|Rg<|Da ?_;exact(dA.wk (Ea<|Ea<|Eb<|Eb<|trivial) (Hc (lC (by intro p hp;simp only[vfE,aP6,aPa,or_false]at hp;rcases hp with rfl|rfl<;>(simp only[rU];rfl)))<|Hc (cE _ _)<|Ha<|Hc (xZ _ _)<|Hb<|trivial) ⟨rfl,rfl,rfl,rfl,rfl,trivial⟩)
  rw[hnx,aGb];refine aG<|aN follows<|Cr [9] (fun _ h=>lh aF h)<|Cr [5] (fun _ h=>fh iS h)<|Cr [5] (fun _ h=>lh aF h)<|Cr [] (fun _ _=>aE)<|Cr [] (fun H1 hH=>by exact bP rfl cB rfl rfl (by omega) (by exact aP5 _) hix rfl)<|Cr [] (fun _ _=>(iJ isAgg9 (hi:=hix)))<|Cr [] (fun _ _=>aE)<|Cr [] (fun H1 hH=>by exact dW rfl rfl rfl (show IntKind.i64.wrap (15 - (d:Int))=((15 - d:Nat):Int)by rw[kK (by omega) (by omega)];omega))<|Cr [] (fun H1 hH=>by exact aA rfl rfl aPD rfl (hch _))<|Cr [] (fun H1 hH=>by exact aR [[.str (BC u (15 - d))]] rfl cB rfl rfl rfl rfl rfl (by intro r hr;rw[aPX]at hr;subst hr;rfl))<|Cp [905] (fun H1 hH=>by exact dL (ps:=[[.str (BC u (15 - d))]]) rfl cB EF rfl ((hH _ rfl).trans rfl) rfl rfl rfl (kQ _) rfl (by intro r hr;rw[aPX]at hr;subst hr;rfl) (m:=1) rfl (by omega) rfl (mF (evP m l k) (BC u (15 - d)))) ?_;refine Cp [9] (fun H1 hH=>by exact cM rfl sizeOf22 rfl rfl rfl rfl ((hH _ rfl).trans rfl) rfl rfl rfl)<|bL<|Kr ?_;exact⟨[(905,⟨(evP m l k).length+1,1,9,dF (evP m l k++[BC u (15 - d)])⟩),(9,bx 1 22 [.osl 905 ((evP m l k).length+1) 0 ((evP m l k).length+1)]),(961,MI m),(5,bx 3 25 [iv (q:Int),.pv (bA l),.pv (bA p)])],(dA.wk trivial (Hc (lC (by intro p hp;simp only[vfE,aP6,aPa,or_false]at hp;rcases hp with rfl|rfl<;>(simp only[rU];rfl)))<|Hc (cE _ _)<|Ha<|Hc (xZ _ _)<|Hb<|trivial) ⟨rfl,rfl,rfl,rfl,rfl,trivial⟩),rfl,rfl⟩
 rintro r H' ⟨rfl,rfl⟩;refine⟨x,_,rfl,by rw[hx1];decide,rfl,fun z=>?_⟩;rw[hx2,S6 h18];have hen:∀t∈AW m l,t.size<=16:=fun t ht=>by
  rw[<-S6 h18]at ht;obtain ⟨k,hk,rfl⟩:=List.mem_map.1 ht;exact Nat.le_of_eq (WZ (uP (hlj _ (pR (by rw[h18];exact List.mem_range.1 hk)))) _)
 have hel:(AW m l).length=18:=by rw[<-S6 h18,aAr]
 have hof:∀H,aI Tryz.prog 94 [.pv (bA (AW m l))] H (fun r H'=>r=sv (yK (AW m l))/\H'=H):=fun H=>VI (AW m l) H (by have h:=zU (b:=16) (by decide) _ hen;rw[hel]at h;omega);obtain ⟨S,hS⟩:∃S,S=AW m l:=⟨_,rfl⟩;rw[<-hS]at hof |-;have hal:(S.map encStr).length=S.length:=aPU _;refine gR.ent (dA.fzG (id:=905) (E':=[(0,sv key),(5,.ref 5 0 0 0),(9,.ref 9 0 0 0)]) (H':=[(9,bx 1 22 [.pv (bA S)]),(5,bx 3 25 [iv (q:Int),.pv (bA l),.pv (bA p)])]) (S.map encStr) rfl (gC _) ?_ rfl ?_ ?_) ?_
 ·intro p hp;simp only[aP6,aPa,or_false]at hp;rcases hp with rfl|rfl|rfl
  ·exact⟨_,rfl,.same (by simp)⟩
  ·exact⟨_,rfl,.same (by simp;rfl)⟩
  exact⟨_,rfl,.same (by simp;rfl)⟩
 ·refine⟨⟨_,rfl,rfl,rfl,rfl,qM rfl (dR (.osl ?_) qN)⟩,⟨_,rfl,rfl,rfl,rfl,iD (by simp)⟩,trivial⟩;rw[aPc,List.drop_zero,<-hal,List.take_length]
 ·exact trivial
 refine Sr<|Dd (bC aF)<|Dd (by exact aA rfl rfl TR rfl (hof _))<|Dd aL<|Zz<|Sq<|Sr<|Dd (aS mN)<|Dd (bC aF)<|Dd (fE aD)<|Dd aE<|Zz<|aG ?_;have ha0:(yK S).size=16:=jJ _;obtain ⟨a0,hA0⟩:∃a0,a0=yK S:=⟨_,rfl⟩;rw[<-hA0]at ha0 |-;refine jA (fun(k:Nat) (a:ByteArray)=>([(0,sv key),(5,.ref 5 0 0 0),(12,sv a),(68,.pv (bA p)),(69,iv ((p.map encStr).length:Int)),(70,iv (k:Int))],[(5,bx 3 25 [iv (q:Int),.pv (bA l),.pv (bA p)])])) (fun k a=>k<=p.length/\a.size=16/\AU a (p.drop k) (q / 2 ^ k)=AU a0 p q) (fun k a=>p.length - k) 0 a0 ⟨aPb _,ha0,by rw[List.drop_zero,Nat.pow_zero,Nat.div_one]⟩ ?_ ?_
 ·exact Wk
 rintro k a ⟨hk,ha,hf⟩;refine Sr<|Dd cZ<|Zz<|Sq ?_;refine Cn ?_ ?_<;>intro hc2
 ·have hlt:k<p.length:=by have:=aPQ hc2;omega
  have hix:(p.map encStr)[k]?=some (encStr (p.getD k sNil)):=by
   rw[aPe,List.getD_eq_getElem?_getD,aPZ hlt];rfl
  have hdr:p.drop k=p.getD k sNil::p.drop (k+1):=by
   rw[List.drop_eq_getElem_cons hlt,List.getD_eq_getElem?_getD,aPZ hlt];rfl
  have hosz:(p.getD k sNil).size=16:=uP (hpj _ (pR hlt));obtain ⟨o,ho⟩:∃o,o=p.getD k sNil:=⟨_,rfl⟩;rw[<-ho]at hix hdr hosz;have hqk:q / 2 ^ k<4611686018427387904:=Nat.lt_of_le_of_lt (Nat.div_le_self _ _) (by omega);have hnd:=fun H=>aAb a o (decide (((q / 2 ^ k % 2:Nat):Int)=1)) H (by omega) (by omega);have hbk:(decide (((q / 2 ^ k % 2:Nat):Int)=1)=true)=(q / 2 ^ k % 2=1):=by
   rw[aP1];exact propext ⟨fun h=>by omega,fun h=>by omega⟩
  simp only[hbk]at hnd;obtain ⟨b,hb⟩:∃b,b=(if q / 2 ^ k % 2=1 then FS o a else FS a o):=⟨_,rfl⟩;have hbs:b.size=16:=by rw[hb];split<;>exact jJ _
  have hf2:AU b (p.drop (k+1)) (q / 2 ^ (k+1))=AU a0 p q:=by
   rw[<-hf,hdr,AU,<-hb,Nat.pow_succ,Nat.div_div_eq_div_mul]
  rw[<-hb]at hnd;have hnd2:∀H,aI Tryz.prog 95 [sv a,sv o,bv (decide (((q / 2 ^ k % 2:Nat):Int)=1))] H (fun r H'=>r=sv b/\H'=H):=hnd;refine aC<|Sq<|aG<|Sr<|Dd aE<|Dd (by exact bP rfl cB rfl rfl (by omega) (by exact aP5 _) hix rfl)<|Dd (iJ isAgg9 (hi:=hix))<|Dd aL<|Dd aL<|Zz<|Rg<|Dd aE<|Dd aE<|Dd (aS jG)<|Dd (bC isAgg3)<|Dd aE<|Dd (by exact CQ rfl rfl rfl (by omega) (by simp[IntKind.bits];omega) (aBa q k (aP5 _)))<|Dd (by exact mC rfl (by simp) rfl rfl (aIs hqk))<|Dd cK<|Dd (by exact aA rfl rfl call95 rfl (hnd2 _))<|Dd aL<|Zz<|Rg<|Dd (by exact bZ rfl rfl rfl (show IntKind.i64.wrap ((k:Int)+1)=((k+1:Nat):Int)by rw[kK (by omega) (by omega)];omega))<|Dd aE<|Zz ?_;exact⟨k+1,b,⟨by omega,hbs,hf2⟩,by omega,Wk⟩
 have hge:k=p.length:=by have:=aPR hc2;omega
 subst hge;rw[List.drop_length,AU]at hf;rw[<-hf];exact aY<|Sr<|Dd aE<|Dd aE<|Dd zE<|Dd aL<|Zz<|aB<|Rt<|Qq
end Go.Proofs.YtmdicgjnmfolfaaGreatDoor
namespace Go.Abs
open Go.Proofs
section
section
variable{P:Program}{N:Nat}{o:Oper}{E:dB}{H:aH}{t t':TypeId}{x:Operand}
theorem LX(e:o.op=.binOp .neq t x (.const .nilIface) t')(d:P.underlying t=some (.interface (P.methodsAt t)))(f:aP E x=some (.pv HL)):cS P N o E H (.pv (.bool false)) H :=.of_run fun a w I ι _ b=>⟨.bool _,by
  have c:=(aJ b f).sat_inv;have g:a.eval (.const _)=.nilIface:=rfl;simp[execOp,e,c,g,eqGuard,Sem.run_bind,Sem.run_pure,Result.andThen_ok,run_neq_nil_nil _ _ d,Bool.or_true,if_true,Bool.not_true,Bool.false_eq_true,if_false],.pv (.bool _)⟩
theorem D3(e:o.op=.binOp .neq t x (.const .nilIface) t')(d:P.underlying t=some (.interface (P.methodsAt t)))(f:aP E x=some (.pv aCW)):cS P N o E H (.pv (.bool true)) H :=.of_run fun a w I ι _ b=>⟨.bool _,by
  obtain ⟨q,p,c⟩:=(aJ b f).sat_inv;have g:a.eval (.const _)=.nilIface:=rfl;simp only[execOp,e,c,g,eqGuard,Sem.run_bind,Sem.run_pure,Result.andThen_ok,run_neq_held_nil _ _ _ _ d];rfl,.pv (.bool _)⟩
end
end
section
section
variable{P:Program}{N:Nat}{o:Oper}{E:dB}{H:aH}{t t' it:TypeId}{x:Operand}
theorem VRel.ifc_inv{w}{I}{ι}{v}{p}(h:VRel w I ι H v (.pv (.ifc t p))):∃u,v=.iface t u/\PRep w I u p:=by
 cases h with
 |pv h=>cases h with
  |ifc _ u _ h=>simp_all
theorem VRel.ifa_inv{w}{I}{ι}{v}{ps}(h:VRel w I ι H v (.pv (.ifa t ps))):∃cs,v=.iface t (.agg cs)/\cs.size=ps.length/\∀(k:Nat) (c) (p),cs[k]?=some c->ps[k]?=some p->PRep w I c p:=by
 cases h with
 |pv h=>cases h with
  |ifa _ cs _ hl h=>grind
theorem fD{p}(b:o.op=.makeInterface t x)(e:P.concrete t=true)(c:aP E x=some (.pv p)):cS P N o E H (.pv (.ifc t p)) H :=.of_run fun a w I ι _ d=>⟨.iface t _,by simp[execOp,b,run_makeInterface _ _ _ e],.pv (.ifc _ _ _ (aJ d c).pv_inv)⟩
theorem FK{ps}(f:o.op=.makeInterface t x)(e:P.concrete t=true)(g:aP E x=some (.agg (ps.map .pv))):cS P N o E H (.pv (.ifa t ps)) H :=.of_run fun a w I ι _ i=>⟨.iface t (a.eval x),by simp[execOp,f,run_makeInterface _ _ _ e],by
  have h:=aJ i g;generalize a.eval x=c at h;cases h with
  | @agg vs _ hl h1 d =>
   refine .pv (.ifa _ _ _ (by simp_all) fun k c p b hp=>?_);exact(d k c (.pv p) b (by simp_all)).pv_inv⟩
theorem X5{d}{u}(w)(hd:P.underlying t=some d)(hni:∀c,d≠.interface c):(Instr.typeAssert (.iface t' u) it t true).run P w=if t'=t then .ok (.tuple #[u,.bool true]) w else((do pure (.tuple #[<-zeroValue t,.bool false])):Sem _).run P w:=by
 unfold Instr.typeAssert;rw[Sem.run_bind,run_underlying hd]
 simp_all
theorem CC(h:P.concrete t=true):∃d,P.underlying t=some d/\∀a,d≠.interface a:=by
 unfold Program.concrete at h;cases hd:P.underlying t with
 |none=>simp_all
 |some d =>
  grind
theorem uF{p}(h:o.op=.typeAssert x it t true)(j:P.concrete t=true)(k:aP E x=some (.pv (.ifc t p))):cS P N o E H (.tup [.pv p,.pv (.bool true)]) H:=by
 obtain ⟨d,m,b⟩:=CC j;refine .of_run fun a w I ι _ l=>?_;obtain ⟨u,f,g⟩:=(aJ l k).ifc_inv;refine⟨.tuple #[u,.bool true],?_,?_⟩
 ·simp only[execOp,h,f];rw[Sem.run_bind,X5 w m b,aPT rfl];rfl
 exact .tup rfl (fun i v a e c=>by
  match i with
  |0=>cases e;cases c;exact .pv g
  |1=>cases e;cases c;exact .pv (.bool _)
  |i+2=>simp at c)
theorem LW{ps:List PV}(B:o.op=.typeAssert x it t true)(z:P.concrete t=true)(y:aP E x=some (.pv (.ifa t ps))):cS P N o E H (.tup [.agg (ps.map .pv),.pv (.bool true)]) H:=by
 obtain ⟨d,s,j⟩:=CC z;refine .of_run fun a w I ι _ C=>?_;obtain ⟨u,r,hl,A⟩:=(aJ C y).ifa_inv;refine⟨.tuple #[.agg u,.bool true],?_,?_⟩
 ·simp only[execOp,B,r];rw[Sem.run_bind,X5 w s j,aPT rfl];rfl
 have n:∀(k:Nat) (c:Value),u[k]?=some c->∃p,ps[k]?=some p/\PRep w I c p:=fun k c e=>by
  have f:k<ps.length:=by grind
  exact⟨ps[k],aPZ f,A k c _ e (aPZ f)⟩
 exact .tup rfl (fun i v a m h=>by
  match i with
  |0 =>
   cases m;cases h;refine .agg (by simp_all) (fun k c e=>?_) (fun k c b e q=>?_)
   ·obtain ⟨p,_,g⟩:=n k c e;exact g.oneCell
   obtain ⟨p,l,g⟩:=n k c e;rw[aPe,l]at q;cases q;exact .pv g
  |1=>cases m;cases h;exact .pv (.bool _)
  |i+2=>simp at h)
theorem aJG{cells}(l:o.op=.typeAssert x it t true)(h:P.concrete t=true)(j:eP P t cells)(b:t'≠t)
  (m:∀(a) (w) (I) (ι),jB w I ι H E a->∃u,a.eval x=.iface t' u):cS P N o E H (.tup [.any,.pv (.bool false)]) H:=by
 obtain ⟨d,p,e⟩:=CC h;obtain ⟨z,v0,f,_,_⟩:=j;refine .of_run fun a w I ι _ n=>?_;obtain ⟨u,k⟩:=m a w I _ n;refine⟨.tuple #[z,.bool false],?_,?_⟩
 ·simp only[execOp,l,k];rw[Sem.run_bind,X5 w p e,aPS b,Sem.run_bind,f w];rfl
 exact .tup rfl (fun i v a g c=>by
  match i with
  |0=>cases c;exact .any _
  |1=>cases g;cases c;exact .pv (.bool _)
  |i+2=>simp at c)
theorem kT{cells}{p}(f:o.op=.typeAssert x it t true)(c:P.concrete t=true)(d:eP P t cells)(hne:Nat.beq t' t=false)(g:aP E x=some (.pv (.ifc t' p))):cS P N o E H (.tup [.any,.pv (.bool false)]) H :=aJG f c d (fun e=>by simp_all) (fun a w I ι b=>let ⟨u,e,_⟩:=(aJ b g).ifc_inv;⟨u,e⟩)
theorem zJ{cells}{ps}(f:o.op=.typeAssert x it t true)(c:P.concrete t=true)(d:eP P t cells)(hne:Nat.beq t' t=false)(g:aP E x=some (.pv (.ifa t' ps))):cS P N o E H (.tup [.any,.pv (.bool false)]) H :=aJG f c d (fun e=>by simp_all) (fun a w I ι b=>let ⟨u,e,_⟩:=(aJ b g).ifa_inv;⟨_,e⟩)
end
end
section
section
variable{P:Program}{N:Nat}{o:Oper}{E:dB}{H:aH}{T T' t:TypeId}{x y:Operand}
theorem G7{e f:TypeId}{ty:TypeId}{a:Array Value}(w:World)(d:P.underlying T=some (.slice e))(c:P.underlying T'=some (.slice f)):(Builtin.append_ #[T,T'] ty a).run P w=(Builtin.append_ #[T,T] ty a).run P w:=by
 unfold Builtin.append_;cases h0:a[0]? with
 |none=>rfl
 | some s =>
  cases h1:a[1]? with
  |none=>rfl
  |some u =>
   cases s<;>simp[Sem.run_bind,run_underlying d,run_underlying c]
theorem HH{e d}{v}{H2}(g:o.op=.call {callee:=.builtin .append,args:=#[x,y],argTypes:=#[T,T']})(i:P.underlying T=some (.slice e))(c:P.underlying T'=some (.slice d))
  (h:cS P N {o with op:=.call {callee:=.builtin .append,args:=#[x,y],argTypes:=#[T,T]}} E H v H2):cS P N o E H v H2:=by
 intro a w I ι j m k l K Q f;have b:=h a w I _ j m k l K Q f;unfold Oper.wpW execOp at b |-;simp[g,resolve,invoke,builtin,Sem.run_bind,Sem.run_pure,Result.andThen_ok,List.map_toArray,List.map_cons,List.map_nil,G7 w i c]at b |-;exact b
theorem aBQ{e z}{id g n m k sz bytes:Nat}{ob}{ps}{rows'}(q:o.op=.call {callee:=.builtin .append,args:=#[x,y],argTypes:=#[T,T']})(i:P.underlying T'=some (.slice z))(hS:fA P T e sz)(d:EI P e sz bytes)
  (j:aP E x=some (.osl id g 0 n)) (u:H.get id=some ob) (w:ob.g=g) (c:ob.sz=sz) (f:ob.ty=e) (s:ob.rows.length=n)
  (l:aP E y=some (.pv (.sl ps))) (h:∀r∈ps,r.length=sz) (p:ps.length=m) (a:(n+m)*bytes<=140737488355328) (v:n+m=k) (b:ob.rows++ps.map (·.map AV.pv)=rows') :
  cS P N o E H (.osl id (g+1) 0 k) ((id,⟨g+1,sz,e,rows'⟩)::H) :=
 HH q hS.1 i (dL rfl hS d j u w c f s l h p a v b)
end
end
end Go.Abs
namespace Go.Proofs.YtmdicgjnmfolfaaGreatDoor
open Go.Proofs.Tryz
open Go.Abs
variable{k:Nat}
inductive IV where
 |n (x:Int)
 |t (s:ByteArray)
 |b (x:Bool)
 |l (ts:List ByteArray)
 |z (i:Int) (a b:List ByteArray)
 |p (ps:List (Int×Int))
variable{l:List IV}{v:IV}
def fM(q:Int×Int):List PV:=[.int .i64 q.1,.int .i64 q.2]
def rZ(l:List (Int×Int)):PV:=.sl (l.map fM)
def aOW:IV->PV
 |.n x=>.ifc 3 (.int .i64 x)
 |.t s=>.ifc 9 (.str s)
 |.b x=>.ifc 4 (.bool x)
 |.l ts=>.ifc 22 (bA ts)
 |.z i a b=>.ifa 25 [.int .i64 i,bA a,bA b]
 |.p ps=>.ifc 26 (rZ ps)
def wX(v:IV):List PV:=[aOW v]
def fI:IV->List ByteArray
 |.n x=>[aV x]
 |.t s=>[s]
 |.b x=>[aV (if x then 1 else 0)]
 |.l ts=>aV (ts.length:Int)::ts
 |.z i a b=>aV i::((aV (a.length:Int)::a)++(aV (b.length:Int)::b))
 |.p ps=>aV (ps.length:Int)::ps.flatMap fun q=>[aV q.1,aV q.2]
def gI:IV->Nat
 |.n _=>1
 |.t _=>1
 |.b _=>1
 |.l _=>2
 |.z _ _ _=>5
 |.p ps=>1+2*ps.length
def rkI:IV->Nat
 |.n _=>0
 |.t _=>0
 |.b _=>1
 |.l _=>1
 |.z _ _ _=>2
 |.p _=>1
def rQ(x:Int):Prop := -9223372036854775808<=x/\x<=9223372036854775807
def okI:IV->Prop
 |.n x=>rQ x
 |.t _=>True
 |.b _=>True
 |.l ts=>ts.length<1099511627776
 |.z i a b=>rQ i/\a.length<1099511627776/\b.length<1099511627776
 |.p ps=>ps.length<1099511627776/\∀q∈ps,rQ q.1/\rQ q.2
def rS(l:List IV):List ByteArray:=l.flatMap fI
def ZG(l:List IV):Nat:=(l.map gI).sum
theorem aFT(h:l[k]?=some v):rS (l.take (k+1))=rS (l.take k)++fI v:=by rw[rS,List.take_add_one,h,List.flatMap_append];simp[rS]
theorem aFM(h:l[k]?=some v):ZG (l.take (k+1))=ZG (l.take k)+gI v:=by rw[ZG,List.take_add_one,h,List.map_append,List.sum_append];simp[ZG]
theorem aLA(l:List IV)(k:Nat):(rS (l.take k)).length<=(rS l).length:=by
 have h:rS l=rS (l.take k)++rS (l.drop k):=by rw[rS,rS,rS,<-List.flatMap_append,List.take_append_drop]
 rw[h,aPV];omega
def fH(g:Nat)(L:List ByteArray):aH:=[(971,⟨g,1,9,dF L⟩),(970,bx 1 72 [.osl 971 g 0 L.length])]
theorem aFU(g:Nat)(L:List ByteArray)(s:ByteArray):fH (g+1) (L++[s])=[(971,⟨g+1,1,9,dF (L++[s])⟩),(970,bx 1 72 [.osl 971 (g+1) 0 (L.length+1)])]:=by simp[fH]
theorem dQ{P:Program}{t:TypeId}{d:TypeDesc}(h:P.underlying t=some d)(hd:(match d with|.interface _=>false|_=>true)=true):P.concrete t=true:=by unfold Program.concrete;rw[h];cases d<;>first|rfl|cases hd
theorem M8(l:List IV):∀r∈l.map wX,r.length=1:=fun r hr=>by
 obtain ⟨t,_,rfl⟩:=List.mem_map.1 hr;rfl
def aGT(r:Nat):Prop:=∀(l:List IV),(∀v∈l,rkI v<r/\okI v)->∀(g:Nat) (L:List ByteArray),l.length<1099511627776->L.length+(rS l).length<1099511627776 ->
 aI Tryz.prog 40 [.ref 970 0 0 0,.pv (.sl (l.map wX))] (fH g L) (fun r H'=>r=.tup []/\H'=fH (g+ZG l) (L++rS l))
def NY(ps:List (Int×Int)):List ByteArray:=ps.flatMap fun q=>[aV q.1,aV q.2]
theorem J9:∀ps:List (Int×Int),(NY ps).length=2*ps.length
 | []=>rfl
 |q::r=>by
  have ih:=J9 r;rw[show NY (q::r)=aV q.1::aV q.2::NY r from rfl,aPW,aPW,aPW,ih];omega
theorem aEC{ps:List (Int×Int)}{j:Nat}{q:Int×Int}(h:ps[j]?=some q):NY (ps.take (j+1))=NY (ps.take j)++rS [.n q.1,.n q.2]:=by rw[NY,List.take_add_one,h,List.flatMap_append];rfl
theorem XA{args:List AV}{g g':Nat}{L L':List ByteArray}{H:aH}(h:aI Tryz.prog 40 args (fH g L) (fun r H'=>r=.tup []/\H'=fH g' L'))(hs:N1 H (fH g L))(ha:∀a∈args,Clo (fH g L) a):
  aI Tryz.prog 40 args H (fun r H'=>r=.tup []/\H'=fH g' L'++H):=aI.frame h (N1.sub hs) (eI.ofL ⟨(by exact cE _ _),(by(simp;rfl)),trivial⟩) ha (fun id h=>.inl (aAl h))
theorem oW(A ts:List ByteArray):dF A++(ts.map encStr).map (·.map AV.pv)=dF (A++ts):=by rw[<-gC,dF,dF,dF,List.map_append]
theorem aGm(ts:List ByteArray):∀r∈ts.map encStr,r.length=1:=fun r hr=>by
 obtain ⟨t,_,rfl⟩:=List.mem_map.1 hr;rfl
theorem aIX(g:Nat)(A B:List ByteArray):fH g (A++B)=[(971,⟨g,1,9,dF (A++B)⟩),(970,bx 1 72 [.osl 971 g 0 (A.length+B.length)])]:=by simp[fH]
theorem aGF(r:Nat)(ih:∀q,q<r->aGT q):aGT r:=by
 intro l hl g L hll hLl;have hml:(l.map wX).length=l.length:=aPU _;have one:∀(y:Int),rQ y->1<r->∀(g':Nat) (L':List ByteArray),L'.length+1<1099511627776->aI Tryz.prog 40 [.ref 970 0 0 0,.pv (.sl [wX (.n y)])] (fH g' L') (fun r H'=>r=.tup []/\H'=fH (g'+1) (L'++[aV y])):=fun y hy h1 g' L' hs =>
  ih 1 h1 [.n y] (fun v hv=>by rw[aPX]at hv;subst hv;exact⟨by simp[rkI],hy⟩) g' L' (by simp) hs
 refine Bd func40 rfl ntmps40<|Sr<|Dd aE<|Dd (fE underlying133)<|Dd aE<|Zz<|aG ?_;refine bT (σ:=Nat) (fun k=>([(0,.ref 970 0 0 0),(14,.pv (.sl (l.map wX))),(15,iv ((l.map wX).length:Int)),(16,iv (k:Int))],fH (g+ZG (l.take k)) (L++rS (l.take k)))) (fun k=>k<=l.length) (fun k=>l.length - k) 0 (aPb _) ?_ ?_
 ·simp only[rS,ZG,List.take_zero,List.flatMap_nil,List.map_nil,List.sum_nil,Nat.add_zero,List.append_nil];exact(dA.wk (Ea<|Eb<|Eb<|Eb<|trivial) (Hc (cE _ _)<|Ha<|trivial) ⟨rfl,rfl,trivial⟩)
 intro k hk;refine Sr<|Dd cZ<|Zz<|Sq ?_;refine Cn ?_ ?_<;>intro hc1
 ·have hlt:k<l.length:=by have:=aPQ hc1;omega
  obtain ⟨v,hv⟩:=aU hlt;obtain ⟨hrk,hok⟩:=hl v (aP4 hv);have hi:=cJ (f:=wX) hv;have hfn:=aFT hv;have hgn:=aFM hv;have hle:=aLA l (k+1);rw[hfn]at hle;obtain ⟨L1,hL1⟩:∃L1,L1=L++rS (l.take k):=⟨_,rfl⟩;obtain ⟨g1,hg1⟩:∃g1,g1=g+ZG (l.take k):=⟨_,rfl⟩;have hL2:L++rS (l.take (k+1))=L1++fI v:=by rw[hfn,hL1,List.append_assoc]
  have hg2:g+ZG (l.take (k+1))=g1+gI v:=by rw[hgn,hg1,Nat.add_assoc]
  have hsz:L1.length+(fI v).length<1099511627776:=by
   rw[aPV]at hle;rw[hL1,aPV];omega
  have hwk:IntKind.i64.wrap ((k:Int)+1)=((k+1:Nat):Int):=by rw[kK (by omega) (by omega)];omega
  rw[<-hL1,<-hg1];clear hfn hgn hle;cases v with
  |n x =>
   have hx:rQ x:=hok;have hsz:L1.length+1<1099511627776:=hsz;refine aC<|Sq<|aG<|Sr<|Dd (by exact bP rfl vW rfl rfl (by omega) (by exact aP5 _) hi rfl)<|Dd (iJ sJ (hi:=hi))<|Dd aL<|Zz<|Sr<|Dd aE<|Zz<|aG<|Sr<|Dd (by exact uF rfl (dQ underlying3 rfl) rfl)<|Dd fS<|Dd fS<|Zz ?_;refine Cn ?_ ?_<;>intro hc2
   ·refine Sr<|Dd aL<|Zz<|aN follows<|Cr [970] (fun _ _=>aE)<|Cr [970] (fun _ _=>aE)<|Cr [970] (fun H1 hH=>by exact fN rfl rfl ((hH _ rfl).trans rfl) rfl)<|Cr [970] (fun _ h=>lh DF h)<|Cr [] (fun _ _=>aE)<|Cr [] (fun H1 hH=>by exact aA rfl rfl pH rfl (tI x hx.1 hx.2 _))<|Cr [] (fun H1 hH=>by exact aR [[.str (aV x)]] rfl X1 rfl rfl rfl rfl rfl (by intro r hr;rw[aPX]at hr;subst hr;rfl))<|Cp [971] (fun H1 hH=>by exact dL (ps:=[[.str (aV x)]]) rfl X1 EF rfl ((hH _ rfl).trans rfl) rfl rfl rfl (kQ _) rfl (by intro r hr;rw[aPX]at hr;subst hr;rfl) (m:=1) rfl (by omega) rfl (mF L1 (aV x)))<|Cr [970] (fun H1 hH=>by exact fN rfl rfl ((hH _ rfl).trans rfl) rfl)<|Cp [970] (fun H1 hH=>by exact cM rfl IJ rfl rfl rfl rfl ((hH _ rfl).trans rfl) rfl rfl rfl) ?_;refine bL<|Kr<|Rg<|Dd (by exact bZ rfl rfl rfl hwk)<|Dd aE<|Zz ?_;refine⟨k+1,by omega,by omega,?_⟩;dsimp only;rw[hL2,hg2,show fI (.n x)=[aV x]from rfl,show gI (.n x)=1 from rfl,aFU];exact(dA.wk (Ea<|Eb<|Eb<|Eb<|trivial) (Hc (cE _ _)<|Ha<|trivial) ⟨rfl,rfl,trivial⟩)
   cases hc2
  |t s =>
   have hsz:L1.length+1<1099511627776:=hsz;refine aC<|Sq<|aG<|Sr<|Dd (by exact bP rfl vW rfl rfl (by omega) (by exact aP5 _) hi rfl)<|Dd (iJ sJ (hi:=hi))<|Dd aL<|Zz<|Sr<|Dd aE<|Zz<|aG<|Sr<|Dd (by exact kT rfl (dQ underlying3 rfl) zo3 rfl rfl)<|Dd fS<|Dd fS<|Zz ?_;refine Cn ?_ ?_<;>intro hc3
   ·cases hc3
   refine Sr<|Dd (by exact uF rfl (dQ underlying9 rfl) rfl)<|Dd fS<|Dd fS<|Zz ?_;refine Cn ?_ ?_<;>intro hc4
   ·refine Sr<|Dd aL<|Zz<|Rg<|Dd aE<|Dd aE<|Dd A6<|Dd (bC DF)<|Dd aE<|Dd (by exact aR [[.str s]] rfl X1 rfl rfl rfl rfl rfl (by intro r hr;rw[aPX]at hr;subst hr;rfl))<|Dd (by exact dL (ps:=[[.str s]]) rfl X1 EF rfl rfl rfl rfl rfl (kQ _) rfl (by intro r hr;rw[aPX]at hr;subst hr;rfl) (m:=1) rfl (by omega) rfl (mF L1 s))<|Dd A6<|Uu (lG IJ)<|Zz<|Rg<|Dd (by exact bZ rfl rfl rfl hwk)<|Dd aE<|Zz ?_;refine⟨k+1,by omega,by omega,?_⟩;dsimp only;rw[hL2,hg2,show fI (.t s)=[s]from rfl,show gI (.t s)=1 from rfl,aFU];exact(dA.wk (Ea<|Eb<|Eb<|Eb<|trivial) (Hc (cE _ _)<|Ha<|trivial) ⟨rfl,rfl,trivial⟩)
   cases hc4
  |b x =>
   have h1r:1<r:=hrk;have hsz:L1.length+1<1099511627776:=hsz;refine aC<|Sq<|aG<|Sr<|Dd (by exact bP rfl vW rfl rfl (by omega) (by exact aP5 _) hi rfl)<|Dd (iJ sJ (hi:=hi))<|Dd aL<|Zz<|Sr<|Dd aE<|Zz<|aG<|Sr<|Dd (by exact kT rfl (dQ underlying3 rfl) zo3 rfl rfl)<|Dd fS<|Dd fS<|Zz ?_;refine Cn ?_ ?_<;>intro hc5
   ·cases hc5
   refine Sr<|Dd (by exact kT rfl (dQ underlying9 rfl) zo9 rfl rfl)<|Dd fS<|Dd fS<|Zz ?_;refine Cn ?_ ?_<;>intro hc6
   ·cases hc6
   refine Sr<|Dd (by exact uF rfl (dQ dD rfl) rfl)<|Dd fS<|Dd fS<|Zz ?_;refine Cn ?_ ?_<;>intro hc7
   ·refine Sr<|Dd aL<|Zz<|Rg<|Dd aE<|Dd (by exact BR (id:=948) aFg rfl rfl)<|Uu (by exact IP (κ:=aFg) (.inr rfl) underlying134 dD rfl rfl rfl rfl rfl rfl rfl rfl)<|Dd aE<|Dd aE<|Dd (by exact LY (κ:=aFg) rfl underlying134 dD rfl rfl rfl rfl rfl CI (.inl rfl))<|Dd (by exact fD (p:=.int .i64 (if x then 1 else 0)) rfl (dQ underlying3 rfl) (by cases x<;>rfl))<|Dd (by exact aR [wX (.n (if x then 1 else 0))] rfl vW rfl rfl rfl rfl rfl (by intro r hr;rw[aPX]at hr;subst hr;rfl))<|Dd (by exact aA rfl rfl vP rfl (XA (one (if x then 1 else 0) (by cases x<;>exact⟨by decide,by decide⟩) h1r g1 L1 hsz) ⟨rfl,rfl,trivial⟩ (by simp;rfl)))<|Zz<|Rg<|Dd (by exact bZ rfl rfl rfl hwk)<|Dd aE<|Zz ?_;refine⟨k+1,by omega,by omega,?_⟩;dsimp only;rw[hL2,hg2,show fI (.b x)=[aV (if x then 1 else 0)]from rfl,show gI (.b x)=1 from rfl];exact(dA.wk (Ea<|Eb<|Eb<|Eb<|trivial) (Hc (cE _ _)<|Ha<|trivial) ⟨rfl,rfl,trivial⟩)
   cases hc7
  |l ts =>
   have h1r:1<r:=hrk;have hsz:L1.length+(ts.length+1)<1099511627776:=hsz;have hmt:(ts.map encStr).length=ts.length:=aPU _;obtain ⟨y,hy⟩:∃y,y=((ts.map encStr).length:Int):=⟨_,rfl⟩;have hyo:rQ y:=⟨by omega,by omega⟩;have hfl:L1++fI (.l ts)=(L1++[aV y])++ts:=by rw[hy,hmt,List.append_assoc];rfl
   have hll1:(L1++[aV y]).length=L1.length+1:=by rw[aPV];rfl
   refine aC<|Sq<|aG<|Sr<|Dd (by exact bP rfl vW rfl rfl (by omega) (by exact aP5 _) hi rfl)<|Dd (iJ sJ (hi:=hi))<|Dd aL<|Zz<|Sr<|Dd aE<|Zz<|aG<|Sr<|Dd (by exact kT rfl (dQ underlying3 rfl) zo3 rfl rfl)<|Dd fS<|Dd fS<|Zz ?_;refine Cn ?_ ?_<;>intro hc8
   ·cases hc8
   refine Sr<|Dd (by exact kT rfl (dQ underlying9 rfl) zo9 rfl rfl)<|Dd fS<|Dd fS<|Zz ?_;refine Cn ?_ ?_<;>intro hc9
   ·cases hc9
   refine Sr<|Dd (by exact kT rfl (dQ dD rfl) zo4 rfl rfl)<|Dd fS<|Dd fS<|Zz ?_;refine Cn ?_ ?_<;>intro hc10
   ·cases hc10
   refine Sr<|Dd (by exact uF rfl (dQ aD rfl) rfl)<|Dd fS<|Dd fS<|Zz ?_;refine Cn ?_ ?_<;>intro hc11
   ·refine Sr<|Dd aL<|Zz<|Sr<|Dd aE<|Dd aE<|Dd (by exact cS.eqJ (lO rfl cB.1 rfl) (congrArg (fun n:Int=>AV.pv (.int .i64 n)) hy.symm))<|Dd (by exact fD (p:=.int .i64 y) rfl (dQ underlying3 rfl) rfl)<|Dd (by exact aR [wX (.n y)] rfl vW rfl rfl rfl rfl rfl (by intro r hr;rw[aPX]at hr;subst hr;rfl))<|Dd (by exact aA rfl rfl vP rfl (XA (one y hyo h1r g1 L1 (by omega)) ⟨rfl,rfl,trivial⟩ (by simp;rfl)))<|Zz<|Rg<|Dd aE<|Dd aE<|Dd A6<|Dd (bC DF)<|Dd aE<|Dd (by exact aBQ (ps:=ts.map encStr) rfl aD X1 EF rfl rfl rfl rfl rfl (kQ _) rfl (aGm ts) (m:=ts.length) hmt (by rw[hll1];omega) rfl (oW (L1++[aV y]) ts))<|Dd A6<|Uu (lG IJ)<|Zz<|Rg<|Dd (by exact bZ rfl rfl rfl hwk)<|Dd aE<|Zz ?_;refine⟨k+1,by omega,by omega,?_⟩;dsimp only;rw[hL2,hg2,hfl,show gI (.l ts)=2 from rfl,aIX (g1+2) (L1++[aV y]) ts];exact(dA.wk (Ea<|Eb<|Eb<|Eb<|trivial) (Hc (cE _ _)<|Ha<|trivial) ⟨rfl,rfl,trivial⟩)
   cases hc11
  | z i a b =>
   have h2r:2<r:=hrk;obtain ⟨hio,hao,hbo⟩:rQ i/\a.length<1099511627776/\b.length<1099511627776:=hok;have e3:rS [.n i,.l a,.l b]=fI (.z i a b):=by simp[rS,fI]
   have h3:=ih 2 h2r [.n i,.l a,.l b] (by
    intro v hv;simp only[aP6,aPa,or_false]at hv;rcases hv with rfl|rfl|rfl
    ·exact⟨by simp[rkI],hio⟩
    ·exact⟨by simp[rkI],hao⟩
    exact⟨by simp[rkI],hbo⟩) g1 L1 (by simp) (by rw[e3];exact hsz)
   rw[e3]at h3;refine aC<|Sq<|aG<|Sr<|Dd (by exact bP rfl vW rfl rfl (by omega) (by exact aP5 _) hi rfl)<|Dd (iJ sJ (hi:=hi))<|Dd aL<|Zz<|Sr<|Dd aE<|Zz<|aG<|Sr<|Dd (by exact zJ rfl (dQ underlying3 rfl) zo3 rfl rfl)<|Dd fS<|Dd fS<|Zz ?_;refine Cn ?_ ?_<;>intro hc12
   ·cases hc12
   refine Sr<|Dd (by exact zJ rfl (dQ underlying9 rfl) zo9 rfl rfl)<|Dd fS<|Dd fS<|Zz ?_;refine Cn ?_ ?_<;>intro hc13
   ·cases hc13
   refine Sr<|Dd (by exact zJ rfl (dQ dD rfl) zo4 rfl rfl)<|Dd fS<|Dd fS<|Zz ?_;refine Cn ?_ ?_<;>intro hc14
   ·cases hc14
   refine Sr<|Dd (by exact zJ rfl (dQ aD rfl) aLm rfl rfl)<|Dd fS<|Dd fS<|Zz ?_;refine Cn ?_ ?_<;>intro hc15
   ·cases hc15
   refine Sr<|Dd (by exact LW (ps:=[.int .i64 i,bA a,bA b]) rfl (dQ gQ rfl) rfl)<|Dd fS<|Dd fS<|Zz ?_;refine Cn ?_ ?_<;>intro hc16
   ·refine Sr<|Dd (by exact bW (id:=10) rfl aBO rfl rfl)<|Uu (lG sizeOf25)<|Zz<|Rg<|Dd aE<|Dd (aS jG)<|Dd (bC isAgg3)<|Dd (by exact fD (p:=.int .i64 i) rfl (dQ underlying3 rfl) rfl)<|Dd (aS iS)<|Dd (bC aF)<|Dd (by exact fD (p:=bA a) rfl (dQ aD rfl) rfl)<|Dd (aS mN)<|Dd (bC aF)<|Dd (by exact fD (p:=bA b) rfl (dQ aD rfl) rfl)<|Dd (by exact aR [wX (.n i),wX (.l a),wX (.l b)] rfl vW rfl rfl rfl rfl rfl (by intro r hr;simp only[aP6,aPa,or_false]at hr;rcases hr with rfl|rfl|rfl<;>rfl))<|Dd (by exact aA rfl rfl vP rfl (XA h3 ⟨rfl,rfl,trivial⟩ (by simp;rfl)))<|Zz<|Rg<|Dd (by exact bZ rfl rfl rfl hwk)<|Dd aE<|Zz ?_;refine⟨k+1,by omega,by omega,?_⟩;dsimp only;rw[hL2,hg2];exact(dA.wk (Ea<|Eb<|Eb<|Eb<|trivial) (Hc (cE _ _)<|Ha<|trivial) ⟨rfl,rfl,trivial⟩)
   cases hc16
  | p ps =>
   have h1r:1<r:=hrk;obtain ⟨hpl,hpo⟩:ps.length<1099511627776/\∀q∈ps,rQ q.1/\rQ q.2:=hok;have hfp:∀j,NY (ps.take j)=(ps.take j).flatMap (fun q=>[aV q.1,aV q.2]):=fun _=>rfl;have hsz:L1.length+(1+2*ps.length)<1099511627776:=by
    have:(fI (.p ps)).length=1+2*ps.length:=by rw[show fI (.p ps)=aV (ps.length:Int)::NY ps from rfl,aPW,J9];omega
    omega
   have hmt:(ps.map fM).length=ps.length:=aPU _;obtain ⟨y,hy⟩:∃y,y=((ps.map fM).length:Int):=⟨_,rfl⟩;have hyo:rQ y:=⟨by omega,by omega⟩;have hfl:L1++fI (.p ps)=(L1++[aV y])++NY ps:=by rw[hy,hmt,List.append_assoc];rfl
   refine aC<|Sq<|aG<|Sr<|Dd (by exact bP rfl vW rfl rfl (by omega) (by exact aP5 _) hi rfl)<|Dd (iJ sJ (hi:=hi))<|Dd aL<|Zz<|Sr<|Dd aE<|Zz<|aG<|Sr<|Dd (by exact kT rfl (dQ underlying3 rfl) zo3 rfl rfl)<|Dd fS<|Dd fS<|Zz ?_;refine Cn ?_ ?_<;>intro hc17
   ·cases hc17
   refine Sr<|Dd (by exact kT rfl (dQ underlying9 rfl) zo9 rfl rfl)<|Dd fS<|Dd fS<|Zz ?_;refine Cn ?_ ?_<;>intro hc18
   ·cases hc18
   refine Sr<|Dd (by exact kT rfl (dQ dD rfl) zo4 rfl rfl)<|Dd fS<|Dd fS<|Zz ?_;refine Cn ?_ ?_<;>intro hc19
   ·cases hc19
   refine Sr<|Dd (by exact kT rfl (dQ aD rfl) aLm rfl rfl)<|Dd fS<|Dd fS<|Zz ?_;refine Cn ?_ ?_<;>intro hc20
   ·cases hc20
   refine Sr<|Dd (by exact kT rfl (dQ gQ rfl) aBO rfl rfl)<|Dd fS<|Dd fS<|Zz ?_;refine Cn ?_ ?_<;>intro hc21
   ·cases hc21
   refine Sr<|Dd (by exact uF rfl (dQ dI rfl) rfl)<|Dd fS<|Dd fS<|Zz ?_;refine Cn ?_ ?_<;>intro hc22
   ·refine Sr<|Dd aL<|Zz<|Sr<|Dd aE<|Dd aE<|Dd (by exact cS.eqJ (lO rfl LG.1 rfl) (congrArg (fun n:Int=>AV.pv (.int .i64 n)) hy.symm))<|Dd (by exact fD (p:=.int .i64 y) rfl (dQ underlying3 rfl) rfl)<|Dd (by exact aR [wX (.n y)] rfl vW rfl rfl rfl rfl rfl (by intro r hr;rw[aPX]at hr;subst hr;rfl))<|Dd (by exact aA rfl rfl vP rfl (XA (one y hyo h1r g1 L1 (by omega)) ⟨rfl,rfl,trivial⟩ (by simp;rfl)))<|Zz<|Sr<|Dd aE<|Dd (fE dI)<|Dd aE<|Zz<|aG ?_;refine bT (σ:=Nat) (fun j=>([(0,.ref 970 0 0 0),(14,.pv (.sl (l.map wX))),(15,iv ((l.map wX).length:Int)),(16,iv (k:Int)),(95,.pv (rZ ps)),(96,iv ((ps.map fM).length:Int)),(97,iv (j:Int))],fH (g1+1+2*j) ((L1++[aV y])++NY (ps.take j)))) (fun j=>j<=ps.length) (fun j=>ps.length - j) 0 (aPb _) ?_ ?_
    ·rw[show NY (ps.take 0)=[]from rfl,List.append_nil];exact(dA.wk (Ea<|Eb<|Eb<|Eb<|Eb<|Eb<|Eb<|trivial) (Hc (cE _ _)<|Ha<|trivial) ⟨rfl,rfl,trivial⟩)
    intro j hj;refine Sr<|Dd cZ<|Zz<|Sq ?_;refine Cn ?_ ?_<;>intro hc23
    ·have hjl:j<ps.length:=by have:=aPQ hc23;omega
     obtain ⟨q,hq⟩:=aU hjl;have hqi:=cJ (f:=fM) hq;obtain ⟨hq1,hq2⟩:=hpo q (aP4 hq);have hnx:=aEC hq;have hln:(L1++[aV y]++NY (ps.take j)).length=L1.length+1+2*j:=by rw[aPV,aPV,J9,aP8];simp;omega
     have h2:=ih 1 h1r [.n q.1,.n q.2] (by
      intro v hv;simp only[aP6,aPa,or_false]at hv;rcases hv with rfl|rfl
      ·exact⟨by simp[rkI],hq1⟩
      exact⟨by simp[rkI],hq2⟩) (g1+1+2*j) (L1++[aV y]++NY (ps.take j)) (by simp) (by rw[hln];show L1.length+1+2*j+2<_;omega)
     refine aC<|Sq<|aG<|Sr<|Dd (by exact bP rfl LG rfl rfl (by omega) (by exact aP5 _) hqi rfl)<|Dd (by exact dN rfl dS sizeOf68 rfl hqi (by simp only[Zl,encStr];rfl) rfl)<|Dd (by exact bW (id:=13) rfl aLi rfl rfl)<|Uu (lG sizeOf68)<|Zz<|Rg<|Dd aE<|Dd (aS pC)<|Dd (bC isAgg3)<|Dd (by exact fD (p:=.int .i64 q.1) rfl (dQ underlying3 rfl) rfl)<|Dd (aS pB)<|Dd (bC isAgg3)<|Dd (by exact fD (p:=.int .i64 q.2) rfl (dQ underlying3 rfl) rfl)<|Dd (by exact aR [wX (.n q.1),wX (.n q.2)] rfl vW rfl rfl rfl rfl rfl (by intro r hr;simp only[aP6,aPa,or_false]at hr;rcases hr with rfl|rfl<;>rfl))<|Dd (by exact aA rfl rfl vP rfl (XA h2 ⟨rfl,rfl,trivial⟩ (by simp;rfl)))<|Zz<|Rg<|Dd (by exact bZ rfl rfl rfl (show IntKind.i64.wrap ((j:Int)+1)=((j+1:Nat):Int)by rw[kK (by omega) (by omega)];omega)) ?_;refine Dd aE<|Zz ?_;refine⟨j+1,by omega,by omega,?_⟩;dsimp only;rw[hnx,<-List.append_assoc,show g1+1+2*(j+1)=g1+1+2*j+ZG [.n q.1,.n q.2]from rfl];exact(dA.wk (Ea<|Eb<|Eb<|Eb<|Eb<|Eb<|Eb<|trivial) (Hc (cE _ _)<|Ha<|trivial) ⟨rfl,rfl,trivial⟩)
    have hjg:j=ps.length:=by have:=aPR hc23;omega
    subst hjg;rw[List.take_length];refine aY<|Rg<|Dd (by exact bZ rfl rfl rfl hwk)<|Dd aE<|Zz ?_;refine⟨k+1,by omega,by omega,?_⟩;dsimp only;rw[hL2,hg2,hfl,show g1+gI (.p ps)=g1+1+2*ps.length from(Nat.add_assoc _ _ _).symm];exact(dA.wk (Ea<|Eb<|Eb<|Eb<|trivial) (Hc (cE _ _)<|Ha<|trivial) ⟨rfl,rfl,trivial⟩)
   cases hc22
 have hge:k=l.length:=by have:=aPR hc1;omega
 subst hge;rw[List.take_length];refine aY ?_;exact sI (.inl rfl) rfl Fin.refl ⟨rfl,rfl⟩
theorem aLZ(r:Nat):aGT r:=Nat.strongRecOn r (fun r ih=>aGF r ih)
theorem aMM(v:IV):rkI v<3:=by cases v<;>simp[rkI]
theorem Z1(l:List IV)(hl:∀v∈l,okI v)(g:Nat)(L:List ByteArray)(hll:l.length<1099511627776)(hs:L.length+(rS l).length<1099511627776):
  aI Tryz.prog 40 [.ref 970 0 0 0,.pv (.sl (l.map wX))] (fH g L) (fun r H'=>r=.tup []/\H'=fH (g+ZG l) (L++rS l)) :=
 aLZ 3 l (fun v hv=>⟨aMM v,hl v hv⟩) g L hll hs
structure GSeal where
 idx:Int
 sig:List ByteArray
 path:List ByteArray
 deriving DecidableEq
structure GPriv where
 name:ByteArray
 reason:ByteArray
 sources:List ByteArray
 trace:List (Int×Int)
 sl:GSeal
 deriving DecidableEq
structure GRec where
 kind:Int
 author:Int
 number:Int
 clock:Int
 branch:ByteArray
 parents:List ByteArray
 edits:List GEdit
 target:ByteArray
 yes:Bool
 order:Int
 from':ByteArray
 sl:GSeal
 priv:GPriv
def gW(s:GSeal):List PV:=[.int .i64 s.idx,bA s.sig,bA s.path]
def jS(p:GPriv):List PV:=[.str p.name,.str p.reason,bA p.sources,rZ p.trace,.int .i64 p.sl.idx,bA p.sl.sig,bA p.sl.path]
def cC(r:GRec):List PV:=[.int .i64 r.kind,.int .i64 r.author,.int .i64 r.number,.int .i64 r.clock,.str r.branch,bA r.parents,iF r.edits,.str r.target,.bool r.yes,.int .i64 r.order,.str r.from',.int .i64 r.sl.idx,bA r.sl.sig,bA r.sl.path,.str r.priv.name,.str r.priv.reason,bA r.priv.sources,rZ r.priv.trace,.int .i64 r.priv.sl.idx,bA r.priv.sl.sig,bA r.priv.sl.path]
def D6(l:List ByteArray):Prop:=l.length<1099511627776/\∀t∈l,t.size<1099511627776
def rG(s:GSeal):Prop:=rQ s.idx/\D6 s.sig/\D6 s.path
def SN(p:GPriv):Prop:=p.name.size<1099511627776/\p.reason.size<1099511627776/\D6 p.sources/\p.trace.length<1099511627776/\rG p.sl
def aKH(q:ByteArray->Bool)(l:List ByteArray)(k:Nat):Bool:=match l[k]? with|some s=>q s|none=>false
theorem aHW(q:ByteArray->Bool)(l:List ByteArray):(List.range l.length).any (aKH q l)=l.any q:=RB l q
theorem ND(f:FuncId)(l:List ByteArray)(q:ByteArray->Bool)(hl:l.length<1099511627776)(hf:∀s∈l,dK Tryz.prog (.pv (.fn f)) [sv s] [] (fun r H'=>r=bv (q s)/\H'=[]))(H:aH):
  aI Tryz.prog 62 [.pv (bA l),.pv (.fn f)] H (fun r H'=>r=bv (l.any q)/\H'=H):=by
 refine Pu ?_;have hc:=rT (.pv (.fn f)) l (aKH q l) (fun _=>[]) (by omega) (fun k s hk=>by
  rw[aKH,hk];exact hf s (aP4 hk))
 rw[aHW]at hc;exact hc
theorem aLD(t:ByteArray)(ht:t.size<1099511627776)(H:aH):aI Tryz.prog 124 [sv t] H (fun r H'=>r=bv (MD t)/\H'=H):=by refine Pu ?_;exact Bd func124 rfl ntmps124<|Sr<|Dd aL<|Zz<|Sr<|Dd aE<|Dd (by exact aA rfl rfl aPF rfl (aEz t ht _))<|Dd iQ<|Dd aL<|Zz<|aB<|Rt<|Qq
theorem IA(l:List ByteArray)(hl:D6 l)(H:aH):aI Tryz.prog 71 [.pv (bA l)] H (fun r H'=>r=bv (l.all isJ)/\H'=H):=by refine Pu ?_;have hc:=ND 124 l MD hl.1 (fun s hs=>dK.fn call124 (aLD s (hl.2 s hs) [])) [];rw[GJ]at hc;refine Bd func71 rfl ntmps71<|Sr<|Dd aL<|Zz<|Sr<|Dd aE<|Dd (by exact aA rfl rfl TT rfl (hc))<|Dd iQ<|Dd aL<|Zz<|aB<|Rt ?_;exact⟨by rw[Bool.not_not],rfl⟩
def oI(s:GSeal):Bool:=decide (s.idx=0)&&decide (((s.sig.map encStr).length:Int)+((s.path.map encStr).length:Int)=0)
theorem aDH(s:GSeal)(hs:rG s)(H:aH):aI Tryz.prog 81 [av (gW s)] H (fun r H'=>r=bv (oI s)/\H'=H):=by
 refine Pu ?_;have h1:(s.sig.map encStr).length<1099511627776:=by rw[aPU];exact hs.2.1.1
 have h2:(s.path.map encStr).length<1099511627776:=by rw[aPU];exact hs.2.2.1
 refine Bd func81 rfl ntmps81<|Sr<|Dd (by exact cD (id:=1) rfl rfl rfl rfl rfl)<|Dd aL<|Zz<|Sq ?_;refine aT (t:=2) (n:=15) (X:=oI s) ?_ ?_
 ·all_goals refine Dd (aS jG) ?_
  all_goals refine Dd (bC isAgg3)<|Dd cK<|Dm ?_
  all_goals refine Sp 6 (fun h6=>?_) fun h6=>?_
  all_goals try contradiction
  all_goals first|refine Fo<|Fo<|Fo<|Fo<|Fo<|Fo<|Fo<|Fo ?_|refine On (aS iS)<|On (bC aF)<|On (fE aD)<|On (aS mN)<|On (bC aF)<|On (fE aD)<|On (by exact bZ rfl rfl rfl (kK (by omega) (by omega)))<|On cK ?_
  all_goals refine Dd cG<|Da ?_
  all_goals(exact⟨⟨_,rfl,by(rw[oI,h6];rfl)⟩,rfl,rfl,rfl⟩)
 exact aB<|Rt<|Qq
def gN(s:GSeal):Bool:=oI s||(((((decide (0<=s.idx)&&decide (s.idx<256))&&decide (((s.sig.map encStr).length:Int)=18))&&decide (((s.path.map encStr).length:Int)<=8))&&s.sig.all isJ)&&s.path.all isJ)
theorem WB(s:GSeal)(hs:rG s)(H:aH):aI Tryz.prog 66 [av (gW s)] H (fun r H'=>r=bv (gN s)/\H'=H):=by
 refine Pu ?_;have hz:=fun H=>aDH s hs H;have hd1:=fun H=>IA s.sig hs.2.1 H;have hd2:=fun H=>IA s.path hs.2.2 H;obtain ⟨zz,hzz⟩:∃zz,zz=oI s:=⟨_,rfl⟩;rw[<-hzz]at hz;refine Bd func66 rfl ntmps66<|Sr<|Dd (by exact cD (id:=1) rfl rfl rfl rfl rfl)<|Dd aL<|Zz<|Sq ?_;refine aT (t:=2) (n:=41) (X:=gN s) ?_ ?_
 ·all_goals refine Dd (by exact aM rfl eC sizeOf25 rfl rfl rfl rfl (by simp only[Zl,encStr];rfl) rfl) ?_
  all_goals refine Dd (by exact aA rfl rfl call81 rfl (hz _))<|Dm ?_
  all_goals refine Sp 5 (fun h5=>?_) fun h5=>?_
  all_goals try contradiction
  all_goals first|refine Fo<|Fo<|Fo<|Fo ?_|refine On (aS jG)<|On (bC isAgg3)<|On DD<|On aE ?_
  all_goals(first|refine Sp 9 (fun h9=>?_) fun h9=>?_|refine jX (t:=9) rfl ?_)
  all_goals try contradiction
  all_goals first|refine Fo ?_|refine Fu ?_|refine On (aS jG) ?_
  all_goals first|refine Fo ?_|refine Fu ?_|refine On (bC isAgg3) ?_
  all_goals first|refine Fo ?_|refine Fu ?_|refine On cZ ?_
  all_goals first|refine Fo<|Fo ?_|refine On cG<|On aE ?_
  all_goals(first|refine Sp 14 (fun h14=>?_) fun h14=>?_|refine jX (t:=14) rfl ?_)
  all_goals try contradiction
  all_goals first|refine Fo ?_|refine Fu ?_|refine On (aS iS) ?_
  all_goals first|refine Fo ?_|refine Fu ?_|refine On (bC aF) ?_
  all_goals first|refine Fo ?_|refine Fu ?_|refine On (fE aD) ?_
  all_goals first|refine Fo ?_|refine Fu ?_|refine On cK ?_
  all_goals first|refine Fo<|Fo ?_|refine On cG<|On aE ?_
  all_goals(first|refine Sp 20 (fun h20=>?_) fun h20=>?_|refine jX (t:=20) rfl ?_)
  all_goals try contradiction
  all_goals first|refine Fo ?_|refine Fu ?_|refine On (aS mN) ?_
  all_goals first|refine Fo ?_|refine Fu ?_|refine On (bC aF) ?_
  all_goals first|refine Fo ?_|refine Fu ?_|refine On (fE aD) ?_
  all_goals first|refine Fo ?_|refine Fu ?_|refine On GQ ?_
  all_goals first|refine Fo<|Fo ?_|refine On cG<|On aE ?_
  all_goals(first|refine Sp 26 (fun h26=>?_) fun h26=>?_|refine jX (t:=26) rfl ?_)
  all_goals try contradiction
  all_goals first|refine Fo ?_|refine Fu ?_|refine On (aS iS) ?_
  all_goals first|refine Fo ?_|refine Fu ?_|refine On (bC aF) ?_
  all_goals first|refine Fo ?_|refine Fu ?_|refine On (by exact aA rfl rfl aG4 rfl (hd1 _)) ?_
  all_goals first|refine Fo<|Fo ?_|refine On cG<|On aE ?_
  all_goals(first|refine Sp 31 (fun h31=>?_) fun h31=>?_|refine jX (t:=31) rfl ?_)
  all_goals try contradiction
  all_goals first|refine Fo ?_|refine Fu ?_|refine On (aS mN) ?_
  all_goals first|refine Fo ?_|refine Fu ?_|refine On (bC aF) ?_
  all_goals first|refine Fo ?_|refine Fu ?_|refine On (by exact aA rfl rfl aG4 rfl (hd2 _)) ?_
  all_goals first|refine Fo ?_|refine On cG ?_
  all_goals refine Dd cG<|Da ?_
  all_goals(exact⟨⟨_,rfl,by first|(rw[gN,<-hzz,h5];rfl)|(rw[gN,<-hzz,h5,h9];rfl)|(rw[gN,<-hzz,h5,h9,h14];rfl)|(rw[gN,<-hzz,h5,h9,h14,h20];rfl)|(rw[gN,<-hzz,h5,h9,h14,h20,h26];rfl)|(rw[gN,<-hzz,h5,h9,h14,h20,h26,h31];rfl)⟩,rfl,rfl,rfl⟩)
 exact aB<|Rt<|Qq
def fG(p:GPriv):Bool:=decide (p.name++p.reason=sNil)&&decide (((p.sources.map encStr).length:Int)+((p.trace.map fM).length:Int)=0)
theorem aAt(p:GPriv)(hp:SN p)(H:aH):aI Tryz.prog 80 [av (jS p)] H (fun r H'=>r=bv (fG p)/\H'=H):=by
 refine Pu ?_;obtain ⟨a1,a2,a3,a4,a5⟩:=hp;have h1:(p.sources.map encStr).length<1099511627776:=by rw[aPU];exact a3.1
 have h2:(p.trace.map fM).length<1099511627776:=by rw[aPU];exact a4
 have h3:(p.name++p.reason).size=p.name.size+p.reason.size:=ByteArray.size_append;refine Bd func80 rfl ntmps80<|Sr<|Dd (by exact cD (id:=1) rfl rfl rfl rfl rfl)<|Dd aL<|Zz<|Sq ?_;refine aT (t:=2) (n:=18) (X:=fG p) ?_ ?_
 ·all_goals refine Dd (aS wV) ?_
  all_goals refine Dd (bC isAgg9)<|Dd (aS wU)<|Dd (bC isAgg9)<|Dd (by exact cH rfl rfl rfl (by omega) rfl)<|Dd zE<|Dm ?_
  all_goals refine Sp 9 (fun h9=>?_) fun h9=>?_
  all_goals try contradiction
  all_goals first|refine Fo<|Fo<|Fo<|Fo<|Fo<|Fo<|Fo<|Fo ?_|refine On (aS qQ)<|On (bC aF)<|On (fE aD)<|On (aS lS)<|On (bC eT)<|On (fE dI)<|On (by exact bZ rfl rfl rfl (kK (by omega) (by omega)))<|On cK ?_
  all_goals refine Dd cG<|Da ?_
  all_goals(exact⟨⟨_,rfl,by(rw[fG,h9];rfl)⟩,rfl,rfl,rfl⟩)
 exact aB<|Rt<|Qq
theorem KQ(n a b:Int)(H:aH):aI Tryz.prog 60 [iv n,iv a,iv b] H (fun r H'=>r=bv (decide (a<=n)&&decide (n<=b))/\H'=H):=by
 refine Pu ?_;refine Bd func60 rfl ntmps60<|Sr<|Dd aL<|Zz<|Sq ?_;refine aT (t:=6) (n:=10) (X:=decide (a<=n)&&decide (n<=b)) ?_ ?_
 ·all_goals refine Dd aE ?_
  all_goals refine Dd aE<|Dd DD<|Dm ?_
  all_goals refine Sp 10 (fun h10=>?_) fun h10=>?_
  all_goals try contradiction
  all_goals first|refine Fo<|Fo<|Fo ?_|refine On aE<|On aE<|On GQ ?_
  all_goals refine Dd cG<|Da ?_
  all_goals(exact⟨⟨_,rfl,by(rw[h10];rfl)⟩,rfl,rfl,rfl⟩)
 exact aB<|Rt<|Qq
def BW(s:ByteArray):Bool:=decide (200<(s.size:Int))
theorem aKh(s:ByteArray)(H:aH):aI Tryz.prog 63 [sv s] H (fun r H'=>r=bv (BW s)/\H'=H):=by refine Pu ?_;exact Bd func63 rfl ntmps63<|Sr<|Dd aL<|Zz<|Sr<|Dd aE<|Dd (jV underlying9)<|Dd iE<|Dd aL<|Zz<|aB<|Rt<|Qq
theorem aAR(l:List ByteArray)(hl:l.length<1099511627776)(H:aH):aI Tryz.prog 61 [.pv (bA l)] H (fun r H'=>r=bv (!l.any BW)/\H'=H):=by refine Pu ?_;have hc:=ND 63 l BW hl (fun s hs=>dK.fn call63 (aKh s [])) [];exact Bd func61 rfl ntmps61<|Sr<|Dd aL<|Zz<|Sr<|Dd aE<|Dd (by exact aA rfl rfl TT rfl (hc))<|Dd iQ<|Dd aL<|Zz<|aB<|Rt<|Qq
end Go.Proofs.YtmdicgjnmfolfaaGreatDoor
namespace Go.Abs
section
section
variable{P:Program}{N:Nat}{o:Oper}{E:dB}{H:aH}{S T t:TypeId}{x:Operand}{id g n m:Nat}{ob:Ob}
theorem D4(y:o.op=.convert S T x)(hS:P.underlying S=some .unsafePointer)(v:P.underlying T=some (.pointer t))(hi:(P.info? t).map (·.size)=some (n+1))(q:P.cellsOf ob.ty=m+1)(k:aP E x=some (.ref id g 0 0))(s:H.get id=some ob)(i:ob.g=g)(e:ob.rows≠[])(f:ob.sz=m+1)(hl:∀c,liesAt P P.depth ob.ty (c+1) 0 t 1=true):cS P N o E H (.ref id g 0 0) H :=.of_run fun a w I ι l z=>by
  have h:=aJ z k;obtain ⟨b,d,r,p,e3,e4⟩:=G8 l h s i e;obtain ⟨j,u,h2⟩:=yG hi;refine⟨_,?_,h⟩;simp only[execOp,y,r];have hq:d*ob.sz / P.cellsOf ob.ty=(d - 1)+1:=by rw[q,f,Nat.mul_div_cancel _ (by omega)];omega
  rw[Sem.run_bind,Lib.run_from_unsafe w _ hS v u p (by grind)];rfl
end
end
end Go.Abs
namespace Go.Proofs.YtmdicgjnmfolfaaGreatDoor
open Go.Proofs.Tryz
open Go.Abs
variable{g n g':Nat}{u u':Bool}{l l':List UInt8}{K:aH}
theorem aMu(c:Nat):liesAt Tryz.prog Tryz.prog.depth 245 (c+1) 0 137 1=true:=by kernel_rfl
def EK(buf:AV)(u:Bool):Ob:=⟨0,2,245,[[W4 u,buf]]⟩
def oF(g:Nat)(l:List UInt8)(u:Bool):aH:=[(2001,EK (.osl 2002 g 0 l.length) u),(2002,⟨g,1,5,eQ l⟩)]
theorem NH{H:aH}(h1:(H.get 2001).isSome=true)(h2:(H.get 2002).isSome=true):∀r∈(EK (.osl 2002 g 0 n) u).rows,∀a∈r,Clo H a:=by
 intro r hr a ha;simp only[EK,aPX]at hr;subst hr;simp only[aP6,aPa,or_false]at ha;rcases ha with rfl|rfl
 ·cases u<;>simp[W4,h1]
 simp[h2]
theorem GE(buf:AV)(u:Bool)(K:aH):aI Tryz.prog 147 [.ref 2001 0 0 0] ((2001,EK buf u)::K) (fun r H'=>r=.tup []/\H'=(2001,EK buf true)::K):=by
 cases u with
 |false =>
  refine Bd aCq rfl XH<|Sr<|Dd aE<|Dd A6<|Dd (aS wH)<|Dd (bC A3)<|Dd (by exact IZ rfl gA rfl rfl)<|Zz ?_;refine Cn ?_ ?_<;>intro hc1
  ·refine Rg<|Dd aE<|Dd aE<|Dd (by exact DM (n:=1) rfl gA EO (by kernel_rfl) rfl rfl rfl (by simp[EK]))<|Dd (by exact KB rfl rfl func182 rfl rfl rfl rfl rfl (WD (.ref 2001 0 0 0)))<|Dd (by exact D4 (n:=1) (m:=1) rfl EO gA (by kernel_rfl) (by kernel_rfl) rfl rfl rfl (by simp[EK]) rfl aMu)<|Dd A6<|Dd (aS wH)<|Uu (by exact bH rfl aL0 rfl rfl rfl rfl rfl rfl (aP7 rfl) rfl rfl)<|Zz ?_;exact sI (.inl rfl) rfl (Fin.get' (H':=(2001,EK buf true)::K) (fun j=>wG 2001 (EK buf true) (EK buf false) K j)) ⟨rfl,rfl⟩
  cases hc1
 |true =>
  refine Bd aCq rfl XH<|Sr<|Dd aE<|Dd A6<|Dd (aS wH)<|Dd (bC A3)<|Dd (by exact IY rfl gA rfl rfl rfl rfl)<|Zz ?_;refine Cn ?_ ?_<;>intro hc1
  ·cases hc1
  refine Sr<|Dd aE<|Dd A6<|Dd (aS wH)<|Dd (bC A3)<|Dd aE<|Dd (by exact FJ (n:=1) rfl gA (by kernel_rfl) rfl rfl rfl rfl)<|Zz ?_;refine Cn ?_ ?_<;>intro hc2
  ·cases hc2
  refine aC ?_;exact sI (.inl rfl) rfl Fin.refl ⟨rfl,rfl⟩
theorem W2(g:Nat)(l m:List UInt8)(h:m.length=n):oF (g+1) (l++m) true=[(2001,EK (.osl 2002 (g+1) 0 (l.length+n)) true),(2002,⟨g+1,1,5,eQ (l++m)⟩)]:=by subst h;simp[oF]
theorem RI(g:Nat)(l:List UInt8)(u:Bool)(c:UInt8)(hl:l.length<70368744177664):aI Tryz.prog 110 [.ref 2001 0 0 0,.pv (.int .u8 c.toNat)] (oF g l u) (fun r H'=>r=.pv HL/\H'=oF (g+1) (l++[c]) true):=by refine Bd func110 rfl ntmps110<|Sr<|Dd aL<|Zz<|Sr<|Dd aE<|Dd (by exact aA rfl rfl NU rfl (GE _ u _))<|Zz<|Sr<|Dd aE<|Dd aE<|Dd A6<|Dd (aS gE)<|Dd (bC dV)<|Dd aE<|Dd (by exact aR [[.int .u8 c.toNat]] rfl xO rfl rfl rfl rfl rfl (by intro r hr;rw[aPX]at hr;subst hr;rfl))<|Dd (by exact dL (ps:=[[.int .u8 c.toNat]]) rfl xO ei5 rfl rfl rfl rfl rfl (pS l) rfl (by intro r hr;rw[aPX]at hr;subst hr;rfl) (m:=1) rfl (by omega) rfl (rL l [c]))<|Dd A6<|Dd (aS gE)<|Uu (by exact bH rfl oH rfl rfl rfl rfl rfl rfl (aP7 rfl) rfl rfl)<|Zz<|Sr<|Dd aL<|Zz<|aB ?_;rw[W2 g l [c] (n:=1) rfl];refine eG (H':=[(2001,EK (.osl 2002 (g+1) 0 (l.length+1)) true),(2002,⟨g+1,1,5,eQ (l++[c])⟩)]) (.inr rfl) rfl (bD rfl) (Fin.get' (fun j=>F4 (by decide) j)) ?_;exact Qq
theorem BG(g:Nat)(l:List UInt8)(u:Bool)(s:ByteArray)(hl:l.length+s.size<70368744177664):aI Tryz.prog 109 [.ref 2001 0 0 0,sv s] (oF g l u) (fun r H'=>r=.tup [iv (s.size:Int),.pv HL]/\H'=oF (g+1) (l++s.data.toList) true):=by refine Bd func109 rfl ntmps109<|Sr<|Dd aL<|Dd aL<|Zz<|Sr<|Dd aE<|Dd (by exact aA rfl rfl NU rfl (GE _ u _))<|Zz<|Sr<|Dd aE<|Dd aE<|Dd A6<|Dd (aS gE)<|Dd (bC dV)<|Dd aE<|Dd (by exact sW rfl xO underlying9 ei5 JV rfl rfl rfl rfl rfl (pS l) rfl (by omega) rfl (rL l s.data.toList))<|Dd A6<|Dd (aS gE)<|Uu (by exact bH rfl oH rfl rfl rfl rfl rfl rfl (aP7 rfl) rfl rfl)<|Zz<|Sr<|Dd aE<|Dd (jV underlying9)<|Dd aL<|Dd aL<|Zz<|aB ?_;rw[W2 g l s.data.toList (n:=s.size) rfl];refine vI (H':=[(2001,EK (.osl 2002 (g+1) 0 (l.length+s.size)) true),(2002,⟨g+1,1,5,eQ (l++s.data.toList)⟩)]) (.inr rfl) rfl (bD rfl) (bD rfl) (Fin.get' (fun j=>F4 (by decide) j)) ?_;exact Qq
def W3(g:Nat)(l:List UInt8)(u:Bool):aH:=[(2002,⟨g+1,1,5,[]⟩),(2001,EK (.osl 2002 g 0 l.length) u)]
theorem aJs(g:Nat)(l:List UInt8)(u:Bool)(hl:l.length<70368744177664):aI Tryz.prog 111 [.ref 2001 0 0 0] (oF g l u) (fun r H'=>r=sv ⟨l.toArray⟩/\H'=W3 g l u):=by
 by_cases h0:l=[]
 ·subst h0;refine Bd aCs rfl XJ<|Sr<|Dd aL<|Zz<|Sq<|aN follows<|Cq aE<|Cq A6<|Cq (aS gE)<|Cq (bC dV)<|Cq (by exact BP rfl vL rfl rfl rfl)<|Cq aE<|Cq A6<|Cq (aS gE)<|Cq (bC dV)<|Cq (by exact eF rfl dH rfl rfl rfl)<|Cq (by exact wA rfl rfl rfl)<|Cq aL<|bL<|Kr<|aB ?_;refine eG (H':=(W3 g [] u)) (.inr rfl) rfl (bD rfl) (Fin.trans (Fin.deadO (id:=2002) (k:=g+1) (ob:=⟨g,1,5,eQ []⟩) rfl (Nat.lt_succ_self g) Nat.zero_lt_one rfl rfl) (Fin.get' (fun j=>KI (by decide) j))) ?_;exact Qq
 have hpos:0<l.length:=List.length_pos_iff.2 h0;refine Bd aCs rfl XJ<|Sr<|Dd aL<|Zz<|Sq<|aN follows<|Cr [2001] (fun _ _=>aE)<|Cr [2001] (fun H1 hH=>by exact fN rfl rfl ((hH _ rfl).trans rfl) rfl)<|Cr [2001] (fun _ h=>fh gE h)<|Cr [2001] (fun _ h=>lh dV h)<|Cr [2002] (fun H1 hH=>by exact DO rfl rfl ((hH _ rfl).trans rfl) rfl hpos)<|Cr [2001] (fun _ _=>aE)<|Cr [2001] (fun H1 hH=>by exact fN rfl rfl ((hH _ rfl).trans rfl) rfl)<|Cr [2001] (fun _ h=>fh gE h)<|Cr [2001] (fun _ h=>lh dV h)<|Cr [2002] (fun H1 hH=>by exact eF rfl dH rfl ((hH _ rfl).trans rfl) rfl)<|Cp [2001,2002] (fun H1 hH=>by exact xV (l:=l) rfl vL (by kernel_rfl) rfl rfl ((hH _ rfl).trans rfl) rfl rfl rfl rfl rfl hpos (by omega) rfl)<|Cr [] (fun _ _=>aL)<|bL<|Kr<|aB ?_;refine eG (H':=(W3 g l u)) (.inr rfl) rfl (bD rfl) (Fin.get' (fun j=>KI (by decide) j)) ?_;exact Qq
theorem aEm(g:Nat)(l:List UInt8)(u:Bool):aI Tryz.prog 162 [.ref 2001 0 0 0] (oF g l u) (fun r H'=>r=iv (l.length:Int)/\H'=oF g l u):=by refine Bd func162 rfl ntmps162<|Sr<|Dd aL<|Zz<|Sr<|Dd aE<|Dd A6<|Dd (aS gE)<|Dd (bC dV)<|Dd (by exact eF rfl dH rfl rfl rfl)<|Dd aL<|Zz<|aB ?_;refine eG (H':=(oF g l u)) (.inr rfl) rfl (bD rfl) Fin.refl ?_;exact Qq
def aBq(l:List UInt8)(s:ByteArray):List UInt8:=if l=[]then s.data.toList else l++32::s.data.toList
theorem aMQ(g:Nat)(l:List UInt8)(u:Bool)(s:ByteArray)(hl:l.length+s.size<70368744177663):aI Tryz.prog 234 [.ref 2001 0 0 0,sv s] (oF g l u) (fun r H'=>r=.tup []/\H'=oF (if l=[]then g+1 else g+2) (aBq l s) true):=by
 have hB:=RI g l u 32 (by omega);have hL:=aEm g l u;rw[aBq];by_cases h0:l=[]
 ·subst h0;have hS:=BG g [] u s (by omega);rw[aPT rfl,aPT rfl];rw[List.nil_append]at hS;refine Bd func234 rfl ntmps234<|Sq<|Sr<|Dd aE<|Dd A6<|Dd (aS nR)<|Dd (by exact aA rfl rfl xG rfl (hL))<|Dd iE<|Zz ?_;refine Cn ?_ ?_<;>intro hc1
  ·cases hc1
  refine aC<|Rg<|Dd aE<|Dd A6<|Dd (aS nR)<|Dd aE<|Dd (by exact aA rfl rfl nB rfl (hS))<|Zz ?_;exact sI (H':=oF (g+1) s.data.toList true) (.inl rfl) rfl Fin.refl ⟨rfl,rfl⟩
 have hpos:0<l.length:=List.length_pos_iff.2 h0;have hS:=BG (g+1) (l++[32]) true s (by rw[aPV,List.length_singleton];omega);rw[aPS h0,aPS h0];rw[List.append_assoc]at hS;refine Bd func234 rfl ntmps234<|Sq<|Sr<|Dd aE<|Dd A6<|Dd (aS nR)<|Dd (by exact aA rfl rfl xG rfl (hL))<|Dd iE<|Zz ?_;refine Cn ?_ ?_<;>intro hc1
 ·refine Rg<|Dd aE<|Dd A6<|Dd (aS nR)<|Dd (by exact aA rfl rfl kZ rfl (hB))<|Zz<|Rg<|Dd aE<|Dd A6<|Dd (aS nR)<|Dd aE<|Dd (by exact aA rfl rfl nB rfl (hS))<|Zz ?_;exact sI (H':=oF (g+2) (l++32::s.data.toList) true) (.inl rfl) rfl Fin.refl ⟨rfl,rfl⟩
 have:=aPR hc1;omega
theorem aJr:Sub (oF g l u) (oF g l u++K):=by intro j o h;rw[fW,h]
theorem aMv{id:Nat}(h:(aH.get (oF g l u) id).isSome=true):(aH.get (oF g' l' u') id).isSome=true:=aAl h
theorem aNB(j:Nat):aH.get (oF g l u++(oF g' l' u'++K)) j=aH.get (oF g l u++K) j:=by show aH.get ((2001,_)::(2002,_)::(2001,_)::(2002,_)::K) j=aH.get ((2001,_)::(2002,_)::K) j;exact(F4 (by decide) j).symm
theorem aDz(K:aH)(g:Nat)(l:List UInt8)(u:Bool)(s:ByteArray)(hl:l.length+s.size<70368744177663):aI Tryz.prog 234 [.ref 2001 0 0 0,sv s] (oF g l u++K) (fun r H'=>r=.tup []/\H'=oF (if l=[]then g+1 else g+2) (aBq l s) true++K) :=(aI.frame (aMQ g l u s hl) aJr (eI.ofL ⟨(by exact NH rfl rfl),(by exact eN _ _),trivial⟩) (by simp;rfl) (fun id h=>.inl (aMv h))).congrH fun j=>(aNB j).symm
theorem KE(K:aH)(g:Nat)(l:List UInt8)(u:Bool):aI Tryz.prog 162 [.ref 2001 0 0 0] (oF g l u++K) (fun r H'=>r=iv (l.length:Int)/\H'=oF g l u++K) :=(aI.frame (aEm g l u) aJr (eI.ofL ⟨(by exact NH rfl rfl),(by exact eN _ _),trivial⟩) (by simp;rfl) (fun id h=>.inl h)).congrH fun j=>(aNB j).symm
end Go.Proofs.YtmdicgjnmfolfaaGreatDoor
