/-
  Parts of the proof: rules of an abstract program logic, contracts of functions, plain laws. Conditions: each theorem's own.
-/
import Derived.Test.YtmdicgjnmfolfaaGreatDoorKR6M5
import Derived.Laws.BitsLemmas
import Derived.Below
import Derived.Shelf.Strconv.ErrVarAll
import Derived.Shelf.Strconv.AtoiAll
import Derived.Shelf.LaysC
import Derived.Shelf.Strings.SlTrimAscii
import Derived.Shelf.Lays
import Derived.Ground.NamesProg
import Derived.WideLaws
import Derived.Laws.Build
set_option linter.unusedVariables false
set_option linter.unusedSimpArgs false
set_option maxRecDepth 100000
set_option maxHeartbeats 8000000
namespace Go.Proofs
open Tryz
theorem yG:type_of% call162:=call162
theorem wJ:type_of% call40:=call40
theorem aHE:type_of% call71:=call71
theorem aPo:type_of% call73:=call73
theorem BU:type_of% call90:=call90
theorem dD:type_of% isAgg25:=isAgg25
theorem eW:type_of% isAgg26:=isAgg26
theorem DV:type_of% isAgg72:=isAgg72
theorem I7:type_of% sizeOf72:=sizeOf72
end Go.Proofs
namespace Go.Abs
variable{P:Program}{id p p2 N:Nat}
theorem aAb{x:Go.Loop}{k s:Code}{g:dG}{a W:AV}{K:aH}{Q:AV->aH->Prop}(E2:dG)(K2:aH)(S:x.state=.ready)(Z:x.pending=none)(hp:x.params=#[p,p2])(hN:x.tmps.size=N)(hxa:x.assign=k)(hxb:x.body=s)(hpN:Nat.blt p N=true)(E:Nat.blt p2 N=true)(hpp:Nat.beq p p2=false)
  (hok:xA k=true) (hok2:xA s=true)
  (h1:gM P ((id,LR x g)::K) N k (zQ (fun E1 H1=>cX ((id,LR x g)::K) E1 H1 E2 ((id,LR x g)::K2)) (fun _ _ _=>False)) ((p2,W)::(p,a)::g) ((id,LR x g)::K))
  (h2:gM P ((id,LR x g)::K) N s (aGo ((id,LR x g)::K) id x g Q) E2 ((id,LR (busy x) g)::K2)):E7 P id 0 [a,W] ((id,LR x g)::K) Q:=by
 subst hxa hxb;have hpN:p<N:=by simp_all
 have E:p2<N:=by simp_all
 have hpp:p≠p2:=fun e=>by simp_all
 intro I X w vs v hr hv hl hvs;obtain ⟨b,e1,V,e3,e4,e5⟩:=aE3 hr (gE _ _ _) hv;obtain ⟨u,z,rfl⟩:∃u z,vs=#[u,z]:=by
  match vs,hl with
  |⟨[u,z]⟩,_=>exact⟨u,z,rfl⟩
 have hu:=hvs 0 u a rfl rfl;have hu2:=hvs 1 z W rfl rfl;refine⟨b,x.fn,_,x.assign,x.body,V,run_yield e3 (by simp_all),?_⟩;refine roundIn_of_wpIn (F:=Fence.wide) trivial ?_;have hG:(⟨I,X,(id,LR x g)::K,w,[]⟩:Entry).H=(id,LR x g)::K:=rfl;have hst:St ⟨I,X,(id,LR x g)::K,w,[]⟩ N ((p2,W)::(p,a)::g) ((id,LR x g)::K) {tmps:=(x.params.zip #[u,z]).foldl (fun o (t,a)=>o.setIfInBounds t a) x.tmps,defers:=[]} w:=by
  have ht:(x.params.zip #[u,z]).foldl (fun o (t,a)=>o.setIfInBounds t a) x.tmps=(x.tmps.setIfInBounds p u).setIfInBounds p2 z:=by rw[hp];simp
  rw[ht];refine⟨rP.nil _ _ _,by simp[hN],I,X,hr,Step.refl _ _ _ _,fun t y m=>?_⟩;by_cases V:p2=t
  ·subst V;rw[dG.get_cons_same]at m;cases m;exact⟨z,by simp[hN,E],hu2⟩
  rw[dG.get_cons_other _ _ V]at m;by_cases e:p=t
  ·subst e;rw[dG.get_cons_same]at m;cases m;exact⟨u,by show ((x.tmps.setIfInBounds p u).setIfInBounds p2 z)[p]?=some u;rw[Array.getElem?_setIfInBounds_ne V];simp[hN,hpN],hu⟩
  rw[dG.get_cons_other _ _ e]at m;obtain ⟨i,hi⟩:=aQZ.1 (gT m);obtain ⟨c,c1,c2⟩:=e5 i t y (by rw[aQY,hi];rfl) (by rw[aQY,hi];rfl);exact⟨c,by show ((x.tmps.setIfInBounds p u).setIfInBounds p2 z)[t]?=some c;rw[Array.getElem?_setIfInBounds_ne V,Array.getElem?_setIfInBounds_ne e];exact c1,c2⟩
 refine wpIn_mono (h1 _ hG _ w hst (some b) (.inr hok)) ?_;rintro e a1 w1 ⟨E1,H1,q,hs1⟩;cases e with
 | normal =>
  have L:=q _ hG N a1 w1 hs1;obtain ⟨I1,ι1,B,G,he1⟩:=L.rel;have J:=rT G (gE _ _ _) e1 (gE _ _ _);have hb1:=sO B (gE _ _ _) J;obtain ⟨k1,k2⟩:=B.setRec (y:=busy x) (H':=(id,LR (busy x) g)::K2) (gE _ _ _) J rfl (gE _ _ _) (fun j hj=>zF _ _ _ hj);refine⟨_,run_beginRound hb1 S,?_⟩;have hs3:St ⟨I,X,(id,LR x g)::K,w,[]⟩ N E2 ((id,LR (busy x) g)::K2) a1 (w1.putObj b (.loop (busy x))) :=
   ⟨L.defers.step B k2,L.size,I1,ι1,k1,G.trans k2,fun t y m=>let ⟨c,c1,c2⟩:=he1 t y m;⟨c,c1,c2.mono B k2⟩⟩
  refine wpIn_mono (h2 _ hG a1 _ hs3 (some b) (.inr hok2)) ?_;rintro e W w3 ⟨E3,H3,U,hs4⟩;have O:∀(h:Option Code) (y:Go.Loop) (A:aH),y={busy x with state:=if h.isNone then .ready else .done,pending:=h}->cX ((id,LR x g)::K) E3 H3 [] ((id,LR (busy x) g)::A)->Q (.pv (.bool h.isNone)) ((id,LR y g)::A) ->
    ∃v w',(Instr.endRound b h).run P w3=.ok v w'/\∃r H' I' M v',Ending.returned v=.returned v'/\Q r H'/\VRel w' I' M H' v' r/\Rel I' M H' w'/\Step I X ((id,LR x g)::K) w I' M H' w':=by
   intro h y A m f T;have hs5:=f _ hG N W w3 hs4;obtain ⟨I5,ι5,Y,F,_⟩:=hs5.rel;have D:=rT F (gE _ _ _) e1 (gE _ _ _);have hb5:=sO Y (gE _ _ _) D;obtain ⟨z1,z2⟩:=Y.setRec (y:=y) (H':=(id,LR y g)::A) (gE _ _ _) D (by rw[m]) (gE _ _ _) (fun j hj=>zF _ _ _ hj);refine⟨_,_,run_endRound h hb5,_,_,I5,ι5,_,rfl,T,.pv (.bool _),?_,?_⟩
   ·rw[<-m];exact z1
   rw[<-m];exact F.trans z2
  cases e with
  |normal =>
   obtain ⟨A,f,T⟩:=U;refine O none x A ?_ f T;obtain ⟨st,pe,fn,tm,pa,ax,bo,de⟩:=x;simp only at S Z;subst S Z;rfl
  |ret =>
   obtain ⟨A,f,T⟩:=U;exact O (some .ret) (left x .ret) A rfl f T
  |exit j =>
   obtain ⟨A,f,T⟩:=U;exact O (some (.exit j)) (left x (.exit j)) A rfl f T
  |goto l=>exact U.elim
  |panic ch=>exact U.elim
  |outgrown=>exact U.elim
 |exit j=>exact q.elim
 |goto l=>exact q.elim
 |ret=>exact q.elim
 |panic ch=>exact q.elim
 |outgrown=>exact q.elim
theorem OB{G0:aH}{f:Nat}{M:List AV}{g:Operand}{ps:Array Tmp}{assign body:Code}{Q:Exit->dG->aH->Prop}{E:dG}{H:aH}(n:dG)(hg:aR E g=some (.clo f M))(hc:∀(args:Array Value) (w:World),(callFunc f args).run P w=.ok (.enter f args) w)
  (hps:ps=#[p,p2]) (hid:H.get id=none) (hE0:∀q∈n,E.get q.1=some q.2)
  (h:∀x:Go.Loop,x.state=.ready->x.pending=none->x.params=#[p,p2]->x.tmps.size=N->x.assign=assign->x.body=body ->
   aI P f (.yld id 0::M) ((id,LR x n)::H) (fun r H'=>∃(y:Go.Loop) (K:aH),y.tmps=x.tmps/\y.state≠.busy/\H'=(id,LR y n)::K/\∀z:Go.Loop,aGr Q E ((id,LR z n)::K) y.pending)) :
  gM P G0 N (.rangeFunc g ps assign body) Q E H:=by
 intro G hG a w hs ro hro;obtain rfl:ro=none:=hro.resolve_right (fun h=>by cases h);obtain ⟨I,ι,hr,hst,he⟩:=hs.rel;refine wpIn_rangeFunc (F:=RF none) ?_;intro fn _;have hgv:=aJ he hg;generalize hfc:a.eval g=fc at hgv;cases hgv with
 | @clo _ us _ hl hh =>
  obtain ⟨x,R⟩:∃x:Go.Loop,x={state:=.ready,pending:=none,fn,tmps:=a.tmps,params:=ps,assign,body,defers:=w.heap.size}:=⟨_,rfl⟩;obtain ⟨a1,a2⟩:=hr.push (.deferred (some []));obtain ⟨X,V⟩:∃X,X=w.alloc (.deferred (some [])):=⟨_,rfl⟩;rw[<-V]at a1 a2;have L:X.heap.size=w.heap.size+1:=by simp_all
  have hDd:X.heap[w.heap.size]?=some (.deferred (some [])):=by rw[V];exact World.alloc_heap_new w _
  have m:aH.get ((id,LR x n)::H) id=some (LR x n):=gE _ _ _;obtain ⟨b1,b2⟩:=a1.placeX (id:=id) (cap:=2) (x:=.loop x) (w':=X.alloc (.loop x)) (H':=(id,LR x n)::H) (ob':=LR x n) rfl rfl rfl rfl (fun o ho=>by simp_all)
   (fun hnew hI hmono=>.inr (.inr (.inr ⟨rfl,_,x,by simp,hnew,hI,fun y ts r hy=>by
    simp only[LR,List.cons.injEq,AV.raw.injEq,and_true]at hy;obtain ⟨⟨rfl,rfl⟩,rfl⟩:=hy;refine⟨rfl,fun i t v ht u=>?_⟩;rw[aQY]at ht u;obtain ⟨q,hq,rfl⟩:=Option.map_eq_some_iff.1 ht;rw[hq]at u;cases u;obtain ⟨c,c1,c2⟩:=he q.1 q.2 (hE0 q (aQO hq));exact⟨c,by rw[R];exact c1,hmono _ _ (c2.mono hr a2)⟩⟩)))
   m (fun j hj=>by simp[aH.get,kW (Ne.symm hj)])
  obtain ⟨T,hw1⟩:∃T,T=X.alloc (.loop x):=⟨_,rfl⟩;rw[<-hw1]at b1 b2;obtain ⟨B,U⟩:∃B:kY,B=fun j=>if j=id then some (X.heap.size,2)else ι j:=⟨_,rfl⟩
  rw[<-U]at b1 b2;have d:B id=some (w.heap.size+1,2):=by rw[U,L];simp
  have hL1:=sO b1 m d;have W:T.heap[w.heap.size]?=some (.deferred (some [])):=by
   rw[b2.keep _ (by rw[L];omega) (yU a1 hDd)];exact hDd
  have Z:=h x (by rw[R]) (by rw[R]) (by rw[R,hps]) (by rw[R];exact hs.size) (by rw[R]) (by rw[R]) I B T (#[.func (.yield (w.heap.size+1)) #[] #[]]++us) b1 (by simp[hl];omega) (fun i v c u F=>by
   cases i with
   |zero =>
    rw[Array.getElem?_append_left (by simp)]at u;simp at u F;subst u F;exact .yld (LR x n) m (aQK _) rfl (fun _=>⟨rfl,_,d,rfl⟩)
   |succ i =>
    rw[Array.getElem?_append_right (by simp)]at u;simp only[List.getElem?_cons_succ]at F;have:=hh i v c (by simpa using u) F;exact(this.mono hr a2).mono a1 b2)
  refine⟨w.heap.size+1,[mark w.heap.size],T,{target:=.fn (.func f) us,args:=#[.func (.yield (w.heap.size+1)) #[] #[]]},T,f,#[.func (.yield (w.heap.size+1)) #[] #[]]++us,T,?_,?_,fun _ _=>trivial,?_,(fun q=>by cases q),?_⟩
  ·rw[hw1,V,R];exact run_enterLoop_outer _ _ _ _ _
  ·simp only[resolve,hfc];simp[go_sem]
  ·simp[invoke,go_sem,hc]
  refine((callsIn_wide (n:=0)).2 Z).mono ?_;rintro e w3 ⟨r,H',I3,ι3,v3,rfl,⟨y,K,hy1,hy2,rfl,hq⟩,_,hr3,A⟩;have O:=rT (G:=⟨I,B,(id,LR x n)::H,T,[]⟩) A m d (gE _ _ _);have hb3:=sO hr3 (gE _ _ _) O;obtain ⟨z,hz⟩:∃z:Go.Loop,z={y with state:=.exhausted}:=⟨_,rfl⟩;obtain ⟨z1,z2⟩:=hr3.setRec (y:=z) (H':=(id,LR z n)::K) (gE _ _ _) O (by rw[hz]) (gE _ _ _) (fun j hj=>zF _ _ _ hj);obtain ⟨w4,hw4⟩:∃w4,w4=w3.putObj (w.heap.size+1) (.loop z):=⟨_,rfl⟩;rw[<-hw4]at z1 z2;refine⟨y.pending,w4,by rw[hw4,hz];exact run_endLoop hb3 hy2,?_⟩;have s:Step I ι H w I3 ι3 ((id,LR z n)::K) w4:=((a2.trans b2).trans A).trans z2;have hD4:w4.heap[w.heap.size]?=some (.deferred (some [])):=by
   rw[(A.trans z2).keep _ (Array.getElem?_eq_some_iff.1 W).1 (yU b1 W)];exact W
  have Y : St G N E ((id, LR z n) :: K) { a with defers := [mark w.heap.size] ++ a.defers } w4 := by
   refine⟨?_,hs.size,I3,ι3,z1,hst.trans s,fun t v u=>let ⟨c,c1,c2⟩:=he t v u;⟨c,c1,c2.mono hr s⟩⟩;obtain ⟨Ds,d1,d2,d3⟩:=hs.defers.step hr s;refine⟨w.heap.size::Ds,by rw[d1];rfl,List.nodup_cons.2 ⟨fun hmem=>?_,d2⟩,fun D hD=>?_⟩
   ·have hold:∀D∈Ds,D<w.heap.size:=by
     obtain ⟨Ds',d1',_,d3'⟩:=hs.defers;have he:Ds'=Ds:=by
      have h0:Ds'.map mark=Ds.map mark:=List.append_cancel_right (d1'.symm.trans d1);have hinj:∀(l J:List Nat),l.map mark=J.map mark->l=J:=by
       intro l
       induction l with
       |nil=>intro J h;cases J with
        |nil=>rfl
        |cons _ _=>cases h
       | cons D l ih=>intro J h;cases J with
        |nil=>cases h
        |cons D' J =>
         simp only[List.map_cons,List.cons.injEq,mark,Deferred.mk.injEq,Target.collected.injEq,and_true]at h;rw[h.1,ih J h.2]
      exact hinj _ _ h0
     subst he;exact fun D hD=>(Array.getElem?_eq_some_iff.1 (d3' D hD).2).1
    exact Nat.lt_irrefl _ (hold _ hmem)
   rcases aQQ.1 hD with rfl|hD
   ·exact⟨hst.size,hD4⟩
   exact d3 D hD
  have b:=hq z;generalize y.pending=pend at b |-
  match pend,b with
  |none,b=>exact⟨E,_,b,Y⟩
  |some .ret,b=>exact wpIn_ret ⟨E,_,b,Y⟩
  |some (.exit j),b=>exact wpIn_exit ⟨E,_,b,Y⟩
end Go.Abs
namespace Go.Proofs.YtmdicgjnmfolfaaGreatDoor
open Go.Proofs.Tryz
open Go.Abs
theorem iD(l:List ByteArray):∀r∈l.map encStr,r.length=1:=fun r hr=>by
 obtain ⟨t,_,rfl⟩:=List.mem_map.1 hr;rfl
def cSZ(l:List ByteArray):Ob:=bx 1 22 [.pv (aZ l)]
def cNZ:Ob:=bx 1 3 [iv 2]
theorem aGN(l:List ByteArray)(H:aH)(h1:H.get 931=none)(h2:H.get 932=none):
  aI Tryz.prog 137 [.pv (aZ l),iv 2] H (fun r H'=>r=.clo 178 [.ref 931 0 0 0,.ref 932 0 0 0]/\H'=(932,cNZ)::(931,cSZ l)::H):=by
 have h2':aH.get ((931,cSZ l)::H) 932=none:=h2;refine Bd func137 rfl ntmps137<|Sr<|Dd (by exact cF (id:=931) rfl rfl rfl rfl h1)<|Dd (by exact cF (id:=932) rfl rfl rfl rfl h2')<|Dd aM<|Zz<|Sq<|Sr<|Dd (bF isAgg3)<|Dd cW<|Zz ?_;refine Cn ?_ ?_<;>intro hc1
 ·cases hc1
 refine aC<|Sr<|Dd (by exact gR rfl rfl)<|Dd aM<|Zz<|aB ?_;refine dV (H':=((932,cNZ)::(931,cSZ l)::H)) (.inr rfl) rfl (aX rfl) Fin.refl ?_;exact Qq
def B6(l:List ByteArray)(k:Nat):List ByteArray:=(l.drop (2*k)).take 2
theorem aCc(l:List ByteArray)(k:Nat):((l.map encStr).drop (2*k)).take 2=(B6 l k).map encStr:=by rw[B6,List.map_take,List.map_drop]
theorem aI9{n:Nat}(h:2<=n):min (2:Int) (n:Int)=2:=Int.min_eq_left (by omega)
theorem aDO(l:List ByteArray)(fv:AV)(Hs:Nat->aH)(m:Nat)(hl:l.length=2*m)(hm:m<1099511627776)(h1:∀k,(Hs k).get 931=some (cSZ l))(h2:∀k,(Hs k).get 932=some cNZ)
  (hy:∀k,k<m->dN Tryz.prog fv [.pv (aZ (B6 l k))] (Hs k) (fun r H'=>r=bv true/\H'=Hs (k+1))) :
  aI Tryz.prog 178 [fv,.ref 931 0 0 0,.ref 932 0 0 0] (Hs 0) (fun r H'=>r=.tup []/\H'=Hs m):=by
 have hml:(l.map encStr).length=l.length:=aQE _;refine Bd func178 rfl ntmps178<|Sr<|Dd aM<|Zz<|aF ?_;refine bJ (σ:=Nat) (fun k=>([(0,fv),(1,.ref 931 0 0 0),(2,.ref 932 0 0 0),(4,iv ((2*k:Nat):Int))],Hs k)) (fun k=>k<=m) (fun k=>m - k) 0 (aQV _) ?_ ?_
 ·exact E0
 rintro k hkm;refine Sq<|Sr<|Dd aE<|Dd (by exact aK rfl aG rfl (h1 k) rfl rfl rfl)<|Dd (fM aD)<|Dd cW<|Zz ?_;refine Cn ?_ ?_<;>intro hc1
 ·have hlt:2*k<l.length:=by have:=aQA hc1;omega
  have hkm2:k<m:=by omega
  have hyk:=hy k hkm2;have hdl:((l.map encStr).drop (2*k)).length=l.length - 2*k:=by rw[aQT,hml]
  refine aC<|Sq<|aF<|Sq<|aO follows<|Cq (by exact aK rfl isAgg3 rfl (h2 k) rfl rfl rfl)<|Cq (by exact aK rfl aG rfl (h1 k) rfl rfl rfl)<|Cq aE<|Cq (by exact zU (l:=2*k) (h:=(l.map encStr).length) (rows':=(l.map encStr).drop (2*k)) rfl cC rfl (iD l) rfl rfl (by omega) (aQK _) (by rw[List.take_length]))<|Cq (fM aD)<|Cq (by exact KU (r:=2) rfl rfl rfl (by rw[hdl];exact aI9 (by omega)))<|Cq aM<|bM<|Kr<|Sr<|Dd aE<|Dd (by exact aK rfl aG rfl (h1 k) rfl rfl rfl)<|Dd aE<|Dd aE<|Dd aE<|Dd (by exact cB rfl rfl rfl (show IntKind.i64.wrap (((2*k:Nat):Int)+2)=((2*k+2:Nat):Int)by rw[IntKind.wrap_i64];omega))<|Dd aE<|Dd aE<|Dd (by exact cB rfl rfl rfl (show IntKind.i64.wrap (((2*k:Nat):Int)+2)=((2*k+2:Nat):Int)by rw[IntKind.wrap_i64];omega)) ?_;refine Dd (by exact aDr (l:=2*k) (h:=2*k+2) (rows':=(B6 l k).map encStr) rfl cC rfl (iD l) rfl rfl rfl (by omega) (by omega) (by intro h;rw[List.map_eq_nil_iff]at h;rw[h]at hlt;exact absurd hlt (Nat.not_lt_zero _)) (by rw[<-aCc,List.drop_take];congr 1;omega))<|Dd (by exact cY rfl rfl rfl (hyk))<|Dd iS<|Zz ?_;refine Cn ?_ ?_<;>intro hc2
  ·cases hc2
  refine aC<|Rg<|Dd aE<|Dd (by exact aK rfl isAgg3 rfl (h2 (k+1)) rfl rfl rfl)<|Dd (by exact cB rfl rfl rfl (show IntKind.i64.wrap (((2*k:Nat):Int)+2)=((2*(k+1):Nat):Int)by rw[IntKind.wrap_i64];omega))<|Da ?_;exact⟨k+1,hkm2,by omega,E0⟩
 have hge:l.length<=2*k:=by have:=aQB hc1;omega
 have hkk:k=m:=by omega
 refine aW ?_;rw[<-hkk];exact sY (H':=Hs k) (.inl rfl) rfl Fin.refl ⟨rfl,rfl⟩
end Go.Proofs.YtmdicgjnmfolfaaGreatDoor
namespace Go.Abs
theorem fJ{P}{G0}{N}{Q}{E}{H}{x y}{α:Type}(S:α->dG×aH)(J:α->Prop)
  (h:gM P G0 N x (zQ (fun b H1=>∃a,J a/\cX G0 b H1 (S a).1 (S a).2) Q) E H) (d:∀a,J a->gM P G0 N y Q (S a).1 (S a).2):gM P G0 N (.seq x y) Q E H :=
 GW (h.mono fun e b H1 q=>by
  cases e with
  |normal =>
   obtain ⟨a,c,f⟩:=q;exact gM.ent f (d a c)
  |_=>exact q)
theorem zG{i}{o}{K:aH}:∀(D:aH),(∀p∈D,p.1=i)->∀j,aH.get ((i,o)::K) j=aH.get ((i,o)::(D++K)) j:=by
 intro D b j;by_cases e:i=j
 ·subst e;simp[aH.get,pA]
 have h:aH.get D j=none:=by
  cases a:aH.get D j with
  |none=>rfl
  |some x=>exact absurd (b _ (dZ a)).symm e
 rw[get_cons_other _ _ (Ne.symm e),get_cons_other _ _ (Ne.symm e),gD,h]
theorem lQ{H}{x}{c}(h:∀p∈c,Clo H p.2):∀r∈(LR x c).rows,∀a∈r,Clo H a:=by
 intro r d a b;simp[LR,aQQ,aQU,or_false]at d;rcases d with rfl|rfl
 ·rw[aQH]at b;subst b;simp
 obtain ⟨p,e,rfl⟩:=List.mem_map.1 b;exact h p e
end Go.Abs
namespace Go.Proofs.YtmdicgjnmfolfaaGreatDoor
open Go.Proofs.Tryz
open Go.Abs
variable{j n k h:Nat}
theorem ZN{W:List ByteArray}(h:2*j+2<=W.length):((B6 W j).map encStr)[0]?=some (encStr (W.getD (2*j) sNil))/\((B6 W j).map encStr)[1]?=some (encStr (W.getD (2*j+1) sNil)):=by
 have h0:(B6 W j)[0]?=some (W.getD (2*j) sNil):=by
  rw[B6,List.getElem?_take_of_lt (by decide),List.getElem?_drop,Nat.add_zero,List.getD_eq_getElem?_getD,aQJ (by omega)];rfl
 have h1:(B6 W j)[1]?=some (W.getD (2*j+1) sNil):=by
  rw[B6,List.getElem?_take_of_lt (by decide),List.getElem?_drop,List.getD_eq_getElem?_getD,aQJ (by omega)];rfl
 exact⟨by rw[aQY,h0];rfl,by rw[aQY,h1];rfl⟩
def upA(l:List ByteArray)(j:Nat):ByteArray:=tN (l.getD (2*j) sNil) (l.getD (2*j+1) sNil)
def upS(l:List ByteArray)(k:Nat):List ByteArray:=(List.range k).map (upA l)
theorem aDz(l:List ByteArray)(k:Nat):upS l (k+1)=upS l k++[upA l k]:=by rw[upS,List.range_succ,List.map_append];rfl
theorem aAl(l:List ByteArray)(k:Nat):(upS l k).length=k:=by simp[upS]
theorem aHR{l:List ByteArray}{m:Nat}(h:l.length=2*m):upS l m=zW l:=by
 apply List.ext_getElem?;intro k;have hl:=tT m l h;by_cases hk:k<m
 ·have:=KG m l k h hk;rw[List.getD_eq_getElem?_getD,aQJ (by omega)]at this;rw[upS,aQY,List.getElem?_range hk,aQJ (by omega)];exact congrArg some this.symm
 rw[List.getElem?_eq_none (by rw[aAl];omega),List.getElem?_eq_none (by omega)]
def upK(l L:List ByteArray):aH:=[(905,⟨L.length,1,9,cD L⟩),(3,bx 1 22 [.osl 905 L.length 0 L.length]),(932,cNZ),(931,cSZ l)]
theorem aHS(l L:List ByteArray)(s:ByteArray):upK l (L++[s])=[(905,⟨L.length+1,1,9,cD (L++[s])⟩),(3,bx 1 22 [.osl 905 (L.length+1) 0 (L.length+1)]),(932,cNZ),(931,cSZ l)]:=by simp[upK]
def upE:dG:=[(3,.ref 3 0 0 0)]
theorem UD(H:aH)(l:List ByteArray):∀r∈(cSZ l).rows,∀a∈r,Clo H a:=by intro r hr a ha;simp only[cSZ,bx,aQH]at hr;subst hr;rw[aQH]at ha;subst ha;simp
theorem UE(H:aH):∀r∈cNZ.rows,∀a∈r,Clo H a:=by intro r hr a ha;simp only[cNZ,bx,aQH]at hr;subst hr;rw[aQH]at ha;subst ha;simp
theorem aBr(l:List ByteArray)(m:Nat)(H:aH)(hl:l.length=2*m)(hm:m<1099511627776)(hs:∀s∈l,s.size=16):aI Tryz.prog 87 [.pv (aZ l)] H (fun r H'=>r=.pv (aZ (zW l))/\H'=H):=by
 refine Pu ?_;refine Bd func87 rfl ntmps87<|Sr<|Dd aM<|Zz<|Sr<|Dd (by exact bU (id:=3) rfl aDk rfl rfl)<|Zz<|Sq<|Sr<|Dd aE<|Dd (by exact aA rfl rfl call137 rfl (aGN l _ rfl rfl))<|Zz<|aF ?_;refine gM.ent (E':=[(3,.ref 3 0 0 0),(6,.clo 178 [.ref 931 0 0 0,.ref 932 0 0 0])]) (H':=upK l []) ?_ ?_
 ·exact(cX.nz 905 1 9 rfl rfl ⟨⟨_,rfl,(by exact Nz.same (by(simp;rfl)))⟩,⟨_,rfl,(by exact Nz.same (by(simp;exact⟨rfl,rfl⟩)))⟩,trivial⟩ ⟨⟨_,rfl,rfl,rfl,rfl,(by exact .inr ⟨_,_,rfl,rfl,(by repeat(first|exact trivial|refine⟨(by exact Nz.own),?_⟩))⟩)⟩,⟨_,rfl,rfl,rfl,rfl,(by exact .inl ⟨rfl,(by exact UE _)⟩)⟩,⟨_,rfl,rfl,rfl,rfl,(by exact .inl ⟨rfl,(by exact UD _ _)⟩)⟩,trivial⟩ trivial)
 refine DN (id:=904) (p:=7) upE rfl call178 rfl rfl (by simp[upE];rfl) ?_;intro x hx1 hx2 hx3 hx4 hx5 hx6;refine(aDO l (.yld 904 0) (fun k=>(904,LR x upE)::upK l (upS l k)) m hl hm (fun k=>rfl) (fun k=>rfl) ?_).mono ?_
 ·intro k hk;have hn:∀j,j<l.length->(l.getD j sNil).size<1099511627776:=fun j hj=>by rw[hs _ (qH hj)];decide
  have hnd:=fun H=>aBQ (l.getD (2*k) sNil) (l.getD (2*k+1) sNil) false H (hn _ (by omega)) (hn _ (by omega));simp only[Bool.false_eq_true,if_false]at hnd;obtain ⟨p0,p1⟩:=ZN (W:=l) (j:=k) (by omega);have hfl:=aAl l k;refine .inl ⟨904,0,rfl,?_⟩;refine SF [(3,.ref 3 0 0 0),(4,.pv (aZ (B6 l k)))] (upK l (upS l k)) hx1 hx2 hx3 hx4 hx5 hx6 rfl rfl rfl ?_ ?_
  ·refine Rg<|Da ?_;exact(cX.wk (Ea<|Eb<|trivial) (Hc (lQ (by intro p hp;simp only[upE,aQQ,aQU,or_false]at hp;subst hp;simp only[sJ];rfl))<|Hc (cA _ _)<|Ha<|Hc (UE _)<|Hc (UD _ _)<|trivial) ⟨rfl,rfl,rfl,rfl,rfl,trivial⟩)
  rw[aDz,aHS];refine aF<|aO follows<|Cr [3] (fun _ h=>lh aG h)<|Cr [] (fun _ _=>aE)<|Cr [] (fun H1 hH=>by exact bH rfl cC rfl rfl (by omega) (by exact aQP _) p0 rfl)<|Cr [] (fun _ _=>(iN isAgg9 (hi:=p0)))<|Cr [] (fun _ _=>aE)<|Cr [] (fun H1 hH=>by exact bH rfl cC rfl rfl (by omega) (by exact aQP _) p1 rfl)<|Cr [] (fun _ _=>(iN isAgg9 (hi:=p1)))<|Cr [] (fun H1 hH=>by exact aA rfl rfl call95 rfl (hnd _))<|Cr [] (fun H1 hH=>by exact aQ [[.str (upA l k)]] rfl cC rfl rfl rfl rfl rfl (by intro r hr;rw[aQH]at hr;subst hr;rfl))<|Cp [905] (fun H1 hH=>by exact cJ (ps:=[[.str (upA l k)]]) rfl cC xI rfl ((hH _ rfl).trans rfl) rfl rfl rfl (eX _) rfl (by intro r hr;rw[aQH]at hr;subst hr;rfl) (m:=1) rfl (by omega) rfl (kK (upS l k) (upA l k))) ?_;refine Cp [3] (fun H1 hH=>by exact cO rfl sizeOf22 rfl rfl rfl rfl ((hH _ rfl).trans rfl) rfl rfl rfl)<|bM<|Kr ?_;exact⟨[(905,⟨(upS l k).length+1,1,9,cD (upS l k++[upA l k])⟩),(3,bx 1 22 [.osl 905 ((upS l k).length+1) 0 ((upS l k).length+1)]),(932,cNZ),(931,cSZ l)],(cX.wk trivial (Hc (lQ (by intro p hp;simp only[upE,aQQ,aQU,or_false]at hp;subst hp;simp only[sJ];rfl))<|Hc (cA _ _)<|Ha<|Hc (UE _)<|Hc (UD _ _)<|trivial) ⟨rfl,rfl,rfl,rfl,rfl,trivial⟩),rfl,rfl⟩
 rintro r H' ⟨rfl,rfl⟩;refine⟨x,_,rfl,by rw[hx1];decide,rfl,fun z=>?_⟩;rw[hx2,aHR hl];obtain ⟨out,hout⟩:∃out,out=zW l:=⟨_,rfl⟩;rw[<-hout];have hol:(out.map encStr).length=out.length:=aQE _;refine gM.ent (cX.fzG (id:=905) (E':=[(3,.ref 3 0 0 0)]) (H':=[(3,bx 1 22 [.pv (aZ out)])]) (out.map encStr) rfl (eM _) ?_ rfl ?_ ?_) ?_
 ·intro p hp;simp only[aQQ,aQU,or_false]at hp;rcases hp with rfl;exact⟨_,rfl,.same (by simp;rfl)⟩
 ·refine⟨⟨_,rfl,rfl,rfl,rfl,oD rfl (dF (.osl ?_) oO)⟩,trivial⟩;rw[aQW,List.drop_zero,<-hol,List.take_length]
 ·exact trivial
 exact Sr<|Dd (bF aG)<|Dd aM<|Zz<|aB<|Rt<|Qq
def TV(s:ByteArray)(n k:Nat):List ByteArray:=(List.range n).map fun j=>if j<k then CH s j else sNil
theorem GG(s:ByteArray)(n k:Nat):(TV s n k).length=n:=by simp[TV]
theorem TU(s:ByteArray)(h:j<n):(TV s n k)[j]?=some (if j<k then CH s j else sNil):=by rw[TV,aQY,List.getElem?_range h];rfl
theorem aIj(s:ByteArray)(h:k<n):(TV s n k).set k (CH s k)=TV s n (k+1):=by
 apply List.ext_getElem?;intro j;by_cases hj:j<n
 ·rw[TU s hj];by_cases e:k=j
  ·subst e;rw[List.getElem?_set_self (by rw[GG];exact h),aQD (Nat.lt_succ_self _)]
  rw[List.getElem?_set_ne e,TU s hj];by_cases h1:j<k
  ·rw[aQD h1,aQD (by omega)]
  rw[aQC h1,aQC (by omega)]
 rw[List.getElem?_eq_none (by rw[List.length_set,GG];omega),List.getElem?_eq_none (by rw[GG];omega)]
theorem aF6(s:ByteArray)(n:Nat):TV s n 0=List.replicate n sNil:=by rw[TV];simp only[Nat.not_lt_zero,if_false];rw[List.map_const',List.length_range]
theorem aIk(s:ByteArray)(h:Nat):TV s (2 ^ h) (2 ^ h)=jG s h:=by rw[TV,jG];refine List.map_congr_left fun j hj=>?_;rw[aQD (List.mem_range.1 hj)]
theorem aCA(n:Nat):cD (List.replicate n sNil)=List.replicate n [sv sNil]:=by rw[cD,List.map_replicate]
theorem aBz(l:List ByteArray)(k:Nat)(x:ByteArray):(cD l).set k [sv x]=cD (l.set k x):=by rw[cD,cD,List.map_set]
theorem pF(hh:h<=8):2 ^ h<=256:=Nat.pow_le_pow_right (by decide) hh
theorem aH4(hh:h<=8):IntKind.i64.wrap (1*2 ^ ((h:Int)).toNat)=((2 ^ h:Nat):Int):=by have:=pF hh;rw[aQP,Int.one_mul,show (2:Int) ^ h=((2 ^ h:Nat):Int)by exact_mod_cast rfl];generalize 2 ^ h=n at this |-;rw[jM (by omega) (by omega)]
theorem aB0(s:ByteArray)(h:Nat)(H:aH)(hs:s.size<1099511627776)(hh:h<=8):aI Tryz.prog 86 [sv s,iv (h:Int)] H (fun r H'=>r=.pv (aZ (jG s h))/\H'=H):=by
 refine Pu ?_;have hp:=pF hh;have hz:=aCA (2 ^ h);rw[<-aF6 s]at hz;rw[<-aIk];obtain ⟨n,hn⟩:∃n,n=2 ^ h:=⟨_,rfl⟩;have hsh:=aH4 hh;rw[<-hn]at hp hz hsh |-;refine Bd func86 rfl ntmps86<|Sr<|Dd aM<|Zz<|Sr<|Dd aE<|Dd (by exact F1 rfl rfl rfl (by omega) (by simp[IntKind.bits];omega) hsh)<|Dd (by exact BZ (id:=905) rfl cC xI zo9 rfl rfl rfl (by omega) (by omega) (aQP _) (aQP _) (by omega) rfl)<|Dd aM<|Zz<|Sq<|Sr<|Dd aE<|Dd (by exact eG rfl aD rfl rfl rfl)<|Dd aE<|Zz<|aF ?_;refine bJ (σ:=Nat) (fun k=>([(0,sv s),(5,.osl 905 0 0 n),(11,iv (n:Int)),(12,iv (k:Int))],[(905,⟨0,1,9,cD (TV s n k)⟩)])) (fun k=>k<=n) (fun k=>n - k) 0 (aQV _) ?_ ?_
 ·rw[hz];exact Wk
 intro k hk;have hln:=GG s n k;refine Sr<|Dd cW<|Zz<|Sq ?_;refine Cn ?_ ?_<;>intro hc1
 ·have hlt:k<n:=by have:=aQA hc1;omega
  have hrow:(cD (TV s n k))[k]?=some [sv sNil]:=by
   rw[cD,aQY,TU s hlt,aQC (Nat.lt_irrefl _)];rfl
  have hset:(cD (TV s n k)).set k [sv (CH s k)]=cD (TV s n (k+1)):=by rw[aBz,aIj s hlt]
  refine aC<|Sq<|aF<|Sr<|Dd aE<|Dd aM<|Zz<|Rg<|Dd aE<|Dd aE<|Dd aE<|Dd aE<|Dd (by exact aA rfl rfl call136 rfl (aL3 s k _ hs (by omega)))<|Dd (by exact dQ rfl cC rfl rfl rfl rfl rfl (by omega) (by exact aQP _) (by omega) rfl)<|Uu (by exact bG (r:=[sv sNil]) (r':=[sv (CH s k)]) (rows':=cD (TV s n (k+1))) rfl sizeOf9 rfl rfl rfl rfl rfl (by rw[aQW];exact hrow) (by simp) rfl (by rw[aQW];exact hset))<|Zz<|Rg<|Dd (by exact cB rfl rfl rfl (show IntKind.i64.wrap ((k:Int)+1)=((k+1:Nat):Int)by rw[jM (by omega) (by omega)];omega))<|Dd aE<|Zz ?_;exact⟨k+1,by omega,by omega,(cX.wk (Eb<|Ea<|Eb<|Eb<|trivial) (Hc (cA _ _)<|trivial) trivial)⟩
 have hge:k=n:=by have:=aQB hc1;omega
 subst hge;have htk:((TV s k k).map encStr).take k=(TV s k k).map encStr:=List.take_of_length_le (by rw[aQE,GG];exact aQK _);refine aW<|Sr<|Dd aE<|Dd aM<|Zz<|aB ?_;refine dV (H':=[]) (.inr rfl) rfl (aX rfl) (Fin.fz (r':=.pv (aZ (TV s k k))) (id:=905) ((TV s k k).map encStr) rfl (eM _) (.osl (by rw[aQW,List.drop_zero,htk])) rfl trivial trivial) ?_;exact Qq
theorem LV(s:ByteArray)(h:Nat)(H:aH)(hs:s.size<1099511627776)(hh:h<=8):aI Tryz.prog 25 [sv s,iv (h:Int)] H (fun r H'=>r=.tup [sv (rG s h),iv 0]/\H'=H):=by
 refine Pu ?_;refine Bd func25 rfl ntmps25<|Sr<|Dd aM<|Dd aM<|Zz<|Sq<|Sq ?_;refine aY (t:=12) (n:=7) (X:=decide ((h:Int)<0)||decide (8<(h:Int))) ?_ ?_
 ·all_goals refine Dd aE ?_
  all_goals refine Dd cW<|Dm ?_
  all_goals refine Sp 9 (fun h9=>?_) fun h9=>?_
  all_goals try contradiction
  all_goals refine On aE<|On iG<|Dd cH<|Zz ?_
  all_goals(exact⟨⟨_,rfl,by rfl⟩,rfl,rfl,rfl⟩)
 refine Cn ?_ ?_<;>intro hc1
 ·have hb:=hc1;exact absurd (by simpa using hb) (show ¬ ((h:Int)<0\/8<(h:Int))by omega)
 refine aC<|Sr<|Dd aE<|Dd aE<|Dd (by exact aA rfl rfl call86 rfl (aB0 s h _ hs hh))<|Dd aM<|Zz<|Sq<|aF ?_;refine jK (fun(j:Nat) (l:List ByteArray)=>([(6,.pv (aZ l))],[])) (fun j l=>l.length=2 ^ j/\QG j l=rG s h/\(∀t∈l,t.size=16)/\j<=8) (fun j l=>j) h (jG s h) ⟨qF s h,rfl,fun t ht=>sU (uN s h t ht),hh⟩ ?_ ?_
 ·exact Wk
 rintro j l ⟨hl,hr,hz,hj⟩;have hml:(l.map encStr).length=l.length:=aQE _;have hp:=pF hj;refine Sq<|Sr<|Dd aE<|Dd (fM aD)<|Dd iG<|Zz ?_;refine Cn ?_ ?_<;>intro hc2
 ·have hlt:1<l.length:=by have:=aQA hc2;omega
  obtain ⟨i,rfl⟩:∃i,j=i+1:=by
   cases j with
   |zero=>rw[hl]at hlt;exact absurd hlt (by decide)
   |succ i=>exact⟨i,rfl⟩
  have hl2:l.length=2*2 ^ i:=by rw[hl,Nat.pow_succ,Nat.mul_comm]
  have hpi:=pF (h:=i) (by omega);refine aC<|aF<|Rg<|Dd aE<|Dd (by exact aA rfl rfl call87 rfl (aBr l (2 ^ i) _ hl2 (by omega) hz))<|Da ?_;exact⟨i,zW l,⟨tT _ _ hl2,hr,fun t ht=>sU (FH _ _ (aQK _) t ht),by omega⟩,by omega,Wk⟩
 have hge:l.length<=1:=by have:=aQB hc2;omega
 have hj0:j=0:=by
  cases j with
  |zero=>rfl
  |succ i =>
   have:2 ^ (i+1)=2*2 ^ i:=by rw[Nat.pow_succ,Nat.mul_comm]
   have:0<2 ^ i:=Nat.two_pow_pos i;omega
 subst hj0;obtain ⟨a,rfl⟩:∃a,l=[a]:=List.length_eq_one_iff.1 hl;have ha:a=rG s h:=hr;subst ha;have hi:([rG s h].map encStr)[0]?=some (encStr (rG s h)):=rfl;exact aW<|Sr<|Dd aE<|Dd (by exact bH rfl cC rfl rfl (by omega) (by exact aQP _) hi rfl)<|Dd (iN isAgg9 (hi:=hi))<|Dd aM<|Dd aM<|Zz<|aB<|Ru<|Qq
abbrev HXJ:ByteArray:=⟨#[48,49,50,51,52,53,54,55,56,57,97,98,99,100,101,102]⟩
theorem aFj(h:n<16):Lib.indexByte HXJ.data.toList (pP n).toNat.toUInt8=(n:Int):=by revert h;revert n;decide
theorem N6(m:ByteArray)(hk:k<16):cR (qK m) k=pP (G8 (SN m) k):=by have hb:=aB5 (AP (SN m) k);have e:(qK m).data.toList=vQ (SN m):=rfl;rw[cR,e,vQ,aQY,List.getElem?_range hk];show ((UInt8.ofNat (pP (G8 (SN m) k)).toNat).toNat:Int)=_;rw[UInt8.toNat_ofNat',Nat.mod_eq_of_lt (by omega),Int.toNat_of_nonneg hb.1]
theorem aAT(m:ByteArray)(hk:k<16):(dJ m)[k]?=some (G8 (SN m) k):=by rw[dJ,aQY,List.getElem?_range hk];rfl
theorem aJD(m:ByteArray)(hk:k<16):(BS m).getD k 0=G8 (SN m) k:=by rw[List.getD_eq_getElem?_getD,BS,List.getElem?_append_left (by rw[xY];exact hk),aAT m hk];rfl
theorem aLi(m:ByteArray):(BS m).getD 16 0=qQ m / 16:=by rw[List.getD_eq_getElem?_getD,BS,List.getElem?_append_right (by rw[xY];exact aQK _),xY];rfl
theorem aLh(m:ByteArray):(BS m).getD 17 0=qQ m % 16:=by rw[List.getD_eq_getElem?_getD,BS,List.getElem?_append_right (by rw[xY];decide),xY];rfl
def uX(m:ByteArray)(k:Nat):Nat:=(((dJ m).take k).map (15 - ·)).sum
theorem MK(m:ByteArray)(hk:k<16):uX m (k+1)=uX m k+(15 - G8 (SN m) k):=by rw[uX,List.take_add_one,aAT m hk,List.map_append,List.sum_append];rfl
theorem VT(m:ByteArray)(k:Nat):uX m k<=240:=by
 have h:=LW ((dJ m).take k);have h2:((dJ m).take k).length<=16:=by rw[aQS,xY];omega
 rw[uX];omega
theorem QJ(m:ByteArray):uX m 16=qQ m:=by rw[uX,List.take_of_length_le (by rw[xY];exact aQK _),qQ]
def M7(m:ByteArray):Ob:=bx 1 9 [sv m]
theorem RX(m:ByteArray)(H:aH)(h1:H.get 961=none):aI Tryz.prog 92 [sv m] H (fun r H'=>r=.clo 139 [.ref 961 0 0 0]/\H'=(961,M7 m)::H):=by refine Bd func92 rfl ntmps92<|Sr<|Dd (by exact cF (id:=961) rfl rfl rfl rfl h1)<|Dd aM<|Zz<|Sr<|Dd (by exact gR rfl rfl)<|Dd aM<|Zz<|aB ?_;refine dV (H':=((961,M7 m)::H)) (.inr rfl) rfl (aX rfl) Fin.refl ?_;exact Qq
theorem RY(m:ByteArray)(fv:AV)(Hs:Nat->aH)(hm:m.size<1099511627776)(h1:∀k,(Hs k).get 961=some (M7 m))
  (hy:∀k:Nat,k<18->dN Tryz.prog fv [iv (k:Int),iv (((BS m).getD k 0:Nat):Int)] (Hs k) (fun r H'=>r=bv true/\H'=Hs (k+1))) :
  aI Tryz.prog 139 [fv,.ref 961 0 0 0] (Hs 0) (fun r H'=>r=.tup []/\H'=Hs 18):=by
 have hsz:=gH m;have hsum:=fun H=>VD m H (by omega);have y16:=hy 16 (by decide);have y17:=hy 17 (by decide);have hle:=ML m;rw[aLi]at y16;rw[aLh]at y17;refine Bd func139 rfl ntmps139<|Sr<|Dd aM<|Zz<|Sr<|Dd (by exact aK rfl isAgg9 rfl (h1 0) rfl rfl rfl)<|Dd (by exact aA rfl rfl UT rfl (hsum _))<|Dd aM<|Zz<|Sq<|Sr<|Dd aE<|Dd (kG underlying9)<|Dd aE<|Zz<|aF ?_;refine bJ (σ:=Nat) (fun k=>([(0,fv),(1,.ref 961 0 0 0),(3,iv (uX m k:Int)),(4,sv (qK m)),(10,iv 16),(11,iv (k:Int))],Hs k)) (fun k=>k<=16) (fun k=>16 - k) 0 (aQV _) ?_ ?_
 ·rw[hsz];exact E0
 intro k hk;have hyk:=fun(h:k<16)=>hy k (by omega);refine Sr<|Dd cW<|Zz<|Sq ?_;refine Cn ?_ ?_<;>intro hc1
 ·have hlt:k<16:=by have:=aQA hc1;omega
  have hyk:=hyk hlt;rw[aJD m hlt]at hyk;have hnl:=AP (SN m) k;have hr1:=VT m k;have hr2:=MK m hlt;have hib:=fun H=>qG HXJ (pP (G8 (SN m) k)) H;rw[aFj hnl]at hib;refine aC<|Sq<|aF<|Sr<|Dd aE<|Dd aM<|Zz<|Sr<|Dd aE<|Dd aE<|Dd (by exact dK rfl underlying9 rfl rfl (by omega) (aQP _) (by omega) (N6 m hlt))<|Dd (by exact aA rfl rfl yH rfl (hib _))<|Dd aM<|Zz<|Sr<|Dd aE<|Dd aE<|Dd (by exact dX rfl rfl rfl (show IntKind.i64.wrap (15 - (G8 (SN m) k:Int))=((15 - G8 (SN m) k:Nat):Int)by rw[jM (by omega) (by omega)];omega))<|Dd (by exact cB rfl rfl rfl (show IntKind.i64.wrap ((uX m k:Int)+((15 - G8 (SN m) k:Nat):Int))=(uX m (k+1):Int)by rw[jM (by omega) (by omega)];omega))<|Dd aM<|Zz<|Sr<|Dd aE<|Dd aE<|Dd aE<|Dd (by exact cY rfl rfl rfl (hyk))<|Dd iS<|Zz ?_;refine Cn ?_ ?_<;>intro hc2
  ·cases hc2
  refine aC<|Rg<|Dd (by exact cB rfl rfl rfl (show IntKind.i64.wrap ((k:Int)+1)=((k+1:Nat):Int)by rw[jM (by omega) (by omega)];omega))<|Dd aE<|Zz ?_;exact⟨k+1,by omega,by omega,E0⟩
 have hge:k=16:=by have:=aQB hc1;omega
 subst hge;rw[QJ];refine aW<|Sr<|Dd aE<|Dd aE<|Dd (by exact sD rfl rfl rfl (by decide) (show IntKind.i64.wrap (((qQ m:Nat):Int).tdiv 16)=((qQ m / 16:Nat):Int)by rw[Int.tdiv_eq_ediv_of_nonneg (by omega),jM (by omega) (by omega)];omega))<|Dd (by exact cY rfl rfl rfl (y16))<|Zz ?_;refine Cn ?_ ?_<;>intro hc3
 ·refine Rg<|Dd aE<|Dd aE<|Dd (by exact sC rfl rfl rfl (by decide) (show ((qQ m:Nat):Int).tmod 16=((qQ m % 16:Nat):Int)by rw[Int.tmod_eq_emod_of_nonneg (by omega)];omega))<|Dd (by exact cY rfl rfl rfl (y17))<|Zz ?_;exact sY (H':=Hs 18) (.inl rfl) rfl Fin.refl ⟨rfl,rfl⟩
 cases hc3
theorem aHJ{a b:Nat}(ha:a<4611686018427387904)(hb:b<4611686018427387904):bits .xor .i64 (a:Int) (b:Int)=((a ^^^ b:Nat):Int):=by have h:=Nat.xor_lt_two_pow (n:=62) ha hb;have ha':a % 2 ^ IntKind.i64.bits=a:=Nat.mod_eq_of_lt (Nat.lt_of_lt_of_le ha (by decide));have hb':b % 2 ^ IntKind.i64.bits=b:=Nat.mod_eq_of_lt (Nat.lt_of_lt_of_le hb (by decide));simp only[bits,BitVec.ofInt_natCast,BitVec.toNat_xor,BitVec.toNat_ofNat,ha',hb'];rw[jM (by omega) (by omega)]
theorem aJE{p:Prop}[Decidable p](h:¬ p):AV.pv (.bool (decide p))=bv false:=by rw[decide_eq_false h]
def UZ(s:ByteArray)(i:Nat)(m:ByteArray)(k:Nat):List ByteArray:=(List.range k).map fun k=>vZ (gO s i k) ((BS m).getD k 0)
theorem VL(s:ByteArray)(i:Nat)(m:ByteArray)(k:Nat):UZ s i m (k+1)=UZ s i m k++[vZ (gO s i k) ((BS m).getD k 0)]:=by rw[UZ,List.range_succ,List.map_append];rfl
theorem aAx(s:ByteArray)(i:Nat)(m:ByteArray)(k:Nat):(UZ s i m k).length=k:=by simp[UZ]
theorem cU.eqJ{P:Program}{N:Nat}{o:Oper}{E:dG}{H H2:aH}{v v':AV}(h:cU P N o E H v H2)(e:v=v'):cU P N o E H v' H2:=e▸h
def sgE:dG:=[(4,.ref 4 0 0 0),(6,.ref 6 0 0 0),(10,.ref 10 0 0 0)]
def sgT(s:ByteArray)(i:Nat):aH:=[(8,bx 3 25 [iv 0,.pv (.sl []),.pv (.sl [])]),(6,bx 1 3 [iv (i:Int)]),(4,bx 1 9 [sv s])]
def sgK(s:ByteArray)(i:Nat)(m:ByteArray)(L:List ByteArray):aH:=[(905,⟨L.length,1,9,cD L⟩),(10,bx 3 25 [iv (i:Int),.osl 905 L.length 0 L.length,.pv .nils]),(961,M7 m),(8,bx 3 25 [iv 0,.pv (.sl []),.pv (.sl [])]),(6,bx 1 3 [iv (i:Int)]),(4,bx 1 9 [sv s])]
theorem aH6(s:ByteArray)(i:Nat)(m:ByteArray)(L:List ByteArray)(x:ByteArray):sgK s i m (L++[x])=[(905,⟨L.length+1,1,9,cD (L++[x])⟩),(10,bx 3 25 [iv (i:Int),.osl 905 (L.length+1) 0 (L.length+1),.pv .nils]),(961,M7 m),(8,bx 3 25 [iv 0,.pv (.sl []),.pv (.sl [])]),(6,bx 1 3 [iv (i:Int)]),(4,bx 1 9 [sv s])]:=by simp[sgK]
theorem yY(H:aH)(m:ByteArray):∀r∈(M7 m).rows,∀a∈r,Clo H a:=by intro r hr a ha;simp only[M7,bx,aQH]at hr;subst hr;rw[aQH]at ha;subst ha;simp
theorem aH3(s m:ByteArray)(h i:Nat)(H:aH)(hs:s.size<1099511627776)(hm:m.size<1099511627776)(hh:h<=8)(hi:i<2 ^ h):
  aI Tryz.prog 32 [sv s,iv (h:Int),iv (i:Int),sv m] H (fun r H'=>r=.tup [.agg [iv (i:Int),.pv (aZ (B3 s i m)),.pv (aZ (iK h (jG s h) i))],iv 0]/\H'=H):=by
 refine Pu ?_;have hp:=pF hh;have hsh:=aH4 hh;have hkeys:=fun H=>aB0 s h H hs hh;have hkl:=qF s h;have hpath:∀L,L=iK h (jG s h) i->True:=fun _ _=>trivial;refine Bd func32 rfl ntmps32<|Sr<|Dd (by exact cF (id:=4) rfl rfl rfl rfl rfl)<|Dd (by exact cF (id:=6) rfl rfl rfl rfl rfl)<|Dd (by exact bU (id:=8) rfl FG rfl rfl)<|Dd aM<|Zz<|Sq<|Sq<|aO follows<|Cq aE<|Cq (by exact cU.eqJ (iZ rfl rfl rfl) (aJE (by omega)))<|Cq aE<|Nf aE<|Nf (by exact cU.eqJ (tX rfl rfl rfl) (aJE (by omega)))<|Cq cH<|Cq aE<|Nf (bF isAgg3)<|Nf (by exact cU.eqJ (iZ rfl rfl rfl) (aJE (by omega)))<|Cq cH<|Cq aE<|Nf (bF isAgg3)<|Nf aE<|Nf (by exact F1 rfl rfl rfl (by omega) (by simp[IntKind.bits];omega) hsh)<|Nf (by exact cU.eqJ (lC rfl rfl rfl) (aJE (by omega)))<|Cq cH<|bM<|Kr ?_;refine Cn ?_ ?_<;>intro hc1
 ·cases hc1
 refine aC<|Sr<|Dd (bF isAgg3)<|Dd (rJ aKC)<|Dd (by exact bU (id:=10) rfl FG rfl rfl)<|Uu (jN sizeOf25)<|Zz<|Sq<|Sr<|Dd aE<|Dd (by exact aA rfl rfl call92 rfl (RX m _ rfl))<|Zz<|aF ?_;refine gM.ent (E':=[(1,iv (h:Int)),(4,.ref 4 0 0 0),(6,.ref 6 0 0 0),(8,.ref 8 0 0 0),(10,.ref 10 0 0 0),(35,.clo 139 [.ref 961 0 0 0])]) (H':=sgK s i m []) ?_ ?_
 ·exact(cX.nz 905 1 9 rfl rfl ⟨⟨_,rfl,(by exact Nz.same (by(simp;done)))⟩,⟨_,rfl,(by exact Nz.same (by(simp;rfl)))⟩,⟨_,rfl,(by exact Nz.same (by(simp;rfl)))⟩,⟨_,rfl,(by exact Nz.same (by(simp;rfl)))⟩,⟨_,rfl,(by exact Nz.same (by(simp;rfl)))⟩,⟨_,rfl,(by exact Nz.same (by(simp;rfl)))⟩,trivial⟩ ⟨⟨_,rfl,rfl,rfl,rfl,(by exact .inr ⟨_,_,rfl,rfl,(by repeat(first|exact trivial|refine⟨(by first|exact Nz.own|exact Nz.same (by(simp;done))),?_⟩))⟩)⟩,⟨_,rfl,rfl,rfl,rfl,(by exact .inl ⟨rfl,(by exact yY _ _)⟩)⟩,⟨_,rfl,rfl,rfl,rfl,(by exact .inl ⟨rfl,(by(simp;done))⟩)⟩,⟨_,rfl,rfl,rfl,rfl,(by exact .inl ⟨rfl,(by(simp;done))⟩)⟩,⟨_,rfl,rfl,rfl,rfl,(by exact .inl ⟨rfl,(by(simp;done))⟩)⟩,trivial⟩ trivial)
 refine OB (id:=904) (p:=36) (p2:=37) sgE rfl call139 rfl rfl (by simp[sgE];exact⟨rfl,rfl,rfl⟩) ?_;intro x hx1 hx2 hx3 hx4 hx5 hx6;refine(RY m (.yld 904 0) (fun k=>(904,LR x sgE)::sgK s i m (UZ s i m k)) hm (fun k=>rfl) ?_).mono ?_
 ·intro k hk;have hd:=T6 m _ (qH (d:=0) (by rw[DI];exact hk));have hst:=fun H=>aAs s i k H hs (by omega) (by omega);have hfl:=aAx s i m k;have hnx:=VL s i m k;have hch:=fun H=>UB (gO s i k) ((BS m).getD k 0) H (by rw[wU];decide) (by omega);obtain ⟨d,hdd⟩:∃d,d=(BS m).getD k 0:=⟨_,rfl⟩;rw[<-hdd]at hd hnx hch |-;refine .inl ⟨904,0,rfl,?_⟩;refine aAb [(4,.ref 4 0 0 0),(6,.ref 6 0 0 0),(10,.ref 10 0 0 0),(11,iv (k:Int)),(12,iv (d:Int))] (sgK s i m (UZ s i m k)) hx1 hx2 hx3 hx4 hx5 hx6 rfl rfl rfl rfl rfl ?_ ?_
  ·refine Sr<|Dd aM<|Zz<|Rg<|Da ?_;exact(cX.wk (Ea<|Ea<|Ea<|Eb<|Eb<|trivial) (Hc (lQ (by intro p hp;simp only[sgE,aQQ,aQU,or_false]at hp;rcases hp with rfl|rfl|rfl<;>(simp only[sJ];rfl)))<|Hc (cA _ _)<|Ha<|Hc (yY _ _)<|Hb<|Hb<|Hb<|trivial) ⟨rfl,rfl,rfl,rfl,rfl,rfl,rfl,trivial⟩)
  rw[hnx,aH6];refine aF<|aO follows<|Cr [10] (fun _ h=>fh iA h)<|Cr [10] (fun _ h=>lh aG h)<|Cr [4] (fun _ h=>lh isAgg9 h)<|Cr [6] (fun _ h=>lh isAgg3 h)<|Cr [] (fun _ _=>aE)<|Cr [] (fun H1 hH=>by exact aA rfl rfl call96 rfl (hst _))<|Cr [] (fun _ _=>aE)<|Cr [] (fun H1 hH=>by exact aA rfl rfl aPm rfl (hch _))<|Cr [] (fun H1 hH=>by exact aQ [[.str (vZ (gO s i k) d)]] rfl cC rfl rfl rfl rfl rfl (by intro r hr;rw[aQH]at hr;subst hr;rfl))<|Cp [905] (fun H1 hH=>by exact cJ (ps:=[[.str (vZ (gO s i k) d)]]) rfl cC xI rfl ((hH _ rfl).trans rfl) rfl rfl rfl (eX _) rfl (by intro r hr;rw[aQH]at hr;subst hr;rfl) (m:=1) rfl (by omega) rfl (kK (UZ s i m k) (vZ (gO s i k) d)))<|Cr [10] (fun _ h=>fh iA h)<|Cp [10] (fun H1 hH=>by exact bG rfl sizeOf22 rfl rfl rfl ((hH _ rfl).trans rfl) rfl rfl (by simp only[aQG,List.length_nil];omega) (by simp only[Zl,encStr];rfl) (by simp only[Zl,encStr];rfl)) ?_;refine bM<|Kr ?_;exact⟨[(905,⟨(UZ s i m k).length+1,1,9,cD (UZ s i m k++[vZ (gO s i k) d])⟩),(10,bx 3 25 [iv (i:Int),.osl 905 ((UZ s i m k).length+1) 0 ((UZ s i m k).length+1),.pv .nils]),(961,M7 m),(8,bx 3 25 [iv 0,.pv (.sl []),.pv (.sl [])]),(6,bx 1 3 [iv (i:Int)]),(4,bx 1 9 [sv s])],(cX.wk trivial (Hc (lQ (by intro p hp;simp only[sgE,aQQ,aQU,or_false]at hp;rcases hp with rfl|rfl|rfl<;>(simp only[sJ];rfl)))<|Hc (cA _ _)<|Ha<|Hc (yY _ _)<|Hb<|Hb<|Hb<|trivial) ⟨rfl,rfl,rfl,rfl,rfl,rfl,rfl,trivial⟩),rfl,rfl⟩
 rintro r H' ⟨rfl,rfl⟩;refine⟨x,_,rfl,by rw[hx1];decide,rfl,fun z=>?_⟩;rw[hx2,show UZ s i m 18=B3 s i m from rfl];obtain ⟨S,hS⟩:∃S,S=B3 s i m:=⟨_,rfl⟩;rw[<-hS];have hol:(S.map encStr).length=S.length:=aQE _;refine gM.ent (cX.fzG (id:=905) (E':=[(1,iv (h:Int)),(4,.ref 4 0 0 0),(6,.ref 6 0 0 0),(8,.ref 8 0 0 0),(10,.ref 10 0 0 0)]) (H':=(10,bx 3 25 [iv (i:Int),.pv (aZ S),.pv .nils])::sgT s i) (S.map encStr) rfl (eM _) ?_ rfl ?_ ?_) ?_
 ·intro p hp;simp only[aQQ,aQU,or_false]at hp;rcases hp with rfl|rfl|rfl|rfl|rfl
  ·exact⟨_,rfl,.same (by simp)⟩
  ·exact⟨_,rfl,.same (by simp;rfl)⟩
  ·exact⟨_,rfl,.same (by simp;rfl)⟩
  ·exact⟨_,rfl,.same (by simp;rfl)⟩
  exact⟨_,rfl,.same (by simp;rfl)⟩
 ·refine⟨⟨_,rfl,rfl,rfl,rfl,oD rfl (dF (.same (by simp)) (dF (.osl ?_) (dF (.same (by simp)) oO)))⟩,⟨_,rfl,rfl,rfl,rfl,gK (by simp)⟩,⟨_,rfl,rfl,rfl,rfl,gK (by simp)⟩,⟨_,rfl,rfl,rfl,rfl,gK (by simp)⟩,trivial⟩;rw[aQW,List.drop_zero,<-hol,List.take_length]
 ·exact trivial
 refine Sq<|Sq<|aO follows<|Cq (bF isAgg9)<|Cq aE<|Cq (by exact aA rfl rfl call86 rfl (hkeys _))<|Cq (bF isAgg3)<|Cq aM<|Cq aM<|bM<|Kr<|aF ?_;refine gM.ent (E':=[(8,.ref 8 0 0 0),(10,.ref 10 0 0 0),(13,.pv (aZ (jG s h))),(14,iv (i:Int))]) (H':=(906,⟨0,1,9,[]⟩)::(10,bx 3 25 [iv (i:Int),.pv (aZ S),.osl 906 0 0 0])::sgT s i) ?_ ?_
 ·exact(cX.nz 906 1 9 rfl rfl ⟨⟨_,rfl,(by exact Nz.same (by(simp;rfl)))⟩,⟨_,rfl,(by exact Nz.same (by(simp;rfl)))⟩,⟨_,rfl,(by exact Nz.same (by(simp;done)))⟩,⟨_,rfl,(by exact Nz.same (by(simp;done)))⟩,trivial⟩ ⟨⟨_,rfl,rfl,rfl,rfl,(by exact .inr ⟨_,_,rfl,rfl,(by repeat(first|exact trivial|refine⟨(by first|exact Nz.own|exact Nz.same (by(simp;done))),?_⟩))⟩)⟩,⟨_,rfl,rfl,rfl,rfl,(by exact .inl ⟨rfl,(by(simp;done))⟩)⟩,⟨_,rfl,rfl,rfl,rfl,(by exact .inl ⟨rfl,(by(simp;done))⟩)⟩,⟨_,rfl,rfl,rfl,rfl,(by exact .inl ⟨rfl,(by(simp;done))⟩)⟩,trivial⟩ trivial)
 refine IY (fun(j:Nat) (l:List ByteArray) (q:Nat) (A:List ByteArray)=>([(8,.ref 8 0 0 0),(10,.ref 10 0 0 0),(13,.pv (aZ l)),(14,iv (q:Int))],[(906,⟨A.length,1,9,cD A⟩),(10,bx 3 25 [iv (i:Int),.pv (aZ S),.osl 906 A.length 0 A.length]),(8,bx 3 25 [iv 0,.pv (.sl []),.pv (.sl [])]),(6,bx 1 3 [iv (i:Int)]),(4,bx 1 9 [sv s])]))
  (fun j l q A=>l.length=2 ^ j/\q<2 ^ j/\A++iK j l q=iK h (jG s h) i/\(∀t∈l,t.size=16)/\j<=8/\A.length+j<=8) (fun j l q A=>j) h (jG s h) i [] ⟨hkl,hi,rfl,fun t ht=>sU (uN s h t ht),hh,by rw[List.length_nil];omega⟩ ?_ ?_
 ·exact(cX.wk (Ea<|Ea<|Eb<|Eb<|trivial) (Hc (cA _ _)<|Ha<|Hb<|Hb<|Hb<|trivial) trivial)
 rintro j l q A ⟨hl,hq,hr,hz,hj,hA⟩;have hml:(l.map encStr).length=l.length:=aQE _;have hpj:=pF hj;refine Sq<|Sr<|Dd aE<|Dd (fM aD)<|Dd iG<|Zz ?_;refine Cn ?_ ?_<;>intro hc2
 ·have hlt:1<l.length:=by have:=aQA hc2;omega
  obtain ⟨u,rfl⟩:∃u,j=u+1:=by
   cases j with
   |zero=>rw[hl]at hlt;exact absurd hlt (by decide)
   |succ u=>exact⟨u,rfl⟩
  have hl2:l.length=2*2 ^ u:=by rw[hl,Nat.pow_succ,Nat.mul_comm]
  have hpu:=pF (h:=u) (by omega);have hq2:q / 2<2 ^ u:=by rw[Nat.pow_succ]at hq;omega
  have hx:=SG q;have hxl:q ^^^ 1<l.length:=by
   rw[hx]
   split<;>omega
  have hix:(l.map encStr)[q ^^^ 1]?=some (encStr (l.getD (q ^^^ 1) sNil)):=by
   rw[aQY,List.getD_eq_getElem?_getD,aQJ hxl];rfl
  have hr2:(A++[l.getD (q ^^^ 1) sNil])++iK u (zW l) (q / 2)=iK h (jG s h) i:=by
   rw[<-hr,List.append_assoc];rfl
  obtain ⟨e,he⟩:∃e,e=l.getD (q ^^^ 1) sNil:=⟨_,rfl⟩;obtain ⟨y,hy⟩:∃y,y=q ^^^ 1:=⟨_,rfl⟩;have hxo:=aHJ (a:=q) (b:=1) (by omega) (by decide);rw[<-he]at hix hr2;rw[<-hy]at hix hxo hxl;have hnl:(A++[e]).length=A.length+1:=by rw[aQF];rfl
  refine aC<|Sq<|aF<|aO follows<|Cr [10] (fun _ h=>fh kV h)<|Cr [10] (fun _ h=>lh aG h)<|Cr [] (fun _ _=>aE)<|Cr [] (fun _ _=>aE)<|Cr [] (fun H1 hH=>by exact mO rfl (by simp) rfl rfl hxo)<|Cr [] (fun H1 hH=>by exact bH rfl cC rfl rfl (by omega) (by exact aQP _) hix rfl)<|Cr [] (fun _ _=>(iN isAgg9 (hi:=hix)))<|Cr [] (fun H1 hH=>by exact aQ [[.str e]] rfl cC rfl rfl rfl rfl rfl (by intro r hr;rw[aQH]at hr;subst hr;rfl))<|Cp [906] (fun H1 hH=>by exact cJ (ps:=[[.str e]]) rfl cC xI rfl ((hH _ rfl).trans rfl) rfl rfl rfl (eX _) rfl (by intro r hr;rw[aQH]at hr;subst hr;rfl) (m:=1) rfl (by omega) rfl (kK A e))<|Cr [10] (fun _ h=>fh kV h)<|Cp [10] (fun H1 hH=>by exact bG rfl sizeOf22 rfl rfl rfl ((hH _ rfl).trans rfl) rfl rfl (by simp only[aQG,List.length_nil];omega) (by simp only[Zl,encStr];rfl) (by simp only[Zl,encStr];rfl)) ?_;refine bM<|Kr<|Rg<|Dd aE<|Dd (by exact aA rfl rfl call87 rfl (aBr l (2 ^ u) _ hl2 (by omega) hz))<|Dd aE<|Dd (by exact sD rfl rfl rfl (by decide) (show IntKind.i64.wrap ((q:Int).tdiv 2)=((q / 2:Nat):Int)by rw[Int.tdiv_eq_ediv_of_nonneg (by omega),jM (by omega) (by omega)];omega))<|Dd aM<|Da ?_;refine⟨u,zW l,q / 2,A++[e],⟨tT _ _ hl2,hq2,hr2,fun t ht=>sU (FH _ _ (aQK _) t ht),by omega,by omega⟩,by omega,?_⟩;dsimp only;rw[hnl];exact(cX.wk (Ea<|Ea<|Eb<|Eb<|trivial) (Hc (cA _ _)<|Ha<|Hb<|Hb<|Hb<|trivial) trivial)
 have hge:l.length<=1:=by have:=aQB hc2;omega
 have hj0:j=0:=by
  cases j with
  |zero=>rfl
  |succ u =>
   have:2 ^ (u+1)=2*2 ^ u:=by rw[Nat.pow_succ,Nat.mul_comm]
   have:0<2 ^ u:=Nat.two_pow_pos u;omega
 subst hj0;have hA2:A=iK h (jG s h) i:=by rw[<-hr,iK,List.append_nil]
 have hal:(A.map encStr).length=A.length:=aQE _;rw[<-hA2];refine aW<|Sq ?_;refine gM.ent (cX.fzG (id:=906) (E':=[(8,.ref 8 0 0 0),(10,.ref 10 0 0 0)]) (H':=(10,bx 3 25 [iv (i:Int),.pv (aZ S),.pv (aZ A)])::sgT s i) (A.map encStr) rfl (eM _) ?_ rfl ?_ ?_) ?_
 ·intro p hp;simp only[aQQ,aQU,or_false]at hp;rcases hp with rfl|rfl
  ·exact⟨_,rfl,.same (by simp;rfl)⟩
  exact⟨_,rfl,.same (by simp;rfl)⟩
 ·refine⟨⟨_,rfl,rfl,rfl,rfl,oD rfl (dF (.same (by simp)) (dF (.same (by simp)) (dF (.osl ?_) oO)))⟩,⟨_,rfl,rfl,rfl,rfl,gK (by simp)⟩,⟨_,rfl,rfl,rfl,rfl,gK (by simp)⟩,⟨_,rfl,rfl,rfl,rfl,gK (by simp)⟩,trivial⟩;rw[aQW,List.drop_zero,<-hal,List.take_length]
 ·exact trivial
 refine Rg<|Dd (by exact aN rfl dD sizeOf25 rfl rfl rfl rfl (by simp only[Zl,encStr];rfl) rfl)<|Uu (jN sizeOf25)<|Dd aM<|Zz<|aB ?_;refine mQ (H':=[]) (.inr rfl) rfl (eA rfl dD sizeOf25 rfl rfl rfl (by simp only[Zl,encStr];rfl) rfl) (aX rfl) (Fin.wk (by simp) trivial trivial) ?_;exact Qq
end Go.Proofs.YtmdicgjnmfolfaaGreatDoor
namespace Go.Abs
open Go.RowKit
theorem Rel.below{I}{ι}{H}{w w'}(d:Below w.heap.size w w')(f:Rel I ι H w):Rel I ι H w'/\Step I ι H w I ι H w':=by
 have g:=d.block;have e:Step I ι H w I ι H w':=by
  refine⟨d.os,d.tape,d.output,d.size,fun a ha _=>?_,fun _ h=>h,fun _ h=>.inl h,fun _ h=>.inl h,fun b d _=>g b d,fun _ o h=>⟨o,h,aQK _,fun _=>⟨rfl,rfl,fun _=>aQK _⟩⟩⟩;unfold World.frozen?
  simp_all
 refine⟨⟨fun b h=>?_,fun j o k=>?_,f.inj,e.glob f⟩,e⟩
 ·have:=f.imm b h;have:=d.size;omega
 exact(f.obj j o k).keep rfl (fun b c _ d=>⟨g b d,fun h=>h⟩) (fun r _ a _ v i=>i.mono f e)
end Go.Abs
namespace Go.Abs
open Go.Proofs
def aNb(v:Value):Prop:=∃t p,v=.iface t p
abbrev aDE:PV:=.sat aNb
def oK(s:ByteArray):Int×PV:=match Lib.atoiAll s.data.toList with
 |.ok v=>(v,H4)
 |.range=>(Lib.atoiSat s.data.toList,aDE)
 |_=>(0,aDE)
theorem atoi_c{P:Program}{ρ:Shelf.Ren}(L:LaysC.n172 P ρ){G1 G2:Nat}(B:(G1,GV.face)∈TY)(J:P.globalNamed "strconv.ErrSyntax" = some G1)(F:(G2,GV.face)∈TY)(M:P.globalNamed "strconv.ErrRange" = some G2)(s:ByteArray)(hs:s.size<1099511627776)(H:aH):
  aI P (ρ.f 172) [.pv (.str s)] H (fun r H'=>r=.tup [.pv (.int .i64 (oK s).1),.pv (oK s).2]/\H'=H):=by
 intro I D w R Q K S;obtain ⟨v,rfl⟩:∃v,R=#[v]:=by
  match R,K with
  |⟨[v]⟩,_=>exact⟨v,rfl⟩
 have e1:=(S 0 v _ rfl rfl).str_inv;subst e1;have j:∀(g:String) (G:Nat),(G,GV.face)∈TY->P.globalNamed g=some G->∃t p,w.var? P g=some #[.iface t p]:=fun g G X Z=>by
  obtain ⟨_,cs,t,f,l,q,p,V⟩:=Q.glob _ X;subst V;exact⟨q,p,by simp only[World.var?,Z,Option.bind_some,l]⟩
 have m:∀(n:Int) (x:Value) (a:PV) (d:World),RowKit.Below w.heap.size w d->(∀I H,VRel d I D H x (.pv a))->∃r H' E o O,(Ending.returned (.tuple #[.int .i64 n,x]))=.returned O/\(r=.tup [.pv (.int .i64 n),.pv a]/\H'=H)/\VRel d E o H' O r/\Rel E o H' d/\Step I D H w E o H' d:=fun n x a d u U=>by
  obtain ⟨Y,W⟩:=Rel.below u Q;refine⟨_,_,I,D,_,rfl,⟨rfl,rfl⟩,.tup rfl fun i v b y l=>?_,Y,W⟩
  match i,y,l with
  |0,y,l=>cases y;cases l;exact .pv (.int _ _)
  |1,y,l=>cases y;cases l;exact U _ _
  |i+2,y,l=>simp at y
 rw[oK];cases h:Lib.atoiAll s.data.toList with
 | ok n =>
  refine(Any.strconv_Atoi_ok L s (by omega) n h w).mono ?_;rintro e d ⟨rfl,T⟩;have u:RowKit.Below w.heap.size w d:=by
   rcases T with rfl|⟨t,rfl⟩
   ·exact RowKit.Below.refl _ _
   exact Lib.bytesWorld_below w _ t
  exact m n .nilIface H4 d u (fun _ _=>.pv (.sat rfl rfl))
 |range =>
  obtain ⟨t,p,A⟩:=j _ G2 F M;refine(Any.strconv_Atoi_range_var L s (by omega) h t p w A).mono ?_;rintro e d ⟨N,rfl,_,_,u⟩;exact m _ _ aDE d u (fun _ _=>.pv (.sat rfl ⟨_,_,rfl⟩))
 |_ =>
  obtain ⟨t,p,A⟩:=j _ G1 B J;refine(Any.strconv_Atoi_syntax_var L s (by omega) h t p w A).mono ?_;rintro e d ⟨N,rfl,_,_,u⟩;exact m 0 _ aDE d u (fun _ _=>.pv (.sat rfl ⟨_,_,rfl⟩))
theorem YS{P}{ρ}(L:Lays.n160 P ρ)(d:(P.info? (ρ.t 116)).map (fun i=>(i.zero,i.size))=some (some (.agg (Array.replicate 256 (.bool false))),256))(s c)(o:s.size<=9223372036854775807)(g:c.size<4294967281)
  (p:∀(j:Nat) b,c.data.toList[j]?=some b->b.toNat<128) (H) :
  aI P (ρ.f 160) [.pv (.str s),.pv (.str c)] H (fun r H'=>r=.pv (.str ⟨(Lib.trimS s.data.toList c.data.toList).toArray⟩)/\H'=H):=by
 intro I q w h m f k;obtain ⟨v,u,rfl⟩:∃v u,h=#[v,u]:=by
  match h,f with
  |⟨[v,u]⟩,_=>exact⟨v,u,rfl⟩
 have x:=(k 0 v _ rfl rfl).str_inv;have n:=(k 1 u _ rfl rfl).str_inv;subst x n;refine(Any.strings_Trim_laid L d s c w o g p).mono ?_;rintro e w' ⟨rfl,y⟩;obtain ⟨t,l⟩:=Rel.below y m;exact⟨_,_,I,q,_,rfl,⟨rfl,rfl⟩,.pv (.str _),t,l⟩
end Go.Abs
section
namespace Go.Proofs
open Go.RowKit Go.Sort Go.Shelf
def aPv:Go.Shelf.Ren:=⟨fun|160=>125|232=>169|231=>168|227=>170|234=>172|233=>171|236=>174|235=>173|228=>210|271=>213|151=>212|197=>211|120=>248|152=>247|260=>246|137=>140|119=>270|224=>222|225=>221|217=>180|266=>214|n=>n,fun|9=>9|4=>4|3=>3|5=>5|117=>193|116=>192|0=>0|124=>196|21=>21|105=>227|46=>125|119=>158|139=>277|138=>276|n=>n,fun|3=>4|4=>5|n=>n⟩
theorem aPx:Go.Proofs.Lays.n160 Tryz.prog aPv:={
  mixed:=by kernel_rfl
  f119:=Tryz.func270.trans (congrArg some (by kernel_rfl))
  f120:=Tryz.func248.trans (congrArg some (by kernel_rfl))
  f137:=Tryz.func140.trans (congrArg some (by kernel_rfl))
  f151:=Tryz.func212.trans (congrArg some (by kernel_rfl))
  f152:=Tryz.func247.trans (congrArg some (by kernel_rfl))
  f160:=Tryz.func125.trans (congrArg some (by kernel_rfl))
  f197:=Tryz.func211.trans (congrArg some (by kernel_rfl))
  f217:=Tryz.func180.trans (congrArg some (by kernel_rfl))
  f224:=Tryz.func222.trans (congrArg some (by kernel_rfl))
  f225:=Tryz.func221.trans (congrArg some (by kernel_rfl))
  f227:=Tryz.func170.trans (congrArg some (by kernel_rfl))
  f228:=Tryz.func210.trans (congrArg some (by kernel_rfl))
  f231:=Tryz.func168.trans (congrArg some (by kernel_rfl))
  f232:=Tryz.func169.trans (congrArg some (by kernel_rfl))
  f233:=Tryz.func171.trans (congrArg some (by kernel_rfl))
  f234:=Tryz.func172.trans (congrArg some (by kernel_rfl))
  f235:=Tryz.func173.trans (congrArg some (by kernel_rfl))
  f236:=Tryz.func174.trans (congrArg some (by kernel_rfl))
  f260:=Tryz.func246.trans (congrArg some (by kernel_rfl))
  f266:=Tryz.func214.trans (congrArg some (by kernel_rfl))
  f271:=Tryz.func213.trans (congrArg some (by kernel_rfl))
  t0:=aGn
  a0:=aPj
  z0:=aPJ
  v0:=aJ6
  t3:=Tryz.underlying3
  a3:=Tryz.isAgg3
  z3:=Tryz.sizeOf3
  v3:=uP
  t4:=eV
  a4:=pG
  z4:=Tryz.sizeOf4
  v4:=nI
  t5:=fW
  a5:=BT
  z5:=cM
  v5:=CZ
  t9:=Tryz.underlying9
  a9:=Tryz.isAgg9
  z9:=Tryz.sizeOf9
  v9:=uO
  t21:=Tryz.underlying21
  a21:=Tryz.isAgg21
  z21:=Tryz.sizeOf21
  v21:=Tryz.zeroValue21
  t46:=FB
  a46:=YM
  z46:=UO
  v46:=HC
  t105:=Tryz.underlying227
  a105:=Tryz.isAgg227
  z105:=Tryz.sizeOf227
  v105:=Tryz.zeroValue227
  t116:=Tryz.underlying192
  a116:=Tryz.isAgg192
  z116:=Tryz.sizeOf192
  t117:=Tryz.underlying193
  a117:=Tryz.isAgg193
  z117:=Tryz.sizeOf193
  v117:=Tryz.zeroValue193
  t119:=fP
  a119:=aOA
  z119:=yB
  t124:=Tryz.underlying196
  a124:=Tryz.isAgg196
  z124:=Tryz.sizeOf196
  v124:=Tryz.zeroValue196
  t138:=Tryz.underlying276
  a138:=Tryz.isAgg276
  z138:=Tryz.sizeOf276
  v138:=Tryz.zeroValue276
  t139:=Tryz.underlying277
  a139:=Tryz.isAgg277
  z139:=Tryz.sizeOf277
  v139:=Tryz.zeroValue277
  g3:=by kernel_rfl
  g4:=by kernel_rfl}
end Go.Proofs
namespace Go.Proofs.YtmdicgjnmfolfaaGreatDoor
open Go.Proofs.Tryz
open Go.Abs
abbrev HXT:ByteArray:=⟨#[48,49,50,51,52,53,54,55,56,57,97,98,99,100,101,102]⟩
theorem aL7(b:UInt8):HXT.data.toList.contains b=DT b:=by
 have h:∀n:Fin 256,HXT.data.toList.contains (UInt8.ofNat n.1)=DT (UInt8.ofNat n.1):=by decide +kernel
 have:=h ⟨b.toNat,b.toNat_lt⟩
 simpa using this
theorem xW{α:Type}(p:α->Bool):∀l:List α,l.dropWhile p=[]↔l.all p=true
 | []=>by simp
 |a::r=>by
  rw[List.dropWhile_cons,List.all_cons];cases h:p a with
  |true=>rw[aQD rfl,Bool.true_and];exact xW p r
  |false=>rw[aQC (by decide)];simp
theorem D9{α:Type}{p q:α->Bool}:∀ {l:List α},(l.dropWhile p).all q=true->(∀a,p a=true->q a=true)->l.all q=true
 | [],_,_=>rfl
 | a::r,h,hpq=>by
  rw[List.dropWhile_cons]at h;cases hp:p a with
  |true =>
   rw[hp,aQD rfl]at h;rw[List.all_cons,hpq a hp,Bool.true_and];exact D9 h hpq
  |false =>
   rw[hp,aQC (by decide)]at h;exact h
theorem aED(l:List UInt8):Lib.trimS l HXT.data.toList=[]↔l.all DT=true:=by
 have e:(fun b=>HXT.data.toList.contains b)=DT:=funext aL7;unfold Lib.trimS Lib.trimLeftS Lib.trimRightS;rw[e,xW];constructor
 ·intro h;rw[List.all_reverse]at h;have h2:=D9 h (fun a ha=>ha)
  rwa [List.all_reverse]at h2
 intro h;have h2:(l.reverse.dropWhile DT)=[]:=(xW _ _).2 (by rw[List.all_reverse];exact h);rw[h2];rfl
theorem aHU(s:ByteArray)(hs:s.size<1099511627776)(H:aH):aI Tryz.prog 125 [sv s,sv HXT] H (fun r H'=>r=sv ⟨(Lib.trimS s.data.toList HXT.data.toList).toArray⟩/\H'=H) :=YS aPx (by kernel_rfl) s HXT (by omega) (by decide) (ascii_of_all (by decide)) H
theorem aFe(s:ByteArray)(hs:s.size<1099511627776)(H:aH):aI Tryz.prog 73 [sv s] H (fun r H'=>r=bv (isJ s)/\H'=H):=by
 refine Pu ?_;have htr:=fun H=>aHU s hs H;have hn:=aED s.data.toList;obtain ⟨t,ht⟩:∃t,t=Lib.trimS s.data.toList HXT.data.toList:=⟨_,rfl⟩;rw[<-ht]at htr hn;have hb:isJ s=(decide ((s.size:Int)=16)&&decide ((⟨t.toArray⟩:ByteArray)=sNil)):=by
  rw[isJ];congr 1
  ·exact decide_eq_decide.2 (by omega)
  have h2:((⟨t.toArray⟩:ByteArray)=sNil)↔t=[]:=by
   constructor
   ·intro h;have:=congrArg (fun b:ByteArray=>b.data.toList) h
    simpa using this
   intro h;rw[h]
  cases h3:s.data.toList.all DT with
  |true=>exact(decide_eq_true (h2.2 (hn.2 h3))).symm
  |false=>exact(decide_eq_false (fun h=>by rw[hn.1 (h2.1 h)]at h3;cases h3)).symm
 clear ht hn;refine Bd func73 rfl ntmps73<|Sr<|Dd aM<|Zz<|Sq ?_;refine aY (t:=2) (n:=10) (X:=isJ s) ?_ ?_
 ·all_goals refine Dd aE ?_
  all_goals refine Dd (kG underlying9)<|Dd cN<|Dm ?_
  all_goals refine Sp 6 (fun h6=>?_) fun h6=>?_
  all_goals try contradiction
  all_goals first|refine Fo<|Fo<|Fo ?_|refine On aE<|On (by exact aA rfl rfl call125 rfl (htr _))<|On AG ?_
  all_goals refine Dd cH<|Da ?_
  all_goals(exact⟨⟨_,rfl,by(rw[hb,h6];rfl)⟩,rfl,rfl,rfl⟩)
 exact aB<|Rt<|Qq
end Go.Proofs.YtmdicgjnmfolfaaGreatDoor
end
namespace Go.Proofs.YtmdicgjnmfolfaaGreatDoor
open Go.Proofs.Tryz
open Go.Abs
variable{key m:ByteArray}{i:Int}{l p:List ByteArray}
def M2(t:ByteArray):Bool:=!isJ t
theorem aLQ(t:ByteArray)(ht:t.size<1099511627776)(H:aH):aI Tryz.prog 91 [sv t] H (fun r H'=>r=bv (M2 t)/\H'=H):=by refine Pu ?_;exact Bd func91 rfl ntmps91<|Sr<|Dd aM<|Zz<|Sr<|Dd aE<|Dd (by exact aA rfl rfl aPo rfl (aFe t ht _))<|Dd iS<|Dd aM<|Zz<|aB<|Rt<|Qq
theorem SB(l:List ByteArray)(q:ByteArray->Bool):((List.range l.length).any fun k=>match l[k]? with|some s=>q s|none=>false)=l.any q:=by
 rw[Bool.eq_iff_iff,List.any_eq_true,List.any_eq_true];constructor
 ·rintro⟨k,hk,h⟩;have hk:=List.mem_range.1 hk;rw[aQJ hk]at h;exact⟨_,List.getElem_mem hk,h⟩
 rintro⟨s,hs,h⟩;obtain ⟨k,hk⟩:=aQZ.1 hs;exact⟨k,List.mem_range.2 (aQI.1 hk).1,by rw[hk];exact h⟩
theorem aJo(l:List ByteArray)(hl:l.length<1099511627776)(ht:∀t∈l,t.size<1099511627776)(H:aH):aI Tryz.prog 90 [.pv (aZ l)] H (fun r H'=>r=bv (l.any M2)/\H'=H):=by
 refine Pu ?_;have hc:=sI (.pv (.fn 91)) l (fun k=>match l[k]? with|some s=>M2 s|none=>false) (fun _=>[]) (by omega) (fun k s hk=>by
  simp only[hk];exact dN.fn call91 (aLQ s (ht s (aQO hk)) []))
 rw[SB]at hc;exact Bd func90 rfl ntmps90<|Sr<|Dd aM<|Zz<|Sr<|Dd aE<|Dd (by exact aA rfl rfl US rfl (hc))<|Dd aM<|Zz<|aB<|Rt<|Qq
def LD(i:Int)(l p:List ByteArray):Bool:=((((!decide (((l.map encStr).length:Int)=18)||decide (8<((p.map encStr).length:Int)))||l.any M2)||p.any M2)||decide (i<0))||decide (((2 ^ p.length:Nat):Int)<=i)
theorem GX(l:List ByteArray):l.any M2=!l.all isJ:=by
 induction l with
 |nil=>rfl
 |cons a r ih=>rw[List.any_cons,List.all_cons,ih,M2,Bool.not_and]
theorem aHN(h:LD i l p=true):zV key m i l p=false:=by
 rw[LD,GX,GX,aQE,aQE]at h;cases hv:zV key m i l p with
 |false=>rfl
 |true =>
  rw[zV]at hv;simp only[aQN,aQL]at hv;obtain ⟨⟨⟨⟨⟨a1,a2⟩,a3⟩,a4⟩,a5,a6⟩,a7⟩:=hv;have a6':i<((2 ^ p.length:Nat):Int):=by exact_mod_cast a6
  rw[a3,a4,decide_eq_true (show (l.length:Int)=18 by omega),decide_eq_false (show ¬ 8<(p.length:Int)by omega),decide_eq_false (show ¬ i<0 by omega),decide_eq_false (show ¬ ((2 ^ p.length:Nat):Int)<=i by omega)]at h;exact absurd h (by decide)
theorem aKX(h:LD i l p=false):∃q:Nat,i=(q:Int)/\q<2 ^ p.length/\l.length=18/\p.length<=8/\(∀t∈l,isJ t=true)/\(∀t∈p,isJ t=true)/\zV key m i l p=decide (zI (xX (xG m l)) p q=key):=by
 rw[LD,GX,GX,aQE,aQE]at h;simp only[aQ0,Bool.not_eq_false',aQM,aQL]at h;obtain ⟨⟨⟨⟨⟨a1,a2⟩,a3⟩,a4⟩,a5⟩,a6⟩:=h;obtain ⟨q,rfl⟩:∃q:Nat,i=(q:Int):=⟨i.toNat,by omega⟩;have a1':l.length=18:=by omega
 have a2':p.length<=8:=by omega
 have a6':(q:Int)<((2 ^ p.length:Nat):Int):=by omega
 refine⟨q,rfl,by omega,a1',a2',List.all_eq_true.1 a3,List.all_eq_true.1 a4,?_⟩;have a7:(q:Int)<2 ^ p.length:=by exact_mod_cast a6'
 rw[zV,a3,a4,decide_eq_true (⟨a1',a2'⟩:l.length=18/\p.length<=8),decide_eq_true (⟨by omega,a7⟩:0<=(q:Int)/\(q:Int)<2 ^ p.length),aQP];rfl
def evP(m:ByteArray)(l:List ByteArray)(k:Nat):List ByteArray:=(List.range k).map fun k=>vZ (l.getD k sNil) (15 - (BS m).getD k 0)
theorem aGA(m:ByteArray)(l:List ByteArray)(k:Nat):evP m l (k+1)=evP m l k++[vZ (l.getD k sNil) (15 - (BS m).getD k 0)]:=by rw[evP,List.range_succ,List.map_append];rfl
theorem aB7(m:ByteArray)(l:List ByteArray)(k:Nat):(evP m l k).length=k:=by simp[evP]
theorem T3(h:l.length=18):evP m l 18=xG m l:=by
 apply List.ext_getElem?;intro k;rw[xG,List.getElem?_zipWith,evP,aQY];by_cases hk:k<18
 ·have h1:l[k]?=some (l.getD k sNil):=by
   rw[List.getD_eq_getElem?_getD,aQJ (by omega)];rfl
  have h2:(BS m)[k]?=some ((BS m).getD k 0):=by
   rw[List.getD_eq_getElem?_getD,aQJ (by rw[DI];exact hk)];rfl
  rw[List.getElem?_range hk,h1,h2];rfl
 rw[List.getElem?_eq_none (by simp;omega),List.getElem?_eq_none (by omega)];rfl
theorem aJ2{a:Nat}(ha:a<4611686018427387904):bits .and .i64 (a:Int) 1=((a % 2:Nat):Int):=by have h:=(bits_nat .i64 62 (by decide) (fun n h0 h1=>jM (by omega) (by omega)) a 1 ha (by decide)).1;rw[Nat.and_one_is_mod]at h;exact h
def vfE:dG:=[(5,.ref 5 0 0 0),(9,.ref 9 0 0 0)]
def vfK(i:Int)(l p:List ByteArray)(m:ByteArray)(L:List ByteArray):aH:=[(905,⟨L.length,1,9,cD L⟩),(9,bx 1 22 [.osl 905 L.length 0 L.length]),(961,M7 m),(5,bx 3 25 [iv i,.pv (aZ l),.pv (aZ p)])]
theorem aHM(i:Int)(l p:List ByteArray)(m:ByteArray)(L:List ByteArray)(x:ByteArray):vfK i l p m (L++[x])=[(905,⟨L.length+1,1,9,cD (L++[x])⟩),(9,bx 1 22 [.osl 905 (L.length+1) 0 (L.length+1)]),(961,M7 m),(5,bx 3 25 [iv i,.pv (aZ l),.pv (aZ p)])]:=by simp[vfK]
theorem P1(key m:ByteArray)(i:Int)(l p:List ByteArray)(H:aH)(hm:m.size<1099511627776)(hi0 : -4611686018427387904<=i)(hi1:i<4611686018427387904)(hl:l.length<1099511627776)(hp:p.length<1099511627776)(hls:∀t∈l,t.size<1099511627776)(hps:∀t∈p,t.size<1099511627776):
  aI Tryz.prog 28 [sv key,sv m,.agg [iv i,.pv (aZ l),.pv (aZ p)]] H (fun r H'=>r=bv (zV key m i l p)/\H'=H):=by
 refine Pu ?_;have hml:(l.map encStr).length=l.length:=aQE _;have hmp:(p.map encStr).length=p.length:=aQE _;have hol:=fun H=>aJo l hl hls H;have hop:=fun H=>aJo p hp hps H;have hle8:decide (8<((p.map encStr).length:Int))=false->p.length<=8:=fun h=>by have:=aQB h;omega
 have hshl:p.length<=8->IntKind.i64.wrap (1*2 ^ (((p.map encStr).length:Int)).toNat)=((2 ^ p.length:Nat):Int):=fun h=>by rw[hmp];exact aH4 h
 refine Bd func28 rfl ntmps28<|Sr<|Dd (by exact cF (id:=5) rfl rfl rfl rfl rfl)<|Dd aM<|Zz<|Sr<|Dd (aT kV)<|Dd (bF aG)<|Dd (fM aD)<|Dd aM<|Zz<|Sr<|Dd aM<|Zz<|Sq<|Sq ?_;refine nY (t:=49) (n:=32) (X:=LD i l p) ?_ ?_
 ·cases hg22:(!decide (((l.map encStr).length:Int)=18):Bool)
  ·cases hg26:(decide (8<((p.map encStr).length:Int)):Bool)
   ·cases hg32:(l.any M2:Bool)
    ·cases hg38:(p.any M2:Bool)
     ·cases hg43:(decide (i<0):Bool)
      ·refine aO follows<|Cq (aT iA)<|Cq (bF aG)<|Cq (fM aD)<|Cq wM<|Cq aE<|Nf aE<|Nf iG<|Cq oU<|Cq aE<|Nf aE<|Nf (aT iA)<|Nf (bF aG)<|Nf (by exact cY rfl rfl rfl (dN.fn BU (hol _)))<|Cq oU<|Cq aE<|Nf aE<|Nf (aT kV)<|Nf (bF aG)<|Nf (by exact cY rfl rfl rfl (dN.fn BU (hop _)))<|Cq oU<|Cq aE<|Nf (aT lM)<|Nf (bF isAgg3)<|Nf cW<|Cq oU<|Cq aE<|Nf (aT lM)<|Nf (bF isAgg3)<|Nf aE<|Nf (by exact F1 rfl rfl rfl (by omega) (by have:=hle8 hg26;simp[IntKind.bits];omega) (hshl (hle8 hg26)))<|Nf D7<|Cq oU<|bM<|Kr ?_;exact⟨rfl,⟨_,rfl,by(rw[LD,hg22,hg26,hg32,hg38,hg43];rfl)⟩,rfl,rfl,rfl⟩
      refine aO follows<|Cq (aT iA)<|Cq (bF aG)<|Cq (fM aD)<|Cq wM<|Cq aE<|Nf aE<|Nf iG<|Cq oU<|Cq aE<|Nf aE<|Nf (aT iA)<|Nf (bF aG)<|Nf (by exact cY rfl rfl rfl (dN.fn BU (hol _)))<|Cq oU<|Cq aE<|Nf aE<|Nf (aT kV)<|Nf (bF aG)<|Nf (by exact cY rfl rfl rfl (dN.fn BU (hop _)))<|Cq oU<|Cq aE<|Nf (aT lM)<|Nf (bF isAgg3)<|Nf cW<|Cq oU<|Cq aE<|Of<|Of<|Of<|Of<|Of<|Cq yT<|bM<|Kr ?_;exact⟨rfl,⟨_,rfl,by(rw[LD,hg22,hg26,hg32,hg38,hg43];rfl)⟩,rfl,rfl,rfl⟩
     refine aO follows<|Cq (aT iA)<|Cq (bF aG)<|Cq (fM aD)<|Cq wM<|Cq aE<|Nf aE<|Nf iG<|Cq oU<|Cq aE<|Nf aE<|Nf (aT iA)<|Nf (bF aG)<|Nf (by exact cY rfl rfl rfl (dN.fn BU (hol _)))<|Cq oU<|Cq aE<|Nf aE<|Nf (aT kV)<|Nf (bF aG)<|Nf (by exact cY rfl rfl rfl (dN.fn BU (hop _)))<|Cq oU<|Cq aE<|Of<|Of<|Of<|Cq yT<|Cq aE<|Of<|Of<|Of<|Of<|Of<|Cq cH<|bM<|Kr ?_;exact⟨rfl,⟨_,rfl,by(rw[LD,hg22,hg26,hg32,hg38];rfl)⟩,rfl,rfl,rfl⟩
    refine aO follows<|Cq (aT iA)<|Cq (bF aG)<|Cq (fM aD)<|Cq wM<|Cq aE<|Nf aE<|Nf iG<|Cq oU<|Cq aE<|Nf aE<|Nf (aT iA)<|Nf (bF aG)<|Nf (by exact cY rfl rfl rfl (dN.fn BU (hol _)))<|Cq oU<|Cq aE<|Of<|Of<|Of<|Of<|Cq yT<|Cq aE<|Of<|Of<|Of<|Cq cH<|Cq aE<|Of<|Of<|Of<|Of<|Of<|Cq cH<|bM<|Kr ?_;exact⟨rfl,⟨_,rfl,by(rw[LD,hg22,hg26,hg32];rfl)⟩,rfl,rfl,rfl⟩
   refine aO follows<|Cq (aT iA)<|Cq (bF aG)<|Cq (fM aD)<|Cq wM<|Cq aE<|Nf aE<|Nf iG<|Cq oU<|Cq aE<|Of<|Of<|Of<|Of<|Cq yT<|Cq aE<|Of<|Of<|Of<|Of<|Cq cH<|Cq aE<|Of<|Of<|Of<|Cq cH<|Cq aE<|Of<|Of<|Of<|Of<|Of<|Cq cH<|bM<|Kr ?_;exact⟨rfl,⟨_,rfl,by(rw[LD,hg22,hg26];rfl)⟩,rfl,rfl,rfl⟩
  refine aO follows<|Cq (aT iA)<|Cq (bF aG)<|Cq (fM aD)<|Cq wM<|Cq aE<|Of<|Of<|Cq yT<|Cq aE<|Of<|Of<|Of<|Of<|Cq cH<|Cq aE<|Of<|Of<|Of<|Of<|Cq cH<|Cq aE<|Of<|Of<|Of<|Cq cH<|Cq aE<|Of<|Of<|Of<|Of<|Of<|Cq cH<|bM<|Kr ?_;exact⟨rfl,⟨_,rfl,by(rw[LD,hg22];rfl)⟩,rfl,rfl,rfl⟩
 refine Cn ?_ ?_<;>intro hc1
 ·have hb:=hc1;rw[aHN hb];exact Sr<|Dd aM<|Zz<|aB<|Rt<|Qq
 have hb:=hc1;obtain ⟨q,rfl,hq,h18,h8,hlj,hpj,hv⟩:=aKX (key:=key) (m:=m) hb;rw[hv];clear hv hb;have hp8:=pF h8;refine aC<|Sr<|Dd (by exact bU (id:=9) rfl aDk rfl rfl)<|Zz<|Sq<|Sr<|Dd aE<|Dd (by exact aA rfl rfl call92 rfl (RX m _ rfl))<|Zz<|aF ?_;refine gM.ent (E':=[(0,sv key),(5,.ref 5 0 0 0),(9,.ref 9 0 0 0),(51,.clo 139 [.ref 961 0 0 0])]) (H':=vfK q l p m []) ?_ ?_
 ·exact(cX.nz 905 1 9 rfl rfl ⟨⟨_,rfl,(by exact Nz.same (by(simp;done)))⟩,⟨_,rfl,(by exact Nz.same (by(simp;rfl)))⟩,⟨_,rfl,(by exact Nz.same (by(simp;rfl)))⟩,⟨_,rfl,(by exact Nz.same (by(simp;rfl)))⟩,trivial⟩ ⟨⟨_,rfl,rfl,rfl,rfl,(by exact .inr ⟨_,_,rfl,rfl,(by repeat(first|exact trivial|refine⟨(by exact Nz.own),?_⟩))⟩)⟩,⟨_,rfl,rfl,rfl,rfl,(by exact .inl ⟨rfl,(by exact yY _ _)⟩)⟩,⟨_,rfl,rfl,rfl,rfl,(by exact .inl ⟨rfl,(by(simp;done))⟩)⟩,trivial⟩ trivial)
 refine OB (id:=904) (p:=52) (p2:=53) vfE rfl call139 rfl rfl (by simp[vfE];exact⟨rfl,rfl⟩) ?_;intro x hx1 hx2 hx3 hx4 hx5 hx6;refine(RY m (.yld 904 0) (fun k=>(904,LR x vfE)::vfK q l p m (evP m l k)) hm (fun k=>rfl) ?_).mono ?_
 ·intro k hk;have hd:=T6 m _ (qH (d:=0) (by rw[DI];exact hk));have hfl:=aB7 m l k;have hnx:=aGA m l k;have hix:(l.map encStr)[k]?=some (encStr (l.getD k sNil)):=by
   rw[aQY,List.getD_eq_getElem?_getD,aQJ (by omega)];rfl
  have hsz:(l.getD k sNil).size<1099511627776:=hls _ (qH (by omega));obtain ⟨u,hu⟩:∃u,u=l.getD k sNil:=⟨_,rfl⟩;obtain ⟨d,hdd⟩:∃d,d=(BS m).getD k 0:=⟨_,rfl⟩;rw[<-hdd]at hd hnx |-;rw[<-hu]at hnx hix hsz;have hch:=fun H=>UB u (15 - d) H hsz (by omega);refine .inl ⟨904,0,rfl,?_⟩;refine aAb [(5,.ref 5 0 0 0),(9,.ref 9 0 0 0),(10,iv (k:Int)),(11,iv (d:Int))] (vfK q l p m (evP m l k)) hx1 hx2 hx3 hx4 hx5 hx6 rfl rfl rfl rfl rfl ?_ ?_
  ·refine Sr<|Dd aM<|Zz<|Rg<|Da ?_;exact(cX.wk (Ea<|Ea<|Eb<|Eb<|trivial) (Hc (lQ (by intro p hp;simp only[vfE,aQQ,aQU,or_false]at hp;rcases hp with rfl|rfl<;>(simp only[sJ];rfl)))<|Hc (cA _ _)<|Ha<|Hc (yY _ _)<|Hb<|trivial) ⟨rfl,rfl,rfl,rfl,rfl,trivial⟩)
  rw[hnx,aHM];refine aF<|aO follows<|Cr [9] (fun _ h=>lh aG h)<|Cr [5] (fun _ h=>fh iA h)<|Cr [5] (fun _ h=>lh aG h)<|Cr [] (fun _ _=>aE)<|Cr [] (fun H1 hH=>by exact bH rfl cC rfl rfl (by omega) (by exact aQP _) hix rfl)<|Cr [] (fun _ _=>(iN isAgg9 (hi:=hix)))<|Cr [] (fun _ _=>aE)<|Cr [] (fun H1 hH=>by exact dX rfl rfl rfl (show IntKind.i64.wrap (15 - (d:Int))=((15 - d:Nat):Int)by rw[jM (by omega) (by omega)];omega))<|Cr [] (fun H1 hH=>by exact aA rfl rfl aPm rfl (hch _))<|Cr [] (fun H1 hH=>by exact aQ [[.str (vZ u (15 - d))]] rfl cC rfl rfl rfl rfl rfl (by intro r hr;rw[aQH]at hr;subst hr;rfl))<|Cp [905] (fun H1 hH=>by exact cJ (ps:=[[.str (vZ u (15 - d))]]) rfl cC xI rfl ((hH _ rfl).trans rfl) rfl rfl rfl (eX _) rfl (by intro r hr;rw[aQH]at hr;subst hr;rfl) (m:=1) rfl (by omega) rfl (kK (evP m l k) (vZ u (15 - d)))) ?_;refine Cp [9] (fun H1 hH=>by exact cO rfl sizeOf22 rfl rfl rfl rfl ((hH _ rfl).trans rfl) rfl rfl rfl)<|bM<|Kr ?_;exact⟨[(905,⟨(evP m l k).length+1,1,9,cD (evP m l k++[vZ u (15 - d)])⟩),(9,bx 1 22 [.osl 905 ((evP m l k).length+1) 0 ((evP m l k).length+1)]),(961,M7 m),(5,bx 3 25 [iv (q:Int),.pv (aZ l),.pv (aZ p)])],(cX.wk trivial (Hc (lQ (by intro p hp;simp only[vfE,aQQ,aQU,or_false]at hp;rcases hp with rfl|rfl<;>(simp only[sJ];rfl)))<|Hc (cA _ _)<|Ha<|Hc (yY _ _)<|Hb<|trivial) ⟨rfl,rfl,rfl,rfl,rfl,trivial⟩),rfl,rfl⟩
 rintro r H' ⟨rfl,rfl⟩;refine⟨x,_,rfl,by rw[hx1];decide,rfl,fun z=>?_⟩;rw[hx2,T3 h18];have hen:∀t∈xG m l,t.size<=16:=fun t ht=>by
  rw[<-T3 h18]at ht;obtain ⟨k,hk,rfl⟩:=List.mem_map.1 ht;exact Nat.le_of_eq (X2 (sU (hlj _ (qH (by rw[h18];exact List.mem_range.1 hk)))) _)
 have hel:(xG m l).length=18:=by rw[<-T3 h18,aB7]
 have hof:∀H,aI Tryz.prog 94 [.pv (aZ (xG m l))] H (fun r H'=>r=sv (xX (xG m l))/\H'=H):=fun H=>WV (xG m l) H (by have h:=AW (b:=16) (by decide) _ hen;rw[hel]at h;omega);obtain ⟨S,hS⟩:∃S,S=xG m l:=⟨_,rfl⟩;rw[<-hS]at hof |-;have hal:(S.map encStr).length=S.length:=aQE _;refine gM.ent (cX.fzG (id:=905) (E':=[(0,sv key),(5,.ref 5 0 0 0),(9,.ref 9 0 0 0)]) (H':=[(9,bx 1 22 [.pv (aZ S)]),(5,bx 3 25 [iv (q:Int),.pv (aZ l),.pv (aZ p)])]) (S.map encStr) rfl (eM _) ?_ rfl ?_ ?_) ?_
 ·intro p hp;simp only[aQQ,aQU,or_false]at hp;rcases hp with rfl|rfl|rfl
  ·exact⟨_,rfl,.same (by simp)⟩
  ·exact⟨_,rfl,.same (by simp;rfl)⟩
  exact⟨_,rfl,.same (by simp;rfl)⟩
 ·refine⟨⟨_,rfl,rfl,rfl,rfl,oD rfl (dF (.osl ?_) oO)⟩,⟨_,rfl,rfl,rfl,rfl,gK (by simp)⟩,trivial⟩;rw[aQW,List.drop_zero,<-hal,List.take_length]
 ·exact trivial
 refine Sr<|Dd (bF aG)<|Dd (by exact aA rfl rfl UP rfl (hof _))<|Dd aM<|Zz<|Sq<|Sr<|Dd (aT kV)<|Dd (bF aG)<|Dd (fM aD)<|Dd aE<|Zz<|aF ?_;have ha0:(xX S).size=16:=gH _;obtain ⟨a0,hA0⟩:∃a0,a0=xX S:=⟨_,rfl⟩;rw[<-hA0]at ha0 |-;refine jK (fun(k:Nat) (a:ByteArray)=>([(0,sv key),(5,.ref 5 0 0 0),(12,sv a),(68,.pv (aZ p)),(69,iv ((p.map encStr).length:Int)),(70,iv (k:Int))],[(5,bx 3 25 [iv (q:Int),.pv (aZ l),.pv (aZ p)])])) (fun k a=>k<=p.length/\a.size=16/\zI a (p.drop k) (q / 2 ^ k)=zI a0 p q) (fun k a=>p.length - k) 0 a0 ⟨aQV _,ha0,by rw[List.drop_zero,Nat.pow_zero,Nat.div_one]⟩ ?_ ?_
 ·exact Wk
 rintro k a ⟨hk,ha,hf⟩;refine Sr<|Dd cW<|Zz<|Sq ?_;refine Cn ?_ ?_<;>intro hc2
 ·have hlt:k<p.length:=by have:=aQA hc2;omega
  have hix:(p.map encStr)[k]?=some (encStr (p.getD k sNil)):=by
   rw[aQY,List.getD_eq_getElem?_getD,aQJ hlt];rfl
  have hdr:p.drop k=p.getD k sNil::p.drop (k+1):=by
   rw[List.drop_eq_getElem_cons hlt,List.getD_eq_getElem?_getD,aQJ hlt];rfl
  have hosz:(p.getD k sNil).size=16:=sU (hpj _ (qH hlt));obtain ⟨o,ho⟩:∃o,o=p.getD k sNil:=⟨_,rfl⟩;rw[<-ho]at hix hdr hosz;have hqk:q / 2 ^ k<4611686018427387904:=Nat.lt_of_le_of_lt (Nat.div_le_self _ _) (by omega);have hnd:=fun H=>aBQ a o (decide (((q / 2 ^ k % 2:Nat):Int)=1)) H (by omega) (by omega);have hbk:(decide (((q / 2 ^ k % 2:Nat):Int)=1)=true)=(q / 2 ^ k % 2=1):=by
   rw[aQL];exact propext ⟨fun h=>by omega,fun h=>by omega⟩
  simp only[hbk]at hnd;obtain ⟨b,hb⟩:∃b,b=(if q / 2 ^ k % 2=1 then tN o a else tN a o):=⟨_,rfl⟩;have hbs:b.size=16:=by rw[hb];split<;>exact gH _
  have hf2:zI b (p.drop (k+1)) (q / 2 ^ (k+1))=zI a0 p q:=by
   rw[<-hf,hdr,zI,<-hb,Nat.pow_succ,Nat.div_div_eq_div_mul]
  rw[<-hb]at hnd;have hnd2:∀H,aI Tryz.prog 95 [sv a,sv o,bv (decide (((q / 2 ^ k % 2:Nat):Int)=1))] H (fun r H'=>r=sv b/\H'=H):=hnd;refine aC<|Sq<|aF<|Sr<|Dd aE<|Dd (by exact bH rfl cC rfl rfl (by omega) (by exact aQP _) hix rfl)<|Dd (iN isAgg9 (hi:=hix))<|Dd aM<|Dd aM<|Zz<|Rg<|Dd aE<|Dd aE<|Dd (aT lM)<|Dd (bF isAgg3)<|Dd aE<|Dd (by exact C6 rfl rfl rfl (by omega) (by simp[IntKind.bits];omega) (aCS q k (aQP _)))<|Dd (by exact mO rfl (by simp) rfl rfl (aJ2 hqk))<|Dd cN<|Dd (by exact aA rfl rfl call95 rfl (hnd2 _))<|Dd aM<|Zz<|Rg<|Dd (by exact cB rfl rfl rfl (show IntKind.i64.wrap ((k:Int)+1)=((k+1:Nat):Int)by rw[jM (by omega) (by omega)];omega))<|Dd aE<|Zz ?_;exact⟨k+1,b,⟨by omega,hbs,hf2⟩,by omega,Wk⟩
 have hge:k=p.length:=by have:=aQB hc2;omega
 subst hge;rw[List.drop_length,zI]at hf;rw[<-hf];exact aW<|Sr<|Dd aE<|Dd aE<|Dd AG<|Dd aM<|Zz<|aB<|Rt<|Qq
end Go.Proofs.YtmdicgjnmfolfaaGreatDoor
namespace Go.Abs
open Go.Proofs
section
section
variable{P:Program}{N:Nat}{o:Oper}{E:dG}{H:aH}{t t':TypeId}{x:Operand}
theorem MU(e:o.op=.binOp .neq t x (.const .nilIface) t')(d:P.underlying t=some (.interface (P.methodsAt t)))(f:aR E x=some (.pv H4)):cU P N o E H (.pv (.bool false)) H :=.of_run fun a w I ι _ b=>⟨.bool _,by
  have c:=(aJ b f).sat_inv;have g:a.eval (.const _)=.nilIface:=rfl;simp[execOp,e,c,g,eqGuard,Sem.run_bind,Sem.run_pure,Result.andThen_ok,run_neq_nil_nil _ _ d,Bool.or_true,if_true,Bool.not_true,Bool.false_eq_true,if_false],.pv (.bool _)⟩
theorem EM(e:o.op=.binOp .neq t x (.const .nilIface) t')(d:P.underlying t=some (.interface (P.methodsAt t)))(f:aR E x=some (.pv aDE)):cU P N o E H (.pv (.bool true)) H :=.of_run fun a w I ι _ b=>⟨.bool _,by
  obtain ⟨q,p,c⟩:=(aJ b f).sat_inv;have g:a.eval (.const _)=.nilIface:=rfl;simp only[execOp,e,c,g,eqGuard,Sem.run_bind,Sem.run_pure,Result.andThen_ok,run_neq_held_nil _ _ _ _ d];rfl,.pv (.bool _)⟩
end
end
section
section
variable{P:Program}{N:Nat}{o:Oper}{E:dG}{H:aH}{t t' it:TypeId}{x:Operand}
theorem VRel.ifc_inv{w}{I}{ι}{v}{p}(h:VRel w I ι H v (.pv (.ifc t p))):∃u,v=.iface t u/\PRep w I u p:=by
 cases h with
 |pv h=>cases h with
  |ifc _ u _ h=>simp_all
theorem VRel.ifa_inv{w}{I}{ι}{v}{ps}(h:VRel w I ι H v (.pv (.ifa t ps))):∃cs,v=.iface t (.agg cs)/\cs.size=ps.length/\∀(k:Nat) (c) (p),cs[k]?=some c->ps[k]?=some p->PRep w I c p:=by
 cases h with
 |pv h=>cases h with
  |ifa _ cs _ hl h=>grind
theorem fN{p}(b:o.op=.makeInterface t x)(e:P.concrete t=true)(c:aR E x=some (.pv p)):cU P N o E H (.pv (.ifc t p)) H :=.of_run fun a w I ι _ d=>⟨.iface t _,by simp[execOp,b,run_makeInterface _ _ _ e],.pv (.ifc _ _ _ (aJ d c).pv_inv)⟩
theorem F4{ps}(f:o.op=.makeInterface t x)(e:P.concrete t=true)(g:aR E x=some (.agg (ps.map .pv))):cU P N o E H (.pv (.ifa t ps)) H :=.of_run fun a w I ι _ i=>⟨.iface t (a.eval x),by simp[execOp,f,run_makeInterface _ _ _ e],by
  have h:=aJ i g;generalize a.eval x=c at h;cases h with
  | @agg vs _ hl h1 d =>
   refine .pv (.ifa _ _ _ (by simp_all) fun k c p b hp=>?_);exact(d k c (.pv p) b (by simp_all)).pv_inv⟩
theorem Y7{d}{u}(w)(hd:P.underlying t=some d)(hni:∀c,d≠.interface c):(Instr.typeAssert (.iface t' u) it t true).run P w=if t'=t then .ok (.tuple #[u,.bool true]) w else((do pure (.tuple #[<-zeroValue t,.bool false])):Sem _).run P w:=by
 unfold Instr.typeAssert;rw[Sem.run_bind,run_underlying hd]
 simp_all
theorem CU(h:P.concrete t=true):∃d,P.underlying t=some d/\∀a,d≠.interface a:=by
 unfold Program.concrete at h;cases hd:P.underlying t with
 |none=>simp_all
 |some d =>
  grind
theorem vC{p}(h:o.op=.typeAssert x it t true)(j:P.concrete t=true)(k:aR E x=some (.pv (.ifc t p))):cU P N o E H (.tup [.pv p,.pv (.bool true)]) H:=by
 obtain ⟨d,m,b⟩:=CU j;refine .of_run fun a w I ι _ l=>?_;obtain ⟨u,f,g⟩:=(aJ l k).ifc_inv;refine⟨.tuple #[u,.bool true],?_,?_⟩
 ·simp only[execOp,h,f];rw[Sem.run_bind,Y7 w m b,aQD rfl];rfl
 exact .tup rfl (fun i v a e c=>by
  match i with
  |0=>cases e;cases c;exact .pv g
  |1=>cases e;cases c;exact .pv (.bool _)
  |i+2=>simp at c)
theorem MT{ps:List PV}(B:o.op=.typeAssert x it t true)(z:P.concrete t=true)(y:aR E x=some (.pv (.ifa t ps))):cU P N o E H (.tup [.agg (ps.map .pv),.pv (.bool true)]) H:=by
 obtain ⟨d,s,j⟩:=CU z;refine .of_run fun a w I ι _ C=>?_;obtain ⟨u,r,hl,A⟩:=(aJ C y).ifa_inv;refine⟨.tuple #[.agg u,.bool true],?_,?_⟩
 ·simp only[execOp,B,r];rw[Sem.run_bind,Y7 w s j,aQD rfl];rfl
 have n:∀(k:Nat) (c:Value),u[k]?=some c->∃p,ps[k]?=some p/\PRep w I c p:=fun k c e=>by
  have f:k<ps.length:=by grind
  exact⟨ps[k],aQJ f,A k c _ e (aQJ f)⟩
 exact .tup rfl (fun i v a m h=>by
  match i with
  |0 =>
   cases m;cases h;refine .agg (by simp_all) (fun k c e=>?_) (fun k c b e q=>?_)
   ·obtain ⟨p,_,g⟩:=n k c e;exact g.oneCell
   obtain ⟨p,l,g⟩:=n k c e;rw[aQY,l]at q;cases q;exact .pv g
  |1=>cases m;cases h;exact .pv (.bool _)
  |i+2=>simp at h)
theorem aJg{cells}(l:o.op=.typeAssert x it t true)(h:P.concrete t=true)(j:eN P t cells)(b:t'≠t)
  (m:∀(a) (w) (I) (ι),jL w I ι H E a->∃u,a.eval x=.iface t' u):cU P N o E H (.tup [.any,.pv (.bool false)]) H:=by
 obtain ⟨d,p,e⟩:=CU h;obtain ⟨z,v0,f,_,_⟩:=j;refine .of_run fun a w I ι _ n=>?_;obtain ⟨u,k⟩:=m a w I _ n;refine⟨.tuple #[z,.bool false],?_,?_⟩
 ·simp only[execOp,l,k];rw[Sem.run_bind,Y7 w p e,aQC b,Sem.run_bind,f w];rfl
 exact .tup rfl (fun i v a g c=>by
  match i with
  |0=>cases c;exact .any _
  |1=>cases g;cases c;exact .pv (.bool _)
  |i+2=>simp at c)
theorem lH{cells}{p}(f:o.op=.typeAssert x it t true)(c:P.concrete t=true)(d:eN P t cells)(hne:Nat.beq t' t=false)(g:aR E x=some (.pv (.ifc t' p))):cU P N o E H (.tup [.any,.pv (.bool false)]) H :=aJg f c d (fun e=>by simp_all) (fun a w I ι b=>let ⟨u,e,_⟩:=(aJ b g).ifc_inv;⟨u,e⟩)
theorem AM{cells}{ps}(f:o.op=.typeAssert x it t true)(c:P.concrete t=true)(d:eN P t cells)(hne:Nat.beq t' t=false)(g:aR E x=some (.pv (.ifa t' ps))):cU P N o E H (.tup [.any,.pv (.bool false)]) H :=aJg f c d (fun e=>by simp_all) (fun a w I ι b=>let ⟨u,e,_⟩:=(aJ b g).ifa_inv;⟨_,e⟩)
end
end
section
section
variable{P:Program}{N:Nat}{o:Oper}{E:dG}{H:aH}{T T' t:TypeId}{x y:Operand}
theorem HM{e f:TypeId}{ty:TypeId}{a:Array Value}(w:World)(d:P.underlying T=some (.slice e))(c:P.underlying T'=some (.slice f)):(Builtin.append_ #[T,T'] ty a).run P w=(Builtin.append_ #[T,T] ty a).run P w:=by
 unfold Builtin.append_;cases h0:a[0]? with
 |none=>rfl
 | some s =>
  cases h1:a[1]? with
  |none=>rfl
  |some u =>
   cases s<;>simp[Sem.run_bind,run_underlying d,run_underlying c]
theorem HV{e d}{v}{H2}(g:o.op=.call {callee:=.builtin .append,args:=#[x,y],argTypes:=#[T,T']})(i:P.underlying T=some (.slice e))(c:P.underlying T'=some (.slice d))
  (h:cU P N {o with op:=.call {callee:=.builtin .append,args:=#[x,y],argTypes:=#[T,T]}} E H v H2):cU P N o E H v H2:=by
 intro a w I ι j m k l K Q f;have b:=h a w I _ j m k l K Q f;unfold Oper.wpW execOp at b |-;simp[g,resolve,invoke,builtin,Sem.run_bind,Sem.run_pure,Result.andThen_ok,List.map_toArray,List.map_cons,List.map_nil,HM w i c]at b |-;exact b
theorem aBx{e z}{id g n m k sz bytes:Nat}{ob}{ps}{rows'}(q:o.op=.call {callee:=.builtin .append,args:=#[x,y],argTypes:=#[T,T']})(i:P.underlying T'=some (.slice z))(hS:fC P T e sz)(d:EI P e sz bytes)
  (j:aR E x=some (.osl id g 0 n)) (u:H.get id=some ob) (w:ob.g=g) (c:ob.sz=sz) (f:ob.ty=e) (s:ob.rows.length=n)
  (l:aR E y=some (.pv (.sl ps))) (h:∀r∈ps,r.length=sz) (p:ps.length=m) (a:(n+m)*bytes<=140737488355328) (v:n+m=k) (b:ob.rows++ps.map (·.map AV.pv)=rows') :
  cU P N o E H (.osl id (g+1) 0 k) ((id,⟨g+1,sz,e,rows'⟩)::H) :=
 HV q hS.1 i (cJ rfl hS d j u w c f s l h p a v b)
end
end
end Go.Abs
namespace Go.Proofs.YtmdicgjnmfolfaaGreatDoor
open Go.Proofs.Tryz
open Go.Abs
variable{k:Nat}
inductive IV where
 |n (x:Int)
 |t (s:ByteArray)
 |b (x:Bool)
 |l (ts:List ByteArray)
 |z (i:Int) (a b:List ByteArray)
 |p (ps:List (Int×Int))
variable{l:List IV}{v:IV}
def fS(q:Int×Int):List PV:=[.int .i64 q.1,.int .i64 q.2]
def sN(l:List (Int×Int)):PV:=.sl (l.map fS)
def aOz:IV->PV
 |.n x=>.ifc 3 (.int .i64 x)
 |.t s=>.ifc 9 (.str s)
 |.b x=>.ifc 4 (.bool x)
 |.l ts=>.ifc 22 (aZ ts)
 |.z i a b=>.ifa 25 [.int .i64 i,aZ a,aZ b]
 |.p ps=>.ifc 26 (sN ps)
def xV(v:IV):List PV:=[aOz v]
def fI:IV->List ByteArray
 |.n x=>[aV x]
 |.t s=>[s]
 |.b x=>[aV (if x then 1 else 0)]
 |.l ts=>aV (ts.length:Int)::ts
 |.z i a b=>aV i::((aV (a.length:Int)::a)++(aV (b.length:Int)::b))
 |.p ps=>aV (ps.length:Int)::ps.flatMap fun q=>[aV q.1,aV q.2]
def gI:IV->Nat
 |.n _=>1
 |.t _=>1
 |.b _=>1
 |.l _=>2
 |.z _ _ _=>5
 |.p ps=>1+2*ps.length
def rkI:IV->Nat
 |.n _=>0
 |.t _=>0
 |.b _=>1
 |.l _=>1
 |.z _ _ _=>2
 |.p _=>1
def rV(x:Int):Prop := -9223372036854775808<=x/\x<=9223372036854775807
def okI:IV->Prop
 |.n x=>rV x
 |.t _=>True
 |.b _=>True
 |.l ts=>ts.length<1099511627776
 |.z i a b=>rV i/\a.length<1099511627776/\b.length<1099511627776
 |.p ps=>ps.length<1099511627776/\∀q∈ps,rV q.1/\rV q.2
def rN(l:List IV):List ByteArray:=l.flatMap fI
def gIs(l:List IV):Nat:=(l.map gI).sum
theorem aFy(h:l[k]?=some v):rN (l.take (k+1))=rN (l.take k)++fI v:=by rw[rN,List.take_add_one,h,List.flatMap_append];simp[rN]
theorem aFr(h:l[k]?=some v):gIs (l.take (k+1))=gIs (l.take k)+gI v:=by rw[gIs,List.take_add_one,h,List.map_append,List.sum_append];simp[gIs]
theorem aLd(l:List IV)(k:Nat):(rN (l.take k)).length<=(rN l).length:=by
 have h:rN l=rN (l.take k)++rN (l.drop k):=by rw[rN,rN,rN,<-List.flatMap_append,List.take_append_drop]
 rw[h,aQF];omega
def fH(g:Nat)(L:List ByteArray):aH:=[(971,⟨g,1,9,cD L⟩),(970,bx 1 72 [.osl 971 g 0 L.length])]
theorem aFz(g:Nat)(L:List ByteArray)(s:ByteArray):fH (g+1) (L++[s])=[(971,⟨g+1,1,9,cD (L++[s])⟩),(970,bx 1 72 [.osl 971 (g+1) 0 (L.length+1)])]:=by simp[fH]
theorem dR{P:Program}{t:TypeId}{d:TypeDesc}(h:P.underlying t=some d)(hd:(match d with|.interface _=>false|_=>true)=true):P.concrete t=true:=by unfold Program.concrete;rw[h];cases d<;>first|rfl|cases hd
theorem NY(l:List IV):∀r∈l.map xV,r.length=1:=fun r hr=>by
 obtain ⟨t,_,rfl⟩:=List.mem_map.1 hr;rfl
def aGu(r:Nat):Prop:=∀(l:List IV),(∀v∈l,rkI v<r/\okI v)->∀(g:Nat) (L:List ByteArray),l.length<1099511627776->L.length+(rN l).length<1099511627776 ->
 aI Tryz.prog 40 [.ref 970 0 0 0,.pv (.sl (l.map xV))] (fH g L) (fun r H'=>r=.tup []/\H'=fH (g+gIs l) (L++rN l))
def OR(ps:List (Int×Int)):List ByteArray:=ps.flatMap fun q=>[aV q.1,aV q.2]
theorem KT:∀ps:List (Int×Int),(OR ps).length=2*ps.length
 | []=>rfl
 |q::r=>by
  have ih:=KT r;rw[show OR (q::r)=aV q.1::aV q.2::OR r from rfl,aQG,aQG,aQG,ih];omega
theorem aEh{ps:List (Int×Int)}{j:Nat}{q:Int×Int}(h:ps[j]?=some q):OR (ps.take (j+1))=OR (ps.take j)++rN [.n q.1,.n q.2]:=by rw[OR,List.take_add_one,h,List.flatMap_append];rfl
theorem YB{args:List AV}{g g':Nat}{L L':List ByteArray}{H:aH}(h:aI Tryz.prog 40 args (fH g L) (fun r H'=>r=.tup []/\H'=fH g' L'))(hs:OS H (fH g L))(ha:∀a∈args,Clo (fH g L) a):
  aI Tryz.prog 40 args H (fun r H'=>r=.tup []/\H'=fH g' L'++H):=aI.frame h (OS.sub hs) (eI.ofL ⟨(by exact cA _ _),(by(simp;rfl)),trivial⟩) ha (fun id h=>.inl (aB1 h))
theorem fF(A ts:List ByteArray):cD A++(ts.map encStr).map (·.map AV.pv)=cD (A++ts):=by rw[<-eM,cD,cD,cD,List.map_append]
theorem aHX(ts:List ByteArray):∀r∈ts.map encStr,r.length=1:=fun r hr=>by
 obtain ⟨t,_,rfl⟩:=List.mem_map.1 hr;rfl
theorem aIx(g:Nat)(A B:List ByteArray):fH g (A++B)=[(971,⟨g,1,9,cD (A++B)⟩),(970,bx 1 72 [.osl 971 g 0 (A.length+B.length)])]:=by simp[fH]
theorem aGf(r:Nat)(ih:∀q,q<r->aGu q):aGu r:=by
 intro l hl g L hll hLl;have hml:(l.map xV).length=l.length:=aQE _;have one:∀(y:Int),rV y->1<r->∀(g':Nat) (L':List ByteArray),L'.length+1<1099511627776->aI Tryz.prog 40 [.ref 970 0 0 0,.pv (.sl [xV (.n y)])] (fH g' L') (fun r H'=>r=.tup []/\H'=fH (g'+1) (L'++[aV y])):=fun y hy h1 g' L' hs =>
  ih 1 h1 [.n y] (fun v hv=>by rw[aQH]at hv;subst hv;exact⟨by simp[rkI],hy⟩) g' L' (by simp) hs
 refine Bd func40 rfl ntmps40<|Sr<|Dd aE<|Dd (fM underlying133)<|Dd aE<|Zz<|aF ?_;refine bJ (σ:=Nat) (fun k=>([(0,.ref 970 0 0 0),(14,.pv (.sl (l.map xV))),(15,iv ((l.map xV).length:Int)),(16,iv (k:Int))],fH (g+gIs (l.take k)) (L++rN (l.take k)))) (fun k=>k<=l.length) (fun k=>l.length - k) 0 (aQV _) ?_ ?_
 ·simp only[rN,gIs,List.take_zero,List.flatMap_nil,List.map_nil,List.sum_nil,Nat.add_zero,List.append_nil];exact(cX.wk (Ea<|Eb<|Eb<|Eb<|trivial) (Hc (cA _ _)<|Ha<|trivial) ⟨rfl,rfl,trivial⟩)
 intro k hk;refine Sr<|Dd cW<|Zz<|Sq ?_;refine Cn ?_ ?_<;>intro hc1
 ·have hlt:k<l.length:=by have:=aQA hc1;omega
  obtain ⟨v,hv⟩:=aU hlt;obtain ⟨hrk,hok⟩:=hl v (aQO hv);have hi:=cI (f:=xV) hv;have hfn:=aFy hv;have hgn:=aFr hv;have hle:=aLd l (k+1);rw[hfn]at hle;obtain ⟨L1,hL1⟩:∃L1,L1=L++rN (l.take k):=⟨_,rfl⟩;obtain ⟨g1,hg1⟩:∃g1,g1=g+gIs (l.take k):=⟨_,rfl⟩;have hL2:L++rN (l.take (k+1))=L1++fI v:=by rw[hfn,hL1,List.append_assoc]
  have hg2:g+gIs (l.take (k+1))=g1+gI v:=by rw[hgn,hg1,Nat.add_assoc]
  have hsz:L1.length+(fI v).length<1099511627776:=by
   rw[aQF]at hle;rw[hL1,aQF];omega
  have hwk:IntKind.i64.wrap ((k:Int)+1)=((k+1:Nat):Int):=by rw[jM (by omega) (by omega)];omega
  rw[<-hL1,<-hg1];clear hfn hgn hle;cases v with
  |n x =>
   have hx:rV x:=hok;have hsz:L1.length+1<1099511627776:=hsz;refine aC<|Sq<|aF<|Sr<|Dd (by exact bH rfl wV rfl rfl (by omega) (by exact aQP _) hi rfl)<|Dd (iN sZ (hi:=hi))<|Dd aM<|Zz<|Sr<|Dd aE<|Zz<|aF<|Sr<|Dd (by exact vC rfl (dR underlying3 rfl) rfl)<|Dd fG<|Dd fG<|Zz ?_;refine Cn ?_ ?_<;>intro hc2
   ·refine Sr<|Dd aM<|Zz<|aO follows<|Cr [970] (fun _ _=>aE)<|Cr [970] (fun _ _=>aE)<|Cr [970] (fun H1 hH=>by exact fU rfl rfl ((hH _ rfl).trans rfl) rfl)<|Cr [970] (fun _ h=>lh DV h)<|Cr [] (fun _ _=>aE)<|Cr [] (fun H1 hH=>by exact aA rfl rfl pW rfl (uD x hx.1 hx.2 _))<|Cr [] (fun H1 hH=>by exact aQ [[.str (aV x)]] rfl Y1 rfl rfl rfl rfl rfl (by intro r hr;rw[aQH]at hr;subst hr;rfl))<|Cp [971] (fun H1 hH=>by exact cJ (ps:=[[.str (aV x)]]) rfl Y1 xI rfl ((hH _ rfl).trans rfl) rfl rfl rfl (eX _) rfl (by intro r hr;rw[aQH]at hr;subst hr;rfl) (m:=1) rfl (by omega) rfl (kK L1 (aV x)))<|Cr [970] (fun H1 hH=>by exact fU rfl rfl ((hH _ rfl).trans rfl) rfl)<|Cp [970] (fun H1 hH=>by exact cO rfl I7 rfl rfl rfl rfl ((hH _ rfl).trans rfl) rfl rfl rfl) ?_;refine bM<|Kr<|Rg<|Dd (by exact cB rfl rfl rfl hwk)<|Dd aE<|Zz ?_;refine⟨k+1,by omega,by omega,?_⟩;dsimp only;rw[hL2,hg2,show fI (.n x)=[aV x]from rfl,show gI (.n x)=1 from rfl,aFz];exact(cX.wk (Ea<|Eb<|Eb<|Eb<|trivial) (Hc (cA _ _)<|Ha<|trivial) ⟨rfl,rfl,trivial⟩)
   cases hc2
  |t s =>
   have hsz:L1.length+1<1099511627776:=hsz;refine aC<|Sq<|aF<|Sr<|Dd (by exact bH rfl wV rfl rfl (by omega) (by exact aQP _) hi rfl)<|Dd (iN sZ (hi:=hi))<|Dd aM<|Zz<|Sr<|Dd aE<|Zz<|aF<|Sr<|Dd (by exact lH rfl (dR underlying3 rfl) zo3 rfl rfl)<|Dd fG<|Dd fG<|Zz ?_;refine Cn ?_ ?_<;>intro hc3
   ·cases hc3
   refine Sr<|Dd (by exact vC rfl (dR underlying9 rfl) rfl)<|Dd fG<|Dd fG<|Zz ?_;refine Cn ?_ ?_<;>intro hc4
   ·refine Sr<|Dd aM<|Zz<|Rg<|Dd aE<|Dd aE<|Dd BR<|Dd (bF DV)<|Dd aE<|Dd (by exact aQ [[.str s]] rfl Y1 rfl rfl rfl rfl rfl (by intro r hr;rw[aQH]at hr;subst hr;rfl))<|Dd (by exact cJ (ps:=[[.str s]]) rfl Y1 xI rfl rfl rfl rfl rfl (eX _) rfl (by intro r hr;rw[aQH]at hr;subst hr;rfl) (m:=1) rfl (by omega) rfl (kK L1 s))<|Dd BR<|Uu (jN I7)<|Zz<|Rg<|Dd (by exact cB rfl rfl rfl hwk)<|Dd aE<|Zz ?_;refine⟨k+1,by omega,by omega,?_⟩;dsimp only;rw[hL2,hg2,show fI (.t s)=[s]from rfl,show gI (.t s)=1 from rfl,aFz];exact(cX.wk (Ea<|Eb<|Eb<|Eb<|trivial) (Hc (cA _ _)<|Ha<|trivial) ⟨rfl,rfl,trivial⟩)
   cases hc4
  |b x =>
   have h1r:1<r:=hrk;have hsz:L1.length+1<1099511627776:=hsz;refine aC<|Sq<|aF<|Sr<|Dd (by exact bH rfl wV rfl rfl (by omega) (by exact aQP _) hi rfl)<|Dd (iN sZ (hi:=hi))<|Dd aM<|Zz<|Sr<|Dd aE<|Zz<|aF<|Sr<|Dd (by exact lH rfl (dR underlying3 rfl) zo3 rfl rfl)<|Dd fG<|Dd fG<|Zz ?_;refine Cn ?_ ?_<;>intro hc5
   ·cases hc5
   refine Sr<|Dd (by exact lH rfl (dR underlying9 rfl) zo9 rfl rfl)<|Dd fG<|Dd fG<|Zz ?_;refine Cn ?_ ?_<;>intro hc6
   ·cases hc6
   refine Sr<|Dd (by exact vC rfl (dR eV rfl) rfl)<|Dd fG<|Dd fG<|Zz ?_;refine Cn ?_ ?_<;>intro hc7
   ·refine Sr<|Dd aM<|Zz<|Rg<|Dd aE<|Dd (by exact CA (id:=948) aGR rfl rfl)<|Uu (by exact JD (κ:=aGR) (.inr rfl) underlying134 eV rfl rfl rfl rfl rfl rfl rfl rfl)<|Dd aE<|Dd aE<|Dd (by exact MV (κ:=aGR) rfl underlying134 eV rfl rfl rfl rfl rfl uP (.inl rfl))<|Dd (by exact fN (p:=.int .i64 (if x then 1 else 0)) rfl (dR underlying3 rfl) (by cases x<;>rfl))<|Dd (by exact aQ [xV (.n (if x then 1 else 0))] rfl wV rfl rfl rfl rfl rfl (by intro r hr;rw[aQH]at hr;subst hr;rfl))<|Dd (by exact aA rfl rfl wJ rfl (YB (one (if x then 1 else 0) (by cases x<;>exact⟨by decide,by decide⟩) h1r g1 L1 hsz) ⟨rfl,rfl,trivial⟩ (by simp;rfl)))<|Zz<|Rg<|Dd (by exact cB rfl rfl rfl hwk)<|Dd aE<|Zz ?_;refine⟨k+1,by omega,by omega,?_⟩;dsimp only;rw[hL2,hg2,show fI (.b x)=[aV (if x then 1 else 0)]from rfl,show gI (.b x)=1 from rfl];exact(cX.wk (Ea<|Eb<|Eb<|Eb<|trivial) (Hc (cA _ _)<|Ha<|trivial) ⟨rfl,rfl,trivial⟩)
   cases hc7
  |l ts =>
   have h1r:1<r:=hrk;have hsz:L1.length+(ts.length+1)<1099511627776:=hsz;have hmt:(ts.map encStr).length=ts.length:=aQE _;obtain ⟨y,hy⟩:∃y,y=((ts.map encStr).length:Int):=⟨_,rfl⟩;have hyo:rV y:=⟨by omega,by omega⟩;have hfl:L1++fI (.l ts)=(L1++[aV y])++ts:=by rw[hy,hmt,List.append_assoc];rfl
   have hll1:(L1++[aV y]).length=L1.length+1:=by rw[aQF];rfl
   refine aC<|Sq<|aF<|Sr<|Dd (by exact bH rfl wV rfl rfl (by omega) (by exact aQP _) hi rfl)<|Dd (iN sZ (hi:=hi))<|Dd aM<|Zz<|Sr<|Dd aE<|Zz<|aF<|Sr<|Dd (by exact lH rfl (dR underlying3 rfl) zo3 rfl rfl)<|Dd fG<|Dd fG<|Zz ?_;refine Cn ?_ ?_<;>intro hc8
   ·cases hc8
   refine Sr<|Dd (by exact lH rfl (dR underlying9 rfl) zo9 rfl rfl)<|Dd fG<|Dd fG<|Zz ?_;refine Cn ?_ ?_<;>intro hc9
   ·cases hc9
   refine Sr<|Dd (by exact lH rfl (dR eV rfl) zo4 rfl rfl)<|Dd fG<|Dd fG<|Zz ?_;refine Cn ?_ ?_<;>intro hc10
   ·cases hc10
   refine Sr<|Dd (by exact vC rfl (dR aD rfl) rfl)<|Dd fG<|Dd fG<|Zz ?_;refine Cn ?_ ?_<;>intro hc11
   ·refine Sr<|Dd aM<|Zz<|Sr<|Dd aE<|Dd aE<|Dd (by exact cU.eqJ (mC rfl cC.1 rfl) (congrArg (fun n:Int=>AV.pv (.int .i64 n)) hy.symm))<|Dd (by exact fN (p:=.int .i64 y) rfl (dR underlying3 rfl) rfl)<|Dd (by exact aQ [xV (.n y)] rfl wV rfl rfl rfl rfl rfl (by intro r hr;rw[aQH]at hr;subst hr;rfl))<|Dd (by exact aA rfl rfl wJ rfl (YB (one y hyo h1r g1 L1 (by omega)) ⟨rfl,rfl,trivial⟩ (by simp;rfl)))<|Zz<|Rg<|Dd aE<|Dd aE<|Dd BR<|Dd (bF DV)<|Dd aE<|Dd (by exact aBx (ps:=ts.map encStr) rfl aD Y1 xI rfl rfl rfl rfl rfl (eX _) rfl (aHX ts) (m:=ts.length) hmt (by rw[hll1];omega) rfl (fF (L1++[aV y]) ts))<|Dd BR<|Uu (jN I7)<|Zz<|Rg<|Dd (by exact cB rfl rfl rfl hwk)<|Dd aE<|Zz ?_;refine⟨k+1,by omega,by omega,?_⟩;dsimp only;rw[hL2,hg2,hfl,show gI (.l ts)=2 from rfl,aIx (g1+2) (L1++[aV y]) ts];exact(cX.wk (Ea<|Eb<|Eb<|Eb<|trivial) (Hc (cA _ _)<|Ha<|trivial) ⟨rfl,rfl,trivial⟩)
   cases hc11
  | z i a b =>
   have h2r:2<r:=hrk;obtain ⟨hio,hao,hbo⟩:rV i/\a.length<1099511627776/\b.length<1099511627776:=hok;have e3:rN [.n i,.l a,.l b]=fI (.z i a b):=by simp[rN,fI]
   have h3:=ih 2 h2r [.n i,.l a,.l b] (by
    intro v hv;simp only[aQQ,aQU,or_false]at hv;rcases hv with rfl|rfl|rfl
    ·exact⟨by simp[rkI],hio⟩
    ·exact⟨by simp[rkI],hao⟩
    exact⟨by simp[rkI],hbo⟩) g1 L1 (by simp) (by rw[e3];exact hsz)
   rw[e3]at h3;refine aC<|Sq<|aF<|Sr<|Dd (by exact bH rfl wV rfl rfl (by omega) (by exact aQP _) hi rfl)<|Dd (iN sZ (hi:=hi))<|Dd aM<|Zz<|Sr<|Dd aE<|Zz<|aF<|Sr<|Dd (by exact AM rfl (dR underlying3 rfl) zo3 rfl rfl)<|Dd fG<|Dd fG<|Zz ?_;refine Cn ?_ ?_<;>intro hc12
   ·cases hc12
   refine Sr<|Dd (by exact AM rfl (dR underlying9 rfl) zo9 rfl rfl)<|Dd fG<|Dd fG<|Zz ?_;refine Cn ?_ ?_<;>intro hc13
   ·cases hc13
   refine Sr<|Dd (by exact AM rfl (dR eV rfl) zo4 rfl rfl)<|Dd fG<|Dd fG<|Zz ?_;refine Cn ?_ ?_<;>intro hc14
   ·cases hc14
   refine Sr<|Dd (by exact AM rfl (dR aD rfl) aMZ rfl rfl)<|Dd fG<|Dd fG<|Zz ?_;refine Cn ?_ ?_<;>intro hc15
   ·cases hc15
   refine Sr<|Dd (by exact MT (ps:=[.int .i64 i,aZ a,aZ b]) rfl (dR gY rfl) rfl)<|Dd fG<|Dd fG<|Zz ?_;refine Cn ?_ ?_<;>intro hc16
   ·refine Sr<|Dd (by exact bU (id:=10) rfl FG rfl rfl)<|Uu (jN sizeOf25)<|Zz<|Rg<|Dd aE<|Dd (aT lM)<|Dd (bF isAgg3)<|Dd (by exact fN (p:=.int .i64 i) rfl (dR underlying3 rfl) rfl)<|Dd (aT iA)<|Dd (bF aG)<|Dd (by exact fN (p:=aZ a) rfl (dR aD rfl) rfl)<|Dd (aT kV)<|Dd (bF aG)<|Dd (by exact fN (p:=aZ b) rfl (dR aD rfl) rfl)<|Dd (by exact aQ [xV (.n i),xV (.l a),xV (.l b)] rfl wV rfl rfl rfl rfl rfl (by intro r hr;simp only[aQQ,aQU,or_false]at hr;rcases hr with rfl|rfl|rfl<;>rfl))<|Dd (by exact aA rfl rfl wJ rfl (YB h3 ⟨rfl,rfl,trivial⟩ (by simp;rfl)))<|Zz<|Rg<|Dd (by exact cB rfl rfl rfl hwk)<|Dd aE<|Zz ?_;refine⟨k+1,by omega,by omega,?_⟩;dsimp only;rw[hL2,hg2];exact(cX.wk (Ea<|Eb<|Eb<|Eb<|trivial) (Hc (cA _ _)<|Ha<|trivial) ⟨rfl,rfl,trivial⟩)
   cases hc16
  | p ps =>
   have h1r:1<r:=hrk;obtain ⟨hpl,hpo⟩:ps.length<1099511627776/\∀q∈ps,rV q.1/\rV q.2:=hok;have hfp:∀j,OR (ps.take j)=(ps.take j).flatMap (fun q=>[aV q.1,aV q.2]):=fun _=>rfl;have hsz:L1.length+(1+2*ps.length)<1099511627776:=by
    have:(fI (.p ps)).length=1+2*ps.length:=by rw[show fI (.p ps)=aV (ps.length:Int)::OR ps from rfl,aQG,KT];omega
    omega
   have hmt:(ps.map fS).length=ps.length:=aQE _;obtain ⟨y,hy⟩:∃y,y=((ps.map fS).length:Int):=⟨_,rfl⟩;have hyo:rV y:=⟨by omega,by omega⟩;have hfl:L1++fI (.p ps)=(L1++[aV y])++OR ps:=by rw[hy,hmt,List.append_assoc];rfl
   refine aC<|Sq<|aF<|Sr<|Dd (by exact bH rfl wV rfl rfl (by omega) (by exact aQP _) hi rfl)<|Dd (iN sZ (hi:=hi))<|Dd aM<|Zz<|Sr<|Dd aE<|Zz<|aF<|Sr<|Dd (by exact lH rfl (dR underlying3 rfl) zo3 rfl rfl)<|Dd fG<|Dd fG<|Zz ?_;refine Cn ?_ ?_<;>intro hc17
   ·cases hc17
   refine Sr<|Dd (by exact lH rfl (dR underlying9 rfl) zo9 rfl rfl)<|Dd fG<|Dd fG<|Zz ?_;refine Cn ?_ ?_<;>intro hc18
   ·cases hc18
   refine Sr<|Dd (by exact lH rfl (dR eV rfl) zo4 rfl rfl)<|Dd fG<|Dd fG<|Zz ?_;refine Cn ?_ ?_<;>intro hc19
   ·cases hc19
   refine Sr<|Dd (by exact lH rfl (dR aD rfl) aMZ rfl rfl)<|Dd fG<|Dd fG<|Zz ?_;refine Cn ?_ ?_<;>intro hc20
   ·cases hc20
   refine Sr<|Dd (by exact lH rfl (dR gY rfl) FG rfl rfl)<|Dd fG<|Dd fG<|Zz ?_;refine Cn ?_ ?_<;>intro hc21
   ·cases hc21
   refine Sr<|Dd (by exact vC rfl (dR dM rfl) rfl)<|Dd fG<|Dd fG<|Zz ?_;refine Cn ?_ ?_<;>intro hc22
   ·refine Sr<|Dd aM<|Zz<|Sr<|Dd aE<|Dd aE<|Dd (by exact cU.eqJ (mC rfl MC.1 rfl) (congrArg (fun n:Int=>AV.pv (.int .i64 n)) hy.symm))<|Dd (by exact fN (p:=.int .i64 y) rfl (dR underlying3 rfl) rfl)<|Dd (by exact aQ [xV (.n y)] rfl wV rfl rfl rfl rfl rfl (by intro r hr;rw[aQH]at hr;subst hr;rfl))<|Dd (by exact aA rfl rfl wJ rfl (YB (one y hyo h1r g1 L1 (by omega)) ⟨rfl,rfl,trivial⟩ (by simp;rfl)))<|Zz<|Sr<|Dd aE<|Dd (fM dM)<|Dd aE<|Zz<|aF ?_;refine bJ (σ:=Nat) (fun j=>([(0,.ref 970 0 0 0),(14,.pv (.sl (l.map xV))),(15,iv ((l.map xV).length:Int)),(16,iv (k:Int)),(95,.pv (sN ps)),(96,iv ((ps.map fS).length:Int)),(97,iv (j:Int))],fH (g1+1+2*j) ((L1++[aV y])++OR (ps.take j)))) (fun j=>j<=ps.length) (fun j=>ps.length - j) 0 (aQV _) ?_ ?_
    ·rw[show OR (ps.take 0)=[]from rfl,List.append_nil];exact(cX.wk (Ea<|Eb<|Eb<|Eb<|Eb<|Eb<|Eb<|trivial) (Hc (cA _ _)<|Ha<|trivial) ⟨rfl,rfl,trivial⟩)
    intro j hj;refine Sr<|Dd cW<|Zz<|Sq ?_;refine Cn ?_ ?_<;>intro hc23
    ·have hjl:j<ps.length:=by have:=aQA hc23;omega
     obtain ⟨q,hq⟩:=aU hjl;have hqi:=cI (f:=fS) hq;obtain ⟨hq1,hq2⟩:=hpo q (aQO hq);have hnx:=aEh hq;have hln:(L1++[aV y]++OR (ps.take j)).length=L1.length+1+2*j:=by rw[aQF,aQF,KT,aQS];simp;omega
     have h2:=ih 1 h1r [.n q.1,.n q.2] (by
      intro v hv;simp only[aQQ,aQU,or_false]at hv;rcases hv with rfl|rfl
      ·exact⟨by simp[rkI],hq1⟩
      exact⟨by simp[rkI],hq2⟩) (g1+1+2*j) (L1++[aV y]++OR (ps.take j)) (by simp) (by rw[hln];show L1.length+1+2*j+2<_;omega)
     refine aC<|Sq<|aF<|Sr<|Dd (by exact bH rfl MC rfl rfl (by omega) (by exact aQP _) hqi rfl)<|Dd (by exact dP rfl dS sizeOf68 rfl hqi (by simp only[Zl,encStr];rfl) rfl)<|Dd (by exact bU (id:=13) rfl aMV rfl rfl)<|Uu (jN sizeOf68)<|Zz<|Rg<|Dd aE<|Dd (aT pR)<|Dd (bF isAgg3)<|Dd (by exact fN (p:=.int .i64 q.1) rfl (dR underlying3 rfl) rfl)<|Dd (aT pQ)<|Dd (bF isAgg3)<|Dd (by exact fN (p:=.int .i64 q.2) rfl (dR underlying3 rfl) rfl)<|Dd (by exact aQ [xV (.n q.1),xV (.n q.2)] rfl wV rfl rfl rfl rfl rfl (by intro r hr;simp only[aQQ,aQU,or_false]at hr;rcases hr with rfl|rfl<;>rfl))<|Dd (by exact aA rfl rfl wJ rfl (YB h2 ⟨rfl,rfl,trivial⟩ (by simp;rfl)))<|Zz<|Rg<|Dd (by exact cB rfl rfl rfl (show IntKind.i64.wrap ((j:Int)+1)=((j+1:Nat):Int)by rw[jM (by omega) (by omega)];omega)) ?_;refine Dd aE<|Zz ?_;refine⟨j+1,by omega,by omega,?_⟩;dsimp only;rw[hnx,<-List.append_assoc,show g1+1+2*(j+1)=g1+1+2*j+gIs [.n q.1,.n q.2]from rfl];exact(cX.wk (Ea<|Eb<|Eb<|Eb<|Eb<|Eb<|Eb<|trivial) (Hc (cA _ _)<|Ha<|trivial) ⟨rfl,rfl,trivial⟩)
    have hjg:j=ps.length:=by have:=aQB hc23;omega
    subst hjg;rw[List.take_length];refine aW<|Rg<|Dd (by exact cB rfl rfl rfl hwk)<|Dd aE<|Zz ?_;refine⟨k+1,by omega,by omega,?_⟩;dsimp only;rw[hL2,hg2,hfl,show g1+gI (.p ps)=g1+1+2*ps.length from(Nat.add_assoc _ _ _).symm];exact(cX.wk (Ea<|Eb<|Eb<|Eb<|trivial) (Hc (cA _ _)<|Ha<|trivial) ⟨rfl,rfl,trivial⟩)
   cases hc22
 have hge:k=l.length:=by have:=aQB hc1;omega
 subst hge;rw[List.take_length];refine aW ?_;exact sY (.inl rfl) rfl Fin.refl ⟨rfl,rfl⟩
theorem aMB(r:Nat):aGu r:=Nat.strongRecOn r (fun r ih=>aGf r ih)
theorem aMq(v:IV):rkI v<3:=by cases v<;>simp[rkI]
theorem aA5(l:List IV)(hl:∀v∈l,okI v)(g:Nat)(L:List ByteArray)(hll:l.length<1099511627776)(hs:L.length+(rN l).length<1099511627776):
  aI Tryz.prog 40 [.ref 970 0 0 0,.pv (.sl (l.map xV))] (fH g L) (fun r H'=>r=.tup []/\H'=fH (g+gIs l) (L++rN l)) :=
 aMB 3 l (fun v hv=>⟨aMq v,hl v hv⟩) g L hll hs
structure GSeal where
 idx:Int
 sig:List ByteArray
 path:List ByteArray
 deriving DecidableEq
structure GPriv where
 name:ByteArray
 reason:ByteArray
 sources:List ByteArray
 trace:List (Int×Int)
 sl:GSeal
 deriving DecidableEq
structure GRec where
 kind:Int
 author:Int
 number:Int
 clock:Int
 branch:ByteArray
 parents:List ByteArray
 edits:List GEdit
 target:ByteArray
 yes:Bool
 order:Int
 from':ByteArray
 sl:GSeal
 priv:GPriv
def fZ(s:GSeal):List PV:=[.int .i64 s.idx,aZ s.sig,aZ s.path]
def iP(p:GPriv):List PV:=[.str p.name,.str p.reason,aZ p.sources,sN p.trace,.int .i64 p.sl.idx,aZ p.sl.sig,aZ p.sl.path]
def bS(r:GRec):List PV:=[.int .i64 r.kind,.int .i64 r.author,.int .i64 r.number,.int .i64 r.clock,.str r.branch,aZ r.parents,iO r.edits,.str r.target,.bool r.yes,.int .i64 r.order,.str r.from',.int .i64 r.sl.idx,aZ r.sl.sig,aZ r.sl.path,.str r.priv.name,.str r.priv.reason,aZ r.priv.sources,sN r.priv.trace,.int .i64 r.priv.sl.idx,aZ r.priv.sl.sig,aZ r.priv.sl.path]
def J2(l:List ByteArray):Prop:=l.length<1099511627776/\∀t∈l,t.size<1099511627776
def pO(s:GSeal):Prop:=rV s.idx/\J2 s.sig/\J2 s.path
def MZ(p:GPriv):Prop:=p.name.size<1099511627776/\p.reason.size<1099511627776/\J2 p.sources/\p.trace.length<1099511627776/\pO p.sl
def aKl(q:ByteArray->Bool)(l:List ByteArray)(k:Nat):Bool:=match l[k]? with|some s=>q s|none=>false
theorem aHy(q:ByteArray->Bool)(l:List ByteArray):(List.range l.length).any (aKl q l)=l.any q:=SB l q
theorem N4(f:FuncId)(l:List ByteArray)(q:ByteArray->Bool)(hl:l.length<1099511627776)(hf:∀s∈l,dN Tryz.prog (.pv (.fn f)) [sv s] [] (fun r H'=>r=bv (q s)/\H'=[]))(H:aH):
  aI Tryz.prog 62 [.pv (aZ l),.pv (.fn f)] H (fun r H'=>r=bv (l.any q)/\H'=H):=by
 refine Pu ?_;have hc:=sI (.pv (.fn f)) l (aKl q l) (fun _=>[]) (by omega) (fun k s hk=>by
  rw[aKl,hk];exact hf s (aQO hk))
 rw[aHy]at hc;exact hc
theorem aLg(t:ByteArray)(ht:t.size<1099511627776)(H:aH):aI Tryz.prog 124 [sv t] H (fun r H'=>r=bv (M2 t)/\H'=H):=by refine Pu ?_;exact Bd func124 rfl ntmps124<|Sr<|Dd aM<|Zz<|Sr<|Dd aE<|Dd (by exact aA rfl rfl aPo rfl (aFe t ht _))<|Dd iS<|Dd aM<|Zz<|aB<|Rt<|Qq
theorem IQ(l:List ByteArray)(hl:J2 l)(H:aH):aI Tryz.prog 71 [.pv (aZ l)] H (fun r H'=>r=bv (l.all isJ)/\H'=H):=by refine Pu ?_;have hc:=N4 124 l M2 hl.1 (fun s hs=>dN.fn call124 (aLg s (hl.2 s hs) [])) [];rw[GX]at hc;refine Bd func71 rfl ntmps71<|Sr<|Dd aM<|Zz<|Sr<|Dd aE<|Dd (by exact aA rfl rfl US rfl (hc))<|Dd iS<|Dd aM<|Zz<|aB<|Rt ?_;exact⟨by rw[Bool.not_not],rfl⟩
def pX(s:GSeal):Bool:=decide (s.idx=0)&&decide (((s.sig.map encStr).length:Int)+((s.path.map encStr).length:Int)=0)
theorem aDn(s:GSeal)(hs:pO s)(H:aH):aI Tryz.prog 81 [av (fZ s)] H (fun r H'=>r=bv (pX s)/\H'=H):=by
 refine Pu ?_;have h1:(s.sig.map encStr).length<1099511627776:=by rw[aQE];exact hs.2.1.1
 have h2:(s.path.map encStr).length<1099511627776:=by rw[aQE];exact hs.2.2.1
 refine Bd func81 rfl ntmps81<|Sr<|Dd (by exact cF (id:=1) rfl rfl rfl rfl rfl)<|Dd aM<|Zz<|Sq ?_;refine aY (t:=2) (n:=15) (X:=pX s) ?_ ?_
 ·all_goals refine Dd (aT lM) ?_
  all_goals refine Dd (bF isAgg3)<|Dd cN<|Dm ?_
  all_goals refine Sp 6 (fun h6=>?_) fun h6=>?_
  all_goals try contradiction
  all_goals first|refine Fo<|Fo<|Fo<|Fo<|Fo<|Fo<|Fo<|Fo ?_|refine On (aT iA)<|On (bF aG)<|On (fM aD)<|On (aT kV)<|On (bF aG)<|On (fM aD)<|On (by exact cB rfl rfl rfl (jM (by omega) (by omega)))<|On cN ?_
  all_goals refine Dd cH<|Da ?_
  all_goals(exact⟨⟨_,rfl,by(rw[pX,h6];rfl)⟩,rfl,rfl,rfl⟩)
 exact aB<|Rt<|Qq
def gV(s:GSeal):Bool:=pX s||(((((decide (0<=s.idx)&&decide (s.idx<256))&&decide (((s.sig.map encStr).length:Int)=18))&&decide (((s.path.map encStr).length:Int)<=8))&&s.sig.all isJ)&&s.path.all isJ)
theorem XF(s:GSeal)(hs:pO s)(H:aH):aI Tryz.prog 66 [av (fZ s)] H (fun r H'=>r=bv (gV s)/\H'=H):=by
 refine Pu ?_;have hz:=fun H=>aDn s hs H;have hd1:=fun H=>IQ s.sig hs.2.1 H;have hd2:=fun H=>IQ s.path hs.2.2 H;obtain ⟨zz,hzz⟩:∃zz,zz=pX s:=⟨_,rfl⟩;rw[<-hzz]at hz;refine Bd func66 rfl ntmps66<|Sr<|Dd (by exact cF (id:=1) rfl rfl rfl rfl rfl)<|Dd aM<|Zz<|Sq ?_;refine aY (t:=2) (n:=41) (X:=gV s) ?_ ?_
 ·all_goals refine Dd (by exact aN rfl dD sizeOf25 rfl rfl rfl rfl (by simp only[Zl,encStr];rfl) rfl) ?_
  all_goals refine Dd (by exact aA rfl rfl call81 rfl (hz _))<|Dm ?_
  all_goals refine Sp 5 (fun h5=>?_) fun h5=>?_
  all_goals try contradiction
  all_goals first|refine Fo<|Fo<|Fo<|Fo ?_|refine On (aT lM)<|On (bF isAgg3)<|On D7<|On aE ?_
  all_goals(first|refine Sp 9 (fun h9=>?_) fun h9=>?_|refine jW (t:=9) rfl ?_)
  all_goals try contradiction
  all_goals first|refine Fo ?_|refine Fu ?_|refine On (aT lM) ?_
  all_goals first|refine Fo ?_|refine Fu ?_|refine On (bF isAgg3) ?_
  all_goals first|refine Fo ?_|refine Fu ?_|refine On cW ?_
  all_goals first|refine Fo<|Fo ?_|refine On cH<|On aE ?_
  all_goals(first|refine Sp 14 (fun h14=>?_) fun h14=>?_|refine jW (t:=14) rfl ?_)
  all_goals try contradiction
  all_goals first|refine Fo ?_|refine Fu ?_|refine On (aT iA) ?_
  all_goals first|refine Fo ?_|refine Fu ?_|refine On (bF aG) ?_
  all_goals first|refine Fo ?_|refine Fu ?_|refine On (fM aD) ?_
  all_goals first|refine Fo ?_|refine Fu ?_|refine On cN ?_
  all_goals first|refine Fo<|Fo ?_|refine On cH<|On aE ?_
  all_goals(first|refine Sp 20 (fun h20=>?_) fun h20=>?_|refine jW (t:=20) rfl ?_)
  all_goals try contradiction
  all_goals first|refine Fo ?_|refine Fu ?_|refine On (aT kV) ?_
  all_goals first|refine Fo ?_|refine Fu ?_|refine On (bF aG) ?_
  all_goals first|refine Fo ?_|refine Fu ?_|refine On (fM aD) ?_
  all_goals first|refine Fo ?_|refine Fu ?_|refine On G9 ?_
  all_goals first|refine Fo<|Fo ?_|refine On cH<|On aE ?_
  all_goals(first|refine Sp 26 (fun h26=>?_) fun h26=>?_|refine jW (t:=26) rfl ?_)
  all_goals try contradiction
  all_goals first|refine Fo ?_|refine Fu ?_|refine On (aT iA) ?_
  all_goals first|refine Fo ?_|refine Fu ?_|refine On (bF aG) ?_
  all_goals first|refine Fo ?_|refine Fu ?_|refine On (by exact aA rfl rfl aHE rfl (hd1 _)) ?_
  all_goals first|refine Fo<|Fo ?_|refine On cH<|On aE ?_
  all_goals(first|refine Sp 31 (fun h31=>?_) fun h31=>?_|refine jW (t:=31) rfl ?_)
  all_goals try contradiction
  all_goals first|refine Fo ?_|refine Fu ?_|refine On (aT kV) ?_
  all_goals first|refine Fo ?_|refine Fu ?_|refine On (bF aG) ?_
  all_goals first|refine Fo ?_|refine Fu ?_|refine On (by exact aA rfl rfl aHE rfl (hd2 _)) ?_
  all_goals first|refine Fo ?_|refine On cH ?_
  all_goals refine Dd cH<|Da ?_
  all_goals(exact⟨⟨_,rfl,by first|(rw[gV,<-hzz,h5];rfl)|(rw[gV,<-hzz,h5,h9];rfl)|(rw[gV,<-hzz,h5,h9,h14];rfl)|(rw[gV,<-hzz,h5,h9,h14,h20];rfl)|(rw[gV,<-hzz,h5,h9,h14,h20,h26];rfl)|(rw[gV,<-hzz,h5,h9,h14,h20,h26,h31];rfl)⟩,rfl,rfl,rfl⟩)
 exact aB<|Rt<|Qq
def fA(p:GPriv):Bool:=decide (p.name++p.reason=sNil)&&decide (((p.sources.map encStr).length:Int)+((p.trace.map fS).length:Int)=0)
theorem aB9(p:GPriv)(hp:MZ p)(H:aH):aI Tryz.prog 80 [av (iP p)] H (fun r H'=>r=bv (fA p)/\H'=H):=by
 refine Pu ?_;obtain ⟨a1,a2,a3,a4,a5⟩:=hp;have h1:(p.sources.map encStr).length<1099511627776:=by rw[aQE];exact a3.1
 have h2:(p.trace.map fS).length<1099511627776:=by rw[aQE];exact a4
 have h3:(p.name++p.reason).size=p.name.size+p.reason.size:=ByteArray.size_append;refine Bd func80 rfl ntmps80<|Sr<|Dd (by exact cF (id:=1) rfl rfl rfl rfl rfl)<|Dd aM<|Zz<|Sq ?_;refine aY (t:=2) (n:=18) (X:=fA p) ?_ ?_
 ·all_goals refine Dd (aT xT) ?_
  all_goals refine Dd (bF isAgg9)<|Dd (aT xS)<|Dd (bF isAgg9)<|Dd (by exact cK rfl rfl rfl (by omega) rfl)<|Dd AG<|Dm ?_
  all_goals refine Sp 9 (fun h9=>?_) fun h9=>?_
  all_goals try contradiction
  all_goals first|refine Fo<|Fo<|Fo<|Fo<|Fo<|Fo<|Fo<|Fo ?_|refine On (aT rB)<|On (bF aG)<|On (fM aD)<|On (aT mF)<|On (bF eW)<|On (fM dM)<|On (by exact cB rfl rfl rfl (jM (by omega) (by omega)))<|On cN ?_
  all_goals refine Dd cH<|Da ?_
  all_goals(exact⟨⟨_,rfl,by(rw[fA,h9];rfl)⟩,rfl,rfl,rfl⟩)
 exact aB<|Rt<|Qq
theorem LA(n a b:Int)(H:aH):aI Tryz.prog 60 [iv n,iv a,iv b] H (fun r H'=>r=bv (decide (a<=n)&&decide (n<=b))/\H'=H):=by
 refine Pu ?_;refine Bd func60 rfl ntmps60<|Sr<|Dd aM<|Zz<|Sq ?_;refine aY (t:=6) (n:=10) (X:=decide (a<=n)&&decide (n<=b)) ?_ ?_
 ·all_goals refine Dd aE ?_
  all_goals refine Dd aE<|Dd D7<|Dm ?_
  all_goals refine Sp 10 (fun h10=>?_) fun h10=>?_
  all_goals try contradiction
  all_goals first|refine Fo<|Fo<|Fo ?_|refine On aE<|On aE<|On G9 ?_
  all_goals refine Dd cH<|Da ?_
  all_goals(exact⟨⟨_,rfl,by(rw[h10];rfl)⟩,rfl,rfl,rfl⟩)
 exact aB<|Rt<|Qq
def CF(s:ByteArray):Bool:=decide (200<(s.size:Int))
theorem aLV(s:ByteArray)(H:aH):aI Tryz.prog 63 [sv s] H (fun r H'=>r=bv (CF s)/\H'=H):=by refine Pu ?_;exact Bd func63 rfl ntmps63<|Sr<|Dd aM<|Zz<|Sr<|Dd aE<|Dd (kG underlying9)<|Dd iG<|Dd aM<|Zz<|aB<|Rt<|Qq
theorem aAv(l:List ByteArray)(hl:l.length<1099511627776)(H:aH):aI Tryz.prog 61 [.pv (aZ l)] H (fun r H'=>r=bv (!l.any CF)/\H'=H):=by refine Pu ?_;have hc:=N4 63 l CF hl (fun s hs=>dN.fn call63 (aLV s [])) [];exact Bd func61 rfl ntmps61<|Sr<|Dd aM<|Zz<|Sr<|Dd aE<|Dd (by exact aA rfl rfl US rfl (hc))<|Dd iS<|Dd aM<|Zz<|aB<|Rt<|Qq
end Go.Proofs.YtmdicgjnmfolfaaGreatDoor
namespace Go.Abs
section
section
variable{P:Program}{N:Nat}{o:Oper}{E:dG}{H:aH}{S T t:TypeId}{x:Operand}{id g n m:Nat}{ob:Ob}
theorem EN(y:o.op=.convert S T x)(hS:P.underlying S=some .unsafePointer)(v:P.underlying T=some (.pointer t))(hi:(P.info? t).map (·.size)=some (n+1))(q:P.cellsOf ob.ty=m+1)(k:aR E x=some (.ref id g 0 0))(s:H.get id=some ob)(i:ob.g=g)(e:ob.rows≠[])(f:ob.sz=m+1)(hl:∀c,liesAt P P.depth ob.ty (c+1) 0 t 1=true):cU P N o E H (.ref id g 0 0) H :=.of_run fun a w I ι l z=>by
  have h:=aJ z k;obtain ⟨b,d,r,p,e3,e4⟩:=HN l h s i e;obtain ⟨j,u,h2⟩:=zE hi;refine⟨_,?_,h⟩;simp only[execOp,y,r];have hq:d*ob.sz / P.cellsOf ob.ty=(d - 1)+1:=by rw[q,f,Nat.mul_div_cancel _ (by omega)];omega
  rw[Sem.run_bind,Lib.run_from_unsafe w _ hS v u p (by grind)];rfl
end
end
end Go.Abs
namespace Go.Proofs.YtmdicgjnmfolfaaGreatDoor
open Go.Proofs.Tryz
open Go.Abs
variable{g n g':Nat}{u u':Bool}{l l':List UInt8}{K:aH}
theorem aN6(c:Nat):liesAt Tryz.prog Tryz.prog.depth 245 (c+1) 0 137 1=true:=by kernel_rfl
def E4(buf:AV)(u:Bool):Ob:=⟨0,2,245,[[X6 u,buf]]⟩
def oQ(g:Nat)(l:List UInt8)(u:Bool):aH:=[(2001,E4 (.osl 2002 g 0 l.length) u),(2002,⟨g,1,5,eR l⟩)]
theorem N9{H:aH}(h1:(H.get 2001).isSome=true)(h2:(H.get 2002).isSome=true):∀r∈(E4 (.osl 2002 g 0 n) u).rows,∀a∈r,Clo H a:=by
 intro r hr a ha;simp only[E4,aQH]at hr;subst hr;simp only[aQQ,aQU,or_false]at ha;rcases ha with rfl|rfl
 ·cases u<;>simp[X6,h1]
 simp[h2]
theorem GT(buf:AV)(u:Bool)(K:aH):aI Tryz.prog 147 [.ref 2001 0 0 0] ((2001,E4 buf u)::K) (fun r H'=>r=.tup []/\H'=(2001,E4 buf true)::K):=by
 cases u with
 |false =>
  refine Bd aD7 rfl YI<|Sr<|Dd aE<|Dd BR<|Dd (aT xF)<|Dd (bF BO)<|Dd (by exact JL rfl gJ rfl rfl)<|Zz ?_;refine Cn ?_ ?_<;>intro hc1
  ·refine Rg<|Dd aE<|Dd aE<|Dd (by exact D2 (n:=1) rfl gJ E8 (by kernel_rfl) rfl rfl rfl (by simp[E4]))<|Dd (by exact KV rfl rfl func182 rfl rfl rfl rfl rfl (XG (.ref 2001 0 0 0)))<|Dd (by exact EN (n:=1) (m:=1) rfl E8 gJ (by kernel_rfl) (by kernel_rfl) rfl rfl rfl (by simp[E4]) rfl aN6)<|Dd BR<|Dd (aT xF)<|Uu (by exact bG rfl aMC rfl rfl rfl rfl rfl rfl (aQR rfl) rfl rfl)<|Zz ?_;exact sY (.inl rfl) rfl (Fin.get' (H':=(2001,E4 buf true)::K) (fun j=>xE 2001 (E4 buf true) (E4 buf false) K j)) ⟨rfl,rfl⟩
  cases hc1
 |true =>
  refine Bd aD7 rfl YI<|Sr<|Dd aE<|Dd BR<|Dd (aT xF)<|Dd (bF BO)<|Dd (by exact JK rfl gJ rfl rfl rfl rfl)<|Zz ?_;refine Cn ?_ ?_<;>intro hc1
  ·cases hc1
  refine Sr<|Dd aE<|Dd BR<|Dd (aT xF)<|Dd (bF BO)<|Dd aE<|Dd (by exact F3 (n:=1) rfl gJ (by kernel_rfl) rfl rfl rfl rfl)<|Zz ?_;refine Cn ?_ ?_<;>intro hc2
  ·cases hc2
  refine aC ?_;exact sY (.inl rfl) rfl Fin.refl ⟨rfl,rfl⟩
theorem X4(g:Nat)(l m:List UInt8)(h:m.length=n):oQ (g+1) (l++m) true=[(2001,E4 (.osl 2002 (g+1) 0 (l.length+n)) true),(2002,⟨g+1,1,5,eR (l++m)⟩)]:=by subst h;simp[oQ]
theorem SH(g:Nat)(l:List UInt8)(u:Bool)(c:UInt8)(hl:l.length<70368744177664):aI Tryz.prog 110 [.ref 2001 0 0 0,.pv (.int .u8 c.toNat)] (oQ g l u) (fun r H'=>r=.pv H4/\H'=oQ (g+1) (l++[c]) true):=by refine Bd func110 rfl ntmps110<|Sr<|Dd aM<|Zz<|Sr<|Dd aE<|Dd (by exact aA rfl rfl OM rfl (GT _ u _))<|Zz<|Sr<|Dd aE<|Dd aE<|Dd BR<|Dd (aT gL)<|Dd (bF dW)<|Dd aE<|Dd (by exact aQ [[.int .u8 c.toNat]] rfl yN rfl rfl rfl rfl rfl (by intro r hr;rw[aQH]at hr;subst hr;rfl))<|Dd (by exact cJ (ps:=[[.int .u8 c.toNat]]) rfl yN ei5 rfl rfl rfl rfl rfl (qI l) rfl (by intro r hr;rw[aQH]at hr;subst hr;rfl) (m:=1) rfl (by omega) rfl (rZ l [c]))<|Dd BR<|Dd (aT gL)<|Uu (by exact bG rfl oT rfl rfl rfl rfl rfl rfl (aQR rfl) rfl rfl)<|Zz<|Sr<|Dd aM<|Zz<|aB ?_;rw[X4 g l [c] (n:=1) rfl];refine dV (H':=[(2001,E4 (.osl 2002 (g+1) 0 (l.length+1)) true),(2002,⟨g+1,1,5,eR (l++[c])⟩)]) (.inr rfl) rfl (aX rfl) (Fin.get' (fun j=>GK (by decide) j)) ?_;exact Qq
theorem B0(g:Nat)(l:List UInt8)(u:Bool)(s:ByteArray)(hl:l.length+s.size<70368744177664):aI Tryz.prog 109 [.ref 2001 0 0 0,sv s] (oQ g l u) (fun r H'=>r=.tup [iv (s.size:Int),.pv H4]/\H'=oQ (g+1) (l++s.data.toList) true):=by refine Bd func109 rfl ntmps109<|Sr<|Dd aM<|Dd aM<|Zz<|Sr<|Dd aE<|Dd (by exact aA rfl rfl OM rfl (GT _ u _))<|Zz<|Sr<|Dd aE<|Dd aE<|Dd BR<|Dd (aT gL)<|Dd (bF dW)<|Dd aE<|Dd (by exact tR rfl yN underlying9 ei5 KC rfl rfl rfl rfl rfl (qI l) rfl (by omega) rfl (rZ l s.data.toList))<|Dd BR<|Dd (aT gL)<|Uu (by exact bG rfl oT rfl rfl rfl rfl rfl rfl (aQR rfl) rfl rfl)<|Zz<|Sr<|Dd aE<|Dd (kG underlying9)<|Dd aM<|Dd aM<|Zz<|aB ?_;rw[X4 g l s.data.toList (n:=s.size) rfl];refine mQ (H':=[(2001,E4 (.osl 2002 (g+1) 0 (l.length+s.size)) true),(2002,⟨g+1,1,5,eR (l++s.data.toList)⟩)]) (.inr rfl) rfl (aX rfl) (aX rfl) (Fin.get' (fun j=>GK (by decide) j)) ?_;exact Qq
def X5(g:Nat)(l:List UInt8)(u:Bool):aH:=[(2002,⟨g+1,1,5,[]⟩),(2001,E4 (.osl 2002 g 0 l.length) u)]
theorem aK5(g:Nat)(l:List UInt8)(u:Bool)(hl:l.length<70368744177664):aI Tryz.prog 111 [.ref 2001 0 0 0] (oQ g l u) (fun r H'=>r=sv ⟨l.toArray⟩/\H'=X5 g l u):=by
 by_cases h0:l=[]
 ·subst h0;refine Bd aD9 rfl YK<|Sr<|Dd aM<|Zz<|Sq<|aO follows<|Cq aE<|Cq BR<|Cq (aT gL)<|Cq (bF dW)<|Cq (by exact B8 rfl wF rfl rfl rfl)<|Cq aE<|Cq BR<|Cq (aT gL)<|Cq (bF dW)<|Cq (by exact eG rfl dL rfl rfl rfl)<|Cq (by exact wZ rfl rfl rfl)<|Cq aM<|bM<|Kr<|aB ?_;refine dV (H':=(X5 g [] u)) (.inr rfl) rfl (aX rfl) (Fin.trans (Fin.deadO (id:=2002) (k:=g+1) (ob:=⟨g,1,5,eR []⟩) rfl (Nat.lt_succ_self g) Nat.zero_lt_one rfl rfl) (Fin.get' (fun j=>K3 (by decide) j))) ?_;exact Qq
 have hpos:0<l.length:=List.length_pos_iff.2 h0;refine Bd aD9 rfl YK<|Sr<|Dd aM<|Zz<|Sq<|aO follows<|Cr [2001] (fun _ _=>aE)<|Cr [2001] (fun H1 hH=>by exact fU rfl rfl ((hH _ rfl).trans rfl) rfl)<|Cr [2001] (fun _ h=>fh gL h)<|Cr [2001] (fun _ h=>lh dW h)<|Cr [2002] (fun H1 hH=>by exact D4 rfl rfl ((hH _ rfl).trans rfl) rfl hpos)<|Cr [2001] (fun _ _=>aE)<|Cr [2001] (fun H1 hH=>by exact fU rfl rfl ((hH _ rfl).trans rfl) rfl)<|Cr [2001] (fun _ h=>fh gL h)<|Cr [2001] (fun _ h=>lh dW h)<|Cr [2002] (fun H1 hH=>by exact eG rfl dL rfl ((hH _ rfl).trans rfl) rfl)<|Cp [2001,2002] (fun H1 hH=>by exact yV (l:=l) rfl wF (by kernel_rfl) rfl rfl ((hH _ rfl).trans rfl) rfl rfl rfl rfl rfl hpos (by omega) rfl)<|Cr [] (fun _ _=>aM)<|bM<|Kr<|aB ?_;refine dV (H':=(X5 g l u)) (.inr rfl) rfl (aX rfl) (Fin.get' (fun j=>K3 (by decide) j)) ?_;exact Qq
theorem aF2(g:Nat)(l:List UInt8)(u:Bool):aI Tryz.prog 162 [.ref 2001 0 0 0] (oQ g l u) (fun r H'=>r=iv (l.length:Int)/\H'=oQ g l u):=by refine Bd func162 rfl ntmps162<|Sr<|Dd aM<|Zz<|Sr<|Dd aE<|Dd BR<|Dd (aT gL)<|Dd (bF dW)<|Dd (by exact eG rfl dL rfl rfl rfl)<|Dd aM<|Zz<|aB ?_;refine dV (H':=(oQ g l u)) (.inr rfl) rfl (aX rfl) Fin.refl ?_;exact Qq
def aC6(l:List UInt8)(s:ByteArray):List UInt8:=if l=[]then s.data.toList else l++32::s.data.toList
theorem aMt(g:Nat)(l:List UInt8)(u:Bool)(s:ByteArray)(hl:l.length+s.size<70368744177663):aI Tryz.prog 234 [.ref 2001 0 0 0,sv s] (oQ g l u) (fun r H'=>r=.tup []/\H'=oQ (if l=[]then g+1 else g+2) (aC6 l s) true):=by
 have hB:=SH g l u 32 (by omega);have hL:=aF2 g l u;rw[aC6];by_cases h0:l=[]
 ·subst h0;have hS:=B0 g [] u s (by omega);rw[aQD rfl,aQD rfl];rw[List.nil_append]at hS;refine Bd func234 rfl ntmps234<|Sq<|Sr<|Dd aE<|Dd BR<|Dd (aT oE)<|Dd (by exact aA rfl rfl yG rfl (hL))<|Dd iG<|Zz ?_;refine Cn ?_ ?_<;>intro hc1
  ·cases hc1
  refine aC<|Rg<|Dd aE<|Dd BR<|Dd (aT oE)<|Dd aE<|Dd (by exact aA rfl rfl nL rfl (hS))<|Zz ?_;exact sY (H':=oQ (g+1) s.data.toList true) (.inl rfl) rfl Fin.refl ⟨rfl,rfl⟩
 have hpos:0<l.length:=List.length_pos_iff.2 h0;have hS:=B0 (g+1) (l++[32]) true s (by rw[aQF,List.length_singleton];omega);rw[aQC h0,aQC h0];rw[List.append_assoc]at hS;refine Bd func234 rfl ntmps234<|Sq<|Sr<|Dd aE<|Dd BR<|Dd (aT oE)<|Dd (by exact aA rfl rfl yG rfl (hL))<|Dd iG<|Zz ?_;refine Cn ?_ ?_<;>intro hc1
 ·refine Rg<|Dd aE<|Dd BR<|Dd (aT oE)<|Dd (by exact aA rfl rfl lO rfl (hB))<|Zz<|Rg<|Dd aE<|Dd BR<|Dd (aT oE)<|Dd aE<|Dd (by exact aA rfl rfl nL rfl (hS))<|Zz ?_;exact sY (H':=oQ (g+2) (l++32::s.data.toList) true) (.inl rfl) rfl Fin.refl ⟨rfl,rfl⟩
 have:=aQB hc1;omega
theorem aK4:Sub (oQ g l u) (oQ g l u++K):=by intro j o h;rw[gD,h]
theorem aN7{id:Nat}(h:(aH.get (oQ g l u) id).isSome=true):(aH.get (oQ g' l' u') id).isSome=true:=aB1 h
theorem aNd(j:Nat):aH.get (oQ g l u++(oQ g' l' u'++K)) j=aH.get (oQ g l u++K) j:=by show aH.get ((2001,_)::(2002,_)::(2001,_)::(2002,_)::K) j=aH.get ((2001,_)::(2002,_)::K) j;exact(GK (by decide) j).symm
theorem aEf(K:aH)(g:Nat)(l:List UInt8)(u:Bool)(s:ByteArray)(hl:l.length+s.size<70368744177663):aI Tryz.prog 234 [.ref 2001 0 0 0,sv s] (oQ g l u++K) (fun r H'=>r=.tup []/\H'=oQ (if l=[]then g+1 else g+2) (aC6 l s) true++K) :=(aI.frame (aMt g l u s hl) aK4 (eI.ofL ⟨(by exact N9 rfl rfl),(by exact eO _ _),trivial⟩) (by simp;rfl) (fun id h=>.inl (aN7 h))).congrH fun j=>(aNd j).symm
theorem KY(K:aH)(g:Nat)(l:List UInt8)(u:Bool):aI Tryz.prog 162 [.ref 2001 0 0 0] (oQ g l u++K) (fun r H'=>r=iv (l.length:Int)/\H'=oQ g l u++K) :=(aI.frame (aF2 g l u) aK4 (eI.ofL ⟨(by exact N9 rfl rfl),(by exact eO _ _),trivial⟩) (by simp;rfl) (fun id h=>.inl h)).congrH fun j=>(aNd j).symm
end Go.Proofs.YtmdicgjnmfolfaaGreatDoor
