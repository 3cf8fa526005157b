/-
  Parts of the proof: rules of an abstract program logic, contracts of functions, plain laws. Conditions: each theorem's own.
-/
import Derived.Test.YtmdicgjnmfolfaaGreatDoorKR5M1
import Derived.Laws.BytesArg
set_option linter.unusedVariables false
set_option linter.unusedSimpArgs false
set_option maxRecDepth 100000
set_option maxHeartbeats 8000000
namespace Go.Abs
variable{w w0 w':World}{I I0:Nat->Prop}{ι ι0:dX}{H H' H0 L G0 H'' H2 H1:aB}{v a a' r r' s v0:AV}{b want X:Bool}{E E' E1:bS}{t id g off len n i k D N d sz m j bytes h:Nat}{o:Oper}{ps:List (List PV)}{y x:ResultVar}{ob:Ob}{P:Program}{T e:TypeId}{z:Value}{args l vs caps l0 row cells:List AV}{G:Entry}{tmps c:Array Value}{ds:List Deferred}{R:Ending->World->Prop}{f:Operand}{Q:AV->aB->Prop}{F:FuncId}{at_:Array TypeId}{parts:Array (Nat×Operand)}{aps:List (Nat×AV)}{rows rows2 rows':List (List AV)}{α:Type}{k1 k2 kk:IntKind}{n1 n2:Int}{S:Nat->Bool}{ops rest:List Oper}{lo hi:Option Operand}
section
inductive Clo(H:aB):AV->Prop
 |any:Clo H .any
 |pv (p:PV):Clo H (.pv p)
 |pad (rows:List (List PV)) (i k:Nat):Clo H (.pad rows i k)
 |ref {id g i k:Nat} (h:(H.get id).isSome=true):Clo H (.ref id g i k)
 |osl {id g off len:Nat} (h:(H.get id).isSome=true):Clo H (.osl id g off len)
 |clo {f:FuncId} {caps:List AV} (h:∀a∈caps,Clo H a):Clo H (.clo f caps)
 |bnd {f:FuncId} {xs:List AV} (h:∀a∈xs,Clo H a):Clo H (.bnd f xs)
 |agg {cs:List AV} (h:∀a∈cs,Clo H a):Clo H (.agg cs)
 |tup {cs:List AV} (h:∀a∈cs,Clo H a):Clo H (.tup cs)
 |mp {id g:Nat} (h:(H.get id).isSome=true):Clo H (.mp id g)
 |it {id g:Nat} (h:(H.get id).isSome=true):Clo H (.it id g)
 |yld {id g:Nat} (h:(H.get id).isSome=true):Clo H (.yld id g)
 |raw (x:Go.Loop) (ts:List Nat):Clo H (.raw x ts)
 |osc {id g off len c:Nat} (h:(H.get id).isSome=true):Clo H (.osc id g off len c)
@[simp] theorem aMZ(H:aB):Clo H .any=True:=eq_true .any
@[simp] theorem aNH(H:aB)(p:PV):Clo H (.pv p)=True:=eq_true (.pv p)
@[simp] theorem aMY(H:aB)(rows:List (List PV))(i k:Nat):Clo H (.pad rows i k)=True:=eq_true (.pad rows i k)
@[simp] theorem qE(H:aB)(id g i k:Nat):Clo H (.ref id g i k)=((H.get id).isSome=true):=propext ⟨fun h=>by cases h;assumption,.ref⟩
@[simp] theorem aHa(H:aB)(id g i k:Nat):Clo H (.osl id g i k)=((H.get id).isSome=true):=propext ⟨fun h=>by cases h;assumption,.osl⟩
@[simp] theorem aJy(H:aB)(id g:Nat):Clo H (.mp id g)=((H.get id).isSome=true):=propext ⟨fun h=>by cases h;assumption,.mp⟩
@[simp] theorem aJz(H:aB)(id g:Nat):Clo H (.it id g)=((H.get id).isSome=true):=propext ⟨fun h=>by cases h;assumption,.it⟩
@[simp] theorem aH8(H:aB)(id g:Nat):Clo H (.yld id g)=((H.get id).isSome=true):=propext ⟨fun h=>by cases h;assumption,.yld⟩
@[simp] theorem aMX(H:aB)(x:Go.Loop)(ts:List Nat):Clo H (.raw x ts)=True:=eq_true (.raw x ts)
@[simp] theorem aHb(H:aB)(id g off len c:Nat):Clo H (.osc id g off len c)=((H.get id).isSome=true):=propext ⟨fun h=>by cases h;assumption,.osc⟩
@[simp] theorem aHd(H:aB)(f:FuncId)(l:List AV):Clo H (.clo f l)=∀a∈l,Clo H a:=propext ⟨fun h=>by cases h;assumption,.clo⟩
@[simp] theorem aHe(H:aB)(f:FuncId)(l:List AV):Clo H (.bnd f l)=∀a∈l,Clo H a:=propext ⟨fun h=>by cases h;assumption,.bnd⟩
@[simp] theorem SK(H:aB)(l:List AV):Clo H (.agg l)=∀a∈l,Clo H a:=propext ⟨fun h=>by cases h;assumption,.agg⟩
@[simp] theorem aH9(H:aB)(l:List AV):Clo H (.tup l)=∀a∈l,Clo H a:=propext ⟨fun h=>by cases h;assumption,.tup⟩
def Sub(H' H:aB):Prop:=∀id o,H'.get id=some o->H.get id=some o
def dF(H:aB):Prop:=∀id o,H.get id=some o->∀r∈o.rows,∀a∈r,Clo H a
theorem VRel.restrict(hs:Sub H' H){v:Value}(h:VRel w I ι H v a):Clo H' a->VRel w I ι H' v a:=by
 induction h with
 |any v=>exact fun _=>.any v
 |pv h=>exact fun _=>.pv h
 | ref o h1 h2 h3 h4 =>
  intro hc;cases hc with
  |ref hc =>
   obtain ⟨o',ho'⟩:=Option.isSome_iff_exists.1 hc;have:=hs _ _ ho';rw[h1]at this;cases this;exact .ref o ho' h2 h3 h4
 |pad b off cap sz h1 h2 h3 cs h4 h5 h6=>exact fun _=>.pad b off cap sz h1 h2 h3 cs h4 h5 h6
 | osl o h1 h2 h3 h4 =>
  intro hc;cases hc with
  |osl hc =>
   obtain ⟨o',ho'⟩:=Option.isSome_iff_exists.1 hc;have:=hs _ _ ho';rw[h1]at this;cases this;exact .osl o ho' h2 h3 h4
 |clo hl h ih =>
  intro hc;cases hc with|clo hc=>exact .clo hl fun i v a hv ha=>ih i v a hv ha (hc a (aOF ha))
 |bnd hl h ih =>
  intro hc;cases hc with|bnd hc=>exact .bnd hl fun i v a hv ha=>ih i v a hv ha (hc a (aOF ha))
 |agg hl h1 h ih =>
  intro hc;cases hc with|agg hc=>exact .agg hl h1 fun i v a hv ha=>ih i v a hv ha (hc a (aOF ha))
 |tup hl h ih =>
  intro hc;cases hc with|tup hc=>exact .tup hl fun i v a hv ha=>ih i v a hv ha (hc a (aOF ha))
 | mp o h1 h2 h3 h4 =>
  intro hc;cases hc with
  |mp hc =>
   obtain ⟨o',ho'⟩:=Option.isSome_iff_exists.1 hc;have:=hs _ _ ho';rw[h1]at this;cases this;exact .mp o ho' h2 h3 h4
 | it o h1 h2 h3 h4 =>
  intro hc;cases hc with
  |it hc =>
   obtain ⟨o',ho'⟩:=Option.isSome_iff_exists.1 hc;have:=hs _ _ ho';rw[h1]at this;cases this;exact .it o ho' h2 h3 h4
 | yld o h1 h2 h3 h4 =>
  intro hc;cases hc with
  |yld hc =>
   obtain ⟨o',ho'⟩:=Option.isSome_iff_exists.1 hc;have:=hs _ _ ho';rw[h1]at this;cases this;exact .yld o ho' h2 h3 h4
 | osc o h1 h2 h3 h4 =>
  intro hc;cases hc with
  |osc hc =>
   obtain ⟨o',ho'⟩:=Option.isSome_iff_exists.1 hc;have:=hs _ _ ho';rw[h1]at this;cases this;exact .osc o ho' h2 h3 h4
theorem H9.sub(hs:Sub H' H){b:Nat}(h:H9 ι H' b):H9 ι H b :=let ⟨id,o,c,h1,h2⟩:=h;⟨id,o,c,hs id o h1,h2⟩
theorem Rel.restrict(hr:Rel I ι H w)(hs:Sub H' H)(hc:dF H'):Rel I ι H' w where
 imm:=hr.imm
 obj:=fun id o ho=>(hr.obj id o (hs id o ho)).keep rfl (fun _ _ _ _=>⟨rfl,fun h=>h⟩) (fun r hr' a ha v hv=>hv.restrict hs (hc id o ho r hr' a ha))
 inj:=fun id id' o o' b c c' h h'=>hr.inj id id' o o' b c c' (hs id o h) (hs id' o' h')
 glob:=hr.glob
def II(H0 H' H:aB):Prop:=∀id,(H0.get id).isSome=true->H'.get id=H.get id
theorem Step.restrict(h:Step I0 ι0 H0 w0 I ι H w)(hs:Sub H' H)(hk:II H0 H' H):Step I0 ι0 H0 w0 I ι H' w where
 os:=h.os
 tape:=h.tape
 output:=h.output
 size:=h.size
 froz:=h.froz
 imm:=h.imm
 immNew:=h.immNew
 own:=fun b hb=>h.own b (hb.sub hs)
 keep:=h.keep
 objs:=fun id o ho=>by
  obtain ⟨o',h1,h2⟩:=h.objs id o ho;exact⟨o',(hk id (by simp[ho])).trans h1,h2⟩
def EOk(E:bS)(H':aB):bS->Prop
 | []=>True
 |(t,v)::r=>(∃v0,E.get t=some v0/\v0=v)/\Clo H' v/\EOk E H' r
def TD(H H':aB):aB->Prop
 | []=>True
 |(id,o)::r=>(∃o0,H.get id=some o0/\o0=o)/\(∀r∈o.rows,∀a∈r,Clo H' a)/\TD H H' r
def KOk(H' H:aB):aB->Prop
 | []=>True
 |(id,_)::r=>H'.get id=H.get id/\KOk H' H r
theorem fR(h:E.get t=some v):(t,v)∈E:=by
 induction E with
 |nil=>cases h
 | cons x r ih =>
  obtain ⟨i,u⟩:=x;cases e:Nat.beq i t with
  |true =>
   have:i=t:=Nat.eq_of_beq_eq_true e;subst this;simp[bS.get,e]at h;simp[h]
  |false=>simp[bS.get,e]at h;exact List.mem_cons_of_mem _ (ih h)
theorem cV{o:Ob}(h:H.get t=some o):(t,o)∈H:=by
 induction H with
 |nil=>cases h
 | cons x r ih =>
  obtain ⟨i,u⟩:=x;cases e:Nat.beq i t with
  |true =>
   have:i=t:=Nat.eq_of_beq_eq_true e;subst this;simp[aB.get,e]at h;simp[h]
  |false=>simp[aB.get,e]at h;exact List.mem_cons_of_mem _ (ih h)
theorem EOk.spec(h:EOk E H' E'):∀p∈E',E.get p.1=some p.2/\Clo H' p.2:=by
 induction E' with
 |nil=>simp
 |cons x r ih =>
  obtain ⟨t,v⟩:=x;obtain ⟨⟨v0,h1,h2⟩,h3,h4⟩:=h;subst h2;intro p hp;rcases aOH.1 hp with e|e
  ·subst e;exact⟨h1,h3⟩
  exact ih h4 p e
theorem TD.spec(h:TD H H' L):∀p∈L,H.get p.1=some p.2/\∀r∈p.2.rows,∀a∈r,Clo H' a:=by
 induction L with
 |nil=>simp
 |cons x r ih =>
  obtain ⟨t,v⟩:=x;obtain ⟨⟨v0,h1,h2⟩,h3,h4⟩:=h;subst h2;intro p hp;rcases aOH.1 hp with e|e
  ·subst e;exact⟨h1,h3⟩
  exact ih h4 p e
theorem KOk.spec(h:KOk H' H L):∀p∈L,H'.get p.1=H.get p.1:=by
 induction L with
 |nil=>simp
 |cons x r ih =>
  obtain ⟨t,v⟩:=x;intro p hp;rcases aOH.1 hp with e|e
  ·subst e;exact h.1
  exact ih h.2 p e
theorem TD.sub(h:TD H H' H'):Sub H' H:=fun id o ho=>(h.spec _ (cV ho)).1
theorem TD.closed(h:TD H H' H'):dF H':=fun id o ho=>(h.spec _ (cV ho)).2
theorem KOk.kept(h:KOk H' H H0):II H0 H' H:=fun id hi=>by
 obtain ⟨o,ho⟩:=Option.isSome_iff_exists.1 hi;exact h.spec _ (cV ho)
theorem cD.wk(hE:EOk E H' E')(hH:TD H H' H')(hk:KOk H' H G0):cD G0 E H E' H':=by intro G hG N a w hs;obtain ⟨I,ι,hr,hst,he⟩:=hs.rel;subst hG;refine⟨hs.defers,hs.size,I,ι,hr.restrict hH.sub hH.closed,hst.restrict hH.sub hk.kept,fun t v ht=>?_⟩;obtain ⟨h1,h2⟩:=hE.spec _ (fR ht);obtain ⟨c,hc,hv⟩:=he t v h1;exact⟨c,hc,hv.restrict hH.sub h2⟩
theorem cD.trans{E'':bS}(h:cD G0 E H E' H')(h':cD G0 E' H' E'' H''):cD G0 E H E'' H'':=fun G hG N a w hs=>h' G hG N a w (h G hG N a w hs)
theorem cD.env(hE:∀p∈E',E.get p.1=some p.2):cD G0 E H E' H:=by intro G hG N a w hs;obtain ⟨I,ι,hr,hst,he⟩:=hs.rel;exact⟨hs.defers,hs.size,I,ι,hr,hst,fun t v ht=>he t v (hE _ (fR ht))⟩
inductive Fz(H':aB)(id g:Nat)(ps:List (List PV)):AV->AV->Prop
 |same {a:AV} (h:Clo H' a):Fz H' id g ps a a
 |osl {off len:Nat} {qs:List (List PV)} (hq:(ps.take (off+len)).drop off=qs):Fz H' id g ps (.osl id g off len) (.pv (.sl qs))
 |agg {cs cs':List AV} (hl:cs.length=cs'.length) (h:∀(i:Nat) (a a':AV),cs[i]?=some a->cs'[i]?=some a'->Fz H' id g ps a a'):Fz H' id g ps (.agg cs) (.agg cs')
 |tup {cs cs':List AV} (hl:cs.length=cs'.length) (h:∀(i:Nat) (a a':AV),cs[i]?=some a->cs'[i]?=some a'->Fz H' id g ps a a'):Fz H' id g ps (.tup cs) (.tup cs')
theorem Fz.raw(h:Fz H' id g ps a a'){y:Go.Loop}{ts:List Nat}(e:a'=.raw y ts):a=.raw y ts:=by cases h<;>first|exact e|cases e
def mL(I:Nat->Prop)(ι:dX)(id:Nat):Nat->Prop:=fun b=>I b\/∃cap,ι id=some (b,cap)
theorem AW(hr:Rel I ι H w)(hH:H.get id=some ob)(hps:ob.rows=ps.map (·.map .pv)){v:Value}(hv:VRel w I ι H v (.osl id ob.g off len)):
  PRep w (mL I ι id) v (.sl ((ps.take (off+len)).drop off)):=by
 obtain ⟨hle,⟨b,cap,oo,h1,h2,h3⟩|⟨h1,h2,h3,h4⟩⟩:=hU hv hH rfl
 ·obtain ⟨p1,p2,⟨b',cap',cs,e1,e2,e3,e4,e5,e5',e6⟩|⟨e1,_⟩⟩:=(hr.obj id ob hH).cells (mR hv hH rfl)
  ·rw[h1]at e1;cases e1;have hlen:ps.length=ob.rows.length:=by rw[hps];simp
   have hcut:=PRep.cut (w:=w) (I:=mL I ι id) (b:=b) (off:=0) (cap:=cap) (sz:=ob.sz) (rows:=ps) (l:=off) (h:=off+len) (cs:=fun i k=>(cs[i*ob.sz+k]?).getD undef)
    (.inr ⟨cap,h1⟩) p1 (fun r hr'=>by
     have:r.map AV.pv∈ob.rows:=by rw[hps];exact List.mem_map_of_mem hr'
     have:=p2 _ this
     simpa using this) (by omega)
    (fun i r hi k p hk=>by
     obtain ⟨u,q1,q2,q3⟩:=e6 i (r.map .pv) (by rw[hps];simp[hi]) k (.pv p) (by simp[hk]);rw[aON,cell_of_row w b _ cs ob.ty (0,0) e2,q1];rfl)
    (fun i r hi k p hk=>by
     obtain ⟨u,q1,q2,q3⟩:=e6 i (r.map .pv) (by rw[hps];simp[hi]) k (.pv p) (by simp[hk]);rw[q1];exact q3.pv_inv.mono (fun _ _=>rfl) (fun _ h=>.inl h)) (by omega) (by omega)
   rw[h2];by_cases ec:cap=off
   ·have hl0:len=0:=by omega
    subst hl0;have:(ps.take (off+0)).drop off=[]:=List.eq_nil_of_length_eq_zero (by simp);rw[this];exact .sl b oo (cap - off) ob.sz [] (fun _ _=>undef) (.inr ⟨cap,h1⟩) p1 (by simp) (by simp) (by simp) (by simp)
   rw[aNt ec,Addr.add_lit]at hcut;rw[h3 (by omega)]
   simpa using hcut
  rw[h1]at e1;cases e1
 subst h3 h4;rw[h2]
 simpa using PRep.nilsl
theorem VRel.freeze(hr:Rel I ι H w)(hs:Sub H' H)(hH:H.get id=some ob)(hps:ob.rows=ps.map (·.map .pv))(hf:Fz H' id ob.g ps a a'):
  ∀ {v:Value},VRel w I ι H v a->VRel w (mL I ι id) ι H' v a':=by
 induction hf with
 |same h=>exact fun hv=>(hv.restrict hs h).mono' (fun _ _=>rfl) (fun _ h=>.inl h) (fun _ o h=>⟨o,h,aOB _,fun _=>⟨rfl,rfl,fun _=>aOB _⟩⟩)
 |osl hq =>
  intro v hv;subst hq;exact .pv (AW hr hH hps hv)
 | agg hl h ih =>
  intro v hv;cases hv with
  |agg h1 h2 h3 =>
   refine .agg (h1.trans hl) h2 fun i u a' hu ha'=>?_;have hi:=(aNz.1 ha').1;exact ih i _ a' (aOA (by omega)) ha' (h3 i u _ hu (aOA (by omega)))
 | tup hl h ih =>
  intro v hv;cases hv with
  |tup h1 h3 =>
   refine .tup (h1.trans hl) fun i u a' hu ha'=>?_;have hi:=(aNz.1 ha').1;exact ih i _ a' (aOA (by omega)) ha' (h3 i u _ hu (aOA (by omega)))
theorem Rel.freeze(hr:Rel I ι H w)(hs:Sub H' H)(hc:dF H')(hH:H.get id=some ob)(hno:H'.get id=none):Rel (mL I ι id) ι H' w:=by
 have hr':=hr.restrict hs hc;refine⟨fun b hb=>?_,fun j o hj=>?_,hr'.inj,hr.glob.mono (fun _ _=>rfl) (fun _ h=>.inl h)⟩
 ·rcases hb with hb|⟨cap,hb⟩
  ·exact hr.imm b hb
  exact hr.lt ⟨id,ob,cap,hH,hb⟩
 refine(hr'.obj j o hj).keep rfl (fun b' cap' e1 _=>⟨rfl,fun e3=>?_⟩) (fun r _ a _ v hv=>hv.mono' (fun _ _=>rfl) (fun _ h=>.inl h) (fun _ o h=>⟨o,h,aOB _,fun _=>⟨rfl,rfl,fun _=>aOB _⟩⟩));rintro(h|⟨cap,h⟩)
 ·exact e3 h
 have:j=id:=hr.inj j id o ob b' cap' cap (hs j o hj) hH e1 h;rw[this,hno]at hj;cases hj
theorem Step.freeze(h:Step I0 ι0 H0 w0 I ι H w)(hs:Sub H' H)(hk:II H0 H' H)(hH:H.get id=some ob):Step I0 ι0 H0 w0 (mL I ι id) ι H' w :=let h':=h.restrict hs hk
  { h' with
    imm:=fun b hb=>.inl (h.imm b hb)
    immNew:=fun b hb=>by
      rcases hb with hb|⟨cap,hb⟩
      · exact h.immNew b hb
      · rcases h.own b ⟨id,ob,cap,hH,hb⟩with h1|h1
        · exact .inr (.inl h1)
        · exact .inr (.inr h1)}
def Fin(G0:aB)(H:aB)(r:AV)(H':aB)(r':AV):Prop :=∀(G:Entry),G.H=G0->∀(I:Nat->Prop) (ι:dX) (w:World) (v:Value),Rel I ι H w->Step G.I G.ι G.H G.w I ι H w->VRel w I ι H v r ->
  ∃I' ι',Rel I' ι' H' w/\Step G.I G.ι G.H G.w I' ι' H' w/\VRel w I' ι' H' v r'
theorem Fin.wk(hr:Clo H' r)(hH:TD H H' H')(hk:KOk H' H G0):Fin G0 H r H' r:=by intro G hG I ι w v h1 h2 h3;subst hG;exact⟨I,ι,h1.restrict hH.sub hH.closed,h2.restrict hH.sub hk.kept,h3.restrict hH.sub hr⟩
theorem Fin.trans{r'':AV}(h:Fin G0 H r H' r')(h':Fin G0 H' r' H'' r''):Fin G0 H r H'' r'':=by intro G hG I ι w v h1 h2 h3;obtain ⟨I',ι',a1,a2,a3⟩:=h G hG I ι w v h1 h2 h3;exact h' G hG I' ι' w v a1 a2 a3
theorem Fin.fz(ps:List (List PV))(hH:H.get id=some ob)(hps:ob.rows=ps.map (·.map .pv))(hf:Fz H' id ob.g ps r r')(hno:H'.get id=none)(hHO:TD H H' H')(hk:KOk H' H G0):Fin G0 H r H' r':=by intro G hG I ι w v h1 h2 h3;subst hG;exact⟨_,ι,h1.freeze hHO.sub hHO.closed hH hno,h2.freeze hHO.sub hk.kept hH,VRel.freeze h1 hHO.sub hH hps hf h3⟩
theorem cD.fz(ps:List (List PV))(hH:H.get id=some ob)(hps:ob.rows=ps.map (·.map .pv))(hE:∀p∈E',∃v0,E.get p.1=some v0/\Fz H' id ob.g ps v0 p.2)(hno:H'.get id=none)
  (hHO:TD H H' H') (hk:KOk H' H G0):cD G0 E H E' H':=by
 intro G hG N a w hs;obtain ⟨I,ι,hr,hst,he⟩:=hs.rel;subst hG;refine⟨hs.defers,hs.size,_,ι,hr.freeze hHO.sub hHO.closed hH hno,hst.freeze hHO.sub hk.kept hH,fun t v ht=>?_⟩;obtain ⟨v0,h1,h2⟩:=hE _ (fR ht);obtain ⟨c,hc,hv⟩:=he t v0 h1;exact⟨c,hc,VRel.freeze hr hHO.sub hH hps h2 hv⟩
def kV(args:List AV):bS:=args.zipIdx.map fun(v,i)=>(i,v)
def T3(tmps:Array Value):ResultVar->Sem Value
 |.tmp t=>pure (tmps.getD t undef)
 |.cell a t=>do loadVar t (<-asAddr (tmps.getD a undef))
theorem pV(fn:Func)(tmps:Array Value):results fn tmps=(do let vs <-fn.results.mapM (T3 tmps);pure (if h:vs.size=1 then vs[0]else .tuple vs)):=by unfold results;congr 1
def IH(P:Program)(E:bS)(H:aB)(x:ResultVar)(r:AV):Prop :=∀(a:Act) (w:World) (I:Nat->Prop) (ι:dX),Rel I ι H w->iB w I ι H E a ->
  ∃v,(T3 a.tmps x).run P w=.ok v w/\VRel w I ι H v r
theorem aW{t:Tmp}(h:E.get t=some r):IH P E H (.tmp t) r:=fun a w I ι _ he=>by
 obtain ⟨c,hc,hv⟩:=he t r h;exact⟨c,by simp[T3,hc],hv⟩
theorem fF{t:Tmp}{r cs:List AV}(hx:E.get t=some (.ref id g i k))(ha:∀w,(isAgg T).run P w=.ok true w)(hs:∀w,(sizeOf T).run P w=.ok n w)(hH:H.get id=some ob)(hg:ob.g=g)
  (hi:ob.rows[i]?=some r) (hk:(r.drop k).take n=cs) (hl:cs.length=n):IH P E H (.cell t T) (.agg cs):=fun a w I ι hr he=>by
 obtain ⟨c,hc,hv⟩:=he t _ hx;obtain ⟨v,h1,h2⟩:=aEC (P:=P) (T:=T) (BG hr hv hH hg hi) ha hs hk hl;obtain ⟨b,cap,_,e⟩:=mG hv hH hg;subst e;refine⟨v,?_,h2⟩
 simpa[T3,hc,asAddr,Instr.loadAt,Instr.sureAddr]using h1
theorem fM{t:Tmp}{r:List AV}(hx:E.get t=some (.ref id g i k))(ha:∀w,(isAgg T).run P w=.ok false w)(hH:H.get id=some ob)(hg:ob.g=g)
  (hi:ob.rows[i]?=some r) (hk:r[k]?=some v):IH P E H (.cell t T) v:=fun a w I ι hr he=>by
 obtain ⟨c,hc,hv⟩:=he t _ hx;obtain ⟨u,h1,h2⟩:=aED (P:=P) (T:=T) (a:=v) (BG hr hv hH hg hi) ha (by simpa using hk);obtain ⟨b,cap,_,e⟩:=mG hv hH hg;subst e;refine⟨u,?_,h2⟩
 simpa[T3,hc,asAddr,Instr.loadAt,Instr.sureAddr]using h1
def HE(P:Program)(fn:Func)(G0:aB)(Q:AV->aB->Prop)(e:Exit)(E:bS)(H:aB):Prop :=(e=.normal\/e=.ret)/\∃r,(∀(a:Act) (w:World) (I:Nat->Prop) (ι:dX),Rel I ι H w->iB w I ι H E a->∃v,(results fn a.tmps).run P w=.ok v w/\VRel w I ι H v r)/\∃r' H',Fin G0 H r H' r'/\Q r' H'
section
variable{fn:Func}{e:Exit}
theorem qU(he:e=.normal\/e=.ret)(hf:fn.results=#[])(hfin:Fin G0 H (.tup []) H' r')(hq:Q r' H'):HE P fn G0 Q e E H :=⟨he,.tup [],fun a w I ι _ _=>⟨.tuple #[],by simp[results,hf],.tup rfl (by simp)⟩,r',H',hfin,hq⟩
theorem dC(he:e=.normal\/e=.ret)(hf:fn.results=#[x])(hx:IH P E H x r)(hfin:Fin G0 H r H' r')(hq:Q r' H'):HE P fn G0 Q e E H :=⟨he,r,fun a w I ι hr hE=>by
  obtain ⟨v,h1,h2⟩:=hx a w I ι hr hE;exact⟨v,by rw[pV,hf];simp[h1],h2⟩,r',H',hfin,hq⟩
theorem tX(he:e=.normal\/e=.ret)(hf:fn.results=#[x,y])(hx:IH P E H x r)(hy:IH P E H y s)(hfin:Fin G0 H (.tup [r,s]) H' r')(hq:Q r' H'):HE P fn G0 Q e E H :=⟨he,.tup [r,s],fun a w I ι hr hE=>by
  obtain ⟨v,h1,h2⟩:=hx a w I ι hr hE;obtain ⟨u,h3,h4⟩:=hy a w I ι hr hE;refine⟨.tuple #[v,u],by rw[pV,hf];simp[h1,h3],.tup rfl ?_⟩;intro i c b hc hb
  match i with
  |0=>simp at hc hb;subst hc hb;exact h2
  |1=>simp at hc hb;subst hc hb;exact h4
  |i+2=>simp at hc,r',H',hfin,hq⟩
theorem zI(he:e=.normal\/e=.ret){z:ResultVar}{t:AV}(hf:fn.results=#[x,y,z])(hx:IH P E H x r)(hy:IH P E H y s)(hz:IH P E H z t)(hfin:Fin G0 H (.tup [r,s,t]) H' r')(hq:Q r' H'):HE P fn G0 Q e E H :=⟨he,.tup [r,s,t],fun a w I ι hr hE=>by
  obtain ⟨v,h1,h2⟩:=hx a w I ι hr hE;obtain ⟨u,h3,h4⟩:=hy a w I ι hr hE;obtain ⟨q,h5,h6⟩:=hz a w I ι hr hE;refine⟨.tuple #[v,u,q],by rw[pV,hf];simp[h1,h3,h5],.tup rfl ?_⟩;intro i c b hc hb
  match i with
  |0=>simp at hc hb;subst hc hb;exact h2
  |1=>simp at hc hb;subst hc hb;exact h4
  |2=>simp at hc hb;subst hc hb;exact h6
  |i+3=>simp at hc,r',H',hfin,hq⟩
end
theorem sA(h:(kV args).get t=some v):args[t]?=some v:=by have hm:=fR h;simp only[kV,List.mem_map,Prod.mk.injEq,Prod.exists]at hm;obtain ⟨a,i,h1,h2,h3⟩:=hm;subst h2 h3;rw[List.mem_zipIdx_iff_getElem?]at h1;exact h1
theorem PRep.swap(hc:∀b o,w'.cell? ⟨b,o,none⟩=w.cell? ⟨b,o,none⟩){v:Value}{p:PV}(h:PRep w I v p):PRep w' I v p:=by
 induction h with
 |int k n=>exact .int k n
 |bool b=>exact .bool b
 |str s=>exact .str s
 |nilp=>exact .nilp
 |fn f=>exact .fn f
 |nilfn=>exact .nilfn
 |nilsl=>exact .nilsl
 |nils=>exact .nils
 |nilm=>exact .nilm
 |sat h1 h=>exact .sat h1 h
 |slf a n rows h ih=>exact .slf a n rows ih
 |ifc t v p h ih=>exact .ifc t v p ih
 |ifa t cs ps hl h ih=>exact .ifa t cs ps hl (fun k c p hc hp=>ih k c p hc hp)
 |empsl a=>exact .empsl a
 |sl b off cap sz rows cs hb hsz hlen hcap hc' hp ih =>
  exact .sl b off cap sz rows cs hb hsz hlen hcap (fun i r hr k p hk=>(hc _ _).trans (hc' i r hr k p hk)) ih
theorem M2.swap{x:Option (List Deferred)}(hD:w.heap[D]?=some (.deferred x))(y:Option (List Deferred))(h:M2 I w):M2 I (w.putObj D (.deferred y)):=fun p hp=>by
 obtain ⟨h1,cs,t,f,h2,h3⟩:=h p hp;refine⟨h1,cs,t,f,?_,h3⟩;rw[World.putObj_heap_other (fun e=>by rw[<-e,h2]at hD;cases hD)];exact h2
theorem VRel.swap(hc:∀b o,w'.cell? ⟨b,o,none⟩=w.cell? ⟨b,o,none⟩){v:Value}(h:VRel w I ι H v a):VRel w' I ι H v a:=by
 induction h with
 |any v=>exact .any v
 |pv h=>exact .pv (h.swap hc)
 |ref o h1 h2 h3 h4=>exact .ref o h1 h2 h3 h4
 |pad b off cap sz h1 h2 h3 cs h4 h5 h6=>exact .pad b off cap sz (h1.swap hc) h2 h3 cs h4 (fun i r hr k p hk=>(hc _ _).trans (h5 i r hr k p hk)) (fun i r hr k p hk=>(h6 i r hr k p hk).swap hc)
 |osl o h1 h2 h3 h4=>exact .osl o h1 h2 h3 h4
 |clo hl h ih=>exact .clo hl ih
 |bnd hl h ih=>exact .bnd hl ih
 |agg hl h1 h ih=>exact .agg hl h1 ih
 |tup hl h ih=>exact .tup hl ih
 |mp o h1 h2 h3 h4=>exact .mp o h1 h2 h3 h4
 |it o h1 h2 h3 h4=>exact .it o h1 h2 h3 h4
 |yld o h1 h2 h3 h4=>exact .yld o h1 h2 h3 h4
 |osc o h1 h2 h3 h4=>exact .osc o h1 h2 h3 h4
theorem aBH {x:Option (List Deferred)} (hr:Rel I ι H w) (hst:Step G.I G.ι G.H G.w I ι H w) (hD:w.heap[D]?=some (.deferred x)) (hG:G.w.heap.size<=D) (y:Option (List Deferred)) :
    Rel I ι H (w.putObj D (.deferred y))/\Step G.I G.ι G.H G.w I ι H (w.putObj D (.deferred y))/\∀v a,VRel w I ι H v a->VRel (w.putObj D (.deferred y)) I ι H v a:=by
  have hlt:=(Array.getElem?_eq_some_iff.1 hD).1;have hc:∀b o,(w.putObj D (.deferred y)).cell? ⟨b,o,none⟩=w.cell? ⟨b,o,none⟩:=fun b o=>by
    by_cases e:b=D
    · subst e
      simp[World.cell?,World.putObj_heap_same hlt,hD]
    · exact cell?_of_heap (World.putObj_heap_other e)
  have hv:∀v a,VRel w I ι H v a->VRel (w.putObj D (.deferred y)) I ι H v a:=fun v a h=>h.swap hc;have hno:=wD hr hD;refine⟨⟨fun b hb=>by rw[World.putObj_size];exact hr.imm b hb,fun j o hj=>?_,hr.inj,hr.glob.swap hD y⟩,?_,hv⟩
  · exact(hr.obj j o hj).keep rfl (fun b cap e1 _=>⟨World.putObj_heap_other (fun e=>hno (e▸⟨j,o,cap,hj,e1⟩)),fun h=>h⟩) (fun r _ a _ v h=>hv v a h)
  · exact { os := hst.os, tape := hst.tape, output := hst.output
            size:=by rw[World.putObj_size];exact hst.size
            froz:=fun a ha hn=>by
              rw[<-hst.froz a ha hn];unfold World.frozen?;rw[World.putObj_heap_other (by omega)]
            imm:=hst.imm,immNew:=hst.immNew,own:=hst.own
            keep:=fun b hb hn=>by rw[World.putObj_heap_other (by omega)];exact hst.keep b hb hn
            objs:=hst.objs}
theorem vD{fn:Func}{ds0:List Deferred}{u:FrameMode}{a:Act}(hu:u≠.run)(hd:pF ds0 G.w w ds)(hr:Rel I ι H w)(hst:Step G.I G.ι G.H G.w I ι H w)(hE:iB w I ι H E a)
  (hk:∀w',Rel I ι H w'->Step G.I G.ι G.H G.w I ι H w'->iB w' I ι H E a->LeavesInM Fence.wide 0 P fn tmps R ds0 u w'):LeavesInM Fence.wide 0 P fn tmps R ds u w:=by
 obtain ⟨Ds,rfl,hn,hD⟩:=hd
 induction Ds generalizing w with
 |nil=>exact hk w hr hst hE
 |cons D Ds ih =>
  obtain ⟨h1,h2⟩:=hD D List.mem_cons_self;obtain ⟨k1,k2,k3⟩:=aBH hr hst h2 h1 none;have hlt:=(Array.getElem?_eq_some_iff.1 h2).1;refine⟨hu,.inl ⟨D,_,rfl,run_takeDeferred h2,?_⟩⟩;refine ih k1 k2 (fun t v ht=>let ⟨c,c1,c2⟩:=hE t v ht;⟨c,c1,k3 _ _ c2⟩) (List.nodup_cons.1 hn).2 (fun D' hD'=>?_);obtain ⟨q1,q2⟩:=hD D' (List.mem_cons_of_mem _ hD');refine⟨q1,?_⟩;rw[World.putObj_heap_other (k:=D') (r:=D) (fun e=>(List.nodup_cons.1 hn).1 (by rw[<-e];exact hD'))];exact q2
theorem rU{fn:Func}{a:Act}(hd:pF [] G.w w ds)(hr:Rel I ι H w)(hst:Step G.I G.ι G.H G.w I ι H w)(hE:iB w I ι H E a)
  (hk:∀w',Rel I ι H w'->Step G.I G.ι G.H G.w I ι H w'->iB w' I ι H E a->∃v,(results fn tmps).run P w'=.ok v w'/\R (.returned v) w'):LeavesInM Fence.wide 0 P fn tmps R ds .returning w :=
 vD (by simp) hd hr hst hE hk
theorem aH.body{f:FuncId}{fn:Func}{c:Code}(hf:P.funcs[f]?=some fn)(hb:fn.body=some c)(hN:fn.ntmps=N)(hlen:args.length<=N)
  (h:fL P H N c (HE P fn H Q) (kV args) H):aH P f args H Q:=by
 intro I ι w vs hr hl hv;refine callsIn_wide.1 (callsIn_of_wp_marks (F:=Fence.wide) (n:=0) hf hb trivial ?_);have hst:St ⟨I,ι,H,w,[]⟩ N (kV args) H {tmps:=vs++Array.replicate (fn.ntmps - vs.size) undef,defers:=[]} w:=by
  refine⟨pF.nil _ _ _,?_,I,ι,hr,Step.refl _ _ _ _,fun t a ht=>?_⟩
  ·simp;omega
  have ha:=sA ht;have hlt:t<vs.size:=by rw[hl];exact(aNz.1 ha).1
  have hu:vs[t]?=some vs[t]:=Array.getElem?_eq_getElem hlt;exact⟨vs[t],by rw[Array.getElem?_append_left hlt];exact hu,hv t _ a hu ha⟩
 refine wpIn_mono (h ⟨I,ι,H,w,[]⟩ rfl _ w hst none (.inl rfl)) ?_;rintro e a' w' ⟨E',H',⟨he,r,hres,r',H'',hfin,hq⟩,hs⟩;have key:LeavesInM Fence.wide 0 P fn a'.tmps (fun e w'=>∃r H' I' ι' v,e=.returned v/\Q r H'/\VRel w' I' ι' H' v r/\Rel I' ι' H' w'/\Step I ι H w I' ι' H' w') a'.defers .returning w':=by
  obtain ⟨I',ι',hr',hst',hE'⟩:=hs.rel;refine rU hs.defers hr' hst' hE' ?_;intro w2 hr2 hst2 hE2;obtain ⟨v,h1,h2⟩:=hres a' w2 I' ι' hr2 hE2;obtain ⟨I2,ι2,k1,k2,k3⟩:=hfin ⟨I,ι,H,w,[]⟩ rfl I' ι' w2 v hr2 hst2 h2;exact⟨v,h1,r',H'',I2,ι2,v,rfl,hq,k3,k1,k2⟩
 rcases he with rfl|rfl
 ·exact key
 exact key
section
theorem lZ{a:Act}(he:iB w I ι H E a):∀ {l:List Operand} {vs:List AV},l.mapM (aO E)=some vs->l.length=vs.length/\∀(i:Nat) (v:Value) (b:AV),(l.map a.eval)[i]?=some v->vs[i]?=some b->VRel w I ι H v b:=by
 intro l
 induction l with
 |nil=>intro vs h;simp at h;subst h;simp
 |cons x l ih =>
  intro vs h;simp only[List.mapM_cons,Option.pure_def,Option.bind_eq_bind,Option.bind_eq_some_iff,Option.some.injEq]at h;obtain ⟨v0,h0,vs0,h1,rfl⟩:=h;obtain ⟨l1,l2⟩:=ih h1;refine⟨by simp[l1],?_⟩;intro i v b hv hb;cases i with
  |zero=>simp at hv hb;subst hv hb;exact aI he h0
  |succ i=>simp at hv hb;exact l2 i v b (by simpa using hv) hb
def uZ(E:bS):List Operand->Option (List AV)
 | []=>some []
 |x::r=>match aO E x,uZ E r with
  |some v,some vs=>some (v::vs)
  |_,_=>none
theorem kO{l:List Operand}(h:uZ E l=some vs):l.mapM (aO E)=some vs:=by
 induction l generalizing vs with
 |nil=>simpa[uZ]using h
 |cons x r ih =>
  unfold uZ at h
  split at h
  ·rename_i v us e1 e2;cases h;simp[List.mapM_cons,e1,ih e2]
  cases h
theorem aA{args:Array Operand}(ho:o.op=.call {callee:=.value f,args:=args,argTypes:=at_})(hf:aO E f=some (.pv (.fn F)))
  (hc:∀(args:Array Value) (w:World),(callFunc F args).run P w=.ok (.enter F args) w) (hv:uZ E args.toList=some vs) (h:aH P F vs H Q):ZH P N o E H Q:=by
 intro a w I ι _ _ hr he K QQ hk;have hfv:=(aI he hf).fn_inv;obtain ⟨h1,h2⟩:=lZ he (kO hv);unfold Oper.wpW execOp;simp only[ho,resolve,hfv,Deferred.ofValue,Sem.run_bind,Sem.run_pure,Result.andThen_ok,invoke,hc,Oper.uponW_enter];refine(h I ι w _ hr (by simpa using h1) (fun i v b hv hb=>h2 i v b (by simpa using hv) hb)).mono ?_;rintro e w' ⟨r,H',I',ι',v,rfl,hq,k1,k2,k3⟩;exact hk v w' I' ι' r H' hq k1 k2 k3
theorem RS{args:Array Operand}(ho:o.op=.call {callee:=.value f,args:=args,argTypes:=at_})(hf:aO E f=some (.clo F caps))
  (hc:∀(args:Array Value) (w:World),(callFunc F args).run P w=.ok (.enter F args) w) (hv:uZ E args.toList=some vs) (h:aH P F (vs++caps) H Q):ZH P N o E H Q:=by
 intro a w I ι _ _ hr he K QQ hk;have hfv:=aI he hf;generalize hfc:a.eval f=fc at hfv;obtain ⟨h1,h2⟩:=lZ he (kO hv);cases hfv with
 | @clo _ us _ hl hh =>
  unfold Oper.wpW execOp;simp only[ho,resolve,hfc,Deferred.ofValue,Sem.run_bind,Sem.run_pure,Result.andThen_ok,invoke,hc,Oper.uponW_enter,Array.empty_append];have h1':args.size=vs.length:=by simpa using h1
  refine(h I ι w _ hr (by simp[hl,h1']) (fun i v b hv hb=>?_)).mono ?_
  ·by_cases hi:i<args.size
   ·rw[Array.getElem?_append_left (by simpa using hi)]at hv;rw[List.getElem?_append_left (by omega)]at hb;exact h2 i v b (by simpa using hv) hb
   rw[Array.getElem?_append_right (by simp;omega)]at hv;rw[List.getElem?_append_right (by omega)]at hb;simp only[Array.size_map]at hv;rw[h1']at hv;exact hh _ v b hv hb
  rintro e w' ⟨r,H',I',ι',v,rfl,hq,k1,k2,k3⟩;exact hk v w' I' ι' r H' hq k1 k2 k3
end
theorem aH.frame0{f:FuncId}(h:aH P f args [] Q)(hp:∀a∈args,Clo [] a)(hq:∀r H',Q r H'->H'=[])(H:aB):aH P f args H (fun r H'=>Q r []/\H'=H):=by
 intro I ι w vs hr hl hv;have hs:Sub [] H:=fun _ _ h=>by cases h
 have hc:dF []:=fun _ _ h=>by cases h
 refine(h I ι w vs (hr.restrict hs hc) hl (fun i v a h1 h2=>(hv i v a h1 h2).restrict hs (hp a (aOF h2)))).mono ?_;rintro e w' ⟨r,H',I',ι',v,rfl,q,k1,k2,k3⟩;have:=hq r H' q;subst this;have hno:∀b,¬ H9 ι [] b:=fun b ⟨_,_,_,hx,_⟩=>by cases hx
 have hno':∀b,¬ H9 ι' [] b:=fun b ⟨_,_,_,hx,_⟩=>by cases hx
 have hst:Step I ι H w I' ι H w':=by
  refine⟨k3.os,k3.tape,k3.output,k3.size,fun a ha _=>k3.froz a ha (hno _),k3.imm,fun b hb=>?_,fun b hb=>.inl hb,fun b hb _=>k3.keep b hb (hno b),fun id o ho=>⟨o,ho,aOB _,fun _=>⟨rfl,rfl,fun _=>aOB _⟩⟩⟩;rcases k3.immNew b hb with h1|h1|h1
  ·exact .inl h1
  ·exact absurd h1 (hno b)
  exact .inr (.inr h1)
 have hrel:Rel I' ι H w':=by
  refine⟨k2.imm,fun id o ho=>?_,hr.inj,k2.glob⟩;refine(hr.obj id o ho).keep rfl (fun b' cap' e1 hlt=>⟨k3.keep b' hlt (hno b'),fun e3 hi=>?_⟩) (fun r _ a _ v hv=>hv.mono hr hst);rcases k3.immNew b' hi with h1|h1|h1
  ·exact e3 h1
  ·exact hno b' h1
  omega
 refine⟨r,H,I',ι,v,rfl,⟨q,rfl⟩,?_,hrel,hst⟩;exact k1.mono' (fun _ _=>rfl) (fun _ h=>h) (fun _ _ h=>by cases h)
end
section
def wZ(w:World)(I:Nat->Prop)(ι:dX)(H:aB)(c:Array Value)(l:List AV):Prop :=c.size=l.length/\∀(j:Nat) (a:AV),l[j]?=some a->∃u,c[j]?=some u/\u.oneCell'=true/\VRel w I ι H u a
theorem LV(off:Nat):∀(l:List Value) (k:Nat) (cs:Array Value),
  ((l.zipIdx k).foldl (fun cs p=>cs.setIfInBounds (off+p.2) p.1) cs).size=cs.size /\
  ∀i,((l.zipIdx k).foldl (fun cs p=>cs.setIfInBounds (off+p.2) p.1) cs)[i]?=if off+k<=i/\i<off+k+l.length/\i<cs.size then l[i - (off+k)]? else cs[i]?
 | [],k,cs=>⟨by simp,fun i=>by rw[List.zipIdx_nil,List.foldl_nil,aNt (by simp only[List.length_nil];omega)]⟩
 | v::l,k,cs=>by
  obtain ⟨h1,h2⟩:=LV off l (k+1) (cs.setIfInBounds (off+k) v);simp only[List.zipIdx_cons,List.foldl_cons];refine⟨by rw[h1];simp,fun i=>?_⟩;rw[h2 i];simp only[Array.size_setIfInBounds,aNx];by_cases c1:i=off+k
  ·subst c1;by_cases c2:off+k<cs.size
   ·rw[aNt (by omega),aNu (by omega)];simp[c2]
   rw[aNt (by omega),aNt (by omega)];rw[Array.setIfInBounds];simp[c2]
  by_cases c2:off+k<i/\i<off+k+(l.length+1)/\i<cs.size
  ·rw[aNu (by omega),aNu (by omega)];obtain ⟨n,hn⟩:∃n,i - (off+k)=n+1:=⟨i - (off+k) - 1,by omega⟩;rw[hn,List.getElem?_cons_succ];congr 1;omega
  rw[aNt (by omega),aNt (by omega)];rw[Array.getElem?_setIfInBounds_ne (by omega)]
def MV(l:List AV)(off:Nat)(vs:List AV):List AV:=l.take off++(vs++l.drop (off+vs.length))
theorem wZ.fill{d:Array Value}(hc:wZ w I ι H c l)(hd:wZ w I ι H d vs)(hfit:off+vs.length<=l.length):
  wZ w I ι H (d.zipIdx.foldl (fun cs (x,j)=>cs.setIfInBounds (off+j) x) c) (MV l off vs):=by
 have hf:=LV off d.toList 0 c;have e:d.zipIdx.foldl (fun cs (x,j)=>cs.setIfInBounds (off+j) x) c=(d.toList.zipIdx 0).foldl (fun cs p=>cs.setIfInBounds (off+p.2) p.1) c:=by
  rw[<-Array.foldl_toList,Array.toList_zipIdx]
 rw[e];obtain ⟨h1,h2⟩:=hf;refine⟨by rw[h1,hc.1];simp[MV];omega,fun j a ha=>?_⟩;rw[h2 j];simp only[Nat.add_zero,Array.length_toList,hd.1];unfold MV at ha;by_cases c1:j<off
 ·rw[aNt (by omega)];rw[List.getElem?_append_left (by simp;omega),List.getElem?_take,aNu c1]at ha;exact hc.2 j a ha
 by_cases c2:j<off+vs.length
 ·rw[aNu (by have:=hc.1;omega)];have hmin:min off l.length=off:=by omega
  rw[List.getElem?_append_right (by simp;omega),List.getElem?_append_left (by simp;omega)]at ha;simp only[aOJ,hmin]at ha;obtain ⟨u,q1,q2,q3⟩:=hd.2 (j - off) a ha;exact⟨u,by simpa using q1,q2,q3⟩
 rw[aNt (by omega)];have hmin:min off l.length=off:=by omega
 rw[List.getElem?_append_right (by simp;omega),List.getElem?_append_right (by simp;omega),List.getElem?_drop]at ha;simp only[aOJ,hmin]at ha;rw[show off+vs.length+(j - off - vs.length)=j by omega]at ha;exact hc.2 j a ha
theorem wZ.of_cells{v:Value}(hv:VRel w I ι H v a)(h:SX a=some l):wZ w I ι H v.cells l :=let ⟨h1,_,h3⟩:=GZ hv h;⟨h1,h3⟩
def mW(E:bS):List (Nat×Operand)->Option (List (Nat×AV))
 | []=>some []
 |(i,x)::r=>match aO E x,mW E r with
  |some v,some vs=>some ((i,v)::vs)
  |_,_=>none
def yU(place:Nat->Option (Nat×Nat))(l:List AV):List (Nat×AV)->Option (List AV)
 | []=>some l
 |(i,a)::r=>match place i,SX a with
  |some (off,size),some vs=>if vs.length=size/\off+size<=l.length then yU place (MV l off vs) r else none
  |_,_=>none
theorem wZ.fills{a:Act}(he:iB w I ι H E a)(place:Nat->Option (Nat×Nat)):∀ {ps:List (Nat×Operand)} {aps:List (Nat×AV)} {c:Array Value} {l l':List AV},
  mW E ps=some aps->wZ w I ι H c l->yU place l aps=some l'->∃c',Instr.fill place c (ps.map fun p=>(p.1,a.eval p.2))=some c'/\wZ w I ι H c' l':=by
 intro ps
 induction ps with
 |nil =>
  intro aps c l l' h1 h2 h3;simp[mW]at h1;subst h1;simp[yU]at h3;subst h3;exact⟨c,rfl,h2⟩
 | cons p r ih =>
  obtain ⟨i,x⟩:=p;intro aps c l l' h1 h2 h3;unfold mW at h1
  split at h1
  ·rename_i v vs e1 e2;cases h1;unfold yU at h3
   split at h3
   ·rename_i off size us e3 e4
    split at h3
    ·rename_i hfit;have hcr:=wZ.of_cells (aI he e1) e4;have hsz:(a.eval x).cells.size=size:=by rw[hcr.1];exact hfit.1
     have hcl:c.size=l.length:=h2.1;have hnew:=wZ.fill (off:=off) h2 hcr (by rw[hfit.1];exact hfit.2);obtain ⟨c',k1,k2⟩:=ih e2 hnew h3;refine⟨c',?_,k2⟩;have hneg:¬ ((a.eval x).cells.size≠size\/off+(a.eval x).cells.size > c.size):=by
      have:=hfit.2;omega
     simp only[List.map_cons,Instr.fill,e3];rw[aNt (by simpa using hneg)];exact k1
    cases h3
   cases h3
  cases h1
section
variable{x y:Operand}
theorem F7{fs:Array Field}{places:Array (Nat×Nat)}(ho:o.op=.build T parts)(hS:P.underlying T=some (.struct fs))
  (hz:∀w,(zeroValue T).run P w=.ok z w) (hv:ZV z v0) (hl0:SX v0=some l0) (hpl:∀w,((fs.mapM fun f=>do pure (f.offset,<-sizeOf f.type)):Sem (Array (Nat×Nat))).run P w=.ok places w)
  (hp:mW E parts.toList=some aps) (hf:yU (places[·]?) l0 aps=some l):cH P N o E H (.agg l) H :=
 .of_run fun a w I ι _ he=>by
  have hc0:=wZ.of_cells (ZV.rel (w:=w) (I:=I) (ι:=ι) (H:=H) hv) hl0;obtain ⟨c',h1,h2⟩:=wZ.fills he (places[·]?) hp hc0 hf;refine⟨.agg c',?_,.agg h2.1 (fun j u hu=>?_) (fun j u b hu hb=>?_)⟩
  ·have h1':Instr.fill (places[·]?) z.cells (parts.map fun p=>(p.1,a.eval p.2)).toList=some c':=by rw[Array.toList_map];exact h1
   simp only[execOp,ho,Instr.build,Sem.run_bind,hz,run_underlying hS,hpl,Result.andThen_ok,h1',Sem.run_pure]
  ·have hlt:j<l.length:=by rw[<-h2.1];exact(Array.getElem?_eq_some_iff.1 hu).1
   obtain ⟨u',q1,q2,_⟩:=h2.2 j _ (aOA hlt);rw[hu]at q1;cases q1;exact q2
  obtain ⟨u',q1,_,q3⟩:=h2.2 j b hb;rw[hu]at q1;cases q1;exact q3
theorem NV(ho:o.op=.build T parts)(hS:P.underlying T=some (.array n e))
  (hz:∀w,(zeroValue T).run P w=.ok z w) (hv:ZV z v0) (hl0:SX v0=some l0) (hs:∀w,(sizeOf e).run P w=.ok sz w)
  (hp:mW E parts.toList=some aps) (hf:yU (fun i=>some (i*sz,sz)) l0 aps=some l):cH P N o E H (.agg l) H :=
 .of_run fun a w I ι _ he=>by
  have hc0:=wZ.of_cells (ZV.rel (w:=w) (I:=I) (ι:=ι) (H:=H) hv) hl0;obtain ⟨c',h1,h2⟩:=wZ.fills he (fun i=>some (i*sz,sz)) hp hc0 hf;refine⟨.agg c',?_,.agg h2.1 (fun j u hu=>?_) (fun j u b hu hb=>?_)⟩
  ·have h1':Instr.fill (fun i=>some (i*sz,sz)) z.cells (parts.map fun p=>(p.1,a.eval p.2)).toList=some c':=by rw[Array.toList_map];exact h1
   simp only[execOp,ho,Instr.build,Sem.run_bind,hz,run_underlying hS,hs,Result.andThen_ok,h1',Sem.run_pure]
  ·have hlt:j<l.length:=by rw[<-h2.1];exact(Array.getElem?_eq_some_iff.1 hu).1
   obtain ⟨u',q1,q2,_⟩:=h2.2 j _ (aOA hlt);rw[hu]at q1;cases q1;exact q2
  obtain ⟨u',q1,_,q3⟩:=h2.2 j b hb;rw[hu]at q1;cases q1;exact q3
def H7:Nat->List (Nat×AV)->Option (List (List AV))
 |_,[]=>some []
 |k,(i,a)::r=>match Nat.beq i k,SX a,H7 (k+1) r with
  |true,some l,some ls=>some (l::ls)
  |_,_,_=>none
theorem P1{a:Act}(he:iB w I ι H E a)(sz:Nat):∀ {ps:List (Nat×Operand)} {aps:List (Nat×AV)} {rows:List (List AV)} {k:Nat} {c:Array Value},
  mW E ps=some aps->H7 k aps=some rows->(∀r∈rows,r.length=sz)->(k+rows.length)*sz<=c.size ->
  ∃c',Instr.fill (fun i=>some (i*sz,sz)) c (ps.map fun p=>(p.1,a.eval p.2))=some c'/\c'.size=c.size/\(∀i,i<k*sz->c'[i]?=c[i]?) /\
   ∀(m:Nat) (r:List AV),rows[m]?=some r->∀(j:Nat) (b:AV),r[j]?=some b->∃u,c'[(k+m)*sz+j]?=some u/\u.oneCell'=true/\VRel w I ι H u b:=by
 intro ps
 induction ps with
 |nil =>
  intro aps rows k c h1 h2 h3 h4;simp[mW]at h1;subst h1;simp[H7]at h2;subst h2;exact⟨c,rfl,rfl,fun _ _=>rfl,by simp⟩
 | cons p r ih =>
  obtain ⟨i,x⟩:=p;intro aps rows k c h1 h2 h3 h4;unfold mW at h1
  split at h1
  ·rename_i v vs e1 e2;cases h1;unfold H7 at h2
   split at h2
   ·rename_i l ls e3 e4 e5;cases h2;have hik:i=k:=Nat.eq_of_beq_eq_true e3;subst hik;have hll:l.length=sz:=h3 l (by simp);have hcr:=wZ.of_cells (aI he e1) e4;have hlen:(i+(ls.length+1))*sz<=c.size:=by simpa using h4
    have hfit:i*sz+sz<=c.size:=by
     have:(i+1)*sz<=(i+(ls.length+1))*sz:=Nat.mul_le_mul_right _ (by omega);rw[Nat.add_mul]at this;omega
    obtain ⟨f1,f2⟩:=LV (i*sz) (a.eval x).cells.toList 0 c;have e:(a.eval x).cells.zipIdx.foldl (fun cs (x,j)=>cs.setIfInBounds (i*sz+j) x) c=((a.eval x).cells.toList.zipIdx 0).foldl (fun cs p=>cs.setIfInBounds (i*sz+p.2) p.1) c:=by
     rw[<-Array.foldl_toList,Array.toList_zipIdx]
    rw[<-e]at f1 f2;have hsz:(a.eval x).cells.size=sz:=by rw[hcr.1,hll]
    obtain ⟨c',k1,k2,k3,k4⟩:=ih (k:=i+1) (c:=(a.eval x).cells.zipIdx.foldl (fun cs (x,j)=>cs.setIfInBounds (i*sz+j) x) c) e2 e5 (fun r hr=>h3 r (by simp[hr])) (by rw[f1];rw[show i+1+ls.length=i+(ls.length+1)by omega];exact hlen);refine⟨c',?_,k2.trans f1,fun q hq=>?_,fun m r hr j b hb=>?_⟩
    ·have hneg:¬ ((a.eval x).cells.size≠sz\/i*sz+(a.eval x).cells.size > c.size):=by omega
     simp only[List.map_cons,Instr.fill];rw[aNt (by simpa using hneg)];exact k1
    ·have hq2:q<(i+1)*sz:=by rw[Nat.add_mul];omega
     rw[k3 q hq2,f2 q,aNt (by omega)]
    cases m with
    |zero =>
     simp at hr;subst hr;obtain ⟨u,q1,q2,q3⟩:=hcr.2 j b hb;have hj:j<sz:=by rw[<-hll];exact(aNz.1 hb).1
     refine⟨u,?_,q2,q3⟩;have hq2:(i+0)*sz+j<(i+1)*sz:=by rw[Nat.add_zero,Nat.add_mul i 1,Nat.one_mul];omega
     rw[k3 _ hq2,f2,aNu (by simp;omega)]
     simpa using q1
    |succ m =>
     simp at hr;obtain ⟨u,q1,q2,q3⟩:=k4 m r hr j b hb;exact⟨u,by rw[show i+(m+1)=i+1+m by omega];exact q1,q2,q3⟩
   cases h2
  cases h1
theorem Rel.newImm{t:TypeId}(hr:Rel I ι H w)(hos:w'.os=w.os)(htape:w'.tape=w.tape)(hout:w'.output=w.output)(hw:w'.heap=w.heap.push (.cells c t (0,0))):
  Rel (fun b=>I b\/b=w.heap.size) ι H w'/\Step I ι H w (fun b=>I b\/b=w.heap.size) ι H w':=by
 have holdb:∀x,x<w.heap.size->w'.heap[x]?=w.heap[x]?:=fun x hx=>by rw[hw,Array.getElem?_push,aNt (Nat.ne_of_lt hx)]
 have hsize:w'.heap.size=w.heap.size+1:=by rw[hw];simp
 have hst:Step I ι H w (fun b=>I b\/b=w.heap.size) ι H w':=by
  refine⟨hos,htape,hout,by omega,fun a ha _=>?_,fun _ h=>.inl h,fun b h=>?_,fun _ h=>.inl h,fun x hx _=>holdb x hx,fun _ o h=>⟨o,h,aOB _,fun _=>⟨rfl,rfl,fun _=>aOB _⟩⟩⟩
  ·simp[World.frozen?,holdb a.block ha]
  rcases h with h|h
  ·exact .inl h
  exact .inr (.inr (by omega))
 refine⟨⟨fun x hx=>?_,fun j o hj=>?_,hr.inj,hst.glob hr⟩,hst⟩
 ·rcases hx with h|h
  ·have:=hr.imm x h;omega
  omega
 refine(hr.obj j o hj).keep rfl (fun b' cap' e1 hlt=>⟨holdb b' hlt,fun e3 h=>?_⟩) (fun r _ a _ v hv=>hv.mono hr hst);rcases h with h|h
 ·exact e3 h
 omega
theorem sK(n:Nat)(zc:Array Value):((Array.range n).map (zc[· % zc.size]!)).size=n:=by simp
theorem KR(ho:o.op=.buildSlice T n parts)(hT:P.underlying T=some (.slice e))(hs:∀w,(sizeOf e).run P w=.ok sz w)
  (hz:∀w,(zeroValue e).run P w=.ok z w) (hn:n*sz<=16777216) (hsz:0<sz) (hp:mW E parts.toList=some aps) (hr:H7 0 aps=some rows) (hps:ps.map (·.map AV.pv)=rows) (hlen:ps.length=n) (hrl:∀r∈ps,r.length=sz):cH P N o E H (.pv (.sl ps)) H:=by
 intro a w I ι _ _ hrel he K Q hk;subst hps;have hf:=fun zc:Array Value=>P1 (c:=(Array.range (n*sz)).map (zc[· % zc.size]!)) he sz hp hr (fun r hr=>by
  obtain ⟨q,h1,h2⟩:=List.mem_map.1 hr;rw[<-h2];simpa using hrl q h1) (by rw[sK];simp[hlen])
 obtain ⟨c',k1,k2,_,k4⟩:=hf z.cells;have hsz':c'.size=n*sz:=by rw[k2,sK]
 have hn':¬ (n*sz > 2 ^ 24):=by omega
 have hrun:∃c'',(Instr.buildSlice T n (parts.map fun p=>(p.1,a.eval p.2))).run P w=.ok (.slice (some ⟨w.heap.size,0,none⟩) n n) (w.alloc (.cells c'' e))/\c''.size=n*sz /\
   ∀(m:Nat) (r:List AV),(ps.map (·.map AV.pv))[m]?=some r->∀(j:Nat) (b:AV),r[j]?=some b->∃u,c''[m*sz+j]?=some u/\u.oneCell'=true/\VRel w I ι H u b:=by
  by_cases h0:n*sz=0
  ·obtain ⟨c0,q1,q2,_,q4⟩:=hf #[];refine⟨c0,?_,by rw[q2,sK],fun m r h1 j b h2=>by have:=q4 m r h1 j b h2;simpa using this⟩;rw[<-Array.toList_map]at q1;simp only[h0]at q1;simp only[Instr.buildSlice,Sem.run_bind,run_underlying hT,Result.andThen_ok,hs,Sem.run_ite,hn',if_false,h0,if_true,Sem.run_pure,q1,newRow,run_newObj];rfl
  refine⟨c',?_,hsz',fun m r h1 j b h2=>by have:=k4 m r h1 j b h2;simpa using this⟩;rw[<-Array.toList_map]at k1;simp only[Instr.buildSlice,Sem.run_bind,run_underlying hT,Result.andThen_ok,hs,Sem.run_ite,hn',if_false,h0,hz,Sem.run_pure,k1,newRow,run_newObj];rfl
 obtain ⟨c2,g1,g2,g3⟩:=hrun;obtain ⟨m1,m2⟩:=Rel.newImm (c:=c2) (t:=e) (w':=w.alloc (.cells c2 e)) hrel rfl rfl rfl rfl;unfold Oper.wpW execOp;simp only[ho,Sem.run_bind,g1,Result.andThen_ok,Sem.run_pure];refine hk _ _ _ ι _ _ ⟨rfl,rfl⟩ (.pv ?_) m1 m2;have hcell:∀j,(w.alloc (.cells c2 e)).cell? ⟨w.heap.size,j,none⟩=c2[j]?:=fun j=>World.cell?_alloc_new w c2 e j;have:=PRep.sl (w:=w.alloc (.cells c2 e)) (I:=fun b=>I b\/b=w.heap.size) w.heap.size 0 n sz ps (fun i k=>(c2[i*sz+k]?).getD undef) (.inr rfl) hsz hrl (by omega)
  (fun i r hi k p hk=>by
   obtain ⟨u,q1,q2,q3⟩:=g3 i (r.map .pv) (by simp[hi]) k (.pv p) (by simp[hk]);rw[hcell,aON,q1];rfl)
  (fun i r hi k p hk=>by
   obtain ⟨u,q1,q2,q3⟩:=g3 i (r.map .pv) (by simp[hi]) k (.pv p) (by simp[hk]);rw[q1];exact(q3.mono hrel m2).pv_inv)
 rw[hlen]at this;exact this
theorem CV(ho:o.op=.buildSlice T n parts)(hT:P.underlying T=some (.slice e))(hs:∀w,(sizeOf e).run P w=.ok sz w)
  (hz:∀w,(zeroValue e).run P w=.ok z w) (hn:n*sz<=16777216) (hsz:0<sz) (hp:mW E parts.toList=some aps) (hr:H7 0 aps=some rows) (hlen:rows.length=n) (hrl:∀r∈rows,r.length=sz) (hid:H.get id=none) :
  cH P N o E H (.osl id 0 0 n) ((id,⟨0,sz,e,rows⟩)::H):=by
 intro a w I ι _ _ hrel he K Q hk;have hf:=fun zc:Array Value=>P1 (c:=(Array.range (n*sz)).map (zc[· % zc.size]!)) he sz hp hr hrl (by rw[sK];simp[hlen]);have hn':¬ (n*sz > 2 ^ 24):=by omega
 have hrun:∃c'',(Instr.buildSlice T n (parts.map fun p=>(p.1,a.eval p.2))).run P w=.ok (.slice (some ⟨w.heap.size,0,none⟩) n n) (w.alloc (.cells c'' e))/\c''.size=n*sz /\
   ∀(m:Nat) (r:List AV),rows[m]?=some r->∀(j:Nat) (b:AV),r[j]?=some b->∃u,c''[m*sz+j]?=some u/\u.oneCell'=true/\VRel w I ι H u b:=by
  by_cases h0:n*sz=0
  ·obtain ⟨c0,q1,q2,_,q4⟩:=hf #[];refine⟨c0,?_,by rw[q2,sK],fun m r h1 j b h2=>by have:=q4 m r h1 j b h2;simpa using this⟩;rw[<-Array.toList_map]at q1;simp only[h0]at q1;simp only[Instr.buildSlice,Sem.run_bind,run_underlying hT,Result.andThen_ok,hs,Sem.run_ite,hn',if_false,h0,if_true,Sem.run_pure,q1,newRow,run_newObj];rfl
  obtain ⟨c',k1,k2,_,k4⟩:=hf z.cells;refine⟨c',?_,by rw[k2,sK],fun m r h1 j b h2=>by have:=k4 m r h1 j b h2;simpa using this⟩;rw[<-Array.toList_map]at k1;simp only[Instr.buildSlice,Sem.run_bind,run_underlying hT,Result.andThen_ok,hs,Sem.run_ite,hn',if_false,h0,hz,Sem.run_pure,k1,newRow,run_newObj];rfl
 obtain ⟨c2,g1,g2,g3⟩:=hrun;have hmax:n<=maxLen:=by
  have:n<=n*sz:=Nat.le_mul_of_pos_right _ hsz;simp only[maxLen];omega
 obtain ⟨m1,m2⟩:=Rel.place (H':=(id,⟨0,sz,e,rows⟩)::H) (id:=id) (cap:=n) (ob':=⟨0,sz,e,rows⟩) (cs':=c2) (w':=w.alloc (.cells c2 e)) hrel rfl rfl rfl rfl (fun o ho=>by rw[hid]at ho;cases ho) hsz g2 (by simp[hlen]) hmax hrl g3
  (get_cons_same _ _ _) (fun j hj=>get_cons_other _ _ hj)
 unfold Oper.wpW execOp;simp only[ho,Sem.run_bind,g1,Result.andThen_ok,Sem.run_pure];exact hk _ _ I _ _ _ ⟨rfl,rfl⟩ (.osl ⟨0,sz,e,rows⟩ (get_cons_same _ _ _) (aOB _) rfl fun _=>⟨hsz,by simp[hlen],.inl ⟨w.heap.size,n,0,by simp,by simp,fun _=>by simp⟩⟩) m1 m2
end
end
section
def WO(P:Program)(e:TypeId)(sz bytes:Nat):Prop:=∃i z,P.info? e=some i/\i.zero=some z/\i.size=sz/\i.bytes=bytes/\z.cells.size=sz/\0<sz
theorem xP{f:Nat->α}{u:α}(h:((List.range m).map f)[j]?=some u):j<m/\u=f j:=by
 rw[aOP]at h;by_cases hj:j<m
 ·rw[List.getElem?_range hj]at h;cases h;exact⟨hj,rfl⟩
 rw[List.getElem?_eq_none (by simp;omega)]at h;cases h
theorem OV(f:Nat->α)(hj:j<m):((List.range m).map f)[j]?=some (f j):=by rw[aOP,List.getElem?_range hj];rfl
def pC(w:World)(I:Nat->Prop)(ι:dX)(H:aB)(sz:Nat)(l:List Value)(rows:List (List AV)):Prop :=∀(i:Nat) (r:List AV),rows[i]?=some r->∀(k:Nat) (a:AV),r[k]?=some a->∃u,l[i*sz+k]?=some u/\u.oneCell'=true/\VRel w I ι H u a
theorem pC.app{l1 l2 l3:List Value}{rows1:List (List AV)}(h1:pC w I ι H sz l1 rows1)(hl1:l1.length=rows1.length*sz)(h2:pC w I ι H sz l2 rows2):
  pC w I ι H sz (l1++(l2++l3)) (rows1++rows2):=by
 intro i r hi k a hk;by_cases c:i<rows1.length
 ·rw[List.getElem?_append_left c]at hi;obtain ⟨u,q1,q2,q3⟩:=h1 i r hi k a hk;have hlt:=(aNz.1 q1).1;exact⟨u,by rw[List.getElem?_append_left hlt];exact q1,q2,q3⟩
 rw[List.getElem?_append_right (by omega)]at hi;obtain ⟨u,q1,q2,q3⟩:=h2 _ r hi k a hk;have hlt:=(aNz.1 q1).1;have hm:(i - rows1.length)*sz+rows1.length*sz=i*sz:=by rw[<-Nat.add_mul];congr 1;omega
 refine⟨u,?_,q2,q3⟩;rw[List.getElem?_append_right (by omega),List.getElem?_append_left (by omega)];rw[hl1,show i*sz+k - rows1.length*sz=(i - rows1.length)*sz+k by omega];exact q1
def Src(w:World)(I:Nat->Prop)(ι:dX)(H:aB)(sz:Nat)(v:Value)(rows:List (List AV)):Prop :=(∃a c news,v=.slice (some a) rows.length c/\news.length=rows.length*sz/\(∀j u,news[j]?=some u->w.cell? (a.add j)=some u)/\(∀u∈news,u.oneCell'=true)/\pC w I ι H sz news rows) \/
 (v=.slice none 0 0/\rows=[])
theorem aEi(h:j<n*sz):j / sz<n:=(Nat.div_lt_iff_lt_mul (by
 rcases Nat.eq_zero_or_pos sz with e|e
 ·subst e;simp at h
 exact e)).2 h
theorem R7(h:k<sz):(i*sz+k) / sz=i:=by rw[Nat.add_comm,Nat.add_mul_div_right _ _ (by omega),Nat.div_eq_of_lt h];omega
theorem BR(h:k<sz):(i*sz+k) % sz=k:=by rw[Nat.add_comm,Nat.add_mul_mod_self_right,Nat.mod_eq_of_lt h]
theorem aCx{v:Value}(h:VRel w I ι H v (.pv (.sl ps)))(hsz:0<sz)(hl:∀r∈ps,r.length=sz):Src w I ι H sz v (ps.map (·.map .pv)):=by
 have hp:=h.pv_inv;cases hp with
 |nilsl=>exact .inr ⟨rfl,rfl⟩
 |empsl a=>exact .inl ⟨a,0,[],rfl,by simp,by simp,by simp,by intro i r hi;simp at hi⟩
 | sl b off cap sz' _ cs hI hsz' hlen hcap hc hpp =>
  by_cases hne:ps=[]
  ·subst hne;exact .inl ⟨⟨b,off,none⟩,cap,[],rfl,by simp,by simp,by simp,by intro i r hi;simp at hi⟩
  have he:sz'=sz:=by
   obtain ⟨r,rs,e⟩:=List.exists_cons_of_ne_nil hne;have hm:r∈ps:=by rw[e];simp
   rw[<-hlen r hm,hl r hm]
  subst he
  let f:Nat->Value:=fun j=>cs (j / sz') (j % sz')
  have hget:∀j,j<ps.length*sz'->∃r p,ps[j / sz']?=some r/\r[j % sz']?=some p:=by
   intro j hj;have h1:=aEi hj;have hm:ps[j / sz']∈ps:=List.getElem_mem h1;have h2:j % sz'<ps[j / sz'].length:=by rw[hlen _ hm];exact Nat.mod_lt _ hsz'
   exact⟨_,_,aOA h1,aOA h2⟩
  refine .inl ⟨⟨b,off,none⟩,cap,(List.range (ps.length*sz')).map f,by simp,by simp,?_,?_,?_⟩
  ·intro j u hu;obtain ⟨hj,rfl⟩:=xP hu;obtain ⟨r,p,h1,h2⟩:=hget j hj;rw[Addr.add_lit];have:=hc _ r h1 _ p h2;rw[show off+j / sz'*sz'+j % sz'=off+j by have:=Nat.div_add_mod' j sz';omega]at this;exact this
  ·intro u hu;obtain ⟨j,hj0⟩:=aOQ.1 hu;obtain ⟨hj,rfl⟩:=xP hj0;obtain ⟨r,p,h1,h2⟩:=hget j hj;exact(hpp _ r h1 _ p h2).oneCell
  intro i r hi k a hk;rw[aOP]at hi;cases e:ps[i]? with
  |none=>rw[e]at hi;cases hi
  | some q =>
   rw[e]at hi;cases hi;rw[aOP]at hk;cases e2:q[k]? with
   |none=>rw[e2]at hk;cases hk
   | some p =>
    rw[e2]at hk;cases hk;have hi2:i<ps.length:=(aNz.1 e).1;have hk2:k<sz':=by rw[<-hlen q (aOF e)];exact(aNz.1 e2).1
    have hlt:i*sz'+k<ps.length*sz':=by
     have:(i+1)*sz'<=ps.length*sz':=Nat.mul_le_mul_right _ hi2;rw[Nat.add_mul]at this;omega
    refine⟨f (i*sz'+k),OV f hlt,?_,?_⟩
    ·simp only[f,R7 hk2,BR hk2];exact(hpp i q e k p e2).oneCell
    simp only[f,R7 hk2,BR hk2];exact .pv (hpp i q e k p e2)
theorem Z1{v:Value}(hr:Rel I ι H w)(h:VRel w I ι H v (.osl id g off len))(hH:H.get id=some ob)(hg:ob.g=g)(hsz:ob.sz=sz):
  Src w I ι H sz v ((ob.rows.drop off).take len):=by
 obtain ⟨hle,⟨b,cap,oo,h1,h2,h3⟩|⟨h1,h2,h3,h4⟩⟩:=hU h hH hg
 ·obtain ⟨p1,p2,⟨b',cap',cs,e1,e2,e3,e4,e5,e5',e6⟩|⟨e1,_⟩⟩:=(hr.obj id ob hH).cells (mR h hH hg)
  ·rw[h1]at e1;cases e1;subst hsz;have hrl:((ob.rows.drop off).take len).length=len:=by simp;omega
   have hget:∀j,j<len*ob.sz->∃u,cs[off*ob.sz+j]?=some u/\u.oneCell'=true/\∀a r,ob.rows[off+j / ob.sz]?=some r->r[j % ob.sz]?=some a->VRel w I ι H u a:=by
    intro j hj;have h1':=aEi hj;have hlt:off+j / ob.sz<ob.rows.length:=by omega
    have hm:=List.getElem_mem hlt;have h2':j % ob.sz<ob.rows[off+j / ob.sz].length:=by rw[p2 _ hm];exact Nat.mod_lt _ p1
    obtain ⟨u,q1,q2,q3⟩:=e6 _ _ (aOA hlt) _ _ (aOA h2');refine⟨u,?_,q2,fun a r hr' ha=>?_⟩
    ·rw[Nat.add_mul,show off*ob.sz+j / ob.sz*ob.sz+j % ob.sz=off*ob.sz+j by have:=Nat.div_add_mod' j ob.sz;omega]at q1;exact q1
    rw[aOA hlt]at hr';cases hr';rw[aOA h2']at ha;cases ha;exact q3
   let f:Nat->Value:=fun j=>(cs[off*ob.sz+j]?).getD undef
   have hf:∀j (hj:j<len*ob.sz),cs[off*ob.sz+j]?=some (f j)/\(f j).oneCell'=true/\∀a r,ob.rows[off+j / ob.sz]?=some r->r[j % ob.sz]?=some a->VRel w I ι H (f j) a:=by
    intro j hj;obtain ⟨u,q1,q2,q3⟩:=hget j hj;have hfj:f j=u:=by simp only[f,q1,Option.getD_some]
    rw[hfj];exact⟨q1,q2,q3⟩
   by_cases hl0:len=0
   ·subst hl0;have:(ob.rows.drop off).take 0=[]:=by simp
    rw[this];exact .inl ⟨⟨b,oo,none⟩,cap - off,[],by rw[h2];rfl,by simp,by simp,by simp,by intro i r hi;simp at hi⟩
   have hoo:=h3 (by omega);subst hoo;refine .inl ⟨⟨b,off*ob.sz,none⟩,cap - off,(List.range (len*ob.sz)).map f,by rw[h2,hrl],by simp[hrl],?_,?_,?_⟩
   ·intro j u hu;obtain ⟨hj,rfl⟩:=xP hu;rw[Addr.add_lit,cell_of_row w b _ cs ob.ty (0,0) e2];exact(hf j hj).1
   ·intro u hu;obtain ⟨j,hj0⟩:=aOQ.1 hu;obtain ⟨hj,rfl⟩:=xP hj0;exact(hf j hj).2.1
   intro i r hi k a hk;have hi2:i<len:=by rw[<-hrl];exact(aNz.1 hi).1
   rw[List.getElem?_take,aNu hi2,List.getElem?_drop]at hi;have hk2:k<ob.sz:=by rw[<-p2 r (aOF hi)];exact(aNz.1 hk).1
   have hlt:i*ob.sz+k<len*ob.sz:=by
    have:(i+1)*ob.sz<=len*ob.sz:=Nat.mul_le_mul_right _ hi2;rw[Nat.add_mul]at this;omega
   refine⟨f (i*ob.sz+k),OV f hlt,(hf _ hlt).2.1,(hf _ hlt).2.2 a r ?_ ?_⟩
   ·rw[R7 hk2];exact hi
   rw[BR hk2];exact hk
  rw[h1]at e1;cases e1
 subst h3 h4;exact .inr ⟨h2,by simp⟩
section
variable{x y:Operand}
theorem uN{t ty:TypeId}{i:TypeInfo}(ht:P.underlying t=some (.slice e))(hi:P.info? e=some i)(b:Option Addr)(n c:Nat)(hn:n<=c):
  (Builtin.append_ #[t,t] ty #[.slice b n c,.slice none 0 0]).run P w=.ok (.slice b n c) w:=by
 cases b<;>simp[Builtin.append_,run_underlying ht,sizeOf,typeInfo,hi,Builtin.lenOf,hn,Builtin.firstCells,storeCells]
theorem X7(ho:o.op=.call {callee:=.builtin .append,args:=#[x,y],argTypes:=#[T,T]})(hT:P.underlying T=some (.slice e))(hinf:WO P e sz bytes)
  (hx:aO E x=some (.osl id g 0 n)) (hH:H.get id=some ob) (hg:ob.g=g) (hosz:ob.sz=sz) (hty:ob.ty=e) (hn:ob.rows.length=n)
  (hsrc:∀(a:Act) (w:World) (I:Nat->Prop) (ι:dX),Rel I ι H w->iB w I ι H E a->Src w I ι H sz (a.eval y) rows2) (hrl2:∀r∈rows2,r.length=sz) (hm:rows2.length=m) (hbytes:(n+m)*bytes<=140737488355328) (hmax:n+m<=9223372036854775807)
  (hH2:H.set id ⟨g+1,sz,e,ob.rows++rows2⟩=H2):cH P N o E H (.osl id (g+1) 0 (n+m)) H2:=by
 intro a w I ι _ _ hr he K Q hk;obtain ⟨i,z,hi,hz,hsize,hby,hzs,hsz0⟩:=hinf;subst hg hosz hty hn hm hH2;have hml:ob.rows.length+rows2.length<=maxLen:=by simp only[maxLen];omega
 have h1:(H.set id ⟨ob.g+1,ob.sz,ob.ty,ob.rows++rows2⟩).get id=some ⟨ob.g+1,ob.sz,ob.ty,ob.rows++rows2⟩:=aB.get_set_same _ _ _;have h2:∀j,j≠id->(H.set id ⟨ob.g+1,ob.sz,ob.ty,ob.rows++rows2⟩).get j=H.get j:=fun j hj=>aB.get_set_other _ _ hj;have hpos:0<ob.sz:=mR (aI he hx) hH rfl;have p2:=((hr.obj id ob hH).cells hpos).2.1;have hrl:∀r∈ob.rows++rows2,r.length=ob.sz:=fun r hr'=>by
  rcases List.mem_append.1 hr' with h|h
  ·exact p2 r h
  exact hrl2 r h
 have fin:∀(v':Value) (w':World) (ι':dX),(Builtin.append_ #[T,T] o.type #[a.eval x,a.eval y]).run P w=.ok v' w'->VRel w' I ι' (H.set id ⟨ob.g+1,ob.sz,ob.ty,ob.rows++rows2⟩) v' (.osl id (ob.g+1) 0 (ob.rows.length+rows2.length)) ->
   Rel I ι' (H.set id ⟨ob.g+1,ob.sz,ob.ty,ob.rows++rows2⟩) w'->Step I ι H w I ι' (H.set id ⟨ob.g+1,ob.sz,ob.ty,ob.rows++rows2⟩) w'->o.wpW P a w K Q:=by
  intro v' w' ι' hrun k1 k2 k3;unfold Oper.wpW execOp;simp only[ho,resolve,invoke,builtin,Sem.run_bind,Sem.run_pure,Result.andThen_ok,List.map_toArray,List.map_cons,List.map_nil,hrun];exact hk v' w' I ι' _ _ ⟨rfl,rfl⟩ k1 k2 k3
 have hs:=hsrc a w I ι hr he;have hvx:=aI he hx;obtain ⟨_,hcase⟩:=hU hvx hH rfl;rcases hcase with⟨b,cap,oo,c1,c2,c3⟩|⟨c1,c2,_,c4⟩
 ·obtain ⟨p1,_,⟨b',cap',cs,e1,e2,e3,e4,e5,e5',e6⟩|⟨e1,_⟩⟩:=(hr.obj id ob hH).cells hpos
  ·rw [c1] at e1;cases e1;have hoo:oo=0:=by rw [c3 (by omega)];simp
   subst hoo;rw[Nat.sub_zero]at c2;have olds:pC w I ι H ob.sz (cs.toList.take (ob.rows.length*ob.sz)) ob.rows:=by
    intro i' r hi' k a' hk';obtain ⟨u,q1,q2,q3⟩:=e6 i' r hi' k a' hk';have hk2:k<ob.sz:=by rw[<-p2 r (aOF hi')];exact(aNz.1 hk').1
    have hi2:i'<ob.rows.length:=(aNz.1 hi').1;have hlt:i'*ob.sz+k<ob.rows.length*ob.sz:=by
     have:(i'+1)*ob.sz<=ob.rows.length*ob.sz:=Nat.mul_le_mul_right _ hi2;rw[Nat.add_mul]at this;omega
    exact⟨u,by rw[List.getElem?_take,aNu hlt];simpa using q1,q2,q3⟩
   have hle:ob.rows.length*ob.sz<=cs.size:=by rw[e4];exact Nat.mul_le_mul_right _ e5
   have holen:(cs.toList.take (ob.rows.length*ob.sz)).length=ob.rows.length*ob.sz:=by simp;omega
   rcases hs with⟨ad,c,news,s1,s2,s3,s4,s5⟩|⟨s1,s2⟩
   ·by_cases hroom:ob.rows.length+rows2.length<=cap
    ·-- there is room
     have hfit:ob.rows.length*i.size+news.length<=cs.size:=by
      rw[s2,hsize,e4,<-Nat.add_mul];exact Nat.mul_le_mul_right _ hroom
     have hrun:=run_append_room (P:=P) w T o.type ob.ty i hT hi b ob.rows.length cap cs e2 ad rows2.length c news (by rw[hsize];exact s2) s3 s4 hroom hfit;rw[hsize]at hrun;obtain ⟨k2,k3⟩:=Rel.update (H':=H.set id ⟨ob.g+1,ob.sz,ob.ty,ob.rows++rows2⟩) (ob':=⟨ob.g+1,ob.sz,ob.ty,ob.rows++rows2⟩)
      (cs':=(cs.toList.take (ob.rows.length*ob.sz)++news++cs.toList.drop (ob.rows.length*ob.sz+news.length)).toArray) hr hH c1 e2 (by simp) rfl rfl (fun e=>by simp at e) (by
       rw[hsize]at hfit;simp only[List.size_toArray,aNw,aOJ,aOK,Array.length_toList];omega) (by simpa using hroom) hrl (fun i' r hi' k a' hk'=>by
        have:=pC.app (l3:=cs.toList.drop (ob.rows.length*ob.sz+news.length)) olds holen s5 i' r hi' k a' hk'
        simpa[List.append_assoc]using this) h1 h2
     exact fin _ _ ι (by rw[c2,s1];exact hrun) (.osl _ h1 (aOB _) rfl fun _=>⟨hpos,by simp,.inl ⟨b,cap,0,c1,by simp,fun _=>by simp⟩⟩) k2 k3
    have holds:∀j v,(cs.toList.take (ob.rows.length*ob.sz))[j]?=some v->w.cell? ((⟨b,0,none⟩:Addr).add j)=some v:=by
     intro j v hv;rw[Addr.add_lit,aON,cell_of_row w b _ cs ob.ty (0,0) e2];rw[List.getElem?_take]at hv
     split at hv
     ·simpa using hv
     cases hv
    have hrun:=run_append_grow (P:=P) w T o.type ob.ty i z hT hi hz ⟨b,0,none⟩ ob.rows.length cap _ (by rw[hsize];exact holen) holds ad rows2.length c news (by rw[hsize];exact s2) s3 (by omega) (by omega) (growslice_fits (by omega) (by rw[hby];exact hbytes));have hge:=grownCap_ge w (ob.rows.length+rows2.length) cap ob.ty;have hcm:=grownCap_le_maxLen w (ob.rows.length+rows2.length) cap ob.ty hml;obtain ⟨k2,k3⟩:=Rel.place (H':=H.set id ⟨ob.g+1,ob.sz,ob.ty,ob.rows++rows2⟩) (id:=id) (cap:=grownCap w (ob.rows.length+rows2.length) cap ob.ty) (ob':=⟨ob.g+1,ob.sz,ob.ty,ob.rows++rows2⟩)
     (cs':=(cs.toList.take (ob.rows.length*ob.sz)).toArray++news.toArray++Builtin.zeroCells z.cells (grownCap w (ob.rows.length+rows2.length) cap ob.ty - (ob.rows.length+rows2.length)))
     (w':=w.drew.alloc (.cells ((cs.toList.take (ob.rows.length*ob.sz)).toArray++news.toArray++Builtin.zeroCells z.cells (grownCap w (ob.rows.length+rows2.length) cap ob.ty - (ob.rows.length+rows2.length))) ob.ty)) hr rfl rfl rfl rfl
     (fun o' ho'=>by rw[hH]at ho';cases ho';simp) p1 (by
      simp only[Array.size_append,List.size_toArray,size_zeroCells,hzs,holen,s2,<-Nat.add_mul];congr 1;omega) (by simpa using hge) hcm hrl (fun i' r hi' k a' hk'=>by
       obtain ⟨u,q1,q2,q3⟩:=pC.app (l3:=(Builtin.zeroCells z.cells (grownCap w (ob.rows.length+rows2.length) cap ob.ty - (ob.rows.length+rows2.length))).toList) olds holen s5 i' r hi' k a' hk';refine⟨u,?_,q2,q3⟩;rw[<-Array.getElem?_toList]
       simpa[List.append_assoc]using q1) h1 h2
    exact fin _ _ _ (by rw[c2,s1];exact hrun) (.osl _ h1 (aOB _) rfl fun _=>⟨hpos,by simp,.inl ⟨w.heap.size,_,0,by simp;rfl,by simp,fun _=>by simp⟩⟩) k2 k3
   subst s2;have hrun:=uN (P:=P) (ty:=o.type) (w:=w) hT hi (some ⟨b,0,none⟩) ob.rows.length cap e5;obtain ⟨k2,k3⟩:=Rel.tick (H':=H.set id ⟨ob.g+1,ob.sz,ob.ty,ob.rows++[]⟩) (ob':=⟨ob.g+1,ob.sz,ob.ty,ob.rows++[]⟩) hr hH (by simp) rfl rfl (by simp) h1 h2;exact fin _ _ ι (by rw[c2,s1];exact hrun) (.osl _ h1 (aOB _) rfl fun _=>⟨hpos,by simp,.inl ⟨b,cap,0,c1,by simp,fun _=>by simp⟩⟩) k2 k3
  rw[c1]at e1;cases e1
 have hnil:ob.rows=[]:=List.eq_nil_of_length_eq_zero c4;have hticks:rows2=[]->o.wpW P a w K Q:=by
  intro h0;subst h0;have hrun:(Builtin.append_ #[T,T] o.type #[a.eval x,a.eval y]).run P w=.ok (.slice none 0 0) w:=by
   rcases hs with⟨ad,c,news,s1,s2,s3,s4,s5⟩|⟨s1,s2⟩
   ·rw[c2,s1];simp[Builtin.append_,run_underlying hT,sizeOf,typeInfo,hi,Builtin.lenOf,Builtin.firstCells,loadCells,loadCellsFrom]
   rw[c2,s1];exact uN (P:=P) (ty:=o.type) (w:=w) hT hi none 0 0 (aOB _)
  obtain ⟨k2,k3⟩:=Rel.tick (H':=H.set id ⟨ob.g+1,ob.sz,ob.ty,ob.rows++[]⟩) (ob':=⟨ob.g+1,ob.sz,ob.ty,ob.rows++[]⟩) hr hH (by simp) rfl rfl (by simp) h1 h2;exact fin _ _ ι hrun (.osl _ h1 (aOB _) rfl fun _=>⟨hpos,by simp,.inr ⟨c1,rfl,rfl,by simp[hnil]⟩⟩) k2 k3
 by_cases h0:rows2=[]
 ·exact hticks h0
 have hpos:0<rows2.length:=List.length_pos_iff.2 h0;rcases hs with⟨ad,c,news,s1,s2,s3,s4,s5⟩|⟨s1,s2⟩
 ·rw [hnil] at hbytes hml hmax;simp only [List.length_nil,aON] at hbytes hml hmax;have hrun:=run_append_nil (P:=P) w T o.type ob.ty i z hT hi hz ad rows2.length c news (by rw [hsize];exact s2) s3 hpos (by omega) (by rw [hby];omega);have hge:=grownCap_ge w rows2.length 0 ob.ty;have hcm:=grownCap_le_maxLen w rows2.length 0 ob.ty hml;obtain ⟨k2,k3⟩:=Rel.place (H':=H.set id ⟨ob.g+1,ob.sz,ob.ty,ob.rows++rows2⟩) (id:=id) (cap:=grownCap w rows2.length 0 ob.ty) (ob':=⟨ob.g+1,ob.sz,ob.ty,ob.rows++rows2⟩)
   (cs':=news.toArray++Builtin.zeroCells z.cells (grownCap w rows2.length 0 ob.ty - rows2.length))
   (w':=w.drew.alloc (.cells (news.toArray++Builtin.zeroCells z.cells (grownCap w rows2.length 0 ob.ty - rows2.length)) ob.ty)) hr rfl rfl rfl rfl
   (fun o' ho'=>by rw[hH]at ho';cases ho';simp) hsz0 (by
    simp only[Array.size_append,List.size_toArray,size_zeroCells,hzs,s2,<-Nat.add_mul];congr 1;omega) (by simpa[hnil]using hge) hcm hrl (fun i' r hi' k a' hk'=>by
     rw[hnil]at hi';simp only[List.nil_append]at hi';obtain ⟨u,q1,q2,q3⟩:=s5 i' r hi' k a' hk';have hlt:=(aNz.1 q1).1;refine⟨u,?_,q2,q3⟩;rw[Array.getElem?_append_left (by simpa using hlt)]
     simpa using q1) h1 h2
  refine fin _ _ _ (by rw[c2,s1];exact hrun) (.osl _ h1 (aOB _) rfl fun _=>⟨(mR (aI he hx) hH rfl:0<ob.sz),by simp,.inl ⟨w.heap.size,_,0,by simp;rfl,by simp[hnil],fun _=>by simp⟩⟩) k2 k3
 exact absurd s2 h0
theorem NW(ho:o.op=.call {callee:=.builtin .append,args:=#[x,y],argTypes:=#[T,T]})(hT:P.underlying T=some (.slice e))(hinf:WO P e sz bytes)
  (hx:aO E x=some (.osl id g 0 n)) (hH:H.get id=some ob) (hg:ob.g=g) (hosz:ob.sz=sz) (hty:ob.ty=e) (hn:ob.rows.length=n)
  (hy:aO E y=some (.pv (.sl ps))) (hrl:∀r∈ps,r.length=sz) (hm:ps.length=m) (hbytes:(n+m)*bytes<=140737488355328) (hmax:n+m<=9223372036854775807)
  (hH2:H.set id ⟨g+1,sz,e,ob.rows++ps.map (·.map AV.pv)⟩=H2):cH P N o E H (.osl id (g+1) 0 (n+m)) H2:=by
 obtain ⟨i,z,h1,h2,h3,h4,h5,h6⟩:=hinf;exact X7 ho hT ⟨i,z,h1,h2,h3,h4,h5,h6⟩ hx hH hg hosz hty hn (fun a w I ι hr he=>aCx (aI he hy) h6 hrl) (fun r hr=>by
  obtain ⟨q,q1,q2⟩:=List.mem_map.1 hr;rw[<-q2];simpa using hrl q q1) (by simpa using hm) hbytes hmax hH2
theorem NN{l c:Nat}(ho:o.op=.makeSlice T x y)(hT:P.underlying T=some (.slice e))(hinf:WO P e sz bytes)(hz:∀w,(zeroValue e).run P w=.ok z w)(hv:ZV z v0)(hl0:SX v0=some row)(hrow:row.length=sz)
  (hx:aO E x=some (.pv (.int k1 n1))) (hy:aO E y=some (.pv (.int k2 n2))) (h1:0<=n1) (h2:n1<=n2) (hl:n1.toNat=l) (hc:n2.toNat=c) (hb:bytes*c<=281474976710656) (hmax:n2<=9223372036854775807) (hid:H.get id=none) :
  cH P N o E H (.osl id 0 0 l) ((id,⟨0,sz,e,List.replicate l row⟩)::H):=by
 intro a w I ι _ _ hr he K Q hk;obtain ⟨i,z',hi,hz',hsize,hby,hzs,hsz0⟩:=hinf;have ezz:z'=z:=by
  have:=hz w;simp[zeroValue,typeInfo,hi,hz']at this;exact this
 subst ezz hl hc;have e1:=(aI he hx).int_inv;have e2:=(aI he hy).int_inv;have hb':(i.bytes:Int)*n2<=281474976710656:=by
  have h:=hb;rw[<-hby]at h;have h3:((i.bytes*n2.toNat:Nat):Int)<=281474976710656:=by omega
  rw[Int.natCast_mul]at h3
  rwa [Int.toNat_of_nonneg (by omega)]at h3
 have hrun:=run_make (P:=P) w T e i z' hT hi hz' k1 k2 n1 n2 h1 h2 hb' hmax;have hcr:=wZ.of_cells (ZV.rel (w:=w) (I:=I) (ι:=ι) (H:=H) hv) hl0;obtain ⟨k2',k3⟩:=Rel.place (H':=(id,⟨0,sz,e,List.replicate n1.toNat row⟩)::H) (id:=id) (cap:=n2.toNat) (ob':=⟨0,sz,e,List.replicate n1.toNat row⟩) (cs':=madeCells z'.cells (n2.toNat*i.size))
  (w':=w.alloc (.cells (madeCells z'.cells (n2.toNat*i.size)) e)) hr rfl rfl rfl rfl (fun o ho=>by rw[hid]at ho;cases ho) hsz0 (by rw[size_madeCells,hsize]) (by simp;omega) (by simp only[maxLen];omega)
  (fun r hr'=>by rw[(List.mem_replicate.1 hr').2];exact hrow)
  (fun i' r hi' k a' hk'=>by
   rw[List.getElem?_replicate]at hi'
   split at hi'
   ·cases hi';rename_i hlt;have hk2:k<sz:=by rw[<-hrow];exact(aNz.1 hk').1
    obtain ⟨u,q1,q2,q3⟩:=hcr.2 k a' hk';refine⟨u,?_,q2,q3⟩;have hfit:i'*sz+k<n2.toNat*sz:=by
     have:(i'+1)*sz<=n2.toNat*sz:=Nat.mul_le_mul_right _ (by omega);rw[Nat.add_mul]at this;omega
    have hsz:k<z'.cells.size:=by omega
    rw[Array.getElem?_eq_getElem hsz]at q1;cases q1;simp only[madeCells,Array.getElem?_map,hsize];rw[Array.getElem?_range];simp only[hfit,if_true,Option.map_some,hzs,BR hk2];rw[getElem!_pos z'.cells k hsz]
   cases hi') (get_cons_same _ _ _) (fun j hj=>get_cons_other _ _ hj)
 unfold Oper.wpW execOp;simp only[ho,e1,e2,Sem.run_bind,hrun,Result.andThen_ok,Sem.run_pure];exact hk _ _ I _ _ _ ⟨rfl,rfl⟩ (.osl _ (get_cons_same _ _ _) (aOB _) rfl fun _=>⟨hsz0,by simp,.inl ⟨w.heap.size,n2.toNat,0,by simp,by simp,fun _=>by simp⟩⟩) k2' k3
theorem Rel.congr(hr:Rel I ι H w)(h:∀j,H'.get j=H.get j):Rel I ι H' w/\Step I ι H w I ι H' w:=by
 have hst:Step I ι H w I ι H' w:=⟨rfl,rfl,rfl,aOB _,fun _ _ _=>rfl,fun _ h=>h,fun _ h=>.inl h,fun b ⟨j,o,c,h1,h2⟩=>.inl ⟨j,o,c,(h j).symm.trans h1,h2⟩,fun _ _ _=>rfl,
  fun j o hj=>⟨o,(h j).trans hj,aOB _,fun _=>⟨rfl,rfl,fun _=>aOB _⟩⟩⟩
 refine⟨⟨hr.imm,fun j o hj=>?_,fun j j' o o' b c c' h1 h2=>hr.inj j j' o o' b c c' ((h j).symm.trans h1) ((h j').symm.trans h2),hst.glob hr⟩,hst⟩;exact(hr.obj j o ((h j).symm.trans hj)).keep rfl (fun _ _ _ _=>⟨rfl,fun h=>h⟩) (fun r _ a _ v hv=>hv.mono hr hst)
def dQ(s:List UInt8):List (List AV):=s.map fun b=>[.pv (.int .u8 b.toNat)]
theorem NU{S:TypeId}{bs:List UInt8}{r:ByteArray}(ho:o.op=.convert S T x)(hS:P.underlying S=some (.slice e))(he':P.underlying e=some (.int .u8))(hT:P.underlying T=some .string)
  (hx:aO E x=some (.osl id g off len)) (hH:H.get id=some ob) (hg:ob.g=g) (hsz:ob.sz=1) (hb:(ob.rows.drop off).take len=dQ bs) (hr:(⟨bs.toArray⟩:ByteArray)=r):cH P N o E H (.pv (.str r)) H :=
 .of_run fun a w I ι hrel he=>by
  have hvx:=aI he hx;have hsrc:=Z1 hrel hvx hH hg hsz;rw[hb]at hsrc;subst hr;refine⟨.string ⟨bs.toArray⟩,?_,.pv (.str _)⟩;rcases hsrc with⟨ad,c,news,s1,s2,s3,s4,s5⟩|⟨s1,s2⟩
  ·have hnews:news=bs.map fun b=>Value.int .u8 b.toNat:=by
    apply List.ext_getElem?;intro j;by_cases hj:j<bs.length
    ·obtain ⟨u,q1,q2,q3⟩:=s5 j [.pv (.int .u8 (bs[j]'hj).toNat)] (by simp[dQ,aOA hj]) 0 _ (by simp;rfl);rw[Nat.mul_one,Nat.add_zero]at q1;rw[q1,q3.int_inv];simp[aOA hj]
    rw[List.getElem?_eq_none (by rw[s2];simp[dQ];omega),List.getElem?_eq_none (by simp;omega)]
   have hl:(loadCells ad (dQ bs).length).run P w=.ok ((bs.map fun b=>(b.toNat:Int)).map (Value.int .u8)).toArray w:=by
    have e1:(bs.map fun b=>(b.toNat:Int)).map (Value.int .u8)=news:=by rw[hnews,List.map_map];rfl
    have e2:(dQ bs).length=news.length:=by rw[s2];simp
    rw[e1,e2];exact run_loadCells_list (P:=P) w ad news s3
   simp only[execOp,ho,s1,Sem.run_bind];rw[run_convert_bytes_string w S T e _ _ c hS he' hT,run_bytesToString w ad _ c _ hl,foldl_push_bytes];have e3:(bs.map fun b=>(b.toNat:Int)).map (fun n=>UInt8.ofNat n.toNat)=bs:=by
    rw[List.map_map]
    conv=>rhs;rw[<-List.map_id bs]
    refine List.map_congr_left fun b _=>?_;simp
   rw[e3];simp[ByteArray.empty,ByteArray.emptyWithCapacity];rfl
  have:bs=[]:=by simpa[dQ]using s2
  subst this;simp only[execOp,ho,s1,Sem.run_bind];rw[run_convert_bytes_string w S T e _ _ 0 hS he' hT];simp[Conv.bytesToString];rfl
end
end
section
structure Rec where
 v:AV
 R:Option (List Nat)
 W:aB
def IF:List Nat->Nat->Bool
 | [],_=>false
 |x::r,t=>cond (Nat.beq x t) true (IF r t)
theorem EM{l:List Nat}:IF l t=true↔t∈l:=by
 induction l with
 |nil=>simp[IF]
 | cons x r ih =>
  cases e:Nat.beq x t with
  |true =>
   have:x=t:=Nat.eq_of_beq_eq_true e;simp[IF,e,this]
  |false =>
   have:x≠t:=fun h=>by subst h;rw[kW]at e;cases e
   simp[IF,e,ih,Ne.symm this]
def wJ:Option (List Nat)->Nat->Bool
 |none,_=>true
 |some l,t=>IF l t
def UH:List Operand->List Nat
 | []=>[]
 |.tmp t::r=>t::UH r
 |_::r=>UH r
def fV(ops:List Oper)(o:Oper):List Nat :=match o.guard with
 |none=>UH o.op.operands.toList
 |some (j,_)=>match iD ops j with
  |some t=>t::UH o.op.operands.toList
  |none=>UH o.op.operands.toList
def restr(E:bS):List Nat->bS
 | []=>[]
 |t::r=>match E.get t with
  |some v=>(t,v)::restr E r
  |none=>restr E r
theorem OS{l:List Nat}:∀p∈restr E l,E.get p.1=some p.2/\p.1∈l:=by
 induction l with
 |nil=>simp[restr]
 | cons t r ih =>
  intro p hp;unfold restr at hp
  split at hp
  ·rename_i v e;rcases aOH.1 hp with h|h
   ·subst h;exact⟨e,by simp⟩
   exact⟨(ih p h).1,by simp[(ih p h).2]⟩
  exact⟨(ih p hp).1,by simp[(ih p hp).2]⟩
inductive DStep(P:Program)(N:Nat)(ops:List Oper)(o:Oper)(E:bS)(H:aB)(r:Rec):Prop
 |plain (hg:o.guard=none) (h:∀H1:aB,(∀id,wJ r.R id=true->H1.get id=H.get id)->cH P N o (restr E (fV ops o)) H1 r.v (r.W++H1))
 | on (j:Nat) (want:Bool) (t:Tmp) (b:Bool) (hg:o.guard=some (j,want)) (hj:iD ops j=some t) (hb:E.get t=some (.pv (.bool b))) (hw:b=want)
   (h:∀H1:aB,(∀id,wJ r.R id=true->H1.get id=H.get id)->cH P N o (restr E (fV ops o)) H1 r.v (r.W++H1))
 |off (j:Nat) (want:Bool) (t:Tmp) (x:AV) (hg:o.guard=some (j,want)) (hj:iD ops j=some t) (hb:E.get t=some x) (hw:UO want x=true) (hv:r.v=.tup []) (hW:r.W=[])
inductive DChain(P:Program)(N:Nat)(ops:List Oper):List Oper->bS->aB->List Rec->bS->aB->Prop
 |nil {E:bS} {H:aB}:DChain P N ops [] E H [] E H
 | cons {o:Oper} {rest:List Oper} {E E':bS} {H H':aB} {r:Rec} {rs:List Rec} (h:DStep P N ops o E H r) (hd:gY N o.dst=true) (hr:DChain P N ops rest (iZ E o.dst r.v) (r.W++H) rs E' H') :
   DChain P N ops (o::rest) E H (r::rs) E' H'
structure Ent2 where
 o:Oper
 r:Rec
def xM(E:bS)(l:List Ent2)(S:Nat->Bool):Nat->Nat->Option AV
 |0,t=>E.get t
 |k+1,t=>match l[k]? with
  |some x=>if S k=true/\x.o.dst=some t then some x.r.v else xM E l S k t
  |none=>xM E l S k t
def vZ(H:aB)(l:List Ent2)(S:Nat->Bool):Nat->Nat->Option Ob
 |0,id=>H.get id
 |k+1,id=>match l[k]? with
  |some x=>if S k=true/\(x.r.W.get id).isSome=true then x.r.W.get id else vZ H l S k id
  |none=>vZ H l S k id
theorem BS(W H:aB)(id:Nat):aB.get (W++H) id=match W.get id with|some o=>some o|none=>H.get id:=by
 induction W with
 |nil=>rfl
 |cons x r ih =>
  obtain ⟨i,o⟩:=x;cases e:Nat.beq i id with
  |true=>simp[aB.get,e]
  |false=>simpa[aB.get,e]using ih
def hkeys(W:aB):List Nat:=W.map (·.1)
def jE(ops:List Oper)(x y:Ent2):Bool :=(match x.o.dst with
   |some d=>IF (fV ops y.o) d||(match y.o.dst with|some e=>Nat.beq e d|none=>false)
   |none=>false) ||
  (match y.o.dst with
   |some d=>IF (fV ops x.o) d
   |none=>false) ||
  (hkeys x.r.W).any (fun i=>wJ y.r.R i||IF (hkeys y.r.W) i) ||
  (hkeys y.r.W).any (fun i=>wJ x.r.R i)
def qQ(acc:List Nat):List Edge->Nat
 | []=>0
 |e::r=>if Region.binds .any e then((1 <<< e.on) ||| acc.getD e.on 0) ||| qQ acc r else qQ acc r
def aHl:List Oper->List Nat->List Nat
 | [],acc=>acc
 |o::r,acc=>aHl r (acc++[qQ acc o.after.toList])
def I6(ops:List Oper)(bef:List Nat):Nat->List Ent2->List Ent2->Bool
 |_,_,[]=>true
 |j,prev,y::r=>(prev.zipIdx.all fun(x,i)=>!jE ops x y||(bef.getD j 0).testBit i)&&I6 ops bef (j+1) (prev++[y]) r
def I7:Nat->List Oper->Bool
 |_,[]=>true
 |j,o::r=>(o.after.toList.all fun e=>!Region.binds .any e||Nat.blt e.on j)&&I7 (j+1) r
def F9(ops:List Oper)(rs:List Rec):Bool :=I7 0 ops&&I6 ops (aHl ops []) 0 [] (List.zipWith Ent2.mk ops rs)
def aC2(ops:List Oper)(S:Nat->Bool):Prop:=∀j o,ops[j]?=some o->S j=true->∀e∈o.after.toList,Region.binds .any e=true->S e.on=true
def Pre(ops:List Oper)(i j:Nat):Prop:=∀S,aC2 ops S->∀o,ops[j]?=some o->(∀e∈o.after.toList,Region.binds .any e=true->S e.on=true)->S i=true
theorem N4{acc:List Nat}(hacc:∀j,j<acc.length->∀i,(acc.getD j 0).testBit i=true->Pre ops i j)(hlen:acc.length<=ops.length):
  ∀(es:List Edge) (i:Nat),(qQ acc es).testBit i=true->∀S,aC2 ops S->(∀e∈es,Region.binds .any e=true->S e.on=true)->S i=true:=by
 intro es
 induction es with
 |nil=>intro i h;simp[qQ]at h
 | cons e r ih =>
  intro i h S hS he;unfold qQ at h
  split at h
  ·rename_i hb;rw[Nat.testBit_or,Nat.testBit_or,Bool.or_eq_true,Bool.or_eq_true]at h;rcases h with(h|h)|h
   ·have:e.on=i:=by
     rw[Nat.testBit_shiftLeft]at h;simp only[aOE,aOC]at h;have h2:=h.2;rw[Nat.testBit_one_eq_true_iff_self_eq_zero]at h2;omega
    rw[<-this];exact he e (by simp) hb
   ·by_cases hj:e.on<acc.length
    ·have hlt:e.on<ops.length:=by omega
     have hon:=he e (by simp) hb;exact hacc e.on hj i h S hS _ (aOA hlt) (fun e' he' hb'=>hS e.on _ (aOA hlt) hon e' he' hb')
    simp[List.getD,List.getElem?_eq_none (show acc.length<=e.on by omega)]at h
   exact ih i h S hS (fun e' he'=>he e' (by simp[he']))
  exact ih i h S hS (fun e' he'=>he e' (by simp[he']))
theorem QH:∀(rest done:List Oper) (acc:List Nat),ops=done++rest->acc.length=done.length->(∀j,j<acc.length->∀i,(acc.getD j 0).testBit i=true->Pre ops i j) ->
  ∀j i,((aHl rest acc).getD j 0).testBit i=true->Pre ops i j:=by
 intro rest
 induction rest with
 |nil =>
  intro done acc h1 h2 h3 j i hb;by_cases hj:j<acc.length
  ·exact h3 j hj i hb
  simp[aHl,List.getD,List.getElem?_eq_none (show acc.length<=j by omega)]at hb
 | cons o r ih =>
  intro done acc h1 h2 h3;refine ih (done++[o]) (acc++[qQ acc o.after.toList]) (by rw[h1];simp) (by simp[h2]) ?_;intro j hj i hb;by_cases hlt:j<acc.length
  ·have hb':(acc.getD j 0).testBit i=true:=by simpa[List.getD,List.getElem?_append_left hlt]using hb
   exact h3 j hlt i hb'
  have hje:j=acc.length:=by simp at hj;omega
  subst hje;have hb:(qQ acc o.after.toList).testBit i=true:=by simpa[List.getD]using hb
  intro S hS o' ho' he';have:o'=o:=by
   rw[h1,List.getElem?_append_right (by omega),h2]at ho';simp at ho';exact ho'.symm
  subst this;exact N4 h3 (by rw[h1,h2];simp) _ i hb S hS he'
theorem EF{bef:List Nat}:∀(rest prev:List Ent2),I6 ops bef prev.length prev rest=true->∀i j,i<j->prev.length<=j->∀x y,(prev++rest)[i]?=some x->(prev++rest)[j]?=some y->jE ops x y=true->(bef.getD j 0).testBit i=true:=by
 intro rest
 induction rest with
 |nil =>
  intro prev _ i j hij hj x y hx hy;have:=(aNz.1 hy).1;simp at this;omega
 | cons z r ih =>
  intro prev h i j hij hj x y hx hy hc;simp only[I6,aOE]at h;by_cases e:j=prev.length
  ·subst e;have hz:y=z:=by
    rw[List.getElem?_append_right (by omega)]at hy;simp at hy;exact hy.symm
   subst hz;have hx':prev[i]?=some x:=by rw[List.getElem?_append_left hij]at hx;exact hx
   have hm:(x,i)∈prev.zipIdx:=by rw[List.mem_zipIdx_iff_getElem?];exact hx'
   have:=List.all_eq_true.1 h.1 _ hm
   simpa[hc]using this
  have h2:=h.2;have hl:prev.length+1=(prev++[z]).length:=by simp
  rw[hl]at h2;have hr:prev++z::r=(prev++[z])++r:=by simp
  rw[hr]at hx hy;exact ih (prev++[z]) h2 i j hij (by simp;omega) x y hx hy hc
theorem EH:∀(l:List Oper) (k:Nat),I7 k l=true->∀j o,l[j]?=some o->∀e∈o.after.toList,Region.binds .any e=true->e.on<k+j:=by
 intro l
 induction l with
 |nil=>intro k _ j o h;simp at h
 | cons x r ih =>
  intro k h j o ho e he hb;simp only[I7,aOE]at h;cases j with
  |zero =>
   simp at ho;subst ho;have:=List.all_eq_true.1 h.1 e he
   simpa[hb,Nat.blt_eq]using this
  |succ j =>
   simp at ho;have:=ih (k+1) h.2 j o ho e he hb;omega
section
theorem DChain.spec{rs:List Rec}(h:DChain P N ops rest E H rs E' H'):rs.length=rest.length /\
  (∀k x,(List.zipWith Ent2.mk rest rs)[k]?=some x->gY N x.o.dst=true/\∃Ek Hk,(∀t,Ek.get t=xM E (List.zipWith Ent2.mk rest rs) (fun _=>true) k t)/\(∀id,Hk.get id=vZ H (List.zipWith Ent2.mk rest rs) (fun _=>true) k id)/\DStep P N ops x.o Ek Hk x.r) /\
  (∀t,E'.get t=xM E (List.zipWith Ent2.mk rest rs) (fun _=>true) rest.length t)/\(∀id,H'.get id=vZ H (List.zipWith Ent2.mk rest rs) (fun _=>true) rest.length id):=by
 induction h with
 |nil=>exact⟨rfl,by simp,fun t=>rfl,fun id=>rfl⟩
 | @cons o rest E E' H H' r rs hs hd hr ih =>
  obtain ⟨h1,h2,h3,h4⟩:=ih;have shE:∀(l:List Ent2) k t,xM (iZ E o.dst r.v) l (fun _=>true) k t=xM E (⟨o,r⟩::l) (fun _=>true) (k+1) t:=by
   intro l k t
   induction k with
   | zero =>
    simp only[xM,List.getElem?_cons_zero];cases hdst:o.dst with
    |none=>simp[iZ]
    |some d =>
     simp only[iZ];by_cases e:d=t
     ·subst e;simp[bS.get_cons_same]
     rw[bS.get_cons_other _ _ e];simp[e]
   |succ k ih =>
    rw[xM,xM];simp only[List.getElem?_cons_succ];cases l[k]? with
    |none=>exact ih
    |some x=>simp only[ih]
  have shH:∀(l:List Ent2) k id,vZ (r.W++H) l (fun _=>true) k id=vZ H (⟨o,r⟩::l) (fun _=>true) (k+1) id:=by
   intro l k id
   induction k with
   |zero =>
    simp only[vZ,List.getElem?_cons_zero,BS];cases hw:r.W.get id<;>simp
   |succ k ih =>
    rw[vZ,vZ];simp only[List.getElem?_cons_succ];cases l[k]? with
    |none=>exact ih
    |some x=>simp only[ih]
  refine⟨by simp[h1],?_,?_,?_⟩
  ·intro k x hx;cases k with
   |zero =>
    simp at hx;subst hx;exact⟨hd,E,H,fun t=>rfl,fun id=>rfl,hs⟩
   |succ k =>
    simp at hx;obtain ⟨g0,Ek,Hk,g1,g2,g3⟩:=h2 k x (by simpa using hx);exact⟨g0,Ek,Hk,fun t=>(g1 t).trans (shE _ k t),fun id=>(g2 id).trans (shH _ k id),g3⟩
  ·intro t;rw[h3 t,shE];rfl
  intro id;rw[h4 id,shH];rfl
theorem nX {l:List Ent2}:∀ (n k:Nat),k<=n->(∀ j x,l[j]?=some x->x.o.dst=some t->(j < k->S j=true)/\(k<=j->j < n->S j=false))->xM E l S n t=xM E l (fun _=>true) k t:=by
  intro n
  induction n with
  | zero => intro k hk h; have : k = 0 := by omega
            subst this;rfl
  | succ n ih =>
    intro k hk h;by_cases e:k=n+1
    · subst e
      rw[xM,xM];cases hl:l[n]? with
      |none=>exact ih n (aOB _) (fun j x hj hx=>⟨fun hlt=>(h j x hj hx).1 (by omega),fun h1 h2=>by omega⟩)
      | some x =>
        simp only;by_cases hd:x.o.dst=some t
        · have:=(h n x hl hd).1 (by omega)
          simp[this,hd]
        · simp only[hd,and_false,if_false]
          exact ih n (aOB _) (fun j x hj hx=>⟨fun hlt=>(h j x hj hx).1 (by omega),fun h1 h2=>by omega⟩)
    · rw [xM]
      have hk':k<=n:=by omega
      have hrec:=ih k hk' (fun j x hj hx=>⟨(h j x hj hx).1,fun h1 h2=>(h j x hj hx).2 h1 (by omega)⟩);cases hl:l[n]? with
      |none=>exact hrec
      | some x =>
        simp only;by_cases hd:x.o.dst=some t
        · have:=(h n x hl hd).2 (by omega) (by omega)
          simp[this,hrec]
        · simp[hd,hrec]
theorem nW {l:List Ent2}:∀ (n k:Nat),k<=n->(∀ j x,l[j]?=some x->(x.r.W.get id).isSome=true->(j < k->S j=true)/\(k<=j->j < n->S j=false))->vZ H l S n id=vZ H l (fun _=>true) k id:=by
  intro n
  induction n with
  | zero => intro k hk h; have : k = 0 := by omega
            subst this;rfl
  | succ n ih =>
    intro k hk h;by_cases e:k=n+1
    · subst e
      rw[vZ,vZ];cases hl:l[n]? with
      |none=>exact ih n (aOB _) (fun j x hj hx=>⟨fun hlt=>(h j x hj hx).1 (by omega),fun h1 h2=>by omega⟩)
      | some x =>
        simp only;by_cases hd:(x.r.W.get id).isSome=true
        · have:=(h n x hl hd).1 (by omega)
          simp[this,hd]
        · rw[aNt (fun hh=>hd hh.2),aNt (fun hh=>hd hh.2)]
          exact ih n (aOB _) (fun j x hj hx=>⟨fun hlt=>(h j x hj hx).1 (by omega),fun h1 h2=>by omega⟩)
    · rw [vZ]
      have hk':k<=n:=by omega
      have hrec:=ih k hk' (fun j x hj hx=>⟨(h j x hj hx).1,fun h1 h2=>(h j x hj hx).2 h1 (by omega)⟩);cases hl:l[n]? with
      |none=>exact hrec
      | some x =>
        simp only;by_cases hd:(x.r.W.get id).isSome=true
        · have:=(h n x hl hd).2 (by omega) (by omega)
          simp[this,hrec]
        · simp[hd,hrec]
end
theorem cH.restr{l:List Nat}(h:cH P N o (restr E l) H1 v H2)(hE:∀t,t∈l->E1.get t=E.get t):cH P N o E1 H1 v H2:=by intro a w I ι hd hs hr he K Q hk;refine h a w I ι hd hs hr (fun t v ht=>?_) K Q hk;have hp:=OS (E:=E) (l:=l) _ (fR ht);exact he t v ((hE t hp.2).trans hp.1)
theorem cD.get(hE:∀t,E'.get t=E.get t)(hH:∀j,H'.get j=H.get j):cD G0 E H E' H':=by intro G hG N a w hs;obtain ⟨I,ι,hr,hst,he⟩:=hs.rel;obtain ⟨k2,k3⟩:=hr.congr hH;refine⟨hs.defers,hs.size,I,ι,k2,hst.trans k3,fun t v ht=>?_⟩;obtain ⟨c,hc,hv⟩:=he t v ((hE t).symm.trans ht);exact⟨c,hc,hv.mono hr k3⟩
theorem zG{x y:Ent2}(h:x.o.dst=some d)(h':d∈fV ops y.o):jE ops x y=true:=by simp[jE,h,EM.2 h']
theorem qF{x y:Ent2}(h:x.o.dst=some d)(h':y.o.dst=some d):jE ops x y=true:=by simp[jE,h,h',kW]
theorem zF{x y:Ent2}(h:y.o.dst=some d)(h':d∈fV ops x.o):jE ops x y=true:=by simp[jE,h,EM.2 h']
theorem uT{W:aB}(h:(W.get id).isSome=true):id∈hkeys W:=by obtain ⟨o,ho⟩:=Option.isSome_iff_exists.1 h;exact List.mem_map.2 ⟨_,cV ho,rfl⟩
theorem QE{x y:Ent2}(h:(x.r.W.get id).isSome=true)(h':wJ y.r.R id=true):jE ops x y=true:=by have:(hkeys x.r.W).any (fun i=>wJ y.r.R i||IF (hkeys y.r.W) i)=true:=List.any_eq_true.2 ⟨id,uT h,by simp[h']⟩;simp[jE,this]
theorem BW{x y:Ent2}(h:(x.r.W.get id).isSome=true)(h':(y.r.W.get id).isSome=true):jE ops x y=true:=by have:(hkeys x.r.W).any (fun i=>wJ y.r.R i||IF (hkeys y.r.W) i)=true:=List.any_eq_true.2 ⟨id,uT h,by simp[EM.2 (uT h')]⟩;simp[jE,this]
theorem QF{x y:Ent2}(h:(y.r.W.get id).isSome=true)(h':wJ x.r.R id=true):jE ops x y=true:=by have:(hkeys y.r.W).any (fun i=>wJ x.r.R i)=true:=List.any_eq_true.2 ⟨id,uT h,h'⟩;simp[jE,this]
theorem cH.any_heap(h:cH P N o E H v H)(he:∀j,H1.get j=H.get j):cH P N o E H1 v H1:=by intro a w I ι hd hs hr hE K Q hk;obtain ⟨k2,k3⟩:=hr.congr (fun j=>(he j).symm);refine h a w I ι hd hs k2 (fun t v ht=>let ⟨c,h1,h2⟩:=hE t v ht;⟨c,h1,h2.mono hr k3⟩) K Q ?_;rintro c w' I' ι' r H' ⟨rfl,rfl⟩ hv hr' hst;obtain ⟨q2,q3⟩:=hr'.congr he;exact hk c w' I' ι' _ _ ⟨rfl,rfl⟩ (hv.mono hr' q3) q2 ((k3.trans hst).trans q3)
theorem DStep.q(hg:o.guard=none)(h:cH P N o (restr E (fV ops o)) H v H):DStep P N ops o E H ⟨v,none,[]⟩ :=.plain hg fun H1 hH=>h.any_heap fun j=>hH j rfl
theorem DStep.qon{t:Tmp}(hg:o.guard=some (j,want))(hj:iD ops j=some t)(hb:E.get t=some (.pv (.bool b)))(hw:b=want)(h:cH P N o (restr E (fV ops o)) H v H):DStep P N ops o E H ⟨v,none,[]⟩ :=.on j want t b hg hj hb hw fun H1 hH=>h.any_heap fun j=>hH j rfl
theorem DStep.qoff{t:Tmp}{x:AV}(hg:o.guard=some (j,want))(hj:iD ops j=some t)(hb:E.get t=some x)(hw:UO want x=true):DStep P N ops o E H ⟨.tup [],some [],[]⟩ :=.off j want t x hg hj hb hw rfl rfl
theorem aFC{Q:Exit->bS->aB->Prop}{ops:Array Oper}{rs:List Rec}(hm:P.follows .mixedOrders=true)(hc:DChain P N ops.toList ops.toList E H rs E' H')(hok:F9 ops.toList rs=true)
  (hK:Q .normal E' H'):fL P G0 N (.region id ops true) Q E H:=by
 intro G hG a w hs ro hro;have hnd0:ro=none\/ops.toList.all Oper.noDefer=true:=hro;refine wpIn_region_any hm ?_;obtain ⟨hlen,hst,hE',hH'⟩:=hc.spec;obtain ⟨l,hl⟩:∃l,l=List.zipWith Ent2.mk ops.toList rs:=⟨_,rfl⟩;rw[<-hl]at hst hE' hH';simp only[F9,aOE,<-hl]at hok;obtain ⟨hok1,hok2⟩:=hok;have hll:l.length=ops.size:=by rw[hl];simp[hlen]
 have hlo:∀(i:Nat) (x:Ent2),l[i]?=some x->ops.toList[i]?=some x.o:=by
  intro i x hx;rw[hl,List.getElem?_zipWith]at hx;cases e1:ops.toList[i]? with
  |none=>simp[e1]at hx
  |some o =>
   cases e2:rs[i]? with
   |none=>simp[e1,e2]at hx
   |some r=>simp[e1,e2]at hx;rw[<-hx]
 have hedge:=EH ops.toList 0 hok1;have hbef:∀(i j:Nat) (x y:Ent2),i<j->l[i]?=some x->l[j]?=some y->jE ops.toList x y=true->Pre ops.toList i j:=fun i j x y hij hx hy hcl =>
  QH ops.toList [] [] rfl rfl (by simp) j i (EF l [] hok2 i j hij (aOM _) x y hx hy hcl)
 have main:∀(fuel:Nat) (listed:Array Bool) (a:Act) (w:World) (E1:bS) (H1:aB),listed.size=ops.size->((List.range ops.size).filter fun i=>!listed.getD i true).length<=fuel ->
   aC2 ops.toList (fun i=>listed.getD i false)->St G N E1 H1 a w->(∀t,E1.get t=xM E l (fun i=>listed.getD i false) ops.size t)->(∀j,H1.get j=vZ H l (fun i=>listed.getD i false) ops.size j) ->
   wpAnyIn (RF ro) 0 P .any ops (fun e a w=>∃E H,Q e E H/\St G N E H a w) fuel listed a w:=by
  intro fuel
  induction fuel with
  | zero =>
   intro listed a w E1 H1 hsz hcnt hdown hst1 hE1 hH1;have hall:∀i,i<ops.size->listed.getD i false=true:=by
    intro i hi;have hnil:=List.eq_nil_of_length_eq_zero (Nat.le_zero.1 hcnt);have:=List.filter_eq_nil_iff.1 hnil i (List.mem_range.2 hi);have hi':i<listed.size:=by omega
    simp[Array.getD,hi']at this |-;exact this
   refine⟨?_,E',H',hK,?_⟩
   ·unfold Region.ready;refine List.filter_eq_nil_iff.2 fun i hi=>?_;have:=hall i (List.mem_range.1 hi);have hi':i<listed.size:=by have:=List.mem_range.1 hi;omega
    simp[Array.getD,hi']at this;simp[Array.getD,hi',this]
   refine cD.get (G0:=G0) (fun t=>?_) (fun j=>?_) G hG N a w hst1
   ·rw[hE' t,hE1 t,Array.length_toList];exact(nX (E:=E) ops.size ops.size (aOB _) (fun j x hj _=>⟨fun hlt=>hall j hlt,fun h1 h2=>by omega⟩)).symm
   rw[hH' j,hH1 j,Array.length_toList];exact(nW (H:=H) ops.size ops.size (aOB _) (fun i x hi _=>⟨fun hlt=>hall i hlt,fun h1 h2=>by omega⟩)).symm
  | succ fuel ih =>
   intro listed a w E1 H1 hsz hcnt hdown hst1 hE1 hH1;refine⟨fun hnil=>?_,fun i hi=>?_⟩
   ·-- nothing is left
    have hall:∀i,i<ops.size->listed.getD i false=true:=by
     intro i
     induction i using Nat.strongRecOn with
     | _ i ihi =>
      intro hi;refine Classical.byContradiction fun hno=>?_;have hi':i<listed.size:=by omega
      have hno':listed.getD i true=false:=by
       simp[Array.getD,hi']at hno |-;exact hno
      have hlt:i<ops.toList.length:=by simpa using hi
      have hr:i∈Region.ready .any ops listed:=by
       unfold Region.ready;refine List.mem_filter.2 ⟨List.mem_range.2 hi,?_⟩;have ho:ops[i]?=some ops[i]:=Array.getElem?_eq_getElem hi;simp only[hno',Bool.not_false,Bool.true_and,ho,Option.map_some,Option.getD_some];rw[Array.all_eq_true'];intro e he;cases hb:Region.binds .any e with
       |false=>simp
       |true =>
        have hon:=hedge i ops[i] (by simp[ho]) e (by simpa using he) hb;simp only[Bool.not_true,Bool.false_or];exact ihi e.on (by omega) (by omega)
      rw[hnil]at hr;cases hr
    refine⟨E',H',hK,?_⟩;refine cD.get (G0:=G0) (fun t=>?_) (fun j=>?_) G hG N a w hst1
    ·rw[hE' t,hE1 t,Array.length_toList];exact(nX (E:=E) ops.size ops.size (aOB _) (fun j x hj _=>⟨fun hlt=>hall j hlt,fun h1 h2=>by omega⟩)).symm
    rw[hH' j,hH1 j,Array.length_toList];exact(nW (H:=H) ops.size ops.size (aOB _) (fun i x hi _=>⟨fun hlt=>hall i hlt,fun h1 h2=>by omega⟩)).symm
   have hi1:=List.mem_filter.1 hi;have hilt:i<ops.size:=List.mem_range.1 hi1.1;have hi':i<listed.size:=by omega
   have ho:ops[i]?=some ops[i]:=Array.getElem?_eq_getElem hilt;have hi2:=hi1.2;simp only[ho,Option.map_some,Option.getD_some,aOE]at hi2;obtain ⟨hnl,hpreds⟩:=hi2;have hnl':listed.getD i false=false:=by
    simp[Array.getD,hi']at hnl |-;exact hnl
   have hpre:∀e∈(ops[i]).after.toList,Region.binds .any e=true->listed.getD e.on false=true:=by
    intro e he hb;have:=(Array.all_eq_true'.1 hpreds) e (by simpa using he)
    simpa[hb]using this
   have hil:i<l.length:=by omega
   obtain ⟨x,hx⟩:∃x,l[i]?=some x:=⟨_,aOA hil⟩;have hxo:x.o=ops[i]:=by
    have:=hlo i x hx;simp[ho]at this;exact this.symm
   obtain ⟨hdok,Ek,Hk,hEk,hHk,hdst⟩:=hst i x hx;have hbefore:∀(j:Nat) (y:Ent2),j<i->l[j]?=some y->jE ops.toList y x=true->listed.getD j false=true:=by
    intro j y hj hy hcl;exact hbef j i y x hj hy hx hcl _ hdown ops[i] (by simp[ho]) hpre
   have hbehind:∀(j:Nat) (y:Ent2),i<j->l[j]?=some y->jE ops.toList x y=true->listed.getD j false=false:=by
    intro j y hj hy hcl;cases hjl:listed.getD j false with
    |false=>rfl
    |true =>
     have hjlt:j<l.length:=(aNz.1 hy).1;have hjo:ops.toList[j]?=some y.o:=hlo j y hy;have:=hbef i j x y hj hx hy hcl _ hdown y.o hjo (fun e he hb=>hdown j y.o hjo hjl e he hb);rw[hnl']at this;cases this
   have agreeE:∀t,(∀(j:Nat) (y:Ent2),l[j]?=some y->y.o.dst=some t->(j<i->jE ops.toList y x=true)/\(i<j->jE ops.toList x y=true))->E1.get t=Ek.get t:=by
    intro t ht;rw[hE1 t,hEk t];refine nX (E:=E) ops.size i (by omega) (fun j y hj hd=>⟨fun hlt=>hbefore j y hlt hj ((ht j y hj hd).1 hlt),fun h1 h2=>?_⟩);by_cases e:j=i
    ·subst e;exact hnl'
    exact hbehind j y (by omega) hj ((ht j y hj hd).2 (by omega))
   have agreeH:∀k,(∀(j:Nat) (y:Ent2),l[j]?=some y->(y.r.W.get k).isSome=true->(j<i->jE ops.toList y x=true)/\(i<j->jE ops.toList x y=true))->H1.get k=Hk.get k:=by
    intro k hk;rw[hH1 k,hHk k];refine nW (H:=H) ops.size i (by omega) (fun j y hj hd=>⟨fun hlt=>hbefore j y hlt hj ((hk j y hj hd).1 hlt),fun h1 h2=>?_⟩);by_cases e:j=i
    ·subst e;exact hnl'
    exact hbehind j y (by omega) hj ((hk j y hj hd).2 (by omega))
   have hlooks:∀t,t∈fV ops.toList x.o->E1.get t=Ek.get t:=fun t ht =>
    agreeE t fun j y hj hd=>⟨fun _=>zG hd ht,fun _=>zF hd ht⟩
   have hreads:∀k,wJ x.r.R k=true->H1.get k=Hk.get k:=fun k hk =>
    agreeH k fun j y hj hd=>⟨fun _=>QE hd hk,fun _=>QF hd hk⟩
   have hlist:∀j,(listed.setIfInBounds i true).getD j false=if j=i then true else listed.getD j false:=by
    intro j;by_cases e:j=i
    ·subst e;simp[Array.getD,hi']
    simp only[Array.getD_eq_getD_getElem?,Array.getElem?_setIfInBounds_ne (Ne.symm e),e,if_false]
   have hdown':aC2 ops.toList (fun j=>(listed.setIfInBounds i true).getD j false):=by
    intro j o hj hjl e he hb;simp only[hlist]at hjl |-;by_cases ej:j=i
    ·subst ej;have:o=ops[j]:=by simp[ho]at hj;exact hj.symm
     subst this;have:=hpre e he hb;simp[this]
    simp only[ej,if_false]at hjl;have:=hdown j o hj hjl e he hb;simp only at this;simp[this]
   have hcnt':((List.range ops.size).filter fun j=>!(listed.setIfInBounds i true).getD j true).length<=fuel:=by
    have hlist':∀j,(listed.setIfInBounds i true).getD j true=if j=i then true else listed.getD j true:=by
     intro j;by_cases e:j=i
     ·subst e;simp[Array.getD,hi']
     simp only[Array.getD_eq_getD_getElem?,Array.getElem?_setIfInBounds_ne (Ne.symm e),e,if_false]
    have h1:((List.range ops.size).filter fun j=>!(listed.setIfInBounds i true).getD j true)=((List.range ops.size).filter fun j=>!listed.getD j true).filter fun j=>j != i:=by
     rw[List.filter_filter];refine List.filter_congr fun j _=>?_;rw[hlist'];by_cases e:j=i<;>simp[e]
    rw[h1];have h2:=List.length_filter_lt_length_iff_exists (p:=fun j=>j != i) (l:=(List.range ops.size).filter fun j=>!listed.getD j true) |>.2 ⟨i,List.mem_filter.2 ⟨hi1.1,by simpa using hnl⟩,by simp⟩;omega
   have next:∀(r:AV) (a':Act) (w':World),r=x.r.v->St G N (iZ E1 x.o.dst x.r.v) (x.r.W++H1) a' w'->wpAnyIn (RF ro) 0 P .any ops (fun e a w=>∃E H,Q e E H/\St G N E H a w) fuel (listed.setIfInBounds i true) a' w':=by
    intro r a' w' _ hst';refine ih _ a' w' _ _ (by simp[hsz]) hcnt' hdown' hst' (fun t=>?_) (fun k=>?_)
    ·-- slots
     by_cases hd:x.o.dst=some t
     ·have e1:bS.get (iZ E1 x.o.dst x.r.v) t=some x.r.v:=by rw[hd];simp[iZ,bS.get_cons_same]
      rw[e1];have e2:=nX (E:=E) (l:=l) (S:=fun j=>(listed.setIfInBounds i true).getD j false) (t:=t) ops.size (i+1) (by omega) (fun j y hj hyd=>⟨fun hlt=>?_,fun h1 h2=>?_⟩)
      ·rw[e2,xM,hx];simp[hd]
      ·simp only[hlist];by_cases ej:j=i
       ·simp[ej]
       simp only[ej,if_false];exact hbefore j y (by omega) hj (qF hyd hd)
      simp only[hlist];rw[aNt (by omega)];exact hbehind j y (by omega) hj (qF hd hyd)
     have e1:bS.get (iZ E1 x.o.dst x.r.v) t=E1.get t:=by
      cases hdd:x.o.dst with
      |none=>rfl
      |some d=>exact bS.get_cons_other _ _ (fun e=>hd (by rw[hdd,e]))
     rw [e1,hE1 t];have:∀ n,xM E l (fun i=>listed.getD i false) n t=xM E l (fun j=>(listed.setIfInBounds i true).getD j false) n t:=by
      intro n
      induction n with
      |zero=>rfl
      | succ n ihn =>
       rw[xM,xM];cases hn:l[n]? with
       |none=>exact ihn
       |some y =>
        simp only;by_cases en:n=i
        ·subst en;rw[hx]at hn;cases hn;rw[aNt (fun h=>hd h.2),aNt (fun h=>hd h.2)];exact ihn
        have hS:(listed.setIfInBounds i true).getD n false=listed.getD n false:=by rw[hlist,aNt en]
        rw[hS,ihn]
     exact this _
    rw[BS];by_cases hd:(x.r.W.get k).isSome=true
    ·obtain ⟨ob,hob⟩:=Option.isSome_iff_exists.1 hd;rw[hob];have e2:=nW (H:=H) (l:=l) (S:=fun j=>(listed.setIfInBounds i true).getD j false) (id:=k) ops.size (i+1) (by omega) (fun j y hj hyd=>⟨fun hlt=>?_,fun h1 h2=>?_⟩)
     ·rw[e2,vZ,hx];simp[hob]
     ·simp only[hlist];by_cases ej:j=i
      ·simp[ej]
      simp only[ej,if_false];exact hbefore j y (by omega) hj (BW hyd hd)
     simp only[hlist];rw[aNt (by omega)];exact hbehind j y (by omega) hj (BW hd hyd)
    have hnone:x.r.W.get k=none:=by simpa using hd
    rw [hnone];simp only;rw [hH1 k];have:∀ n,vZ H l (fun i=>listed.getD i false) n k=vZ H l (fun j=>(listed.setIfInBounds i true).getD j false) n k:=by
     intro n
     induction n with
     |zero=>rfl
     | succ n ihn =>
      rw[vZ,vZ];cases hn:l[n]? with
      |none=>exact ihn
      |some y =>
       simp only;by_cases en:n=i
       ·subst en;rw[hx]at hn;cases hn;rw[aNt (fun h=>hd h.2),aNt (fun h=>hd h.2)];exact ihn
       have hS:(listed.setIfInBounds i true).getD n false=listed.getD n false:=by rw[hlist,aNt en]
       rw[hS,ihn]
    exact this _
   unfold wpOpIn;simp only[ho];rw[hxo]at hdst hlooks hdok;rw[hxo]at next;have hgE:∀(j:Nat) (want:Bool) (t:Tmp) (b:Bool),(ops[i]).guard=some (j,want)->iD ops.toList j=some t->Ek.get t=some (.pv (.bool b))->yielded ops a.tmps j=some b:=by
    intro j want t b hg hj hb;have hmem:t∈fV ops.toList ops[i]:=by simp[fV,hg,hj]
    exact rY (E:=E1) hj ((hlooks t hmem).trans hb) hst1.rel.choose_spec.choose_spec.2.2
   have hnd:ro=none\/(ops[i]).noDefer=true:=hnd0.imp (fun h=>h) fun h=>List.all_eq_true.1 h _ (by simp);cases hdst with
   |plain hg h =>
    have hw:Region.wanted ops[i] (yielded ops a.tmps)=true:=by simp[Region.wanted,hg]
    simp only[hw,if_true];refine hst1.op hdok ((h H1 hreads).restr hlooks) ?_ hnd;rintro r H2 a' w' ⟨rfl,rfl⟩ hs';exact next _ a' w' rfl hs'
   |on j want t b hg hj hb hw h =>
    have hy:=hgE j want t b hg hj hb;have hw:Region.wanted ops[i] (yielded ops a.tmps)=true:=by simp[Region.wanted,hg,hy,hw]
    simp only[hw,if_true];refine hst1.op hdok ((h H1 hreads).restr hlooks) ?_ hnd;rintro r H2 a' w' ⟨rfl,rfl⟩ hs';exact next _ a' w' rfl hs'
   | off j want t x' hg hj hb hw hv hW =>
    have hmem:t∈fV ops.toList ops[i]:=by simp[fV,hg,hj]
    have hw:Region.wanted ops[i] (yielded ops a.tmps)=false :=
     GM (E:=E1) hg hj ((hlooks t hmem).trans hb) hw hst1.rel.choose_spec.choose_spec.2.2
    simp only[hw,Bool.false_eq_true,if_false];refine⟨fun _ _=>trivial,?_⟩;refine next (.tup []) _ w hv.symm ?_;obtain ⟨I,ι,hr,hst2,he⟩:=hst1.rel;rw[hv,hW];refine⟨?_,?_,I,ι,hr,hst2,iB.put hr (Step.refl _ _ _ _) he iB.skip (by rw[hst1.size];exact hdok)⟩
    ·rw[gC];exact hst1.defers
    have:=hst1.size;cases (ops[i]).dst<;>simpa[Act.put]using this
 have hs':St G N E H a {w with drawn:=w.drawn+1}:=by
  obtain ⟨I,ι,hr,hst2,he⟩:=hs.rel;obtain ⟨k2,k3⟩:=hr.drawn (w':={w with drawn:=w.drawn+1}) rfl rfl rfl rfl;exact⟨hs.defers,hs.size,I,ι,k2,hst2.trans k3,fun t v ht=>let ⟨c,h1,h2⟩:=he t v ht;⟨c,h1,h2.mono hr k3⟩⟩
 refine main ops.size (Array.replicate ops.size false) a _ E H (by simp) (by
  have:=List.length_filter_le (fun i=>!(Array.replicate ops.size false).getD i true) (List.range ops.size)
  simpa using this) (fun j o hj hjl=>by simp[Array.getD]at hjl) hs' (fun t=>?_) (fun k=>?_)
 ·have:∀n,xM E l (fun i=>(Array.replicate ops.size false).getD i false) n t=E.get t:=by
   intro n
   induction n with
   |zero=>rfl
   | succ n ihn =>
    rw[xM];cases l[n]? with
    |none=>exact ihn
    |some y =>
     have hf:(Array.replicate ops.size false).getD n false=false:=by simp[Array.getD]
     simp only[hf,Bool.false_eq_true,false_and,if_false];exact ihn
  exact(this _).symm
 have:∀n,vZ H l (fun i=>(Array.replicate ops.size false).getD i false) n k=H.get k:=by
  intro n
  induction n with
  |zero=>rfl
  | succ n ihn =>
   rw[vZ];cases l[n]? with
   |none=>exact ihn
   |some y =>
    have hf:(Array.replicate ops.size false).getD n false=false:=by simp[Array.getD]
    simp only[hf,Bool.false_eq_true,false_and,if_false];exact ihn
 exact(this _).symm
end
variable{K:List Rec->bS->aB->Prop}
section
def dM(P:Program)(T:TypeId)(cells:List AV):Prop:=∃z v,(∀w,(zeroValue T).run P w=.ok z w)/\ZV z v/\SX v=some cells
def kR(P:Program)(T:TypeId)(places:List (Nat×Nat))(l0:List AV):Prop :=∃fs pl z v,P.underlying T=some (.struct fs)/\(∀w,(zeroValue T).run P w=.ok z w)/\ZV z v/\SX v=some l0/\(∀w,((fs.mapM fun f=>do pure (f.offset,<-sizeOf f.type)):Sem (Array (Nat×Nat))).run P w=.ok pl w)/\pl.toList=places
def JK(P:Program)(T:TypeId)(sz:Nat)(l0:List AV):Prop :=∃n e z v,P.underlying T=some (.array n e)/\(∀w,(zeroValue T).run P w=.ok z w)/\ZV z v/\SX v=some l0/\∀w,(sizeOf e).run P w=.ok sz w
def eG(P:Program)(T e sz:TypeId):Prop:=P.underlying T=some (.slice e)/\(∀w,(sizeOf e).run P w=.ok sz w)/\0<sz/\∃z,∀w,(zeroValue e).run P w=.ok z w
def EI(P:Program)(e:TypeId)(sz bytes:Nat):Prop:=WO P e sz bytes/\0<bytes
theorem EI.mk(h:(P.info? e).map (fun i=>(i.zero,i.size,i.bytes))=some (some z,sz,bytes))(hz:z.cells.size=sz)(h0:0<sz)(hb:0<bytes):EI P e sz bytes:=by
 refine⟨?_,hb⟩;cases hi:P.info? e with
 |none=>rw[hi]at h;cases h
 |some i =>
  rw[hi]at h;simp only[Option.map_some,Option.some.injEq,Prod.mk.injEq]at h;obtain ⟨h1,h2,h3⟩:=h;exact⟨i,z,hi,h1,h2,h3,hz,h0⟩
theorem cH.congr{H3:aB}(h:cH P N o E H v H2)(he:∀j,H3.get j=H2.get j):cH P N o E H v H3:=by intro a w I ι hd hs hr hE K Q hk;refine h a w I ι hd hs hr hE K Q ?_;rintro c w' I' ι' r H' ⟨rfl,rfl⟩ hv hr' hst;obtain ⟨k2,k3⟩:=hr'.congr he;exact hk c w' I' ι' _ _ ⟨rfl,rfl⟩ (hv.mono hr' k3) k2 (hst.trans k3)
theorem sX(H:aB)(id:Nat)(o:Ob):∀j,aB.get ((id,o)::H) j=(H.set id o).get j:=by
 intro j;by_cases e:j=id
 ·subst e;rw[aB.get_set_same,get_cons_same]
 rw[aB.get_set_other _ _ e,get_cons_other _ _ e]
section
variable{x y:Operand}
theorem bM(ho:o.op=.alloc T)(hZ:dM P T cells)(hn:cells.length=n+1)(hid:H.get id=none):cH P N o E H (.ref id 0 0 0) ((id,⟨0,n+1,T,[cells]⟩)::H) :=let ⟨_,_,h1,h2,h3⟩:=hZ;aB5 ho h1 h2 h3 hn hid
theorem IL{places:List (Nat×Nat)}(ho:o.op=.build T parts)(hB:kR P T places l0)(hp:mW E parts.toList=some aps)(hf:yU (fun i=>places[i]?) l0 aps=some l):
  cH P N o E H (.agg l) H:=by
 obtain ⟨fs,pl,z,v,h1,h2,h3,h4,h5,h6⟩:=hB;refine F7 ho h1 h2 h3 h4 h5 hp ?_;have:(fun(i:Nat)=>pl[i]?)=fun(i:Nat)=>places[i]?:=by
  funext i;rw[<-h6];simp
 rw[this];exact hf
theorem uH(ho:o.op=.build T parts)(hB:JK P T sz l0)(hp:mW E parts.toList=some aps)(hf:yU (fun i=>some (i*sz,sz)) l0 aps=some l):
  cH P N o E H (.agg l) H :=
 let ⟨_,_,_,_,h1,h2,h3,h4,h5⟩:=hB;NV ho h1 h2 h3 h4 h5 hp hf
theorem aQ{e:Nat}(ps:List (List PV))(ho:o.op=.buildSlice T n parts)(hS:eG P T e sz)(hn:Nat.ble (n*sz) 16777216=true)(hp:mW E parts.toList=some aps)(hr:H7 0 aps=some rows)
  (hps:ps.map (·.map AV.pv)=rows) (hlen:ps.length=n) (hrl:∀r∈ps,r.length=sz):cH P N o E H (.pv (.sl ps)) H :=
 let ⟨h1,h2,h3,_,h4⟩:=hS;KR ho h1 h2 h4 (aOI hn) h3 hp hr hps hlen hrl
theorem pG{e:Nat}(ho:o.op=.buildSlice T n parts)(hS:eG P T e sz)(hn:Nat.ble (n*sz) 16777216=true)(hp:mW E parts.toList=some aps)(hr:H7 0 aps=some rows)
  (hlen:rows.length=n) (hrl:∀r∈rows,r.length=sz) (hid:H.get id=none):cH P N o E H (.osl id 0 0 n) ((id,⟨0,sz,e,rows⟩)::H) :=
 let ⟨h1,h2,h3,_,h4⟩:=hS;CV ho h1 h2 h4 (aOI hn) h3 hp hr hlen hrl hid
theorem bX{r:List AV}(ho:o.op=.store T x y)(hs:∀w,(sizeOf T).run P w=.ok n w)(hx:aO E x=some (.ref id g 0 0))(hy:aO E y=some v)(hc:SX v=some cells)
  (hn:cells.length=n) (hH:H.get id=some ob) (hg:ob.g=g) (hi:ob.rows=[r]) (hk:r.length=n):cH P N o E H .any ((id,⟨g,ob.sz,ob.ty,[cells]⟩)::H):=by
 subst hg;refine cH.congr (F6 (r':=cells) ho hx hy hc hs hn hH rfl (by rw[hi];rfl) (by omega) ?_ rfl) (fun j=>?_)
 ·rw[List.take_zero,List.nil_append,List.drop_eq_nil_of_le (by omega),List.append_nil]
 rw[sX];simp[hi]
theorem bD{r r':List AV}(ho:o.op=.store T x y)(hs:∀w,(sizeOf T).run P w=.ok 1 w)(hx:aO E x=some (.ref id g i k))(hy:aO E y=some v)(hc:SX v=some [v])
  (hH:H.get id=some ob) (hg:ob.g=g) (hi:ob.rows[i]?=some r) (hk:k<r.length) (hr':r.set k v=r') (hrows:ob.rows.set i r'=rows'):cH P N o E H .any ((id,⟨g,ob.sz,ob.ty,rows'⟩)::H):=by
 subst hg hrows;refine cH.congr (F6 (r':=r') ho hx hy hc hs rfl hH rfl hi (by omega) ?_ rfl) (fun j=>sX _ _ _ j);rw[<-hr',List.set_eq_take_append_cons_drop,aNu hk];rfl
theorem mF{r r':List AV}(ho:o.op=.store T x y)(hs:∀w,(sizeOf T).run P w=.ok n w)(hx:aO E x=some (.ref id g i k))(hy:aO E y=some v)(hc:SX v=some cells)
  (hn:cells.length=n) (hH:H.get id=some ob) (hg:ob.g=g) (hi:ob.rows[i]?=some r) (hk:k+n<=r.length) (hr':r.take k++(cells++r.drop (k+n))=r') (hrows:ob.rows.set i r'=rows'):cH P N o E H .any ((id,⟨g,ob.sz,ob.ty,rows'⟩)::H):=by
 subst hg hrows;exact cH.congr (F6 (r':=r') ho hx hy hc hs hn hH rfl hi hk hr' rfl) (fun j=>sX _ _ _ j)
theorem TV(hb:0<bytes)(h:(n+m)*bytes<=140737488355328):n+m<=9223372036854775807:=by have:n+m<=(n+m)*bytes:=Nat.le_mul_of_pos_right _ hb;omega
theorem cF(ho:o.op=.call {callee:=.builtin .append,args:=#[x,y],argTypes:=#[T,T]})(hS:eG P T e sz)(hinf:EI P e sz bytes)
  (hx:aO E x=some (.osl id g 0 n)) (hH:H.get id=some ob) (hg:ob.g=g) (hosz:ob.sz=sz) (hty:ob.ty=e) (hn:ob.rows.length=n)
  (hy:aO E y=some (.pv (.sl ps))) (hrl:∀r∈ps,r.length=sz) (hm:ps.length=m) (hbytes:(n+m)*bytes<=140737488355328) (hk:n+m=k) (hrows:ob.rows++ps.map (·.map AV.pv)=rows') :
  cH P N o E H (.osl id (g+1) 0 k) ((id,⟨g+1,sz,e,rows'⟩)::H):=by
 subst hk hrows;exact cH.congr (NW ho hS.1 hinf.1 hx hH hg hosz hty hn hy hrl hm hbytes (TV hinf.2 hbytes) rfl) (fun j=>sX _ _ _ j)
theorem AA{l c:Nat}(ho:o.op=.makeSlice T x y)(hS:eG P T e sz)(hinf:EI P e sz bytes)(hZ:dM P e row)(hrow:row.length=sz)
  (hx:aO E x=some (.pv (.int k1 n1))) (hy:aO E y=some (.pv (.int k2 n2))) (h1:0<=n1) (h2:n1<=n2) (hl:n1.toNat=l) (hc:n2.toNat=c) (hb:bytes*c<=281474976710656) (hid:H.get id=none) :
  cH P N o E H (.osl id 0 0 l) ((id,⟨0,sz,e,List.replicate l row⟩)::H):=by
 obtain ⟨z,v,z1,z2,z3⟩:=hZ;have hpos:c<=bytes*c:=Nat.le_mul_of_pos_left _ hinf.2;exact NN ho hS.1 hinf.1 z1 z2 z3 hrow hx hy h1 h2 hl hc hb (by omega) hid
theorem aT{rows:List (List PV)}{r:List PV}{n:Int}(ho:o.op=.indexAddr T x y)(hS:eG P T e sz)
  (hx:aO E x=some (.pv (.sl rows))) (hy:aO E y=some (.pv (.int kk n))) (h0:0<=n) (hm:n.toNat=m) (hi:rows[m]?=some r) (hl:r.length=sz):cH P N o E H (.pad rows m 0) H :=
 NP ho hS.1 hS.2.1 hx hy h0 hm hi hl
theorem dP{n:Int}{m2:Nat}(ho:o.op=.indexAddr T x y)(hS:eG P T e sz)
  (hx:aO E x=some (.osl id g off len)) (hH:H.get id=some ob) (hg:ob.g=g) (hsz:ob.sz=sz) (hy:aO E y=some (.pv (.int kk n))) (h0:0<=n) (hm:n.toNat=m) (hi:m<len) (hm2:off+m=m2):cH P N o E H (.ref id g m2 0) H :=
 NQ ho hS.1 hS.2.1 hx hH hg hsz hy h0 hm hi hm2
theorem xC{rows rows':List (List PV)}{l:Nat}(ho:o.op=.slice T x lo hi none)(hS:eG P T e sz)(hx:aO E x=some (.pv (.sl rows)))
  (hrows:∀r∈rows,r.length=sz) (hlo:bnd E lo 0=some (l:Int)) (hhi:bnd E hi rows.length=some (h:Int)) (h1:l<=h) (h2:h<=rows.length) (hr:(rows.take h).drop l=rows'):cH P N o E H (.pv (.sl rows')) H :=
 RT ho hS.1 hS.2.1 hx hrows hlo hhi h1 h2 hr
theorem gS{off2 len2 l:Nat}(ho:o.op=.slice T x lo hi none)(hS:eG P T e sz)(hx:aO E x=some (.osl id g off len))
  (hH:H.get id=some ob) (hg:ob.g=g) (hsz:ob.sz=sz) (hlo:bnd E lo 0=some (l:Int)) (hhi:bnd E hi len=some (h:Int)) (h1:l<=h) (h2:h<=len) (ho2:off+l=off2) (hl2:h - l=len2):cH P N o E H (.osl id g off2 len2) H :=
 CB ho hS.1 hS.2.1 hx hH hg hsz hlo hhi h1 h2 ho2 hl2
end
section
variable{ops:Array Oper}{K:bS->aB->Prop}
theorem aKI{t d:Tmp}(hg:o.guard=some (j,want))(hj:iD ops.toList j=some t)(hb:E.get t=some (.pv (.bool b)))(hw:b=want)(hd:o.dst=some d)(hn:Nat.blt d N=true)(h:cH P N o E H v H2)
  (hk:AL P G0 N ops K rest ((d,v)::E) H2):AL P G0 N ops K (o::rest) E H :=
 aMA hg hj hb hw (by rw[hd];exact hn) h fun r H' ⟨e1,e2⟩=>by subst e1 e2;rw[hd];exact hk
theorem aB2{c x y:Operand}(ho:o.op=.pick c x y)(hc:aO E c=some (.pv (.bool b)))(hb:b=true)(hv:aO E x=some v):cH P N o E H v H:=AM ho hc (by rw[hb];exact hv)
theorem aB3{c x y:Operand}(ho:o.op=.pick c x y)(hc:aO E c=some (.pv (.bool b)))(hb:b=false)(hv:aO E y=some v):cH P N o E H v H:=AM ho hc (by rw[hb];exact hv)
end
section
variable{ops:Array Oper}{K:bS->aB->Prop}
theorem cD.sub(h:∀k v,E'.get k=some v->E.get k=some v):cD G0 E H E' H:=by intro G hG N a w hs;obtain ⟨I,ι,hr,hst,he⟩:=hs.rel;exact⟨hs.defers,hs.size,I,ι,hr,hst,fun t v ht=>he t v (h t v ht)⟩
theorem aFM{l:List Oper}{t:Tmp}(hb:E.get t=some (.pv (.bool b)))(h1:b=true->AL P G0 N ops K l ((t,.pv (.bool true))::E) H)(h2:b=false->AL P G0 N ops K l ((t,.pv (.bool false))::E) H):AL P G0 N ops K l E H:=by
 have key:∀c,b=c->AL P G0 N ops K l ((t,.pv (.bool c))::E) H->AL P G0 N ops K l E H:=by
  rintro c rfl h G hG a w hs;refine h G hG a w (cD.sub (G0:=G0) (fun k v hk=>?_) G hG N a w hs);by_cases e:t=k
  ·subst e;rw[bS.get_cons_same]at hk;rw[hb,hk]
  rwa [bS.get_cons_other _ _ e]at hk
 cases b
 ·exact key false rfl (h2 rfl)
 exact key true rfl (h1 rfl)
def aLn(t:Nat)(D E:bS):Bool:=D.all fun p=>Nat.beq p.1 t||E.all fun q=>!(Nat.beq p.1 q.1)
def QP(n t:Nat)(X:Bool)(E:bS)(H:aB)(E1:bS)(H1:aB):Prop:=(∃b,E1.get t=some (.pv (.bool b))/\b=X)/\H1=H/\E1.drop n=E/\aLn t (E1.take n) E=true
theorem aHW(D E:bS)(k:Nat):bS.get (D++E) k=match D.get k with|some v=>some v|none=>E.get k:=by
 induction D with
 |nil=>rfl
 |cons x r ih =>
  obtain ⟨i,v⟩:=x;cases e:Nat.beq i k with
  |true=>simp[bS.get,e]
  |false=>simpa[bS.get,e]using ih
theorem QP.ent(h:QP n t X E H E1 H1):cD G0 E1 H1 ((t,.pv (.bool X))::E) H:=by
 obtain ⟨⟨b,h1,rfl⟩,rfl,h2,h3⟩:=h;refine cD.sub fun k v hk=>?_;by_cases e:t=k
 ·subst e;rw[bS.get_cons_same]at hk;rw[h1,hk]
 rw[bS.get_cons_other _ _ e]at hk;have happ:E1.take n++E=E1:=by rw[<-h2];exact List.take_append_drop n E1
 rw[<-happ,aHW];cases hd:bS.get (E1.take n) k with
 |none=>exact hk
 |some u =>
  have m1:=fR hd;have m2:=fR hk;have h4:=List.all_eq_true.1 h3 _ m1;simp only[jC (Ne.symm e),Bool.false_or]at h4;have:=List.all_eq_true.1 h4 _ m2;simp[kW]at this
theorem pS{d:Bool}{Q:Exit->bS->aB->Prop}(h:fL P G0 N (.region id ops d) (fun e E1 H1=>e=.normal/\QP n t X E H E1 H1) E H)(hk:Q .normal ((t,.pv (.bool X))::E) H):fL P G0 N (.region id ops d) Q E H:=by intro G hG a w hs ro hr;refine wpIn_mono (h G hG a w hs ro hr) ?_;rintro e a' w' ⟨E1,H1,⟨rfl,hm⟩,hs'⟩;exact⟨_,_,hk,(hm.ent (G0:=G0)) G hG N a' w' hs'⟩
theorem bF{Q:Exit->bS->aB->Prop}(h:AL P G0 N ops (fun E1 H1=>QP n t X E H E1 H1) ops.toList E H)(hk:Q .normal ((t,.pv (.bool X))::E) H):fL P G0 N (.region id ops false) Q E H :=pS (yR (Q:=fun e E1 H1=>e=.normal/\QP n t X E H E1 H1) (fun G hG a w hs ro hr Q' hq=>h G hG a w hs ro hr Q' (fun E1 H1 a1 w1 hm hs1=>hq E1 H1 a1 w1 ⟨rfl,hm⟩ hs1))) hk
end
section
variable{t:Tmp}{r:Rec}
theorem aIu(hg:o.guard=some (j,true))(hj:iD ops j=some t)(hb:E.get t=some (.pv (.bool b)))(hw:b=true)(h:cH P N o (restr E (fV ops o)) H v H):DStep P N ops o E H ⟨v,none,[]⟩:=.qon hg hj hb hw h
theorem aIv(hg:o.guard=some (j,false))(hj:iD ops j=some t)(hb:E.get t=some (.pv (.bool b)))(hw:b=false)(h:cH P N o (restr E (fV ops o)) H v H):DStep P N ops o E H ⟨v,none,[]⟩:=.qon hg hj hb hw h
theorem aG2(hg:o.guard=some (j,true))(hj:iD ops j=some t)(hb:E.get t=some (.pv (.bool b)))(hw:b=false):DStep P N ops o E H ⟨.tup [],some [],[]⟩:=.qoff hg hj hb (by simp[UO,hw])
theorem aG3(hg:o.guard=some (j,false))(hj:iD ops j=some t)(hb:E.get t=some (.pv (.bool b)))(hw:b=true):DStep P N ops o E H ⟨.tup [],some [],[]⟩:=.qoff hg hj hb (by simp[UO,hw])
theorem aG1(hg:o.guard=some (j,want))(hj:iD ops j=some t)(hb:E.get t=some (.tup [])):DStep P N ops o E H ⟨.tup [],some [],[]⟩:=.qoff hg hj hb rfl
theorem bR(hg:o.guard=some (j,true))(hj:iD ops j=some t)(hb:E.get t=some (.pv (.bool b)))(hw:b=true)(h:∀H1:aB,(∀id,wJ r.R id=true->H1.get id=H.get id)->cH P N o (restr E (fV ops o)) H1 r.v (r.W++H1)):DStep P N ops o E H r:=.on j true t b hg hj hb hw h
end
theorem aH.pure{f:FuncId}{r0:AV}(h:aH P f args [] (fun r H=>r=r0/\H=[]))(hp:∀a∈args,Clo [] a)(H:aB):aH P f args H (fun r H'=>r=r0/\H'=H) :=(h.frame0 hp (fun _ _ hq=>hq.2) H).mono fun _ _ ⟨⟨h1,_⟩,h2⟩=>⟨h1,h2⟩
def DH(P:Program)(id g:Nat)(args:List AV)(H:aB)(Q:AV->aB->Prop):Prop :=∀(I:Nat->Prop) (ι:dX) (w:World) (vs:Array Value) (v:Value),Rel I ι H w->VRel w I ι H v (.yld id g)->vs.size=args.length->(∀(i:Nat) (v:Value) (a:AV),vs[i]?=some v->args[i]?=some a->VRel w I ι H v a) ->
  ∃l f tmps assign body,v=.func (.yield l) #[] #[]/\(Instr.yield l vs).run P w=.ok (.round l f tmps assign body) w /\
   RoundIn Fence.wide 0 P l f tmps assign body w fun e w'=>∃r H' I' ι' v',e=.returned v'/\Q r H'/\VRel w' I' ι' H' v' r/\Rel I' ι' H' w'/\Step I ι H w I' ι' H' w'
def cK(P:Program)(fv:AV)(args:List AV)(H:aB)(Q:AV->aB->Prop):Prop :=(∃id g,fv=.yld id g/\DH P id g args H Q)\/∃F caps,(fv=.clo F caps\/(fv=.pv (.fn F)/\caps=[]))/\(∀(args:Array Value) (w:World),(callFunc F args).run P w=.ok (.enter F args) w)/\aH P F (args++caps) H Q
theorem cK.clo(hc:∀(args:Array Value) (w:World),(callFunc F args).run P w=.ok (.enter F args) w)(h:aH P F (args++caps) H Q):cK P (.clo F caps) args H Q:=.inr ⟨F,caps,.inl rfl,hc,h⟩
theorem cK.fn(hc:∀(args:Array Value) (w:World),(callFunc F args).run P w=.ok (.enter F args) w)(h:aH P F args H Q):cK P (.pv (.fn F)) args H Q:=.inr ⟨F,[],.inr ⟨rfl,rfl⟩,hc,by simpa using h⟩
theorem RQ{args:Array Operand}(ho:o.op=.call {callee:=.value f,args:=args,argTypes:=at_})(hf:aO E f=some (.yld id g))
  (hv:uZ E args.toList=some vs) (h:DH P id g vs H Q):ZH P N o E H Q:=by
 intro a w I ι _ _ hr he K Q' hk;have hfr:=aI he hf;obtain ⟨l1,l2⟩:=lZ he (kO hv);obtain ⟨l,fn,tmps,assign,body,e1,e2,e3⟩:=h I ι w (args.map a.eval) _ hr hfr (by simpa using l1) (fun i v b hv hb=>l2 i v b (by simpa using hv) hb);unfold Oper.wpW execOp;simp only[ho,resolve,e1,Deferred.ofValue,Sem.run_bind,Sem.run_pure,Result.andThen_ok,invoke,Array.empty_append,e2];refine e3.mono ?_;rintro e w' ⟨r,H',I',ι',v',rfl,q,k1,k2,k3⟩;exact hk v' w' I' ι' r H' q k1 k2 k3
theorem cC{args:Array Operand}{fv:AV}(ho:o.op=.call {callee:=.value f,args:=args,argTypes:=at_})(hf:aO E f=some fv)
  (hv:uZ E args.toList=some vs) (h:cK P fv vs H Q):ZH P N o E H Q:=by
 rcases h with⟨id,g,rfl,h⟩|⟨F,caps,hfv,hc,hcall⟩
 ·exact RQ ho hf hv h
 rcases hfv with rfl|⟨rfl,rfl⟩
 ·exact RS ho hf hc hv hcall
 exact aA ho hf hc hv (by simpa using hcall)
def aF2(E:bS):bS->Prop
 | []=>True
 |(t,v)::r=>(∃v0,E.get t=some v0/\v0=v)/\aF2 E r
theorem cD.e0(h:aF2 E E'):cD G0 E H E' H:=by
 refine cD.env ?_
 induction E' with
 |nil=>simp
 |cons x r ih =>
  obtain ⟨t,v⟩:=x;obtain ⟨⟨v0,h1,rfl⟩,h2⟩:=h;intro p hp;rcases aOH.1 hp with e|e
  ·subst e;exact h1
  exact ih h2 p e
theorem Fin.refl:Fin G0 H r H r:=fun _ _ I ι _ _ h1 h2 h3=>⟨I,ι,h1,h2,h3⟩
def aJk:AV->Option Value
 |.pv (.int k n)=>some (.int k n)
 |.pv (.bool b)=>some (.bool b)
 |.pv (.str s)=>some (.string s)
 |_=>none
def EV:List AV->Option (List Value)
 | []=>some []
 |a::r=>match aJk a,EV r with
  |some v,some vs=>some (v::vs)
  |_,_=>none
theorem aHO{c v:Value}(h:VRel w I ι H c a)(hf:aJk a=some v):c=v:=by
 unfold aJk at hf
 split at hf<;>cases hf
 ·exact h.int_inv
 ·exact h.bool_inv
 exact h.str_inv
theorem EU{c:Value}{vs:List Value}(h:VRel w I ι H c (.agg l))(hf:EV l=some vs):c=.agg vs.toArray:=by
 cases h with
 | @agg us _ hl h1 h2 =>
  congr 1;have key:∀(l:List AV) (vs us:List Value),us.length=l.length->(∀(i:Nat) (v:Value) (a:AV),us[i]?=some v->l[i]?=some a->VRel w I ι H v a)->EV l=some vs->us=vs:=by
   intro l
   induction l with
   |nil=>intro vs us h1 _ h3;simp[EV]at h3;subst h3;exact List.eq_nil_of_length_eq_zero h1
   | cons a r ih =>
    intro vs us h1 h2 h3;unfold EV at h3
    split at h3
    ·rename_i v vs' e1 e2;cases h3;cases us with
     |nil=>simp at h1
     |cons u us =>
      have hu:u=v:=aHO (h2 0 u a rfl rfl) e1;rw[hu,ih vs' us (by simpa using h1) (fun i v a hv ha=>h2 (i+1) v a (by simpa using hv) (by simpa using ha)) e2]
    cases h3
  have:=key l vs us.toList (by simpa using hl) (fun i v a hv ha=>h2 i v a (by simpa using hv) ha) hf;rw[<-this]
section
variable{T t':TypeId}{x y:Operand}{l1 l2:List AV}{xs ys:List Value}
theorem AQ(ho:o.op=.binOp .eql T x y t')(hx:aO E x=some (.agg l1))(hy:aO E y=some (.agg l2))(h1:EV l1=some xs)(h2:EV l2=some ys)(hG:P.eqGuardType P.depth T=false)
  (hE:∀w,(Op.equalIn 10000 T (.agg xs.toArray) (.agg ys.toArray)).run P w=.ok b w):cH P N o E H (.pv (.bool b)) H :=
 .of_run fun a w I ι _ he=>⟨.bool b,by
  have e1:=EU (aI he hx) h1;have e2:=EU (aI he hy) h2;simp only[execOp,ho,e1,e2,Sem.run_bind,run_eqGuard_agg w _ _ _ _ _ _ hG,Result.andThen_ok,run_eql_struct w,hE,Sem.run_pure],.pv (.bool _)⟩
theorem AP(ho:o.op=.binOp .neq T x y t')(hx:aO E x=some (.agg l1))(hy:aO E y=some (.agg l2))(h1:EV l1=some xs)(h2:EV l2=some ys)(hG:P.eqGuardType P.depth T=false)
  (hE:∀w,(Op.equalIn 10000 T (.agg xs.toArray) (.agg ys.toArray)).run P w=.ok b w):cH P N o E H (.pv (.bool (!b))) H :=
 .of_run fun a w I ι _ he=>⟨.bool (!b),by
  have e1:=EU (aI he hx) h1;have e2:=EU (aI he hy) h2;simp only[execOp,ho,e1,e2,Sem.run_bind,run_eqGuard_agg w _ _ _ _ _ _ hG,Result.andThen_ok,run_neq_struct w,hE,Sem.run_pure],.pv (.bool _)⟩
end
theorem iY{n:Int}(h0 : -9223372036854775808<=n)(h1:n<=9223372036854775807):IntKind.i64.wrap n=n:=by rw[IntKind.wrap_i64];omega
theorem wu8{n:Int}(h0:0<=n)(h1:n<=255):IntKind.u8.wrap n=n:=by simp only[IntKind.wrap,IntKind.bits,IntKind.signed];simp;omega
end
abbrev iv(n:Int):AV:=.pv (.int .i64 n)
abbrev bv(b:Bool):AV:=.pv (.bool b)
abbrev sv(s:ByteArray):AV:=.pv (.str s)
abbrev lv(l:List (List PV)):AV:=.pv (.sl l)
abbrev av(l:List PV):AV:=.agg (l.map .pv)
abbrev bx(n T:Nat)(r:List AV):Ob:=⟨0,n,T,[r]⟩
theorem dF.of(h:∀p∈H,∀r∈p.2.rows,∀a∈r,Clo H a):dF H:=fun _ _ ho=>h _ (cV ho)
theorem Sub.app{D:aB}(hD:∀p∈D,H.get p.1=none):Sub H (D++H):=fun id o ho=>by
 rw[BS];cases e:D.get id with
 |none=>exact ho
 |some o'=>exact absurd (hD _ (cV e)) (by rw[ho];simp)
def DC(P:Program)(N:Nat)(ops rest:List Oper)(E:bS)(H:aB)(K:List Rec->bS->aB->Prop):Prop:=∃rs E' H',DChain P N ops rest E H rs E' H'/\K rs E' H'
theorem bK(h:K [] E H):DC P N ops [] E H K:=⟨_,_,_,.nil,h⟩
theorem aX{r:Rec}(h:DStep P N ops o E H r)(hd:gY N o.dst=true)
  (hk:DC P N ops rest (iZ E o.dst r.v) (r.W++H) (fun rs E' H'=>K (r::rs) E' H')):DC P N ops (o::rest) E H K:=by
 obtain ⟨rs,E',H',h1,h2⟩:=hk;exact⟨_,_,_,.cons h hd h1,h2⟩
theorem aP{Q:Exit->bS->aB->Prop}{ops:Array Oper}(hm:P.follows .mixedOrders=true)
  (h:DC P N ops.toList ops.toList E H (fun rs E' H'=>F9 ops.toList rs=true/\Q .normal E' H')):fL P G0 N (.region id ops true) Q E H:=by
 obtain ⟨rs,E',H',h1,h2,h3⟩:=h;exact aFC hm h1 h2 h3
end Go.Abs
