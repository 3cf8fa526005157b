/-
  Parts of the proof: rules of an abstract program logic, contracts of functions, plain laws. Conditions: each theorem's own.
-/
import Derived.Test.YtiifmppaejpemaaGreatDoorKR4M1
import Derived.Laws.BytesArg
set_option linter.unusedVariables false
set_option linter.unusedSimpArgs false
set_option maxRecDepth 100000
set_option maxHeartbeats 8000000
namespace Go.Abs
section
inductive Clo (H:aB):AV→Prop
 | any:Clo H .any
 | pv (p:PV):Clo H (.pv p)
 | pad (rows:List (List PV)) (i k:Nat):Clo H (.pad rows i k)
 | ref {id g i k:Nat} (h:(H.get id).isSome=true):Clo H (.ref id g i k)
 | osl {id g off len:Nat} (h:(H.get id).isSome=true):Clo H (.osl id g off len)
 | clo {f:FuncId} {caps:List AV} (h:∀ a∈caps,Clo H a):Clo H (.clo f caps)
 | bnd {f:FuncId} {xs:List AV} (h:∀ a∈xs,Clo H a):Clo H (.bnd f xs)
 | agg {cs:List AV} (h:∀ a∈cs,Clo H a):Clo H (.agg cs)
 | tup {cs:List AV} (h:∀ a∈cs,Clo H a):Clo H (.tup cs)
 | mp {id g:Nat} (h:(H.get id).isSome=true):Clo H (.mp id g)
 | it {id g:Nat} (h:(H.get id).isSome=true):Clo H (.it id g)
 | yld {id g:Nat} (h:(H.get id).isSome=true):Clo H (.yld id g)
 | raw (x:Go.Loop) (ts:List Nat):Clo H (.raw x ts)
 | osc {id g off len c:Nat} (h:(H.get id).isSome=true):Clo H (.osc id g off len c)
@[simp] theorem aKG (H:aB):Clo H .any=True:=eq_true .any
@[simp] theorem aKh (H:aB) (p:PV):Clo H (.pv p)=True:=eq_true (.pv p)
@[simp] theorem aKF (H:aB) (rows:List (List PV)) (i k:Nat):Clo H (.pad rows i k)=True:=eq_true (.pad rows i k)
@[simp] theorem oV (H:aB) (id g i k:Nat):Clo H (.ref id g i k)=((H.get id).isSome=true):=propext ⟨fun h=>by cases h;assumption,.ref⟩
@[simp] theorem aF5 (H:aB) (id g i k:Nat):Clo H (.osl id g i k)=((H.get id).isSome=true):=propext ⟨fun h=>by cases h;assumption,.osl⟩
@[simp] theorem aHj (H:aB) (id g:Nat):Clo H (.mp id g)=((H.get id).isSome=true):=propext ⟨fun h=>by cases h;assumption,.mp⟩
@[simp] theorem aHk (H:aB) (id g:Nat):Clo H (.it id g)=((H.get id).isSome=true):=propext ⟨fun h=>by cases h;assumption,.it⟩
@[simp] theorem aF3 (H:aB) (id g:Nat):Clo H (.yld id g)=((H.get id).isSome=true):=propext ⟨fun h=>by cases h;assumption,.yld⟩
@[simp] theorem aKE (H:aB) (x:Go.Loop) (ts:List Nat):Clo H (.raw x ts)=True:=eq_true (.raw x ts)
@[simp] theorem aF6 (H:aB) (id g off len c:Nat):Clo H (.osc id g off len c)=((H.get id).isSome=true):=propext ⟨fun h=>by cases h;assumption,.osc⟩
@[simp] theorem aF8 (H:aB) (f:FuncId) (l:List AV):Clo H (.clo f l)=∀ a∈l,Clo H a:=propext ⟨fun h=>by cases h;assumption,.clo⟩
@[simp] theorem aF9 (H:aB) (f:FuncId) (l:List AV):Clo H (.bnd f l)=∀ a∈l,Clo H a:=propext ⟨fun h=>by cases h;assumption,.bnd⟩
@[simp] theorem PZ (H:aB) (l:List AV):Clo H (.agg l)=∀ a∈l,Clo H a:=propext ⟨fun h=>by cases h;assumption,.agg⟩
@[simp] theorem aF4 (H:aB) (l:List AV):Clo H (.tup l)=∀ a∈l,Clo H a:=propext ⟨fun h=>by cases h;assumption,.tup⟩
def Sub (H' H:aB):Prop:=∀ id o,H'.get id=some o→H.get id=some o
def cZ (H:aB):Prop:=∀ id o,H.get id=some o→∀ r∈o.rows,∀ a∈r,Clo H a
theorem VRel.restrict {w:World} {I:Nat→Prop} {ι:dR} {H H':aB} (hs:Sub H' H) {v:Value} {a:AV} (h:VRel w I ι H v a):Clo H' a→VRel w I ι H' v a:=by
 induction h with
 | any v=>exact fun _=>.any v
 | pv h=>exact fun _=>.pv h
 | ref o h1 h2 h3 h4 =>
  intro hc;cases hc with
  | ref hc =>
   obtain ⟨o',ho'⟩:=Option.isSome_iff_exists.1 hc;have:=hs _ _ ho';rw [h1] at this;cases this;exact .ref o ho' h2 h3 h4
 | pad b off cap sz h1 h2 h3 cs h4 h5 h6=>exact fun _=>.pad b off cap sz h1 h2 h3 cs h4 h5 h6
 | osl o h1 h2 h3 h4 =>
  intro hc;cases hc with
  | osl hc =>
   obtain ⟨o',ho'⟩:=Option.isSome_iff_exists.1 hc;have:=hs _ _ ho';rw [h1] at this;cases this;exact .osl o ho' h2 h3 h4
 | clo hl h ih =>
  intro hc;cases hc with|clo hc=>exact .clo hl fun i v a hv ha=>ih i v a hv ha (hc a (aL3 ha))
 | bnd hl h ih =>
  intro hc;cases hc with|bnd hc=>exact .bnd hl fun i v a hv ha=>ih i v a hv ha (hc a (aL3 ha))
 | agg hl h1 h ih =>
  intro hc;cases hc with|agg hc=>exact .agg hl h1 fun i v a hv ha=>ih i v a hv ha (hc a (aL3 ha))
 | tup hl h ih =>
  intro hc;cases hc with|tup hc=>exact .tup hl fun i v a hv ha=>ih i v a hv ha (hc a (aL3 ha))
 | mp o h1 h2 h3 h4 =>
  intro hc;cases hc with
  | mp hc =>
   obtain ⟨o',ho'⟩:=Option.isSome_iff_exists.1 hc;have:=hs _ _ ho';rw [h1] at this;cases this;exact .mp o ho' h2 h3 h4
 | it o h1 h2 h3 h4 =>
  intro hc;cases hc with
  | it hc =>
   obtain ⟨o',ho'⟩:=Option.isSome_iff_exists.1 hc;have:=hs _ _ ho';rw [h1] at this;cases this;exact .it o ho' h2 h3 h4
 | yld o h1 h2 h3 h4 =>
  intro hc;cases hc with
  | yld hc =>
   obtain ⟨o',ho'⟩:=Option.isSome_iff_exists.1 hc;have:=hs _ _ ho';rw [h1] at this;cases this;exact .yld o ho' h2 h3 h4
 | osc o h1 h2 h3 h4 =>
  intro hc;cases hc with
  | osc hc =>
   obtain ⟨o',ho'⟩:=Option.isSome_iff_exists.1 hc;have:=hs _ _ ho';rw [h1] at this;cases this;exact .osc o ho' h2 h3 h4
theorem GG.sub {ι:dR} {H H':aB} (hs:Sub H' H) {b:Nat} (h:GG ι H' b):GG ι H b :=let ⟨id,o,c,h1,h2⟩:=h;⟨id,o,c,hs id o h1,h2⟩
theorem Rel.restrict {I:Nat→Prop} {ι:dR} {H H':aB} {w:World} (hr:Rel I ι H w) (hs:Sub H' H) (hc:cZ H'):Rel I ι H' w where
 imm:=hr.imm
 obj:=fun id o ho=>(hr.obj id o (hs id o ho)).keep rfl (fun _ _ _ _=>⟨rfl,fun h=>h⟩) (fun r hr' a ha v hv=>hv.restrict hs (hc id o ho r hr' a ha))
 inj:=fun id id' o o' b c c' h h'=>hr.inj id id' o o' b c c' (hs id o h) (hs id' o' h')
 glob:=hr.glob
def GN (H0 H' H:aB):Prop:=∀ id,(H0.get id).isSome=true→H'.get id=H.get id
theorem Step.restrict {I0 I:Nat→Prop} {ι0 ι:dR} {H0 H H':aB} {w0 w:World} (h:Step I0 ι0 H0 w0 I ι H w) (hs:Sub H' H) (hk:GN H0 H' H):Step I0 ι0 H0 w0 I ι H' w where
 os:=h.os
 tape:=h.tape
 output:=h.output
 size:=h.size
 froz:=h.froz
 imm:=h.imm
 immNew:=h.immNew
 own:=fun b hb=>h.own b (hb.sub hs)
 keep:=h.keep
 objs:=fun id o ho=>by
  obtain ⟨o',h1,h2⟩:=h.objs id o ho;exact⟨o',(hk id (by simp [ho])).trans h1,h2⟩
def EOk (E:bO) (H':aB):bO→Prop
 | []=>True
 | (t,v)::r=>(∃ v0,E.get t=some v0∧v0=v)∧Clo H' v∧EOk E H' r
def QP (H H':aB):aB→Prop
 | []=>True
 | (id,o)::r=>(∃ o0,H.get id=some o0∧o0=o)∧(∀ r∈o.rows,∀ a∈r,Clo H' a)∧QP H H' r
def KOk (H' H:aB):aB→Prop
 | []=>True
 | (id,_)::r=>H'.get id=H.get id∧KOk H' H r
theorem fA {E:bO} {t:Nat} {v:AV} (h:E.get t=some v):(t,v)∈E:=by
 induction E with
 | nil=>cases h
 | cons x r ih =>
  obtain ⟨i,u⟩:=x;cases e:Nat.beq i t with
  | true =>
   have:i=t:=Nat.eq_of_beq_eq_true e;subst this;simp [bO.get,e] at h;simp [h]
  | false=>simp [bO.get,e] at h;exact List.mem_cons_of_mem _ (ih h)
theorem cR {H:aB} {t:Nat} {o:Ob} (h:H.get t=some o):(t,o)∈H:=by
 induction H with
 | nil=>cases h
 | cons x r ih =>
  obtain ⟨i,u⟩:=x;cases e:Nat.beq i t with
  | true =>
   have:i=t:=Nat.eq_of_beq_eq_true e;subst this;simp [aB.get,e] at h;simp [h]
  | false=>simp [aB.get,e] at h;exact List.mem_cons_of_mem _ (ih h)
theorem EOk.spec {E:bO} {H':aB} {E':bO} (h:EOk E H' E'):∀ p∈E',E.get p.1=some p.2∧Clo H' p.2:=by
 induction E' with
 | nil=>simp
 | cons x r ih =>
  obtain ⟨t,v⟩:=x;obtain ⟨⟨v0,h1,h2⟩,h3,h4⟩:=h;subst h2;intro p hp;rcases aL5.1 hp with e|e
  ·subst e;exact⟨h1,h3⟩
  exact ih h4 p e
theorem QP.spec {H H':aB} {L:aB} (h:QP H H' L):∀ p∈L,H.get p.1=some p.2∧∀ r∈p.2.rows,∀ a∈r,Clo H' a:=by
 induction L with
 | nil=>simp
 | cons x r ih =>
  obtain ⟨t,v⟩:=x;obtain ⟨⟨v0,h1,h2⟩,h3,h4⟩:=h;subst h2;intro p hp;rcases aL5.1 hp with e|e
  ·subst e;exact⟨h1,h3⟩
  exact ih h4 p e
theorem KOk.spec {H' H:aB} {L:aB} (h:KOk H' H L):∀ p∈L,H'.get p.1=H.get p.1:=by
 induction L with
 | nil=>simp
 | cons x r ih =>
  obtain ⟨t,v⟩:=x;intro p hp;rcases aL5.1 hp with e|e
  ·subst e;exact h.1
  exact ih h.2 p e
theorem QP.sub {H H':aB} (h:QP H H' H'):Sub H' H:=fun id o ho=>(h.spec _ (cR ho)).1
theorem QP.closed {H H':aB} (h:QP H H' H'):cZ H':=fun id o ho=>(h.spec _ (cR ho)).2
theorem KOk.kept {H0 H' H:aB} (h:KOk H' H H0):GN H0 H' H:=fun id hi=>by
 obtain ⟨o,ho⟩:=Option.isSome_iff_exists.1 hi;exact h.spec _ (cR ho)
theorem cD.wk {G0:aB} {E E':bO} {H H':aB} (hE:EOk E H' E') (hH:QP H H' H') (hk:KOk H' H G0):cD G0 E H E' H':=by intro G hG N a w hs;obtain ⟨I,ι,hr,hst,he⟩:=hs.rel;subst hG;refine⟨hs.defers,hs.size,I,ι,hr.restrict hH.sub hH.closed,hst.restrict hH.sub hk.kept,fun t v ht=>?_⟩;obtain ⟨h1,h2⟩:=hE.spec _ (fA ht);obtain ⟨c,hc,hv⟩:=he t v h1;exact⟨c,hc,hv.restrict hH.sub h2⟩
theorem cD.trans {G0:aB} {E E' E'':bO} {H H' H'':aB} (h:cD G0 E H E' H') (h':cD G0 E' H' E'' H''):cD G0 E H E'' H'':=fun G hG N a w hs=>h' G hG N a w (h G hG N a w hs)
theorem cD.env {G0:aB} {E E':bO} {H:aB} (hE:∀ p∈E',E.get p.1=some p.2):cD G0 E H E' H:=by intro G hG N a w hs;obtain ⟨I,ι,hr,hst,he⟩:=hs.rel;exact⟨hs.defers,hs.size,I,ι,hr,hst,fun t v ht=>he t v (hE _ (fA ht))⟩
inductive Fz (H':aB) (id g:Nat) (ps:List (List PV)):AV→AV→Prop
 | same {a:AV} (h:Clo H' a):Fz H' id g ps a a
 | osl {off len:Nat} {qs:List (List PV)} (hq:(ps.take (off+len)).drop off=qs):Fz H' id g ps (.osl id g off len) (.pv (.sl qs))
 | agg {cs cs':List AV} (hl:cs.length=cs'.length) (h:∀ (i:Nat) (a a':AV),cs[i]?=some a→cs'[i]?=some a'→Fz H' id g ps a a'):Fz H' id g ps (.agg cs) (.agg cs')
 | tup {cs cs':List AV} (hl:cs.length=cs'.length) (h:∀ (i:Nat) (a a':AV),cs[i]?=some a→cs'[i]?=some a'→Fz H' id g ps a a'):Fz H' id g ps (.tup cs) (.tup cs')
theorem Fz.raw {H':aB} {id g:Nat} {ps:List (List PV)} {a a':AV} (h:Fz H' id g ps a a') {y:Go.Loop} {ts:List Nat} (e:a'=.raw y ts):a=.raw y ts:=by cases h<;>first|exact e|cases e
def nS (I:Nat→Prop) (ι:dR) (id:Nat):Nat→Prop:=fun b=>I b∨∃ cap,ι id=some (b,cap)
theorem F8 {w:World} {I:Nat→Prop} {ι:dR} {H:aB} {id:Nat} {ob:Ob} {ps:List (List PV)} (hr:Rel I ι H w) (hH:H.get id=some ob) (hps:ob.rows=ps.map (·.map .pv)) {v:Value} {off len:Nat} (hv:VRel w I ι H v (.osl id ob.g off len)) :
  PRep w (nS I ι id) v (.sl ((ps.take (off+len)).drop off)):=by
 obtain ⟨hle,⟨b,cap,oo,h1,h2,h3⟩|⟨h1,h2,h3,h4⟩⟩:=gO hv hH rfl
 ·obtain ⟨p1,p2,⟨b',cap',cs,e1,e2,e3,e4,e5,e5',e6⟩|⟨e1,_⟩⟩:=(hr.obj id ob hH).cells (lQ hv hH rfl)
  ·rw [h1] at e1;cases e1;have hlen:ps.length=ob.rows.length:=by rw [hps];simp
   have hcut:=PRep.cut (w:=w) (I:=nS I ι id) (b:=b) (off:=0) (cap:=cap) (sz:=ob.sz) (rows:=ps) (l:=off) (h:=off+len) (cs:=fun i k=>(cs[i*ob.sz+k]?).getD undef)
    (.inr ⟨cap,h1⟩) p1 (fun r hr'=>by
     have:r.map AV.pv∈ob.rows:=by rw [hps];exact List.mem_map_of_mem hr'
     have:=p2 _ this
     simpa using this) (by omega)
    (fun i r hi k p hk=>by
     obtain ⟨u,q1,q2,q3⟩:=e6 i (r.map .pv) (by rw [hps];simp [hi]) k (.pv p) (by simp [hk]);rw [aLb,cell_of_row w b _ cs ob.ty (0,0) e2,q1];rfl)
    (fun i r hi k p hk=>by
     obtain ⟨u,q1,q2,q3⟩:=e6 i (r.map .pv) (by rw [hps];simp [hi]) k (.pv p) (by simp [hk]);rw [q1];exact q3.pv_inv.mono (fun _ _=>rfl) (fun _ h=>.inl h)) (by omega) (by omega)
   rw [h2];by_cases ec:cap=off
   ·have hl0:len=0:=by omega
    subst hl0;have:(ps.take (off+0)).drop off=[]:=List.eq_nil_of_length_eq_zero (by simp);rw [this];exact .sl b oo (cap - off) ob.sz [] (fun _ _=>undef) (.inr ⟨cap,h1⟩) p1 (by simp) (by simp) (by simp) (by simp)
   rw [aLR ec,Addr.add_lit] at hcut;rw [h3 (by omega)]
   simpa using hcut
  rw [h1] at e1;cases e1
 subst h3 h4;rw [h2]
 simpa using PRep.nilsl
theorem VRel.freeze {w:World} {I:Nat→Prop} {ι:dR} {H H':aB} {id:Nat} {ob:Ob} {ps:List (List PV)} (hr:Rel I ι H w) (hs:Sub H' H) (hH:H.get id=some ob) (hps:ob.rows=ps.map (·.map .pv)) {a a':AV} (hf:Fz H' id ob.g ps a a') :
  ∀ {v:Value},VRel w I ι H v a→VRel w (nS I ι id) ι H' v a':=by
 induction hf with
 | same h=>exact fun hv=>(hv.restrict hs h).mono' (fun _ _=>rfl) (fun _ h=>.inl h) (fun _ o h=>⟨o,h,aLZ _,fun _=>⟨rfl,rfl,fun _=>aLZ _⟩⟩)
 | osl hq =>
  intro v hv;subst hq;exact .pv (F8 hr hH hps hv)
 | agg hl h ih =>
  intro v hv;cases hv with
  | agg h1 h2 h3 =>
   refine .agg (h1.trans hl) h2 fun i u a' hu ha'=>?_;have hi:=(aLX.1 ha').1;exact ih i _ a' (aLY (by omega)) ha' (h3 i u _ hu (aLY (by omega)))
 | tup hl h ih =>
  intro v hv;cases hv with
  | tup h1 h3 =>
   refine .tup (h1.trans hl) fun i u a' hu ha'=>?_;have hi:=(aLX.1 ha').1;exact ih i _ a' (aLY (by omega)) ha' (h3 i u _ hu (aLY (by omega)))
theorem Rel.freeze {w:World} {I:Nat→Prop} {ι:dR} {H H':aB} {id:Nat} {ob:Ob} (hr:Rel I ι H w) (hs:Sub H' H) (hc:cZ H') (hH:H.get id=some ob) (hno:H'.get id=none):Rel (nS I ι id) ι H' w:=by
 have hr':=hr.restrict hs hc;refine⟨fun b hb=>?_,fun j o hj=>?_,hr'.inj,hr.glob.mono (fun _ _=>rfl) (fun _ h=>.inl h)⟩
 ·rcases hb with hb|⟨cap,hb⟩
  ·exact hr.imm b hb
  exact hr.lt ⟨id,ob,cap,hH,hb⟩
 refine(hr'.obj j o hj).keep rfl (fun b' cap' e1 _=>⟨rfl,fun e3=>?_⟩) (fun r _ a _ v hv=>hv.mono' (fun _ _=>rfl) (fun _ h=>.inl h) (fun _ o h=>⟨o,h,aLZ _,fun _=>⟨rfl,rfl,fun _=>aLZ _⟩⟩));rintro(h|⟨cap,h⟩)
 ·exact e3 h
 have:j=id:=hr.inj j id o ob b' cap' cap (hs j o hj) hH e1 h;rw [this,hno] at hj;cases hj
theorem Step.freeze {I0 I:Nat→Prop} {ι0 ι:dR} {H0 H H':aB} {w0 w:World} {id:Nat} {ob:Ob} (h:Step I0 ι0 H0 w0 I ι H w) (hs:Sub H' H) (hk:GN H0 H' H) (hH:H.get id=some ob):Step I0 ι0 H0 w0 (nS I ι id) ι H' w :=let h':=h.restrict hs hk
  { h' with
    imm:=fun b hb=>.inl (h.imm b hb)
    immNew:=fun b hb=>by
      rcases hb with hb|⟨cap,hb⟩
      · exact h.immNew b hb
      · rcases h.own b ⟨id,ob,cap,hH,hb⟩with h1|h1
        · exact .inr (.inl h1)
        · exact .inr (.inr h1)}
def Fin (G0:aB) (H:aB) (r:AV) (H':aB) (r':AV):Prop :=∀ (G:Entry),G.H=G0→∀ (I:Nat→Prop) (ι:dR) (w:World) (v:Value),Rel I ι H w→Step G.I G.ι G.H G.w I ι H w→VRel w I ι H v r →
  ∃ I' ι',Rel I' ι' H' w∧Step G.I G.ι G.H G.w I' ι' H' w∧VRel w I' ι' H' v r'
theorem Fin.wk {G0 H H':aB} {r:AV} (hr:Clo H' r) (hH:QP H H' H') (hk:KOk H' H G0):Fin G0 H r H' r:=by intro G hG I ι w v h1 h2 h3;subst hG;exact⟨I,ι,h1.restrict hH.sub hH.closed,h2.restrict hH.sub hk.kept,h3.restrict hH.sub hr⟩
theorem Fin.trans {G0 H H' H'':aB} {r r' r'':AV} (h:Fin G0 H r H' r') (h':Fin G0 H' r' H'' r''):Fin G0 H r H'' r'':=by intro G hG I ι w v h1 h2 h3;obtain ⟨I',ι',a1,a2,a3⟩:=h G hG I ι w v h1 h2 h3;exact h' G hG I' ι' w v a1 a2 a3
theorem Fin.fz {G0 H H':aB} {r r':AV} {id:Nat} {ob:Ob} (ps:List (List PV)) (hH:H.get id=some ob) (hps:ob.rows=ps.map (·.map .pv)) (hf:Fz H' id ob.g ps r r') (hno:H'.get id=none) (hHO:QP H H' H') (hk:KOk H' H G0):Fin G0 H r H' r':=by intro G hG I ι w v h1 h2 h3;subst hG;exact⟨_,ι,h1.freeze hHO.sub hHO.closed hH hno,h2.freeze hHO.sub hk.kept hH,VRel.freeze h1 hHO.sub hH hps hf h3⟩
theorem cD.fz {G0:aB} {E E':bO} {H H':aB} {id:Nat} {ob:Ob} (ps:List (List PV)) (hH:H.get id=some ob) (hps:ob.rows=ps.map (·.map .pv)) (hE:∀ p∈E',∃ v0,E.get p.1=some v0∧Fz H' id ob.g ps v0 p.2) (hno:H'.get id=none)
  (hHO:QP H H' H') (hk:KOk H' H G0):cD G0 E H E' H':=by
 intro G hG N a w hs;obtain ⟨I,ι,hr,hst,he⟩:=hs.rel;subst hG;refine⟨hs.defers,hs.size,_,ι,hr.freeze hHO.sub hHO.closed hH hno,hst.freeze hHO.sub hk.kept hH,fun t v ht=>?_⟩;obtain ⟨v0,h1,h2⟩:=hE _ (fA ht);obtain ⟨c,hc,hv⟩:=he t v0 h1;exact⟨c,hc,VRel.freeze hr hHO.sub hH hps h2 hv⟩
def kA (args:List AV):bO:=args.zipIdx.map fun(v,i)=>(i,v)
def RD (tmps:Array Value):ResultVar→Sem Value
 | .tmp t=>pure (tmps.getD t undef)
 | .cell a t=>do loadVar t (← asAddr (tmps.getD a undef))
theorem oM (fn:Func) (tmps:Array Value):results fn tmps=(do let vs ← fn.results.mapM (RD tmps);pure (if h:vs.size=1 then vs[0] else .tuple vs)):=by unfold results;congr 1
def GM (P:Program) (E:bO) (H:aB) (x:ResultVar) (r:AV):Prop :=∀ (a:Act) (w:World) (I:Nat→Prop) (ι:dR),Rel I ι H w→gQ w I ι H E a →
  ∃ v,(RD a.tmps x).run P w=.ok v w∧VRel w I ι H v r
theorem aT {P:Program} {E:bO} {H:aB} {t:Tmp} {r:AV} (h:E.get t=some r):GM P E H (.tmp t) r:=fun a w I ι _ he=>by
 obtain ⟨c,hc,hv⟩:=he t r h;exact⟨c,by simp [RD,hc],hv⟩
theorem eU {P:Program} {E:bO} {H:aB} {t:Tmp} {T:TypeId} {n id g i k:Nat} {ob:Ob} {r cs:List AV} (hx:E.get t=some (.ref id g i k)) (ha:∀ w,(isAgg T).run P w=.ok true w) (hs:∀ w,(sizeOf T).run P w=.ok n w) (hH:H.get id=some ob) (hg:ob.g=g)
  (hi:ob.rows[i]?=some r) (hk:(r.drop k).take n=cs) (hl:cs.length=n):GM P E H (.cell t T) (.agg cs):=fun a w I ι hr he=>by
 obtain ⟨c,hc,hv⟩:=he t _ hx;obtain ⟨v,h1,h2⟩:=aCL (P:=P) (T:=T) (AA hr hv hH hg hi) ha hs hk hl;obtain ⟨b,cap,_,e⟩:=lH hv hH hg;subst e;refine⟨v,?_,h2⟩
 simpa [RD,hc,asAddr,Instr.loadAt,Instr.sureAddr] using h1
theorem eX {P:Program} {E:bO} {H:aB} {t:Tmp} {T:TypeId} {id g i k:Nat} {ob:Ob} {r:List AV} {v:AV} (hx:E.get t=some (.ref id g i k)) (ha:∀ w,(isAgg T).run P w=.ok false w) (hH:H.get id=some ob) (hg:ob.g=g)
  (hi:ob.rows[i]?=some r) (hk:r[k]?=some v):GM P E H (.cell t T) v:=fun a w I ι hr he=>by
 obtain ⟨c,hc,hv⟩:=he t _ hx;obtain ⟨u,h1,h2⟩:=aCM (P:=P) (T:=T) (a:=v) (AA hr hv hH hg hi) ha (by simpa using hk);obtain ⟨b,cap,_,e⟩:=lH hv hH hg;subst e;refine⟨u,?_,h2⟩
 simpa [RD,hc,asAddr,Instr.loadAt,Instr.sureAddr] using h1
def FL (P:Program) (fn:Func) (G0:aB) (Q:AV→aB→Prop) (e:Exit) (E:bO) (H:aB):Prop :=(e=.normal∨e=.ret)∧∃ r,(∀ (a:Act) (w:World) (I:Nat→Prop) (ι:dR),Rel I ι H w→gQ w I ι H E a→∃ v,(results fn a.tmps).run P w=.ok v w∧VRel w I ι H v r)∧∃ r' H',Fin G0 H r H' r'∧Q r' H'
section
variable {P:Program} {fn:Func} {G0 H:aB} {Q:AV→aB→Prop} {e:Exit} {E:bO}
theorem pL (he:e=.normal∨e=.ret) (hf:fn.results=#[]) {r':AV} {H':aB} (hfin:Fin G0 H (.tup []) H' r') (hq:Q r' H'):FL P fn G0 Q e E H :=⟨he,.tup [],fun a w I ι _ _=>⟨.tuple #[],by simp [results,hf],.tup rfl (by simp)⟩,r',H',hfin,hq⟩
theorem dF (he:e=.normal∨e=.ret) {x:ResultVar} {r r':AV} {H':aB} (hf:fn.results=#[x]) (hx:GM P E H x r) (hfin:Fin G0 H r H' r') (hq:Q r' H'):FL P fn G0 Q e E H :=⟨he,r,fun a w I ι hr hE=>by
  obtain ⟨v,h1,h2⟩:=hx a w I ι hr hE;exact⟨v,by rw [oM,hf];simp [h1],h2⟩,r',H',hfin,hq⟩
theorem rW (he:e=.normal∨e=.ret) {x y:ResultVar} {r s r':AV} {H':aB} (hf:fn.results=#[x,y]) (hx:GM P E H x r) (hy:GM P E H y s) (hfin:Fin G0 H (.tup [r,s]) H' r') (hq:Q r' H'):FL P fn G0 Q e E H :=⟨he,.tup [r,s],fun a w I ι hr hE=>by
  obtain ⟨v,h1,h2⟩:=hx a w I ι hr hE;obtain ⟨u,h3,h4⟩:=hy a w I ι hr hE;refine⟨.tuple #[v,u],by rw [oM,hf];simp [h1,h3],.tup rfl ?_⟩;intro i c b hc hb
  match i with
  | 0=>simp at hc hb;subst hc hb;exact h2
  | 1=>simp at hc hb;subst hc hb;exact h4
  | i+2=>simp at hc,r',H',hfin,hq⟩
theorem xL (he:e=.normal∨e=.ret) {x y z:ResultVar} {r s t r':AV} {H':aB} (hf:fn.results=#[x,y,z]) (hx:GM P E H x r) (hy:GM P E H y s) (hz:GM P E H z t) (hfin:Fin G0 H (.tup [r,s,t]) H' r') (hq:Q r' H'):FL P fn G0 Q e E H :=⟨he,.tup [r,s,t],fun a w I ι hr hE=>by
  obtain ⟨v,h1,h2⟩:=hx a w I ι hr hE;obtain ⟨u,h3,h4⟩:=hy a w I ι hr hE;obtain ⟨q,h5,h6⟩:=hz a w I ι hr hE;refine⟨.tuple #[v,u,q],by rw [oM,hf];simp [h1,h3,h5],.tup rfl ?_⟩;intro i c b hc hb
  match i with
  | 0=>simp at hc hb;subst hc hb;exact h2
  | 1=>simp at hc hb;subst hc hb;exact h4
  | 2=>simp at hc hb;subst hc hb;exact h6
  | i+3=>simp at hc,r',H',hfin,hq⟩
end
theorem qL {args:List AV} {t:Nat} {v:AV} (h:(kA args).get t=some v):args[t]?=some v:=by have hm:=fA h;simp only [kA,List.mem_map,Prod.mk.injEq,Prod.exists] at hm;obtain ⟨a,i,h1,h2,h3⟩:=hm;subst h2 h3;rw [List.mem_zipIdx_iff_getElem?] at h1;exact h1
theorem PRep.swap {w w':World} {I:Nat→Prop} (hc:∀ b o,w'.cell? ⟨b,o,none⟩=w.cell? ⟨b,o,none⟩) {v:Value} {p:PV} (h:PRep w I v p):PRep w' I v p:=by
 induction h with
 | int k n=>exact .int k n
 | bool b=>exact .bool b
 | str s=>exact .str s
 | nilp=>exact .nilp
 | fn f=>exact .fn f
 | nilfn=>exact .nilfn
 | nilsl=>exact .nilsl
 | nils=>exact .nils
 | nilm=>exact .nilm
 | sat h1 h=>exact .sat h1 h
 | slf a n rows h ih=>exact .slf a n rows ih
 | ifc t v p h ih=>exact .ifc t v p ih
 | ifa t cs ps hl h ih=>exact .ifa t cs ps hl (fun k c p hc hp=>ih k c p hc hp)
 | empsl a=>exact .empsl a
 | sl b off cap sz rows cs hb hsz hlen hcap hc' hp ih =>
  exact .sl b off cap sz rows cs hb hsz hlen hcap (fun i r hr k p hk=>(hc _ _).trans (hc' i r hr k p hk)) ih
theorem KJ.swap {w:World} {I:Nat→Prop} {D:Nat} {x:Option (List Deferred)} (hD:w.heap[D]?=some (.deferred x)) (y:Option (List Deferred)) (h:KJ I w):KJ I (w.putObj D (.deferred y)):=fun p hp=>by
 obtain ⟨h1,cs,t,f,h2,h3⟩:=h p hp;refine⟨h1,cs,t,f,?_,h3⟩;rw [World.putObj_heap_other (fun e=>by rw [← e,h2] at hD;cases hD)];exact h2
theorem VRel.swap {w w':World} {I:Nat→Prop} {ι:dR} {H:aB} (hc:∀ b o,w'.cell? ⟨b,o,none⟩=w.cell? ⟨b,o,none⟩) {v:Value} {a:AV} (h:VRel w I ι H v a):VRel w' I ι H v a:=by
 induction h with
 | any v=>exact .any v
 | pv h=>exact .pv (h.swap hc)
 | ref o h1 h2 h3 h4=>exact .ref o h1 h2 h3 h4
 | pad b off cap sz h1 h2 h3 cs h4 h5 h6=>exact .pad b off cap sz (h1.swap hc) h2 h3 cs h4 (fun i r hr k p hk=>(hc _ _).trans (h5 i r hr k p hk)) (fun i r hr k p hk=>(h6 i r hr k p hk).swap hc)
 | osl o h1 h2 h3 h4=>exact .osl o h1 h2 h3 h4
 | clo hl h ih=>exact .clo hl ih
 | bnd hl h ih=>exact .bnd hl ih
 | agg hl h1 h ih=>exact .agg hl h1 ih
 | tup hl h ih=>exact .tup hl ih
 | mp o h1 h2 h3 h4=>exact .mp o h1 h2 h3 h4
 | it o h1 h2 h3 h4=>exact .it o h1 h2 h3 h4
 | yld o h1 h2 h3 h4=>exact .yld o h1 h2 h3 h4
 | osc o h1 h2 h3 h4=>exact .osc o h1 h2 h3 h4
theorem ZD {G:Entry} {I:Nat→Prop} {ι:dR} {H:aB} {w:World} {D:Nat} {x:Option (List Deferred)} (hr:Rel I ι H w) (hst:Step G.I G.ι G.H G.w I ι H w) (hD:w.heap[D]?=some (.deferred x)) (hG:G.w.heap.size≤D) (y:Option (List Deferred)) :
    Rel I ι H (w.putObj D (.deferred y))∧Step G.I G.ι G.H G.w I ι H (w.putObj D (.deferred y))∧∀ v a,VRel w I ι H v a→VRel (w.putObj D (.deferred y)) I ι H v a:=by
  have hlt:=(Array.getElem?_eq_some_iff.1 hD).1;have hc:∀ b o,(w.putObj D (.deferred y)).cell? ⟨b,o,none⟩=w.cell? ⟨b,o,none⟩:=fun b o=>by
    by_cases e:b=D
    · subst e
      simp [World.cell?,World.putObj_heap_same hlt,hD]
    · exact cell?_of_heap (World.putObj_heap_other e)
  have hv:∀ v a,VRel w I ι H v a→VRel (w.putObj D (.deferred y)) I ι H v a:=fun v a h=>h.swap hc;have hno:=uG hr hD;refine⟨⟨fun b hb=>by rw [World.putObj_size];exact hr.imm b hb,fun j o hj=>?_,hr.inj,hr.glob.swap hD y⟩,?_,hv⟩
  · exact(hr.obj j o hj).keep rfl (fun b cap e1 _=>⟨World.putObj_heap_other (fun e=>hno (e▸⟨j,o,cap,hj,e1⟩)),fun h=>h⟩) (fun r _ a _ v h=>hv v a h)
  · exact { os := hst.os, tape := hst.tape, output := hst.output
            size:=by rw [World.putObj_size];exact hst.size
            froz:=fun a ha hn=>by
              rw [← hst.froz a ha hn];unfold World.frozen?;rw [World.putObj_heap_other (by omega)]
            imm:=hst.imm,immNew:=hst.immNew,own:=hst.own
            keep:=fun b hb hn=>by rw [World.putObj_heap_other (by omega)];exact hst.keep b hb hn
            objs:=hst.objs}
theorem tG {P:Program} {fn:Func} {G:Entry} {tmps:Array Value} {E:bO} {I:Nat→Prop} {ι:dR} {H:aB} {ds0 ds:List Deferred} {u:FrameMode} {R:Ending→World→Prop} {w:World} {a:Act} (hu:u≠.run) (hd:nY ds0 G.w w ds) (hr:Rel I ι H w) (hst:Step G.I G.ι G.H G.w I ι H w) (hE:gQ w I ι H E a)
  (hk:∀ w',Rel I ι H w'→Step G.I G.ι G.H G.w I ι H w'→gQ w' I ι H E a→LeavesInM Fence.wide 0 P fn tmps R ds0 u w'):LeavesInM Fence.wide 0 P fn tmps R ds u w:=by
 obtain ⟨Ds,rfl,hn,hD⟩:=hd
 induction Ds generalizing w with
 | nil=>exact hk w hr hst hE
 | cons D Ds ih =>
  obtain ⟨h1,h2⟩:=hD D List.mem_cons_self;obtain ⟨k1,k2,k3⟩:=ZD hr hst h2 h1 none;have hlt:=(Array.getElem?_eq_some_iff.1 h2).1;refine⟨hu,.inl ⟨D,_,rfl,run_takeDeferred h2,?_⟩⟩;refine ih k1 k2 (fun t v ht=>let ⟨c,c1,c2⟩:=hE t v ht;⟨c,c1,k3 _ _ c2⟩) (List.nodup_cons.1 hn).2 (fun D' hD'=>?_);obtain ⟨q1,q2⟩:=hD D' (List.mem_cons_of_mem _ hD');refine⟨q1,?_⟩;rw [World.putObj_heap_other (k:=D') (r:=D) (fun e=>(List.nodup_cons.1 hn).1 (by rw [← e];exact hD'))];exact q2
theorem qE {P:Program} {fn:Func} {G:Entry} {tmps:Array Value} {E:bO} {I:Nat→Prop} {ι:dR} {H:aB} {ds:List Deferred} {R:Ending→World→Prop} {w:World} {a:Act} (hd:nY [] G.w w ds) (hr:Rel I ι H w) (hst:Step G.I G.ι G.H G.w I ι H w) (hE:gQ w I ι H E a)
  (hk:∀ w',Rel I ι H w'→Step G.I G.ι G.H G.w I ι H w'→gQ w' I ι H E a→∃ v,(results fn tmps).run P w'=.ok v w'∧R (.returned v) w'):LeavesInM Fence.wide 0 P fn tmps R ds .returning w :=
 tG (by simp) hd hr hst hE hk
theorem aH.body {P:Program} {f:FuncId} {fn:Func} {c:Code} {args:List AV} {H:aB} {Q:AV→aB→Prop} {N:Nat} (hf:P.funcs[f]?=some fn) (hb:fn.body=some c) (hN:fn.ntmps=N) (hlen:args.length≤N)
  (h:fE P H N c (FL P fn H Q) (kA args) H):aH P f args H Q:=by
 intro I ι w vs hr hl hv;refine callsIn_wide.1 (callsIn_of_wp_marks (F:=Fence.wide) (n:=0) hf hb trivial ?_);have hst:St ⟨I,ι,H,w,[]⟩ N (kA args) H {tmps:=vs++Array.replicate (fn.ntmps - vs.size) undef,defers:=[]} w:=by
  refine⟨nY.nil _ _ _,?_,I,ι,hr,Step.refl _ _ _ _,fun t a ht=>?_⟩
  ·simp;omega
  have ha:=qL ht;have hlt:t < vs.size:=by rw [hl];exact(aLX.1 ha).1
  have hu:vs[t]?=some vs[t]:=Array.getElem?_eq_getElem hlt;exact⟨vs[t],by rw [Array.getElem?_append_left hlt];exact hu,hv t _ a hu ha⟩
 refine wpIn_mono (h ⟨I,ι,H,w,[]⟩ rfl _ w hst none (.inl rfl)) ?_;rintro e a' w' ⟨E',H',⟨he,r,hres,r',H'',hfin,hq⟩,hs⟩;have key:LeavesInM Fence.wide 0 P fn a'.tmps (fun e w'=>∃ r H' I' ι' v,e=.returned v∧Q r H'∧VRel w' I' ι' H' v r∧Rel I' ι' H' w'∧Step I ι H w I' ι' H' w') a'.defers .returning w':=by
  obtain ⟨I',ι',hr',hst',hE'⟩:=hs.rel;refine qE hs.defers hr' hst' hE' ?_;intro w2 hr2 hst2 hE2;obtain ⟨v,h1,h2⟩:=hres a' w2 I' ι' hr2 hE2;obtain ⟨I2,ι2,k1,k2,k3⟩:=hfin ⟨I,ι,H,w,[]⟩ rfl I' ι' w2 v hr2 hst2 h2;exact⟨v,h1,r',H'',I2,ι2,v,rfl,hq,k3,k1,k2⟩
 rcases he with rfl|rfl
 ·exact key
 exact key
section
variable {P:Program} {N:Nat} {o:Oper} {E:bO} {H:aB} {Q:AV→aB→Prop}
theorem lC {w:World} {I:Nat→Prop} {ι:dR} {a:Act} (he:gQ w I ι H E a):∀ {l:List Operand} {vs:List AV},l.mapM (aN E)=some vs→l.length=vs.length∧∀ (i:Nat) (v:Value) (b:AV),(l.map a.eval)[i]?=some v→vs[i]?=some b→VRel w I ι H v b:=by
 intro l
 induction l with
 | nil=>intro vs h;simp at h;subst h;simp
 | cons x l ih =>
  intro vs h;simp only [List.mapM_cons,Option.pure_def,Option.bind_eq_bind,Option.bind_eq_some_iff,Option.some.injEq] at h;obtain ⟨v0,h0,vs0,h1,rfl⟩:=h;obtain ⟨l1,l2⟩:=ih h1;refine⟨by simp [l1],?_⟩;intro i v b hv hb;cases i with
  | zero=>simp at hv hb;subst hv hb;exact aI he h0
  | succ i=>simp at hv hb;exact l2 i v b (by simpa using hv) hb
def sX (E:bO):List Operand→Option (List AV)
 | []=>some []
 | x::r=>match aN E x,sX E r with
  | some v,some vs=>some (v::vs)
  | _,_=>none
theorem jV {l:List Operand} {vs:List AV} (h:sX E l=some vs):l.mapM (aN E)=some vs:=by
 induction l generalizing vs with
 | nil=>simpa [sX] using h
 | cons x r ih =>
  unfold sX at h
  split at h
  ·rename_i v us e1 e2;cases h;simp [List.mapM_cons,e1,ih e2]
  cases h
theorem aA {F:FuncId} {f:Operand} {args:Array Operand} {at_:Array TypeId} {vs:List AV} (ho:o.op=.call {callee:=.value f,args:=args,argTypes:=at_}) (hf:aN E f=some (.pv (.fn F)))
  (hc:∀ (args:Array Value) (w:World),(callFunc F args).run P w=.ok (.enter F args) w) (hv:sX E args.toList=some vs) (h:aH P F vs H Q):WT P N o E H Q:=by
 intro a w I ι _ _ hr he K QQ hk;have hfv:=(aI he hf).fn_inv;obtain ⟨h1,h2⟩:=lC he (jV hv);unfold Oper.wpW execOp;simp only [ho,resolve,hfv,Deferred.ofValue,Sem.run_bind,Sem.run_pure,Result.andThen_ok,invoke,hc,Oper.uponW_enter];refine(h I ι w _ hr (by simpa using h1) (fun i v b hv hb=>h2 i v b (by simpa using hv) hb)).mono ?_;rintro e w' ⟨r,H',I',ι',v,rfl,hq,k1,k2,k3⟩;exact hk v w' I' ι' r H' hq k1 k2 k3
theorem O4 {F:FuncId} {f:Operand} {args:Array Operand} {at_:Array TypeId} {vs caps:List AV} (ho:o.op=.call {callee:=.value f,args:=args,argTypes:=at_}) (hf:aN E f=some (.clo F caps))
  (hc:∀ (args:Array Value) (w:World),(callFunc F args).run P w=.ok (.enter F args) w) (hv:sX E args.toList=some vs) (h:aH P F (vs++caps) H Q):WT P N o E H Q:=by
 intro a w I ι _ _ hr he K QQ hk;have hfv:=aI he hf;generalize hfc:a.eval f=fc at hfv;obtain ⟨h1,h2⟩:=lC he (jV hv);cases hfv with
 | @clo _ us _ hl hh =>
  unfold Oper.wpW execOp;simp only [ho,resolve,hfc,Deferred.ofValue,Sem.run_bind,Sem.run_pure,Result.andThen_ok,invoke,hc,Oper.uponW_enter,Array.empty_append];have h1':args.size=vs.length:=by simpa using h1
  refine(h I ι w _ hr (by simp [hl,h1']) (fun i v b hv hb=>?_)).mono ?_
  ·by_cases hi:i < args.size
   ·rw [Array.getElem?_append_left (by simpa using hi)] at hv;rw [List.getElem?_append_left (by omega)] at hb;exact h2 i v b (by simpa using hv) hb
   rw [Array.getElem?_append_right (by simp;omega)] at hv;rw [List.getElem?_append_right (by omega)] at hb;simp only [Array.size_map] at hv;rw [h1'] at hv;exact hh _ v b hv hb
  rintro e w' ⟨r,H',I',ι',v,rfl,hq,k1,k2,k3⟩;exact hk v w' I' ι' r H' hq k1 k2 k3
end
theorem aH.frame0 {P:Program} {f:FuncId} {args:List AV} {Q:AV→aB→Prop} (h:aH P f args [] Q) (hp:∀ a∈args,Clo [] a) (hq:∀ r H',Q r H'→H'=[]) (H:aB):aH P f args H (fun r H'=>Q r []∧H'=H):=by
 intro I ι w vs hr hl hv;have hs:Sub [] H:=fun _ _ h=>by cases h
 have hc:cZ []:=fun _ _ h=>by cases h
 refine(h I ι w vs (hr.restrict hs hc) hl (fun i v a h1 h2=>(hv i v a h1 h2).restrict hs (hp a (aL3 h2)))).mono ?_;rintro e w' ⟨r,H',I',ι',v,rfl,q,k1,k2,k3⟩;have:=hq r H' q;subst this;have hno:∀ b,¬ GG ι [] b:=fun b ⟨_,_,_,hx,_⟩=>by cases hx
 have hno':∀ b,¬ GG ι' [] b:=fun b ⟨_,_,_,hx,_⟩=>by cases hx
 have hst:Step I ι H w I' ι H w':=by
  refine⟨k3.os,k3.tape,k3.output,k3.size,fun a ha _=>k3.froz a ha (hno _),k3.imm,fun b hb=>?_,fun b hb=>.inl hb,fun b hb _=>k3.keep b hb (hno b),fun id o ho=>⟨o,ho,aLZ _,fun _=>⟨rfl,rfl,fun _=>aLZ _⟩⟩⟩;rcases k3.immNew b hb with h1|h1|h1
  ·exact .inl h1
  ·exact absurd h1 (hno b)
  exact .inr (.inr h1)
 have hrel:Rel I' ι H w':=by
  refine⟨k2.imm,fun id o ho=>?_,hr.inj,k2.glob⟩;refine(hr.obj id o ho).keep rfl (fun b' cap' e1 hlt=>⟨k3.keep b' hlt (hno b'),fun e3 hi=>?_⟩) (fun r _ a _ v hv=>hv.mono hr hst);rcases k3.immNew b' hi with h1|h1|h1
  ·exact e3 h1
  ·exact hno b' h1
  omega
 refine⟨r,H,I',ι,v,rfl,⟨q,rfl⟩,?_,hrel,hst⟩;exact k1.mono' (fun _ _=>rfl) (fun _ h=>h) (fun _ _ h=>by cases h)
end
section
def vB (w:World) (I:Nat→Prop) (ι:dR) (H:aB) (c:Array Value) (l:List AV):Prop :=c.size=l.length∧∀ (j:Nat) (a:AV),l[j]?=some a→∃ u,c[j]?=some u∧u.oneCell'=true∧VRel w I ι H u a
theorem JX (off:Nat):∀ (l:List Value) (k:Nat) (cs:Array Value),
  ((l.zipIdx k).foldl (fun cs p=>cs.setIfInBounds (off+p.2) p.1) cs).size=cs.size ∧
  ∀ i,((l.zipIdx k).foldl (fun cs p=>cs.setIfInBounds (off+p.2) p.1) cs)[i]?=if off+k≤i∧i < off+k+l.length∧i < cs.size then l[i - (off+k)]? else cs[i]?
 | [],k,cs=>⟨by simp,fun i=>by rw [List.zipIdx_nil,List.foldl_nil,aLR (by simp only [List.length_nil];omega)]⟩
 | v::l,k,cs=>by
  obtain ⟨h1,h2⟩:=JX off l (k+1) (cs.setIfInBounds (off+k) v);simp only [List.zipIdx_cons,List.foldl_cons];refine⟨by rw [h1];simp,fun i=>?_⟩;rw [h2 i];simp only [Array.size_setIfInBounds,aLV];by_cases c1:i=off+k
  ·subst c1;by_cases c2:off+k < cs.size
   ·rw [aLR (by omega),aLS (by omega)];simp [c2]
   rw [aLR (by omega),aLR (by omega)];rw [Array.setIfInBounds];simp [c2]
  by_cases c2:off+k < i∧i < off+k+(l.length+1)∧i < cs.size
  ·rw [aLS (by omega),aLS (by omega)];obtain ⟨n,hn⟩:∃ n,i - (off+k)=n+1:=⟨i - (off+k) - 1,by omega⟩;rw [hn,List.getElem?_cons_succ];congr 1;omega
  rw [aLR (by omega),aLR (by omega)];rw [Array.getElem?_setIfInBounds_ne (by omega)]
def KG (l:List AV) (off:Nat) (vs:List AV):List AV:=l.take off++(vs++l.drop (off+vs.length))
theorem vB.fill {w:World} {I:Nat→Prop} {ι:dR} {H:aB} {c d:Array Value} {l vs:List AV} {off:Nat} (hc:vB w I ι H c l) (hd:vB w I ι H d vs) (hfit:off+vs.length≤l.length) :
  vB w I ι H (d.zipIdx.foldl (fun cs (x,j)=>cs.setIfInBounds (off+j) x) c) (KG l off vs):=by
 have hf:=JX off d.toList 0 c;have e:d.zipIdx.foldl (fun cs (x,j)=>cs.setIfInBounds (off+j) x) c=(d.toList.zipIdx 0).foldl (fun cs p=>cs.setIfInBounds (off+p.2) p.1) c:=by
  rw [← Array.foldl_toList,Array.toList_zipIdx]
 rw [e];obtain ⟨h1,h2⟩:=hf;refine⟨by rw [h1,hc.1];simp [KG];omega,fun j a ha=>?_⟩;rw [h2 j];simp only [Nat.add_zero,Array.length_toList,hd.1];unfold KG at ha;by_cases c1:j < off
 ·rw [aLR (by omega)];rw [List.getElem?_append_left (by simp;omega),List.getElem?_take,aLS c1] at ha;exact hc.2 j a ha
 by_cases c2:j < off+vs.length
 ·rw [aLS (by have:=hc.1;omega)];have hmin:min off l.length=off:=by omega
  rw [List.getElem?_append_right (by simp;omega),List.getElem?_append_left (by simp;omega)] at ha;simp only [aL7,hmin] at ha;obtain ⟨u,q1,q2,q3⟩:=hd.2 (j - off) a ha;exact⟨u,by simpa using q1,q2,q3⟩
 rw [aLR (by omega)];have hmin:min off l.length=off:=by omega
 rw [List.getElem?_append_right (by simp;omega),List.getElem?_append_right (by simp;omega),List.getElem?_drop] at ha;simp only [aL7,hmin] at ha;rw [show off+vs.length+(j - off - vs.length)=j by omega] at ha;exact hc.2 j a ha
theorem vB.of_cells {w:World} {I:Nat→Prop} {ι:dR} {H:aB} {v:Value} {a:AV} {l:List AV} (hv:VRel w I ι H v a) (h:QB a=some l):vB w I ι H v.cells l :=let ⟨h1,_,h3⟩:=FA hv h;⟨h1,h3⟩
def lV (E:bO):List (Nat×Operand)→Option (List (Nat×AV))
 | []=>some []
 | (i,x)::r=>match aN E x,lV E r with
  | some v,some vs=>some ((i,v)::vs)
  | _,_=>none
def wV (place:Nat→Option (Nat×Nat)) (l:List AV):List (Nat×AV)→Option (List AV)
 | []=>some l
 | (i,a)::r=>match place i,QB a with
  | some (off,size),some vs=>if vs.length=size∧off+size≤l.length then wV place (KG l off vs) r else none
  | _,_=>none
theorem vB.fills {w:World} {I:Nat→Prop} {ι:dR} {H:aB} {E:bO} {a:Act} (he:gQ w I ι H E a) (place:Nat→Option (Nat×Nat)):∀ {ps:List (Nat×Operand)} {aps:List (Nat×AV)} {c:Array Value} {l l':List AV},
  lV E ps=some aps→vB w I ι H c l→wV place l aps=some l'→∃ c',Instr.fill place c (ps.map fun p=>(p.1,a.eval p.2))=some c'∧vB w I ι H c' l':=by
 intro ps
 induction ps with
 | nil =>
  intro aps c l l' h1 h2 h3;simp [lV] at h1;subst h1;simp [wV] at h3;subst h3;exact⟨c,rfl,h2⟩
 | cons p r ih =>
  obtain ⟨i,x⟩:=p;intro aps c l l' h1 h2 h3;unfold lV at h1
  split at h1
  ·rename_i v vs e1 e2;cases h1;unfold wV at h3
   split at h3
   ·rename_i off size us e3 e4
    split at h3
    ·rename_i hfit;have hcr:=vB.of_cells (aI he e1) e4;have hsz:(a.eval x).cells.size=size:=by rw [hcr.1];exact hfit.1
     have hcl:c.size=l.length:=h2.1;have hnew:=vB.fill (off:=off) h2 hcr (by rw [hfit.1];exact hfit.2);obtain ⟨c',k1,k2⟩:=ih e2 hnew h3;refine⟨c',?_,k2⟩;have hneg:¬ ((a.eval x).cells.size≠size∨off+(a.eval x).cells.size > c.size):=by
      have:=hfit.2;omega
     simp only [List.map_cons,Instr.fill,e3];rw [aLR (by simpa using hneg)];exact k1
    cases h3
   cases h3
  cases h1
section
variable {P:Program} {N:Nat} {o:Oper} {E:bO} {H:aB} {T:TypeId} {x y:Operand}
theorem EK {parts:Array (Nat×Operand)} {fs:Array Field} {places:Array (Nat×Nat)} {z:Value} {v0:AV} {l0 l:List AV} {aps:List (Nat×AV)} (ho:o.op=.build T parts) (hS:P.underlying T=some (.struct fs))
  (hz:∀ w,(zeroValue T).run P w=.ok z w) (hv:ZV z v0) (hl0:QB v0=some l0) (hpl:∀ w,((fs.mapM fun f=>do pure (f.offset,← sizeOf f.type)):Sem (Array (Nat×Nat))).run P w=.ok places w)
  (hp:lV E parts.toList=some aps) (hf:wV (places[·]?) l0 aps=some l):cB P N o E H (.agg l) H :=
 .of_run fun a w I ι _ he=>by
  have hc0:=vB.of_cells (ZV.rel (w:=w) (I:=I) (ι:=ι) (H:=H) hv) hl0;obtain ⟨c',h1,h2⟩:=vB.fills he (places[·]?) hp hc0 hf;refine⟨.agg c',?_,.agg h2.1 (fun j u hu=>?_) (fun j u b hu hb=>?_)⟩
  ·have h1':Instr.fill (places[·]?) z.cells (parts.map fun p=>(p.1,a.eval p.2)).toList=some c':=by rw [Array.toList_map];exact h1
   simp only [execOp,ho,Instr.build,Sem.run_bind,hz,run_underlying hS,hpl,Result.andThen_ok,h1',Sem.run_pure]
  ·have hlt:j < l.length:=by rw [← h2.1];exact(Array.getElem?_eq_some_iff.1 hu).1
   obtain ⟨u',q1,q2,_⟩:=h2.2 j _ (aLY hlt);rw [hu] at q1;cases q1;exact q2
  obtain ⟨u',q1,_,q3⟩:=h2.2 j b hb;rw [hu] at q1;cases q1;exact q3
theorem LD {parts:Array (Nat×Operand)} {n sz:Nat} {e:TypeId} {z:Value} {v0:AV} {l0 l:List AV} {aps:List (Nat×AV)} (ho:o.op=.build T parts) (hS:P.underlying T=some (.array n e))
  (hz:∀ w,(zeroValue T).run P w=.ok z w) (hv:ZV z v0) (hl0:QB v0=some l0) (hs:∀ w,(sizeOf e).run P w=.ok sz w)
  (hp:lV E parts.toList=some aps) (hf:wV (fun i=>some (i*sz,sz)) l0 aps=some l):cB P N o E H (.agg l) H :=
 .of_run fun a w I ι _ he=>by
  have hc0:=vB.of_cells (ZV.rel (w:=w) (I:=I) (ι:=ι) (H:=H) hv) hl0;obtain ⟨c',h1,h2⟩:=vB.fills he (fun i=>some (i*sz,sz)) hp hc0 hf;refine⟨.agg c',?_,.agg h2.1 (fun j u hu=>?_) (fun j u b hu hb=>?_)⟩
  ·have h1':Instr.fill (fun i=>some (i*sz,sz)) z.cells (parts.map fun p=>(p.1,a.eval p.2)).toList=some c':=by rw [Array.toList_map];exact h1
   simp only [execOp,ho,Instr.build,Sem.run_bind,hz,run_underlying hS,hs,Result.andThen_ok,h1',Sem.run_pure]
  ·have hlt:j < l.length:=by rw [← h2.1];exact(Array.getElem?_eq_some_iff.1 hu).1
   obtain ⟨u',q1,q2,_⟩:=h2.2 j _ (aLY hlt);rw [hu] at q1;cases q1;exact q2
  obtain ⟨u',q1,_,q3⟩:=h2.2 j b hb;rw [hu] at q1;cases q1;exact q3
def GE:Nat→List (Nat×AV)→Option (List (List AV))
 | _,[]=>some []
 | k,(i,a)::r=>match Nat.beq i k,QB a,GE (k+1) r with
  | true,some l,some ls=>some (l::ls)
  | _,_,_=>none
theorem NK {w:World} {I:Nat→Prop} {ι:dR} {a:Act} (he:gQ w I ι H E a) (sz:Nat):∀ {ps:List (Nat×Operand)} {aps:List (Nat×AV)} {rows:List (List AV)} {k:Nat} {c:Array Value},
  lV E ps=some aps→GE k aps=some rows→(∀ r∈rows,r.length=sz)→(k+rows.length)*sz≤c.size →
  ∃ c',Instr.fill (fun i=>some (i*sz,sz)) c (ps.map fun p=>(p.1,a.eval p.2))=some c'∧c'.size=c.size∧(∀ i,i < k*sz→c'[i]?=c[i]?) ∧
   ∀ (m:Nat) (r:List AV),rows[m]?=some r→∀ (j:Nat) (b:AV),r[j]?=some b→∃ u,c'[(k+m)*sz+j]?=some u∧u.oneCell'=true∧VRel w I ι H u b:=by
 intro ps
 induction ps with
 | nil =>
  intro aps rows k c h1 h2 h3 h4;simp [lV] at h1;subst h1;simp [GE] at h2;subst h2;exact⟨c,rfl,rfl,fun _ _=>rfl,by simp⟩
 | cons p r ih =>
  obtain ⟨i,x⟩:=p;intro aps rows k c h1 h2 h3 h4;unfold lV at h1
  split at h1
  ·rename_i v vs e1 e2;cases h1;unfold GE at h2
   split at h2
   ·rename_i l ls e3 e4 e5;cases h2;have hik:i=k:=Nat.eq_of_beq_eq_true e3;subst hik;have hll:l.length=sz:=h3 l (by simp);have hcr:=vB.of_cells (aI he e1) e4;have hlen:(i+(ls.length+1))*sz≤c.size:=by simpa using h4
    have hfit:i*sz+sz≤c.size:=by
     have:(i+1)*sz≤(i+(ls.length+1))*sz:=Nat.mul_le_mul_right _ (by omega);rw [Nat.add_mul] at this;omega
    obtain ⟨f1,f2⟩:=JX (i*sz) (a.eval x).cells.toList 0 c;have e:(a.eval x).cells.zipIdx.foldl (fun cs (x,j)=>cs.setIfInBounds (i*sz+j) x) c=((a.eval x).cells.toList.zipIdx 0).foldl (fun cs p=>cs.setIfInBounds (i*sz+p.2) p.1) c:=by
     rw [← Array.foldl_toList,Array.toList_zipIdx]
    rw [← e] at f1 f2;have hsz:(a.eval x).cells.size=sz:=by rw [hcr.1,hll]
    obtain ⟨c',k1,k2,k3,k4⟩:=ih (k:=i+1) (c:=(a.eval x).cells.zipIdx.foldl (fun cs (x,j)=>cs.setIfInBounds (i*sz+j) x) c) e2 e5 (fun r hr=>h3 r (by simp [hr])) (by rw [f1];rw [show i+1+ls.length=i+(ls.length+1)by omega];exact hlen);refine⟨c',?_,k2.trans f1,fun q hq=>?_,fun m r hr j b hb=>?_⟩
    ·have hneg:¬ ((a.eval x).cells.size≠sz∨i*sz+(a.eval x).cells.size > c.size):=by omega
     simp only [List.map_cons,Instr.fill];rw [aLR (by simpa using hneg)];exact k1
    ·have hq2:q < (i+1)*sz:=by rw [Nat.add_mul];omega
     rw [k3 q hq2,f2 q,aLR (by omega)]
    cases m with
    | zero =>
     simp at hr;subst hr;obtain ⟨u,q1,q2,q3⟩:=hcr.2 j b hb;have hj:j < sz:=by rw [← hll];exact(aLX.1 hb).1
     refine⟨u,?_,q2,q3⟩;have hq2:(i+0)*sz+j < (i+1)*sz:=by rw [Nat.add_zero,Nat.add_mul i 1,Nat.one_mul];omega
     rw [k3 _ hq2,f2,aLS (by simp;omega)]
     simpa using q1
    | succ m =>
     simp at hr;obtain ⟨u,q1,q2,q3⟩:=k4 m r hr j b hb;exact⟨u,by rw [show i+(m+1)=i+1+m by omega];exact q1,q2,q3⟩
   cases h2
  cases h1
theorem Rel.newImm {I:Nat→Prop} {ι:dR} {w w':World} {c:Array Value} {t:TypeId} (hr:Rel I ι H w) (hos:w'.os=w.os) (htape:w'.tape=w.tape) (hout:w'.output=w.output) (hw:w'.heap=w.heap.push (.cells c t (0,0))) :
  Rel (fun b=>I b∨b=w.heap.size) ι H w'∧Step I ι H w (fun b=>I b∨b=w.heap.size) ι H w':=by
 have holdb:∀ x,x < w.heap.size→w'.heap[x]?=w.heap[x]?:=fun x hx=>by rw [hw,Array.getElem?_push,aLR (Nat.ne_of_lt hx)]
 have hsize:w'.heap.size=w.heap.size+1:=by rw [hw];simp
 have hst:Step I ι H w (fun b=>I b∨b=w.heap.size) ι H w':=by
  refine⟨hos,htape,hout,by omega,fun a ha _=>?_,fun _ h=>.inl h,fun b h=>?_,fun _ h=>.inl h,fun x hx _=>holdb x hx,fun _ o h=>⟨o,h,aLZ _,fun _=>⟨rfl,rfl,fun _=>aLZ _⟩⟩⟩
  ·simp [World.frozen?,holdb a.block ha]
  rcases h with h|h
  ·exact .inl h
  exact .inr (.inr (by omega))
 refine⟨⟨fun x hx=>?_,fun j o hj=>?_,hr.inj,hst.glob hr⟩,hst⟩
 ·rcases hx with h|h
  ·have:=hr.imm x h;omega
  omega
 refine(hr.obj j o hj).keep rfl (fun b' cap' e1 hlt=>⟨holdb b' hlt,fun e3 h=>?_⟩) (fun r _ a _ v hv=>hv.mono hr hst);rcases h with h|h
 ·exact e3 h
 omega
theorem qT (n:Nat) (zc:Array Value):((Array.range n).map (zc[· % zc.size]!)).size=n:=by simp
theorem IZ {e:TypeId} {sz n:Nat} {z:Value} {parts:Array (Nat×Operand)} {aps:List (Nat×AV)} {rows:List (List AV)} {ps:List (List PV)} (ho:o.op=.buildSlice T n parts) (hT:P.underlying T=some (.slice e)) (hs:∀ w,(sizeOf e).run P w=.ok sz w)
  (hz:∀ w,(zeroValue e).run P w=.ok z w) (hn:n*sz≤16777216) (hsz:0 < sz) (hp:lV E parts.toList=some aps) (hr:GE 0 aps=some rows) (hps:ps.map (·.map AV.pv)=rows) (hlen:ps.length=n) (hrl:∀ r∈ps,r.length=sz):cB P N o E H (.pv (.sl ps)) H:=by
 intro a w I ι _ _ hrel he K Q hk;subst hps;have hf:=fun zc:Array Value=>NK (c:=(Array.range (n*sz)).map (zc[· % zc.size]!)) he sz hp hr (fun r hr=>by
  obtain ⟨q,h1,h2⟩:=List.mem_map.1 hr;rw [← h2];simpa using hrl q h1) (by rw [qT];simp [hlen])
 obtain ⟨c',k1,k2,_,k4⟩:=hf z.cells;have hsz':c'.size=n*sz:=by rw [k2,qT]
 have hn':¬ (n*sz > 2 ^ 24):=by omega
 have hrun:∃ c'',(Instr.buildSlice T n (parts.map fun p=>(p.1,a.eval p.2))).run P w=.ok (.slice (some ⟨w.heap.size,0,none⟩) n n) (w.alloc (.cells c'' e))∧c''.size=n*sz ∧
   ∀ (m:Nat) (r:List AV),(ps.map (·.map AV.pv))[m]?=some r→∀ (j:Nat) (b:AV),r[j]?=some b→∃ u,c''[m*sz+j]?=some u∧u.oneCell'=true∧VRel w I ι H u b:=by
  by_cases h0:n*sz=0
  ·obtain ⟨c0,q1,q2,_,q4⟩:=hf #[];refine⟨c0,?_,by rw [q2,qT],fun m r h1 j b h2=>by have:=q4 m r h1 j b h2;simpa using this⟩;rw [← Array.toList_map] at q1;simp only [h0] at q1;simp only [Instr.buildSlice,Sem.run_bind,run_underlying hT,Result.andThen_ok,hs,Sem.run_ite,hn',if_false,h0,if_true,Sem.run_pure,q1,newRow,run_newObj];rfl
  refine⟨c',?_,hsz',fun m r h1 j b h2=>by have:=k4 m r h1 j b h2;simpa using this⟩;rw [← Array.toList_map] at k1;simp only [Instr.buildSlice,Sem.run_bind,run_underlying hT,Result.andThen_ok,hs,Sem.run_ite,hn',if_false,h0,hz,Sem.run_pure,k1,newRow,run_newObj];rfl
 obtain ⟨c2,g1,g2,g3⟩:=hrun;obtain ⟨m1,m2⟩:=Rel.newImm (c:=c2) (t:=e) (w':=w.alloc (.cells c2 e)) hrel rfl rfl rfl rfl;unfold Oper.wpW execOp;simp only [ho,Sem.run_bind,g1,Result.andThen_ok,Sem.run_pure];refine hk _ _ _ ι _ _ ⟨rfl,rfl⟩ (.pv ?_) m1 m2;have hcell:∀ j,(w.alloc (.cells c2 e)).cell? ⟨w.heap.size,j,none⟩=c2[j]?:=fun j=>World.cell?_alloc_new w c2 e j;have:=PRep.sl (w:=w.alloc (.cells c2 e)) (I:=fun b=>I b∨b=w.heap.size) w.heap.size 0 n sz ps (fun i k=>(c2[i*sz+k]?).getD undef) (.inr rfl) hsz hrl (by omega)
  (fun i r hi k p hk=>by
   obtain ⟨u,q1,q2,q3⟩:=g3 i (r.map .pv) (by simp [hi]) k (.pv p) (by simp [hk]);rw [hcell,aLb,q1];rfl)
  (fun i r hi k p hk=>by
   obtain ⟨u,q1,q2,q3⟩:=g3 i (r.map .pv) (by simp [hi]) k (.pv p) (by simp [hk]);rw [q1];exact(q3.mono hrel m2).pv_inv)
 rw [hlen] at this;exact this
theorem BH {e:TypeId} {sz n id:Nat} {z:Value} {parts:Array (Nat×Operand)} {aps:List (Nat×AV)} {rows:List (List AV)} (ho:o.op=.buildSlice T n parts) (hT:P.underlying T=some (.slice e)) (hs:∀ w,(sizeOf e).run P w=.ok sz w)
  (hz:∀ w,(zeroValue e).run P w=.ok z w) (hn:n*sz≤16777216) (hsz:0 < sz) (hp:lV E parts.toList=some aps) (hr:GE 0 aps=some rows) (hlen:rows.length=n) (hrl:∀ r∈rows,r.length=sz) (hid:H.get id=none) :
  cB P N o E H (.osl id 0 0 n) ((id,⟨0,sz,e,rows⟩)::H):=by
 intro a w I ι _ _ hrel he K Q hk;have hf:=fun zc:Array Value=>NK (c:=(Array.range (n*sz)).map (zc[· % zc.size]!)) he sz hp hr hrl (by rw [qT];simp [hlen]);have hn':¬ (n*sz > 2 ^ 24):=by omega
 have hrun:∃ c'',(Instr.buildSlice T n (parts.map fun p=>(p.1,a.eval p.2))).run P w=.ok (.slice (some ⟨w.heap.size,0,none⟩) n n) (w.alloc (.cells c'' e))∧c''.size=n*sz ∧
   ∀ (m:Nat) (r:List AV),rows[m]?=some r→∀ (j:Nat) (b:AV),r[j]?=some b→∃ u,c''[m*sz+j]?=some u∧u.oneCell'=true∧VRel w I ι H u b:=by
  by_cases h0:n*sz=0
  ·obtain ⟨c0,q1,q2,_,q4⟩:=hf #[];refine⟨c0,?_,by rw [q2,qT],fun m r h1 j b h2=>by have:=q4 m r h1 j b h2;simpa using this⟩;rw [← Array.toList_map] at q1;simp only [h0] at q1;simp only [Instr.buildSlice,Sem.run_bind,run_underlying hT,Result.andThen_ok,hs,Sem.run_ite,hn',if_false,h0,if_true,Sem.run_pure,q1,newRow,run_newObj];rfl
  obtain ⟨c',k1,k2,_,k4⟩:=hf z.cells;refine⟨c',?_,by rw [k2,qT],fun m r h1 j b h2=>by have:=k4 m r h1 j b h2;simpa using this⟩;rw [← Array.toList_map] at k1;simp only [Instr.buildSlice,Sem.run_bind,run_underlying hT,Result.andThen_ok,hs,Sem.run_ite,hn',if_false,h0,hz,Sem.run_pure,k1,newRow,run_newObj];rfl
 obtain ⟨c2,g1,g2,g3⟩:=hrun;have hmax:n≤maxLen:=by
  have:n≤n*sz:=Nat.le_mul_of_pos_right _ hsz;simp only [maxLen];omega
 obtain ⟨m1,m2⟩:=Rel.place (H':=(id,⟨0,sz,e,rows⟩)::H) (id:=id) (cap:=n) (ob':=⟨0,sz,e,rows⟩) (cs':=c2) (w':=w.alloc (.cells c2 e)) hrel rfl rfl rfl rfl (fun o ho=>by rw [hid] at ho;cases ho) hsz g2 (by simp [hlen]) hmax hrl g3
  (get_cons_same _ _ _) (fun j hj=>get_cons_other _ _ hj)
 unfold Oper.wpW execOp;simp only [ho,Sem.run_bind,g1,Result.andThen_ok,Sem.run_pure];exact hk _ _ I _ _ _ ⟨rfl,rfl⟩ (.osl ⟨0,sz,e,rows⟩ (get_cons_same _ _ _) (aLZ _) rfl fun _=>⟨hsz,by simp [hlen],.inl ⟨w.heap.size,n,0,by simp,by simp,fun _=>by simp⟩⟩) m1 m2
end
end
section
def TN (P:Program) (e:TypeId) (sz bytes:Nat):Prop:=∃ i z,P.info? e=some i∧i.zero=some z∧i.size=sz∧i.bytes=bytes∧z.cells.size=sz∧0 < sz
theorem vT {α:Type} {f:Nat→α} {m j:Nat} {u:α} (h:((List.range m).map f)[j]?=some u):j < m∧u=f j:=by
 rw [aLd] at h;by_cases hj:j < m
 ·rw [List.getElem?_range hj] at h;cases h;exact⟨hj,rfl⟩
 rw [List.getElem?_eq_none (by simp;omega)] at h;cases h
theorem MQ {α:Type} (f:Nat→α) {m j:Nat} (hj:j < m):((List.range m).map f)[j]?=some (f j):=by rw [aLd,List.getElem?_range hj];rfl
def nU (w:World) (I:Nat→Prop) (ι:dR) (H:aB) (sz:Nat) (l:List Value) (rows:List (List AV)):Prop :=∀ (i:Nat) (r:List AV),rows[i]?=some r→∀ (k:Nat) (a:AV),r[k]?=some a→∃ u,l[i*sz+k]?=some u∧u.oneCell'=true∧VRel w I ι H u a
theorem nU.app {w:World} {I:Nat→Prop} {ι:dR} {H:aB} {sz:Nat} {l1 l2 l3:List Value} {rows1 rows2:List (List AV)} (h1:nU w I ι H sz l1 rows1) (hl1:l1.length=rows1.length*sz) (h2:nU w I ι H sz l2 rows2) :
  nU w I ι H sz (l1++(l2++l3)) (rows1++rows2):=by
 intro i r hi k a hk;by_cases c:i < rows1.length
 ·rw [List.getElem?_append_left c] at hi;obtain ⟨u,q1,q2,q3⟩:=h1 i r hi k a hk;have hlt:=(aLX.1 q1).1;exact⟨u,by rw [List.getElem?_append_left hlt];exact q1,q2,q3⟩
 rw [List.getElem?_append_right (by omega)] at hi;obtain ⟨u,q1,q2,q3⟩:=h2 _ r hi k a hk;have hlt:=(aLX.1 q1).1;have hm:(i - rows1.length)*sz+rows1.length*sz=i*sz:=by rw [← Nat.add_mul];congr 1;omega
 refine⟨u,?_,q2,q3⟩;rw [List.getElem?_append_right (by omega),List.getElem?_append_left (by omega)];rw [hl1,show i*sz+k - rows1.length*sz=(i - rows1.length)*sz+k by omega];exact q1
def Src (w:World) (I:Nat→Prop) (ι:dR) (H:aB) (sz:Nat) (v:Value) (rows:List (List AV)):Prop :=(∃ a c news,v=.slice (some a) rows.length c∧news.length=rows.length*sz∧(∀ j u,news[j]?=some u→w.cell? (a.add j)=some u)∧(∀ u∈news,u.oneCell'=true)∧nU w I ι H sz news rows) ∨
 (v=.slice none 0 0∧rows=[])
theorem aCo {j n sz:Nat} (h:j < n*sz):j / sz < n:=(Nat.div_lt_iff_lt_mul (by
 rcases Nat.eq_zero_or_pos sz with e|e
 ·subst e;simp at h
 exact e)).2 h
theorem PM {i k sz:Nat} (h:k < sz):(i*sz+k) / sz=i:=by rw [Nat.add_comm,Nat.add_mul_div_right _ _ (by omega),Nat.div_eq_of_lt h];omega
theorem AG {i k sz:Nat} (h:k < sz):(i*sz+k) % sz=k:=by rw [Nat.add_comm,Nat.add_mul_mod_self_right,Nat.mod_eq_of_lt h]
theorem aBQ {w:World} {I:Nat→Prop} {ι:dR} {H:aB} {sz:Nat} {v:Value} {ps:List (List PV)} (h:VRel w I ι H v (.pv (.sl ps))) (hsz:0 < sz) (hl:∀ r∈ps,r.length=sz):Src w I ι H sz v (ps.map (·.map .pv)):=by
 have hp:=h.pv_inv;cases hp with
 | nilsl=>exact .inr ⟨rfl,rfl⟩
 | empsl a=>exact .inl ⟨a,0,[],rfl,by simp,by simp,by simp,by intro i r hi;simp at hi⟩
 | sl b off cap sz' _ cs hI hsz' hlen hcap hc hpp =>
  by_cases hne:ps=[]
  ·subst hne;exact .inl ⟨⟨b,off,none⟩,cap,[],rfl,by simp,by simp,by simp,by intro i r hi;simp at hi⟩
  have he:sz'=sz:=by
   obtain ⟨r,rs,e⟩:=List.exists_cons_of_ne_nil hne;have hm:r∈ps:=by rw [e];simp
   rw [← hlen r hm,hl r hm]
  subst he
  let f:Nat→Value:=fun j=>cs (j / sz') (j % sz')
  have hget:∀ j,j < ps.length*sz'→∃ r p,ps[j / sz']?=some r∧r[j % sz']?=some p:=by
   intro j hj;have h1:=aCo hj;have hm:ps[j / sz']∈ps:=List.getElem_mem h1;have h2:j % sz' < ps[j / sz'].length:=by rw [hlen _ hm];exact Nat.mod_lt _ hsz'
   exact⟨_,_,aLY h1,aLY h2⟩
  refine .inl ⟨⟨b,off,none⟩,cap,(List.range (ps.length*sz')).map f,by simp,by simp,?_,?_,?_⟩
  ·intro j u hu;obtain ⟨hj,rfl⟩:=vT hu;obtain ⟨r,p,h1,h2⟩:=hget j hj;rw [Addr.add_lit];have:=hc _ r h1 _ p h2;rw [show off+j / sz'*sz'+j % sz'=off+j by have:=Nat.div_add_mod' j sz';omega] at this;exact this
  ·intro u hu;obtain ⟨j,hj0⟩:=aLe.1 hu;obtain ⟨hj,rfl⟩:=vT hj0;obtain ⟨r,p,h1,h2⟩:=hget j hj;exact(hpp _ r h1 _ p h2).oneCell
  intro i r hi k a hk;rw [aLd] at hi;cases e:ps[i]? with
  | none=>rw [e] at hi;cases hi
  | some q =>
   rw [e] at hi;cases hi;rw [aLd] at hk;cases e2:q[k]? with
   | none=>rw [e2] at hk;cases hk
   | some p =>
    rw [e2] at hk;cases hk;have hi2:i < ps.length:=(aLX.1 e).1;have hk2:k < sz':=by rw [← hlen q (aL3 e)];exact(aLX.1 e2).1
    have hlt:i*sz'+k < ps.length*sz':=by
     have:(i+1)*sz'≤ps.length*sz':=Nat.mul_le_mul_right _ hi2;rw [Nat.add_mul] at this;omega
    refine⟨f (i*sz'+k),MQ f hlt,?_,?_⟩
    ·simp only [f,PM hk2,AG hk2];exact(hpp i q e k p e2).oneCell
    simp only [f,PM hk2,AG hk2];exact .pv (hpp i q e k p e2)
theorem aEC {w:World} {I:Nat→Prop} {ι:dR} {H:aB} {sz id g off len:Nat} {ob:Ob} {v:Value} (hr:Rel I ι H w) (h:VRel w I ι H v (.osl id g off len)) (hH:H.get id=some ob) (hg:ob.g=g) (hsz:ob.sz=sz) :
  Src w I ι H sz v ((ob.rows.drop off).take len):=by
 obtain ⟨hle,⟨b,cap,oo,h1,h2,h3⟩|⟨h1,h2,h3,h4⟩⟩:=gO h hH hg
 ·obtain ⟨p1,p2,⟨b',cap',cs,e1,e2,e3,e4,e5,e5',e6⟩|⟨e1,_⟩⟩:=(hr.obj id ob hH).cells (lQ h hH hg)
  ·rw [h1] at e1;cases e1;subst hsz;have hrl:((ob.rows.drop off).take len).length=len:=by simp;omega
   have hget:∀ j,j < len*ob.sz→∃ u,cs[off*ob.sz+j]?=some u∧u.oneCell'=true∧∀ a r,ob.rows[off+j / ob.sz]?=some r→r[j % ob.sz]?=some a→VRel w I ι H u a:=by
    intro j hj;have h1':=aCo hj;have hlt:off+j / ob.sz < ob.rows.length:=by omega
    have hm:=List.getElem_mem hlt;have h2':j % ob.sz < ob.rows[off+j / ob.sz].length:=by rw [p2 _ hm];exact Nat.mod_lt _ p1
    obtain ⟨u,q1,q2,q3⟩:=e6 _ _ (aLY hlt) _ _ (aLY h2');refine⟨u,?_,q2,fun a r hr' ha=>?_⟩
    ·rw [Nat.add_mul,show off*ob.sz+j / ob.sz*ob.sz+j % ob.sz=off*ob.sz+j by have:=Nat.div_add_mod' j ob.sz;omega] at q1;exact q1
    rw [aLY hlt] at hr';cases hr';rw [aLY h2'] at ha;cases ha;exact q3
   let f:Nat→Value:=fun j=>(cs[off*ob.sz+j]?).getD undef
   have hf:∀ j (hj:j < len*ob.sz),cs[off*ob.sz+j]?=some (f j)∧(f j).oneCell'=true∧∀ a r,ob.rows[off+j / ob.sz]?=some r→r[j % ob.sz]?=some a→VRel w I ι H (f j) a:=by
    intro j hj;obtain ⟨u,q1,q2,q3⟩:=hget j hj;have hfj:f j=u:=by simp only [f,q1,Option.getD_some]
    rw [hfj];exact⟨q1,q2,q3⟩
   by_cases hl0:len=0
   ·subst hl0;have:(ob.rows.drop off).take 0=[]:=by simp
    rw [this];exact .inl ⟨⟨b,oo,none⟩,cap - off,[],by rw [h2];rfl,by simp,by simp,by simp,by intro i r hi;simp at hi⟩
   have hoo:=h3 (by omega);subst hoo;refine .inl ⟨⟨b,off*ob.sz,none⟩,cap - off,(List.range (len*ob.sz)).map f,by rw [h2,hrl],by simp [hrl],?_,?_,?_⟩
   ·intro j u hu;obtain ⟨hj,rfl⟩:=vT hu;rw [Addr.add_lit,cell_of_row w b _ cs ob.ty (0,0) e2];exact(hf j hj).1
   ·intro u hu;obtain ⟨j,hj0⟩:=aLe.1 hu;obtain ⟨hj,rfl⟩:=vT hj0;exact(hf j hj).2.1
   intro i r hi k a hk;have hi2:i < len:=by rw [← hrl];exact(aLX.1 hi).1
   rw [List.getElem?_take,aLS hi2,List.getElem?_drop] at hi;have hk2:k < ob.sz:=by rw [← p2 r (aL3 hi)];exact(aLX.1 hk).1
   have hlt:i*ob.sz+k < len*ob.sz:=by
    have:(i+1)*ob.sz≤len*ob.sz:=Nat.mul_le_mul_right _ hi2;rw [Nat.add_mul] at this;omega
   refine⟨f (i*ob.sz+k),MQ f hlt,(hf _ hlt).2.1,(hf _ hlt).2.2 a r ?_ ?_⟩
   ·rw [PM hk2];exact hi
   rw [AG hk2];exact hk
  rw [h1] at e1;cases e1
 subst h3 h4;exact .inr ⟨h2,by simp⟩
section
variable {P:Program} {N:Nat} {o:Oper} {E:bO} {H:aB} {T:TypeId} {x y:Operand}
theorem sO {t ty e:TypeId} {i:TypeInfo} {w:World} (ht:P.underlying t=some (.slice e)) (hi:P.info? e=some i) (b:Option Addr) (n c:Nat) (hn:n≤c) :
  (Builtin.append_ #[t,t] ty #[.slice b n c,.slice none 0 0]).run P w=.ok (.slice b n c) w:=by
 cases b<;>simp [Builtin.append_,run_underlying ht,sizeOf,typeInfo,hi,Builtin.lenOf,hn,Builtin.firstCells,storeCells]
theorem U9 {e:TypeId} {id g n m sz bytes:Nat} {ob:Ob} {rows2:List (List AV)} {H2:aB} (ho:o.op=.call {callee:=.builtin .append,args:=#[x,y],argTypes:=#[T,T]}) (hT:P.underlying T=some (.slice e)) (hinf:TN P e sz bytes)
  (hx:aN E x=some (.osl id g 0 n)) (hH:H.get id=some ob) (hg:ob.g=g) (hosz:ob.sz=sz) (hty:ob.ty=e) (hn:ob.rows.length=n)
  (hsrc:∀ (a:Act) (w:World) (I:Nat→Prop) (ι:dR),Rel I ι H w→gQ w I ι H E a→Src w I ι H sz (a.eval y) rows2) (hrl2:∀ r∈rows2,r.length=sz) (hm:rows2.length=m) (hbytes:(n+m)*bytes≤140737488355328) (hmax:n+m≤9223372036854775807)
  (hH2:H.set id ⟨g+1,sz,e,ob.rows++rows2⟩=H2):cB P N o E H (.osl id (g+1) 0 (n+m)) H2:=by
 intro a w I ι _ _ hr he K Q hk;obtain ⟨i,z,hi,hz,hsize,hby,hzs,hsz0⟩:=hinf;subst hg hosz hty hn hm hH2;have hml:ob.rows.length+rows2.length≤maxLen:=by simp only [maxLen];omega
 have h1:(H.set id ⟨ob.g+1,ob.sz,ob.ty,ob.rows++rows2⟩).get id=some ⟨ob.g+1,ob.sz,ob.ty,ob.rows++rows2⟩:=aB.get_set_same _ _ _;have h2:∀ j,j≠id→(H.set id ⟨ob.g+1,ob.sz,ob.ty,ob.rows++rows2⟩).get j=H.get j:=fun j hj=>aB.get_set_other _ _ hj;have hpos:0 < ob.sz:=lQ (aI he hx) hH rfl;have p2:=((hr.obj id ob hH).cells hpos).2.1;have hrl:∀ r∈ob.rows++rows2,r.length=ob.sz:=fun r hr'=>by
  rcases List.mem_append.1 hr' with h|h
  ·exact p2 r h
  exact hrl2 r h
 have fin:∀ (v':Value) (w':World) (ι':dR),(Builtin.append_ #[T,T] o.type #[a.eval x,a.eval y]).run P w=.ok v' w'→VRel w' I ι' (H.set id ⟨ob.g+1,ob.sz,ob.ty,ob.rows++rows2⟩) v' (.osl id (ob.g+1) 0 (ob.rows.length+rows2.length)) →
   Rel I ι' (H.set id ⟨ob.g+1,ob.sz,ob.ty,ob.rows++rows2⟩) w'→Step I ι H w I ι' (H.set id ⟨ob.g+1,ob.sz,ob.ty,ob.rows++rows2⟩) w'→o.wpW P a w K Q:=by
  intro v' w' ι' hrun k1 k2 k3;unfold Oper.wpW execOp;simp only [ho,resolve,invoke,builtin,Sem.run_bind,Sem.run_pure,Result.andThen_ok,List.map_toArray,List.map_cons,List.map_nil,hrun];exact hk v' w' I ι' _ _ ⟨rfl,rfl⟩ k1 k2 k3
 have hs:=hsrc a w I ι hr he;have hvx:=aI he hx;obtain ⟨_,hcase⟩:=gO hvx hH rfl;rcases hcase with⟨b,cap,oo,c1,c2,c3⟩|⟨c1,c2,_,c4⟩
 ·obtain ⟨p1,_,⟨b',cap',cs,e1,e2,e3,e4,e5,e5',e6⟩|⟨e1,_⟩⟩:=(hr.obj id ob hH).cells hpos
  ·rw [c1] at e1;cases e1;have hoo:oo=0:=by rw [c3 (by omega)];simp
   subst hoo;rw [Nat.sub_zero] at c2;have olds:nU w I ι H ob.sz (cs.toList.take (ob.rows.length*ob.sz)) ob.rows:=by
    intro i' r hi' k a' hk';obtain ⟨u,q1,q2,q3⟩:=e6 i' r hi' k a' hk';have hk2:k < ob.sz:=by rw [← p2 r (aL3 hi')];exact(aLX.1 hk').1
    have hi2:i' < ob.rows.length:=(aLX.1 hi').1;have hlt:i'*ob.sz+k < ob.rows.length*ob.sz:=by
     have:(i'+1)*ob.sz≤ob.rows.length*ob.sz:=Nat.mul_le_mul_right _ hi2;rw [Nat.add_mul] at this;omega
    exact⟨u,by rw [List.getElem?_take,aLS hlt];simpa using q1,q2,q3⟩
   have hle:ob.rows.length*ob.sz≤cs.size:=by rw [e4];exact Nat.mul_le_mul_right _ e5
   have holen:(cs.toList.take (ob.rows.length*ob.sz)).length=ob.rows.length*ob.sz:=by simp;omega
   rcases hs with⟨ad,c,news,s1,s2,s3,s4,s5⟩|⟨s1,s2⟩
   ·by_cases hroom:ob.rows.length+rows2.length≤cap
    ·-- there is room
     have hfit:ob.rows.length*i.size+news.length≤cs.size:=by
      rw [s2,hsize,e4,← Nat.add_mul];exact Nat.mul_le_mul_right _ hroom
     have hrun:=run_append_room (P:=P) w T o.type ob.ty i hT hi b ob.rows.length cap cs e2 ad rows2.length c news (by rw [hsize];exact s2) s3 s4 hroom hfit;rw [hsize] at hrun;obtain ⟨k2,k3⟩:=Rel.update (H':=H.set id ⟨ob.g+1,ob.sz,ob.ty,ob.rows++rows2⟩) (ob':=⟨ob.g+1,ob.sz,ob.ty,ob.rows++rows2⟩)
      (cs':=(cs.toList.take (ob.rows.length*ob.sz)++news++cs.toList.drop (ob.rows.length*ob.sz+news.length)).toArray) hr hH c1 e2 (by simp) rfl rfl (fun e=>by simp at e) (by
       rw [hsize] at hfit;simp only [List.size_toArray,aLU,aL7,aL8,Array.length_toList];omega) (by simpa using hroom) hrl (fun i' r hi' k a' hk'=>by
        have:=nU.app (l3:=cs.toList.drop (ob.rows.length*ob.sz+news.length)) olds holen s5 i' r hi' k a' hk'
        simpa [List.append_assoc] using this) h1 h2
     exact fin _ _ ι (by rw [c2,s1];exact hrun) (.osl _ h1 (aLZ _) rfl fun _=>⟨hpos,by simp,.inl ⟨b,cap,0,c1,by simp,fun _=>by simp⟩⟩) k2 k3
    have holds:∀ j v,(cs.toList.take (ob.rows.length*ob.sz))[j]?=some v→w.cell? ((⟨b,0,none⟩:Addr).add j)=some v:=by
     intro j v hv;rw [Addr.add_lit,aLb,cell_of_row w b _ cs ob.ty (0,0) e2];rw [List.getElem?_take] at hv
     split at hv
     ·simpa using hv
     cases hv
    have hrun:=run_append_grow (P:=P) w T o.type ob.ty i z hT hi hz ⟨b,0,none⟩ ob.rows.length cap _ (by rw [hsize];exact holen) holds ad rows2.length c news (by rw [hsize];exact s2) s3 (by omega) (by omega) (growslice_fits (by omega) (by rw [hby];exact hbytes));have hge:=grownCap_ge w (ob.rows.length+rows2.length) cap ob.ty;have hcm:=grownCap_le_maxLen w (ob.rows.length+rows2.length) cap ob.ty hml;obtain ⟨k2,k3⟩:=Rel.place (H':=H.set id ⟨ob.g+1,ob.sz,ob.ty,ob.rows++rows2⟩) (id:=id) (cap:=grownCap w (ob.rows.length+rows2.length) cap ob.ty) (ob':=⟨ob.g+1,ob.sz,ob.ty,ob.rows++rows2⟩)
     (cs':=(cs.toList.take (ob.rows.length*ob.sz)).toArray++news.toArray++Builtin.zeroCells z.cells (grownCap w (ob.rows.length+rows2.length) cap ob.ty - (ob.rows.length+rows2.length)))
     (w':=w.drew.alloc (.cells ((cs.toList.take (ob.rows.length*ob.sz)).toArray++news.toArray++Builtin.zeroCells z.cells (grownCap w (ob.rows.length+rows2.length) cap ob.ty - (ob.rows.length+rows2.length))) ob.ty)) hr rfl rfl rfl rfl
     (fun o' ho'=>by rw [hH] at ho';cases ho';simp) p1 (by
      simp only [Array.size_append,List.size_toArray,size_zeroCells,hzs,holen,s2,← Nat.add_mul];congr 1;omega) (by simpa using hge) hcm hrl (fun i' r hi' k a' hk'=>by
       obtain ⟨u,q1,q2,q3⟩:=nU.app (l3:=(Builtin.zeroCells z.cells (grownCap w (ob.rows.length+rows2.length) cap ob.ty - (ob.rows.length+rows2.length))).toList) olds holen s5 i' r hi' k a' hk';refine⟨u,?_,q2,q3⟩;rw [← Array.getElem?_toList]
       simpa [List.append_assoc] using q1) h1 h2
    exact fin _ _ _ (by rw [c2,s1];exact hrun) (.osl _ h1 (aLZ _) rfl fun _=>⟨hpos,by simp,.inl ⟨w.heap.size,_,0,by simp;rfl,by simp,fun _=>by simp⟩⟩) k2 k3
   subst s2;have hrun:=sO (P:=P) (ty:=o.type) (w:=w) hT hi (some ⟨b,0,none⟩) ob.rows.length cap e5;obtain ⟨k2,k3⟩:=Rel.tick (H':=H.set id ⟨ob.g+1,ob.sz,ob.ty,ob.rows++[]⟩) (ob':=⟨ob.g+1,ob.sz,ob.ty,ob.rows++[]⟩) hr hH (by simp) rfl rfl (by simp) h1 h2;exact fin _ _ ι (by rw [c2,s1];exact hrun) (.osl _ h1 (aLZ _) rfl fun _=>⟨hpos,by simp,.inl ⟨b,cap,0,c1,by simp,fun _=>by simp⟩⟩) k2 k3
  rw [c1] at e1;cases e1
 have hnil:ob.rows=[]:=List.eq_nil_of_length_eq_zero c4;have hticks:rows2=[]→o.wpW P a w K Q:=by
  intro h0;subst h0;have hrun:(Builtin.append_ #[T,T] o.type #[a.eval x,a.eval y]).run P w=.ok (.slice none 0 0) w:=by
   rcases hs with⟨ad,c,news,s1,s2,s3,s4,s5⟩|⟨s1,s2⟩
   ·rw [c2,s1];simp [Builtin.append_,run_underlying hT,sizeOf,typeInfo,hi,Builtin.lenOf,Builtin.firstCells,loadCells,loadCellsFrom]
   rw [c2,s1];exact sO (P:=P) (ty:=o.type) (w:=w) hT hi none 0 0 (aLZ _)
  obtain ⟨k2,k3⟩:=Rel.tick (H':=H.set id ⟨ob.g+1,ob.sz,ob.ty,ob.rows++[]⟩) (ob':=⟨ob.g+1,ob.sz,ob.ty,ob.rows++[]⟩) hr hH (by simp) rfl rfl (by simp) h1 h2;exact fin _ _ ι hrun (.osl _ h1 (aLZ _) rfl fun _=>⟨hpos,by simp,.inr ⟨c1,rfl,rfl,by simp [hnil]⟩⟩) k2 k3
 by_cases h0:rows2=[]
 ·exact hticks h0
 have hpos:0 < rows2.length:=List.length_pos_iff.2 h0;rcases hs with⟨ad,c,news,s1,s2,s3,s4,s5⟩|⟨s1,s2⟩
 ·rw [hnil] at hbytes hml hmax;simp only [List.length_nil,aLb] at hbytes hml hmax;have hrun:=run_append_nil (P:=P) w T o.type ob.ty i z hT hi hz ad rows2.length c news (by rw [hsize];exact s2) s3 hpos (by omega) (by rw [hby];omega);have hge:=grownCap_ge w rows2.length 0 ob.ty;have hcm:=grownCap_le_maxLen w rows2.length 0 ob.ty hml;obtain ⟨k2,k3⟩:=Rel.place (H':=H.set id ⟨ob.g+1,ob.sz,ob.ty,ob.rows++rows2⟩) (id:=id) (cap:=grownCap w rows2.length 0 ob.ty) (ob':=⟨ob.g+1,ob.sz,ob.ty,ob.rows++rows2⟩)
   (cs':=news.toArray++Builtin.zeroCells z.cells (grownCap w rows2.length 0 ob.ty - rows2.length))
   (w':=w.drew.alloc (.cells (news.toArray++Builtin.zeroCells z.cells (grownCap w rows2.length 0 ob.ty - rows2.length)) ob.ty)) hr rfl rfl rfl rfl
   (fun o' ho'=>by rw [hH] at ho';cases ho';simp) hsz0 (by
    simp only [Array.size_append,List.size_toArray,size_zeroCells,hzs,s2,← Nat.add_mul];congr 1;omega) (by simpa [hnil] using hge) hcm hrl (fun i' r hi' k a' hk'=>by
     rw [hnil] at hi';simp only [List.nil_append] at hi';obtain ⟨u,q1,q2,q3⟩:=s5 i' r hi' k a' hk';have hlt:=(aLX.1 q1).1;refine⟨u,?_,q2,q3⟩;rw [Array.getElem?_append_left (by simpa using hlt)]
     simpa using q1) h1 h2
  refine fin _ _ _ (by rw [c2,s1];exact hrun) (.osl _ h1 (aLZ _) rfl fun _=>⟨(lQ (aI he hx) hH rfl:0 < ob.sz),by simp,.inl ⟨w.heap.size,_,0,by simp;rfl,by simp [hnil],fun _=>by simp⟩⟩) k2 k3
 exact absurd s2 h0
theorem LF {e:TypeId} {id g n m sz bytes:Nat} {ob:Ob} {ps:List (List PV)} {H2:aB} (ho:o.op=.call {callee:=.builtin .append,args:=#[x,y],argTypes:=#[T,T]}) (hT:P.underlying T=some (.slice e)) (hinf:TN P e sz bytes)
  (hx:aN E x=some (.osl id g 0 n)) (hH:H.get id=some ob) (hg:ob.g=g) (hosz:ob.sz=sz) (hty:ob.ty=e) (hn:ob.rows.length=n)
  (hy:aN E y=some (.pv (.sl ps))) (hrl:∀ r∈ps,r.length=sz) (hm:ps.length=m) (hbytes:(n+m)*bytes≤140737488355328) (hmax:n+m≤9223372036854775807)
  (hH2:H.set id ⟨g+1,sz,e,ob.rows++ps.map (·.map AV.pv)⟩=H2):cB P N o E H (.osl id (g+1) 0 (n+m)) H2:=by
 obtain ⟨i,z,h1,h2,h3,h4,h5,h6⟩:=hinf;exact U9 ho hT ⟨i,z,h1,h2,h3,h4,h5,h6⟩ hx hH hg hosz hty hn (fun a w I ι hr he=>aBQ (aI he hy) h6 hrl) (fun r hr=>by
  obtain ⟨q,q1,q2⟩:=List.mem_map.1 hr;rw [← q2];simpa using hrl q q1) (by simpa using hm) hbytes hmax hH2
theorem K6 {e:TypeId} {id sz bytes l c:Nat} {k1 k2:IntKind} {n1 n2:Int} {z:Value} {v0:AV} {row:List AV} (ho:o.op=.makeSlice T x y) (hT:P.underlying T=some (.slice e)) (hinf:TN P e sz bytes) (hz:∀ w,(zeroValue e).run P w=.ok z w) (hv:ZV z v0) (hl0:QB v0=some row) (hrow:row.length=sz)
  (hx:aN E x=some (.pv (.int k1 n1))) (hy:aN E y=some (.pv (.int k2 n2))) (h1:0≤n1) (h2:n1≤n2) (hl:n1.toNat=l) (hc:n2.toNat=c) (hb:bytes*c≤281474976710656) (hmax:n2≤9223372036854775807) (hid:H.get id=none) :
  cB P N o E H (.osl id 0 0 l) ((id,⟨0,sz,e,List.replicate l row⟩)::H):=by
 intro a w I ι _ _ hr he K Q hk;obtain ⟨i,z',hi,hz',hsize,hby,hzs,hsz0⟩:=hinf;have ezz:z'=z:=by
  have:=hz w;simp [zeroValue,typeInfo,hi,hz'] at this;exact this
 subst ezz hl hc;have e1:=(aI he hx).int_inv;have e2:=(aI he hy).int_inv;have hb':(i.bytes:Int)*n2≤281474976710656:=by
  have h:=hb;rw [← hby] at h;have h3:((i.bytes*n2.toNat:Nat):Int)≤281474976710656:=by omega
  rw [Int.natCast_mul] at h3
  rwa [Int.toNat_of_nonneg (by omega)] at h3
 have hrun:=run_make (P:=P) w T e i z' hT hi hz' k1 k2 n1 n2 h1 h2 hb' hmax;have hcr:=vB.of_cells (ZV.rel (w:=w) (I:=I) (ι:=ι) (H:=H) hv) hl0;obtain ⟨k2',k3⟩:=Rel.place (H':=(id,⟨0,sz,e,List.replicate n1.toNat row⟩)::H) (id:=id) (cap:=n2.toNat) (ob':=⟨0,sz,e,List.replicate n1.toNat row⟩) (cs':=madeCells z'.cells (n2.toNat*i.size))
  (w':=w.alloc (.cells (madeCells z'.cells (n2.toNat*i.size)) e)) hr rfl rfl rfl rfl (fun o ho=>by rw [hid] at ho;cases ho) hsz0 (by rw [size_madeCells,hsize]) (by simp;omega) (by simp only [maxLen];omega)
  (fun r hr'=>by rw [(List.mem_replicate.1 hr').2];exact hrow)
  (fun i' r hi' k a' hk'=>by
   rw [List.getElem?_replicate] at hi'
   split at hi'
   ·cases hi';rename_i hlt;have hk2:k < sz:=by rw [← hrow];exact(aLX.1 hk').1
    obtain ⟨u,q1,q2,q3⟩:=hcr.2 k a' hk';refine⟨u,?_,q2,q3⟩;have hfit:i'*sz+k < n2.toNat*sz:=by
     have:(i'+1)*sz≤n2.toNat*sz:=Nat.mul_le_mul_right _ (by omega);rw [Nat.add_mul] at this;omega
    have hsz:k < z'.cells.size:=by omega
    rw [Array.getElem?_eq_getElem hsz] at q1;cases q1;simp only [madeCells,Array.getElem?_map,hsize];rw [Array.getElem?_range];simp only [hfit,if_true,Option.map_some,hzs,AG hk2];rw [getElem!_pos z'.cells k hsz]
   cases hi') (get_cons_same _ _ _) (fun j hj=>get_cons_other _ _ hj)
 unfold Oper.wpW execOp;simp only [ho,e1,e2,Sem.run_bind,hrun,Result.andThen_ok,Sem.run_pure];exact hk _ _ I _ _ _ ⟨rfl,rfl⟩ (.osl _ (get_cons_same _ _ _) (aLZ _) rfl fun _=>⟨hsz0,by simp,.inl ⟨w.heap.size,n2.toNat,0,by simp,by simp,fun _=>by simp⟩⟩) k2' k3
theorem Rel.congr {I:Nat→Prop} {ι:dR} {H H':aB} {w:World} (hr:Rel I ι H w) (h:∀ j,H'.get j=H.get j):Rel I ι H' w∧Step I ι H w I ι H' w:=by
 have hst:Step I ι H w I ι H' w:=⟨rfl,rfl,rfl,aLZ _,fun _ _ _=>rfl,fun _ h=>h,fun _ h=>.inl h,fun b ⟨j,o,c,h1,h2⟩=>.inl ⟨j,o,c,(h j).symm.trans h1,h2⟩,fun _ _ _=>rfl,
  fun j o hj=>⟨o,(h j).trans hj,aLZ _,fun _=>⟨rfl,rfl,fun _=>aLZ _⟩⟩⟩
 refine⟨⟨hr.imm,fun j o hj=>?_,fun j j' o o' b c c' h1 h2=>hr.inj j j' o o' b c c' ((h j).symm.trans h1) ((h j').symm.trans h2),hst.glob hr⟩,hst⟩;exact(hr.obj j o ((h j).symm.trans hj)).keep rfl (fun _ _ _ _=>⟨rfl,fun h=>h⟩) (fun r _ a _ v hv=>hv.mono hr hst)
def eQ (s:List UInt8):List (List AV):=s.map fun b=>[.pv (.int .u8 b.toNat)]
end
end
section
structure Rec where
 v:AV
 R:Option (List Nat)
 W:aB
def GK:List Nat→Nat→Bool
 | [],_=>false
 | x::r,t=>cond (Nat.beq x t) true (GK r t)
theorem C5 {l:List Nat} {t:Nat}:GK l t=true↔t∈l:=by
 induction l with
 | nil=>simp [GK]
 | cons x r ih =>
  cases e:Nat.beq x t with
  | true =>
   have:x=t:=Nat.eq_of_beq_eq_true e;simp [GK,e,this]
  | false =>
   have:x≠t:=fun h=>by subst h;rw [kB] at e;cases e
   simp [GK,e,ih,Ne.symm this]
def uO:Option (List Nat)→Nat→Bool
 | none,_=>true
 | some l,t=>GK l t
def RS:List Operand→List Nat
 | []=>[]
 | .tmp t::r=>t::RS r
 | _::r=>RS r
def fF (ops:List Oper) (o:Oper):List Nat :=match o.guard with
 | none=>RS o.op.operands.toList
 | some (j,_)=>match gS ops j with
  | some t=>t::RS o.op.operands.toList
  | none=>RS o.op.operands.toList
def restr (E:bO):List Nat→bO
 | []=>[]
 | t::r=>match E.get t with
  | some v=>(t,v)::restr E r
  | none=>restr E r
theorem MO {E:bO} {l:List Nat}:∀ p∈restr E l,E.get p.1=some p.2∧p.1∈l:=by
 induction l with
 | nil=>simp [restr]
 | cons t r ih =>
  intro p hp;unfold restr at hp
  split at hp
  ·rename_i v e;rcases aL5.1 hp with h|h
   ·subst h;exact⟨e,by simp⟩
   exact⟨(ih p h).1,by simp [(ih p h).2]⟩
  exact⟨(ih p hp).1,by simp [(ih p hp).2]⟩
inductive DStep (P:Program) (N:Nat) (ops:List Oper) (o:Oper) (E:bO) (H:aB) (r:Rec):Prop
 | plain (hg:o.guard=none) (h:∀ H1:aB,(∀ id,uO r.R id=true→H1.get id=H.get id)→cB P N o (restr E (fF ops o)) H1 r.v (r.W++H1))
 | on (j:Nat) (want:Bool) (t:Tmp) (b:Bool) (hg:o.guard=some (j,want)) (hj:gS ops j=some t) (hb:E.get t=some (.pv (.bool b))) (hw:b=want)
   (h:∀ H1:aB,(∀ id,uO r.R id=true→H1.get id=H.get id)→cB P N o (restr E (fF ops o)) H1 r.v (r.W++H1))
 | off (j:Nat) (want:Bool) (t:Tmp) (x:AV) (hg:o.guard=some (j,want)) (hj:gS ops j=some t) (hb:E.get t=some x) (hw:R1 want x=true) (hv:r.v=.tup []) (hW:r.W=[])
inductive DChain (P:Program) (N:Nat) (ops:List Oper):List Oper→bO→aB→List Rec→bO→aB→Prop
 | nil {E:bO} {H:aB}:DChain P N ops [] E H [] E H
 | cons {o:Oper} {rest:List Oper} {E E':bO} {H H':aB} {r:Rec} {rs:List Rec} (h:DStep P N ops o E H r) (hd:gM N o.dst=true) (hr:DChain P N ops rest (iI E o.dst r.v) (r.W++H) rs E' H') :
   DChain P N ops (o::rest) E H (r::rs) E' H'
structure Ent2 where
 o:Oper
 r:Rec
def vQ (E:bO) (l:List Ent2) (S:Nat→Bool):Nat→Nat→Option AV
 | 0,t=>E.get t
 | k+1,t=>match l[k]? with
  | some x=>if S k=true∧x.o.dst=some t then some x.r.v else vQ E l S k t
  | none=>vQ E l S k t
def uD (H:aB) (l:List Ent2) (S:Nat→Bool):Nat→Nat→Option Ob
 | 0,id=>H.get id
 | k+1,id=>match l[k]? with
  | some x=>if S k=true∧(x.r.W.get id).isSome=true then x.r.W.get id else uD H l S k id
  | none=>uD H l S k id
theorem AH (W H:aB) (id:Nat):aB.get (W++H) id=match W.get id with|some o=>some o|none=>H.get id:=by
 induction W with
 | nil=>rfl
 | cons x r ih =>
  obtain ⟨i,o⟩:=x;cases e:Nat.beq i id with
  | true=>simp [aB.get,e]
  | false=>simpa [aB.get,e] using ih
def hkeys (W:aB):List Nat:=W.map (·.1)
def iN (ops:List Oper) (x y:Ent2):Bool :=(match x.o.dst with
   | some d=>GK (fF ops y.o) d||(match y.o.dst with|some e=>Nat.beq e d|none=>false)
   | none=>false) ||
  (match y.o.dst with
   | some d=>GK (fF ops x.o) d
   | none=>false) ||
  (hkeys x.r.W).any (fun i=>uO y.r.R i||GK (hkeys y.r.W) i) ||
  (hkeys y.r.W).any (fun i=>uO x.r.R i)
def pJ (acc:List Nat):List Edge→Nat
 | []=>0
 | e::r=>if Region.binds .any e then((1 <<< e.on) ||| acc.getD e.on 0) ||| pJ acc r else pJ acc r
def aFh:List Oper→List Nat→List Nat
 | [],acc=>acc
 | o::r,acc=>aFh r (acc++[pJ acc o.after.toList])
def G6 (ops:List Oper) (bef:List Nat):Nat→List Ent2→List Ent2→Bool
 | _,_,[]=>true
 | j,prev,y::r=>(prev.zipIdx.all fun(x,i)=>!iN ops x y||(bef.getD j 0).testBit i)&&G6 ops bef (j+1) (prev++[y]) r
def G7:Nat→List Oper→Bool
 | _,[]=>true
 | j,o::r=>(o.after.toList.all fun e=>!Region.binds .any e||Nat.blt e.on j)&&G7 (j+1) r
def EM (ops:List Oper) (rs:List Rec):Bool :=G7 0 ops&&G6 ops (aFh ops []) 0 [] (List.zipWith Ent2.mk ops rs)
def aAm (ops:List Oper) (S:Nat→Bool):Prop:=∀ j o,ops[j]?=some o→S j=true→∀ e∈o.after.toList,Region.binds .any e=true→S e.on=true
def Pre (ops:List Oper) (i j:Nat):Prop:=∀ S,aAm ops S→∀ o,ops[j]?=some o→(∀ e∈o.after.toList,Region.binds .any e=true→S e.on=true)→S i=true
theorem LS {ops:List Oper} {acc:List Nat} (hacc:∀ j,j < acc.length→∀ i,(acc.getD j 0).testBit i=true→Pre ops i j) (hlen:acc.length≤ops.length) :
  ∀ (es:List Edge) (i:Nat),(pJ acc es).testBit i=true→∀ S,aAm ops S→(∀ e∈es,Region.binds .any e=true→S e.on=true)→S i=true:=by
 intro es
 induction es with
 | nil=>intro i h;simp [pJ] at h
 | cons e r ih =>
  intro i h S hS he;unfold pJ at h
  split at h
  ·rename_i hb;rw [Nat.testBit_or,Nat.testBit_or,Bool.or_eq_true,Bool.or_eq_true] at h;rcases h with(h|h)|h
   ·have:e.on=i:=by
     rw [Nat.testBit_shiftLeft] at h;simp only [aL2,aL0] at h;have h2:=h.2;rw [Nat.testBit_one_eq_true_iff_self_eq_zero] at h2;omega
    rw [← this];exact he e (by simp) hb
   ·by_cases hj:e.on < acc.length
    ·have hlt:e.on < ops.length:=by omega
     have hon:=he e (by simp) hb;exact hacc e.on hj i h S hS _ (aLY hlt) (fun e' he' hb'=>hS e.on _ (aLY hlt) hon e' he' hb')
    simp [List.getD,List.getElem?_eq_none (show acc.length≤e.on by omega)] at h
   exact ih i h S hS (fun e' he'=>he e' (by simp [he']))
  exact ih i h S hS (fun e' he'=>he e' (by simp [he']))
theorem NY {ops:List Oper}:∀ (rest done:List Oper) (acc:List Nat),ops=done++rest→acc.length=done.length→(∀ j,j < acc.length→∀ i,(acc.getD j 0).testBit i=true→Pre ops i j) →
  ∀ j i,((aFh rest acc).getD j 0).testBit i=true→Pre ops i j:=by
 intro rest
 induction rest with
 | nil =>
  intro done acc h1 h2 h3 j i hb;by_cases hj:j < acc.length
  ·exact h3 j hj i hb
  simp [aFh,List.getD,List.getElem?_eq_none (show acc.length≤j by omega)] at hb
 | cons o r ih =>
  intro done acc h1 h2 h3;refine ih (done++[o]) (acc++[pJ acc o.after.toList]) (by rw [h1];simp) (by simp [h2]) ?_;intro j hj i hb;by_cases hlt:j < acc.length
  ·have hb':(acc.getD j 0).testBit i=true:=by simpa [List.getD,List.getElem?_append_left hlt] using hb
   exact h3 j hlt i hb'
  have hje:j=acc.length:=by simp at hj;omega
  subst hje;have hb:(pJ acc o.after.toList).testBit i=true:=by simpa [List.getD] using hb
  intro S hS o' ho' he';have:o'=o:=by
   rw [h1,List.getElem?_append_right (by omega),h2] at ho';simp at ho';exact ho'.symm
  subst this;exact LS h3 (by rw [h1,h2];simp) _ i hb S hS he'
theorem CZ {ops:List Oper} {bef:List Nat}:∀ (rest prev:List Ent2),G6 ops bef prev.length prev rest=true→∀ i j,i < j→prev.length≤j→∀ x y,(prev++rest)[i]?=some x→(prev++rest)[j]?=some y→iN ops x y=true→(bef.getD j 0).testBit i=true:=by
 intro rest
 induction rest with
 | nil =>
  intro prev _ i j hij hj x y hx hy;have:=(aLX.1 hy).1;simp at this;omega
 | cons z r ih =>
  intro prev h i j hij hj x y hx hy hc;simp only [G6,aL2] at h;by_cases e:j=prev.length
  ·subst e;have hz:y=z:=by
    rw [List.getElem?_append_right (by omega)] at hy;simp at hy;exact hy.symm
   subst hz;have hx':prev[i]?=some x:=by rw [List.getElem?_append_left hij] at hx;exact hx
   have hm:(x,i)∈prev.zipIdx:=by rw [List.mem_zipIdx_iff_getElem?];exact hx'
   have:=List.all_eq_true.1 h.1 _ hm
   simpa [hc] using this
  have h2:=h.2;have hl:prev.length+1=(prev++[z]).length:=by simp
  rw [hl] at h2;have hr:prev++z::r=(prev++[z])++r:=by simp
  rw [hr] at hx hy;exact ih (prev++[z]) h2 i j hij (by simp;omega) x y hx hy hc
theorem C0:∀ (l:List Oper) (k:Nat),G7 k l=true→∀ j o,l[j]?=some o→∀ e∈o.after.toList,Region.binds .any e=true→e.on < k+j:=by
 intro l
 induction l with
 | nil=>intro k _ j o h;simp at h
 | cons x r ih =>
  intro k h j o ho e he hb;simp only [G7,aL2] at h;cases j with
  | zero =>
   simp at ho;subst ho;have:=List.all_eq_true.1 h.1 e he
   simpa [hb,Nat.blt_eq] using this
  | succ j =>
   simp at ho;have:=ih (k+1) h.2 j o ho e he hb;omega
section
variable {P:Program} {N:Nat} {ops:List Oper} {E:bO} {H:aB}
theorem DChain.spec {rest:List Oper} {E':bO} {H':aB} {rs:List Rec} (h:DChain P N ops rest E H rs E' H'):rs.length=rest.length ∧
  (∀ k x,(List.zipWith Ent2.mk rest rs)[k]?=some x→gM N x.o.dst=true∧∃ Ek Hk,(∀ t,Ek.get t=vQ E (List.zipWith Ent2.mk rest rs) (fun _=>true) k t)∧(∀ id,Hk.get id=uD H (List.zipWith Ent2.mk rest rs) (fun _=>true) k id)∧DStep P N ops x.o Ek Hk x.r) ∧
  (∀ t,E'.get t=vQ E (List.zipWith Ent2.mk rest rs) (fun _=>true) rest.length t)∧(∀ id,H'.get id=uD H (List.zipWith Ent2.mk rest rs) (fun _=>true) rest.length id):=by
 induction h with
 | nil=>exact⟨rfl,by simp,fun t=>rfl,fun id=>rfl⟩
 | @cons o rest E E' H H' r rs hs hd hr ih =>
  obtain ⟨h1,h2,h3,h4⟩:=ih;have shE:∀ (l:List Ent2) k t,vQ (iI E o.dst r.v) l (fun _=>true) k t=vQ E (⟨o,r⟩::l) (fun _=>true) (k+1) t:=by
   intro l k t
   induction k with
   | zero =>
    simp only [vQ,List.getElem?_cons_zero];cases hdst:o.dst with
    | none=>simp [iI]
    | some d =>
     simp only [iI];by_cases e:d=t
     ·subst e;simp [bO.get_cons_same]
     rw [bO.get_cons_other _ _ e];simp [e]
   | succ k ih =>
    rw [vQ,vQ];simp only [List.getElem?_cons_succ];cases l[k]? with
    | none=>exact ih
    | some x=>simp only [ih]
  have shH:∀ (l:List Ent2) k id,uD (r.W++H) l (fun _=>true) k id=uD H (⟨o,r⟩::l) (fun _=>true) (k+1) id:=by
   intro l k id
   induction k with
   | zero =>
    simp only [uD,List.getElem?_cons_zero,AH];cases hw:r.W.get id<;>simp
   | succ k ih =>
    rw [uD,uD];simp only [List.getElem?_cons_succ];cases l[k]? with
    | none=>exact ih
    | some x=>simp only [ih]
  refine⟨by simp [h1],?_,?_,?_⟩
  ·intro k x hx;cases k with
   | zero =>
    simp at hx;subst hx;exact⟨hd,E,H,fun t=>rfl,fun id=>rfl,hs⟩
   | succ k =>
    simp at hx;obtain ⟨g0,Ek,Hk,g1,g2,g3⟩:=h2 k x (by simpa using hx);exact⟨g0,Ek,Hk,fun t=>(g1 t).trans (shE _ k t),fun id=>(g2 id).trans (shH _ k id),g3⟩
  ·intro t;rw [h3 t,shE];rfl
  intro id;rw [h4 id,shH];rfl
theorem mR {l:List Ent2} {S:Nat→Bool} {t:Nat}:∀ (n k:Nat),k≤n→(∀ j x,l[j]?=some x→x.o.dst=some t→(j < k→S j=true)∧(k≤j→j < n→S j=false))→vQ E l S n t=vQ E l (fun _=>true) k t:=by
  intro n
  induction n with
  | zero => intro k hk h; have : k = 0 := by omega
            subst this;rfl
  | succ n ih =>
    intro k hk h;by_cases e:k=n+1
    · subst e
      rw [vQ,vQ];cases hl:l[n]? with
      | none=>exact ih n (aLZ _) (fun j x hj hx=>⟨fun hlt=>(h j x hj hx).1 (by omega),fun h1 h2=>by omega⟩)
      | some x =>
        simp only;by_cases hd:x.o.dst=some t
        · have:=(h n x hl hd).1 (by omega)
          simp [this,hd]
        · simp only [hd,and_false,if_false]
          exact ih n (aLZ _) (fun j x hj hx=>⟨fun hlt=>(h j x hj hx).1 (by omega),fun h1 h2=>by omega⟩)
    · rw [vQ]
      have hk':k≤n:=by omega
      have hrec:=ih k hk' (fun j x hj hx=>⟨(h j x hj hx).1,fun h1 h2=>(h j x hj hx).2 h1 (by omega)⟩);cases hl:l[n]? with
      | none=>exact hrec
      | some x =>
        simp only;by_cases hd:x.o.dst=some t
        · have:=(h n x hl hd).2 (by omega) (by omega)
          simp [this,hrec]
        · simp [hd,hrec]
theorem mQ {l:List Ent2} {S:Nat→Bool} {id:Nat}:∀ (n k:Nat),k≤n→(∀ j x,l[j]?=some x→(x.r.W.get id).isSome=true→(j < k→S j=true)∧(k≤j→j < n→S j=false))→uD H l S n id=uD H l (fun _=>true) k id:=by
  intro n
  induction n with
  | zero => intro k hk h; have : k = 0 := by omega
            subst this;rfl
  | succ n ih =>
    intro k hk h;by_cases e:k=n+1
    · subst e
      rw [uD,uD];cases hl:l[n]? with
      | none=>exact ih n (aLZ _) (fun j x hj hx=>⟨fun hlt=>(h j x hj hx).1 (by omega),fun h1 h2=>by omega⟩)
      | some x =>
        simp only;by_cases hd:(x.r.W.get id).isSome=true
        · have:=(h n x hl hd).1 (by omega)
          simp [this,hd]
        · rw [aLR (fun hh=>hd hh.2),aLR (fun hh=>hd hh.2)]
          exact ih n (aLZ _) (fun j x hj hx=>⟨fun hlt=>(h j x hj hx).1 (by omega),fun h1 h2=>by omega⟩)
    · rw [uD]
      have hk':k≤n:=by omega
      have hrec:=ih k hk' (fun j x hj hx=>⟨(h j x hj hx).1,fun h1 h2=>(h j x hj hx).2 h1 (by omega)⟩);cases hl:l[n]? with
      | none=>exact hrec
      | some x =>
        simp only;by_cases hd:(x.r.W.get id).isSome=true
        · have:=(h n x hl hd).2 (by omega) (by omega)
          simp [this,hrec]
        · simp [hd,hrec]
end
theorem cB.restr {P:Program} {N:Nat} {o:Oper} {E E1:bO} {H1 H2:aB} {l:List Nat} {v:AV} (h:cB P N o (restr E l) H1 v H2) (hE:∀ t,t∈l→E1.get t=E.get t):cB P N o E1 H1 v H2:=by intro a w I ι hd hs hr he K Q hk;refine h a w I ι hd hs hr (fun t v ht=>?_) K Q hk;have hp:=MO (E:=E) (l:=l) _ (fA ht);exact he t v ((hE t hp.2).trans hp.1)
theorem cD.get {G0:aB} {E E':bO} {H H':aB} (hE:∀ t,E'.get t=E.get t) (hH:∀ j,H'.get j=H.get j):cD G0 E H E' H':=by intro G hG N a w hs;obtain ⟨I,ι,hr,hst,he⟩:=hs.rel;obtain ⟨k2,k3⟩:=hr.congr hH;refine⟨hs.defers,hs.size,I,ι,k2,hst.trans k3,fun t v ht=>?_⟩;obtain ⟨c,hc,hv⟩:=he t v ((hE t).symm.trans ht);exact⟨c,hc,hv.mono hr k3⟩
theorem xJ {ops:List Oper} {x y:Ent2} {d:Nat} (h:x.o.dst=some d) (h':d∈fF ops y.o):iN ops x y=true:=by simp [iN,h,C5.2 h']
theorem oW {ops:List Oper} {x y:Ent2} {d:Nat} (h:x.o.dst=some d) (h':y.o.dst=some d):iN ops x y=true:=by simp [iN,h,h',kB]
theorem xI {ops:List Oper} {x y:Ent2} {d:Nat} (h:y.o.dst=some d) (h':d∈fF ops x.o):iN ops x y=true:=by simp [iN,h,C5.2 h']
theorem sS {W:aB} {id:Nat} (h:(W.get id).isSome=true):id∈hkeys W:=by obtain ⟨o,ho⟩:=Option.isSome_iff_exists.1 h;exact List.mem_map.2 ⟨_,cR ho,rfl⟩
theorem NW {ops:List Oper} {x y:Ent2} {id:Nat} (h:(x.r.W.get id).isSome=true) (h':uO y.r.R id=true):iN ops x y=true:=by have:(hkeys x.r.W).any (fun i=>uO y.r.R i||GK (hkeys y.r.W) i)=true:=List.any_eq_true.2 ⟨id,sS h,by simp [h']⟩;simp [iN,this]
theorem AK {ops:List Oper} {x y:Ent2} {id:Nat} (h:(x.r.W.get id).isSome=true) (h':(y.r.W.get id).isSome=true):iN ops x y=true:=by have:(hkeys x.r.W).any (fun i=>uO y.r.R i||GK (hkeys y.r.W) i)=true:=List.any_eq_true.2 ⟨id,sS h,by simp [C5.2 (sS h')]⟩;simp [iN,this]
theorem NX {ops:List Oper} {x y:Ent2} {id:Nat} (h:(y.r.W.get id).isSome=true) (h':uO x.r.R id=true):iN ops x y=true:=by have:(hkeys y.r.W).any (fun i=>uO x.r.R i)=true:=List.any_eq_true.2 ⟨id,sS h,h'⟩;simp [iN,this]
theorem cB.any_heap {P:Program} {N:Nat} {o:Oper} {E:bO} {H H1:aB} {v:AV} (h:cB P N o E H v H) (he:∀ j,H1.get j=H.get j):cB P N o E H1 v H1:=by intro a w I ι hd hs hr hE K Q hk;obtain ⟨k2,k3⟩:=hr.congr (fun j=>(he j).symm);refine h a w I ι hd hs k2 (fun t v ht=>let ⟨c,h1,h2⟩:=hE t v ht;⟨c,h1,h2.mono hr k3⟩) K Q ?_;rintro c w' I' ι' r H' ⟨rfl,rfl⟩ hv hr' hst;obtain ⟨q2,q3⟩:=hr'.congr he;exact hk c w' I' ι' _ _ ⟨rfl,rfl⟩ (hv.mono hr' q3) q2 ((k3.trans hst).trans q3)
theorem DStep.q {P:Program} {N:Nat} {ops:List Oper} {o:Oper} {E:bO} {H:aB} {v:AV} (hg:o.guard=none) (h:cB P N o (restr E (fF ops o)) H v H):DStep P N ops o E H ⟨v,none,[]⟩ :=.plain hg fun H1 hH=>h.any_heap fun j=>hH j rfl
theorem DStep.qon {P:Program} {N:Nat} {ops:List Oper} {o:Oper} {E:bO} {H:aB} {v:AV} {j:Nat} {want:Bool} {t:Tmp} {b:Bool} (hg:o.guard=some (j,want)) (hj:gS ops j=some t) (hb:E.get t=some (.pv (.bool b))) (hw:b=want) (h:cB P N o (restr E (fF ops o)) H v H):DStep P N ops o E H ⟨v,none,[]⟩ :=.on j want t b hg hj hb hw fun H1 hH=>h.any_heap fun j=>hH j rfl
theorem DStep.qoff {P:Program} {N:Nat} {ops:List Oper} {o:Oper} {E:bO} {H:aB} {j:Nat} {want:Bool} {t:Tmp} {x:AV} (hg:o.guard=some (j,want)) (hj:gS ops j=some t) (hb:E.get t=some x) (hw:R1 want x=true):DStep P N ops o E H ⟨.tup [],some [],[]⟩ :=.off j want t x hg hj hb hw rfl rfl
theorem aDG {P:Program} {G0:aB} {N id:Nat} {Q:Exit→bO→aB→Prop} {ops:Array Oper} {E E':bO} {H H':aB} {rs:List Rec} (hm:P.follows .mixedOrders=true) (hc:DChain P N ops.toList ops.toList E H rs E' H') (hok:EM ops.toList rs=true)
  (hK:Q .normal E' H'):fE P G0 N (.region id ops true) Q E H:=by
 intro G hG a w hs ro hro;have hnd0:ro=none∨ops.toList.all Oper.noDefer=true:=hro;refine wpIn_region_any hm ?_;obtain ⟨hlen,hst,hE',hH'⟩:=hc.spec;obtain ⟨l,hl⟩:∃ l,l=List.zipWith Ent2.mk ops.toList rs:=⟨_,rfl⟩;rw [← hl] at hst hE' hH';simp only [EM,aL2,← hl] at hok;obtain ⟨hok1,hok2⟩:=hok;have hll:l.length=ops.size:=by rw [hl];simp [hlen]
 have hlo:∀ (i:Nat) (x:Ent2),l[i]?=some x→ops.toList[i]?=some x.o:=by
  intro i x hx;rw [hl,List.getElem?_zipWith] at hx;cases e1:ops.toList[i]? with
  | none=>simp [e1] at hx
  | some o =>
   cases e2:rs[i]? with
   | none=>simp [e1,e2] at hx
   | some r=>simp [e1,e2] at hx;rw [← hx]
 have hedge:=C0 ops.toList 0 hok1;have hbef:∀ (i j:Nat) (x y:Ent2),i < j→l[i]?=some x→l[j]?=some y→iN ops.toList x y=true→Pre ops.toList i j:=fun i j x y hij hx hy hcl =>
  NY ops.toList [] [] rfl rfl (by simp) j i (CZ l [] hok2 i j hij (aLa _) x y hx hy hcl)
 have main:∀ (fuel:Nat) (listed:Array Bool) (a:Act) (w:World) (E1:bO) (H1:aB),listed.size=ops.size→((List.range ops.size).filter fun i=>!listed.getD i true).length≤fuel →
   aAm ops.toList (fun i=>listed.getD i false)→St G N E1 H1 a w→(∀ t,E1.get t=vQ E l (fun i=>listed.getD i false) ops.size t)→(∀ j,H1.get j=uD H l (fun i=>listed.getD i false) ops.size j) →
   wpAnyIn (RF ro) 0 P .any ops (fun e a w=>∃ E H,Q e E H∧St G N E H a w) fuel listed a w:=by
  intro fuel
  induction fuel with
  | zero =>
   intro listed a w E1 H1 hsz hcnt hdown hst1 hE1 hH1;have hall:∀ i,i < ops.size→listed.getD i false=true:=by
    intro i hi;have hnil:=List.eq_nil_of_length_eq_zero (Nat.le_zero.1 hcnt);have:=List.filter_eq_nil_iff.1 hnil i (List.mem_range.2 hi);have hi':i < listed.size:=by omega
    simp [Array.getD,hi'] at this ⊢;exact this
   refine⟨?_,E',H',hK,?_⟩
   ·unfold Region.ready;refine List.filter_eq_nil_iff.2 fun i hi=>?_;have:=hall i (List.mem_range.1 hi);have hi':i < listed.size:=by have:=List.mem_range.1 hi;omega
    simp [Array.getD,hi'] at this;simp [Array.getD,hi',this]
   refine cD.get (G0:=G0) (fun t=>?_) (fun j=>?_) G hG N a w hst1
   ·rw [hE' t,hE1 t,Array.length_toList];exact(mR (E:=E) ops.size ops.size (aLZ _) (fun j x hj _=>⟨fun hlt=>hall j hlt,fun h1 h2=>by omega⟩)).symm
   rw [hH' j,hH1 j,Array.length_toList];exact(mQ (H:=H) ops.size ops.size (aLZ _) (fun i x hi _=>⟨fun hlt=>hall i hlt,fun h1 h2=>by omega⟩)).symm
  | succ fuel ih =>
   intro listed a w E1 H1 hsz hcnt hdown hst1 hE1 hH1;refine⟨fun hnil=>?_,fun i hi=>?_⟩
   ·-- nothing is left
    have hall:∀ i,i < ops.size→listed.getD i false=true:=by
     intro i
     induction i using Nat.strongRecOn with
     | _ i ihi =>
      intro hi;refine Classical.byContradiction fun hno=>?_;have hi':i < listed.size:=by omega
      have hno':listed.getD i true=false:=by
       simp [Array.getD,hi'] at hno ⊢;exact hno
      have hlt:i < ops.toList.length:=by simpa using hi
      have hr:i∈Region.ready .any ops listed:=by
       unfold Region.ready;refine List.mem_filter.2 ⟨List.mem_range.2 hi,?_⟩;have ho:ops[i]?=some ops[i]:=Array.getElem?_eq_getElem hi;simp only [hno',Bool.not_false,Bool.true_and,ho,Option.map_some,Option.getD_some];rw [Array.all_eq_true'];intro e he;cases hb:Region.binds .any e with
       | false=>simp
       | true =>
        have hon:=hedge i ops[i] (by simp [ho]) e (by simpa using he) hb;simp only [Bool.not_true,Bool.false_or];exact ihi e.on (by omega) (by omega)
      rw [hnil] at hr;cases hr
    refine⟨E',H',hK,?_⟩;refine cD.get (G0:=G0) (fun t=>?_) (fun j=>?_) G hG N a w hst1
    ·rw [hE' t,hE1 t,Array.length_toList];exact(mR (E:=E) ops.size ops.size (aLZ _) (fun j x hj _=>⟨fun hlt=>hall j hlt,fun h1 h2=>by omega⟩)).symm
    rw [hH' j,hH1 j,Array.length_toList];exact(mQ (H:=H) ops.size ops.size (aLZ _) (fun i x hi _=>⟨fun hlt=>hall i hlt,fun h1 h2=>by omega⟩)).symm
   have hi1:=List.mem_filter.1 hi;have hilt:i < ops.size:=List.mem_range.1 hi1.1;have hi':i < listed.size:=by omega
   have ho:ops[i]?=some ops[i]:=Array.getElem?_eq_getElem hilt;have hi2:=hi1.2;simp only [ho,Option.map_some,Option.getD_some,aL2] at hi2;obtain ⟨hnl,hpreds⟩:=hi2;have hnl':listed.getD i false=false:=by
    simp [Array.getD,hi'] at hnl ⊢;exact hnl
   have hpre:∀ e∈(ops[i]).after.toList,Region.binds .any e=true→listed.getD e.on false=true:=by
    intro e he hb;have:=(Array.all_eq_true'.1 hpreds) e (by simpa using he)
    simpa [hb] using this
   have hil:i < l.length:=by omega
   obtain ⟨x,hx⟩:∃ x,l[i]?=some x:=⟨_,aLY hil⟩;have hxo:x.o=ops[i]:=by
    have:=hlo i x hx;simp [ho] at this;exact this.symm
   obtain ⟨hdok,Ek,Hk,hEk,hHk,hdst⟩:=hst i x hx;have hbefore:∀ (j:Nat) (y:Ent2),j < i→l[j]?=some y→iN ops.toList y x=true→listed.getD j false=true:=by
    intro j y hj hy hcl;exact hbef j i y x hj hy hx hcl _ hdown ops[i] (by simp [ho]) hpre
   have hbehind:∀ (j:Nat) (y:Ent2),i < j→l[j]?=some y→iN ops.toList x y=true→listed.getD j false=false:=by
    intro j y hj hy hcl;cases hjl:listed.getD j false with
    | false=>rfl
    | true =>
     have hjlt:j < l.length:=(aLX.1 hy).1;have hjo:ops.toList[j]?=some y.o:=hlo j y hy;have:=hbef i j x y hj hx hy hcl _ hdown y.o hjo (fun e he hb=>hdown j y.o hjo hjl e he hb);rw [hnl'] at this;cases this
   have agreeE:∀ t,(∀ (j:Nat) (y:Ent2),l[j]?=some y→y.o.dst=some t→(j < i→iN ops.toList y x=true)∧(i < j→iN ops.toList x y=true))→E1.get t=Ek.get t:=by
    intro t ht;rw [hE1 t,hEk t];refine mR (E:=E) ops.size i (by omega) (fun j y hj hd=>⟨fun hlt=>hbefore j y hlt hj ((ht j y hj hd).1 hlt),fun h1 h2=>?_⟩);by_cases e:j=i
    ·subst e;exact hnl'
    exact hbehind j y (by omega) hj ((ht j y hj hd).2 (by omega))
   have agreeH:∀ k,(∀ (j:Nat) (y:Ent2),l[j]?=some y→(y.r.W.get k).isSome=true→(j < i→iN ops.toList y x=true)∧(i < j→iN ops.toList x y=true))→H1.get k=Hk.get k:=by
    intro k hk;rw [hH1 k,hHk k];refine mQ (H:=H) ops.size i (by omega) (fun j y hj hd=>⟨fun hlt=>hbefore j y hlt hj ((hk j y hj hd).1 hlt),fun h1 h2=>?_⟩);by_cases e:j=i
    ·subst e;exact hnl'
    exact hbehind j y (by omega) hj ((hk j y hj hd).2 (by omega))
   have hlooks:∀ t,t∈fF ops.toList x.o→E1.get t=Ek.get t:=fun t ht =>
    agreeE t fun j y hj hd=>⟨fun _=>xJ hd ht,fun _=>xI hd ht⟩
   have hreads:∀ k,uO x.r.R k=true→H1.get k=Hk.get k:=fun k hk =>
    agreeH k fun j y hj hd=>⟨fun _=>NW hd hk,fun _=>NX hd hk⟩
   have hlist:∀ j,(listed.setIfInBounds i true).getD j false=if j=i then true else listed.getD j false:=by
    intro j;by_cases e:j=i
    ·subst e;simp [Array.getD,hi']
    simp only [Array.getD_eq_getD_getElem?,Array.getElem?_setIfInBounds_ne (Ne.symm e),e,if_false]
   have hdown':aAm ops.toList (fun j=>(listed.setIfInBounds i true).getD j false):=by
    intro j o hj hjl e he hb;simp only [hlist] at hjl ⊢;by_cases ej:j=i
    ·subst ej;have:o=ops[j]:=by simp [ho] at hj;exact hj.symm
     subst this;have:=hpre e he hb;simp [this]
    simp only [ej,if_false] at hjl;have:=hdown j o hj hjl e he hb;simp only at this;simp [this]
   have hcnt':((List.range ops.size).filter fun j=>!(listed.setIfInBounds i true).getD j true).length≤fuel:=by
    have hlist':∀ j,(listed.setIfInBounds i true).getD j true=if j=i then true else listed.getD j true:=by
     intro j;by_cases e:j=i
     ·subst e;simp [Array.getD,hi']
     simp only [Array.getD_eq_getD_getElem?,Array.getElem?_setIfInBounds_ne (Ne.symm e),e,if_false]
    have h1:((List.range ops.size).filter fun j=>!(listed.setIfInBounds i true).getD j true)=((List.range ops.size).filter fun j=>!listed.getD j true).filter fun j=>j != i:=by
     rw [List.filter_filter];refine List.filter_congr fun j _=>?_;rw [hlist'];by_cases e:j=i<;>simp [e]
    rw [h1];have h2:=List.length_filter_lt_length_iff_exists (p:=fun j=>j != i) (l:=(List.range ops.size).filter fun j=>!listed.getD j true) |>.2 ⟨i,List.mem_filter.2 ⟨hi1.1,by simpa using hnl⟩,by simp⟩;omega
   have next:∀ (r:AV) (a':Act) (w':World),r=x.r.v→St G N (iI E1 x.o.dst x.r.v) (x.r.W++H1) a' w'→wpAnyIn (RF ro) 0 P .any ops (fun e a w=>∃ E H,Q e E H∧St G N E H a w) fuel (listed.setIfInBounds i true) a' w':=by
    intro r a' w' _ hst';refine ih _ a' w' _ _ (by simp [hsz]) hcnt' hdown' hst' (fun t=>?_) (fun k=>?_)
    ·-- slots
     by_cases hd:x.o.dst=some t
     ·have e1:bO.get (iI E1 x.o.dst x.r.v) t=some x.r.v:=by rw [hd];simp [iI,bO.get_cons_same]
      rw [e1];have e2:=mR (E:=E) (l:=l) (S:=fun j=>(listed.setIfInBounds i true).getD j false) (t:=t) ops.size (i+1) (by omega) (fun j y hj hyd=>⟨fun hlt=>?_,fun h1 h2=>?_⟩)
      ·rw [e2,vQ,hx];simp [hd]
      ·simp only [hlist];by_cases ej:j=i
       ·simp [ej]
       simp only [ej,if_false];exact hbefore j y (by omega) hj (oW hyd hd)
      simp only [hlist];rw [aLR (by omega)];exact hbehind j y (by omega) hj (oW hd hyd)
     have e1:bO.get (iI E1 x.o.dst x.r.v) t=E1.get t:=by
      cases hdd:x.o.dst with
      | none=>rfl
      | some d=>exact bO.get_cons_other _ _ (fun e=>hd (by rw [hdd,e]))
     rw [e1,hE1 t];have:∀ n,vQ E l (fun i=>listed.getD i false) n t=vQ E l (fun j=>(listed.setIfInBounds i true).getD j false) n t:=by
      intro n
      induction n with
      | zero=>rfl
      | succ n ihn =>
       rw [vQ,vQ];cases hn:l[n]? with
       | none=>exact ihn
       | some y =>
        simp only;by_cases en:n=i
        ·subst en;rw [hx] at hn;cases hn;rw [aLR (fun h=>hd h.2),aLR (fun h=>hd h.2)];exact ihn
        have hS:(listed.setIfInBounds i true).getD n false=listed.getD n false:=by rw [hlist,aLR en]
        rw [hS,ihn]
     exact this _
    rw [AH];by_cases hd:(x.r.W.get k).isSome=true
    ·obtain ⟨ob,hob⟩:=Option.isSome_iff_exists.1 hd;rw [hob];have e2:=mQ (H:=H) (l:=l) (S:=fun j=>(listed.setIfInBounds i true).getD j false) (id:=k) ops.size (i+1) (by omega) (fun j y hj hyd=>⟨fun hlt=>?_,fun h1 h2=>?_⟩)
     ·rw [e2,uD,hx];simp [hob]
     ·simp only [hlist];by_cases ej:j=i
      ·simp [ej]
      simp only [ej,if_false];exact hbefore j y (by omega) hj (AK hyd hd)
     simp only [hlist];rw [aLR (by omega)];exact hbehind j y (by omega) hj (AK hd hyd)
    have hnone:x.r.W.get k=none:=by simpa using hd
    rw [hnone];simp only;rw [hH1 k];have:∀ n,uD H l (fun i=>listed.getD i false) n k=uD H l (fun j=>(listed.setIfInBounds i true).getD j false) n k:=by
     intro n
     induction n with
     | zero=>rfl
     | succ n ihn =>
      rw [uD,uD];cases hn:l[n]? with
      | none=>exact ihn
      | some y =>
       simp only;by_cases en:n=i
       ·subst en;rw [hx] at hn;cases hn;rw [aLR (fun h=>hd h.2),aLR (fun h=>hd h.2)];exact ihn
       have hS:(listed.setIfInBounds i true).getD n false=listed.getD n false:=by rw [hlist,aLR en]
       rw [hS,ihn]
    exact this _
   unfold wpOpIn;simp only [ho];rw [hxo] at hdst hlooks hdok;rw [hxo] at next;have hgE:∀ (j:Nat) (want:Bool) (t:Tmp) (b:Bool),(ops[i]).guard=some (j,want)→gS ops.toList j=some t→Ek.get t=some (.pv (.bool b))→yielded ops a.tmps j=some b:=by
    intro j want t b hg hj hb;have hmem:t∈fF ops.toList ops[i]:=by simp [fF,hg,hj]
    exact qJ (E:=E1) hj ((hlooks t hmem).trans hb) hst1.rel.choose_spec.choose_spec.2.2
   have hnd:ro=none∨(ops[i]).noDefer=true:=hnd0.imp (fun h=>h) fun h=>List.all_eq_true.1 h _ (by simp);cases hdst with
   | plain hg h =>
    have hw:Region.wanted ops[i] (yielded ops a.tmps)=true:=by simp [Region.wanted,hg]
    simp only [hw,if_true];refine hst1.op hdok ((h H1 hreads).restr hlooks) ?_ hnd;rintro r H2 a' w' ⟨rfl,rfl⟩ hs';exact next _ a' w' rfl hs'
   | on j want t b hg hj hb hw h =>
    have hy:=hgE j want t b hg hj hb;have hw:Region.wanted ops[i] (yielded ops a.tmps)=true:=by simp [Region.wanted,hg,hy,hw]
    simp only [hw,if_true];refine hst1.op hdok ((h H1 hreads).restr hlooks) ?_ hnd;rintro r H2 a' w' ⟨rfl,rfl⟩ hs';exact next _ a' w' rfl hs'
   | off j want t x' hg hj hb hw hv hW =>
    have hmem:t∈fF ops.toList ops[i]:=by simp [fF,hg,hj]
    have hw:Region.wanted ops[i] (yielded ops a.tmps)=false :=
     EX (E:=E1) hg hj ((hlooks t hmem).trans hb) hw hst1.rel.choose_spec.choose_spec.2.2
    simp only [hw,Bool.false_eq_true,if_false];refine⟨fun _ _=>trivial,?_⟩;refine next (.tup []) _ w hv.symm ?_;obtain ⟨I,ι,hr,hst2,he⟩:=hst1.rel;rw [hv,hW];refine⟨?_,?_,I,ι,hr,hst2,gQ.put hr (Step.refl _ _ _ _) he gQ.skip (by rw [hst1.size];exact hdok)⟩
    ·rw [fN];exact hst1.defers
    have:=hst1.size;cases (ops[i]).dst<;>simpa [Act.put] using this
 have hs':St G N E H a {w with drawn:=w.drawn+1}:=by
  obtain ⟨I,ι,hr,hst2,he⟩:=hs.rel;obtain ⟨k2,k3⟩:=hr.drawn (w':={w with drawn:=w.drawn+1}) rfl rfl rfl rfl;exact⟨hs.defers,hs.size,I,ι,k2,hst2.trans k3,fun t v ht=>let ⟨c,h1,h2⟩:=he t v ht;⟨c,h1,h2.mono hr k3⟩⟩
 refine main ops.size (Array.replicate ops.size false) a _ E H (by simp) (by
  have:=List.length_filter_le (fun i=>!(Array.replicate ops.size false).getD i true) (List.range ops.size)
  simpa using this) (fun j o hj hjl=>by simp [Array.getD] at hjl) hs' (fun t=>?_) (fun k=>?_)
 ·have:∀ n,vQ E l (fun i=>(Array.replicate ops.size false).getD i false) n t=E.get t:=by
   intro n
   induction n with
   | zero=>rfl
   | succ n ihn =>
    rw [vQ];cases l[n]? with
    | none=>exact ihn
    | some y =>
     have hf:(Array.replicate ops.size false).getD n false=false:=by simp [Array.getD]
     simp only [hf,Bool.false_eq_true,false_and,if_false];exact ihn
  exact(this _).symm
 have:∀ n,uD H l (fun i=>(Array.replicate ops.size false).getD i false) n k=H.get k:=by
  intro n
  induction n with
  | zero=>rfl
  | succ n ihn =>
   rw [uD];cases l[n]? with
   | none=>exact ihn
   | some y =>
    have hf:(Array.replicate ops.size false).getD n false=false:=by simp [Array.getD]
    simp only [hf,Bool.false_eq_true,false_and,if_false];exact ihn
 exact(this _).symm
end
section
def dN (P:Program) (T:TypeId) (cells:List AV):Prop:=∃ z v,(∀ w,(zeroValue T).run P w=.ok z w)∧ZV z v∧QB v=some cells
def jY (P:Program) (T:TypeId) (places:List (Nat×Nat)) (l0:List AV):Prop :=∃ fs pl z v,P.underlying T=some (.struct fs)∧(∀ w,(zeroValue T).run P w=.ok z w)∧ZV z v∧QB v=some l0∧(∀ w,((fs.mapM fun f=>do pure (f.offset,← sizeOf f.type)):Sem (Array (Nat×Nat))).run P w=.ok pl w)∧pl.toList=places
def HL (P:Program) (T:TypeId) (sz:Nat) (l0:List AV):Prop :=∃ n e z v,P.underlying T=some (.array n e)∧(∀ w,(zeroValue T).run P w=.ok z w)∧ZV z v∧QB v=some l0∧∀ w,(sizeOf e).run P w=.ok sz w
def dZ (P:Program) (T e sz:TypeId):Prop:=P.underlying T=some (.slice e)∧(∀ w,(sizeOf e).run P w=.ok sz w)∧0 < sz∧∃ z,∀ w,(zeroValue e).run P w=.ok z w
def EI (P:Program) (e:TypeId) (sz bytes:Nat):Prop:=TN P e sz bytes∧0 < bytes
theorem EI.mk {P:Program} {e:TypeId} {sz bytes:Nat} {z:Value} (h:(P.info? e).map (fun i=>(i.zero,i.size,i.bytes))=some (some z,sz,bytes)) (hz:z.cells.size=sz) (h0:0 < sz) (hb:0 < bytes):EI P e sz bytes:=by
 refine⟨?_,hb⟩;cases hi:P.info? e with
 | none=>rw [hi] at h;cases h
 | some i =>
  rw [hi] at h;simp only [Option.map_some,Option.some.injEq,Prod.mk.injEq] at h;obtain ⟨h1,h2,h3⟩:=h;exact⟨i,z,hi,h1,h2,h3,hz,h0⟩
theorem cB.congr {P:Program} {N:Nat} {o:Oper} {E:bO} {H H2 H3:aB} {v:AV} (h:cB P N o E H v H2) (he:∀ j,H3.get j=H2.get j):cB P N o E H v H3:=by intro a w I ι hd hs hr hE K Q hk;refine h a w I ι hd hs hr hE K Q ?_;rintro c w' I' ι' r H' ⟨rfl,rfl⟩ hv hr' hst;obtain ⟨k2,k3⟩:=hr'.congr he;exact hk c w' I' ι' _ _ ⟨rfl,rfl⟩ (hv.mono hr' k3) k2 (hst.trans k3)
theorem rA (H:aB) (id:Nat) (o:Ob):∀ j,aB.get ((id,o)::H) j=(H.set id o).get j:=by
 intro j;by_cases e:j=id
 ·subst e;rw [aB.get_set_same,get_cons_same]
 rw [aB.get_set_other _ _ e,get_cons_other _ _ e]
section
variable {P:Program} {N:Nat} {o:Oper} {E:bO} {H:aB} {T:TypeId} {x y:Operand}
theorem bC {cells:List AV} {id n:Nat} (ho:o.op=.alloc T) (hZ:dN P T cells) (hn:cells.length=n+1) (hid:H.get id=none):cB P N o E H (.ref id 0 0 0) ((id,⟨0,n+1,T,[cells]⟩)::H) :=let ⟨_,_,h1,h2,h3⟩:=hZ;ZY ho h1 h2 h3 hn hid
theorem GO {parts:Array (Nat×Operand)} {places:List (Nat×Nat)} {l0 l:List AV} {aps:List (Nat×AV)} (ho:o.op=.build T parts) (hB:jY P T places l0) (hp:lV E parts.toList=some aps) (hf:wV (fun i=>places[i]?) l0 aps=some l) :
  cB P N o E H (.agg l) H:=by
 obtain ⟨fs,pl,z,v,h1,h2,h3,h4,h5,h6⟩:=hB;refine EK ho h1 h2 h3 h4 h5 hp ?_;have:(fun(i:Nat)=>pl[i]?)=fun(i:Nat)=>places[i]?:=by
  funext i;rw [← h6];simp
 rw [this];exact hf
theorem sJ {parts:Array (Nat×Operand)} {sz:Nat} {l0 l:List AV} {aps:List (Nat×AV)} (ho:o.op=.build T parts) (hB:HL P T sz l0) (hp:lV E parts.toList=some aps) (hf:wV (fun i=>some (i*sz,sz)) l0 aps=some l) :
  cB P N o E H (.agg l) H :=
 let ⟨_,_,_,_,h1,h2,h3,h4,h5⟩:=hB;LD ho h1 h2 h3 h4 h5 hp hf
theorem aS {e sz n:Nat} {parts:Array (Nat×Operand)} {aps:List (Nat×AV)} {rows:List (List AV)} (ps:List (List PV)) (ho:o.op=.buildSlice T n parts) (hS:dZ P T e sz) (hn:Nat.ble (n*sz) 16777216=true) (hp:lV E parts.toList=some aps) (hr:GE 0 aps=some rows)
  (hps:ps.map (·.map AV.pv)=rows) (hlen:ps.length=n) (hrl:∀ r∈ps,r.length=sz):cB P N o E H (.pv (.sl ps)) H :=
 let ⟨h1,h2,h3,_,h4⟩:=hS;IZ ho h1 h2 h4 (aL6 hn) h3 hp hr hps hlen hrl
theorem uB {e sz n id:Nat} {parts:Array (Nat×Operand)} {aps:List (Nat×AV)} {rows:List (List AV)} (ho:o.op=.buildSlice T n parts) (hS:dZ P T e sz) (hn:Nat.ble (n*sz) 16777216=true) (hp:lV E parts.toList=some aps) (hr:GE 0 aps=some rows)
  (hlen:rows.length=n) (hrl:∀ r∈rows,r.length=sz) (hid:H.get id=none):cB P N o E H (.osl id 0 0 n) ((id,⟨0,sz,e,rows⟩)::H) :=
 let ⟨h1,h2,h3,_,h4⟩:=hS;BH ho h1 h2 h4 (aL6 hn) h3 hp hr hlen hrl hid
theorem bT {v:AV} {cells r:List AV} {id g n:Nat} {ob:Ob} (ho:o.op=.store T x y) (hs:∀ w,(sizeOf T).run P w=.ok n w) (hx:aN E x=some (.ref id g 0 0)) (hy:aN E y=some v) (hc:QB v=some cells)
  (hn:cells.length=n) (hH:H.get id=some ob) (hg:ob.g=g) (hi:ob.rows=[r]) (hk:r.length=n):cB P N o E H .any ((id,⟨g,ob.sz,ob.ty,[cells]⟩)::H):=by
 subst hg;refine cB.congr (EJ (r':=cells) ho hx hy hc hs hn hH rfl (by rw [hi];rfl) (by omega) ?_ rfl) (fun j=>?_)
 ·rw [List.take_zero,List.nil_append,List.drop_eq_nil_of_le (by omega),List.append_nil]
 rw [rA];simp [hi]
theorem bA {v:AV} {r r':List AV} {id g i k:Nat} {ob:Ob} {rows':List (List AV)} (ho:o.op=.store T x y) (hs:∀ w,(sizeOf T).run P w=.ok 1 w) (hx:aN E x=some (.ref id g i k)) (hy:aN E y=some v) (hc:QB v=some [v])
  (hH:H.get id=some ob) (hg:ob.g=g) (hi:ob.rows[i]?=some r) (hk:k < r.length) (hr':r.set k v=r') (hrows:ob.rows.set i r'=rows'):cB P N o E H .any ((id,⟨g,ob.sz,ob.ty,rows'⟩)::H):=by
 subst hg hrows;refine cB.congr (EJ (r':=r') ho hx hy hc hs rfl hH rfl hi (by omega) ?_ rfl) (fun j=>rA _ _ _ j);rw [← hr',List.set_eq_take_append_cons_drop,aLS hk];rfl
theorem lG {v:AV} {cells r r':List AV} {id g i k n:Nat} {ob:Ob} {rows':List (List AV)} (ho:o.op=.store T x y) (hs:∀ w,(sizeOf T).run P w=.ok n w) (hx:aN E x=some (.ref id g i k)) (hy:aN E y=some v) (hc:QB v=some cells)
  (hn:cells.length=n) (hH:H.get id=some ob) (hg:ob.g=g) (hi:ob.rows[i]?=some r) (hk:k+n≤r.length) (hr':r.take k++(cells++r.drop (k+n))=r') (hrows:ob.rows.set i r'=rows'):cB P N o E H .any ((id,⟨g,ob.sz,ob.ty,rows'⟩)::H):=by
 subst hg hrows;exact cB.congr (EJ (r':=r') ho hx hy hc hs hn hH rfl hi hk hr' rfl) (fun j=>rA _ _ _ j)
theorem Q7 {n m bytes:Nat} (hb:0 < bytes) (h:(n+m)*bytes≤140737488355328):n+m≤9223372036854775807:=by have:n+m≤(n+m)*bytes:=Nat.le_mul_of_pos_right _ hb;omega
theorem eK {e:TypeId} {id g n m k sz bytes:Nat} {ob:Ob} {ps:List (List PV)} {rows':List (List AV)} (ho:o.op=.call {callee:=.builtin .append,args:=#[x,y],argTypes:=#[T,T]}) (hS:dZ P T e sz) (hinf:EI P e sz bytes)
  (hx:aN E x=some (.osl id g 0 n)) (hH:H.get id=some ob) (hg:ob.g=g) (hosz:ob.sz=sz) (hty:ob.ty=e) (hn:ob.rows.length=n)
  (hy:aN E y=some (.pv (.sl ps))) (hrl:∀ r∈ps,r.length=sz) (hm:ps.length=m) (hbytes:(n+m)*bytes≤140737488355328) (hk:n+m=k) (hrows:ob.rows++ps.map (·.map AV.pv)=rows') :
  cB P N o E H (.osl id (g+1) 0 k) ((id,⟨g+1,sz,e,rows'⟩)::H):=by
 subst hk hrows;exact cB.congr (LF ho hS.1 hinf.1 hx hH hg hosz hty hn hy hrl hm hbytes (Q7 hinf.2 hbytes) rfl) (fun j=>rA _ _ _ j)
theorem FN {e:TypeId} {id sz bytes l c:Nat} {k1 k2:IntKind} {n1 n2:Int} {row:List AV} (ho:o.op=.makeSlice T x y) (hS:dZ P T e sz) (hinf:EI P e sz bytes) (hZ:dN P e row) (hrow:row.length=sz)
  (hx:aN E x=some (.pv (.int k1 n1))) (hy:aN E y=some (.pv (.int k2 n2))) (h1:0≤n1) (h2:n1≤n2) (hl:n1.toNat=l) (hc:n2.toNat=c) (hb:bytes*c≤281474976710656) (hid:H.get id=none) :
  cB P N o E H (.osl id 0 0 l) ((id,⟨0,sz,e,List.replicate l row⟩)::H):=by
 obtain ⟨z,v,z1,z2,z3⟩:=hZ;have hpos:c≤bytes*c:=Nat.le_mul_of_pos_left _ hinf.2;exact K6 ho hS.1 hinf.1 z1 z2 z3 hrow hx hy h1 h2 hl hc hb (by omega) hid
theorem bN {e:TypeId} {rows:List (List PV)} {r:List PV} {kk:IntKind} {n:Int} {m sz:Nat} (ho:o.op=.indexAddr T x y) (hS:dZ P T e sz)
  (hx:aN E x=some (.pv (.sl rows))) (hy:aN E y=some (.pv (.int kk n))) (h0:0≤n) (hm:n.toNat=m) (hi:rows[m]?=some r) (hl:r.length=sz):cB P N o E H (.pad rows m 0) H :=
 K8 ho hS.1 hS.2.1 hx hy h0 hm hi hl
theorem dI {e:TypeId} {kk:IntKind} {n:Int} {m m2 sz id g off len:Nat} {ob:Ob} (ho:o.op=.indexAddr T x y) (hS:dZ P T e sz)
  (hx:aN E x=some (.osl id g off len)) (hH:H.get id=some ob) (hg:ob.g=g) (hsz:ob.sz=sz) (hy:aN E y=some (.pv (.int kk n))) (h0:0≤n) (hm:n.toNat=m) (hi:m < len) (hm2:off+m=m2):cB P N o E H (.ref id g m2 0) H :=
 K9 ho hS.1 hS.2.1 hx hH hg hsz hy h0 hm hi hm2
theorem vF {e:TypeId} {lo hi:Option Operand} {rows rows':List (List PV)} {l h sz:Nat} (ho:o.op=.slice T x lo hi none) (hS:dZ P T e sz) (hx:aN E x=some (.pv (.sl rows)))
  (hrows:∀ r∈rows,r.length=sz) (hlo:bnd E lo 0=some (l:Int)) (hhi:bnd E hi rows.length=some (h:Int)) (h1:l≤h) (h2:h≤rows.length) (hr:(rows.take h).drop l=rows'):cB P N o E H (.pv (.sl rows')) H :=
 O5 ho hS.1 hS.2.1 hx hrows hlo hhi h1 h2 hr
theorem gH {e:TypeId} {lo hi:Option Operand} {id g off len off2 len2 l h sz:Nat} {ob:Ob} (ho:o.op=.slice T x lo hi none) (hS:dZ P T e sz) (hx:aN E x=some (.osl id g off len))
  (hH:H.get id=some ob) (hg:ob.g=g) (hsz:ob.sz=sz) (hlo:bnd E lo 0=some (l:Int)) (hhi:bnd E hi len=some (h:Int)) (h1:l≤h) (h2:h≤len) (ho2:off+l=off2) (hl2:h - l=len2):cB P N o E H (.osl id g off2 len2) H :=
 A0 ho hS.1 hS.2.1 hx hH hg hsz hlo hhi h1 h2 ho2 hl2
end
section
variable {P:Program} {G0:aB} {N:Nat} {E:bO} {H:aB} {ops:Array Oper} {K:bO→aB→Prop} {o:Oper} {rest:List Oper}
theorem aHs {j:Nat} {want b:Bool} {t d:Tmp} {v:AV} {H2:aB} (hg:o.guard=some (j,want)) (hj:gS ops.toList j=some t) (hb:E.get t=some (.pv (.bool b))) (hw:b=want) (hd:o.dst=some d) (hn:Nat.blt d N=true) (h:cB P N o E H v H2)
  (hk:AL P G0 N ops K rest ((d,v)::E) H2):AL P G0 N ops K (o::rest) E H :=
 aJh hg hj hb hw (by rw [hd];exact hn) h fun r H' ⟨e1,e2⟩=>by subst e1 e2;rw [hd];exact hk
theorem ZU {c x y:Operand} {b:Bool} {v:AV} (ho:o.op=.pick c x y) (hc:aN E c=some (.pv (.bool b))) (hb:b=true) (hv:aN E x=some v):cB P N o E H v H:=yM ho hc (by rw [hb];exact hv)
theorem ZW {c x y:Operand} {b:Bool} {v:AV} (ho:o.op=.pick c x y) (hc:aN E c=some (.pv (.bool b))) (hb:b=false) (hv:aN E y=some v):cB P N o E H v H:=yM ho hc (by rw [hb];exact hv)
end
section
variable {P:Program} {G0:aB} {N:Nat} {E:bO} {H:aB} {ops:Array Oper} {K:bO→aB→Prop}
theorem cD.sub {E':bO} (h:∀ k v,E'.get k=some v→E.get k=some v):cD G0 E H E' H:=by intro G hG N a w hs;obtain ⟨I,ι,hr,hst,he⟩:=hs.rel;exact⟨hs.defers,hs.size,I,ι,hr,hst,fun t v ht=>he t v (h t v ht)⟩
theorem aDQ {l:List Oper} {t:Tmp} {b:Bool} (hb:E.get t=some (.pv (.bool b))) (h1:b=true→AL P G0 N ops K l ((t,.pv (.bool true))::E) H) (h2:b=false→AL P G0 N ops K l ((t,.pv (.bool false))::E) H):AL P G0 N ops K l E H:=by
 have key:∀ c,b=c→AL P G0 N ops K l ((t,.pv (.bool c))::E) H→AL P G0 N ops K l E H:=by
  rintro c rfl h G hG a w hs;refine h G hG a w (cD.sub (G0:=G0) (fun k v hk=>?_) G hG N a w hs);by_cases e:t=k
  ·subst e;rw [bO.get_cons_same] at hk;rw [hb,hk]
  rwa [bO.get_cons_other _ _ e] at hk
 cases b
 ·exact key false rfl (h2 rfl)
 exact key true rfl (h1 rfl)
def aJ5 (t:Nat) (D E:bO):Bool:=D.all fun p=>Nat.beq p.1 t||E.all fun q=>!(Nat.beq p.1 q.1)
def N6 (n t:Nat) (X:Bool) (E:bO) (H:aB) (E1:bO) (H1:aB):Prop:=(∃ b,E1.get t=some (.pv (.bool b))∧b=X)∧H1=H∧E1.drop n=E∧aJ5 t (E1.take n) E=true
theorem aFS (D E:bO) (k:Nat):bO.get (D++E) k=match D.get k with|some v=>some v|none=>E.get k:=by
 induction D with
 | nil=>rfl
 | cons x r ih =>
  obtain ⟨i,v⟩:=x;cases e:Nat.beq i k with
  | true=>simp [bO.get,e]
  | false=>simpa [bO.get,e] using ih
theorem N6.ent {n t:Nat} {X:Bool} {E1:bO} {H1:aB} (h:N6 n t X E H E1 H1):cD G0 E1 H1 ((t,.pv (.bool X))::E) H:=by
 obtain ⟨⟨b,h1,rfl⟩,rfl,h2,h3⟩:=h;refine cD.sub fun k v hk=>?_;by_cases e:t=k
 ·subst e;rw [bO.get_cons_same] at hk;rw [h1,hk]
 rw [bO.get_cons_other _ _ e] at hk;have happ:E1.take n++E=E1:=by rw [← h2];exact List.take_append_drop n E1
 rw [← happ,aFS];cases hd:bO.get (E1.take n) k with
 | none=>exact hk
 | some u =>
  have m1:=fA hd;have m2:=fA hk;have h4:=List.all_eq_true.1 h3 _ m1;simp only [jA (Ne.symm e),Bool.false_or] at h4;have:=List.all_eq_true.1 h4 _ m2;simp [kB] at this
theorem oI {id n t:Nat} {d:Bool} {X:Bool} {Q:Exit→bO→aB→Prop} (h:fE P G0 N (.region id ops d) (fun e E1 H1=>e=.normal∧N6 n t X E H E1 H1) E H) (hk:Q .normal ((t,.pv (.bool X))::E) H):fE P G0 N (.region id ops d) Q E H:=by intro G hG a w hs ro hr;refine wpIn_mono (h G hG a w hs ro hr) ?_;rintro e a' w' ⟨E1,H1,⟨rfl,hm⟩,hs'⟩;exact⟨_,_,hk,(hm.ent (G0:=G0)) G hG N a' w' hs'⟩
theorem bD {id n t:Nat} {X:Bool} {Q:Exit→bO→aB→Prop} (h:AL P G0 N ops (fun E1 H1=>N6 n t X E H E1 H1) ops.toList E H) (hk:Q .normal ((t,.pv (.bool X))::E) H):fE P G0 N (.region id ops false) Q E H :=oI (wS (Q:=fun e E1 H1=>e=.normal∧N6 n t X E H E1 H1) (fun G hG a w hs ro hr Q' hq=>h G hG a w hs ro hr Q' (fun E1 H1 a1 w1 hm hs1=>hq E1 H1 a1 w1 ⟨rfl,hm⟩ hs1))) hk
end
section
variable {P:Program} {N:Nat} {ops:List Oper} {o:Oper} {E:bO} {H:aB} {v:AV} {j:Nat} {t:Tmp} {b:Bool} {r:Rec}
theorem aGh (hg:o.guard=some (j,true)) (hj:gS ops j=some t) (hb:E.get t=some (.pv (.bool b))) (hw:b=true) (h:cB P N o (restr E (fF ops o)) H v H):DStep P N ops o E H ⟨v,none,[]⟩:=.qon hg hj hb hw h
theorem aGi (hg:o.guard=some (j,false)) (hj:gS ops j=some t) (hb:E.get t=some (.pv (.bool b))) (hw:b=false) (h:cB P N o (restr E (fF ops o)) H v H):DStep P N ops o E H ⟨v,none,[]⟩:=.qon hg hj hb hw h
theorem aE5 (hg:o.guard=some (j,true)) (hj:gS ops j=some t) (hb:E.get t=some (.pv (.bool b))) (hw:b=false):DStep P N ops o E H ⟨.tup [],some [],[]⟩:=.qoff hg hj hb (by simp [R1,hw])
theorem aE6 (hg:o.guard=some (j,false)) (hj:gS ops j=some t) (hb:E.get t=some (.pv (.bool b))) (hw:b=true):DStep P N ops o E H ⟨.tup [],some [],[]⟩:=.qoff hg hj hb (by simp [R1,hw])
theorem aE4 {want:Bool} (hg:o.guard=some (j,want)) (hj:gS ops j=some t) (hb:E.get t=some (.tup [])):DStep P N ops o E H ⟨.tup [],some [],[]⟩:=.qoff hg hj hb rfl
theorem bP (hg:o.guard=some (j,true)) (hj:gS ops j=some t) (hb:E.get t=some (.pv (.bool b))) (hw:b=true) (h:∀ H1:aB,(∀ id,uO r.R id=true→H1.get id=H.get id)→cB P N o (restr E (fF ops o)) H1 r.v (r.W++H1)):DStep P N ops o E H r:=.on j true t b hg hj hb hw h
end
theorem aH.pure {P:Program} {f:FuncId} {args:List AV} {r0:AV} (h:aH P f args [] (fun r H=>r=r0∧H=[])) (hp:∀ a∈args,Clo [] a) (H:aB):aH P f args H (fun r H'=>r=r0∧H'=H) :=(h.frame0 hp (fun _ _ hq=>hq.2) H).mono fun _ _ ⟨⟨h1,_⟩,h2⟩=>⟨h1,h2⟩
def B2 (P:Program) (id g:Nat) (args:List AV) (H:aB) (Q:AV→aB→Prop):Prop :=∀ (I:Nat→Prop) (ι:dR) (w:World) (vs:Array Value) (v:Value),Rel I ι H w→VRel w I ι H v (.yld id g)→vs.size=args.length→(∀ (i:Nat) (v:Value) (a:AV),vs[i]?=some v→args[i]?=some a→VRel w I ι H v a) →
  ∃ l f tmps assign body,v=.func (.yield l) #[] #[]∧(Instr.yield l vs).run P w=.ok (.round l f tmps assign body) w ∧
   RoundIn Fence.wide 0 P l f tmps assign body w fun e w'=>∃ r H' I' ι' v',e=.returned v'∧Q r H'∧VRel w' I' ι' H' v' r∧Rel I' ι' H' w'∧Step I ι H w I' ι' H' w'
def cC (P:Program) (fv:AV) (args:List AV) (H:aB) (Q:AV→aB→Prop):Prop :=(∃ id g,fv=.yld id g∧B2 P id g args H Q)∨∃ F caps,(fv=.clo F caps∨(fv=.pv (.fn F)∧caps=[]))∧(∀ (args:Array Value) (w:World),(callFunc F args).run P w=.ok (.enter F args) w)∧aH P F (args++caps) H Q
theorem cC.clo {P:Program} {F:FuncId} {caps args:List AV} {H:aB} {Q:AV→aB→Prop} (hc:∀ (args:Array Value) (w:World),(callFunc F args).run P w=.ok (.enter F args) w) (h:aH P F (args++caps) H Q):cC P (.clo F caps) args H Q:=.inr ⟨F,caps,.inl rfl,hc,h⟩
theorem cC.fn {P:Program} {F:FuncId} {args:List AV} {H:aB} {Q:AV→aB→Prop} (hc:∀ (args:Array Value) (w:World),(callFunc F args).run P w=.ok (.enter F args) w) (h:aH P F args H Q):cC P (.pv (.fn F)) args H Q:=.inr ⟨F,[],.inr ⟨rfl,rfl⟩,hc,by simpa using h⟩
theorem O2 {P:Program} {N:Nat} {o:Oper} {E:bO} {H:aB} {Q:AV→aB→Prop} {f:Operand} {args:Array Operand} {at_:Array TypeId} {vs:List AV} {id g:Nat} (ho:o.op=.call {callee:=.value f,args:=args,argTypes:=at_}) (hf:aN E f=some (.yld id g))
  (hv:sX E args.toList=some vs) (h:B2 P id g vs H Q):WT P N o E H Q:=by
 intro a w I ι _ _ hr he K Q' hk;have hfr:=aI he hf;obtain ⟨l1,l2⟩:=lC he (jV hv);obtain ⟨l,fn,tmps,assign,body,e1,e2,e3⟩:=h I ι w (args.map a.eval) _ hr hfr (by simpa using l1) (fun i v b hv hb=>l2 i v b (by simpa using hv) hb);unfold Oper.wpW execOp;simp only [ho,resolve,e1,Deferred.ofValue,Sem.run_bind,Sem.run_pure,Result.andThen_ok,invoke,Array.empty_append,e2];refine e3.mono ?_;rintro e w' ⟨r,H',I',ι',v',rfl,q,k1,k2,k3⟩;exact hk v' w' I' ι' r H' q k1 k2 k3
theorem bY {P:Program} {N:Nat} {o:Oper} {E:bO} {H:aB} {Q:AV→aB→Prop} {f:Operand} {args:Array Operand} {at_:Array TypeId} {vs:List AV} {fv:AV} (ho:o.op=.call {callee:=.value f,args:=args,argTypes:=at_}) (hf:aN E f=some fv)
  (hv:sX E args.toList=some vs) (h:cC P fv vs H Q):WT P N o E H Q:=by
 rcases h with⟨id,g,rfl,h⟩|⟨F,caps,hfv,hc,hcall⟩
 ·exact O2 ho hf hv h
 rcases hfv with rfl|⟨rfl,rfl⟩
 ·exact O4 ho hf hc hv hcall
 exact aA ho hf hc hv (by simpa using hcall)
def aD5 (E:bO):bO→Prop
 | []=>True
 | (t,v)::r=>(∃ v0,E.get t=some v0∧v0=v)∧aD5 E r
theorem cD.e0 {G0:aB} {E E':bO} {H:aB} (h:aD5 E E'):cD G0 E H E' H:=by
 refine cD.env ?_
 induction E' with
 | nil=>simp
 | cons x r ih =>
  obtain ⟨t,v⟩:=x;obtain ⟨⟨v0,h1,rfl⟩,h2⟩:=h;intro p hp;rcases aL5.1 hp with e|e
  ·subst e;exact h1
  exact ih h2 p e
theorem Fin.refl {G0 H:aB} {r:AV}:Fin G0 H r H r:=fun _ _ I ι _ _ h1 h2 h3=>⟨I,ι,h1,h2,h3⟩
def aH6:AV→Option Value
 | .pv (.int k n)=>some (.int k n)
 | .pv (.bool b)=>some (.bool b)
 | .pv (.str s)=>some (.string s)
 | _=>none
def DB:List AV→Option (List Value)
 | []=>some []
 | a::r=>match aH6 a,DB r with
  | some v,some vs=>some (v::vs)
  | _,_=>none
theorem aFL {w:World} {I:Nat→Prop} {ι:dR} {H:aB} {c v:Value} {a:AV} (h:VRel w I ι H c a) (hf:aH6 a=some v):c=v:=by
 unfold aH6 at hf
 split at hf<;>cases hf
 ·exact h.int_inv
 ·exact h.bool_inv
 exact h.str_inv
theorem DA {w:World} {I:Nat→Prop} {ι:dR} {H:aB} {c:Value} {l:List AV} {vs:List Value} (h:VRel w I ι H c (.agg l)) (hf:DB l=some vs):c=.agg vs.toArray:=by
 cases h with
 | @agg us _ hl h1 h2 =>
  congr 1;have key:∀ (l:List AV) (vs us:List Value),us.length=l.length→(∀ (i:Nat) (v:Value) (a:AV),us[i]?=some v→l[i]?=some a→VRel w I ι H v a)→DB l=some vs→us=vs:=by
   intro l
   induction l with
   | nil=>intro vs us h1 _ h3;simp [DB] at h3;subst h3;exact List.eq_nil_of_length_eq_zero h1
   | cons a r ih =>
    intro vs us h1 h2 h3;unfold DB at h3
    split at h3
    ·rename_i v vs' e1 e2;cases h3;cases us with
     | nil=>simp at h1
     | cons u us =>
      have hu:u=v:=aFL (h2 0 u a rfl rfl) e1;rw [hu,ih vs' us (by simpa using h1) (fun i v a hv ha=>h2 (i+1) v a (by simpa using hv) (by simpa using ha)) e2]
    cases h3
  have:=key l vs us.toList (by simpa using hl) (fun i v a hv ha=>h2 i v a (by simpa using hv) ha) hf;rw [← this]
section
variable {P:Program} {N:Nat} {o:Oper} {E:bO} {H:aB} {T t':TypeId} {x y:Operand} {l1 l2:List AV} {xs ys:List Value} {b:Bool}
theorem yR (ho:o.op=.binOp .eql T x y t') (hx:aN E x=some (.agg l1)) (hy:aN E y=some (.agg l2)) (h1:DB l1=some xs) (h2:DB l2=some ys) (hG:P.eqGuardType P.depth T=false)
  (hE:∀ w,(Op.equalIn 10000 T (.agg xs.toArray) (.agg ys.toArray)).run P w=.ok b w):cB P N o E H (.pv (.bool b)) H :=
 .of_run fun a w I ι _ he=>⟨.bool b,by
  have e1:=DA (aI he hx) h1;have e2:=DA (aI he hy) h2;simp only [execOp,ho,e1,e2,Sem.run_bind,run_eqGuard_agg w _ _ _ _ _ _ hG,Result.andThen_ok,run_eql_struct w,hE,Sem.run_pure],.pv (.bool _)⟩
theorem yQ (ho:o.op=.binOp .neq T x y t') (hx:aN E x=some (.agg l1)) (hy:aN E y=some (.agg l2)) (h1:DB l1=some xs) (h2:DB l2=some ys) (hG:P.eqGuardType P.depth T=false)
  (hE:∀ w,(Op.equalIn 10000 T (.agg xs.toArray) (.agg ys.toArray)).run P w=.ok b w):cB P N o E H (.pv (.bool (!b))) H :=
 .of_run fun a w I ι _ he=>⟨.bool (!b),by
  have e1:=DA (aI he hx) h1;have e2:=DA (aI he hy) h2;simp only [execOp,ho,e1,e2,Sem.run_bind,run_eqGuard_agg w _ _ _ _ _ _ hG,Result.andThen_ok,run_neq_struct w,hE,Sem.run_pure],.pv (.bool _)⟩
end
theorem pO {n:Int} (h0 : -9223372036854775808≤n) (h1:n≤9223372036854775807):IntKind.i64.wrap n=n:=by rw [IntKind.wrap_i64];omega
theorem wu8 {n:Int} (h0:0≤n) (h1:n≤255):IntKind.u8.wrap n=n:=by simp only [IntKind.wrap,IntKind.bits,IntKind.signed];simp;omega
end
abbrev iv (n:Int):AV:=.pv (.int .i64 n)
abbrev bv (b:Bool):AV:=.pv (.bool b)
abbrev sv (s:ByteArray):AV:=.pv (.str s)
abbrev lv (l:List (List PV)):AV:=.pv (.sl l)
abbrev av (l:List PV):AV:=.agg (l.map .pv)
abbrev bx (n T:Nat) (r:List AV):Ob:=⟨0,n,T,[r]⟩
theorem cZ.of {H:aB} (h:∀ p∈H,∀ r∈p.2.rows,∀ a∈r,Clo H a):cZ H:=fun _ _ ho=>h _ (cR ho)
theorem Sub.app {D H:aB} (hD:∀ p∈D,H.get p.1=none):Sub H (D++H):=fun id o ho=>by
 rw [AH];cases e:D.get id with
 | none=>exact ho
 | some o'=>exact absurd (hD _ (cR e)) (by rw [ho];simp)
def DC (P:Program) (N:Nat) (ops rest:List Oper) (E:bO) (H:aB) (K:List Rec→bO→aB→Prop):Prop:=∃ rs E' H',DChain P N ops rest E H rs E' H'∧K rs E' H'
theorem bJ {P:Program} {N:Nat} {ops:List Oper} {E:bO} {H:aB} {K:List Rec→bO→aB→Prop} (h:K [] E H):DC P N ops [] E H K:=⟨_,_,_,.nil,h⟩
theorem aX {P:Program} {N:Nat} {ops rest:List Oper} {o:Oper} {E:bO} {H:aB} {K:List Rec→bO→aB→Prop} {r:Rec} (h:DStep P N ops o E H r) (hd:gM N o.dst=true)
  (hk:DC P N ops rest (iI E o.dst r.v) (r.W++H) (fun rs E' H'=>K (r::rs) E' H')):DC P N ops (o::rest) E H K:=by
 obtain ⟨rs,E',H',h1,h2⟩:=hk;exact⟨_,_,_,.cons h hd h1,h2⟩
theorem aQ {P:Program} {G0:aB} {N id:Nat} {Q:Exit→bO→aB→Prop} {ops:Array Oper} {E:bO} {H:aB} (hm:P.follows .mixedOrders=true)
  (h:DC P N ops.toList ops.toList E H (fun rs E' H'=>EM ops.toList rs=true∧Q .normal E' H')):fE P G0 N (.region id ops true) Q E H:=by
 obtain ⟨rs,E',H',h1,h2,h3⟩:=h;exact aDG hm h1 h2 h3
end Go.Abs
