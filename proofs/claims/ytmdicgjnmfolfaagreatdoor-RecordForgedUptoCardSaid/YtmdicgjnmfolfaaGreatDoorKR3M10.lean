/-
  Parts of the proof: rules of an abstract program logic, contracts of functions, plain laws. Conditions: each theorem's own.
-/
import Derived.Test.YtmdicgjnmfolfaaGreatDoorKR3M9
import Derived.RecoverIn
set_option linter.unusedVariables false
set_option linter.unusedSimpArgs false
set_option maxRecDepth 100000
set_option maxHeartbeats 8000000
namespace Go.Proofs
open Tryz
theorem aPH:type_of% call10:=call10
theorem lF:type_of% call47:=call47
theorem hY:type_of% call48:=call48
theorem A9:type_of% call49:=call49
theorem TS:type_of% call80:=call80
theorem eB:type_of% isAgg82:=isAgg82
theorem xA:type_of% underlying81:=underlying81
theorem aGG:type_of% zeroValue81:=zeroValue81
end Go.Proofs
namespace Go.Abs
variable{E':dB}{H':aH}{id:Nat}{ops:Array Oper}
section
def kP(o o':Ob):Prop:=o'.g=o.g/\o'.sz=o.sz/\o'.ty=o.ty/\o'.rows.map List.length=o.rows.map List.length
theorem kP.rfl{o}:kP o o:=⟨_root_.rfl,_root_.rfl,_root_.rfl,_root_.rfl⟩
def Shp(ids:List Nat)(H H1:aH):Prop:=∀id∈ids,∀o,H.get id=some o->∃o',H1.get id=some o'/\kP o o'
def aAg:List Nat->List Nat->Bool
 | [],[]=>true
 |a::r,b::q=>Nat.beq a b&&aAg r q
 |_,_=>false
theorem VP:∀ {a b},aAg a b=true->a=b
 | [],[],_=>rfl
 |a::r,b::q,h=>by
  rw[aAg,aP3]at h;rw[Nat.eq_of_beq_eq_true h.1,VP h.2]
 | [],_::_,h=>by cases h
 |_::_,[],h=>by cases h
def aMI(o o':Ob):Bool:=Nat.beq o'.g o.g&&(Nat.beq o'.sz o.sz&&(Nat.beq o'.ty o.ty&&aAg (o'.rows.map List.length) (o.rows.map List.length)))
def aJw(ids:List Nat)(H:aH)(rs:List Rec):Bool:=rs.all fun r=>ids.all fun id=>match r.W.get id with
 |none=>true
 |some o'=>match H.get id with
  |none=>true
  |some o=>aMI o o'
theorem aBb{b}{H}{e}(h:aJw b H e=true):∀r∈e,∀id∈b,∀o',r.W.get id=some o'->∀o,H.get id=some o->kP o o':=by intro r f id d o' c o g;have a:=List.all_eq_true.1 (List.all_eq_true.1 h r f) _ d;simp only[c,g,aMI,aP3]at a;exact⟨Nat.eq_of_beq_eq_true a.1,Nat.eq_of_beq_eq_true a.2.1,Nat.eq_of_beq_eq_true a.2.2.1,VP a.2.2.2⟩
theorem RS{H}{l}{S}{id}{o}(b:H.get id=some o)(h:∀y∈l,∀o',y.r.W.get id=some o'->kP o o'):∀n,∃o',xN H l S n id=some o'/\kP o o'
 |0=>⟨o,b,.rfl⟩
 | n+1=>by
  rw[xN];cases e:l[n]? with
  |none=>exact RS b h n
  | some y =>
   simp
   split
   ·next c =>
    obtain ⟨o',ho'⟩:=Option.isSome_iff_exists.1 c.2
    grind
   exact RS b h n
def aEs(ks:List Nat)(rs:List Rec):Bool:=rs.all fun r=>ks.all fun id=>match r.W.get id with
 |none=>true
 |some _=>false
theorem Y6{ks}{c}(h:aEs ks c=true):∀id∈ks,∀r∈c,r.W.get id=none:=by
 intro id a r d;have b:=List.all_eq_true.1 (List.all_eq_true.1 h r d) _ a;cases e:r.W.get _ with
 |none=>rfl
 |some o=>rw[e]at b;cases b
theorem LD{H}{l}{S}{id}(h:∀y∈l,y.r.W.get id=none):∀n,xN H l S n id=H.get id
 |0=>rfl
 | n+1=>by
  rw[xN];cases e:l[n]? with
  |none=>exact LD h n
  |some y =>
   simp;rw[aPS (fun hc=>by grind)];exact LD h n
def aEt(ts:List Nat)(ops:Array Oper):Bool:=ops.toList.all fun o=>match o.dst with
 |none=>true
 |some d=>!JP ts d
theorem Y7{a}{ops}(h:aEt a ops=true):∀t∈a,∀o∈ops.toList,o.dst≠some t:=by intro t d o b c;have:=List.all_eq_true.1 h o b;rw[c]at this;simp[aPd]at this;rw[FX.2 d]at this;cases this
theorem LF{E}{l:List Ent2}{S}{t:Nat}(h:∀y∈l,y.o.dst≠some t):∀n,zC E l S n t=E.get t
 |0=>rfl
 | n+1=>by
  rw[zC];cases e:l[n]? with
  |none=>exact LF h n
  |some y =>
   simp;rw[aPS (fun b=>h y (aP4 e) b.2)];exact LF h n
theorem BA.restr{P}{N}{o}{E c}{H1}{l}{R}{PP}(h:BA P N o (restr E l) H1 R PP)(j:∀t,t∈l->c.get t=E.get t):BA P N o c H1 R PP:=by intro a w I ι i f g K Q e b;refine h a w I _ i f (fun t v d=>?_) K Q e b;have b:=PJ _ (gL d);exact g t v ((j t b.2).trans b.1)
inductive DStepP(P:Program)(N:Nat)(ops:List Oper)(PP:XF->aH->aH->Prop)(o:Oper)(E:dB)(H:aH)(r:Rec)(F:Prop):Prop
 |old (hF:F) (h:DStep P N ops o E H r)
 |pan (hg:o.guard=none) (h:∀H1:aH,(∀id,zP r.R id=true->H1.get id=H.get id)->BA P N o (restr E (gT ops o)) H1 (fun v H'=>v=r.v/\H'=r.W++H1/\F) (fun ch H'=>PP ch H1 H'))
def TY:List Prop->Prop
 | []=>True
 |F::r=>F/\TY r
theorem TN:∀ {l},(∀(k:Nat) (F),l[k]?=some F->F)->TY l
 | [],_=>trivial
 |F::r,h=>⟨h 0 F rfl,TN fun k G a=>h (k+1) G a⟩
inductive DChainP(P:Program)(N:Nat)(ops:List Oper)(PP:XF->aH->aH->Prop):List Oper->dB->aH->List Rec->List Prop->dB->aH->Prop
 |nil {E:dB} {H:aH}:DChainP P N ops PP [] E H [] [] E H
 | cons {o:Oper} {rest:List Oper} {E E':dB} {H H':aH} {r:Rec} {rs:List Rec} {F:Prop} {Fs:List Prop} (h:DStepP P N ops PP o E H r F) (hd:iN N o.dst=true) (hr:DChainP P N ops PP rest (kM E o.dst r.v) (r.W++H) rs Fs E' H') :
   DChainP P N ops PP (o::rest) E H (r::rs) (F::Fs) E' H'
section
variable{P:Program}{N:Nat}{ops:List Oper}{PP:XF->aH->aH->Prop}{E:dB}{H:aH}
theorem DChainP.spec{rest:List Oper}{a:List Rec}{g:List Prop}(h:DChainP P N ops PP rest E H a g E' H'):(a.length=rest.length/\g.length=rest.length) /\
  (∀k x,(List.zipWith Ent2.mk rest a)[k]?=some x->iN N x.o.dst=true/\∃F,g[k]?=some F/\∃i c,(∀t,i.get t=zC E (List.zipWith Ent2.mk rest a) (fun _=>true) k t)/\(∀id,c.get id=xN H (List.zipWith Ent2.mk rest a) (fun _=>true) k id)/\DStepP P N ops PP x.o i c x.r F) /\
  (∀t,E'.get t=zC E (List.zipWith Ent2.mk rest a) (fun _=>true) rest.length t)/\(∀id,H'.get id=xN H (List.zipWith Ent2.mk rest a) (fun _=>true) rest.length id):=by
 induction h with
 |nil=>exact⟨⟨rfl,rfl⟩,by simp,fun t=>rfl,fun id=>rfl⟩
 | @cons o rest E E' H H' r a F g u w hr b =>
  obtain ⟨⟨v,m⟩,z,h3,h4⟩:=b;have j:∀(l:List Ent2) k t,zC (kM E o.dst r.v) l (fun _=>true) k t=zC E (⟨o,r⟩::l) (fun _=>true) (k+1) t:=by
   intro l k t
   induction k with
   | zero =>
    simp only[zC,List.getElem?_cons_zero];cases hdst:o.dst with
    |none=>rfl
    |some d =>
     simp only[kM];by_cases e:d=t
     ·subst e;simp[dB.get_cons_same]
     rw[dB.get_cons_other _ _ e];simp[e]
   |succ k b =>
    rw[zC,zC];simp only[List.getElem?_cons_succ];cases l[k]? with
    |none=>exact b
    |some x=>simp only[b]
  have p:∀(l:List Ent2) k id,xN (r.W++H) l (fun _=>true) k id=xN H (⟨o,r⟩::l) (fun _=>true) (k+1) id:=by
   intro l k id
   induction k with
   |zero =>
    simp only[xN,List.getElem?_cons_zero,C0];cases hw:r.W.get id<;>simp
   |succ k b =>
    rw[xN,xN];simp only[List.getElem?_cons_succ];cases l[k]? with
    |none=>exact b
    |some x=>simp only[b]
  refine⟨⟨by simp[v],by simp[m]⟩,?_,?_,?_⟩
  ·intro k x f;cases k with
   |zero =>
    simp at f;subst f;exact⟨w,F,rfl,E,H,fun t=>rfl,fun id=>rfl,u⟩
   |succ k =>
    simp at f;obtain ⟨B,q,n,i,c,A,s,y⟩:=z k x (by simpa using f);exact⟨B,q,n,i,c,fun t=>(A t).trans (j _ k t),fun id=>(s id).trans (p _ k id),y⟩
  all_goals simp_all
end
theorem aCh{PP:XF->aH->aH->Prop}{P:Program}{G0:aH}{N:Nat}{Q:Exit->dB->aH->Prop}{E:dB}{H:aH}{rs:List Rec}(hm:P.follows .mixedOrders=true){Fs:List Prop}(hc:DChainP P N ops.toList PP ops.toList E H rs Fs E' H')(hok:HJ ops.toList rs=true)(ids ks:List Nat)(hW:aJw ids H rs=true)(hKs:aEs ks rs=true)(ts:List Nat)(hT:aEt ts ops=true)(hP:∀ch X H1 H2,(∀t∈ts,X.get t=E.get t)->Shp ids H H1->(∀id∈ks,H1.get id=H.get id)->PP ch H1 H2->Q (.panic ch) X H2)
  (hK:TY Fs->Q .normal E' H'):gR P G0 N (.region id ops true) Q E H:=by
 intro G hG a w hs ro hro;have hnd0:ro=none\/ops.toList.all Oper.noDefer=true:=hro;refine wpIn_region_any hm ?_;obtain ⟨⟨hlen,hlenF⟩,hst,hE',hH'⟩:=hc.spec;obtain ⟨l,hl⟩:∃l,l=List.zipWith Ent2.mk ops.toList rs:=⟨_,rfl⟩;rw[<-hl]at hst hE' hH';simp only[HJ,aP3,<-hl]at hok;obtain ⟨hok1,hok2⟩:=hok;have hll:l.length=ops.size:=by simp_all
 have hlo:∀(i:Nat) (x:Ent2),l[i]?=some x->ops.toList[i]?=some x.o:=by
  grind
 have hedge:=FQ ops.toList 0 hok1;have hbef:∀(i j:Nat) (x y:Ent2),i<j->l[i]?=some x->l[j]?=some y->kI ops.toList x y=true->Pre ops.toList i j:=fun i j x y hij hx Y hcl =>
  Q7 ops.toList [] [] rfl rfl (by simp) j i (FO l [] hok2 i j hij (aPb _) x y hx Y hcl)
 have main:∀(L:Nat) (f:Array Bool) (a:Act) (w:World) (X:dB) (H1:aH),f.size=ops.size->((List.range ops.size).filter fun i=>!f.getD i true).length<=L ->
   aCv ops.toList (fun i=>f.getD i false)->(∀k,f.getD k false=true->∀F,Fs[k]?=some F->F)->St G N X H1 a w->(∀t,X.get t=zC E l (fun i=>f.getD i false) ops.size t)->(∀j,H1.get j=xN H l (fun i=>f.getD i false) ops.size j) ->
   wpAnyIn (RF ro) 0 P .any ops (fun e a w=>∃E H,Q e E H/\St G N E H a w) L f a w:=by
  intro L
  induction L with
  | zero =>
   intro f a w X H1 hsz hcnt M hfac p hE1 hH1;have J:∀i,i<ops.size->f.getD i false=true:=by
    intro i hi;have hnil:=List.eq_nil_of_length_eq_zero (Nat.le_zero.1 hcnt);have:=List.filter_eq_nil_iff.1 hnil i (List.mem_range.2 hi);have R:i<f.size:=by omega
    simp[Array.getD,R]at this |-;exact this
   refine⟨?_,E',H',hK (TN fun k F hF=>hfac k (J k (by have:=(aPY.1 hF).1;rw[hlenF]at this;simpa using this)) F hF),?_⟩
   ·unfold Region.ready;refine List.filter_eq_nil_iff.2 fun i hi=>?_;have:=J i (List.mem_range.1 hi);have R:i<f.size:=by have:=List.mem_range.1 hi;omega
    simp[Array.getD,R]at this;simp[Array.getD,R,this]
   refine dA.get (G0:=G0) (fun t=>?_) (fun j=>?_) G hG N a w p
   ·rw[hE' t,hE1 t,Array.length_toList];exact(pM (E:=E) ops.size ops.size (aP0 _) (fun j x q _=>⟨fun z=>J j z,fun h1 h2=>by omega⟩)).symm
   rw[hH' j,hH1 j,Array.length_toList];exact(pL (H:=H) ops.size ops.size (aP0 _) (fun i x hi _=>⟨fun z=>J i z,fun h1 h2=>by omega⟩)).symm
  | succ L ih =>
   intro f a w X H1 hsz hcnt M hfac p hE1 hH1;refine⟨fun hnil=>?_,fun i hi=>?_⟩
   ·-- nothing is left
    have J:∀i,i<ops.size->f.getD i false=true:=by
     intro i
     induction i using Nat.strongRecOn with
     | _ i ihi =>
      intro hi;refine Classical.byContradiction fun hno=>?_;have R:i<f.size:=by omega
      have hno':f.getD i true=false:=by
       simp[Array.getD,R]at hno |-;exact hno
      have z:i<ops.toList.length:=by simpa using hi
      have hr:i∈Region.ready .any ops f:=by
       unfold Region.ready;refine List.mem_filter.2 ⟨List.mem_range.2 hi,?_⟩;have ho:ops[i]?=some ops[i]:=Array.getElem?_eq_getElem hi;simp only[hno',Bool.not_false,Bool.true_and,ho,Option.map_some,Option.getD_some];rw[Array.all_eq_true'];intro e he;cases hb:Region.binds .any e with
       |false=>simp
       |true =>
        have hon:=hedge i ops[i] (by simp[ho]) e (by simpa using he) hb;simp only[Bool.not_true,Bool.false_or];exact ihi e.on (by omega) (by omega)
      rw[hnil]at hr;cases hr
    refine⟨E',H',hK (TN fun k F hF=>hfac k (J k (by have:=(aPY.1 hF).1;rw[hlenF]at this;simpa using this)) F hF),?_⟩;refine dA.get (G0:=G0) (fun t=>?_) (fun j=>?_) G hG N a w p
    ·rw[hE' t,hE1 t,Array.length_toList];exact(pM (E:=E) ops.size ops.size (aP0 _) (fun j x q _=>⟨fun z=>J j z,fun h1 h2=>by omega⟩)).symm
    rw[hH' j,hH1 j,Array.length_toList];exact(pL (H:=H) ops.size ops.size (aP0 _) (fun i x hi _=>⟨fun z=>J i z,fun h1 h2=>by omega⟩)).symm
   have hi1:=List.mem_filter.1 hi;have hilt:i<ops.size:=List.mem_range.1 hi1.1;have R:i<f.size:=by omega
   have ho:ops[i]?=some ops[i]:=Array.getElem?_eq_getElem hilt;have hi2:=hi1.2;simp only[ho,Option.map_some,Option.getD_some,aP3]at hi2;obtain ⟨hnl,hpreds⟩:=hi2;have hnl':f.getD i false=false:=by
    simp[Array.getD,R]at hnl |-;exact hnl
   have hpre:∀e∈(ops[i]).after.toList,Region.binds .any e=true->f.getD e.on false=true:=by
    intro e he hb;have:=(Array.all_eq_true'.1 hpreds) e (by simpa using he)
    simpa[hb]using this
   have hil:i<l.length:=by omega
   obtain ⟨x,hx⟩:∃x,l[i]?=some x:=⟨_,aPZ hil⟩;have hxo:x.o=ops[i]:=by
    have:=hlo i x hx;simp[ho]at this;exact this.symm
   obtain ⟨W,F,hFi,Ek,Hk,hEk,hHk,hdst⟩:=hst i x hx;have A:∀(j:Nat) (y:Ent2),j<i->l[j]?=some y->kI ops.toList y x=true->f.getD j false=true:=by
    intro j y q Y hcl;exact hbef j i y x q Y hx hcl _ M ops[i] (by simp[ho]) hpre
   have C:∀(j:Nat) (y:Ent2),i<j->l[j]?=some y->kI ops.toList x y=true->f.getD j false=false:=by
    intro j y q Y hcl;cases hjl:f.getD j false with
    |false=>rfl
    |true =>
     have hjlt:j<l.length:=(aPY.1 Y).1;have hjo:ops.toList[j]?=some y.o:=hlo j y Y;have:=hbef i j x y q hx Y hcl _ M y.o hjo (fun e he hb=>M j y.o hjo hjl e he hb);rw[hnl']at this;cases this
   have agreeE:∀t,(∀(j:Nat) (y:Ent2),l[j]?=some y->y.o.dst=some t->(j<i->kI ops.toList y x=true)/\(i<j->kI ops.toList x y=true))->X.get t=Ek.get t:=by
    intro t ht;rw[hE1 t,hEk t];refine pM (E:=E) ops.size i (by omega) (fun j y q K=>⟨fun z=>A j y z q ((ht j y q K).1 z),fun h1 h2=>?_⟩);by_cases e:j=i
    ·subst e;exact hnl'
    exact C j y (by omega) q ((ht j y q K).2 (by omega))
   have agreeH:∀k,(∀(j:Nat) (y:Ent2),l[j]?=some y->(y.r.W.get k).isSome=true->(j<i->kI ops.toList y x=true)/\(i<j->kI ops.toList x y=true))->H1.get k=Hk.get k:=by
    intro k U;rw[hH1 k,hHk k];refine pL (H:=H) ops.size i (by omega) (fun j y q K=>⟨fun z=>A j y z q ((U j y q K).1 z),fun h1 h2=>?_⟩);by_cases e:j=i
    ·subst e;exact hnl'
    exact C j y (by omega) q ((U j y q K).2 (by omega))
   have u:∀t,t∈gT ops.toList x.o->X.get t=Ek.get t:=fun t ht =>
    agreeE t fun j y q K=>⟨fun _=>AZ K ht,fun _=>AY K ht⟩
   have T:∀k,zP x.r.R k=true->H1.get k=Hk.get k:=fun k U =>
    agreeH k fun j y q K=>⟨fun _=>Q4 K U,fun _=>Q5 K U⟩
   have s:∀j,(f.setIfInBounds i true).getD j false=if j=i then true else f.getD j false:=by
    intro j;by_cases e:j=i
    ·subst e;simp[Array.getD,R]
    simp only[Array.getD_eq_getD_getElem?,Array.getElem?_setIfInBounds_ne (Ne.symm e),e,if_false]
   have hdown':aCv ops.toList (fun j=>(f.setIfInBounds i true).getD j false):=by
    intro j o q hjl e he hb;simp only[s]at hjl |-;by_cases ej:j=i
    ·subst ej;have:o=ops[j]:=by simp[ho]at q;exact q.symm
     subst this;have:=hpre e he hb;simp[this]
    simp only[ej,if_false]at hjl;have:=M j o q hjl e he hb;simp only at this;simp[this]
   have hcnt':((List.range ops.size).filter fun j=>!(f.setIfInBounds i true).getD j true).length<=L:=by
    have hlist':∀j,(f.setIfInBounds i true).getD j true=if j=i then true else f.getD j true:=by
     intro j;by_cases e:j=i
     ·subst e;simp[Array.getD,R]
     simp only[Array.getD_eq_getD_getElem?,Array.getElem?_setIfInBounds_ne (Ne.symm e),e,if_false]
    have h1:((List.range ops.size).filter fun j=>!(f.setIfInBounds i true).getD j true)=((List.range ops.size).filter fun j=>!f.getD j true).filter fun j=>j != i:=by
     rw[List.filter_filter];refine List.filter_congr fun j _=>?_;rw[hlist'];by_cases e:j=i<;>simp[e]
    rw[h1];have h2:=List.length_filter_lt_length_iff_exists (p:=fun j=>j != i) (l:=(List.range ops.size).filter fun j=>!f.getD j true) |>.2 ⟨i,List.mem_filter.2 ⟨hi1.1,by simpa using hnl⟩,by simp⟩;omega
   have O:∀(r:AV) (a':Act) (w':World),F->r=x.r.v->St G N (kM X x.o.dst x.r.v) (x.r.W++H1) a' w'->wpAnyIn (RF ro) 0 P .any ops (fun e a w=>∃E H,Q e E H/\St G N E H a w) L (f.setIfInBounds i true) a' w':=by
    intro r a' w' hFx _ hst';refine ih _ a' w' _ _ (by simp[hsz]) hcnt' hdown' (fun k U F' hF'=>?_) hst' (fun t=>?_) (fun k=>?_)
    ·rw[s]at U;by_cases e:k=i
     ·subst e;rw[hFi]at hF';cases hF';exact hFx
     rw[aPS e]at U;exact hfac k U F' hF'
    ·-- slots
     by_cases K:x.o.dst=some t
     ·have e1:dB.get (kM X x.o.dst x.r.v) t=some x.r.v:=by rw[K];simp[kM,dB.get_cons_same]
      rw[e1];have e2:=pM (E:=E) (l:=l) (S:=fun j=>(f.setIfInBounds i true).getD j false) (t:=t) ops.size (i+1) (by omega) (fun j y q hyd=>⟨fun z=>?_,fun h1 h2=>?_⟩)
      ·rw[e2,zC,hx];simp[K]
      ·simp only[s];by_cases ej:j=i
       ·simp[ej]
       simp only[ej,if_false];exact A j y (by omega) q (rV hyd K)
      simp only[s];rw[aPS (by omega)];exact C j y (by omega) q (rV K hyd)
     have e1:dB.get (kM X x.o.dst x.r.v) t=X.get t:=by
      cases hdd:x.o.dst with
      |none=>rfl
      |some d=>exact dB.get_cons_other _ _ (fun e=>K (by rw[hdd,e]))
     rw [e1,hE1 t];have:∀ n,zC E l (fun i=>f.getD i false) n t=zC E l (fun j=>(f.setIfInBounds i true).getD j false) n t:=by
      intro n
      induction n with
      |zero=>rfl
      | succ n D =>
       rw[zC,zC];cases hn:l[n]? with
       |none=>exact D
       |some y =>
        simp only;by_cases en:n=i
        ·subst en;rw[hx]at hn;cases hn;rw[aPS (fun h=>K h.2),aPS (fun h=>K h.2)];exact D
        have hS:(f.setIfInBounds i true).getD n false=f.getD n false:=by rw[s,aPS en]
        rw[hS,D]
     exact this _
    rw[C0];by_cases K:(x.r.W.get k).isSome=true
    ·obtain ⟨ob,hob⟩:=Option.isSome_iff_exists.1 K;rw[hob];have e2:=pL (H:=H) (l:=l) (S:=fun j=>(f.setIfInBounds i true).getD j false) (id:=k) ops.size (i+1) (by omega) (fun j y q hyd=>⟨fun z=>?_,fun h1 h2=>?_⟩)
     ·rw[e2,xN,hx];simp[hob]
     ·simp only[s];by_cases ej:j=i
      ·simp[ej]
      simp only[ej,if_false];exact A j y (by omega) q (C3 hyd K)
     simp only[s];rw[aPS (by omega)];exact C j y (by omega) q (C3 K hyd)
    have hnone:x.r.W.get k=none:=by simpa using K
    rw [hnone];simp only;rw [hH1 k];have:∀ n,xN H l (fun i=>f.getD i false) n k=xN H l (fun j=>(f.setIfInBounds i true).getD j false) n k:=by
     intro n
     induction n with
     |zero=>rfl
     | succ n D =>
      rw[xN,xN];cases hn:l[n]? with
      |none=>exact D
      |some y =>
       simp only;by_cases en:n=i
       ·subst en;rw[hx]at hn;cases hn;rw[aPS (fun h=>K h.2),aPS (fun h=>K h.2)];exact D
       have hS:(f.setIfInBounds i true).getD n false=f.getD n false:=by rw[s,aPS en]
       rw[hS,D]
    exact this _
   unfold wpOpIn;simp only[ho];rw[hxo]at hdst u W;rw[hxo]at O;have hgE:∀(j:Nat) (V:Bool) (t:Tmp) (b:Bool),(ops[i]).guard=some (j,V)->iM ops.toList j=some t->Ek.get t=some (.pv (.bool b))->yielded ops a.tmps j=some b:=by
    intro j V t b hg q hb;have hmem:t∈gT ops.toList ops[i]:=by simp[gT,hg,q]
    exact tK (E:=X) q ((u t hmem).trans hb) p.rel.choose_spec.choose_spec.2.2
   have hnd:ro=none\/(ops[i]).noDefer=true:=hnd0.imp (fun h=>h) fun h=>List.all_eq_true.1 h _ (by simp);cases hdst with
   | pan hg h =>
    have hlr:∀y∈l,y.r∈rs:=fun y Y=>by
     obtain ⟨k,U⟩:=aPf.1 Y;rw[hl,List.getElem?_zipWith]at U;cases e1:ops.toList[k]? with
     |none=>simp[e1]at U
     |some o=>cases e2:rs[k]? with
      |none=>simp[e1,e2]at U
      |some r=>simp[e1,e2]at U;rw[<-U];exact aP4 e2
    have hw:Region.wanted ops[i] (yielded ops a.tmps)=true:=by simp[Region.wanted,hg]
    simp only[hw,if_true];refine p.opP W ((h H1 T).restr u) ?_ ?_ hnd
    ·rintro r H2 a' w' ⟨rfl,rfl,hF⟩ S;exact O _ a' w' hF rfl S
    intro ch H2 w' hp S;refine⟨X,H2,hP ch X H1 H2 (fun t ht=>(hE1 t).trans (LF (fun y Y=>Y7 hT t ht y.o (by
     obtain ⟨k,U⟩:=aPf.1 Y;exact aP4 (hlo k y U))) _)) (fun id hid o ho=>?_) (fun id hid=>(hH1 id).trans (LD (fun y Y=>Y6 hKs id hid y.r (hlr y Y)) _)) hp,S⟩
    have hsh:=RS (H:=H) (l:=l) (S:=fun i=>f.getD i false) (id:=id) ho (fun y Y o' ho'=>?_) ops.size
    ·obtain ⟨o',h1,h2⟩:=hsh;exact⟨o',(hH1 id).trans h1,h2⟩
    exact aBb hW y.r (hlr y Y) id hid o' ho' o ho
   | old hF hdst =>
    have O:=fun r a' w'=>O r a' w' hF;cases hdst with
    |plain hg h =>
     have hw:Region.wanted ops[i] (yielded ops a.tmps)=true:=by simp[Region.wanted,hg]
     simp only[hw,if_true];refine p.op W ((h H1 T).restr u) ?_ hnd;rintro r H2 a' w' ⟨rfl,rfl⟩ S;exact O _ a' w' rfl S
    |on j V t b hg q hb hw h =>
     have Y:=hgE j V t b hg q hb;have hw:Region.wanted ops[i] (yielded ops a.tmps)=true:=by simp[Region.wanted,hg,Y,hw]
     simp only[hw,if_true];refine p.op W ((h H1 T).restr u) ?_ hnd;rintro r H2 a' w' ⟨rfl,rfl⟩ S;exact O _ a' w' rfl S
    | off j V t x' hg q hb hw hv hW =>
     have hmem:t∈gT ops.toList ops[i]:=by simp[gT,hg,q]
     have hw:Region.wanted ops[i] (yielded ops a.tmps)=false :=
      HY (E:=X) hg q ((u t hmem).trans hb) hw p.rel.choose_spec.choose_spec.2.2
     simp only[hw,Bool.false_eq_true,if_false];refine⟨fun _ _=>trivial,?_⟩;refine O (.tup []) _ w hv.symm ?_;obtain ⟨I,ι,hr,hst2,he⟩:=p.rel;rw[hv,hW];refine⟨?_,?_,I,ι,hr,hst2,jB.put hr (Step.refl _ _ _ _) he jB.skip (by rw[p.size];exact W)⟩
     ·rw[jC];exact p.defers
     have:=p.size;cases (ops[i]).dst<;>simpa[Act.put]using this
 have S:St G N E H a {w with drawn:=w.drawn+1}:=by
  obtain ⟨I,ι,hr,hst2,he⟩:=hs.rel;obtain ⟨k2,k3⟩:=hr.drawn (w':={w with drawn:=w.drawn+1}) rfl rfl rfl rfl;exact⟨hs.defers,hs.size,I,ι,k2,hst2.trans k3,fun t v ht=>let ⟨c,h1,h2⟩:=he t v ht;⟨c,h1,h2.mono hr k3⟩⟩
 refine main ops.size (Array.replicate ops.size false) a _ E H (by simp) (by
  have:=List.length_filter_le (fun i=>!(Array.replicate ops.size false).getD i true) (List.range ops.size)
  simpa using this) (fun j o q hjl=>by simp[Array.getD]at hjl) (fun k U=>by simp[Array.getD]at U) S (fun t=>?_) (fun k=>?_)
 ·have:∀n,zC E l (fun i=>(Array.replicate ops.size false).getD i false) n t=E.get t:=by
   intro n
   induction n with
   |zero=>rfl
   | succ n D =>
    rw[zC];cases l[n]? with
    |none=>exact D
    |some y =>
     have hf:(Array.replicate ops.size false).getD n false=false:=by simp[Array.getD]
     simp only[hf,Bool.false_eq_true,false_and,if_false];exact D
  exact(this _).symm
 have:∀n,xN H l (fun i=>(Array.replicate ops.size false).getD i false) n k=H.get k:=by
  intro n
  induction n with
  |zero=>rfl
  | succ n D =>
   rw[xN];cases l[n]? with
   |none=>exact D
   |some y =>
    have hf:(Array.replicate ops.size false).getD n false=false:=by simp[Array.getD]
    simp only[hf,Bool.false_eq_true,false_and,if_false];exact D
 exact(this _).symm
def DCP(P:Program)(N:Nat)(PP:XF->aH->aH->Prop)(ops rest:List Oper)(E:dB)(H:aH)(K:List Rec->List Prop->dB->aH->Prop):Prop:=∃rs Fs E' H',DChainP P N ops PP rest E H rs Fs E' H'/\K rs Fs E' H'
theorem GD{P}{N}{PP}{ops}{E}{H}{K}(h:K [] [] E H):DCP P N PP ops [] E H K:=⟨_,_,_,_,.nil,h⟩
theorem sG{P}{N}{PP}{ops rest}{o}{E}{H}{K}{r}{F}(h:DStepP P N ops PP o E H r F)(hd:iN N o.dst=true)
  (d:DCP P N PP ops rest (kM E o.dst r.v) (r.W++H) (fun a b E' H'=>K (r::a) (F::b) E' H')):DCP P N PP ops (o::rest) E H K:=by
 obtain ⟨a,b,E',H',c,e⟩:=d;exact⟨_,_,_,_,.cons h hd c,e⟩
theorem cN{P}{N}{PP}{ops rest}{o}{E}{H}{K}{r}(h:DStep P N ops o E H r)(hd:iN N o.dst=true)
  (c:DCP P N PP ops rest (kM E o.dst r.v) (r.W++H) (fun a b E' H'=>K (r::a) (True::b) E' H')):DCP P N PP ops (o::rest) E H K:=sG (.old trivial h) hd c
theorem vF{P}{G0}{N id}{Q}{ops}{E}{H}(PP)(d a ks)(i:aEt d ops=true)(g:P.follows .mixedOrders=true)
  (j:∀e c H1 H2,(∀t∈d,c.get t=E.get t)->Shp a H H1->(∀id∈ks,H1.get id=H.get id)->PP e H1 H2->Q (.panic e) c H2)
  (h:DCP P N PP ops.toList ops.toList E H (fun b f E' H'=>(HJ ops.toList b=true/\aJw a H b=true/\aEs ks b=true)/\(TY f->Q .normal E' H'))):gR P G0 N (.region id ops true) Q E H:=by
 obtain ⟨b,f,E',H',n,⟨m,l,o⟩,k⟩:=h;exact aCh g n m _ _ l o _ i j k
end
section
abbrev aGO(G:Entry)(Q:AV->aH->Prop):Ending->World->Prop:=fun e w'=>∃r H' I' ι' v,e=.returned v/\Q r H'/\VRel w' I' ι' H' v r/\Rel I' ι' H' w'/\Step G.I G.ι G.H G.w I' ι' H' w'
def DWp(P:Program)(fn:Func)(G0:aH)(N:Nat)(Q:AV->aH->Prop)(c:Code)(E:dB)(H:aH):Prop :=∀G:Entry,G.H=G0->G.ds=[]->∀a w,St G N E H a w->c.wpIn Fence.wide 0 P (bodyPostM Fence.wide 0 P fn (aGO G Q)) a w
section
variable{P:Program}{fn:Func}{G0 H:aH}{N:Nat}{Q:AV->aH->Prop}{E:dB}
theorem yM{G}{e}{a}{w}(n:G.H=G0)(hd:G.ds=[])(h:IN P fn G0 Q e E H)(m:St G N E H a w):bodyPostM Fence.wide 0 P fn (aGO G Q) e a w:=by
 obtain ⟨o,r,g,r',H'',b,hq⟩:=h;have c:LeavesInM Fence.wide 0 P fn a.tmps (aGO G Q) a.defers .returning w:=by
  obtain ⟨I',ι',k,f,l⟩:=m.rel;refine tE (hd▸m.defers) k f l ?_;intro w2 i d j;obtain ⟨v,h1,p⟩:=g a _ _ _ i j;obtain ⟨I2,ι2,k1,k2,k3⟩:=b G n _ _ _ v i d p
  grind
 rcases o with rfl|rfl
 ·exact c
 exact c
theorem aAu{x y}(h:gR P G0 N x (yP (fun g H1=>DWp P fn G0 N Q y g H1) (IN P fn G0 Q)) E H):DWp P fn G0 N Q (.seq x y) E H:=by
 intro G c d a w i;refine wpIn_seq (wpIn_mono (h G c a w i _ (.inl rfl)) ?_);rintro e a' w' ⟨E',H',f,b⟩;cases e with
 |normal=>exact f G c d _ _ b
 |exit id=>exact yM c d f b
 |goto l=>exact yM c d f b
 |ret=>exact yM c d f b
 |panic ch=>exact yM c d f b
 |outgrown=>exact yM c d f b
theorem aI.bodyD{f:FuncId}{c:Code}{args:List AV}(k:P.funcs[f]?=some fn)(o:fn.body=some c)(hN:fn.ntmps=N)(hlen:args.length<=N)(h:DWp P fn H N Q c (mD args) H):aI P f args H Q:=by
 intro I g w b j hl i;refine callsIn_wide.1 (callsIn_of_wp_marks (n:=0) k o trivial ?_);have d:St ⟨I,g,H,w,[]⟩ N (mD args) H {tmps:=b++Array.replicate (fn.ntmps - b.size) undef,defers:=[]} w:=by
  refine⟨rA.nil _ _ _,?_,I,g,j,Step.refl _ _ _ _,fun t a n=>?_⟩
  ·grind
  have m:=tL n;have e:t<b.size:=by grind
  have l:=Array.getElem?_eq_getElem e;exact⟨b[t],by grind,i t _ a l m⟩
 exact h _ rfl rfl _ w d
end
def TZ(P:Program)(F:FuncId)(args:List AV)(H:aH)(u:FrameMode)(K:aH->Prop):Prop :=∀(I:Nat->Prop) (ι:kJ) (w:World) (vs:Array Value),Rel I ι H w->vs.size=args.length->(∀(i:Nat) (v:Value) (a:AV),vs[i]?=some v->args[i]?=some a->VRel w I ι H v a) ->
  CallsDIn Fence.wide 0 P F vs u w fun e u' w'=>∃v H' I' ι',e=.returned v/\settle u'=.returning/\K H'/\Rel I' ι' H' w'/\Step I ι H w I' ι' H' w'
def aBL(P:Program)(fn:Func)(G0 H0:aH)(F:FuncId)(cs:List AV)(Q:AV->aH->Prop)(e:Exit)(E:dB)(H:aH):Prop :=∃u E1 H1,((e=.normal\/e=.ret)/\u=.returning\/∃ch,e=.panic ch/\u=.panicking ch)/\dA H0 E H E1 H1 /\
  TZ P F cs H1 u fun H2=>∃r,(∀(a:Act) (w:World) (I:Nat->Prop) (ι:kJ),Rel I ι H2 w->jB w I ι H2 E1 a->∃v,(results fn a.tmps).run P w=.ok v w/\VRel w I ι H2 v r)/\∃r' H3,Fin G0 H2 r H3 r'/\Q r' H3
section
variable{P:Program}{fn:Func}{G0 H:aH}{N:Nat}{Q:AV->aH->Prop}{E:dB}
theorem aC2{X Y:Oper}{rest:Code}{F:FuncId}{l:Array Operand}{at_:Array TypeId}{d:Tmp}{cs:List AV}(z:ops.toList=[X,Y])(hg1:X.guard=none)(R:X.dst=some d)(hdN:Nat.blt d N=true)(ho1:X.op=.makeFunc (.func F) #[] l)
  (hg2:Y.guard=none) (hd2:Y.dst=none) (ho2:Y.op=.defer {callee:=.value (.tmp d),args:=#[],argTypes:=at_}) (hv:wM E l.toList=some cs)
  (hc:∀(args:Array Value) (w:World),(callFunc F args).run P w=.ok (.enter F args) w)
  (h:gR P H N rest (aBL P fn G0 H F cs Q) ((d,.clo F cs)::E) H):DWp P fn G0 N Q (.seq (.region id ops false) rest) E H:=by
 intro G hG hd a w hs;refine wpIn_seq (wpIn_region_list ?_);rw[z];refine wpListIn_plain hg1 fun K1 hK1=>?_;refine hs.op (ro:=none) (by rw[R];exact hdN) (gJ ho1 (lW hv)) ?_ (.inl rfl);rintro r H' j q ⟨rfl,rfl⟩ k;refine hK1 j q ?_;rw[R]at k;refine wpListIn_plain hg2 fun K2 hK2=>?_;refine Oper.wpW_in (ro:=none) (.inl rfl) ?_;obtain ⟨I1,S,o,B,A⟩:=k.rel;obtain ⟨c1,hc1,hv1⟩:=A d _ (dB.get_cons_same _ _ _);have hev:j.eval (.tmp d)=c1:=by simp[Act.eval,hc1]
 cases hv1 with
 | @clo _ K _ hl hh =>
  unfold Oper.wpW execOp;simp only[ho2,resolve,hev,Deferred.ofValue,Sem.run_bind,Sem.run_pure,Result.andThen_ok,Oper.uponW,hd2,Act.put];refine hK2 _ q ?_;show Exit.then _ _ .normal _ q
  let dd:Deferred:={target:=.fn (.func F) K,args:=#[]++(#[]:Array Operand).map j.eval}
  have C:St ⟨I1,S,H',q,dd::j.defers⟩ N ((d,.clo F cs)::E) H' {j with defers:=dd::j.defers} q :=
   ⟨rA.nil _ _ _,k.size,I1,S,o,Step.refl _ _ _ _,A⟩
  refine wpIn_mono (h _ rfl _ q C none (.inl rfl)) ?_;rintro e M w' ⟨E',H2,⟨u,E1,H1,n,I,W⟩,Z⟩;have L:=I _ rfl N M w' Z;have p:u≠.run->LeavesInM Fence.wide 0 P fn M.tmps (aGO G Q) M.defers u w':=by
   intro hu;obtain ⟨I3,ι3,hr3,O,he3⟩:=L.rel;refine wS hu L.defers hr3 O he3 ?_;intro w4 y g he4;refine⟨hu,.inr ⟨(fun hx=>by cases hx),.func F,K,F,K,rfl,?_,fun _ _=>trivial,?_⟩⟩
   ·show (invoke (.fn (.func F) K) (#[]++(#[]:Array Operand).map j.eval)).run P w4=_;simp only[invoke,Array.map_empty,Array.empty_append,hc]
   refine(W I3 ι3 w4 K y (by omega) (fun i v b hv hb=>(hh i v b hv hb).mono o g)).mono ?_;rintro e2 u' w5 ⟨v,H5,I5,m,rfl,J,⟨r,U,r',H6,D,hq⟩,hr5,f⟩;show LeavesInM Fence.wide 0 P fn M.tmps (aGO G Q) j.defers (settle u') w5;rw[J];have s:Step G.I G.ι G.H G.w I5 m H5 w5:=(B.trans g).trans f;have hm1:rA [] G.w w5 j.defers:=(hd▸k.defers).step o (g.trans f);refine tE hm1 hr5 s (fun t v ht=>let ⟨c,x1,x2⟩:=he4 t v ht;⟨c,x1,x2.mono y f⟩) ?_;intro w7 V x he7;obtain ⟨v,h1,h2⟩:=U M w7 I5 m V he7;obtain ⟨I8,ι8,k1,k2,k3⟩:=D G hG I5 m w7 v V x h2
   grind
  rcases n with⟨rfl|rfl,rfl⟩|⟨ch,rfl,rfl⟩
  ·exact p (by simp)
  ·exact p (by simp)
  exact p (by simp)
end
end
end Go.Abs
namespace Go.Abs
open Go.Proofs
variable{d:Tmp}{E:dB}
section
section
variable{P:Program}{G0:aH}{N:Nat}{Q:Exit->dB->aH->Prop}{H:aH}
def OZ(P:Program)(G0:aH)(N:Nat)(c:Code)(Q:Exit->dB->aH->Prop)(E:dB)(H:aH):Prop :=∀G:Entry,G.H=G0->∀a w,St G N E H a w->c.wpIn (RF none) 0 P (fun e a' w'=>(∃E H,Q e E H/\St G N E H a' w')/\a'.defers=a.defers) a w
def ALN(P:Program)(G0:aH)(N:Nat)(ops:Array Oper)(K:dB->aH->Prop)(l:List Oper)(E:dB)(H:aH):Prop :=∀G:Entry,G.H=G0->∀a w,St G N E H a w->∀Q:Exit->Act->World->Prop,(∀E H a' w',K E H->St G N E H a' w'->a'.defers=a.defers->Q .normal a' w')->wpListIn (RF none) 0 P ops Q l a w
theorem C7{ops}{K}(h:K E H):ALN P G0 N ops K [] E H:=fun _ _ a w b _ c=>c _ _ a w h b rfl
theorem St.opN{G}{a}{w}{o}{R}(d:St G N E H a w)(hd:iN N o.dst=true)(h:Z3 P N o E H R){K}{Q}
  (l:∀r H' a' w',R r H'->St G N (kM E o.dst r) H' a' w'->a'.defers=a.defers->K a' w'):o.wpIn (RF none) 0 P a w K Q:=by
 refine Oper.wpW_in (.inl rfl) ?_;obtain ⟨I,ι,g,e,j⟩:=d.rel;refine h a w I _ trivial d.size g j K Q ?_;intro c w' m f r H' n k i b;refine l r _ _ _ n ⟨?_,?_,m,f,i,e.trans b,jB.put g b j k (by rw[d.size];exact hd)⟩ (jC _ _ _)
 ·rw[jC];exact d.defers.step g b
 have:=d.size;cases o.dst<;>simpa[Act.put]using this
theorem aJ8{ops}{K}{o}{rest}{R}(m:o.guard=none)(hd:iN N o.dst=true)(h:Z3 P N o E H R)(k:∀r H',R r H'->ALN P G0 N ops K rest (kM E o.dst r) H'):ALN P G0 N ops K (o::rest) E H:=by intro G j a w l Q i;refine wpListIn_plain m fun K' n=>?_;exact l.opN hd h fun r H' a' w' g f e=>n _ _ (k r _ g G j _ _ f Q fun E H a'' w'' d c b=>i E H _ _ d c (b.trans e))
theorem JL{ops}{K}{o}{rest}{v}{H2}(a:o.guard=none)(hd:o.dst=some d)(c:Nat.blt d N=true)(h:cS P N o E H v H2)(e:ALN P G0 N ops K rest ((d,v)::E) H2):ALN P G0 N ops K (o::rest) E H :=aJ8 a (by rw[hd];exact c) h fun r H' ⟨b,f⟩=>by subst b f;rw[hd];exact e
theorem aGB{ops}{K}{o}{rest}{v}{H2}(d:o.guard=none)(hd:o.dst=none)(h:cS P N o E H v H2)(a:ALN P G0 N ops K rest E H2):ALN P G0 N ops K (o::rest) E H :=aJ8 d (by rw[hd];rfl) h fun r H' ⟨c,b⟩=>by subst c b;rw[hd];exact a
theorem pT{id}{ops}(h:ALN P G0 N ops (fun E H=>Q .normal E H) ops.toList E H):OZ P G0 N (.region id ops false) Q E H:=fun G c a w d =>
 wpIn_region_list (h G c a w d _ fun E H a' w' q s b=>⟨⟨E,H,q,s⟩,b⟩)
theorem GH{x y}(h:OZ P G0 N x (yP (OZ P G0 N y Q) Q) E H):OZ P G0 N (.seq x y) Q E H:=by intro G c a w g;refine wpIn_seq (wpIn_mono (h G c a w g) ?_);rintro e a' w' ⟨⟨f,d,q,s⟩,b⟩;cases e<;>first|exact wpIn_mono (q G c _ _ s) (fun e a w ⟨i,j⟩=>⟨i,j.trans b⟩)|exact⟨⟨f,d,q,s⟩,b⟩
theorem NI{id}{c}(h:OZ P G0 N c (GP id Q) E H):OZ P G0 N (.block id c) Q E H:=by
 intro G f a w i;refine wpIn_block (wpIn_mono (h G f a w i) ?_);rintro e a' w' ⟨⟨g,d,q,s⟩,j⟩;cases e<;>try exact⟨⟨g,d,q,s⟩,j⟩
 simp only[GP]at q;simp[Exit.inBlock]
 split
 ·rename_i b;subst b;rw[oO]at q;grind
 rename_i b;rw[kX b]at q;grind
theorem IF{c}{x y}{b}(j:aP E c=some (.pv (.bool b)))(g:b=true->OZ P G0 N x Q E H)(k:b=false->OZ P G0 N y Q E H):OZ P G0 N (.cond c x y) Q E H:=by intro G f a w d;obtain ⟨I,ι,hr,hst,h⟩:=d.rel;have i:=(aJ h j).bool_inv;exact wpIn_cond_split i (fun e=>g e G f a w d) (fun e=>k e G f a w d)
end
section
variable{P:Program}{fn:Func}{H:aH}{N:Nat}{F:FuncId}{args:List AV}{K:aH->Prop}
def aOf(H:aH)(K:aH->Prop)(e:Exit)(E':dB)(H':aH):Prop:=(e=.normal\/e=.ret)/\∃H2,Fin H H' (.tup []) H2 (.tup [])/\K H2
theorem GM{id:Nat}{o:Oper}{ops:Array Oper}{M:Code}{T:Array TypeId}{u:FrameMode}{x:PV}{vx:Value}(hf:P.funcs[F]?=some fn)(hb:fn.body=some (.seq (.region id ops false) M))(hN:fn.ntmps=N)(hlen:args.length<=N)(hr0:fn.results=#[])
  (z:ops=#[o]) (hg:o.guard=none) (hd:o.dst=some d) (W:Nat.blt d N=true) (ho:o.op=.call {callee:=.builtin .recover,args:=#[],argTypes:=T})
  (hx:∀(w:World) (I:Nat->Prop),PRep w I vx x) (S:(u=.returning/\vx=.nilIface)\/(∃t,u=.panicking (ms t)/\vx=.iface t (.agg #[])))
  (h:OZ P H N M (aOf H K) ((d,.pv x)::mD args) H):TZ P F args H u K:=by
 intro I r w k hr hl hv;refine callsDIn_of_wpSIn hf hb trivial ?_;intro b p c;refine wpSIn_seq (wpSIn_region ?_);subst z;have f:St ⟨I,r,H,w,[]⟩ N (mD args) H {tmps:=k++Array.replicate (fn.ntmps - k.size) undef,defers:=[]} w:=by
  refine⟨rA.nil _ _ _,?_,I,r,hr,Step.refl _ _ _ _,fun t a ht=>?_⟩
  ·grind
  have J:=tL ht;have L:t<k.size:=by grind
  have S:k[t]?=some k[t]:=Array.getElem?_eq_getElem L;exact⟨k[t],by grind,hv t _ a S J⟩
 obtain ⟨a,J⟩:∃a:Act,a={tmps:=k++Array.replicate (fn.ntmps - k.size) undef,defers:=[]}:=⟨_,rfl⟩;rw[<-J]at f |-;have q:a.defers=[]:=by rw[J]
 have D:St ⟨I,r,H,w,[]⟩ N ((d,.pv x)::mD args) H (a.put (some d) vx) w:=by
  obtain ⟨I1,V,G,U,k3⟩:=f.rel;refine⟨by rw[jC];exact f.defers,?_,I1,V,G,U,?_⟩
  ·have:=f.size
   simpa[Act.put]using this
  exact jB.put (d:=some d) G (Step.refl _ _ _ _) k3 (.pv (hx _ _)) (by rw[f.size];exact W)
 have l:∀s,settle s=.returning->M.wpSIn Fence.wide 0 P (bodyPostS P fn b p fun e s m=>∃v n C i,e=.returned v/\settle s=.returning/\K n/\Rel C i n m/\Step I r H w C i n m) (a.put (some d) vx) ({b with mode:=s}::p) w:=by
  intro s B;refine wpSIn_of_wpIn rfl (wpIn_mono (h ⟨I,r,H,w,[]⟩ rfl _ w D) ?_);rintro e a' m ⟨⟨E',n,⟨he,H2,y,hK⟩,Z⟩,hdf⟩;obtain ⟨I3,Y,G,U,k3⟩:=Z.rel;obtain ⟨I4,R,q1,q2,q3⟩:=y ⟨I,r,H,w,[]⟩ rfl I3 Y m (.tuple #[]) G U (.tup rfl (by simp));have Q:a'.defers=[]:=hdf.trans ((jC _ _ _).trans q);have A:a'.defers=[]/\∃E,({b with mode:=s}::p:List Frame)={b with mode:=E}::p/\∃v,(results fn a'.tmps).run P m=.ok v m/\∃v0 n C i,Ending.returned v=.returned v0/\settle E=.returning/\K n/\Rel C i n m/\Step I r H w C i n m :=
   ⟨Q,s,rfl,.tuple #[],by simp[results,hr0],.tuple #[],H2,I4,R,rfl,B,hK,q1,q2⟩
  rcases he with rfl|rfl
  ·exact A
  exact A
 have X:(execOp a.eval o).run P w=.ok .recover w:=by
  simp[execOp,ho,resolve,invoke];rfl
 have hw:Region.wanted o (yielded #[o] a.tmps)=true:=by simp[Region.wanted,hg]
 show wpOpsSIn _ _ _ _ _ [0] _ _ _;unfold wpOpsSIn;simp only[List.getElem?_toArray,List.getElem?_cons_zero,hw,if_true,X];refine⟨fun _ _=>trivial,?_⟩;rcases S with⟨rfl,rfl⟩|⟨t,rfl,rfl⟩
 ·have g:recoverD (b::p)=none:=by simp[recoverD,c]
  rw[g];have hc:({b with mode:=.returning}:Frame)=b:=by rw[<-c]
  have:=l .returning rfl;rw[hc]at this;rw[hd];exact this
 have g:recoverD (b::p)=some (.iface t (.agg #[]),{b with mode:=.panicking ({v:=.iface t (.agg #[]),recovered:=true}::[])}::p):=by simp[recoverD,c]
 rw[g];rw[hd];exact l (.panicking ({v:=.iface t (.agg #[]),recovered:=true}::[])) rfl
end
section
variable{P:Program}{N:Nat}{o:Oper}{H:aH}{t t' T:TypeId}{x y:Operand}
theorem YT(e:o.op=.binOp .eql t x (.const .nilIface) t')(d:P.underlying t=some (.interface (P.methodsAt t)))(f:aP E x=some (.pv HL)):cS P N o E H (.pv (.bool true)) H :=.of_run fun a w I ι _ b=>⟨.bool _,by
  have c:=(aJ b f).sat_inv;have g:a.eval (.const _)=.nilIface:=rfl;simp[execOp,e,c,g,eqGuard,Sem.run_bind,Sem.run_pure,Result.andThen_ok,run_eql_nil_nil _ _ d,Bool.or_true,Bool.true_or,if_true,Bool.not_true,Bool.false_eq_true,if_false],.pv (.bool _)⟩
theorem YU{ps:List PV}{h:TypeId}(e:o.op=.binOp .eql t x (.const .nilIface) t')(d:P.underlying t=some (.interface (P.methodsAt t)))(f:aP E x=some (.pv (.ifa h ps))):cS P N o E H (.pv (.bool false)) H :=.of_run fun a w I ι _ b=>⟨.bool false,by
  obtain ⟨cs,c,_⟩:=(aJ b f).ifa_inv;have g:a.eval (.const .nilIface)=.nilIface:=rfl;simp only[execOp,e,c,g,eqGuard,Sem.run_bind,Sem.run_pure,Result.andThen_ok,binOp,run_equal_held_nil _ _ _ _ d];rfl,.pv (.bool _)⟩
abbrev aMR:PV:=.sat fun v=>∃b,v=.pointer (some ⟨b,0,none⟩)
theorem YW(f:o.op=.alloc T)(c:∀w,(zeroValue T).run P w=.ok (.agg #[]) w):cS P N o E H (.pv aMR) H:=by intro a w I ι _ _ g he K Q e;unfold Oper.wpW execOp;simp[f,Instr.alloc,c,newVar,newRow,Sem.run_bind,run_newObj,Sem.run_pure,Result.andThen_ok];obtain ⟨d,b⟩:=Rel.newImm (w':={w with heap:=w.heap.push _}) g rfl rfl rfl rfl;exact e _ _ _ _ _ _ ⟨rfl,rfl⟩ (.pv (.sat rfl ⟨_,rfl⟩)) d b
theorem YR(k:o.op=.store T x y)(l:aP E x=some (.pv aMR))(n:aP E y=some (.agg []))(j:∀w,(sizeOf T).run P w=.ok 0 w):cS P N o E H (.tup []) H:=by
 intro a w I ι _ _ p g K Q m;obtain ⟨b,i⟩:=(aJ g l).sat_inv;have h:=aJ g n;generalize f:a.eval y=v2 at h;cases h with
 | @agg vs _ hl h1 hh =>
  have:=Array.eq_empty_of_size_eq_zero (by omega);subst this;have d:(execOp a.eval o).run P w=.ok .skip w:=by
   simp[execOp,k,i,f];simp[Instr.storeAt,Instr.sureAddr,storeVar,j,Value.cells,storeCells]
  unfold Oper.wpW;rw[d];exact m _ w I _ _ _ ⟨rfl,rfl⟩ (.tup rfl (by simp)) p (Step.refl _ _ _ _)
end
theorem dA.toAny{G0 H H':aH}{E':dB}(S:∀t v,E'.get t=some v->E.get t=some v/\Clo H' v)(u:∀id o',H'.get id=some o'->∃o,H.get id=some o/\kP o o'/\∀r∈o'.rows,∀a∈r,a=.any)(hG:∀id,(G0.get id).isSome=true->(H'.get id).isSome=true):dA G0 E H E' H':=by
 intro G J N a w K;obtain ⟨I,V,B,s,he⟩:=K.rel;have g:∀ {o o':Ob},kP o o'->o'.rows.length=o.rows.length:=fun h=>by
  have:=congrArg List.length h.2.2.2
  simpa using this
 have O:aBN H H':=fun j o' d=>by
  obtain ⟨o,m,f,_⟩:=u j o' d;exact⟨o,m,f.1.symm,f.2.1.symm,f.2.2.1.symm,(g f).symm⟩
 refine⟨K.defers,K.size,I,V,⟨B.imm,fun id o' d=>?_,fun id z o o' b c c' A d=>?_,B.glob⟩,?_,fun t v T=>?_⟩
 ·obtain ⟨o,m,f,Q⟩:=u id o' d;refine(B.obj id o m).keepG f.2.1 f.2.2.1 (g f) (fun y P R hy=>?_) rfl (fun _ _ _ _=>⟨rfl,fun h=>h⟩) (fun i R F=>?_)
  ·have:=Q [.raw y P] (by simp_all) (.raw y P) (by simp);cases this
  have x:i<o.rows.length:=by rw[<-g f];exact(aPY.1 F).1
  refine⟨o.rows[i],aPZ x,?_,fun k a a' _ C v _=>?_⟩
  ·have e:=congrArg (fun l:List Nat=>l[i]?) f.2.2.2;simp only[aPe,F,aPZ x,Option.map_some,Option.some.injEq]at e;exact e.symm
  rw[Q R (aP4 F) a' (aP4 C)];exact .any v
 ·obtain ⟨q,m,_⟩:=u id o A;obtain ⟨Y,D,_⟩:=u z o' d;exact B.inj id z q Y b c c' m D
 ·refine {s with own:=fun b ⟨id,o',L,d,M⟩=>?_,objs:=fun id o A=>?_}
  ·obtain ⟨o,m,_⟩:=u id o' d;exact s.own b ⟨id,o,L,m,M⟩
  obtain ⟨o1,W,k2,X⟩:=s.objs id o A;obtain ⟨o',d⟩:=Option.isSome_iff_exists.1 (hG id (by rw[<-J,A];rfl));obtain ⟨o2,m,f,_⟩:=u id o' d;rw[W]at m;cases m;refine⟨o',d,by rw[f.1];exact k2,fun e=>?_⟩;obtain ⟨q1,Z,q3⟩:=X (by rw[<-f.1];exact e);exact⟨q1,by rw[f.2.1];exact Z,fun hz=>by rw[g f];exact q3 hz⟩
 obtain ⟨m,f⟩:=S t v T;obtain ⟨c,M,U⟩:=he t v m;exact⟨c,M,U.alike O f⟩
theorem aOA{P}{c}{H}{x y}{r s:AV}(g:c.results=#[x,y])(f:JS P E H x r)(e:JS P E H y s):
  ∀(a:Act) (w) (I) (ι),Rel I ι H w->jB w I ι H E a->∃v,(results c a.tmps).run P w=.ok v w/\VRel w I ι H v (.tup [r,s]):=fun a w I ι d b=>by
 obtain ⟨v,h1,h2⟩:=f a w I ι d b;obtain ⟨u,h3,h4⟩:=e a w I ι d b;refine⟨.tuple #[v,u],by rw[rN,g];simp_all,.tup rfl ?_⟩
 grind
end
end Go.Abs
namespace Go.Proofs.YtmdicgjnmfolfaaGreatDoor
open Go.Proofs.Tryz
open Go.Abs
variable{f:FuncId}{xs:List AV}{K H1:aH}{l q:List UInt8}{o:Option (AV×List UInt8)}{v:AV}{s:ByteArray}{α:Type}{n:Int}
abbrev UV(l:List UInt8):Ob:=bx 1 84 [sv (ofL l)]
abbrev lD(l:List UInt8):aH:=[(980,UV l)]
abbrev LQ:AV:=.ref 980 0 0 0
abbrev D7:XF:=ms 81
theorem R8(l:List UInt8)(H:aH):∀r∈(UV l).rows,∀a∈r,Clo H a:=by intro r hr a ha;simp only[UV,bx,aPX]at hr;subst hr;rw[aPX]at ha;subst ha;simp
theorem zG(l:List UInt8):eI (lD l):=eI.ofL ⟨R8 l _,trivial⟩
def BD(f:FuncId)(xs:List AV)(K:aH)(l:List UInt8)(o:Option (AV×List UInt8)):Prop :=∀H1:aH,H1.get 980=some (UV l)->Sub K H1->eY Tryz.prog f xs H1 (fun r H'=>∃p,o=some p/\r=p.1/\H'=lD p.2++H1) (fun ch H'=>o=none/\ch=D7/\∃q,H'=lD q++H1)
theorem BD.of(hK:eI (lD l++K))(hK9:K.get 980=none)(hx:∀a∈xs,Clo (lD l++K) a)
  (h:eY Tryz.prog f xs (lD l++K) (fun r H'=>∃p,o=some p/\r=p.1/\H'=lD p.2++K) (fun ch H'=>o=none/\ch=D7/\∃q,H'=lD q++K)):BD f xs K l o:=by
 intro H1 h1 h2;have hsub:Sub (lD l++K) H1:=fun id ob ho=>by
  rw[fW]at ho;by_cases e:980=id
  ·subst e;have:(lD l).get 980=some (UV l):=rfl;rw[this]at ho;cases ho;exact h1
  have:(lD l).get id=none:=by simp[aH.get,kX e]
  rw[this]at ho;exact h2 id ob ho
 have hk:∀q id,(aH.get (lD q++K) id).isSome=true->((lD l++K).get id).isSome=true:=fun q id hi=>by
  rw[fW]at hi |-;by_cases e:980=id
  ·subst e;rfl
  have h1:∀q,(lD q).get id=none:=fun q=>by simp[aH.get,kX e]
  rw[h1]at hi |-;exact hi
 have hg:∀(q:List UInt8) (j:Nat),aH.get (lD q++H1) j=aH.get ((lD q++K)++H1) j:=fun q j=>by
  rw[List.append_assoc,fW,fW (lD q)];cases (lD q).get j with
  |some _=>rfl
  |none =>
   simp only;rw[fW];cases e:K.get j with
   |none=>rfl
   |some ob=>exact h2 j ob e
 refine(h.frame hsub hK hx (fun r H' ⟨p,_,_,hp⟩ id hi=>.inl (by subst hp;exact hk _ id hi)) (fun ch H' ⟨_,_,q,hq⟩ id hi=>.inl (by subst hq;exact hk _ id hi))).conv ?_ ?_
 ·rintro r H' ⟨K',⟨p,e1,e2,rfl⟩,rfl⟩;exact⟨_,hg _,p,e1,e2,rfl⟩
 rintro ch H' ⟨K',⟨e1,e2,q,rfl⟩,rfl⟩;exact⟨_,hg _,e1,e2,q,rfl⟩
theorem BD.yes(h:BD f xs K l (some (v,q)))(h1:H1.get 980=some (UV l))(h2:Sub K H1):aI Tryz.prog f xs H1 (fun r H'=>r=v/\H'=lD q++H1) :=((h H1 h1 h2).mono (PP':=fun _ _=>False) (fun r H' ⟨p,e1,e2,e3⟩=>by cases e1;exact⟨e2,e3⟩) (fun ch H' ⟨e,_⟩=>by cases e)).calls (fun _ _ h=>h)
theorem BD.no(h:BD f xs K l none)(h1:H1.get 980=some (UV l))(h2:Sub K H1):eY Tryz.prog f xs H1 (fun _ _=>False) (fun ch H'=>ch=D7/\∃q,H'=lD q++H1) :=(h H1 h1 h2).mono (fun r H' ⟨p,e1,_⟩=>by cases e1) (fun ch H' ⟨_,e2,e3⟩=>⟨e2,e3⟩)
theorem BD.tot(h:BD f xs K l o){d:AV}(hv:(o.getD (d,l))=(v,q))(h1:H1.get 980=some (UV l))(h2:Sub K H1):
  eY Tryz.prog f xs H1 (fun r H'=>r=v/\H'=lD q++H1/\o.isSome=true) (fun ch H'=>o=none/\ch=D7/\∃q,H'=lD q++H1) :=
 (h H1 h1 h2).mono (fun r H' ⟨p,e1,e2,e3⟩=>by subst e1;cases hv;exact⟨e2,e3,rfl⟩) (fun ch H' h=>h)
theorem fB(H:aH):Sub [] H:=fun _ _ h=>by cases h
def A5(l:List UInt8):Option (AV×List UInt8):=(iW l).map fun p=>(sv p.1,p.2)
def xK(l:List UInt8):Option (AV×List UInt8):=(oC l).map fun p=>(iv p.1,p.2)
theorem wR(l:List UInt8)(hl:l.length<1000000000):BD 47 [LQ] [] l (A5 l):=by
 refine BD.of (zG l) rfl (by simp;rfl) ?_;have hls:(ofL l).size=l.length:=dG l;have hcl:=aLM l;have hcut:=fun H=>aLL (ofL l) H (by omega);rw[aI9]at hcut;have hat:=fun H=>aBC (ofL (T4 l)) (by rw[dG];omega) H;have hrs:(ofL (T5 l)).size=(T5 l).length:=dG _;have hbad:DP l=(((!decide ((58:UInt8)∈l)||wL (ofL (T4 l)))||decide (oP (ofL (T4 l))<0))||decide (((T5 l).length:Int)<oP (ofL (T4 l)))):=rfl;have hN:nxN l=(oP (ofL (T4 l))).toNat:=rfl;have hO:A5 l=if DP l=true then none else some (sv (ofL ((T5 l).take (nxN l))),(T5 l).drop (nxN l)):=by rw[A5,iW];split<;>rfl
 rw[hO];obtain ⟨x,hx⟩:∃x,x=ofL (T4 l):=⟨_,rfl⟩;obtain ⟨v,hv⟩:∃v,v=oP (ofL (T4 l)):=⟨_,rfl⟩;obtain ⟨e,he⟩:∃e,e=wL (ofL (T4 l)):=⟨_,rfl⟩;obtain ⟨o,ho⟩:∃o,o=decide ((58:UInt8)∈l):=⟨_,rfl⟩;obtain ⟨r,hr⟩:∃r,r=T5 l:=⟨_,rfl⟩;simp only[<-hv,<-he,<-ho,<-hr]at hcut hat hbad hN hrs hcl |-;simp only[<-hx]at hcut hat hbad;clear hx hv he ho hr hO;refine eY.body func47 rfl ntmps47 (aP7 rfl) ?_;refine Sr<|Dd aL<|Zz<|Sr<|Dd aE<|Dd A6<|Dd (aS aFO)<|Dd (bC isAgg9)<|Dd (by exact aA rfl rfl call113 rfl (hcut _))<|Dd aE<|Dd fS<|Dd fS<|Dd fS<|Dd aL<|Dd aL<|Dd aL<|Zz<|Sr<|Dd aE<|Dd (by exact aA rfl rfl xJ rfl (hat _))<|Dd aE<|Dd fS<|Dd fS<|Dd aL<|Dd aL<|Zz<|Sq<|Sq ?_;refine aT (t:=37) (n:=19) (X:=DP l) ?_ ?_
 ·all_goals refine Dd aE ?_
  all_goals refine Dd iQ<|Dm ?_
  all_goals refine Sp 24 (fun h24=>?_) fun h24=>?_
  all_goals(try(with_reducible contradiction))
  all_goals first|refine Fo<|Fo ?_|refine On aE<|On (by exact VA rfl pE rfl) ?_
  all_goals refine Dd cG<|Dm ?_
  all_goals refine Sp 28 (fun h28=>?_) fun h28=>?_
  all_goals(try(with_reducible contradiction))
  all_goals first|refine Fo<|Fo ?_|refine On aE<|On cZ ?_
  all_goals refine Dd cG<|Dm ?_
  all_goals refine Sp 32 (fun h32=>?_) fun h32=>?_
  all_goals(try(with_reducible contradiction))
  all_goals first|refine Fo<|Fo<|Fo<|Fo ?_|refine On aE<|On aE<|On (jV underlying9)<|On iE ?_
  all_goals refine Dd cG<|Zz ?_
  all_goals(exact⟨⟨_,rfl,by rw[hbad];first|(rw[h24];rfl)|(rw[h24,h28];rfl)|(rw[h24,h28,h32,<-hrs];rfl)⟩,rfl,rfl,rfl⟩)
 refine Cn ?_ ?_<;>intro hc1
 ·have hb:DP l=true:=hc1;rw[aPT hb];refine fU ?_;refine gS rfl rfl rfl (by exact HG (fs:=#[]) (places:=#[]) (v0:=.agg []) (l0:=[]) (aps:=[]) (l:=[]) rfl xA aGG (.inl rfl) rfl (fun w=>by simp) rfl rfl) ?_;refine gS rfl rfl rfl (by exact FK (ps:=[]) rfl (dQ xA rfl) rfl) ?_;exact oQ rfl rfl (PY rfl rfl) (fun ch H' h=>by obtain ⟨rfl,rfl⟩:=h;exact CF (H':=lD l) (Fin.wk (by simp) (Hb<|trivial) ⟨rfl,trivial⟩) ⟨rfl,rfl,l,rfl⟩)
 have hb:DP l=false:=hc1;rw[aPS (by rw[hb];decide)];have hb2:=hbad.symm.trans hb;simp only[aPg,aP2]at hb2;obtain ⟨u,rfl⟩:∃u:Nat,v=(u:Int):=⟨v.toNat,by omega⟩;rw[aP5]at hN;rw[hN];have hur:u<=r.length:=by omega
 have x1:(ofL r).extract 0 u=ofL (r.take u):=qU (by rw[hV,dC,dC,List.drop_zero,Nat.sub_zero]);have x2:(ofL r).extract u (ofL r).size=ofL (r.drop u):=qU (by rw[B5,dC,dC]);refine aC<|Sr<|Dd aE<|Dd aE<|Dd aE<|Dd (by exact cO (l:=u) (h:=(ofL r).size) rfl underlying9 rfl rfl rfl (by omega) (aP0 _) x2)<|Dd A6<|Dd (aS aFO)<|Uu (lG sizeOf9)<|Zz<|Sr<|Dd aE<|Dd aE<|Dd (by exact cO (l:=0) (h:=u) rfl underlying9 rfl rfl rfl (aPb _) (by omega) x1)<|Dd aL<|Zz<|aB ?_;refine II ?_;refine eG (H':=(lD (r.drop u))) (.inr rfl) rfl (bD rfl) (Fin.wk (by(simp;done)) (Hb<|trivial) ⟨rfl,trivial⟩) ?_;exact⟨_,rfl,rfl,rfl⟩
theorem aIb(h:(58:UInt8)∈l):(T5 l).length<l.length:=by rw[T5,aP9];have:=(List.dropWhile_sublist (l:=l) fun b=>!decide (b=58)).length_le;have:=List.length_pos_of_mem h;omega
theorem jQ(h:iW l=some (s,q)):s.size+q.length<l.length:=by
 rw[iW]at h
 split at h
 ·cases h
 next hb =>
 have hb:DP l=false:=by simpa using hb
 simp only[DP,aPg,Bool.not_eq_false',aP2,aP1]at hb;have hlt:=aIb hb.1.1.1;cases h;rw[dG,aP8,aP9];omega
theorem iP{x:Int}(h:oC l=some (x,q)):q.length<l.length/\(-9223372036854775808<=x/\x<=9223372036854775807):=by
 rw[oC]at h;cases hO:iW l with
 |none=>rw[hO]at h;cases h
 |some p =>
  obtain ⟨s,r⟩:=p;rw[hO]at h;simp only at h
  split at h
  ·cases h
  cases h;have:=jQ hO;exact⟨by omega,aCk s⟩
theorem mG(l:List UInt8)(hl:l.length<1000000000):BD 48 [LQ] [] l (xK l):=by
 refine BD.of (zG l) rfl (by simp;rfl) ?_;have hn:=wR l hl;have hlen:=fun s q=>jQ (l:=l) (s:=s) (q:=q);have hA:A5 l=(iW l).map fun p=>(sv p.1,p.2):=rfl;have hB:xK l=(match iW l with
  |none=>none
  |some (s,r)=>if wL s=true then none else some (iv (oP s),r)):=by
  rw[xK,oC];cases iW l with
  |none=>rfl
  |some p=>simp only;split<;>rfl
 rw[hB];rw[hA]at hn;obtain ⟨O,hO⟩:∃O,O=iW l:=⟨_,rfl⟩;rw[<-hO]at hn hlen |-;clear hO hA hB;refine eY.body func48 rfl ntmps48 (aP7 rfl) ?_;refine Sr<|Dd aL<|Zz<|Sq ?_;rcases O with _|⟨s,q⟩
 ·have hn:BD 47 [LQ] [] l none:=hn;refine fU ?_;refine gS rfl rfl rfl (by exact fV rfl rfl) ?_;exact oQ rfl rfl (eE rfl rfl lF rfl (hn.no rfl (fB _))) (fun ch H' h=>by obtain ⟨rfl,q,rfl⟩:=h;exact CF (H':=lD q) (Fin.wk (by simp) (Hb<|trivial) ⟨rfl,trivial⟩) ⟨rfl,rfl,q,rfl⟩)
 have hn:BD 47 [LQ] [] l (some (sv s,q)):=hn;have hlen:=hlen s q rfl;have hat:=fun H=>aBC s (by omega) H;obtain ⟨e,he⟩:∃e,e=wL s:=⟨_,rfl⟩;obtain ⟨v,hv⟩:∃v,v=oP s:=⟨_,rfl⟩;simp only[<-he,<-hv]at hat |-;clear he hv;refine Rg<|Dd aE<|Dd (by exact aA rfl rfl lF rfl (hn.yes rfl (fB _)))<|Dd (by exact aA rfl rfl xJ rfl (hat _))<|Dd aE<|Dd fS<|Dd fS<|Dd aL<|Dd aL<|Zz<|Sq<|Sr<|Dd aE<|Dd (by exact VA rfl pE rfl)<|Zz ?_;refine Cn ?_ ?_<;>intro hc1
 ·have hb:e=true:=hc1;rw[aPT hb];refine fU ?_;refine gS rfl rfl rfl (by exact HG (fs:=#[]) (places:=#[]) (v0:=.agg []) (l0:=[]) (aps:=[]) (l:=[]) rfl xA aGG (.inl rfl) rfl (fun w=>by simp) rfl rfl) ?_;refine gS rfl rfl rfl (by exact FK (ps:=[]) rfl (dQ xA rfl) rfl) ?_;exact oQ rfl rfl (PY rfl rfl) (fun ch H' h=>by obtain ⟨rfl,rfl⟩:=h;exact CF (H':=lD q) (Fin.wk (by simp) (Hb<|trivial) ⟨rfl,trivial⟩) ⟨rfl,rfl,q,rfl⟩)
 have hb:e=false:=hc1;rw[aPS (by rw[hb];decide)];refine aC<|Sr<|Dd aE<|Dd aL<|Zz<|aB ?_;refine II ?_;refine eG (H':=(lD q)) (.inr rfl) rfl (bD rfl) (Fin.wk (by(simp;done)) (Hb<|trivial) ⟨rfl,trivial⟩) ?_;exact⟨_,rfl,rfl,rfl⟩
abbrev nxB:AV:=.bnd 47 [LQ]
def Y4(l:List UInt8):Option (AV×List UInt8):=(vR iW l).map fun p=>(.pv (bA p.1),p.2)
theorem VN(f:List UInt8->Option (α×List UInt8)){N k:Nat}{l':List UInt8}{A:List α}(hk:A.length=k)(hlt:k<N)(h:CW f N q=(CW f (N - k) l').map fun p=>(A++p.1,p.2)):
  CW f N q=match f l' with
   |none=>none
   |some (x,r)=>(CW f (N - (k+1)) r).map fun p=>((A++[x])++p.1,p.2):=by
 rw[h,show N - k=(N - (k+1))+1 by omega,CW];cases f l' with
 |none=>rfl
 | some p =>
  obtain ⟨x,r⟩:=p;simp only;cases CW f (N - (k+1)) r with
  |none=>rfl
  |some p2 =>
   obtain ⟨xs,q2⟩:=p2;simp
theorem aEl(h:oC l=none):Y4 l=none:=by rw[Y4,vR,h];rfl
theorem aEk(h:oC l=some (n,q)):Y4 l=(CW iW n.toNat q).map fun p=>(.pv (bA p.1),p.2):=by rw[Y4,vR,h]
theorem SV(l:List UInt8)(hl:l.length<1000000000):BD 49 [LQ,nxB] [] l (Y4 l):=by
 refine BD.of (zG l) rfl (by simp;rfl) ?_;have hnu:=mG l hl;have hnone:=aEl (l:=l);have hsome:=fun n q=>aEk (l:=l) (n:=n) (q:=q);have hlen:=fun n q=>iP (l:=l) (x:=n) (q:=q);rw[xK]at hnu;obtain ⟨O,hO⟩:∃O,O=oC l:=⟨_,rfl⟩;rw[<-hO]at hnu hnone hsome hlen;clear hO;refine eY.body func49 rfl ntmps49 (aP7 rfl) ?_;refine Sr<|Dd aL<|Zz<|Sq ?_;rcases O with _|⟨n,q0⟩
 ·rw[hnone rfl];have hn:BD 48 [LQ] [] l none:=hnu;refine fU ?_;refine gS rfl rfl rfl (by exact fV rfl rfl) ?_;exact oQ rfl rfl (eE rfl rfl hY rfl (hn.no rfl (fB _))) (fun ch H' h=>by obtain ⟨rfl,q,rfl⟩:=h;exact CF (H':=lD q) (Fin.wk (by simp) (Hb<|trivial) ⟨rfl,trivial⟩) ⟨rfl,rfl,q,rfl⟩)
 have hn:BD 48 [LQ] [] l (some (iv n,q0)):=hnu;obtain ⟨hq0,hn0,hn1⟩:=hlen n q0 rfl;rw[hsome n q0 rfl];refine Rg<|Dd aE<|Dd (by exact aA rfl rfl hY rfl (hn.yes rfl (fB _)))<|Dd aL<|Zz<|Sr<|Dd (by exact qF (id:=905) (sz:=1) (ty:=9) rfl rfl rfl)<|Zz<|Sq<|Sr<|Dd aE<|Dd aE<|Zz<|aG ?_;refine jA (fun(l':List UInt8) (A:List ByteArray)=>([(0,LQ),(1,nxB),(6,.osl 905 A.length 0 A.length),(9,iv n),(10,iv (A.length:Int))],(905,⟨A.length,1,9,dF A⟩)::lD l')) (fun l' A=>l'.length+A.length<l.length/\A.length<=n.toNat/\CW iW n.toNat q0=(CW iW (n.toNat - A.length) l').map fun p=>(A++p.1,p.2)) (fun l' A=>l'.length) q0 [] ⟨by rw[List.length_nil];omega,aPb _,by simp⟩ ?_ ?_
 ·exact(dA.wk (Ea<|Ea<|Ea<|Eb<|Eb<|trivial) (Hc (cE _ _)<|Hb<|trivial) ⟨rfl,trivial⟩)
 rintro l' A ⟨hl',hA,hR⟩;have hnx:=wR l' (by omega);have hxl:=fun s q=>jQ (l:=l') (s:=s) (q:=q);have hmore:=fun h=>VN iW (k:=A.length) rfl h hR;rw[A5]at hnx;obtain ⟨X,hX⟩:∃X,X=iW l':=⟨_,rfl⟩;rw[<-hX]at hnx hxl hmore;clear hX;refine Sr<|Dd cZ<|Zz<|Sq ?_;refine Cn ?_ ?_<;>intro hc1
 ·have hlt:A.length<n.toNat:=by have:=aPQ hc1;omega
  have hm:=hmore hlt;clear hmore;refine aC<|Sq<|aG ?_;rcases X with _|⟨s,q⟩
  ·have hm:CW iW n.toNat q0=none:=hm;rw[hm];have hnx:BD 47 [LQ] [] l' none:=hnx;refine fU ?_;refine gS rfl rfl rfl (by exact fV rfl rfl) ?_;refine gS rfl rfl rfl (by exact fV rfl rfl) ?_;exact oQ rfl rfl (DL rfl rfl lF rfl (hnx.no rfl (fB _))) (fun ch H' h=>by obtain ⟨rfl,q,rfl⟩:=h;exact CF (H':=lD q) (Fin.wk (by simp) (Hb<|trivial) ⟨rfl,trivial⟩) ⟨rfl,rfl,q,rfl⟩)
  have hm:CW iW n.toNat q0=(CW iW (n.toNat - (A.length+1)) q).map fun p=>((A++[s])++p.1,p.2):=hm;have hnx:BD 47 [LQ] [] l' (some (sv s,q)):=hnx;have hxl:=hxl s q rfl;have hnl:(A++[s]).length=A.length+1:=by rw[aPV];rfl
  refine Rg<|Dd aE<|Dd aE<|Dd (by exact BA.opr (DL rfl rfl lF rfl (eY.of (hnx.yes rfl (fB _)))))<|Dd (by exact aR [[.str s]] rfl cB rfl rfl rfl rfl rfl (by intro r hr;rw[aPX]at hr;subst hr;rfl))<|Dd (by exact dL (ps:=[[.str s]]) rfl cB EF rfl rfl rfl rfl rfl (kQ _) rfl (by intro r hr;rw[aPX]at hr;subst hr;rfl) (m:=1) rfl (by omega) rfl (mF A s))<|Dd aL<|Zz<|Rg<|Dd (by exact bZ rfl rfl rfl (show IntKind.i64.wrap ((A.length:Int)+1)=((A.length+1:Nat):Int)by rw[kK (by omega) (by omega)];omega))<|Dd aE<|Zz ?_;refine⟨q,A++[s],⟨by rw[hnl];omega,by rw[hnl];omega,by rw[hnl];exact hm⟩,by omega,?_⟩;dsimp only;rw[hnl];exact(dA.wk (Ea<|Ea<|Ea<|Eb<|Eb<|trivial) (Hc (cE _ _)<|Hb<|trivial) ⟨rfl,trivial⟩)
 have hge:n.toNat=A.length:=by have:=aPR hc1;omega
 have hR2:CW iW n.toNat q0=some (A,l'):=by rw[hR,hge,Nat.sub_self,CW];simp
 rw[hR2];refine aY<|Sr<|Dd aE<|Dd aL<|Zz<|aB ?_;refine II ?_;refine eG (H':=(lD l')) (.inr rfl) rfl (bD rfl) (Fin.fz (id:=905) (ob:=⟨A.length,1,9,dF A⟩) (r':=.pv (bA A)) (A.map encStr) rfl (gC _) (.osl (nC encStr _)) rfl ⟨⟨_,rfl,rfl⟩,(by(simp;done)),trivial⟩ ⟨rfl,trivial⟩) ?_;exact⟨_,rfl,rfl,rfl⟩
theorem SS{α:Type}(f:List UInt8->Option (α×List UInt8))(P:α->Prop)(b:Nat)(hf:∀l x q,l.length<=b->f l=some (x,q)->q.length<l.length/\P x):∀(n:Nat) (l:List UInt8) (xs:List α) (q:List UInt8),l.length<=b->CW f n l=some (xs,q)->q.length+xs.length<=l.length/\∀x∈xs,P x
 |0,l,xs,q,_,h=>by rw[CW]at h;cases h;simp
 | n+1,l,xs,q,hb,h=>by
  rw[CW]at h;cases hf':f l with
  |none=>rw[hf']at h;cases h
  | some p =>
   obtain ⟨x,r⟩:=p;obtain ⟨h1,h2⟩:=hf l x r hb hf';rw[hf']at h;simp only at h;cases hr:CW f n r with
   |none=>rw[hr]at h;cases h
   |some p2 =>
    obtain ⟨ys,q2⟩:=p2;rw[hr]at h;cases h;obtain ⟨k1,k2⟩:=SS f P b hf n r ys _ (by omega) hr;refine⟨by rw[aPW];omega,fun y hy=>?_⟩;rcases aP6.1 hy with rfl|hy
    ·exact h2
    exact k2 y hy
theorem wD{xs:List ByteArray}(h:vR iW l=some (xs,q)):q.length+xs.length<l.length/\∀x∈xs,x.size<=l.length:=by
 rw[vR]at h;cases hn:oC l with
 |none=>rw[hn]at h;cases h
 |some p =>
  obtain ⟨n,r⟩:=p;rw[hn]at h;have h1:=(iP hn).1;obtain ⟨k1,k2⟩:=SS iW (fun x=>x.size<=r.length) r.length (fun l x q hb hx=>by have:=jQ hx;exact⟨by omega,by omega⟩) n.toNat r xs q (aP0 _) h;exact⟨by omega,fun x hx=>Nat.le_trans (k2 x hx) (by omega)⟩
theorem aA5{p:Int×Int}(h:HC l=some (p,q)):q.length<l.length/\(rQ p.1/\rQ p.2):=by
 rw[HC]at h;cases hn:oC l with
 |none=>rw[hn]at h;cases h
 | some z =>
  obtain ⟨x,r⟩:=z;rw[hn]at h;simp only at h;cases hm:oC r with
  |none=>rw[hm]at h;cases h
  |some z2 =>
   obtain ⟨y,r2⟩:=z2;rw[hm]at h;cases h;have h1:=iP hn;have h2:=iP hm;exact⟨by omega,h1.2,h2.2⟩
theorem aAf{xs:List (Int×Int)}(h:vR HC l=some (xs,q)):q.length+xs.length<l.length/\∀x∈xs,rQ x.1/\rQ x.2:=by
 rw[vR]at h;cases hn:oC l with
 |none=>rw[hn]at h;cases h
 |some p =>
  obtain ⟨n,r⟩:=p;rw[hn]at h;have h1:=(iP hn).1;obtain ⟨k1,k2⟩:=SS HC (fun x=>rQ x.1/\rQ x.2) r.length (fun l x q hb hx=>aA5 hx) n.toNat r xs q (aP0 _) h;exact⟨by omega,k2⟩
def slA(l:List UInt8):Option (AV×List UInt8):=(RX l).map fun p=>(av (gW p.1),p.2)
theorem aAU(l:List UInt8)(hl:l.length<1000000000):BD 51 [LQ] [] l (slA l):=by
 refine BD.of (zG l) rfl (by simp;rfl) ?_;have hnu:=mG l hl;have hli:=fun q (hq:q.length<1000000000)=>SV q hq;have hs:slA l=(match oC l with
  |none=>none
  | some (i,r)=>match vR iW r with
   |none=>none
   |some (a,q)=>match vR iW q with
    |none=>none
    |some (b,p)=>some (.agg [iv i,.pv (bA a),.pv (bA b)],p)):=by
  rw[slA,RX];cases oC l with
  |none=>rfl
  | some p =>
   obtain ⟨i,r⟩:=p;simp only;cases vR iW r with
   |none=>rfl
   |some p =>
    obtain ⟨a,q⟩:=p;simp only;cases vR iW q with
    |none=>rfl
    |some p=>rfl
 rw[hs];rw[xK]at hnu;have hlen:=fun n q=>iP (l:=l) (x:=n) (q:=q);obtain ⟨O,hO⟩:∃O,O=oC l:=⟨_,rfl⟩;rw[<-hO]at hnu hlen |-;clear hO hs;refine eY.body func51 rfl ntmps51 (aP7 rfl) ?_;refine Sr<|Dd (by exact bW (id:=2) rfl aBO rfl rfl)<|Zz<|Sq ?_;rcases O with _|⟨i,q1⟩
 ·have hn:BD 48 [LQ] [] l none:=hnu;refine fU ?_;refine gS rfl rfl rfl (by exact fV rfl rfl) ?_;exact oQ rfl rfl (eE rfl rfl hY rfl (hn.no rfl (fB _))) (fun ch H' h=>by obtain ⟨rfl,q,rfl⟩:=h;exact CF (H':=lD q) (Fin.wk (by simp) (Hb<|trivial) ⟨rfl,trivial⟩) ⟨rfl,rfl,q,rfl⟩)
 have hn:BD 48 [LQ] [] l (some (iv i,q1)):=hnu;have h1:=(hlen i q1 rfl).1;have hl1:=hli q1 (by omega);rw[Y4]at hl1;have hlen2:=fun xs q=>wD (l:=q1) (xs:=xs) (q:=q);simp only;obtain ⟨O,hO⟩:∃O,O=vR iW q1:=⟨_,rfl⟩;rw[<-hO]at hl1 hlen2 |-;clear hO;rcases O with _|⟨a,q2⟩
 ·have hl1:BD 49 [LQ,nxB] [] q1 none:=hl1;refine fU ?_;refine gS rfl rfl rfl (by exact fV rfl rfl) ?_;refine gS rfl rfl rfl (by exact aA rfl rfl hY rfl (hn.yes rfl (fB _))) ?_;refine gS rfl rfl rfl (by exact fV rfl rfl) ?_;refine gS rfl rfl rfl (by exact fV rfl rfl) ?_;refine gS rfl rfl rfl (by exact nJ rfl rfl) ?_;exact oQ rfl rfl (eE rfl rfl A9 rfl (hl1.no rfl (fB _))) (fun ch H' h=>by obtain ⟨rfl,q,rfl⟩:=h;exact CF (H':=lD q) (Fin.wk (by simp) (Hb<|trivial) ⟨rfl,trivial⟩) ⟨rfl,rfl,q,rfl⟩)
 have hl1:BD 49 [LQ,nxB] [] q1 (some (.pv (bA a),q2)):=hl1;have h2:=(hlen2 a q2 rfl).1;have hl2:=hli q2 (by omega);rw[Y4]at hl2;have hlen3:=fun xs q=>wD (l:=q2) (xs:=xs) (q:=q);simp only;obtain ⟨O,hO⟩:∃O,O=vR iW q2:=⟨_,rfl⟩;rw[<-hO]at hl2 hlen3 |-;clear hO;rcases O with _|⟨b,q3⟩
 ·have hl2:BD 49 [LQ,nxB] [] q2 none:=hl2;refine fU ?_;refine gS rfl rfl rfl (by exact fV rfl rfl) ?_;refine gS rfl rfl rfl (by exact aA rfl rfl hY rfl (hn.yes rfl (fB _))) ?_;refine gS rfl rfl rfl (by exact fV rfl rfl) ?_;refine gS rfl rfl rfl (by exact fV rfl rfl) ?_;refine gS rfl rfl rfl (by exact nJ rfl rfl) ?_;refine gS rfl rfl rfl (by exact aA rfl rfl A9 rfl (hl1.yes rfl (fB _))) ?_;refine gS rfl rfl rfl (by exact fV rfl rfl) ?_;refine gS rfl rfl rfl (by exact fV rfl rfl) ?_;refine gS rfl rfl rfl (by exact nJ rfl rfl) ?_;exact oQ rfl rfl (eE rfl rfl A9 rfl (hl2.no rfl (fB _))) (fun ch H' h=>by obtain ⟨rfl,q,rfl⟩:=h;exact CF (H':=lD q) (Fin.wk (by simp) (Hb<|trivial) ⟨rfl,trivial⟩) ⟨rfl,rfl,q,rfl⟩)
 have hl2:BD 49 [LQ,nxB] [] q2 (some (.pv (bA b),q3)):=hl2;refine Rg<|Dd aE<|Dd (by exact aA rfl rfl hY rfl (hn.yes rfl (fB _)))<|Dd aE<|Dd aE<|Dd (by exact nJ rfl rfl)<|Dd (by exact aA rfl rfl A9 rfl (hl1.yes rfl (fB _)))<|Dd aE<|Dd aE<|Dd (by exact nJ rfl rfl)<|Dd (by exact aA rfl rfl A9 rfl (hl2.yes rfl (fB _)))<|Dd (vC aFh)<|Uu (lG sizeOf25)<|Zz<|aB ?_;refine II ?_;refine eG (H':=(lD q3)) (.inr rfl) rfl (gD rfl eC sizeOf25 rfl rfl rfl (by simp only[Zl,encStr];rfl) rfl) (Fin.wk (by simp[NP]) (Hb<|trivial) ⟨rfl,trivial⟩) ?_;exact⟨_,rfl,rfl,rfl⟩
abbrev inO:Ob:=bx 1 82 [LQ]
abbrev inH:aH:=[(4,inO)]
theorem aAo{H:aH}(h:(H.get 980).isSome=true):∀r∈inO.rows,∀a∈r,Clo H a:=by intro r hr a ha;simp only[inO,bx,aPX]at hr;subst hr;rw[aPX]at ha;subst ha;rw[rU];exact h
theorem MT(l:List UInt8):eI (lD l++inH):=eI.ofL ⟨R8 l _,aAo rfl,trivial⟩
def ptA(l:List UInt8):Option (AV×List UInt8):=(HC l).map fun p=>(av (fM p.1),p.2)
theorem aEK(l:List UInt8)(hl:l.length<1000000000):BD 53 [.ref 4 0 0 0] inH l (ptA l):=by
 refine BD.of (MT l) rfl (by simp;rfl) ?_;have hnu:=mG l hl;have hnu2:=fun q (hq:q.length<1000000000)=>mG q hq;have hlen:=fun n q=>iP (l:=l) (x:=n) (q:=q);have hs:ptA l=(match oC l with
  |none=>none
  |some (x,r)=>match oC r with
   |none=>none
   |some (y,q)=>some (.agg [iv x,iv y],q)):=by
  rw[ptA,HC];cases oC l with
  |none=>rfl
  |some p =>
   obtain ⟨i,r⟩:=p;simp only;cases oC r with
   |none=>rfl
   |some p=>rfl
 obtain ⟨x,q1,hx⟩:∃x q1,(oC l).getD (0,l)=(x,q1):=⟨_,_,rfl⟩;obtain ⟨y,q2,hy⟩:∃y q2,(oC q1).getD (0,q1)=(y,q2):=⟨_,_,rfl⟩;have hq1:q1.length<=l.length:=by
  cases e:oC l with
  |none=>rw[e]at hx;cases hx;exact aP0 _
  |some p=>rw[e]at hx;cases hx;exact Nat.le_of_lt (hlen _ _ e).1
 have hx2:(xK l).getD (iv 0,l)=(iv x,q1):=by
  rw[xK];cases e:oC l with
  |none=>rw[e]at hx;cases hx;rfl
  |some p=>rw[e]at hx;cases hx;rfl
 have hy2:(xK q1).getD (iv 0,q1)=(iv y,q2):=by
  rw[xK];cases e:oC q1 with
  |none=>rw[e]at hy;cases hy;rfl
  |some p=>rw[e]at hy;cases hy;rfl
 have hA1:xK l=none->ptA l=none:=fun e=>by
  rw[xK,Option.map_eq_none_iff]at e;rw[hs,e]
 have hA2:(xK l).isSome=true->xK q1=none->ptA l=none:=fun e e2=>by
  rw[xK,Option.map_eq_none_iff]at e2;cases e3:oC l with
  |none=>rw[xK,e3]at e;cases e
  |some p =>
   rw[e3]at hx;cases hx;rw[hs,e3];simp only;rw[e2]
 have hA3:(xK l).isSome=true->(xK q1).isSome=true->ptA l=some (.agg [iv x,iv y],q2):=fun e e2=>by
  cases e3:oC l with
  |none=>rw[xK,e3]at e;cases e
  |some p =>
   rw[e3]at hx;cases hx;rw[hs,e3];simp only;cases e4:oC q1 with
   |none=>rw[xK,e4]at e2;cases e2
   |some p=>rw[e4]at hy;cases hy;rfl
 have hA4:xK q1=none->ptA l=none:=fun e=>by
  cases h:xK l with
  |none=>exact hA1 h
  |some p=>exact hA2 (by rw[h];rfl) e
 clear hs hA2;refine eY.body func53 rfl ntmps53 (aP7 rfl) ?_;refine Sr<|Dd (by exact bW (id:=1) rfl aLi rfl rfl)<|Zz<|Sq ?_;refine vF (fun ch H1 H2=>ptA l=none/\ch=D7/\∃q,H2=lD q++H1) [] [] [4] rfl follows (fun ch E1 H1 H2 hts hsh hks ⟨e,e2,q,e3⟩=>by subst e3;have h4:aH.get (lD q++H1) 4=some inO:=(hks 4 (aPX.2 rfl)).trans rfl;exact CF (H':=lD q++inH) (Fin.wk (by simp) ⟨⟨_,rfl,rfl⟩,R8 _ _,⟨_,h4,rfl⟩,aAo rfl,trivial⟩ ⟨rfl,h4.symm,trivial⟩) ⟨e,e2,q,rfl⟩) ?_;refine cN (r:=⟨_,some [4],[]⟩) (DStep.plain rfl (fun H1 hH=>by exact(by exact aK rfl eB rfl ((hH _ rfl).trans rfl) rfl rfl rfl))) rfl ?_;refine sG (r:=⟨_,some [980],lD q1⟩) (.pan rfl (fun H1 hH=>by exact eE rfl rfl hY rfl ((hnu.tot hx2 ((hH 980 rfl).trans rfl) (fB _)).mono (fun _ _ h=>h) (fun ch H' ⟨e,e2,e3⟩=>⟨hA1 e,e2,e3⟩)))) rfl ?_;refine cN (r:=⟨_,some [4],[]⟩) (DStep.plain rfl (fun H1 hH=>by exact(by exact aK rfl eB rfl ((hH _ rfl).trans rfl) rfl rfl rfl))) rfl ?_;refine sG (r:=⟨_,some [980],lD q2⟩) (.pan rfl (fun H1 hH=>by exact eE rfl rfl hY rfl (((hnu2 q1 (by omega)).tot hy2 ((hH 980 rfl).trans rfl) (fB _)).mono (fun _ _ h=>h) (fun ch H' ⟨e,e2,e3⟩=>⟨hA4 e,e2,e3⟩)))) rfl ?_;refine cN (r:=⟨_,some [],[]⟩) (DStep.plain rfl (fun H1 hH=>by exact JW rfl W0 rfl rfl)) rfl ?_;refine cN (r:=⟨_,some [1],[_]⟩) (DStep.plain rfl (fun H1 hH=>by exact(by exact cM rfl sizeOf68 rfl rfl rfl rfl ((hH _ rfl).trans rfl) rfl rfl rfl))) rfl ?_;refine GD ⟨⟨by kernel_rfl,by kernel_rfl,by kernel_rfl⟩,fun hF=>?_⟩;simp only[TY,true_and,and_true]at hF;refine aB ?_;refine II ?_;refine eG (H':=(lD q2++inH)) (.inr rfl) rfl (gD rfl dS sizeOf68 rfl rfl rfl (by simp only[Zl,encStr];rfl) rfl) (Fin.wk (by simp[NP]) (Hb<|Ha<|trivial) ⟨rfl,rfl,trivial⟩) ?_;exact⟨_,hA3 hF.1 hF.2,rfl,rfl⟩
abbrev ptB:AV:=.clo 53 [.ref 4 0 0 0]
def zI(A:List (Int×Int)):List (List AV):=(A.map fM).map (·.map AV.pv)
theorem YE(A:List (Int×Int)):(zI A).length=A.length:=by simp[zI]
theorem YF(A:List (Int×Int))(p:Int×Int):zI A++[(fM p).map AV.pv]=zI (A++[p]):=by rw[zI,zI,List.map_append,List.map_append];rfl
theorem LU(A:List (Int×Int))(H:aH):∀r∈zI A,∀a∈r,Clo H a:=aAz _ _ _
def SX(l:List UInt8):Option (AV×List UInt8):=(vR HC l).map fun p=>(.pv (rZ p.1),p.2)
theorem aCJ(h:oC l=none):SX l=none:=by rw[SX,vR,h];rfl
theorem aCI(h:oC l=some (n,q)):SX l=(CW HC n.toNat q).map fun p=>(.pv (rZ p.1),p.2):=by rw[SX,vR,h]
theorem aID(l:List UInt8)(hl:l.length<1000000000):BD 52 [LQ,ptB] inH l (SX l):=by
 refine BD.of (MT l) rfl (by simp;exact⟨rfl,rfl⟩) ?_;have hnu:=mG l hl;have hnone:=aCJ (l:=l);have hsome:=fun n q=>aCI (l:=l) (n:=n) (q:=q);have hlen:=fun n q=>iP (l:=l) (x:=n) (q:=q);rw[xK]at hnu;obtain ⟨O,hO⟩:∃O,O=oC l:=⟨_,rfl⟩;rw[<-hO]at hnu hnone hsome hlen;clear hO;refine eY.body func52 rfl ntmps52 (aP7 rfl) ?_;refine Sr<|Dd aL<|Zz<|Sq ?_;rcases O with _|⟨n,q0⟩
 ·rw[hnone rfl];have hn:BD 48 [LQ] [] l none:=hnu;refine fU ?_;refine gS rfl rfl rfl (by exact fV rfl rfl) ?_;exact oQ rfl rfl (eE rfl rfl hY rfl (hn.no rfl (fB _))) (fun ch H' h=>by obtain ⟨rfl,q,rfl⟩:=h;exact CF (H':=lD q++inH) (Fin.wk (by simp) (Hb<|Ha<|trivial) ⟨rfl,rfl,trivial⟩) ⟨rfl,rfl,q,rfl⟩)
 have hn:BD 48 [LQ] [] l (some (iv n,q0)):=hnu;obtain ⟨hq0,hn0,hn1⟩:=hlen n q0 rfl;rw[hsome n q0 rfl];refine Rg<|Dd aE<|Dd (by exact aA rfl rfl hY rfl (hn.yes rfl (fB _)))<|Dd aL<|Zz<|Sr<|Dd (by exact qF (id:=905) (sz:=2) (ty:=68) rfl rfl rfl)<|Zz<|Sq<|Sr<|Dd aE<|Dd aE<|Zz<|aG ?_;refine jA (fun(l':List UInt8) (A:List (Int×Int))=>([(0,LQ),(1,ptB),(6,.osl 905 A.length 0 A.length),(9,iv n),(10,iv (A.length:Int))],(905,⟨A.length,2,68,zI A⟩)::(lD l'++inH))) (fun l' A=>l'.length+A.length<l.length/\A.length<=n.toNat/\CW HC n.toNat q0=(CW HC (n.toNat - A.length) l').map fun p=>(A++p.1,p.2)) (fun l' A=>l'.length) q0 [] ⟨by rw[List.length_nil];omega,aPb _,by simp⟩ ?_ ?_
 ·exact(dA.wk (Ea<|Ea<|Ea<|Eb<|Eb<|trivial) (Hc (LU _ _)<|Hb<|Ha<|trivial) ⟨rfl,rfl,trivial⟩)
 rintro l' A ⟨hl',hA,hR⟩;have hnx:=aEK l' (by omega);have hxl:=fun s q=>aA5 (l:=l') (p:=s) (q:=q);have hmore:=fun h=>VN HC (k:=A.length) rfl h hR;rw[ptA]at hnx;obtain ⟨X,hX⟩:∃X,X=HC l':=⟨_,rfl⟩;rw[<-hX]at hnx hxl hmore;clear hX;refine Sr<|Dd cZ<|Zz<|Sq ?_;refine Cn ?_ ?_<;>intro hc1
 ·have hlt:A.length<n.toNat:=by have:=aPQ hc1;omega
  have hm:=hmore hlt;clear hmore;refine aC<|Sq<|aG ?_;rcases X with _|⟨s,q⟩
  ·have hm:CW HC n.toNat q0=none:=hm;rw[hm];have hnx:BD 53 [.ref 4 0 0 0] inH l' none:=hnx;refine fU ?_;refine gS rfl rfl rfl (by exact fV rfl rfl) ?_;refine gS rfl rfl rfl (by exact fV rfl rfl) ?_;exact oQ rfl rfl (DK rfl rfl call53 rfl (hnx.no rfl (N1.sub ⟨rfl,trivial⟩))) (fun ch H' h=>by obtain ⟨rfl,q,rfl⟩:=h;exact CF (H':=lD q++inH) (Fin.wk (by simp) (Hb<|Ha<|trivial) ⟨rfl,rfl,trivial⟩) ⟨rfl,rfl,q,rfl⟩)
  have hm:CW HC n.toNat q0=(CW HC (n.toNat - (A.length+1)) q).map fun p=>((A++[s])++p.1,p.2):=hm;have hnx:BD 53 [.ref 4 0 0 0] inH l' (some (av (fM s),q)):=hnx;have hxl:=hxl s q rfl;have hnl:(A++[s]).length=A.length+1:=by rw[aPV];rfl
  refine Rg<|Dd aE<|Dd aE<|Dd (by exact BA.opr (DK rfl rfl call53 rfl (eY.of (hnx.yes rfl (N1.sub ⟨rfl,trivial⟩)))))<|Dd (by exact aR [fM s] rfl LG rfl rfl rfl rfl rfl (by intro r hr;rw[aPX]at hr;subst hr;rfl))<|Dd (by exact dL (ps:=[fM s]) rfl LG aOX rfl rfl rfl rfl rfl (YE _) rfl (by intro r hr;rw[aPX]at hr;subst hr;rfl) (m:=1) rfl (by omega) rfl (YF A s))<|Dd aL<|Zz<|Rg<|Dd (by exact bZ rfl rfl rfl (show IntKind.i64.wrap ((A.length:Int)+1)=((A.length+1:Nat):Int)by rw[kK (by omega) (by omega)];omega))<|Dd aE<|Zz ?_;refine⟨q,A++[s],⟨by rw[hnl];omega,by rw[hnl];omega,by rw[hnl];exact hm⟩,by omega,?_⟩;dsimp only;rw[hnl];exact(dA.wk (Ea<|Ea<|Ea<|Eb<|Eb<|trivial) (Hc (LU _ _)<|Hb<|Ha<|trivial) ⟨rfl,rfl,trivial⟩)
 have hge:n.toNat=A.length:=by have:=aPR hc1;omega
 have hR2:CW HC n.toNat q0=some (A,l'):=by rw[hR,hge,Nat.sub_self,CW];simp
 rw[hR2];refine aY<|Sr<|Dd aE<|Dd aL<|Zz<|aB ?_;refine II ?_;refine eG (H':=(lD l'++inH)) (.inr rfl) rfl (bD rfl) (Fin.fz (id:=905) (ob:=⟨A.length,2,68,zI A⟩) (r':=.pv (rZ A)) (A.map fM) rfl rfl (.osl (nC fM _)) rfl ⟨⟨_,rfl,rfl⟩,(by(simp;done)),⟨_,rfl,rfl⟩,(by(simp;rfl)),trivial⟩ ⟨rfl,rfl,trivial⟩) ?_;exact⟨_,rfl,rfl,rfl⟩
def E6(h i:Int):Bool:=((decide (h<0)||decide (8<h))||decide (i<0))||decide (((2 ^ h.toNat:Nat):Int)<=i)
def zS:GSeal:=⟨0,[],[]⟩
def yQ(s:ByteArray)(h i:Int)(m:ByteArray):GSeal×Int:=if E6 h i=true then(zS,1)else(⟨i,E5 s i.toNat m,nI h.toNat (mS s h.toNat) i.toNat⟩,0)
theorem aB8(s m:ByteArray)(h i:Int)(H:aH)(hb:E6 h i=true):aI Tryz.prog 32 [sv s,iv h,iv i,sv m] H (fun r H'=>r=.tup [av (gW zS),iv 1]/\H'=H):=by
 refine Pu ?_;have hsh:decide (h<0)=false->decide (8<h)=false->IntKind.i64.wrap (1*2 ^ h.toNat)=((2 ^ h.toNat:Nat):Int):=fun h1 h2=>by
  have h1:=aPR h1;have h2:=aPR h2;obtain ⟨n,rfl⟩:∃n:Nat,h=(n:Int):=⟨h.toNat,by omega⟩;rw[aP5];have:=aGt (h:=n) (by omega)
  rwa [aP5]at this
 have hbe:E6 h i=(((decide (h<0)||decide (8<h))||decide (i<0))||decide (((2 ^ h.toNat:Nat):Int)<=i)):=rfl;refine Bd func32 rfl ntmps32<|Sr<|Dd (by exact cD (id:=4) rfl rfl rfl rfl rfl)<|Dd (by exact cD (id:=6) rfl rfl rfl rfl rfl)<|Dd (by exact bW (id:=8) rfl aBO rfl rfl)<|Dd aL<|Zz<|Sq<|Sq ?_;refine kH (t:=30) (n:=16) (X:=E6 h i) ?_ ?_
 ·cases hg17:(decide (h<0):Bool)
  ·cases hg21:(decide (8<h):Bool)
   ·cases hg25:(decide (i<0):Bool)
    ·refine aN follows<|Cq aE<|Cq cZ<|Cq aE<|Nf aE<|Nf iE<|Cq nX<|Cq aE<|Nf (bC isAgg3)<|Nf cZ<|Cq nX<|Cq aE<|Nf (bC isAgg3)<|Nf aE<|Nf (by exact FH rfl rfl rfl (by have:=aPR hg17;omega) (by have:=aPR hg21;simp[IntKind.bits];omega) (hsh hg17 hg21))<|Nf DD<|Cq nX<|bL<|Kr ?_;exact⟨rfl,⟨_,rfl,by(rw[hbe,hg17,hg21,hg25];rfl)⟩,rfl,rfl,rfl⟩
    refine aN follows<|Cq aE<|Cq cZ<|Cq aE<|Nf aE<|Nf iE<|Cq nX<|Cq aE<|Nf (bC isAgg3)<|Nf cZ<|Cq nX<|Cq aE<|Of<|Of<|Of<|Of<|Cq wQ<|bL<|Kr ?_;exact⟨rfl,⟨_,rfl,by(rw[hbe,hg17,hg21,hg25];rfl)⟩,rfl,rfl,rfl⟩
   refine aN follows<|Cq aE<|Cq cZ<|Cq aE<|Nf aE<|Nf iE<|Cq nX<|Cq aE<|Of<|Of<|Cq wQ<|Cq aE<|Of<|Of<|Of<|Of<|Cq cG<|bL<|Kr ?_;exact⟨rfl,⟨_,rfl,by(rw[hbe,hg17,hg21];rfl)⟩,rfl,rfl,rfl⟩
  refine aN follows<|Cq aE<|Cq cZ<|Cq aE<|Of<|Of<|Cq wQ<|Cq aE<|Of<|Of<|Cq cG<|Cq aE<|Of<|Of<|Of<|Of<|Cq cG<|bL<|Kr ?_;exact⟨rfl,⟨_,rfl,by(rw[hbe,hg17];rfl)⟩,rfl,rfl,rfl⟩
 refine Cn ?_ ?_<;>intro hc1
 ·refine Sr<|Dd (vC aFh)<|Uu (lG sizeOf25)<|Dd aL<|Zz<|aB ?_;refine vI (H':=[]) (.inr rfl) rfl (gD rfl eC sizeOf25 rfl rfl rfl (by simp only[Zl,encStr];rfl) rfl) (bD rfl) (Fin.wk (by simp[gW]) trivial trivial) ?_;exact Qq
 rw[hb]at hc1;cases hc1
theorem PG(s m:ByteArray)(h i:Int)(H:aH)(hs:s.size<1099511627776)(hm:m.size<1099511627776):aI Tryz.prog 32 [sv s,iv h,iv i,sv m] H (fun r H'=>r=.tup [av (gW (yQ s h i m).1),iv (yQ s h i m).2]/\H'=H):=by
 rw[yQ];by_cases hb:E6 h i=true
 ·rw[aPT hb];exact aB8 s m h i H hb
 rw[aPS hb];have hb:E6 h i=false:=by simpa using hb
 simp only[E6,aPg,aP2]at hb;obtain ⟨⟨⟨h1,h2⟩,h3⟩,h4⟩:=hb;obtain ⟨n,rfl⟩:∃n:Nat,h=(n:Int):=⟨h.toNat,by omega⟩;obtain ⟨k,rfl⟩:∃k:Nat,i=(k:Int):=⟨i.toNat,by omega⟩;rw[aP5]at h4 |-;rw[aP5];exact aGs s m n k H hs hm (by omega) (by omega)
theorem tY{m:ByteArray}{h i:Int}(h1:(yQ s h i m).2=0):FSeal (yQ s h i m).1/\(yQ s h i m).1=⟨i,E5 s i.toNat m,nI h.toNat (mS s h.toNat) i.toNat⟩/\(0<=h/\h<=8)/\0<=i/\i<2 ^ h.toNat:=by
 rw[yQ]at h1 |-
 split at h1
 ·cases h1
 next hb =>
 rw[aPS hb];have hb:E6 h i=false:=by simpa using hb
 simp only[E6,aPg,aP2]at hb;obtain ⟨⟨⟨h1,h2⟩,h3⟩,h4⟩:=hb;have h5:i<2 ^ h.toNat:=by
  have:(((2 ^ h.toNat:Nat):Int))=2 ^ h.toNat:=by push_cast;rfl
  omega
 have hlt:i.toNat<2 ^ h.toNat:=by omega
 have h8:2 ^ h.toNat<=256:=sZ (by omega);exact⟨⟨by show 0<=i;omega,by show i<256;omega,by rw[LI];exact aP0 _,by rw[HD];omega,UM _ _ _,HE _ _ _ (yD _ _) hlt (CX _ _)⟩,rfl,⟨by omega,by omega⟩,by omega,h5⟩
def zR:GRec:=⟨0,0,0,0,sNil,[],[],sNil,false,0,sNil,zS,⟨sNil,sNil,[],[],zS⟩⟩
def BB(r:GRec):GRec:={r with sl:=zS,priv:={r.priv with sl:=zS}}
def AR(r:GRec):GRec×Int:=if(pX r).2≠0 then(zR,(pX r).2)else(r,0)
def mk1(r:GRec)(a:GSeal):GRec:={r with sl:=a,priv:={r.priv with sl:=zS}}
def VM(r:GRec)(a b:GSeal):GRec:={r with sl:=a,priv:={r.priv with sl:=b}}
def FY(r:GRec)(s:ByteArray)(h:Int):GRec×Int :=if eL (BB r)=false then(zR,1)
 else if(yQ s h (2*r.number - 2) (qV (BB r))).2≠0 then(zR,(yQ s h (2*r.number - 2) (qV (BB r))).2)
 else if fG r.priv=true then AR (mk1 r (yQ s h (2*r.number - 2) (qV (BB r))).1)
 else if(yQ s h (2*r.number - 1) (oD (BB r))).2≠0 then(zR,(yQ s h (2*r.number - 1) (oD (BB r))).2)
 else AR (VM r (yQ s h (2*r.number - 2) (qV (BB r))).1 (yQ s h (2*r.number - 1) (oD (BB r))).1)
theorem gK{s:GSeal}(h:FSeal s):rG s:=by have i0:=h.i0;have i1:=h.i1;have l1:=h.sl;have l2:=h.pl;exact⟨⟨by omega,by omega⟩,⟨by omega,fun t ht=>by have:=tJ (h.sa t ht);omega⟩,⟨by omega,fun t ht=>by have:=tJ (h.pa t ht);omega⟩⟩
theorem okZ:rG zS:=gK (jF (by decide))
theorem YX{r:GRec}{a b:GSeal}(h:iA r)(ha:rG a)(hb:rG b):iA (VM r a b):=by obtain ⟨h1,h2,h3,h4,_,p1,p2,p3,p4,_⟩:=h;exact⟨h1,h2,h3,h4,ha,p1,p2,p3,p4,hb⟩
theorem aEd(r:GRec)(s:ByteArray)(h:Int)(hr:iA r)(hp:r.parents.length<549755813888)(hs:s.size<1099511627776)(H:aH):aI Tryz.prog 23 [av (cC r),sv s,iv h] H (fun x H'=>x=.tup [av (cC (FY r s h).1),iv (FY r s h).2]/\H'=H):=by
 refine aI.pure ?_ (by simp[cC]) H;have hr0:iA (BB r):=YX hr okZ okZ;have hv:=fun H=>EV (BB r) hr0 hp H;have hid:=fun H=>QJ (BB r) hr0 hp H;have hem:=fun H=>aAt (mk1 r zS).priv hr0.2.2.2.2.2 H;rw[FY];refine Bd func23 rfl ntmps23<|Sr<|Dd (by exact cD (id:=3) rfl rfl rfl rfl rfl)<|Dd (by exact bW (id:=6) rfl NZ rfl rfl)<|Dd aL<|Zz<|Sr<|Dd (vC aFh)<|Dd (vC aFh)<|Dd (aS kC)<|Uu (by exact lI rfl sizeOf25 rfl rfl rfl rfl rfl rfl rfl (aP7 rfl) rfl rfl)<|Dd (aS eU)<|Dd (aS lR)<|Uu (by exact lI rfl sizeOf25 rfl rfl rfl rfl rfl rfl rfl (aP7 rfl) rfl rfl)<|Zz<|Sq<|Sr<|Dd (pU bQ aQ)<|Dd (by exact aA rfl rfl TW rfl (hv _))<|Dd iQ<|Zz ?_;refine Cn ?_ ?_<;>intro hc1
 ·have hb:=not_not hc1;rw[aPT hb];refine Sr<|Dd (vC W1)<|Uu (lG aQ)<|Dd aL<|Zz<|aB ?_;refine vI (H':=[]) (.inr rfl) rfl (gD rfl bQ aQ rfl rfl rfl (by simp only[Zl,encStr];rfl) rfl) (bD rfl) (Fin.wk (by simp[cC]) trivial trivial) ?_;exact Qq
 have hb:=qJ hc1;rw[aPS (by rw[hb];decide)];have hf:=lZ hb;have hnu:=hf.nu;have hnr:(BB r).number=r.number:=rfl;rw[hnr]at hnu;have hme:=fun H=>P8 (BB r) hr0 hp hb H;have hms:(oD (BB r)).size=16:=jJ _;have his:=F2 (BB r);obtain ⟨i0,hi0⟩:∃i0,i0=qV (BB r):=⟨_,rfl⟩;obtain ⟨m0,hm0⟩:∃m0,m0=oD (BB r):=⟨_,rfl⟩;rw[<-hi0]at hid his |-;rw[<-hm0]at hme hms |-;have hs1:=fun H=>PG s i0 h (2*r.number - 2) H hs (by omega);have hs2:=fun H=>PG s m0 h (2*r.number - 1) H hs (by omega);have ho1:=tY (s:=s) (m:=i0) (h:=h) (i:=2*r.number - 2);have ho2:=tY (s:=s) (m:=m0) (h:=h) (i:=2*r.number - 1);obtain ⟨A,hA⟩:∃A,A=yQ s h (2*r.number - 2) i0:=⟨_,rfl⟩;obtain ⟨B,hB⟩:∃B,B=yQ s h (2*r.number - 1) m0:=⟨_,rfl⟩;rw[<-hA]at hs1 ho1 |-;rw[<-hB]at hs2 ho2 |-;clear hA hB;refine aC<|Sq<|aN follows<|Cq (pU bQ aQ)<|Cq (by exact aA rfl rfl GZ rfl (hid _))<|Cq (pU bQ aQ)<|Cq (by exact aA rfl rfl call82 rfl (hme _))<|Cq aL<|Cq aL<|bL<|Kr<|Sr<|Dd aL<|Zz<|Sq<|Sr<|Dd aE<|Dd aE<|Dd (aS lP)<|Dd (bC isAgg3)<|Dd (by exact kO rfl rfl rfl (kK (by omega) (by omega)))<|Dd (by exact dW rfl rfl rfl (kK (by omega) (by omega)))<|Dd aE<|Dd (by exact aA rfl rfl call32 rfl (hs1 _))<|Dd aE<|Dd fS<|Dd fS<|Dd (aS kC)<|Uu (by exact lI rfl sizeOf25 rfl rfl rfl rfl rfl rfl rfl (aP7 rfl) rfl rfl)<|Dd aL<|Zz<|Sr<|Dd aE<|Dd xY<|Zz ?_;refine Cn ?_ ?_<;>intro hc2
 ·have hne:A.2≠0:=by have:=hc2;intro e;rw[e]at this;exact absurd this (by decide)
  rw[aPT hne];refine Sr<|Dd (vC W1)<|Dd aE<|Uu (lG aQ)<|Dd aL<|Zz<|aB ?_;refine vI (H':=[]) (.inr rfl) rfl (gD rfl bQ aQ rfl rfl rfl (by simp only[Zl,encStr];rfl) rfl) (bD rfl) (Fin.wk (by simp[cC]) trivial trivial) ?_;exact Qq
 have heq:A.2=0:=by have:=hc2;by_cases e:A.2=0;exact e;rw[decide_eq_false e]at this;cases this
 rw[aPS (by rw[heq];decide)];have ho1:=(ho1 heq).1;obtain ⟨X,hX⟩:∃X,X=(if fG r.priv=true then AR (mk1 r A.1)else if B.2≠0 then(zR,B.2)else AR (VM r A.1 B.1)):=⟨_,rfl⟩;rw[<-hX];have hX1:fG r.priv=true->X=AR (VM r A.1 zS):=fun e=>by rw[hX,aPT e];rfl
 have hX2:fG r.priv=false->B.2≠0->X=(zR,B.2):=fun e e2=>by rw[hX,aPS (by rw[e];decide),aPT e2]
 have hX3:fG r.priv=false->B.2=0->X=AR (VM r A.1 B.1):=fun e e2=>by rw[hX,aPS (by rw[e];decide),aPS (by rw[e2];decide)]
 have hee:fG (mk1 r zS).priv=fG r.priv:=rfl;rw[hee]at hem;clear hX;obtain ⟨em,hemE⟩:∃em,em=fG r.priv:=⟨_,rfl⟩;rw[<-hemE]at hem hX1 hX2 hX3;refine aC ?_;refine fJ (fun(b:GSeal)=>([(3,.ref 3 0 0 0),(6,.ref 6 0 0 0)],[(6,bx 21 30 ((cC zR).map .pv)),(3,bx 21 30 ((cC (VM r A.1 b)).map .pv))])) (fun b=>rG b/\X=AR (VM r A.1 b)) ?_ ?_
 ·refine Sr<|Dd (aS eU)<|Dd (pU iH sizeOf28)<|Dd (by exact aA rfl rfl TS rfl (hem _))<|Dd iQ<|Zz ?_;refine Cn ?_ ?_<;>intro hc3
  ·have he:=not_not hc3;refine Sr<|Dd aE<|Dd aE<|Dd (aS lP)<|Dd (bC isAgg3)<|Dd (by exact kO rfl rfl rfl (kK (by omega) (by omega)))<|Dd (by exact dW rfl rfl rfl (kK (by omega) (by omega)))<|Dd aE<|Dd (by exact aA rfl rfl call32 rfl (hs2 _))<|Dd aE<|Dd fS<|Dd fS<|Dd (aS eU)<|Dd (aS lR)<|Uu (by exact lI rfl sizeOf25 rfl rfl rfl rfl rfl rfl rfl (aP7 rfl) rfl rfl)<|Dd aL<|Zz<|Sr<|Dd aE<|Dd xY<|Zz ?_;refine Cn ?_ ?_<;>intro hc4
   ·have hne:B.2≠0:=by have:=hc4;intro e;rw[e]at this;exact absurd this (by decide)
    rw[hX2 he hne];refine Sr<|Dd (vC W1)<|Dd aE<|Uu (lG aQ)<|Dd aL<|Zz<|aB ?_;refine vI (H':=[]) (.inr rfl) rfl (gD rfl bQ aQ rfl rfl rfl (by simp only[Zl,encStr];rfl) rfl) (bD rfl) (Fin.wk (by simp[cC]) trivial trivial) ?_;exact Qq
   have heq:B.2=0:=by have:=hc4;by_cases e:B.2=0;exact e;rw[decide_eq_false e]at this;cases this
   refine aC ?_;exact⟨B.1,⟨gK (ho2 heq).1,hX3 he heq⟩,Wk⟩
  have he:=qJ hc3;refine aC ?_;exact⟨zS,⟨okZ,hX1 he⟩,Wk⟩
 rintro b ⟨hb2,hX2⟩;rw[hX2,AR];have htx:=fun H=>RN (VM r A.1 b) (YX hr (gK ho1) hb2) hp H;obtain ⟨T,hT⟩:∃T,T=pX (VM r A.1 b):=⟨_,rfl⟩;rw[<-hT]at htx |-;refine Sq<|Sr<|Dd (pU bQ aQ)<|Dd (by exact aA rfl rfl aPH rfl (htx _))<|Dd aE<|Dd fS<|Dd fS<|Dd aL<|Dd aL<|Zz<|Sr<|Dd aE<|Dd xY<|Zz ?_;refine Cn ?_ ?_<;>intro hc5
 ·have hne:T.2≠0:=by have:=hc5;intro e;rw[e]at this;exact absurd this (by decide)
  rw[aPT hne];refine Sr<|Dd (vC W1)<|Dd aE<|Uu (lG aQ)<|Dd aL<|Zz<|aB ?_;refine vI (H':=[]) (.inr rfl) rfl (gD rfl bQ aQ rfl rfl rfl (by simp only[Zl,encStr];rfl) rfl) (bD rfl) (Fin.wk (by simp[cC]) trivial trivial) ?_;exact Qq
 have heq:T.2=0:=by have:=hc5;by_cases e:T.2=0;exact e;rw[decide_eq_false e]at this;cases this
 rw[aPS (by rw[heq];decide)];refine aC<|Sr<|Dd (pU bQ aQ)<|Uu (lG aQ)<|Dd aL<|Zz<|aB ?_;refine vI (H':=[]) (.inr rfl) rfl (gD rfl bQ aQ rfl rfl rfl (by simp only[Zl,encStr];rfl) rfl) (bD rfl) (Fin.wk (by simp[cC]) trivial trivial) ?_;exact Qq
abbrev eOJ(e:Int):Ob:=bx 1 41 [iv e]
abbrev rOJ(x:GRec):Ob:=bx 21 30 ((cC x).map .pv)
abbrev YL(x:GRec)(e:Int):aH:=[(3,eOJ e),(2,rOJ x)]
abbrev eAJ:Ob:=bx 1 41 [.any]
abbrev rAJ:Ob:=bx 21 30 [.any,.any,.any,.any,.any,.any,.any,.any,.any,.any,.any,.any,.any,.any,.any,.any,.any,.any,.any,.any,.any]
abbrev pAJ:aH:=[(3,eAJ),(2,rAJ)]
abbrev dcJ:List AV:=[.ref 2 0 0 0,.ref 3 0 0 0]
theorem aKK(x:GRec)(e:Int):TZ Tryz.prog 46 dcJ (YL x e) .returning (fun H2=>H2=YL x e):=by
 refine GM (x:=HL) (vx:=.nilIface) func46 rfl ntmps46 (aP7 rfl) rfl rfl rfl rfl rfl rfl (fun w I=>.sat rfl rfl) (.inl ⟨rfl,rfl⟩) ?_;refine NI ?_;refine GH ?_;refine pT ?_;refine JL rfl rfl rfl (by exact YT rfl GY rfl) ?_;refine C7 ?_;refine IF rfl (fun hc1=>?_) (fun hc1=>?_)
 ·refine pT ?_;refine JL rfl rfl rfl (by exact uG rfl rfl) ?_;refine C7 ?_;exact⟨.inl rfl,YL x e,Fin.wk (by simp) (Hb<|Hb<|trivial) ⟨rfl,rfl,trivial⟩,rfl⟩
 cases hc1
theorem aKL:TZ Tryz.prog 46 dcJ pAJ (.panicking D7) (fun H2=>H2=YL zR 5):=by
 refine GM (x:=.ifa 81 []) (vx:=.iface 81 (.agg #[])) func46 rfl ntmps46 (aP7 rfl) rfl rfl rfl rfl rfl rfl (fun w I=>.ifa _ _ _ rfl (by simp)) (.inr ⟨_,rfl,rfl⟩) ?_;refine NI ?_;refine GH ?_;refine pT ?_;refine JL rfl rfl rfl (by exact YU rfl GY rfl) ?_;refine C7 ?_;refine IF rfl (fun hc1=>?_) (fun hc1=>?_)
 ·cases hc1
 refine GH ?_;refine pT ?_;refine JL rfl rfl rfl (by exact LW rfl (dQ xA rfl) rfl) ?_;refine JL rfl rfl rfl (by exact sC rfl rfl rfl) ?_;refine JL rfl rfl rfl (by exact sC rfl rfl rfl) ?_;refine C7 ?_;refine IF rfl (fun hc2=>?_) (fun hc2=>?_)
 ·refine GH ?_;refine pT ?_;refine JL rfl rfl rfl (by exact YW rfl aGG) ?_;refine aGB rfl rfl (by exact YR rfl rfl rfl sizeOf81) ?_;refine C7 ?_;refine pT ?_;refine JL rfl rfl rfl (by exact JW rfl W1 rfl rfl) ?_;refine aGB rfl rfl (by exact cM rfl aQ rfl rfl rfl rfl rfl rfl rfl rfl) ?_;refine aGB rfl rfl (by exact cM rfl sizeOf41 rfl rfl rfl rfl rfl rfl rfl rfl) ?_;refine C7 ?_;exact⟨.inl rfl,YL zR 5,Fin.wk (by simp) (Hb<|Hb<|trivial) ⟨rfl,rfl,trivial⟩,rfl⟩
 cases hc2
theorem aKm(s:ByteArray)(hs:s.size<1099511627776)(hok:(iZ s).2.1=0):aI Tryz.prog 157 [sv s] [] (fun r H'=>r=.tup [.osl 905 (iZ s).1.length 0 (iZ s).1.length,iv 0,iv (iZ s).2.2]/\H'=[(905,⟨(iZ s).1.length,3,187,kR (iZ s).1⟩)]):=by
 refine Bd func157 rfl ntmps157<|Sr<|Dd (by exact bW (id:=2) rfl aJB rfl rfl)<|Dd (by exact bW (id:=3) rfl aJg rfl rfl)<|Dd (by exact bW (id:=4) rfl zo3 rfl rfl)<|Zz<|Sq<|Sr<|Dd aE<|Dd (jV underlying9)<|Dd iE<|Zz ?_;refine Cn ?_ ?_<;>intro hc1
 ·have e:iZ s=([],2,-1):=by rw[iZ,aPT (by have:=aPQ hc1;omega)]
  rw[e]at hok;exact absurd hok (by decide)
 have hsz:¬ 20000<s.size:=by have:=aPR hc1;omega
 obtain ⟨ds,hds⟩:∃ds,ds=nL s (s.size+1) 0:=⟨_,rfl⟩;have hg:iZ s=mL [] ds:=by rw[iZ,aPS hsz,hds]
 refine aC<|Sr<|Dd (by exact bW (id:=5) rfl aDE rfl rfl)<|Zz<|Sq<|Sr<|Dd aE<|Dd (by exact aA rfl rfl call197 rfl (UD s _ rfl rfl rfl (eI.ofL ⟨(by(simp;done)),(by(simp;done)),(by(simp;done)),(by(simp;done)),trivial⟩)))<|Zz<|aG ?_;refine gR.ent (E':=[(2,.ref 2 0 0 0),(3,.ref 3 0 0 0),(4,.ref 4 0 0 0),(5,.ref 5 0 0 0),(11,.clo 237 [.ref 921 0 0 0,.ref 924 0 0 0])]) (H':=[(905,⟨0,3,187,[]⟩),(5,bx 1 182 [.osl 905 0 0 0]),(924,tA),(923,tC),(921,tS s),(4,bx 1 3 [iv 0]),(3,bx 1 41 [iv 0]),(2,bx 1 182 [.pv (.sl [])])]) ?_ ?_
 ·exact(dA.nz 905 3 187 rfl rfl ⟨⟨_,rfl,(by exact Nz.same (by(simp;rfl)))⟩,⟨_,rfl,(by exact Nz.same (by(simp;rfl)))⟩,⟨_,rfl,(by exact Nz.same (by(simp;rfl)))⟩,⟨_,rfl,(by exact Nz.same (by(simp;rfl)))⟩,⟨_,rfl,(by exact Nz.same (by(simp;exact⟨rfl,rfl⟩)))⟩,trivial⟩ ⟨⟨_,rfl,rfl,rfl,rfl,(by exact .inr ⟨_,_,rfl,rfl,(by repeat(first|exact trivial|refine⟨(by exact Nz.own),?_⟩))⟩)⟩,⟨_,rfl,rfl,rfl,rfl,(by exact .inl ⟨rfl,(by exact pZ rfl rfl)⟩)⟩,⟨_,rfl,rfl,rfl,rfl,(by exact .inl ⟨rfl,(by exact iO _)⟩)⟩,⟨_,rfl,rfl,rfl,rfl,(by exact .inl ⟨rfl,(by exact pY _ _)⟩)⟩,⟨_,rfl,rfl,rfl,rfl,(by exact .inl ⟨rfl,(by(simp;done))⟩)⟩,⟨_,rfl,rfl,rfl,rfl,(by exact .inl ⟨rfl,(by(simp;done))⟩)⟩,⟨_,rfl,rfl,rfl,rfl,(by exact .inl ⟨rfl,(by(simp;done))⟩)⟩,trivial⟩ trivial)
 have hdl:ds.length<=s.size+1:=by rw[hds];exact BI s _ _
 obtain ⟨j,hj⟩:∃j,j=vQ (qH ds) ds.length 0:=⟨_,rfl⟩;have hj1:j<=ds.length:=by have:=(E8 (qH ds) ds.length 0).2;omega
 have hj2:∀k,k<j->qH ds k=true:=fun k hk=>FA (qH ds) ds.length 0 k (aPb _) (by rw[<-hj];exact hk);have hj3:j<ds.length->qH ds j=false:=fun h=>by have:=xQ (qH ds) ds.length 0 (by omega);rwa [<-hj]at this
 have hrun:=HS hj1 hj2;refine C6 (id:=904) (p:=12) sD rfl call237 rfl rfl (by simp[sD];exact⟨rfl,rfl,rfl,rfl⟩) ?_;intro x hx1 hx2 hx3 hx4 hx5 hx6;have hround:∀(k:Nat) (d:GFound),ds[k]?=some d->k<=j ->
   dK Tryz.prog (.yld 904 0) [.agg ((GA d).map .pv)] ((904,LR x sD)::(926,tF d)::kL s (ds.take k) (.pv (.sl [])) 0 0) (fun r H'=>r=bv (qH ds k)/\H'=(if qH ds k then(904,LR x sD)::(926,tF d)::kL s (ds.take (k+1)) (.pv (.sl [])) 0 0 else(904,LR (left x .ret) sD)::(926,tF d)::kL s (ds.take k) (.pv (.sl [])) (if d.err≠0 then d.err else 2) d.pos)):=by
  intro k d hd hkj;have hok:=FR hd;have hkl:k<ds.length:=(aPY.1 hd).1;have htl:(ds.take k).length=k:=by rw[aP8];omega
  have hnx:ds.take (k+1)=ds.take k++[d]:=by rw[List.take_add_one,hd];rfl
  refine .inl ⟨904,0,rfl,?_⟩;refine RG [(2,.ref 2 0 0 0),(3,.ref 3 0 0 0),(4,.ref 4 0 0 0),(5,.ref 5 0 0 0),(6,.ref 907 0 0 0)] ((907,tF d)::(926,tF d)::kL s (ds.take k) (.pv (.sl [])) 0 0) hx1 hx2 hx3 hx4 hx5 hx6 rfl rfl rfl ?_ ?_
  ·refine Rg<|Dd (by exact bW (id:=907) rfl aDF rfl rfl)<|Uu (lG ES)<|Zz ?_;exact(dA.wk (Ea<|Ea<|Ea<|Ea<|Ea<|trivial) (Hc (lC (by simp[sD];exact⟨rfl,rfl,rfl,rfl⟩))<|Hc (wN _ _)<|Hc (wN _ _)<|Hc (cR _ _)<|Ha<|Hc (pZ rfl rfl)<|Hc (iO _)<|Hc (pY _ _)<|Hb<|Hb<|Hb<|trivial) ⟨rfl,rfl,rfl,rfl,rfl,rfl,rfl,rfl,rfl,rfl,trivial⟩)
  refine aG<|Sq<|aG<|Sr<|Dd (aS qR)<|Dd (bC kY)<|Dd xY<|Da ?_;refine Cn ?_ ?_<;>intro hc2
  ·have he:d.err≠0:=by have h:=hc2;rw[aPd,aP2]at h;exact h
   have h0:qH ds k=false:=by rw[hok,decide_eq_false he];rfl
   rw[h0,aPS (by decide),aPT he];refine Sq<|aN follows<|Cr [907] (fun _ h=>fh qR h)<|Cr [907] (fun _ h=>lh kY h)<|Cr [907] (fun _ h=>fh mU h)<|Cr [907] (fun _ h=>fh KJ h)<|Cr [907] (fun _ h=>lh isAgg3 h)<|Cp [2] (fun H1 hH=>by exact cM rfl lX rfl rfl rfl rfl ((hH _ rfl).trans rfl) rfl rfl rfl)<|Cp [3] (fun H1 hH=>by exact cM rfl sizeOf41 rfl rfl rfl rfl ((hH _ rfl).trans rfl) rfl rfl rfl)<|Cp [4] (fun H1 hH=>by exact cM rfl sizeOf3 rfl rfl rfl rfl ((hH _ rfl).trans rfl) rfl rfl rfl)<|bL<|Kr<|aB ?_;exact⟨(926,tF d)::kL s (ds.take k) (.pv (.sl [])) d.err d.pos,(dA.wk trivial (Hc (lC (by simp[sD];exact⟨rfl,rfl,rfl,rfl⟩))<|Hc (wN _ _)<|Hc (cR _ _)<|Ha<|Hc (pZ rfl rfl)<|Hc (iO _)<|Hc (pY _ _)<|Hb<|Hb<|Hb<|trivial) ⟨rfl,rfl,rfl,rfl,rfl,rfl,rfl,rfl,rfl,rfl,trivial⟩),rfl,rfl⟩
  have he:d.err=0:=by have h:=hc2;rw[Bool.not_eq_false',aP1]at h;exact h
  refine Sr<|Dd (bC lE)<|Dd (by exact eF rfl gY rfl rfl rfl)<|Dd cK<|Da ?_;refine Cn ?_ ?_<;>intro hc3
  ·have hk5:k=5000:=by have:=aPQ hc3;omega
   have h0:qH ds k=false:=by rw[hok,decide_eq_true he,decide_eq_true hk5];rfl
   rw[h0,aPS (by decide),aPS (fun h=>h he)];refine Sq<|aN follows<|Cr [907] (fun _ h=>fh mU h)<|Cr [907] (fun _ h=>fh KJ h)<|Cr [907] (fun _ h=>lh isAgg3 h)<|Cp [2] (fun H1 hH=>by exact cM rfl lX rfl rfl rfl rfl ((hH _ rfl).trans rfl) rfl rfl rfl)<|Cp [3] (fun H1 hH=>by exact cM rfl sizeOf41 rfl rfl rfl rfl ((hH _ rfl).trans rfl) rfl rfl rfl)<|Cp [4] (fun H1 hH=>by exact cM rfl sizeOf3 rfl rfl rfl rfl ((hH _ rfl).trans rfl) rfl rfl rfl)<|bL<|Kr<|aB ?_;exact⟨(926,tF d)::kL s (ds.take k) (.pv (.sl [])) 2 d.pos,(dA.wk trivial (Hc (lC (by simp[sD];exact⟨rfl,rfl,rfl,rfl⟩))<|Hc (wN _ _)<|Hc (cR _ _)<|Ha<|Hc (pZ rfl rfl)<|Hc (iO _)<|Hc (pY _ _)<|Hb<|Hb<|Hb<|trivial) ⟨rfl,rfl,rfl,rfl,rfl,rfl,rfl,rfl,rfl,rfl,trivial⟩),rfl,rfl⟩
  have hk5:¬ k=5000:=by have:=aPR hc3;omega
  have h0:qH ds k=true:=by rw[hok,decide_eq_true he,decide_eq_false hk5];rfl
  rw[h0,aPT rfl,hnx,aEu];refine aC<|Rg<|Dd (bC lE)<|Dd (aS mU)<|Dd (pU XK sizeOf187)<|Dd (by exact aR [eS d] rfl nW rfl rfl rfl rfl rfl (by intro r hr;rw[aPX]at hr;subst hr;rfl))<|Dd (by exact dL (ps:=[eS d]) rfl nW aFX rfl rfl rfl rfl rfl (yU _) rfl (by intro r hr;rw[aPX]at hr;subst hr;rfl) (m:=1) rfl (by omega) rfl (DZ (ds.take k) d))<|Uu (lG lX)<|Zz ?_;exact⟨(926,tF d)::[(905,⟨(ds.take k).length+1,3,187,kR (ds.take k++[d])⟩),(5,bx 1 182 [.osl 905 ((ds.take k).length+1) 0 ((ds.take k).length+1)]),(924,tA),(923,tC),(921,tS s),(4,bx 1 3 [iv 0]),(3,bx 1 41 [iv 0]),(2,bx 1 182 [.pv (.sl [])])],(dA.wk trivial (Hc (lC (by simp[sD];exact⟨rfl,rfl,rfl,rfl⟩))<|Hc (wN _ _)<|Hc (cR _ _)<|Ha<|Hc (pZ rfl rfl)<|Hc (iO _)<|Hc (pY _ _)<|Hb<|Hb<|Hb<|trivial) ⟨rfl,rfl,rfl,rfl,rfl,rfl,rfl,rfl,rfl,rfl,trivial⟩),rfl,rfl⟩
 rcases Nat.lt_or_ge j ds.length with hlt|hge
 ·obtain ⟨f,hf⟩:=aU hlt;have hbad:=hj3 hlt;have hdj:ds.drop j=f::ds.drop (j+1):=by
   rw[List.drop_eq_getElem_cons hlt];rw[aPZ hlt]at hf;cases hf;rfl
  have hres:iZ s=([],(if f.err≠0 then f.err else 2),(f.pos:Int)):=by
   rw[hg,hrun,hdj,mL]
   split
   ·rfl
   rename_i he;have he0:f.err=0:=by
    by_cases h:f.err=0
    ·exact h
    exact absurd h he
   rw[FR hf,decide_eq_true he0,Bool.true_and,Bool.not_eq_false',aP1]at hbad;rw[aPT (by rw[aP8];omega)]
  rw[hres]at hok;have hok:(if f.err≠0 then f.err else 2)=0:=hok
  split at hok
  ·next h=>exact absurd hok h
  exact absurd hok (by decide)
 have hje:j=ds.length:=Nat.le_antisymm hj1 hge;rw[hje,List.take_length,List.drop_length]at hrun;rw[hg,hrun,mL];refine(G5 s (.yld 904 0) (fun k=>(904,LR x sD)::kL s (ds.take k) (.pv (.sl [])) 0 0) (qH ds) ds.length hs (fun k=>rfl) (fun k=>rfl) (fun k=>rfl) (fun k=>rfl) (fun k=>(eI.ofL ⟨(by exact lC (by simp[sD];exact⟨rfl,rfl,rfl,rfl⟩)),(by exact cR _ _),(by(simp;rfl)),(by exact pZ rfl rfl),(by exact iO _),(by exact pY _ _),(by(simp;done)),(by(simp;done)),(by(simp;done)),trivial⟩)) (fun k=>by simp;rfl) (by rw[<-hds];exact aP0 _) (fun k hk=>hj2 k (by omega)) (.inl (by rw[<-hds])) ?_).mono ?_
 ·rw[<-hds];intro k d hd hk;have hr:=hround k d hd (by omega);have hok:=hj2 k (by omega);rw[hok,aPT rfl]at hr;rw[hok];exact dK.congrG hr (fun j=>oN (by decide) j) (fun j=>oN (by decide) j)
 rintro r H' ⟨rfl,rfl⟩;rw[List.take_length];refine⟨x,_,rfl,by rw[hx1];decide,rfl,fun z=>?_⟩;rw[hx2];refine Sr<|Dd (bC lE)<|Uu (lG lX)<|Uu (lG sizeOf41)<|Uu (lG sizeOf3)<|Zz<|aB ?_;refine A1 (H':=[(905,⟨ds.length,3,187,kR ds⟩)]) (.inr rfl) rfl (gG rfl lE rfl rfl rfl rfl) (gG rfl kY rfl rfl rfl rfl) (gG rfl isAgg3 rfl rfl rfl rfl) (Fin.wk (by(simp;rfl)) (Hc (cR _ _)<|trivial) trivial) ?_;exact Qq
theorem aKl(s:ByteArray)(H:aH)(hs:s.size<1099511627776)(hok:(iZ s).2.1=0)(hH:H.get 905=none):aI Tryz.prog 157 [sv s] H (fun r H'=>r=.tup [.osl 905 (iZ s).1.length 0 (iZ s).1.length,iv 0,iv (iZ s).2.2]/\H'=(905,⟨(iZ s).1.length,3,187,kR (iZ s).1⟩)::H) :=aI.frame (aKm s hs hok) (fun _ _ h=>by cases h) (fun _ _ h=>by cases h) (by simp) (fun id h=>.inr (by
  by_cases e:id=905
  ·rw[e];exact hH
  rw[get_cons_other _ _ e]at h;cases h))
theorem FB(f:α->List PV)(l:List α):l.map (fun e=>(f e).map AV.pv)=(l.map f).map (·.map .pv):=by rw[List.map_map];rfl
theorem tR(f:α->List PV)(l:List α):((l.map f).take (0+l.length)).drop 0=l.map f:=by rw[aPc,List.drop_zero];exact List.take_of_length_le (by rw[aPU];exact aP0 _)
theorem aCP(f:GFound)(H:aH):aI Tryz.prog 232 [av (eS f)] H (fun r H'=>r=bv (iR f)/\H'=H):=by
 refine Pu ?_;refine Bd func232 rfl ntmps232<|Sr<|Dd (by exact cD (id:=1) rfl rfl rfl rfl rfl)<|Dd aL<|Zz<|Sq ?_;refine aT (t:=2) (n:=10) (X:=iR f) ?_ ?_
 ·all_goals refine Dd (aS lT) ?_
  all_goals refine Dd (bC isAgg9)<|Dd zE<|Dm ?_
  all_goals refine Sp 6 (fun h6=>?_) fun h6=>?_
  all_goals try contradiction
  all_goals first|refine Fo<|Fo<|Fo ?_|refine On (aS F7)<|On (bC isAgg3)<|On cK ?_
  all_goals refine Dd cG<|Da ?_
  all_goals(exact⟨⟨_,rfl,by(simp only[iR, *];rfl)⟩,rfl,rfl,rfl⟩)
 exact aB<|Rt<|Qq
theorem HW(l:List GFound)(H:aH)(hl:l.length<4611686018427387904):
  aI Tryz.prog 231 [.pv (RV l),.pv (.fn 232)] H (fun r H'=>r=iv (wT iR l)/\H'=H):=by
 refine Pu ?_;have hml:(l.map eS).length=l.length:=aPU _;refine Bd func231 rfl ntmps231<|Sr<|Dd aL<|Zz<|Sq<|Sr<|Dd aE<|Dd (fE gY)<|Dd aE<|Zz<|aG ?_;refine bT (σ:=Nat) (fun k=>([(0,.pv (RV l)),(1,.pv (.fn 232)),(7,iv ((l.map eS).length:Int)),(8,iv (k:Int))],[])) (fun k=>k<=l.length/\∀j,j<k->∀b,l[j]?=some b->iR b=false) (fun k=>l.length - k) 0 ⟨by omega,by omega⟩ ?_ ?_
 ·exact E0
 rintro k ⟨hk,hno⟩;refine Sr<|Dd cZ<|Zz<|Sq ?_;refine Cn ?_ ?_<;>intro hc1
 ·have hlt:k<l.length:=by have:=aPQ hc1;omega
  obtain ⟨o,ho⟩:=aU hlt;have hi:=cJ (f:=eS) ho;refine aC<|Sq<|aG<|Sr<|Dd aE<|Dd aL<|Zz<|Sr<|Dd aE<|Dd aE<|Dd aE<|Dd (mE nW)<|Dd (by exact dN rfl XK sizeOf187 rfl (by omega) (by simp only[Zl,bJ,bS,encStr,jH,eS];rfl) rfl)<|Dd (by exact cU rfl rfl rfl (dK.fn call232 (aCP o _)))<|Zz ?_;refine Cn ?_ ?_<;>intro hc2
  ·refine Sr<|Dd aE<|Dd aL<|Zz<|aB<|Rt ?_;exact⟨by rw[wT,QP hno ho hc2],rfl⟩
  refine aC<|Rg<|Dd mI<|Dd aE<|Zz ?_;exact⟨k+1,⟨by omega,uE hno ho hc2⟩,by omega,E0⟩
 have hge:k=l.length:=by have:=aPR hc1;omega
 subst hge;refine aY<|Sr<|Dd aL<|Zz<|aB<|Rt ?_;exact⟨by rw[wT,QR hno],rfl⟩
def FG(T:List GFound)(k:Nat):List GFound:=T++List.replicate k noF
theorem FF(T:List GFound)(k:Nat):(FG T k).length=T.length+k:=by rw[FG,aPV,List.length_replicate]
theorem aEL(T:List GFound)(k:Nat):kR (FG T k)++[(eS noF).map AV.pv]=kR (FG T (k+1)):=by rw[DZ,FG,FG,List.replicate_succ',List.append_assoc]
def kF(s:ByteArray):Nat->Int
 |0=>0
 |j+1=>if eO ((j+1:Nat):Int)=s then((j+1:Nat):Int)else kF s j
theorem aIK(s:ByteArray):kF s 5=JB s:=by simp only[kF,JB,eq_comm (a:=s)];rfl
theorem K6:∀l:List GFound,oJ l=eR l (l.length / 3)
 | []=>by simp[oJ,eR]
 | [a]=>by simp[oJ,eR]
 | [a,b]=>by simp[oJ,eR]
 |a::b::c::r=>by
  rw[oJ,K6 r];have h1:(a::b::c::r).length=r.length+3:=rfl;rw[h1,Nat.add_div_right _ (by decide),eR,eR,List.range_succ_eq_map,List.map_cons,List.map_map];rfl
theorem aFw(s:ByteArray):atV s=(nY s).1:=by rw[atV,nY];cases h:Lib.atoiAll s.data.toList<;>rfl
abbrev oR(id:ByteArray)(k x y:Int)(n m:Nat):Ob:=bx 6 151 [sv id,iv k,iv x,iv y,.osl 906 n 0 n,.osl 907 m 0 m]
def T1(L:List GFound):Ob:=⟨L.length,3,187,kR L⟩
def rH(L:List GFound)(id:ByteArray)(k x y:Int)(R:List ByteArray)(G:List GTag):aH:=[(907,⟨G.length,2,199,sX G⟩),(906,⟨R.length,1,9,dF R⟩),(3,oR id k x y R.length G.length),(905,T1 L),(2,bx 6 151 ((bS zObj).map .pv))]
abbrev rE(L:List GFound):dB:=[(0,.osl 905 L.length 0 L.length),(2,.ref 2 0 0 0),(3,.ref 3 0 0 0)]
theorem aOB(L:List GFound)(id:ByteArray)(k x y:Int)(R:List ByteArray)(s:ByteArray)(G:List GTag):rH L id k x y (R++[s]) G=[(907,⟨G.length,2,199,sX G⟩),(906,⟨R.length+1,1,9,dF (R++[s])⟩),(3,oR id k x y (R.length+1) G.length),(905,T1 L),(2,bx 6 151 ((bS zObj).map .pv))]:=by simp[rH]
theorem aMP(L:List GFound)(id:ByteArray)(k x y:Int)(R:List ByteArray)(t:GTag)(G:List GTag):rH L id k x y R (G++[t])=[(907,⟨G.length+1,2,199,sX (G++[t])⟩),(906,⟨R.length,1,9,dF R⟩),(3,oR id k x y R.length (G.length+1)),(905,T1 L),(2,bx 6 151 ((bS zObj).map .pv))]:=by simp[rH]
theorem yT{L:List GFound}{i:Nat}{f:GFound}(h:L[i]?=some f):(kR L)[i]?=some [iv f.kind,sv f.text,iv (f.pos:Int)]:=by rw[kR,aPe,h];rfl
theorem aKC(T:List GFound)(hl:T.length<549755813888)(hsz:∀f∈sB T,f.text.size<1099511627776):aI Tryz.prog 195 [.osl 905 T.length 0 T.length] [(905,T1 T)] (fun r H'=>r=av (bS (mM T))/\H'=[(905,T1 (sB T))]):=by
 refine Bd func195 rfl ntmps195<|Sr<|Dd (by exact bW (id:=2) rfl Z5 rfl rfl)<|Zz<|Sq<|aG ?_;refine bT (σ:=Nat) (fun k=>([(0,.osl 905 (FG T k).length 0 (FG T k).length),(2,.ref 2 0 0 0)],[(905,T1 (FG T k)),(2,bx 6 151 ((bS zObj).map .pv))])) (fun k=>k<=4 - T.length) (fun k=>4 - T.length - k) 0 (aPb _) ?_ ?_
 ·rw[show FG T 0=T by simp[FG]];exact(dA.wk (Ea<|Ea<|trivial) (Hc (cR _ _)<|Hb<|trivial) ⟨rfl,trivial⟩)
 rintro k hk;have hpl:=FF T k;unfold T1;refine Sq<|Sr<|Dd aE<|Dd (by exact eF rfl gY rfl rfl rfl)<|Dd cZ<|Zz ?_;refine Cn ?_ ?_<;>intro hc1
 ·have hlt:T.length+k<4:=by have:=aPQ hc1;rw[hpl]at this;omega
  refine aC<|aG<|Rg<|Dd aE<|Dd (vC aJ3)<|Dd (by exact aR [eS noF] rfl nW rfl rfl rfl rfl rfl (by intro r hr;rw[aPX]at hr;subst hr;rfl))<|Dd (by exact dL (ps:=[eS noF]) rfl nW aFX rfl rfl rfl rfl rfl (yU _) rfl (by intro r hr;rw[aPX]at hr;subst hr;rfl) (m:=1) rfl (by omega) rfl (aEL T k))<|Da ?_;refine⟨k+1,by omega,by omega,?_⟩;rw[show (FG T (k+1)).length=(FG T k).length+1 by rw[FF,FF];omega];exact(dA.wk (Ea<|Ea<|trivial) (Hc (cR _ _)<|Hb<|trivial) ⟨rfl,trivial⟩)
 have hge:4<=T.length+k:=by have:=aPR hc1;rw[hpl]at this;omega
 obtain rfl:k=4 - T.length:=by omega
 obtain ⟨L,hL⟩:∃L,L=FG T (4 - T.length):=⟨_,rfl⟩;have hLp:sB T=L:=by rw[hL];rfl
 have hLl:4<=L.length/\L.length<549755813893:=by rw[hL,FF];omega
 rw[hLp]at hsz;rw[hLp,<-hL];clear hpl;obtain ⟨t0,ht0⟩:=aU (show 0<L.length by omega);obtain ⟨t1,ht1⟩:=aU (show 1<L.length by omega);obtain ⟨t2,ht2⟩:=aU (show 2<L.length by omega);obtain ⟨t3,ht3⟩:=aU (show 3<L.length by omega);have hr0:=yT ht0;have hr1:=yT ht1;have hr2:=yT ht2;have hr3:=yT ht3;have hd:∀ {i:Nat} {f:GFound},L[i]?=some f->L.getD i noF=f:=fun {i f} h=>by rw[List.getD_eq_getElem?_getD,h];rfl
 have hR:=mM.eq_1 T;rw[hLp,hd ht0,hd ht1,hd ht2,hd ht3]at hR;refine aY<|Sr<|Dd aE<|Dd (by exact dP rfl nW rfl rfl rfl rfl rfl (by omega) (by exact aP5 _) (show 1<L.length by omega) rfl)<|Dd (aS lT)<|Dd (by exact aK rfl isAgg9 rfl rfl rfl hr1 rfl)<|Dd (vC aLS)<|Dd (by exact bW (id:=3) rfl aJf rfl rfl)<|Uu (lG sizeOf151)<|Zz<|Sq<|Sq ?_;refine gR.ent (E':=rE L) (H':=[(906,⟨0,1,9,[]⟩),(3,bx 6 151 [sv t1.text,iv 0,iv 0,iv 0,.osl 906 0 0 0,.pv .nils]),(905,T1 L),(2,bx 6 151 ((bS zObj).map .pv))]) (dA.nz 906 1 9 rfl rfl ⟨⟨_,rfl,(by exact Nz.same (by(simp;rfl)))⟩,⟨_,rfl,(by exact Nz.same (by(simp;rfl)))⟩,⟨_,rfl,(by exact Nz.same (by(simp;rfl)))⟩,trivial⟩ ⟨⟨_,rfl,rfl,rfl,rfl,(by exact .inr ⟨_,_,rfl,rfl,(by repeat(first|exact trivial|refine⟨(by first|exact Nz.own|exact Nz.same (by(simp;done))),?_⟩))⟩)⟩,⟨_,rfl,rfl,rfl,rfl,(by exact .inl ⟨rfl,(by exact cR _ _)⟩)⟩,⟨_,rfl,rfl,rfl,rfl,(by exact .inl ⟨rfl,(by(simp;done))⟩)⟩,trivial⟩ ⟨rfl,trivial⟩) ?_;refine gR.ent (E':=rE L) (H':=rH L t1.text 0 0 0 [] []) (dA.nz 907 2 199 rfl rfl ⟨⟨_,rfl,(by exact Nz.same (by(simp;rfl)))⟩,⟨_,rfl,(by exact Nz.same (by(simp;rfl)))⟩,⟨_,rfl,(by exact Nz.same (by(simp;rfl)))⟩,trivial⟩ ⟨⟨_,rfl,rfl,rfl,rfl,(by exact .inl ⟨rfl,(by exact cE _ _)⟩)⟩,⟨_,rfl,rfl,rfl,rfl,(by exact .inr ⟨_,_,rfl,rfl,(by repeat(first|exact trivial|refine⟨(by first|exact Nz.own|exact Nz.same (by first|(simp;done)|(simp;rfl))),?_⟩))⟩)⟩,⟨_,rfl,rfl,rfl,rfl,(by exact .inl ⟨rfl,(by exact cR _ _)⟩)⟩,⟨_,rfl,rfl,rfl,rfl,(by exact .inl ⟨rfl,(by(simp;done))⟩)⟩,trivial⟩ ⟨rfl,trivial⟩) ?_;refine Rg<|Dd aL<|Zz<|aG ?_;refine bT (σ:=Nat) (fun j=>(rE L++[(4,iv ((j+1:Nat):Int))],rH L t1.text (kF t0.text j) 0 0 [] [])) (fun j=>j<=5) (fun j=>5 - j) 0 (aPb _) ?_ ?_
 ·exact(dA.wk (Ea<|Ea<|Ea<|Eb<|trivial) (Hc (lJ _ _)<|Hc (cE _ _)<|Hc (by(simp;exact⟨rfl,rfl⟩))<|Hc (cR _ _)<|Hb<|trivial) ⟨rfl,trivial⟩)
 rintro j hj;refine Sq<|Sr<|Dd aE<|Dd GQ<|Zz ?_;refine Cn ?_ ?_<;>intro hc2
 ·have hj5:j<5:=by have:=aPQ hc2;omega
  refine aC<|Sq<|aG<|Sq<|aN follows<|Cq aE<|Cq (by exact aA rfl rfl xE rfl (DX ((j+1:Nat):Int) _))<|Cq aE<|Cq (by exact dP rfl nW rfl rfl rfl rfl rfl (by omega) (by exact aP5 _) (show 0<L.length by omega) rfl)<|Cq (aS lT)<|Cq (by exact aK rfl isAgg9 rfl rfl rfl hr0 rfl)<|Cq zE<|bL<|Kr ?_;refine Cn ?_ ?_<;>intro hc3
  ·have hw:eO ((j+1:Nat):Int)=t0.text:=aPQ hc3;refine Rg<|Dd aE<|Dd (aS dZ)<|Uu (by exact bH rfl sizeOf3 rfl rfl rfl rfl rfl rfl (by simp only[aPW,List.length_nil];omega) (by simp only[Zl,bJ,bS,encStr,jH,eS];rfl) (by simp only[Zl,bJ,bS,encStr,jH,eS];rfl))<|Zz<|Rg<|Dd aE<|Dd mI<|Da ?_;refine⟨j+1,by omega,by omega,?_⟩;rw[show kF t0.text (j+1)=((j+1:Nat):Int)by rw[kF,aPT hw]];exact(dA.wk (Ea<|Ea<|Ea<|Eb<|trivial) (Hc (lJ _ _)<|Hc (cE _ _)<|Hc (by(simp;exact⟨rfl,rfl⟩))<|Hc (cR _ _)<|Hb<|trivial) ⟨rfl,trivial⟩)
  have hw:eO ((j+1:Nat):Int)≠t0.text:=aPR hc3;refine aC<|Rg<|Dd aE<|Dd mI<|Da ?_;refine⟨j+1,by omega,by omega,?_⟩;rw[show kF t0.text (j+1)=kF t0.text j by rw[kF,aPS hw]];exact(dA.wk (Ea<|Ea<|Ea<|Eb<|trivial) (Hc (lJ _ _)<|Hc (cE _ _)<|Hc (by(simp;exact⟨rfl,rfl⟩))<|Hc (cR _ _)<|Hb<|trivial) ⟨rfl,trivial⟩)
 have hj5:j=5:=by have:=aPR hc2;omega
 subst hj5;rw[aIK];obtain ⟨kd,hkd⟩:∃kd,kd=JB t0.text:=⟨_,rfl⟩;rw[<-hkd]at hR |-;have htk:(kR L).length=L.length:=yU L;refine aY<|Sr<|Dd aE<|Dd (by exact iT (l:=4) (h:=L.length) rfl nW rfl rfl rfl rfl rfl rfl (by omega) (by omega) rfl rfl)<|Dd aL<|Zz<|Sq<|Sr<|Dd (aS dZ)<|Dd (bC isAgg3)<|Dd cK<|Zz ?_;refine Cn ?_ ?_<;>intro hc4
 ·have hk1:kd=1:=aPQ hc4;have hR2:mM T=⟨t1.text,1,atV t2.text,atV t3.text,[],oJ (L.drop 4)⟩:=by rw[hR,aPT hk1]
  subst hk1;refine Sr<|Dd aE<|Dd (by exact dP rfl nW rfl rfl rfl rfl rfl (by omega) (by exact aP5 _) (show 2<L.length by omega) rfl)<|Dd (aS lT)<|Dd (by exact aK rfl isAgg9 rfl rfl rfl hr2 rfl)<|Dd (by exact aA rfl rfl xJ rfl (KL t2.text (hsz _ (aP4 ht2)) _))<|Dd aE<|Dd fS<|Dd fS<|Dd (aS lV)<|Dd (aS pC)<|Uu (by exact bH rfl sizeOf3 rfl rfl rfl rfl rfl rfl (by simp only[aPW,List.length_nil];omega) (by simp only[Zl,bJ,bS,encStr,jH,eS];rfl) (by simp only[Zl,bJ,bS,encStr,jH,eS];rfl))<|Zz<|Rg<|Dd aE<|Dd (by exact dP rfl nW rfl rfl rfl rfl rfl (by omega) (by exact aP5 _) (show 3<L.length by omega) rfl)<|Dd (aS lT)<|Dd (by exact aK rfl isAgg9 rfl rfl rfl hr3 rfl)<|Dd (by exact aA rfl rfl xJ rfl (KL t3.text (hsz _ (aP4 ht3)) _)) ?_;refine Dd aE<|Dd fS<|Dd fS<|Dd (aS lV)<|Dd (aS pB)<|Uu (by exact bH rfl sizeOf3 rfl rfl rfl rfl rfl rfl (by simp only[aPW,List.length_nil];omega) (by simp only[Zl,bJ,bS,encStr,jH,eS];rfl) (by simp only[Zl,bJ,bS,encStr,jH,eS];rfl))<|Zz<|Sq<|aG ?_;obtain ⟨D,hD⟩:∃D,D=L.drop 4:=⟨_,rfl⟩;have hDl:D.length=L.length - 4:=by rw[hD,aP9]
  refine bT (σ:=Nat) (fun j=>(rE L++[(5,.osl 905 L.length (4+3*j) (L.length - 4 - 3*j))],rH L t1.text 1 (nY t2.text).1 (nY t3.text).1 ([]:List ByteArray) (eR D j))) (fun j=>3*j<=D.length) (fun j=>D.length - 3*j) 0 (aPb _) ?_ ?_
  ·exact(dA.wk (Ea<|Ea<|Ea<|Ea<|trivial) (Hc (lJ _ _)<|Hc (cE _ _)<|Hc (by(simp;exact⟨rfl,rfl⟩))<|Hc (cR _ _)<|Hb<|trivial) ⟨rfl,trivial⟩)
  rintro j hj;have hnx:=B4 D j;have hfl:=DS D j;refine Sq<|Sr<|Dd aE<|Dd (by exact eF rfl gY rfl rfl rfl)<|Dd iE<|Zz ?_;refine Cn ?_ ?_<;>intro hc5
  ·have hlt:3*j+2<D.length:=by have:=aPQ hc5;omega
   obtain ⟨f0,hf0⟩:∃f,L[4+3*j]?=some f:=aU (by omega);obtain ⟨f2,hf2⟩:∃f,L[4+3*j+2]?=some f:=aU (by omega);have hr0:=yT hf0;have hr2:=yT hf2;have hta:PB D j=⟨f0.text,f2.text⟩:=by
    rw[PB,hD,List.getElem?_drop,List.getElem?_drop,hf0,show 4+(3*j+2)=4+3*j+2 from rfl,hf2];rfl
   refine aC<|Sq<|aG<|aN follows<|Cs (fun _ h=>fh eX h)<|Cs (fun _ h=>lh cQ h)<|Cs (fun _ _=>aE)<|Cs (fun H1 hH=>by exact dP rfl nW rfl ((hH _ rfl).trans rfl) rfl rfl rfl (by omega) (by exact aP5 _) (show 0<L.length - 4 - 3*j by omega) rfl)<|Cs (fun _ h=>fh lT h)<|Cs (fun H1 hH=>by exact aK rfl isAgg9 rfl ((hH _ rfl).trans rfl) rfl hr0 rfl)<|Cs (fun _ _=>aE)<|Cs (fun H1 hH=>by exact dP rfl nW rfl ((hH _ rfl).trans rfl) rfl rfl rfl (by omega) (by exact aP5 _) (show 2<L.length - 4 - 3*j by omega) rfl)<|Cs (fun _ h=>fh lT h)<|Cs (fun H1 hH=>by exact aK rfl isAgg9 rfl ((hH _ rfl).trans rfl) rfl hr2 rfl)<|Cs (fun _ _=>(vC aJ2))<|Cs (fun H1 hH=>by exact aR [bJ ⟨f0.text,f2.text⟩] rfl jU rfl rfl rfl rfl rfl (by intro r hr;rw[aPX]at hr;subst hr;rfl)) ?_;refine bF (r:=⟨_,none,[_]⟩) (DStep.plain rfl (fun H1 hH=>by exact dL (ps:=[bJ ⟨f0.text,f2.text⟩]) rfl jU aJY rfl ((hH _ rfl).trans rfl) rfl rfl rfl (KZ _) rfl (by intro r hr;rw[aPX]at hr;subst hr;rfl) (m:=1) rfl (by omega) rfl (K0 (eR D j) ⟨f0.text,f2.text⟩))) rfl ?_;refine Cs (fun _ h=>fh eX h) ?_;refine bF (r:=⟨_,none,[_]⟩) (DStep.plain rfl (fun H1 hH=>by exact(by exact bH rfl sizeOf149 rfl rfl rfl ((hH _ rfl).trans rfl) rfl rfl (by simp only[aPW,List.length_nil];omega) (by simp only[Zl,bJ,bS,encStr,jH,eS];rfl) (by simp only[Zl,bJ,bS,encStr,jH,eS];rfl)))) rfl ?_;refine bL<|Kr<|Rg<|Dd aE<|Dd (by exact iT (l:=3) (h:=(L.length - 4 - 3*j)) rfl nW rfl rfl rfl rfl rfl rfl (by omega) (by omega) rfl rfl)<|Da ?_;refine⟨j+1,by omega,by omega,?_⟩;dsimp only;rw[hnx,hta,aMP];exact(dA.wk (Ea<|Ea<|Ea<|Ea<|trivial) (Hc (lJ _ _)<|Hc (cE _ _)<|Hc (by(simp;exact⟨rfl,rfl⟩))<|Hc (cR _ _)<|Hb<|trivial) ⟨rfl,trivial⟩)
  have hge:D.length<3*j+3:=by have:=aPR hc5;omega
  have hdj:D.length / 3=j:=by omega
  have hG:oJ D=eR D j:=by rw[K6,hdj]
  refine aY<|Sq ?_;refine gR.ent (dA.fzG (id:=907) (E':=rE L) (H':=[(906,⟨(([]:List ByteArray)).length,1,9,dF (([]:List ByteArray))⟩),(3,bx 6 151 [sv (t1.text),iv (1),iv ((nY t2.text).1),iv ((nY t3.text).1),.osl 906 (([]:List ByteArray)).length 0 (([]:List ByteArray)).length,.pv (rD (eR D j))]),(905,T1 L),(2,bx 6 151 ((bS zObj).map .pv))]) ((eR D j).map bJ) rfl (FB bJ _) ?_ rfl ?_ ?_) ?_
  ·intro p hp;simp only[aP6,aPa,or_false]at hp;rcases hp with rfl|rfl|rfl<;>exact⟨_,rfl,.same (by simp;rfl)⟩
  ·exact⟨⟨_,rfl,rfl,rfl,rfl,iD (cE _ _)⟩,⟨_,rfl,rfl,rfl,rfl,qM rfl (dR (.same (by simp)) (dR (.same (by simp)) (dR (.same (by simp)) (dR (.same (by simp)) (dR (.same (by simp;rfl)) (dR (.osl (tR bJ _)) qN))))))⟩,⟨_,rfl,rfl,rfl,rfl,iD (cR _ _)⟩,⟨_,rfl,rfl,rfl,rfl,iD (by simp)⟩,trivial⟩
  ·exact⟨rfl,trivial⟩
  refine gR.ent (dA.fzG (id:=906) (E':=rE L) (H':=[(3,bx 6 151 [sv (t1.text),iv (1),iv ((nY t2.text).1),iv ((nY t3.text).1),.pv (bA (([]:List ByteArray))),.pv (rD (eR D j))]),(905,T1 L),(2,bx 6 151 ((bS zObj).map .pv))]) ((([]:List ByteArray)).map encStr) rfl (gC _) ?_ rfl ?_ ?_) ?_
  ·intro p hp;simp only[aP6,aPa,or_false]at hp;rcases hp with rfl|rfl|rfl<;>exact⟨_,rfl,.same (by simp;rfl)⟩
  ·exact⟨⟨_,rfl,rfl,rfl,rfl,qM rfl (dR (.same (by simp)) (dR (.same (by simp)) (dR (.same (by simp)) (dR (.same (by simp)) (dR (.osl (tR encStr _)) (dR (.same (by simp)) qN))))))⟩,⟨_,rfl,rfl,rfl,rfl,iD (cR _ _)⟩,⟨_,rfl,rfl,rfl,rfl,iD (by simp)⟩,trivial⟩
  ·exact⟨rfl,trivial⟩
  refine Rg<|Dd (by exact aM rfl cW sizeOf151 rfl rfl rfl rfl (by simp only[Zl,bJ,bS,encStr,jH,eS];rfl) rfl)<|Uu (lG sizeOf151)<|Zz<|aB ?_;refine eG (H':=[(905,T1 L)]) (.inr rfl) rfl (gD rfl cW sizeOf151 rfl rfl rfl (by simp only[Zl,bJ,bS,encStr,jH,eS];rfl) rfl) (Fin.wk (by(simp;done)) (Hc (cR _ _)<|trivial) ⟨rfl,trivial⟩) ?_;refine⟨?_,rfl⟩;rw[(show mM T=⟨t1.text,1,(nY t2.text).1,(nY t3.text).1,[],oJ (L.drop 4)⟩by rw[hR2,aFw,aFw]),<-hD,hG];rfl
 have hk1:kd≠1:=aPR hc4;rw[aPS hk1]at hR;have hIx:=HW L [] (by omega);have hIr:∀H,H.get 905=some (T1 L)->aI Tryz.prog 231 [.osl 905 L.length 0 L.length,.pv (.fn 232)] H (fun r H'=>r=iv (wT iR L)/\H'=H):=fun H hH =>
  RO.calls (RO.lend (id:=905) (H1:=[]) (L.map eS) (RO.of hIx rfl) hH (FB eS L) rfl
   (dR (.osl (tR eS L)) (dR (.same (by simp)) qN)) (fun _ _ h=>by cases h) (fun _ _ h=>by cases h) rfl)
 refine Sr<|Dd aE<|Dd (by exact aA rfl rfl call231 rfl (hIr _ rfl))<|Dd aL<|Zz<|Sq<|Sr<|Dd aE<|Dd cZ<|Zz ?_;refine Cn ?_ ?_<;>intro hc6
 ·have hlo:wT iR L<3:=aPQ hc6;rw[aPT hlo]at hR;rw[hR];refine Sr<|Dd (vC Q6)<|Uu (lG sizeOf151)<|Zz<|aB ?_;refine eG (H':=[(905,T1 L)]) (.inr rfl) rfl (gD rfl cW sizeOf151 rfl rfl rfl (by simp only[Zl,bJ,bS,encStr,jH,eS];rfl) rfl) (Fin.wk (by(simp;done)) (Hc (cR _ _)<|trivial) ⟨rfl,trivial⟩) ?_;exact Qq
 have hlo:¬ wT iR L<3:=aPR hc6;rw[aPS hlo]at hR;obtain ⟨q,hq,hqL⟩:∃q:Nat,wT iR L=(q:Int)/\q<L.length:=by
  rcases ZC iR L with⟨e1,_⟩|⟨q,o,e1,e2,_⟩
  ·rw[e1]at hlo;exact absurd (by decide) hlo
  exact⟨q,e1,(aPY.1 e2).1⟩
 rw[hq]at hR hlo |-;rw[aP5]at hR;have hq3:3<=q:=by omega
 obtain ⟨M,hM⟩:∃M,M=(L.take q).drop 3:=⟨_,rfl⟩;have hMl:M.length=q - 3:=by rw[hM,aP9,aP8];omega
 rw[<-hM]at hR;refine aC<|Sq<|Sr<|Dd aE<|Dd aE<|Dd (by exact iT (l:=3) (h:=q) rfl nW rfl rfl rfl rfl rfl rfl (by omega) (by omega) rfl rfl)<|Dd (by exact eF rfl gY rfl rfl rfl)<|Dd aE<|Zz<|aG ?_;refine bT (σ:=Nat) (fun i=>(rE L++[(5,.osl 905 L.length 4 (L.length - 4)),(6,iv (q:Int)),(66,.osl 905 L.length 3 (q - 3)),(67,iv ((q - 3:Nat):Int)),(68,iv (i:Int))],rH L t1.text kd 0 0 ((M.take i).map GFound.text) [])) (fun i=>i<=M.length) (fun i=>M.length - i) 0 (aPb _) ?_ ?_
 ·exact(dA.wk (Ea<|Ea<|Ea<|Ea<|Eb<|Ea<|Eb<|Eb<|trivial) (Hc (lJ _ _)<|Hc (cE _ _)<|Hc (by(simp;exact⟨rfl,rfl⟩))<|Hc (cR _ _)<|Hb<|trivial) ⟨rfl,trivial⟩)
 rintro i hi;refine Sr<|Dd cZ<|Zz<|Sq ?_;refine Cn ?_ ?_<;>intro hc7
 ·have hiq:i<q - 3:=by have:=aPQ hc7;omega
  obtain ⟨f,hf⟩:=aU (show i<M.length by omega);have hfL:L[3+i]?=some f:=by
   rw[hM,List.getElem?_drop,List.getElem?_take_of_lt (by omega)]at hf;exact hf
  have hrf:=yT hfL;have hMt:(M.take (i+1)).map GFound.text=(M.take i).map GFound.text++[f.text]:=by rw[List.take_add_one,hf,List.map_append];rfl
  have hRl:((M.take i).map GFound.text).length=i:=by rw[aPU,aP8];omega
  refine aC<|Sq<|aG<|Sr<|Dd (by exact dP rfl nW rfl rfl rfl rfl rfl (by omega) (by exact aP5 _) (by omega) rfl)<|Dd (by exact aM rfl XK sizeOf187 rfl rfl rfl hrf (by simp only[Zl,bJ,bS,encStr,jH,eS];rfl) rfl)<|Dd (by exact bW (id:=8) rfl aLn rfl rfl)<|Uu (lG sizeOf187)<|Zz<|Rg<|Dd (aS dT)<|Dd (bC aF)<|Dd (aS lT)<|Dd (bC isAgg9)<|Dd (by exact aR [encStr f.text] rfl cB rfl rfl rfl rfl rfl (by intro r hr;rw[aPX]at hr;subst hr;rfl))<|Dd (by exact dL (ps:=[encStr f.text]) rfl cB EF rfl rfl rfl rfl rfl (kQ _) rfl (by intro r hr;rw[aPX]at hr;subst hr;rfl) (m:=1) rfl (by omega) rfl (mF ((M.take i).map GFound.text) f.text))<|Dd (aS dT)<|Uu (by exact bH rfl sizeOf22 rfl rfl rfl rfl rfl rfl (by simp only[aPW,List.length_nil];omega) (by simp only[Zl,bJ,bS,encStr,jH,eS];rfl) (by simp only[Zl,bJ,bS,encStr,jH,eS];rfl)) ?_;refine Zz<|Rg<|Dd mI<|Dd aE<|Zz ?_;refine⟨i+1,by omega,by omega,?_⟩;dsimp only;rw[hMt,aOB];exact(dA.wk (Ea<|Ea<|Ea<|Ea<|Eb<|Ea<|Eb<|Eb<|trivial) (Hc (lJ _ _)<|Hc (cE _ _)<|Hc (by(simp;exact⟨rfl,rfl⟩))<|Hc (cR _ _)<|Hb<|trivial) ⟨rfl,trivial⟩)
 have hiq:i=q - 3:=by have:=aPR hc7;omega
 have hMi:M.take i=M:=List.take_of_length_le (by omega);rw[hMi];refine aY<|Rg<|Dd aE<|Dd aE<|Dd (by exact bZ rfl rfl rfl (show IntKind.i64.wrap ((q:Int)+1)=((q+1:Nat):Int)by rw[IntKind.wrap_i64];omega))<|Dd (by exact iT (l:=(q+1)) (h:=L.length) rfl nW rfl rfl rfl rfl rfl rfl (by omega) (by omega) rfl rfl)<|Dd aL<|Zz<|Sq<|aG ?_;rw[<-aPc (q+1)]at hR;obtain ⟨D,hD⟩:∃D,D=L.drop (0+(q+1)):=⟨_,rfl⟩;have hDl:D.length=L.length - (0+(q+1)):=by rw[hD,aP9]
 refine bT (σ:=Nat) (fun j=>(rE L++[(5,.osl 905 L.length ((0+(q+1))+3*j) (L.length - (q+1) - 3*j))],rH L t1.text kd 0 0 (M.map GFound.text) (eR D j))) (fun j=>3*j<=D.length) (fun j=>D.length - 3*j) 0 (aPb _) ?_ ?_
 ·exact(dA.wk (Ea<|Ea<|Ea<|Ea<|trivial) (Hc (lJ _ _)<|Hc (cE _ _)<|Hc (by(simp;exact⟨rfl,rfl⟩))<|Hc (cR _ _)<|Hb<|trivial) ⟨rfl,trivial⟩)
 rintro j hj;have hnx:=B4 D j;have hfl:=DS D j;refine Sq<|Sr<|Dd aE<|Dd (by exact eF rfl gY rfl rfl rfl)<|Dd iE<|Zz ?_;refine Cn ?_ ?_<;>intro hc8
 ·have hlt:3*j+2<D.length:=by have:=aPQ hc8;omega
  obtain ⟨f0,hf0⟩:∃f,L[(0+(q+1))+3*j]?=some f:=aU (by omega);obtain ⟨f2,hf2⟩:∃f,L[(0+(q+1))+3*j+2]?=some f:=aU (by omega);have hr0:=yT hf0;have hr2:=yT hf2;have hta:PB D j=⟨f0.text,f2.text⟩:=by
   rw[PB,hD,List.getElem?_drop,List.getElem?_drop,hf0,show (0+(q+1))+(3*j+2)=(0+(q+1))+3*j+2 from rfl,hf2];rfl
  refine aC<|Sq<|aG<|aN follows<|Cs (fun _ h=>fh eX h)<|Cs (fun _ h=>lh cQ h)<|Cs (fun _ _=>aE)<|Cs (fun H1 hH=>by exact dP rfl nW rfl ((hH _ rfl).trans rfl) rfl rfl rfl (by omega) (by exact aP5 _) (show 0<L.length - (q+1) - 3*j by omega) rfl)<|Cs (fun _ h=>fh lT h)<|Cs (fun H1 hH=>by exact aK rfl isAgg9 rfl ((hH _ rfl).trans rfl) rfl hr0 rfl)<|Cs (fun _ _=>aE)<|Cs (fun H1 hH=>by exact dP rfl nW rfl ((hH _ rfl).trans rfl) rfl rfl rfl (by omega) (by exact aP5 _) (show 2<L.length - (q+1) - 3*j by omega) rfl)<|Cs (fun _ h=>fh lT h)<|Cs (fun H1 hH=>by exact aK rfl isAgg9 rfl ((hH _ rfl).trans rfl) rfl hr2 rfl)<|Cs (fun _ _=>(vC aJ2))<|Cs (fun H1 hH=>by exact aR [bJ ⟨f0.text,f2.text⟩] rfl jU rfl rfl rfl rfl rfl (by intro r hr;rw[aPX]at hr;subst hr;rfl)) ?_;refine bF (r:=⟨_,none,[_]⟩) (DStep.plain rfl (fun H1 hH=>by exact dL (ps:=[bJ ⟨f0.text,f2.text⟩]) rfl jU aJY rfl ((hH _ rfl).trans rfl) rfl rfl rfl (KZ _) rfl (by intro r hr;rw[aPX]at hr;subst hr;rfl) (m:=1) rfl (by omega) rfl (K0 (eR D j) ⟨f0.text,f2.text⟩))) rfl ?_;refine Cs (fun _ h=>fh eX h) ?_;refine bF (r:=⟨_,none,[_]⟩) (DStep.plain rfl (fun H1 hH=>by exact(by exact bH rfl sizeOf149 rfl rfl rfl ((hH _ rfl).trans rfl) rfl rfl (by simp only[aPW,List.length_nil];omega) (by simp only[Zl,bJ,bS,encStr,jH,eS];rfl) (by simp only[Zl,bJ,bS,encStr,jH,eS];rfl)))) rfl ?_;refine bL<|Kr<|Rg<|Dd aE<|Dd (by exact iT (l:=3) (h:=(L.length - (q+1) - 3*j)) rfl nW rfl rfl rfl rfl rfl rfl (by omega) (by omega) rfl rfl)<|Da ?_;refine⟨j+1,by omega,by omega,?_⟩;dsimp only;rw[hnx,hta,aMP];exact(dA.wk (Ea<|Ea<|Ea<|Ea<|trivial) (Hc (lJ _ _)<|Hc (cE _ _)<|Hc (by(simp;exact⟨rfl,rfl⟩))<|Hc (cR _ _)<|Hb<|trivial) ⟨rfl,trivial⟩)
 have hge:D.length<3*j+3:=by have:=aPR hc8;omega
 have hdj:D.length / 3=j:=by omega
 have hG:oJ D=eR D j:=by rw[K6,hdj]
 refine aY<|Sq ?_;refine gR.ent (dA.fzG (id:=907) (E':=rE L) (H':=[(906,⟨((M.map GFound.text)).length,1,9,dF ((M.map GFound.text))⟩),(3,bx 6 151 [sv (t1.text),iv (kd),iv (0),iv (0),.osl 906 ((M.map GFound.text)).length 0 ((M.map GFound.text)).length,.pv (rD (eR D j))]),(905,T1 L),(2,bx 6 151 ((bS zObj).map .pv))]) ((eR D j).map bJ) rfl (FB bJ _) ?_ rfl ?_ ?_) ?_
 ·intro p hp;simp only[aP6,aPa,or_false]at hp;rcases hp with rfl|rfl|rfl<;>exact⟨_,rfl,.same (by simp;rfl)⟩
 ·exact⟨⟨_,rfl,rfl,rfl,rfl,iD (cE _ _)⟩,⟨_,rfl,rfl,rfl,rfl,qM rfl (dR (.same (by simp)) (dR (.same (by simp)) (dR (.same (by simp)) (dR (.same (by simp)) (dR (.same (by simp;rfl)) (dR (.osl (tR bJ _)) qN))))))⟩,⟨_,rfl,rfl,rfl,rfl,iD (cR _ _)⟩,⟨_,rfl,rfl,rfl,rfl,iD (by simp)⟩,trivial⟩
 ·exact⟨rfl,trivial⟩
 refine gR.ent (dA.fzG (id:=906) (E':=rE L) (H':=[(3,bx 6 151 [sv (t1.text),iv (kd),iv (0),iv (0),.pv (bA ((M.map GFound.text))),.pv (rD (eR D j))]),(905,T1 L),(2,bx 6 151 ((bS zObj).map .pv))]) (((M.map GFound.text)).map encStr) rfl (gC _) ?_ rfl ?_ ?_) ?_
 ·intro p hp;simp only[aP6,aPa,or_false]at hp;rcases hp with rfl|rfl|rfl<;>exact⟨_,rfl,.same (by simp;rfl)⟩
 ·exact⟨⟨_,rfl,rfl,rfl,rfl,qM rfl (dR (.same (by simp)) (dR (.same (by simp)) (dR (.same (by simp)) (dR (.same (by simp)) (dR (.osl (tR encStr _)) (dR (.same (by simp)) qN))))))⟩,⟨_,rfl,rfl,rfl,rfl,iD (cR _ _)⟩,⟨_,rfl,rfl,rfl,rfl,iD (by simp)⟩,trivial⟩
 ·exact⟨rfl,trivial⟩
 refine Rg<|Dd (by exact aM rfl cW sizeOf151 rfl rfl rfl rfl (by simp only[Zl,bJ,bS,encStr,jH,eS];rfl) rfl)<|Uu (lG sizeOf151)<|Zz<|aB ?_;refine eG (H':=[(905,T1 L)]) (.inr rfl) rfl (gD rfl cW sizeOf151 rfl rfl rfl (by simp only[Zl,bJ,bS,encStr,jH,eS];rfl) rfl) (Fin.wk (by(simp;done)) (Hc (cR _ _)<|trivial) ⟨rfl,trivial⟩) ?_;refine⟨?_,rfl⟩;rw[hR,<-hD,hG];rfl
end Go.Proofs.YtmdicgjnmfolfaaGreatDoor
