/-
  Parts of the proof: rules of an abstract program logic, contracts of functions, plain laws. Conditions: each theorem's own.
-/
import Derived.Test.YtmdicgjnmfolfaaGreatDoorKR6M9
import Derived.RecoverIn
set_option linter.unusedVariables false
set_option linter.unusedSimpArgs false
set_option maxRecDepth 100000
set_option maxHeartbeats 8000000
namespace Go.Proofs
open Tryz
theorem aHG:type_of% call10:=call10
theorem lU:type_of% call47:=call47
theorem iJ:type_of% call48:=call48
theorem BV:type_of% call49:=call49
theorem UQ:type_of% call80:=call80
theorem eD:type_of% isAgg82:=isAgg82
theorem yA:type_of% underlying81:=underlying81
theorem aGg:type_of% zeroValue81:=zeroValue81
end Go.Proofs
namespace Go.Abs
variable{E':dG}{H':aH}{id:Nat}{ops:Array Oper}
section
def lD(o o':Ob):Prop:=o'.g=o.g/\o'.sz=o.sz/\o'.ty=o.ty/\o'.rows.map List.length=o.rows.map List.length
theorem lD.rfl{o}:lD o o:=⟨_root_.rfl,_root_.rfl,_root_.rfl,_root_.rfl⟩
def Shp(ids:List Nat)(H H1:aH):Prop:=∀id∈ids,∀o,H.get id=some o->∃o',H1.get id=some o'/\lD o o'
def aBW:List Nat->List Nat->Bool
 | [],[]=>true
 |a::r,b::q=>Nat.beq a b&&aBW r q
 |_,_=>false
theorem W1:∀ {a b},aBW a b=true->a=b
 | [],[],_=>rfl
 |a::r,b::q,h=>by
  rw[aBW,aQN]at h;rw[Nat.eq_of_beq_eq_true h.1,W1 h.2]
 | [],_::_,h=>by cases h
 |_::_,[],h=>by cases h
def aMl(o o':Ob):Bool:=Nat.beq o'.g o.g&&(Nat.beq o'.sz o.sz&&(Nat.beq o'.ty o.ty&&aBW (o'.rows.map List.length) (o.rows.map List.length)))
def aK9(ids:List Nat)(H:aH)(rs:List Rec):Bool:=rs.all fun r=>ids.all fun id=>match r.W.get id with
 |none=>true
 |some o'=>match H.get id with
  |none=>true
  |some o=>aMl o o'
theorem aCT{b}{H}{e}(h:aK9 b H e=true):∀r∈e,∀id∈b,∀o',r.W.get id=some o'->∀o,H.get id=some o->lD o o':=by intro r f id d o' c o g;have a:=List.all_eq_true.1 (List.all_eq_true.1 h r f) _ d;simp only[c,g,aMl,aQN]at a;exact⟨Nat.eq_of_beq_eq_true a.1,Nat.eq_of_beq_eq_true a.2.1,Nat.eq_of_beq_eq_true a.2.2.1,W1 a.2.2.2⟩
theorem SO{H}{l}{S}{id}{o}(b:H.get id=some o)(h:∀y∈l,∀o',y.r.W.get id=some o'->lD o o'):∀n,∃o',yM H l S n id=some o'/\lD o o'
 |0=>⟨o,b,.rfl⟩
 | n+1=>by
  rw[yM];cases e:l[n]? with
  |none=>exact SO b h n
  | some y =>
   simp
   split
   ·next c =>
    obtain ⟨o',ho'⟩:=Option.isSome_iff_exists.1 c.2
    grind
   exact SO b h n
def aF7(ks:List Nat)(rs:List Rec):Bool:=rs.all fun r=>ks.all fun id=>match r.W.get id with
 |none=>true
 |some _=>false
theorem aAD{ks}{c}(h:aF7 ks c=true):∀id∈ks,∀r∈c,r.W.get id=none:=by
 intro id a r d;have b:=List.all_eq_true.1 (List.all_eq_true.1 h r d) _ a;cases e:r.W.get _ with
 |none=>rfl
 |some o=>rw[e]at b;cases b
theorem MA{H}{l}{S}{id}(h:∀y∈l,y.r.W.get id=none):∀n,yM H l S n id=H.get id
 |0=>rfl
 | n+1=>by
  rw[yM];cases e:l[n]? with
  |none=>exact MA h n
  |some y =>
   simp;rw[aQC (fun hc=>by grind)];exact MA h n
def aF8(ts:List Nat)(ops:Array Oper):Bool:=ops.toList.all fun o=>match o.dst with
 |none=>true
 |some d=>!J5 ts d
theorem aAE{a}{ops}(h:aF8 a ops=true):∀t∈a,∀o∈ops.toList,o.dst≠some t:=by intro t d o b c;have:=List.all_eq_true.1 h o b;rw[c]at this;simp[aQX]at this;rw[GE.2 d]at this;cases this
theorem MB{E}{l:List Ent2}{S}{t:Nat}(h:∀y∈l,y.o.dst≠some t):∀n,AF E l S n t=E.get t
 |0=>rfl
 | n+1=>by
  rw[AF];cases e:l[n]? with
  |none=>exact MB h n
  |some y =>
   simp;rw[aQC (fun b=>h y (aQO e) b.2)];exact MB h n
theorem BW.restr{P}{N}{o}{E c}{H1}{l}{R}{PP}(h:BW P N o (restr E l) H1 R PP)(j:∀t,t∈l->c.get t=E.get t):BW P N o c H1 R PP:=by intro a w I ι i f g K Q e b;refine h a w I _ i f (fun t v d=>?_) K Q e b;have b:=QI _ (gT d);exact g t v ((j t b.2).trans b.1)
inductive DStepP(P:Program)(N:Nat)(ops:List Oper)(PP:YG->aH->aH->Prop)(o:Oper)(E:dG)(H:aH)(r:Rec)(F:Prop):Prop
 |old (hF:F) (h:DStep P N ops o E H r)
 |pan (hg:o.guard=none) (h:∀H1:aH,(∀id,AS r.R id=true->H1.get id=H.get id)->BW P N o (restr E (hV ops o)) H1 (fun v H'=>v=r.v/\H'=r.W++H1/\F) (fun ch H'=>PP ch H1 H'))
def UV:List Prop->Prop
 | []=>True
 |F::r=>F/\UV r
theorem UL:∀ {l},(∀(k:Nat) (F),l[k]?=some F->F)->UV l
 | [],_=>trivial
 |F::r,h=>⟨h 0 F rfl,UL fun k G a=>h (k+1) G a⟩
inductive DChainP(P:Program)(N:Nat)(ops:List Oper)(PP:YG->aH->aH->Prop):List Oper->dG->aH->List Rec->List Prop->dG->aH->Prop
 |nil {E:dG} {H:aH}:DChainP P N ops PP [] E H [] [] E H
 | cons {o:Oper} {rest:List Oper} {E E':dG} {H H':aH} {r:Rec} {rs:List Rec} {F:Prop} {Fs:List Prop} (h:DStepP P N ops PP o E H r F) (hd:iW N o.dst=true) (hr:DChainP P N ops PP rest (kZ E o.dst r.v) (r.W++H) rs Fs E' H') :
   DChainP P N ops PP (o::rest) E H (r::rs) (F::Fs) E' H'
section
variable{P:Program}{N:Nat}{ops:List Oper}{PP:YG->aH->aH->Prop}{E:dG}{H:aH}
theorem DChainP.spec{rest:List Oper}{a:List Rec}{g:List Prop}(h:DChainP P N ops PP rest E H a g E' H'):(a.length=rest.length/\g.length=rest.length) /\
  (∀k x,(List.zipWith Ent2.mk rest a)[k]?=some x->iW N x.o.dst=true/\∃F,g[k]?=some F/\∃i c,(∀t,i.get t=AF E (List.zipWith Ent2.mk rest a) (fun _=>true) k t)/\(∀id,c.get id=yM H (List.zipWith Ent2.mk rest a) (fun _=>true) k id)/\DStepP P N ops PP x.o i c x.r F) /\
  (∀t,E'.get t=AF E (List.zipWith Ent2.mk rest a) (fun _=>true) rest.length t)/\(∀id,H'.get id=yM H (List.zipWith Ent2.mk rest a) (fun _=>true) rest.length id):=by
 induction h with
 |nil=>exact⟨⟨rfl,rfl⟩,by simp,fun t=>rfl,fun id=>rfl⟩
 | @cons o rest E E' H H' r a F g u w hr b =>
  obtain ⟨⟨v,m⟩,z,h3,h4⟩:=b;have j:∀(l:List Ent2) k t,AF (kZ E o.dst r.v) l (fun _=>true) k t=AF E (⟨o,r⟩::l) (fun _=>true) (k+1) t:=by
   intro l k t
   induction k with
   | zero =>
    simp only[AF,List.getElem?_cons_zero];cases hdst:o.dst with
    |none=>rfl
    |some d =>
     simp only[kZ];by_cases e:d=t
     ·subst e;simp[dG.get_cons_same]
     rw[dG.get_cons_other _ _ e];simp[e]
   |succ k b =>
    rw[AF,AF];simp only[List.getElem?_cons_succ];cases l[k]? with
    |none=>exact b
    |some x=>simp only[b]
  have p:∀(l:List Ent2) k id,yM (r.W++H) l (fun _=>true) k id=yM H (⟨o,r⟩::l) (fun _=>true) (k+1) id:=by
   intro l k id
   induction k with
   |zero =>
    simp only[yM,List.getElem?_cons_zero,DF];cases hw:r.W.get id<;>simp
   |succ k b =>
    rw[yM,yM];simp only[List.getElem?_cons_succ];cases l[k]? with
    |none=>exact b
    |some x=>simp only[b]
  refine⟨⟨by simp[v],by simp[m]⟩,?_,?_,?_⟩
  ·intro k x f;cases k with
   |zero =>
    simp at f;subst f;exact⟨w,F,rfl,E,H,fun t=>rfl,fun id=>rfl,u⟩
   |succ k =>
    simp at f;obtain ⟨B,q,n,i,c,A,s,y⟩:=z k x (by simpa using f);exact⟨B,q,n,i,c,fun t=>(A t).trans (j _ k t),fun id=>(s id).trans (p _ k id),y⟩
  all_goals simp_all
end
theorem aDZ{PP:YG->aH->aH->Prop}{P:Program}{G0:aH}{N:Nat}{Q:Exit->dG->aH->Prop}{E:dG}{H:aH}{rs:List Rec}(hm:P.follows .mixedOrders=true){Fs:List Prop}(hc:DChainP P N ops.toList PP ops.toList E H rs Fs E' H')(hok:HY ops.toList rs=true)(ids ks:List Nat)(hW:aK9 ids H rs=true)(hKs:aF7 ks rs=true)(ts:List Nat)(hT:aF8 ts ops=true)(hP:∀ch X H1 H2,(∀t∈ts,X.get t=E.get t)->Shp ids H H1->(∀id∈ks,H1.get id=H.get id)->PP ch H1 H2->Q (.panic ch) X H2)
  (hK:UV Fs->Q .normal E' H'):gM P G0 N (.region id ops true) Q E H:=by
 intro G hG a w hs ro hro;have hnd0:ro=none\/ops.toList.all Oper.noDefer=true:=hro;refine wpIn_region_any hm ?_;obtain ⟨⟨hlen,hlenF⟩,hst,hE',hH'⟩:=hc.spec;obtain ⟨l,hl⟩:∃l,l=List.zipWith Ent2.mk ops.toList rs:=⟨_,rfl⟩;rw[<-hl]at hst hE' hH';simp only[HY,aQN,<-hl]at hok;obtain ⟨hok1,hok2⟩:=hok;have hll:l.length=ops.size:=by simp_all
 have hlo:∀(i:Nat) (x:Ent2),l[i]?=some x->ops.toList[i]?=some x.o:=by
  grind
 have hedge:=F8 ops.toList 0 hok1;have hbef:∀(i j:Nat) (x y:Ent2),i<j->l[i]?=some x->l[j]?=some y->kX ops.toList x y=true->Pre ops.toList i j:=fun i j x y hij hx Y hcl =>
  R8 ops.toList [] [] rfl rfl (by simp) j i (F7 l [] hok2 i j hij (aQV _) x y hx Y hcl)
 have main:∀(L:Nat) (f:Array Bool) (a:Act) (w:World) (X:dG) (H1:aH),f.size=ops.size->((List.range ops.size).filter fun i=>!f.getD i true).length<=L ->
   aDc ops.toList (fun i=>f.getD i false)->(∀k,f.getD k false=true->∀F,Fs[k]?=some F->F)->St G N X H1 a w->(∀t,X.get t=AF E l (fun i=>f.getD i false) ops.size t)->(∀j,H1.get j=yM H l (fun i=>f.getD i false) ops.size j) ->
   wpAnyIn (RF ro) 0 P .any ops (fun e a w=>∃E H,Q e E H/\St G N E H a w) L f a w:=by
  intro L
  induction L with
  | zero =>
   intro f a w X H1 hsz hcnt M hfac p hE1 hH1;have J:∀i,i<ops.size->f.getD i false=true:=by
    intro i hi;have hnil:=List.eq_nil_of_length_eq_zero (Nat.le_zero.1 hcnt);have:=List.filter_eq_nil_iff.1 hnil i (List.mem_range.2 hi);have R:i<f.size:=by omega
    simp[Array.getD,R]at this |-;exact this
   refine⟨?_,E',H',hK (UL fun k F hF=>hfac k (J k (by have:=(aQI.1 hF).1;rw[hlenF]at this;simpa using this)) F hF),?_⟩
   ·unfold Region.ready;refine List.filter_eq_nil_iff.2 fun i hi=>?_;have:=J i (List.mem_range.1 hi);have R:i<f.size:=by have:=List.mem_range.1 hi;omega
    simp[Array.getD,R]at this;simp[Array.getD,R,this]
   refine cX.get (G0:=G0) (fun t=>?_) (fun j=>?_) G hG N a w p
   ·rw[hE' t,hE1 t,Array.length_toList];exact(qB (E:=E) ops.size ops.size (aQK _) (fun j x q _=>⟨fun z=>J j z,fun h1 h2=>by omega⟩)).symm
   rw[hH' j,hH1 j,Array.length_toList];exact(qA (H:=H) ops.size ops.size (aQK _) (fun i x hi _=>⟨fun z=>J i z,fun h1 h2=>by omega⟩)).symm
  | succ L ih =>
   intro f a w X H1 hsz hcnt M hfac p hE1 hH1;refine⟨fun hnil=>?_,fun i hi=>?_⟩
   ·-- nothing is left
    have J:∀i,i<ops.size->f.getD i false=true:=by
     intro i
     induction i using Nat.strongRecOn with
     | _ i ihi =>
      intro hi;refine Classical.byContradiction fun hno=>?_;have R:i<f.size:=by omega
      have hno':f.getD i true=false:=by
       simp[Array.getD,R]at hno |-;exact hno
      have z:i<ops.toList.length:=by simpa using hi
      have hr:i∈Region.ready .any ops f:=by
       unfold Region.ready;refine List.mem_filter.2 ⟨List.mem_range.2 hi,?_⟩;have ho:ops[i]?=some ops[i]:=Array.getElem?_eq_getElem hi;simp only[hno',Bool.not_false,Bool.true_and,ho,Option.map_some,Option.getD_some];rw[Array.all_eq_true'];intro e he;cases hb:Region.binds .any e with
       |false=>simp
       |true =>
        have hon:=hedge i ops[i] (by simp[ho]) e (by simpa using he) hb;simp only[Bool.not_true,Bool.false_or];exact ihi e.on (by omega) (by omega)
      rw[hnil]at hr;cases hr
    refine⟨E',H',hK (UL fun k F hF=>hfac k (J k (by have:=(aQI.1 hF).1;rw[hlenF]at this;simpa using this)) F hF),?_⟩;refine cX.get (G0:=G0) (fun t=>?_) (fun j=>?_) G hG N a w p
    ·rw[hE' t,hE1 t,Array.length_toList];exact(qB (E:=E) ops.size ops.size (aQK _) (fun j x q _=>⟨fun z=>J j z,fun h1 h2=>by omega⟩)).symm
    rw[hH' j,hH1 j,Array.length_toList];exact(qA (H:=H) ops.size ops.size (aQK _) (fun i x hi _=>⟨fun z=>J i z,fun h1 h2=>by omega⟩)).symm
   have hi1:=List.mem_filter.1 hi;have hilt:i<ops.size:=List.mem_range.1 hi1.1;have R:i<f.size:=by omega
   have ho:ops[i]?=some ops[i]:=Array.getElem?_eq_getElem hilt;have hi2:=hi1.2;simp only[ho,Option.map_some,Option.getD_some,aQN]at hi2;obtain ⟨hnl,hpreds⟩:=hi2;have hnl':f.getD i false=false:=by
    simp[Array.getD,R]at hnl |-;exact hnl
   have hpre:∀e∈(ops[i]).after.toList,Region.binds .any e=true->f.getD e.on false=true:=by
    intro e he hb;have:=(Array.all_eq_true'.1 hpreds) e (by simpa using he)
    simpa[hb]using this
   have hil:i<l.length:=by omega
   obtain ⟨x,hx⟩:∃x,l[i]?=some x:=⟨_,aQJ hil⟩;have hxo:x.o=ops[i]:=by
    have:=hlo i x hx;simp[ho]at this;exact this.symm
   obtain ⟨W,F,hFi,Ek,Hk,hEk,hHk,hdst⟩:=hst i x hx;have A:∀(j:Nat) (y:Ent2),j<i->l[j]?=some y->kX ops.toList y x=true->f.getD j false=true:=by
    intro j y q Y hcl;exact hbef j i y x q Y hx hcl _ M ops[i] (by simp[ho]) hpre
   have C:∀(j:Nat) (y:Ent2),i<j->l[j]?=some y->kX ops.toList x y=true->f.getD j false=false:=by
    intro j y q Y hcl;cases hjl:f.getD j false with
    |false=>rfl
    |true =>
     have hjlt:j<l.length:=(aQI.1 Y).1;have hjo:ops.toList[j]?=some y.o:=hlo j y Y;have:=hbef i j x y q hx Y hcl _ M y.o hjo (fun e he hb=>M j y.o hjo hjl e he hb);rw[hnl']at this;cases this
   have agreeE:∀t,(∀(j:Nat) (y:Ent2),l[j]?=some y->y.o.dst=some t->(j<i->kX ops.toList y x=true)/\(i<j->kX ops.toList x y=true))->X.get t=Ek.get t:=by
    intro t ht;rw[hE1 t,hEk t];refine qB (E:=E) ops.size i (by omega) (fun j y q K=>⟨fun z=>A j y z q ((ht j y q K).1 z),fun h1 h2=>?_⟩);by_cases e:j=i
    ·subst e;exact hnl'
    exact C j y (by omega) q ((ht j y q K).2 (by omega))
   have agreeH:∀k,(∀(j:Nat) (y:Ent2),l[j]?=some y->(y.r.W.get k).isSome=true->(j<i->kX ops.toList y x=true)/\(i<j->kX ops.toList x y=true))->H1.get k=Hk.get k:=by
    intro k U;rw[hH1 k,hHk k];refine qA (H:=H) ops.size i (by omega) (fun j y q K=>⟨fun z=>A j y z q ((U j y q K).1 z),fun h1 h2=>?_⟩);by_cases e:j=i
    ·subst e;exact hnl'
    exact C j y (by omega) q ((U j y q K).2 (by omega))
   have u:∀t,t∈hV ops.toList x.o->X.get t=Ek.get t:=fun t ht =>
    agreeE t fun j y q K=>⟨fun _=>BK K ht,fun _=>BJ K ht⟩
   have T:∀k,AS x.r.R k=true->H1.get k=Hk.get k:=fun k U =>
    agreeH k fun j y q K=>⟨fun _=>R5 K U,fun _=>R6 K U⟩
   have s:∀j,(f.setIfInBounds i true).getD j false=if j=i then true else f.getD j false:=by
    intro j;by_cases e:j=i
    ·subst e;simp[Array.getD,R]
    simp only[Array.getD_eq_getD_getElem?,Array.getElem?_setIfInBounds_ne (Ne.symm e),e,if_false]
   have hdown':aDc ops.toList (fun j=>(f.setIfInBounds i true).getD j false):=by
    intro j o q hjl e he hb;simp only[s]at hjl |-;by_cases ej:j=i
    ·subst ej;have:o=ops[j]:=by simp[ho]at q;exact q.symm
     subst this;have:=hpre e he hb;simp[this]
    simp only[ej,if_false]at hjl;have:=M j o q hjl e he hb;simp only at this;simp[this]
   have hcnt':((List.range ops.size).filter fun j=>!(f.setIfInBounds i true).getD j true).length<=L:=by
    have hlist':∀j,(f.setIfInBounds i true).getD j true=if j=i then true else f.getD j true:=by
     intro j;by_cases e:j=i
     ·subst e;simp[Array.getD,R]
     simp only[Array.getD_eq_getD_getElem?,Array.getElem?_setIfInBounds_ne (Ne.symm e),e,if_false]
    have h1:((List.range ops.size).filter fun j=>!(f.setIfInBounds i true).getD j true)=((List.range ops.size).filter fun j=>!f.getD j true).filter fun j=>j != i:=by
     rw[List.filter_filter];refine List.filter_congr fun j _=>?_;rw[hlist'];by_cases e:j=i<;>simp[e]
    rw[h1];have h2:=List.length_filter_lt_length_iff_exists (p:=fun j=>j != i) (l:=(List.range ops.size).filter fun j=>!f.getD j true) |>.2 ⟨i,List.mem_filter.2 ⟨hi1.1,by simpa using hnl⟩,by simp⟩;omega
   have O:∀(r:AV) (a':Act) (w':World),F->r=x.r.v->St G N (kZ X x.o.dst x.r.v) (x.r.W++H1) a' w'->wpAnyIn (RF ro) 0 P .any ops (fun e a w=>∃E H,Q e E H/\St G N E H a w) L (f.setIfInBounds i true) a' w':=by
    intro r a' w' hFx _ hst';refine ih _ a' w' _ _ (by simp[hsz]) hcnt' hdown' (fun k U F' hF'=>?_) hst' (fun t=>?_) (fun k=>?_)
    ·rw[s]at U;by_cases e:k=i
     ·subst e;rw[hFi]at hF';cases hF';exact hFx
     rw[aQC e]at U;exact hfac k U F' hF'
    ·-- slots
     by_cases K:x.o.dst=some t
     ·have e1:dG.get (kZ X x.o.dst x.r.v) t=some x.r.v:=by rw[K];simp[kZ,dG.get_cons_same]
      rw[e1];have e2:=qB (E:=E) (l:=l) (S:=fun j=>(f.setIfInBounds i true).getD j false) (t:=t) ops.size (i+1) (by omega) (fun j y q hyd=>⟨fun z=>?_,fun h1 h2=>?_⟩)
      ·rw[e2,AF,hx];simp[K]
      ·simp only[s];by_cases ej:j=i
       ·simp[ej]
       simp only[ej,if_false];exact A j y (by omega) q (sK hyd K)
      simp only[s];rw[aQC (by omega)];exact C j y (by omega) q (sK K hyd)
     have e1:dG.get (kZ X x.o.dst x.r.v) t=X.get t:=by
      cases hdd:x.o.dst with
      |none=>rfl
      |some d=>exact dG.get_cons_other _ _ (fun e=>K (by rw[hdd,e]))
     rw [e1,hE1 t];have:∀ n,AF E l (fun i=>f.getD i false) n t=AF E l (fun j=>(f.setIfInBounds i true).getD j false) n t:=by
      intro n
      induction n with
      |zero=>rfl
      | succ n D =>
       rw[AF,AF];cases hn:l[n]? with
       |none=>exact D
       |some y =>
        simp only;by_cases en:n=i
        ·subst en;rw[hx]at hn;cases hn;rw[aQC (fun h=>K h.2),aQC (fun h=>K h.2)];exact D
        have hS:(f.setIfInBounds i true).getD n false=f.getD n false:=by rw[s,aQC en]
        rw[hS,D]
     exact this _
    rw[DF];by_cases K:(x.r.W.get k).isSome=true
    ·obtain ⟨ob,hob⟩:=Option.isSome_iff_exists.1 K;rw[hob];have e2:=qA (H:=H) (l:=l) (S:=fun j=>(f.setIfInBounds i true).getD j false) (id:=k) ops.size (i+1) (by omega) (fun j y q hyd=>⟨fun z=>?_,fun h1 h2=>?_⟩)
     ·rw[e2,yM,hx];simp[hob]
     ·simp only[s];by_cases ej:j=i
      ·simp[ej]
      simp only[ej,if_false];exact A j y (by omega) q (DJ hyd K)
     simp only[s];rw[aQC (by omega)];exact C j y (by omega) q (DJ K hyd)
    have hnone:x.r.W.get k=none:=by simpa using K
    rw [hnone];simp only;rw [hH1 k];have:∀ n,yM H l (fun i=>f.getD i false) n k=yM H l (fun j=>(f.setIfInBounds i true).getD j false) n k:=by
     intro n
     induction n with
     |zero=>rfl
     | succ n D =>
      rw[yM,yM];cases hn:l[n]? with
      |none=>exact D
      |some y =>
       simp only;by_cases en:n=i
       ·subst en;rw[hx]at hn;cases hn;rw[aQC (fun h=>K h.2),aQC (fun h=>K h.2)];exact D
       have hS:(f.setIfInBounds i true).getD n false=f.getD n false:=by rw[s,aQC en]
       rw[hS,D]
    exact this _
   unfold wpOpIn;simp only[ho];rw[hxo]at hdst u W;rw[hxo]at O;have hgE:∀(j:Nat) (V:Bool) (t:Tmp) (b:Bool),(ops[i]).guard=some (j,V)->iV ops.toList j=some t->Ek.get t=some (.pv (.bool b))->yielded ops a.tmps j=some b:=by
    intro j V t b hg q hb;have hmem:t∈hV ops.toList ops[i]:=by simp[hV,hg,q]
    exact uE (E:=X) q ((u t hmem).trans hb) p.rel.choose_spec.choose_spec.2.2
   have hnd:ro=none\/(ops[i]).noDefer=true:=hnd0.imp (fun h=>h) fun h=>List.all_eq_true.1 h _ (by simp);cases hdst with
   | pan hg h =>
    have hlr:∀y∈l,y.r∈rs:=fun y Y=>by
     obtain ⟨k,U⟩:=aQZ.1 Y;rw[hl,List.getElem?_zipWith]at U;cases e1:ops.toList[k]? with
     |none=>simp[e1]at U
     |some o=>cases e2:rs[k]? with
      |none=>simp[e1,e2]at U
      |some r=>simp[e1,e2]at U;rw[<-U];exact aQO e2
    have hw:Region.wanted ops[i] (yielded ops a.tmps)=true:=by simp[Region.wanted,hg]
    simp only[hw,if_true];refine p.opP W ((h H1 T).restr u) ?_ ?_ hnd
    ·rintro r H2 a' w' ⟨rfl,rfl,hF⟩ S;exact O _ a' w' hF rfl S
    intro ch H2 w' hp S;refine⟨X,H2,hP ch X H1 H2 (fun t ht=>(hE1 t).trans (MB (fun y Y=>aAE hT t ht y.o (by
     obtain ⟨k,U⟩:=aQZ.1 Y;exact aQO (hlo k y U))) _)) (fun id hid o ho=>?_) (fun id hid=>(hH1 id).trans (MA (fun y Y=>aAD hKs id hid y.r (hlr y Y)) _)) hp,S⟩
    have hsh:=SO (H:=H) (l:=l) (S:=fun i=>f.getD i false) (id:=id) ho (fun y Y o' ho'=>?_) ops.size
    ·obtain ⟨o',h1,h2⟩:=hsh;exact⟨o',(hH1 id).trans h1,h2⟩
    exact aCT hW y.r (hlr y Y) id hid o' ho' o ho
   | old hF hdst =>
    have O:=fun r a' w'=>O r a' w' hF;cases hdst with
    |plain hg h =>
     have hw:Region.wanted ops[i] (yielded ops a.tmps)=true:=by simp[Region.wanted,hg]
     simp only[hw,if_true];refine p.op W ((h H1 T).restr u) ?_ hnd;rintro r H2 a' w' ⟨rfl,rfl⟩ S;exact O _ a' w' rfl S
    |on j V t b hg q hb hw h =>
     have Y:=hgE j V t b hg q hb;have hw:Region.wanted ops[i] (yielded ops a.tmps)=true:=by simp[Region.wanted,hg,Y,hw]
     simp only[hw,if_true];refine p.op W ((h H1 T).restr u) ?_ hnd;rintro r H2 a' w' ⟨rfl,rfl⟩ S;exact O _ a' w' rfl S
    | off j V t x' hg q hb hw hv hW =>
     have hmem:t∈hV ops.toList ops[i]:=by simp[hV,hg,q]
     have hw:Region.wanted ops[i] (yielded ops a.tmps)=false :=
      II (E:=X) hg q ((u t hmem).trans hb) hw p.rel.choose_spec.choose_spec.2.2
     simp only[hw,Bool.false_eq_true,if_false];refine⟨fun _ _=>trivial,?_⟩;refine O (.tup []) _ w hv.symm ?_;obtain ⟨I,ι,hr,hst2,he⟩:=p.rel;rw[hv,hW];refine⟨?_,?_,I,ι,hr,hst2,jL.put hr (Step.refl _ _ _ _) he jL.skip (by rw[p.size];exact W)⟩
     ·rw[jP];exact p.defers
     have:=p.size;cases (ops[i]).dst<;>simpa[Act.put]using this
 have S:St G N E H a {w with drawn:=w.drawn+1}:=by
  obtain ⟨I,ι,hr,hst2,he⟩:=hs.rel;obtain ⟨k2,k3⟩:=hr.drawn (w':={w with drawn:=w.drawn+1}) rfl rfl rfl rfl;exact⟨hs.defers,hs.size,I,ι,k2,hst2.trans k3,fun t v ht=>let ⟨c,h1,h2⟩:=he t v ht;⟨c,h1,h2.mono hr k3⟩⟩
 refine main ops.size (Array.replicate ops.size false) a _ E H (by simp) (by
  have:=List.length_filter_le (fun i=>!(Array.replicate ops.size false).getD i true) (List.range ops.size)
  simpa using this) (fun j o q hjl=>by simp[Array.getD]at hjl) (fun k U=>by simp[Array.getD]at U) S (fun t=>?_) (fun k=>?_)
 ·have:∀n,AF E l (fun i=>(Array.replicate ops.size false).getD i false) n t=E.get t:=by
   intro n
   induction n with
   |zero=>rfl
   | succ n D =>
    rw[AF];cases l[n]? with
    |none=>exact D
    |some y =>
     have hf:(Array.replicate ops.size false).getD n false=false:=by simp[Array.getD]
     simp only[hf,Bool.false_eq_true,false_and,if_false];exact D
  exact(this _).symm
 have:∀n,yM H l (fun i=>(Array.replicate ops.size false).getD i false) n k=H.get k:=by
  intro n
  induction n with
  |zero=>rfl
  | succ n D =>
   rw[yM];cases l[n]? with
   |none=>exact D
   |some y =>
    have hf:(Array.replicate ops.size false).getD n false=false:=by simp[Array.getD]
    simp only[hf,Bool.false_eq_true,false_and,if_false];exact D
 exact(this _).symm
def DCP(P:Program)(N:Nat)(PP:YG->aH->aH->Prop)(ops rest:List Oper)(E:dG)(H:aH)(K:List Rec->List Prop->dG->aH->Prop):Prop:=∃rs Fs E' H',DChainP P N ops PP rest E H rs Fs E' H'/\K rs Fs E' H'
theorem GS{P}{N}{PP}{ops}{E}{H}{K}(h:K [] [] E H):DCP P N PP ops [] E H K:=⟨_,_,_,_,.nil,h⟩
theorem sW{P}{N}{PP}{ops rest}{o}{E}{H}{K}{r}{F}(h:DStepP P N ops PP o E H r F)(hd:iW N o.dst=true)
  (d:DCP P N PP ops rest (kZ E o.dst r.v) (r.W++H) (fun a b E' H'=>K (r::a) (F::b) E' H')):DCP P N PP ops (o::rest) E H K:=by
 obtain ⟨a,b,E',H',c,e⟩:=d;exact⟨_,_,_,_,.cons h hd c,e⟩
theorem cP{P}{N}{PP}{ops rest}{o}{E}{H}{K}{r}(h:DStep P N ops o E H r)(hd:iW N o.dst=true)
  (c:DCP P N PP ops rest (kZ E o.dst r.v) (r.W++H) (fun a b E' H'=>K (r::a) (True::b) E' H')):DCP P N PP ops (o::rest) E H K:=sW (.old trivial h) hd c
theorem wD{P}{G0}{N id}{Q}{ops}{E}{H}(PP)(d a ks)(i:aF8 d ops=true)(g:P.follows .mixedOrders=true)
  (j:∀e c H1 H2,(∀t∈d,c.get t=E.get t)->Shp a H H1->(∀id∈ks,H1.get id=H.get id)->PP e H1 H2->Q (.panic e) c H2)
  (h:DCP P N PP ops.toList ops.toList E H (fun b f E' H'=>(HY ops.toList b=true/\aK9 a H b=true/\aF7 ks b=true)/\(UV f->Q .normal E' H'))):gM P G0 N (.region id ops true) Q E H:=by
 obtain ⟨b,f,E',H',n,⟨m,l,o⟩,k⟩:=h;exact aDZ g n m _ _ l o _ i j k
end
section
abbrev aGp(G:Entry)(Q:AV->aH->Prop):Ending->World->Prop:=fun e w'=>∃r H' I' ι' v,e=.returned v/\Q r H'/\VRel w' I' ι' H' v r/\Rel I' ι' H' w'/\Step G.I G.ι G.H G.w I' ι' H' w'
def DWp(P:Program)(fn:Func)(G0:aH)(N:Nat)(Q:AV->aH->Prop)(c:Code)(E:dG)(H:aH):Prop :=∀G:Entry,G.H=G0->G.ds=[]->∀a w,St G N E H a w->c.wpIn Fence.wide 0 P (bodyPostM Fence.wide 0 P fn (aGp G Q)) a w
section
variable{P:Program}{fn:Func}{G0 H:aH}{N:Nat}{Q:AV->aH->Prop}{E:dG}
theorem zM{G}{e}{a}{w}(n:G.H=G0)(hd:G.ds=[])(h:JC P fn G0 Q e E H)(m:St G N E H a w):bodyPostM Fence.wide 0 P fn (aGp G Q) e a w:=by
 obtain ⟨o,r,g,r',H'',b,hq⟩:=h;have c:LeavesInM Fence.wide 0 P fn a.tmps (aGp G Q) a.defers .returning w:=by
  obtain ⟨I',ι',k,f,l⟩:=m.rel;refine uA (hd▸m.defers) k f l ?_;intro w2 i d j;obtain ⟨v,h1,p⟩:=g a _ _ _ i j;obtain ⟨I2,ι2,k1,k2,k3⟩:=b G n _ _ _ v i d p
  grind
 rcases o with rfl|rfl
 ·exact c
 exact c
theorem aBa{x y}(h:gM P G0 N x (zQ (fun g H1=>DWp P fn G0 N Q y g H1) (JC P fn G0 Q)) E H):DWp P fn G0 N Q (.seq x y) E H:=by
 intro G c d a w i;refine wpIn_seq (wpIn_mono (h G c a w i _ (.inl rfl)) ?_);rintro e a' w' ⟨E',H',f,b⟩;cases e with
 |normal=>exact f G c d _ _ b
 |exit id=>exact zM c d f b
 |goto l=>exact zM c d f b
 |ret=>exact zM c d f b
 |panic ch=>exact zM c d f b
 |outgrown=>exact zM c d f b
theorem aI.bodyD{f:FuncId}{c:Code}{args:List AV}(k:P.funcs[f]?=some fn)(o:fn.body=some c)(hN:fn.ntmps=N)(hlen:args.length<=N)(h:DWp P fn H N Q c (mP args) H):aI P f args H Q:=by
 intro I g w b j hl i;refine callsIn_wide.1 (callsIn_of_wp_marks (n:=0) k o trivial ?_);have d:St ⟨I,g,H,w,[]⟩ N (mP args) H {tmps:=b++Array.replicate (fn.ntmps - b.size) undef,defers:=[]} w:=by
  refine⟨rP.nil _ _ _,?_,I,g,j,Step.refl _ _ _ _,fun t a n=>?_⟩
  ·grind
  have m:=uF n;have e:t<b.size:=by grind
  have l:=Array.getElem?_eq_getElem e;exact⟨b[t],by grind,i t _ a l m⟩
 exact h _ rfl rfl _ w d
end
def UW(P:Program)(F:FuncId)(args:List AV)(H:aH)(u:FrameMode)(K:aH->Prop):Prop :=∀(I:Nat->Prop) (ι:kY) (w:World) (vs:Array Value),Rel I ι H w->vs.size=args.length->(∀(i:Nat) (v:Value) (a:AV),vs[i]?=some v->args[i]?=some a->VRel w I ι H v a) ->
  CallsDIn Fence.wide 0 P F vs u w fun e u' w'=>∃v H' I' ι',e=.returned v/\settle u'=.returning/\K H'/\Rel I' ι' H' w'/\Step I ι H w I' ι' H' w'
def aBt(P:Program)(fn:Func)(G0 H0:aH)(F:FuncId)(cs:List AV)(Q:AV->aH->Prop)(e:Exit)(E:dG)(H:aH):Prop :=∃u E1 H1,((e=.normal\/e=.ret)/\u=.returning\/∃ch,e=.panic ch/\u=.panicking ch)/\cX H0 E H E1 H1 /\
  UW P F cs H1 u fun H2=>∃r,(∀(a:Act) (w:World) (I:Nat->Prop) (ι:kY),Rel I ι H2 w->jL w I ι H2 E1 a->∃v,(results fn a.tmps).run P w=.ok v w/\VRel w I ι H2 v r)/\∃r' H3,Fin G0 H2 r H3 r'/\Q r' H3
section
variable{P:Program}{fn:Func}{G0 H:aH}{N:Nat}{Q:AV->aH->Prop}{E:dG}
theorem aDL{X Y:Oper}{rest:Code}{F:FuncId}{l:Array Operand}{at_:Array TypeId}{d:Tmp}{cs:List AV}(z:ops.toList=[X,Y])(hg1:X.guard=none)(R:X.dst=some d)(hdN:Nat.blt d N=true)(ho1:X.op=.makeFunc (.func F) #[] l)
  (hg2:Y.guard=none) (hd2:Y.dst=none) (ho2:Y.op=.defer {callee:=.value (.tmp d),args:=#[],argTypes:=at_}) (hv:xM E l.toList=some cs)
  (hc:∀(args:Array Value) (w:World),(callFunc F args).run P w=.ok (.enter F args) w)
  (h:gM P H N rest (aBt P fn G0 H F cs Q) ((d,.clo F cs)::E) H):DWp P fn G0 N Q (.seq (.region id ops false) rest) E H:=by
 intro G hG hd a w hs;refine wpIn_seq (wpIn_region_list ?_);rw[z];refine wpListIn_plain hg1 fun K1 hK1=>?_;refine hs.op (ro:=none) (by rw[R];exact hdN) (gR ho1 (mJ hv)) ?_ (.inl rfl);rintro r H' j q ⟨rfl,rfl⟩ k;refine hK1 j q ?_;rw[R]at k;refine wpListIn_plain hg2 fun K2 hK2=>?_;refine Oper.wpW_in (ro:=none) (.inl rfl) ?_;obtain ⟨I1,S,o,B,A⟩:=k.rel;obtain ⟨c1,hc1,hv1⟩:=A d _ (dG.get_cons_same _ _ _);have hev:j.eval (.tmp d)=c1:=by simp[Act.eval,hc1]
 cases hv1 with
 | @clo _ K _ hl hh =>
  unfold Oper.wpW execOp;simp only[ho2,resolve,hev,Deferred.ofValue,Sem.run_bind,Sem.run_pure,Result.andThen_ok,Oper.uponW,hd2,Act.put];refine hK2 _ q ?_;show Exit.then _ _ .normal _ q
  let dd:Deferred:={target:=.fn (.func F) K,args:=#[]++(#[]:Array Operand).map j.eval}
  have C:St ⟨I1,S,H',q,dd::j.defers⟩ N ((d,.clo F cs)::E) H' {j with defers:=dd::j.defers} q :=
   ⟨rP.nil _ _ _,k.size,I1,S,o,Step.refl _ _ _ _,A⟩
  refine wpIn_mono (h _ rfl _ q C none (.inl rfl)) ?_;rintro e M w' ⟨E',H2,⟨u,E1,H1,n,I,W⟩,Z⟩;have L:=I _ rfl N M w' Z;have p:u≠.run->LeavesInM Fence.wide 0 P fn M.tmps (aGp G Q) M.defers u w':=by
   intro hu;obtain ⟨I3,ι3,hr3,O,he3⟩:=L.rel;refine xQ hu L.defers hr3 O he3 ?_;intro w4 y g he4;refine⟨hu,.inr ⟨(fun hx=>by cases hx),.func F,K,F,K,rfl,?_,fun _ _=>trivial,?_⟩⟩
   ·show (invoke (.fn (.func F) K) (#[]++(#[]:Array Operand).map j.eval)).run P w4=_;simp only[invoke,Array.map_empty,Array.empty_append,hc]
   refine(W I3 ι3 w4 K y (by omega) (fun i v b hv hb=>(hh i v b hv hb).mono o g)).mono ?_;rintro e2 u' w5 ⟨v,H5,I5,m,rfl,J,⟨r,U,r',H6,D,hq⟩,hr5,f⟩;show LeavesInM Fence.wide 0 P fn M.tmps (aGp G Q) j.defers (settle u') w5;rw[J];have s:Step G.I G.ι G.H G.w I5 m H5 w5:=(B.trans g).trans f;have hm1:rP [] G.w w5 j.defers:=(hd▸k.defers).step o (g.trans f);refine uA hm1 hr5 s (fun t v ht=>let ⟨c,x1,x2⟩:=he4 t v ht;⟨c,x1,x2.mono y f⟩) ?_;intro w7 V x he7;obtain ⟨v,h1,h2⟩:=U M w7 I5 m V he7;obtain ⟨I8,ι8,k1,k2,k3⟩:=D G hG I5 m w7 v V x h2
   grind
  rcases n with⟨rfl|rfl,rfl⟩|⟨ch,rfl,rfl⟩
  ·exact p (by simp)
  ·exact p (by simp)
  exact p (by simp)
end
end
end Go.Abs
namespace Go.Abs
open Go.Proofs
variable{d:Tmp}{E:dG}
section
section
variable{P:Program}{G0:aH}{N:Nat}{Q:Exit->dG->aH->Prop}{H:aH}
def PW(P:Program)(G0:aH)(N:Nat)(c:Code)(Q:Exit->dG->aH->Prop)(E:dG)(H:aH):Prop :=∀G:Entry,G.H=G0->∀a w,St G N E H a w->c.wpIn (RF none) 0 P (fun e a' w'=>(∃E H,Q e E H/\St G N E H a' w')/\a'.defers=a.defers) a w
def ALN(P:Program)(G0:aH)(N:Nat)(ops:Array Oper)(K:dG->aH->Prop)(l:List Oper)(E:dG)(H:aH):Prop :=∀G:Entry,G.H=G0->∀a w,St G N E H a w->∀Q:Exit->Act->World->Prop,(∀E H a' w',K E H->St G N E H a' w'->a'.defers=a.defers->Q .normal a' w')->wpListIn (RF none) 0 P ops Q l a w
theorem DO{ops}{K}(h:K E H):ALN P G0 N ops K [] E H:=fun _ _ a w b _ c=>c _ _ a w h b rfl
theorem St.opN{G}{a}{w}{o}{R}(d:St G N E H a w)(hd:iW N o.dst=true)(h:OpR P N o E H R){K}{Q}
  (l:∀r H' a' w',R r H'->St G N (kZ E o.dst r) H' a' w'->a'.defers=a.defers->K a' w'):o.wpIn (RF none) 0 P a w K Q:=by
 refine Oper.wpW_in (.inl rfl) ?_;obtain ⟨I,ι,g,e,j⟩:=d.rel;refine h a w I _ trivial d.size g j K Q ?_;intro c w' m f r H' n k i b;refine l r _ _ _ n ⟨?_,?_,m,f,i,e.trans b,jL.put g b j k (by rw[d.size];exact hd)⟩ (jP _ _ _)
 ·rw[jP];exact d.defers.step g b
 have:=d.size;cases o.dst<;>simpa[Act.put]using this
theorem aKJ{ops}{K}{o}{rest}{R}(m:o.guard=none)(hd:iW N o.dst=true)(h:OpR P N o E H R)(k:∀r H',R r H'->ALN P G0 N ops K rest (kZ E o.dst r) H'):ALN P G0 N ops K (o::rest) E H:=by intro G j a w l Q i;refine wpListIn_plain m fun K' n=>?_;exact l.opN hd h fun r H' a' w' g f e=>n _ _ (k r _ g G j _ _ f Q fun E H a'' w'' d c b=>i E H _ _ d c (b.trans e))
theorem JZ{ops}{K}{o}{rest}{v}{H2}(a:o.guard=none)(hd:o.dst=some d)(c:Nat.blt d N=true)(h:cU P N o E H v H2)(e:ALN P G0 N ops K rest ((d,v)::E) H2):ALN P G0 N ops K (o::rest) E H :=aKJ a (by rw[hd];exact c) h fun r H' ⟨b,f⟩=>by subst b f;rw[hd];exact e
theorem aGb{ops}{K}{o}{rest}{v}{H2}(d:o.guard=none)(hd:o.dst=none)(h:cU P N o E H v H2)(a:ALN P G0 N ops K rest E H2):ALN P G0 N ops K (o::rest) E H :=aKJ d (by rw[hd];rfl) h fun r H' ⟨c,b⟩=>by subst c b;rw[hd];exact a
theorem qJ{id}{ops}(h:ALN P G0 N ops (fun E H=>Q .normal E H) ops.toList E H):PW P G0 N (.region id ops false) Q E H:=fun G c a w d =>
 wpIn_region_list (h G c a w d _ fun E H a' w' q s b=>⟨⟨E,H,q,s⟩,b⟩)
theorem GU{x y}(h:PW P G0 N x (zQ (PW P G0 N y Q) Q) E H):PW P G0 N (.seq x y) Q E H:=by intro G c a w g;refine wpIn_seq (wpIn_mono (h G c a w g) ?_);rintro e a' w' ⟨⟨f,d,q,s⟩,b⟩;cases e<;>first|exact wpIn_mono (q G c _ _ s) (fun e a w ⟨i,j⟩=>⟨i,j.trans b⟩)|exact⟨⟨f,d,q,s⟩,b⟩
theorem OA{id}{c}(h:PW P G0 N c (G6 id Q) E H):PW P G0 N (.block id c) Q E H:=by
 intro G f a w i;refine wpIn_block (wpIn_mono (h G f a w i) ?_);rintro e a' w' ⟨⟨g,d,q,s⟩,j⟩;cases e<;>try exact⟨⟨g,d,q,s⟩,j⟩
 simp only[G6]at q;simp[Exit.inBlock]
 split
 ·rename_i b;subst b;rw[pA]at q;grind
 rename_i b;rw[kW b]at q;grind
theorem IX{c}{x y}{b}(j:aR E c=some (.pv (.bool b)))(g:b=true->PW P G0 N x Q E H)(k:b=false->PW P G0 N y Q E H):PW P G0 N (.cond c x y) Q E H:=by intro G f a w d;obtain ⟨I,ι,hr,hst,h⟩:=d.rel;have i:=(aJ h j).bool_inv;exact wpIn_cond_split i (fun e=>g e G f a w d) (fun e=>k e G f a w d)
end
section
variable{P:Program}{fn:Func}{H:aH}{N:Nat}{F:FuncId}{args:List AV}{K:aH->Prop}
def aPT(H:aH)(K:aH->Prop)(e:Exit)(E':dG)(H':aH):Prop:=(e=.normal\/e=.ret)/\∃H2,Fin H H' (.tup []) H2 (.tup [])/\K H2
theorem G3{id:Nat}{o:Oper}{ops:Array Oper}{M:Code}{T:Array TypeId}{u:FrameMode}{x:PV}{vx:Value}(hf:P.funcs[F]?=some fn)(hb:fn.body=some (.seq (.region id ops false) M))(hN:fn.ntmps=N)(hlen:args.length<=N)(hr0:fn.results=#[])
  (z:ops=#[o]) (hg:o.guard=none) (hd:o.dst=some d) (W:Nat.blt d N=true) (ho:o.op=.call {callee:=.builtin .recover,args:=#[],argTypes:=T})
  (hx:∀(w:World) (I:Nat->Prop),PRep w I vx x) (S:(u=.returning/\vx=.nilIface)\/(∃t,u=.panicking (ms t)/\vx=.iface t (.agg #[])))
  (h:PW P H N M (aPT H K) ((d,.pv x)::mP args) H):UW P F args H u K:=by
 intro I r w k hr hl hv;refine callsDIn_of_wpSIn hf hb trivial ?_;intro b p c;refine wpSIn_seq (wpSIn_region ?_);subst z;have f:St ⟨I,r,H,w,[]⟩ N (mP args) H {tmps:=k++Array.replicate (fn.ntmps - k.size) undef,defers:=[]} w:=by
  refine⟨rP.nil _ _ _,?_,I,r,hr,Step.refl _ _ _ _,fun t a ht=>?_⟩
  ·grind
  have J:=uF ht;have L:t<k.size:=by grind
  have S:k[t]?=some k[t]:=Array.getElem?_eq_getElem L;exact⟨k[t],by grind,hv t _ a S J⟩
 obtain ⟨a,J⟩:∃a:Act,a={tmps:=k++Array.replicate (fn.ntmps - k.size) undef,defers:=[]}:=⟨_,rfl⟩;rw[<-J]at f |-;have q:a.defers=[]:=by rw[J]
 have D:St ⟨I,r,H,w,[]⟩ N ((d,.pv x)::mP args) H (a.put (some d) vx) w:=by
  obtain ⟨I1,V,G,U,k3⟩:=f.rel;refine⟨by rw[jP];exact f.defers,?_,I1,V,G,U,?_⟩
  ·have:=f.size
   simpa[Act.put]using this
  exact jL.put (d:=some d) G (Step.refl _ _ _ _) k3 (.pv (hx _ _)) (by rw[f.size];exact W)
 have l:∀s,settle s=.returning->M.wpSIn Fence.wide 0 P (bodyPostS P fn b p fun e s m=>∃v n C i,e=.returned v/\settle s=.returning/\K n/\Rel C i n m/\Step I r H w C i n m) (a.put (some d) vx) ({b with mode:=s}::p) w:=by
  intro s B;refine wpSIn_of_wpIn rfl (wpIn_mono (h ⟨I,r,H,w,[]⟩ rfl _ w D) ?_);rintro e a' m ⟨⟨E',n,⟨he,H2,y,hK⟩,Z⟩,hdf⟩;obtain ⟨I3,Y,G,U,k3⟩:=Z.rel;obtain ⟨I4,R,q1,q2,q3⟩:=y ⟨I,r,H,w,[]⟩ rfl I3 Y m (.tuple #[]) G U (.tup rfl (by simp));have Q:a'.defers=[]:=hdf.trans ((jP _ _ _).trans q);have A:a'.defers=[]/\∃E,({b with mode:=s}::p:List Frame)={b with mode:=E}::p/\∃v,(results fn a'.tmps).run P m=.ok v m/\∃v0 n C i,Ending.returned v=.returned v0/\settle E=.returning/\K n/\Rel C i n m/\Step I r H w C i n m :=
   ⟨Q,s,rfl,.tuple #[],by simp[results,hr0],.tuple #[],H2,I4,R,rfl,B,hK,q1,q2⟩
  rcases he with rfl|rfl
  ·exact A
  exact A
 have X:(execOp a.eval o).run P w=.ok .recover w:=by
  simp[execOp,ho,resolve,invoke];rfl
 have hw:Region.wanted o (yielded #[o] a.tmps)=true:=by simp[Region.wanted,hg]
 show wpOpsSIn _ _ _ _ _ [0] _ _ _;unfold wpOpsSIn;simp only[List.getElem?_toArray,List.getElem?_cons_zero,hw,if_true,X];refine⟨fun _ _=>trivial,?_⟩;rcases S with⟨rfl,rfl⟩|⟨t,rfl,rfl⟩
 ·have g:recoverD (b::p)=none:=by simp[recoverD,c]
  rw[g];have hc:({b with mode:=.returning}:Frame)=b:=by rw[<-c]
  have:=l .returning rfl;rw[hc]at this;rw[hd];exact this
 have g:recoverD (b::p)=some (.iface t (.agg #[]),{b with mode:=.panicking ({v:=.iface t (.agg #[]),recovered:=true}::[])}::p):=by simp[recoverD,c]
 rw[g];rw[hd];exact l (.panicking ({v:=.iface t (.agg #[]),recovered:=true}::[])) rfl
end
section
variable{P:Program}{N:Nat}{o:Oper}{H:aH}{t t' T:TypeId}{x y:Operand}
theorem ZX(e:o.op=.binOp .eql t x (.const .nilIface) t')(d:P.underlying t=some (.interface (P.methodsAt t)))(f:aR E x=some (.pv H4)):cU P N o E H (.pv (.bool true)) H :=.of_run fun a w I ι _ b=>⟨.bool _,by
  have c:=(aJ b f).sat_inv;have g:a.eval (.const _)=.nilIface:=rfl;simp[execOp,e,c,g,eqGuard,Sem.run_bind,Sem.run_pure,Result.andThen_ok,run_eql_nil_nil _ _ d,Bool.or_true,Bool.true_or,if_true,Bool.not_true,Bool.false_eq_true,if_false],.pv (.bool _)⟩
theorem ZY{ps:List PV}{h:TypeId}(e:o.op=.binOp .eql t x (.const .nilIface) t')(d:P.underlying t=some (.interface (P.methodsAt t)))(f:aR E x=some (.pv (.ifa h ps))):cU P N o E H (.pv (.bool false)) H :=.of_run fun a w I ι _ b=>⟨.bool false,by
  obtain ⟨cs,c,_⟩:=(aJ b f).ifa_inv;have g:a.eval (.const .nilIface)=.nilIface:=rfl;simp only[execOp,e,c,g,eqGuard,Sem.run_bind,Sem.run_pure,Result.andThen_ok,binOp,run_equal_held_nil _ _ _ _ d];rfl,.pv (.bool _)⟩
abbrev aMu:PV:=.sat fun v=>∃b,v=.pointer (some ⟨b,0,none⟩)
theorem Z0(f:o.op=.alloc T)(c:∀w,(zeroValue T).run P w=.ok (.agg #[]) w):cU P N o E H (.pv aMu) H:=by intro a w I ι _ _ g he K Q e;unfold Oper.wpW execOp;simp[f,Instr.alloc,c,newVar,newRow,Sem.run_bind,run_newObj,Sem.run_pure,Result.andThen_ok];obtain ⟨d,b⟩:=Rel.newImm (w':={w with heap:=w.heap.push _}) g rfl rfl rfl rfl;exact e _ _ _ _ _ _ ⟨rfl,rfl⟩ (.pv (.sat rfl ⟨_,rfl⟩)) d b
theorem ZU(k:o.op=.store T x y)(l:aR E x=some (.pv aMu))(n:aR E y=some (.agg []))(j:∀w,(sizeOf T).run P w=.ok 0 w):cU P N o E H (.tup []) H:=by
 intro a w I ι _ _ p g K Q m;obtain ⟨b,i⟩:=(aJ g l).sat_inv;have h:=aJ g n;generalize f:a.eval y=v2 at h;cases h with
 | @agg vs _ hl h1 hh =>
  have:=Array.eq_empty_of_size_eq_zero (by omega);subst this;have d:(execOp a.eval o).run P w=.ok .skip w:=by
   simp[execOp,k,i,f];simp[Instr.storeAt,Instr.sureAddr,storeVar,j,Value.cells,storeCells]
  unfold Oper.wpW;rw[d];exact m _ w I _ _ _ ⟨rfl,rfl⟩ (.tup rfl (by simp)) p (Step.refl _ _ _ _)
end
theorem cX.toAny{G0 H H':aH}{E':dG}(S:∀t v,E'.get t=some v->E.get t=some v/\Clo H' v)(u:∀id o',H'.get id=some o'->∃o,H.get id=some o/\lD o o'/\∀r∈o'.rows,∀a∈r,a=.any)(hG:∀id,(G0.get id).isSome=true->(H'.get id).isSome=true):cX G0 E H E' H':=by
 intro G J N a w K;obtain ⟨I,V,B,s,he⟩:=K.rel;have g:∀ {o o':Ob},lD o o'->o'.rows.length=o.rows.length:=fun h=>by
  have:=congrArg List.length h.2.2.2
  simpa using this
 have O:aBv H H':=fun j o' d=>by
  obtain ⟨o,m,f,_⟩:=u j o' d;exact⟨o,m,f.1.symm,f.2.1.symm,f.2.2.1.symm,(g f).symm⟩
 refine⟨K.defers,K.size,I,V,⟨B.imm,fun id o' d=>?_,fun id z o o' b c c' A d=>?_,B.glob⟩,?_,fun t v T=>?_⟩
 ·obtain ⟨o,m,f,Q⟩:=u id o' d;refine(B.obj id o m).keepG f.2.1 f.2.2.1 (g f) (fun y P R hy=>?_) rfl (fun _ _ _ _=>⟨rfl,fun h=>h⟩) (fun i R F=>?_)
  ·have:=Q [.raw y P] (by simp_all) (.raw y P) (by simp);cases this
  have x:i<o.rows.length:=by rw[<-g f];exact(aQI.1 F).1
  refine⟨o.rows[i],aQJ x,?_,fun k a a' _ C v _=>?_⟩
  ·have e:=congrArg (fun l:List Nat=>l[i]?) f.2.2.2;simp only[aQY,F,aQJ x,Option.map_some,Option.some.injEq]at e;exact e.symm
  rw[Q R (aQO F) a' (aQO C)];exact .any v
 ·obtain ⟨q,m,_⟩:=u id o A;obtain ⟨Y,D,_⟩:=u z o' d;exact B.inj id z q Y b c c' m D
 ·refine {s with own:=fun b ⟨id,o',L,d,M⟩=>?_,objs:=fun id o A=>?_}
  ·obtain ⟨o,m,_⟩:=u id o' d;exact s.own b ⟨id,o,L,m,M⟩
  obtain ⟨o1,W,k2,X⟩:=s.objs id o A;obtain ⟨o',d⟩:=Option.isSome_iff_exists.1 (hG id (by rw[<-J,A];rfl));obtain ⟨o2,m,f,_⟩:=u id o' d;rw[W]at m;cases m;refine⟨o',d,by rw[f.1];exact k2,fun e=>?_⟩;obtain ⟨q1,Z,q3⟩:=X (by rw[<-f.1];exact e);exact⟨q1,by rw[f.2.1];exact Z,fun hz=>by rw[g f];exact q3 hz⟩
 obtain ⟨m,f⟩:=S t v T;obtain ⟨c,M,U⟩:=he t v m;exact⟨c,M,U.alike O f⟩
theorem aOd{P}{c}{H}{x y}{r s:AV}(g:c.results=#[x,y])(f:J9 P E H x r)(e:J9 P E H y s):
  ∀(a:Act) (w) (I) (ι),Rel I ι H w->jL w I ι H E a->∃v,(results c a.tmps).run P w=.ok v w/\VRel w I ι H v (.tup [r,s]):=fun a w I ι d b=>by
 obtain ⟨v,h1,h2⟩:=f a w I ι d b;obtain ⟨u,h3,h4⟩:=e a w I ι d b;refine⟨.tuple #[v,u],by rw[sB,g];simp_all,.tup rfl ?_⟩
 grind
end
end Go.Abs
namespace Go.Proofs.YtmdicgjnmfolfaaGreatDoor
open Go.Proofs.Tryz
open Go.Abs
variable{f:FuncId}{xs:List AV}{K H1:aH}{l q:List UInt8}{o:Option (AV×List UInt8)}{v:AV}{s:ByteArray}{α:Type}{n:Int}
abbrev VX(l:List UInt8):Ob:=bx 1 84 [sv (ofL l)]
abbrev lR(l:List UInt8):aH:=[(980,VX l)]
abbrev MN:AV:=.ref 980 0 0 0
abbrev EQ:YG:=ms 81
theorem S6(l:List UInt8)(H:aH):∀r∈(VX l).rows,∀a∈r,Clo H a:=by intro r hr a ha;simp only[VX,bx,aQH]at hr;subst hr;rw[aQH]at ha;subst ha;simp
theorem AI(l:List UInt8):eI (lR l):=eI.ofL ⟨S6 l _,trivial⟩
def BX(f:FuncId)(xs:List AV)(K:aH)(l:List UInt8)(o:Option (AV×List UInt8)):Prop :=∀H1:aH,H1.get 980=some (VX l)->Sub K H1->fD Tryz.prog f xs H1 (fun r H'=>∃p,o=some p/\r=p.1/\H'=lR p.2++H1) (fun ch H'=>o=none/\ch=EQ/\∃q,H'=lR q++H1)
theorem BX.of(hK:eI (lR l++K))(hK9:K.get 980=none)(hx:∀a∈xs,Clo (lR l++K) a)
  (h:fD Tryz.prog f xs (lR l++K) (fun r H'=>∃p,o=some p/\r=p.1/\H'=lR p.2++K) (fun ch H'=>o=none/\ch=EQ/\∃q,H'=lR q++K)):BX f xs K l o:=by
 intro H1 h1 h2;have hsub:Sub (lR l++K) H1:=fun id ob ho=>by
  rw[gD]at ho;by_cases e:980=id
  ·subst e;have:(lR l).get 980=some (VX l):=rfl;rw[this]at ho;cases ho;exact h1
  have:(lR l).get id=none:=by simp[aH.get,kW e]
  rw[this]at ho;exact h2 id ob ho
 have hk:∀q id,(aH.get (lR q++K) id).isSome=true->((lR l++K).get id).isSome=true:=fun q id hi=>by
  rw[gD]at hi |-;by_cases e:980=id
  ·subst e;rfl
  have h1:∀q,(lR q).get id=none:=fun q=>by simp[aH.get,kW e]
  rw[h1]at hi |-;exact hi
 have hg:∀(q:List UInt8) (j:Nat),aH.get (lR q++H1) j=aH.get ((lR q++K)++H1) j:=fun q j=>by
  rw[List.append_assoc,gD,gD (lR q)];cases (lR q).get j with
  |some _=>rfl
  |none =>
   simp only;rw[gD];cases e:K.get j with
   |none=>rfl
   |some ob=>exact h2 j ob e
 refine(h.frame hsub hK hx (fun r H' ⟨p,_,_,hp⟩ id hi=>.inl (by subst hp;exact hk _ id hi)) (fun ch H' ⟨_,_,q,hq⟩ id hi=>.inl (by subst hq;exact hk _ id hi))).conv ?_ ?_
 ·rintro r H' ⟨K',⟨p,e1,e2,rfl⟩,rfl⟩;exact⟨_,hg _,p,e1,e2,rfl⟩
 rintro ch H' ⟨K',⟨e1,e2,q,rfl⟩,rfl⟩;exact⟨_,hg _,e1,e2,q,rfl⟩
theorem BX.yes(h:BX f xs K l (some (v,q)))(h1:H1.get 980=some (VX l))(h2:Sub K H1):aI Tryz.prog f xs H1 (fun r H'=>r=v/\H'=lR q++H1) :=((h H1 h1 h2).mono (PP':=fun _ _=>False) (fun r H' ⟨p,e1,e2,e3⟩=>by cases e1;exact⟨e2,e3⟩) (fun ch H' ⟨e,_⟩=>by cases e)).calls (fun _ _ h=>h)
theorem BX.no(h:BX f xs K l none)(h1:H1.get 980=some (VX l))(h2:Sub K H1):fD Tryz.prog f xs H1 (fun _ _=>False) (fun ch H'=>ch=EQ/\∃q,H'=lR q++H1) :=(h H1 h1 h2).mono (fun r H' ⟨p,e1,_⟩=>by cases e1) (fun ch H' ⟨_,e2,e3⟩=>⟨e2,e3⟩)
theorem BX.tot(h:BX f xs K l o){d:AV}(hv:(o.getD (d,l))=(v,q))(h1:H1.get 980=some (VX l))(h2:Sub K H1):
  fD Tryz.prog f xs H1 (fun r H'=>r=v/\H'=lR q++H1/\o.isSome=true) (fun ch H'=>o=none/\ch=EQ/\∃q,H'=lR q++H1) :=
 (h H1 h1 h2).mono (fun r H' ⟨p,e1,e2,e3⟩=>by subst e1;cases hv;exact⟨e2,e3,rfl⟩) (fun ch H' h=>h)
theorem fK(H:aH):Sub [] H:=fun _ _ h=>by cases h
def BQ(l:List UInt8):Option (AV×List UInt8):=(jF l).map fun p=>(sv p.1,p.2)
def yJ(l:List UInt8):Option (AV×List UInt8):=(oN l).map fun p=>(iv p.1,p.2)
theorem xP(l:List UInt8)(hl:l.length<1000000000):BX 47 [MN] [] l (BQ l):=by
 refine BX.of (AI l) rfl (by simp;rfl) ?_;have hls:(ofL l).size=l.length:=dH l;have hcl:=aLo l;have hcut:=fun H=>aLn (ofL l) H (by omega);rw[aJH]at hcut;have hat:=fun H=>aBk (ofL (U1 l)) (by rw[dH];omega) H;have hrs:(ofL (U2 l)).size=(U2 l).length:=dH _;have hbad:D5 l=(((!decide ((58:UInt8)∈l)||xL (ofL (U1 l)))||decide (pB (ofL (U1 l))<0))||decide (((U2 l).length:Int)<pB (ofL (U1 l)))):=rfl;have hN:nxN l=(pB (ofL (U1 l))).toNat:=rfl;have hO:BQ l=if D5 l=true then none else some (sv (ofL ((U2 l).take (nxN l))),(U2 l).drop (nxN l)):=by rw[BQ,jF];split<;>rfl
 rw[hO];obtain ⟨x,hx⟩:∃x,x=ofL (U1 l):=⟨_,rfl⟩;obtain ⟨v,hv⟩:∃v,v=pB (ofL (U1 l)):=⟨_,rfl⟩;obtain ⟨e,he⟩:∃e,e=xL (ofL (U1 l)):=⟨_,rfl⟩;obtain ⟨o,ho⟩:∃o,o=decide ((58:UInt8)∈l):=⟨_,rfl⟩;obtain ⟨r,hr⟩:∃r,r=U2 l:=⟨_,rfl⟩;simp only[<-hv,<-he,<-ho,<-hr]at hcut hat hbad hN hrs hcl |-;simp only[<-hx]at hcut hat hbad;clear hx hv he ho hr hO;refine fD.body func47 rfl ntmps47 (aQR rfl) ?_;refine Sr<|Dd aM<|Zz<|Sr<|Dd aE<|Dd BR<|Dd (aT aFt)<|Dd (bF isAgg9)<|Dd (by exact aA rfl rfl call113 rfl (hcut _))<|Dd aE<|Dd fG<|Dd fG<|Dd fG<|Dd aM<|Dd aM<|Dd aM<|Zz<|Sr<|Dd aE<|Dd (by exact aA rfl rfl yI rfl (hat _))<|Dd aE<|Dd fG<|Dd fG<|Dd aM<|Dd aM<|Zz<|Sq<|Sq ?_;refine aY (t:=37) (n:=19) (X:=D5 l) ?_ ?_
 ·all_goals refine Dd aE ?_
  all_goals refine Dd iS<|Dm ?_
  all_goals refine Sp 24 (fun h24=>?_) fun h24=>?_
  all_goals(try(with_reducible contradiction))
  all_goals first|refine Fo<|Fo ?_|refine On aE<|On (by exact WO rfl pT rfl) ?_
  all_goals refine Dd cH<|Dm ?_
  all_goals refine Sp 28 (fun h28=>?_) fun h28=>?_
  all_goals(try(with_reducible contradiction))
  all_goals first|refine Fo<|Fo ?_|refine On aE<|On cW ?_
  all_goals refine Dd cH<|Dm ?_
  all_goals refine Sp 32 (fun h32=>?_) fun h32=>?_
  all_goals(try(with_reducible contradiction))
  all_goals first|refine Fo<|Fo<|Fo<|Fo ?_|refine On aE<|On aE<|On (kG underlying9)<|On iG ?_
  all_goals refine Dd cH<|Zz ?_
  all_goals(exact⟨⟨_,rfl,by rw[hbad];first|(rw[h24];rfl)|(rw[h24,h28];rfl)|(rw[h24,h28,h32,<-hrs];rfl)⟩,rfl,rfl,rfl⟩)
 refine Cn ?_ ?_<;>intro hc1
 ·have hb:D5 l=true:=hc1;rw[aQD hb];refine gA ?_;refine hU rfl rfl rfl (by exact HU (fs:=#[]) (places:=#[]) (v0:=.agg []) (l0:=[]) (aps:=[]) (l:=[]) rfl yA aGg (.inl rfl) rfl (fun w=>by simp) rfl rfl) ?_;refine hU rfl rfl rfl (by exact F4 (ps:=[]) rfl (dR yA rfl) rfl) ?_;exact pC rfl rfl (QU rfl rfl) (fun ch H' h=>by obtain ⟨rfl,rfl⟩:=h;exact CX (H':=lR l) (Fin.wk (by simp) (Hb<|trivial) ⟨rfl,trivial⟩) ⟨rfl,rfl,l,rfl⟩)
 have hb:D5 l=false:=hc1;rw[aQC (by rw[hb];decide)];have hb2:=hbad.symm.trans hb;simp only[aQ0,aQM]at hb2;obtain ⟨u,rfl⟩:∃u:Nat,v=(u:Int):=⟨v.toNat,by omega⟩;rw[aQP]at hN;rw[hN];have hur:u<=r.length:=by omega
 have x1:(ofL r).extract 0 u=ofL (r.take u):=rF (by rw[iI,dI,dI,List.drop_zero,Nat.sub_zero]);have x2:(ofL r).extract u (ofL r).size=ofL (r.drop u):=rF (by rw[CP,dI,dI]);refine aC<|Sr<|Dd aE<|Dd aE<|Dd aE<|Dd (by exact cQ (l:=u) (h:=(ofL r).size) rfl underlying9 rfl rfl rfl (by omega) (aQK _) x2)<|Dd BR<|Dd (aT aFt)<|Uu (jN sizeOf9)<|Zz<|Sr<|Dd aE<|Dd aE<|Dd (by exact cQ (l:=0) (h:=u) rfl underlying9 rfl rfl rfl (aQV _) (by omega) x1)<|Dd aM<|Zz<|aB ?_;refine I6 ?_;refine dV (H':=(lR (r.drop u))) (.inr rfl) rfl (aX rfl) (Fin.wk (by(simp;done)) (Hb<|trivial) ⟨rfl,trivial⟩) ?_;exact⟨_,rfl,rfl,rfl⟩
theorem aJJ(h:(58:UInt8)∈l):(U2 l).length<l.length:=by rw[U2,aQT];have:=(List.dropWhile_sublist (l:=l) fun b=>!decide (b=58)).length_le;have:=List.length_pos_of_mem h;omega
theorem kC(h:jF l=some (s,q)):s.size+q.length<l.length:=by
 rw[jF]at h
 split at h
 ·cases h
 next hb =>
 have hb:D5 l=false:=by simpa using hb
 simp only[D5,aQ0,Bool.not_eq_false',aQM,aQL]at hb;have hlt:=aJJ hb.1.1.1;cases h;rw[dH,aQS,aQT];omega
theorem jA{x:Int}(h:oN l=some (x,q)):q.length<l.length/\(-9223372036854775808<=x/\x<=9223372036854775807):=by
 rw[oN]at h;cases hO:jF l with
 |none=>rw[hO]at h;cases h
 |some p =>
  obtain ⟨s,r⟩:=p;rw[hO]at h;simp only at h
  split at h
  ·cases h
  cases h;have:=kC hO;exact⟨by omega,aD2 s⟩
theorem mT(l:List UInt8)(hl:l.length<1000000000):BX 48 [MN] [] l (yJ l):=by
 refine BX.of (AI l) rfl (by simp;rfl) ?_;have hn:=xP l hl;have hlen:=fun s q=>kC (l:=l) (s:=s) (q:=q);have hA:BQ l=(jF l).map fun p=>(sv p.1,p.2):=rfl;have hB:yJ l=(match jF l with
  |none=>none
  |some (s,r)=>if xL s=true then none else some (iv (pB s),r)):=by
  rw[yJ,oN];cases jF l with
  |none=>rfl
  |some p=>simp only;split<;>rfl
 rw[hB];rw[hA]at hn;obtain ⟨O,hO⟩:∃O,O=jF l:=⟨_,rfl⟩;rw[<-hO]at hn hlen |-;clear hO hA hB;refine fD.body func48 rfl ntmps48 (aQR rfl) ?_;refine Sr<|Dd aM<|Zz<|Sq ?_;rcases O with _|⟨s,q⟩
 ·have hn:BX 47 [MN] [] l none:=hn;refine gA ?_;refine hU rfl rfl rfl (by exact gC rfl rfl) ?_;exact pC rfl rfl (eF rfl rfl lU rfl (hn.no rfl (fK _))) (fun ch H' h=>by obtain ⟨rfl,q,rfl⟩:=h;exact CX (H':=lR q) (Fin.wk (by simp) (Hb<|trivial) ⟨rfl,trivial⟩) ⟨rfl,rfl,q,rfl⟩)
 have hn:BX 47 [MN] [] l (some (sv s,q)):=hn;have hlen:=hlen s q rfl;have hat:=fun H=>aBk s (by omega) H;obtain ⟨e,he⟩:∃e,e=xL s:=⟨_,rfl⟩;obtain ⟨v,hv⟩:∃v,v=pB s:=⟨_,rfl⟩;simp only[<-he,<-hv]at hat |-;clear he hv;refine Rg<|Dd aE<|Dd (by exact aA rfl rfl lU rfl (hn.yes rfl (fK _)))<|Dd (by exact aA rfl rfl yI rfl (hat _))<|Dd aE<|Dd fG<|Dd fG<|Dd aM<|Dd aM<|Zz<|Sq<|Sr<|Dd aE<|Dd (by exact WO rfl pT rfl)<|Zz ?_;refine Cn ?_ ?_<;>intro hc1
 ·have hb:e=true:=hc1;rw[aQD hb];refine gA ?_;refine hU rfl rfl rfl (by exact HU (fs:=#[]) (places:=#[]) (v0:=.agg []) (l0:=[]) (aps:=[]) (l:=[]) rfl yA aGg (.inl rfl) rfl (fun w=>by simp) rfl rfl) ?_;refine hU rfl rfl rfl (by exact F4 (ps:=[]) rfl (dR yA rfl) rfl) ?_;exact pC rfl rfl (QU rfl rfl) (fun ch H' h=>by obtain ⟨rfl,rfl⟩:=h;exact CX (H':=lR q) (Fin.wk (by simp) (Hb<|trivial) ⟨rfl,trivial⟩) ⟨rfl,rfl,q,rfl⟩)
 have hb:e=false:=hc1;rw[aQC (by rw[hb];decide)];refine aC<|Sr<|Dd aE<|Dd aM<|Zz<|aB ?_;refine I6 ?_;refine dV (H':=(lR q)) (.inr rfl) rfl (aX rfl) (Fin.wk (by(simp;done)) (Hb<|trivial) ⟨rfl,trivial⟩) ?_;exact⟨_,rfl,rfl,rfl⟩
abbrev nxB:AV:=.bnd 47 [MN]
def liA(l:List UInt8):Option (AV×List UInt8):=(wP jF l).map fun p=>(.pv (aZ p.1),p.2)
theorem WZ(f:List UInt8->Option (α×List UInt8)){N k:Nat}{l':List UInt8}{A:List α}(hk:A.length=k)(hlt:k<N)(h:DB f N q=(DB f (N - k) l').map fun p=>(A++p.1,p.2)):
  DB f N q=match f l' with
   |none=>none
   |some (x,r)=>(DB f (N - (k+1)) r).map fun p=>((A++[x])++p.1,p.2):=by
 rw[h,show N - k=(N - (k+1))+1 by omega,DB];cases f l' with
 |none=>rfl
 | some p =>
  obtain ⟨x,r⟩:=p;simp only;cases DB f (N - (k+1)) r with
  |none=>rfl
  |some p2 =>
   obtain ⟨xs,q2⟩:=p2;simp
theorem aF1(h:oN l=none):liA l=none:=by rw[liA,wP,h];rfl
theorem aF0(h:oN l=some (n,q)):liA l=(DB jF n.toNat q).map fun p=>(.pv (aZ p.1),p.2):=by rw[liA,wP,h]
theorem TQ(l:List UInt8)(hl:l.length<1000000000):BX 49 [MN,nxB] [] l (liA l):=by
 refine BX.of (AI l) rfl (by simp;rfl) ?_;have hnu:=mT l hl;have hnone:=aF1 (l:=l);have hsome:=fun n q=>aF0 (l:=l) (n:=n) (q:=q);have hlen:=fun n q=>jA (l:=l) (x:=n) (q:=q);rw[yJ]at hnu;obtain ⟨O,hO⟩:∃O,O=oN l:=⟨_,rfl⟩;rw[<-hO]at hnu hnone hsome hlen;clear hO;refine fD.body func49 rfl ntmps49 (aQR rfl) ?_;refine Sr<|Dd aM<|Zz<|Sq ?_;rcases O with _|⟨n,q0⟩
 ·rw[hnone rfl];have hn:BX 48 [MN] [] l none:=hnu;refine gA ?_;refine hU rfl rfl rfl (by exact gC rfl rfl) ?_;exact pC rfl rfl (eF rfl rfl iJ rfl (hn.no rfl (fK _))) (fun ch H' h=>by obtain ⟨rfl,q,rfl⟩:=h;exact CX (H':=lR q) (Fin.wk (by simp) (Hb<|trivial) ⟨rfl,trivial⟩) ⟨rfl,rfl,q,rfl⟩)
 have hn:BX 48 [MN] [] l (some (iv n,q0)):=hnu;obtain ⟨hq0,hn0,hn1⟩:=hlen n q0 rfl;rw[hsome n q0 rfl];refine Rg<|Dd aE<|Dd (by exact aA rfl rfl iJ rfl (hn.yes rfl (fK _)))<|Dd aM<|Zz<|Sr<|Dd (by exact gS (id:=905) (sz:=1) (ty:=9) rfl rfl rfl)<|Zz<|Sq<|Sr<|Dd aE<|Dd aE<|Zz<|aF ?_;refine jK (fun(l':List UInt8) (A:List ByteArray)=>([(0,MN),(1,nxB),(6,.osl 905 A.length 0 A.length),(9,iv n),(10,iv (A.length:Int))],(905,⟨A.length,1,9,cD A⟩)::lR l')) (fun l' A=>l'.length+A.length<l.length/\A.length<=n.toNat/\DB jF n.toNat q0=(DB jF (n.toNat - A.length) l').map fun p=>(A++p.1,p.2)) (fun l' A=>l'.length) q0 [] ⟨by rw[List.length_nil];omega,aQV _,by simp⟩ ?_ ?_
 ·exact(cX.wk (Ea<|Ea<|Ea<|Eb<|Eb<|trivial) (Hc (cA _ _)<|Hb<|trivial) ⟨rfl,trivial⟩)
 rintro l' A ⟨hl',hA,hR⟩;have hnx:=xP l' (by omega);have hxl:=fun s q=>kC (l:=l') (s:=s) (q:=q);have hmore:=fun h=>WZ jF (k:=A.length) rfl h hR;rw[BQ]at hnx;obtain ⟨X,hX⟩:∃X,X=jF l':=⟨_,rfl⟩;rw[<-hX]at hnx hxl hmore;clear hX;refine Sr<|Dd cW<|Zz<|Sq ?_;refine Cn ?_ ?_<;>intro hc1
 ·have hlt:A.length<n.toNat:=by have:=aQA hc1;omega
  have hm:=hmore hlt;clear hmore;refine aC<|Sq<|aF ?_;rcases X with _|⟨s,q⟩
  ·have hm:DB jF n.toNat q0=none:=hm;rw[hm];have hnx:BX 47 [MN] [] l' none:=hnx;refine gA ?_;refine hU rfl rfl rfl (by exact gC rfl rfl) ?_;refine hU rfl rfl rfl (by exact gC rfl rfl) ?_;exact pC rfl rfl (D1 rfl rfl lU rfl (hnx.no rfl (fK _))) (fun ch H' h=>by obtain ⟨rfl,q,rfl⟩:=h;exact CX (H':=lR q) (Fin.wk (by simp) (Hb<|trivial) ⟨rfl,trivial⟩) ⟨rfl,rfl,q,rfl⟩)
  have hm:DB jF n.toNat q0=(DB jF (n.toNat - (A.length+1)) q).map fun p=>((A++[s])++p.1,p.2):=hm;have hnx:BX 47 [MN] [] l' (some (sv s,q)):=hnx;have hxl:=hxl s q rfl;have hnl:(A++[s]).length=A.length+1:=by rw[aQF];rfl
  refine Rg<|Dd aE<|Dd aE<|Dd (by exact BW.opr (D1 rfl rfl lU rfl (fD.of (hnx.yes rfl (fK _)))))<|Dd (by exact aQ [[.str s]] rfl cC rfl rfl rfl rfl rfl (by intro r hr;rw[aQH]at hr;subst hr;rfl))<|Dd (by exact cJ (ps:=[[.str s]]) rfl cC xI rfl rfl rfl rfl rfl (eX _) rfl (by intro r hr;rw[aQH]at hr;subst hr;rfl) (m:=1) rfl (by omega) rfl (kK A s))<|Dd aM<|Zz<|Rg<|Dd (by exact cB rfl rfl rfl (show IntKind.i64.wrap ((A.length:Int)+1)=((A.length+1:Nat):Int)by rw[jM (by omega) (by omega)];omega))<|Dd aE<|Zz ?_;refine⟨q,A++[s],⟨by rw[hnl];omega,by rw[hnl];omega,by rw[hnl];exact hm⟩,by omega,?_⟩;dsimp only;rw[hnl];exact(cX.wk (Ea<|Ea<|Ea<|Eb<|Eb<|trivial) (Hc (cA _ _)<|Hb<|trivial) ⟨rfl,trivial⟩)
 have hge:n.toNat=A.length:=by have:=aQB hc1;omega
 have hR2:DB jF n.toNat q0=some (A,l'):=by rw[hR,hge,Nat.sub_self,DB];simp
 rw[hR2];refine aW<|Sr<|Dd aE<|Dd aM<|Zz<|aB ?_;refine I6 ?_;refine dV (H':=(lR l')) (.inr rfl) rfl (aX rfl) (Fin.fz (id:=905) (ob:=⟨A.length,1,9,cD A⟩) (r':=.pv (aZ A)) (A.map encStr) rfl (eM _) (.osl (kS encStr _)) rfl ⟨⟨_,rfl,rfl⟩,(by(simp;done)),trivial⟩ ⟨rfl,trivial⟩) ?_;exact⟨_,rfl,rfl,rfl⟩
theorem TO{α:Type}(f:List UInt8->Option (α×List UInt8))(P:α->Prop)(b:Nat)(hf:∀l x q,l.length<=b->f l=some (x,q)->q.length<l.length/\P x):∀(n:Nat) (l:List UInt8) (xs:List α) (q:List UInt8),l.length<=b->DB f n l=some (xs,q)->q.length+xs.length<=l.length/\∀x∈xs,P x
 |0,l,xs,q,_,h=>by rw[DB]at h;cases h;simp
 | n+1,l,xs,q,hb,h=>by
  rw[DB]at h;cases hf':f l with
  |none=>rw[hf']at h;cases h
  | some p =>
   obtain ⟨x,r⟩:=p;obtain ⟨h1,h2⟩:=hf l x r hb hf';rw[hf']at h;simp only at h;cases hr:DB f n r with
   |none=>rw[hr]at h;cases h
   |some p2 =>
    obtain ⟨ys,q2⟩:=p2;rw[hr]at h;cases h;obtain ⟨k1,k2⟩:=TO f P b hf n r ys _ (by omega) hr;refine⟨by rw[aQG];omega,fun y hy=>?_⟩;rcases aQQ.1 hy with rfl|hy
    ·exact h2
    exact k2 y hy
theorem xB{xs:List ByteArray}(h:wP jF l=some (xs,q)):q.length+xs.length<l.length/\∀x∈xs,x.size<=l.length:=by
 rw[wP]at h;cases hn:oN l with
 |none=>rw[hn]at h;cases h
 |some p =>
  obtain ⟨n,r⟩:=p;rw[hn]at h;have h1:=(jA hn).1;obtain ⟨k1,k2⟩:=TO jF (fun x=>x.size<=r.length) r.length (fun l x q hb hx=>by have:=kC hx;exact⟨by omega,by omega⟩) n.toNat r xs q (aQK _) h;exact⟨by omega,fun x hx=>Nat.le_trans (k2 x hx) (by omega)⟩
theorem aBL{p:Int×Int}(h:HR l=some (p,q)):q.length<l.length/\(rV p.1/\rV p.2):=by
 rw[HR]at h;cases hn:oN l with
 |none=>rw[hn]at h;cases h
 | some z =>
  obtain ⟨x,r⟩:=z;rw[hn]at h;simp only at h;cases hm:oN r with
  |none=>rw[hm]at h;cases h
  |some z2 =>
   obtain ⟨y,r2⟩:=z2;rw[hm]at h;cases h;have h1:=jA hn;have h2:=jA hm;exact⟨by omega,h1.2,h2.2⟩
theorem aBV{xs:List (Int×Int)}(h:wP HR l=some (xs,q)):q.length+xs.length<l.length/\∀x∈xs,rV x.1/\rV x.2:=by
 rw[wP]at h;cases hn:oN l with
 |none=>rw[hn]at h;cases h
 |some p =>
  obtain ⟨n,r⟩:=p;rw[hn]at h;have h1:=(jA hn).1;obtain ⟨k1,k2⟩:=TO HR (fun x=>rV x.1/\rV x.2) r.length (fun l x q hb hx=>aBL hx) n.toNat r xs q (aQK _) h;exact⟨by omega,k2⟩
def slA(l:List UInt8):Option (AV×List UInt8):=(SU l).map fun p=>(av (fZ p.1),p.2)
theorem aBA(l:List UInt8)(hl:l.length<1000000000):BX 51 [MN] [] l (slA l):=by
 refine BX.of (AI l) rfl (by simp;rfl) ?_;have hnu:=mT l hl;have hli:=fun q (hq:q.length<1000000000)=>TQ q hq;have hs:slA l=(match oN l with
  |none=>none
  | some (i,r)=>match wP jF r with
   |none=>none
   |some (a,q)=>match wP jF q with
    |none=>none
    |some (b,p)=>some (.agg [iv i,.pv (aZ a),.pv (aZ b)],p)):=by
  rw[slA,SU];cases oN l with
  |none=>rfl
  | some p =>
   obtain ⟨i,r⟩:=p;simp only;cases wP jF r with
   |none=>rfl
   |some p =>
    obtain ⟨a,q⟩:=p;simp only;cases wP jF q with
    |none=>rfl
    |some p=>rfl
 rw[hs];rw[yJ]at hnu;have hlen:=fun n q=>jA (l:=l) (x:=n) (q:=q);obtain ⟨O,hO⟩:∃O,O=oN l:=⟨_,rfl⟩;rw[<-hO]at hnu hlen |-;clear hO hs;refine fD.body func51 rfl ntmps51 (aQR rfl) ?_;refine Sr<|Dd (by exact bU (id:=2) rfl FG rfl rfl)<|Zz<|Sq ?_;rcases O with _|⟨i,q1⟩
 ·have hn:BX 48 [MN] [] l none:=hnu;refine gA ?_;refine hU rfl rfl rfl (by exact gC rfl rfl) ?_;exact pC rfl rfl (eF rfl rfl iJ rfl (hn.no rfl (fK _))) (fun ch H' h=>by obtain ⟨rfl,q,rfl⟩:=h;exact CX (H':=lR q) (Fin.wk (by simp) (Hb<|trivial) ⟨rfl,trivial⟩) ⟨rfl,rfl,q,rfl⟩)
 have hn:BX 48 [MN] [] l (some (iv i,q1)):=hnu;have h1:=(hlen i q1 rfl).1;have hl1:=hli q1 (by omega);rw[liA]at hl1;have hlen2:=fun xs q=>xB (l:=q1) (xs:=xs) (q:=q);simp only;obtain ⟨O,hO⟩:∃O,O=wP jF q1:=⟨_,rfl⟩;rw[<-hO]at hl1 hlen2 |-;clear hO;rcases O with _|⟨a,q2⟩
 ·have hl1:BX 49 [MN,nxB] [] q1 none:=hl1;refine gA ?_;refine hU rfl rfl rfl (by exact gC rfl rfl) ?_;refine hU rfl rfl rfl (by exact aA rfl rfl iJ rfl (hn.yes rfl (fK _))) ?_;refine hU rfl rfl rfl (by exact gC rfl rfl) ?_;refine hU rfl rfl rfl (by exact gC rfl rfl) ?_;refine hU rfl rfl rfl (by exact nQ rfl rfl) ?_;exact pC rfl rfl (eF rfl rfl BV rfl (hl1.no rfl (fK _))) (fun ch H' h=>by obtain ⟨rfl,q,rfl⟩:=h;exact CX (H':=lR q) (Fin.wk (by simp) (Hb<|trivial) ⟨rfl,trivial⟩) ⟨rfl,rfl,q,rfl⟩)
 have hl1:BX 49 [MN,nxB] [] q1 (some (.pv (aZ a),q2)):=hl1;have h2:=(hlen2 a q2 rfl).1;have hl2:=hli q2 (by omega);rw[liA]at hl2;have hlen3:=fun xs q=>xB (l:=q2) (xs:=xs) (q:=q);simp only;obtain ⟨O,hO⟩:∃O,O=wP jF q2:=⟨_,rfl⟩;rw[<-hO]at hl2 hlen3 |-;clear hO;rcases O with _|⟨b,q3⟩
 ·have hl2:BX 49 [MN,nxB] [] q2 none:=hl2;refine gA ?_;refine hU rfl rfl rfl (by exact gC rfl rfl) ?_;refine hU rfl rfl rfl (by exact aA rfl rfl iJ rfl (hn.yes rfl (fK _))) ?_;refine hU rfl rfl rfl (by exact gC rfl rfl) ?_;refine hU rfl rfl rfl (by exact gC rfl rfl) ?_;refine hU rfl rfl rfl (by exact nQ rfl rfl) ?_;refine hU rfl rfl rfl (by exact aA rfl rfl BV rfl (hl1.yes rfl (fK _))) ?_;refine hU rfl rfl rfl (by exact gC rfl rfl) ?_;refine hU rfl rfl rfl (by exact gC rfl rfl) ?_;refine hU rfl rfl rfl (by exact nQ rfl rfl) ?_;exact pC rfl rfl (eF rfl rfl BV rfl (hl2.no rfl (fK _))) (fun ch H' h=>by obtain ⟨rfl,q,rfl⟩:=h;exact CX (H':=lR q) (Fin.wk (by simp) (Hb<|trivial) ⟨rfl,trivial⟩) ⟨rfl,rfl,q,rfl⟩)
 have hl2:BX 49 [MN,nxB] [] q2 (some (.pv (aZ b),q3)):=hl2;refine Rg<|Dd aE<|Dd (by exact aA rfl rfl iJ rfl (hn.yes rfl (fK _)))<|Dd aE<|Dd aE<|Dd (by exact nQ rfl rfl)<|Dd (by exact aA rfl rfl BV rfl (hl1.yes rfl (fK _)))<|Dd aE<|Dd aE<|Dd (by exact nQ rfl rfl)<|Dd (by exact aA rfl rfl BV rfl (hl2.yes rfl (fK _)))<|Dd (rJ PT)<|Uu (jN sizeOf25)<|Zz<|aB ?_;refine I6 ?_;refine dV (H':=(lR q3)) (.inr rfl) rfl (eA rfl dD sizeOf25 rfl rfl rfl (by simp only[Zl,encStr];rfl) rfl) (Fin.wk (by simp[OH]) (Hb<|trivial) ⟨rfl,trivial⟩) ?_;exact⟨_,rfl,rfl,rfl⟩
abbrev inO:Ob:=bx 1 82 [MN]
abbrev inH:aH:=[(4,inO)]
theorem aB4{H:aH}(h:(H.get 980).isSome=true):∀r∈inO.rows,∀a∈r,Clo H a:=by intro r hr a ha;simp only[inO,bx,aQH]at hr;subst hr;rw[aQH]at ha;subst ha;rw[sJ];exact h
theorem NI(l:List UInt8):eI (lR l++inH):=eI.ofL ⟨S6 l _,aB4 rfl,trivial⟩
def ptA(l:List UInt8):Option (AV×List UInt8):=(HR l).map fun p=>(av (fS p.1),p.2)
theorem aEo(l:List UInt8)(hl:l.length<1000000000):BX 53 [.ref 4 0 0 0] inH l (ptA l):=by
 refine BX.of (NI l) rfl (by simp;rfl) ?_;have hnu:=mT l hl;have hnu2:=fun q (hq:q.length<1000000000)=>mT q hq;have hlen:=fun n q=>jA (l:=l) (x:=n) (q:=q);have hs:ptA l=(match oN l with
  |none=>none
  |some (x,r)=>match oN r with
   |none=>none
   |some (y,q)=>some (.agg [iv x,iv y],q)):=by
  rw[ptA,HR];cases oN l with
  |none=>rfl
  |some p =>
   obtain ⟨i,r⟩:=p;simp only;cases oN r with
   |none=>rfl
   |some p=>rfl
 obtain ⟨x,q1,hx⟩:∃x q1,(oN l).getD (0,l)=(x,q1):=⟨_,_,rfl⟩;obtain ⟨y,q2,hy⟩:∃y q2,(oN q1).getD (0,q1)=(y,q2):=⟨_,_,rfl⟩;have hq1:q1.length<=l.length:=by
  cases e:oN l with
  |none=>rw[e]at hx;cases hx;exact aQK _
  |some p=>rw[e]at hx;cases hx;exact Nat.le_of_lt (hlen _ _ e).1
 have hx2:(yJ l).getD (iv 0,l)=(iv x,q1):=by
  rw[yJ];cases e:oN l with
  |none=>rw[e]at hx;cases hx;rfl
  |some p=>rw[e]at hx;cases hx;rfl
 have hy2:(yJ q1).getD (iv 0,q1)=(iv y,q2):=by
  rw[yJ];cases e:oN q1 with
  |none=>rw[e]at hy;cases hy;rfl
  |some p=>rw[e]at hy;cases hy;rfl
 have hA1:yJ l=none->ptA l=none:=fun e=>by
  rw[yJ,Option.map_eq_none_iff]at e;rw[hs,e]
 have hA2:(yJ l).isSome=true->yJ q1=none->ptA l=none:=fun e e2=>by
  rw[yJ,Option.map_eq_none_iff]at e2;cases e3:oN l with
  |none=>rw[yJ,e3]at e;cases e
  |some p =>
   rw[e3]at hx;cases hx;rw[hs,e3];simp only;rw[e2]
 have hA3:(yJ l).isSome=true->(yJ q1).isSome=true->ptA l=some (.agg [iv x,iv y],q2):=fun e e2=>by
  cases e3:oN l with
  |none=>rw[yJ,e3]at e;cases e
  |some p =>
   rw[e3]at hx;cases hx;rw[hs,e3];simp only;cases e4:oN q1 with
   |none=>rw[yJ,e4]at e2;cases e2
   |some p=>rw[e4]at hy;cases hy;rfl
 have hA4:yJ q1=none->ptA l=none:=fun e=>by
  cases h:yJ l with
  |none=>exact hA1 h
  |some p=>exact hA2 (by rw[h];rfl) e
 clear hs hA2;refine fD.body func53 rfl ntmps53 (aQR rfl) ?_;refine Sr<|Dd (by exact bU (id:=1) rfl aMV rfl rfl)<|Zz<|Sq ?_;refine wD (fun ch H1 H2=>ptA l=none/\ch=EQ/\∃q,H2=lR q++H1) [] [] [4] rfl follows (fun ch E1 H1 H2 hts hsh hks ⟨e,e2,q,e3⟩=>by subst e3;have h4:aH.get (lR q++H1) 4=some inO:=(hks 4 (aQH.2 rfl)).trans rfl;exact CX (H':=lR q++inH) (Fin.wk (by simp) ⟨⟨_,rfl,rfl⟩,S6 _ _,⟨_,h4,rfl⟩,aB4 rfl,trivial⟩ ⟨rfl,h4.symm,trivial⟩) ⟨e,e2,q,rfl⟩) ?_;refine cP (r:=⟨_,some [4],[]⟩) (DStep.plain rfl (fun H1 hH=>by exact(by exact aK rfl eD rfl ((hH _ rfl).trans rfl) rfl rfl rfl))) rfl ?_;refine sW (r:=⟨_,some [980],lR q1⟩) (.pan rfl (fun H1 hH=>by exact eF rfl rfl iJ rfl ((hnu.tot hx2 ((hH 980 rfl).trans rfl) (fK _)).mono (fun _ _ h=>h) (fun ch H' ⟨e,e2,e3⟩=>⟨hA1 e,e2,e3⟩)))) rfl ?_;refine cP (r:=⟨_,some [4],[]⟩) (DStep.plain rfl (fun H1 hH=>by exact(by exact aK rfl eD rfl ((hH _ rfl).trans rfl) rfl rfl rfl))) rfl ?_;refine sW (r:=⟨_,some [980],lR q2⟩) (.pan rfl (fun H1 hH=>by exact eF rfl rfl iJ rfl (((hnu2 q1 (by omega)).tot hy2 ((hH 980 rfl).trans rfl) (fK _)).mono (fun _ _ h=>h) (fun ch H' ⟨e,e2,e3⟩=>⟨hA4 e,e2,e3⟩)))) rfl ?_;refine cP (r:=⟨_,some [],[]⟩) (DStep.plain rfl (fun H1 hH=>by exact KD rfl X3 rfl rfl)) rfl ?_;refine cP (r:=⟨_,some [1],[_]⟩) (DStep.plain rfl (fun H1 hH=>by exact(by exact cO rfl sizeOf68 rfl rfl rfl rfl ((hH _ rfl).trans rfl) rfl rfl rfl))) rfl ?_;refine GS ⟨⟨by kernel_rfl,by kernel_rfl,by kernel_rfl⟩,fun hF=>?_⟩;simp only[UV,true_and,and_true]at hF;refine aB ?_;refine I6 ?_;refine dV (H':=(lR q2++inH)) (.inr rfl) rfl (eA rfl dS sizeOf68 rfl rfl rfl (by simp only[Zl,encStr];rfl) rfl) (Fin.wk (by simp[OH]) (Hb<|Ha<|trivial) ⟨rfl,rfl,trivial⟩) ?_;exact⟨_,hA3 hF.1 hF.2,rfl,rfl⟩
abbrev ptB:AV:=.clo 53 [.ref 4 0 0 0]
def AK(A:List (Int×Int)):List (List AV):=(A.map fS).map (·.map AV.pv)
theorem ZI(A:List (Int×Int)):(AK A).length=A.length:=by simp[AK]
theorem ZJ(A:List (Int×Int))(p:Int×Int):AK A++[(fS p).map AV.pv]=AK (A++[p]):=by rw[AK,AK,List.map_append,List.map_append];rfl
theorem MP(A:List (Int×Int))(H:aH):∀r∈AK A,∀a∈r,Clo H a:=aBg _ _ _
def TS(l:List UInt8):Option (AV×List UInt8):=(wP HR l).map fun p=>(.pv (sN p.1),p.2)
theorem aCr(h:oN l=none):TS l=none:=by rw[TS,wP,h];rfl
theorem aCq(h:oN l=some (n,q)):TS l=(DB HR n.toNat q).map fun p=>(.pv (sN p.1),p.2):=by rw[TS,wP,h]
theorem aIe(l:List UInt8)(hl:l.length<1000000000):BX 52 [MN,ptB] inH l (TS l):=by
 refine BX.of (NI l) rfl (by simp;exact⟨rfl,rfl⟩) ?_;have hnu:=mT l hl;have hnone:=aCr (l:=l);have hsome:=fun n q=>aCq (l:=l) (n:=n) (q:=q);have hlen:=fun n q=>jA (l:=l) (x:=n) (q:=q);rw[yJ]at hnu;obtain ⟨O,hO⟩:∃O,O=oN l:=⟨_,rfl⟩;rw[<-hO]at hnu hnone hsome hlen;clear hO;refine fD.body func52 rfl ntmps52 (aQR rfl) ?_;refine Sr<|Dd aM<|Zz<|Sq ?_;rcases O with _|⟨n,q0⟩
 ·rw[hnone rfl];have hn:BX 48 [MN] [] l none:=hnu;refine gA ?_;refine hU rfl rfl rfl (by exact gC rfl rfl) ?_;exact pC rfl rfl (eF rfl rfl iJ rfl (hn.no rfl (fK _))) (fun ch H' h=>by obtain ⟨rfl,q,rfl⟩:=h;exact CX (H':=lR q++inH) (Fin.wk (by simp) (Hb<|Ha<|trivial) ⟨rfl,rfl,trivial⟩) ⟨rfl,rfl,q,rfl⟩)
 have hn:BX 48 [MN] [] l (some (iv n,q0)):=hnu;obtain ⟨hq0,hn0,hn1⟩:=hlen n q0 rfl;rw[hsome n q0 rfl];refine Rg<|Dd aE<|Dd (by exact aA rfl rfl iJ rfl (hn.yes rfl (fK _)))<|Dd aM<|Zz<|Sr<|Dd (by exact gS (id:=905) (sz:=2) (ty:=68) rfl rfl rfl)<|Zz<|Sq<|Sr<|Dd aE<|Dd aE<|Zz<|aF ?_;refine jK (fun(l':List UInt8) (A:List (Int×Int))=>([(0,MN),(1,ptB),(6,.osl 905 A.length 0 A.length),(9,iv n),(10,iv (A.length:Int))],(905,⟨A.length,2,68,AK A⟩)::(lR l'++inH))) (fun l' A=>l'.length+A.length<l.length/\A.length<=n.toNat/\DB HR n.toNat q0=(DB HR (n.toNat - A.length) l').map fun p=>(A++p.1,p.2)) (fun l' A=>l'.length) q0 [] ⟨by rw[List.length_nil];omega,aQV _,by simp⟩ ?_ ?_
 ·exact(cX.wk (Ea<|Ea<|Ea<|Eb<|Eb<|trivial) (Hc (MP _ _)<|Hb<|Ha<|trivial) ⟨rfl,rfl,trivial⟩)
 rintro l' A ⟨hl',hA,hR⟩;have hnx:=aEo l' (by omega);have hxl:=fun s q=>aBL (l:=l') (p:=s) (q:=q);have hmore:=fun h=>WZ HR (k:=A.length) rfl h hR;rw[ptA]at hnx;obtain ⟨X,hX⟩:∃X,X=HR l':=⟨_,rfl⟩;rw[<-hX]at hnx hxl hmore;clear hX;refine Sr<|Dd cW<|Zz<|Sq ?_;refine Cn ?_ ?_<;>intro hc1
 ·have hlt:A.length<n.toNat:=by have:=aQA hc1;omega
  have hm:=hmore hlt;clear hmore;refine aC<|Sq<|aF ?_;rcases X with _|⟨s,q⟩
  ·have hm:DB HR n.toNat q0=none:=hm;rw[hm];have hnx:BX 53 [.ref 4 0 0 0] inH l' none:=hnx;refine gA ?_;refine hU rfl rfl rfl (by exact gC rfl rfl) ?_;refine hU rfl rfl rfl (by exact gC rfl rfl) ?_;exact pC rfl rfl (D0 rfl rfl call53 rfl (hnx.no rfl (OS.sub ⟨rfl,trivial⟩))) (fun ch H' h=>by obtain ⟨rfl,q,rfl⟩:=h;exact CX (H':=lR q++inH) (Fin.wk (by simp) (Hb<|Ha<|trivial) ⟨rfl,rfl,trivial⟩) ⟨rfl,rfl,q,rfl⟩)
  have hm:DB HR n.toNat q0=(DB HR (n.toNat - (A.length+1)) q).map fun p=>((A++[s])++p.1,p.2):=hm;have hnx:BX 53 [.ref 4 0 0 0] inH l' (some (av (fS s),q)):=hnx;have hxl:=hxl s q rfl;have hnl:(A++[s]).length=A.length+1:=by rw[aQF];rfl
  refine Rg<|Dd aE<|Dd aE<|Dd (by exact BW.opr (D0 rfl rfl call53 rfl (fD.of (hnx.yes rfl (OS.sub ⟨rfl,trivial⟩)))))<|Dd (by exact aQ [fS s] rfl MC rfl rfl rfl rfl rfl (by intro r hr;rw[aQH]at hr;subst hr;rfl))<|Dd (by exact cJ (ps:=[fS s]) rfl MC aPA rfl rfl rfl rfl rfl (ZI _) rfl (by intro r hr;rw[aQH]at hr;subst hr;rfl) (m:=1) rfl (by omega) rfl (ZJ A s))<|Dd aM<|Zz<|Rg<|Dd (by exact cB rfl rfl rfl (show IntKind.i64.wrap ((A.length:Int)+1)=((A.length+1:Nat):Int)by rw[jM (by omega) (by omega)];omega))<|Dd aE<|Zz ?_;refine⟨q,A++[s],⟨by rw[hnl];omega,by rw[hnl];omega,by rw[hnl];exact hm⟩,by omega,?_⟩;dsimp only;rw[hnl];exact(cX.wk (Ea<|Ea<|Ea<|Eb<|Eb<|trivial) (Hc (MP _ _)<|Hb<|Ha<|trivial) ⟨rfl,rfl,trivial⟩)
 have hge:n.toNat=A.length:=by have:=aQB hc1;omega
 have hR2:DB HR n.toNat q0=some (A,l'):=by rw[hR,hge,Nat.sub_self,DB];simp
 rw[hR2];refine aW<|Sr<|Dd aE<|Dd aM<|Zz<|aB ?_;refine I6 ?_;refine dV (H':=(lR l'++inH)) (.inr rfl) rfl (aX rfl) (Fin.fz (id:=905) (ob:=⟨A.length,2,68,AK A⟩) (r':=.pv (sN A)) (A.map fS) rfl rfl (.osl (kS fS _)) rfl ⟨⟨_,rfl,rfl⟩,(by(simp;done)),⟨_,rfl,rfl⟩,(by(simp;rfl)),trivial⟩ ⟨rfl,rfl,trivial⟩) ?_;exact⟨_,rfl,rfl,rfl⟩
def uU(h i:Int):Bool:=((decide (h<0)||decide (8<h))||decide (i<0))||decide (((2 ^ h.toNat:Nat):Int)<=i)
def zS:GSeal:=⟨0,[],[]⟩
def tW(s:ByteArray)(h i:Int)(m:ByteArray):GSeal×Int:=if uU h i=true then(zS,1)else(⟨i,B3 s i.toNat m,iK h.toNat (jG s h.toNat) i.toNat⟩,0)
theorem aCQ(s m:ByteArray)(h i:Int)(H:aH)(hb:uU h i=true):aI Tryz.prog 32 [sv s,iv h,iv i,sv m] H (fun r H'=>r=.tup [av (fZ zS),iv 1]/\H'=H):=by
 refine Pu ?_;have hsh:decide (h<0)=false->decide (8<h)=false->IntKind.i64.wrap (1*2 ^ h.toNat)=((2 ^ h.toNat:Nat):Int):=fun h1 h2=>by
  have h1:=aQB h1;have h2:=aQB h2;obtain ⟨n,rfl⟩:∃n:Nat,h=(n:Int):=⟨h.toNat,by omega⟩;rw[aQP];have:=aH4 (h:=n) (by omega)
  rwa [aQP]at this
 have hbe:uU h i=(((decide (h<0)||decide (8<h))||decide (i<0))||decide (((2 ^ h.toNat:Nat):Int)<=i)):=rfl;refine Bd func32 rfl ntmps32<|Sr<|Dd (by exact cF (id:=4) rfl rfl rfl rfl rfl)<|Dd (by exact cF (id:=6) rfl rfl rfl rfl rfl)<|Dd (by exact bU (id:=8) rfl FG rfl rfl)<|Dd aM<|Zz<|Sq<|Sq ?_;refine nY (t:=30) (n:=16) (X:=uU h i) ?_ ?_
 ·cases hg17:(decide (h<0):Bool)
  ·cases hg21:(decide (8<h):Bool)
   ·cases hg25:(decide (i<0):Bool)
    ·refine aO follows<|Cq aE<|Cq cW<|Cq aE<|Nf aE<|Nf iG<|Cq oU<|Cq aE<|Nf (bF isAgg3)<|Nf cW<|Cq oU<|Cq aE<|Nf (bF isAgg3)<|Nf aE<|Nf (by exact F1 rfl rfl rfl (by have:=aQB hg17;omega) (by have:=aQB hg21;simp[IntKind.bits];omega) (hsh hg17 hg21))<|Nf D7<|Cq oU<|bM<|Kr ?_;exact⟨rfl,⟨_,rfl,by(rw[hbe,hg17,hg21,hg25];rfl)⟩,rfl,rfl,rfl⟩
    refine aO follows<|Cq aE<|Cq cW<|Cq aE<|Nf aE<|Nf iG<|Cq oU<|Cq aE<|Nf (bF isAgg3)<|Nf cW<|Cq oU<|Cq aE<|Of<|Of<|Of<|Of<|Cq yT<|bM<|Kr ?_;exact⟨rfl,⟨_,rfl,by(rw[hbe,hg17,hg21,hg25];rfl)⟩,rfl,rfl,rfl⟩
   refine aO follows<|Cq aE<|Cq cW<|Cq aE<|Nf aE<|Nf iG<|Cq oU<|Cq aE<|Of<|Of<|Cq yT<|Cq aE<|Of<|Of<|Of<|Of<|Cq cH<|bM<|Kr ?_;exact⟨rfl,⟨_,rfl,by(rw[hbe,hg17,hg21];rfl)⟩,rfl,rfl,rfl⟩
  refine aO follows<|Cq aE<|Cq cW<|Cq aE<|Of<|Of<|Cq yT<|Cq aE<|Of<|Of<|Cq cH<|Cq aE<|Of<|Of<|Of<|Of<|Cq cH<|bM<|Kr ?_;exact⟨rfl,⟨_,rfl,by(rw[hbe,hg17];rfl)⟩,rfl,rfl,rfl⟩
 refine Cn ?_ ?_<;>intro hc1
 ·refine Sr<|Dd (rJ PT)<|Uu (jN sizeOf25)<|Dd aM<|Zz<|aB ?_;refine mQ (H':=[]) (.inr rfl) rfl (eA rfl dD sizeOf25 rfl rfl rfl (by simp only[Zl,encStr];rfl) rfl) (aX rfl) (Fin.wk (by simp[fZ]) trivial trivial) ?_;exact Qq
 rw[hb]at hc1;cases hc1
theorem QD(s m:ByteArray)(h i:Int)(H:aH)(hs:s.size<1099511627776)(hm:m.size<1099511627776):aI Tryz.prog 32 [sv s,iv h,iv i,sv m] H (fun r H'=>r=.tup [av (fZ (tW s h i m).1),iv (tW s h i m).2]/\H'=H):=by
 rw[tW];by_cases hb:uU h i=true
 ·rw[aQD hb];exact aCQ s m h i H hb
 rw[aQC hb];have hb:uU h i=false:=by simpa using hb
 simp only[uU,aQ0,aQM]at hb;obtain ⟨⟨⟨h1,h2⟩,h3⟩,h4⟩:=hb;obtain ⟨n,rfl⟩:∃n:Nat,h=(n:Int):=⟨h.toNat,by omega⟩;obtain ⟨k,rfl⟩:∃k:Nat,i=(k:Int):=⟨i.toNat,by omega⟩;rw[aQP]at h4 |-;rw[aQP];exact aH3 s m n k H hs hm (by omega) (by omega)
theorem pM{m:ByteArray}{h i:Int}(h1:(tW s h i m).2=0):FSeal (tW s h i m).1/\(tW s h i m).1=⟨i,B3 s i.toNat m,iK h.toNat (jG s h.toNat) i.toNat⟩/\(0<=h/\h<=8)/\0<=i/\i<2 ^ h.toNat:=by
 rw[tW]at h1 |-
 split at h1
 ·cases h1
 next hb =>
 rw[aQC hb];have hb:uU h i=false:=by simpa using hb
 simp only[uU,aQ0,aQM]at hb;obtain ⟨⟨⟨h1,h2⟩,h3⟩,h4⟩:=hb;have h5:i<2 ^ h.toNat:=by
  have:(((2 ^ h.toNat:Nat):Int))=2 ^ h.toNat:=by push_cast;rfl
  omega
 have hlt:i.toNat<2 ^ h.toNat:=by omega
 have h8:2 ^ h.toNat<=256:=pF (by omega);exact⟨⟨by show 0<=i;omega,by show i<256;omega,by rw[FN];exact aQK _,by rw[HS];omega,VK _ _ _,C5 _ _ _ (qF _ _) hlt (uN _ _)⟩,rfl,⟨by omega,by omega⟩,by omega,h5⟩
def zR:GRec:=⟨0,0,0,0,sNil,[],[],sNil,false,0,sNil,zS,⟨sNil,sNil,[],[],zS⟩⟩
def wN(r:GRec):GRec:={r with sl:=zS,priv:={r.priv with sl:=zS}}
def nS(r:GRec):GRec×Int:=if(jO r).2≠0 then(zR,(jO r).2)else(r,0)
def mk1(r:GRec)(a:GSeal):GRec:={r with sl:=a,priv:={r.priv with sl:=zS}}
def J3(r:GRec)(a b:GSeal):GRec:={r with sl:=a,priv:={r.priv with sl:=b}}
def qW(r:GRec)(s:ByteArray)(h:Int):GRec×Int :=if eQ (wN r)=false then(zR,1)
 else if(tW s h (2*r.number - 2) (rU (wN r))).2≠0 then(zR,(tW s h (2*r.number - 2) (rU (wN r))).2)
 else if fA r.priv=true then nS (mk1 r (tW s h (2*r.number - 2) (rU (wN r))).1)
 else if(tW s h (2*r.number - 1) (qV (wN r))).2≠0 then(zR,(tW s h (2*r.number - 1) (qV (wN r))).2)
 else nS (J3 r (tW s h (2*r.number - 2) (rU (wN r))).1 (tW s h (2*r.number - 1) (qV (wN r))).1)
theorem kN{s:GSeal}(h:FSeal s):pO s:=by have i0:=h.i0;have i1:=h.i1;have l1:=h.sl;have l2:=h.pl;exact⟨⟨by omega,by omega⟩,⟨by omega,fun t ht=>by have:=qX (h.sa t ht);omega⟩,⟨by omega,fun t ht=>by have:=qX (h.pa t ht);omega⟩⟩
theorem Z1:pO zS:=kN (jS (by decide))
theorem EP{r:GRec}{a b:GSeal}(h:fR r)(ha:pO a)(hb:pO b):fR (J3 r a b):=by obtain ⟨h1,h2,h3,h4,_,p1,p2,p3,p4,_⟩:=h;exact⟨h1,h2,h3,h4,ha,p1,p2,p3,p4,hb⟩
theorem Z8(r:GRec)(s:ByteArray)(h:Int)(hr:fR r)(hp:r.parents.length<549755813888)(hs:s.size<1099511627776)(H:aH):aI Tryz.prog 23 [av (bS r),sv s,iv h] H (fun x H'=>x=.tup [av (bS (qW r s h).1),iv (qW r s h).2]/\H'=H):=by
 refine aI.pure ?_ (by simp[bS]) H;have hr0:fR (wN r):=EP hr Z1 Z1;have hv:=fun H=>KF (wN r) hr0 hp H;have hid:=fun H=>W8 (wN r) hr0 hp H;have hem:=fun H=>aB9 (mk1 r zS).priv hr0.2.2.2.2.2 H;rw[qW];refine Bd func23 rfl ntmps23<|Sr<|Dd (by exact cF (id:=3) rfl rfl rfl rfl rfl)<|Dd (by exact bU (id:=6) rfl FF rfl rfl)<|Dd aM<|Zz<|Sr<|Dd (rJ PT)<|Dd (rJ PT)<|Dd (aT kQ)<|Uu (by exact iY rfl sizeOf25 rfl rfl rfl rfl rfl rfl rfl (aQR rfl) rfl rfl)<|Dd (aT eS)<|Dd (aT nA)<|Uu (by exact iY rfl sizeOf25 rfl rfl rfl rfl rfl rfl rfl (aQR rfl) rfl rfl)<|Zz<|Sq<|Sr<|Dd (mD aS aL)<|Dd (by exact aA rfl rfl aHF rfl (hv _))<|Dd iS<|Zz ?_;refine Cn ?_ ?_<;>intro hc1
 ·have hb:=not_not hc1;rw[aQD hb];refine Sr<|Dd (rJ J7)<|Uu (jN aL)<|Dd aM<|Zz<|aB ?_;refine mQ (H':=[]) (.inr rfl) rfl (eA rfl aS aL rfl rfl rfl (by simp only[Zl,encStr];rfl) rfl) (aX rfl) (Fin.wk (by simp[bS]) trivial trivial) ?_;exact Qq
 have hb:=oC hc1;rw[aQC (by rw[hb];decide)];have hf:=lE hb;have hnu:=hf.nu;have hnr:(wN r).number=r.number:=rfl;rw[hnr]at hnu;have hme:=fun H=>Q8 (wN r) hr0 hp hb H;have hms:(qV (wN r)).size=16:=gH _;have his:=GJ (wN r);obtain ⟨i0,hi0⟩:∃i0,i0=rU (wN r):=⟨_,rfl⟩;obtain ⟨m0,hm0⟩:∃m0,m0=qV (wN r):=⟨_,rfl⟩;rw[<-hi0]at hid his |-;rw[<-hm0]at hme hms |-;have hs1:=fun H=>QD s i0 h (2*r.number - 2) H hs (by omega);have hs2:=fun H=>QD s m0 h (2*r.number - 1) H hs (by omega);have ho1:=pM (s:=s) (m:=i0) (h:=h) (i:=2*r.number - 2);have ho2:=pM (s:=s) (m:=m0) (h:=h) (i:=2*r.number - 1);obtain ⟨A,hA⟩:∃A,A=tW s h (2*r.number - 2) i0:=⟨_,rfl⟩;obtain ⟨B,hB⟩:∃B,B=tW s h (2*r.number - 1) m0:=⟨_,rfl⟩;rw[<-hA]at hs1 ho1 |-;rw[<-hB]at hs2 ho2 |-;clear hA hB;refine aC<|Sq<|aO follows<|Cq (mD aS aL)<|Cq (by exact aA rfl rfl UU rfl (hid _))<|Cq (mD aS aL)<|Cq (by exact aA rfl rfl call82 rfl (hme _))<|Cq aM<|Cq aM<|bM<|Kr<|Sr<|Dd aM<|Zz<|Sq<|Sr<|Dd aE<|Dd aE<|Dd (aT nX)<|Dd (bF isAgg3)<|Dd (by exact mB rfl rfl rfl (jM (by omega) (by omega)))<|Dd (by exact dX rfl rfl rfl (jM (by omega) (by omega)))<|Dd aE<|Dd (by exact aA rfl rfl call32 rfl (hs1 _))<|Dd aE<|Dd fG<|Dd fG<|Dd (aT kQ)<|Uu (by exact iY rfl sizeOf25 rfl rfl rfl rfl rfl rfl rfl (aQR rfl) rfl rfl)<|Dd aM<|Zz<|Sr<|Dd aE<|Dd wM<|Zz ?_;refine Cn ?_ ?_<;>intro hc2
 ·have hne:A.2≠0:=by have:=hc2;intro e;rw[e]at this;exact absurd this (by decide)
  rw[aQD hne];refine Sr<|Dd (rJ J7)<|Dd aE<|Uu (jN aL)<|Dd aM<|Zz<|aB ?_;refine mQ (H':=[]) (.inr rfl) rfl (eA rfl aS aL rfl rfl rfl (by simp only[Zl,encStr];rfl) rfl) (aX rfl) (Fin.wk (by simp[bS]) trivial trivial) ?_;exact Qq
 have heq:A.2=0:=by have:=hc2;by_cases e:A.2=0;exact e;rw[decide_eq_false e]at this;cases this
 rw[aQC (by rw[heq];decide)];have ho1:=(ho1 heq).1;obtain ⟨X,hX⟩:∃X,X=(if fA r.priv=true then nS (mk1 r A.1)else if B.2≠0 then(zR,B.2)else nS (J3 r A.1 B.1)):=⟨_,rfl⟩;rw[<-hX];have hX1:fA r.priv=true->X=nS (J3 r A.1 zS):=fun e=>by rw[hX,aQD e];rfl
 have hX2:fA r.priv=false->B.2≠0->X=(zR,B.2):=fun e e2=>by rw[hX,aQC (by rw[e];decide),aQD e2]
 have hX3:fA r.priv=false->B.2=0->X=nS (J3 r A.1 B.1):=fun e e2=>by rw[hX,aQC (by rw[e];decide),aQC (by rw[e2];decide)]
 have hee:fA (mk1 r zS).priv=fA r.priv:=rfl;rw[hee]at hem;clear hX;obtain ⟨em,hemE⟩:∃em,em=fA r.priv:=⟨_,rfl⟩;rw[<-hemE]at hem hX1 hX2 hX3;refine aC ?_;refine fJ (fun(b:GSeal)=>([(3,.ref 3 0 0 0),(6,.ref 6 0 0 0)],[(6,bx 21 30 ((bS zR).map .pv)),(3,bx 21 30 ((bS (J3 r A.1 b)).map .pv))])) (fun b=>pO b/\X=nS (J3 r A.1 b)) ?_ ?_
 ·refine Sr<|Dd (aT eS)<|Dd (mD gB sizeOf28)<|Dd (by exact aA rfl rfl UQ rfl (hem _))<|Dd iS<|Zz ?_;refine Cn ?_ ?_<;>intro hc3
  ·have he:=not_not hc3;refine Sr<|Dd aE<|Dd aE<|Dd (aT nX)<|Dd (bF isAgg3)<|Dd (by exact mB rfl rfl rfl (jM (by omega) (by omega)))<|Dd (by exact dX rfl rfl rfl (jM (by omega) (by omega)))<|Dd aE<|Dd (by exact aA rfl rfl call32 rfl (hs2 _))<|Dd aE<|Dd fG<|Dd fG<|Dd (aT eS)<|Dd (aT nA)<|Uu (by exact iY rfl sizeOf25 rfl rfl rfl rfl rfl rfl rfl (aQR rfl) rfl rfl)<|Dd aM<|Zz<|Sr<|Dd aE<|Dd wM<|Zz ?_;refine Cn ?_ ?_<;>intro hc4
   ·have hne:B.2≠0:=by have:=hc4;intro e;rw[e]at this;exact absurd this (by decide)
    rw[hX2 he hne];refine Sr<|Dd (rJ J7)<|Dd aE<|Uu (jN aL)<|Dd aM<|Zz<|aB ?_;refine mQ (H':=[]) (.inr rfl) rfl (eA rfl aS aL rfl rfl rfl (by simp only[Zl,encStr];rfl) rfl) (aX rfl) (Fin.wk (by simp[bS]) trivial trivial) ?_;exact Qq
   have heq:B.2=0:=by have:=hc4;by_cases e:B.2=0;exact e;rw[decide_eq_false e]at this;cases this
   refine aC ?_;exact⟨B.1,⟨kN (ho2 heq).1,hX3 he heq⟩,Wk⟩
  have he:=oC hc3;refine aC ?_;exact⟨zS,⟨Z1,hX1 he⟩,Wk⟩
 rintro b ⟨hb2,hX2⟩;rw[hX2,nS];have htx:=fun H=>KJ (J3 r A.1 b) (EP hr (kN ho1) hb2) hp H;obtain ⟨T,hT⟩:∃T,T=jO (J3 r A.1 b):=⟨_,rfl⟩;rw[<-hT]at htx |-;refine Sq<|Sr<|Dd (mD aS aL)<|Dd (by exact aA rfl rfl aHG rfl (htx _))<|Dd aE<|Dd fG<|Dd fG<|Dd aM<|Dd aM<|Zz<|Sr<|Dd aE<|Dd wM<|Zz ?_;refine Cn ?_ ?_<;>intro hc5
 ·have hne:T.2≠0:=by have:=hc5;intro e;rw[e]at this;exact absurd this (by decide)
  rw[aQD hne];refine Sr<|Dd (rJ J7)<|Dd aE<|Uu (jN aL)<|Dd aM<|Zz<|aB ?_;refine mQ (H':=[]) (.inr rfl) rfl (eA rfl aS aL rfl rfl rfl (by simp only[Zl,encStr];rfl) rfl) (aX rfl) (Fin.wk (by simp[bS]) trivial trivial) ?_;exact Qq
 have heq:T.2=0:=by have:=hc5;by_cases e:T.2=0;exact e;rw[decide_eq_false e]at this;cases this
 rw[aQC (by rw[heq];decide)];refine aC<|Sr<|Dd (mD aS aL)<|Uu (jN aL)<|Dd aM<|Zz<|aB ?_;refine mQ (H':=[]) (.inr rfl) rfl (eA rfl aS aL rfl rfl rfl (by simp only[Zl,encStr];rfl) rfl) (aX rfl) (Fin.wk (by simp[bS]) trivial trivial) ?_;exact Qq
abbrev eOJ(e:Int):Ob:=bx 1 41 [iv e]
abbrev rOJ(x:GRec):Ob:=bx 21 30 ((bS x).map .pv)
abbrev ZO(x:GRec)(e:Int):aH:=[(3,eOJ e),(2,rOJ x)]
abbrev eAJ:Ob:=bx 1 41 [.any]
abbrev rAJ:Ob:=bx 21 30 [.any,.any,.any,.any,.any,.any,.any,.any,.any,.any,.any,.any,.any,.any,.any,.any,.any,.any,.any,.any,.any]
abbrev pAJ:aH:=[(3,eAJ),(2,rAJ)]
abbrev dcJ:List AV:=[.ref 2 0 0 0,.ref 3 0 0 0]
theorem aKo(x:GRec)(e:Int):UW Tryz.prog 46 dcJ (ZO x e) .returning (fun H2=>H2=ZO x e):=by
 refine G3 (x:=H4) (vx:=.nilIface) func46 rfl ntmps46 (aQR rfl) rfl rfl rfl rfl rfl rfl (fun w I=>.sat rfl rfl) (.inl ⟨rfl,rfl⟩) ?_;refine OA ?_;refine GU ?_;refine qJ ?_;refine JZ rfl rfl rfl (by exact ZX rfl HF rfl) ?_;refine DO ?_;refine IX rfl (fun hc1=>?_) (fun hc1=>?_)
 ·refine qJ ?_;refine JZ rfl rfl rfl (by exact vD rfl rfl) ?_;refine DO ?_;exact⟨.inl rfl,ZO x e,Fin.wk (by simp) (Hb<|Hb<|trivial) ⟨rfl,rfl,trivial⟩,rfl⟩
 cases hc1
theorem aKp:UW Tryz.prog 46 dcJ pAJ (.panicking EQ) (fun H2=>H2=ZO zR 5):=by
 refine G3 (x:=.ifa 81 []) (vx:=.iface 81 (.agg #[])) func46 rfl ntmps46 (aQR rfl) rfl rfl rfl rfl rfl rfl (fun w I=>.ifa _ _ _ rfl (by simp)) (.inr ⟨_,rfl,rfl⟩) ?_;refine OA ?_;refine GU ?_;refine qJ ?_;refine JZ rfl rfl rfl (by exact ZY rfl HF rfl) ?_;refine DO ?_;refine IX rfl (fun hc1=>?_) (fun hc1=>?_)
 ·cases hc1
 refine GU ?_;refine qJ ?_;refine JZ rfl rfl rfl (by exact MT rfl (dR yA rfl) rfl) ?_;refine JZ rfl rfl rfl (by exact sQ rfl rfl rfl) ?_;refine JZ rfl rfl rfl (by exact sQ rfl rfl rfl) ?_;refine DO ?_;refine IX rfl (fun hc2=>?_) (fun hc2=>?_)
 ·refine GU ?_;refine qJ ?_;refine JZ rfl rfl rfl (by exact Z0 rfl aGg) ?_;refine aGb rfl rfl (by exact ZU rfl rfl rfl sizeOf81) ?_;refine DO ?_;refine qJ ?_;refine JZ rfl rfl rfl (by exact KD rfl J7 rfl rfl) ?_;refine aGb rfl rfl (by exact cO rfl aL rfl rfl rfl rfl rfl rfl rfl rfl) ?_;refine aGb rfl rfl (by exact cO rfl sizeOf41 rfl rfl rfl rfl rfl rfl rfl rfl) ?_;refine DO ?_;exact⟨.inl rfl,ZO zR 5,Fin.wk (by simp) (Hb<|Hb<|trivial) ⟨rfl,rfl,trivial⟩,rfl⟩
 cases hc2
theorem aL0(s:ByteArray)(hs:s.size<1099511627776)(hok:(jJ s).2.1=0):aI Tryz.prog 157 [sv s] [] (fun r H'=>r=.tup [.osl 905 (jJ s).1.length 0 (jJ s).1.length,iv 0,iv (jJ s).2.2]/\H'=[(905,⟨(jJ s).1.length,3,187,lF (jJ s).1⟩)]):=by
 refine Bd func157 rfl ntmps157<|Sr<|Dd (by exact bU (id:=2) rfl aJb rfl rfl)<|Dd (by exact bU (id:=3) rfl aKR rfl rfl)<|Dd (by exact bU (id:=4) rfl zo3 rfl rfl)<|Zz<|Sq<|Sr<|Dd aE<|Dd (kG underlying9)<|Dd iG<|Zz ?_;refine Cn ?_ ?_<;>intro hc1
 ·have e:jJ s=([],2,-1):=by rw[jJ,aQD (by have:=aQA hc1;omega)]
  rw[e]at hok;exact absurd hok (by decide)
 have hsz:¬ 20000<s.size:=by have:=aQB hc1;omega
 obtain ⟨ds,hds⟩:∃ds,ds=nU s (s.size+1) 0:=⟨_,rfl⟩;have hg:jJ s=mY [] ds:=by rw[jJ,aQC hsz,hds]
 refine aC<|Sr<|Dd (by exact bU (id:=5) rfl aDl rfl rfl)<|Zz<|Sq<|Sr<|Dd aE<|Dd (by exact aA rfl rfl call197 rfl (VA s _ rfl rfl rfl (eI.ofL ⟨(by(simp;done)),(by(simp;done)),(by(simp;done)),(by(simp;done)),trivial⟩)))<|Zz<|aF ?_;refine gM.ent (E':=[(2,.ref 2 0 0 0),(3,.ref 3 0 0 0),(4,.ref 4 0 0 0),(5,.ref 5 0 0 0),(11,.clo 237 [.ref 921 0 0 0,.ref 924 0 0 0])]) (H':=[(905,⟨0,3,187,[]⟩),(5,bx 1 182 [.osl 905 0 0 0]),(924,tA),(923,tC),(921,tS s),(4,bx 1 3 [iv 0]),(3,bx 1 41 [iv 0]),(2,bx 1 182 [.pv (.sl [])])]) ?_ ?_
 ·exact(cX.nz 905 3 187 rfl rfl ⟨⟨_,rfl,(by exact Nz.same (by(simp;rfl)))⟩,⟨_,rfl,(by exact Nz.same (by(simp;rfl)))⟩,⟨_,rfl,(by exact Nz.same (by(simp;rfl)))⟩,⟨_,rfl,(by exact Nz.same (by(simp;rfl)))⟩,⟨_,rfl,(by exact Nz.same (by(simp;exact⟨rfl,rfl⟩)))⟩,trivial⟩ ⟨⟨_,rfl,rfl,rfl,rfl,(by exact .inr ⟨_,_,rfl,rfl,(by repeat(first|exact trivial|refine⟨(by exact Nz.own),?_⟩))⟩)⟩,⟨_,rfl,rfl,rfl,rfl,(by exact .inl ⟨rfl,(by exact qO rfl rfl)⟩)⟩,⟨_,rfl,rfl,rfl,rfl,(by exact .inl ⟨rfl,(by exact iX _)⟩)⟩,⟨_,rfl,rfl,rfl,rfl,(by exact .inl ⟨rfl,(by exact qN _ _)⟩)⟩,⟨_,rfl,rfl,rfl,rfl,(by exact .inl ⟨rfl,(by(simp;done))⟩)⟩,⟨_,rfl,rfl,rfl,rfl,(by exact .inl ⟨rfl,(by(simp;done))⟩)⟩,⟨_,rfl,rfl,rfl,rfl,(by exact .inl ⟨rfl,(by(simp;done))⟩)⟩,trivial⟩ trivial)
 have hdl:ds.length<=s.size+1:=by rw[hds];exact B2 s _ _
 obtain ⟨j,hj⟩:∃j,j=wL (qT ds) ds.length 0:=⟨_,rfl⟩;have hj1:j<=ds.length:=by have:=(FP (qT ds) ds.length 0).2;omega
 have hj2:∀k,k<j->qT ds k=true:=fun k hk=>FR (qT ds) ds.length 0 k (aQV _) (by rw[<-hj];exact hk);have hj3:j<ds.length->qT ds j=false:=fun h=>by have:=yP (qT ds) ds.length 0 (by omega);rwa [<-hj]at this
 have hrun:=ID hj1 hj2;refine DN (id:=904) (p:=12) sS rfl call237 rfl rfl (by simp[sS];exact⟨rfl,rfl,rfl,rfl⟩) ?_;intro x hx1 hx2 hx3 hx4 hx5 hx6;have hround:∀(k:Nat) (d:GFound),ds[k]?=some d->k<=j ->
   dN Tryz.prog (.yld 904 0) [.agg ((GP d).map .pv)] ((904,LR x sS)::(926,tF d)::kL s (ds.take k) (.pv (.sl [])) 0 0) (fun r H'=>r=bv (qT ds k)/\H'=(if qT ds k then(904,LR x sS)::(926,tF d)::kL s (ds.take (k+1)) (.pv (.sl [])) 0 0 else(904,LR (left x .ret) sS)::(926,tF d)::kL s (ds.take k) (.pv (.sl [])) (if d.err≠0 then d.err else 2) d.pos)):=by
  intro k d hd hkj;have hok:=F9 hd;have hkl:k<ds.length:=(aQI.1 hd).1;have htl:(ds.take k).length=k:=by rw[aQS];omega
  have hnx:ds.take (k+1)=ds.take k++[d]:=by rw[List.take_add_one,hd];rfl
  refine .inl ⟨904,0,rfl,?_⟩;refine SF [(2,.ref 2 0 0 0),(3,.ref 3 0 0 0),(4,.ref 4 0 0 0),(5,.ref 5 0 0 0),(6,.ref 907 0 0 0)] ((907,tF d)::(926,tF d)::kL s (ds.take k) (.pv (.sl [])) 0 0) hx1 hx2 hx3 hx4 hx5 hx6 rfl rfl rfl ?_ ?_
  ·refine Rg<|Dd (by exact bU (id:=907) rfl aDm rfl rfl)<|Uu (jN FC)<|Zz ?_;exact(cX.wk (Ea<|Ea<|Ea<|Ea<|Ea<|trivial) (Hc (lQ (by simp[sS];exact⟨rfl,rfl,rfl,rfl⟩))<|Hc (xN _ _)<|Hc (xN _ _)<|Hc (cT _ _)<|Ha<|Hc (qO rfl rfl)<|Hc (iX _)<|Hc (qN _ _)<|Hb<|Hb<|Hb<|trivial) ⟨rfl,rfl,rfl,rfl,rfl,rfl,rfl,rfl,rfl,rfl,trivial⟩)
  refine aF<|Sq<|aF<|Sr<|Dd (aT rC)<|Dd (bF lN)<|Dd wM<|Da ?_;refine Cn ?_ ?_<;>intro hc2
  ·have he:d.err≠0:=by have h:=hc2;rw[aQX,aQM]at h;exact h
   have h0:qT ds k=false:=by rw[hok,decide_eq_false he];rfl
   rw[h0,aQC (by decide),aQD he];refine Sq<|aO follows<|Cr [907] (fun _ h=>fh rC h)<|Cr [907] (fun _ h=>lh lN h)<|Cr [907] (fun _ h=>fh nF h)<|Cr [907] (fun _ h=>fh K4 h)<|Cr [907] (fun _ h=>lh isAgg3 h)<|Cp [2] (fun H1 hH=>by exact cO rfl mK rfl rfl rfl rfl ((hH _ rfl).trans rfl) rfl rfl rfl)<|Cp [3] (fun H1 hH=>by exact cO rfl sizeOf41 rfl rfl rfl rfl ((hH _ rfl).trans rfl) rfl rfl rfl)<|Cp [4] (fun H1 hH=>by exact cO rfl sizeOf3 rfl rfl rfl rfl ((hH _ rfl).trans rfl) rfl rfl rfl)<|bM<|Kr<|aB ?_;exact⟨(926,tF d)::kL s (ds.take k) (.pv (.sl [])) d.err d.pos,(cX.wk trivial (Hc (lQ (by simp[sS];exact⟨rfl,rfl,rfl,rfl⟩))<|Hc (xN _ _)<|Hc (cT _ _)<|Ha<|Hc (qO rfl rfl)<|Hc (iX _)<|Hc (qN _ _)<|Hb<|Hb<|Hb<|trivial) ⟨rfl,rfl,rfl,rfl,rfl,rfl,rfl,rfl,rfl,rfl,trivial⟩),rfl,rfl⟩
  have he:d.err=0:=by have h:=hc2;rw[Bool.not_eq_false',aQL]at h;exact h
  refine Sr<|Dd (bF lS)<|Dd (by exact eG rfl iE rfl rfl rfl)<|Dd cN<|Da ?_;refine Cn ?_ ?_<;>intro hc3
  ·have hk5:k=5000:=by have:=aQA hc3;omega
   have h0:qT ds k=false:=by rw[hok,decide_eq_true he,decide_eq_true hk5];rfl
   rw[h0,aQC (by decide),aQC (fun h=>h he)];refine Sq<|aO follows<|Cr [907] (fun _ h=>fh nF h)<|Cr [907] (fun _ h=>fh K4 h)<|Cr [907] (fun _ h=>lh isAgg3 h)<|Cp [2] (fun H1 hH=>by exact cO rfl mK rfl rfl rfl rfl ((hH _ rfl).trans rfl) rfl rfl rfl)<|Cp [3] (fun H1 hH=>by exact cO rfl sizeOf41 rfl rfl rfl rfl ((hH _ rfl).trans rfl) rfl rfl rfl)<|Cp [4] (fun H1 hH=>by exact cO rfl sizeOf3 rfl rfl rfl rfl ((hH _ rfl).trans rfl) rfl rfl rfl)<|bM<|Kr<|aB ?_;exact⟨(926,tF d)::kL s (ds.take k) (.pv (.sl [])) 2 d.pos,(cX.wk trivial (Hc (lQ (by simp[sS];exact⟨rfl,rfl,rfl,rfl⟩))<|Hc (xN _ _)<|Hc (cT _ _)<|Ha<|Hc (qO rfl rfl)<|Hc (iX _)<|Hc (qN _ _)<|Hb<|Hb<|Hb<|trivial) ⟨rfl,rfl,rfl,rfl,rfl,rfl,rfl,rfl,rfl,rfl,trivial⟩),rfl,rfl⟩
  have hk5:¬ k=5000:=by have:=aQB hc3;omega
  have h0:qT ds k=true:=by rw[hok,decide_eq_true he,decide_eq_false hk5];rfl
  rw[h0,aQD rfl,hnx,aF9];refine aC<|Rg<|Dd (bF lS)<|Dd (aT nF)<|Dd (mD YL sizeOf187)<|Dd (by exact aQ [eU d] rfl oJ rfl rfl rfl rfl rfl (by intro r hr;rw[aQH]at hr;subst hr;rfl))<|Dd (by exact cJ (ps:=[eU d]) rfl oJ aGC rfl rfl rfl rfl rfl (zY _) rfl (by intro r hr;rw[aQH]at hr;subst hr;rfl) (m:=1) rfl (by omega) rfl (EG (ds.take k) d))<|Uu (jN mK)<|Zz ?_;exact⟨(926,tF d)::[(905,⟨(ds.take k).length+1,3,187,lF (ds.take k++[d])⟩),(5,bx 1 182 [.osl 905 ((ds.take k).length+1) 0 ((ds.take k).length+1)]),(924,tA),(923,tC),(921,tS s),(4,bx 1 3 [iv 0]),(3,bx 1 41 [iv 0]),(2,bx 1 182 [.pv (.sl [])])],(cX.wk trivial (Hc (lQ (by simp[sS];exact⟨rfl,rfl,rfl,rfl⟩))<|Hc (xN _ _)<|Hc (cT _ _)<|Ha<|Hc (qO rfl rfl)<|Hc (iX _)<|Hc (qN _ _)<|Hb<|Hb<|Hb<|trivial) ⟨rfl,rfl,rfl,rfl,rfl,rfl,rfl,rfl,rfl,rfl,trivial⟩),rfl,rfl⟩
 rcases Nat.lt_or_ge j ds.length with hlt|hge
 ·obtain ⟨f,hf⟩:=aU hlt;have hbad:=hj3 hlt;have hdj:ds.drop j=f::ds.drop (j+1):=by
   rw[List.drop_eq_getElem_cons hlt];rw[aQJ hlt]at hf;cases hf;rfl
  have hres:jJ s=([],(if f.err≠0 then f.err else 2),(f.pos:Int)):=by
   rw[hg,hrun,hdj,mY]
   split
   ·rfl
   rename_i he;have he0:f.err=0:=by
    by_cases h:f.err=0
    ·exact h
    exact absurd h he
   rw[F9 hf,decide_eq_true he0,Bool.true_and,Bool.not_eq_false',aQL]at hbad;rw[aQD (by rw[aQS];omega)]
  rw[hres]at hok;have hok:(if f.err≠0 then f.err else 2)=0:=hok
  split at hok
  ·next h=>exact absurd hok h
  exact absurd hok (by decide)
 have hje:j=ds.length:=Nat.le_antisymm hj1 hge;rw[hje,List.take_length,List.drop_length]at hrun;rw[hg,hrun,mY];refine(HJ s (.yld 904 0) (fun k=>(904,LR x sS)::kL s (ds.take k) (.pv (.sl [])) 0 0) (qT ds) ds.length hs (fun k=>rfl) (fun k=>rfl) (fun k=>rfl) (fun k=>rfl) (fun k=>(eI.ofL ⟨(by exact lQ (by simp[sS];exact⟨rfl,rfl,rfl,rfl⟩)),(by exact cT _ _),(by(simp;rfl)),(by exact qO rfl rfl),(by exact iX _),(by exact qN _ _),(by(simp;done)),(by(simp;done)),(by(simp;done)),trivial⟩)) (fun k=>by simp;rfl) (by rw[<-hds];exact aQK _) (fun k hk=>hj2 k (by omega)) (.inl (by rw[<-hds])) ?_).mono ?_
 ·rw[<-hds];intro k d hd hk;have hr:=hround k d hd (by omega);have hok:=hj2 k (by omega);rw[hok,aQD rfl]at hr;rw[hok];exact dN.congrG hr (fun j=>oZ (by decide) j) (fun j=>oZ (by decide) j)
 rintro r H' ⟨rfl,rfl⟩;rw[List.take_length];refine⟨x,_,rfl,by rw[hx1];decide,rfl,fun z=>?_⟩;rw[hx2];refine Sr<|Dd (bF lS)<|Uu (jN mK)<|Uu (jN sizeOf41)<|Uu (jN sizeOf3)<|Zz<|aB ?_;refine BM (H':=[(905,⟨ds.length,3,187,lF ds⟩)]) (.inr rfl) rfl (gP rfl lS rfl rfl rfl rfl) (gP rfl lN rfl rfl rfl rfl) (gP rfl isAgg3 rfl rfl rfl rfl) (Fin.wk (by(simp;rfl)) (Hc (cT _ _)<|trivial) trivial) ?_;exact Qq
theorem aLZ(s:ByteArray)(H:aH)(hs:s.size<1099511627776)(hok:(jJ s).2.1=0)(hH:H.get 905=none):aI Tryz.prog 157 [sv s] H (fun r H'=>r=.tup [.osl 905 (jJ s).1.length 0 (jJ s).1.length,iv 0,iv (jJ s).2.2]/\H'=(905,⟨(jJ s).1.length,3,187,lF (jJ s).1⟩)::H) :=aI.frame (aL0 s hs hok) (fun _ _ h=>by cases h) (fun _ _ h=>by cases h) (by simp) (fun id h=>.inr (by
  by_cases e:id=905
  ·rw[e];exact hH
  rw[get_cons_other _ _ e]at h;cases h))
theorem FT(f:α->List PV)(l:List α):l.map (fun e=>(f e).map AV.pv)=(l.map f).map (·.map .pv):=by rw[List.map_map];rfl
theorem uM(f:α->List PV)(l:List α):((l.map f).take (0+l.length)).drop 0=l.map f:=by rw[aQW,List.drop_zero];exact List.take_of_length_le (by rw[aQE];exact aQK _)
theorem aCw(f:GFound)(H:aH):aI Tryz.prog 232 [av (eU f)] H (fun r H'=>r=bv (jB f)/\H'=H):=by
 refine Pu ?_;refine Bd func232 rfl ntmps232<|Sr<|Dd (by exact cF (id:=1) rfl rfl rfl rfl rfl)<|Dd aM<|Zz<|Sq ?_;refine aY (t:=2) (n:=10) (X:=jB f) ?_ ?_
 ·all_goals refine Dd (aT mG) ?_
  all_goals refine Dd (bF isAgg9)<|Dd AG<|Dm ?_
  all_goals refine Sp 6 (fun h6=>?_) fun h6=>?_
  all_goals try contradiction
  all_goals first|refine Fo<|Fo<|Fo ?_|refine On (aT GN)<|On (bF isAgg3)<|On cN ?_
  all_goals refine Dd cH<|Da ?_
  all_goals(exact⟨⟨_,rfl,by(simp only[jB, *];rfl)⟩,rfl,rfl,rfl⟩)
 exact aB<|Rt<|Qq
theorem IH(l:List GFound)(H:aH)(hl:l.length<4611686018427387904):
  aI Tryz.prog 231 [.pv (SR l),.pv (.fn 232)] H (fun r H'=>r=iv (xR jB l)/\H'=H):=by
 refine Pu ?_;have hml:(l.map eU).length=l.length:=aQE _;refine Bd func231 rfl ntmps231<|Sr<|Dd aM<|Zz<|Sq<|Sr<|Dd aE<|Dd (fM iE)<|Dd aE<|Zz<|aF ?_;refine bJ (σ:=Nat) (fun k=>([(0,.pv (SR l)),(1,.pv (.fn 232)),(7,iv ((l.map eU).length:Int)),(8,iv (k:Int))],[])) (fun k=>k<=l.length/\∀j,j<k->∀b,l[j]?=some b->jB b=false) (fun k=>l.length - k) 0 ⟨by omega,by omega⟩ ?_ ?_
 ·exact E0
 rintro k ⟨hk,hno⟩;refine Sr<|Dd cW<|Zz<|Sq ?_;refine Cn ?_ ?_<;>intro hc1
 ·have hlt:k<l.length:=by have:=aQA hc1;omega
  obtain ⟨o,ho⟩:=aU hlt;have hi:=cI (f:=eU) ho;refine aC<|Sq<|aF<|Sr<|Dd aE<|Dd aM<|Zz<|Sr<|Dd aE<|Dd aE<|Dd aE<|Dd (mR oJ)<|Dd (by exact dP rfl YL sizeOf187 rfl (by omega) (by simp only[Zl,bQ,bW,encStr,jT,eU];rfl) rfl)<|Dd (by exact cY rfl rfl rfl (dN.fn call232 (aCw o _)))<|Zz ?_;refine Cn ?_ ?_<;>intro hc2
  ·refine Sr<|Dd aE<|Dd aM<|Zz<|aB<|Rt ?_;exact⟨by rw[xR,RT hno ho hc2],rfl⟩
  refine aC<|Rg<|Dd mV<|Dd aE<|Zz ?_;exact⟨k+1,⟨by omega,vB hno ho hc2⟩,by omega,E0⟩
 have hge:k=l.length:=by have:=aQB hc1;omega
 subst hge;refine aW<|Sr<|Dd aM<|Zz<|aB<|Rt ?_;exact⟨by rw[xR,RU hno],rfl⟩
def F0(T:List GFound)(k:Nat):List GFound:=T++List.replicate k noF
theorem FZ(T:List GFound)(k:Nat):(F0 T k).length=T.length+k:=by rw[F0,aQF,List.length_replicate]
theorem aEp(T:List GFound)(k:Nat):lF (F0 T k)++[(eU noF).map AV.pv]=lF (F0 T (k+1)):=by rw[EG,F0,F0,List.replicate_succ',List.append_assoc]
def kF(s:ByteArray):Nat->Int
 |0=>0
 |j+1=>if eP ((j+1:Nat):Int)=s then((j+1:Nat):Int)else kF s j
theorem aIl(s:ByteArray):kF s 5=JQ s:=by simp only[kF,JQ,eq_comm (a:=s)];rfl
theorem LQ:∀l:List GFound,oV l=eT l (l.length / 3)
 | []=>by simp[oV,eT]
 | [a]=>by simp[oV,eT]
 | [a,b]=>by simp[oV,eT]
 |a::b::c::r=>by
  rw[oV,LQ r];have h1:(a::b::c::r).length=r.length+3:=rfl;rw[h1,Nat.add_div_right _ (by decide),eT,eT,List.range_succ_eq_map,List.map_cons,List.map_map];rfl
theorem aG6(s:ByteArray):atV s=(oK s).1:=by rw[atV,oK];cases h:Lib.atoiAll s.data.toList<;>rfl
abbrev oR(id:ByteArray)(k x y:Int)(n m:Nat):Ob:=bx 6 151 [sv id,iv k,iv x,iv y,.osl 906 n 0 n,.osl 907 m 0 m]
def UY(L:List GFound):Ob:=⟨L.length,3,187,lF L⟩
def rH(L:List GFound)(id:ByteArray)(k x y:Int)(R:List ByteArray)(G:List GTag):aH:=[(907,⟨G.length,2,199,tU G⟩),(906,⟨R.length,1,9,cD R⟩),(3,oR id k x y R.length G.length),(905,UY L),(2,bx 6 151 ((bW zObj).map .pv))]
abbrev rE(L:List GFound):dG:=[(0,.osl 905 L.length 0 L.length),(2,.ref 2 0 0 0),(3,.ref 3 0 0 0)]
theorem aOe(L:List GFound)(id:ByteArray)(k x y:Int)(R:List ByteArray)(s:ByteArray)(G:List GTag):rH L id k x y (R++[s]) G=[(907,⟨G.length,2,199,tU G⟩),(906,⟨R.length+1,1,9,cD (R++[s])⟩),(3,oR id k x y (R.length+1) G.length),(905,UY L),(2,bx 6 151 ((bW zObj).map .pv))]:=by simp[rH]
theorem aMs(L:List GFound)(id:ByteArray)(k x y:Int)(R:List ByteArray)(t:GTag)(G:List GTag):rH L id k x y R (G++[t])=[(907,⟨G.length+1,2,199,tU (G++[t])⟩),(906,⟨R.length,1,9,cD R⟩),(3,oR id k x y R.length (G.length+1)),(905,UY L),(2,bx 6 151 ((bW zObj).map .pv))]:=by simp[rH]
theorem zX{L:List GFound}{i:Nat}{f:GFound}(h:L[i]?=some f):(lF L)[i]?=some [iv f.kind,sv f.text,iv (f.pos:Int)]:=by rw[lF,aQY,h];rfl
theorem aKg(T:List GFound)(hl:T.length<549755813888)(hsz:∀f∈sP T,f.text.size<1099511627776):aI Tryz.prog 195 [.osl 905 T.length 0 T.length] [(905,UY T)] (fun r H'=>r=av (bW (mZ T))/\H'=[(905,UY (sP T))]):=by
 refine Bd func195 rfl ntmps195<|Sr<|Dd (by exact bU (id:=2) rfl aA9 rfl rfl)<|Zz<|Sq<|aF ?_;refine bJ (σ:=Nat) (fun k=>([(0,.osl 905 (F0 T k).length 0 (F0 T k).length),(2,.ref 2 0 0 0)],[(905,UY (F0 T k)),(2,bx 6 151 ((bW zObj).map .pv))])) (fun k=>k<=4 - T.length) (fun k=>4 - T.length - k) 0 (aQV _) ?_ ?_
 ·rw[show F0 T 0=T by simp[F0]];exact(cX.wk (Ea<|Ea<|trivial) (Hc (cT _ _)<|Hb<|trivial) ⟨rfl,trivial⟩)
 rintro k hk;have hpl:=FZ T k;unfold UY;refine Sq<|Sr<|Dd aE<|Dd (by exact eG rfl iE rfl rfl rfl)<|Dd cW<|Zz ?_;refine Cn ?_ ?_<;>intro hc1
 ·have hlt:T.length+k<4:=by have:=aQA hc1;rw[hpl]at this;omega
  refine aC<|aF<|Rg<|Dd aE<|Dd (rJ aKE)<|Dd (by exact aQ [eU noF] rfl oJ rfl rfl rfl rfl rfl (by intro r hr;rw[aQH]at hr;subst hr;rfl))<|Dd (by exact cJ (ps:=[eU noF]) rfl oJ aGC rfl rfl rfl rfl rfl (zY _) rfl (by intro r hr;rw[aQH]at hr;subst hr;rfl) (m:=1) rfl (by omega) rfl (aEp T k))<|Da ?_;refine⟨k+1,by omega,by omega,?_⟩;rw[show (F0 T (k+1)).length=(F0 T k).length+1 by rw[FZ,FZ];omega];exact(cX.wk (Ea<|Ea<|trivial) (Hc (cT _ _)<|Hb<|trivial) ⟨rfl,trivial⟩)
 have hge:4<=T.length+k:=by have:=aQB hc1;rw[hpl]at this;omega
 obtain rfl:k=4 - T.length:=by omega
 obtain ⟨L,hL⟩:∃L,L=F0 T (4 - T.length):=⟨_,rfl⟩;have hLp:sP T=L:=by rw[hL];rfl
 have hLl:4<=L.length/\L.length<549755813893:=by rw[hL,FZ];omega
 rw[hLp]at hsz;rw[hLp,<-hL];clear hpl;obtain ⟨t0,ht0⟩:=aU (show 0<L.length by omega);obtain ⟨t1,ht1⟩:=aU (show 1<L.length by omega);obtain ⟨t2,ht2⟩:=aU (show 2<L.length by omega);obtain ⟨t3,ht3⟩:=aU (show 3<L.length by omega);have hr0:=zX ht0;have hr1:=zX ht1;have hr2:=zX ht2;have hr3:=zX ht3;have hd:∀ {i:Nat} {f:GFound},L[i]?=some f->L.getD i noF=f:=fun {i f} h=>by rw[List.getD_eq_getElem?_getD,h];rfl
 have hR:=mZ.eq_1 T;rw[hLp,hd ht0,hd ht1,hd ht2,hd ht3]at hR;refine aW<|Sr<|Dd aE<|Dd (by exact dQ rfl oJ rfl rfl rfl rfl rfl (by omega) (by exact aQP _) (show 1<L.length by omega) rfl)<|Dd (aT mG)<|Dd (by exact aK rfl isAgg9 rfl rfl rfl hr1 rfl)<|Dd (rJ aLu)<|Dd (by exact bU (id:=3) rfl aKQ rfl rfl)<|Uu (jN sizeOf151)<|Zz<|Sq<|Sq ?_;refine gM.ent (E':=rE L) (H':=[(906,⟨0,1,9,[]⟩),(3,bx 6 151 [sv t1.text,iv 0,iv 0,iv 0,.osl 906 0 0 0,.pv .nils]),(905,UY L),(2,bx 6 151 ((bW zObj).map .pv))]) (cX.nz 906 1 9 rfl rfl ⟨⟨_,rfl,(by exact Nz.same (by(simp;rfl)))⟩,⟨_,rfl,(by exact Nz.same (by(simp;rfl)))⟩,⟨_,rfl,(by exact Nz.same (by(simp;rfl)))⟩,trivial⟩ ⟨⟨_,rfl,rfl,rfl,rfl,(by exact .inr ⟨_,_,rfl,rfl,(by repeat(first|exact trivial|refine⟨(by first|exact Nz.own|exact Nz.same (by(simp;done))),?_⟩))⟩)⟩,⟨_,rfl,rfl,rfl,rfl,(by exact .inl ⟨rfl,(by exact cT _ _)⟩)⟩,⟨_,rfl,rfl,rfl,rfl,(by exact .inl ⟨rfl,(by(simp;done))⟩)⟩,trivial⟩ ⟨rfl,trivial⟩) ?_;refine gM.ent (E':=rE L) (H':=rH L t1.text 0 0 0 [] []) (cX.nz 907 2 199 rfl rfl ⟨⟨_,rfl,(by exact Nz.same (by(simp;rfl)))⟩,⟨_,rfl,(by exact Nz.same (by(simp;rfl)))⟩,⟨_,rfl,(by exact Nz.same (by(simp;rfl)))⟩,trivial⟩ ⟨⟨_,rfl,rfl,rfl,rfl,(by exact .inl ⟨rfl,(by exact cA _ _)⟩)⟩,⟨_,rfl,rfl,rfl,rfl,(by exact .inr ⟨_,_,rfl,rfl,(by repeat(first|exact trivial|refine⟨(by first|exact Nz.own|exact Nz.same (by first|(simp;done)|(simp;rfl))),?_⟩))⟩)⟩,⟨_,rfl,rfl,rfl,rfl,(by exact .inl ⟨rfl,(by exact cT _ _)⟩)⟩,⟨_,rfl,rfl,rfl,rfl,(by exact .inl ⟨rfl,(by(simp;done))⟩)⟩,trivial⟩ ⟨rfl,trivial⟩) ?_;refine Rg<|Dd aM<|Zz<|aF ?_;refine bJ (σ:=Nat) (fun j=>(rE L++[(4,iv ((j+1:Nat):Int))],rH L t1.text (kF t0.text j) 0 0 [] [])) (fun j=>j<=5) (fun j=>5 - j) 0 (aQV _) ?_ ?_
 ·exact(cX.wk (Ea<|Ea<|Ea<|Eb<|trivial) (Hc (lW _ _)<|Hc (cA _ _)<|Hc (by(simp;exact⟨rfl,rfl⟩))<|Hc (cT _ _)<|Hb<|trivial) ⟨rfl,trivial⟩)
 rintro j hj;refine Sq<|Sr<|Dd aE<|Dd G9<|Zz ?_;refine Cn ?_ ?_<;>intro hc2
 ·have hj5:j<5:=by have:=aQA hc2;omega
  refine aC<|Sq<|aF<|Sq<|aO follows<|Cq aE<|Cq (by exact aA rfl rfl yE rfl (EC ((j+1:Nat):Int) _))<|Cq aE<|Cq (by exact dQ rfl oJ rfl rfl rfl rfl rfl (by omega) (by exact aQP _) (show 0<L.length by omega) rfl)<|Cq (aT mG)<|Cq (by exact aK rfl isAgg9 rfl rfl rfl hr0 rfl)<|Cq AG<|bM<|Kr ?_;refine Cn ?_ ?_<;>intro hc3
  ·have hw:eP ((j+1:Nat):Int)=t0.text:=aQA hc3;refine Rg<|Dd aE<|Dd (aT eB)<|Uu (by exact bG rfl sizeOf3 rfl rfl rfl rfl rfl rfl (by simp only[aQG,List.length_nil];omega) (by simp only[Zl,bQ,bW,encStr,jT,eU];rfl) (by simp only[Zl,bQ,bW,encStr,jT,eU];rfl))<|Zz<|Rg<|Dd aE<|Dd mV<|Da ?_;refine⟨j+1,by omega,by omega,?_⟩;rw[show kF t0.text (j+1)=((j+1:Nat):Int)by rw[kF,aQD hw]];exact(cX.wk (Ea<|Ea<|Ea<|Eb<|trivial) (Hc (lW _ _)<|Hc (cA _ _)<|Hc (by(simp;exact⟨rfl,rfl⟩))<|Hc (cT _ _)<|Hb<|trivial) ⟨rfl,trivial⟩)
  have hw:eP ((j+1:Nat):Int)≠t0.text:=aQB hc3;refine aC<|Rg<|Dd aE<|Dd mV<|Da ?_;refine⟨j+1,by omega,by omega,?_⟩;rw[show kF t0.text (j+1)=kF t0.text j by rw[kF,aQC hw]];exact(cX.wk (Ea<|Ea<|Ea<|Eb<|trivial) (Hc (lW _ _)<|Hc (cA _ _)<|Hc (by(simp;exact⟨rfl,rfl⟩))<|Hc (cT _ _)<|Hb<|trivial) ⟨rfl,trivial⟩)
 have hj5:j=5:=by have:=aQB hc2;omega
 subst hj5;rw[aIl];obtain ⟨kd,hkd⟩:∃kd,kd=JQ t0.text:=⟨_,rfl⟩;rw[<-hkd]at hR |-;have htk:(lF L).length=L.length:=zY L;refine aW<|Sr<|Dd aE<|Dd (by exact jC (l:=4) (h:=L.length) rfl oJ rfl rfl rfl rfl rfl rfl (by omega) (by omega) rfl rfl)<|Dd aM<|Zz<|Sq<|Sr<|Dd (aT eB)<|Dd (bF isAgg3)<|Dd cN<|Zz ?_;refine Cn ?_ ?_<;>intro hc4
 ·have hk1:kd=1:=aQA hc4;have hR2:mZ T=⟨t1.text,1,atV t2.text,atV t3.text,[],oV (L.drop 4)⟩:=by rw[hR,aQD hk1]
  subst hk1;refine Sr<|Dd aE<|Dd (by exact dQ rfl oJ rfl rfl rfl rfl rfl (by omega) (by exact aQP _) (show 2<L.length by omega) rfl)<|Dd (aT mG)<|Dd (by exact aK rfl isAgg9 rfl rfl rfl hr2 rfl)<|Dd (by exact aA rfl rfl yI rfl (K6 t2.text (hsz _ (aQO ht2)) _))<|Dd aE<|Dd fG<|Dd fG<|Dd (aT mI)<|Dd (aT pR)<|Uu (by exact bG rfl sizeOf3 rfl rfl rfl rfl rfl rfl (by simp only[aQG,List.length_nil];omega) (by simp only[Zl,bQ,bW,encStr,jT,eU];rfl) (by simp only[Zl,bQ,bW,encStr,jT,eU];rfl))<|Zz<|Rg<|Dd aE<|Dd (by exact dQ rfl oJ rfl rfl rfl rfl rfl (by omega) (by exact aQP _) (show 3<L.length by omega) rfl)<|Dd (aT mG)<|Dd (by exact aK rfl isAgg9 rfl rfl rfl hr3 rfl)<|Dd (by exact aA rfl rfl yI rfl (K6 t3.text (hsz _ (aQO ht3)) _)) ?_;refine Dd aE<|Dd fG<|Dd fG<|Dd (aT mI)<|Dd (aT pQ)<|Uu (by exact bG rfl sizeOf3 rfl rfl rfl rfl rfl rfl (by simp only[aQG,List.length_nil];omega) (by simp only[Zl,bQ,bW,encStr,jT,eU];rfl) (by simp only[Zl,bQ,bW,encStr,jT,eU];rfl))<|Zz<|Sq<|aF ?_;obtain ⟨D,hD⟩:∃D,D=L.drop 4:=⟨_,rfl⟩;have hDl:D.length=L.length - 4:=by rw[hD,aQT]
  refine bJ (σ:=Nat) (fun j=>(rE L++[(5,.osl 905 L.length (4+3*j) (L.length - 4 - 3*j))],rH L t1.text 1 (oK t2.text).1 (oK t3.text).1 ([]:List ByteArray) (eT D j))) (fun j=>3*j<=D.length) (fun j=>D.length - 3*j) 0 (aQV _) ?_ ?_
  ·exact(cX.wk (Ea<|Ea<|Ea<|Ea<|trivial) (Hc (lW _ _)<|Hc (cA _ _)<|Hc (by(simp;exact⟨rfl,rfl⟩))<|Hc (cT _ _)<|Hb<|trivial) ⟨rfl,trivial⟩)
  rintro j hj;have hnx:=CO D j;have hfl:=D8 D j;refine Sq<|Sr<|Dd aE<|Dd (by exact eG rfl iE rfl rfl rfl)<|Dd iG<|Zz ?_;refine Cn ?_ ?_<;>intro hc5
  ·have hlt:3*j+2<D.length:=by have:=aQA hc5;omega
   obtain ⟨f0,hf0⟩:∃f,L[4+3*j]?=some f:=aU (by omega);obtain ⟨f2,hf2⟩:∃f,L[4+3*j+2]?=some f:=aU (by omega);have hr0:=zX hf0;have hr2:=zX hf2;have hta:P9 D j=⟨f0.text,f2.text⟩:=by
    rw[P9,hD,List.getElem?_drop,List.getElem?_drop,hf0,show 4+(3*j+2)=4+3*j+2 from rfl,hf2];rfl
   refine aC<|Sq<|aF<|aO follows<|Cs (fun _ h=>fh fB h)<|Cs (fun _ h=>lh cS h)<|Cs (fun _ _=>aE)<|Cs (fun H1 hH=>by exact dQ rfl oJ rfl ((hH _ rfl).trans rfl) rfl rfl rfl (by omega) (by exact aQP _) (show 0<L.length - 4 - 3*j by omega) rfl)<|Cs (fun _ h=>fh mG h)<|Cs (fun H1 hH=>by exact aK rfl isAgg9 rfl ((hH _ rfl).trans rfl) rfl hr0 rfl)<|Cs (fun _ _=>aE)<|Cs (fun H1 hH=>by exact dQ rfl oJ rfl ((hH _ rfl).trans rfl) rfl rfl rfl (by omega) (by exact aQP _) (show 2<L.length - 4 - 3*j by omega) rfl)<|Cs (fun _ h=>fh mG h)<|Cs (fun H1 hH=>by exact aK rfl isAgg9 rfl ((hH _ rfl).trans rfl) rfl hr2 rfl)<|Cs (fun _ _=>(rJ aKD))<|Cs (fun H1 hH=>by exact aQ [bQ ⟨f0.text,f2.text⟩] rfl kH rfl rfl rfl rfl rfl (by intro r hr;rw[aQH]at hr;subst hr;rfl)) ?_;refine bL (r:=⟨_,none,[_]⟩) (DStep.plain rfl (fun H1 hH=>by exact cJ (ps:=[bQ ⟨f0.text,f2.text⟩]) rfl kH aJy rfl ((hH _ rfl).trans rfl) rfl rfl rfl (LK _) rfl (by intro r hr;rw[aQH]at hr;subst hr;rfl) (m:=1) rfl (by omega) rfl (LM (eT D j) ⟨f0.text,f2.text⟩))) rfl ?_;refine Cs (fun _ h=>fh fB h) ?_;refine bL (r:=⟨_,none,[_]⟩) (DStep.plain rfl (fun H1 hH=>by exact(by exact bG rfl sizeOf149 rfl rfl rfl ((hH _ rfl).trans rfl) rfl rfl (by simp only[aQG,List.length_nil];omega) (by simp only[Zl,bQ,bW,encStr,jT,eU];rfl) (by simp only[Zl,bQ,bW,encStr,jT,eU];rfl)))) rfl ?_;refine bM<|Kr<|Rg<|Dd aE<|Dd (by exact jC (l:=3) (h:=(L.length - 4 - 3*j)) rfl oJ rfl rfl rfl rfl rfl rfl (by omega) (by omega) rfl rfl)<|Da ?_;refine⟨j+1,by omega,by omega,?_⟩;dsimp only;rw[hnx,hta,aMs];exact(cX.wk (Ea<|Ea<|Ea<|Ea<|trivial) (Hc (lW _ _)<|Hc (cA _ _)<|Hc (by(simp;exact⟨rfl,rfl⟩))<|Hc (cT _ _)<|Hb<|trivial) ⟨rfl,trivial⟩)
  have hge:D.length<3*j+3:=by have:=aQB hc5;omega
  have hdj:D.length / 3=j:=by omega
  have hG:oV D=eT D j:=by rw[LQ,hdj]
  refine aW<|Sq ?_;refine gM.ent (cX.fzG (id:=907) (E':=rE L) (H':=[(906,⟨(([]:List ByteArray)).length,1,9,cD (([]:List ByteArray))⟩),(3,bx 6 151 [sv (t1.text),iv (1),iv ((oK t2.text).1),iv ((oK t3.text).1),.osl 906 (([]:List ByteArray)).length 0 (([]:List ByteArray)).length,.pv (rR (eT D j))]),(905,UY L),(2,bx 6 151 ((bW zObj).map .pv))]) ((eT D j).map bQ) rfl (FT bQ _) ?_ rfl ?_ ?_) ?_
  ·intro p hp;simp only[aQQ,aQU,or_false]at hp;rcases hp with rfl|rfl|rfl<;>exact⟨_,rfl,.same (by simp;rfl)⟩
  ·exact⟨⟨_,rfl,rfl,rfl,rfl,gK (cA _ _)⟩,⟨_,rfl,rfl,rfl,rfl,oD rfl (dF (.same (by simp)) (dF (.same (by simp)) (dF (.same (by simp)) (dF (.same (by simp)) (dF (.same (by simp;rfl)) (dF (.osl (uM bQ _)) oO))))))⟩,⟨_,rfl,rfl,rfl,rfl,gK (cT _ _)⟩,⟨_,rfl,rfl,rfl,rfl,gK (by simp)⟩,trivial⟩
  ·exact⟨rfl,trivial⟩
  refine gM.ent (cX.fzG (id:=906) (E':=rE L) (H':=[(3,bx 6 151 [sv (t1.text),iv (1),iv ((oK t2.text).1),iv ((oK t3.text).1),.pv (aZ (([]:List ByteArray))),.pv (rR (eT D j))]),(905,UY L),(2,bx 6 151 ((bW zObj).map .pv))]) ((([]:List ByteArray)).map encStr) rfl (eM _) ?_ rfl ?_ ?_) ?_
  ·intro p hp;simp only[aQQ,aQU,or_false]at hp;rcases hp with rfl|rfl|rfl<;>exact⟨_,rfl,.same (by simp;rfl)⟩
  ·exact⟨⟨_,rfl,rfl,rfl,rfl,oD rfl (dF (.same (by simp)) (dF (.same (by simp)) (dF (.same (by simp)) (dF (.same (by simp)) (dF (.osl (uM encStr _)) (dF (.same (by simp)) oO))))))⟩,⟨_,rfl,rfl,rfl,rfl,gK (cT _ _)⟩,⟨_,rfl,rfl,rfl,rfl,gK (by simp)⟩,trivial⟩
  ·exact⟨rfl,trivial⟩
  refine Rg<|Dd (by exact aN rfl dA sizeOf151 rfl rfl rfl rfl (by simp only[Zl,bQ,bW,encStr,jT,eU];rfl) rfl)<|Uu (jN sizeOf151)<|Zz<|aB ?_;refine dV (H':=[(905,UY L)]) (.inr rfl) rfl (eA rfl dA sizeOf151 rfl rfl rfl (by simp only[Zl,bQ,bW,encStr,jT,eU];rfl) rfl) (Fin.wk (by(simp;done)) (Hc (cT _ _)<|trivial) ⟨rfl,trivial⟩) ?_;refine⟨?_,rfl⟩;rw[(show mZ T=⟨t1.text,1,(oK t2.text).1,(oK t3.text).1,[],oV (L.drop 4)⟩by rw[hR2,aG6,aG6]),<-hD,hG];rfl
 have hk1:kd≠1:=aQB hc4;rw[aQC hk1]at hR;have hIx:=IH L [] (by omega);have hIr:∀H,H.get 905=some (UY L)->aI Tryz.prog 231 [.osl 905 L.length 0 L.length,.pv (.fn 232)] H (fun r H'=>r=iv (xR jB L)/\H'=H):=fun H hH =>
  RO.calls (RO.lend (id:=905) (H1:=[]) (L.map eU) (RO.of hIx rfl) hH (FT eU L) rfl
   (dF (.osl (uM eU L)) (dF (.same (by simp)) oO)) (fun _ _ h=>by cases h) (fun _ _ h=>by cases h) rfl)
 refine Sr<|Dd aE<|Dd (by exact aA rfl rfl call231 rfl (hIr _ rfl))<|Dd aM<|Zz<|Sq<|Sr<|Dd aE<|Dd cW<|Zz ?_;refine Cn ?_ ?_<;>intro hc6
 ·have hlo:xR jB L<3:=aQA hc6;rw[aQD hlo]at hR;rw[hR];refine Sr<|Dd (rJ R7)<|Uu (jN sizeOf151)<|Zz<|aB ?_;refine dV (H':=[(905,UY L)]) (.inr rfl) rfl (eA rfl dA sizeOf151 rfl rfl rfl (by simp only[Zl,bQ,bW,encStr,jT,eU];rfl) rfl) (Fin.wk (by(simp;done)) (Hc (cT _ _)<|trivial) ⟨rfl,trivial⟩) ?_;exact Qq
 have hlo:¬ xR jB L<3:=aQB hc6;rw[aQC hlo]at hR;obtain ⟨q,hq,hqL⟩:∃q:Nat,xR jB L=(q:Int)/\q<L.length:=by
  rcases aAJ jB L with⟨e1,_⟩|⟨q,o,e1,e2,_⟩
  ·rw[e1]at hlo;exact absurd (by decide) hlo
  exact⟨q,e1,(aQI.1 e2).1⟩
 rw[hq]at hR hlo |-;rw[aQP]at hR;have hq3:3<=q:=by omega
 obtain ⟨M,hM⟩:∃M,M=(L.take q).drop 3:=⟨_,rfl⟩;have hMl:M.length=q - 3:=by rw[hM,aQT,aQS];omega
 rw[<-hM]at hR;refine aC<|Sq<|Sr<|Dd aE<|Dd aE<|Dd (by exact jC (l:=3) (h:=q) rfl oJ rfl rfl rfl rfl rfl rfl (by omega) (by omega) rfl rfl)<|Dd (by exact eG rfl iE rfl rfl rfl)<|Dd aE<|Zz<|aF ?_;refine bJ (σ:=Nat) (fun i=>(rE L++[(5,.osl 905 L.length 4 (L.length - 4)),(6,iv (q:Int)),(66,.osl 905 L.length 3 (q - 3)),(67,iv ((q - 3:Nat):Int)),(68,iv (i:Int))],rH L t1.text kd 0 0 ((M.take i).map GFound.text) [])) (fun i=>i<=M.length) (fun i=>M.length - i) 0 (aQV _) ?_ ?_
 ·exact(cX.wk (Ea<|Ea<|Ea<|Ea<|Eb<|Ea<|Eb<|Eb<|trivial) (Hc (lW _ _)<|Hc (cA _ _)<|Hc (by(simp;exact⟨rfl,rfl⟩))<|Hc (cT _ _)<|Hb<|trivial) ⟨rfl,trivial⟩)
 rintro i hi;refine Sr<|Dd cW<|Zz<|Sq ?_;refine Cn ?_ ?_<;>intro hc7
 ·have hiq:i<q - 3:=by have:=aQA hc7;omega
  obtain ⟨f,hf⟩:=aU (show i<M.length by omega);have hfL:L[3+i]?=some f:=by
   rw[hM,List.getElem?_drop,List.getElem?_take_of_lt (by omega)]at hf;exact hf
  have hrf:=zX hfL;have hMt:(M.take (i+1)).map GFound.text=(M.take i).map GFound.text++[f.text]:=by rw[List.take_add_one,hf,List.map_append];rfl
  have hRl:((M.take i).map GFound.text).length=i:=by rw[aQE,aQS];omega
  refine aC<|Sq<|aF<|Sr<|Dd (by exact dQ rfl oJ rfl rfl rfl rfl rfl (by omega) (by exact aQP _) (by omega) rfl)<|Dd (by exact aN rfl YL sizeOf187 rfl rfl rfl hrf (by simp only[Zl,bQ,bW,encStr,jT,eU];rfl) rfl)<|Dd (by exact bU (id:=8) rfl aM0 rfl rfl)<|Uu (jN sizeOf187)<|Zz<|Rg<|Dd (aT dT)<|Dd (bF aG)<|Dd (aT mG)<|Dd (bF isAgg9)<|Dd (by exact aQ [encStr f.text] rfl cC rfl rfl rfl rfl rfl (by intro r hr;rw[aQH]at hr;subst hr;rfl))<|Dd (by exact cJ (ps:=[encStr f.text]) rfl cC xI rfl rfl rfl rfl rfl (eX _) rfl (by intro r hr;rw[aQH]at hr;subst hr;rfl) (m:=1) rfl (by omega) rfl (kK ((M.take i).map GFound.text) f.text))<|Dd (aT dT)<|Uu (by exact bG rfl sizeOf22 rfl rfl rfl rfl rfl rfl (by simp only[aQG,List.length_nil];omega) (by simp only[Zl,bQ,bW,encStr,jT,eU];rfl) (by simp only[Zl,bQ,bW,encStr,jT,eU];rfl)) ?_;refine Zz<|Rg<|Dd mV<|Dd aE<|Zz ?_;refine⟨i+1,by omega,by omega,?_⟩;dsimp only;rw[hMt,aOe];exact(cX.wk (Ea<|Ea<|Ea<|Ea<|Eb<|Ea<|Eb<|Eb<|trivial) (Hc (lW _ _)<|Hc (cA _ _)<|Hc (by(simp;exact⟨rfl,rfl⟩))<|Hc (cT _ _)<|Hb<|trivial) ⟨rfl,trivial⟩)
 have hiq:i=q - 3:=by have:=aQB hc7;omega
 have hMi:M.take i=M:=List.take_of_length_le (by omega);rw[hMi];refine aW<|Rg<|Dd aE<|Dd aE<|Dd (by exact cB rfl rfl rfl (show IntKind.i64.wrap ((q:Int)+1)=((q+1:Nat):Int)by rw[IntKind.wrap_i64];omega))<|Dd (by exact jC (l:=(q+1)) (h:=L.length) rfl oJ rfl rfl rfl rfl rfl rfl (by omega) (by omega) rfl rfl)<|Dd aM<|Zz<|Sq<|aF ?_;rw[<-aQW (q+1)]at hR;obtain ⟨D,hD⟩:∃D,D=L.drop (0+(q+1)):=⟨_,rfl⟩;have hDl:D.length=L.length - (0+(q+1)):=by rw[hD,aQT]
 refine bJ (σ:=Nat) (fun j=>(rE L++[(5,.osl 905 L.length ((0+(q+1))+3*j) (L.length - (q+1) - 3*j))],rH L t1.text kd 0 0 (M.map GFound.text) (eT D j))) (fun j=>3*j<=D.length) (fun j=>D.length - 3*j) 0 (aQV _) ?_ ?_
 ·exact(cX.wk (Ea<|Ea<|Ea<|Ea<|trivial) (Hc (lW _ _)<|Hc (cA _ _)<|Hc (by(simp;exact⟨rfl,rfl⟩))<|Hc (cT _ _)<|Hb<|trivial) ⟨rfl,trivial⟩)
 rintro j hj;have hnx:=CO D j;have hfl:=D8 D j;refine Sq<|Sr<|Dd aE<|Dd (by exact eG rfl iE rfl rfl rfl)<|Dd iG<|Zz ?_;refine Cn ?_ ?_<;>intro hc8
 ·have hlt:3*j+2<D.length:=by have:=aQA hc8;omega
  obtain ⟨f0,hf0⟩:∃f,L[(0+(q+1))+3*j]?=some f:=aU (by omega);obtain ⟨f2,hf2⟩:∃f,L[(0+(q+1))+3*j+2]?=some f:=aU (by omega);have hr0:=zX hf0;have hr2:=zX hf2;have hta:P9 D j=⟨f0.text,f2.text⟩:=by
   rw[P9,hD,List.getElem?_drop,List.getElem?_drop,hf0,show (0+(q+1))+(3*j+2)=(0+(q+1))+3*j+2 from rfl,hf2];rfl
  refine aC<|Sq<|aF<|aO follows<|Cs (fun _ h=>fh fB h)<|Cs (fun _ h=>lh cS h)<|Cs (fun _ _=>aE)<|Cs (fun H1 hH=>by exact dQ rfl oJ rfl ((hH _ rfl).trans rfl) rfl rfl rfl (by omega) (by exact aQP _) (show 0<L.length - (q+1) - 3*j by omega) rfl)<|Cs (fun _ h=>fh mG h)<|Cs (fun H1 hH=>by exact aK rfl isAgg9 rfl ((hH _ rfl).trans rfl) rfl hr0 rfl)<|Cs (fun _ _=>aE)<|Cs (fun H1 hH=>by exact dQ rfl oJ rfl ((hH _ rfl).trans rfl) rfl rfl rfl (by omega) (by exact aQP _) (show 2<L.length - (q+1) - 3*j by omega) rfl)<|Cs (fun _ h=>fh mG h)<|Cs (fun H1 hH=>by exact aK rfl isAgg9 rfl ((hH _ rfl).trans rfl) rfl hr2 rfl)<|Cs (fun _ _=>(rJ aKD))<|Cs (fun H1 hH=>by exact aQ [bQ ⟨f0.text,f2.text⟩] rfl kH rfl rfl rfl rfl rfl (by intro r hr;rw[aQH]at hr;subst hr;rfl)) ?_;refine bL (r:=⟨_,none,[_]⟩) (DStep.plain rfl (fun H1 hH=>by exact cJ (ps:=[bQ ⟨f0.text,f2.text⟩]) rfl kH aJy rfl ((hH _ rfl).trans rfl) rfl rfl rfl (LK _) rfl (by intro r hr;rw[aQH]at hr;subst hr;rfl) (m:=1) rfl (by omega) rfl (LM (eT D j) ⟨f0.text,f2.text⟩))) rfl ?_;refine Cs (fun _ h=>fh fB h) ?_;refine bL (r:=⟨_,none,[_]⟩) (DStep.plain rfl (fun H1 hH=>by exact(by exact bG rfl sizeOf149 rfl rfl rfl ((hH _ rfl).trans rfl) rfl rfl (by simp only[aQG,List.length_nil];omega) (by simp only[Zl,bQ,bW,encStr,jT,eU];rfl) (by simp only[Zl,bQ,bW,encStr,jT,eU];rfl)))) rfl ?_;refine bM<|Kr<|Rg<|Dd aE<|Dd (by exact jC (l:=3) (h:=(L.length - (q+1) - 3*j)) rfl oJ rfl rfl rfl rfl rfl rfl (by omega) (by omega) rfl rfl)<|Da ?_;refine⟨j+1,by omega,by omega,?_⟩;dsimp only;rw[hnx,hta,aMs];exact(cX.wk (Ea<|Ea<|Ea<|Ea<|trivial) (Hc (lW _ _)<|Hc (cA _ _)<|Hc (by(simp;exact⟨rfl,rfl⟩))<|Hc (cT _ _)<|Hb<|trivial) ⟨rfl,trivial⟩)
 have hge:D.length<3*j+3:=by have:=aQB hc8;omega
 have hdj:D.length / 3=j:=by omega
 have hG:oV D=eT D j:=by rw[LQ,hdj]
 refine aW<|Sq ?_;refine gM.ent (cX.fzG (id:=907) (E':=rE L) (H':=[(906,⟨((M.map GFound.text)).length,1,9,cD ((M.map GFound.text))⟩),(3,bx 6 151 [sv (t1.text),iv (kd),iv (0),iv (0),.osl 906 ((M.map GFound.text)).length 0 ((M.map GFound.text)).length,.pv (rR (eT D j))]),(905,UY L),(2,bx 6 151 ((bW zObj).map .pv))]) ((eT D j).map bQ) rfl (FT bQ _) ?_ rfl ?_ ?_) ?_
 ·intro p hp;simp only[aQQ,aQU,or_false]at hp;rcases hp with rfl|rfl|rfl<;>exact⟨_,rfl,.same (by simp;rfl)⟩
 ·exact⟨⟨_,rfl,rfl,rfl,rfl,gK (cA _ _)⟩,⟨_,rfl,rfl,rfl,rfl,oD rfl (dF (.same (by simp)) (dF (.same (by simp)) (dF (.same (by simp)) (dF (.same (by simp)) (dF (.same (by simp;rfl)) (dF (.osl (uM bQ _)) oO))))))⟩,⟨_,rfl,rfl,rfl,rfl,gK (cT _ _)⟩,⟨_,rfl,rfl,rfl,rfl,gK (by simp)⟩,trivial⟩
 ·exact⟨rfl,trivial⟩
 refine gM.ent (cX.fzG (id:=906) (E':=rE L) (H':=[(3,bx 6 151 [sv (t1.text),iv (kd),iv (0),iv (0),.pv (aZ ((M.map GFound.text))),.pv (rR (eT D j))]),(905,UY L),(2,bx 6 151 ((bW zObj).map .pv))]) (((M.map GFound.text)).map encStr) rfl (eM _) ?_ rfl ?_ ?_) ?_
 ·intro p hp;simp only[aQQ,aQU,or_false]at hp;rcases hp with rfl|rfl|rfl<;>exact⟨_,rfl,.same (by simp;rfl)⟩
 ·exact⟨⟨_,rfl,rfl,rfl,rfl,oD rfl (dF (.same (by simp)) (dF (.same (by simp)) (dF (.same (by simp)) (dF (.same (by simp)) (dF (.osl (uM encStr _)) (dF (.same (by simp)) oO))))))⟩,⟨_,rfl,rfl,rfl,rfl,gK (cT _ _)⟩,⟨_,rfl,rfl,rfl,rfl,gK (by simp)⟩,trivial⟩
 ·exact⟨rfl,trivial⟩
 refine Rg<|Dd (by exact aN rfl dA sizeOf151 rfl rfl rfl rfl (by simp only[Zl,bQ,bW,encStr,jT,eU];rfl) rfl)<|Uu (jN sizeOf151)<|Zz<|aB ?_;refine dV (H':=[(905,UY L)]) (.inr rfl) rfl (eA rfl dA sizeOf151 rfl rfl rfl (by simp only[Zl,bQ,bW,encStr,jT,eU];rfl) rfl) (Fin.wk (by(simp;done)) (Hc (cT _ _)<|trivial) ⟨rfl,trivial⟩) ?_;refine⟨?_,rfl⟩;rw[hR,<-hD,hG];rfl
end Go.Proofs.YtmdicgjnmfolfaaGreatDoor
