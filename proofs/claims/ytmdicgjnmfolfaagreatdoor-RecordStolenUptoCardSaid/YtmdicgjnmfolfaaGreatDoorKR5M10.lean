/-
  Parts of the proof: rules of an abstract program logic, contracts of functions, plain laws. Conditions: each theorem's own.
-/
import Derived.Test.YtmdicgjnmfolfaaGreatDoorKR5M9
import Derived.RecoverIn
set_option linter.unusedVariables false
set_option linter.unusedSimpArgs false
set_option maxRecDepth 100000
set_option maxHeartbeats 8000000
namespace Go.Proofs
open Tryz
theorem aNi:type_of% call10:=call10
theorem aNg:type_of% call32:=call32
theorem jZ:type_of% call47:=call47
theorem gH:type_of% call48:=call48
theorem zQ:type_of% call49:=call49
theorem S1:type_of% call80:=call80
theorem cX:type_of% isAgg82:=isAgg82
theorem vP:type_of% underlying81:=underlying81
theorem aFO:type_of% zeroValue81:=zeroValue81
end Go.Proofs
namespace Go.Abs
variable{o:Oper}{H H' G0:aB}{rs:List Rec}{ops:Array Oper}{P:Program}{N id:Nat}{E E':bS}{PP:FT->aB->aB->Prop}{rest:List Oper}{Fs:List Prop}{Q:Exit->bS->aB->Prop}{K:List Rec->List Prop->bS->aB->Prop}{r:Rec}
section
def jH(o o':Ob):Prop:=o'.g=o.g/\o'.sz=o.sz/\o'.ty=o.ty/\o'.rows.map List.length=o.rows.map List.length
theorem jH.rfl{o:Ob}:jH o o:=⟨_root_.rfl,_root_.rfl,_root_.rfl,_root_.rfl⟩
def Shp(ids:List Nat)(H H1:aB):Prop:=∀id∈ids,∀o,H.get id=some o->∃o',H1.get id=some o'/\jH o o'
def aAO:List Nat->List Nat->Bool
 | [],[]=>true
 |a::r,b::q=>Nat.beq a b&&aAO r q
 |_,_=>false
theorem UX:∀ {a b:List Nat},aAO a b=true->a=b
 | [],[],_=>rfl
 |a::r,b::q,h=>by
  rw[aAO,aOE]at h;rw[Nat.eq_of_beq_eq_true h.1,UX h.2]
 | [],_::_,h=>by cases h
 |_::_,[],h=>by cases h
def aKu(o o':Ob):Bool:=Nat.beq o'.g o.g&&(Nat.beq o'.sz o.sz&&(Nat.beq o'.ty o.ty&&aAO (o'.rows.map List.length) (o.rows.map List.length)))
def aIo(ids:List Nat)(H:aB)(rs:List Rec):Bool:=rs.all fun r=>ids.all fun id=>match r.W.get id with
 |none=>true
 |some o'=>match H.get id with
  |none=>true
  |some o=>aKu o o'
theorem aBJ{ids:List Nat}(h:aIo ids H rs=true):∀r∈rs,∀id∈ids,∀o',r.W.get id=some o'->∀o,H.get id=some o->jH o o':=by intro r hr id hid o' ho' o ho;have h1:=List.all_eq_true.1 (List.all_eq_true.1 h r hr) id hid;simp only[ho',ho,aKu,aOE]at h1;exact⟨Nat.eq_of_beq_eq_true h1.1,Nat.eq_of_beq_eq_true h1.2.1,Nat.eq_of_beq_eq_true h1.2.2.1,UX h1.2.2.2⟩
theorem Q0{H:aB}{l:List Ent2}{S:Nat->Bool}{id:Nat}{o:Ob}(ho:H.get id=some o)(h:∀y∈l,∀o',y.r.W.get id=some o'->jH o o'):∀n,∃o',vZ H l S n id=some o'/\jH o o'
 |0=>⟨o,ho,.rfl⟩
 | n+1=>by
  rw[vZ];cases e:l[n]? with
  |none=>exact Q0 ho h n
  | some y =>
   simp only
   split
   ·next hc =>
    obtain ⟨o',ho'⟩:=Option.isSome_iff_exists.1 hc.2;exact⟨o',ho',h y (aOF e) o' ho'⟩
   exact Q0 ho h n
def aEP(ks:List Nat)(rs:List Rec):Bool:=rs.all fun r=>ks.all fun id=>match r.W.get id with
 |none=>true
 |some _=>false
theorem YK{ks:List Nat}(h:aEP ks rs=true):∀id∈ks,∀r∈rs,r.W.get id=none:=by
 intro id hid r hr;have h1:=List.all_eq_true.1 (List.all_eq_true.1 h r hr) id hid;cases e:r.W.get id with
 |none=>rfl
 |some o=>rw[e]at h1;cases h1
theorem J7{H:aB}{l:List Ent2}{S:Nat->Bool}{id:Nat}(h:∀y∈l,y.r.W.get id=none):∀n,vZ H l S n id=H.get id
 |0=>rfl
 | n+1=>by
  rw[vZ];cases e:l[n]? with
  |none=>exact J7 h n
  |some y =>
   simp only;rw[aNt (fun hc=>by rw[h y (aOF e)]at hc;exact absurd hc.2 (by simp))];exact J7 h n
def aEQ(ts:List Nat)(ops:Array Oper):Bool:=ops.toList.all fun o=>match o.dst with
 |none=>true
 |some d=>!IF ts d
theorem YL{ts:List Nat}(h:aEQ ts ops=true):∀t∈ts,∀o∈ops.toList,o.dst≠some t:=by intro t ht o ho hd;have:=List.all_eq_true.1 h o ho;rw[hd]at this;simp only[aOO]at this;rw[EM.2 ht]at this;cases this
theorem J8{E:bS}{l:List Ent2}{S:Nat->Bool}{t:Nat}(h:∀y∈l,y.o.dst≠some t):∀n,xM E l S n t=E.get t
 |0=>rfl
 | n+1=>by
  rw[xM];cases e:l[n]? with
  |none=>exact J8 h n
  |some y =>
   simp only;rw[aNt (fun hc=>h y (aOF e) hc.2)];exact J8 h n
theorem zU.restr{E1:bS}{H1:aB}{l:List Nat}{R:AV->aB->Prop}{PP:FT->aB->Prop}(h:zU P N o (restr E l) H1 R PP)(hE:∀t,t∈l->E1.get t=E.get t):zU P N o E1 H1 R PP:=by intro a w I ι hs hr he K Q hk hp;refine h a w I ι hs hr (fun t v ht=>?_) K Q hk hp;have hp:=OS (E:=E) (l:=l) _ (fR ht);exact he t v ((hE t hp.2).trans hp.1)
inductive DStepP(P:Program)(N:Nat)(ops:List Oper)(PP:FT->aB->aB->Prop)(o:Oper)(E:bS)(H:aB)(r:Rec)(F:Prop):Prop
 |old (hF:F) (h:DStep P N ops o E H r)
 |pan (hg:o.guard=none) (h:∀H1:aB,(∀id,wJ r.R id=true->H1.get id=H.get id)->zU P N o (restr E (fV ops o)) H1 (fun v H'=>v=r.v/\H'=r.W++H1/\F) (fun ch H'=>PP ch H1 H'))
def S6:List Prop->Prop
 | []=>True
 |F::r=>F/\S6 r
theorem SW:∀ {l:List Prop},(∀(k:Nat) (F:Prop),l[k]?=some F->F)->S6 l
 | [],_=>trivial
 |F::r,h=>⟨h 0 F rfl,SW fun k G hG=>h (k+1) G hG⟩
inductive DChainP(P:Program)(N:Nat)(ops:List Oper)(PP:FT->aB->aB->Prop):List Oper->bS->aB->List Rec->List Prop->bS->aB->Prop
 |nil {E:bS} {H:aB}:DChainP P N ops PP [] E H [] [] E H
 | cons {o:Oper} {rest:List Oper} {E E':bS} {H H':aB} {r:Rec} {rs:List Rec} {F:Prop} {Fs:List Prop} (h:DStepP P N ops PP o E H r F) (hd:gY N o.dst=true) (hr:DChainP P N ops PP rest (iZ E o.dst r.v) (r.W++H) rs Fs E' H') :
   DChainP P N ops PP (o::rest) E H (r::rs) (F::Fs) E' H'
section
variable{ops:List Oper}
theorem DChainP.spec(h:DChainP P N ops PP rest E H rs Fs E' H'):(rs.length=rest.length/\Fs.length=rest.length) /\
  (∀k x,(List.zipWith Ent2.mk rest rs)[k]?=some x->gY N x.o.dst=true/\∃F,Fs[k]?=some F/\∃Ek Hk,(∀t,Ek.get t=xM E (List.zipWith Ent2.mk rest rs) (fun _=>true) k t)/\(∀id,Hk.get id=vZ H (List.zipWith Ent2.mk rest rs) (fun _=>true) k id)/\DStepP P N ops PP x.o Ek Hk x.r F) /\
  (∀t,E'.get t=xM E (List.zipWith Ent2.mk rest rs) (fun _=>true) rest.length t)/\(∀id,H'.get id=vZ H (List.zipWith Ent2.mk rest rs) (fun _=>true) rest.length id):=by
 induction h with
 |nil=>exact⟨⟨rfl,rfl⟩,by simp,fun t=>rfl,fun id=>rfl⟩
 | @cons o rest E E' H H' r rs F Fs hs hd hr ih =>
  obtain ⟨⟨h1,h1F⟩,h2,h3,h4⟩:=ih;have shE:∀(l:List Ent2) k t,xM (iZ E o.dst r.v) l (fun _=>true) k t=xM E (⟨o,r⟩::l) (fun _=>true) (k+1) t:=by
   intro l k t
   induction k with
   | zero =>
    simp only[xM,List.getElem?_cons_zero];cases hdst:o.dst with
    |none=>simp[iZ]
    |some d =>
     simp only[iZ];by_cases e:d=t
     ·subst e;simp[bS.get_cons_same]
     rw[bS.get_cons_other _ _ e];simp[e]
   |succ k ih =>
    rw[xM,xM];simp only[List.getElem?_cons_succ];cases l[k]? with
    |none=>exact ih
    |some x=>simp only[ih]
  have shH:∀(l:List Ent2) k id,vZ (r.W++H) l (fun _=>true) k id=vZ H (⟨o,r⟩::l) (fun _=>true) (k+1) id:=by
   intro l k id
   induction k with
   |zero =>
    simp only[vZ,List.getElem?_cons_zero,BS];cases hw:r.W.get id<;>simp
   |succ k ih =>
    rw[vZ,vZ];simp only[List.getElem?_cons_succ];cases l[k]? with
    |none=>exact ih
    |some x=>simp only[ih]
  refine⟨⟨by simp[h1],by simp[h1F]⟩,?_,?_,?_⟩
  ·intro k x hx;cases k with
   |zero =>
    simp at hx;subst hx;exact⟨hd,F,rfl,E,H,fun t=>rfl,fun id=>rfl,hs⟩
   |succ k =>
    simp at hx;obtain ⟨g0,F2,g00,Ek,Hk,g1,g2,g3⟩:=h2 k x (by simpa using hx);exact⟨g0,F2,g00,Ek,Hk,fun t=>(g1 t).trans (shE _ k t),fun id=>(g2 id).trans (shH _ k id),g3⟩
  ·intro t;rw[h3 t,shE];rfl
  intro id;rw[h4 id,shH];rfl
end
theorem aCM(hm:P.follows .mixedOrders=true)(hc:DChainP P N ops.toList PP ops.toList E H rs Fs E' H')(hok:F9 ops.toList rs=true)(ids ks:List Nat)(hW:aIo ids H rs=true)(hKs:aEP ks rs=true)(ts:List Nat)(hT:aEQ ts ops=true)(hP:∀ch E1 H1 H2,(∀t∈ts,E1.get t=E.get t)->Shp ids H H1->(∀id∈ks,H1.get id=H.get id)->PP ch H1 H2->Q (.panic ch) E1 H2)
  (hK:S6 Fs->Q .normal E' H'):fL P G0 N (.region id ops true) Q E H:=by
 intro G hG a w hs ro hro;have hnd0:ro=none\/ops.toList.all Oper.noDefer=true:=hro;refine wpIn_region_any hm ?_;obtain ⟨⟨hlen,hlenF⟩,hst,hE',hH'⟩:=hc.spec;obtain ⟨l,hl⟩:∃l,l=List.zipWith Ent2.mk ops.toList rs:=⟨_,rfl⟩;rw[<-hl]at hst hE' hH';simp only[F9,aOE,<-hl]at hok;obtain ⟨hok1,hok2⟩:=hok;have hll:l.length=ops.size:=by rw[hl];simp[hlen]
 have hlo:∀(i:Nat) (x:Ent2),l[i]?=some x->ops.toList[i]?=some x.o:=by
  intro i x hx;rw[hl,List.getElem?_zipWith]at hx;cases e1:ops.toList[i]? with
  |none=>simp[e1]at hx
  |some o =>
   cases e2:rs[i]? with
   |none=>simp[e1,e2]at hx
   |some r=>simp[e1,e2]at hx;rw[<-hx]
 have hedge:=EH ops.toList 0 hok1;have hbef:∀(i j:Nat) (x y:Ent2),i<j->l[i]?=some x->l[j]?=some y->jE ops.toList x y=true->Pre ops.toList i j:=fun i j x y hij hx hy hcl =>
  QH ops.toList [] [] rfl rfl (by simp) j i (EF l [] hok2 i j hij (aOM _) x y hx hy hcl)
 have main:∀(fuel:Nat) (listed:Array Bool) (a:Act) (w:World) (E1:bS) (H1:aB),listed.size=ops.size->((List.range ops.size).filter fun i=>!listed.getD i true).length<=fuel ->
   aC2 ops.toList (fun i=>listed.getD i false)->(∀k,listed.getD k false=true->∀F,Fs[k]?=some F->F)->St G N E1 H1 a w->(∀t,E1.get t=xM E l (fun i=>listed.getD i false) ops.size t)->(∀j,H1.get j=vZ H l (fun i=>listed.getD i false) ops.size j) ->
   wpAnyIn (RF ro) 0 P .any ops (fun e a w=>∃E H,Q e E H/\St G N E H a w) fuel listed a w:=by
  intro fuel
  induction fuel with
  | zero =>
   intro listed a w E1 H1 hsz hcnt hdown hfac hst1 hE1 hH1;have hall:∀i,i<ops.size->listed.getD i false=true:=by
    intro i hi;have hnil:=List.eq_nil_of_length_eq_zero (Nat.le_zero.1 hcnt);have:=List.filter_eq_nil_iff.1 hnil i (List.mem_range.2 hi);have hi':i<listed.size:=by omega
    simp[Array.getD,hi']at this |-;exact this
   refine⟨?_,E',H',hK (SW fun k F hF=>hfac k (hall k (by have:=(aNz.1 hF).1;rw[hlenF]at this;simpa using this)) F hF),?_⟩
   ·unfold Region.ready;refine List.filter_eq_nil_iff.2 fun i hi=>?_;have:=hall i (List.mem_range.1 hi);have hi':i<listed.size:=by have:=List.mem_range.1 hi;omega
    simp[Array.getD,hi']at this;simp[Array.getD,hi',this]
   refine cD.get (G0:=G0) (fun t=>?_) (fun j=>?_) G hG N a w hst1
   ·rw[hE' t,hE1 t,Array.length_toList];exact(nX (E:=E) ops.size ops.size (aOB _) (fun j x hj _=>⟨fun hlt=>hall j hlt,fun h1 h2=>by omega⟩)).symm
   rw[hH' j,hH1 j,Array.length_toList];exact(nW (H:=H) ops.size ops.size (aOB _) (fun i x hi _=>⟨fun hlt=>hall i hlt,fun h1 h2=>by omega⟩)).symm
  | succ fuel ih =>
   intro listed a w E1 H1 hsz hcnt hdown hfac hst1 hE1 hH1;refine⟨fun hnil=>?_,fun i hi=>?_⟩
   ·-- nothing is left
    have hall:∀i,i<ops.size->listed.getD i false=true:=by
     intro i
     induction i using Nat.strongRecOn with
     | _ i ihi =>
      intro hi;refine Classical.byContradiction fun hno=>?_;have hi':i<listed.size:=by omega
      have hno':listed.getD i true=false:=by
       simp[Array.getD,hi']at hno |-;exact hno
      have hlt:i<ops.toList.length:=by simpa using hi
      have hr:i∈Region.ready .any ops listed:=by
       unfold Region.ready;refine List.mem_filter.2 ⟨List.mem_range.2 hi,?_⟩;have ho:ops[i]?=some ops[i]:=Array.getElem?_eq_getElem hi;simp only[hno',Bool.not_false,Bool.true_and,ho,Option.map_some,Option.getD_some];rw[Array.all_eq_true'];intro e he;cases hb:Region.binds .any e with
       |false=>simp
       |true =>
        have hon:=hedge i ops[i] (by simp[ho]) e (by simpa using he) hb;simp only[Bool.not_true,Bool.false_or];exact ihi e.on (by omega) (by omega)
      rw[hnil]at hr;cases hr
    refine⟨E',H',hK (SW fun k F hF=>hfac k (hall k (by have:=(aNz.1 hF).1;rw[hlenF]at this;simpa using this)) F hF),?_⟩;refine cD.get (G0:=G0) (fun t=>?_) (fun j=>?_) G hG N a w hst1
    ·rw[hE' t,hE1 t,Array.length_toList];exact(nX (E:=E) ops.size ops.size (aOB _) (fun j x hj _=>⟨fun hlt=>hall j hlt,fun h1 h2=>by omega⟩)).symm
    rw[hH' j,hH1 j,Array.length_toList];exact(nW (H:=H) ops.size ops.size (aOB _) (fun i x hi _=>⟨fun hlt=>hall i hlt,fun h1 h2=>by omega⟩)).symm
   have hi1:=List.mem_filter.1 hi;have hilt:i<ops.size:=List.mem_range.1 hi1.1;have hi':i<listed.size:=by omega
   have ho:ops[i]?=some ops[i]:=Array.getElem?_eq_getElem hilt;have hi2:=hi1.2;simp only[ho,Option.map_some,Option.getD_some,aOE]at hi2;obtain ⟨hnl,hpreds⟩:=hi2;have hnl':listed.getD i false=false:=by
    simp[Array.getD,hi']at hnl |-;exact hnl
   have hpre:∀e∈(ops[i]).after.toList,Region.binds .any e=true->listed.getD e.on false=true:=by
    intro e he hb;have:=(Array.all_eq_true'.1 hpreds) e (by simpa using he)
    simpa[hb]using this
   have hil:i<l.length:=by omega
   obtain ⟨x,hx⟩:∃x,l[i]?=some x:=⟨_,aOA hil⟩;have hxo:x.o=ops[i]:=by
    have:=hlo i x hx;simp[ho]at this;exact this.symm
   obtain ⟨hdok,F,hFi,Ek,Hk,hEk,hHk,hdst⟩:=hst i x hx;have hbefore:∀(j:Nat) (y:Ent2),j<i->l[j]?=some y->jE ops.toList y x=true->listed.getD j false=true:=by
    intro j y hj hy hcl;exact hbef j i y x hj hy hx hcl _ hdown ops[i] (by simp[ho]) hpre
   have hbehind:∀(j:Nat) (y:Ent2),i<j->l[j]?=some y->jE ops.toList x y=true->listed.getD j false=false:=by
    intro j y hj hy hcl;cases hjl:listed.getD j false with
    |false=>rfl
    |true =>
     have hjlt:j<l.length:=(aNz.1 hy).1;have hjo:ops.toList[j]?=some y.o:=hlo j y hy;have:=hbef i j x y hj hx hy hcl _ hdown y.o hjo (fun e he hb=>hdown j y.o hjo hjl e he hb);rw[hnl']at this;cases this
   have agreeE:∀t,(∀(j:Nat) (y:Ent2),l[j]?=some y->y.o.dst=some t->(j<i->jE ops.toList y x=true)/\(i<j->jE ops.toList x y=true))->E1.get t=Ek.get t:=by
    intro t ht;rw[hE1 t,hEk t];refine nX (E:=E) ops.size i (by omega) (fun j y hj hd=>⟨fun hlt=>hbefore j y hlt hj ((ht j y hj hd).1 hlt),fun h1 h2=>?_⟩);by_cases e:j=i
    ·subst e;exact hnl'
    exact hbehind j y (by omega) hj ((ht j y hj hd).2 (by omega))
   have agreeH:∀k,(∀(j:Nat) (y:Ent2),l[j]?=some y->(y.r.W.get k).isSome=true->(j<i->jE ops.toList y x=true)/\(i<j->jE ops.toList x y=true))->H1.get k=Hk.get k:=by
    intro k hk;rw[hH1 k,hHk k];refine nW (H:=H) ops.size i (by omega) (fun j y hj hd=>⟨fun hlt=>hbefore j y hlt hj ((hk j y hj hd).1 hlt),fun h1 h2=>?_⟩);by_cases e:j=i
    ·subst e;exact hnl'
    exact hbehind j y (by omega) hj ((hk j y hj hd).2 (by omega))
   have hlooks:∀t,t∈fV ops.toList x.o->E1.get t=Ek.get t:=fun t ht =>
    agreeE t fun j y hj hd=>⟨fun _=>zG hd ht,fun _=>zF hd ht⟩
   have hreads:∀k,wJ x.r.R k=true->H1.get k=Hk.get k:=fun k hk =>
    agreeH k fun j y hj hd=>⟨fun _=>QE hd hk,fun _=>QF hd hk⟩
   have hlist:∀j,(listed.setIfInBounds i true).getD j false=if j=i then true else listed.getD j false:=by
    intro j;by_cases e:j=i
    ·subst e;simp[Array.getD,hi']
    simp only[Array.getD_eq_getD_getElem?,Array.getElem?_setIfInBounds_ne (Ne.symm e),e,if_false]
   have hdown':aC2 ops.toList (fun j=>(listed.setIfInBounds i true).getD j false):=by
    intro j o hj hjl e he hb;simp only[hlist]at hjl |-;by_cases ej:j=i
    ·subst ej;have:o=ops[j]:=by simp[ho]at hj;exact hj.symm
     subst this;have:=hpre e he hb;simp[this]
    simp only[ej,if_false]at hjl;have:=hdown j o hj hjl e he hb;simp only at this;simp[this]
   have hcnt':((List.range ops.size).filter fun j=>!(listed.setIfInBounds i true).getD j true).length<=fuel:=by
    have hlist':∀j,(listed.setIfInBounds i true).getD j true=if j=i then true else listed.getD j true:=by
     intro j;by_cases e:j=i
     ·subst e;simp[Array.getD,hi']
     simp only[Array.getD_eq_getD_getElem?,Array.getElem?_setIfInBounds_ne (Ne.symm e),e,if_false]
    have h1:((List.range ops.size).filter fun j=>!(listed.setIfInBounds i true).getD j true)=((List.range ops.size).filter fun j=>!listed.getD j true).filter fun j=>j != i:=by
     rw[List.filter_filter];refine List.filter_congr fun j _=>?_;rw[hlist'];by_cases e:j=i<;>simp[e]
    rw[h1];have h2:=List.length_filter_lt_length_iff_exists (p:=fun j=>j != i) (l:=(List.range ops.size).filter fun j=>!listed.getD j true) |>.2 ⟨i,List.mem_filter.2 ⟨hi1.1,by simpa using hnl⟩,by simp⟩;omega
   have next:∀(r:AV) (a':Act) (w':World),F->r=x.r.v->St G N (iZ E1 x.o.dst x.r.v) (x.r.W++H1) a' w'->wpAnyIn (RF ro) 0 P .any ops (fun e a w=>∃E H,Q e E H/\St G N E H a w) fuel (listed.setIfInBounds i true) a' w':=by
    intro r a' w' hFx _ hst';refine ih _ a' w' _ _ (by simp[hsz]) hcnt' hdown' (fun k hk F' hF'=>?_) hst' (fun t=>?_) (fun k=>?_)
    ·rw[hlist]at hk;by_cases e:k=i
     ·subst e;rw[hFi]at hF';cases hF';exact hFx
     rw[aNt e]at hk;exact hfac k hk F' hF'
    ·-- slots
     by_cases hd:x.o.dst=some t
     ·have e1:bS.get (iZ E1 x.o.dst x.r.v) t=some x.r.v:=by rw[hd];simp[iZ,bS.get_cons_same]
      rw[e1];have e2:=nX (E:=E) (l:=l) (S:=fun j=>(listed.setIfInBounds i true).getD j false) (t:=t) ops.size (i+1) (by omega) (fun j y hj hyd=>⟨fun hlt=>?_,fun h1 h2=>?_⟩)
      ·rw[e2,xM,hx];simp[hd]
      ·simp only[hlist];by_cases ej:j=i
       ·simp[ej]
       simp only[ej,if_false];exact hbefore j y (by omega) hj (qF hyd hd)
      simp only[hlist];rw[aNt (by omega)];exact hbehind j y (by omega) hj (qF hd hyd)
     have e1:bS.get (iZ E1 x.o.dst x.r.v) t=E1.get t:=by
      cases hdd:x.o.dst with
      |none=>rfl
      |some d=>exact bS.get_cons_other _ _ (fun e=>hd (by rw[hdd,e]))
     rw [e1,hE1 t];have:∀ n,xM E l (fun i=>listed.getD i false) n t=xM E l (fun j=>(listed.setIfInBounds i true).getD j false) n t:=by
      intro n
      induction n with
      |zero=>rfl
      | succ n ihn =>
       rw[xM,xM];cases hn:l[n]? with
       |none=>exact ihn
       |some y =>
        simp only;by_cases en:n=i
        ·subst en;rw[hx]at hn;cases hn;rw[aNt (fun h=>hd h.2),aNt (fun h=>hd h.2)];exact ihn
        have hS:(listed.setIfInBounds i true).getD n false=listed.getD n false:=by rw[hlist,aNt en]
        rw[hS,ihn]
     exact this _
    rw[BS];by_cases hd:(x.r.W.get k).isSome=true
    ·obtain ⟨ob,hob⟩:=Option.isSome_iff_exists.1 hd;rw[hob];have e2:=nW (H:=H) (l:=l) (S:=fun j=>(listed.setIfInBounds i true).getD j false) (id:=k) ops.size (i+1) (by omega) (fun j y hj hyd=>⟨fun hlt=>?_,fun h1 h2=>?_⟩)
     ·rw[e2,vZ,hx];simp[hob]
     ·simp only[hlist];by_cases ej:j=i
      ·simp[ej]
      simp only[ej,if_false];exact hbefore j y (by omega) hj (BW hyd hd)
     simp only[hlist];rw[aNt (by omega)];exact hbehind j y (by omega) hj (BW hd hyd)
    have hnone:x.r.W.get k=none:=by simpa using hd
    rw [hnone];simp only;rw [hH1 k];have:∀ n,vZ H l (fun i=>listed.getD i false) n k=vZ H l (fun j=>(listed.setIfInBounds i true).getD j false) n k:=by
     intro n
     induction n with
     |zero=>rfl
     | succ n ihn =>
      rw[vZ,vZ];cases hn:l[n]? with
      |none=>exact ihn
      |some y =>
       simp only;by_cases en:n=i
       ·subst en;rw[hx]at hn;cases hn;rw[aNt (fun h=>hd h.2),aNt (fun h=>hd h.2)];exact ihn
       have hS:(listed.setIfInBounds i true).getD n false=listed.getD n false:=by rw[hlist,aNt en]
       rw[hS,ihn]
    exact this _
   unfold wpOpIn;simp only[ho];rw[hxo]at hdst hlooks hdok;rw[hxo]at next;have hgE:∀(j:Nat) (want:Bool) (t:Tmp) (b:Bool),(ops[i]).guard=some (j,want)->iD ops.toList j=some t->Ek.get t=some (.pv (.bool b))->yielded ops a.tmps j=some b:=by
    intro j want t b hg hj hb;have hmem:t∈fV ops.toList ops[i]:=by simp[fV,hg,hj]
    exact rY (E:=E1) hj ((hlooks t hmem).trans hb) hst1.rel.choose_spec.choose_spec.2.2
   have hnd:ro=none\/(ops[i]).noDefer=true:=hnd0.imp (fun h=>h) fun h=>List.all_eq_true.1 h _ (by simp);cases hdst with
   | pan hg h =>
    have hlr:∀y∈l,y.r∈rs:=fun y hy=>by
     obtain ⟨k,hk⟩:=aOQ.1 hy;rw[hl,List.getElem?_zipWith]at hk;cases e1:ops.toList[k]? with
     |none=>simp[e1]at hk
     |some o=>cases e2:rs[k]? with
      |none=>simp[e1,e2]at hk
      |some r=>simp[e1,e2]at hk;rw[<-hk];exact aOF e2
    have hw:Region.wanted ops[i] (yielded ops a.tmps)=true:=by simp[Region.wanted,hg]
    simp only[hw,if_true];refine hst1.opP hdok ((h H1 hreads).restr hlooks) ?_ ?_ hnd
    ·rintro r H2 a' w' ⟨rfl,rfl,hF⟩ hs';exact next _ a' w' hF rfl hs'
    intro ch H2 w' hp hs';refine⟨E1,H2,hP ch E1 H1 H2 (fun t ht=>(hE1 t).trans (J8 (fun y hy=>YL hT t ht y.o (by
     obtain ⟨k,hk⟩:=aOQ.1 hy;exact aOF (hlo k y hk))) _)) (fun id hid o ho=>?_) (fun id hid=>(hH1 id).trans (J7 (fun y hy=>YK hKs id hid y.r (hlr y hy)) _)) hp,hs'⟩
    have hsh:=Q0 (H:=H) (l:=l) (S:=fun i=>listed.getD i false) (id:=id) ho (fun y hy o' ho'=>?_) ops.size
    ·obtain ⟨o',h1,h2⟩:=hsh;exact⟨o',(hH1 id).trans h1,h2⟩
    exact aBJ hW y.r (hlr y hy) id hid o' ho' o ho
   | old hF hdst =>
    have next:=fun r a' w'=>next r a' w' hF;cases hdst with
    |plain hg h =>
     have hw:Region.wanted ops[i] (yielded ops a.tmps)=true:=by simp[Region.wanted,hg]
     simp only[hw,if_true];refine hst1.op hdok ((h H1 hreads).restr hlooks) ?_ hnd;rintro r H2 a' w' ⟨rfl,rfl⟩ hs';exact next _ a' w' rfl hs'
    |on j want t b hg hj hb hw h =>
     have hy:=hgE j want t b hg hj hb;have hw:Region.wanted ops[i] (yielded ops a.tmps)=true:=by simp[Region.wanted,hg,hy,hw]
     simp only[hw,if_true];refine hst1.op hdok ((h H1 hreads).restr hlooks) ?_ hnd;rintro r H2 a' w' ⟨rfl,rfl⟩ hs';exact next _ a' w' rfl hs'
    | off j want t x' hg hj hb hw hv hW =>
     have hmem:t∈fV ops.toList ops[i]:=by simp[fV,hg,hj]
     have hw:Region.wanted ops[i] (yielded ops a.tmps)=false :=
      GM (E:=E1) hg hj ((hlooks t hmem).trans hb) hw hst1.rel.choose_spec.choose_spec.2.2
     simp only[hw,Bool.false_eq_true,if_false];refine⟨fun _ _=>trivial,?_⟩;refine next (.tup []) _ w hv.symm ?_;obtain ⟨I,ι,hr,hst2,he⟩:=hst1.rel;rw[hv,hW];refine⟨?_,?_,I,ι,hr,hst2,iB.put hr (Step.refl _ _ _ _) he iB.skip (by rw[hst1.size];exact hdok)⟩
     ·rw[gC];exact hst1.defers
     have:=hst1.size;cases (ops[i]).dst<;>simpa[Act.put]using this
 have hs':St G N E H a {w with drawn:=w.drawn+1}:=by
  obtain ⟨I,ι,hr,hst2,he⟩:=hs.rel;obtain ⟨k2,k3⟩:=hr.drawn (w':={w with drawn:=w.drawn+1}) rfl rfl rfl rfl;exact⟨hs.defers,hs.size,I,ι,k2,hst2.trans k3,fun t v ht=>let ⟨c,h1,h2⟩:=he t v ht;⟨c,h1,h2.mono hr k3⟩⟩
 refine main ops.size (Array.replicate ops.size false) a _ E H (by simp) (by
  have:=List.length_filter_le (fun i=>!(Array.replicate ops.size false).getD i true) (List.range ops.size)
  simpa using this) (fun j o hj hjl=>by simp[Array.getD]at hjl) (fun k hk=>by simp[Array.getD]at hk) hs' (fun t=>?_) (fun k=>?_)
 ·have:∀n,xM E l (fun i=>(Array.replicate ops.size false).getD i false) n t=E.get t:=by
   intro n
   induction n with
   |zero=>rfl
   | succ n ihn =>
    rw[xM];cases l[n]? with
    |none=>exact ihn
    |some y =>
     have hf:(Array.replicate ops.size false).getD n false=false:=by simp[Array.getD]
     simp only[hf,Bool.false_eq_true,false_and,if_false];exact ihn
  exact(this _).symm
 have:∀n,vZ H l (fun i=>(Array.replicate ops.size false).getD i false) n k=H.get k:=by
  intro n
  induction n with
  |zero=>rfl
  | succ n ihn =>
   rw[vZ];cases l[n]? with
   |none=>exact ihn
   |some y =>
    have hf:(Array.replicate ops.size false).getD n false=false:=by simp[Array.getD]
    simp only[hf,Bool.false_eq_true,false_and,if_false];exact ihn
 exact(this _).symm
def DCP(P:Program)(N:Nat)(PP:FT->aB->aB->Prop)(ops rest:List Oper)(E:bS)(H:aB)(K:List Rec->List Prop->bS->aB->Prop):Prop:=∃rs Fs E' H',DChainP P N ops PP rest E H rs Fs E' H'/\K rs Fs E' H'
theorem E7{ops:List Oper}(h:K [] [] E H):DCP P N PP ops [] E H K:=⟨_,_,_,_,.nil,h⟩
theorem qR{ops:List Oper}{F:Prop}(h:DStepP P N ops PP o E H r F)(hd:gY N o.dst=true)
  (hk:DCP P N PP ops rest (iZ E o.dst r.v) (r.W++H) (fun rs Fs E' H'=>K (r::rs) (F::Fs) E' H')):DCP P N PP ops (o::rest) E H K:=by
 obtain ⟨rs,Fs,E',H',h1,h2⟩:=hk;exact⟨_,_,_,_,.cons h hd h1,h2⟩
theorem bY{ops:List Oper}(h:DStep P N ops o E H r)(hd:gY N o.dst=true)
  (hk:DCP P N PP ops rest (iZ E o.dst r.v) (r.W++H) (fun rs Fs E' H'=>K (r::rs) (True::Fs) E' H')):DCP P N PP ops (o::rest) E H K:=qR (.old trivial h) hd hk
theorem tW(PP:FT->aB->aB->Prop)(ts ids ks:List Nat)(hT:aEQ ts ops=true)(hm:P.follows .mixedOrders=true)
  (hP:∀ch E1 H1 H2,(∀t∈ts,E1.get t=E.get t)->Shp ids H H1->(∀id∈ks,H1.get id=H.get id)->PP ch H1 H2->Q (.panic ch) E1 H2)
  (h:DCP P N PP ops.toList ops.toList E H (fun rs Fs E' H'=>(F9 ops.toList rs=true/\aIo ids H rs=true/\aEP ks rs=true)/\(S6 Fs->Q .normal E' H'))):fL P G0 N (.region id ops true) Q E H:=by
 obtain ⟨rs,Fs,E',H',h1,⟨h2,h4,h5⟩,h3⟩:=h;exact aCM hm h1 h2 ids ks h4 h5 ts hT hP h3
end
section
abbrev aFX(G:Entry)(Q:AV->aB->Prop):Ending->World->Prop:=fun e w'=>∃r H' I' ι' v,e=.returned v/\Q r H'/\VRel w' I' ι' H' v r/\Rel I' ι' H' w'/\Step G.I G.ι G.H G.w I' ι' H' w'
def DWp(P:Program)(fn:Func)(G0:aB)(N:Nat)(Q:AV->aB->Prop)(c:Code)(E:bS)(H:aB):Prop :=∀G:Entry,G.H=G0->G.ds=[]->∀a w,St G N E H a w->c.wpIn Fence.wide 0 P (bodyPostM Fence.wide 0 P fn (aFX G Q)) a w
section
variable{fn:Func}{Q:AV->aB->Prop}
theorem wX{G:Entry}{e:Exit}{a:Act}{w:World}(hG:G.H=G0)(hd:G.ds=[])(h:HE P fn G0 Q e E H)(hs:St G N E H a w):bodyPostM Fence.wide 0 P fn (aFX G Q) e a w:=by
 obtain ⟨he,r,hres,r',H'',hfin,hq⟩:=h;have key:LeavesInM Fence.wide 0 P fn a.tmps (aFX G Q) a.defers .returning w:=by
  obtain ⟨I',ι',hr',hst',hE'⟩:=hs.rel;refine rU (hd▸hs.defers) hr' hst' hE' ?_;intro w2 hr2 hst2 hE2;obtain ⟨v,h1,h2⟩:=hres a w2 I' ι' hr2 hE2;obtain ⟨I2,ι2,k1,k2,k3⟩:=hfin G hG I' ι' w2 v hr2 hst2 h2;exact⟨v,h1,r',H'',I2,ι2,v,rfl,hq,k3,k1,k2⟩
 rcases he with rfl|rfl
 ·exact key
 exact key
theorem aA2{x y:Code}(h:fL P G0 N x (xA (fun E1 H1=>DWp P fn G0 N Q y E1 H1) (HE P fn G0 Q)) E H):DWp P fn G0 N Q (.seq x y) E H:=by
 intro G hG hd a w hs;refine wpIn_seq (wpIn_mono (h G hG a w hs none (.inl rfl)) ?_);rintro e a' w' ⟨E',H',hq,hs'⟩;cases e with
 |normal=>exact hq G hG hd a' w' hs'
 |exit id=>exact wX hG hd hq hs'
 |goto l=>exact wX hG hd hq hs'
 |ret=>exact wX hG hd hq hs'
 |panic ch=>exact wX hG hd hq hs'
 |outgrown=>exact wX hG hd hq hs'
theorem aH.bodyD{f:FuncId}{c:Code}{args:List AV}(hf:P.funcs[f]?=some fn)(hb:fn.body=some c)(hN:fn.ntmps=N)(hlen:args.length<=N)(h:DWp P fn H N Q c (kV args) H):aH P f args H Q:=by
 intro I ι w vs hr hl hv;refine callsIn_wide.1 (callsIn_of_wp_marks (F:=Fence.wide) (n:=0) hf hb trivial ?_);have hst:St ⟨I,ι,H,w,[]⟩ N (kV args) H {tmps:=vs++Array.replicate (fn.ntmps - vs.size) undef,defers:=[]} w:=by
  refine⟨pF.nil _ _ _,?_,I,ι,hr,Step.refl _ _ _ _,fun t a ht=>?_⟩
  ·simp;omega
  have ha:=sA ht;have hlt:t<vs.size:=by rw[hl];exact(aNz.1 ha).1
  have hu:vs[t]?=some vs[t]:=Array.getElem?_eq_getElem hlt;exact⟨vs[t],by rw[Array.getElem?_append_left hlt];exact hu,hv t _ a hu ha⟩
 exact h ⟨I,ι,H,w,[]⟩ rfl rfl _ w hst
end
def S7(P:Program)(F:FuncId)(args:List AV)(H:aB)(u:FrameMode)(K:aB->Prop):Prop :=∀(I:Nat->Prop) (ι:dX) (w:World) (vs:Array Value),Rel I ι H w->vs.size=args.length->(∀(i:Nat) (v:Value) (a:AV),vs[i]?=some v->args[i]?=some a->VRel w I ι H v a) ->
  CallsDIn Fence.wide 0 P F vs u w fun e u' w'=>∃v H' I' ι',e=.returned v/\settle u'=.returning/\K H'/\Rel I' ι' H' w'/\Step I ι H w I' ι' H' w'
def aAk(P:Program)(fn:Func)(G0 H0:aB)(F:FuncId)(cs:List AV)(Q:AV->aB->Prop)(e:Exit)(E:bS)(H:aB):Prop :=∃u E1 H1,((e=.normal\/e=.ret)/\u=.returning\/∃ch,e=.panic ch/\u=.panicking ch)/\cD H0 E H E1 H1 /\
  S7 P F cs H1 u fun H2=>∃r,(∀(a:Act) (w:World) (I:Nat->Prop) (ι:dX),Rel I ι H2 w->iB w I ι H2 E1 a->∃v,(results fn a.tmps).run P w=.ok v w/\VRel w I ι H2 v r)/\∃r' H3,Fin G0 H2 r H3 r'/\Q r' H3
section
variable{fn:Func}{Q:AV->aB->Prop}
theorem aBy{o1 o2:Oper}{rest:Code}{F:FuncId}{caps:Array Operand}{at_:Array TypeId}{d:Tmp}{cs:List AV}(hops:ops.toList=[o1,o2])(hg1:o1.guard=none)(hd1:o1.dst=some d)(hdN:Nat.blt d N=true)(ho1:o1.op=.makeFunc (.func F) #[] caps)
  (hg2:o2.guard=none) (hd2:o2.dst=none) (ho2:o2.op=.defer {callee:=.value (.tmp d),args:=#[],argTypes:=at_}) (hv:uZ E caps.toList=some cs)
  (hc:∀(args:Array Value) (w:World),(callFunc F args).run P w=.ok (.enter F args) w)
  (h:fL P H N rest (aAk P fn G0 H F cs Q) ((d,.clo F cs)::E) H):DWp P fn G0 N Q (.seq (.region id ops false) rest) E H:=by
 intro G hG hd a w hs;refine wpIn_seq (wpIn_region_list ?_);rw[hops];refine wpListIn_plain hg1 fun K1 hK1=>?_;refine hs.op (R:=fun r H'=>r=.clo F cs/\H'=H) (ro:=none) (by rw[hd1];exact hdN) (fO ho1 (kO hv)) ?_ (.inl rfl);rintro r H' a1 w1 ⟨rfl,rfl⟩ hs1;refine hK1 a1 w1 ?_;rw[hd1]at hs1;refine wpListIn_plain hg2 fun K2 hK2=>?_;refine Oper.wpW_in (ro:=none) (.inl rfl) ?_;obtain ⟨I1,ι1,hr1,hst1,he1⟩:=hs1.rel;obtain ⟨c1,hc1,hv1⟩:=he1 d _ (bS.get_cons_same _ _ _);have hev:a1.eval (.tmp d)=c1:=by simp[Act.eval,hc1]
 cases hv1 with
 | @clo _ us _ hl hh =>
  unfold Oper.wpW execOp;simp only[ho2,resolve,hev,Deferred.ofValue,Sem.run_bind,Sem.run_pure,Result.andThen_ok,Oper.uponW,hd2,Act.put];refine hK2 _ w1 ?_;show Exit.then _ _ .normal _ w1
  let dd:Deferred:={target:=.fn (.func F) us,args:=#[]++(#[]:Array Operand).map a1.eval}
  have hst2:St ⟨I1,ι1,H',w1,dd::a1.defers⟩ N ((d,.clo F cs)::E) H' {a1 with defers:=dd::a1.defers} w1 :=
   ⟨pF.nil _ _ _,hs1.size,I1,ι1,hr1,Step.refl _ _ _ _,he1⟩
  refine wpIn_mono (h ⟨I1,ι1,H',w1,dd::a1.defers⟩ rfl _ w1 hst2 none (.inl rfl)) ?_;rintro e a' w' ⟨E',H2,⟨u,E1,H1,hmode,hent,hdef⟩,hs2⟩;have hs3:=hent _ rfl N a' w' hs2;have key:u≠.run->LeavesInM Fence.wide 0 P fn a'.tmps (aFX G Q) a'.defers u w':=by
   intro hu;obtain ⟨I3,ι3,hr3,hst3,he3⟩:=hs3.rel;refine vD (G:=⟨I1,ι1,H',w1,dd::a1.defers⟩) hu hs3.defers hr3 hst3 he3 ?_;intro w4 hr4 hst4 he4;refine⟨hu,.inr ⟨(fun hx=>by cases hx),.func F,us,F,us,rfl,?_,fun _ _=>trivial,?_⟩⟩
   ·show (invoke (.fn (.func F) us) (#[]++(#[]:Array Operand).map a1.eval)).run P w4=_;simp only[invoke,Array.map_empty,Array.empty_append,hc]
   refine(hdef I3 ι3 w4 us hr4 (by simpa using hl) (fun i v b hv hb=>(hh i v b hv hb).mono hr1 hst4)).mono ?_;rintro e2 u' w5 ⟨v,H5,I5,ι5,rfl,hset,⟨r,hres,r',H6,hfin,hq⟩,hr5,hst5⟩;show LeavesInM Fence.wide 0 P fn a'.tmps (aFX G Q) a1.defers (settle u') w5;rw[hset];have hall:Step G.I G.ι G.H G.w I5 ι5 H5 w5:=(hst1.trans hst4).trans hst5;have hm1:pF [] G.w w5 a1.defers:=(hd▸hs1.defers).step hr1 (hst4.trans hst5);refine rU hm1 hr5 hall (fun t v ht=>let ⟨c,x1,x2⟩:=he4 t v ht;⟨c,x1,x2.mono hr4 hst5⟩) ?_;intro w7 hr7 hst7 he7;obtain ⟨v,h1,h2⟩:=hres a' w7 I5 ι5 hr7 he7;obtain ⟨I8,ι8,k1,k2,k3⟩:=hfin G hG I5 ι5 w7 v hr7 hst7 h2;exact⟨v,h1,r',H6,I8,ι8,v,rfl,hq,k3,k1,k2⟩
  rcases hmode with⟨rfl|rfl,rfl⟩|⟨ch,rfl,rfl⟩
  ·exact key (by simp)
  ·exact key (by simp)
  exact key (by simp)
end
end
end Go.Abs
namespace Go.Abs
open Go.Proofs
variable{ops:Array Oper}{K:bS->aB->Prop}{o:Oper}{R:AV->aB->Prop}{rest:List Oper}{d:Tmp}{v:AV}{H2 H:aB}{id:Nat}{x y:Code}{E:bS}
section
section
variable{P:Program}{G0:aB}{N:Nat}{Q:Exit->bS->aB->Prop}
def N9(P:Program)(G0:aB)(N:Nat)(c:Code)(Q:Exit->bS->aB->Prop)(E:bS)(H:aB):Prop :=∀G:Entry,G.H=G0->∀a w,St G N E H a w->c.wpIn (RF none) 0 P (fun e a' w'=>(∃E H,Q e E H/\St G N E H a' w')/\a'.defers=a.defers) a w
def ALN(P:Program)(G0:aB)(N:Nat)(ops:Array Oper)(K:bS->aB->Prop)(l:List Oper)(E:bS)(H:aB):Prop :=∀G:Entry,G.H=G0->∀a w,St G N E H a w->∀Q:Exit->Act->World->Prop,(∀E H a' w',K E H->St G N E H a' w'->a'.defers=a.defers->Q .normal a' w')->wpListIn (RF none) 0 P ops Q l a w
theorem BZ(h:K E H):ALN P G0 N ops K [] E H:=fun _ _ a w hs _ hq=>hq _ _ a w h hs rfl
theorem St.opN{G:Entry}{a:Act}{w:World}(hs:St G N E H a w)(hd:gY N o.dst=true)(h:ZH P N o E H R){K:Act->World->Prop}{Q:Exit->Act->World->Prop}
  (hk:∀r H' a' w',R r H'->St G N (iZ E o.dst r) H' a' w'->a'.defers=a.defers->K a' w'):o.wpIn (RF none) 0 P a w K Q:=by
 refine Oper.wpW_in (.inl rfl) ?_;obtain ⟨I,ι,hr,hst,he⟩:=hs.rel;refine h a w I ι trivial hs.size hr he K Q ?_;intro c w' I' ι' r H' hR hv hr' hs';refine hk r H' _ w' hR ⟨?_,?_,I',ι',hr',hst.trans hs',iB.put hr hs' he hv (by rw[hs.size];exact hd)⟩ (gC _ _ _)
 ·rw[gC];exact hs.defers.step hr hs'
 have:=hs.size;cases o.dst<;>simpa[Act.put]using this
theorem aI0(hg:o.guard=none)(hd:gY N o.dst=true)(h:ZH P N o E H R)(hk:∀r H',R r H'->ALN P G0 N ops K rest (iZ E o.dst r) H'):ALN P G0 N ops K (o::rest) E H:=by intro G hG a w hs Q hq;refine wpListIn_plain hg fun K' hK=>?_;exact hs.opN hd h fun r H' a' w' hR hs' hd'=>hK _ _ (hk r H' hR G hG a' w' hs' Q fun E H a'' w'' hKK hs'' hd''=>hq E H a'' w'' hKK hs'' (hd''.trans hd'))
theorem H8(hg:o.guard=none)(hd:o.dst=some d)(hn:Nat.blt d N=true)(h:cH P N o E H v H2)(hk:ALN P G0 N ops K rest ((d,v)::E) H2):ALN P G0 N ops K (o::rest) E H :=aI0 hg (by rw[hd];exact hn) h fun r H' ⟨e1,e2⟩=>by subst e1 e2;rw[hd];exact hk
theorem aFL(hg:o.guard=none)(hd:o.dst=none)(h:cH P N o E H v H2)(hk:ALN P G0 N ops K rest E H2):ALN P G0 N ops K (o::rest) E H :=aI0 hg (by rw[hd];rfl) h fun r H' ⟨e1,e2⟩=>by subst e1 e2;rw[hd];exact hk
theorem oG(h:ALN P G0 N ops (fun E H=>Q .normal E H) ops.toList E H):N9 P G0 N (.region id ops false) Q E H:=fun G hG a w hs =>
 wpIn_region_list (h G hG a w hs _ fun E H a' w' q s hd=>⟨⟨E,H,q,s⟩,hd⟩)
theorem FD(h:N9 P G0 N x (xA (N9 P G0 N y Q) Q) E H):N9 P G0 N (.seq x y) Q E H:=by intro G hG a w hs;refine wpIn_seq (wpIn_mono (h G hG a w hs) ?_);rintro e a' w' ⟨⟨E',H',q,s⟩,hd⟩;cases e<;>first|exact wpIn_mono (q G hG a' w' s) (fun e a w ⟨h1,h2⟩=>⟨h1,h2.trans hd⟩)|exact⟨⟨E',H',q,s⟩,hd⟩
theorem MN{c:Code}(h:N9 P G0 N c (FM id Q) E H):N9 P G0 N (.block id c) Q E H:=by
 intro G hG a w hs;refine wpIn_block (wpIn_mono (h G hG a w hs) ?_);rintro e a' w' ⟨⟨E',H',q,s⟩,hd⟩;cases e<;>try exact⟨⟨E',H',q,s⟩,hd⟩
 rename_i id';simp only[FM]at q;simp only[Exit.inBlock]
 split
 ·rename_i e1;subst e1;rw[kW]at q;exact⟨⟨E',H',q,s⟩,hd⟩
 rename_i e1;rw[jC e1]at q;exact⟨⟨E',H',q,s⟩,hd⟩
theorem G7{c:Operand}{b:Bool}(hc:aO E c=some (.pv (.bool b)))(h1:b=true->N9 P G0 N x Q E H)(h2:b=false->N9 P G0 N y Q E H):N9 P G0 N (.cond c x y) Q E H:=by intro G hG a w hs;obtain ⟨I,ι,hr,hst,he⟩:=hs.rel;have hb:a.eval c=.bool b:=(aI he hc).bool_inv;exact wpIn_cond_split hb (fun e=>h1 e G hG a w hs) (fun e=>h2 e G hG a w hs)
end
section
variable{P:Program}{fn:Func}{N:Nat}{F:FuncId}{args:List AV}{K:aB->Prop}
def aNT(H:aB)(K:aB->Prop)(e:Exit)(E':bS)(H':aB):Prop:=(e=.normal\/e=.ret)/\∃H2,Fin H H' (.tup []) H2 (.tup [])/\K H2
theorem FJ{c2:Code}{at_:Array TypeId}{u:FrameMode}{x:PV}{vx:Value}(hf:P.funcs[F]?=some fn)(hb:fn.body=some (.seq (.region id ops false) c2))(hN:fn.ntmps=N)(hlen:args.length<=N)(hr0:fn.results=#[])
  (hops:ops=#[o]) (hg:o.guard=none) (hd:o.dst=some d) (hdN:Nat.blt d N=true) (ho:o.op=.call {callee:=.builtin .recover,args:=#[],argTypes:=at_})
  (hx:∀(w:World) (I:Nat->Prop),PRep w I vx x) (hu:(u=.returning/\vx=.nilIface)\/(∃t,u=.panicking (ms t)/\vx=.iface t (.agg #[])))
  (h:N9 P H N c2 (aNT H K) ((d,.pv x)::kV args) H):S7 P F args H u K:=by
 intro I ι w vs hr hl hv;refine callsDIn_of_wpSIn hf hb trivial ?_;intro c₀ cs hmode;refine wpSIn_seq (wpSIn_region ?_);subst hops;have hst:St ⟨I,ι,H,w,[]⟩ N (kV args) H {tmps:=vs++Array.replicate (fn.ntmps - vs.size) undef,defers:=[]} w:=by
  refine⟨pF.nil _ _ _,?_,I,ι,hr,Step.refl _ _ _ _,fun t a ht=>?_⟩
  ·simp;omega
  have ha:=sA ht;have hlt:t<vs.size:=by rw[hl];exact(aNz.1 ha).1
  have hu:vs[t]?=some vs[t]:=Array.getElem?_eq_getElem hlt;exact⟨vs[t],by rw[Array.getElem?_append_left hlt];exact hu,hv t _ a hu ha⟩
 obtain ⟨a,ha⟩:∃a:Act,a={tmps:=vs++Array.replicate (fn.ntmps - vs.size) undef,defers:=[]}:=⟨_,rfl⟩;rw[<-ha]at hst |-;have hadef:a.defers=[]:=by rw[ha]
 have hst2:St ⟨I,ι,H,w,[]⟩ N ((d,.pv x)::kV args) H (a.put (some d) vx) w:=by
  obtain ⟨I1,ι1,k1,k2,k3⟩:=hst.rel;refine⟨by rw[gC];exact hst.defers,?_,I1,ι1,k1,k2,?_⟩
  ·have:=hst.size
   simpa[Act.put]using this
  exact iB.put (d:=some d) k1 (Step.refl _ _ _ _) k3 (.pv (hx _ _)) (by rw[hst.size];exact hdN)
 have rest:∀u',settle u'=.returning->c2.wpSIn Fence.wide 0 P (bodyPostS P fn c₀ cs fun e u' w'=>∃v H' I' ι',e=.returned v/\settle u'=.returning/\K H'/\Rel I' ι' H' w'/\Step I ι H w I' ι' H' w') (a.put (some d) vx) ({c₀ with mode:=u'}::cs) w:=by
  intro u' hset;refine wpSIn_of_wpIn rfl (wpIn_mono (h ⟨I,ι,H,w,[]⟩ rfl _ w hst2) ?_);rintro e a' w' ⟨⟨E',H',⟨he,H2,hfin,hK⟩,hs'⟩,hdf⟩;obtain ⟨I3,ι3,k1,k2,k3⟩:=hs'.rel;obtain ⟨I4,ι4,q1,q2,q3⟩:=hfin ⟨I,ι,H,w,[]⟩ rfl I3 ι3 w' (.tuple #[]) k1 k2 (.tup rfl (by simp));have hde:a'.defers=[]:=hdf.trans ((gC _ _ _).trans hadef);have key:a'.defers=[]/\∃u'',({c₀ with mode:=u'}::cs:List Frame)={c₀ with mode:=u''}::cs/\∃v,(results fn a'.tmps).run P w'=.ok v w'/\∃v0 H' I' ι',Ending.returned v=.returned v0/\settle u''=.returning/\K H'/\Rel I' ι' H' w'/\Step I ι H w I' ι' H' w' :=
   ⟨hde,u',rfl,.tuple #[],by simp[results,hr0],.tuple #[],H2,I4,ι4,rfl,hset,hK,q1,q2⟩
  rcases he with rfl|rfl
  ·exact key
  exact key
 have hex:(execOp a.eval o).run P w=.ok .recover w:=by
  simp[execOp,ho,resolve,invoke];rfl
 have hw:Region.wanted o (yielded #[o] a.tmps)=true:=by simp[Region.wanted,hg]
 show wpOpsSIn _ _ _ _ _ [0] _ _ _;unfold wpOpsSIn;simp only[List.getElem?_toArray,List.getElem?_cons_zero,hw,if_true,hex];refine⟨fun _ _=>trivial,?_⟩;rcases hu with⟨rfl,rfl⟩|⟨t,rfl,rfl⟩
 ·have hrec:recoverD (c₀::cs)=none:=by simp[recoverD,hmode]
  rw[hrec];have hc:({c₀ with mode:=.returning}:Frame)=c₀:=by rw[<-hmode]
  have:=rest .returning rfl;rw[hc]at this;rw[hd];exact this
 have hrec:recoverD (c₀::cs)=some (.iface t (.agg #[]),{c₀ with mode:=.panicking ({v:=.iface t (.agg #[]),recovered:=true}::[])}::cs):=by simp[recoverD,hmode]
 rw[hrec];rw[hd];exact rest (.panicking ({v:=.iface t (.agg #[]),recovered:=true}::[])) rfl
end
section
variable{P:Program}{N:Nat}{t t' T:TypeId}{x y:Operand}
theorem X5(ho:o.op=.binOp .eql t x (.const .nilIface) t')(ht:P.underlying t=some (.interface (P.methodsAt t)))(hx:aO E x=some (.pv GB)):cH P N o E H (.pv (.bool true)) H :=.of_run fun a w I ι _ he=>⟨.bool true,by
  have e1:a.eval x=.nilIface:=(aI he hx).sat_inv;have e2:a.eval (.const .nilIface)=.nilIface:=rfl;simp only[execOp,ho,e1,e2,eqGuard,Sem.run_bind,Sem.run_pure,Result.andThen_ok,run_eql_nil_nil _ _ ht,Bool.or_true,Bool.true_or,if_true,Bool.not_true,Bool.false_eq_true,if_false],.pv (.bool _)⟩
theorem X6{ps:List PV}{t2:TypeId}(ho:o.op=.binOp .eql t x (.const .nilIface) t')(ht:P.underlying t=some (.interface (P.methodsAt t)))(hx:aO E x=some (.pv (.ifa t2 ps))):cH P N o E H (.pv (.bool false)) H :=.of_run fun a w I ι _ he=>⟨.bool false,by
  obtain ⟨cs,e1,_⟩:=(aI he hx).ifa_inv;have e2:a.eval (.const .nilIface)=.nilIface:=rfl;simp only[execOp,ho,e1,e2,eqGuard,Sem.run_bind,Sem.run_pure,Result.andThen_ok,binOp,run_equal_held_nil _ _ _ _ ht];rfl,.pv (.bool _)⟩
abbrev aLC:PV:=.sat fun v=>∃b,v=.pointer (some ⟨b,0,none⟩)
theorem X8(ho:o.op=.alloc T)(hz:∀w,(zeroValue T).run P w=.ok (.agg #[]) w):cH P N o E H (.pv aLC) H:=by intro a w I ι _ _ hr he K Q hk;unfold Oper.wpW execOp;simp only[ho,Instr.alloc,hz,newVar,newRow,Sem.run_bind,run_newObj,Sem.run_pure,Result.andThen_ok];obtain ⟨h1,h2⟩:=Rel.newImm (w':={w with heap:=w.heap.push (.cells #[] T (0,0))}) (c:=#[]) (t:=T) hr rfl rfl rfl rfl;exact hk _ _ _ ι _ _ ⟨rfl,rfl⟩ (.pv (.sat rfl ⟨_,rfl⟩)) h1 h2
theorem X3(ho:o.op=.store T x y)(hx:aO E x=some (.pv aLC))(hy:aO E y=some (.agg []))(hs:∀w,(sizeOf T).run P w=.ok 0 w):cH P N o E H (.tup []) H:=by
 intro a w I ι _ _ hr he K Q hk;obtain ⟨b,e1⟩:=(aI he hx).sat_inv;have h2:=aI he hy;generalize hy2:a.eval y=v2 at h2;cases h2 with
 | @agg vs _ hl h1 hh =>
  have:vs=#[]:=Array.eq_empty_of_size_eq_zero (by simpa using hl);subst this;have hrun:(execOp a.eval o).run P w=.ok .skip w:=by
   simp only[execOp,ho,e1,hy2];simp[Instr.storeAt,Instr.sureAddr,storeVar,hs,Value.cells,storeCells]
  unfold Oper.wpW;rw[hrun];exact hk undef w I ι _ _ ⟨rfl,rfl⟩ (.tup rfl (by simp)) hr (Step.refl _ _ _ _)
end
theorem cD.toAny{G0 H':aB}{E':bS}(hE:∀t v,E'.get t=some v->E.get t=some v/\Clo H' v)(hH:∀id o',H'.get id=some o'->∃o,H.get id=some o/\jH o o'/\∀r∈o'.rows,∀a∈r,a=.any)(hG:∀id,(G0.get id).isSome=true->(H'.get id).isSome=true):cD G0 E H E' H':=by
 intro G hGe N a w hs;obtain ⟨I,ι,hr,hst,he⟩:=hs.rel;have hlen:∀ {o o':Ob},jH o o'->o'.rows.length=o.rows.length:=fun h=>by
  have:=congrArg List.length h.2.2.2
  simpa using this
 have hal:aAm H H':=fun j o' ho'=>by
  obtain ⟨o,h1,h2,_⟩:=hH j o' ho';exact⟨o,h1,h2.1.symm,h2.2.1.symm,h2.2.2.1.symm,(hlen h2).symm⟩
 refine⟨hs.defers,hs.size,I,ι,⟨hr.imm,fun id o' ho'=>?_,fun id id' o o' b c c' ho ho'=>?_,hr.glob⟩,?_,fun t v ht=>?_⟩
 ·obtain ⟨o,h1,h2,h3⟩:=hH id o' ho';refine(hr.obj id o h1).keepG h2.2.1 h2.2.2.1 (hlen h2) (fun y ts r' hy=>?_) rfl (fun _ _ _ _=>⟨rfl,fun h=>h⟩) (fun i r' hi=>?_)
  ·have:=h3 [.raw y ts] (by rw[hy];simp) (.raw y ts) (by simp);cases this
  have hlt:i<o.rows.length:=by rw[<-hlen h2];exact(aNz.1 hi).1
  refine⟨o.rows[i],aOA hlt,?_,fun k a a' _ ha' v _=>?_⟩
  ·have e:=congrArg (fun l:List Nat=>l[i]?) h2.2.2.2;simp only[aOP,hi,aOA hlt,Option.map_some,Option.some.injEq]at e;exact e.symm
  rw[h3 r' (aOF hi) a' (aOF ha')];exact .any v
 ·obtain ⟨q,h1,_⟩:=hH id o ho;obtain ⟨q',h1',_⟩:=hH id' o' ho';exact hr.inj id id' q q' b c c' h1 h1'
 ·refine {hst with own:=fun b ⟨id,o',cap,ho',hc⟩=>?_,objs:=fun id o ho=>?_}
  ·obtain ⟨o,h1,_⟩:=hH id o' ho';exact hst.own b ⟨id,o,cap,h1,hc⟩
  obtain ⟨o1,k1,k2,k3⟩:=hst.objs id o ho;obtain ⟨o',ho'⟩:=Option.isSome_iff_exists.1 (hG id (by rw[<-hGe,ho];rfl));obtain ⟨o2,h1,h2,_⟩:=hH id o' ho';rw[k1]at h1;cases h1;refine⟨o',ho',by rw[h2.1];exact k2,fun e=>?_⟩;obtain ⟨q1,q2,q3⟩:=k3 (by rw[<-h2.1];exact e);exact⟨q1,by rw[h2.2.1];exact q2,fun hz=>by rw[hlen h2];exact q3 hz⟩
 obtain ⟨h1,h2⟩:=hE t v ht;obtain ⟨c,hc,hv⟩:=he t v h1;exact⟨c,hc,hv.alike hal h2⟩
theorem aMf{P:Program}{fn:Func}{x y:ResultVar}{r s:AV}(hf:fn.results=#[x,y])(hx:IH P E H x r)(hy:IH P E H y s):
  ∀(a:Act) (w:World) (I:Nat->Prop) (ι:dX),Rel I ι H w->iB w I ι H E a->∃v,(results fn a.tmps).run P w=.ok v w/\VRel w I ι H v (.tup [r,s]):=fun a w I ι hr hE=>by
 obtain ⟨v,h1,h2⟩:=hx a w I ι hr hE;obtain ⟨u,h3,h4⟩:=hy a w I ι hr hE;refine⟨.tuple #[v,u],by rw[pV,hf];simp[h1,h3],.tup rfl ?_⟩;intro i c b hc hb
 match i with
 |0=>simp at hc hb;subst hc hb;exact h2
 |1=>simp at hc hb;subst hc hb;exact h4
 |i+2=>simp at hc
end
end Go.Abs
namespace Go.Proofs.YtmdicgjnmfolfaaGreatDoor
open Go.Proofs.Tryz
open Go.Abs
variable{f:FuncId}{xs:List AV}{K H1:aB}{l q:List UInt8}{o:Option (AV×List UInt8)}{v:AV}{s:ByteArray}{α:Type}{n:Int}
abbrev T6(l:List UInt8):Ob:=bx 1 84 [sv (ofL l)]
abbrev jX(l:List UInt8):aB:=[(980,T6 l)]
abbrev KI:AV:=.ref 980 0 0 0
abbrev CW:FT:=ms 81
theorem RE(l:List UInt8)(H:aB):∀r∈(T6 l).rows,∀a∈r,Clo H a:=by intro r hr a ha;simp only[T6,bx,aNy]at hr;subst hr;rw[aNy]at ha;subst ha;simp
theorem xO(l:List UInt8):dF (jX l):=dF.ofL ⟨RE l _,trivial⟩
def zY(f:FuncId)(xs:List AV)(K:aB)(l:List UInt8)(o:Option (AV×List UInt8)):Prop :=∀H1:aB,H1.get 980=some (T6 l)->Sub K H1->eH Tryz.prog f xs H1 (fun r H'=>∃p,o=some p/\r=p.1/\H'=jX p.2++H1) (fun ch H'=>o=none/\ch=CW/\∃q,H'=jX q++H1)
theorem zY.of(hK:dF (jX l++K))(hK9:K.get 980=none)(hx:∀a∈xs,Clo (jX l++K) a)
  (h:eH Tryz.prog f xs (jX l++K) (fun r H'=>∃p,o=some p/\r=p.1/\H'=jX p.2++K) (fun ch H'=>o=none/\ch=CW/\∃q,H'=jX q++K)):zY f xs K l o:=by
 intro H1 h1 h2;have hsub:Sub (jX l++K) H1:=fun id ob ho=>by
  rw[eX]at ho;by_cases e:980=id
  ·subst e;have:(jX l).get 980=some (T6 l):=rfl;rw[this]at ho;cases ho;exact h1
  have:(jX l).get id=none:=by simp[aB.get,jC e]
  rw[this]at ho;exact h2 id ob ho
 have hk:∀q id,(aB.get (jX q++K) id).isSome=true->((jX l++K).get id).isSome=true:=fun q id hi=>by
  rw[eX]at hi |-;by_cases e:980=id
  ·subst e;rfl
  have h1:∀q,(jX q).get id=none:=fun q=>by simp[aB.get,jC e]
  rw[h1]at hi |-;exact hi
 have hg:∀(q:List UInt8) (j:Nat),aB.get (jX q++H1) j=aB.get ((jX q++K)++H1) j:=fun q j=>by
  rw[List.append_assoc,eX,eX (jX q)];cases (jX q).get j with
  |some _=>rfl
  |none =>
   simp only;rw[eX];cases e:K.get j with
   |none=>rfl
   |some ob=>exact h2 j ob e
 refine(h.frame hsub hK hx (fun r H' ⟨p,_,_,hp⟩ id hi=>.inl (by subst hp;exact hk _ id hi)) (fun ch H' ⟨_,_,q,hq⟩ id hi=>.inl (by subst hq;exact hk _ id hi))).conv ?_ ?_
 ·rintro r H' ⟨K',⟨p,e1,e2,rfl⟩,rfl⟩;exact⟨_,hg _,p,e1,e2,rfl⟩
 rintro ch H' ⟨K',⟨e1,e2,q,rfl⟩,rfl⟩;exact⟨_,hg _,e1,e2,q,rfl⟩
theorem zY.yes(h:zY f xs K l (some (v,q)))(h1:H1.get 980=some (T6 l))(h2:Sub K H1):aH Tryz.prog f xs H1 (fun r H'=>r=v/\H'=jX q++H1) :=((h H1 h1 h2).mono (PP':=fun _ _=>False) (fun r H' ⟨p,e1,e2,e3⟩=>by cases e1;exact⟨e2,e3⟩) (fun ch H' ⟨e,_⟩=>by cases e)).calls (fun _ _ h=>h)
theorem zY.no(h:zY f xs K l none)(h1:H1.get 980=some (T6 l))(h2:Sub K H1):eH Tryz.prog f xs H1 (fun _ _=>False) (fun ch H'=>ch=CW/\∃q,H'=jX q++H1) :=(h H1 h1 h2).mono (fun r H' ⟨p,e1,_⟩=>by cases e1) (fun ch H' ⟨_,e2,e3⟩=>⟨e2,e3⟩)
theorem zY.tot(h:zY f xs K l o){d:AV}(hv:(o.getD (d,l))=(v,q))(h1:H1.get 980=some (T6 l))(h2:Sub K H1):
  eH Tryz.prog f xs H1 (fun r H'=>r=v/\H'=jX q++H1/\o.isSome=true) (fun ch H'=>o=none/\ch=CW/\∃q,H'=jX q++H1) :=
 (h H1 h1 h2).mono (fun r H' ⟨p,e1,e2,e3⟩=>by subst e1;cases hv;exact⟨e2,e3,rfl⟩) (fun ch H' h=>h)
theorem eK(H:aB):Sub [] H:=fun _ _ h=>by cases h
def zM(l:List UInt8):Option (AV×List UInt8):=(gW l).map fun p=>(sv p.1,p.2)
def vX(l:List UInt8):Option (AV×List UInt8):=(mS l).map fun p=>(iv p.1,p.2)
theorem vC(l:List UInt8)(hl:l.length<1000000000):zY 47 [KI] [] l (zM l):=by
 refine zY.of (xO l) rfl (by simp;rfl) ?_;have hls:(ofL l).size=l.length:=eF l;have hcl:=aJw l;have hcut:=fun H=>aJv (ofL l) H (by omega);rw[aH5]at hcut;have hat:=fun H=>aAc (ofL (TB l)) (by rw[eF];omega) H;have hrs:(ofL (TC l)).size=(TC l).length:=eF _;have hbad:CD l=(((!decide ((58:UInt8)∈l)||uY (ofL (TB l)))||decide (nC (ofL (TB l))<0))||decide (((TC l).length:Int)<nC (ofL (TB l)))):=rfl;have hN:nxN l=(nC (ofL (TB l))).toNat:=rfl;have hO:zM l=if CD l=true then none else some (sv (ofL ((TC l).take (nxN l))),(TC l).drop (nxN l)):=by rw[zM,gW];split<;>rfl
 rw[hO];obtain ⟨x,hx⟩:∃x,x=ofL (TB l):=⟨_,rfl⟩;obtain ⟨v,hv⟩:∃v,v=nC (ofL (TB l)):=⟨_,rfl⟩;obtain ⟨e,he⟩:∃e,e=uY (ofL (TB l)):=⟨_,rfl⟩;obtain ⟨o,ho⟩:∃o,o=decide ((58:UInt8)∈l):=⟨_,rfl⟩;obtain ⟨r,hr⟩:∃r,r=TC l:=⟨_,rfl⟩;simp only[<-hv,<-he,<-ho,<-hr]at hcut hat hbad hN hrs hcl |-;simp only[<-hx]at hcut hat hbad;clear hx hv he ho hr hO;refine eH.body func47 rfl ntmps47 (aOI rfl) ?_;refine Sr<|Dd aM<|Zz<|Sr<|Dd aG<|Dd zN<|Dd (bE aE8)<|Dd (bQ isAgg9)<|Dd (by exact aA rfl rfl call113 rfl (hcut _))<|Dd aG<|Dd eZ<|Dd eZ<|Dd eZ<|Dd aM<|Dd aM<|Dd aM<|Zz<|Sr<|Dd aG<|Dd (by exact aA rfl rfl vW rfl (hat _))<|Dd aG<|Dd eZ<|Dd eZ<|Dd aM<|Dd aM<|Zz<|Sq<|Sq ?_;refine bF (t:=37) (n:=19) (X:=CD l) ?_ ?_
 ·all_goals refine Dd aG ?_
  all_goals refine Dd mT<|Dm ?_
  all_goals refine Sp 24 (fun h24=>?_) fun h24=>?_
  all_goals(try(with_reducible contradiction))
  all_goals first|refine Fo<|Fo ?_|refine On aG<|On (by exact UI rfl nQ rfl) ?_
  all_goals refine Dd cN<|Dm ?_
  all_goals refine Sp 28 (fun h28=>?_) fun h28=>?_
  all_goals(try(with_reducible contradiction))
  all_goals first|refine Fo<|Fo ?_|refine On aG<|On cP ?_
  all_goals refine Dd cN<|Dm ?_
  all_goals refine Sp 32 (fun h32=>?_) fun h32=>?_
  all_goals(try(with_reducible contradiction))
  all_goals first|refine Fo<|Fo<|Fo<|Fo ?_|refine On aG<|On aG<|On (nF underlying9)<|On mN ?_
  all_goals refine Dd cN<|Zz ?_
  all_goals(exact⟨⟨_,rfl,by rw[hbad];first|(rw[h24];rfl)|(rw[h24,h28];rfl)|(rw[h24,h28,h32,<-hrs];rfl)⟩,rfl,rfl,rfl⟩)
 refine Cn ?_ ?_<;>intro hc1
 ·have hb:CD l=true:=hc1;rw[aNu hb];refine eW ?_;refine fU rfl rfl rfl (by exact F7 (fs:=#[]) (places:=#[]) (v0:=.agg []) (l0:=[]) (aps:=[]) (l:=[]) rfl vP aFO (.inl rfl) rfl (fun w=>by simp) rfl rfl) ?_;refine fU rfl rfl rfl (by exact D9 (ps:=[]) rfl (cL vP rfl) rfl) ?_;exact nD rfl rfl (O1 rfl rfl) (fun ch H' h=>by obtain ⟨rfl,rfl⟩:=h;exact A8 (H':=jX l) (Fin.wk (by simp) (Hb<|trivial) ⟨rfl,trivial⟩) ⟨rfl,rfl,l,rfl⟩)
 have hb:CD l=false:=hc1;rw[aNt (by rw[hb];decide)];have hb2:=hbad.symm.trans hb;simp only[aOR,aOD]at hb2;obtain ⟨u,rfl⟩:∃u:Nat,v=(u:Int):=⟨v.toNat,by omega⟩;rw[aOG]at hN;rw[hN];have hur:u<=r.length:=by omega
 have x1:(ofL r).extract 0 u=ofL (r.take u):=rG (by rw[iX,cO,cO,List.drop_zero,Nat.sub_zero]);have x2:(ofL r).extract u (ofL r).size=ofL (r.drop u):=rG (by rw[A2,cO,cO]);refine aF<|Sr<|Dd aG<|Dd aG<|Dd aG<|Dd (by exact cI (l:=u) (h:=(ofL r).size) rfl underlying9 rfl rfl rfl (by omega) (aOB _) x2)<|Dd zN<|Dd (bE aE8)<|Uu (kG sizeOf9)<|Zz<|Sr<|Dd aG<|Dd aG<|Dd (by exact cI (l:=0) (h:=u) rfl underlying9 rfl rfl rfl (aOM _) (by omega) x1)<|Dd aM<|Zz<|aE ?_;refine G9 ?_;refine dC (H':=(jX (r.drop u))) (.inr rfl) rfl (aW rfl) (Fin.wk (by(simp;done)) (Hb<|trivial) ⟨rfl,trivial⟩) ?_;exact⟨_,rfl,rfl,rfl⟩
theorem aH7(h:(58:UInt8)∈l):(TC l).length<l.length:=by rw[TC,aOK];have:=(List.dropWhile_sublist (l:=l) fun b=>!decide (b=58)).length_le;have:=List.length_pos_of_mem h;omega
theorem iO(h:gW l=some (s,q)):s.size+q.length<l.length:=by
 rw[gW]at h
 split at h
 ·cases h
 next hb =>
 have hb:CD l=false:=by simpa using hb
 simp only[CD,aOR,Bool.not_eq_false',aOD,aOC]at hb;have hlt:=aH7 hb.1.1.1;cases h;rw[eF,aOJ,aOK];omega
theorem gO{x:Int}(h:mS l=some (x,q)):q.length<l.length/\(-9223372036854775808<=x/\x<=9223372036854775807):=by
 rw[mS]at h;cases hO:gW l with
 |none=>rw[hO]at h;cases h
 |some p =>
  obtain ⟨s,r⟩:=p;rw[hO]at h;simp only at h
  split at h
  ·cases h
  cases h;have:=iO hO;exact⟨by omega,aCP s⟩
theorem kZ(l:List UInt8)(hl:l.length<1000000000):zY 48 [KI] [] l (vX l):=by
 refine zY.of (xO l) rfl (by simp;rfl) ?_;have hn:=vC l hl;have hlen:=fun s q=>iO (l:=l) (s:=s) (q:=q);have hA:zM l=(gW l).map fun p=>(sv p.1,p.2):=rfl;have hB:vX l=(match gW l with
  |none=>none
  |some (s,r)=>if uY s=true then none else some (iv (nC s),r)):=by
  rw[vX,mS];cases gW l with
  |none=>rfl
  |some p=>simp only;split<;>rfl
 rw[hB];rw[hA]at hn;obtain ⟨O,hO⟩:∃O,O=gW l:=⟨_,rfl⟩;rw[<-hO]at hn hlen |-;clear hO hA hB;refine eH.body func48 rfl ntmps48 (aOI rfl) ?_;refine Sr<|Dd aM<|Zz<|Sq ?_;rcases O with _|⟨s,q⟩
 ·have hn:zY 47 [KI] [] l none:=hn;refine eW ?_;refine fU rfl rfl rfl (by exact eP rfl rfl) ?_;exact nD rfl rfl (dB rfl rfl jZ rfl (hn.no rfl (eK _))) (fun ch H' h=>by obtain ⟨rfl,q,rfl⟩:=h;exact A8 (H':=jX q) (Fin.wk (by simp) (Hb<|trivial) ⟨rfl,trivial⟩) ⟨rfl,rfl,q,rfl⟩)
 have hn:zY 47 [KI] [] l (some (sv s,q)):=hn;have hlen:=hlen s q rfl;have hat:=fun H=>aAc s (by omega) H;obtain ⟨e,he⟩:∃e,e=uY s:=⟨_,rfl⟩;obtain ⟨v,hv⟩:∃v,v=nC s:=⟨_,rfl⟩;simp only[<-he,<-hv]at hat |-;clear he hv;refine Rg<|Dd aG<|Dd (by exact aA rfl rfl jZ rfl (hn.yes rfl (eK _)))<|Dd (by exact aA rfl rfl vW rfl (hat _))<|Dd aG<|Dd eZ<|Dd eZ<|Dd aM<|Dd aM<|Zz<|Sq<|Sr<|Dd aG<|Dd (by exact UI rfl nQ rfl)<|Zz ?_;refine Cn ?_ ?_<;>intro hc1
 ·have hb:e=true:=hc1;rw[aNu hb];refine eW ?_;refine fU rfl rfl rfl (by exact F7 (fs:=#[]) (places:=#[]) (v0:=.agg []) (l0:=[]) (aps:=[]) (l:=[]) rfl vP aFO (.inl rfl) rfl (fun w=>by simp) rfl rfl) ?_;refine fU rfl rfl rfl (by exact D9 (ps:=[]) rfl (cL vP rfl) rfl) ?_;exact nD rfl rfl (O1 rfl rfl) (fun ch H' h=>by obtain ⟨rfl,rfl⟩:=h;exact A8 (H':=jX q) (Fin.wk (by simp) (Hb<|trivial) ⟨rfl,trivial⟩) ⟨rfl,rfl,q,rfl⟩)
 have hb:e=false:=hc1;rw[aNt (by rw[hb];decide)];refine aF<|Sr<|Dd aG<|Dd aM<|Zz<|aE ?_;refine G9 ?_;refine dC (H':=(jX q)) (.inr rfl) rfl (aW rfl) (Fin.wk (by(simp;done)) (Hb<|trivial) ⟨rfl,trivial⟩) ?_;exact⟨_,rfl,rfl,rfl⟩
abbrev nxB:AV:=.bnd 47 [KI]
def YG(l:List UInt8):Option (AV×List UInt8):=(uF gW l).map fun p=>(.pv (aS p.1),p.2)
theorem UV(f:List UInt8->Option (α×List UInt8)){N k:Nat}{l':List UInt8}{A:List α}(hk:A.length=k)(hlt:k<N)(h:BO f N q=(BO f (N - k) l').map fun p=>(A++p.1,p.2)):
  BO f N q=match f l' with
   |none=>none
   |some (x,r)=>(BO f (N - (k+1)) r).map fun p=>((A++[x])++p.1,p.2):=by
 rw[h,show N - k=(N - (k+1))+1 by omega,BO];cases f l' with
 |none=>rfl
 | some p =>
  obtain ⟨x,r⟩:=p;simp only;cases BO f (N - (k+1)) r with
  |none=>rfl
  |some p2 =>
   obtain ⟨xs,q2⟩:=p2;simp
theorem aEI(h:mS l=none):YG l=none:=by rw[YG,uF,h];rfl
theorem aEH(h:mS l=some (n,q)):YG l=(BO gW n.toNat q).map fun p=>(.pv (aS p.1),p.2):=by rw[YG,uF,h]
theorem R0(l:List UInt8)(hl:l.length<1000000000):zY 49 [KI,nxB] [] l (YG l):=by
 refine zY.of (xO l) rfl (by simp;rfl) ?_;have hnu:=kZ l hl;have hnone:=aEI (l:=l);have hsome:=fun n q=>aEH (l:=l) (n:=n) (q:=q);have hlen:=fun n q=>gO (l:=l) (x:=n) (q:=q);rw[vX]at hnu;obtain ⟨O,hO⟩:∃O,O=mS l:=⟨_,rfl⟩;rw[<-hO]at hnu hnone hsome hlen;clear hO;refine eH.body func49 rfl ntmps49 (aOI rfl) ?_;refine Sr<|Dd aM<|Zz<|Sq ?_;rcases O with _|⟨n,q0⟩
 ·rw[hnone rfl];have hn:zY 48 [KI] [] l none:=hnu;refine eW ?_;refine fU rfl rfl rfl (by exact eP rfl rfl) ?_;exact nD rfl rfl (dB rfl rfl gH rfl (hn.no rfl (eK _))) (fun ch H' h=>by obtain ⟨rfl,q,rfl⟩:=h;exact A8 (H':=jX q) (Fin.wk (by simp) (Hb<|trivial) ⟨rfl,trivial⟩) ⟨rfl,rfl,q,rfl⟩)
 have hn:zY 48 [KI] [] l (some (iv n,q0)):=hnu;obtain ⟨hq0,hn0,hn1⟩:=hlen n q0 rfl;rw[hsome n q0 rfl];refine Rg<|Dd aG<|Dd (by exact aA rfl rfl gH rfl (hn.yes rfl (eK _)))<|Dd aM<|Zz<|Sr<|Dd (by exact eE (id:=905) (sz:=1) (ty:=9) rfl rfl rfl)<|Zz<|Sq<|Sr<|Dd aG<|Dd aG<|Zz<|aD ?_;refine iA (fun(l':List UInt8) (A:List ByteArray)=>([(0,KI),(1,nxB),(6,.osl 905 A.length 0 A.length),(9,iv n),(10,iv (A.length:Int))],(905,⟨A.length,1,9,bP A⟩)::jX l')) (fun l' A=>l'.length+A.length<l.length/\A.length<=n.toNat/\BO gW n.toNat q0=(BO gW (n.toNat - A.length) l').map fun p=>(A++p.1,p.2)) (fun l' A=>l'.length) q0 [] ⟨by rw[List.length_nil];omega,aOM _,by simp⟩ ?_ ?_
 ·exact(cD.wk (Ea<|Ea<|Ea<|Eb<|Eb<|trivial) (Hc (aU _ _)<|Hb<|trivial) ⟨rfl,trivial⟩)
 rintro l' A ⟨hl',hA,hR⟩;have hnx:=vC l' (by omega);have hxl:=fun s q=>iO (l:=l') (s:=s) (q:=q);have hmore:=fun h=>UV gW (k:=A.length) rfl h hR;rw[zM]at hnx;obtain ⟨X,hX⟩:∃X,X=gW l':=⟨_,rfl⟩;rw[<-hX]at hnx hxl hmore;clear hX;refine Sr<|Dd cP<|Zz<|Sq ?_;refine Cn ?_ ?_<;>intro hc1
 ·have hlt:A.length<n.toNat:=by have:=aNr hc1;omega
  have hm:=hmore hlt;clear hmore;refine aF<|Sq<|aD ?_;rcases X with _|⟨s,q⟩
  ·have hm:BO gW n.toNat q0=none:=hm;rw[hm];have hnx:zY 47 [KI] [] l' none:=hnx;refine eW ?_;refine fU rfl rfl rfl (by exact eP rfl rfl) ?_;refine fU rfl rfl rfl (by exact eP rfl rfl) ?_;exact nD rfl rfl (B9 rfl rfl jZ rfl (hnx.no rfl (eK _))) (fun ch H' h=>by obtain ⟨rfl,q,rfl⟩:=h;exact A8 (H':=jX q) (Fin.wk (by simp) (Hb<|trivial) ⟨rfl,trivial⟩) ⟨rfl,rfl,q,rfl⟩)
  have hm:BO gW n.toNat q0=(BO gW (n.toNat - (A.length+1)) q).map fun p=>((A++[s])++p.1,p.2):=hm;have hnx:zY 47 [KI] [] l' (some (sv s,q)):=hnx;have hxl:=hxl s q rfl;have hnl:(A++[s]).length=A.length+1:=by rw[aNw];rfl
  refine Rg<|Dd aG<|Dd aG<|Dd (by exact zU.opr (B9 rfl rfl jZ rfl (eH.of (hnx.yes rfl (eK _)))))<|Dd (by exact aQ [[.str s]] rfl bT rfl rfl rfl rfl rfl (by intro r hr;rw[aNy]at hr;subst hr;rfl))<|Dd (by exact cF (ps:=[[.str s]]) rfl bT CH rfl rfl rfl rfl rfl (cT _) rfl (by intro r hr;rw[aNy]at hr;subst hr;rfl) (m:=1) rfl (by omega) rfl (kX A s))<|Dd aM<|Zz<|Rg<|Dd (by exact bG rfl rfl rfl (show IntKind.i64.wrap ((A.length:Int)+1)=((A.length+1:Nat):Int)by rw[iY (by omega) (by omega)];omega))<|Dd aG<|Zz ?_;refine⟨q,A++[s],⟨by rw[hnl];omega,by rw[hnl];omega,by rw[hnl];exact hm⟩,by omega,?_⟩;dsimp only;rw[hnl];exact(cD.wk (Ea<|Ea<|Ea<|Eb<|Eb<|trivial) (Hc (aU _ _)<|Hb<|trivial) ⟨rfl,trivial⟩)
 have hge:n.toNat=A.length:=by have:=aNs hc1;omega
 have hR2:BO gW n.toNat q0=some (A,l'):=by rw[hR,hge,Nat.sub_self,BO];simp
 rw[hR2];refine aY<|Sr<|Dd aG<|Dd aM<|Zz<|aE ?_;refine G9 ?_;refine dC (H':=(jX l')) (.inr rfl) rfl (aW rfl) (Fin.fz (id:=905) (ob:=⟨A.length,1,9,bP A⟩) (r':=.pv (aS A)) (A.map encStr) rfl (dR _) (.osl (lS encStr _)) rfl ⟨⟨_,rfl,rfl⟩,(by(simp;done)),trivial⟩ ⟨rfl,trivial⟩) ?_;exact⟨_,rfl,rfl,rfl⟩
theorem RY{α:Type}(f:List UInt8->Option (α×List UInt8))(P:α->Prop)(b:Nat)(hf:∀l x q,l.length<=b->f l=some (x,q)->q.length<l.length/\P x):∀(n:Nat) (l:List UInt8) (xs:List α) (q:List UInt8),l.length<=b->BO f n l=some (xs,q)->q.length+xs.length<=l.length/\∀x∈xs,P x
 |0,l,xs,q,_,h=>by rw[BO]at h;cases h;simp
 | n+1,l,xs,q,hb,h=>by
  rw[BO]at h;cases hf':f l with
  |none=>rw[hf']at h;cases h
  | some p =>
   obtain ⟨x,r⟩:=p;obtain ⟨h1,h2⟩:=hf l x r hb hf';rw[hf']at h;simp only at h;cases hr:BO f n r with
   |none=>rw[hr]at h;cases h
   |some p2 =>
    obtain ⟨ys,q2⟩:=p2;rw[hr]at h;cases h;obtain ⟨k1,k2⟩:=RY f P b hf n r ys _ (by omega) hr;refine⟨by rw[aNx];omega,fun y hy=>?_⟩;rcases aOH.1 hy with rfl|hy
    ·exact h2
    exact k2 y hy
theorem uR{xs:List ByteArray}(h:uF gW l=some (xs,q)):q.length+xs.length<l.length/\∀x∈xs,x.size<=l.length:=by
 rw[uF]at h;cases hn:mS l with
 |none=>rw[hn]at h;cases h
 |some p =>
  obtain ⟨n,r⟩:=p;rw[hn]at h;have h1:=(gO hn).1;obtain ⟨k1,k2⟩:=RY gW (fun x=>x.size<=r.length) r.length (fun l x q hb hx=>by have:=iO hx;exact⟨by omega,by omega⟩) n.toNat r xs q (aOB _) h;exact⟨by omega,fun x hx=>Nat.le_trans (k2 x hx) (by omega)⟩
theorem aAE{p:Int×Int}(h:F5 l=some (p,q)):q.length<l.length/\(pZ p.1/\pZ p.2):=by
 rw[F5]at h;cases hn:mS l with
 |none=>rw[hn]at h;cases h
 | some z =>
  obtain ⟨x,r⟩:=z;rw[hn]at h;simp only at h;cases hm:mS r with
  |none=>rw[hm]at h;cases h
  |some z2 =>
   obtain ⟨y,r2⟩:=z2;rw[hm]at h;cases h;have h1:=gO hn;have h2:=gO hm;exact⟨by omega,h1.2,h2.2⟩
theorem aAN{xs:List (Int×Int)}(h:uF F5 l=some (xs,q)):q.length+xs.length<l.length/\∀x∈xs,pZ x.1/\pZ x.2:=by
 rw[uF]at h;cases hn:mS l with
 |none=>rw[hn]at h;cases h
 |some p =>
  obtain ⟨n,r⟩:=p;rw[hn]at h;have h1:=(gO hn).1;obtain ⟨k1,k2⟩:=RY F5 (fun x=>pZ x.1/\pZ x.2) r.length (fun l x q hb hx=>aAE hx) n.toNat r xs q (aOB _) h;exact⟨by omega,k2⟩
def slA(l:List UInt8):Option (AV×List UInt8):=(Q4 l).map fun p=>(av (gG p.1),p.2)
theorem Z8(l:List UInt8)(hl:l.length<1000000000):zY 51 [KI] [] l (slA l):=by
 refine zY.of (xO l) rfl (by simp;rfl) ?_;have hnu:=kZ l hl;have hli:=fun q (hq:q.length<1000000000)=>R0 q hq;have hs:slA l=(match mS l with
  |none=>none
  | some (i,r)=>match uF gW r with
   |none=>none
   |some (a,q)=>match uF gW q with
    |none=>none
    |some (b,p)=>some (.agg [iv i,.pv (aS a),.pv (aS b)],p)):=by
  rw[slA,Q4];cases mS l with
  |none=>rfl
  | some p =>
   obtain ⟨i,r⟩:=p;simp only;cases uF gW r with
   |none=>rfl
   |some p =>
    obtain ⟨a,q⟩:=p;simp only;cases uF gW q with
    |none=>rfl
    |some p=>rfl
 rw[hs];rw[vX]at hnu;have hlen:=fun n q=>gO (l:=l) (x:=n) (q:=q);obtain ⟨O,hO⟩:∃O,O=mS l:=⟨_,rfl⟩;rw[<-hO]at hnu hlen |-;clear hO hs;refine eH.body func51 rfl ntmps51 (aOI rfl) ?_;refine Sr<|Dd (by exact bM (id:=2) rfl WW rfl rfl)<|Zz<|Sq ?_;rcases O with _|⟨i,q1⟩
 ·have hn:zY 48 [KI] [] l none:=hnu;refine eW ?_;refine fU rfl rfl rfl (by exact eP rfl rfl) ?_;exact nD rfl rfl (dB rfl rfl gH rfl (hn.no rfl (eK _))) (fun ch H' h=>by obtain ⟨rfl,q,rfl⟩:=h;exact A8 (H':=jX q) (Fin.wk (by simp) (Hb<|trivial) ⟨rfl,trivial⟩) ⟨rfl,rfl,q,rfl⟩)
 have hn:zY 48 [KI] [] l (some (iv i,q1)):=hnu;have h1:=(hlen i q1 rfl).1;have hl1:=hli q1 (by omega);rw[YG]at hl1;have hlen2:=fun xs q=>uR (l:=q1) (xs:=xs) (q:=q);simp only;obtain ⟨O,hO⟩:∃O,O=uF gW q1:=⟨_,rfl⟩;rw[<-hO]at hl1 hlen2 |-;clear hO;rcases O with _|⟨a,q2⟩
 ·have hl1:zY 49 [KI,nxB] [] q1 none:=hl1;refine eW ?_;refine fU rfl rfl rfl (by exact eP rfl rfl) ?_;refine fU rfl rfl rfl (by exact aA rfl rfl gH rfl (hn.yes rfl (eK _))) ?_;refine fU rfl rfl rfl (by exact eP rfl rfl) ?_;refine fU rfl rfl rfl (by exact eP rfl rfl) ?_;refine fU rfl rfl rfl (by exact lX rfl rfl) ?_;exact nD rfl rfl (dB rfl rfl zQ rfl (hl1.no rfl (eK _))) (fun ch H' h=>by obtain ⟨rfl,q,rfl⟩:=h;exact A8 (H':=jX q) (Fin.wk (by simp) (Hb<|trivial) ⟨rfl,trivial⟩) ⟨rfl,rfl,q,rfl⟩)
 have hl1:zY 49 [KI,nxB] [] q1 (some (.pv (aS a),q2)):=hl1;have h2:=(hlen2 a q2 rfl).1;have hl2:=hli q2 (by omega);rw[YG]at hl2;have hlen3:=fun xs q=>uR (l:=q2) (xs:=xs) (q:=q);simp only;obtain ⟨O,hO⟩:∃O,O=uF gW q2:=⟨_,rfl⟩;rw[<-hO]at hl2 hlen3 |-;clear hO;rcases O with _|⟨b,q3⟩
 ·have hl2:zY 49 [KI,nxB] [] q2 none:=hl2;refine eW ?_;refine fU rfl rfl rfl (by exact eP rfl rfl) ?_;refine fU rfl rfl rfl (by exact aA rfl rfl gH rfl (hn.yes rfl (eK _))) ?_;refine fU rfl rfl rfl (by exact eP rfl rfl) ?_;refine fU rfl rfl rfl (by exact eP rfl rfl) ?_;refine fU rfl rfl rfl (by exact lX rfl rfl) ?_;refine fU rfl rfl rfl (by exact aA rfl rfl zQ rfl (hl1.yes rfl (eK _))) ?_;refine fU rfl rfl rfl (by exact eP rfl rfl) ?_;refine fU rfl rfl rfl (by exact eP rfl rfl) ?_;refine fU rfl rfl rfl (by exact lX rfl rfl) ?_;exact nD rfl rfl (dB rfl rfl zQ rfl (hl2.no rfl (eK _))) (fun ch H' h=>by obtain ⟨rfl,q,rfl⟩:=h;exact A8 (H':=jX q) (Fin.wk (by simp) (Hb<|trivial) ⟨rfl,trivial⟩) ⟨rfl,rfl,q,rfl⟩)
 have hl2:zY 49 [KI,nxB] [] q2 (some (.pv (aS b),q3)):=hl2;refine Rg<|Dd aG<|Dd (by exact aA rfl rfl gH rfl (hn.yes rfl (eK _)))<|Dd aG<|Dd aG<|Dd (by exact lX rfl rfl)<|Dd (by exact aA rfl rfl zQ rfl (hl1.yes rfl (eK _)))<|Dd aG<|Dd aG<|Dd (by exact lX rfl rfl)<|Dd (by exact aA rfl rfl zQ rfl (hl2.yes rfl (eK _)))<|Dd (wV aHk)<|Uu (kG sizeOf25)<|Zz<|aE ?_;refine G9 ?_;refine dC (H':=(jX q3)) (.inr rfl) rfl (fF rfl eA sizeOf25 rfl rfl rfl (by simp only[Zl,encStr];rfl) rfl) (Fin.wk (by simp[MV]) (Hb<|trivial) ⟨rfl,trivial⟩) ?_;exact⟨_,rfl,rfl,rfl⟩
abbrev inO:Ob:=bx 1 82 [KI]
abbrev inH:aB:=[(4,inO)]
theorem aAV{H:aB}(h:(H.get 980).isSome=true):∀r∈inO.rows,∀a∈r,Clo H a:=by intro r hr a ha;simp only[inO,bx,aNy]at hr;subst hr;rw[aNy]at ha;subst ha;rw[qE];exact h
theorem LI(l:List UInt8):dF (jX l++inH):=dF.ofL ⟨RE l _,aAV rfl,trivial⟩
def ptA(l:List UInt8):Option (AV×List UInt8):=(F5 l).map fun p=>(av (gB p.1),p.2)
theorem aD9(l:List UInt8)(hl:l.length<1000000000):zY 53 [.ref 4 0 0 0] inH l (ptA l):=by
 refine zY.of (LI l) rfl (by simp;rfl) ?_;have hnu:=kZ l hl;have hnu2:=fun q (hq:q.length<1000000000)=>kZ q hq;have hlen:=fun n q=>gO (l:=l) (x:=n) (q:=q);have hs:ptA l=(match mS l with
  |none=>none
  |some (x,r)=>match mS r with
   |none=>none
   |some (y,q)=>some (.agg [iv x,iv y],q)):=by
  rw[ptA,F5];cases mS l with
  |none=>rfl
  |some p =>
   obtain ⟨i,r⟩:=p;simp only;cases mS r with
   |none=>rfl
   |some p=>rfl
 obtain ⟨x,q1,hx⟩:∃x q1,(mS l).getD (0,l)=(x,q1):=⟨_,_,rfl⟩;obtain ⟨y,q2,hy⟩:∃y q2,(mS q1).getD (0,q1)=(y,q2):=⟨_,_,rfl⟩;have hq1:q1.length<=l.length:=by
  cases e:mS l with
  |none=>rw[e]at hx;cases hx;exact aOB _
  |some p=>rw[e]at hx;cases hx;exact Nat.le_of_lt (hlen _ _ e).1
 have hx2:(vX l).getD (iv 0,l)=(iv x,q1):=by
  rw[vX];cases e:mS l with
  |none=>rw[e]at hx;cases hx;rfl
  |some p=>rw[e]at hx;cases hx;rfl
 have hy2:(vX q1).getD (iv 0,q1)=(iv y,q2):=by
  rw[vX];cases e:mS q1 with
  |none=>rw[e]at hy;cases hy;rfl
  |some p=>rw[e]at hy;cases hy;rfl
 have hA1:vX l=none->ptA l=none:=fun e=>by
  rw[vX,Option.map_eq_none_iff]at e;rw[hs,e]
 have hA2:(vX l).isSome=true->vX q1=none->ptA l=none:=fun e e2=>by
  rw[vX,Option.map_eq_none_iff]at e2;cases e3:mS l with
  |none=>rw[vX,e3]at e;cases e
  |some p =>
   rw[e3]at hx;cases hx;rw[hs,e3];simp only;rw[e2]
 have hA3:(vX l).isSome=true->(vX q1).isSome=true->ptA l=some (.agg [iv x,iv y],q2):=fun e e2=>by
  cases e3:mS l with
  |none=>rw[vX,e3]at e;cases e
  |some p =>
   rw[e3]at hx;cases hx;rw[hs,e3];simp only;cases e4:mS q1 with
   |none=>rw[vX,e4]at e2;cases e2
   |some p=>rw[e4]at hy;cases hy;rfl
 have hA4:vX q1=none->ptA l=none:=fun e=>by
  cases h:vX l with
  |none=>exact hA1 h
  |some p=>exact hA2 (by rw[h];rfl) e
 clear hs hA2;refine eH.body func53 rfl ntmps53 (aOI rfl) ?_;refine Sr<|Dd (by exact bM (id:=1) rfl aK5 rfl rfl)<|Zz<|Sq ?_;refine tW (fun ch H1 H2=>ptA l=none/\ch=CW/\∃q,H2=jX q++H1) [] [] [4] rfl follows (fun ch E1 H1 H2 hts hsh hks ⟨e,e2,q,e3⟩=>by subst e3;have h4:aB.get (jX q++H1) 4=some inO:=(hks 4 (aNy.2 rfl)).trans rfl;exact A8 (H':=jX q++inH) (Fin.wk (by simp) ⟨⟨_,rfl,rfl⟩,RE _ _,⟨_,h4,rfl⟩,aAV rfl,trivial⟩ ⟨rfl,h4.symm,trivial⟩) ⟨e,e2,q,rfl⟩) ?_;refine bY (r:=⟨_,some [4],[]⟩) (DStep.plain rfl (fun H1 hH=>by exact(by exact aK rfl cX rfl ((hH _ rfl).trans rfl) rfl rfl rfl))) rfl ?_;refine qR (r:=⟨_,some [980],jX q1⟩) (.pan rfl (fun H1 hH=>by exact dB rfl rfl gH rfl ((hnu.tot hx2 ((hH 980 rfl).trans rfl) (eK _)).mono (fun _ _ h=>h) (fun ch H' ⟨e,e2,e3⟩=>⟨hA1 e,e2,e3⟩)))) rfl ?_;refine bY (r:=⟨_,some [4],[]⟩) (DStep.plain rfl (fun H1 hH=>by exact(by exact aK rfl cX rfl ((hH _ rfl).trans rfl) rfl rfl rfl))) rfl ?_;refine qR (r:=⟨_,some [980],jX q2⟩) (.pan rfl (fun H1 hH=>by exact dB rfl rfl gH rfl (((hnu2 q1 (by omega)).tot hy2 ((hH 980 rfl).trans rfl) (eK _)).mono (fun _ _ h=>h) (fun ch H' ⟨e,e2,e3⟩=>⟨hA4 e,e2,e3⟩)))) rfl ?_;refine bY (r:=⟨_,some [],[]⟩) (DStep.plain rfl (fun H1 hH=>by exact IL rfl aEy rfl rfl)) rfl ?_;refine bY (r:=⟨_,some [1],[_]⟩) (DStep.plain rfl (fun H1 hH=>by exact(by exact bX rfl sizeOf68 rfl rfl rfl rfl ((hH _ rfl).trans rfl) rfl rfl rfl))) rfl ?_;refine E7 ⟨⟨by kernel_rfl,by kernel_rfl,by kernel_rfl⟩,fun hF=>?_⟩;simp only[S6,true_and,and_true]at hF;refine aE ?_;refine G9 ?_;refine dC (H':=(jX q2++inH)) (.inr rfl) rfl (fF rfl dZ sizeOf68 rfl rfl rfl (by simp only[Zl,encStr];rfl) rfl) (Fin.wk (by simp[MV]) (Hb<|Ha<|trivial) ⟨rfl,rfl,trivial⟩) ?_;exact⟨_,hA3 hF.1 hF.2,rfl,rfl⟩
abbrev ptB:AV:=.clo 53 [.ref 4 0 0 0]
def xR(A:List (Int×Int)):List (List AV):=(A.map gB).map (·.map AV.pv)
theorem XQ(A:List (Int×Int)):(xR A).length=A.length:=by simp[xR]
theorem XR(A:List (Int×Int))(p:Int×Int):xR A++[(gB p).map AV.pv]=xR (A++[p]):=by rw[xR,xR,List.map_append,List.map_append];rfl
theorem KL(A:List (Int×Int))(H:aB):∀r∈xR A,∀a∈r,Clo H a:=aHc _ _ _
def R2(l:List UInt8):Option (AV×List UInt8):=(uF F5 l).map fun p=>(.pv (qJ p.1),p.2)
theorem aBg(h:mS l=none):R2 l=none:=by rw[R2,uF,h];rfl
theorem aBf(h:mS l=some (n,q)):R2 l=(BO F5 n.toNat q).map fun p=>(.pv (qJ p.1),p.2):=by rw[R2,uF,h]
theorem aHA(l:List UInt8)(hl:l.length<1000000000):zY 52 [KI,ptB] inH l (R2 l):=by
 refine zY.of (LI l) rfl (by simp;exact⟨rfl,rfl⟩) ?_;have hnu:=kZ l hl;have hnone:=aBg (l:=l);have hsome:=fun n q=>aBf (l:=l) (n:=n) (q:=q);have hlen:=fun n q=>gO (l:=l) (x:=n) (q:=q);rw[vX]at hnu;obtain ⟨O,hO⟩:∃O,O=mS l:=⟨_,rfl⟩;rw[<-hO]at hnu hnone hsome hlen;clear hO;refine eH.body func52 rfl ntmps52 (aOI rfl) ?_;refine Sr<|Dd aM<|Zz<|Sq ?_;rcases O with _|⟨n,q0⟩
 ·rw[hnone rfl];have hn:zY 48 [KI] [] l none:=hnu;refine eW ?_;refine fU rfl rfl rfl (by exact eP rfl rfl) ?_;exact nD rfl rfl (dB rfl rfl gH rfl (hn.no rfl (eK _))) (fun ch H' h=>by obtain ⟨rfl,q,rfl⟩:=h;exact A8 (H':=jX q++inH) (Fin.wk (by simp) (Hb<|Ha<|trivial) ⟨rfl,rfl,trivial⟩) ⟨rfl,rfl,q,rfl⟩)
 have hn:zY 48 [KI] [] l (some (iv n,q0)):=hnu;obtain ⟨hq0,hn0,hn1⟩:=hlen n q0 rfl;rw[hsome n q0 rfl];refine Rg<|Dd aG<|Dd (by exact aA rfl rfl gH rfl (hn.yes rfl (eK _)))<|Dd aM<|Zz<|Sr<|Dd (by exact eE (id:=905) (sz:=2) (ty:=68) rfl rfl rfl)<|Zz<|Sq<|Sr<|Dd aG<|Dd aG<|Zz<|aD ?_;refine iA (fun(l':List UInt8) (A:List (Int×Int))=>([(0,KI),(1,ptB),(6,.osl 905 A.length 0 A.length),(9,iv n),(10,iv (A.length:Int))],(905,⟨A.length,2,68,xR A⟩)::(jX l'++inH))) (fun l' A=>l'.length+A.length<l.length/\A.length<=n.toNat/\BO F5 n.toNat q0=(BO F5 (n.toNat - A.length) l').map fun p=>(A++p.1,p.2)) (fun l' A=>l'.length) q0 [] ⟨by rw[List.length_nil];omega,aOM _,by simp⟩ ?_ ?_
 ·exact(cD.wk (Ea<|Ea<|Ea<|Eb<|Eb<|trivial) (Hc (KL _ _)<|Hb<|Ha<|trivial) ⟨rfl,rfl,trivial⟩)
 rintro l' A ⟨hl',hA,hR⟩;have hnx:=aD9 l' (by omega);have hxl:=fun s q=>aAE (l:=l') (p:=s) (q:=q);have hmore:=fun h=>UV F5 (k:=A.length) rfl h hR;rw[ptA]at hnx;obtain ⟨X,hX⟩:∃X,X=F5 l':=⟨_,rfl⟩;rw[<-hX]at hnx hxl hmore;clear hX;refine Sr<|Dd cP<|Zz<|Sq ?_;refine Cn ?_ ?_<;>intro hc1
 ·have hlt:A.length<n.toNat:=by have:=aNr hc1;omega
  have hm:=hmore hlt;clear hmore;refine aF<|Sq<|aD ?_;rcases X with _|⟨s,q⟩
  ·have hm:BO F5 n.toNat q0=none:=hm;rw[hm];have hnx:zY 53 [.ref 4 0 0 0] inH l' none:=hnx;refine eW ?_;refine fU rfl rfl rfl (by exact eP rfl rfl) ?_;refine fU rfl rfl rfl (by exact eP rfl rfl) ?_;exact nD rfl rfl (B8 rfl rfl call53 rfl (hnx.no rfl (NA.sub ⟨rfl,trivial⟩))) (fun ch H' h=>by obtain ⟨rfl,q,rfl⟩:=h;exact A8 (H':=jX q++inH) (Fin.wk (by simp) (Hb<|Ha<|trivial) ⟨rfl,rfl,trivial⟩) ⟨rfl,rfl,q,rfl⟩)
  have hm:BO F5 n.toNat q0=(BO F5 (n.toNat - (A.length+1)) q).map fun p=>((A++[s])++p.1,p.2):=hm;have hnx:zY 53 [.ref 4 0 0 0] inH l' (some (av (gB s),q)):=hnx;have hxl:=hxl s q rfl;have hnl:(A++[s]).length=A.length+1:=by rw[aNw];rfl
  refine Rg<|Dd aG<|Dd aG<|Dd (by exact zU.opr (B8 rfl rfl call53 rfl (eH.of (hnx.yes rfl (NA.sub ⟨rfl,trivial⟩)))))<|Dd (by exact aQ [gB s] rfl TT rfl rfl rfl rfl rfl (by intro r hr;rw[aNy]at hr;subst hr;rfl))<|Dd (by exact cF (ps:=[gB s]) rfl TT aND rfl rfl rfl rfl rfl (XQ _) rfl (by intro r hr;rw[aNy]at hr;subst hr;rfl) (m:=1) rfl (by omega) rfl (XR A s))<|Dd aM<|Zz<|Rg<|Dd (by exact bG rfl rfl rfl (show IntKind.i64.wrap ((A.length:Int)+1)=((A.length+1:Nat):Int)by rw[iY (by omega) (by omega)];omega))<|Dd aG<|Zz ?_;refine⟨q,A++[s],⟨by rw[hnl];omega,by rw[hnl];omega,by rw[hnl];exact hm⟩,by omega,?_⟩;dsimp only;rw[hnl];exact(cD.wk (Ea<|Ea<|Ea<|Eb<|Eb<|trivial) (Hc (KL _ _)<|Hb<|Ha<|trivial) ⟨rfl,rfl,trivial⟩)
 have hge:n.toNat=A.length:=by have:=aNs hc1;omega
 have hR2:BO F5 n.toNat q0=some (A,l'):=by rw[hR,hge,Nat.sub_self,BO];simp
 rw[hR2];refine aY<|Sr<|Dd aG<|Dd aM<|Zz<|aE ?_;refine G9 ?_;refine dC (H':=(jX l'++inH)) (.inr rfl) rfl (aW rfl) (Fin.fz (id:=905) (ob:=⟨A.length,2,68,xR A⟩) (r':=.pv (qJ A)) (A.map gB) rfl rfl (.osl (lS gB _)) rfl ⟨⟨_,rfl,rfl⟩,(by(simp;done)),⟨_,rfl,rfl⟩,(by(simp;rfl)),trivial⟩ ⟨rfl,rfl,trivial⟩) ?_;exact⟨_,rfl,rfl,rfl⟩
def yY(h i:Int):Bool:=((decide (h<0)||decide (8<h))||decide (i<0))||decide (((2 ^ h.toNat:Nat):Int)<=i)
def zS:GSeal:=⟨0,[],[]⟩
def sW(s:ByteArray)(h i:Int)(m:ByteArray):GSeal×Int:=if yY h i=true then(zS,1)else(⟨i,B1 s i.toNat m,gV h.toNat (fG s h.toNat) i.toNat⟩,0)
theorem aBG(s m:ByteArray)(h i:Int)(H:aB)(hb:yY h i=true):aH Tryz.prog 32 [sv s,iv h,iv i,sv m] H (fun r H'=>r=.tup [av (gG zS),iv 1]/\H'=H):=by
 refine Pu ?_;have hsh:decide (h<0)=false->decide (8<h)=false->IntKind.i64.wrap (1*2 ^ h.toNat)=((2 ^ h.toNat:Nat):Int):=fun h1 h2=>by
  have h1:=aNs h1;have h2:=aNs h2;obtain ⟨n,rfl⟩:∃n:Nat,h=(n:Int):=⟨h.toNat,by omega⟩;rw[aOG];have:=aGG (h:=n) (by omega)
  rwa [aOG]at this
 have hbe:yY h i=(((decide (h<0)||decide (8<h))||decide (i<0))||decide (((2 ^ h.toNat:Nat):Int)<=i)):=rfl;refine Bd func32 rfl ntmps32<|Sr<|Dd (by exact cE (id:=4) rfl rfl rfl rfl rfl)<|Dd (by exact cE (id:=6) rfl rfl rfl rfl rfl)<|Dd (by exact bM (id:=8) rfl WW rfl rfl)<|Dd aM<|Zz<|Sq<|Sq ?_;refine pS (t:=30) (n:=16) (X:=yY h i) ?_ ?_
 ·cases hg17:(decide (h<0):Bool)
  ·cases hg21:(decide (8<h):Bool)
   ·cases hg25:(decide (i<0):Bool)
    ·refine aP follows<|Cq aG<|Cq cP<|Cq aG<|Nf aG<|Nf mN<|Cq zA<|Cq aG<|Nf (bQ isAgg3)<|Nf cP<|Cq zA<|Cq aG<|Nf (bQ isAgg3)<|Nf aG<|Nf (by exact D7 rfl rfl rfl (by have:=aNs hg17;omega) (by have:=aNs hg21;simp[IntKind.bits];omega) (hsh hg17 hg21))<|Nf LN<|Cq zA<|bK<|Kr ?_;exact⟨rfl,⟨_,rfl,by(rw[hbe,hg17,hg21,hg25];rfl)⟩,rfl,rfl,rfl⟩
    refine aP follows<|Cq aG<|Cq cP<|Cq aG<|Nf aG<|Nf mN<|Cq zA<|Cq aG<|Nf (bQ isAgg3)<|Nf cP<|Cq zA<|Cq aG<|Of<|Of<|Of<|Of<|Cq NE<|bK<|Kr ?_;exact⟨rfl,⟨_,rfl,by(rw[hbe,hg17,hg21,hg25];rfl)⟩,rfl,rfl,rfl⟩
   refine aP follows<|Cq aG<|Cq cP<|Cq aG<|Nf aG<|Nf mN<|Cq zA<|Cq aG<|Of<|Of<|Cq NE<|Cq aG<|Of<|Of<|Of<|Of<|Cq cN<|bK<|Kr ?_;exact⟨rfl,⟨_,rfl,by(rw[hbe,hg17,hg21];rfl)⟩,rfl,rfl,rfl⟩
  refine aP follows<|Cq aG<|Cq cP<|Cq aG<|Of<|Of<|Cq NE<|Cq aG<|Of<|Of<|Cq cN<|Cq aG<|Of<|Of<|Of<|Of<|Cq cN<|bK<|Kr ?_;exact⟨rfl,⟨_,rfl,by(rw[hbe,hg17];rfl)⟩,rfl,rfl,rfl⟩
 refine Cn ?_ ?_<;>intro hc1
 ·refine Sr<|Dd (wV aHk)<|Uu (kG sizeOf25)<|Dd aM<|Zz<|aE ?_;refine tX (H':=[]) (.inr rfl) rfl (fF rfl eA sizeOf25 rfl rfl rfl (by simp only[Zl,encStr];rfl) rfl) (aW rfl) (Fin.wk (by simp[gG]) trivial trivial) ?_;exact Qq
 rw[hb]at hc1;cases hc1
theorem FZ(s m:ByteArray)(h i:Int)(H:aB)(hs:s.size<1099511627776)(hm:m.size<1099511627776):aH Tryz.prog 32 [sv s,iv h,iv i,sv m] H (fun r H'=>r=.tup [av (gG (sW s h i m).1),iv (sW s h i m).2]/\H'=H):=by
 rw[sW];by_cases hb:yY h i=true
 ·rw[aNu hb];exact aBG s m h i H hb
 rw[aNt hb];have hb:yY h i=false:=by simpa using hb
 simp only[yY,aOR,aOD]at hb;obtain ⟨⟨⟨h1,h2⟩,h3⟩,h4⟩:=hb;obtain ⟨n,rfl⟩:∃n:Nat,h=(n:Int):=⟨h.toNat,by omega⟩;obtain ⟨k,rfl⟩:∃k:Nat,i=(k:Int):=⟨i.toNat,by omega⟩;rw[aOG]at h4 |-;rw[aOG];exact aGF s m n k H hs hm (by omega) (by omega)
theorem pJ{m:ByteArray}{h i:Int}(h1:(sW s h i m).2=0):FSeal (sW s h i m).1/\(sW s h i m).1=⟨i,B1 s i.toNat m,gV h.toNat (fG s h.toNat) i.toNat⟩/\(0<=h/\h<=8)/\0<=i/\i<2 ^ h.toNat:=by
 rw[sW]at h1 |-
 split at h1
 ·cases h1
 next hb =>
 rw[aNt hb];have hb:yY h i=false:=by simpa using hb
 simp only[yY,aOR,aOD]at hb;obtain ⟨⟨⟨h1,h2⟩,h3⟩,h4⟩:=hb;have h5:i<2 ^ h.toNat:=by
  have:(((2 ^ h.toNat:Nat):Int))=2 ^ h.toNat:=by push_cast;rfl
  omega
 have hlt:i.toNat<2 ^ h.toNat:=by omega
 have h8:2 ^ h.toNat<=256:=nE (by omega);exact⟨⟨by show 0<=i;omega,by show i<256;omega,by rw[DX];exact aOB _,by rw[sJ];omega,TW _ _ _,BH _ _ _ (mH _ _) hlt (sL _ _)⟩,rfl,⟨by omega,by omega⟩,by omega,h5⟩
def zR:GRec:=⟨0,0,0,0,sNil,[],[],sNil,false,0,sNil,zS,⟨sNil,sNil,[],[],zS⟩⟩
def zX(r:GRec):GRec:={r with sl:=zS,priv:={r.priv with sl:=zS}}
def zB(r:GRec):GRec×Int:=if(oK r).2≠0 then(zR,(oK r).2)else(r,0)
def mk1(r:GRec)(a:GSeal):GRec:={r with sl:=a,priv:={r.priv with sl:=zS}}
def UT(r:GRec)(a b:GSeal):GRec:={r with sl:=a,priv:={r.priv with sl:=b}}
def EN(r:GRec)(s:ByteArray)(h:Int):GRec×Int :=if eD (zX r)=false then(zR,1)
 else if(sW s h (2*r.number - 2) (pA (zX r))).2≠0 then(zR,(sW s h (2*r.number - 2) (pA (zX r))).2)
 else if gD r.priv=true then zB (mk1 r (sW s h (2*r.number - 2) (pA (zX r))).1)
 else if(sW s h (2*r.number - 1) (rB (zX r))).2≠0 then(zR,(sW s h (2*r.number - 1) (rB (zX r))).2)
 else zB (UT r (sW s h (2*r.number - 2) (pA (zX r))).1 (sW s h (2*r.number - 1) (rB (zX r))).1)
theorem kK{s:GSeal}(h:FSeal s):qY s:=by have i0:=h.i0;have i1:=h.i1;have l1:=h.sl;have l2:=h.pl;exact⟨⟨by omega,by omega⟩,⟨by omega,fun t ht=>by have:=pY (h.sa t ht);omega⟩,⟨by omega,fun t ht=>by have:=pY (h.pa t ht);omega⟩⟩
theorem okZ:qY zS:=kK (jB (by decide))
theorem X9{r:GRec}{a b:GSeal}(h:iT r)(ha:qY a)(hb:qY b):iT (UT r a b):=by obtain ⟨h1,h2,h3,h4,_,p1,p2,p3,p4,_⟩:=h;exact⟨h1,h2,h3,h4,ha,p1,p2,p3,p4,hb⟩
theorem aEA(r:GRec)(s:ByteArray)(h:Int)(hr:iT r)(hp:r.parents.length<549755813888)(hs:s.size<1099511627776)(H:aB):aH Tryz.prog 23 [av (bU r),sv s,iv h] H (fun x H'=>x=.tup [av (bU (EN r s h).1),iv (EN r s h).2]/\H'=H):=by
 refine aH.pure ?_ (by simp[bU]) H;have hr0:iT (zX r):=X9 hr okZ okZ;have hv:=fun H=>IN (zX r) hr0 hp H;have hid:=fun H=>PT (zX r) hr0 hp H;have hem:=fun H=>aA1 (mk1 r zS).priv hr0.2.2.2.2.2 H;rw[EN];refine Bd func23 rfl ntmps23<|Sr<|Dd (by exact cE (id:=3) rfl rfl rfl rfl rfl)<|Dd (by exact bM (id:=6) rfl M8 rfl rfl)<|Dd aM<|Zz<|Sr<|Dd (wV aHk)<|Dd (wV aHk)<|Dd (bE kM)<|Uu (by exact mF rfl sizeOf25 rfl rfl rfl rfl rfl rfl rfl (aOI rfl) rfl rfl)<|Dd (bE fJ)<|Dd (bE oV)<|Uu (by exact mF rfl sizeOf25 rfl rfl rfl rfl rfl rfl rfl (aOI rfl) rfl rfl)<|Zz<|Sq<|Sr<|Dd (rC bH aR)<|Dd (by exact aA rfl rfl aFe rfl (hv _))<|Dd mT<|Zz ?_;refine Cn ?_ ?_<;>intro hc1
 ·have hb:=not_not hc1;rw[aNu hb];refine Sr<|Dd (wV WC)<|Uu (kG aR)<|Dd aM<|Zz<|aE ?_;refine tX (H':=[]) (.inr rfl) rfl (fF rfl bH aR rfl rfl rfl (by simp only[Zl,encStr];rfl) rfl) (aW rfl) (Fin.wk (by simp[bU]) trivial trivial) ?_;exact Qq
 have hb:=BL hc1;rw[aNt (by rw[hb];decide)];have hf:=oI hb;have hnu:=hf.nu;have hnr:(zX r).number=r.number:=rfl;rw[hnr]at hnu;have hme:=fun H=>PG (zX r) hr0 hp hb H;have hms:(rB (zX r)).size=16:=eR _;have his:=ER (zX r);obtain ⟨i0,hi0⟩:∃i0,i0=pA (zX r):=⟨_,rfl⟩;obtain ⟨m0,hm0⟩:∃m0,m0=rB (zX r):=⟨_,rfl⟩;rw[<-hi0]at hid his |-;rw[<-hm0]at hme hms |-;have hs1:=fun H=>FZ s i0 h (2*r.number - 2) H hs (by omega);have hs2:=fun H=>FZ s m0 h (2*r.number - 1) H hs (by omega);have ho1:=pJ (s:=s) (m:=i0) (h:=h) (i:=2*r.number - 2);have ho2:=pJ (s:=s) (m:=m0) (h:=h) (i:=2*r.number - 1);obtain ⟨A,hA⟩:∃A,A=sW s h (2*r.number - 2) i0:=⟨_,rfl⟩;obtain ⟨B,hB⟩:∃B,B=sW s h (2*r.number - 1) m0:=⟨_,rfl⟩;rw[<-hA]at hs1 ho1 |-;rw[<-hB]at hs2 ho2 |-;clear hA hB;refine aF<|Sq<|aP follows<|Cq (rC bH aR)<|Cq (by exact aA rfl rfl zT rfl (hid _))<|Cq (rC bH aR)<|Cq (by exact aA rfl rfl call82 rfl (hme _))<|Cq aM<|Cq aM<|bK<|Kr<|Sr<|Dd aM<|Zz<|Sq<|Sr<|Dd aG<|Dd aG<|Dd (bE pN)<|Dd (bQ isAgg3)<|Dd (by exact lH rfl rfl rfl (iY (by omega) (by omega)))<|Dd (by exact dN rfl rfl rfl (iY (by omega) (by omega)))<|Dd aG<|Dd (by exact aA rfl rfl aNg rfl (hs1 _))<|Dd aG<|Dd eZ<|Dd eZ<|Dd (bE kM)<|Uu (by exact mF rfl sizeOf25 rfl rfl rfl rfl rfl rfl rfl (aOI rfl) rfl rfl)<|Dd aM<|Zz<|Sr<|Dd aG<|Dd zW<|Zz ?_;refine Cn ?_ ?_<;>intro hc2
 ·have hne:A.2≠0:=by have:=hc2;intro e;rw[e]at this;exact absurd this (by decide)
  rw[aNu hne];refine Sr<|Dd (wV WC)<|Dd aG<|Uu (kG aR)<|Dd aM<|Zz<|aE ?_;refine tX (H':=[]) (.inr rfl) rfl (fF rfl bH aR rfl rfl rfl (by simp only[Zl,encStr];rfl) rfl) (aW rfl) (Fin.wk (by simp[bU]) trivial trivial) ?_;exact Qq
 have heq:A.2=0:=by have:=hc2;by_cases e:A.2=0;exact e;rw[decide_eq_false e]at this;cases this
 rw[aNt (by rw[heq];decide)];have ho1:=(ho1 heq).1;obtain ⟨X,hX⟩:∃X,X=(if gD r.priv=true then zB (mk1 r A.1)else if B.2≠0 then(zR,B.2)else zB (UT r A.1 B.1)):=⟨_,rfl⟩;rw[<-hX];have hX1:gD r.priv=true->X=zB (UT r A.1 zS):=fun e=>by rw[hX,aNu e];rfl
 have hX2:gD r.priv=false->B.2≠0->X=(zR,B.2):=fun e e2=>by rw[hX,aNt (by rw[e];decide),aNu e2]
 have hX3:gD r.priv=false->B.2=0->X=zB (UT r A.1 B.1):=fun e e2=>by rw[hX,aNt (by rw[e];decide),aNt (by rw[e2];decide)]
 have hee:gD (mk1 r zS).priv=gD r.priv:=rfl;rw[hee]at hem;clear hX;obtain ⟨em,hemE⟩:∃em,em=gD r.priv:=⟨_,rfl⟩;rw[<-hemE]at hem hX1 hX2 hX3;refine aF ?_;refine DE (fun(b:GSeal)=>([(3,.ref 3 0 0 0),(6,.ref 6 0 0 0)],[(6,bx 21 30 ((bU zR).map .pv)),(3,bx 21 30 ((bU (UT r A.1 b)).map .pv))])) (fun b=>qY b/\X=zB (UT r A.1 b)) ?_ ?_
 ·refine Sr<|Dd (bE fJ)<|Dd (rC lO sizeOf28)<|Dd (by exact aA rfl rfl S1 rfl (hem _))<|Dd mT<|Zz ?_;refine Cn ?_ ?_<;>intro hc3
  ·have he:=not_not hc3;refine Sr<|Dd aG<|Dd aG<|Dd (bE pN)<|Dd (bQ isAgg3)<|Dd (by exact lH rfl rfl rfl (iY (by omega) (by omega)))<|Dd (by exact dN rfl rfl rfl (iY (by omega) (by omega)))<|Dd aG<|Dd (by exact aA rfl rfl aNg rfl (hs2 _))<|Dd aG<|Dd eZ<|Dd eZ<|Dd (bE fJ)<|Dd (bE oV)<|Uu (by exact mF rfl sizeOf25 rfl rfl rfl rfl rfl rfl rfl (aOI rfl) rfl rfl)<|Dd aM<|Zz<|Sr<|Dd aG<|Dd zW<|Zz ?_;refine Cn ?_ ?_<;>intro hc4
   ·have hne:B.2≠0:=by have:=hc4;intro e;rw[e]at this;exact absurd this (by decide)
    rw[hX2 he hne];refine Sr<|Dd (wV WC)<|Dd aG<|Uu (kG aR)<|Dd aM<|Zz<|aE ?_;refine tX (H':=[]) (.inr rfl) rfl (fF rfl bH aR rfl rfl rfl (by simp only[Zl,encStr];rfl) rfl) (aW rfl) (Fin.wk (by simp[bU]) trivial trivial) ?_;exact Qq
   have heq:B.2=0:=by have:=hc4;by_cases e:B.2=0;exact e;rw[decide_eq_false e]at this;cases this
   refine aF ?_;exact⟨B.1,⟨kK (ho2 heq).1,hX3 he heq⟩,Wk⟩
  have he:=BL hc3;refine aF ?_;exact⟨zS,⟨okZ,hX1 he⟩,Wk⟩
 rintro b ⟨hb2,hX2⟩;rw[hX2,zB];have htx:=fun H=>QW (UT r A.1 b) (X9 hr (kK ho1) hb2) hp H;obtain ⟨T,hT⟩:∃T,T=oK (UT r A.1 b):=⟨_,rfl⟩;rw[<-hT]at htx |-;refine Sq<|Sr<|Dd (rC bH aR)<|Dd (by exact aA rfl rfl aNi rfl (htx _))<|Dd aG<|Dd eZ<|Dd eZ<|Dd aM<|Dd aM<|Zz<|Sr<|Dd aG<|Dd zW<|Zz ?_;refine Cn ?_ ?_<;>intro hc5
 ·have hne:T.2≠0:=by have:=hc5;intro e;rw[e]at this;exact absurd this (by decide)
  rw[aNu hne];refine Sr<|Dd (wV WC)<|Dd aG<|Uu (kG aR)<|Dd aM<|Zz<|aE ?_;refine tX (H':=[]) (.inr rfl) rfl (fF rfl bH aR rfl rfl rfl (by simp only[Zl,encStr];rfl) rfl) (aW rfl) (Fin.wk (by simp[bU]) trivial trivial) ?_;exact Qq
 have heq:T.2=0:=by have:=hc5;by_cases e:T.2=0;exact e;rw[decide_eq_false e]at this;cases this
 rw[aNt (by rw[heq];decide)];refine aF<|Sr<|Dd (rC bH aR)<|Uu (kG aR)<|Dd aM<|Zz<|aE ?_;refine tX (H':=[]) (.inr rfl) rfl (fF rfl bH aR rfl rfl rfl (by simp only[Zl,encStr];rfl) rfl) (aW rfl) (Fin.wk (by simp[bU]) trivial trivial) ?_;exact Qq
abbrev eOJ(e:Int):Ob:=bx 1 41 [iv e]
abbrev rOJ(x:GRec):Ob:=bx 21 30 ((bU x).map .pv)
abbrev XX(x:GRec)(e:Int):aB:=[(3,eOJ e),(2,rOJ x)]
abbrev eAJ:Ob:=bx 1 41 [.any]
abbrev rAJ:Ob:=bx 21 30 [.any,.any,.any,.any,.any,.any,.any,.any,.any,.any,.any,.any,.any,.any,.any,.any,.any,.any,.any,.any,.any]
abbrev pAJ:aB:=[(3,eAJ),(2,rAJ)]
abbrev dcJ:List AV:=[.ref 2 0 0 0,.ref 3 0 0 0]
theorem aIz(x:GRec)(e:Int):S7 Tryz.prog 46 dcJ (XX x e) .returning (fun H2=>H2=XX x e):=by
 refine FJ (x:=GB) (vx:=.nilIface) func46 rfl ntmps46 (aOI rfl) rfl rfl rfl rfl rfl rfl (fun w I=>.sat rfl rfl) (.inl ⟨rfl,rfl⟩) ?_;refine MN ?_;refine FD ?_;refine oG ?_;refine H8 rfl rfl rfl (by exact X5 rfl FS rfl) ?_;refine BZ ?_;refine G7 rfl (fun hc1=>?_) (fun hc1=>?_)
 ·refine oG ?_;refine H8 rfl rfl rfl (by exact tE rfl rfl) ?_;refine BZ ?_;exact⟨.inl rfl,XX x e,Fin.wk (by simp) (Hb<|Hb<|trivial) ⟨rfl,rfl,trivial⟩,rfl⟩
 cases hc1
theorem aJA:S7 Tryz.prog 46 dcJ pAJ (.panicking CW) (fun H2=>H2=XX zR 5):=by
 refine FJ (x:=.ifa 81 []) (vx:=.iface 81 (.agg #[])) func46 rfl ntmps46 (aOI rfl) rfl rfl rfl rfl rfl rfl (fun w I=>.ifa _ _ _ rfl (by simp)) (.inr ⟨_,rfl,rfl⟩) ?_;refine MN ?_;refine FD ?_;refine oG ?_;refine H8 rfl rfl rfl (by exact X6 rfl FS rfl) ?_;refine BZ ?_;refine G7 rfl (fun hc1=>?_) (fun hc1=>?_)
 ·cases hc1
 refine FD ?_;refine oG ?_;refine H8 rfl rfl rfl (by exact KN rfl (cL vP rfl) rfl) ?_;refine H8 rfl rfl rfl (by exact qN rfl rfl rfl) ?_;refine H8 rfl rfl rfl (by exact qN rfl rfl rfl) ?_;refine BZ ?_;refine G7 rfl (fun hc2=>?_) (fun hc2=>?_)
 ·refine FD ?_;refine oG ?_;refine H8 rfl rfl rfl (by exact X8 rfl aFO) ?_;refine aFL rfl rfl (by exact X3 rfl rfl rfl sizeOf81) ?_;refine BZ ?_;refine oG ?_;refine H8 rfl rfl rfl (by exact IL rfl WC rfl rfl) ?_;refine aFL rfl rfl (by exact bX rfl aR rfl rfl rfl rfl rfl rfl rfl rfl) ?_;refine aFL rfl rfl (by exact bX rfl sizeOf41 rfl rfl rfl rfl rfl rfl rfl rfl) ?_;refine BZ ?_;exact⟨.inl rfl,XX zR 5,Fin.wk (by simp) (Hb<|Hb<|trivial) ⟨rfl,rfl,trivial⟩,rfl⟩
 cases hc2
theorem aJ9(s:ByteArray)(hs:s.size<1099511627776)(hok:(hY s).2.1=0):aH Tryz.prog 157 [sv s] [] (fun r H'=>r=.tup [.osl 905 (hY s).1.length 0 (hY s).1.length,iv 0,iv (hY s).2.2]/\H'=[(905,⟨(hY s).1.length,3,187,jI (hY s).1⟩)]):=by
 refine Bd func157 rfl ntmps157<|Sr<|Dd (by exact bM (id:=2) rfl aHz rfl rfl)<|Dd (by exact bM (id:=3) rfl aI8 rfl rfl)<|Dd (by exact bM (id:=4) rfl zo3 rfl rfl)<|Zz<|Sq<|Sr<|Dd aG<|Dd (nF underlying9)<|Dd mN<|Zz ?_;refine Cn ?_ ?_<;>intro hc1
 ·have e:hY s=([],2,-1):=by rw[hY,aNu (by have:=aNr hc1;omega)]
  rw[e]at hok;exact absurd hok (by decide)
 have hsz:¬ 20000<s.size:=by have:=aNs hc1;omega
 obtain ⟨ds,hds⟩:∃ds,ds=mC s (s.size+1) 0:=⟨_,rfl⟩;have hg:hY s=lD [] ds:=by rw[hY,aNt hsz,hds]
 refine aF<|Sr<|Dd (by exact bM (id:=5) rfl aCa rfl rfl)<|Zz<|Sq<|Sr<|Dd aG<|Dd (by exact aA rfl rfl call197 rfl (TL s _ rfl rfl rfl (dF.ofL ⟨(by(simp;done)),(by(simp;done)),(by(simp;done)),(by(simp;done)),trivial⟩)))<|Zz<|aD ?_;refine fL.ent (E':=[(2,.ref 2 0 0 0),(3,.ref 3 0 0 0),(4,.ref 4 0 0 0),(5,.ref 5 0 0 0),(11,.clo 237 [.ref 921 0 0 0,.ref 924 0 0 0])]) (H':=[(905,⟨0,3,187,[]⟩),(5,bx 1 182 [.osl 905 0 0 0]),(924,tA),(923,tC),(921,tS s),(4,bx 1 3 [iv 0]),(3,bx 1 41 [iv 0]),(2,bx 1 182 [.pv (.sl [])])]) ?_ ?_
 ·exact(cD.nz 905 3 187 rfl rfl ⟨⟨_,rfl,(by exact Nz.same (by(simp;rfl)))⟩,⟨_,rfl,(by exact Nz.same (by(simp;rfl)))⟩,⟨_,rfl,(by exact Nz.same (by(simp;rfl)))⟩,⟨_,rfl,(by exact Nz.same (by(simp;rfl)))⟩,⟨_,rfl,(by exact Nz.same (by(simp;exact⟨rfl,rfl⟩)))⟩,trivial⟩ ⟨⟨_,rfl,rfl,rfl,rfl,(by exact .inr ⟨_,_,rfl,rfl,(by repeat(first|exact trivial|refine⟨(by exact Nz.own),?_⟩))⟩)⟩,⟨_,rfl,rfl,rfl,rfl,(by exact .inl ⟨rfl,(by exact oM rfl rfl)⟩)⟩,⟨_,rfl,rfl,rfl,rfl,(by exact .inl ⟨rfl,(by exact gN _)⟩)⟩,⟨_,rfl,rfl,rfl,rfl,(by exact .inl ⟨rfl,(by exact oL _ _)⟩)⟩,⟨_,rfl,rfl,rfl,rfl,(by exact .inl ⟨rfl,(by(simp;done))⟩)⟩,⟨_,rfl,rfl,rfl,rfl,(by exact .inl ⟨rfl,(by(simp;done))⟩)⟩,⟨_,rfl,rfl,rfl,rfl,(by exact .inl ⟨rfl,(by(simp;done))⟩)⟩,trivial⟩ trivial)
 have hdl:ds.length<=s.size+1:=by rw[hds];exact AD s _ _
 obtain ⟨j,hj⟩:∃j,j=uE (oS ds) ds.length 0:=⟨_,rfl⟩;have hj1:j<=ds.length:=by have:=(DZ (oS ds) ds.length 0).2;omega
 have hj2:∀k,k<j->oS ds k=true:=fun k hk=>D1 (oS ds) ds.length 0 k (aOM _) (by rw[<-hj];exact hk);have hj3:j<ds.length->oS ds j=false:=fun h=>by have:=wB (oS ds) ds.length 0 (by omega);rwa [<-hj]at this
 have hrun:=GH hj1 hj2;refine BX (id:=904) (p:=12) qP rfl call237 rfl rfl (by simp[qP];exact⟨rfl,rfl,rfl,rfl⟩) ?_;intro x hx1 hx2 hx3 hx4 hx5 hx6;have hround:∀(k:Nat) (d:GFound),ds[k]?=some d->k<=j ->
   cK Tryz.prog (.yld 904 0) [.agg ((E5 d).map .pv)] ((904,LR x qP)::(926,tF d)::kL s (ds.take k) (.pv (.sl [])) 0 0) (fun r H'=>r=bv (oS ds k)/\H'=(if oS ds k then(904,LR x qP)::(926,tF d)::kL s (ds.take (k+1)) (.pv (.sl [])) 0 0 else(904,LR (left x .ret) qP)::(926,tF d)::kL s (ds.take k) (.pv (.sl [])) (if d.err≠0 then d.err else 2) d.pos)):=by
  intro k d hd hkj;have hok:=EJ hd;have hkl:k<ds.length:=(aNz.1 hd).1;have htl:(ds.take k).length=k:=by rw[aOJ];omega
  have hnx:ds.take (k+1)=ds.take k++[d]:=by rw[List.take_add_one,hd];rfl
  refine .inl ⟨904,0,rfl,?_⟩;refine QR [(2,.ref 2 0 0 0),(3,.ref 3 0 0 0),(4,.ref 4 0 0 0),(5,.ref 5 0 0 0),(6,.ref 907 0 0 0)] ((907,tF d)::(926,tF d)::kL s (ds.take k) (.pv (.sl [])) 0 0) hx1 hx2 hx3 hx4 hx5 hx6 rfl rfl rfl ?_ ?_
  ·refine Rg<|Dd (by exact bM (id:=907) rfl aCb rfl rfl)<|Uu (kG DM)<|Zz ?_;exact(cD.wk (Ea<|Ea<|Ea<|Ea<|Ea<|trivial) (Hc (jW (by simp[qP];exact⟨rfl,rfl,rfl,rfl⟩))<|Hc (vA _ _)<|Hc (vA _ _)<|Hc (bZ _ _)<|Ha<|Hc (oM rfl rfl)<|Hc (gN _)<|Hc (oL _ _)<|Hb<|Hb<|Hb<|trivial) ⟨rfl,rfl,rfl,rfl,rfl,rfl,rfl,rfl,rfl,rfl,trivial⟩)
  refine aD<|Sq<|aD<|Sr<|Dd (bE oW)<|Dd (bQ jS)<|Dd zW<|Da ?_;refine Cn ?_ ?_<;>intro hc2
  ·have he:d.err≠0:=by have h:=hc2;rw[aOO,aOD]at h;exact h
   have h0:oS ds k=false:=by rw[hok,decide_eq_false he];rfl
   rw[h0,aNt (by decide),aNu he];refine Sq<|aP follows<|Cr [907] (fun _ h=>fh oW h)<|Cr [907] (fun _ h=>lh jS h)<|Cr [907] (fun _ h=>fh lJ h)<|Cr [907] (fun _ h=>fh JF h)<|Cr [907] (fun _ h=>lh isAgg3 h)<|Cp [2] (fun H1 hH=>by exact bX rfl kP rfl rfl rfl rfl ((hH _ rfl).trans rfl) rfl rfl rfl)<|Cp [3] (fun H1 hH=>by exact bX rfl sizeOf41 rfl rfl rfl rfl ((hH _ rfl).trans rfl) rfl rfl rfl)<|Cp [4] (fun H1 hH=>by exact bX rfl sizeOf3 rfl rfl rfl rfl ((hH _ rfl).trans rfl) rfl rfl rfl)<|bK<|Kr<|aE ?_;exact⟨(926,tF d)::kL s (ds.take k) (.pv (.sl [])) d.err d.pos,(cD.wk trivial (Hc (jW (by simp[qP];exact⟨rfl,rfl,rfl,rfl⟩))<|Hc (vA _ _)<|Hc (bZ _ _)<|Ha<|Hc (oM rfl rfl)<|Hc (gN _)<|Hc (oL _ _)<|Hb<|Hb<|Hb<|trivial) ⟨rfl,rfl,rfl,rfl,rfl,rfl,rfl,rfl,rfl,rfl,trivial⟩),rfl,rfl⟩
  have he:d.err=0:=by have h:=hc2;rw[Bool.not_eq_false',aOC]at h;exact h
  refine Sr<|Dd (bQ jY)<|Dd (by exact eB rfl gE rfl rfl rfl)<|Dd dK<|Da ?_;refine Cn ?_ ?_<;>intro hc3
  ·have hk5:k=5000:=by have:=aNr hc3;omega
   have h0:oS ds k=false:=by rw[hok,decide_eq_true he,decide_eq_true hk5];rfl
   rw[h0,aNt (by decide),aNt (fun h=>h he)];refine Sq<|aP follows<|Cr [907] (fun _ h=>fh lJ h)<|Cr [907] (fun _ h=>fh JF h)<|Cr [907] (fun _ h=>lh isAgg3 h)<|Cp [2] (fun H1 hH=>by exact bX rfl kP rfl rfl rfl rfl ((hH _ rfl).trans rfl) rfl rfl rfl)<|Cp [3] (fun H1 hH=>by exact bX rfl sizeOf41 rfl rfl rfl rfl ((hH _ rfl).trans rfl) rfl rfl rfl)<|Cp [4] (fun H1 hH=>by exact bX rfl sizeOf3 rfl rfl rfl rfl ((hH _ rfl).trans rfl) rfl rfl rfl)<|bK<|Kr<|aE ?_;exact⟨(926,tF d)::kL s (ds.take k) (.pv (.sl [])) 2 d.pos,(cD.wk trivial (Hc (jW (by simp[qP];exact⟨rfl,rfl,rfl,rfl⟩))<|Hc (vA _ _)<|Hc (bZ _ _)<|Ha<|Hc (oM rfl rfl)<|Hc (gN _)<|Hc (oL _ _)<|Hb<|Hb<|Hb<|trivial) ⟨rfl,rfl,rfl,rfl,rfl,rfl,rfl,rfl,rfl,rfl,trivial⟩),rfl,rfl⟩
  have hk5:¬ k=5000:=by have:=aNs hc3;omega
  have h0:oS ds k=true:=by rw[hok,decide_eq_true he,decide_eq_false hk5];rfl
  rw[h0,aNu rfl,hnx,aER];refine aF<|Rg<|Dd (bQ jY)<|Dd (bE lJ)<|Dd (rC WU sizeOf187)<|Dd (by exact aQ [dT d] rfl mM rfl rfl rfl rfl rfl (by intro r hr;rw[aNy]at hr;subst hr;rfl))<|Dd (by exact cF (ps:=[dT d]) rfl mM aEg rfl rfl rfl rfl rfl (xE _) rfl (by intro r hr;rw[aNy]at hr;subst hr;rfl) (m:=1) rfl (by omega) rfl (CN (ds.take k) d))<|Uu (kG kP)<|Zz ?_;exact⟨(926,tF d)::[(905,⟨(ds.take k).length+1,3,187,jI (ds.take k++[d])⟩),(5,bx 1 182 [.osl 905 ((ds.take k).length+1) 0 ((ds.take k).length+1)]),(924,tA),(923,tC),(921,tS s),(4,bx 1 3 [iv 0]),(3,bx 1 41 [iv 0]),(2,bx 1 182 [.pv (.sl [])])],(cD.wk trivial (Hc (jW (by simp[qP];exact⟨rfl,rfl,rfl,rfl⟩))<|Hc (vA _ _)<|Hc (bZ _ _)<|Ha<|Hc (oM rfl rfl)<|Hc (gN _)<|Hc (oL _ _)<|Hb<|Hb<|Hb<|trivial) ⟨rfl,rfl,rfl,rfl,rfl,rfl,rfl,rfl,rfl,rfl,trivial⟩),rfl,rfl⟩
 rcases Nat.lt_or_ge j ds.length with hlt|hge
 ·obtain ⟨f,hf⟩:=aV hlt;have hbad:=hj3 hlt;have hdj:ds.drop j=f::ds.drop (j+1):=by
   rw[List.drop_eq_getElem_cons hlt];rw[aOA hlt]at hf;cases hf;rfl
  have hres:hY s=([],(if f.err≠0 then f.err else 2),(f.pos:Int)):=by
   rw[hg,hrun,hdj,lD]
   split
   ·rfl
   rename_i he;have he0:f.err=0:=by
    by_cases h:f.err=0
    ·exact h
    exact absurd h he
   rw[EJ hf,decide_eq_true he0,Bool.true_and,Bool.not_eq_false',aOC]at hbad;rw[aNu (by rw[aOJ];omega)]
  rw[hres]at hok;have hok:(if f.err≠0 then f.err else 2)=0:=hok
  split at hok
  ·next h=>exact absurd hok h
  exact absurd hok (by decide)
 have hje:j=ds.length:=Nat.le_antisymm hj1 hge;rw[hje,List.take_length,List.drop_length]at hrun;rw[hg,hrun,lD];refine(FY s (.yld 904 0) (fun k=>(904,LR x qP)::kL s (ds.take k) (.pv (.sl [])) 0 0) (oS ds) ds.length hs (fun k=>rfl) (fun k=>rfl) (fun k=>rfl) (fun k=>rfl) (fun k=>(dF.ofL ⟨(by exact jW (by simp[qP];exact⟨rfl,rfl,rfl,rfl⟩)),(by exact bZ _ _),(by(simp;rfl)),(by exact oM rfl rfl),(by exact gN _),(by exact oL _ _),(by(simp;done)),(by(simp;done)),(by(simp;done)),trivial⟩)) (fun k=>by simp;rfl) (by rw[<-hds];exact aOB _) (fun k hk=>hj2 k (by omega)) (.inl (by rw[<-hds])) ?_).mono ?_
 ·rw[<-hds];intro k d hd hk;have hr:=hround k d hd (by omega);have hok:=hj2 k (by omega);rw[hok,aNu rfl]at hr;rw[hok];exact cK.congrG hr (fun j=>nB (by decide) j) (fun j=>nB (by decide) j)
 rintro r H' ⟨rfl,rfl⟩;rw[List.take_length];refine⟨x,_,rfl,by rw[hx1];decide,rfl,fun z=>?_⟩;rw[hx2];refine Sr<|Dd (bQ jY)<|Uu (kG kP)<|Uu (kG sizeOf41)<|Uu (kG sizeOf3)<|Zz<|aE ?_;refine zI (H':=[(905,⟨ds.length,3,187,jI ds⟩)]) (.inr rfl) rfl (fM rfl jY rfl rfl rfl rfl) (fM rfl jS rfl rfl rfl rfl) (fM rfl isAgg3 rfl rfl rfl rfl) (Fin.wk (by(simp;rfl)) (Hc (bZ _ _)<|trivial) trivial) ?_;exact Qq
theorem aJ8(s:ByteArray)(H:aB)(hs:s.size<1099511627776)(hok:(hY s).2.1=0)(hH:H.get 905=none):aH Tryz.prog 157 [sv s] H (fun r H'=>r=.tup [.osl 905 (hY s).1.length 0 (hY s).1.length,iv 0,iv (hY s).2.2]/\H'=(905,⟨(hY s).1.length,3,187,jI (hY s).1⟩)::H) :=aH.frame (aJ9 s hs hok) (fun _ _ h=>by cases h) (fun _ _ h=>by cases h) (by simp) (fun id h=>.inr (by
  by_cases e:id=905
  ·rw[e];exact hH
  rw[get_cons_other _ _ e]at h;cases h))
theorem D2(f:α->List PV)(l:List α):l.map (fun e=>(f e).map AV.pv)=(l.map f).map (·.map .pv):=by rw[List.map_map];rfl
theorem sI(f:α->List PV)(l:List α):((l.map f).take (0+l.length)).drop 0=l.map f:=by rw[aON,List.drop_zero];exact List.take_of_length_le (by rw[aNv];exact aOB _)
theorem aBl(f:GFound)(H:aB):aH Tryz.prog 232 [av (dT f)] H (fun r H'=>r=bv (gP f)/\H'=H):=by
 refine Pu ?_;refine Bd func232 rfl ntmps232<|Sr<|Dd (by exact cE (id:=1) rfl rfl rfl rfl rfl)<|Dd aM<|Zz<|Sq ?_;refine bF (t:=2) (n:=10) (X:=gP f) ?_ ?_
 ·all_goals refine Dd (bE kN) ?_
  all_goals refine Dd (bQ isAgg9)<|Dd B3<|Dm ?_
  all_goals refine Sp 6 (fun h6=>?_) fun h6=>?_
  all_goals try contradiction
  all_goals first|refine Fo<|Fo<|Fo ?_|refine On (bE EY)<|On (bQ isAgg3)<|On dK ?_
  all_goals refine Dd cN<|Da ?_
  all_goals(exact⟨⟨_,rfl,by(simp only[gP, *];rfl)⟩,rfl,rfl,rfl⟩)
 exact aE<|Rt<|Qq
theorem GL(l:List GFound)(H:aB)(hl:l.length<4611686018427387904):
  aH Tryz.prog 231 [.pv (Q2 l),.pv (.fn 232)] H (fun r H'=>r=iv (vE gP l)/\H'=H):=by
 refine Pu ?_;have hml:(l.map dT).length=l.length:=aNv _;refine Bd func231 rfl ntmps231<|Sr<|Dd aM<|Zz<|Sq<|Sr<|Dd aG<|Dd (fZ gE)<|Dd aG<|Zz<|aD ?_;refine bL (σ:=Nat) (fun k=>([(0,.pv (Q2 l)),(1,.pv (.fn 232)),(7,iv ((l.map dT).length:Int)),(8,iv (k:Int))],[])) (fun k=>k<=l.length/\∀j,j<k->∀b,l[j]?=some b->gP b=false) (fun k=>l.length - k) 0 ⟨by omega,by omega⟩ ?_ ?_
 ·exact E0
 rintro k ⟨hk,hno⟩;refine Sr<|Dd cP<|Zz<|Sq ?_;refine Cn ?_ ?_<;>intro hc1
 ·have hlt:k<l.length:=by have:=aNr hc1;omega
  obtain ⟨o,ho⟩:=aV hlt;have hi:=cA (f:=dT) ho;refine aF<|Sq<|aD<|Sr<|Dd aG<|Dd aM<|Zz<|Sr<|Dd aG<|Dd aG<|Dd aG<|Dd (zV mM)<|Dd (by exact cU rfl WU sizeOf187 rfl (by omega) (by simp only[Zl,bJ,bN,encStr,jR,dT];rfl) rfl)<|Dd (by exact cC rfl rfl rfl (cK.fn call232 (aBl o _)))<|Zz ?_;refine Cn ?_ ?_<;>intro hc2
  ·refine Sr<|Dd aG<|Dd aM<|Zz<|aE<|Rt ?_;exact⟨by rw[vE,P2 hno ho hc2],rfl⟩
  refine aF<|Rg<|Dd qV<|Dd aG<|Zz ?_;exact⟨k+1,⟨by omega,AH hno ho hc2⟩,by omega,E0⟩
 have hge:k=l.length:=by have:=aNs hc1;omega
 subst hge;refine aY<|Sr<|Dd aM<|Zz<|aE<|Rt ?_;exact⟨by rw[vE,P3 hno],rfl⟩
def D6(T:List GFound)(k:Nat):List GFound:=T++List.replicate k noF
theorem D5(T:List GFound)(k:Nat):(D6 T k).length=T.length+k:=by rw[D6,aNw,List.length_replicate]
theorem aDa(T:List GFound)(k:Nat):jI (D6 T k)++[(dT noF).map AV.pv]=jI (D6 T (k+1)):=by rw[CN,D6,D6,List.replicate_succ',List.append_assoc]
def kF(s:ByteArray):Nat->Int
 |0=>0
 |j+1=>if gF ((j+1:Nat):Int)=s then((j+1:Nat):Int)else kF s j
theorem aHI(s:ByteArray):kF s 5=HS s:=by simp only[kF,HS,eq_comm (a:=s)];rfl
theorem JZ:∀l:List GFound,mZ l=dS l (l.length / 3)
 | []=>by simp[mZ,dS]
 | [a]=>by simp[mZ,dS]
 | [a,b]=>by simp[mZ,dS]
 |a::b::c::r=>by
  rw[mZ,JZ r];have h1:(a::b::c::r).length=r.length+3:=rfl;rw[h1,Nat.add_div_right _ (by decide),dS,dS,List.range_succ_eq_map,List.map_cons,List.map_map];rfl
theorem aFH(s:ByteArray):atV s=(mO s).1:=by rw[atV,mO];cases h:Lib.atoiAll s.data.toList<;>rfl
abbrev oR(id:ByteArray)(k x y:Int)(n m:Nat):Ob:=bx 6 151 [sv id,iv k,iv x,iv y,.osl 906 n 0 n,.osl 907 m 0 m]
def S8(L:List GFound):Ob:=⟨L.length,3,187,jI L⟩
def rH(L:List GFound)(id:ByteArray)(k x y:Int)(R:List ByteArray)(G:List GTag):aB:=[(907,⟨G.length,2,199,rP G⟩),(906,⟨R.length,1,9,bP R⟩),(3,oR id k x y R.length G.length),(905,S8 L),(2,bx 6 151 ((bN zObj).map .pv))]
abbrev rE(L:List GFound):bS:=[(0,.osl 905 L.length 0 L.length),(2,.ref 2 0 0 0),(3,.ref 3 0 0 0)]
theorem aMg(L:List GFound)(id:ByteArray)(k x y:Int)(R:List ByteArray)(s:ByteArray)(G:List GTag):rH L id k x y (R++[s]) G=[(907,⟨G.length,2,199,rP G⟩),(906,⟨R.length+1,1,9,bP (R++[s])⟩),(3,oR id k x y (R.length+1) G.length),(905,S8 L),(2,bx 6 151 ((bN zObj).map .pv))]:=by simp[rH]
theorem aLA(L:List GFound)(id:ByteArray)(k x y:Int)(R:List ByteArray)(t:GTag)(G:List GTag):rH L id k x y R (G++[t])=[(907,⟨G.length+1,2,199,rP (G++[t])⟩),(906,⟨R.length,1,9,bP R⟩),(3,oR id k x y R.length (G.length+1)),(905,S8 L),(2,bx 6 151 ((bN zObj).map .pv))]:=by simp[rH]
theorem xD{L:List GFound}{i:Nat}{f:GFound}(h:L[i]?=some f):(jI L)[i]?=some [iv f.kind,sv f.text,iv (f.pos:Int)]:=by rw[jI,aOP,h];rfl
theorem aIt(T:List GFound)(hl:T.length<549755813888)(hsz:∀f∈qM T,f.text.size<1099511627776):aH Tryz.prog 195 [.osl 905 T.length 0 T.length] [(905,S8 T)] (fun r H'=>r=av (bN (lE T))/\H'=[(905,S8 (qM T))]):=by
 refine Bd func195 rfl ntmps195<|Sr<|Dd (by exact bM (id:=2) rfl ZK rfl rfl)<|Zz<|Sq<|aD ?_;refine bL (σ:=Nat) (fun k=>([(0,.osl 905 (D6 T k).length 0 (D6 T k).length),(2,.ref 2 0 0 0)],[(905,S8 (D6 T k)),(2,bx 6 151 ((bN zObj).map .pv))])) (fun k=>k<=4 - T.length) (fun k=>4 - T.length - k) 0 (aOM _) ?_ ?_
 ·rw[show D6 T 0=T by simp[D6]];exact(cD.wk (Ea<|Ea<|trivial) (Hc (bZ _ _)<|Hb<|trivial) ⟨rfl,trivial⟩)
 rintro k hk;have hpl:=D5 T k;unfold S8;refine Sq<|Sr<|Dd aG<|Dd (by exact eB rfl gE rfl rfl rfl)<|Dd cP<|Zz ?_;refine Cn ?_ ?_<;>intro hc1
 ·have hlt:T.length+k<4:=by have:=aNr hc1;rw[hpl]at this;omega
  refine aF<|aD<|Rg<|Dd aG<|Dd (wV aIW)<|Dd (by exact aQ [dT noF] rfl mM rfl rfl rfl rfl rfl (by intro r hr;rw[aNy]at hr;subst hr;rfl))<|Dd (by exact cF (ps:=[dT noF]) rfl mM aEg rfl rfl rfl rfl rfl (xE _) rfl (by intro r hr;rw[aNy]at hr;subst hr;rfl) (m:=1) rfl (by omega) rfl (aDa T k))<|Da ?_;refine⟨k+1,by omega,by omega,?_⟩;rw[show (D6 T (k+1)).length=(D6 T k).length+1 by rw[D5,D5];omega];exact(cD.wk (Ea<|Ea<|trivial) (Hc (bZ _ _)<|Hb<|trivial) ⟨rfl,trivial⟩)
 have hge:4<=T.length+k:=by have:=aNs hc1;rw[hpl]at this;omega
 obtain rfl:k=4 - T.length:=by omega
 obtain ⟨L,hL⟩:∃L,L=D6 T (4 - T.length):=⟨_,rfl⟩;have hLp:qM T=L:=by rw[hL];rfl
 have hLl:4<=L.length/\L.length<549755813893:=by rw[hL,D5];omega
 rw[hLp]at hsz;rw[hLp,<-hL];clear hpl;obtain ⟨t0,ht0⟩:=aV (show 0<L.length by omega);obtain ⟨t1,ht1⟩:=aV (show 1<L.length by omega);obtain ⟨t2,ht2⟩:=aV (show 2<L.length by omega);obtain ⟨t3,ht3⟩:=aV (show 3<L.length by omega);have hr0:=xD ht0;have hr1:=xD ht1;have hr2:=xD ht2;have hr3:=xD ht3;have hd:∀ {i:Nat} {f:GFound},L[i]?=some f->L.getD i noF=f:=fun {i f} h=>by rw[List.getD_eq_getElem?_getD,h];rfl
 have hR:=lE.eq_1 T;rw[hLp,hd ht0,hd ht1,hd ht2,hd ht3]at hR;refine aY<|Sr<|Dd aG<|Dd (by exact dP rfl mM rfl rfl rfl rfl rfl (by omega) (by exact aOG _) (show 1<L.length by omega) rfl)<|Dd (bE kN)<|Dd (by exact aK rfl isAgg9 rfl rfl rfl hr1 rfl)<|Dd (wV aKC)<|Dd (by exact bM (id:=3) rfl aI7 rfl rfl)<|Uu (kG sizeOf151)<|Zz<|Sq<|Sq ?_;refine fL.ent (E':=rE L) (H':=[(906,⟨0,1,9,[]⟩),(3,bx 6 151 [sv t1.text,iv 0,iv 0,iv 0,.osl 906 0 0 0,.pv .nils]),(905,S8 L),(2,bx 6 151 ((bN zObj).map .pv))]) (cD.nz 906 1 9 rfl rfl ⟨⟨_,rfl,(by exact Nz.same (by(simp;rfl)))⟩,⟨_,rfl,(by exact Nz.same (by(simp;rfl)))⟩,⟨_,rfl,(by exact Nz.same (by(simp;rfl)))⟩,trivial⟩ ⟨⟨_,rfl,rfl,rfl,rfl,(by exact .inr ⟨_,_,rfl,rfl,(by repeat(first|exact trivial|refine⟨(by first|exact Nz.own|exact Nz.same (by(simp;done))),?_⟩))⟩)⟩,⟨_,rfl,rfl,rfl,rfl,(by exact .inl ⟨rfl,(by exact bZ _ _)⟩)⟩,⟨_,rfl,rfl,rfl,rfl,(by exact .inl ⟨rfl,(by(simp;done))⟩)⟩,trivial⟩ ⟨rfl,trivial⟩) ?_;refine fL.ent (E':=rE L) (H':=rH L t1.text 0 0 0 [] []) (cD.nz 907 2 199 rfl rfl ⟨⟨_,rfl,(by exact Nz.same (by(simp;rfl)))⟩,⟨_,rfl,(by exact Nz.same (by(simp;rfl)))⟩,⟨_,rfl,(by exact Nz.same (by(simp;rfl)))⟩,trivial⟩ ⟨⟨_,rfl,rfl,rfl,rfl,(by exact .inl ⟨rfl,(by exact aU _ _)⟩)⟩,⟨_,rfl,rfl,rfl,rfl,(by exact .inr ⟨_,_,rfl,rfl,(by repeat(first|exact trivial|refine⟨(by first|exact Nz.own|exact Nz.same (by first|(simp;done)|(simp;rfl))),?_⟩))⟩)⟩,⟨_,rfl,rfl,rfl,rfl,(by exact .inl ⟨rfl,(by exact bZ _ _)⟩)⟩,⟨_,rfl,rfl,rfl,rfl,(by exact .inl ⟨rfl,(by(simp;done))⟩)⟩,trivial⟩ ⟨rfl,trivial⟩) ?_;refine Rg<|Dd aM<|Zz<|aD ?_;refine bL (σ:=Nat) (fun j=>(rE L++[(4,iv ((j+1:Nat):Int))],rH L t1.text (kF t0.text j) 0 0 [] [])) (fun j=>j<=5) (fun j=>5 - j) 0 (aOM _) ?_ ?_
 ·exact(cD.wk (Ea<|Ea<|Ea<|Eb<|trivial) (Hc (kE _ _)<|Hc (aU _ _)<|Hc (by(simp;exact⟨rfl,rfl⟩))<|Hc (bZ _ _)<|Hb<|trivial) ⟨rfl,trivial⟩)
 rintro j hj;refine Sq<|Sr<|Dd aG<|Dd TA<|Zz ?_;refine Cn ?_ ?_<;>intro hc2
 ·have hj5:j<5:=by have:=aNr hc2;omega
  refine aF<|Sq<|aD<|Sq<|aP follows<|Cq aG<|Cq (by exact aA rfl rfl vT rfl (CL ((j+1:Nat):Int) _))<|Cq aG<|Cq (by exact dP rfl mM rfl rfl rfl rfl rfl (by omega) (by exact aOG _) (show 0<L.length by omega) rfl)<|Cq (bE kN)<|Cq (by exact aK rfl isAgg9 rfl rfl rfl hr0 rfl)<|Cq B3<|bK<|Kr ?_;refine Cn ?_ ?_<;>intro hc3
  ·have hw:gF ((j+1:Nat):Int)=t0.text:=aNr hc3;refine Rg<|Dd aG<|Dd (bE gR)<|Uu (by exact bD rfl sizeOf3 rfl rfl rfl rfl rfl rfl (by simp only[aNx,List.length_nil];omega) (by simp only[Zl,bJ,bN,encStr,jR,dT];rfl) (by simp only[Zl,bJ,bN,encStr,jR,dT];rfl))<|Zz<|Rg<|Dd aG<|Dd qV<|Da ?_;refine⟨j+1,by omega,by omega,?_⟩;rw[show kF t0.text (j+1)=((j+1:Nat):Int)by rw[kF,aNu hw]];exact(cD.wk (Ea<|Ea<|Ea<|Eb<|trivial) (Hc (kE _ _)<|Hc (aU _ _)<|Hc (by(simp;exact⟨rfl,rfl⟩))<|Hc (bZ _ _)<|Hb<|trivial) ⟨rfl,trivial⟩)
  have hw:gF ((j+1:Nat):Int)≠t0.text:=aNs hc3;refine aF<|Rg<|Dd aG<|Dd qV<|Da ?_;refine⟨j+1,by omega,by omega,?_⟩;rw[show kF t0.text (j+1)=kF t0.text j by rw[kF,aNt hw]];exact(cD.wk (Ea<|Ea<|Ea<|Eb<|trivial) (Hc (kE _ _)<|Hc (aU _ _)<|Hc (by(simp;exact⟨rfl,rfl⟩))<|Hc (bZ _ _)<|Hb<|trivial) ⟨rfl,trivial⟩)
 have hj5:j=5:=by have:=aNs hc2;omega
 subst hj5;rw[aHI];obtain ⟨kd,hkd⟩:∃kd,kd=HS t0.text:=⟨_,rfl⟩;rw[<-hkd]at hR |-;have htk:(jI L).length=L.length:=xE L;refine aY<|Sr<|Dd aG<|Dd (by exact gS (l:=4) (h:=L.length) rfl mM rfl rfl rfl rfl rfl rfl (by omega) (by omega) rfl rfl)<|Dd aM<|Zz<|Sq<|Sr<|Dd (bE gR)<|Dd (bQ isAgg3)<|Dd dK<|Zz ?_;refine Cn ?_ ?_<;>intro hc4
 ·have hk1:kd=1:=aNr hc4;have hR2:lE T=⟨t1.text,1,atV t2.text,atV t3.text,[],mZ (L.drop 4)⟩:=by rw[hR,aNu hk1]
  subst hk1;refine Sr<|Dd aG<|Dd (by exact dP rfl mM rfl rfl rfl rfl rfl (by omega) (by exact aOG _) (show 2<L.length by omega) rfl)<|Dd (bE kN)<|Dd (by exact aK rfl isAgg9 rfl rfl rfl hr2 rfl)<|Dd (by exact aA rfl rfl vW rfl (JI t2.text (hsz _ (aOF ht2)) _))<|Dd aG<|Dd eZ<|Dd eZ<|Dd (bE oY)<|Dd (bE vI)<|Uu (by exact bD rfl sizeOf3 rfl rfl rfl rfl rfl rfl (by simp only[aNx,List.length_nil];omega) (by simp only[Zl,bJ,bN,encStr,jR,dT];rfl) (by simp only[Zl,bJ,bN,encStr,jR,dT];rfl))<|Zz<|Rg<|Dd aG<|Dd (by exact dP rfl mM rfl rfl rfl rfl rfl (by omega) (by exact aOG _) (show 3<L.length by omega) rfl)<|Dd (bE kN)<|Dd (by exact aK rfl isAgg9 rfl rfl rfl hr3 rfl)<|Dd (by exact aA rfl rfl vW rfl (JI t3.text (hsz _ (aOF ht3)) _)) ?_;refine Dd aG<|Dd eZ<|Dd eZ<|Dd (bE oY)<|Dd (bE vG)<|Uu (by exact bD rfl sizeOf3 rfl rfl rfl rfl rfl rfl (by simp only[aNx,List.length_nil];omega) (by simp only[Zl,bJ,bN,encStr,jR,dT];rfl) (by simp only[Zl,bJ,bN,encStr,jR,dT];rfl))<|Zz<|Sq<|aD ?_;obtain ⟨D,hD⟩:∃D,D=L.drop 4:=⟨_,rfl⟩;have hDl:D.length=L.length - 4:=by rw[hD,aOK]
  refine bL (σ:=Nat) (fun j=>(rE L++[(5,.osl 905 L.length (4+3*j) (L.length - 4 - 3*j))],rH L t1.text 1 (mO t2.text).1 (mO t3.text).1 ([]:List ByteArray) (dS D j))) (fun j=>3*j<=D.length) (fun j=>D.length - 3*j) 0 (aOM _) ?_ ?_
  ·exact(cD.wk (Ea<|Ea<|Ea<|Ea<|trivial) (Hc (kE _ _)<|Hc (aU _ _)<|Hc (by(simp;exact⟨rfl,rfl⟩))<|Hc (bZ _ _)<|Hb<|trivial) ⟨rfl,trivial⟩)
  rintro j hj;have hnx:=A1 D j;have hfl:=CF D j;refine Sq<|Sr<|Dd aG<|Dd (by exact eB rfl gE rfl rfl rfl)<|Dd mN<|Zz ?_;refine Cn ?_ ?_<;>intro hc5
  ·have hlt:3*j+2<D.length:=by have:=aNr hc5;omega
   obtain ⟨f0,hf0⟩:∃f,L[4+3*j]?=some f:=aV (by omega);obtain ⟨f2,hf2⟩:∃f,L[4+3*j+2]?=some f:=aV (by omega);have hr0:=xD hf0;have hr2:=xD hf2;have hta:OK D j=⟨f0.text,f2.text⟩:=by
    rw[OK,hD,List.getElem?_drop,List.getElem?_drop,hf0,show 4+(3*j+2)=4+3*j+2 from rfl,hf2];rfl
   refine aF<|Sq<|aD<|aP follows<|Cs (fun _ h=>fh fY h)<|Cs (fun _ h=>lh cY h)<|Cs (fun _ _=>aG)<|Cs (fun H1 hH=>by exact dP rfl mM rfl ((hH _ rfl).trans rfl) rfl rfl rfl (by omega) (by exact aOG _) (show 0<L.length - 4 - 3*j by omega) rfl)<|Cs (fun _ h=>fh kN h)<|Cs (fun H1 hH=>by exact aK rfl isAgg9 rfl ((hH _ rfl).trans rfl) rfl hr0 rfl)<|Cs (fun _ _=>aG)<|Cs (fun H1 hH=>by exact dP rfl mM rfl ((hH _ rfl).trans rfl) rfl rfl rfl (by omega) (by exact aOG _) (show 2<L.length - 4 - 3*j by omega) rfl)<|Cs (fun _ h=>fh kN h)<|Cs (fun H1 hH=>by exact aK rfl isAgg9 rfl ((hH _ rfl).trans rfl) rfl hr2 rfl)<|Cs (fun _ _=>(wV aIV))<|Cs (fun H1 hH=>by exact aQ [bJ ⟨f0.text,f2.text⟩] rfl yX rfl rfl rfl rfl rfl (by intro r hr;rw[aNy]at hr;subst hr;rfl)) ?_;refine aX (r:=⟨_,none,[_]⟩) (DStep.plain rfl (fun H1 hH=>by exact cF (ps:=[bJ ⟨f0.text,f2.text⟩]) rfl yX aIR rfl ((hH _ rfl).trans rfl) rfl rfl rfl (JU _) rfl (by intro r hr;rw[aNy]at hr;subst hr;rfl) (m:=1) rfl (by omega) rfl (JV (dS D j) ⟨f0.text,f2.text⟩))) rfl ?_;refine Cs (fun _ h=>fh fY h) ?_;refine aX (r:=⟨_,none,[_]⟩) (DStep.plain rfl (fun H1 hH=>by exact(by exact bD rfl sizeOf149 rfl rfl rfl ((hH _ rfl).trans rfl) rfl rfl (by simp only[aNx,List.length_nil];omega) (by simp only[Zl,bJ,bN,encStr,jR,dT];rfl) (by simp only[Zl,bJ,bN,encStr,jR,dT];rfl)))) rfl ?_;refine bK<|Kr<|Rg<|Dd aG<|Dd (by exact gS (l:=3) (h:=(L.length - 4 - 3*j)) rfl mM rfl rfl rfl rfl rfl rfl (by omega) (by omega) rfl rfl)<|Da ?_;refine⟨j+1,by omega,by omega,?_⟩;dsimp only;rw[hnx,hta,aLA];exact(cD.wk (Ea<|Ea<|Ea<|Ea<|trivial) (Hc (kE _ _)<|Hc (aU _ _)<|Hc (by(simp;exact⟨rfl,rfl⟩))<|Hc (bZ _ _)<|Hb<|trivial) ⟨rfl,trivial⟩)
  have hge:D.length<3*j+3:=by have:=aNs hc5;omega
  have hdj:D.length / 3=j:=by omega
  have hG:mZ D=dS D j:=by rw[JZ,hdj]
  refine aY<|Sq ?_;refine fL.ent (cD.fzG (id:=907) (E':=rE L) (H':=[(906,⟨(([]:List ByteArray)).length,1,9,bP (([]:List ByteArray))⟩),(3,bx 6 151 [sv (t1.text),iv (1),iv ((mO t2.text).1),iv ((mO t3.text).1),.osl 906 (([]:List ByteArray)).length 0 (([]:List ByteArray)).length,.pv (sT (dS D j))]),(905,S8 L),(2,bx 6 151 ((bN zObj).map .pv))]) ((dS D j).map bJ) rfl (D2 bJ _) ?_ rfl ?_ ?_) ?_
  ·intro p hp;simp only[aOH,aOL,or_false]at hp;rcases hp with rfl|rfl|rfl<;>exact⟨_,rfl,.same (by simp;rfl)⟩
  ·exact⟨⟨_,rfl,rfl,rfl,rfl,eJ (aU _ _)⟩,⟨_,rfl,rfl,rfl,rfl,nG rfl (cG (.same (by simp)) (cG (.same (by simp)) (cG (.same (by simp)) (cG (.same (by simp)) (cG (.same (by simp;rfl)) (cG (.osl (sI bJ _)) nO))))))⟩,⟨_,rfl,rfl,rfl,rfl,eJ (bZ _ _)⟩,⟨_,rfl,rfl,rfl,rfl,eJ (by simp)⟩,trivial⟩
  ·exact⟨rfl,trivial⟩
  refine fL.ent (cD.fzG (id:=906) (E':=rE L) (H':=[(3,bx 6 151 [sv (t1.text),iv (1),iv ((mO t2.text).1),iv ((mO t3.text).1),.pv (aS (([]:List ByteArray))),.pv (sT (dS D j))]),(905,S8 L),(2,bx 6 151 ((bN zObj).map .pv))]) ((([]:List ByteArray)).map encStr) rfl (dR _) ?_ rfl ?_ ?_) ?_
  ·intro p hp;simp only[aOH,aOL,or_false]at hp;rcases hp with rfl|rfl|rfl<;>exact⟨_,rfl,.same (by simp;rfl)⟩
  ·exact⟨⟨_,rfl,rfl,rfl,rfl,nG rfl (cG (.same (by simp)) (cG (.same (by simp)) (cG (.same (by simp)) (cG (.same (by simp)) (cG (.osl (sI encStr _)) (cG (.same (by simp)) nO))))))⟩,⟨_,rfl,rfl,rfl,rfl,eJ (bZ _ _)⟩,⟨_,rfl,rfl,rfl,rfl,eJ (by simp)⟩,trivial⟩
  ·exact⟨rfl,trivial⟩
  refine Rg<|Dd (by exact aN rfl cR sizeOf151 rfl rfl rfl rfl (by simp only[Zl,bJ,bN,encStr,jR,dT];rfl) rfl)<|Uu (kG sizeOf151)<|Zz<|aE ?_;refine dC (H':=[(905,S8 L)]) (.inr rfl) rfl (fF rfl cR sizeOf151 rfl rfl rfl (by simp only[Zl,bJ,bN,encStr,jR,dT];rfl) rfl) (Fin.wk (by(simp;done)) (Hc (bZ _ _)<|trivial) ⟨rfl,trivial⟩) ?_;refine⟨?_,rfl⟩;rw[(show lE T=⟨t1.text,1,(mO t2.text).1,(mO t3.text).1,[],mZ (L.drop 4)⟩by rw[hR2,aFH,aFH]),<-hD,hG];rfl
 have hk1:kd≠1:=aNs hc4;rw[aNt hk1]at hR;have hIx:=GL L [] (by omega);have hIr:∀H,H.get 905=some (S8 L)->aH Tryz.prog 231 [.osl 905 L.length 0 L.length,.pv (.fn 232)] H (fun r H'=>r=iv (vE gP L)/\H'=H):=fun H hH =>
  RO.calls (RO.lend (id:=905) (H1:=[]) (L.map dT) (RO.of hIx rfl) hH (D2 dT L) rfl
   (cG (.osl (sI dT L)) (cG (.same (by simp)) nO)) (fun _ _ h=>by cases h) (fun _ _ h=>by cases h) rfl)
 refine Sr<|Dd aG<|Dd (by exact aA rfl rfl call231 rfl (hIr _ rfl))<|Dd aM<|Zz<|Sq<|Sr<|Dd aG<|Dd cP<|Zz ?_;refine Cn ?_ ?_<;>intro hc6
 ·have hlo:vE gP L<3:=aNr hc6;rw[aNu hlo]at hR;rw[hR];refine Sr<|Dd (wV aAa)<|Uu (kG sizeOf151)<|Zz<|aE ?_;refine dC (H':=[(905,S8 L)]) (.inr rfl) rfl (fF rfl cR sizeOf151 rfl rfl rfl (by simp only[Zl,bJ,bN,encStr,jR,dT];rfl) rfl) (Fin.wk (by(simp;done)) (Hc (bZ _ _)<|trivial) ⟨rfl,trivial⟩) ?_;exact Qq
 have hlo:¬ vE gP L<3:=aNs hc6;rw[aNt hlo]at hR;obtain ⟨q,hq,hqL⟩:∃q:Nat,vE gP L=(q:Int)/\q<L.length:=by
  rcases YQ gP L with⟨e1,_⟩|⟨q,o,e1,e2,_⟩
  ·rw[e1]at hlo;exact absurd (by decide) hlo
  exact⟨q,e1,(aNz.1 e2).1⟩
 rw[hq]at hR hlo |-;rw[aOG]at hR;have hq3:3<=q:=by omega
 obtain ⟨M,hM⟩:∃M,M=(L.take q).drop 3:=⟨_,rfl⟩;have hMl:M.length=q - 3:=by rw[hM,aOK,aOJ];omega
 rw[<-hM]at hR;refine aF<|Sq<|Sr<|Dd aG<|Dd aG<|Dd (by exact gS (l:=3) (h:=q) rfl mM rfl rfl rfl rfl rfl rfl (by omega) (by omega) rfl rfl)<|Dd (by exact eB rfl gE rfl rfl rfl)<|Dd aG<|Zz<|aD ?_;refine bL (σ:=Nat) (fun i=>(rE L++[(5,.osl 905 L.length 4 (L.length - 4)),(6,iv (q:Int)),(66,.osl 905 L.length 3 (q - 3)),(67,iv ((q - 3:Nat):Int)),(68,iv (i:Int))],rH L t1.text kd 0 0 ((M.take i).map GFound.text) [])) (fun i=>i<=M.length) (fun i=>M.length - i) 0 (aOM _) ?_ ?_
 ·exact(cD.wk (Ea<|Ea<|Ea<|Ea<|Eb<|Ea<|Eb<|Eb<|trivial) (Hc (kE _ _)<|Hc (aU _ _)<|Hc (by(simp;exact⟨rfl,rfl⟩))<|Hc (bZ _ _)<|Hb<|trivial) ⟨rfl,trivial⟩)
 rintro i hi;refine Sr<|Dd cP<|Zz<|Sq ?_;refine Cn ?_ ?_<;>intro hc7
 ·have hiq:i<q - 3:=by have:=aNr hc7;omega
  obtain ⟨f,hf⟩:=aV (show i<M.length by omega);have hfL:L[3+i]?=some f:=by
   rw[hM,List.getElem?_drop,List.getElem?_take_of_lt (by omega)]at hf;exact hf
  have hrf:=xD hfL;have hMt:(M.take (i+1)).map GFound.text=(M.take i).map GFound.text++[f.text]:=by rw[List.take_add_one,hf,List.map_append];rfl
  have hRl:((M.take i).map GFound.text).length=i:=by rw[aNv,aOJ];omega
  refine aF<|Sq<|aD<|Sr<|Dd (by exact dP rfl mM rfl rfl rfl rfl rfl (by omega) (by exact aOG _) (by omega) rfl)<|Dd (by exact aN rfl WU sizeOf187 rfl rfl rfl hrf (by simp only[Zl,bJ,bN,encStr,jR,dT];rfl) rfl)<|Dd (by exact bM (id:=8) rfl aKa rfl rfl)<|Uu (kG sizeOf187)<|Zz<|Rg<|Dd (bE gQ)<|Dd (bQ aJ)<|Dd (bE kN)<|Dd (bQ isAgg9)<|Dd (by exact aQ [encStr f.text] rfl bT rfl rfl rfl rfl rfl (by intro r hr;rw[aNy]at hr;subst hr;rfl))<|Dd (by exact cF (ps:=[encStr f.text]) rfl bT CH rfl rfl rfl rfl rfl (cT _) rfl (by intro r hr;rw[aNy]at hr;subst hr;rfl) (m:=1) rfl (by omega) rfl (kX ((M.take i).map GFound.text) f.text))<|Dd (bE gQ)<|Uu (by exact bD rfl sizeOf22 rfl rfl rfl rfl rfl rfl (by simp only[aNx,List.length_nil];omega) (by simp only[Zl,bJ,bN,encStr,jR,dT];rfl) (by simp only[Zl,bJ,bN,encStr,jR,dT];rfl)) ?_;refine Zz<|Rg<|Dd qV<|Dd aG<|Zz ?_;refine⟨i+1,by omega,by omega,?_⟩;dsimp only;rw[hMt,aMg];exact(cD.wk (Ea<|Ea<|Ea<|Ea<|Eb<|Ea<|Eb<|Eb<|trivial) (Hc (kE _ _)<|Hc (aU _ _)<|Hc (by(simp;exact⟨rfl,rfl⟩))<|Hc (bZ _ _)<|Hb<|trivial) ⟨rfl,trivial⟩)
 have hiq:i=q - 3:=by have:=aNs hc7;omega
 have hMi:M.take i=M:=List.take_of_length_le (by omega);rw[hMi];refine aY<|Rg<|Dd aG<|Dd aG<|Dd (by exact bG rfl rfl rfl (show IntKind.i64.wrap ((q:Int)+1)=((q+1:Nat):Int)by rw[IntKind.wrap_i64];omega))<|Dd (by exact gS (l:=(q+1)) (h:=L.length) rfl mM rfl rfl rfl rfl rfl rfl (by omega) (by omega) rfl rfl)<|Dd aM<|Zz<|Sq<|aD ?_;rw[<-aON (q+1)]at hR;obtain ⟨D,hD⟩:∃D,D=L.drop (0+(q+1)):=⟨_,rfl⟩;have hDl:D.length=L.length - (0+(q+1)):=by rw[hD,aOK]
 refine bL (σ:=Nat) (fun j=>(rE L++[(5,.osl 905 L.length ((0+(q+1))+3*j) (L.length - (q+1) - 3*j))],rH L t1.text kd 0 0 (M.map GFound.text) (dS D j))) (fun j=>3*j<=D.length) (fun j=>D.length - 3*j) 0 (aOM _) ?_ ?_
 ·exact(cD.wk (Ea<|Ea<|Ea<|Ea<|trivial) (Hc (kE _ _)<|Hc (aU _ _)<|Hc (by(simp;exact⟨rfl,rfl⟩))<|Hc (bZ _ _)<|Hb<|trivial) ⟨rfl,trivial⟩)
 rintro j hj;have hnx:=A1 D j;have hfl:=CF D j;refine Sq<|Sr<|Dd aG<|Dd (by exact eB rfl gE rfl rfl rfl)<|Dd mN<|Zz ?_;refine Cn ?_ ?_<;>intro hc8
 ·have hlt:3*j+2<D.length:=by have:=aNr hc8;omega
  obtain ⟨f0,hf0⟩:∃f,L[(0+(q+1))+3*j]?=some f:=aV (by omega);obtain ⟨f2,hf2⟩:∃f,L[(0+(q+1))+3*j+2]?=some f:=aV (by omega);have hr0:=xD hf0;have hr2:=xD hf2;have hta:OK D j=⟨f0.text,f2.text⟩:=by
   rw[OK,hD,List.getElem?_drop,List.getElem?_drop,hf0,show (0+(q+1))+(3*j+2)=(0+(q+1))+3*j+2 from rfl,hf2];rfl
  refine aF<|Sq<|aD<|aP follows<|Cs (fun _ h=>fh fY h)<|Cs (fun _ h=>lh cY h)<|Cs (fun _ _=>aG)<|Cs (fun H1 hH=>by exact dP rfl mM rfl ((hH _ rfl).trans rfl) rfl rfl rfl (by omega) (by exact aOG _) (show 0<L.length - (q+1) - 3*j by omega) rfl)<|Cs (fun _ h=>fh kN h)<|Cs (fun H1 hH=>by exact aK rfl isAgg9 rfl ((hH _ rfl).trans rfl) rfl hr0 rfl)<|Cs (fun _ _=>aG)<|Cs (fun H1 hH=>by exact dP rfl mM rfl ((hH _ rfl).trans rfl) rfl rfl rfl (by omega) (by exact aOG _) (show 2<L.length - (q+1) - 3*j by omega) rfl)<|Cs (fun _ h=>fh kN h)<|Cs (fun H1 hH=>by exact aK rfl isAgg9 rfl ((hH _ rfl).trans rfl) rfl hr2 rfl)<|Cs (fun _ _=>(wV aIV))<|Cs (fun H1 hH=>by exact aQ [bJ ⟨f0.text,f2.text⟩] rfl yX rfl rfl rfl rfl rfl (by intro r hr;rw[aNy]at hr;subst hr;rfl)) ?_;refine aX (r:=⟨_,none,[_]⟩) (DStep.plain rfl (fun H1 hH=>by exact cF (ps:=[bJ ⟨f0.text,f2.text⟩]) rfl yX aIR rfl ((hH _ rfl).trans rfl) rfl rfl rfl (JU _) rfl (by intro r hr;rw[aNy]at hr;subst hr;rfl) (m:=1) rfl (by omega) rfl (JV (dS D j) ⟨f0.text,f2.text⟩))) rfl ?_;refine Cs (fun _ h=>fh fY h) ?_;refine aX (r:=⟨_,none,[_]⟩) (DStep.plain rfl (fun H1 hH=>by exact(by exact bD rfl sizeOf149 rfl rfl rfl ((hH _ rfl).trans rfl) rfl rfl (by simp only[aNx,List.length_nil];omega) (by simp only[Zl,bJ,bN,encStr,jR,dT];rfl) (by simp only[Zl,bJ,bN,encStr,jR,dT];rfl)))) rfl ?_;refine bK<|Kr<|Rg<|Dd aG<|Dd (by exact gS (l:=3) (h:=(L.length - (q+1) - 3*j)) rfl mM rfl rfl rfl rfl rfl rfl (by omega) (by omega) rfl rfl)<|Da ?_;refine⟨j+1,by omega,by omega,?_⟩;dsimp only;rw[hnx,hta,aLA];exact(cD.wk (Ea<|Ea<|Ea<|Ea<|trivial) (Hc (kE _ _)<|Hc (aU _ _)<|Hc (by(simp;exact⟨rfl,rfl⟩))<|Hc (bZ _ _)<|Hb<|trivial) ⟨rfl,trivial⟩)
 have hge:D.length<3*j+3:=by have:=aNs hc8;omega
 have hdj:D.length / 3=j:=by omega
 have hG:mZ D=dS D j:=by rw[JZ,hdj]
 refine aY<|Sq ?_;refine fL.ent (cD.fzG (id:=907) (E':=rE L) (H':=[(906,⟨((M.map GFound.text)).length,1,9,bP ((M.map GFound.text))⟩),(3,bx 6 151 [sv (t1.text),iv (kd),iv (0),iv (0),.osl 906 ((M.map GFound.text)).length 0 ((M.map GFound.text)).length,.pv (sT (dS D j))]),(905,S8 L),(2,bx 6 151 ((bN zObj).map .pv))]) ((dS D j).map bJ) rfl (D2 bJ _) ?_ rfl ?_ ?_) ?_
 ·intro p hp;simp only[aOH,aOL,or_false]at hp;rcases hp with rfl|rfl|rfl<;>exact⟨_,rfl,.same (by simp;rfl)⟩
 ·exact⟨⟨_,rfl,rfl,rfl,rfl,eJ (aU _ _)⟩,⟨_,rfl,rfl,rfl,rfl,nG rfl (cG (.same (by simp)) (cG (.same (by simp)) (cG (.same (by simp)) (cG (.same (by simp)) (cG (.same (by simp;rfl)) (cG (.osl (sI bJ _)) nO))))))⟩,⟨_,rfl,rfl,rfl,rfl,eJ (bZ _ _)⟩,⟨_,rfl,rfl,rfl,rfl,eJ (by simp)⟩,trivial⟩
 ·exact⟨rfl,trivial⟩
 refine fL.ent (cD.fzG (id:=906) (E':=rE L) (H':=[(3,bx 6 151 [sv (t1.text),iv (kd),iv (0),iv (0),.pv (aS ((M.map GFound.text))),.pv (sT (dS D j))]),(905,S8 L),(2,bx 6 151 ((bN zObj).map .pv))]) (((M.map GFound.text)).map encStr) rfl (dR _) ?_ rfl ?_ ?_) ?_
 ·intro p hp;simp only[aOH,aOL,or_false]at hp;rcases hp with rfl|rfl|rfl<;>exact⟨_,rfl,.same (by simp;rfl)⟩
 ·exact⟨⟨_,rfl,rfl,rfl,rfl,nG rfl (cG (.same (by simp)) (cG (.same (by simp)) (cG (.same (by simp)) (cG (.same (by simp)) (cG (.osl (sI encStr _)) (cG (.same (by simp)) nO))))))⟩,⟨_,rfl,rfl,rfl,rfl,eJ (bZ _ _)⟩,⟨_,rfl,rfl,rfl,rfl,eJ (by simp)⟩,trivial⟩
 ·exact⟨rfl,trivial⟩
 refine Rg<|Dd (by exact aN rfl cR sizeOf151 rfl rfl rfl rfl (by simp only[Zl,bJ,bN,encStr,jR,dT];rfl) rfl)<|Uu (kG sizeOf151)<|Zz<|aE ?_;refine dC (H':=[(905,S8 L)]) (.inr rfl) rfl (fF rfl cR sizeOf151 rfl rfl rfl (by simp only[Zl,bJ,bN,encStr,jR,dT];rfl) rfl) (Fin.wk (by(simp;done)) (Hc (bZ _ _)<|trivial) ⟨rfl,trivial⟩) ?_;refine⟨?_,rfl⟩;rw[hR,<-hD,hG];rfl
end Go.Proofs.YtmdicgjnmfolfaaGreatDoor
