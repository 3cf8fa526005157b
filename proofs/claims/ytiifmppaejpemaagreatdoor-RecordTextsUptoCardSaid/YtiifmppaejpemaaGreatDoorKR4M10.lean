/-
  Parts of the proof: rules of an abstract program logic, contracts of functions, plain laws. Conditions: each theorem's own.
-/
import Derived.Test.YtiifmppaejpemaaGreatDoorKR4M9
import Derived.RecoverIn
set_option linter.unusedVariables false
set_option linter.unusedSimpArgs false
set_option maxRecDepth 100000
set_option maxHeartbeats 8000000
namespace Go.Proofs
theorem mE:type_of% Tryz.call13:=Tryz.call13
theorem jJ:type_of% Tryz.call51:=Tryz.call51
theorem fT:type_of% Tryz.call52:=Tryz.call52
theorem xU:type_of% Tryz.call53:=Tryz.call53
theorem QF:type_of% Tryz.call83:=Tryz.call83
theorem cT:type_of% Tryz.isAgg85:=Tryz.isAgg85
theorem tR:type_of% Tryz.underlying84:=Tryz.underlying84
theorem aDT:type_of% Tryz.zeroValue84:=Tryz.zeroValue84
end Go.Proofs
namespace Go.Abs
section
def iQ (o o':Ob):Prop:=o'.g=o.g∧o'.sz=o.sz∧o'.ty=o.ty∧o'.rows.map List.length=o.rows.map List.length
theorem iQ.rfl {o:Ob}:iQ o o:=⟨_root_.rfl,_root_.rfl,_root_.rfl,_root_.rfl⟩
def Shp (ids:List Nat) (H H1:aB):Prop:=∀ id∈ids,∀ o,H.get id=some o→∃ o',H1.get id=some o'∧iQ o o'
def XZ:List Nat→List Nat→Bool
 | [],[]=>true
 | a::r,b::q=>Nat.beq a b&&XZ r q
 | _,_=>false
theorem R9:∀ {a b:List Nat},XZ a b=true→a=b
 | [],[],_=>rfl
 | a::r,b::q,h=>by
  rw [XZ,aL2] at h;rw [Nat.eq_of_beq_eq_true h.1,R9 h.2]
 | [],_::_,h=>by cases h
 | _::_,[],h=>by cases h
def aIc (o o':Ob):Bool:=Nat.beq o'.g o.g&&(Nat.beq o'.sz o.sz&&(Nat.beq o'.ty o.ty&&XZ (o'.rows.map List.length) (o.rows.map List.length)))
def aGd (ids:List Nat) (H:aB) (rs:List Rec):Bool:=rs.all fun r=>ids.all fun id=>match r.W.get id with
 | none=>true
 | some o'=>match H.get id with
  | none=>true
  | some o=>aIc o o'
theorem ZE {ids:List Nat} {H:aB} {rs:List Rec} (h:aGd ids H rs=true):∀ r∈rs,∀ id∈ids,∀ o',r.W.get id=some o'→∀ o,H.get id=some o→iQ o o':=by intro r hr id hid o' ho' o ho;have h1:=List.all_eq_true.1 (List.all_eq_true.1 h r hr) id hid;simp only [ho',ho,aIc,aL2] at h1;exact⟨Nat.eq_of_beq_eq_true h1.1,Nat.eq_of_beq_eq_true h1.2.1,Nat.eq_of_beq_eq_true h1.2.2.1,R9 h1.2.2.2⟩
theorem OH {H:aB} {l:List Ent2} {S:Nat→Bool} {id:Nat} {o:Ob} (ho:H.get id=some o) (h:∀ y∈l,∀ o',y.r.W.get id=some o'→iQ o o'):∀ n,∃ o',uD H l S n id=some o'∧iQ o o'
 | 0=>⟨o,ho,.rfl⟩
 | n+1=>by
  rw [uD];cases e:l[n]? with
  | none=>exact OH ho h n
  | some y =>
   simp only
   split
   ·next hc =>
    obtain ⟨o',ho'⟩:=Option.isSome_iff_exists.1 hc.2;exact⟨o',ho',h y (aL3 e) o' ho'⟩
   exact OH ho h n
def aCX (ks:List Nat) (rs:List Rec):Bool:=rs.all fun r=>ks.all fun id=>match r.W.get id with
 | none=>true
 | some _=>false
theorem VL {ks:List Nat} {rs:List Rec} (h:aCX ks rs=true):∀ id∈ks,∀ r∈rs,r.W.get id=none:=by
 intro id hid r hr;have h1:=List.all_eq_true.1 (List.all_eq_true.1 h r hr) id hid;cases e:r.W.get id with
 | none=>rfl
 | some o=>rw [e] at h1;cases h1
theorem IE {H:aB} {l:List Ent2} {S:Nat→Bool} {id:Nat} (h:∀ y∈l,y.r.W.get id=none):∀ n,uD H l S n id=H.get id
 | 0=>rfl
 | n+1=>by
  rw [uD];cases e:l[n]? with
  | none=>exact IE h n
  | some y =>
   simp only;rw [aLR (fun hc=>by rw [h y (aL3 e)] at hc;exact absurd hc.2 (by simp))];exact IE h n
def aCY (ts:List Nat) (ops:Array Oper):Bool:=ops.toList.all fun o=>match o.dst with
 | none=>true
 | some d=>!GK ts d
theorem VM {ts:List Nat} {ops:Array Oper} (h:aCY ts ops=true):∀ t∈ts,∀ o∈ops.toList,o.dst≠some t:=by intro t ht o ho hd;have:=List.all_eq_true.1 h o ho;rw [hd] at this;simp only [aLc] at this;rw [C5.2 ht] at this;cases this
theorem IF {E:bO} {l:List Ent2} {S:Nat→Bool} {t:Nat} (h:∀ y∈l,y.o.dst≠some t):∀ n,vQ E l S n t=E.get t
 | 0=>rfl
 | n+1=>by
  rw [vQ];cases e:l[n]? with
  | none=>exact IF h n
  | some y =>
   simp only;rw [aLR (fun hc=>h y (aL3 e) hc.2)];exact IF h n
theorem xV.restr {P:Program} {N:Nat} {o:Oper} {E E1:bO} {H1:aB} {l:List Nat} {R:AV→aB→Prop} {PP:D2→aB→Prop} (h:xV P N o (restr E l) H1 R PP) (hE:∀ t,t∈l→E1.get t=E.get t):xV P N o E1 H1 R PP:=by intro a w I ι hs hr he K Q hk hp;refine h a w I ι hs hr (fun t v ht=>?_) K Q hk hp;have hp:=MO (E:=E) (l:=l) _ (fA ht);exact he t v ((hE t hp.2).trans hp.1)
inductive DStepP (P:Program) (N:Nat) (ops:List Oper) (PP:D2→aB→aB→Prop) (o:Oper) (E:bO) (H:aB) (r:Rec) (F:Prop):Prop
 | old (hF:F) (h:DStep P N ops o E H r)
 | pan (hg:o.guard=none) (h:∀ H1:aB,(∀ id,uO r.R id=true→H1.get id=H.get id)→xV P N o (restr E (fF ops o)) H1 (fun v H'=>v=r.v∧H'=r.W++H1∧F) (fun ch H'=>PP ch H1 H'))
def QJ:List Prop→Prop
 | []=>True
 | F::r=>F∧QJ r
theorem QA:∀ {l:List Prop},(∀ (k:Nat) (F:Prop),l[k]?=some F→F)→QJ l
 | [],_=>trivial
 | F::r,h=>⟨h 0 F rfl,QA fun k G hG=>h (k+1) G hG⟩
inductive DChainP (P:Program) (N:Nat) (ops:List Oper) (PP:D2→aB→aB→Prop):List Oper→bO→aB→List Rec→List Prop→bO→aB→Prop
 | nil {E:bO} {H:aB}:DChainP P N ops PP [] E H [] [] E H
 | cons {o:Oper} {rest:List Oper} {E E':bO} {H H':aB} {r:Rec} {rs:List Rec} {F:Prop} {Fs:List Prop} (h:DStepP P N ops PP o E H r F) (hd:gM N o.dst=true) (hr:DChainP P N ops PP rest (iI E o.dst r.v) (r.W++H) rs Fs E' H') :
   DChainP P N ops PP (o::rest) E H (r::rs) (F::Fs) E' H'
section
variable {P:Program} {N:Nat} {ops:List Oper} {PP:D2→aB→aB→Prop} {E:bO} {H:aB}
theorem DChainP.spec {rest:List Oper} {E':bO} {H':aB} {rs:List Rec} {Fs:List Prop} (h:DChainP P N ops PP rest E H rs Fs E' H'):(rs.length=rest.length∧Fs.length=rest.length) ∧
  (∀ k x,(List.zipWith Ent2.mk rest rs)[k]?=some x→gM N x.o.dst=true∧∃ F,Fs[k]?=some F∧∃ Ek Hk,(∀ t,Ek.get t=vQ E (List.zipWith Ent2.mk rest rs) (fun _=>true) k t)∧(∀ id,Hk.get id=uD H (List.zipWith Ent2.mk rest rs) (fun _=>true) k id)∧DStepP P N ops PP x.o Ek Hk x.r F) ∧
  (∀ t,E'.get t=vQ E (List.zipWith Ent2.mk rest rs) (fun _=>true) rest.length t)∧(∀ id,H'.get id=uD H (List.zipWith Ent2.mk rest rs) (fun _=>true) rest.length id):=by
 induction h with
 | nil=>exact⟨⟨rfl,rfl⟩,by simp,fun t=>rfl,fun id=>rfl⟩
 | @cons o rest E E' H H' r rs F Fs hs hd hr ih =>
  obtain ⟨⟨h1,h1F⟩,h2,h3,h4⟩:=ih;have shE:∀ (l:List Ent2) k t,vQ (iI E o.dst r.v) l (fun _=>true) k t=vQ E (⟨o,r⟩::l) (fun _=>true) (k+1) t:=by
   intro l k t
   induction k with
   | zero =>
    simp only [vQ,List.getElem?_cons_zero];cases hdst:o.dst with
    | none=>simp [iI]
    | some d =>
     simp only [iI];by_cases e:d=t
     ·subst e;simp [bO.get_cons_same]
     rw [bO.get_cons_other _ _ e];simp [e]
   | succ k ih =>
    rw [vQ,vQ];simp only [List.getElem?_cons_succ];cases l[k]? with
    | none=>exact ih
    | some x=>simp only [ih]
  have shH:∀ (l:List Ent2) k id,uD (r.W++H) l (fun _=>true) k id=uD H (⟨o,r⟩::l) (fun _=>true) (k+1) id:=by
   intro l k id
   induction k with
   | zero =>
    simp only [uD,List.getElem?_cons_zero,AH];cases hw:r.W.get id<;>simp
   | succ k ih =>
    rw [uD,uD];simp only [List.getElem?_cons_succ];cases l[k]? with
    | none=>exact ih
    | some x=>simp only [ih]
  refine⟨⟨by simp [h1],by simp [h1F]⟩,?_,?_,?_⟩
  ·intro k x hx;cases k with
   | zero =>
    simp at hx;subst hx;exact⟨hd,F,rfl,E,H,fun t=>rfl,fun id=>rfl,hs⟩
   | succ k =>
    simp at hx;obtain ⟨g0,F2,g00,Ek,Hk,g1,g2,g3⟩:=h2 k x (by simpa using hx);exact⟨g0,F2,g00,Ek,Hk,fun t=>(g1 t).trans (shE _ k t),fun id=>(g2 id).trans (shH _ k id),g3⟩
  ·intro t;rw [h3 t,shE];rfl
  intro id;rw [h4 id,shH];rfl
end
theorem aA7 {PP:D2→aB→aB→Prop} {P:Program} {G0:aB} {N id:Nat} {Q:Exit→bO→aB→Prop} {ops:Array Oper} {E E':bO} {H H':aB} {rs:List Rec} (hm:P.follows .mixedOrders=true) {Fs:List Prop} (hc:DChainP P N ops.toList PP ops.toList E H rs Fs E' H') (hok:EM ops.toList rs=true) (ids ks:List Nat) (hW:aGd ids H rs=true) (hKs:aCX ks rs=true) (ts:List Nat) (hT:aCY ts ops=true) (hP:∀ ch E1 H1 H2,(∀ t∈ts,E1.get t=E.get t)→Shp ids H H1→(∀ id∈ks,H1.get id=H.get id)→PP ch H1 H2→Q (.panic ch) E1 H2)
  (hK:QJ Fs→Q .normal E' H'):fE P G0 N (.region id ops true) Q E H:=by
 intro G hG a w hs ro hro;have hnd0:ro=none∨ops.toList.all Oper.noDefer=true:=hro;refine wpIn_region_any hm ?_;obtain ⟨⟨hlen,hlenF⟩,hst,hE',hH'⟩:=hc.spec;obtain ⟨l,hl⟩:∃ l,l=List.zipWith Ent2.mk ops.toList rs:=⟨_,rfl⟩;rw [← hl] at hst hE' hH';simp only [EM,aL2,← hl] at hok;obtain ⟨hok1,hok2⟩:=hok;have hll:l.length=ops.size:=by rw [hl];simp [hlen]
 have hlo:∀ (i:Nat) (x:Ent2),l[i]?=some x→ops.toList[i]?=some x.o:=by
  intro i x hx;rw [hl,List.getElem?_zipWith] at hx;cases e1:ops.toList[i]? with
  | none=>simp [e1] at hx
  | some o =>
   cases e2:rs[i]? with
   | none=>simp [e1,e2] at hx
   | some r=>simp [e1,e2] at hx;rw [← hx]
 have hedge:=C0 ops.toList 0 hok1;have hbef:∀ (i j:Nat) (x y:Ent2),i < j→l[i]?=some x→l[j]?=some y→iN ops.toList x y=true→Pre ops.toList i j:=fun i j x y hij hx hy hcl =>
  NY ops.toList [] [] rfl rfl (by simp) j i (CZ l [] hok2 i j hij (aLa _) x y hx hy hcl)
 have main:∀ (fuel:Nat) (listed:Array Bool) (a:Act) (w:World) (E1:bO) (H1:aB),listed.size=ops.size→((List.range ops.size).filter fun i=>!listed.getD i true).length≤fuel →
   aAm ops.toList (fun i=>listed.getD i false)→(∀ k,listed.getD k false=true→∀ F,Fs[k]?=some F→F)→St G N E1 H1 a w→(∀ t,E1.get t=vQ E l (fun i=>listed.getD i false) ops.size t)→(∀ j,H1.get j=uD H l (fun i=>listed.getD i false) ops.size j) →
   wpAnyIn (RF ro) 0 P .any ops (fun e a w=>∃ E H,Q e E H∧St G N E H a w) fuel listed a w:=by
  intro fuel
  induction fuel with
  | zero =>
   intro listed a w E1 H1 hsz hcnt hdown hfac hst1 hE1 hH1;have hall:∀ i,i < ops.size→listed.getD i false=true:=by
    intro i hi;have hnil:=List.eq_nil_of_length_eq_zero (Nat.le_zero.1 hcnt);have:=List.filter_eq_nil_iff.1 hnil i (List.mem_range.2 hi);have hi':i < listed.size:=by omega
    simp [Array.getD,hi'] at this ⊢;exact this
   refine⟨?_,E',H',hK (QA fun k F hF=>hfac k (hall k (by have:=(aLX.1 hF).1;rw [hlenF] at this;simpa using this)) F hF),?_⟩
   ·unfold Region.ready;refine List.filter_eq_nil_iff.2 fun i hi=>?_;have:=hall i (List.mem_range.1 hi);have hi':i < listed.size:=by have:=List.mem_range.1 hi;omega
    simp [Array.getD,hi'] at this;simp [Array.getD,hi',this]
   refine cD.get (G0:=G0) (fun t=>?_) (fun j=>?_) G hG N a w hst1
   ·rw [hE' t,hE1 t,Array.length_toList];exact(mR (E:=E) ops.size ops.size (aLZ _) (fun j x hj _=>⟨fun hlt=>hall j hlt,fun h1 h2=>by omega⟩)).symm
   rw [hH' j,hH1 j,Array.length_toList];exact(mQ (H:=H) ops.size ops.size (aLZ _) (fun i x hi _=>⟨fun hlt=>hall i hlt,fun h1 h2=>by omega⟩)).symm
  | succ fuel ih =>
   intro listed a w E1 H1 hsz hcnt hdown hfac hst1 hE1 hH1;refine⟨fun hnil=>?_,fun i hi=>?_⟩
   ·-- nothing is left
    have hall:∀ i,i < ops.size→listed.getD i false=true:=by
     intro i
     induction i using Nat.strongRecOn with
     | _ i ihi =>
      intro hi;refine Classical.byContradiction fun hno=>?_;have hi':i < listed.size:=by omega
      have hno':listed.getD i true=false:=by
       simp [Array.getD,hi'] at hno ⊢;exact hno
      have hlt:i < ops.toList.length:=by simpa using hi
      have hr:i∈Region.ready .any ops listed:=by
       unfold Region.ready;refine List.mem_filter.2 ⟨List.mem_range.2 hi,?_⟩;have ho:ops[i]?=some ops[i]:=Array.getElem?_eq_getElem hi;simp only [hno',Bool.not_false,Bool.true_and,ho,Option.map_some,Option.getD_some];rw [Array.all_eq_true'];intro e he;cases hb:Region.binds .any e with
       | false=>simp
       | true =>
        have hon:=hedge i ops[i] (by simp [ho]) e (by simpa using he) hb;simp only [Bool.not_true,Bool.false_or];exact ihi e.on (by omega) (by omega)
      rw [hnil] at hr;cases hr
    refine⟨E',H',hK (QA fun k F hF=>hfac k (hall k (by have:=(aLX.1 hF).1;rw [hlenF] at this;simpa using this)) F hF),?_⟩;refine cD.get (G0:=G0) (fun t=>?_) (fun j=>?_) G hG N a w hst1
    ·rw [hE' t,hE1 t,Array.length_toList];exact(mR (E:=E) ops.size ops.size (aLZ _) (fun j x hj _=>⟨fun hlt=>hall j hlt,fun h1 h2=>by omega⟩)).symm
    rw [hH' j,hH1 j,Array.length_toList];exact(mQ (H:=H) ops.size ops.size (aLZ _) (fun i x hi _=>⟨fun hlt=>hall i hlt,fun h1 h2=>by omega⟩)).symm
   have hi1:=List.mem_filter.1 hi;have hilt:i < ops.size:=List.mem_range.1 hi1.1;have hi':i < listed.size:=by omega
   have ho:ops[i]?=some ops[i]:=Array.getElem?_eq_getElem hilt;have hi2:=hi1.2;simp only [ho,Option.map_some,Option.getD_some,aL2] at hi2;obtain ⟨hnl,hpreds⟩:=hi2;have hnl':listed.getD i false=false:=by
    simp [Array.getD,hi'] at hnl ⊢;exact hnl
   have hpre:∀ e∈(ops[i]).after.toList,Region.binds .any e=true→listed.getD e.on false=true:=by
    intro e he hb;have:=(Array.all_eq_true'.1 hpreds) e (by simpa using he)
    simpa [hb] using this
   have hil:i < l.length:=by omega
   obtain ⟨x,hx⟩:∃ x,l[i]?=some x:=⟨_,aLY hil⟩;have hxo:x.o=ops[i]:=by
    have:=hlo i x hx;simp [ho] at this;exact this.symm
   obtain ⟨hdok,F,hFi,Ek,Hk,hEk,hHk,hdst⟩:=hst i x hx;have hbefore:∀ (j:Nat) (y:Ent2),j < i→l[j]?=some y→iN ops.toList y x=true→listed.getD j false=true:=by
    intro j y hj hy hcl;exact hbef j i y x hj hy hx hcl _ hdown ops[i] (by simp [ho]) hpre
   have hbehind:∀ (j:Nat) (y:Ent2),i < j→l[j]?=some y→iN ops.toList x y=true→listed.getD j false=false:=by
    intro j y hj hy hcl;cases hjl:listed.getD j false with
    | false=>rfl
    | true =>
     have hjlt:j < l.length:=(aLX.1 hy).1;have hjo:ops.toList[j]?=some y.o:=hlo j y hy;have:=hbef i j x y hj hx hy hcl _ hdown y.o hjo (fun e he hb=>hdown j y.o hjo hjl e he hb);rw [hnl'] at this;cases this
   have agreeE:∀ t,(∀ (j:Nat) (y:Ent2),l[j]?=some y→y.o.dst=some t→(j < i→iN ops.toList y x=true)∧(i < j→iN ops.toList x y=true))→E1.get t=Ek.get t:=by
    intro t ht;rw [hE1 t,hEk t];refine mR (E:=E) ops.size i (by omega) (fun j y hj hd=>⟨fun hlt=>hbefore j y hlt hj ((ht j y hj hd).1 hlt),fun h1 h2=>?_⟩);by_cases e:j=i
    ·subst e;exact hnl'
    exact hbehind j y (by omega) hj ((ht j y hj hd).2 (by omega))
   have agreeH:∀ k,(∀ (j:Nat) (y:Ent2),l[j]?=some y→(y.r.W.get k).isSome=true→(j < i→iN ops.toList y x=true)∧(i < j→iN ops.toList x y=true))→H1.get k=Hk.get k:=by
    intro k hk;rw [hH1 k,hHk k];refine mQ (H:=H) ops.size i (by omega) (fun j y hj hd=>⟨fun hlt=>hbefore j y hlt hj ((hk j y hj hd).1 hlt),fun h1 h2=>?_⟩);by_cases e:j=i
    ·subst e;exact hnl'
    exact hbehind j y (by omega) hj ((hk j y hj hd).2 (by omega))
   have hlooks:∀ t,t∈fF ops.toList x.o→E1.get t=Ek.get t:=fun t ht =>
    agreeE t fun j y hj hd=>⟨fun _=>xJ hd ht,fun _=>xI hd ht⟩
   have hreads:∀ k,uO x.r.R k=true→H1.get k=Hk.get k:=fun k hk =>
    agreeH k fun j y hj hd=>⟨fun _=>NW hd hk,fun _=>NX hd hk⟩
   have hlist:∀ j,(listed.setIfInBounds i true).getD j false=if j=i then true else listed.getD j false:=by
    intro j;by_cases e:j=i
    ·subst e;simp [Array.getD,hi']
    simp only [Array.getD_eq_getD_getElem?,Array.getElem?_setIfInBounds_ne (Ne.symm e),e,if_false]
   have hdown':aAm ops.toList (fun j=>(listed.setIfInBounds i true).getD j false):=by
    intro j o hj hjl e he hb;simp only [hlist] at hjl ⊢;by_cases ej:j=i
    ·subst ej;have:o=ops[j]:=by simp [ho] at hj;exact hj.symm
     subst this;have:=hpre e he hb;simp [this]
    simp only [ej,if_false] at hjl;have:=hdown j o hj hjl e he hb;simp only at this;simp [this]
   have hcnt':((List.range ops.size).filter fun j=>!(listed.setIfInBounds i true).getD j true).length≤fuel:=by
    have hlist':∀ j,(listed.setIfInBounds i true).getD j true=if j=i then true else listed.getD j true:=by
     intro j;by_cases e:j=i
     ·subst e;simp [Array.getD,hi']
     simp only [Array.getD_eq_getD_getElem?,Array.getElem?_setIfInBounds_ne (Ne.symm e),e,if_false]
    have h1:((List.range ops.size).filter fun j=>!(listed.setIfInBounds i true).getD j true)=((List.range ops.size).filter fun j=>!listed.getD j true).filter fun j=>j != i:=by
     rw [List.filter_filter];refine List.filter_congr fun j _=>?_;rw [hlist'];by_cases e:j=i<;>simp [e]
    rw [h1];have h2:=List.length_filter_lt_length_iff_exists (p:=fun j=>j != i) (l:=(List.range ops.size).filter fun j=>!listed.getD j true) |>.2 ⟨i,List.mem_filter.2 ⟨hi1.1,by simpa using hnl⟩,by simp⟩;omega
   have next:∀ (r:AV) (a':Act) (w':World),F→r=x.r.v→St G N (iI E1 x.o.dst x.r.v) (x.r.W++H1) a' w'→wpAnyIn (RF ro) 0 P .any ops (fun e a w=>∃ E H,Q e E H∧St G N E H a w) fuel (listed.setIfInBounds i true) a' w':=by
    intro r a' w' hFx _ hst';refine ih _ a' w' _ _ (by simp [hsz]) hcnt' hdown' (fun k hk F' hF'=>?_) hst' (fun t=>?_) (fun k=>?_)
    ·rw [hlist] at hk;by_cases e:k=i
     ·subst e;rw [hFi] at hF';cases hF';exact hFx
     rw [aLR e] at hk;exact hfac k hk F' hF'
    ·-- slots
     by_cases hd:x.o.dst=some t
     ·have e1:bO.get (iI E1 x.o.dst x.r.v) t=some x.r.v:=by rw [hd];simp [iI,bO.get_cons_same]
      rw [e1];have e2:=mR (E:=E) (l:=l) (S:=fun j=>(listed.setIfInBounds i true).getD j false) (t:=t) ops.size (i+1) (by omega) (fun j y hj hyd=>⟨fun hlt=>?_,fun h1 h2=>?_⟩)
      ·rw [e2,vQ,hx];simp [hd]
      ·simp only [hlist];by_cases ej:j=i
       ·simp [ej]
       simp only [ej,if_false];exact hbefore j y (by omega) hj (oW hyd hd)
      simp only [hlist];rw [aLR (by omega)];exact hbehind j y (by omega) hj (oW hd hyd)
     have e1:bO.get (iI E1 x.o.dst x.r.v) t=E1.get t:=by
      cases hdd:x.o.dst with
      | none=>rfl
      | some d=>exact bO.get_cons_other _ _ (fun e=>hd (by rw [hdd,e]))
     rw [e1,hE1 t];have:∀ n,vQ E l (fun i=>listed.getD i false) n t=vQ E l (fun j=>(listed.setIfInBounds i true).getD j false) n t:=by
      intro n
      induction n with
      | zero=>rfl
      | succ n ihn =>
       rw [vQ,vQ];cases hn:l[n]? with
       | none=>exact ihn
       | some y =>
        simp only;by_cases en:n=i
        ·subst en;rw [hx] at hn;cases hn;rw [aLR (fun h=>hd h.2),aLR (fun h=>hd h.2)];exact ihn
        have hS:(listed.setIfInBounds i true).getD n false=listed.getD n false:=by rw [hlist,aLR en]
        rw [hS,ihn]
     exact this _
    rw [AH];by_cases hd:(x.r.W.get k).isSome=true
    ·obtain ⟨ob,hob⟩:=Option.isSome_iff_exists.1 hd;rw [hob];have e2:=mQ (H:=H) (l:=l) (S:=fun j=>(listed.setIfInBounds i true).getD j false) (id:=k) ops.size (i+1) (by omega) (fun j y hj hyd=>⟨fun hlt=>?_,fun h1 h2=>?_⟩)
     ·rw [e2,uD,hx];simp [hob]
     ·simp only [hlist];by_cases ej:j=i
      ·simp [ej]
      simp only [ej,if_false];exact hbefore j y (by omega) hj (AK hyd hd)
     simp only [hlist];rw [aLR (by omega)];exact hbehind j y (by omega) hj (AK hd hyd)
    have hnone:x.r.W.get k=none:=by simpa using hd
    rw [hnone];simp only;rw [hH1 k];have:∀ n,uD H l (fun i=>listed.getD i false) n k=uD H l (fun j=>(listed.setIfInBounds i true).getD j false) n k:=by
     intro n
     induction n with
     | zero=>rfl
     | succ n ihn =>
      rw [uD,uD];cases hn:l[n]? with
      | none=>exact ihn
      | some y =>
       simp only;by_cases en:n=i
       ·subst en;rw [hx] at hn;cases hn;rw [aLR (fun h=>hd h.2),aLR (fun h=>hd h.2)];exact ihn
       have hS:(listed.setIfInBounds i true).getD n false=listed.getD n false:=by rw [hlist,aLR en]
       rw [hS,ihn]
    exact this _
   unfold wpOpIn;simp only [ho];rw [hxo] at hdst hlooks hdok;rw [hxo] at next;have hgE:∀ (j:Nat) (want:Bool) (t:Tmp) (b:Bool),(ops[i]).guard=some (j,want)→gS ops.toList j=some t→Ek.get t=some (.pv (.bool b))→yielded ops a.tmps j=some b:=by
    intro j want t b hg hj hb;have hmem:t∈fF ops.toList ops[i]:=by simp [fF,hg,hj]
    exact qJ (E:=E1) hj ((hlooks t hmem).trans hb) hst1.rel.choose_spec.choose_spec.2.2
   have hnd:ro=none∨(ops[i]).noDefer=true:=hnd0.imp (fun h=>h) fun h=>List.all_eq_true.1 h _ (by simp);cases hdst with
   | pan hg h =>
    have hlr:∀ y∈l,y.r∈rs:=fun y hy=>by
     obtain ⟨k,hk⟩:=aLe.1 hy;rw [hl,List.getElem?_zipWith] at hk;cases e1:ops.toList[k]? with
     | none=>simp [e1] at hk
     | some o=>cases e2:rs[k]? with
      | none=>simp [e1,e2] at hk
      | some r=>simp [e1,e2] at hk;rw [← hk];exact aL3 e2
    have hw:Region.wanted ops[i] (yielded ops a.tmps)=true:=by simp [Region.wanted,hg]
    simp only [hw,if_true];refine hst1.opP hdok ((h H1 hreads).restr hlooks) ?_ ?_ hnd
    ·rintro r H2 a' w' ⟨rfl,rfl,hF⟩ hs';exact next _ a' w' hF rfl hs'
    intro ch H2 w' hp hs';refine⟨E1,H2,hP ch E1 H1 H2 (fun t ht=>(hE1 t).trans (IF (fun y hy=>VM hT t ht y.o (by
     obtain ⟨k,hk⟩:=aLe.1 hy;exact aL3 (hlo k y hk))) _)) (fun id hid o ho=>?_) (fun id hid=>(hH1 id).trans (IE (fun y hy=>VL hKs id hid y.r (hlr y hy)) _)) hp,hs'⟩
    have hsh:=OH (H:=H) (l:=l) (S:=fun i=>listed.getD i false) (id:=id) ho (fun y hy o' ho'=>?_) ops.size
    ·obtain ⟨o',h1,h2⟩:=hsh;exact⟨o',(hH1 id).trans h1,h2⟩
    exact ZE hW y.r (hlr y hy) id hid o' ho' o ho
   | old hF hdst =>
    have next:=fun r a' w'=>next r a' w' hF;cases hdst with
    | plain hg h =>
     have hw:Region.wanted ops[i] (yielded ops a.tmps)=true:=by simp [Region.wanted,hg]
     simp only [hw,if_true];refine hst1.op hdok ((h H1 hreads).restr hlooks) ?_ hnd;rintro r H2 a' w' ⟨rfl,rfl⟩ hs';exact next _ a' w' rfl hs'
    | on j want t b hg hj hb hw h =>
     have hy:=hgE j want t b hg hj hb;have hw:Region.wanted ops[i] (yielded ops a.tmps)=true:=by simp [Region.wanted,hg,hy,hw]
     simp only [hw,if_true];refine hst1.op hdok ((h H1 hreads).restr hlooks) ?_ hnd;rintro r H2 a' w' ⟨rfl,rfl⟩ hs';exact next _ a' w' rfl hs'
    | off j want t x' hg hj hb hw hv hW =>
     have hmem:t∈fF ops.toList ops[i]:=by simp [fF,hg,hj]
     have hw:Region.wanted ops[i] (yielded ops a.tmps)=false :=
      EX (E:=E1) hg hj ((hlooks t hmem).trans hb) hw hst1.rel.choose_spec.choose_spec.2.2
     simp only [hw,Bool.false_eq_true,if_false];refine⟨fun _ _=>trivial,?_⟩;refine next (.tup []) _ w hv.symm ?_;obtain ⟨I,ι,hr,hst2,he⟩:=hst1.rel;rw [hv,hW];refine⟨?_,?_,I,ι,hr,hst2,gQ.put hr (Step.refl _ _ _ _) he gQ.skip (by rw [hst1.size];exact hdok)⟩
     ·rw [fN];exact hst1.defers
     have:=hst1.size;cases (ops[i]).dst<;>simpa [Act.put] using this
 have hs':St G N E H a {w with drawn:=w.drawn+1}:=by
  obtain ⟨I,ι,hr,hst2,he⟩:=hs.rel;obtain ⟨k2,k3⟩:=hr.drawn (w':={w with drawn:=w.drawn+1}) rfl rfl rfl rfl;exact⟨hs.defers,hs.size,I,ι,k2,hst2.trans k3,fun t v ht=>let ⟨c,h1,h2⟩:=he t v ht;⟨c,h1,h2.mono hr k3⟩⟩
 refine main ops.size (Array.replicate ops.size false) a _ E H (by simp) (by
  have:=List.length_filter_le (fun i=>!(Array.replicate ops.size false).getD i true) (List.range ops.size)
  simpa using this) (fun j o hj hjl=>by simp [Array.getD] at hjl) (fun k hk=>by simp [Array.getD] at hk) hs' (fun t=>?_) (fun k=>?_)
 ·have:∀ n,vQ E l (fun i=>(Array.replicate ops.size false).getD i false) n t=E.get t:=by
   intro n
   induction n with
   | zero=>rfl
   | succ n ihn =>
    rw [vQ];cases l[n]? with
    | none=>exact ihn
    | some y =>
     have hf:(Array.replicate ops.size false).getD n false=false:=by simp [Array.getD]
     simp only [hf,Bool.false_eq_true,false_and,if_false];exact ihn
  exact(this _).symm
 have:∀ n,uD H l (fun i=>(Array.replicate ops.size false).getD i false) n k=H.get k:=by
  intro n
  induction n with
  | zero=>rfl
  | succ n ihn =>
   rw [uD];cases l[n]? with
   | none=>exact ihn
   | some y =>
    have hf:(Array.replicate ops.size false).getD n false=false:=by simp [Array.getD]
    simp only [hf,Bool.false_eq_true,false_and,if_false];exact ihn
 exact(this _).symm
def DCP (P:Program) (N:Nat) (PP:D2→aB→aB→Prop) (ops rest:List Oper) (E:bO) (H:aB) (K:List Rec→List Prop→bO→aB→Prop):Prop:=∃ rs Fs E' H',DChainP P N ops PP rest E H rs Fs E' H'∧K rs Fs E' H'
theorem DI {P:Program} {N:Nat} {PP:D2→aB→aB→Prop} {ops:List Oper} {E:bO} {H:aB} {K:List Rec→List Prop→bO→aB→Prop} (h:K [] [] E H):DCP P N PP ops [] E H K:=⟨_,_,_,_,.nil,h⟩
theorem pK {P:Program} {N:Nat} {PP:D2→aB→aB→Prop} {ops rest:List Oper} {o:Oper} {E:bO} {H:aB} {K:List Rec→List Prop→bO→aB→Prop} {r:Rec} {F:Prop} (h:DStepP P N ops PP o E H r F) (hd:gM N o.dst=true)
  (hk:DCP P N PP ops rest (iI E o.dst r.v) (r.W++H) (fun rs Fs E' H'=>K (r::rs) (F::Fs) E' H')):DCP P N PP ops (o::rest) E H K:=by
 obtain ⟨rs,Fs,E',H',h1,h2⟩:=hk;exact⟨_,_,_,_,.cons h hd h1,h2⟩
theorem bU {P:Program} {N:Nat} {PP:D2→aB→aB→Prop} {ops rest:List Oper} {o:Oper} {E:bO} {H:aB} {K:List Rec→List Prop→bO→aB→Prop} {r:Rec} (h:DStep P N ops o E H r) (hd:gM N o.dst=true)
  (hk:DCP P N PP ops rest (iI E o.dst r.v) (r.W++H) (fun rs Fs E' H'=>K (r::rs) (True::Fs) E' H')):DCP P N PP ops (o::rest) E H K:=pK (.old trivial h) hd hk
theorem rV {P:Program} {G0:aB} {N id:Nat} {Q:Exit→bO→aB→Prop} {ops:Array Oper} {E:bO} {H:aB} (PP:D2→aB→aB→Prop) (ts ids ks:List Nat) (hT:aCY ts ops=true) (hm:P.follows .mixedOrders=true)
  (hP:∀ ch E1 H1 H2,(∀ t∈ts,E1.get t=E.get t)→Shp ids H H1→(∀ id∈ks,H1.get id=H.get id)→PP ch H1 H2→Q (.panic ch) E1 H2)
  (h:DCP P N PP ops.toList ops.toList E H (fun rs Fs E' H'=>(EM ops.toList rs=true∧aGd ids H rs=true∧aCX ks rs=true)∧(QJ Fs→Q .normal E' H'))):fE P G0 N (.region id ops true) Q E H:=by
 obtain ⟨rs,Fs,E',H',h1,⟨h2,h4,h5⟩,h3⟩:=h;exact aA7 hm h1 h2 ids ks h4 h5 ts hT hP h3
end
section
abbrev aD1 (G:Entry) (Q:AV→aB→Prop):Ending→World→Prop:=fun e w'=>∃ r H' I' ι' v,e=.returned v∧Q r H'∧VRel w' I' ι' H' v r∧Rel I' ι' H' w'∧Step G.I G.ι G.H G.w I' ι' H' w'
def DWp (P:Program) (fn:Func) (G0:aB) (N:Nat) (Q:AV→aB→Prop) (c:Code) (E:bO) (H:aB):Prop :=∀ G:Entry,G.H=G0→G.ds=[]→∀ a w,St G N E H a w→c.wpIn Fence.wide 0 P (bodyPostM Fence.wide 0 P fn (aD1 G Q)) a w
section
variable {P:Program} {fn:Func} {G0 H:aB} {N:Nat} {Q:AV→aB→Prop} {E:bO}
theorem uZ {G:Entry} {e:Exit} {a:Act} {w:World} (hG:G.H=G0) (hd:G.ds=[]) (h:FL P fn G0 Q e E H) (hs:St G N E H a w):bodyPostM Fence.wide 0 P fn (aD1 G Q) e a w:=by
 obtain ⟨he,r,hres,r',H'',hfin,hq⟩:=h;have key:LeavesInM Fence.wide 0 P fn a.tmps (aD1 G Q) a.defers .returning w:=by
  obtain ⟨I',ι',hr',hst',hE'⟩:=hs.rel;refine qE (hd▸hs.defers) hr' hst' hE' ?_;intro w2 hr2 hst2 hE2;obtain ⟨v,h1,h2⟩:=hres a w2 I' ι' hr2 hE2;obtain ⟨I2,ι2,k1,k2,k3⟩:=hfin G hG I' ι' w2 v hr2 hst2 h2;exact⟨v,h1,r',H'',I2,ι2,v,rfl,hq,k3,k1,k2⟩
 rcases he with rfl|rfl
 ·exact key
 exact key
theorem YC {x y:Code} (h:fE P G0 N x (vC (fun E1 H1=>DWp P fn G0 N Q y E1 H1) (FL P fn G0 Q)) E H):DWp P fn G0 N Q (.seq x y) E H:=by
 intro G hG hd a w hs;refine wpIn_seq (wpIn_mono (h G hG a w hs none (.inl rfl)) ?_);rintro e a' w' ⟨E',H',hq,hs'⟩;cases e with
 | normal=>exact hq G hG hd a' w' hs'
 | exit id=>exact uZ hG hd hq hs'
 | goto l=>exact uZ hG hd hq hs'
 | ret=>exact uZ hG hd hq hs'
 | panic ch=>exact uZ hG hd hq hs'
 | outgrown=>exact uZ hG hd hq hs'
theorem aH.bodyD {f:FuncId} {c:Code} {args:List AV} (hf:P.funcs[f]?=some fn) (hb:fn.body=some c) (hN:fn.ntmps=N) (hlen:args.length≤N) (h:DWp P fn H N Q c (kA args) H):aH P f args H Q:=by
 intro I ι w vs hr hl hv;refine callsIn_wide.1 (callsIn_of_wp_marks (F:=Fence.wide) (n:=0) hf hb trivial ?_);have hst:St ⟨I,ι,H,w,[]⟩ N (kA args) H {tmps:=vs++Array.replicate (fn.ntmps - vs.size) undef,defers:=[]} w:=by
  refine⟨nY.nil _ _ _,?_,I,ι,hr,Step.refl _ _ _ _,fun t a ht=>?_⟩
  ·simp;omega
  have ha:=qL ht;have hlt:t < vs.size:=by rw [hl];exact(aLX.1 ha).1
  have hu:vs[t]?=some vs[t]:=Array.getElem?_eq_getElem hlt;exact⟨vs[t],by rw [Array.getElem?_append_left hlt];exact hu,hv t _ a hu ha⟩
 exact h ⟨I,ι,H,w,[]⟩ rfl rfl _ w hst
end
def QK (P:Program) (F:FuncId) (args:List AV) (H:aB) (u:FrameMode) (K:aB→Prop):Prop :=∀ (I:Nat→Prop) (ι:dR) (w:World) (vs:Array Value),Rel I ι H w→vs.size=args.length→(∀ (i:Nat) (v:Value) (a:AV),vs[i]?=some v→args[i]?=some a→VRel w I ι H v a) →
  CallsDIn Fence.wide 0 P F vs u w fun e u' w'=>∃ v H' I' ι',e=.returned v∧settle u'=.returning∧K H'∧Rel I' ι' H' w'∧Step I ι H w I' ι' H' w'
def YQ (P:Program) (fn:Func) (G0 H0:aB) (F:FuncId) (cs:List AV) (Q:AV→aB→Prop) (e:Exit) (E:bO) (H:aB):Prop :=∃ u E1 H1,((e=.normal∨e=.ret)∧u=.returning∨∃ ch,e=.panic ch∧u=.panicking ch)∧cD H0 E H E1 H1 ∧
  QK P F cs H1 u fun H2=>∃ r,(∀ (a:Act) (w:World) (I:Nat→Prop) (ι:dR),Rel I ι H2 w→gQ w I ι H2 E1 a→∃ v,(results fn a.tmps).run P w=.ok v w∧VRel w I ι H2 v r)∧∃ r' H3,Fin G0 H2 r H3 r'∧Q r' H3
section
variable {P:Program} {fn:Func} {G0 H:aB} {N:Nat} {Q:AV→aB→Prop} {E:bO}
theorem aAR {id:Nat} {o1 o2:Oper} {ops:Array Oper} {rest:Code} {F:FuncId} {caps:Array Operand} {at_:Array TypeId} {d:Tmp} {cs:List AV} (hops:ops.toList=[o1,o2]) (hg1:o1.guard=none) (hd1:o1.dst=some d) (hdN:Nat.blt d N=true) (ho1:o1.op=.makeFunc (.func F) #[] caps)
  (hg2:o2.guard=none) (hd2:o2.dst=none) (ho2:o2.op=.defer {callee:=.value (.tmp d),args:=#[],argTypes:=at_}) (hv:sX E caps.toList=some cs)
  (hc:∀ (args:Array Value) (w:World),(callFunc F args).run P w=.ok (.enter F args) w)
  (h:fE P H N rest (YQ P fn G0 H F cs Q) ((d,.clo F cs)::E) H):DWp P fn G0 N Q (.seq (.region id ops false) rest) E H:=by
 intro G hG hd a w hs;refine wpIn_seq (wpIn_region_list ?_);rw [hops];refine wpListIn_plain hg1 fun K1 hK1=>?_;refine hs.op (R:=fun r H'=>r=.clo F cs∧H'=H) (ro:=none) (by rw [hd1];exact hdN) (eZ ho1 (jV hv)) ?_ (.inl rfl);rintro r H' a1 w1 ⟨rfl,rfl⟩ hs1;refine hK1 a1 w1 ?_;rw [hd1] at hs1;refine wpListIn_plain hg2 fun K2 hK2=>?_;refine Oper.wpW_in (ro:=none) (.inl rfl) ?_;obtain ⟨I1,ι1,hr1,hst1,he1⟩:=hs1.rel;obtain ⟨c1,hc1,hv1⟩:=he1 d _ (bO.get_cons_same _ _ _);have hev:a1.eval (.tmp d)=c1:=by simp [Act.eval,hc1]
 cases hv1 with
 | @clo _ us _ hl hh =>
  unfold Oper.wpW execOp;simp only [ho2,resolve,hev,Deferred.ofValue,Sem.run_bind,Sem.run_pure,Result.andThen_ok,Oper.uponW,hd2,Act.put];refine hK2 _ w1 ?_;show Exit.then _ _ .normal _ w1
  let dd:Deferred:={target:=.fn (.func F) us,args:=#[]++(#[]:Array Operand).map a1.eval}
  have hst2:St ⟨I1,ι1,H',w1,dd::a1.defers⟩ N ((d,.clo F cs)::E) H' {a1 with defers:=dd::a1.defers} w1 :=
   ⟨nY.nil _ _ _,hs1.size,I1,ι1,hr1,Step.refl _ _ _ _,he1⟩
  refine wpIn_mono (h ⟨I1,ι1,H',w1,dd::a1.defers⟩ rfl _ w1 hst2 none (.inl rfl)) ?_;rintro e a' w' ⟨E',H2,⟨u,E1,H1,hmode,hent,hdef⟩,hs2⟩;have hs3:=hent _ rfl N a' w' hs2;have key:u≠.run→LeavesInM Fence.wide 0 P fn a'.tmps (aD1 G Q) a'.defers u w':=by
   intro hu;obtain ⟨I3,ι3,hr3,hst3,he3⟩:=hs3.rel;refine tG (G:=⟨I1,ι1,H',w1,dd::a1.defers⟩) hu hs3.defers hr3 hst3 he3 ?_;intro w4 hr4 hst4 he4;refine⟨hu,.inr ⟨(fun hx=>by cases hx),.func F,us,F,us,rfl,?_,fun _ _=>trivial,?_⟩⟩
   ·show (invoke (.fn (.func F) us) (#[]++(#[]:Array Operand).map a1.eval)).run P w4=_;simp only [invoke,Array.map_empty,Array.empty_append,hc]
   refine(hdef I3 ι3 w4 us hr4 (by simpa using hl) (fun i v b hv hb=>(hh i v b hv hb).mono hr1 hst4)).mono ?_;rintro e2 u' w5 ⟨v,H5,I5,ι5,rfl,hset,⟨r,hres,r',H6,hfin,hq⟩,hr5,hst5⟩;show LeavesInM Fence.wide 0 P fn a'.tmps (aD1 G Q) a1.defers (settle u') w5;rw [hset];have hall:Step G.I G.ι G.H G.w I5 ι5 H5 w5:=(hst1.trans hst4).trans hst5;have hm1:nY [] G.w w5 a1.defers:=(hd▸hs1.defers).step hr1 (hst4.trans hst5);refine qE hm1 hr5 hall (fun t v ht=>let ⟨c,x1,x2⟩:=he4 t v ht;⟨c,x1,x2.mono hr4 hst5⟩) ?_;intro w7 hr7 hst7 he7;obtain ⟨v,h1,h2⟩:=hres a' w7 I5 ι5 hr7 he7;obtain ⟨I8,ι8,k1,k2,k3⟩:=hfin G hG I5 ι5 w7 v hr7 hst7 h2;exact⟨v,h1,r',H6,I8,ι8,v,rfl,hq,k3,k1,k2⟩
  rcases hmode with⟨rfl|rfl,rfl⟩|⟨ch,rfl,rfl⟩
  ·exact key (by simp)
  ·exact key (by simp)
  exact key (by simp)
end
end
end Go.Abs
namespace Go.Abs
open Go.Proofs
section
section
variable {P:Program} {G0:aB} {N:Nat} {Q:Exit→bO→aB→Prop} {E:bO} {H:aB}
def LW (P:Program) (G0:aB) (N:Nat) (c:Code) (Q:Exit→bO→aB→Prop) (E:bO) (H:aB):Prop :=∀ G:Entry,G.H=G0→∀ a w,St G N E H a w→c.wpIn (RF none) 0 P (fun e a' w'=>(∃ E H,Q e E H∧St G N E H a' w')∧a'.defers=a.defers) a w
def ALN (P:Program) (G0:aB) (N:Nat) (ops:Array Oper) (K:bO→aB→Prop) (l:List Oper) (E:bO) (H:aB):Prop :=∀ G:Entry,G.H=G0→∀ a w,St G N E H a w→∀ Q:Exit→Act→World→Prop,(∀ E H a' w',K E H→St G N E H a' w'→a'.defers=a.defers→Q .normal a' w')→wpListIn (RF none) 0 P ops Q l a w
theorem AP {ops:Array Oper} {K:bO→aB→Prop} (h:K E H):ALN P G0 N ops K [] E H:=fun _ _ a w hs _ hq=>hq _ _ a w h hs rfl
theorem St.opN {G:Entry} {a:Act} {w:World} {o:Oper} {R:AV→aB→Prop} (hs:St G N E H a w) (hd:gM N o.dst=true) (h:WT P N o E H R) {K:Act→World→Prop} {Q:Exit→Act→World→Prop}
  (hk:∀ r H' a' w',R r H'→St G N (iI E o.dst r) H' a' w'→a'.defers=a.defers→K a' w'):o.wpIn (RF none) 0 P a w K Q:=by
 refine Oper.wpW_in (.inl rfl) ?_;obtain ⟨I,ι,hr,hst,he⟩:=hs.rel;refine h a w I ι trivial hs.size hr he K Q ?_;intro c w' I' ι' r H' hR hv hr' hs';refine hk r H' _ w' hR ⟨?_,?_,I',ι',hr',hst.trans hs',gQ.put hr hs' he hv (by rw [hs.size];exact hd)⟩ (fN _ _ _)
 ·rw [fN];exact hs.defers.step hr hs'
 have:=hs.size;cases o.dst<;>simpa [Act.put] using this
theorem aGU {ops:Array Oper} {K:bO→aB→Prop} {o:Oper} {rest:List Oper} {R:AV→aB→Prop} (hg:o.guard=none) (hd:gM N o.dst=true) (h:WT P N o E H R) (hk:∀ r H',R r H'→ALN P G0 N ops K rest (iI E o.dst r) H'):ALN P G0 N ops K (o::rest) E H:=by intro G hG a w hs Q hq;refine wpListIn_plain hg fun K' hK=>?_;exact hs.opN hd h fun r H' a' w' hR hs' hd'=>hK _ _ (hk r H' hR G hG a' w' hs' Q fun E H a'' w'' hKK hs'' hd''=>hq E H a'' w'' hKK hs'' (hd''.trans hd'))
theorem GF {ops:Array Oper} {K:bO→aB→Prop} {o:Oper} {rest:List Oper} {d:Tmp} {v:AV} {H2:aB} (hg:o.guard=none) (hd:o.dst=some d) (hn:Nat.blt d N=true) (h:cB P N o E H v H2) (hk:ALN P G0 N ops K rest ((d,v)::E) H2):ALN P G0 N ops K (o::rest) E H :=aGU hg (by rw [hd];exact hn) h fun r H' ⟨e1,e2⟩=>by subst e1 e2;rw [hd];exact hk
theorem aDP {ops:Array Oper} {K:bO→aB→Prop} {o:Oper} {rest:List Oper} {v:AV} {H2:aB} (hg:o.guard=none) (hd:o.dst=none) (h:cB P N o E H v H2) (hk:ALN P G0 N ops K rest E H2):ALN P G0 N ops K (o::rest) E H :=aGU hg (by rw [hd];rfl) h fun r H' ⟨e1,e2⟩=>by subst e1 e2;rw [hd];exact hk
theorem mY {id:Nat} {ops:Array Oper} (h:ALN P G0 N ops (fun E H=>Q .normal E H) ops.toList E H):LW P G0 N (.region id ops false) Q E H:=fun G hG a w hs =>
 wpIn_region_list (h G hG a w hs _ fun E H a' w' q s hd=>⟨⟨E,H,q,s⟩,hd⟩)
theorem DM {x y:Code} (h:LW P G0 N x (vC (LW P G0 N y Q) Q) E H):LW P G0 N (.seq x y) Q E H:=by intro G hG a w hs;refine wpIn_seq (wpIn_mono (h G hG a w hs) ?_);rintro e a' w' ⟨⟨E',H',q,s⟩,hd⟩;cases e<;>first|exact wpIn_mono (q G hG a' w' s) (fun e a w ⟨h1,h2⟩=>⟨h1,h2.trans hd⟩)|exact⟨⟨E',H',q,s⟩,hd⟩
theorem J8 {id:Nat} {c:Code} (h:LW P G0 N c (DV id Q) E H):LW P G0 N (.block id c) Q E H:=by
 intro G hG a w hs;refine wpIn_block (wpIn_mono (h G hG a w hs) ?_);rintro e a' w' ⟨⟨E',H',q,s⟩,hd⟩;cases e<;>try exact⟨⟨E',H',q,s⟩,hd⟩
 rename_i id';simp only [DV] at q;simp only [Exit.inBlock]
 split
 ·rename_i e1;subst e1;rw [kB] at q;exact⟨⟨E',H',q,s⟩,hd⟩
 rename_i e1;rw [jA e1] at q;exact⟨⟨E',H',q,s⟩,hd⟩
theorem FF {c:Operand} {x y:Code} {b:Bool} (hc:aN E c=some (.pv (.bool b))) (h1:b=true→LW P G0 N x Q E H) (h2:b=false→LW P G0 N y Q E H):LW P G0 N (.cond c x y) Q E H:=by intro G hG a w hs;obtain ⟨I,ι,hr,hst,he⟩:=hs.rel;have hb:a.eval c=.bool b:=(aI he hc).bool_inv;exact wpIn_cond_split hb (fun e=>h1 e G hG a w hs) (fun e=>h2 e G hG a w hs)
end
section
variable {P:Program} {fn:Func} {H:aB} {N:Nat} {F:FuncId} {args:List AV} {K:aB→Prop}
def aKt (H:aB) (K:aB→Prop) (e:Exit) (E':bO) (H':aB):Prop:=(e=.normal∨e=.ret)∧∃ H2,Fin H H' (.tup []) H2 (.tup [])∧K H2
theorem DS {id:Nat} {o:Oper} {ops:Array Oper} {c2:Code} {at_:Array TypeId} {d:Tmp} {u:FrameMode} {x:PV} {vx:Value} (hf:P.funcs[F]?=some fn) (hb:fn.body=some (.seq (.region id ops false) c2)) (hN:fn.ntmps=N) (hlen:args.length≤N) (hr0:fn.results=#[])
  (hops:ops=#[o]) (hg:o.guard=none) (hd:o.dst=some d) (hdN:Nat.blt d N=true) (ho:o.op=.call {callee:=.builtin .recover,args:=#[],argTypes:=at_})
  (hx:∀ (w:World) (I:Nat→Prop),PRep w I vx x) (hu:(u=.returning∧vx=.nilIface)∨(∃ t,u=.panicking (ms t)∧vx=.iface t (.agg #[])))
  (h:LW P H N c2 (aKt H K) ((d,.pv x)::kA args) H):QK P F args H u K:=by
 intro I ι w vs hr hl hv;refine callsDIn_of_wpSIn hf hb trivial ?_;intro c₀ cs hmode;refine wpSIn_seq (wpSIn_region ?_);subst hops;have hst:St ⟨I,ι,H,w,[]⟩ N (kA args) H {tmps:=vs++Array.replicate (fn.ntmps - vs.size) undef,defers:=[]} w:=by
  refine⟨nY.nil _ _ _,?_,I,ι,hr,Step.refl _ _ _ _,fun t a ht=>?_⟩
  ·simp;omega
  have ha:=qL ht;have hlt:t < vs.size:=by rw [hl];exact(aLX.1 ha).1
  have hu:vs[t]?=some vs[t]:=Array.getElem?_eq_getElem hlt;exact⟨vs[t],by rw [Array.getElem?_append_left hlt];exact hu,hv t _ a hu ha⟩
 obtain ⟨a,ha⟩:∃ a:Act,a={tmps:=vs++Array.replicate (fn.ntmps - vs.size) undef,defers:=[]}:=⟨_,rfl⟩;rw [← ha] at hst ⊢;have hadef:a.defers=[]:=by rw [ha]
 have hst2:St ⟨I,ι,H,w,[]⟩ N ((d,.pv x)::kA args) H (a.put (some d) vx) w:=by
  obtain ⟨I1,ι1,k1,k2,k3⟩:=hst.rel;refine⟨by rw [fN];exact hst.defers,?_,I1,ι1,k1,k2,?_⟩
  ·have:=hst.size
   simpa [Act.put] using this
  exact gQ.put (d:=some d) k1 (Step.refl _ _ _ _) k3 (.pv (hx _ _)) (by rw [hst.size];exact hdN)
 have rest:∀ u',settle u'=.returning→c2.wpSIn Fence.wide 0 P (bodyPostS P fn c₀ cs fun e u' w'=>∃ v H' I' ι',e=.returned v∧settle u'=.returning∧K H'∧Rel I' ι' H' w'∧Step I ι H w I' ι' H' w') (a.put (some d) vx) ({c₀ with mode:=u'}::cs) w:=by
  intro u' hset;refine wpSIn_of_wpIn rfl (wpIn_mono (h ⟨I,ι,H,w,[]⟩ rfl _ w hst2) ?_);rintro e a' w' ⟨⟨E',H',⟨he,H2,hfin,hK⟩,hs'⟩,hdf⟩;obtain ⟨I3,ι3,k1,k2,k3⟩:=hs'.rel;obtain ⟨I4,ι4,q1,q2,q3⟩:=hfin ⟨I,ι,H,w,[]⟩ rfl I3 ι3 w' (.tuple #[]) k1 k2 (.tup rfl (by simp));have hde:a'.defers=[]:=hdf.trans ((fN _ _ _).trans hadef);have key:a'.defers=[]∧∃ u'',({c₀ with mode:=u'}::cs:List Frame)={c₀ with mode:=u''}::cs∧∃ v,(results fn a'.tmps).run P w'=.ok v w'∧∃ v0 H' I' ι',Ending.returned v=.returned v0∧settle u''=.returning∧K H'∧Rel I' ι' H' w'∧Step I ι H w I' ι' H' w' :=
   ⟨hde,u',rfl,.tuple #[],by simp [results,hr0],.tuple #[],H2,I4,ι4,rfl,hset,hK,q1,q2⟩
  rcases he with rfl|rfl
  ·exact key
  exact key
 have hex:(execOp a.eval o).run P w=.ok .recover w:=by
  simp [execOp,ho,resolve,invoke];rfl
 have hw:Region.wanted o (yielded #[o] a.tmps)=true:=by simp [Region.wanted,hg]
 show wpOpsSIn _ _ _ _ _ [0] _ _ _;unfold wpOpsSIn;simp only [List.getElem?_toArray,List.getElem?_cons_zero,hw,if_true,hex];refine⟨fun _ _=>trivial,?_⟩;rcases hu with⟨rfl,rfl⟩|⟨t,rfl,rfl⟩
 ·have hrec:recoverD (c₀::cs)=none:=by simp [recoverD,hmode]
  rw [hrec];have hc:({c₀ with mode:=.returning}:Frame)=c₀:=by rw [← hmode]
  have:=rest .returning rfl;rw [hc] at this;rw [hd];exact this
 have hrec:recoverD (c₀::cs)=some (.iface t (.agg #[]),{c₀ with mode:=.panicking ({v:=.iface t (.agg #[]),recovered:=true}::[])}::cs):=by simp [recoverD,hmode]
 rw [hrec];rw [hd];exact rest (.panicking ({v:=.iface t (.agg #[]),recovered:=true}::[])) rfl
end
section
variable {P:Program} {N:Nat} {o:Oper} {E:bO} {H:aB} {t t' T:TypeId} {x y:Operand}
theorem U7 (ho:o.op=.binOp .eql t x (.const .nilIface) t') (ht:P.underlying t=some (.interface (P.methodsAt t))) (hx:aN E x=some (.pv EN)):cB P N o E H (.pv (.bool true)) H :=.of_run fun a w I ι _ he=>⟨.bool true,by
  have e1:a.eval x=.nilIface:=(aI he hx).sat_inv;have e2:a.eval (.const .nilIface)=.nilIface:=rfl;simp only [execOp,ho,e1,e2,eqGuard,Sem.run_bind,Sem.run_pure,Result.andThen_ok,run_eql_nil_nil _ _ ht,Bool.or_true,Bool.true_or,if_true,Bool.not_true,Bool.false_eq_true,if_false],.pv (.bool _)⟩
theorem U8 {ps:List PV} {t2:TypeId} (ho:o.op=.binOp .eql t x (.const .nilIface) t') (ht:P.underlying t=some (.interface (P.methodsAt t))) (hx:aN E x=some (.pv (.ifa t2 ps))):cB P N o E H (.pv (.bool false)) H :=.of_run fun a w I ι _ he=>⟨.bool false,by
  obtain ⟨cs,e1,_⟩:=(aI he hx).ifa_inv;have e2:a.eval (.const .nilIface)=.nilIface:=rfl;simp only [execOp,ho,e1,e2,eqGuard,Sem.run_bind,Sem.run_pure,Result.andThen_ok,binOp,run_equal_held_nil _ _ _ _ ht];rfl,.pv (.bool _)⟩
abbrev aIk:PV:=.sat fun v=>∃ b,v=.pointer (some ⟨b,0,none⟩)
theorem VA (ho:o.op=.alloc T) (hz:∀ w,(zeroValue T).run P w=.ok (.agg #[]) w):cB P N o E H (.pv aIk) H:=by intro a w I ι _ _ hr he K Q hk;unfold Oper.wpW execOp;simp only [ho,Instr.alloc,hz,newVar,newRow,Sem.run_bind,run_newObj,Sem.run_pure,Result.andThen_ok];obtain ⟨h1,h2⟩:=Rel.newImm (w':={w with heap:=w.heap.push (.cells #[] T (0,0))}) (c:=#[]) (t:=T) hr rfl rfl rfl rfl;exact hk _ _ _ ι _ _ ⟨rfl,rfl⟩ (.pv (.sat rfl ⟨_,rfl⟩)) h1 h2
theorem U5 (ho:o.op=.store T x y) (hx:aN E x=some (.pv aIk)) (hy:aN E y=some (.agg [])) (hs:∀ w,(sizeOf T).run P w=.ok 0 w):cB P N o E H (.tup []) H:=by
 intro a w I ι _ _ hr he K Q hk;obtain ⟨b,e1⟩:=(aI he hx).sat_inv;have h2:=aI he hy;generalize hy2:a.eval y=v2 at h2;cases h2 with
 | @agg vs _ hl h1 hh =>
  have:vs=#[]:=Array.eq_empty_of_size_eq_zero (by simpa using hl);subst this;have hrun:(execOp a.eval o).run P w=.ok .skip w:=by
   simp only [execOp,ho,e1,hy2];simp [Instr.storeAt,Instr.sureAddr,storeVar,hs,Value.cells,storeCells]
  unfold Oper.wpW;rw [hrun];exact hk undef w I ι _ _ ⟨rfl,rfl⟩ (.tup rfl (by simp)) hr (Step.refl _ _ _ _)
end
theorem cD.toAny {G0 H H':aB} {E E':bO} (hE:∀ t v,E'.get t=some v→E.get t=some v∧Clo H' v) (hH:∀ id o',H'.get id=some o'→∃ o,H.get id=some o∧iQ o o'∧∀ r∈o'.rows,∀ a∈r,a=.any) (hG:∀ id,(G0.get id).isSome=true→(H'.get id).isSome=true):cD G0 E H E' H':=by
 intro G hGe N a w hs;obtain ⟨I,ι,hr,hst,he⟩:=hs.rel;have hlen:∀ {o o':Ob},iQ o o'→o'.rows.length=o.rows.length:=fun h=>by
  have:=congrArg List.length h.2.2.2
  simpa using this
 have hal:YS H H':=fun j o' ho'=>by
  obtain ⟨o,h1,h2,_⟩:=hH j o' ho';exact⟨o,h1,h2.1.symm,h2.2.1.symm,h2.2.2.1.symm,(hlen h2).symm⟩
 refine⟨hs.defers,hs.size,I,ι,⟨hr.imm,fun id o' ho'=>?_,fun id id' o o' b c c' ho ho'=>?_,hr.glob⟩,?_,fun t v ht=>?_⟩
 ·obtain ⟨o,h1,h2,h3⟩:=hH id o' ho';refine(hr.obj id o h1).keepG h2.2.1 h2.2.2.1 (hlen h2) (fun y ts r' hy=>?_) rfl (fun _ _ _ _=>⟨rfl,fun h=>h⟩) (fun i r' hi=>?_)
  ·have:=h3 [.raw y ts] (by rw [hy];simp) (.raw y ts) (by simp);cases this
  have hlt:i < o.rows.length:=by rw [← hlen h2];exact(aLX.1 hi).1
  refine⟨o.rows[i],aLY hlt,?_,fun k a a' _ ha' v _=>?_⟩
  ·have e:=congrArg (fun l:List Nat=>l[i]?) h2.2.2.2;simp only [aLd,hi,aLY hlt,Option.map_some,Option.some.injEq] at e;exact e.symm
  rw [h3 r' (aL3 hi) a' (aL3 ha')];exact .any v
 ·obtain ⟨q,h1,_⟩:=hH id o ho;obtain ⟨q',h1',_⟩:=hH id' o' ho';exact hr.inj id id' q q' b c c' h1 h1'
 ·refine {hst with own:=fun b ⟨id,o',cap,ho',hc⟩=>?_,objs:=fun id o ho=>?_}
  ·obtain ⟨o,h1,_⟩:=hH id o' ho';exact hst.own b ⟨id,o,cap,h1,hc⟩
  obtain ⟨o1,k1,k2,k3⟩:=hst.objs id o ho;obtain ⟨o',ho'⟩:=Option.isSome_iff_exists.1 (hG id (by rw [← hGe,ho];rfl));obtain ⟨o2,h1,h2,_⟩:=hH id o' ho';rw [k1] at h1;cases h1;refine⟨o',ho',by rw [h2.1];exact k2,fun e=>?_⟩;obtain ⟨q1,q2,q3⟩:=k3 (by rw [← h2.1];exact e);exact⟨q1,by rw [h2.2.1];exact q2,fun hz=>by rw [hlen h2];exact q3 hz⟩
 obtain ⟨h1,h2⟩:=hE t v ht;obtain ⟨c,hc,hv⟩:=he t v h1;exact⟨c,hc,hv.alike hal h2⟩
theorem aKT {P:Program} {fn:Func} {E:bO} {H:aB} {x y:ResultVar} {r s:AV} (hf:fn.results=#[x,y]) (hx:GM P E H x r) (hy:GM P E H y s) :
  ∀ (a:Act) (w:World) (I:Nat→Prop) (ι:dR),Rel I ι H w→gQ w I ι H E a→∃ v,(results fn a.tmps).run P w=.ok v w∧VRel w I ι H v (.tup [r,s]):=fun a w I ι hr hE=>by
 obtain ⟨v,h1,h2⟩:=hx a w I ι hr hE;obtain ⟨u,h3,h4⟩:=hy a w I ι hr hE;refine⟨.tuple #[v,u],by rw [oM,hf];simp [h1,h3],.tup rfl ?_⟩;intro i c b hc hb
 match i with
 | 0=>simp at hc hb;subst hc hb;exact h2
 | 1=>simp at hc hb;subst hc hb;exact h4
 | i+2=>simp at hc
end
end Go.Abs
namespace Go.Proofs.YtiifmppaejpemaaGreatDoor
open Go.Proofs.Tryz
open Go.Abs
abbrev RI (l:List UInt8):Ob:=bx 1 87 [sv (ofL l)]
abbrev jH (l:List UInt8):aB:=[(980,RI l)]
abbrev IQ:AV:=.ref 980 0 0 0
abbrev BI:D2:=ms 84
theorem OS (l:List UInt8) (H:aB):∀ r∈(RI l).rows,∀ a∈r,Clo H a:=by intro r hr a ha;simp only [RI,bx,aLW] at hr;subst hr;rw [aLW] at ha;subst ha;simp
theorem vS (l:List UInt8):cZ (jH l):=cZ.ofL ⟨OS l _,trivial⟩
def xY (f:FuncId) (xs:List AV) (K:aB) (l:List UInt8) (o:Option (AV×List UInt8)):Prop :=∀ H1:aB,H1.get 980=some (RI l)→Sub K H1→dX Tryz.prog f xs H1 (fun r H'=>∃ p,o=some p∧r=p.1∧H'=jH p.2++H1) (fun ch H'=>o=none∧ch=BI∧∃ q,H'=jH q++H1)
theorem xY.of {f:FuncId} {xs:List AV} {K:aB} {l:List UInt8} {o:Option (AV×List UInt8)} (hK:cZ (jH l++K)) (hK9:K.get 980=none) (hx:∀ a∈xs,Clo (jH l++K) a)
  (h:dX Tryz.prog f xs (jH l++K) (fun r H'=>∃ p,o=some p∧r=p.1∧H'=jH p.2++K) (fun ch H'=>o=none∧ch=BI∧∃ q,H'=jH q++K)):xY f xs K l o:=by
 intro H1 h1 h2;have hsub:Sub (jH l++K) H1:=fun id ob ho=>by
  rw [eO] at ho;by_cases e:980=id
  ·subst e;have:(jH l).get 980=some (RI l):=rfl;rw [this] at ho;cases ho;exact h1
  have:(jH l).get id=none:=by simp [aB.get,jA e]
  rw [this] at ho;exact h2 id ob ho
 have hk:∀ q id,(aB.get (jH q++K) id).isSome=true→((jH l++K).get id).isSome=true:=fun q id hi=>by
  rw [eO] at hi ⊢;by_cases e:980=id
  ·subst e;rfl
  have h1:∀ q,(jH q).get id=none:=fun q=>by simp [aB.get,jA e]
  rw [h1] at hi ⊢;exact hi
 have hg:∀ (q:List UInt8) (j:Nat),aB.get (jH q++H1) j=aB.get ((jH q++K)++H1) j:=fun q j=>by
  rw [List.append_assoc,eO,eO (jH q)];cases (jH q).get j with
  | some _=>rfl
  | none =>
   simp only;rw [eO];cases e:K.get j with
   | none=>rfl
   | some ob=>exact h2 j ob e
 refine(h.frame hsub hK hx (fun r H' ⟨p,_,_,hp⟩ id hi=>.inl (by subst hp;exact hk _ id hi)) (fun ch H' ⟨_,_,q,hq⟩ id hi=>.inl (by subst hq;exact hk _ id hi))).conv ?_ ?_
 ·rintro r H' ⟨K',⟨p,e1,e2,rfl⟩,rfl⟩;exact⟨_,hg _,p,e1,e2,rfl⟩
 rintro ch H' ⟨K',⟨e1,e2,q,rfl⟩,rfl⟩;exact⟨_,hg _,e1,e2,q,rfl⟩
theorem xY.yes {f:FuncId} {xs:List AV} {K:aB} {l q:List UInt8} {v:AV} (h:xY f xs K l (some (v,q))) {H1:aB} (h1:H1.get 980=some (RI l)) (h2:Sub K H1):aH Tryz.prog f xs H1 (fun r H'=>r=v∧H'=jH q++H1) :=((h H1 h1 h2).mono (PP':=fun _ _=>False) (fun r H' ⟨p,e1,e2,e3⟩=>by cases e1;exact⟨e2,e3⟩) (fun ch H' ⟨e,_⟩=>by cases e)).calls (fun _ _ h=>h)
theorem xY.no {f:FuncId} {xs:List AV} {K:aB} {l:List UInt8} (h:xY f xs K l none) {H1:aB} (h1:H1.get 980=some (RI l)) (h2:Sub K H1):dX Tryz.prog f xs H1 (fun _ _=>False) (fun ch H'=>ch=BI∧∃ q,H'=jH q++H1) :=(h H1 h1 h2).mono (fun r H' ⟨p,e1,_⟩=>by cases e1) (fun ch H' ⟨_,e2,e3⟩=>⟨e2,e3⟩)
theorem xY.tot {f:FuncId} {xs:List AV} {K:aB} {l:List UInt8} {o:Option (AV×List UInt8)} (h:xY f xs K l o) {v:AV} {q:List UInt8} {d:AV} (hv:(o.getD (d,l))=(v,q)) {H1:aB} (h1:H1.get 980=some (RI l)) (h2:Sub K H1) :
  dX Tryz.prog f xs H1 (fun r H'=>r=v∧H'=jH q++H1∧o.isSome=true) (fun ch H'=>o=none∧ch=BI∧∃ q,H'=jH q++H1) :=
 (h H1 h1 h2).mono (fun r H' ⟨p,e1,e2,e3⟩=>by subst e1;cases hv;exact⟨e2,e3,rfl⟩) (fun ch H' h=>h)
theorem eA (H:aB):Sub [] H:=fun _ _ h=>by cases h
def xP (l:List UInt8):Option (AV×List UInt8):=(gL l).map fun p=>(sv p.1,p.2)
def uA (l:List UInt8):Option (AV×List UInt8):=(lR l).map fun p=>(iv p.1,p.2)
theorem tE (l:List UInt8) (hl:l.length < 1000000000):xY 51 [IQ] [] l (xP l):=by
 refine xY.of (vS l) rfl (by simp;rfl) ?_;have hls:(ofL l).size=l.length:=fU l;have hcl:=aHh l;have hcut:=fun H=>aHg (ofL l) H (by omega);rw [aF0] at hcut;have hat:=fun H=>YI (ofL (QN l)) (by rw [fU];omega) H;have hrs:(ofL (QO l)).size=(QO l).length:=fU _;have hbad:A2 l=(((!decide ((58:UInt8)∈l)||sW (ofL (QN l)))||decide (mB (ofL (QN l)) < 0))||decide (((QO l).length:Int) < mB (ofL (QN l)))):=rfl;have hN:nxN l=(mB (ofL (QN l))).toNat:=rfl;have hO:xP l=if A2 l=true then none else some (sv (ofL ((QO l).take (nxN l))),(QO l).drop (nxN l)):=by rw [xP,gL];split<;>rfl
 rw [hO];obtain ⟨x,hx⟩:∃ x,x=ofL (QN l):=⟨_,rfl⟩;obtain ⟨v,hv⟩:∃ v,v=mB (ofL (QN l)):=⟨_,rfl⟩;obtain ⟨e,he⟩:∃ e,e=sW (ofL (QN l)):=⟨_,rfl⟩;obtain ⟨o,ho⟩:∃ o,o=decide ((58:UInt8)∈l):=⟨_,rfl⟩;obtain ⟨r,hr⟩:∃ r,r=QO l:=⟨_,rfl⟩;simp only [← hv,← he,← ho,← hr] at hcut hat hbad hN hrs hcl ⊢;simp only [← hx] at hcut hat hbad;clear hx hv he ho hr hO;refine dX.body func51 rfl ntmps51 (aL6 rfl) ?_;refine Sr<|Dd aP<|Zz<|Sr<|Dd aF<|Dd xQ<|Dd (bB aCe)<|Dd (bK isAgg9)<|Dd (by exact aA rfl rfl call117 rfl (hcut _))<|Dd aF<|Dd dV<|Dd dV<|Dd dV<|Dd aP<|Dd aP<|Dd aP<|Zz<|Sr<|Dd aF<|Dd (by exact aA rfl rfl tZ rfl (hat _))<|Dd aF<|Dd dV<|Dd dV<|Dd aP<|Dd aP<|Zz<|Sq<|Sq ?_;refine bD (t:=37) (n:=19) (X:=A2 l) ?_ ?_
 ·all_goals refine Dd aF ?_
  all_goals refine Dd lI<|Dm ?_
  all_goals refine Sp 24 (fun h24=>?_) fun h24=>?_
  all_goals(try(with_reducible contradiction))
  all_goals first|refine Fo<|Fo ?_|refine On aF<|On (by exact RU rfl mL rfl) ?_
  all_goals refine Dd cE<|Dm ?_
  all_goals refine Sp 28 (fun h28=>?_) fun h28=>?_
  all_goals(try(with_reducible contradiction))
  all_goals first|refine Fo<|Fo ?_|refine On aF<|On dK ?_
  all_goals refine Dd cE<|Dm ?_
  all_goals refine Sp 32 (fun h32=>?_) fun h32=>?_
  all_goals(try(with_reducible contradiction))
  all_goals first|refine Fo<|Fo<|Fo<|Fo ?_|refine On aF<|On aF<|On (nT underlying9)<|On mI ?_
  all_goals refine Dd cE<|Zz ?_
  all_goals(exact⟨⟨_,rfl,by rw [hbad];first|(rw [h24];rfl)|(rw [h24,h28];rfl)|(rw [h24,h28,h32,← hrs];rfl)⟩,rfl,rfl,rfl⟩)
 refine Cn ?_ ?_<;>intro hc1
 ·have hb:A2 l=true:=hc1;rw [aLS hb];refine eL ?_;refine fD rfl rfl rfl (by exact EK (fs:=#[]) (places:=#[]) (v0:=.agg []) (l0:=[]) (aps:=[]) (l:=[]) rfl tR aDT (.inl rfl) rfl (fun w=>by simp) rfl rfl) ?_;refine fD rfl rfl rfl (by exact CU (ps:=[]) rfl (cG tR rfl) rfl) ?_;exact mC rfl rfl (MW rfl rfl) (fun ch H' h=>by obtain ⟨rfl,rfl⟩:=h;exact zL (H':=jH l) (Fin.wk (by simp) (Hb<|trivial) ⟨rfl,trivial⟩) ⟨rfl,rfl,l,rfl⟩)
 have hb:A2 l=false:=hc1;rw [aLR (by rw [hb];decide)];have hb2:=hbad.symm.trans hb;simp only [aLf,aL1] at hb2;obtain ⟨u,rfl⟩:∃ u:Nat,v=(u:Int):=⟨v.toNat,by omega⟩;rw [aL4] at hN;rw [hN];have hur:u≤r.length:=by omega
 have x1:(ofL r).extract 0 u=ofL (r.take u):=zK (by rw [nQ,dW,dW,List.drop_zero,Nat.sub_zero]);have x2:(ofL r).extract u (ofL r).size=ofL (r.drop u):=zK (by rw [zC,dW,dW]);refine aE<|Sr<|Dd aF<|Dd aF<|Dd aF<|Dd (by exact cK (l:=u) (h:=(ofL r).size) rfl underlying9 rfl rfl rfl (by omega) (aLZ _) x2)<|Dd xQ<|Dd (bB aCe)<|Uu (iH sizeOf9)<|Zz<|Sr<|Dd aF<|Dd aF<|Dd (by exact cK (l:=0) (h:=u) rfl underlying9 rfl rfl rfl (aLa _) (by omega) x1)<|Dd aP<|Zz<|aC ?_;refine FH ?_;refine dF (H':=(jH (r.drop u))) (.inr rfl) rfl (aT rfl) (Fin.wk (by(simp;done)) (Hb<|trivial) ⟨rfl,trivial⟩) ?_;exact⟨_,rfl,rfl,rfl⟩
theorem aF2 {l:List UInt8} (h:(58:UInt8)∈l):(QO l).length < l.length:=by rw [QO,aL8];have:=(List.dropWhile_sublist (l:=l) fun b=>!decide (b=58)).length_le;have:=List.length_pos_of_mem h;omega
theorem hY {l q:List UInt8} {s:ByteArray} (h:gL l=some (s,q)):s.size+q.length < l.length:=by
 rw [gL] at h
 split at h
 ·cases h
 next hb =>
 have hb:A2 l=false:=by simpa using hb
 simp only [A2,aLf,Bool.not_eq_false',aL1,aL0] at hb;have hlt:=aF2 hb.1.1.1;cases h;rw [fU,aL7,aL8];omega
theorem gD {l q:List UInt8} {x:Int} (h:lR l=some (x,q)):q.length < l.length∧(-9223372036854775808≤x∧x≤9223372036854775807):=by
 rw [lR] at h;cases hO:gL l with
 | none=>rw [hO] at h;cases h
 | some p =>
  obtain ⟨s,r⟩:=p;rw [hO] at h;simp only at h
  split at h
  ·cases h
  cases h;have:=hY hO;exact⟨by omega,aAa s⟩
theorem kD (l:List UInt8) (hl:l.length < 1000000000):xY 52 [IQ] [] l (uA l):=by
 refine xY.of (vS l) rfl (by simp;rfl) ?_;have hn:=tE l hl;have hlen:=fun s q=>hY (l:=l) (s:=s) (q:=q);have hA:xP l=(gL l).map fun p=>(sv p.1,p.2):=rfl;have hB:uA l=(match gL l with
  | none=>none
  | some (s,r)=>if sW s=true then none else some (iv (mB s),r)):=by
  rw [uA,lR];cases gL l with
  | none=>rfl
  | some p=>simp only;split<;>rfl
 rw [hB];rw [hA] at hn;obtain ⟨O,hO⟩:∃ O,O=gL l:=⟨_,rfl⟩;rw [← hO] at hn hlen ⊢;clear hO hA hB;refine dX.body func52 rfl ntmps52 (aL6 rfl) ?_;refine Sr<|Dd aP<|Zz<|Sq ?_;rcases O with _|⟨s,q⟩
 ·have hn:xY 51 [IQ] [] l none:=hn;refine eL ?_;refine fD rfl rfl rfl (by exact eN rfl rfl) ?_;exact mC rfl rfl (cW rfl rfl jJ rfl (hn.no rfl (eA _))) (fun ch H' h=>by obtain ⟨rfl,q,rfl⟩:=h;exact zL (H':=jH q) (Fin.wk (by simp) (Hb<|trivial) ⟨rfl,trivial⟩) ⟨rfl,rfl,q,rfl⟩)
 have hn:xY 51 [IQ] [] l (some (sv s,q)):=hn;have hlen:=hlen s q rfl;have hat:=fun H=>YI s (by omega) H;obtain ⟨e,he⟩:∃ e,e=sW s:=⟨_,rfl⟩;obtain ⟨v,hv⟩:∃ v,v=mB s:=⟨_,rfl⟩;simp only [← he,← hv] at hat ⊢;clear he hv;refine Rg<|Dd aF<|Dd (by exact aA rfl rfl jJ rfl (hn.yes rfl (eA _)))<|Dd (by exact aA rfl rfl tZ rfl (hat _))<|Dd aF<|Dd dV<|Dd dV<|Dd aP<|Dd aP<|Zz<|Sq<|Sr<|Dd aF<|Dd (by exact RU rfl mL rfl)<|Zz ?_;refine Cn ?_ ?_<;>intro hc1
 ·have hb:e=true:=hc1;rw [aLS hb];refine eL ?_;refine fD rfl rfl rfl (by exact EK (fs:=#[]) (places:=#[]) (v0:=.agg []) (l0:=[]) (aps:=[]) (l:=[]) rfl tR aDT (.inl rfl) rfl (fun w=>by simp) rfl rfl) ?_;refine fD rfl rfl rfl (by exact CU (ps:=[]) rfl (cG tR rfl) rfl) ?_;exact mC rfl rfl (MW rfl rfl) (fun ch H' h=>by obtain ⟨rfl,rfl⟩:=h;exact zL (H':=jH q) (Fin.wk (by simp) (Hb<|trivial) ⟨rfl,trivial⟩) ⟨rfl,rfl,q,rfl⟩)
 have hb:e=false:=hc1;rw [aLR (by rw [hb];decide)];refine aE<|Sr<|Dd aF<|Dd aP<|Zz<|aC ?_;refine FH ?_;refine dF (H':=(jH q)) (.inr rfl) rfl (aT rfl) (Fin.wk (by(simp;done)) (Hb<|trivial) ⟨rfl,trivial⟩) ?_;exact⟨_,rfl,rfl,rfl⟩
abbrev nxB:AV:=.bnd 51 [IQ]
def VJ (l:List UInt8):Option (AV×List UInt8):=(sG gL l).map fun p=>(.pv (aU p.1),p.2)
theorem R7 {α:Type} (f:List UInt8→Option (α×List UInt8)) {N k:Nat} {q l':List UInt8} {A:List α} (hk:A.length=k) (hlt:k < N) (h:AE f N q=(AE f (N - k) l').map fun p=>(A++p.1,p.2)) :
  AE f N q=match f l' with
   | none=>none
   | some (x,r)=>(AE f (N - (k+1)) r).map fun p=>((A++[x])++p.1,p.2):=by
 rw [h,show N - k=(N - (k+1))+1 by omega,AE];cases f l' with
 | none=>rfl
 | some p =>
  obtain ⟨x,r⟩:=p;simp only;cases AE f (N - (k+1)) r with
  | none=>rfl
  | some p2 =>
   obtain ⟨xs,q2⟩:=p2;simp
theorem aCR {l:List UInt8} (h:lR l=none):VJ l=none:=by rw [VJ,sG,h];rfl
theorem aCQ {l q:List UInt8} {n:Int} (h:lR l=some (n,q)):VJ l=(AE gL n.toNat q).map fun p=>(.pv (aU p.1),p.2):=by rw [VJ,sG,h]
theorem PC (l:List UInt8) (hl:l.length < 1000000000):xY 53 [IQ,nxB] [] l (VJ l):=by
 refine xY.of (vS l) rfl (by simp;rfl) ?_;have hnu:=kD l hl;have hnone:=aCR (l:=l);have hsome:=fun n q=>aCQ (l:=l) (n:=n) (q:=q);have hlen:=fun n q=>gD (l:=l) (x:=n) (q:=q);rw [uA] at hnu;obtain ⟨O,hO⟩:∃ O,O=lR l:=⟨_,rfl⟩;rw [← hO] at hnu hnone hsome hlen;clear hO;refine dX.body func53 rfl ntmps53 (aL6 rfl) ?_;refine Sr<|Dd aP<|Zz<|Sq ?_;rcases O with _|⟨n,q0⟩
 ·rw [hnone rfl];have hn:xY 52 [IQ] [] l none:=hnu;refine eL ?_;refine fD rfl rfl rfl (by exact eN rfl rfl) ?_;exact mC rfl rfl (cW rfl rfl fT rfl (hn.no rfl (eA _))) (fun ch H' h=>by obtain ⟨rfl,q,rfl⟩:=h;exact zL (H':=jH q) (Fin.wk (by simp) (Hb<|trivial) ⟨rfl,trivial⟩) ⟨rfl,rfl,q,rfl⟩)
 have hn:xY 52 [IQ] [] l (some (iv n,q0)):=hnu;obtain ⟨hq0,hn0,hn1⟩:=hlen n q0 rfl;rw [hsome n q0 rfl];refine Rg<|Dd aF<|Dd (by exact aA rfl rfl fT rfl (hn.yes rfl (eA _)))<|Dd aP<|Zz<|Sr<|Dd (by exact nG (id:=905) (sz:=1) (ty:=9) rfl rfl rfl)<|Zz<|Sq<|Sr<|Dd aF<|Dd aF<|Zz<|aG ?_;refine jB (fun(l':List UInt8) (A:List ByteArray)=>([(0,IQ),(1,nxB),(6,.osl 905 A.length 0 A.length),(9,iv n),(10,iv (A.length:Int))],(905,⟨A.length,1,9,dO A⟩)::jH l')) (fun l' A=>l'.length+A.length < l.length∧A.length≤n.toNat∧AE gL n.toNat q0=(AE gL (n.toNat - A.length) l').map fun p=>(A++p.1,p.2)) (fun l' A=>l'.length) q0 [] ⟨by rw [List.length_nil];omega,aLa _,by simp⟩ ?_ ?_
 ·exact(cD.wk (Ea<|Ea<|Ea<|Eb<|Eb<|trivial) (Hc (bV _ _)<|Hb<|trivial) ⟨rfl,trivial⟩)
 rintro l' A ⟨hl',hA,hR⟩;have hnx:=tE l' (by omega);have hxl:=fun s q=>hY (l:=l') (s:=s) (q:=q);have hmore:=fun h=>R7 gL (k:=A.length) rfl h hR;rw [xP] at hnx;obtain ⟨X,hX⟩:∃ X,X=gL l':=⟨_,rfl⟩;rw [← hX] at hnx hxl hmore;clear hX;refine Sr<|Dd dK<|Zz<|Sq ?_;refine Cn ?_ ?_<;>intro hc1
 ·have hlt:A.length < n.toNat:=by have:=aLP hc1;omega
  have hm:=hmore hlt;clear hmore;refine aE<|Sq<|aG ?_;rcases X with _|⟨s,q⟩
  ·have hm:AE gL n.toNat q0=none:=hm;rw [hm];have hnx:xY 51 [IQ] [] l' none:=hnx;refine eL ?_;refine fD rfl rfl rfl (by exact eN rfl rfl) ?_;refine fD rfl rfl rfl (by exact eN rfl rfl) ?_;exact mC rfl rfl (AY rfl rfl jJ rfl (hnx.no rfl (eA _))) (fun ch H' h=>by obtain ⟨rfl,q,rfl⟩:=h;exact zL (H':=jH q) (Fin.wk (by simp) (Hb<|trivial) ⟨rfl,trivial⟩) ⟨rfl,rfl,q,rfl⟩)
  have hm:AE gL n.toNat q0=(AE gL (n.toNat - (A.length+1)) q).map fun p=>((A++[s])++p.1,p.2):=hm;have hnx:xY 51 [IQ] [] l' (some (sv s,q)):=hnx;have hxl:=hxl s q rfl;have hnl:(A++[s]).length=A.length+1:=by rw [aLU];rfl
  refine Rg<|Dd aF<|Dd aF<|Dd (by exact xV.opr (AY rfl rfl jJ rfl (dX.of (hnx.yes rfl (eA _)))))<|Dd (by exact aS [[.str s]] rfl cP rfl rfl rfl rfl rfl (by intro r hr;rw [aLW] at hr;subst hr;rfl))<|Dd (by exact eK (ps:=[[.str s]]) rfl cP TQ rfl rfl rfl rfl rfl (iR _) rfl (by intro r hr;rw [aLW] at hr;subst hr;rfl) (m:=1) rfl (by omega) rfl (kC A s))<|Dd aP<|Zz<|Rg<|Dd (by exact cA rfl rfl rfl (show IntKind.i64.wrap ((A.length:Int)+1)=((A.length+1:Nat):Int)by rw [pO (by omega) (by omega)];omega))<|Dd aF<|Zz ?_;refine⟨q,A++[s],⟨by rw [hnl];omega,by rw [hnl];omega,by rw [hnl];exact hm⟩,by omega,?_⟩;dsimp only;rw [hnl];exact(cD.wk (Ea<|Ea<|Ea<|Eb<|Eb<|trivial) (Hc (bV _ _)<|Hb<|trivial) ⟨rfl,trivial⟩)
 have hge:n.toNat=A.length:=by have:=aLQ hc1;omega
 have hR2:AE gL n.toNat q0=some (A,l'):=by rw [hR,hge,Nat.sub_self,AE];simp
 rw [hR2];refine bG<|Sr<|Dd aF<|Dd aP<|Zz<|aC ?_;refine FH ?_;refine dF (H':=(jH l')) (.inr rfl) rfl (aT rfl) (Fin.fz (id:=905) (ob:=⟨A.length,1,9,dO A⟩) (r':=.pv (aU A)) (A.map encStr) rfl (fW _) (.osl (qV encStr _)) rfl ⟨⟨_,rfl,rfl⟩,(by(simp;done)),trivial⟩ ⟨rfl,trivial⟩) ?_;exact⟨_,rfl,rfl,rfl⟩
theorem PA {α:Type} (f:List UInt8→Option (α×List UInt8)) (P:α→Prop) (b:Nat) (hf:∀ l x q,l.length≤b→f l=some (x,q)→q.length < l.length∧P x):∀ (n:Nat) (l:List UInt8) (xs:List α) (q:List UInt8),l.length≤b→AE f n l=some (xs,q)→q.length+xs.length≤l.length∧∀ x∈xs,P x
 | 0,l,xs,q,_,h=>by rw [AE] at h;cases h;simp
 | n+1,l,xs,q,hb,h=>by
  rw [AE] at h;cases hf':f l with
  | none=>rw [hf'] at h;cases h
  | some p =>
   obtain ⟨x,r⟩:=p;obtain ⟨h1,h2⟩:=hf l x r hb hf';rw [hf'] at h;simp only at h;cases hr:AE f n r with
   | none=>rw [hr] at h;cases h
   | some p2 =>
    obtain ⟨ys,q2⟩:=p2;rw [hr] at h;cases h;obtain ⟨k1,k2⟩:=PA f P b hf n r ys _ (by omega) hr;refine⟨by rw [aLV];omega,fun y hy=>?_⟩;rcases aL5.1 hy with rfl|hy
    ·exact h2
    exact k2 y hy
theorem sR {l q:List UInt8} {xs:List ByteArray} (h:sG gL l=some (xs,q)):q.length+xs.length < l.length∧∀ x∈xs,x.size≤l.length:=by
 rw [sG] at h;cases hn:lR l with
 | none=>rw [hn] at h;cases h
 | some p =>
  obtain ⟨n,r⟩:=p;rw [hn] at h;have h1:=(gD hn).1;obtain ⟨k1,k2⟩:=PA gL (fun x=>x.size≤r.length) r.length (fun l x q hb hx=>by have:=hY hx;exact⟨by omega,by omega⟩) n.toNat r xs q (aLZ _) h;exact⟨by omega,fun x hx=>Nat.le_trans (k2 x hx) (by omega)⟩
theorem XP {l q:List UInt8} {p:Int×Int} (h:EF l=some (p,q)):q.length < l.length∧(oP p.1∧oP p.2):=by
 rw [EF] at h;cases hn:lR l with
 | none=>rw [hn] at h;cases h
 | some z =>
  obtain ⟨x,r⟩:=z;rw [hn] at h;simp only at h;cases hm:lR r with
  | none=>rw [hm] at h;cases h
  | some z2 =>
   obtain ⟨y,r2⟩:=z2;rw [hm] at h;cases h;have h1:=gD hn;have h2:=gD hm;exact⟨by omega,h1.2,h2.2⟩
theorem XY {l q:List UInt8} {xs:List (Int×Int)} (h:sG EF l=some (xs,q)):q.length+xs.length < l.length∧∀ x∈xs,oP x.1∧oP x.2:=by
 rw [sG] at h;cases hn:lR l with
 | none=>rw [hn] at h;cases h
 | some p =>
  obtain ⟨n,r⟩:=p;rw [hn] at h;have h1:=(gD hn).1;obtain ⟨k1,k2⟩:=PA EF (fun x=>oP x.1∧oP x.2) r.length (fun l x q hb hx=>XP hx) n.toNat r xs q (aLZ _) h;exact⟨by omega,k2⟩
def slA (l:List UInt8):Option (AV×List UInt8):=(OL l).map fun p=>(av (iB p.1),p.2)
theorem XJ (l:List UInt8) (hl:l.length < 1000000000):xY 55 [IQ] [] l (slA l):=by
 refine xY.of (vS l) rfl (by simp;rfl) ?_;have hnu:=kD l hl;have hli:=fun q (hq:q.length < 1000000000)=>PC q hq;have hs:slA l=(match lR l with
  | none=>none
  | some (i,r)=>match sG gL r with
   | none=>none
   | some (a,q)=>match sG gL q with
    | none=>none
    | some (b,p)=>some (.agg [iv i,.pv (aU a),.pv (aU b)],p)):=by
  rw [slA,OL];cases lR l with
  | none=>rfl
  | some p =>
   obtain ⟨i,r⟩:=p;simp only;cases sG gL r with
   | none=>rfl
   | some p =>
    obtain ⟨a,q⟩:=p;simp only;cases sG gL q with
    | none=>rfl
    | some p=>rfl
 rw [hs];rw [uA] at hnu;have hlen:=fun n q=>gD (l:=l) (x:=n) (q:=q);obtain ⟨O,hO⟩:∃ O,O=lR l:=⟨_,rfl⟩;rw [← hO] at hnu hlen ⊢;clear hO hs;refine dX.body func55 rfl ntmps55 (aL6 rfl) ?_;refine Sr<|Dd (by exact bC (id:=2) rfl YT rfl rfl)<|Zz<|Sq ?_;rcases O with _|⟨i,q1⟩
 ·have hn:xY 52 [IQ] [] l none:=hnu;refine eL ?_;refine fD rfl rfl rfl (by exact eN rfl rfl) ?_;exact mC rfl rfl (cW rfl rfl fT rfl (hn.no rfl (eA _))) (fun ch H' h=>by obtain ⟨rfl,q,rfl⟩:=h;exact zL (H':=jH q) (Fin.wk (by simp) (Hb<|trivial) ⟨rfl,trivial⟩) ⟨rfl,rfl,q,rfl⟩)
 have hn:xY 52 [IQ] [] l (some (iv i,q1)):=hnu;have h1:=(hlen i q1 rfl).1;have hl1:=hli q1 (by omega);rw [VJ] at hl1;have hlen2:=fun xs q=>sR (l:=q1) (xs:=xs) (q:=q);simp only;obtain ⟨O,hO⟩:∃ O,O=sG gL q1:=⟨_,rfl⟩;rw [← hO] at hl1 hlen2 ⊢;clear hO;rcases O with _|⟨a,q2⟩
 ·have hl1:xY 53 [IQ,nxB] [] q1 none:=hl1;refine eL ?_;refine fD rfl rfl rfl (by exact eN rfl rfl) ?_;refine fD rfl rfl rfl (by exact aA rfl rfl fT rfl (hn.yes rfl (eA _))) ?_;refine fD rfl rfl rfl (by exact eN rfl rfl) ?_;refine fD rfl rfl rfl (by exact eN rfl rfl) ?_;refine fD rfl rfl rfl (by exact lA rfl rfl) ?_;exact mC rfl rfl (cW rfl rfl xU rfl (hl1.no rfl (eA _))) (fun ch H' h=>by obtain ⟨rfl,q,rfl⟩:=h;exact zL (H':=jH q) (Fin.wk (by simp) (Hb<|trivial) ⟨rfl,trivial⟩) ⟨rfl,rfl,q,rfl⟩)
 have hl1:xY 53 [IQ,nxB] [] q1 (some (.pv (aU a),q2)):=hl1;have h2:=(hlen2 a q2 rfl).1;have hl2:=hli q2 (by omega);rw [VJ] at hl2;have hlen3:=fun xs q=>sR (l:=q2) (xs:=xs) (q:=q);simp only;obtain ⟨O,hO⟩:∃ O,O=sG gL q2:=⟨_,rfl⟩;rw [← hO] at hl2 hlen3 ⊢;clear hO;rcases O with _|⟨b,q3⟩
 ·have hl2:xY 53 [IQ,nxB] [] q2 none:=hl2;refine eL ?_;refine fD rfl rfl rfl (by exact eN rfl rfl) ?_;refine fD rfl rfl rfl (by exact aA rfl rfl fT rfl (hn.yes rfl (eA _))) ?_;refine fD rfl rfl rfl (by exact eN rfl rfl) ?_;refine fD rfl rfl rfl (by exact eN rfl rfl) ?_;refine fD rfl rfl rfl (by exact lA rfl rfl) ?_;refine fD rfl rfl rfl (by exact aA rfl rfl xU rfl (hl1.yes rfl (eA _))) ?_;refine fD rfl rfl rfl (by exact eN rfl rfl) ?_;refine fD rfl rfl rfl (by exact eN rfl rfl) ?_;refine fD rfl rfl rfl (by exact lA rfl rfl) ?_;exact mC rfl rfl (cW rfl rfl xU rfl (hl2.no rfl (eA _))) (fun ch H' h=>by obtain ⟨rfl,q,rfl⟩:=h;exact zL (H':=jH q) (Fin.wk (by simp) (Hb<|trivial) ⟨rfl,trivial⟩) ⟨rfl,rfl,q,rfl⟩)
 have hl2:xY 53 [IQ,nxB] [] q2 (some (.pv (aU b),q3)):=hl2;refine Rg<|Dd aF<|Dd (by exact aA rfl rfl fT rfl (hn.yes rfl (eA _)))<|Dd aF<|Dd aF<|Dd (by exact lA rfl rfl)<|Dd (by exact aA rfl rfl xU rfl (hl1.yes rfl (eA _)))<|Dd aF<|Dd aF<|Dd (by exact lA rfl rfl)<|Dd (by exact aA rfl rfl xU rfl (hl2.yes rfl (eA _)))<|Dd (uX aFg)<|Uu (iH sizeOf25)<|Zz<|aC ?_;refine FH ?_;refine dF (H':=(jH q3)) (.inr rfl) rfl (eU rfl eM sizeOf25 rfl rfl rfl (by simp only [Zl,encStr];rfl) rfl) (Fin.wk (by simp [KG]) (Hb<|trivial) ⟨rfl,trivial⟩) ?_;exact⟨_,rfl,rfl,rfl⟩
abbrev inO:Ob:=bx 1 85 [IQ]
abbrev inH:aB:=[(4,inO)]
theorem X6 {H:aB} (h:(H.get 980).isSome=true):∀ r∈inO.rows,∀ a∈r,Clo H a:=by intro r hr a ha;simp only [inO,bx,aLW] at hr;subst hr;rw [aLW] at ha;subst ha;rw [oV];exact h
theorem JO (l:List UInt8):cZ (jH l++inH):=cZ.ofL ⟨OS l _,X6 rfl,trivial⟩
def ptA (l:List UInt8):Option (AV×List UInt8):=(EF l).map fun p=>(av (fM p.1),p.2)
theorem aBi (l:List UInt8) (hl:l.length < 1000000000):xY 57 [.ref 4 0 0 0] inH l (ptA l):=by
 refine xY.of (JO l) rfl (by simp;rfl) ?_;have hnu:=kD l hl;have hnu2:=fun q (hq:q.length < 1000000000)=>kD q hq;have hlen:=fun n q=>gD (l:=l) (x:=n) (q:=q);have hs:ptA l=(match lR l with
  | none=>none
  | some (x,r)=>match lR r with
   | none=>none
   | some (y,q)=>some (.agg [iv x,iv y],q)):=by
  rw [ptA,EF];cases lR l with
  | none=>rfl
  | some p =>
   obtain ⟨i,r⟩:=p;simp only;cases lR r with
   | none=>rfl
   | some p=>rfl
 obtain ⟨x,q1,hx⟩:∃ x q1,(lR l).getD (0,l)=(x,q1):=⟨_,_,rfl⟩;obtain ⟨y,q2,hy⟩:∃ y q2,(lR q1).getD (0,q1)=(y,q2):=⟨_,_,rfl⟩;have hq1:q1.length≤l.length:=by
  cases e:lR l with
  | none=>rw [e] at hx;cases hx;exact aLZ _
  | some p=>rw [e] at hx;cases hx;exact Nat.le_of_lt (hlen _ _ e).1
 have hx2:(uA l).getD (iv 0,l)=(iv x,q1):=by
  rw [uA];cases e:lR l with
  | none=>rw [e] at hx;cases hx;rfl
  | some p=>rw [e] at hx;cases hx;rfl
 have hy2:(uA q1).getD (iv 0,q1)=(iv y,q2):=by
  rw [uA];cases e:lR q1 with
  | none=>rw [e] at hy;cases hy;rfl
  | some p=>rw [e] at hy;cases hy;rfl
 have hA1:uA l=none→ptA l=none:=fun e=>by
  rw [uA,Option.map_eq_none_iff] at e;rw [hs,e]
 have hA2:(uA l).isSome=true→uA q1=none→ptA l=none:=fun e e2=>by
  rw [uA,Option.map_eq_none_iff] at e2;cases e3:lR l with
  | none=>rw [uA,e3] at e;cases e
  | some p =>
   rw [e3] at hx;cases hx;rw [hs,e3];simp only;rw [e2]
 have hA3:(uA l).isSome=true→(uA q1).isSome=true→ptA l=some (.agg [iv x,iv y],q2):=fun e e2=>by
  cases e3:lR l with
  | none=>rw [uA,e3] at e;cases e
  | some p =>
   rw [e3] at hx;cases hx;rw [hs,e3];simp only;cases e4:lR q1 with
   | none=>rw [uA,e4] at e2;cases e2
   | some p=>rw [e4] at hy;cases hy;rfl
 have hA4:uA q1=none→ptA l=none:=fun e=>by
  cases h:uA l with
  | none=>exact hA1 h
  | some p=>exact hA2 (by rw [h];rfl) e
 clear hs hA2;refine dX.body func57 rfl ntmps57 (aL6 rfl) ?_;refine Sr<|Dd (by exact bC (id:=1) rfl aIN rfl rfl)<|Zz<|Sq ?_;refine rV (fun ch H1 H2=>ptA l=none∧ch=BI∧∃ q,H2=jH q++H1) [] [] [4] rfl follows (fun ch E1 H1 H2 hts hsh hks ⟨e,e2,q,e3⟩=>by subst e3;have h4:aB.get (jH q++H1) 4=some inO:=(hks 4 (aLW.2 rfl)).trans rfl;exact zL (H':=jH q++inH) (Fin.wk (by simp) ⟨⟨_,rfl,rfl⟩,OS _ _,⟨_,h4,rfl⟩,X6 rfl,trivial⟩ ⟨rfl,h4.symm,trivial⟩) ⟨e,e2,q,rfl⟩) ?_;refine bU (r:=⟨_,some [4],[]⟩) (DStep.plain rfl (fun H1 hH=>by exact(by exact aK rfl cT rfl ((hH _ rfl).trans rfl) rfl rfl rfl))) rfl ?_;refine pK (r:=⟨_,some [980],jH q1⟩) (.pan rfl (fun H1 hH=>by exact cW rfl rfl fT rfl ((hnu.tot hx2 ((hH 980 rfl).trans rfl) (eA _)).mono (fun _ _ h=>h) (fun ch H' ⟨e,e2,e3⟩=>⟨hA1 e,e2,e3⟩)))) rfl ?_;refine bU (r:=⟨_,some [4],[]⟩) (DStep.plain rfl (fun H1 hH=>by exact(by exact aK rfl cT rfl ((hH _ rfl).trans rfl) rfl rfl rfl))) rfl ?_;refine pK (r:=⟨_,some [980],jH q2⟩) (.pan rfl (fun H1 hH=>by exact cW rfl rfl fT rfl (((hnu2 q1 (by omega)).tot hy2 ((hH 980 rfl).trans rfl) (eA _)).mono (fun _ _ h=>h) (fun ch H' ⟨e,e2,e3⟩=>⟨hA4 e,e2,e3⟩)))) rfl ?_;refine bU (r:=⟨_,some [],[]⟩) (DStep.plain rfl (fun H1 hH=>by exact GO rfl aDC rfl rfl)) rfl ?_;refine bU (r:=⟨_,some [1],[_]⟩) (DStep.plain rfl (fun H1 hH=>by exact(by exact bT rfl sizeOf73 rfl rfl rfl rfl ((hH _ rfl).trans rfl) rfl rfl rfl))) rfl ?_;refine DI ⟨⟨by kernel_rfl,by kernel_rfl,by kernel_rfl⟩,fun hF=>?_⟩;simp only [QJ,true_and,and_true] at hF;refine aC ?_;refine FH ?_;refine dF (H':=(jH q2++inH)) (.inr rfl) rfl (eU rfl dQ sizeOf73 rfl rfl rfl (by simp only [Zl,encStr];rfl) rfl) (Fin.wk (by simp [KG]) (Hb<|Ha<|trivial) ⟨rfl,rfl,trivial⟩) ?_;exact⟨_,hA3 hF.1 hF.2,rfl,rfl⟩
abbrev ptB:AV:=.clo 57 [.ref 4 0 0 0]
def vV (A:List (Int×Int)):List (List AV):=(A.map fM).map (·.map AV.pv)
theorem UT (A:List (Int×Int)):(vV A).length=A.length:=by simp [vV]
theorem UU (A:List (Int×Int)) (p:Int×Int):vV A++[(fM p).map AV.pv]=vV (A++[p]):=by rw [vV,vV,List.map_append,List.map_append];rfl
theorem IS (A:List (Int×Int)) (H:aB):∀ r∈vV A,∀ a∈r,Clo H a:=aF7 _ _ _
def PF (l:List UInt8):Option (AV×List UInt8):=(sG EF l).map fun p=>(.pv (pA p.1),p.2)
theorem aAA {l:List UInt8} (h:lR l=none):PF l=none:=by rw [PF,sG,h];rfl
theorem Z9 {l q:List UInt8} {n:Int} (h:lR l=some (n,q)):PF l=(AE EF n.toNat q).map fun p=>(.pv (pA p.1),p.2):=by rw [PF,sG,h]
theorem aEz (l:List UInt8) (hl:l.length < 1000000000):xY 56 [IQ,ptB] inH l (PF l):=by
 refine xY.of (JO l) rfl (by simp;exact⟨rfl,rfl⟩) ?_;have hnu:=kD l hl;have hnone:=aAA (l:=l);have hsome:=fun n q=>Z9 (l:=l) (n:=n) (q:=q);have hlen:=fun n q=>gD (l:=l) (x:=n) (q:=q);rw [uA] at hnu;obtain ⟨O,hO⟩:∃ O,O=lR l:=⟨_,rfl⟩;rw [← hO] at hnu hnone hsome hlen;clear hO;refine dX.body func56 rfl ntmps56 (aL6 rfl) ?_;refine Sr<|Dd aP<|Zz<|Sq ?_;rcases O with _|⟨n,q0⟩
 ·rw [hnone rfl];have hn:xY 52 [IQ] [] l none:=hnu;refine eL ?_;refine fD rfl rfl rfl (by exact eN rfl rfl) ?_;exact mC rfl rfl (cW rfl rfl fT rfl (hn.no rfl (eA _))) (fun ch H' h=>by obtain ⟨rfl,q,rfl⟩:=h;exact zL (H':=jH q++inH) (Fin.wk (by simp) (Hb<|Ha<|trivial) ⟨rfl,rfl,trivial⟩) ⟨rfl,rfl,q,rfl⟩)
 have hn:xY 52 [IQ] [] l (some (iv n,q0)):=hnu;obtain ⟨hq0,hn0,hn1⟩:=hlen n q0 rfl;rw [hsome n q0 rfl];refine Rg<|Dd aF<|Dd (by exact aA rfl rfl fT rfl (hn.yes rfl (eA _)))<|Dd aP<|Zz<|Sr<|Dd (by exact nG (id:=905) (sz:=2) (ty:=73) rfl rfl rfl)<|Zz<|Sq<|Sr<|Dd aF<|Dd aF<|Zz<|aG ?_;refine jB (fun(l':List UInt8) (A:List (Int×Int))=>([(0,IQ),(1,ptB),(6,.osl 905 A.length 0 A.length),(9,iv n),(10,iv (A.length:Int))],(905,⟨A.length,2,73,vV A⟩)::(jH l'++inH))) (fun l' A=>l'.length+A.length < l.length∧A.length≤n.toNat∧AE EF n.toNat q0=(AE EF (n.toNat - A.length) l').map fun p=>(A++p.1,p.2)) (fun l' A=>l'.length) q0 [] ⟨by rw [List.length_nil];omega,aLa _,by simp⟩ ?_ ?_
 ·exact(cD.wk (Ea<|Ea<|Ea<|Eb<|Eb<|trivial) (Hc (IS _ _)<|Hb<|Ha<|trivial) ⟨rfl,rfl,trivial⟩)
 rintro l' A ⟨hl',hA,hR⟩;have hnx:=aBi l' (by omega);have hxl:=fun s q=>XP (l:=l') (p:=s) (q:=q);have hmore:=fun h=>R7 EF (k:=A.length) rfl h hR;rw [ptA] at hnx;obtain ⟨X,hX⟩:∃ X,X=EF l':=⟨_,rfl⟩;rw [← hX] at hnx hxl hmore;clear hX;refine Sr<|Dd dK<|Zz<|Sq ?_;refine Cn ?_ ?_<;>intro hc1
 ·have hlt:A.length < n.toNat:=by have:=aLP hc1;omega
  have hm:=hmore hlt;clear hmore;refine aE<|Sq<|aG ?_;rcases X with _|⟨s,q⟩
  ·have hm:AE EF n.toNat q0=none:=hm;rw [hm];have hnx:xY 57 [.ref 4 0 0 0] inH l' none:=hnx;refine eL ?_;refine fD rfl rfl rfl (by exact eN rfl rfl) ?_;refine fD rfl rfl rfl (by exact eN rfl rfl) ?_;exact mC rfl rfl (AX rfl rfl call57 rfl (hnx.no rfl (KP.sub ⟨rfl,trivial⟩))) (fun ch H' h=>by obtain ⟨rfl,q,rfl⟩:=h;exact zL (H':=jH q++inH) (Fin.wk (by simp) (Hb<|Ha<|trivial) ⟨rfl,rfl,trivial⟩) ⟨rfl,rfl,q,rfl⟩)
  have hm:AE EF n.toNat q0=(AE EF (n.toNat - (A.length+1)) q).map fun p=>((A++[s])++p.1,p.2):=hm;have hnx:xY 57 [.ref 4 0 0 0] inH l' (some (av (fM s),q)):=hnx;have hxl:=hxl s q rfl;have hnl:(A++[s]).length=A.length+1:=by rw [aLU];rfl
  refine Rg<|Dd aF<|Dd aF<|Dd (by exact xV.opr (AX rfl rfl call57 rfl (dX.of (hnx.yes rfl (KP.sub ⟨rfl,trivial⟩)))))<|Dd (by exact aS [fM s] rfl Q5 rfl rfl rfl rfl rfl (by intro r hr;rw [aLW] at hr;subst hr;rfl))<|Dd (by exact eK (ps:=[fM s]) rfl Q5 aKf rfl rfl rfl rfl rfl (UT _) rfl (by intro r hr;rw [aLW] at hr;subst hr;rfl) (m:=1) rfl (by omega) rfl (UU A s))<|Dd aP<|Zz<|Rg<|Dd (by exact cA rfl rfl rfl (show IntKind.i64.wrap ((A.length:Int)+1)=((A.length+1:Nat):Int)by rw [pO (by omega) (by omega)];omega))<|Dd aF<|Zz ?_;refine⟨q,A++[s],⟨by rw [hnl];omega,by rw [hnl];omega,by rw [hnl];exact hm⟩,by omega,?_⟩;dsimp only;rw [hnl];exact(cD.wk (Ea<|Ea<|Ea<|Eb<|Eb<|trivial) (Hc (IS _ _)<|Hb<|Ha<|trivial) ⟨rfl,rfl,trivial⟩)
 have hge:n.toNat=A.length:=by have:=aLQ hc1;omega
 have hR2:AE EF n.toNat q0=some (A,l'):=by rw [hR,hge,Nat.sub_self,AE];simp
 rw [hR2];refine bG<|Sr<|Dd aF<|Dd aP<|Zz<|aC ?_;refine FH ?_;refine dF (H':=(jH l'++inH)) (.inr rfl) rfl (aT rfl) (Fin.fz (id:=905) (ob:=⟨A.length,2,73,vV A⟩) (r':=.pv (pA A)) (A.map fM) rfl rfl (.osl (qV fM _)) rfl ⟨⟨_,rfl,rfl⟩,(by(simp;done)),⟨_,rfl,rfl⟩,(by(simp;rfl)),trivial⟩ ⟨rfl,rfl,trivial⟩) ?_;exact⟨_,rfl,rfl,rfl⟩
def CH (h i:Int):Bool:=((decide (h < 0)||decide (8 < h))||decide (i < 0))||decide (((2 ^ h.toNat:Nat):Int)≤i)
def zS:GSeal:=⟨0,[],[]⟩
def vD (s:ByteArray) (h i:Int) (m:ByteArray):GSeal×Int:=if CH h i=true then(zS,1)else(⟨i,CG s i.toNat m,kZ h.toNat (kM s h.toNat) i.toNat⟩,0)
theorem ZC (s m:ByteArray) (h i:Int) (H:aB) (hb:CH h i=true):aH Tryz.prog 36 [sv s,iv h,iv i,sv m] H (fun r H'=>r=.tup [av (iB zS),iv 1]∧H'=H):=by
 refine Pu ?_;have hsh:decide (h < 0)=false→decide (8 < h)=false→IntKind.i64.wrap (1*2 ^ h.toNat)=((2 ^ h.toNat:Nat):Int):=fun h1 h2=>by
  have h1:=aLQ h1;have h2:=aLQ h2;obtain ⟨n,rfl⟩:∃ n:Nat,h=(n:Int):=⟨h.toNat,by omega⟩;rw [aL4];have:=aEJ (h:=n) (by omega)
  rwa [aL4] at this
 have hbe:CH h i=(((decide (h < 0)||decide (8 < h))||decide (i < 0))||decide (((2 ^ h.toNat:Nat):Int)≤i)):=rfl;refine Bd func36 rfl ntmps36<|Sr<|Dd (by exact bZ (id:=4) rfl rfl rfl rfl rfl)<|Dd (by exact bZ (id:=6) rfl rfl rfl rfl rfl)<|Dd (by exact bC (id:=8) rfl YT rfl rfl)<|Dd aP<|Zz<|Sq<|Sq ?_;refine oI (t:=30) (n:=16) (X:=CH h i) ?_ ?_
 ·cases hg17:(decide (h < 0):Bool)
  ·cases hg21:(decide (8 < h):Bool)
   ·cases hg25:(decide (i < 0):Bool)
    ·refine aQ follows<|Cq aF<|Cq dK<|Cq aF<|Nf aF<|Nf mI<|Cq xA<|Cq aF<|Nf (bK isAgg3)<|Nf dK<|Cq xA<|Cq aF<|Nf (bK isAgg3)<|Nf aF<|Nf (by exact CS rfl rfl rfl (by have:=aLQ hg17;omega) (by have:=aLQ hg21;simp [IntKind.bits];omega) (hsh hg17 hg21))<|Nf JR<|Cq xA<|bJ<|Kr ?_;exact⟨rfl,⟨_,rfl,by(rw [hbe,hg17,hg21,hg25];rfl)⟩,rfl,rfl,rfl⟩
    refine aQ follows<|Cq aF<|Cq dK<|Cq aF<|Nf aF<|Nf mI<|Cq xA<|Cq aF<|Nf (bK isAgg3)<|Nf dK<|Cq xA<|Cq aF<|Of<|Of<|Of<|Of<|Cq KU<|bJ<|Kr ?_;exact⟨rfl,⟨_,rfl,by(rw [hbe,hg17,hg21,hg25];rfl)⟩,rfl,rfl,rfl⟩
   refine aQ follows<|Cq aF<|Cq dK<|Cq aF<|Nf aF<|Nf mI<|Cq xA<|Cq aF<|Of<|Of<|Cq KU<|Cq aF<|Of<|Of<|Of<|Of<|Cq cE<|bJ<|Kr ?_;exact⟨rfl,⟨_,rfl,by(rw [hbe,hg17,hg21];rfl)⟩,rfl,rfl,rfl⟩
  refine aQ follows<|Cq aF<|Cq dK<|Cq aF<|Of<|Of<|Cq KU<|Cq aF<|Of<|Of<|Cq cE<|Cq aF<|Of<|Of<|Of<|Of<|Cq cE<|bJ<|Kr ?_;exact⟨rfl,⟨_,rfl,by(rw [hbe,hg17];rfl)⟩,rfl,rfl,rfl⟩
 refine Cn ?_ ?_<;>intro hc1
 ·refine Sr<|Dd (uX aFg)<|Uu (iH sizeOf25)<|Dd aP<|Zz<|aC ?_;refine rW (H':=[]) (.inr rfl) rfl (eU rfl eM sizeOf25 rfl rfl rfl (by simp only [Zl,encStr];rfl) rfl) (aT rfl) (Fin.wk (by simp [iB]) trivial trivial) ?_;exact Qq
 rw [hb] at hc1;cases hc1
theorem ML (s m:ByteArray) (h i:Int) (H:aB) (hs:s.size < 1099511627776) (hm:m.size < 1099511627776):aH Tryz.prog 36 [sv s,iv h,iv i,sv m] H (fun r H'=>r=.tup [av (iB (vD s h i m).1),iv (vD s h i m).2]∧H'=H):=by
 rw [vD];by_cases hb:CH h i=true
 ·rw [aLS hb];exact ZC s m h i H hb
 rw [aLR hb];have hb:CH h i=false:=by simpa using hb
 simp only [CH,aLf,aL1] at hb;obtain ⟨⟨⟨h1,h2⟩,h3⟩,h4⟩:=hb;obtain ⟨n,rfl⟩:∃ n:Nat,h=(n:Int):=⟨h.toNat,by omega⟩;obtain ⟨k,rfl⟩:∃ k:Nat,i=(k:Int):=⟨i.toNat,by omega⟩;rw [aL4] at h4 ⊢;rw [aL4];exact aEH s m n k H hs hm (by omega) (by omega)
theorem qZ {s m:ByteArray} {h i:Int} (h1:(vD s h i m).2=0):FSeal (vD s h i m).1∧(vD s h i m).1=⟨i,CG s i.toNat m,kZ h.toNat (kM s h.toNat) i.toNat⟩∧(0≤h∧h≤8)∧0≤i∧i < 2 ^ h.toNat:=by
 rw [vD] at h1 ⊢
 split at h1
 ·cases h1
 next hb =>
 rw [aLR hb];have hb:CH h i=false:=by simpa using hb
 simp only [CH,aLf,aL1] at hb;obtain ⟨⟨⟨h1,h2⟩,h3⟩,h4⟩:=hb;have h5:i < 2 ^ h.toNat:=by
  have:(((2 ^ h.toNat:Nat):Int))=2 ^ h.toNat:=by push_cast;rfl
  omega
 have hlt:i.toNat < 2 ^ h.toNat:=by omega
 have h8:2 ^ h.toNat≤256:=qC (by omega);exact⟨⟨by show 0≤i;omega,by show i < 256;omega,by rw [II];exact aLZ _,by rw [EG];omega,Q8 _ _ _,EH _ _ _ (uR _ _) hlt (AF _ _)⟩,rfl,⟨by omega,by omega⟩,by omega,h5⟩
def zR:GRec:=⟨0,0,0,0,sNil,[],[],sNil,false,0,sNil,zS,⟨sNil,sNil,[],[],zS⟩⟩
def xW (r:GRec):GRec:={r with sl:=zS,priv:={r.priv with sl:=zS}}
def xB (r:GRec):GRec×Int:=if(eD r).2≠0 then(zR,(eD r).2)else(r,0)
def mk1 (r:GRec) (a:GSeal):GRec:={r with sl:=a,priv:={r.priv with sl:=zS}}
def R6 (r:GRec) (a b:GSeal):GRec:={r with sl:=a,priv:={r.priv with sl:=b}}
def C6 (r:GRec) (s:ByteArray) (h:Int):GRec×Int :=if dH (xW r)=false then(zR,1)
 else if(vD s h (2*r.number - 2) (sB (xW r))).2≠0 then(zR,(vD s h (2*r.number - 2) (sB (xW r))).2)
 else if fO r.priv=true then xB (mk1 r (vD s h (2*r.number - 2) (sB (xW r))).1)
 else if(vD s h (2*r.number - 1) (pR (xW r))).2≠0 then(zR,(vD s h (2*r.number - 1) (pR (xW r))).2)
 else xB (R6 r (vD s h (2*r.number - 2) (sB (xW r))).1 (vD s h (2*r.number - 1) (pR (xW r))).1)
theorem kK {s:GSeal} (h:FSeal s):rI s:=by have i0:=h.i0;have i1:=h.i1;have l1:=h.sl;have l2:=h.pl;exact⟨⟨by omega,by omega⟩,⟨by omega,fun t ht=>by have:=qI (h.sa t ht);omega⟩,⟨by omega,fun t ht=>by have:=qI (h.pa t ht);omega⟩⟩
theorem okZ:rI zS:=kK (jT (by decide))
theorem VB {r:GRec} {a b:GSeal} (h:iE r) (ha:rI a) (hb:rI b):iE (R6 r a b):=by obtain ⟨h1,h2,h3,h4,_,p1,p2,p3,p4,_⟩:=h;exact⟨h1,h2,h3,h4,ha,p1,p2,p3,p4,hb⟩
theorem aCJ (r:GRec) (s:ByteArray) (h:Int) (hr:iE r) (hp:r.parents.length < 549755813888) (hs:s.size < 1099511627776) (H:aB):aH Tryz.prog 26 [av (bM r),sv s,iv h] H (fun x H'=>x=.tup [av (bM (C6 r s h).1),iv (C6 r s h).2]∧H'=H):=by
 refine aH.pure ?_ (by simp [bM]) H;have hr0:iE (xW r):=VB hr okZ okZ;have hv:=fun H=>zU (xW r) hr0 hp H;have hid:=fun H=>SE (xW r) hr0 hp H;have hem:=fun H=>YB (mk1 r zS).priv hr0.2.2.2.2.2 H;rw [C6];refine Bd func26 rfl ntmps26<|Sr<|Dd (by exact bZ (id:=3) rfl rfl rfl rfl rfl)<|Dd (by exact bC (id:=6) rfl xN rfl rfl)<|Dd aP<|Zz<|Sr<|Dd (uX aFg)<|Dd (uX aFg)<|Dd (bB lK)<|Uu (by exact lG rfl sizeOf25 rfl rfl rfl rfl rfl rfl rfl (aL6 rfl) rfl rfl)<|Dd (bB eV)<|Dd (bB nM)<|Uu (by exact lG rfl sizeOf25 rfl rfl rfl rfl rfl rfl rfl (aL6 rfl) rfl rfl)<|Zz<|Sq<|Sr<|Dd (pZ aR aL)<|Dd (by exact aA rfl rfl oK rfl (hv _))<|Dd lI<|Zz ?_;refine Cn ?_ ?_<;>intro hc1
 ·have hb:=not_not hc1;rw [aLS hb];refine Sr<|Dd (uX TB)<|Uu (iH aL)<|Dd aP<|Zz<|aC ?_;refine rW (H':=[]) (.inr rfl) rfl (eU rfl aR aL rfl rfl rfl (by simp only [Zl,encStr];rfl) rfl) (aT rfl) (Fin.wk (by simp [bM]) trivial trivial) ?_;exact Qq
 have hb:=AD hc1;rw [aLR (by rw [hb];decide)];have hf:=oX hb;have hnu:=hf.nu;have hnr:(xW r).number=r.number:=rfl;rw [hnr] at hnu;have hme:=fun H=>M6 (xW r) hr0 hp hb H;have hms:(pR (xW r)).size=16:=iM _;have his:=PN (xW r);obtain ⟨i0,hi0⟩:∃ i0,i0=sB (xW r):=⟨_,rfl⟩;obtain ⟨m0,hm0⟩:∃ m0,m0=pR (xW r):=⟨_,rfl⟩;rw [← hi0] at hid his ⊢;rw [← hm0] at hme hms ⊢;have hs1:=fun H=>ML s i0 h (2*r.number - 2) H hs (by omega);have hs2:=fun H=>ML s m0 h (2*r.number - 1) H hs (by omega);have ho1:=qZ (s:=s) (m:=i0) (h:=h) (i:=2*r.number - 2);have ho2:=qZ (s:=s) (m:=m0) (h:=h) (i:=2*r.number - 1);obtain ⟨A,hA⟩:∃ A,A=vD s h (2*r.number - 2) i0:=⟨_,rfl⟩;obtain ⟨B,hB⟩:∃ B,B=vD s h (2*r.number - 1) m0:=⟨_,rfl⟩;rw [← hA] at hs1 ho1 ⊢;rw [← hB] at hs2 ho2 ⊢;clear hA hB;refine aE<|Sq<|aQ follows<|Cq (pZ aR aL)<|Cq (by exact aA rfl rfl QI rfl (hid _))<|Cq (pZ aR aL)<|Cq (by exact aA rfl rfl call85 rfl (hme _))<|Cq aP<|Cq aP<|bJ<|Kr<|Sr<|Dd aP<|Zz<|Sq<|Sr<|Dd aF<|Dd aF<|Dd (bB pT)<|Dd (bK isAgg3)<|Dd (by exact qD rfl rfl rfl (pO (by omega) (by omega)))<|Dd (by exact eB rfl rfl rfl (pO (by omega) (by omega)))<|Dd aF<|Dd (by exact aA rfl rfl call36 rfl (hs1 _))<|Dd aF<|Dd dV<|Dd dV<|Dd (bB lK)<|Uu (by exact lG rfl sizeOf25 rfl rfl rfl rfl rfl rfl rfl (aL6 rfl) rfl rfl)<|Dd aP<|Zz<|Sr<|Dd aF<|Dd uL<|Zz ?_;refine Cn ?_ ?_<;>intro hc2
 ·have hne:A.2≠0:=by have:=hc2;intro e;rw [e] at this;exact absurd this (by decide)
  rw [aLS hne];refine Sr<|Dd (uX TB)<|Dd aF<|Uu (iH aL)<|Dd aP<|Zz<|aC ?_;refine rW (H':=[]) (.inr rfl) rfl (eU rfl aR aL rfl rfl rfl (by simp only [Zl,encStr];rfl) rfl) (aT rfl) (Fin.wk (by simp [bM]) trivial trivial) ?_;exact Qq
 have heq:A.2=0:=by have:=hc2;by_cases e:A.2=0;exact e;rw [decide_eq_false e] at this;cases this
 rw [aLR (by rw [heq];decide)];have ho1:=(ho1 heq).1;obtain ⟨X,hX⟩:∃ X,X=(if fO r.priv=true then xB (mk1 r A.1)else if B.2≠0 then(zR,B.2)else xB (R6 r A.1 B.1)):=⟨_,rfl⟩;rw [← hX];have hX1:fO r.priv=true→X=xB (R6 r A.1 zS):=fun e=>by rw [hX,aLS e];rfl
 have hX2:fO r.priv=false→B.2≠0→X=(zR,B.2):=fun e e2=>by rw [hX,aLR (by rw [e];decide),aLS e2]
 have hX3:fO r.priv=false→B.2=0→X=xB (R6 r A.1 B.1):=fun e e2=>by rw [hX,aLR (by rw [e];decide),aLR (by rw [e2];decide)]
 have hee:fO (mk1 r zS).priv=fO r.priv:=rfl;rw [hee] at hem;clear hX;obtain ⟨em,hemE⟩:∃ em,em=fO r.priv:=⟨_,rfl⟩;rw [← hemE] at hem hX1 hX2 hX3;refine aE ?_;refine BZ (fun(b:GSeal)=>([(3,.ref 3 0 0 0),(6,.ref 6 0 0 0)],[(6,bx 21 30 ((bM zR).map .pv)),(3,bx 21 30 ((bM (R6 r A.1 b)).map .pv))])) (fun b=>rI b∧X=xB (R6 r A.1 b)) ?_ ?_
 ·refine Sr<|Dd (bB eV)<|Dd (pZ kT sizeOf28)<|Dd (by exact aA rfl rfl QF rfl (hem _))<|Dd lI<|Zz ?_;refine Cn ?_ ?_<;>intro hc3
  ·have he:=not_not hc3;refine Sr<|Dd aF<|Dd aF<|Dd (bB pT)<|Dd (bK isAgg3)<|Dd (by exact qD rfl rfl rfl (pO (by omega) (by omega)))<|Dd (by exact eB rfl rfl rfl (pO (by omega) (by omega)))<|Dd aF<|Dd (by exact aA rfl rfl call36 rfl (hs2 _))<|Dd aF<|Dd dV<|Dd dV<|Dd (bB eV)<|Dd (bB nM)<|Uu (by exact lG rfl sizeOf25 rfl rfl rfl rfl rfl rfl rfl (aL6 rfl) rfl rfl)<|Dd aP<|Zz<|Sr<|Dd aF<|Dd uL<|Zz ?_;refine Cn ?_ ?_<;>intro hc4
   ·have hne:B.2≠0:=by have:=hc4;intro e;rw [e] at this;exact absurd this (by decide)
    rw [hX2 he hne];refine Sr<|Dd (uX TB)<|Dd aF<|Uu (iH aL)<|Dd aP<|Zz<|aC ?_;refine rW (H':=[]) (.inr rfl) rfl (eU rfl aR aL rfl rfl rfl (by simp only [Zl,encStr];rfl) rfl) (aT rfl) (Fin.wk (by simp [bM]) trivial trivial) ?_;exact Qq
   have heq:B.2=0:=by have:=hc4;by_cases e:B.2=0;exact e;rw [decide_eq_false e] at this;cases this
   refine aE ?_;exact⟨B.1,⟨kK (ho2 heq).1,hX3 he heq⟩,Wk⟩
  have he:=AD hc3;refine aE ?_;exact⟨zS,⟨okZ,hX1 he⟩,Wk⟩
 rintro b ⟨hb2,hX2⟩;rw [hX2,xB];have htx:=fun H=>zW (R6 r A.1 b) (VB hr (kK ho1) hb2) hp H;obtain ⟨T,hT⟩:∃ T,T=eD (R6 r A.1 b):=⟨_,rfl⟩;rw [← hT] at htx ⊢;refine Sq<|Sr<|Dd (pZ aR aL)<|Dd (by exact aA rfl rfl mE rfl (htx _))<|Dd aF<|Dd dV<|Dd dV<|Dd aP<|Dd aP<|Zz<|Sr<|Dd aF<|Dd uL<|Zz ?_;refine Cn ?_ ?_<;>intro hc5
 ·have hne:T.2≠0:=by have:=hc5;intro e;rw [e] at this;exact absurd this (by decide)
  rw [aLS hne];refine Sr<|Dd (uX TB)<|Dd aF<|Uu (iH aL)<|Dd aP<|Zz<|aC ?_;refine rW (H':=[]) (.inr rfl) rfl (eU rfl aR aL rfl rfl rfl (by simp only [Zl,encStr];rfl) rfl) (aT rfl) (Fin.wk (by simp [bM]) trivial trivial) ?_;exact Qq
 have heq:T.2=0:=by have:=hc5;by_cases e:T.2=0;exact e;rw [decide_eq_false e] at this;cases this
 rw [aLR (by rw [heq];decide)];refine aE<|Sr<|Dd (pZ aR aL)<|Uu (iH aL)<|Dd aP<|Zz<|aC ?_;refine rW (H':=[]) (.inr rfl) rfl (eU rfl aR aL rfl rfl rfl (by simp only [Zl,encStr];rfl) rfl) (aT rfl) (Fin.wk (by simp [bM]) trivial trivial) ?_;exact Qq
abbrev eOJ (e:Int):Ob:=bx 1 41 [iv e]
abbrev rOJ (x:GRec):Ob:=bx 21 30 ((bM x).map .pv)
abbrev UZ (x:GRec) (e:Int):aB:=[(3,eOJ e),(2,rOJ x)]
abbrev eAJ:Ob:=bx 1 41 [.any]
abbrev rAJ:Ob:=bx 21 30 [.any,.any,.any,.any,.any,.any,.any,.any,.any,.any,.any,.any,.any,.any,.any,.any,.any,.any,.any,.any,.any]
abbrev pAJ:aB:=[(3,eAJ),(2,rAJ)]
abbrev dcJ:List AV:=[.ref 2 0 0 0,.ref 3 0 0 0]
theorem aGm (x:GRec) (e:Int):QK Tryz.prog 50 dcJ (UZ x e) .returning (fun H2=>H2=UZ x e):=by
 refine DS (x:=EN) (vx:=.nilIface) func50 rfl ntmps50 (aL6 rfl) rfl rfl rfl rfl rfl rfl (fun w I=>.sat rfl rfl) (.inl ⟨rfl,rfl⟩) ?_;refine J8 ?_;refine DM ?_;refine mY ?_;refine GF rfl rfl rfl (by exact U7 rfl D1 rfl) ?_;refine AP ?_;refine FF rfl (fun hc1=>?_) (fun hc1=>?_)
 ·refine mY ?_;refine GF rfl rfl rfl (by exact rG rfl rfl) ?_;refine AP ?_;exact⟨.inl rfl,UZ x e,Fin.wk (by simp) (Hb<|Hb<|trivial) ⟨rfl,rfl,trivial⟩,rfl⟩
 cases hc1
theorem aGn:QK Tryz.prog 50 dcJ pAJ (.panicking BI) (fun H2=>H2=UZ zR 5):=by
 refine DS (x:=.ifa 84 []) (vx:=.iface 84 (.agg #[])) func50 rfl ntmps50 (aL6 rfl) rfl rfl rfl rfl rfl rfl (fun w I=>.ifa _ _ _ rfl (by simp)) (.inr ⟨_,rfl,rfl⟩) ?_;refine J8 ?_;refine DM ?_;refine mY ?_;refine GF rfl rfl rfl (by exact U8 rfl D1 rfl) ?_;refine AP ?_;refine FF rfl (fun hc1=>?_) (fun hc1=>?_)
 ·cases hc1
 refine DM ?_;refine mY ?_;refine GF rfl rfl rfl (by exact IW rfl (cG tR rfl) rfl) ?_;refine GF rfl rfl rfl (by exact pE rfl rfl rfl) ?_;refine GF rfl rfl rfl (by exact pE rfl rfl rfl) ?_;refine AP ?_;refine FF rfl (fun hc2=>?_) (fun hc2=>?_)
 ·refine DM ?_;refine mY ?_;refine GF rfl rfl rfl (by exact VA rfl aDT) ?_;refine aDP rfl rfl (by exact U5 rfl rfl rfl sizeOf84) ?_;refine AP ?_;refine mY ?_;refine GF rfl rfl rfl (by exact GO rfl TB rfl rfl) ?_;refine aDP rfl rfl (by exact bT rfl aL rfl rfl rfl rfl rfl rfl rfl rfl) ?_;refine aDP rfl rfl (by exact bT rfl sizeOf41 rfl rfl rfl rfl rfl rfl rfl rfl) ?_;refine AP ?_;exact⟨.inl rfl,UZ zR 5,Fin.wk (by simp) (Hb<|Hb<|trivial) ⟨rfl,rfl,trivial⟩,rfl⟩
 cases hc2
theorem aHX (s:ByteArray) (hs:s.size < 1099511627776) (hok:(gP s).2.1=0):aH Tryz.prog 167 [sv s] [] (fun r H'=>r=.tup [.osl 905 (gP s).1.length 0 (gP s).1.length,iv 0,iv (gP s).2.2]∧H'=[(905,⟨(gP s).1.length,3,196,iS (gP s).1⟩)]):=by
 refine Bd func167 rfl ntmps167<|Sr<|Dd (by exact bC (id:=2) rfl aFv rfl rfl)<|Dd (by exact bC (id:=3) rfl aG2 rfl rfl)<|Dd (by exact bC (id:=4) rfl zo3 rfl rfl)<|Zz<|Sq<|Sr<|Dd aF<|Dd (nT underlying9)<|Dd mI<|Zz ?_;refine Cn ?_ ?_<;>intro hc1
 ·have e:gP s=([],2,-1):=by rw [gP,aLS (by have:=aLP hc1;omega)]
  rw [e] at hok;exact absurd hok (by decide)
 have hsz:¬ 20000 < s.size:=by have:=aLQ hc1;omega
 obtain ⟨ds,hds⟩:∃ ds,ds=lE s (s.size+1) 0:=⟨_,rfl⟩;have hg:gP s=kH [] ds:=by rw [gP,aLR hsz,hds]
 refine aE<|Sr<|Dd (by exact bC (id:=5) rfl aAt rfl rfl)<|Zz<|Sq<|Sr<|Dd aF<|Dd (by exact aA rfl rfl call204 rfl (QX s _ rfl rfl rfl (cZ.ofL ⟨(by(simp;done)),(by(simp;done)),(by(simp;done)),(by(simp;done)),trivial⟩)))<|Zz<|aG ?_;refine fE.ent (E':=[(2,.ref 2 0 0 0),(3,.ref 3 0 0 0),(4,.ref 4 0 0 0),(5,.ref 5 0 0 0),(11,.clo 243 [.ref 921 0 0 0,.ref 924 0 0 0])]) (H':=[(905,⟨0,3,196,[]⟩),(5,bx 1 191 [.osl 905 0 0 0]),(924,tA),(923,tC),(921,tS s),(4,bx 1 3 [iv 0]),(3,bx 1 41 [iv 0]),(2,bx 1 191 [.pv (.sl [])])]) ?_ ?_
 ·exact(cD.nz 905 3 196 rfl rfl ⟨⟨_,rfl,(by exact Nz.same (by(simp;rfl)))⟩,⟨_,rfl,(by exact Nz.same (by(simp;rfl)))⟩,⟨_,rfl,(by exact Nz.same (by(simp;rfl)))⟩,⟨_,rfl,(by exact Nz.same (by(simp;rfl)))⟩,⟨_,rfl,(by exact Nz.same (by(simp;exact⟨rfl,rfl⟩)))⟩,trivial⟩ ⟨⟨_,rfl,rfl,rfl,rfl,(by exact .inr ⟨_,_,rfl,rfl,(by repeat(first|exact trivial|refine⟨(by exact Nz.own),?_⟩))⟩)⟩,⟨_,rfl,rfl,rfl,rfl,(by exact .inl ⟨rfl,(by exact nC rfl rfl)⟩)⟩,⟨_,rfl,rfl,rfl,rfl,(by exact .inl ⟨rfl,(by exact gB _)⟩)⟩,⟨_,rfl,rfl,rfl,rfl,(by exact .inl ⟨rfl,(by exact nB _ _)⟩)⟩,⟨_,rfl,rfl,rfl,rfl,(by exact .inl ⟨rfl,(by(simp;done))⟩)⟩,⟨_,rfl,rfl,rfl,rfl,(by exact .inl ⟨rfl,(by(simp;done))⟩)⟩,⟨_,rfl,rfl,rfl,rfl,(by exact .inl ⟨rfl,(by(simp;done))⟩)⟩,trivial⟩ trivial)
 have hdl:ds.length≤s.size+1:=by rw [hds];exact yC s _ _
 obtain ⟨j,hj⟩:∃ j,j=sF (nH ds) ds.length 0:=⟨_,rfl⟩;have hj1:j≤ds.length:=by have:=(CJ (nH ds) ds.length 0).2;omega
 have hj2:∀ k,k < j→nH ds k=true:=fun k hk=>CL (nH ds) ds.length 0 k (aLa _) (by rw [← hj];exact hk);have hj3:j < ds.length→nH ds j=false:=fun h=>by have:=uE (nH ds) ds.length 0 (by omega);rwa [← hj] at this
 have hrun:=ES hj1 hj2;refine AO (id:=904) (p:=12) pI rfl call243 rfl rfl (by simp [pI];exact⟨rfl,rfl,rfl,rfl⟩) ?_;intro x hx1 hx2 hx3 hx4 hx5 hx6;have hround:∀ (k:Nat) (d:GFound),ds[k]?=some d→k≤j →
   cC Tryz.prog (.yld 904 0) [.agg ((DG d).map .pv)] ((904,LR x pI)::(926,tF d)::kL s (ds.take k) (.pv (.sl [])) 0 0) (fun r H'=>r=bv (nH ds k)∧H'=(if nH ds k then(904,LR x pI)::(926,tF d)::kL s (ds.take (k+1)) (.pv (.sl [])) 0 0 else(904,LR (left x .ret) pI)::(926,tF d)::kL s (ds.take k) (.pv (.sl [])) (if d.err≠0 then d.err else 2) d.pos)):=by
  intro k d hd hkj;have hok:=C1 hd;have hkl:k < ds.length:=(aLX.1 hd).1;have htl:(ds.take k).length=k:=by rw [aL7];omega
  have hnx:ds.take (k+1)=ds.take k++[d]:=by rw [List.take_add_one,hd];rfl
  refine .inl ⟨904,0,rfl,?_⟩;refine N7 [(2,.ref 2 0 0 0),(3,.ref 3 0 0 0),(4,.ref 4 0 0 0),(5,.ref 5 0 0 0),(6,.ref 907 0 0 0)] ((907,tF d)::(926,tF d)::kL s (ds.take k) (.pv (.sl [])) 0 0) hx1 hx2 hx3 hx4 hx5 hx6 rfl rfl rfl ?_ ?_
  ·refine Rg<|Dd (by exact bC (id:=907) rfl aAu rfl rfl)<|Uu (iH B7)<|Zz ?_;exact(cD.wk (Ea<|Ea<|Ea<|Ea<|Ea<|trivial) (Hc (jG (by simp [pI];exact⟨rfl,rfl,rfl,rfl⟩))<|Hc (sY _ _)<|Hc (sY _ _)<|Hc (bW _ _)<|Ha<|Hc (nC rfl rfl)<|Hc (gB _)<|Hc (nB _ _)<|Hb<|Hb<|Hb<|trivial) ⟨rfl,rfl,rfl,rfl,rfl,rfl,rfl,rfl,rfl,rfl,trivial⟩)
  refine aG<|Sq<|aG<|Sr<|Dd (bB nN)<|Dd (bK jC)<|Dd uL<|Da ?_;refine Cn ?_ ?_<;>intro hc2
  ·have he:d.err≠0:=by have h:=hc2;rw [aLc,aL1] at h;exact h
   have h0:nH ds k=false:=by rw [hok,decide_eq_false he];rfl
   rw [h0,aLR (by decide),aLS he];refine Sq<|aQ follows<|Cr [907] (fun _ h=>fh nN h)<|Cr [907] (fun _ h=>lh jC h)<|Cr [907] (fun _ h=>fh kO h)<|Cr [907] (fun _ h=>fh HG h)<|Cr [907] (fun _ h=>lh isAgg3 h)<|Cp [2] (fun H1 hH=>by exact bT rfl jW rfl rfl rfl rfl ((hH _ rfl).trans rfl) rfl rfl rfl)<|Cp [3] (fun H1 hH=>by exact bT rfl sizeOf41 rfl rfl rfl rfl ((hH _ rfl).trans rfl) rfl rfl rfl)<|Cp [4] (fun H1 hH=>by exact bT rfl sizeOf3 rfl rfl rfl rfl ((hH _ rfl).trans rfl) rfl rfl rfl)<|bJ<|Kr<|aC ?_;exact⟨(926,tF d)::kL s (ds.take k) (.pv (.sl [])) d.err d.pos,(cD.wk trivial (Hc (jG (by simp [pI];exact⟨rfl,rfl,rfl,rfl⟩))<|Hc (sY _ _)<|Hc (bW _ _)<|Ha<|Hc (nC rfl rfl)<|Hc (gB _)<|Hc (nB _ _)<|Hb<|Hb<|Hb<|trivial) ⟨rfl,rfl,rfl,rfl,rfl,rfl,rfl,rfl,rfl,rfl,trivial⟩),rfl,rfl⟩
  have he:d.err=0:=by have h:=hc2;rw [Bool.not_eq_false',aL0] at h;exact h
  refine Sr<|Dd (bK jI)<|Dd (by exact dS rfl fP rfl rfl rfl)<|Dd cY<|Da ?_;refine Cn ?_ ?_<;>intro hc3
  ·have hk5:k=5000:=by have:=aLP hc3;omega
   have h0:nH ds k=false:=by rw [hok,decide_eq_true he,decide_eq_true hk5];rfl
   rw [h0,aLR (by decide),aLR (fun h=>h he)];refine Sq<|aQ follows<|Cr [907] (fun _ h=>fh kO h)<|Cr [907] (fun _ h=>fh HG h)<|Cr [907] (fun _ h=>lh isAgg3 h)<|Cp [2] (fun H1 hH=>by exact bT rfl jW rfl rfl rfl rfl ((hH _ rfl).trans rfl) rfl rfl rfl)<|Cp [3] (fun H1 hH=>by exact bT rfl sizeOf41 rfl rfl rfl rfl ((hH _ rfl).trans rfl) rfl rfl rfl)<|Cp [4] (fun H1 hH=>by exact bT rfl sizeOf3 rfl rfl rfl rfl ((hH _ rfl).trans rfl) rfl rfl rfl)<|bJ<|Kr<|aC ?_;exact⟨(926,tF d)::kL s (ds.take k) (.pv (.sl [])) 2 d.pos,(cD.wk trivial (Hc (jG (by simp [pI];exact⟨rfl,rfl,rfl,rfl⟩))<|Hc (sY _ _)<|Hc (bW _ _)<|Ha<|Hc (nC rfl rfl)<|Hc (gB _)<|Hc (nB _ _)<|Hb<|Hb<|Hb<|trivial) ⟨rfl,rfl,rfl,rfl,rfl,rfl,rfl,rfl,rfl,rfl,trivial⟩),rfl,rfl⟩
  have hk5:¬ k=5000:=by have:=aLQ hc3;omega
  have h0:nH ds k=true:=by rw [hok,decide_eq_true he,decide_eq_false hk5];rfl
  rw [h0,aLS rfl,hnx,aCZ];refine aE<|Rg<|Dd (bK jI)<|Dd (bB kO)<|Dd (pZ TW sizeOf196)<|Dd (by exact aS [dM d] rfl lN rfl rfl rfl rfl rfl (by intro r hr;rw [aLW] at hr;subst hr;rfl))<|Dd (by exact eK (ps:=[dM d]) rfl lN aCm rfl rfl rfl rfl rfl (vJ _) rfl (by intro r hr;rw [aLW] at hr;subst hr;rfl) (m:=1) rfl (by omega) rfl (BA (ds.take k) d))<|Uu (iH jW)<|Zz ?_;exact⟨(926,tF d)::[(905,⟨(ds.take k).length+1,3,196,iS (ds.take k++[d])⟩),(5,bx 1 191 [.osl 905 ((ds.take k).length+1) 0 ((ds.take k).length+1)]),(924,tA),(923,tC),(921,tS s),(4,bx 1 3 [iv 0]),(3,bx 1 41 [iv 0]),(2,bx 1 191 [.pv (.sl [])])],(cD.wk trivial (Hc (jG (by simp [pI];exact⟨rfl,rfl,rfl,rfl⟩))<|Hc (sY _ _)<|Hc (bW _ _)<|Ha<|Hc (nC rfl rfl)<|Hc (gB _)<|Hc (nB _ _)<|Hb<|Hb<|Hb<|trivial) ⟨rfl,rfl,rfl,rfl,rfl,rfl,rfl,rfl,rfl,rfl,trivial⟩),rfl,rfl⟩
 rcases Nat.lt_or_ge j ds.length with hlt|hge
 ·obtain ⟨f,hf⟩:=bE hlt;have hbad:=hj3 hlt;have hdj:ds.drop j=f::ds.drop (j+1):=by
   rw [List.drop_eq_getElem_cons hlt];rw [aLY hlt] at hf;cases hf;rfl
  have hres:gP s=([],(if f.err≠0 then f.err else 2),(f.pos:Int)):=by
   rw [hg,hrun,hdj,kH]
   split
   ·rfl
   rename_i he;have he0:f.err=0:=by
    by_cases h:f.err=0
    ·exact h
    exact absurd h he
   rw [C1 hf,decide_eq_true he0,Bool.true_and,Bool.not_eq_false',aL0] at hbad;rw [aLS (by rw [aL7];omega)]
  rw [hres] at hok;have hok:(if f.err≠0 then f.err else 2)=0:=hok
  split at hok
  ·next h=>exact absurd hok h
  exact absurd hok (by decide)
 have hje:j=ds.length:=Nat.le_antisymm hj1 hge;rw [hje,List.take_length,List.drop_length] at hrun;rw [hg,hrun,kH];refine(D7 s (.yld 904 0) (fun k=>(904,LR x pI)::kL s (ds.take k) (.pv (.sl [])) 0 0) (nH ds) ds.length hs (fun k=>rfl) (fun k=>rfl) (fun k=>rfl) (fun k=>rfl) (fun k=>(cZ.ofL ⟨(by exact jG (by simp [pI];exact⟨rfl,rfl,rfl,rfl⟩)),(by exact bW _ _),(by(simp;rfl)),(by exact nC rfl rfl),(by exact gB _),(by exact nB _ _),(by(simp;done)),(by(simp;done)),(by(simp;done)),trivial⟩)) (fun k=>by simp;rfl) (by rw [← hds];exact aLZ _) (fun k hk=>hj2 k (by omega)) (.inl (by rw [← hds])) ?_).mono ?_
 ·rw [← hds];intro k d hd hk;have hr:=hround k d hd (by omega);have hok:=hj2 k (by omega);rw [hok,aLS rfl] at hr;rw [hok];exact cC.congrG hr (fun j=>mA (by decide) j) (fun j=>mA (by decide) j)
 rintro r H' ⟨rfl,rfl⟩;rw [List.take_length];refine⟨x,_,rfl,by rw [hx1];decide,rfl,fun z=>?_⟩;rw [hx2];refine Sr<|Dd (bK jI)<|Uu (iH jW)<|Uu (iH sizeOf41)<|Uu (iH sizeOf3)<|Zz<|aC ?_;refine xL (H':=[(905,⟨ds.length,3,196,iS ds⟩)]) (.inr rfl) rfl (eX rfl jI rfl rfl rfl rfl) (eX rfl jC rfl rfl rfl rfl) (eX rfl isAgg3 rfl rfl rfl rfl) (Fin.wk (by(simp;rfl)) (Hc (bW _ _)<|trivial) trivial) ?_;exact Qq
theorem aHW (s:ByteArray) (H:aB) (hs:s.size < 1099511627776) (hok:(gP s).2.1=0) (hH:H.get 905=none):aH Tryz.prog 167 [sv s] H (fun r H'=>r=.tup [.osl 905 (gP s).1.length 0 (gP s).1.length,iv 0,iv (gP s).2.2]∧H'=(905,⟨(gP s).1.length,3,196,iS (gP s).1⟩)::H) :=aH.frame (aHX s hs hok) (fun _ _ h=>by cases h) (fun _ _ h=>by cases h) (by simp) (fun id h=>.inr (by
  by_cases e:id=905
  ·rw [e];exact hH
  rw [get_cons_other _ _ e] at h;cases h))
theorem CO {α:Type} (f:α→List PV) (l:List α):l.map (fun e=>(f e).map AV.pv)=(l.map f).map (·.map .pv):=by rw [List.map_map];rfl
theorem qS {α:Type} (f:α→List PV) (l:List α):((l.map f).take (0+l.length)).drop 0=l.map f:=by rw [aLb,List.drop_zero];exact List.take_of_length_le (by rw [aLT];exact aLZ _)
theorem aAG (f:GFound) (H:aB):aH Tryz.prog 238 [av (dM f)] H (fun r H'=>r=bv (gE f)∧H'=H):=by
 refine Pu ?_;refine Bd func238 rfl ntmps238<|Sr<|Dd (by exact bZ (id:=1) rfl rfl rfl rfl rfl)<|Dd aP<|Zz<|Sq ?_;refine bD (t:=2) (n:=10) (X:=gE f) ?_ ?_
 ·all_goals refine Dd (bB jU) ?_
  all_goals refine Dd (bK isAgg9)<|Dd zZ<|Dm ?_
  all_goals refine Sp 6 (fun h6=>?_) fun h6=>?_
  all_goals try contradiction
  all_goals first|refine Fo<|Fo<|Fo ?_|refine On (bB DE)<|On (bK isAgg3)<|On cY ?_
  all_goals refine Dd cE<|Da ?_
  all_goals(exact⟨⟨_,rfl,by(simp only [gE, *];rfl)⟩,rfl,rfl,rfl⟩)
 exact aC<|Rt<|Qq
theorem EW (l:List GFound) (H:aB) (hl:l.length < 4611686018427387904) :
  aH Tryz.prog 237 [.pv (OJ l),.pv (.fn 238)] H (fun r H'=>r=iv (tH gE l)∧H'=H):=by
 refine Pu ?_;have hml:(l.map dM).length=l.length:=aLT _;refine Bd func237 rfl ntmps237<|Sr<|Dd aP<|Zz<|Sq<|Sr<|Dd aF<|Dd (fY fP)<|Dd aF<|Zz<|aG ?_;refine bQ (σ:=Nat) (fun k=>([(0,.pv (OJ l)),(1,.pv (.fn 238)),(7,iv ((l.map dM).length:Int)),(8,iv (k:Int))],[])) (fun k=>k≤l.length∧∀ j,j < k→∀ b,l[j]?=some b→gE b=false) (fun k=>l.length - k) 0 ⟨by omega,by omega⟩ ?_ ?_
 ·exact E0
 rintro k ⟨hk,hno⟩;refine Sr<|Dd dK<|Zz<|Sq ?_;refine Cn ?_ ?_<;>intro hc1
 ·have hlt:k < l.length:=by have:=aLP hc1;omega
  obtain ⟨o,ho⟩:=bE hlt;have hi:=cJ (f:=dM) ho;refine aE<|Sq<|aG<|Sr<|Dd aF<|Dd aP<|Zz<|Sr<|Dd aF<|Dd aF<|Dd aF<|Dd (xZ lN)<|Dd (by exact cQ rfl TW sizeOf196 rfl (by omega) (by simp only [Zl,bF,bH,encStr,iZ,dM];rfl) rfl)<|Dd (by exact bY rfl rfl rfl (cC.fn call238 (aAG o _)))<|Zz ?_;refine Cn ?_ ?_<;>intro hc2
  ·refine Sr<|Dd aF<|Dd aP<|Zz<|aC<|Rt ?_;exact⟨by rw [tH,NL hno ho hc2],rfl⟩
  refine aE<|Rg<|Dd pM<|Dd aF<|Zz ?_;exact⟨k+1,⟨by omega,yI hno ho hc2⟩,by omega,E0⟩
 have hge:k=l.length:=by have:=aLQ hc1;omega
 subst hge;refine bG<|Sr<|Dd aP<|Zz<|aC<|Rt ?_;exact⟨by rw [tH,NM hno],rfl⟩
def CR (T:List GFound) (k:Nat):List GFound:=T++List.replicate k Z3
theorem CQ (T:List GFound) (k:Nat):(CR T k).length=T.length+k:=by rw [CR,aLU,List.length_replicate]
theorem aBk (T:List GFound) (k:Nat):iS (CR T k)++[(dM Z3).map AV.pv]=iS (CR T (k+1)):=by rw [BA,CR,CR,List.replicate_succ',List.append_assoc]
def kF (s:ByteArray):Nat→Int
 | 0=>0
 | j+1=>if fQ ((j+1:Nat):Int)=s then((j+1:Nat):Int)else kF s j
theorem aFG (s:ByteArray):kF s 5=F3 s:=by simp only [kF,F3,eq_comm (a:=s)];rfl
theorem H7:∀ l:List GFound,lX l=dL l (l.length / 3)
 | []=>by simp [lX,dL]
 | [a]=>by simp [lX,dL]
 | [a,b]=>by simp [lX,dL]
 | a::b::c::r=>by
  rw [lX,H7 r];have h1:(a::b::c::r).length=r.length+3:=rfl;rw [h1,Nat.add_div_right _ (by decide),dL,dL,List.range_succ_eq_map,List.map_cons,List.map_map];rfl
theorem aDL (s:ByteArray):atV s=(lO s).1:=by rw [atV,lO];cases h:Lib.atoiAll s.data.toList<;>rfl
abbrev oR (id:ByteArray) (k x y:Int) (n m:Nat):Ob:=bx 6 153 [sv id,iv k,iv x,iv y,.osl 906 n 0 n,.osl 907 m 0 m]
def QL (L:List GFound):Ob:=⟨L.length,3,196,iS L⟩
def rH (L:List GFound) (id:ByteArray) (k x y:Int) (R:List ByteArray) (G:List GTag):aB:=[(907,⟨G.length,2,206,qB G⟩),(906,⟨R.length,1,9,dO R⟩),(3,oR id k x y R.length G.length),(905,QL L),(2,bx 6 153 ((bH zObj).map .pv))]
abbrev rE (L:List GFound):bO:=[(0,.osl 905 L.length 0 L.length),(2,.ref 2 0 0 0),(3,.ref 3 0 0 0)]
theorem aKU (L:List GFound) (id:ByteArray) (k x y:Int) (R:List ByteArray) (s:ByteArray) (G:List GTag):rH L id k x y (R++[s]) G=[(907,⟨G.length,2,206,qB G⟩),(906,⟨R.length+1,1,9,dO (R++[s])⟩),(3,oR id k x y (R.length+1) G.length),(905,QL L),(2,bx 6 153 ((bH zObj).map .pv))]:=by simp [rH]
theorem aIi (L:List GFound) (id:ByteArray) (k x y:Int) (R:List ByteArray) (t:GTag) (G:List GTag):rH L id k x y R (G++[t])=[(907,⟨G.length+1,2,206,qB (G++[t])⟩),(906,⟨R.length,1,9,dO R⟩),(3,oR id k x y R.length (G.length+1)),(905,QL L),(2,bx 6 153 ((bH zObj).map .pv))]:=by simp [rH]
theorem vI {L:List GFound} {i:Nat} {f:GFound} (h:L[i]?=some f):(iS L)[i]?=some [iv f.kind,sv f.text,iv (f.pos:Int)]:=by rw [iS,aLd,h];rfl
theorem aGg (T:List GFound) (hl:T.length < 549755813888) (hsz:∀ f∈pD T,f.text.size < 1099511627776):aH Tryz.prog 202 [.osl 905 T.length 0 T.length] [(905,QL T)] (fun r H'=>r=av (bH (kI T))∧H'=[(905,QL (pD T))]):=by
 refine Bd func202 rfl ntmps202<|Sr<|Dd (by exact bC (id:=2) rfl WW rfl rfl)<|Zz<|Sq<|aG ?_;refine bQ (σ:=Nat) (fun k=>([(0,.osl 905 (CR T k).length 0 (CR T k).length),(2,.ref 2 0 0 0)],[(905,QL (CR T k)),(2,bx 6 153 ((bH zObj).map .pv))])) (fun k=>k≤4 - T.length) (fun k=>4 - T.length - k) 0 (aLa _) ?_ ?_
 ·rw [show CR T 0=T by simp [CR]];exact(cD.wk (Ea<|Ea<|trivial) (Hc (bW _ _)<|Hb<|trivial) ⟨rfl,trivial⟩)
 rintro k hk;have hpl:=CQ T k;unfold QL;refine Sq<|Sr<|Dd aF<|Dd (by exact dS rfl fP rfl rfl rfl)<|Dd dK<|Zz ?_;refine Cn ?_ ?_<;>intro hc1
 ·have hlt:T.length+k < 4:=by have:=aLP hc1;rw [hpl] at this;omega
  refine aE<|aG<|Rg<|Dd aF<|Dd (uX aGQ)<|Dd (by exact aS [dM Z3] rfl lN rfl rfl rfl rfl rfl (by intro r hr;rw [aLW] at hr;subst hr;rfl))<|Dd (by exact eK (ps:=[dM Z3]) rfl lN aCm rfl rfl rfl rfl rfl (vJ _) rfl (by intro r hr;rw [aLW] at hr;subst hr;rfl) (m:=1) rfl (by omega) rfl (aBk T k))<|Da ?_;refine⟨k+1,by omega,by omega,?_⟩;rw [show (CR T (k+1)).length=(CR T k).length+1 by rw [CQ,CQ];omega];exact(cD.wk (Ea<|Ea<|trivial) (Hc (bW _ _)<|Hb<|trivial) ⟨rfl,trivial⟩)
 have hge:4≤T.length+k:=by have:=aLQ hc1;rw [hpl] at this;omega
 obtain rfl:k=4 - T.length:=by omega
 obtain ⟨L,hL⟩:∃ L,L=CR T (4 - T.length):=⟨_,rfl⟩;have hLp:pD T=L:=by rw [hL];rfl
 have hLl:4≤L.length∧L.length < 549755813893:=by rw [hL,CQ];omega
 rw [hLp] at hsz;rw [hLp,← hL];clear hpl;obtain ⟨t0,ht0⟩:=bE (show 0 < L.length by omega);obtain ⟨t1,ht1⟩:=bE (show 1 < L.length by omega);obtain ⟨t2,ht2⟩:=bE (show 2 < L.length by omega);obtain ⟨t3,ht3⟩:=bE (show 3 < L.length by omega);have hr0:=vI ht0;have hr1:=vI ht1;have hr2:=vI ht2;have hr3:=vI ht3;have hd:∀ {i:Nat} {f:GFound},L[i]?=some f→L.getD i Z3=f:=fun {i f} h=>by rw [List.getD_eq_getElem?_getD,h];rfl
 have hR:=kI.eq_1 T;rw [hLp,hd ht0,hd ht1,hd ht2,hd ht3] at hR;refine bG<|Sr<|Dd aF<|Dd (by exact dI rfl lN rfl rfl rfl rfl rfl (by omega) (by exact aL4 _) (show 1 < L.length by omega) rfl)<|Dd (bB jU)<|Dd (by exact aK rfl isAgg9 rfl rfl rfl hr1 rfl)<|Dd (uX aHm)<|Dd (by exact bC (id:=3) rfl aG1 rfl rfl)<|Uu (iH sizeOf153)<|Zz<|Sq<|Sq ?_;refine fE.ent (E':=rE L) (H':=[(906,⟨0,1,9,[]⟩),(3,bx 6 153 [sv t1.text,iv 0,iv 0,iv 0,.osl 906 0 0 0,.pv .nils]),(905,QL L),(2,bx 6 153 ((bH zObj).map .pv))]) (cD.nz 906 1 9 rfl rfl ⟨⟨_,rfl,(by exact Nz.same (by(simp;rfl)))⟩,⟨_,rfl,(by exact Nz.same (by(simp;rfl)))⟩,⟨_,rfl,(by exact Nz.same (by(simp;rfl)))⟩,trivial⟩ ⟨⟨_,rfl,rfl,rfl,rfl,(by exact .inr ⟨_,_,rfl,rfl,(by repeat(first|exact trivial|refine⟨(by first|exact Nz.own|exact Nz.same (by(simp;done))),?_⟩))⟩)⟩,⟨_,rfl,rfl,rfl,rfl,(by exact .inl ⟨rfl,(by exact bW _ _)⟩)⟩,⟨_,rfl,rfl,rfl,rfl,(by exact .inl ⟨rfl,(by(simp;done))⟩)⟩,trivial⟩ ⟨rfl,trivial⟩) ?_;refine fE.ent (E':=rE L) (H':=rH L t1.text 0 0 0 [] []) (cD.nz 907 2 206 rfl rfl ⟨⟨_,rfl,(by exact Nz.same (by(simp;rfl)))⟩,⟨_,rfl,(by exact Nz.same (by(simp;rfl)))⟩,⟨_,rfl,(by exact Nz.same (by(simp;rfl)))⟩,trivial⟩ ⟨⟨_,rfl,rfl,rfl,rfl,(by exact .inl ⟨rfl,(by exact bV _ _)⟩)⟩,⟨_,rfl,rfl,rfl,rfl,(by exact .inr ⟨_,_,rfl,rfl,(by repeat(first|exact trivial|refine⟨(by first|exact Nz.own|exact Nz.same (by first|(simp;done)|(simp;rfl))),?_⟩))⟩)⟩,⟨_,rfl,rfl,rfl,rfl,(by exact .inl ⟨rfl,(by exact bW _ _)⟩)⟩,⟨_,rfl,rfl,rfl,rfl,(by exact .inl ⟨rfl,(by(simp;done))⟩)⟩,trivial⟩ ⟨rfl,trivial⟩) ?_;refine Rg<|Dd aP<|Zz<|aG ?_;refine bQ (σ:=Nat) (fun j=>(rE L++[(4,iv ((j+1:Nat):Int))],rH L t1.text (kF t0.text j) 0 0 [] [])) (fun j=>j≤5) (fun j=>5 - j) 0 (aLa _) ?_ ?_
 ·exact(cD.wk (Ea<|Ea<|Ea<|Eb<|trivial) (Hc (jN _ _)<|Hc (bV _ _)<|Hc (by(simp;exact⟨rfl,rfl⟩))<|Hc (bW _ _)<|Hb<|trivial) ⟨rfl,trivial⟩)
 rintro j hj;refine Sq<|Sr<|Dd aF<|Dd TP<|Zz ?_;refine Cn ?_ ?_<;>intro hc2
 ·have hj5:j < 5:=by have:=aLP hc2;omega
  refine aE<|Sq<|aG<|Sq<|aQ follows<|Cq aF<|Cq (by exact aA rfl rfl tW rfl (A8 ((j+1:Nat):Int) _))<|Cq aF<|Cq (by exact dI rfl lN rfl rfl rfl rfl rfl (by omega) (by exact aL4 _) (show 0 < L.length by omega) rfl)<|Cq (bB jU)<|Cq (by exact aK rfl isAgg9 rfl rfl rfl hr0 rfl)<|Cq zZ<|bJ<|Kr ?_;refine Cn ?_ ?_<;>intro hc3
  ·have hw:fQ ((j+1:Nat):Int)=t0.text:=aLP hc3;refine Rg<|Dd aF<|Dd (bB gG)<|Uu (by exact bA rfl sizeOf3 rfl rfl rfl rfl rfl rfl (by simp only [aLV,List.length_nil];omega) (by simp only [Zl,bF,bH,encStr,iZ,dM];rfl) (by simp only [Zl,bF,bH,encStr,iZ,dM];rfl))<|Zz<|Rg<|Dd aF<|Dd pM<|Da ?_;refine⟨j+1,by omega,by omega,?_⟩;rw [show kF t0.text (j+1)=((j+1:Nat):Int)by rw [kF,aLS hw]];exact(cD.wk (Ea<|Ea<|Ea<|Eb<|trivial) (Hc (jN _ _)<|Hc (bV _ _)<|Hc (by(simp;exact⟨rfl,rfl⟩))<|Hc (bW _ _)<|Hb<|trivial) ⟨rfl,trivial⟩)
  have hw:fQ ((j+1:Nat):Int)≠t0.text:=aLQ hc3;refine aE<|Rg<|Dd aF<|Dd pM<|Da ?_;refine⟨j+1,by omega,by omega,?_⟩;rw [show kF t0.text (j+1)=kF t0.text j by rw [kF,aLR hw]];exact(cD.wk (Ea<|Ea<|Ea<|Eb<|trivial) (Hc (jN _ _)<|Hc (bV _ _)<|Hc (by(simp;exact⟨rfl,rfl⟩))<|Hc (bW _ _)<|Hb<|trivial) ⟨rfl,trivial⟩)
 have hj5:j=5:=by have:=aLQ hc2;omega
 subst hj5;rw [aFG];obtain ⟨kd,hkd⟩:∃ kd,kd=F3 t0.text:=⟨_,rfl⟩;rw [← hkd] at hR ⊢;have htk:(iS L).length=L.length:=vJ L;refine bG<|Sr<|Dd aF<|Dd (by exact gH (l:=4) (h:=L.length) rfl lN rfl rfl rfl rfl rfl rfl (by omega) (by omega) rfl rfl)<|Dd aP<|Zz<|Sq<|Sr<|Dd (bB gG)<|Dd (bK isAgg3)<|Dd cY<|Zz ?_;refine Cn ?_ ?_<;>intro hc4
 ·have hk1:kd=1:=aLP hc4;have hR2:kI T=⟨t1.text,1,atV t2.text,atV t3.text,[],lX (L.drop 4)⟩:=by rw [hR,aLS hk1]
  subst hk1;refine Sr<|Dd aF<|Dd (by exact dI rfl lN rfl rfl rfl rfl rfl (by omega) (by exact aL4 _) (show 2 < L.length by omega) rfl)<|Dd (bB jU)<|Dd (by exact aK rfl isAgg9 rfl rfl rfl hr2 rfl)<|Dd (by exact aA rfl rfl tZ rfl (HJ t2.text (hsz _ (aL3 ht2)) _))<|Dd aF<|Dd dV<|Dd dV<|Dd (bB nP)<|Dd (bB tK)<|Uu (by exact bA rfl sizeOf3 rfl rfl rfl rfl rfl rfl (by simp only [aLV,List.length_nil];omega) (by simp only [Zl,bF,bH,encStr,iZ,dM];rfl) (by simp only [Zl,bF,bH,encStr,iZ,dM];rfl))<|Zz<|Rg<|Dd aF<|Dd (by exact dI rfl lN rfl rfl rfl rfl rfl (by omega) (by exact aL4 _) (show 3 < L.length by omega) rfl)<|Dd (bB jU)<|Dd (by exact aK rfl isAgg9 rfl rfl rfl hr3 rfl)<|Dd (by exact aA rfl rfl tZ rfl (HJ t3.text (hsz _ (aL3 ht3)) _)) ?_;refine Dd aF<|Dd dV<|Dd dV<|Dd (bB nP)<|Dd (bB tJ)<|Uu (by exact bA rfl sizeOf3 rfl rfl rfl rfl rfl rfl (by simp only [aLV,List.length_nil];omega) (by simp only [Zl,bF,bH,encStr,iZ,dM];rfl) (by simp only [Zl,bF,bH,encStr,iZ,dM];rfl))<|Zz<|Sq<|aG ?_;obtain ⟨D,hD⟩:∃ D,D=L.drop 4:=⟨_,rfl⟩;have hDl:D.length=L.length - 4:=by rw [hD,aL8]
  refine bQ (σ:=Nat) (fun j=>(rE L++[(5,.osl 905 L.length (4+3*j) (L.length - 4 - 3*j))],rH L t1.text 1 (lO t2.text).1 (lO t3.text).1 ([]:List ByteArray) (dL D j))) (fun j=>3*j≤D.length) (fun j=>D.length - 3*j) 0 (aLa _) ?_ ?_
  ·exact(cD.wk (Ea<|Ea<|Ea<|Ea<|trivial) (Hc (jN _ _)<|Hc (bV _ _)<|Hc (by(simp;exact⟨rfl,rfl⟩))<|Hc (bW _ _)<|Hb<|trivial) ⟨rfl,trivial⟩)
  rintro j hj;have hnx:=zB D j;have hfl:=A4 D j;refine Sq<|Sr<|Dd aF<|Dd (by exact dS rfl fP rfl rfl rfl)<|Dd mI<|Zz ?_;refine Cn ?_ ?_<;>intro hc5
  ·have hlt:3*j+2 < D.length:=by have:=aLP hc5;omega
   obtain ⟨f0,hf0⟩:∃ f,L[4+3*j]?=some f:=bE (by omega);obtain ⟨f2,hf2⟩:∃ f,L[4+3*j+2]?=some f:=bE (by omega);have hr0:=vI hf0;have hr2:=vI hf2;have hta:MG D j=⟨f0.text,f2.text⟩:=by
    rw [MG,hD,List.getElem?_drop,List.getElem?_drop,hf0,show 4+(3*j+2)=4+3*j+2 from rfl,hf2];rfl
   refine aE<|Sq<|aG<|aQ follows<|Cs (fun _ h=>fh fK h)<|Cs (fun _ h=>lh cU h)<|Cs (fun _ _=>aF)<|Cs (fun H1 hH=>by exact dI rfl lN rfl ((hH _ rfl).trans rfl) rfl rfl rfl (by omega) (by exact aL4 _) (show 0 < L.length - 4 - 3*j by omega) rfl)<|Cs (fun _ h=>fh jU h)<|Cs (fun H1 hH=>by exact aK rfl isAgg9 rfl ((hH _ rfl).trans rfl) rfl hr0 rfl)<|Cs (fun _ _=>aF)<|Cs (fun H1 hH=>by exact dI rfl lN rfl ((hH _ rfl).trans rfl) rfl rfl rfl (by omega) (by exact aL4 _) (show 2 < L.length - 4 - 3*j by omega) rfl)<|Cs (fun _ h=>fh jU h)<|Cs (fun H1 hH=>by exact aK rfl isAgg9 rfl ((hH _ rfl).trans rfl) rfl hr2 rfl)<|Cs (fun _ _=>(uX aGP))<|Cs (fun H1 hH=>by exact aS [bF ⟨f0.text,f2.text⟩] rfl wY rfl rfl rfl rfl rfl (by intro r hr;rw [aLW] at hr;subst hr;rfl)) ?_;refine aX (r:=⟨_,none,[_]⟩) (DStep.plain rfl (fun H1 hH=>by exact eK (ps:=[bF ⟨f0.text,f2.text⟩]) rfl wY aGK rfl ((hH _ rfl).trans rfl) rfl rfl rfl (HV _) rfl (by intro r hr;rw [aLW] at hr;subst hr;rfl) (m:=1) rfl (by omega) rfl (HW (dL D j) ⟨f0.text,f2.text⟩))) rfl ?_;refine Cs (fun _ h=>fh fK h) ?_;refine aX (r:=⟨_,none,[_]⟩) (DStep.plain rfl (fun H1 hH=>by exact(by exact bA rfl sizeOf151 rfl rfl rfl ((hH _ rfl).trans rfl) rfl rfl (by simp only [aLV,List.length_nil];omega) (by simp only [Zl,bF,bH,encStr,iZ,dM];rfl) (by simp only [Zl,bF,bH,encStr,iZ,dM];rfl)))) rfl ?_;refine bJ<|Kr<|Rg<|Dd aF<|Dd (by exact gH (l:=3) (h:=(L.length - 4 - 3*j)) rfl lN rfl rfl rfl rfl rfl rfl (by omega) (by omega) rfl rfl)<|Da ?_;refine⟨j+1,by omega,by omega,?_⟩;dsimp only;rw [hnx,hta,aIi];exact(cD.wk (Ea<|Ea<|Ea<|Ea<|trivial) (Hc (jN _ _)<|Hc (bV _ _)<|Hc (by(simp;exact⟨rfl,rfl⟩))<|Hc (bW _ _)<|Hb<|trivial) ⟨rfl,trivial⟩)
  have hge:D.length < 3*j+3:=by have:=aLQ hc5;omega
  have hdj:D.length / 3=j:=by omega
  have hG:lX D=dL D j:=by rw [H7,hdj]
  refine bG<|Sq ?_;refine fE.ent (cD.fzG (id:=907) (E':=rE L) (H':=[(906,⟨(([]:List ByteArray)).length,1,9,dO (([]:List ByteArray))⟩),(3,bx 6 153 [sv (t1.text),iv (1),iv ((lO t2.text).1),iv ((lO t3.text).1),.osl 906 (([]:List ByteArray)).length 0 (([]:List ByteArray)).length,.pv (qY (dL D j))]),(905,QL L),(2,bx 6 153 ((bH zObj).map .pv))]) ((dL D j).map bF) rfl (CO bF _) ?_ rfl ?_ ?_) ?_
  ·intro p hp;simp only [aL5,aL9,or_false] at hp;rcases hp with rfl|rfl|rfl<;>exact⟨_,rfl,.same (by simp;rfl)⟩
  ·exact⟨⟨_,rfl,rfl,rfl,rfl,fV (bV _ _)⟩,⟨_,rfl,rfl,rfl,rfl,nK rfl (cI (.same (by simp)) (cI (.same (by simp)) (cI (.same (by simp)) (cI (.same (by simp)) (cI (.same (by simp;rfl)) (cI (.osl (qS bF _)) nL))))))⟩,⟨_,rfl,rfl,rfl,rfl,fV (bW _ _)⟩,⟨_,rfl,rfl,rfl,rfl,fV (by simp)⟩,trivial⟩
  ·exact⟨rfl,trivial⟩
  refine fE.ent (cD.fzG (id:=906) (E':=rE L) (H':=[(3,bx 6 153 [sv (t1.text),iv (1),iv ((lO t2.text).1),iv ((lO t3.text).1),.pv (aU (([]:List ByteArray))),.pv (qY (dL D j))]),(905,QL L),(2,bx 6 153 ((bH zObj).map .pv))]) ((([]:List ByteArray)).map encStr) rfl (fW _) ?_ rfl ?_ ?_) ?_
  ·intro p hp;simp only [aL5,aL9,or_false] at hp;rcases hp with rfl|rfl|rfl<;>exact⟨_,rfl,.same (by simp;rfl)⟩
  ·exact⟨⟨_,rfl,rfl,rfl,rfl,nK rfl (cI (.same (by simp)) (cI (.same (by simp)) (cI (.same (by simp)) (cI (.same (by simp)) (cI (.osl (qS encStr _)) (cI (.same (by simp)) nL))))))⟩,⟨_,rfl,rfl,rfl,rfl,fV (bW _ _)⟩,⟨_,rfl,rfl,rfl,rfl,fV (by simp)⟩,trivial⟩
  ·exact⟨rfl,trivial⟩
  refine Rg<|Dd (by exact aM rfl cN sizeOf153 rfl rfl rfl rfl (by simp only [Zl,bF,bH,encStr,iZ,dM];rfl) rfl)<|Uu (iH sizeOf153)<|Zz<|aC ?_;refine dF (H':=[(905,QL L)]) (.inr rfl) rfl (eU rfl cN sizeOf153 rfl rfl rfl (by simp only [Zl,bF,bH,encStr,iZ,dM];rfl) rfl) (Fin.wk (by(simp;done)) (Hc (bW _ _)<|trivial) ⟨rfl,trivial⟩) ?_;refine⟨?_,rfl⟩;rw [(show kI T=⟨t1.text,1,(lO t2.text).1,(lO t3.text).1,[],lX (L.drop 4)⟩by rw [hR2,aDL,aDL]),← hD,hG];rfl
 have hk1:kd≠1:=aLQ hc4;rw [aLR hk1] at hR;have hIx:=EW L [] (by omega);have hIr:∀ H,H.get 905=some (QL L)→aH Tryz.prog 237 [.osl 905 L.length 0 L.length,.pv (.fn 238)] H (fun r H'=>r=iv (tH gE L)∧H'=H):=fun H hH =>
  RO.calls (RO.lend (id:=905) (H1:=[]) (L.map dM) (RO.of hIx rfl) hH (CO dM L) rfl
   (cI (.osl (qS dM L)) (cI (.same (by simp)) nL)) (fun _ _ h=>by cases h) (fun _ _ h=>by cases h) rfl)
 refine Sr<|Dd aF<|Dd (by exact aA rfl rfl call237 rfl (hIr _ rfl))<|Dd aP<|Zz<|Sq<|Sr<|Dd aF<|Dd dK<|Zz ?_;refine Cn ?_ ?_<;>intro hc6
 ·have hlo:tH gE L < 3:=aLP hc6;rw [aLS hlo] at hR;rw [hR];refine Sr<|Dd (uX YG)<|Uu (iH sizeOf153)<|Zz<|aC ?_;refine dF (H':=[(905,QL L)]) (.inr rfl) rfl (eU rfl cN sizeOf153 rfl rfl rfl (by simp only [Zl,bF,bH,encStr,iZ,dM];rfl) rfl) (Fin.wk (by(simp;done)) (Hc (bW _ _)<|trivial) ⟨rfl,trivial⟩) ?_;exact Qq
 have hlo:¬ tH gE L < 3:=aLQ hc6;rw [aLR hlo] at hR;obtain ⟨q,hq,hqL⟩:∃ q:Nat,tH gE L=(q:Int)∧q < L.length:=by
  rcases VS gE L with⟨e1,_⟩|⟨q,o,e1,e2,_⟩
  ·rw [e1] at hlo;exact absurd (by decide) hlo
  exact⟨q,e1,(aLX.1 e2).1⟩
 rw [hq] at hR hlo ⊢;rw [aL4] at hR;have hq3:3≤q:=by omega
 obtain ⟨M,hM⟩:∃ M,M=(L.take q).drop 3:=⟨_,rfl⟩;have hMl:M.length=q - 3:=by rw [hM,aL8,aL7];omega
 rw [← hM] at hR;refine aE<|Sq<|Sr<|Dd aF<|Dd aF<|Dd (by exact gH (l:=3) (h:=q) rfl lN rfl rfl rfl rfl rfl rfl (by omega) (by omega) rfl rfl)<|Dd (by exact dS rfl fP rfl rfl rfl)<|Dd aF<|Zz<|aG ?_;refine bQ (σ:=Nat) (fun i=>(rE L++[(5,.osl 905 L.length 4 (L.length - 4)),(6,iv (q:Int)),(66,.osl 905 L.length 3 (q - 3)),(67,iv ((q - 3:Nat):Int)),(68,iv (i:Int))],rH L t1.text kd 0 0 ((M.take i).map GFound.text) [])) (fun i=>i≤M.length) (fun i=>M.length - i) 0 (aLa _) ?_ ?_
 ·exact(cD.wk (Ea<|Ea<|Ea<|Ea<|Eb<|Ea<|Eb<|Eb<|trivial) (Hc (jN _ _)<|Hc (bV _ _)<|Hc (by(simp;exact⟨rfl,rfl⟩))<|Hc (bW _ _)<|Hb<|trivial) ⟨rfl,trivial⟩)
 rintro i hi;refine Sr<|Dd dK<|Zz<|Sq ?_;refine Cn ?_ ?_<;>intro hc7
 ·have hiq:i < q - 3:=by have:=aLP hc7;omega
  obtain ⟨f,hf⟩:=bE (show i < M.length by omega);have hfL:L[3+i]?=some f:=by
   rw [hM,List.getElem?_drop,List.getElem?_take_of_lt (by omega)] at hf;exact hf
  have hrf:=vI hfL;have hMt:(M.take (i+1)).map GFound.text=(M.take i).map GFound.text++[f.text]:=by rw [List.take_add_one,hf,List.map_append];rfl
  have hRl:((M.take i).map GFound.text).length=i:=by rw [aLT,aL7];omega
  refine aE<|Sq<|aG<|Sr<|Dd (by exact dI rfl lN rfl rfl rfl rfl rfl (by omega) (by exact aL4 _) (by omega) rfl)<|Dd (by exact aM rfl TW sizeOf196 rfl rfl rfl hrf (by simp only [Zl,bF,bH,encStr,iZ,dM];rfl) rfl)<|Dd (by exact bC (id:=8) rfl aIS rfl rfl)<|Uu (iH sizeOf196)<|Zz<|Rg<|Dd (bB gF)<|Dd (bK aJ)<|Dd (bB jU)<|Dd (bK isAgg9)<|Dd (by exact aS [encStr f.text] rfl cP rfl rfl rfl rfl rfl (by intro r hr;rw [aLW] at hr;subst hr;rfl))<|Dd (by exact eK (ps:=[encStr f.text]) rfl cP TQ rfl rfl rfl rfl rfl (iR _) rfl (by intro r hr;rw [aLW] at hr;subst hr;rfl) (m:=1) rfl (by omega) rfl (kC ((M.take i).map GFound.text) f.text))<|Dd (bB gF)<|Uu (by exact bA rfl sizeOf22 rfl rfl rfl rfl rfl rfl (by simp only [aLV,List.length_nil];omega) (by simp only [Zl,bF,bH,encStr,iZ,dM];rfl) (by simp only [Zl,bF,bH,encStr,iZ,dM];rfl)) ?_;refine Zz<|Rg<|Dd pM<|Dd aF<|Zz ?_;refine⟨i+1,by omega,by omega,?_⟩;dsimp only;rw [hMt,aKU];exact(cD.wk (Ea<|Ea<|Ea<|Ea<|Eb<|Ea<|Eb<|Eb<|trivial) (Hc (jN _ _)<|Hc (bV _ _)<|Hc (by(simp;exact⟨rfl,rfl⟩))<|Hc (bW _ _)<|Hb<|trivial) ⟨rfl,trivial⟩)
 have hiq:i=q - 3:=by have:=aLQ hc7;omega
 have hMi:M.take i=M:=List.take_of_length_le (by omega);rw [hMi];refine bG<|Rg<|Dd aF<|Dd aF<|Dd (by exact cA rfl rfl rfl (show IntKind.i64.wrap ((q:Int)+1)=((q+1:Nat):Int)by rw [IntKind.wrap_i64];omega))<|Dd (by exact gH (l:=(q+1)) (h:=L.length) rfl lN rfl rfl rfl rfl rfl rfl (by omega) (by omega) rfl rfl)<|Dd aP<|Zz<|Sq<|aG ?_;rw [← aLb (q+1)] at hR;obtain ⟨D,hD⟩:∃ D,D=L.drop (0+(q+1)):=⟨_,rfl⟩;have hDl:D.length=L.length - (0+(q+1)):=by rw [hD,aL8]
 refine bQ (σ:=Nat) (fun j=>(rE L++[(5,.osl 905 L.length ((0+(q+1))+3*j) (L.length - (q+1) - 3*j))],rH L t1.text kd 0 0 (M.map GFound.text) (dL D j))) (fun j=>3*j≤D.length) (fun j=>D.length - 3*j) 0 (aLa _) ?_ ?_
 ·exact(cD.wk (Ea<|Ea<|Ea<|Ea<|trivial) (Hc (jN _ _)<|Hc (bV _ _)<|Hc (by(simp;exact⟨rfl,rfl⟩))<|Hc (bW _ _)<|Hb<|trivial) ⟨rfl,trivial⟩)
 rintro j hj;have hnx:=zB D j;have hfl:=A4 D j;refine Sq<|Sr<|Dd aF<|Dd (by exact dS rfl fP rfl rfl rfl)<|Dd mI<|Zz ?_;refine Cn ?_ ?_<;>intro hc8
 ·have hlt:3*j+2 < D.length:=by have:=aLP hc8;omega
  obtain ⟨f0,hf0⟩:∃ f,L[(0+(q+1))+3*j]?=some f:=bE (by omega);obtain ⟨f2,hf2⟩:∃ f,L[(0+(q+1))+3*j+2]?=some f:=bE (by omega);have hr0:=vI hf0;have hr2:=vI hf2;have hta:MG D j=⟨f0.text,f2.text⟩:=by
   rw [MG,hD,List.getElem?_drop,List.getElem?_drop,hf0,show (0+(q+1))+(3*j+2)=(0+(q+1))+3*j+2 from rfl,hf2];rfl
  refine aE<|Sq<|aG<|aQ follows<|Cs (fun _ h=>fh fK h)<|Cs (fun _ h=>lh cU h)<|Cs (fun _ _=>aF)<|Cs (fun H1 hH=>by exact dI rfl lN rfl ((hH _ rfl).trans rfl) rfl rfl rfl (by omega) (by exact aL4 _) (show 0 < L.length - (q+1) - 3*j by omega) rfl)<|Cs (fun _ h=>fh jU h)<|Cs (fun H1 hH=>by exact aK rfl isAgg9 rfl ((hH _ rfl).trans rfl) rfl hr0 rfl)<|Cs (fun _ _=>aF)<|Cs (fun H1 hH=>by exact dI rfl lN rfl ((hH _ rfl).trans rfl) rfl rfl rfl (by omega) (by exact aL4 _) (show 2 < L.length - (q+1) - 3*j by omega) rfl)<|Cs (fun _ h=>fh jU h)<|Cs (fun H1 hH=>by exact aK rfl isAgg9 rfl ((hH _ rfl).trans rfl) rfl hr2 rfl)<|Cs (fun _ _=>(uX aGP))<|Cs (fun H1 hH=>by exact aS [bF ⟨f0.text,f2.text⟩] rfl wY rfl rfl rfl rfl rfl (by intro r hr;rw [aLW] at hr;subst hr;rfl)) ?_;refine aX (r:=⟨_,none,[_]⟩) (DStep.plain rfl (fun H1 hH=>by exact eK (ps:=[bF ⟨f0.text,f2.text⟩]) rfl wY aGK rfl ((hH _ rfl).trans rfl) rfl rfl rfl (HV _) rfl (by intro r hr;rw [aLW] at hr;subst hr;rfl) (m:=1) rfl (by omega) rfl (HW (dL D j) ⟨f0.text,f2.text⟩))) rfl ?_;refine Cs (fun _ h=>fh fK h) ?_;refine aX (r:=⟨_,none,[_]⟩) (DStep.plain rfl (fun H1 hH=>by exact(by exact bA rfl sizeOf151 rfl rfl rfl ((hH _ rfl).trans rfl) rfl rfl (by simp only [aLV,List.length_nil];omega) (by simp only [Zl,bF,bH,encStr,iZ,dM];rfl) (by simp only [Zl,bF,bH,encStr,iZ,dM];rfl)))) rfl ?_;refine bJ<|Kr<|Rg<|Dd aF<|Dd (by exact gH (l:=3) (h:=(L.length - (q+1) - 3*j)) rfl lN rfl rfl rfl rfl rfl rfl (by omega) (by omega) rfl rfl)<|Da ?_;refine⟨j+1,by omega,by omega,?_⟩;dsimp only;rw [hnx,hta,aIi];exact(cD.wk (Ea<|Ea<|Ea<|Ea<|trivial) (Hc (jN _ _)<|Hc (bV _ _)<|Hc (by(simp;exact⟨rfl,rfl⟩))<|Hc (bW _ _)<|Hb<|trivial) ⟨rfl,trivial⟩)
 have hge:D.length < 3*j+3:=by have:=aLQ hc8;omega
 have hdj:D.length / 3=j:=by omega
 have hG:lX D=dL D j:=by rw [H7,hdj]
 refine bG<|Sq ?_;refine fE.ent (cD.fzG (id:=907) (E':=rE L) (H':=[(906,⟨((M.map GFound.text)).length,1,9,dO ((M.map GFound.text))⟩),(3,bx 6 153 [sv (t1.text),iv (kd),iv (0),iv (0),.osl 906 ((M.map GFound.text)).length 0 ((M.map GFound.text)).length,.pv (qY (dL D j))]),(905,QL L),(2,bx 6 153 ((bH zObj).map .pv))]) ((dL D j).map bF) rfl (CO bF _) ?_ rfl ?_ ?_) ?_
 ·intro p hp;simp only [aL5,aL9,or_false] at hp;rcases hp with rfl|rfl|rfl<;>exact⟨_,rfl,.same (by simp;rfl)⟩
 ·exact⟨⟨_,rfl,rfl,rfl,rfl,fV (bV _ _)⟩,⟨_,rfl,rfl,rfl,rfl,nK rfl (cI (.same (by simp)) (cI (.same (by simp)) (cI (.same (by simp)) (cI (.same (by simp)) (cI (.same (by simp;rfl)) (cI (.osl (qS bF _)) nL))))))⟩,⟨_,rfl,rfl,rfl,rfl,fV (bW _ _)⟩,⟨_,rfl,rfl,rfl,rfl,fV (by simp)⟩,trivial⟩
 ·exact⟨rfl,trivial⟩
 refine fE.ent (cD.fzG (id:=906) (E':=rE L) (H':=[(3,bx 6 153 [sv (t1.text),iv (kd),iv (0),iv (0),.pv (aU ((M.map GFound.text))),.pv (qY (dL D j))]),(905,QL L),(2,bx 6 153 ((bH zObj).map .pv))]) (((M.map GFound.text)).map encStr) rfl (fW _) ?_ rfl ?_ ?_) ?_
 ·intro p hp;simp only [aL5,aL9,or_false] at hp;rcases hp with rfl|rfl|rfl<;>exact⟨_,rfl,.same (by simp;rfl)⟩
 ·exact⟨⟨_,rfl,rfl,rfl,rfl,nK rfl (cI (.same (by simp)) (cI (.same (by simp)) (cI (.same (by simp)) (cI (.same (by simp)) (cI (.osl (qS encStr _)) (cI (.same (by simp)) nL))))))⟩,⟨_,rfl,rfl,rfl,rfl,fV (bW _ _)⟩,⟨_,rfl,rfl,rfl,rfl,fV (by simp)⟩,trivial⟩
 ·exact⟨rfl,trivial⟩
 refine Rg<|Dd (by exact aM rfl cN sizeOf153 rfl rfl rfl rfl (by simp only [Zl,bF,bH,encStr,iZ,dM];rfl) rfl)<|Uu (iH sizeOf153)<|Zz<|aC ?_;refine dF (H':=[(905,QL L)]) (.inr rfl) rfl (eU rfl cN sizeOf153 rfl rfl rfl (by simp only [Zl,bF,bH,encStr,iZ,dM];rfl) rfl) (Fin.wk (by(simp;done)) (Hc (bW _ _)<|trivial) ⟨rfl,trivial⟩) ?_;refine⟨?_,rfl⟩;rw [hR,← hD,hG];rfl
end Go.Proofs.YtiifmppaejpemaaGreatDoor
