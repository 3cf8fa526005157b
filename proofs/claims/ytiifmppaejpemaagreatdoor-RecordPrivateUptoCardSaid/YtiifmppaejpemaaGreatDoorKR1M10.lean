/-
  Parts of the proof: rules of an abstract program logic, contracts of functions, plain laws. Conditions: each theorem's own.
-/
import Derived.Test.YtiifmppaejpemaaGreatDoorKR1M9
import Derived.RecoverIn
set_option linter.unusedVariables false
set_option linter.unusedSimpArgs false
set_option maxRecDepth 100000
set_option maxHeartbeats 8000000
namespace Go.Proofs
theorem aLC:type_of% Tryz.call13:=Tryz.call13
theorem jJ:type_of% Tryz.call51:=Tryz.call51
theorem fS:type_of% Tryz.call52:=Tryz.call52
theorem xO:type_of% Tryz.call53:=Tryz.call53
theorem QJ:type_of% Tryz.call83:=Tryz.call83
theorem cS:type_of% Tryz.isAgg85:=Tryz.isAgg85
theorem tN:type_of% Tryz.underlying84:=Tryz.underlying84
theorem aDP:type_of% Tryz.zeroValue84:=Tryz.zeroValue84
end Go.Proofs
namespace Go.Abs
section
def iQ (o o':Ob):Prop:=o'.g=o.g∧o'.sz=o.sz∧o'.ty=o.ty∧o'.rows.map List.length=o.rows.map List.length
theorem iQ.rfl {o:Ob}:iQ o o:=⟨_root_.rfl,_root_.rfl,_root_.rfl,_root_.rfl⟩
def Shp (ids:List Nat) (H H1:aA):Prop:=∀ id∈ids,∀ o,H.get id=some o→∃ o',H1.get id=some o'∧iQ o o'
def XW:List Nat→List Nat→Bool
 | [],[]=>true
 | a::r,b::q=>Nat.beq a b&&XW r q
 | _,_=>false
theorem R7:∀ {a b:List Nat},XW a b=true→a=b
 | [],[],_=>rfl
 | a::r,b::q,h=>by
  rw [XW,aLY] at h;rw [Nat.eq_of_beq_eq_true h.1,R7 h.2]
 | [],_::_,h=>by cases h
 | _::_,[],h=>by cases h
def aI5 (o o':Ob):Bool:=Nat.beq o'.g o.g&&(Nat.beq o'.sz o.sz&&(Nat.beq o'.ty o.ty&&XW (o'.rows.map List.length) (o.rows.map List.length)))
def aG8 (ids:List Nat) (H:aA) (rs:List Rec):Bool:=rs.all fun r=>ids.all fun id=>match r.W.get id with
 | none=>true
 | some o'=>match H.get id with
  | none=>true
  | some o=>aI5 o o'
theorem ZC {ids:List Nat} {H:aA} {rs:List Rec} (h:aG8 ids H rs=true):∀ r∈rs,∀ id∈ids,∀ o',r.W.get id=some o'→∀ o,H.get id=some o→iQ o o':=by intro r hr id hid o' ho' o ho;have h1:=List.all_eq_true.1 (List.all_eq_true.1 h r hr) id hid;simp only [ho',ho,aI5,aLY] at h1;exact⟨Nat.eq_of_beq_eq_true h1.1,Nat.eq_of_beq_eq_true h1.2.1,Nat.eq_of_beq_eq_true h1.2.2.1,R7 h1.2.2.2⟩
theorem OI {H:aA} {l:List Ent2} {S:Nat→Bool} {id:Nat} {o:Ob} (ho:H.get id=some o) (h:∀ y∈l,∀ o',y.r.W.get id=some o'→iQ o o'):∀ n,∃ o',tZ H l S n id=some o'∧iQ o o'
 | 0=>⟨o,ho,.rfl⟩
 | n+1=>by
  rw [tZ];cases e:l[n]? with
  | none=>exact OI ho h n
  | some y =>
   simp only
   split
   ·next hc =>
    obtain ⟨o',ho'⟩:=Option.isSome_iff_exists.1 hc.2;exact⟨o',ho',h y (aLZ e) o' ho'⟩
   exact OI ho h n
def aCU (ks:List Nat) (rs:List Rec):Bool:=rs.all fun r=>ks.all fun id=>match r.W.get id with
 | none=>true
 | some _=>false
theorem VH {ks:List Nat} {rs:List Rec} (h:aCU ks rs=true):∀ id∈ks,∀ r∈rs,r.W.get id=none:=by
 intro id hid r hr;have h1:=List.all_eq_true.1 (List.all_eq_true.1 h r hr) id hid;cases e:r.W.get id with
 | none=>rfl
 | some o=>rw [e] at h1;cases h1
theorem ID {H:aA} {l:List Ent2} {S:Nat→Bool} {id:Nat} (h:∀ y∈l,y.r.W.get id=none):∀ n,tZ H l S n id=H.get id
 | 0=>rfl
 | n+1=>by
  rw [tZ];cases e:l[n]? with
  | none=>exact ID h n
  | some y =>
   simp only;rw [aLN (fun hc=>by rw [h y (aLZ e)] at hc;exact absurd hc.2 (by simp))];exact ID h n
def aCV (ts:List Nat) (ops:Array Oper):Bool:=ops.toList.all fun o=>match o.dst with
 | none=>true
 | some d=>!GK ts d
theorem VI {ts:List Nat} {ops:Array Oper} (h:aCV ts ops=true):∀ t∈ts,∀ o∈ops.toList,o.dst≠some t:=by intro t ht o ho hd;have:=List.all_eq_true.1 h o ho;rw [hd] at this;simp only [aL8] at this;rw [C0.2 ht] at this;cases this
theorem IE {E:bN} {l:List Ent2} {S:Nat→Bool} {t:Nat} (h:∀ y∈l,y.o.dst≠some t):∀ n,vL E l S n t=E.get t
 | 0=>rfl
 | n+1=>by
  rw [vL];cases e:l[n]? with
  | none=>exact IE h n
  | some y =>
   simp only;rw [aLN (fun hc=>h y (aLZ e) hc.2)];exact IE h n
theorem xP.restr {P:Program} {N:Nat} {o:Oper} {E E1:bN} {H1:aA} {l:List Nat} {R:AV→aA→Prop} {PP:DZ→aA→Prop} (h:xP P N o (restr E l) H1 R PP) (hE:∀ t,t∈l→E1.get t=E.get t):xP P N o E1 H1 R PP:=by intro a w I ι hs hr he K Q hk hp;refine h a w I ι hs hr (fun t v ht=>?_) K Q hk hp;have hp:=MO (E:=E) (l:=l) _ (eZ ht);exact he t v ((hE t hp.2).trans hp.1)
inductive DStepP (P:Program) (N:Nat) (ops:List Oper) (PP:DZ→aA→aA→Prop) (o:Oper) (E:bN) (H:aA) (r:Rec) (F:Prop):Prop
 | old (hF:F) (h:DStep P N ops o E H r)
 | pan (hg:o.guard=none) (h:∀ H1:aA,(∀ id,uI r.R id=true→H1.get id=H.get id)→xP P N o (restr E (fF ops o)) H1 (fun v H'=>v=r.v∧H'=r.W++H1∧F) (fun ch H'=>PP ch H1 H'))
def QM:List Prop→Prop
 | []=>True
 | F::r=>F∧QM r
theorem QE:∀ {l:List Prop},(∀ (k:Nat) (F:Prop),l[k]?=some F→F)→QM l
 | [],_=>trivial
 | F::r,h=>⟨h 0 F rfl,QE fun k G hG=>h (k+1) G hG⟩
inductive DChainP (P:Program) (N:Nat) (ops:List Oper) (PP:DZ→aA→aA→Prop):List Oper→bN→aA→List Rec→List Prop→bN→aA→Prop
 | nil {E:bN} {H:aA}:DChainP P N ops PP [] E H [] [] E H
 | cons {o:Oper} {rest:List Oper} {E E':bN} {H H':aA} {r:Rec} {rs:List Rec} {F:Prop} {Fs:List Prop} (h:DStepP P N ops PP o E H r F) (hd:gK N o.dst=true) (hr:DChainP P N ops PP rest (iH E o.dst r.v) (r.W++H) rs Fs E' H') :
   DChainP P N ops PP (o::rest) E H (r::rs) (F::Fs) E' H'
section
variable {P:Program} {N:Nat} {ops:List Oper} {PP:DZ→aA→aA→Prop} {E:bN} {H:aA}
theorem DChainP.spec {rest:List Oper} {E':bN} {H':aA} {rs:List Rec} {Fs:List Prop} (h:DChainP P N ops PP rest E H rs Fs E' H'):(rs.length=rest.length∧Fs.length=rest.length) ∧
  (∀ k x,(List.zipWith Ent2.mk rest rs)[k]?=some x→gK N x.o.dst=true∧∃ F,Fs[k]?=some F∧∃ Ek Hk,(∀ t,Ek.get t=vL E (List.zipWith Ent2.mk rest rs) (fun _=>true) k t)∧(∀ id,Hk.get id=tZ H (List.zipWith Ent2.mk rest rs) (fun _=>true) k id)∧DStepP P N ops PP x.o Ek Hk x.r F) ∧
  (∀ t,E'.get t=vL E (List.zipWith Ent2.mk rest rs) (fun _=>true) rest.length t)∧(∀ id,H'.get id=tZ H (List.zipWith Ent2.mk rest rs) (fun _=>true) rest.length id):=by
 induction h with
 | nil=>exact⟨⟨rfl,rfl⟩,by simp,fun t=>rfl,fun id=>rfl⟩
 | @cons o rest E E' H H' r rs F Fs hs hd hr ih =>
  obtain ⟨⟨h1,h1F⟩,h2,h3,h4⟩:=ih;have shE:∀ (l:List Ent2) k t,vL (iH E o.dst r.v) l (fun _=>true) k t=vL E (⟨o,r⟩::l) (fun _=>true) (k+1) t:=by
   intro l k t
   induction k with
   | zero =>
    simp only [vL,List.getElem?_cons_zero];cases hdst:o.dst with
    | none=>simp [iH]
    | some d =>
     simp only [iH];by_cases e:d=t
     ·subst e;simp [bN.get_cons_same]
     rw [bN.get_cons_other _ _ e];simp [e]
   | succ k ih =>
    rw [vL,vL];simp only [List.getElem?_cons_succ];cases l[k]? with
    | none=>exact ih
    | some x=>simp only [ih]
  have shH:∀ (l:List Ent2) k id,tZ (r.W++H) l (fun _=>true) k id=tZ H (⟨o,r⟩::l) (fun _=>true) (k+1) id:=by
   intro l k id
   induction k with
   | zero =>
    simp only [tZ,List.getElem?_cons_zero,zZ];cases hw:r.W.get id<;>simp
   | succ k ih =>
    rw [tZ,tZ];simp only [List.getElem?_cons_succ];cases l[k]? with
    | none=>exact ih
    | some x=>simp only [ih]
  refine⟨⟨by simp [h1],by simp [h1F]⟩,?_,?_,?_⟩
  ·intro k x hx;cases k with
   | zero =>
    simp at hx;subst hx;exact⟨hd,F,rfl,E,H,fun t=>rfl,fun id=>rfl,hs⟩
   | succ k =>
    simp at hx;obtain ⟨g0,F2,g00,Ek,Hk,g1,g2,g3⟩:=h2 k x (by simpa using hx);exact⟨g0,F2,g00,Ek,Hk,fun t=>(g1 t).trans (shE _ k t),fun id=>(g2 id).trans (shH _ k id),g3⟩
  ·intro t;rw [h3 t,shE];rfl
  intro id;rw [h4 id,shH];rfl
end
theorem aA4 {PP:DZ→aA→aA→Prop} {P:Program} {G0:aA} {N id:Nat} {Q:Exit→bN→aA→Prop} {ops:Array Oper} {E E':bN} {H H':aA} {rs:List Rec} (hm:P.follows .mixedOrders=true) {Fs:List Prop} (hc:DChainP P N ops.toList PP ops.toList E H rs Fs E' H') (hok:EK ops.toList rs=true) (ids ks:List Nat) (hW:aG8 ids H rs=true) (hKs:aCU ks rs=true) (ts:List Nat) (hT:aCV ts ops=true) (hP:∀ ch E1 H1 H2,(∀ t∈ts,E1.get t=E.get t)→Shp ids H H1→(∀ id∈ks,H1.get id=H.get id)→PP ch H1 H2→Q (.panic ch) E1 H2)
  (hK:QM Fs→Q .normal E' H'):fE P G0 N (.region id ops true) Q E H:=by
 intro G hG a w hs ro hro;have hnd0:ro=none∨ops.toList.all Oper.noDefer=true:=hro;refine wpIn_region_any hm ?_;obtain ⟨⟨hlen,hlenF⟩,hst,hE',hH'⟩:=hc.spec;obtain ⟨l,hl⟩:∃ l,l=List.zipWith Ent2.mk ops.toList rs:=⟨_,rfl⟩;rw [← hl] at hst hE' hH';simp only [EK,aLY,← hl] at hok;obtain ⟨hok1,hok2⟩:=hok;have hll:l.length=ops.size:=by rw [hl];simp [hlen]
 have hlo:∀ (i:Nat) (x:Ent2),l[i]?=some x→ops.toList[i]?=some x.o:=by
  intro i x hx;rw [hl,List.getElem?_zipWith] at hx;cases e1:ops.toList[i]? with
  | none=>simp [e1] at hx
  | some o =>
   cases e2:rs[i]? with
   | none=>simp [e1,e2] at hx
   | some r=>simp [e1,e2] at hx;rw [← hx]
 have hedge:=CV ops.toList 0 hok1;have hbef:∀ (i j:Nat) (x y:Ent2),i < j→l[i]?=some x→l[j]?=some y→iM ops.toList x y=true→Pre ops.toList i j:=fun i j x y hij hx hy hcl =>
  NY ops.toList [] [] rfl rfl (by simp) j i (CU l [] hok2 i j hij (aL6 _) x y hx hy hcl)
 have main:∀ (fuel:Nat) (listed:Array Bool) (a:Act) (w:World) (E1:bN) (H1:aA),listed.size=ops.size→((List.range ops.size).filter fun i=>!listed.getD i true).length≤fuel →
   aAj ops.toList (fun i=>listed.getD i false)→(∀ k,listed.getD k false=true→∀ F,Fs[k]?=some F→F)→St G N E1 H1 a w→(∀ t,E1.get t=vL E l (fun i=>listed.getD i false) ops.size t)→(∀ j,H1.get j=tZ H l (fun i=>listed.getD i false) ops.size j) →
   wpAnyIn (RF ro) 0 P .any ops (fun e a w=>∃ E H,Q e E H∧St G N E H a w) fuel listed a w:=by
  intro fuel
  induction fuel with
  | zero =>
   intro listed a w E1 H1 hsz hcnt hdown hfac hst1 hE1 hH1;have hall:∀ i,i < ops.size→listed.getD i false=true:=by
    intro i hi;have hnil:=List.eq_nil_of_length_eq_zero (Nat.le_zero.1 hcnt);have:=List.filter_eq_nil_iff.1 hnil i (List.mem_range.2 hi);have hi':i < listed.size:=by omega
    simp [Array.getD,hi'] at this ⊢;exact this
   refine⟨?_,E',H',hK (QE fun k F hF=>hfac k (hall k (by have:=(aLT.1 hF).1;rw [hlenF] at this;simpa using this)) F hF),?_⟩
   ·unfold Region.ready;refine List.filter_eq_nil_iff.2 fun i hi=>?_;have:=hall i (List.mem_range.1 hi);have hi':i < listed.size:=by have:=List.mem_range.1 hi;omega
    simp [Array.getD,hi'] at this;simp [Array.getD,hi',this]
   refine cC.get (G0:=G0) (fun t=>?_) (fun j=>?_) G hG N a w hst1
   ·rw [hE' t,hE1 t,Array.length_toList];exact(mP (E:=E) ops.size ops.size (aLV _) (fun j x hj _=>⟨fun hlt=>hall j hlt,fun h1 h2=>by omega⟩)).symm
   rw [hH' j,hH1 j,Array.length_toList];exact(mO (H:=H) ops.size ops.size (aLV _) (fun i x hi _=>⟨fun hlt=>hall i hlt,fun h1 h2=>by omega⟩)).symm
  | succ fuel ih =>
   intro listed a w E1 H1 hsz hcnt hdown hfac hst1 hE1 hH1;refine⟨fun hnil=>?_,fun i hi=>?_⟩
   ·-- nothing is left
    have hall:∀ i,i < ops.size→listed.getD i false=true:=by
     intro i
     induction i using Nat.strongRecOn with
     | _ i ihi =>
      intro hi;refine Classical.byContradiction fun hno=>?_;have hi':i < listed.size:=by omega
      have hno':listed.getD i true=false:=by
       simp [Array.getD,hi'] at hno ⊢;exact hno
      have hlt:i < ops.toList.length:=by simpa using hi
      have hr:i∈Region.ready .any ops listed:=by
       unfold Region.ready;refine List.mem_filter.2 ⟨List.mem_range.2 hi,?_⟩;have ho:ops[i]?=some ops[i]:=Array.getElem?_eq_getElem hi;simp only [hno',Bool.not_false,Bool.true_and,ho,Option.map_some,Option.getD_some];rw [Array.all_eq_true'];intro e he;cases hb:Region.binds .any e with
       | false=>simp
       | true =>
        have hon:=hedge i ops[i] (by simp [ho]) e (by simpa using he) hb;simp only [Bool.not_true,Bool.false_or];exact ihi e.on (by omega) (by omega)
      rw [hnil] at hr;cases hr
    refine⟨E',H',hK (QE fun k F hF=>hfac k (hall k (by have:=(aLT.1 hF).1;rw [hlenF] at this;simpa using this)) F hF),?_⟩;refine cC.get (G0:=G0) (fun t=>?_) (fun j=>?_) G hG N a w hst1
    ·rw [hE' t,hE1 t,Array.length_toList];exact(mP (E:=E) ops.size ops.size (aLV _) (fun j x hj _=>⟨fun hlt=>hall j hlt,fun h1 h2=>by omega⟩)).symm
    rw [hH' j,hH1 j,Array.length_toList];exact(mO (H:=H) ops.size ops.size (aLV _) (fun i x hi _=>⟨fun hlt=>hall i hlt,fun h1 h2=>by omega⟩)).symm
   have hi1:=List.mem_filter.1 hi;have hilt:i < ops.size:=List.mem_range.1 hi1.1;have hi':i < listed.size:=by omega
   have ho:ops[i]?=some ops[i]:=Array.getElem?_eq_getElem hilt;have hi2:=hi1.2;simp only [ho,Option.map_some,Option.getD_some,aLY] at hi2;obtain ⟨hnl,hpreds⟩:=hi2;have hnl':listed.getD i false=false:=by
    simp [Array.getD,hi'] at hnl ⊢;exact hnl
   have hpre:∀ e∈(ops[i]).after.toList,Region.binds .any e=true→listed.getD e.on false=true:=by
    intro e he hb;have:=(Array.all_eq_true'.1 hpreds) e (by simpa using he)
    simpa [hb] using this
   have hil:i < l.length:=by omega
   obtain ⟨x,hx⟩:∃ x,l[i]?=some x:=⟨_,aLU hil⟩;have hxo:x.o=ops[i]:=by
    have:=hlo i x hx;simp [ho] at this;exact this.symm
   obtain ⟨hdok,F,hFi,Ek,Hk,hEk,hHk,hdst⟩:=hst i x hx;have hbefore:∀ (j:Nat) (y:Ent2),j < i→l[j]?=some y→iM ops.toList y x=true→listed.getD j false=true:=by
    intro j y hj hy hcl;exact hbef j i y x hj hy hx hcl _ hdown ops[i] (by simp [ho]) hpre
   have hbehind:∀ (j:Nat) (y:Ent2),i < j→l[j]?=some y→iM ops.toList x y=true→listed.getD j false=false:=by
    intro j y hj hy hcl;cases hjl:listed.getD j false with
    | false=>rfl
    | true =>
     have hjlt:j < l.length:=(aLT.1 hy).1;have hjo:ops.toList[j]?=some y.o:=hlo j y hy;have:=hbef i j x y hj hx hy hcl _ hdown y.o hjo (fun e he hb=>hdown j y.o hjo hjl e he hb);rw [hnl'] at this;cases this
   have agreeE:∀ t,(∀ (j:Nat) (y:Ent2),l[j]?=some y→y.o.dst=some t→(j < i→iM ops.toList y x=true)∧(i < j→iM ops.toList x y=true))→E1.get t=Ek.get t:=by
    intro t ht;rw [hE1 t,hEk t];refine mP (E:=E) ops.size i (by omega) (fun j y hj hd=>⟨fun hlt=>hbefore j y hlt hj ((ht j y hj hd).1 hlt),fun h1 h2=>?_⟩);by_cases e:j=i
    ·subst e;exact hnl'
    exact hbehind j y (by omega) hj ((ht j y hj hd).2 (by omega))
   have agreeH:∀ k,(∀ (j:Nat) (y:Ent2),l[j]?=some y→(y.r.W.get k).isSome=true→(j < i→iM ops.toList y x=true)∧(i < j→iM ops.toList x y=true))→H1.get k=Hk.get k:=by
    intro k hk;rw [hH1 k,hHk k];refine mO (H:=H) ops.size i (by omega) (fun j y hj hd=>⟨fun hlt=>hbefore j y hlt hj ((hk j y hj hd).1 hlt),fun h1 h2=>?_⟩);by_cases e:j=i
    ·subst e;exact hnl'
    exact hbehind j y (by omega) hj ((hk j y hj hd).2 (by omega))
   have hlooks:∀ t,t∈fF ops.toList x.o→E1.get t=Ek.get t:=fun t ht =>
    agreeE t fun j y hj hd=>⟨fun _=>xC hd ht,fun _=>xB hd ht⟩
   have hreads:∀ k,uI x.r.R k=true→H1.get k=Hk.get k:=fun k hk =>
    agreeH k fun j y hj hd=>⟨fun _=>NW hd hk,fun _=>NX hd hk⟩
   have hlist:∀ j,(listed.setIfInBounds i true).getD j false=if j=i then true else listed.getD j false:=by
    intro j;by_cases e:j=i
    ·subst e;simp [Array.getD,hi']
    simp only [Array.getD_eq_getD_getElem?,Array.getElem?_setIfInBounds_ne (Ne.symm e),e,if_false]
   have hdown':aAj ops.toList (fun j=>(listed.setIfInBounds i true).getD j false):=by
    intro j o hj hjl e he hb;simp only [hlist] at hjl ⊢;by_cases ej:j=i
    ·subst ej;have:o=ops[j]:=by simp [ho] at hj;exact hj.symm
     subst this;have:=hpre e he hb;simp [this]
    simp only [ej,if_false] at hjl;have:=hdown j o hj hjl e he hb;simp only at this;simp [this]
   have hcnt':((List.range ops.size).filter fun j=>!(listed.setIfInBounds i true).getD j true).length≤fuel:=by
    have hlist':∀ j,(listed.setIfInBounds i true).getD j true=if j=i then true else listed.getD j true:=by
     intro j;by_cases e:j=i
     ·subst e;simp [Array.getD,hi']
     simp only [Array.getD_eq_getD_getElem?,Array.getElem?_setIfInBounds_ne (Ne.symm e),e,if_false]
    have h1:((List.range ops.size).filter fun j=>!(listed.setIfInBounds i true).getD j true)=((List.range ops.size).filter fun j=>!listed.getD j true).filter fun j=>j != i:=by
     rw [List.filter_filter];refine List.filter_congr fun j _=>?_;rw [hlist'];by_cases e:j=i<;>simp [e]
    rw [h1];have h2:=List.length_filter_lt_length_iff_exists (p:=fun j=>j != i) (l:=(List.range ops.size).filter fun j=>!listed.getD j true) |>.2 ⟨i,List.mem_filter.2 ⟨hi1.1,by simpa using hnl⟩,by simp⟩;omega
   have next:∀ (r:AV) (a':Act) (w':World),F→r=x.r.v→St G N (iH E1 x.o.dst x.r.v) (x.r.W++H1) a' w'→wpAnyIn (RF ro) 0 P .any ops (fun e a w=>∃ E H,Q e E H∧St G N E H a w) fuel (listed.setIfInBounds i true) a' w':=by
    intro r a' w' hFx _ hst';refine ih _ a' w' _ _ (by simp [hsz]) hcnt' hdown' (fun k hk F' hF'=>?_) hst' (fun t=>?_) (fun k=>?_)
    ·rw [hlist] at hk;by_cases e:k=i
     ·subst e;rw [hFi] at hF';cases hF';exact hFx
     rw [aLN e] at hk;exact hfac k hk F' hF'
    ·-- slots
     by_cases hd:x.o.dst=some t
     ·have e1:bN.get (iH E1 x.o.dst x.r.v) t=some x.r.v:=by rw [hd];simp [iH,bN.get_cons_same]
      rw [e1];have e2:=mP (E:=E) (l:=l) (S:=fun j=>(listed.setIfInBounds i true).getD j false) (t:=t) ops.size (i+1) (by omega) (fun j y hj hyd=>⟨fun hlt=>?_,fun h1 h2=>?_⟩)
      ·rw [e2,vL,hx];simp [hd]
      ·simp only [hlist];by_cases ej:j=i
       ·simp [ej]
       simp only [ej,if_false];exact hbefore j y (by omega) hj (oV hyd hd)
      simp only [hlist];rw [aLN (by omega)];exact hbehind j y (by omega) hj (oV hd hyd)
     have e1:bN.get (iH E1 x.o.dst x.r.v) t=E1.get t:=by
      cases hdd:x.o.dst with
      | none=>rfl
      | some d=>exact bN.get_cons_other _ _ (fun e=>hd (by rw [hdd,e]))
     rw [e1,hE1 t];have:∀ n,vL E l (fun i=>listed.getD i false) n t=vL E l (fun j=>(listed.setIfInBounds i true).getD j false) n t:=by
      intro n
      induction n with
      | zero=>rfl
      | succ n ihn =>
       rw [vL,vL];cases hn:l[n]? with
       | none=>exact ihn
       | some y =>
        simp only;by_cases en:n=i
        ·subst en;rw [hx] at hn;cases hn;rw [aLN (fun h=>hd h.2),aLN (fun h=>hd h.2)];exact ihn
        have hS:(listed.setIfInBounds i true).getD n false=listed.getD n false:=by rw [hlist,aLN en]
        rw [hS,ihn]
     exact this _
    rw [zZ];by_cases hd:(x.r.W.get k).isSome=true
    ·obtain ⟨ob,hob⟩:=Option.isSome_iff_exists.1 hd;rw [hob];have e2:=mO (H:=H) (l:=l) (S:=fun j=>(listed.setIfInBounds i true).getD j false) (id:=k) ops.size (i+1) (by omega) (fun j y hj hyd=>⟨fun hlt=>?_,fun h1 h2=>?_⟩)
     ·rw [e2,tZ,hx];simp [hob]
     ·simp only [hlist];by_cases ej:j=i
      ·simp [ej]
      simp only [ej,if_false];exact hbefore j y (by omega) hj (AC hyd hd)
     simp only [hlist];rw [aLN (by omega)];exact hbehind j y (by omega) hj (AC hd hyd)
    have hnone:x.r.W.get k=none:=by simpa using hd
    rw [hnone];simp only;rw [hH1 k];have:∀ n,tZ H l (fun i=>listed.getD i false) n k=tZ H l (fun j=>(listed.setIfInBounds i true).getD j false) n k:=by
     intro n
     induction n with
     | zero=>rfl
     | succ n ihn =>
      rw [tZ,tZ];cases hn:l[n]? with
      | none=>exact ihn
      | some y =>
       simp only;by_cases en:n=i
       ·subst en;rw [hx] at hn;cases hn;rw [aLN (fun h=>hd h.2),aLN (fun h=>hd h.2)];exact ihn
       have hS:(listed.setIfInBounds i true).getD n false=listed.getD n false:=by rw [hlist,aLN en]
       rw [hS,ihn]
    exact this _
   unfold wpOpIn;simp only [ho];rw [hxo] at hdst hlooks hdok;rw [hxo] at next;have hgE:∀ (j:Nat) (want:Bool) (t:Tmp) (b:Bool),(ops[i]).guard=some (j,want)→gR ops.toList j=some t→Ek.get t=some (.pv (.bool b))→yielded ops a.tmps j=some b:=by
    intro j want t b hg hj hb;have hmem:t∈fF ops.toList ops[i]:=by simp [fF,hg,hj]
    exact qI (E:=E1) hj ((hlooks t hmem).trans hb) hst1.rel.choose_spec.choose_spec.2.2
   have hnd:ro=none∨(ops[i]).noDefer=true:=hnd0.imp (fun h=>h) fun h=>List.all_eq_true.1 h _ (by simp);cases hdst with
   | pan hg h =>
    have hlr:∀ y∈l,y.r∈rs:=fun y hy=>by
     obtain ⟨k,hk⟩:=aLa.1 hy;rw [hl,List.getElem?_zipWith] at hk;cases e1:ops.toList[k]? with
     | none=>simp [e1] at hk
     | some o=>cases e2:rs[k]? with
      | none=>simp [e1,e2] at hk
      | some r=>simp [e1,e2] at hk;rw [← hk];exact aLZ e2
    have hw:Region.wanted ops[i] (yielded ops a.tmps)=true:=by simp [Region.wanted,hg]
    simp only [hw,if_true];refine hst1.opP hdok ((h H1 hreads).restr hlooks) ?_ ?_ hnd
    ·rintro r H2 a' w' ⟨rfl,rfl,hF⟩ hs';exact next _ a' w' hF rfl hs'
    intro ch H2 w' hp hs';refine⟨E1,H2,hP ch E1 H1 H2 (fun t ht=>(hE1 t).trans (IE (fun y hy=>VI hT t ht y.o (by
     obtain ⟨k,hk⟩:=aLa.1 hy;exact aLZ (hlo k y hk))) _)) (fun id hid o ho=>?_) (fun id hid=>(hH1 id).trans (ID (fun y hy=>VH hKs id hid y.r (hlr y hy)) _)) hp,hs'⟩
    have hsh:=OI (H:=H) (l:=l) (S:=fun i=>listed.getD i false) (id:=id) ho (fun y hy o' ho'=>?_) ops.size
    ·obtain ⟨o',h1,h2⟩:=hsh;exact⟨o',(hH1 id).trans h1,h2⟩
    exact ZC hW y.r (hlr y hy) id hid o' ho' o ho
   | old hF hdst =>
    have next:=fun r a' w'=>next r a' w' hF;cases hdst with
    | plain hg h =>
     have hw:Region.wanted ops[i] (yielded ops a.tmps)=true:=by simp [Region.wanted,hg]
     simp only [hw,if_true];refine hst1.op hdok ((h H1 hreads).restr hlooks) ?_ hnd;rintro r H2 a' w' ⟨rfl,rfl⟩ hs';exact next _ a' w' rfl hs'
    | on j want t b hg hj hb hw h =>
     have hy:=hgE j want t b hg hj hb;have hw:Region.wanted ops[i] (yielded ops a.tmps)=true:=by simp [Region.wanted,hg,hy,hw]
     simp only [hw,if_true];refine hst1.op hdok ((h H1 hreads).restr hlooks) ?_ hnd;rintro r H2 a' w' ⟨rfl,rfl⟩ hs';exact next _ a' w' rfl hs'
    | off j want t x' hg hj hb hw hv hW =>
     have hmem:t∈fF ops.toList ops[i]:=by simp [fF,hg,hj]
     have hw:Region.wanted ops[i] (yielded ops a.tmps)=false :=
      EV (E:=E1) hg hj ((hlooks t hmem).trans hb) hw hst1.rel.choose_spec.choose_spec.2.2
     simp only [hw,Bool.false_eq_true,if_false];refine⟨fun _ _=>trivial,?_⟩;refine next (.tup []) _ w hv.symm ?_;obtain ⟨I,ι,hr,hst2,he⟩:=hst1.rel;rw [hv,hW];refine⟨?_,?_,I,ι,hr,hst2,gO.put hr (Step.refl _ _ _ _) he gO.skip (by rw [hst1.size];exact hdok)⟩
     ·rw [fN];exact hst1.defers
     have:=hst1.size;cases (ops[i]).dst<;>simpa [Act.put] using this
 have hs':St G N E H a {w with drawn:=w.drawn+1}:=by
  obtain ⟨I,ι,hr,hst2,he⟩:=hs.rel;obtain ⟨k2,k3⟩:=hr.drawn (w':={w with drawn:=w.drawn+1}) rfl rfl rfl rfl;exact⟨hs.defers,hs.size,I,ι,k2,hst2.trans k3,fun t v ht=>let ⟨c,h1,h2⟩:=he t v ht;⟨c,h1,h2.mono hr k3⟩⟩
 refine main ops.size (Array.replicate ops.size false) a _ E H (by simp) (by
  have:=List.length_filter_le (fun i=>!(Array.replicate ops.size false).getD i true) (List.range ops.size)
  simpa using this) (fun j o hj hjl=>by simp [Array.getD] at hjl) (fun k hk=>by simp [Array.getD] at hk) hs' (fun t=>?_) (fun k=>?_)
 ·have:∀ n,vL E l (fun i=>(Array.replicate ops.size false).getD i false) n t=E.get t:=by
   intro n
   induction n with
   | zero=>rfl
   | succ n ihn =>
    rw [vL];cases l[n]? with
    | none=>exact ihn
    | some y =>
     have hf:(Array.replicate ops.size false).getD n false=false:=by simp [Array.getD]
     simp only [hf,Bool.false_eq_true,false_and,if_false];exact ihn
  exact(this _).symm
 have:∀ n,tZ H l (fun i=>(Array.replicate ops.size false).getD i false) n k=H.get k:=by
  intro n
  induction n with
  | zero=>rfl
  | succ n ihn =>
   rw [tZ];cases l[n]? with
   | none=>exact ihn
   | some y =>
    have hf:(Array.replicate ops.size false).getD n false=false:=by simp [Array.getD]
    simp only [hf,Bool.false_eq_true,false_and,if_false];exact ihn
 exact(this _).symm
def DCP (P:Program) (N:Nat) (PP:DZ→aA→aA→Prop) (ops rest:List Oper) (E:bN) (H:aA) (K:List Rec→List Prop→bN→aA→Prop):Prop:=∃ rs Fs E' H',DChainP P N ops PP rest E H rs Fs E' H'∧K rs Fs E' H'
theorem DE {P:Program} {N:Nat} {PP:DZ→aA→aA→Prop} {ops:List Oper} {E:bN} {H:aA} {K:List Rec→List Prop→bN→aA→Prop} (h:K [] [] E H):DCP P N PP ops [] E H K:=⟨_,_,_,_,.nil,h⟩
theorem pJ {P:Program} {N:Nat} {PP:DZ→aA→aA→Prop} {ops rest:List Oper} {o:Oper} {E:bN} {H:aA} {K:List Rec→List Prop→bN→aA→Prop} {r:Rec} {F:Prop} (h:DStepP P N ops PP o E H r F) (hd:gK N o.dst=true)
  (hk:DCP P N PP ops rest (iH E o.dst r.v) (r.W++H) (fun rs Fs E' H'=>K (r::rs) (F::Fs) E' H')):DCP P N PP ops (o::rest) E H K:=by
 obtain ⟨rs,Fs,E',H',h1,h2⟩:=hk;exact⟨_,_,_,_,.cons h hd h1,h2⟩
theorem bU {P:Program} {N:Nat} {PP:DZ→aA→aA→Prop} {ops rest:List Oper} {o:Oper} {E:bN} {H:aA} {K:List Rec→List Prop→bN→aA→Prop} {r:Rec} (h:DStep P N ops o E H r) (hd:gK N o.dst=true)
  (hk:DCP P N PP ops rest (iH E o.dst r.v) (r.W++H) (fun rs Fs E' H'=>K (r::rs) (True::Fs) E' H')):DCP P N PP ops (o::rest) E H K:=pJ (.old trivial h) hd hk
theorem rS {P:Program} {G0:aA} {N id:Nat} {Q:Exit→bN→aA→Prop} {ops:Array Oper} {E:bN} {H:aA} (PP:DZ→aA→aA→Prop) (ts ids ks:List Nat) (hT:aCV ts ops=true) (hm:P.follows .mixedOrders=true)
  (hP:∀ ch E1 H1 H2,(∀ t∈ts,E1.get t=E.get t)→Shp ids H H1→(∀ id∈ks,H1.get id=H.get id)→PP ch H1 H2→Q (.panic ch) E1 H2)
  (h:DCP P N PP ops.toList ops.toList E H (fun rs Fs E' H'=>(EK ops.toList rs=true∧aG8 ids H rs=true∧aCU ks rs=true)∧(QM Fs→Q .normal E' H'))):fE P G0 N (.region id ops true) Q E H:=by
 obtain ⟨rs,Fs,E',H',h1,⟨h2,h4,h5⟩,h3⟩:=h;exact aA4 hm h1 h2 ids ks h4 h5 ts hT hP h3
end
section
abbrev aDX (G:Entry) (Q:AV→aA→Prop):Ending→World→Prop:=fun e w'=>∃ r H' I' ι' v,e=.returned v∧Q r H'∧VRel w' I' ι' H' v r∧Rel I' ι' H' w'∧Step G.I G.ι G.H G.w I' ι' H' w'
def DWp (P:Program) (fn:Func) (G0:aA) (N:Nat) (Q:AV→aA→Prop) (c:Code) (E:bN) (H:aA):Prop :=∀ G:Entry,G.H=G0→G.ds=[]→∀ a w,St G N E H a w→c.wpIn Fence.wide 0 P (bodyPostM Fence.wide 0 P fn (aDX G Q)) a w
section
variable {P:Program} {fn:Func} {G0 H:aA} {N:Nat} {Q:AV→aA→Prop} {E:bN}
theorem uU {G:Entry} {e:Exit} {a:Act} {w:World} (hG:G.H=G0) (hd:G.ds=[]) (h:FJ P fn G0 Q e E H) (hs:St G N E H a w):bodyPostM Fence.wide 0 P fn (aDX G Q) e a w:=by
 obtain ⟨he,r,hres,r',H'',hfin,hq⟩:=h;have key:LeavesInM Fence.wide 0 P fn a.tmps (aDX G Q) a.defers .returning w:=by
  obtain ⟨I',ι',hr',hst',hE'⟩:=hs.rel;refine qD (hd▸hs.defers) hr' hst' hE' ?_;intro w2 hr2 hst2 hE2;obtain ⟨v,h1,h2⟩:=hres a w2 I' ι' hr2 hE2;obtain ⟨I2,ι2,k1,k2,k3⟩:=hfin G hG I' ι' w2 v hr2 hst2 h2;exact⟨v,h1,r',H'',I2,ι2,v,rfl,hq,k3,k1,k2⟩
 rcases he with rfl|rfl
 ·exact key
 exact key
theorem YB {x y:Code} (h:fE P G0 N x (uX (fun E1 H1=>DWp P fn G0 N Q y E1 H1) (FJ P fn G0 Q)) E H):DWp P fn G0 N Q (.seq x y) E H:=by
 intro G hG hd a w hs;refine wpIn_seq (wpIn_mono (h G hG a w hs none (.inl rfl)) ?_);rintro e a' w' ⟨E',H',hq,hs'⟩;cases e with
 | normal=>exact hq G hG hd a' w' hs'
 | exit id=>exact uU hG hd hq hs'
 | goto l=>exact uU hG hd hq hs'
 | ret=>exact uU hG hd hq hs'
 | panic ch=>exact uU hG hd hq hs'
 | outgrown=>exact uU hG hd hq hs'
theorem aG.bodyD {f:FuncId} {c:Code} {args:List AV} (hf:P.funcs[f]?=some fn) (hb:fn.body=some c) (hN:fn.ntmps=N) (hlen:args.length≤N) (h:DWp P fn H N Q c (kA args) H):aG P f args H Q:=by
 intro I ι w vs hr hl hv;refine callsIn_wide.1 (callsIn_of_wp_marks (F:=Fence.wide) (n:=0) hf hb trivial ?_);have hst:St ⟨I,ι,H,w,[]⟩ N (kA args) H {tmps:=vs++Array.replicate (fn.ntmps - vs.size) undef,defers:=[]} w:=by
  refine⟨nZ.nil _ _ _,?_,I,ι,hr,Step.refl _ _ _ _,fun t a ht=>?_⟩
  ·simp;omega
  have ha:=qK ht;have hlt:t < vs.size:=by rw [hl];exact(aLT.1 ha).1
  have hu:vs[t]?=some vs[t]:=Array.getElem?_eq_getElem hlt;exact⟨vs[t],by rw [Array.getElem?_append_left hlt];exact hu,hv t _ a hu ha⟩
 exact h ⟨I,ι,H,w,[]⟩ rfl rfl _ w hst
end
def QN (P:Program) (F:FuncId) (args:List AV) (H:aA) (u:FrameMode) (K:aA→Prop):Prop :=∀ (I:Nat→Prop) (ι:dR) (w:World) (vs:Array Value),Rel I ι H w→vs.size=args.length→(∀ (i:Nat) (v:Value) (a:AV),vs[i]?=some v→args[i]?=some a→VRel w I ι H v a) →
  CallsDIn Fence.wide 0 P F vs u w fun e u' w'=>∃ v H' I' ι',e=.returned v∧settle u'=.returning∧K H'∧Rel I' ι' H' w'∧Step I ι H w I' ι' H' w'
def YP (P:Program) (fn:Func) (G0 H0:aA) (F:FuncId) (cs:List AV) (Q:AV→aA→Prop) (e:Exit) (E:bN) (H:aA):Prop :=∃ u E1 H1,((e=.normal∨e=.ret)∧u=.returning∨∃ ch,e=.panic ch∧u=.panicking ch)∧cC H0 E H E1 H1 ∧
  QN P F cs H1 u fun H2=>∃ r,(∀ (a:Act) (w:World) (I:Nat→Prop) (ι:dR),Rel I ι H2 w→gO w I ι H2 E1 a→∃ v,(results fn a.tmps).run P w=.ok v w∧VRel w I ι H2 v r)∧∃ r' H3,Fin G0 H2 r H3 r'∧Q r' H3
section
variable {P:Program} {fn:Func} {G0 H:aA} {N:Nat} {Q:AV→aA→Prop} {E:bN}
theorem aAO {id:Nat} {o1 o2:Oper} {ops:Array Oper} {rest:Code} {F:FuncId} {caps:Array Operand} {at_:Array TypeId} {d:Tmp} {cs:List AV} (hops:ops.toList=[o1,o2]) (hg1:o1.guard=none) (hd1:o1.dst=some d) (hdN:Nat.blt d N=true) (ho1:o1.op=.makeFunc (.func F) #[] caps)
  (hg2:o2.guard=none) (hd2:o2.dst=none) (ho2:o2.op=.defer {callee:=.value (.tmp d),args:=#[],argTypes:=at_}) (hv:sU E caps.toList=some cs)
  (hc:∀ (args:Array Value) (w:World),(callFunc F args).run P w=.ok (.enter F args) w)
  (h:fE P H N rest (YP P fn G0 H F cs Q) ((d,.clo F cs)::E) H):DWp P fn G0 N Q (.seq (.region id ops false) rest) E H:=by
 intro G hG hd a w hs;refine wpIn_seq (wpIn_region_list ?_);rw [hops];refine wpListIn_plain hg1 fun K1 hK1=>?_;refine hs.op (R:=fun r H'=>r=.clo F cs∧H'=H) (ro:=none) (by rw [hd1];exact hdN) (eY ho1 (jV hv)) ?_ (.inl rfl);rintro r H' a1 w1 ⟨rfl,rfl⟩ hs1;refine hK1 a1 w1 ?_;rw [hd1] at hs1;refine wpListIn_plain hg2 fun K2 hK2=>?_;refine Oper.wpW_in (ro:=none) (.inl rfl) ?_;obtain ⟨I1,ι1,hr1,hst1,he1⟩:=hs1.rel;obtain ⟨c1,hc1,hv1⟩:=he1 d _ (bN.get_cons_same _ _ _);have hev:a1.eval (.tmp d)=c1:=by simp [Act.eval,hc1]
 cases hv1 with
 | @clo _ us _ hl hh =>
  unfold Oper.wpW execOp;simp only [ho2,resolve,hev,Deferred.ofValue,Sem.run_bind,Sem.run_pure,Result.andThen_ok,Oper.uponW,hd2,Act.put];refine hK2 _ w1 ?_;show Exit.then _ _ .normal _ w1
  let dd:Deferred:={target:=.fn (.func F) us,args:=#[]++(#[]:Array Operand).map a1.eval}
  have hst2:St ⟨I1,ι1,H',w1,dd::a1.defers⟩ N ((d,.clo F cs)::E) H' {a1 with defers:=dd::a1.defers} w1 :=
   ⟨nZ.nil _ _ _,hs1.size,I1,ι1,hr1,Step.refl _ _ _ _,he1⟩
  refine wpIn_mono (h ⟨I1,ι1,H',w1,dd::a1.defers⟩ rfl _ w1 hst2 none (.inl rfl)) ?_;rintro e a' w' ⟨E',H2,⟨u,E1,H1,hmode,hent,hdef⟩,hs2⟩;have hs3:=hent _ rfl N a' w' hs2;have key:u≠.run→LeavesInM Fence.wide 0 P fn a'.tmps (aDX G Q) a'.defers u w':=by
   intro hu;obtain ⟨I3,ι3,hr3,hst3,he3⟩:=hs3.rel;refine tB (G:=⟨I1,ι1,H',w1,dd::a1.defers⟩) hu hs3.defers hr3 hst3 he3 ?_;intro w4 hr4 hst4 he4;refine⟨hu,.inr ⟨(fun hx=>by cases hx),.func F,us,F,us,rfl,?_,fun _ _=>trivial,?_⟩⟩
   ·show (invoke (.fn (.func F) us) (#[]++(#[]:Array Operand).map a1.eval)).run P w4=_;simp only [invoke,Array.map_empty,Array.empty_append,hc]
   refine(hdef I3 ι3 w4 us hr4 (by simpa using hl) (fun i v b hv hb=>(hh i v b hv hb).mono hr1 hst4)).mono ?_;rintro e2 u' w5 ⟨v,H5,I5,ι5,rfl,hset,⟨r,hres,r',H6,hfin,hq⟩,hr5,hst5⟩;show LeavesInM Fence.wide 0 P fn a'.tmps (aDX G Q) a1.defers (settle u') w5;rw [hset];have hall:Step G.I G.ι G.H G.w I5 ι5 H5 w5:=(hst1.trans hst4).trans hst5;have hm1:nZ [] G.w w5 a1.defers:=(hd▸hs1.defers).step hr1 (hst4.trans hst5);refine qD hm1 hr5 hall (fun t v ht=>let ⟨c,x1,x2⟩:=he4 t v ht;⟨c,x1,x2.mono hr4 hst5⟩) ?_;intro w7 hr7 hst7 he7;obtain ⟨v,h1,h2⟩:=hres a' w7 I5 ι5 hr7 he7;obtain ⟨I8,ι8,k1,k2,k3⟩:=hfin G hG I5 ι5 w7 v hr7 hst7 h2;exact⟨v,h1,r',H6,I8,ι8,v,rfl,hq,k3,k1,k2⟩
  rcases hmode with⟨rfl|rfl,rfl⟩|⟨ch,rfl,rfl⟩
  ·exact key (by simp)
  ·exact key (by simp)
  exact key (by simp)
end
end
end Go.Abs
namespace Go.Abs
open Go.Proofs
section
section
variable {P:Program} {G0:aA} {N:Nat} {Q:Exit→bN→aA→Prop} {E:bN} {H:aA}
def LW (P:Program) (G0:aA) (N:Nat) (c:Code) (Q:Exit→bN→aA→Prop) (E:bN) (H:aA):Prop :=∀ G:Entry,G.H=G0→∀ a w,St G N E H a w→c.wpIn (RF none) 0 P (fun e a' w'=>(∃ E H,Q e E H∧St G N E H a' w')∧a'.defers=a.defers) a w
def ALN (P:Program) (G0:aA) (N:Nat) (ops:Array Oper) (K:bN→aA→Prop) (l:List Oper) (E:bN) (H:aA):Prop :=∀ G:Entry,G.H=G0→∀ a w,St G N E H a w→∀ Q:Exit→Act→World→Prop,(∀ E H a' w',K E H→St G N E H a' w'→a'.defers=a.defers→Q .normal a' w')→wpListIn (RF none) 0 P ops Q l a w
theorem AG {ops:Array Oper} {K:bN→aA→Prop} (h:K E H):ALN P G0 N ops K [] E H:=fun _ _ a w hs _ hq=>hq _ _ a w h hs rfl
theorem St.opN {G:Entry} {a:Act} {w:World} {o:Oper} {R:AV→aA→Prop} (hs:St G N E H a w) (hd:gK N o.dst=true) (h:WQ P N o E H R) {K:Act→World→Prop} {Q:Exit→Act→World→Prop}
  (hk:∀ r H' a' w',R r H'→St G N (iH E o.dst r) H' a' w'→a'.defers=a.defers→K a' w'):o.wpIn (RF none) 0 P a w K Q:=by
 refine Oper.wpW_in (.inl rfl) ?_;obtain ⟨I,ι,hr,hst,he⟩:=hs.rel;refine h a w I ι trivial hs.size hr he K Q ?_;intro c w' I' ι' r H' hR hv hr' hs';refine hk r H' _ w' hR ⟨?_,?_,I',ι',hr',hst.trans hs',gO.put hr hs' he hv (by rw [hs.size];exact hd)⟩ (fN _ _ _)
 ·rw [fN];exact hs.defers.step hr hs'
 have:=hs.size;cases o.dst<;>simpa [Act.put] using this
theorem aGP {ops:Array Oper} {K:bN→aA→Prop} {o:Oper} {rest:List Oper} {R:AV→aA→Prop} (hg:o.guard=none) (hd:gK N o.dst=true) (h:WQ P N o E H R) (hk:∀ r H',R r H'→ALN P G0 N ops K rest (iH E o.dst r) H'):ALN P G0 N ops K (o::rest) E H:=by intro G hG a w hs Q hq;refine wpListIn_plain hg fun K' hK=>?_;exact hs.opN hd h fun r H' a' w' hR hs' hd'=>hK _ _ (hk r H' hR G hG a' w' hs' Q fun E H a'' w'' hKK hs'' hd''=>hq E H a'' w'' hKK hs'' (hd''.trans hd'))
theorem GE {ops:Array Oper} {K:bN→aA→Prop} {o:Oper} {rest:List Oper} {d:Tmp} {v:AV} {H2:aA} (hg:o.guard=none) (hd:o.dst=some d) (hn:Nat.blt d N=true) (h:cD P N o E H v H2) (hk:ALN P G0 N ops K rest ((d,v)::E) H2):ALN P G0 N ops K (o::rest) E H :=aGP hg (by rw [hd];exact hn) h fun r H' ⟨e1,e2⟩=>by subst e1 e2;rw [hd];exact hk
theorem aDL {ops:Array Oper} {K:bN→aA→Prop} {o:Oper} {rest:List Oper} {v:AV} {H2:aA} (hg:o.guard=none) (hd:o.dst=none) (h:cD P N o E H v H2) (hk:ALN P G0 N ops K rest E H2):ALN P G0 N ops K (o::rest) E H :=aGP hg (by rw [hd];rfl) h fun r H' ⟨e1,e2⟩=>by subst e1 e2;rw [hd];exact hk
theorem mX {id:Nat} {ops:Array Oper} (h:ALN P G0 N ops (fun E H=>Q .normal E H) ops.toList E H):LW P G0 N (.region id ops false) Q E H:=fun G hG a w hs =>
 wpIn_region_list (h G hG a w hs _ fun E H a' w' q s hd=>⟨⟨E,H,q,s⟩,hd⟩)
theorem DI {x y:Code} (h:LW P G0 N x (uX (LW P G0 N y Q) Q) E H):LW P G0 N (.seq x y) Q E H:=by intro G hG a w hs;refine wpIn_seq (wpIn_mono (h G hG a w hs) ?_);rintro e a' w' ⟨⟨E',H',q,s⟩,hd⟩;cases e<;>first|exact wpIn_mono (q G hG a' w' s) (fun e a w ⟨h1,h2⟩=>⟨h1,h2.trans hd⟩)|exact⟨⟨E',H',q,s⟩,hd⟩
theorem J9 {id:Nat} {c:Code} (h:LW P G0 N c (DR id Q) E H):LW P G0 N (.block id c) Q E H:=by
 intro G hG a w hs;refine wpIn_block (wpIn_mono (h G hG a w hs) ?_);rintro e a' w' ⟨⟨E',H',q,s⟩,hd⟩;cases e<;>try exact⟨⟨E',H',q,s⟩,hd⟩
 rename_i id';simp only [DR] at q;simp only [Exit.inBlock]
 split
 ·rename_i e1;subst e1;rw [kB] at q;exact⟨⟨E',H',q,s⟩,hd⟩
 rename_i e1;rw [jA e1] at q;exact⟨⟨E',H',q,s⟩,hd⟩
theorem FD {c:Operand} {x y:Code} {b:Bool} (hc:aN E c=some (.pv (.bool b))) (h1:b=true→LW P G0 N x Q E H) (h2:b=false→LW P G0 N y Q E H):LW P G0 N (.cond c x y) Q E H:=by intro G hG a w hs;obtain ⟨I,ι,hr,hst,he⟩:=hs.rel;have hb:a.eval c=.bool b:=(aH he hc).bool_inv;exact wpIn_cond_split hb (fun e=>h1 e G hG a w hs) (fun e=>h2 e G hG a w hs)
end
section
variable {P:Program} {fn:Func} {H:aA} {N:Nat} {F:FuncId} {args:List AV} {K:aA→Prop}
def aKm (H:aA) (K:aA→Prop) (e:Exit) (E':bN) (H':aA):Prop:=(e=.normal∨e=.ret)∧∃ H2,Fin H H' (.tup []) H2 (.tup [])∧K H2
theorem DO {id:Nat} {o:Oper} {ops:Array Oper} {c2:Code} {at_:Array TypeId} {d:Tmp} {u:FrameMode} {x:PV} {vx:Value} (hf:P.funcs[F]?=some fn) (hb:fn.body=some (.seq (.region id ops false) c2)) (hN:fn.ntmps=N) (hlen:args.length≤N) (hr0:fn.results=#[])
  (hops:ops=#[o]) (hg:o.guard=none) (hd:o.dst=some d) (hdN:Nat.blt d N=true) (ho:o.op=.call {callee:=.builtin .recover,args:=#[],argTypes:=at_})
  (hx:∀ (w:World) (I:Nat→Prop),PRep w I vx x) (hu:(u=.returning∧vx=.nilIface)∨(∃ t,u=.panicking (ms t)∧vx=.iface t (.agg #[])))
  (h:LW P H N c2 (aKm H K) ((d,.pv x)::kA args) H):QN P F args H u K:=by
 intro I ι w vs hr hl hv;refine callsDIn_of_wpSIn hf hb trivial ?_;intro c₀ cs hmode;refine wpSIn_seq (wpSIn_region ?_);subst hops;have hst:St ⟨I,ι,H,w,[]⟩ N (kA args) H {tmps:=vs++Array.replicate (fn.ntmps - vs.size) undef,defers:=[]} w:=by
  refine⟨nZ.nil _ _ _,?_,I,ι,hr,Step.refl _ _ _ _,fun t a ht=>?_⟩
  ·simp;omega
  have ha:=qK ht;have hlt:t < vs.size:=by rw [hl];exact(aLT.1 ha).1
  have hu:vs[t]?=some vs[t]:=Array.getElem?_eq_getElem hlt;exact⟨vs[t],by rw [Array.getElem?_append_left hlt];exact hu,hv t _ a hu ha⟩
 obtain ⟨a,ha⟩:∃ a:Act,a={tmps:=vs++Array.replicate (fn.ntmps - vs.size) undef,defers:=[]}:=⟨_,rfl⟩;rw [← ha] at hst ⊢;have hadef:a.defers=[]:=by rw [ha]
 have hst2:St ⟨I,ι,H,w,[]⟩ N ((d,.pv x)::kA args) H (a.put (some d) vx) w:=by
  obtain ⟨I1,ι1,k1,k2,k3⟩:=hst.rel;refine⟨by rw [fN];exact hst.defers,?_,I1,ι1,k1,k2,?_⟩
  ·have:=hst.size
   simpa [Act.put] using this
  exact gO.put (d:=some d) k1 (Step.refl _ _ _ _) k3 (.pv (hx _ _)) (by rw [hst.size];exact hdN)
 have rest:∀ u',settle u'=.returning→c2.wpSIn Fence.wide 0 P (bodyPostS P fn c₀ cs fun e u' w'=>∃ v H' I' ι',e=.returned v∧settle u'=.returning∧K H'∧Rel I' ι' H' w'∧Step I ι H w I' ι' H' w') (a.put (some d) vx) ({c₀ with mode:=u'}::cs) w:=by
  intro u' hset;refine wpSIn_of_wpIn rfl (wpIn_mono (h ⟨I,ι,H,w,[]⟩ rfl _ w hst2) ?_);rintro e a' w' ⟨⟨E',H',⟨he,H2,hfin,hK⟩,hs'⟩,hdf⟩;obtain ⟨I3,ι3,k1,k2,k3⟩:=hs'.rel;obtain ⟨I4,ι4,q1,q2,q3⟩:=hfin ⟨I,ι,H,w,[]⟩ rfl I3 ι3 w' (.tuple #[]) k1 k2 (.tup rfl (by simp));have hde:a'.defers=[]:=hdf.trans ((fN _ _ _).trans hadef);have key:a'.defers=[]∧∃ u'',({c₀ with mode:=u'}::cs:List Frame)={c₀ with mode:=u''}::cs∧∃ v,(results fn a'.tmps).run P w'=.ok v w'∧∃ v0 H' I' ι',Ending.returned v=.returned v0∧settle u''=.returning∧K H'∧Rel I' ι' H' w'∧Step I ι H w I' ι' H' w' :=
   ⟨hde,u',rfl,.tuple #[],by simp [results,hr0],.tuple #[],H2,I4,ι4,rfl,hset,hK,q1,q2⟩
  rcases he with rfl|rfl
  ·exact key
  exact key
 have hex:(execOp a.eval o).run P w=.ok .recover w:=by
  simp [execOp,ho,resolve,invoke];rfl
 have hw:Region.wanted o (yielded #[o] a.tmps)=true:=by simp [Region.wanted,hg]
 show wpOpsSIn _ _ _ _ _ [0] _ _ _;unfold wpOpsSIn;simp only [List.getElem?_toArray,List.getElem?_cons_zero,hw,if_true,hex];refine⟨fun _ _=>trivial,?_⟩;rcases hu with⟨rfl,rfl⟩|⟨t,rfl,rfl⟩
 ·have hrec:recoverD (c₀::cs)=none:=by simp [recoverD,hmode]
  rw [hrec];have hc:({c₀ with mode:=.returning}:Frame)=c₀:=by rw [← hmode]
  have:=rest .returning rfl;rw [hc] at this;rw [hd];exact this
 have hrec:recoverD (c₀::cs)=some (.iface t (.agg #[]),{c₀ with mode:=.panicking ({v:=.iface t (.agg #[]),recovered:=true}::[])}::cs):=by simp [recoverD,hmode]
 rw [hrec];rw [hd];exact rest (.panicking ({v:=.iface t (.agg #[]),recovered:=true}::[])) rfl
end
section
variable {P:Program} {N:Nat} {o:Oper} {E:bN} {H:aA} {t t' T:TypeId} {x y:Operand}
theorem U4 (ho:o.op=.binOp .eql t x (.const .nilIface) t') (ht:P.underlying t=some (.interface (P.methodsAt t))) (hx:aN E x=some (.pv EL)):cD P N o E H (.pv (.bool true)) H :=.of_run fun a w I ι _ he=>⟨.bool true,by
  have e1:a.eval x=.nilIface:=(aH he hx).sat_inv;have e2:a.eval (.const .nilIface)=.nilIface:=rfl;simp only [execOp,ho,e1,e2,eqGuard,Sem.run_bind,Sem.run_pure,Result.andThen_ok,run_eql_nil_nil _ _ ht,Bool.or_true,Bool.true_or,if_true,Bool.not_true,Bool.false_eq_true,if_false],.pv (.bool _)⟩
theorem U5 {ps:List PV} {t2:TypeId} (ho:o.op=.binOp .eql t x (.const .nilIface) t') (ht:P.underlying t=some (.interface (P.methodsAt t))) (hx:aN E x=some (.pv (.ifa t2 ps))):cD P N o E H (.pv (.bool false)) H :=.of_run fun a w I ι _ he=>⟨.bool false,by
  obtain ⟨cs,e1,_⟩:=(aH he hx).ifa_inv;have e2:a.eval (.const .nilIface)=.nilIface:=rfl;simp only [execOp,ho,e1,e2,eqGuard,Sem.run_bind,Sem.run_pure,Result.andThen_ok,binOp,run_equal_held_nil _ _ _ _ ht];rfl,.pv (.bool _)⟩
abbrev aId:PV:=.sat fun v=>∃ b,v=.pointer (some ⟨b,0,none⟩)
theorem U7 (ho:o.op=.alloc T) (hz:∀ w,(zeroValue T).run P w=.ok (.agg #[]) w):cD P N o E H (.pv aId) H:=by intro a w I ι _ _ hr he K Q hk;unfold Oper.wpW execOp;simp only [ho,Instr.alloc,hz,newVar,newRow,Sem.run_bind,run_newObj,Sem.run_pure,Result.andThen_ok];obtain ⟨h1,h2⟩:=Rel.newImm (w':={w with heap:=w.heap.push (.cells #[] T (0,0))}) (c:=#[]) (t:=T) hr rfl rfl rfl rfl;exact hk _ _ _ ι _ _ ⟨rfl,rfl⟩ (.pv (.sat rfl ⟨_,rfl⟩)) h1 h2
theorem U2 (ho:o.op=.store T x y) (hx:aN E x=some (.pv aId)) (hy:aN E y=some (.agg [])) (hs:∀ w,(sizeOf T).run P w=.ok 0 w):cD P N o E H (.tup []) H:=by
 intro a w I ι _ _ hr he K Q hk;obtain ⟨b,e1⟩:=(aH he hx).sat_inv;have h2:=aH he hy;generalize hy2:a.eval y=v2 at h2;cases h2 with
 | @agg vs _ hl h1 hh =>
  have:vs=#[]:=Array.eq_empty_of_size_eq_zero (by simpa using hl);subst this;have hrun:(execOp a.eval o).run P w=.ok .skip w:=by
   simp only [execOp,ho,e1,hy2];simp [Instr.storeAt,Instr.sureAddr,storeVar,hs,Value.cells,storeCells]
  unfold Oper.wpW;rw [hrun];exact hk undef w I ι _ _ ⟨rfl,rfl⟩ (.tup rfl (by simp)) hr (Step.refl _ _ _ _)
end
theorem cC.toAny {G0 H H':aA} {E E':bN} (hE:∀ t v,E'.get t=some v→E.get t=some v∧Clo H' v) (hH:∀ id o',H'.get id=some o'→∃ o,H.get id=some o∧iQ o o'∧∀ r∈o'.rows,∀ a∈r,a=.any) (hG:∀ id,(G0.get id).isSome=true→(H'.get id).isSome=true):cC G0 E H E' H':=by
 intro G hGe N a w hs;obtain ⟨I,ι,hr,hst,he⟩:=hs.rel;have hlen:∀ {o o':Ob},iQ o o'→o'.rows.length=o.rows.length:=fun h=>by
  have:=congrArg List.length h.2.2.2
  simpa using this
 have hal:YR H H':=fun j o' ho'=>by
  obtain ⟨o,h1,h2,_⟩:=hH j o' ho';exact⟨o,h1,h2.1.symm,h2.2.1.symm,h2.2.2.1.symm,(hlen h2).symm⟩
 refine⟨hs.defers,hs.size,I,ι,⟨hr.imm,fun id o' ho'=>?_,fun id id' o o' b c c' ho ho'=>?_,hr.glob⟩,?_,fun t v ht=>?_⟩
 ·obtain ⟨o,h1,h2,h3⟩:=hH id o' ho';refine(hr.obj id o h1).keepG h2.2.1 h2.2.2.1 (hlen h2) (fun y ts r' hy=>?_) rfl (fun _ _ _ _=>⟨rfl,fun h=>h⟩) (fun i r' hi=>?_)
  ·have:=h3 [.raw y ts] (by rw [hy];simp) (.raw y ts) (by simp);cases this
  have hlt:i < o.rows.length:=by rw [← hlen h2];exact(aLT.1 hi).1
  refine⟨o.rows[i],aLU hlt,?_,fun k a a' _ ha' v _=>?_⟩
  ·have e:=congrArg (fun l:List Nat=>l[i]?) h2.2.2.2;simp only [aL9,hi,aLU hlt,Option.map_some,Option.some.injEq] at e;exact e.symm
  rw [h3 r' (aLZ hi) a' (aLZ ha')];exact .any v
 ·obtain ⟨q,h1,_⟩:=hH id o ho;obtain ⟨q',h1',_⟩:=hH id' o' ho';exact hr.inj id id' q q' b c c' h1 h1'
 ·refine {hst with own:=fun b ⟨id,o',cap,ho',hc⟩=>?_,objs:=fun id o ho=>?_}
  ·obtain ⟨o,h1,_⟩:=hH id o' ho';exact hst.own b ⟨id,o,cap,h1,hc⟩
  obtain ⟨o1,k1,k2,k3⟩:=hst.objs id o ho;obtain ⟨o',ho'⟩:=Option.isSome_iff_exists.1 (hG id (by rw [← hGe,ho];rfl));obtain ⟨o2,h1,h2,_⟩:=hH id o' ho';rw [k1] at h1;cases h1;refine⟨o',ho',by rw [h2.1];exact k2,fun e=>?_⟩;obtain ⟨q1,q2,q3⟩:=k3 (by rw [← h2.1];exact e);exact⟨q1,by rw [h2.2.1];exact q2,fun hz=>by rw [hlen h2];exact q3 hz⟩
 obtain ⟨h1,h2⟩:=hE t v ht;obtain ⟨c,hc,hv⟩:=he t v h1;exact⟨c,hc,hv.alike hal h2⟩
theorem aKO {P:Program} {fn:Func} {E:bN} {H:aA} {x y:ResultVar} {r s:AV} (hf:fn.results=#[x,y]) (hx:GM P E H x r) (hy:GM P E H y s) :
  ∀ (a:Act) (w:World) (I:Nat→Prop) (ι:dR),Rel I ι H w→gO w I ι H E a→∃ v,(results fn a.tmps).run P w=.ok v w∧VRel w I ι H v (.tup [r,s]):=fun a w I ι hr hE=>by
 obtain ⟨v,h1,h2⟩:=hx a w I ι hr hE;obtain ⟨u,h3,h4⟩:=hy a w I ι hr hE;refine⟨.tuple #[v,u],by rw [oM,hf];simp [h1,h3],.tup rfl ?_⟩;intro i c b hc hb
 match i with
 | 0=>simp at hc hb;subst hc hb;exact h2
 | 1=>simp at hc hb;subst hc hb;exact h4
 | i+2=>simp at hc
end
end Go.Abs
namespace Go.Proofs.YtiifmppaejpemaaGreatDoor
open Go.Proofs.Tryz
open Go.Abs
abbrev RI (l:List UInt8):Ob:=bx 1 87 [sv (ofL l)]
abbrev jH (l:List UInt8):aA:=[(980,RI l)]
abbrev IP:AV:=.ref 980 0 0 0
abbrev BC:DZ:=ms 84
theorem OV (l:List UInt8) (H:aA):∀ r∈(RI l).rows,∀ a∈r,Clo H a:=by intro r hr a ha;simp only [RI,bx,aLS] at hr;subst hr;rw [aLS] at ha;subst ha;simp
theorem vN (l:List UInt8):cY (jH l):=cY.ofL ⟨OV l _,trivial⟩
def xS (f:FuncId) (xs:List AV) (K:aA) (l:List UInt8) (o:Option (AV×List UInt8)):Prop :=∀ H1:aA,H1.get 980=some (RI l)→Sub K H1→dW Tryz.prog f xs H1 (fun r H'=>∃ p,o=some p∧r=p.1∧H'=jH p.2++H1) (fun ch H'=>o=none∧ch=BC∧∃ q,H'=jH q++H1)
theorem xS.of {f:FuncId} {xs:List AV} {K:aA} {l:List UInt8} {o:Option (AV×List UInt8)} (hK:cY (jH l++K)) (hK9:K.get 980=none) (hx:∀ a∈xs,Clo (jH l++K) a)
  (h:dW Tryz.prog f xs (jH l++K) (fun r H'=>∃ p,o=some p∧r=p.1∧H'=jH p.2++K) (fun ch H'=>o=none∧ch=BC∧∃ q,H'=jH q++K)):xS f xs K l o:=by
 intro H1 h1 h2;have hsub:Sub (jH l++K) H1:=fun id ob ho=>by
  rw [eN] at ho;by_cases e:980=id
  ·subst e;have:(jH l).get 980=some (RI l):=rfl;rw [this] at ho;cases ho;exact h1
  have:(jH l).get id=none:=by simp [aA.get,jA e]
  rw [this] at ho;exact h2 id ob ho
 have hk:∀ q id,(aA.get (jH q++K) id).isSome=true→((jH l++K).get id).isSome=true:=fun q id hi=>by
  rw [eN] at hi ⊢;by_cases e:980=id
  ·subst e;rfl
  have h1:∀ q,(jH q).get id=none:=fun q=>by simp [aA.get,jA e]
  rw [h1] at hi ⊢;exact hi
 have hg:∀ (q:List UInt8) (j:Nat),aA.get (jH q++H1) j=aA.get ((jH q++K)++H1) j:=fun q j=>by
  rw [List.append_assoc,eN,eN (jH q)];cases (jH q).get j with
  | some _=>rfl
  | none =>
   simp only;rw [eN];cases e:K.get j with
   | none=>rfl
   | some ob=>exact h2 j ob e
 refine(h.frame hsub hK hx (fun r H' ⟨p,_,_,hp⟩ id hi=>.inl (by subst hp;exact hk _ id hi)) (fun ch H' ⟨_,_,q,hq⟩ id hi=>.inl (by subst hq;exact hk _ id hi))).conv ?_ ?_
 ·rintro r H' ⟨K',⟨p,e1,e2,rfl⟩,rfl⟩;exact⟨_,hg _,p,e1,e2,rfl⟩
 rintro ch H' ⟨K',⟨e1,e2,q,rfl⟩,rfl⟩;exact⟨_,hg _,e1,e2,q,rfl⟩
theorem xS.yes {f:FuncId} {xs:List AV} {K:aA} {l q:List UInt8} {v:AV} (h:xS f xs K l (some (v,q))) {H1:aA} (h1:H1.get 980=some (RI l)) (h2:Sub K H1):aG Tryz.prog f xs H1 (fun r H'=>r=v∧H'=jH q++H1) :=((h H1 h1 h2).mono (PP':=fun _ _=>False) (fun r H' ⟨p,e1,e2,e3⟩=>by cases e1;exact⟨e2,e3⟩) (fun ch H' ⟨e,_⟩=>by cases e)).calls (fun _ _ h=>h)
theorem xS.no {f:FuncId} {xs:List AV} {K:aA} {l:List UInt8} (h:xS f xs K l none) {H1:aA} (h1:H1.get 980=some (RI l)) (h2:Sub K H1):dW Tryz.prog f xs H1 (fun _ _=>False) (fun ch H'=>ch=BC∧∃ q,H'=jH q++H1) :=(h H1 h1 h2).mono (fun r H' ⟨p,e1,_⟩=>by cases e1) (fun ch H' ⟨_,e2,e3⟩=>⟨e2,e3⟩)
theorem xS.tot {f:FuncId} {xs:List AV} {K:aA} {l:List UInt8} {o:Option (AV×List UInt8)} (h:xS f xs K l o) {v:AV} {q:List UInt8} {d:AV} (hv:(o.getD (d,l))=(v,q)) {H1:aA} (h1:H1.get 980=some (RI l)) (h2:Sub K H1) :
  dW Tryz.prog f xs H1 (fun r H'=>r=v∧H'=jH q++H1∧o.isSome=true) (fun ch H'=>o=none∧ch=BC∧∃ q,H'=jH q++H1) :=
 (h H1 h1 h2).mono (fun r H' ⟨p,e1,e2,e3⟩=>by subst e1;cases hv;exact⟨e2,e3,rfl⟩) (fun ch H' h=>h)
theorem eA (H:aA):Sub [] H:=fun _ _ h=>by cases h
def xI (l:List UInt8):Option (AV×List UInt8):=(gJ l).map fun p=>(sv p.1,p.2)
def tW (l:List UInt8):Option (AV×List UInt8):=(lR l).map fun p=>(iv p.1,p.2)
theorem sZ (l:List UInt8) (hl:l.length < 1000000000):xS 51 [IP] [] l (xI l):=by
 refine xS.of (vN l) rfl (by simp;rfl) ?_;have hls:(ofL l).size=l.length:=fY l;have hcl:=aHa l;have hcut:=fun H=>aH9 (ofL l) H (by omega);rw [aFW] at hcut;have hat:=fun H=>YH (ofL (QR l)) (by rw [fY];omega) H;have hrs:(ofL (QS l)).size=(QS l).length:=fY _;have hbad:AU l=(((!decide ((58:UInt8)∈l)||sT (ofL (QR l)))||decide (mA (ofL (QR l)) < 0))||decide (((QS l).length:Int) < mA (ofL (QR l)))):=rfl;have hN:nxN l=(mA (ofL (QR l))).toNat:=rfl;have hO:xI l=if AU l=true then none else some (sv (ofL ((QS l).take (nxN l))),(QS l).drop (nxN l)):=by rw [xI,gJ];split<;>rfl
 rw [hO];obtain ⟨x,hx⟩:∃ x,x=ofL (QR l):=⟨_,rfl⟩;obtain ⟨v,hv⟩:∃ v,v=mA (ofL (QR l)):=⟨_,rfl⟩;obtain ⟨e,he⟩:∃ e,e=sT (ofL (QR l)):=⟨_,rfl⟩;obtain ⟨o,ho⟩:∃ o,o=decide ((58:UInt8)∈l):=⟨_,rfl⟩;obtain ⟨r,hr⟩:∃ r,r=QS l:=⟨_,rfl⟩;simp only [← hv,← he,← ho,← hr] at hcut hat hbad hN hrs hcl ⊢;simp only [← hx] at hcut hat hbad;clear hx hv he ho hr hO;refine dW.body func51 rfl ntmps51 (aL2 rfl) ?_;refine Sr<|Dd aP<|Zz<|Sr<|Dd aI<|Dd xJ<|Dd (bB aCa)<|Dd (bL isAgg9)<|Dd (by exact aB rfl rfl call117 rfl (hcut _))<|Dd aI<|Dd eS<|Dd eS<|Dd eS<|Dd aP<|Dd aP<|Dd aP<|Zz<|Sr<|Dd aI<|Dd (by exact aB rfl rfl tV rfl (hat _))<|Dd aI<|Dd eS<|Dd eS<|Dd aP<|Dd aP<|Zz<|Sq<|Sq ?_;refine bC (t:=37) (n:=19) (X:=AU l) ?_ ?_
 ·all_goals refine Dd aI ?_
  all_goals refine Dd lI<|Dm ?_
  all_goals refine Sp 24 (fun h24=>?_) fun h24=>?_
  all_goals(try(with_reducible contradiction))
  all_goals first|refine Fo<|Fo ?_|refine On aI<|On (by exact RT rfl mJ rfl) ?_
  all_goals refine Dd cL<|Dm ?_
  all_goals refine Sp 28 (fun h28=>?_) fun h28=>?_
  all_goals(try(with_reducible contradiction))
  all_goals first|refine Fo<|Fo ?_|refine On aI<|On dI ?_
  all_goals refine Dd cL<|Dm ?_
  all_goals refine Sp 32 (fun h32=>?_) fun h32=>?_
  all_goals(try(with_reducible contradiction))
  all_goals first|refine Fo<|Fo<|Fo<|Fo ?_|refine On aI<|On aI<|On (nV underlying9)<|On mU ?_
  all_goals refine Dd cL<|Zz ?_
  all_goals(exact⟨⟨_,rfl,by rw [hbad];first|(rw [h24];rfl)|(rw [h24,h28];rfl)|(rw [h24,h28,h32,← hrs];rfl)⟩,rfl,rfl,rfl⟩)
 refine Cn ?_ ?_<;>intro hc1
 ·have hb:AU l=true:=hc1;rw [aLO hb];refine eL ?_;refine fD rfl rfl rfl (by exact EG (fs:=#[]) (places:=#[]) (v0:=.agg []) (l0:=[]) (aps:=[]) (l:=[]) rfl tN aDP (.inl rfl) rfl (fun w=>by simp) rfl rfl) ?_;refine fD rfl rfl rfl (by exact CP (ps:=[]) rfl (cF tN rfl) rfl) ?_;exact mB rfl rfl (MW rfl rfl) (fun ch H' h=>by obtain ⟨rfl,rfl⟩:=h;exact zE (H':=jH l) (Fin.wk (by simp) (Hb<|trivial) ⟨rfl,trivial⟩) ⟨rfl,rfl,l,rfl⟩)
 have hb:AU l=false:=hc1;rw [aLN (by rw [hb];decide)];have hb2:=hbad.symm.trans hb;simp only [aLb,aLX] at hb2;obtain ⟨u,rfl⟩:∃ u:Nat,v=(u:Int):=⟨v.toNat,by omega⟩;rw [aL0] at hN;rw [hN];have hur:u≤r.length:=by omega
 have x1:(ofL r).extract 0 u=ofL (r.take u):=zD (by rw [nR,dV,dV,List.drop_zero,Nat.sub_zero]);have x2:(ofL r).extract u (ofL r).size=ofL (r.drop u):=zD (by rw [yW,dV,dV]);refine aE<|Sr<|Dd aI<|Dd aI<|Dd aI<|Dd (by exact cJ (l:=u) (h:=(ofL r).size) rfl underlying9 rfl rfl rfl (by omega) (aLV _) x2)<|Dd xJ<|Dd (bB aCa)<|Uu (jK sizeOf9)<|Zz<|Sr<|Dd aI<|Dd aI<|Dd (by exact cJ (l:=0) (h:=u) rfl underlying9 rfl rfl rfl (aL6 _) (by omega) x1)<|Dd aP<|Zz<|aC ?_;refine FF ?_;refine dF (H':=(jH (r.drop u))) (.inr rfl) rfl (aT rfl) (Fin.wk (by(simp;done)) (Hb<|trivial) ⟨rfl,trivial⟩) ?_;exact⟨_,rfl,rfl,rfl⟩
theorem aFY {l:List UInt8} (h:(58:UInt8)∈l):(QS l).length < l.length:=by rw [QS,aL4];have:=(List.dropWhile_sublist (l:=l) fun b=>!decide (b=58)).length_le;have:=List.length_pos_of_mem h;omega
theorem hU {l q:List UInt8} {s:ByteArray} (h:gJ l=some (s,q)):s.size+q.length < l.length:=by
 rw [gJ] at h
 split at h
 ·cases h
 next hb =>
 have hb:AU l=false:=by simpa using hb
 simp only [AU,aLb,Bool.not_eq_false',aLX,aLW] at hb;have hlt:=aFY hb.1.1.1;cases h;rw [fY,aL3,aL4];omega
theorem gB {l q:List UInt8} {x:Int} (h:lR l=some (x,q)):q.length < l.length∧(-9223372036854775808≤x∧x≤9223372036854775807):=by
 rw [lR] at h;cases hO:gJ l with
 | none=>rw [hO] at h;cases h
 | some p =>
  obtain ⟨s,r⟩:=p;rw [hO] at h;simp only at h
  split at h
  ·cases h
  cases h;have:=hU hO;exact⟨by omega,aA7 s⟩
theorem kD (l:List UInt8) (hl:l.length < 1000000000):xS 52 [IP] [] l (tW l):=by
 refine xS.of (vN l) rfl (by simp;rfl) ?_;have hn:=sZ l hl;have hlen:=fun s q=>hU (l:=l) (s:=s) (q:=q);have hA:xI l=(gJ l).map fun p=>(sv p.1,p.2):=rfl;have hB:tW l=(match gJ l with
  | none=>none
  | some (s,r)=>if sT s=true then none else some (iv (mA s),r)):=by
  rw [tW,lR];cases gJ l with
  | none=>rfl
  | some p=>simp only;split<;>rfl
 rw [hB];rw [hA] at hn;obtain ⟨O,hO⟩:∃ O,O=gJ l:=⟨_,rfl⟩;rw [← hO] at hn hlen ⊢;clear hO hA hB;refine dW.body func52 rfl ntmps52 (aL2 rfl) ?_;refine Sr<|Dd aP<|Zz<|Sq ?_;rcases O with _|⟨s,q⟩
 ·have hn:xS 51 [IP] [] l none:=hn;refine eL ?_;refine fD rfl rfl rfl (by exact eM rfl rfl) ?_;exact mB rfl rfl (cW rfl rfl jJ rfl (hn.no rfl (eA _))) (fun ch H' h=>by obtain ⟨rfl,q,rfl⟩:=h;exact zE (H':=jH q) (Fin.wk (by simp) (Hb<|trivial) ⟨rfl,trivial⟩) ⟨rfl,rfl,q,rfl⟩)
 have hn:xS 51 [IP] [] l (some (sv s,q)):=hn;have hlen:=hlen s q rfl;have hat:=fun H=>YH s (by omega) H;obtain ⟨e,he⟩:∃ e,e=sT s:=⟨_,rfl⟩;obtain ⟨v,hv⟩:∃ v,v=mA s:=⟨_,rfl⟩;simp only [← he,← hv] at hat ⊢;clear he hv;refine Rg<|Dd aI<|Dd (by exact aB rfl rfl jJ rfl (hn.yes rfl (eA _)))<|Dd (by exact aB rfl rfl tV rfl (hat _))<|Dd aI<|Dd eS<|Dd eS<|Dd aP<|Dd aP<|Zz<|Sq<|Sr<|Dd aI<|Dd (by exact RT rfl mJ rfl)<|Zz ?_;refine Cn ?_ ?_<;>intro hc1
 ·have hb:e=true:=hc1;rw [aLO hb];refine eL ?_;refine fD rfl rfl rfl (by exact EG (fs:=#[]) (places:=#[]) (v0:=.agg []) (l0:=[]) (aps:=[]) (l:=[]) rfl tN aDP (.inl rfl) rfl (fun w=>by simp) rfl rfl) ?_;refine fD rfl rfl rfl (by exact CP (ps:=[]) rfl (cF tN rfl) rfl) ?_;exact mB rfl rfl (MW rfl rfl) (fun ch H' h=>by obtain ⟨rfl,rfl⟩:=h;exact zE (H':=jH q) (Fin.wk (by simp) (Hb<|trivial) ⟨rfl,trivial⟩) ⟨rfl,rfl,q,rfl⟩)
 have hb:e=false:=hc1;rw [aLN (by rw [hb];decide)];refine aE<|Sr<|Dd aI<|Dd aP<|Zz<|aC ?_;refine FF ?_;refine dF (H':=(jH q)) (.inr rfl) rfl (aT rfl) (Fin.wk (by(simp;done)) (Hb<|trivial) ⟨rfl,trivial⟩) ?_;exact⟨_,rfl,rfl,rfl⟩
abbrev nxB:AV:=.bnd 51 [IP]
def VE (l:List UInt8):Option (AV×List UInt8):=(sC gJ l).map fun p=>(.pv (aU p.1),p.2)
theorem R5 {α:Type} (f:List UInt8→Option (α×List UInt8)) {N k:Nat} {q l':List UInt8} {A:List α} (hk:A.length=k) (hlt:k < N) (h:zW f N q=(zW f (N - k) l').map fun p=>(A++p.1,p.2)) :
  zW f N q=match f l' with
   | none=>none
   | some (x,r)=>(zW f (N - (k+1)) r).map fun p=>((A++[x])++p.1,p.2):=by
 rw [h,show N - k=(N - (k+1))+1 by omega,zW];cases f l' with
 | none=>rfl
 | some p =>
  obtain ⟨x,r⟩:=p;simp only;cases zW f (N - (k+1)) r with
  | none=>rfl
  | some p2 =>
   obtain ⟨xs,q2⟩:=p2;simp
theorem aCO {l:List UInt8} (h:lR l=none):VE l=none:=by rw [VE,sC,h];rfl
theorem aCN {l q:List UInt8} {n:Int} (h:lR l=some (n,q)):VE l=(zW gJ n.toNat q).map fun p=>(.pv (aU p.1),p.2):=by rw [VE,sC,h]
theorem PH (l:List UInt8) (hl:l.length < 1000000000):xS 53 [IP,nxB] [] l (VE l):=by
 refine xS.of (vN l) rfl (by simp;rfl) ?_;have hnu:=kD l hl;have hnone:=aCO (l:=l);have hsome:=fun n q=>aCN (l:=l) (n:=n) (q:=q);have hlen:=fun n q=>gB (l:=l) (x:=n) (q:=q);rw [tW] at hnu;obtain ⟨O,hO⟩:∃ O,O=lR l:=⟨_,rfl⟩;rw [← hO] at hnu hnone hsome hlen;clear hO;refine dW.body func53 rfl ntmps53 (aL2 rfl) ?_;refine Sr<|Dd aP<|Zz<|Sq ?_;rcases O with _|⟨n,q0⟩
 ·rw [hnone rfl];have hn:xS 52 [IP] [] l none:=hnu;refine eL ?_;refine fD rfl rfl rfl (by exact eM rfl rfl) ?_;exact mB rfl rfl (cW rfl rfl fS rfl (hn.no rfl (eA _))) (fun ch H' h=>by obtain ⟨rfl,q,rfl⟩:=h;exact zE (H':=jH q) (Fin.wk (by simp) (Hb<|trivial) ⟨rfl,trivial⟩) ⟨rfl,rfl,q,rfl⟩)
 have hn:xS 52 [IP] [] l (some (iv n,q0)):=hnu;obtain ⟨hq0,hn0,hn1⟩:=hlen n q0 rfl;rw [hsome n q0 rfl];refine Rg<|Dd aI<|Dd (by exact aB rfl rfl fS rfl (hn.yes rfl (eA _)))<|Dd aP<|Zz<|Sr<|Dd (by exact nH (id:=905) (sz:=1) (ty:=9) rfl rfl rfl)<|Zz<|Sq<|Sr<|Dd aI<|Dd aI<|Zz<|aF ?_;refine jB (fun(l':List UInt8) (A:List ByteArray)=>([(0,IP),(1,nxB),(6,.osl 905 A.length 0 A.length),(9,iv n),(10,iv (A.length:Int))],(905,⟨A.length,1,9,dO A⟩)::jH l')) (fun l' A=>l'.length+A.length < l.length∧A.length≤n.toNat∧zW gJ n.toNat q0=(zW gJ (n.toNat - A.length) l').map fun p=>(A++p.1,p.2)) (fun l' A=>l'.length) q0 [] ⟨by rw [List.length_nil];omega,aL6 _,by simp⟩ ?_ ?_
 ·exact(cC.wk (Ea<|Ea<|Ea<|Eb<|Eb<|trivial) (Hc (bV _ _)<|Hb<|trivial) ⟨rfl,trivial⟩)
 rintro l' A ⟨hl',hA,hR⟩;have hnx:=sZ l' (by omega);have hxl:=fun s q=>hU (l:=l') (s:=s) (q:=q);have hmore:=fun h=>R5 gJ (k:=A.length) rfl h hR;rw [xI] at hnx;obtain ⟨X,hX⟩:∃ X,X=gJ l':=⟨_,rfl⟩;rw [← hX] at hnx hxl hmore;clear hX;refine Sr<|Dd dI<|Zz<|Sq ?_;refine Cn ?_ ?_<;>intro hc1
 ·have hlt:A.length < n.toNat:=by have:=aLL hc1;omega
  have hm:=hmore hlt;clear hmore;refine aE<|Sq<|aF ?_;rcases X with _|⟨s,q⟩
  ·have hm:zW gJ n.toNat q0=none:=hm;rw [hm];have hnx:xS 51 [IP] [] l' none:=hnx;refine eL ?_;refine fD rfl rfl rfl (by exact eM rfl rfl) ?_;refine fD rfl rfl rfl (by exact eM rfl rfl) ?_;exact mB rfl rfl (AQ rfl rfl jJ rfl (hnx.no rfl (eA _))) (fun ch H' h=>by obtain ⟨rfl,q,rfl⟩:=h;exact zE (H':=jH q) (Fin.wk (by simp) (Hb<|trivial) ⟨rfl,trivial⟩) ⟨rfl,rfl,q,rfl⟩)
  have hm:zW gJ n.toNat q0=(zW gJ (n.toNat - (A.length+1)) q).map fun p=>((A++[s])++p.1,p.2):=hm;have hnx:xS 51 [IP] [] l' (some (sv s,q)):=hnx;have hxl:=hxl s q rfl;have hnl:(A++[s]).length=A.length+1:=by rw [aLQ];rfl
  refine Rg<|Dd aI<|Dd aI<|Dd (by exact xP.opr (AQ rfl rfl jJ rfl (dW.of (hnx.yes rfl (eA _)))))<|Dd (by exact aS [[.str s]] rfl cO rfl rfl rfl rfl rfl (by intro r hr;rw [aLS] at hr;subst hr;rfl))<|Dd (by exact eK (ps:=[[.str s]]) rfl cO TN rfl rfl rfl rfl rfl (iR _) rfl (by intro r hr;rw [aLS] at hr;subst hr;rfl) (m:=1) rfl (by omega) rfl (kC A s))<|Dd aP<|Zz<|Rg<|Dd (by exact cA rfl rfl rfl (show IntKind.i64.wrap ((A.length:Int)+1)=((A.length+1:Nat):Int)by rw [pO (by omega) (by omega)];omega))<|Dd aI<|Zz ?_;refine⟨q,A++[s],⟨by rw [hnl];omega,by rw [hnl];omega,by rw [hnl];exact hm⟩,by omega,?_⟩;dsimp only;rw [hnl];exact(cC.wk (Ea<|Ea<|Ea<|Eb<|Eb<|trivial) (Hc (bV _ _)<|Hb<|trivial) ⟨rfl,trivial⟩)
 have hge:n.toNat=A.length:=by have:=aLM hc1;omega
 have hR2:zW gJ n.toNat q0=some (A,l'):=by rw [hR,hge,Nat.sub_self,zW];simp
 rw [hR2];refine bG<|Sr<|Dd aI<|Dd aP<|Zz<|aC ?_;refine FF ?_;refine dF (H':=(jH l')) (.inr rfl) rfl (aT rfl) (Fin.fz (id:=905) (ob:=⟨A.length,1,9,dO A⟩) (r':=.pv (aU A)) (A.map encStr) rfl (fU _) (.osl (qT encStr _)) rfl ⟨⟨_,rfl,rfl⟩,(by(simp;done)),trivial⟩ ⟨rfl,trivial⟩) ?_;exact⟨_,rfl,rfl,rfl⟩
theorem PF {α:Type} (f:List UInt8→Option (α×List UInt8)) (P:α→Prop) (b:Nat) (hf:∀ l x q,l.length≤b→f l=some (x,q)→q.length < l.length∧P x):∀ (n:Nat) (l:List UInt8) (xs:List α) (q:List UInt8),l.length≤b→zW f n l=some (xs,q)→q.length+xs.length≤l.length∧∀ x∈xs,P x
 | 0,l,xs,q,_,h=>by rw [zW] at h;cases h;simp
 | n+1,l,xs,q,hb,h=>by
  rw [zW] at h;cases hf':f l with
  | none=>rw [hf'] at h;cases h
  | some p =>
   obtain ⟨x,r⟩:=p;obtain ⟨h1,h2⟩:=hf l x r hb hf';rw [hf'] at h;simp only at h;cases hr:zW f n r with
   | none=>rw [hr] at h;cases h
   | some p2 =>
    obtain ⟨ys,q2⟩:=p2;rw [hr] at h;cases h;obtain ⟨k1,k2⟩:=PF f P b hf n r ys _ (by omega) hr;refine⟨by rw [aLR];omega,fun y hy=>?_⟩;rcases aL1.1 hy with rfl|hy
    ·exact h2
    exact k2 y hy
theorem sO {l q:List UInt8} {xs:List ByteArray} (h:sC gJ l=some (xs,q)):q.length+xs.length < l.length∧∀ x∈xs,x.size≤l.length:=by
 rw [sC] at h;cases hn:lR l with
 | none=>rw [hn] at h;cases h
 | some p =>
  obtain ⟨n,r⟩:=p;rw [hn] at h;have h1:=(gB hn).1;obtain ⟨k1,k2⟩:=PF gJ (fun x=>x.size≤r.length) r.length (fun l x q hb hx=>by have:=hU hx;exact⟨by omega,by omega⟩) n.toNat r xs q (aLV _) h;exact⟨by omega,fun x hx=>Nat.le_trans (k2 x hx) (by omega)⟩
theorem XM {l q:List UInt8} {p:Int×Int} (h:EA l=some (p,q)):q.length < l.length∧(oO p.1∧oO p.2):=by
 rw [EA] at h;cases hn:lR l with
 | none=>rw [hn] at h;cases h
 | some z =>
  obtain ⟨x,r⟩:=z;rw [hn] at h;simp only at h;cases hm:lR r with
  | none=>rw [hm] at h;cases h
  | some z2 =>
   obtain ⟨y,r2⟩:=z2;rw [hm] at h;cases h;have h1:=gB hn;have h2:=gB hm;exact⟨by omega,h1.2,h2.2⟩
theorem XV {l q:List UInt8} {xs:List (Int×Int)} (h:sC EA l=some (xs,q)):q.length+xs.length < l.length∧∀ x∈xs,oO x.1∧oO x.2:=by
 rw [sC] at h;cases hn:lR l with
 | none=>rw [hn] at h;cases h
 | some p =>
  obtain ⟨n,r⟩:=p;rw [hn] at h;have h1:=(gB hn).1;obtain ⟨k1,k2⟩:=PF EA (fun x=>oO x.1∧oO x.2) r.length (fun l x q hb hx=>XM hx) n.toNat r xs q (aLV _) h;exact⟨by omega,k2⟩
def slA (l:List UInt8):Option (AV×List UInt8):=(OM l).map fun p=>(av (fA p.1),p.2)
theorem XG (l:List UInt8) (hl:l.length < 1000000000):xS 55 [IP] [] l (slA l):=by
 refine xS.of (vN l) rfl (by simp;rfl) ?_;have hnu:=kD l hl;have hli:=fun q (hq:q.length < 1000000000)=>PH q hq;have hs:slA l=(match lR l with
  | none=>none
  | some (i,r)=>match sC gJ r with
   | none=>none
   | some (a,q)=>match sC gJ q with
    | none=>none
    | some (b,p)=>some (.agg [iv i,.pv (aU a),.pv (aU b)],p)):=by
  rw [slA,OM];cases lR l with
  | none=>rfl
  | some p =>
   obtain ⟨i,r⟩:=p;simp only;cases sC gJ r with
   | none=>rfl
   | some p =>
    obtain ⟨a,q⟩:=p;simp only;cases sC gJ q with
    | none=>rfl
    | some p=>rfl
 rw [hs];rw [tW] at hnu;have hlen:=fun n q=>gB (l:=l) (x:=n) (q:=q);obtain ⟨O,hO⟩:∃ O,O=lR l:=⟨_,rfl⟩;rw [← hO] at hnu hlen ⊢;clear hO hs;refine dW.body func55 rfl ntmps55 (aL2 rfl) ?_;refine Sr<|Dd (by exact bE (id:=2) rfl YS rfl rfl)<|Zz<|Sq ?_;rcases O with _|⟨i,q1⟩
 ·have hn:xS 52 [IP] [] l none:=hnu;refine eL ?_;refine fD rfl rfl rfl (by exact eM rfl rfl) ?_;exact mB rfl rfl (cW rfl rfl fS rfl (hn.no rfl (eA _))) (fun ch H' h=>by obtain ⟨rfl,q,rfl⟩:=h;exact zE (H':=jH q) (Fin.wk (by simp) (Hb<|trivial) ⟨rfl,trivial⟩) ⟨rfl,rfl,q,rfl⟩)
 have hn:xS 52 [IP] [] l (some (iv i,q1)):=hnu;have h1:=(hlen i q1 rfl).1;have hl1:=hli q1 (by omega);rw [VE] at hl1;have hlen2:=fun xs q=>sO (l:=q1) (xs:=xs) (q:=q);simp only;obtain ⟨O,hO⟩:∃ O,O=sC gJ q1:=⟨_,rfl⟩;rw [← hO] at hl1 hlen2 ⊢;clear hO;rcases O with _|⟨a,q2⟩
 ·have hl1:xS 53 [IP,nxB] [] q1 none:=hl1;refine eL ?_;refine fD rfl rfl rfl (by exact eM rfl rfl) ?_;refine fD rfl rfl rfl (by exact aB rfl rfl fS rfl (hn.yes rfl (eA _))) ?_;refine fD rfl rfl rfl (by exact eM rfl rfl) ?_;refine fD rfl rfl rfl (by exact eM rfl rfl) ?_;refine fD rfl rfl rfl (by exact lC rfl rfl) ?_;exact mB rfl rfl (cW rfl rfl xO rfl (hl1.no rfl (eA _))) (fun ch H' h=>by obtain ⟨rfl,q,rfl⟩:=h;exact zE (H':=jH q) (Fin.wk (by simp) (Hb<|trivial) ⟨rfl,trivial⟩) ⟨rfl,rfl,q,rfl⟩)
 have hl1:xS 53 [IP,nxB] [] q1 (some (.pv (aU a),q2)):=hl1;have h2:=(hlen2 a q2 rfl).1;have hl2:=hli q2 (by omega);rw [VE] at hl2;have hlen3:=fun xs q=>sO (l:=q2) (xs:=xs) (q:=q);simp only;obtain ⟨O,hO⟩:∃ O,O=sC gJ q2:=⟨_,rfl⟩;rw [← hO] at hl2 hlen3 ⊢;clear hO;rcases O with _|⟨b,q3⟩
 ·have hl2:xS 53 [IP,nxB] [] q2 none:=hl2;refine eL ?_;refine fD rfl rfl rfl (by exact eM rfl rfl) ?_;refine fD rfl rfl rfl (by exact aB rfl rfl fS rfl (hn.yes rfl (eA _))) ?_;refine fD rfl rfl rfl (by exact eM rfl rfl) ?_;refine fD rfl rfl rfl (by exact eM rfl rfl) ?_;refine fD rfl rfl rfl (by exact lC rfl rfl) ?_;refine fD rfl rfl rfl (by exact aB rfl rfl xO rfl (hl1.yes rfl (eA _))) ?_;refine fD rfl rfl rfl (by exact eM rfl rfl) ?_;refine fD rfl rfl rfl (by exact eM rfl rfl) ?_;refine fD rfl rfl rfl (by exact lC rfl rfl) ?_;exact mB rfl rfl (cW rfl rfl xO rfl (hl2.no rfl (eA _))) (fun ch H' h=>by obtain ⟨rfl,q,rfl⟩:=h;exact zE (H':=jH q) (Fin.wk (by simp) (Hb<|trivial) ⟨rfl,trivial⟩) ⟨rfl,rfl,q,rfl⟩)
 have hl2:xS 53 [IP,nxB] [] q2 (some (.pv (aU b),q3)):=hl2;refine Rg<|Dd aI<|Dd (by exact aB rfl rfl fS rfl (hn.yes rfl (eA _)))<|Dd aI<|Dd aI<|Dd (by exact lC rfl rfl)<|Dd (by exact aB rfl rfl xO rfl (hl1.yes rfl (eA _)))<|Dd aI<|Dd aI<|Dd (by exact lC rfl rfl)<|Dd (by exact aB rfl rfl xO rfl (hl2.yes rfl (eA _)))<|Dd (uS aFc)<|Uu (jK sizeOf25)<|Zz<|aC ?_;refine FF ?_;refine dF (H':=(jH q3)) (.inr rfl) rfl (eU rfl dX sizeOf25 rfl rfl rfl (by simp only [Zl,encStr];rfl) rfl) (Fin.wk (by simp [KH]) (Hb<|trivial) ⟨rfl,trivial⟩) ?_;exact⟨_,rfl,rfl,rfl⟩
abbrev inO:Ob:=bx 1 85 [IP]
abbrev inH:aA:=[(4,inO)]
theorem X4 {H:aA} (h:(H.get 980).isSome=true):∀ r∈inO.rows,∀ a∈r,Clo H a:=by intro r hr a ha;simp only [inO,bx,aLS] at hr;subst hr;rw [aLS] at ha;subst ha;rw [oU];exact h
theorem JO (l:List UInt8):cY (jH l++inH):=cY.ofL ⟨OV l _,X4 rfl,trivial⟩
def ptA (l:List UInt8):Option (AV×List UInt8):=(EA l).map fun p=>(av (fM p.1),p.2)
theorem aBg (l:List UInt8) (hl:l.length < 1000000000):xS 57 [.ref 4 0 0 0] inH l (ptA l):=by
 refine xS.of (JO l) rfl (by simp;rfl) ?_;have hnu:=kD l hl;have hnu2:=fun q (hq:q.length < 1000000000)=>kD q hq;have hlen:=fun n q=>gB (l:=l) (x:=n) (q:=q);have hs:ptA l=(match lR l with
  | none=>none
  | some (x,r)=>match lR r with
   | none=>none
   | some (y,q)=>some (.agg [iv x,iv y],q)):=by
  rw [ptA,EA];cases lR l with
  | none=>rfl
  | some p =>
   obtain ⟨i,r⟩:=p;simp only;cases lR r with
   | none=>rfl
   | some p=>rfl
 obtain ⟨x,q1,hx⟩:∃ x q1,(lR l).getD (0,l)=(x,q1):=⟨_,_,rfl⟩;obtain ⟨y,q2,hy⟩:∃ y q2,(lR q1).getD (0,q1)=(y,q2):=⟨_,_,rfl⟩;have hq1:q1.length≤l.length:=by
  cases e:lR l with
  | none=>rw [e] at hx;cases hx;exact aLV _
  | some p=>rw [e] at hx;cases hx;exact Nat.le_of_lt (hlen _ _ e).1
 have hx2:(tW l).getD (iv 0,l)=(iv x,q1):=by
  rw [tW];cases e:lR l with
  | none=>rw [e] at hx;cases hx;rfl
  | some p=>rw [e] at hx;cases hx;rfl
 have hy2:(tW q1).getD (iv 0,q1)=(iv y,q2):=by
  rw [tW];cases e:lR q1 with
  | none=>rw [e] at hy;cases hy;rfl
  | some p=>rw [e] at hy;cases hy;rfl
 have hA1:tW l=none→ptA l=none:=fun e=>by
  rw [tW,Option.map_eq_none_iff] at e;rw [hs,e]
 have hA2:(tW l).isSome=true→tW q1=none→ptA l=none:=fun e e2=>by
  rw [tW,Option.map_eq_none_iff] at e2;cases e3:lR l with
  | none=>rw [tW,e3] at e;cases e
  | some p =>
   rw [e3] at hx;cases hx;rw [hs,e3];simp only;rw [e2]
 have hA3:(tW l).isSome=true→(tW q1).isSome=true→ptA l=some (.agg [iv x,iv y],q2):=fun e e2=>by
  cases e3:lR l with
  | none=>rw [tW,e3] at e;cases e
  | some p =>
   rw [e3] at hx;cases hx;rw [hs,e3];simp only;cases e4:lR q1 with
   | none=>rw [tW,e4] at e2;cases e2
   | some p=>rw [e4] at hy;cases hy;rfl
 have hA4:tW q1=none→ptA l=none:=fun e=>by
  cases h:tW l with
  | none=>exact hA1 h
  | some p=>exact hA2 (by rw [h];rfl) e
 clear hs hA2;refine dW.body func57 rfl ntmps57 (aL2 rfl) ?_;refine Sr<|Dd (by exact bE (id:=1) rfl aIG rfl rfl)<|Zz<|Sq ?_;refine rS (fun ch H1 H2=>ptA l=none∧ch=BC∧∃ q,H2=jH q++H1) [] [] [4] rfl follows (fun ch E1 H1 H2 hts hsh hks ⟨e,e2,q,e3⟩=>by subst e3;have h4:aA.get (jH q++H1) 4=some inO:=(hks 4 (aLS.2 rfl)).trans rfl;exact zE (H':=jH q++inH) (Fin.wk (by simp) ⟨⟨_,rfl,rfl⟩,OV _ _,⟨_,h4,rfl⟩,X4 rfl,trivial⟩ ⟨rfl,h4.symm,trivial⟩) ⟨e,e2,q,rfl⟩) ?_;refine bU (r:=⟨_,some [4],[]⟩) (DStep.plain rfl (fun H1 hH=>by exact(by exact aK rfl cS rfl ((hH _ rfl).trans rfl) rfl rfl rfl))) rfl ?_;refine pJ (r:=⟨_,some [980],jH q1⟩) (.pan rfl (fun H1 hH=>by exact cW rfl rfl fS rfl ((hnu.tot hx2 ((hH 980 rfl).trans rfl) (eA _)).mono (fun _ _ h=>h) (fun ch H' ⟨e,e2,e3⟩=>⟨hA1 e,e2,e3⟩)))) rfl ?_;refine bU (r:=⟨_,some [4],[]⟩) (DStep.plain rfl (fun H1 hH=>by exact(by exact aK rfl cS rfl ((hH _ rfl).trans rfl) rfl rfl rfl))) rfl ?_;refine pJ (r:=⟨_,some [980],jH q2⟩) (.pan rfl (fun H1 hH=>by exact cW rfl rfl fS rfl (((hnu2 q1 (by omega)).tot hy2 ((hH 980 rfl).trans rfl) (eA _)).mono (fun _ _ h=>h) (fun ch H' ⟨e,e2,e3⟩=>⟨hA4 e,e2,e3⟩)))) rfl ?_;refine bU (r:=⟨_,some [],[]⟩) (DStep.plain rfl (fun H1 hH=>by exact GO rfl aCy rfl rfl)) rfl ?_;refine bU (r:=⟨_,some [1],[_]⟩) (DStep.plain rfl (fun H1 hH=>by exact(by exact bQ rfl sizeOf73 rfl rfl rfl rfl ((hH _ rfl).trans rfl) rfl rfl rfl))) rfl ?_;refine DE ⟨⟨by kernel_rfl,by kernel_rfl,by kernel_rfl⟩,fun hF=>?_⟩;simp only [QM,true_and,and_true] at hF;refine aC ?_;refine FF ?_;refine dF (H':=(jH q2++inH)) (.inr rfl) rfl (eU rfl dQ sizeOf73 rfl rfl rfl (by simp only [Zl,encStr];rfl) rfl) (Fin.wk (by simp [KH]) (Hb<|Ha<|trivial) ⟨rfl,rfl,trivial⟩) ?_;exact⟨_,hA3 hF.1 hF.2,rfl,rfl⟩
abbrev ptB:AV:=.clo 57 [.ref 4 0 0 0]
def vQ (A:List (Int×Int)):List (List AV):=(A.map fM).map (·.map AV.pv)
theorem UP (A:List (Int×Int)):(vQ A).length=A.length:=by simp [vQ]
theorem UQ (A:List (Int×Int)) (p:Int×Int):vQ A++[(fM p).map AV.pv]=vQ (A++[p]):=by rw [vQ,vQ,List.map_append,List.map_append];rfl
theorem IR (A:List (Int×Int)) (H:aA):∀ r∈vQ A,∀ a∈r,Clo H a:=aF3 _ _ _
def PJ (l:List UInt8):Option (AV×List UInt8):=(sC EA l).map fun p=>(.pv (oZ p.1),p.2)
theorem Z7 {l:List UInt8} (h:lR l=none):PJ l=none:=by rw [PJ,sC,h];rfl
theorem Z6 {l q:List UInt8} {n:Int} (h:lR l=some (n,q)):PJ l=(zW EA n.toNat q).map fun p=>(.pv (oZ p.1),p.2):=by rw [PJ,sC,h]
theorem aEv (l:List UInt8) (hl:l.length < 1000000000):xS 56 [IP,ptB] inH l (PJ l):=by
 refine xS.of (JO l) rfl (by simp;exact⟨rfl,rfl⟩) ?_;have hnu:=kD l hl;have hnone:=Z7 (l:=l);have hsome:=fun n q=>Z6 (l:=l) (n:=n) (q:=q);have hlen:=fun n q=>gB (l:=l) (x:=n) (q:=q);rw [tW] at hnu;obtain ⟨O,hO⟩:∃ O,O=lR l:=⟨_,rfl⟩;rw [← hO] at hnu hnone hsome hlen;clear hO;refine dW.body func56 rfl ntmps56 (aL2 rfl) ?_;refine Sr<|Dd aP<|Zz<|Sq ?_;rcases O with _|⟨n,q0⟩
 ·rw [hnone rfl];have hn:xS 52 [IP] [] l none:=hnu;refine eL ?_;refine fD rfl rfl rfl (by exact eM rfl rfl) ?_;exact mB rfl rfl (cW rfl rfl fS rfl (hn.no rfl (eA _))) (fun ch H' h=>by obtain ⟨rfl,q,rfl⟩:=h;exact zE (H':=jH q++inH) (Fin.wk (by simp) (Hb<|Ha<|trivial) ⟨rfl,rfl,trivial⟩) ⟨rfl,rfl,q,rfl⟩)
 have hn:xS 52 [IP] [] l (some (iv n,q0)):=hnu;obtain ⟨hq0,hn0,hn1⟩:=hlen n q0 rfl;rw [hsome n q0 rfl];refine Rg<|Dd aI<|Dd (by exact aB rfl rfl fS rfl (hn.yes rfl (eA _)))<|Dd aP<|Zz<|Sr<|Dd (by exact nH (id:=905) (sz:=2) (ty:=73) rfl rfl rfl)<|Zz<|Sq<|Sr<|Dd aI<|Dd aI<|Zz<|aF ?_;refine jB (fun(l':List UInt8) (A:List (Int×Int))=>([(0,IP),(1,ptB),(6,.osl 905 A.length 0 A.length),(9,iv n),(10,iv (A.length:Int))],(905,⟨A.length,2,73,vQ A⟩)::(jH l'++inH))) (fun l' A=>l'.length+A.length < l.length∧A.length≤n.toNat∧zW EA n.toNat q0=(zW EA (n.toNat - A.length) l').map fun p=>(A++p.1,p.2)) (fun l' A=>l'.length) q0 [] ⟨by rw [List.length_nil];omega,aL6 _,by simp⟩ ?_ ?_
 ·exact(cC.wk (Ea<|Ea<|Ea<|Eb<|Eb<|trivial) (Hc (IR _ _)<|Hb<|Ha<|trivial) ⟨rfl,rfl,trivial⟩)
 rintro l' A ⟨hl',hA,hR⟩;have hnx:=aBg l' (by omega);have hxl:=fun s q=>XM (l:=l') (p:=s) (q:=q);have hmore:=fun h=>R5 EA (k:=A.length) rfl h hR;rw [ptA] at hnx;obtain ⟨X,hX⟩:∃ X,X=EA l':=⟨_,rfl⟩;rw [← hX] at hnx hxl hmore;clear hX;refine Sr<|Dd dI<|Zz<|Sq ?_;refine Cn ?_ ?_<;>intro hc1
 ·have hlt:A.length < n.toNat:=by have:=aLL hc1;omega
  have hm:=hmore hlt;clear hmore;refine aE<|Sq<|aF ?_;rcases X with _|⟨s,q⟩
  ·have hm:zW EA n.toNat q0=none:=hm;rw [hm];have hnx:xS 57 [.ref 4 0 0 0] inH l' none:=hnx;refine eL ?_;refine fD rfl rfl rfl (by exact eM rfl rfl) ?_;refine fD rfl rfl rfl (by exact eM rfl rfl) ?_;exact mB rfl rfl (AP rfl rfl call57 rfl (hnx.no rfl (KQ.sub ⟨rfl,trivial⟩))) (fun ch H' h=>by obtain ⟨rfl,q,rfl⟩:=h;exact zE (H':=jH q++inH) (Fin.wk (by simp) (Hb<|Ha<|trivial) ⟨rfl,rfl,trivial⟩) ⟨rfl,rfl,q,rfl⟩)
  have hm:zW EA n.toNat q0=(zW EA (n.toNat - (A.length+1)) q).map fun p=>((A++[s])++p.1,p.2):=hm;have hnx:xS 57 [.ref 4 0 0 0] inH l' (some (av (fM s),q)):=hnx;have hxl:=hxl s q rfl;have hnl:(A++[s]).length=A.length+1:=by rw [aLQ];rfl
  refine Rg<|Dd aI<|Dd aI<|Dd (by exact xP.opr (AP rfl rfl call57 rfl (dW.of (hnx.yes rfl (KQ.sub ⟨rfl,trivial⟩)))))<|Dd (by exact aS [fM s] rfl Q7 rfl rfl rfl rfl rfl (by intro r hr;rw [aLS] at hr;subst hr;rfl))<|Dd (by exact eK (ps:=[fM s]) rfl Q7 aK8 rfl rfl rfl rfl rfl (UP _) rfl (by intro r hr;rw [aLS] at hr;subst hr;rfl) (m:=1) rfl (by omega) rfl (UQ A s))<|Dd aP<|Zz<|Rg<|Dd (by exact cA rfl rfl rfl (show IntKind.i64.wrap ((A.length:Int)+1)=((A.length+1:Nat):Int)by rw [pO (by omega) (by omega)];omega))<|Dd aI<|Zz ?_;refine⟨q,A++[s],⟨by rw [hnl];omega,by rw [hnl];omega,by rw [hnl];exact hm⟩,by omega,?_⟩;dsimp only;rw [hnl];exact(cC.wk (Ea<|Ea<|Ea<|Eb<|Eb<|trivial) (Hc (IR _ _)<|Hb<|Ha<|trivial) ⟨rfl,rfl,trivial⟩)
 have hge:n.toNat=A.length:=by have:=aLM hc1;omega
 have hR2:zW EA n.toNat q0=some (A,l'):=by rw [hR,hge,Nat.sub_self,zW];simp
 rw [hR2];refine bG<|Sr<|Dd aI<|Dd aP<|Zz<|aC ?_;refine FF ?_;refine dF (H':=(jH l'++inH)) (.inr rfl) rfl (aT rfl) (Fin.fz (id:=905) (ob:=⟨A.length,2,73,vQ A⟩) (r':=.pv (oZ A)) (A.map fM) rfl rfl (.osl (qT fM _)) rfl ⟨⟨_,rfl,rfl⟩,(by(simp;done)),⟨_,rfl,rfl⟩,(by(simp;rfl)),trivial⟩ ⟨rfl,rfl,trivial⟩) ?_;exact⟨_,rfl,rfl,rfl⟩
def CC (h i:Int):Bool:=((decide (h < 0)||decide (8 < h))||decide (i < 0))||decide (((2 ^ h.toNat:Nat):Int)≤i)
def zS:GSeal:=⟨0,[],[]⟩
def uY (s:ByteArray) (h i:Int) (m:ByteArray):GSeal×Int:=if CC h i=true then(zS,1)else(⟨i,CB s i.toNat m,lA h.toNat (kM s h.toNat) i.toNat⟩,0)
theorem ZA (s m:ByteArray) (h i:Int) (H:aA) (hb:CC h i=true):aG Tryz.prog 36 [sv s,iv h,iv i,sv m] H (fun r H'=>r=.tup [av (fA zS),iv 1]∧H'=H):=by
 refine Pu ?_;have hsh:decide (h < 0)=false→decide (8 < h)=false→IntKind.i64.wrap (1*2 ^ h.toNat)=((2 ^ h.toNat:Nat):Int):=fun h1 h2=>by
  have h1:=aLM h1;have h2:=aLM h2;obtain ⟨n,rfl⟩:∃ n:Nat,h=(n:Int):=⟨h.toNat,by omega⟩;rw [aL0];have:=aEF (h:=n) (by omega)
  rwa [aL0] at this
 have hbe:CC h i=(((decide (h < 0)||decide (8 < h))||decide (i < 0))||decide (((2 ^ h.toNat:Nat):Int)≤i)):=rfl;refine Bd func36 rfl ntmps36<|Sr<|Dd (by exact bZ (id:=4) rfl rfl rfl rfl rfl)<|Dd (by exact bZ (id:=6) rfl rfl rfl rfl rfl)<|Dd (by exact bE (id:=8) rfl YS rfl rfl)<|Dd aP<|Zz<|Sq<|Sq ?_;refine oK (t:=30) (n:=16) (X:=CC h i) ?_ ?_
 ·cases hg17:(decide (h < 0):Bool)
  ·cases hg21:(decide (8 < h):Bool)
   ·cases hg25:(decide (i < 0):Bool)
    ·refine aQ follows<|Cq aI<|Cq dI<|Cq aI<|Nf aI<|Nf mU<|Cq wU<|Cq aI<|Nf (bL isAgg3)<|Nf dI<|Cq wU<|Cq aI<|Nf (bL isAgg3)<|Nf aI<|Nf (by exact CM rfl rfl rfl (by have:=aLM hg17;omega) (by have:=aLM hg21;simp [IntKind.bits];omega) (hsh hg17 hg21))<|Nf JS<|Cq wU<|bJ<|Kr ?_;exact⟨rfl,⟨_,rfl,by(rw [hbe,hg17,hg21,hg25];rfl)⟩,rfl,rfl,rfl⟩
    refine aQ follows<|Cq aI<|Cq dI<|Cq aI<|Nf aI<|Nf mU<|Cq wU<|Cq aI<|Nf (bL isAgg3)<|Nf dI<|Cq wU<|Cq aI<|Of<|Of<|Of<|Of<|Cq KU<|bJ<|Kr ?_;exact⟨rfl,⟨_,rfl,by(rw [hbe,hg17,hg21,hg25];rfl)⟩,rfl,rfl,rfl⟩
   refine aQ follows<|Cq aI<|Cq dI<|Cq aI<|Nf aI<|Nf mU<|Cq wU<|Cq aI<|Of<|Of<|Cq KU<|Cq aI<|Of<|Of<|Of<|Of<|Cq cL<|bJ<|Kr ?_;exact⟨rfl,⟨_,rfl,by(rw [hbe,hg17,hg21];rfl)⟩,rfl,rfl,rfl⟩
  refine aQ follows<|Cq aI<|Cq dI<|Cq aI<|Of<|Of<|Cq KU<|Cq aI<|Of<|Of<|Cq cL<|Cq aI<|Of<|Of<|Of<|Of<|Cq cL<|bJ<|Kr ?_;exact⟨rfl,⟨_,rfl,by(rw [hbe,hg17];rfl)⟩,rfl,rfl,rfl⟩
 refine Cn ?_ ?_<;>intro hc1
 ·refine Sr<|Dd (uS aFc)<|Uu (jK sizeOf25)<|Dd aP<|Zz<|aC ?_;refine rT (H':=[]) (.inr rfl) rfl (eU rfl dX sizeOf25 rfl rfl rfl (by simp only [Zl,encStr];rfl) rfl) (aT rfl) (Fin.wk (by simp [fA]) trivial trivial) ?_;exact Qq
 rw [hb] at hc1;cases hc1
theorem ML (s m:ByteArray) (h i:Int) (H:aA) (hs:s.size < 1099511627776) (hm:m.size < 1099511627776):aG Tryz.prog 36 [sv s,iv h,iv i,sv m] H (fun r H'=>r=.tup [av (fA (uY s h i m).1),iv (uY s h i m).2]∧H'=H):=by
 rw [uY];by_cases hb:CC h i=true
 ·rw [aLO hb];exact ZA s m h i H hb
 rw [aLN hb];have hb:CC h i=false:=by simpa using hb
 simp only [CC,aLb,aLX] at hb;obtain ⟨⟨⟨h1,h2⟩,h3⟩,h4⟩:=hb;obtain ⟨n,rfl⟩:∃ n:Nat,h=(n:Int):=⟨h.toNat,by omega⟩;obtain ⟨k,rfl⟩:∃ k:Nat,i=(k:Int):=⟨i.toNat,by omega⟩;rw [aL0] at h4 ⊢;rw [aL0];exact aED s m n k H hs hm (by omega) (by omega)
theorem qX {s m:ByteArray} {h i:Int} (h1:(uY s h i m).2=0):FSeal (uY s h i m).1∧(uY s h i m).1=⟨i,CB s i.toNat m,lA h.toNat (kM s h.toNat) i.toNat⟩∧(0≤h∧h≤8)∧0≤i∧i < 2 ^ h.toNat:=by
 rw [uY] at h1 ⊢
 split at h1
 ·cases h1
 next hb =>
 rw [aLN hb];have hb:CC h i=false:=by simpa using hb
 simp only [CC,aLb,aLX] at hb;obtain ⟨⟨⟨h1,h2⟩,h3⟩,h4⟩:=hb;have h5:i < 2 ^ h.toNat:=by
  have:(((2 ^ h.toNat:Nat):Int))=2 ^ h.toNat:=by push_cast;rfl
  omega
 have hlt:i.toNat < 2 ^ h.toNat:=by omega
 have h8:2 ^ h.toNat≤256:=qA (by omega);exact⟨⟨by show 0≤i;omega,by show i < 256;omega,by rw [IH];exact aLV _,by rw [EB];omega,RA _ _ _,EC _ _ _ (uM _ _) hlt (zX _ _)⟩,rfl,⟨by omega,by omega⟩,by omega,h5⟩
def zR:GRec:=⟨0,0,0,0,sNil,[],[],sNil,false,0,sNil,zS,⟨sNil,sNil,[],[],zS⟩⟩
def xQ (r:GRec):GRec:={r with sl:=zS,priv:={r.priv with sl:=zS}}
def wV (r:GRec):GRec×Int:=if(nA r).2≠0 then(zR,(nA r).2)else(r,0)
def mk1 (r:GRec) (a:GSeal):GRec:={r with sl:=a,priv:={r.priv with sl:=zS}}
def R4 (r:GRec) (a b:GSeal):GRec:={r with sl:=a,priv:={r.priv with sl:=b}}
def C1 (r:GRec) (s:ByteArray) (h:Int):GRec×Int :=if cU (xQ r)=false then(zR,1)
 else if(uY s h (2*r.number - 2) (oE (xQ r))).2≠0 then(zR,(uY s h (2*r.number - 2) (oE (xQ r))).2)
 else if fO r.priv=true then wV (mk1 r (uY s h (2*r.number - 2) (oE (xQ r))).1)
 else if(uY s h (2*r.number - 1) (pS (xQ r))).2≠0 then(zR,(uY s h (2*r.number - 1) (pS (xQ r))).2)
 else wV (R4 r (uY s h (2*r.number - 2) (oE (xQ r))).1 (uY s h (2*r.number - 1) (pS (xQ r))).1)
theorem kK {s:GSeal} (h:FSeal s):pQ s:=by have i0:=h.i0;have i1:=h.i1;have l1:=h.sl;have l2:=h.pl;exact⟨⟨by omega,by omega⟩,⟨by omega,fun t ht=>by have:=qH (h.sa t ht);omega⟩,⟨by omega,fun t ht=>by have:=qH (h.pa t ht);omega⟩⟩
theorem okZ:pQ zS:=kK (jT (by decide))
theorem U8 {r:GRec} {a b:GSeal} (h:gQ r) (ha:pQ a) (hb:pQ b):gQ (R4 r a b):=by obtain ⟨h1,h2,h3,h4,_,p1,p2,p3,p4,_⟩:=h;exact⟨h1,h2,h3,h4,ha,p1,p2,p3,p4,hb⟩
theorem aCG (r:GRec) (s:ByteArray) (h:Int) (hr:gQ r) (hp:r.parents.length < 549755813888) (hs:s.size < 1099511627776) (H:aA):aG Tryz.prog 26 [av (bP r),sv s,iv h] H (fun x H'=>x=.tup [av (bP (C1 r s h).1),iv (C1 r s h).2]∧H'=H):=by
 refine aG.pure ?_ (by simp [bP]) H;have hr0:gQ (xQ r):=U8 hr okZ okZ;have hv:=fun H=>zL (xQ r) hr0 hp H;have hid:=fun H=>F4 (xQ r) hr0 hp H;have hem:=fun H=>YA (mk1 r zS).priv hr0.2.2.2.2.2 H;rw [C1];refine Bd func26 rfl ntmps26<|Sr<|Dd (by exact bZ (id:=3) rfl rfl rfl rfl rfl)<|Dd (by exact bE (id:=6) rfl B5 rfl rfl)<|Dd aP<|Zz<|Sr<|Dd (uS aFc)<|Dd (uS aFc)<|Dd (bB iP)<|Uu (by exact iC rfl sizeOf25 rfl rfl rfl rfl rfl rfl rfl (aL2 rfl) rfl rfl)<|Dd (bB eJ)<|Dd (bB nN)<|Uu (by exact iC rfl sizeOf25 rfl rfl rfl rfl rfl rfl rfl (aL2 rfl) rfl rfl)<|Zz<|Sq<|Sr<|Dd (pN aR aM)<|Dd (by exact aB rfl rfl DY rfl (hv _))<|Dd lI<|Zz ?_;refine Cn ?_ ?_<;>intro hc1
 ·have hb:=not_not hc1;rw [aLO hb];refine Sr<|Dd (uS S8)<|Uu (jK aM)<|Dd aP<|Zz<|aC ?_;refine rT (H':=[]) (.inr rfl) rfl (eU rfl aR aM rfl rfl rfl (by simp only [Zl,encStr];rfl) rfl) (aT rfl) (Fin.wk (by simp [bP]) trivial trivial) ?_;exact Qq
 have hb:=zV hc1;rw [aLN (by rw [hb];decide)];have hf:=oW hb;have hnu:=hf.nu;have hnr:(xQ r).number=r.number:=rfl;rw [hnr] at hnu;have hme:=fun H=>M6 (xQ r) hr0 hp hb H;have hms:(pS (xQ r)).size=16:=iL _;have his:=HD (xQ r);obtain ⟨i0,hi0⟩:∃ i0,i0=oE (xQ r):=⟨_,rfl⟩;obtain ⟨m0,hm0⟩:∃ m0,m0=pS (xQ r):=⟨_,rfl⟩;rw [← hi0] at hid his ⊢;rw [← hm0] at hme hms ⊢;have hs1:=fun H=>ML s i0 h (2*r.number - 2) H hs (by omega);have hs2:=fun H=>ML s m0 h (2*r.number - 1) H hs (by omega);have ho1:=qX (s:=s) (m:=i0) (h:=h) (i:=2*r.number - 2);have ho2:=qX (s:=s) (m:=m0) (h:=h) (i:=2*r.number - 1);obtain ⟨A,hA⟩:∃ A,A=uY s h (2*r.number - 2) i0:=⟨_,rfl⟩;obtain ⟨B,hB⟩:∃ B,B=uY s h (2*r.number - 1) m0:=⟨_,rfl⟩;rw [← hA] at hs1 ho1 ⊢;rw [← hB] at hs2 ho2 ⊢;clear hA hB;refine aE<|Sq<|aQ follows<|Cq (pN aR aM)<|Cq (by exact aB rfl rfl mD rfl (hid _))<|Cq (pN aR aM)<|Cq (by exact aB rfl rfl call85 rfl (hme _))<|Cq aP<|Cq aP<|bJ<|Kr<|Sr<|Dd aP<|Zz<|Sq<|Sr<|Dd aI<|Dd aI<|Dd (bB pT)<|Dd (bL isAgg3)<|Dd (by exact qB rfl rfl rfl (pO (by omega) (by omega)))<|Dd (by exact eB rfl rfl rfl (pO (by omega) (by omega)))<|Dd aI<|Dd (by exact aB rfl rfl call36 rfl (hs1 _))<|Dd aI<|Dd eS<|Dd eS<|Dd (bB iP)<|Uu (by exact iC rfl sizeOf25 rfl rfl rfl rfl rfl rfl rfl (aL2 rfl) rfl rfl)<|Dd aP<|Zz<|Sr<|Dd aI<|Dd yM<|Zz ?_;refine Cn ?_ ?_<;>intro hc2
 ·have hne:A.2≠0:=by have:=hc2;intro e;rw [e] at this;exact absurd this (by decide)
  rw [aLO hne];refine Sr<|Dd (uS S8)<|Dd aI<|Uu (jK aM)<|Dd aP<|Zz<|aC ?_;refine rT (H':=[]) (.inr rfl) rfl (eU rfl aR aM rfl rfl rfl (by simp only [Zl,encStr];rfl) rfl) (aT rfl) (Fin.wk (by simp [bP]) trivial trivial) ?_;exact Qq
 have heq:A.2=0:=by have:=hc2;by_cases e:A.2=0;exact e;rw [decide_eq_false e] at this;cases this
 rw [aLN (by rw [heq];decide)];have ho1:=(ho1 heq).1;obtain ⟨X,hX⟩:∃ X,X=(if fO r.priv=true then wV (mk1 r A.1)else if B.2≠0 then(zR,B.2)else wV (R4 r A.1 B.1)):=⟨_,rfl⟩;rw [← hX];have hX1:fO r.priv=true→X=wV (R4 r A.1 zS):=fun e=>by rw [hX,aLO e];rfl
 have hX2:fO r.priv=false→B.2≠0→X=(zR,B.2):=fun e e2=>by rw [hX,aLN (by rw [e];decide),aLO e2]
 have hX3:fO r.priv=false→B.2=0→X=wV (R4 r A.1 B.1):=fun e e2=>by rw [hX,aLN (by rw [e];decide),aLN (by rw [e2];decide)]
 have hee:fO (mk1 r zS).priv=fO r.priv:=rfl;rw [hee] at hem;clear hX;obtain ⟨em,hemE⟩:∃ em,em=fO r.priv:=⟨_,rfl⟩;rw [← hemE] at hem hX1 hX2 hX3;refine aE ?_;refine BT (fun(b:GSeal)=>([(3,.ref 3 0 0 0),(6,.ref 6 0 0 0)],[(6,bx 21 30 ((bP zR).map .pv)),(3,bx 21 30 ((bP (R4 r A.1 b)).map .pv))])) (fun b=>pQ b∧X=wV (R4 r A.1 b)) ?_ ?_
 ·refine Sr<|Dd (bB eJ)<|Dd (pN iA sizeOf28)<|Dd (by exact aB rfl rfl QJ rfl (hem _))<|Dd lI<|Zz ?_;refine Cn ?_ ?_<;>intro hc3
  ·have he:=not_not hc3;refine Sr<|Dd aI<|Dd aI<|Dd (bB pT)<|Dd (bL isAgg3)<|Dd (by exact qB rfl rfl rfl (pO (by omega) (by omega)))<|Dd (by exact eB rfl rfl rfl (pO (by omega) (by omega)))<|Dd aI<|Dd (by exact aB rfl rfl call36 rfl (hs2 _))<|Dd aI<|Dd eS<|Dd eS<|Dd (bB eJ)<|Dd (bB nN)<|Uu (by exact iC rfl sizeOf25 rfl rfl rfl rfl rfl rfl rfl (aL2 rfl) rfl rfl)<|Dd aP<|Zz<|Sr<|Dd aI<|Dd yM<|Zz ?_;refine Cn ?_ ?_<;>intro hc4
   ·have hne:B.2≠0:=by have:=hc4;intro e;rw [e] at this;exact absurd this (by decide)
    rw [hX2 he hne];refine Sr<|Dd (uS S8)<|Dd aI<|Uu (jK aM)<|Dd aP<|Zz<|aC ?_;refine rT (H':=[]) (.inr rfl) rfl (eU rfl aR aM rfl rfl rfl (by simp only [Zl,encStr];rfl) rfl) (aT rfl) (Fin.wk (by simp [bP]) trivial trivial) ?_;exact Qq
   have heq:B.2=0:=by have:=hc4;by_cases e:B.2=0;exact e;rw [decide_eq_false e] at this;cases this
   refine aE ?_;exact⟨B.1,⟨kK (ho2 heq).1,hX3 he heq⟩,Wk⟩
  have he:=zV hc3;refine aE ?_;exact⟨zS,⟨okZ,hX1 he⟩,Wk⟩
 rintro b ⟨hb2,hX2⟩;rw [hX2,wV];have htx:=fun H=>OF (R4 r A.1 b) (U8 hr (kK ho1) hb2) hp H;obtain ⟨T,hT⟩:∃ T,T=nA (R4 r A.1 b):=⟨_,rfl⟩;rw [← hT] at htx ⊢;refine Sq<|Sr<|Dd (pN aR aM)<|Dd (by exact aB rfl rfl aLC rfl (htx _))<|Dd aI<|Dd eS<|Dd eS<|Dd aP<|Dd aP<|Zz<|Sr<|Dd aI<|Dd yM<|Zz ?_;refine Cn ?_ ?_<;>intro hc5
 ·have hne:T.2≠0:=by have:=hc5;intro e;rw [e] at this;exact absurd this (by decide)
  rw [aLO hne];refine Sr<|Dd (uS S8)<|Dd aI<|Uu (jK aM)<|Dd aP<|Zz<|aC ?_;refine rT (H':=[]) (.inr rfl) rfl (eU rfl aR aM rfl rfl rfl (by simp only [Zl,encStr];rfl) rfl) (aT rfl) (Fin.wk (by simp [bP]) trivial trivial) ?_;exact Qq
 have heq:T.2=0:=by have:=hc5;by_cases e:T.2=0;exact e;rw [decide_eq_false e] at this;cases this
 rw [aLN (by rw [heq];decide)];refine aE<|Sr<|Dd (pN aR aM)<|Uu (jK aM)<|Dd aP<|Zz<|aC ?_;refine rT (H':=[]) (.inr rfl) rfl (eU rfl aR aM rfl rfl rfl (by simp only [Zl,encStr];rfl) rfl) (aT rfl) (Fin.wk (by simp [bP]) trivial trivial) ?_;exact Qq
abbrev eOJ (e:Int):Ob:=bx 1 41 [iv e]
abbrev rOJ (x:GRec):Ob:=bx 21 30 ((bP x).map .pv)
abbrev UW (x:GRec) (e:Int):aA:=[(3,eOJ e),(2,rOJ x)]
abbrev eAJ:Ob:=bx 1 41 [.any]
abbrev rAJ:Ob:=bx 21 30 [.any,.any,.any,.any,.any,.any,.any,.any,.any,.any,.any,.any,.any,.any,.any,.any,.any,.any,.any,.any,.any]
abbrev pAJ:aA:=[(3,eAJ),(2,rAJ)]
abbrev dcJ:List AV:=[.ref 2 0 0 0,.ref 3 0 0 0]
theorem aGh (x:GRec) (e:Int):QN Tryz.prog 50 dcJ (UW x e) .returning (fun H2=>H2=UW x e):=by
 refine DO (x:=EL) (vx:=.nilIface) func50 rfl ntmps50 (aL2 rfl) rfl rfl rfl rfl rfl rfl (fun w I=>.sat rfl rfl) (.inl ⟨rfl,rfl⟩) ?_;refine J9 ?_;refine DI ?_;refine mX ?_;refine GE rfl rfl rfl (by exact U4 rfl DX rfl) ?_;refine AG ?_;refine FD rfl (fun hc1=>?_) (fun hc1=>?_)
 ·refine mX ?_;refine GE rfl rfl rfl (by exact rC rfl rfl) ?_;refine AG ?_;exact⟨.inl rfl,UW x e,Fin.wk (by simp) (Hb<|Hb<|trivial) ⟨rfl,rfl,trivial⟩,rfl⟩
 cases hc1
theorem aGi:QN Tryz.prog 50 dcJ pAJ (.panicking BC) (fun H2=>H2=UW zR 5):=by
 refine DO (x:=.ifa 84 []) (vx:=.iface 84 (.agg #[])) func50 rfl ntmps50 (aL2 rfl) rfl rfl rfl rfl rfl rfl (fun w I=>.ifa _ _ _ rfl (by simp)) (.inr ⟨_,rfl,rfl⟩) ?_;refine J9 ?_;refine DI ?_;refine mX ?_;refine GE rfl rfl rfl (by exact U5 rfl DX rfl) ?_;refine AG ?_;refine FD rfl (fun hc1=>?_) (fun hc1=>?_)
 ·cases hc1
 refine DI ?_;refine mX ?_;refine GE rfl rfl rfl (by exact IT rfl (cF tN rfl) rfl) ?_;refine GE rfl rfl rfl (by exact pD rfl rfl rfl) ?_;refine GE rfl rfl rfl (by exact pD rfl rfl rfl) ?_;refine AG ?_;refine FD rfl (fun hc2=>?_) (fun hc2=>?_)
 ·refine DI ?_;refine mX ?_;refine GE rfl rfl rfl (by exact U7 rfl aDP) ?_;refine aDL rfl rfl (by exact U2 rfl rfl rfl sizeOf84) ?_;refine AG ?_;refine mX ?_;refine GE rfl rfl rfl (by exact GO rfl S8 rfl rfl) ?_;refine aDL rfl rfl (by exact bQ rfl aM rfl rfl rfl rfl rfl rfl rfl rfl) ?_;refine aDL rfl rfl (by exact bQ rfl sizeOf41 rfl rfl rfl rfl rfl rfl rfl rfl) ?_;refine AG ?_;exact⟨.inl rfl,UW zR 5,Fin.wk (by simp) (Hb<|Hb<|trivial) ⟨rfl,rfl,trivial⟩,rfl⟩
 cases hc2
theorem aHR (s:ByteArray) (hs:s.size < 1099511627776) (hok:(gN s).2.1=0):aG Tryz.prog 167 [sv s] [] (fun r H'=>r=.tup [.osl 905 (gN s).1.length 0 (gN s).1.length,iv 0,iv (gN s).2.2]∧H'=[(905,⟨(gN s).1.length,3,196,iS (gN s).1⟩)]):=by
 refine Bd func167 rfl ntmps167<|Sr<|Dd (by exact bE (id:=2) rfl aFq rfl rfl)<|Dd (by exact bE (id:=3) rfl aGX rfl rfl)<|Dd (by exact bE (id:=4) rfl zo3 rfl rfl)<|Zz<|Sq<|Sr<|Dd aI<|Dd (nV underlying9)<|Dd mU<|Zz ?_;refine Cn ?_ ?_<;>intro hc1
 ·have e:gN s=([],2,-1):=by rw [gN,aLO (by have:=aLL hc1;omega)]
  rw [e] at hok;exact absurd hok (by decide)
 have hsz:¬ 20000 < s.size:=by have:=aLM hc1;omega
 obtain ⟨ds,hds⟩:∃ ds,ds=lF s (s.size+1) 0:=⟨_,rfl⟩;have hg:gN s=kH [] ds:=by rw [gN,aLN hsz,hds]
 refine aE<|Sr<|Dd (by exact bE (id:=5) rfl aAq rfl rfl)<|Zz<|Sq<|Sr<|Dd aI<|Dd (by exact aB rfl rfl call204 rfl (Q0 s _ rfl rfl rfl (cY.ofL ⟨(by(simp;done)),(by(simp;done)),(by(simp;done)),(by(simp;done)),trivial⟩)))<|Zz<|aF ?_;refine fE.ent (E':=[(2,.ref 2 0 0 0),(3,.ref 3 0 0 0),(4,.ref 4 0 0 0),(5,.ref 5 0 0 0),(11,.clo 243 [.ref 921 0 0 0,.ref 924 0 0 0])]) (H':=[(905,⟨0,3,196,[]⟩),(5,bx 1 191 [.osl 905 0 0 0]),(924,tA),(923,tC),(921,tS s),(4,bx 1 3 [iv 0]),(3,bx 1 41 [iv 0]),(2,bx 1 191 [.pv (.sl [])])]) ?_ ?_
 ·exact(cC.nz 905 3 196 rfl rfl ⟨⟨_,rfl,(by exact Nz.same (by(simp;rfl)))⟩,⟨_,rfl,(by exact Nz.same (by(simp;rfl)))⟩,⟨_,rfl,(by exact Nz.same (by(simp;rfl)))⟩,⟨_,rfl,(by exact Nz.same (by(simp;rfl)))⟩,⟨_,rfl,(by exact Nz.same (by(simp;exact⟨rfl,rfl⟩)))⟩,trivial⟩ ⟨⟨_,rfl,rfl,rfl,rfl,(by exact .inr ⟨_,_,rfl,rfl,(by repeat(first|exact trivial|refine⟨(by exact Nz.own),?_⟩))⟩)⟩,⟨_,rfl,rfl,rfl,rfl,(by exact .inl ⟨rfl,(by exact nC rfl rfl)⟩)⟩,⟨_,rfl,rfl,rfl,rfl,(by exact .inl ⟨rfl,(by exact gA _)⟩)⟩,⟨_,rfl,rfl,rfl,rfl,(by exact .inl ⟨rfl,(by exact nB _ _)⟩)⟩,⟨_,rfl,rfl,rfl,rfl,(by exact .inl ⟨rfl,(by(simp;done))⟩)⟩,⟨_,rfl,rfl,rfl,rfl,(by exact .inl ⟨rfl,(by(simp;done))⟩)⟩,⟨_,rfl,rfl,rfl,rfl,(by exact .inl ⟨rfl,(by(simp;done))⟩)⟩,trivial⟩ trivial)
 have hdl:ds.length≤s.size+1:=by rw [hds];exact xW s _ _
 obtain ⟨j,hj⟩:∃ j,j=sB (nI ds) ds.length 0:=⟨_,rfl⟩;have hj1:j≤ds.length:=by have:=(CE (nI ds) ds.length 0).2;omega
 have hj2:∀ k,k < j→nI ds k=true:=fun k hk=>CG (nI ds) ds.length 0 k (aL6 _) (by rw [← hj];exact hk);have hj3:j < ds.length→nI ds j=false:=fun h=>by have:=uA (nI ds) ds.length 0 (by omega);rwa [← hj] at this
 have hrun:=EQ hj1 hj2;refine AF (id:=904) (p:=12) pH rfl call243 rfl rfl (by simp [pH];exact⟨rfl,rfl,rfl,rfl⟩) ?_;intro x hx1 hx2 hx3 hx4 hx5 hx6;have hround:∀ (k:Nat) (d:GFound),ds[k]?=some d→k≤j →
   cB Tryz.prog (.yld 904 0) [.agg ((DB d).map .pv)] ((904,LR x pH)::(926,tF d)::kL s (ds.take k) (.pv (.sl [])) 0 0) (fun r H'=>r=bv (nI ds k)∧H'=(if nI ds k then(904,LR x pH)::(926,tF d)::kL s (ds.take (k+1)) (.pv (.sl [])) 0 0 else(904,LR (left x .ret) pH)::(926,tF d)::kL s (ds.take k) (.pv (.sl [])) (if d.err≠0 then d.err else 2) d.pos)):=by
  intro k d hd hkj;have hok:=CW hd;have hkl:k < ds.length:=(aLT.1 hd).1;have htl:(ds.take k).length=k:=by rw [aL3];omega
  have hnx:ds.take (k+1)=ds.take k++[d]:=by rw [List.take_add_one,hd];rfl
  refine .inl ⟨904,0,rfl,?_⟩;refine N7 [(2,.ref 2 0 0 0),(3,.ref 3 0 0 0),(4,.ref 4 0 0 0),(5,.ref 5 0 0 0),(6,.ref 907 0 0 0)] ((907,tF d)::(926,tF d)::kL s (ds.take k) (.pv (.sl [])) 0 0) hx1 hx2 hx3 hx4 hx5 hx6 rfl rfl rfl ?_ ?_
  ·refine Rg<|Dd (by exact bE (id:=907) rfl aAr rfl rfl)<|Uu (jK B1)<|Zz ?_;exact(cC.wk (Ea<|Ea<|Ea<|Ea<|Ea<|trivial) (Hc (jG (by simp [pH];exact⟨rfl,rfl,rfl,rfl⟩))<|Hc (sV _ _)<|Hc (sV _ _)<|Hc (bW _ _)<|Ha<|Hc (nC rfl rfl)<|Hc (gA _)<|Hc (nB _ _)<|Hb<|Hb<|Hb<|trivial) ⟨rfl,rfl,rfl,rfl,rfl,rfl,rfl,rfl,rfl,rfl,trivial⟩)
  refine aF<|Sq<|aF<|Sr<|Dd (bB nO)<|Dd (bL jC)<|Dd yM<|Da ?_;refine Cn ?_ ?_<;>intro hc2
  ·have he:d.err≠0:=by have h:=hc2;rw [aL8,aLX] at h;exact h
   have h0:nI ds k=false:=by rw [hok,decide_eq_false he];rfl
   rw [h0,aLN (by decide),aLO he];refine Sq<|aQ follows<|Cr [907] (fun _ h=>fh nO h)<|Cr [907] (fun _ h=>lh jC h)<|Cr [907] (fun _ h=>fh kO h)<|Cr [907] (fun _ h=>fh HG h)<|Cr [907] (fun _ h=>lh isAgg3 h)<|Cp [2] (fun H1 hH=>by exact bQ rfl jW rfl rfl rfl rfl ((hH _ rfl).trans rfl) rfl rfl rfl)<|Cp [3] (fun H1 hH=>by exact bQ rfl sizeOf41 rfl rfl rfl rfl ((hH _ rfl).trans rfl) rfl rfl rfl)<|Cp [4] (fun H1 hH=>by exact bQ rfl sizeOf3 rfl rfl rfl rfl ((hH _ rfl).trans rfl) rfl rfl rfl)<|bJ<|Kr<|aC ?_;exact⟨(926,tF d)::kL s (ds.take k) (.pv (.sl [])) d.err d.pos,(cC.wk trivial (Hc (jG (by simp [pH];exact⟨rfl,rfl,rfl,rfl⟩))<|Hc (sV _ _)<|Hc (bW _ _)<|Ha<|Hc (nC rfl rfl)<|Hc (gA _)<|Hc (nB _ _)<|Hb<|Hb<|Hb<|trivial) ⟨rfl,rfl,rfl,rfl,rfl,rfl,rfl,rfl,rfl,rfl,trivial⟩),rfl,rfl⟩
  have he:d.err=0:=by have h:=hc2;rw [Bool.not_eq_false',aLW] at h;exact h
  refine Sr<|Dd (bL jI)<|Dd (by exact dS rfl fP rfl rfl rfl)<|Dd dC<|Da ?_;refine Cn ?_ ?_<;>intro hc3
  ·have hk5:k=5000:=by have:=aLL hc3;omega
   have h0:nI ds k=false:=by rw [hok,decide_eq_true he,decide_eq_true hk5];rfl
   rw [h0,aLN (by decide),aLN (fun h=>h he)];refine Sq<|aQ follows<|Cr [907] (fun _ h=>fh kO h)<|Cr [907] (fun _ h=>fh HG h)<|Cr [907] (fun _ h=>lh isAgg3 h)<|Cp [2] (fun H1 hH=>by exact bQ rfl jW rfl rfl rfl rfl ((hH _ rfl).trans rfl) rfl rfl rfl)<|Cp [3] (fun H1 hH=>by exact bQ rfl sizeOf41 rfl rfl rfl rfl ((hH _ rfl).trans rfl) rfl rfl rfl)<|Cp [4] (fun H1 hH=>by exact bQ rfl sizeOf3 rfl rfl rfl rfl ((hH _ rfl).trans rfl) rfl rfl rfl)<|bJ<|Kr<|aC ?_;exact⟨(926,tF d)::kL s (ds.take k) (.pv (.sl [])) 2 d.pos,(cC.wk trivial (Hc (jG (by simp [pH];exact⟨rfl,rfl,rfl,rfl⟩))<|Hc (sV _ _)<|Hc (bW _ _)<|Ha<|Hc (nC rfl rfl)<|Hc (gA _)<|Hc (nB _ _)<|Hb<|Hb<|Hb<|trivial) ⟨rfl,rfl,rfl,rfl,rfl,rfl,rfl,rfl,rfl,rfl,trivial⟩),rfl,rfl⟩
  have hk5:¬ k=5000:=by have:=aLM hc3;omega
  have h0:nI ds k=true:=by rw [hok,decide_eq_true he,decide_eq_false hk5];rfl
  rw [h0,aLO rfl,hnx,aCW];refine aE<|Rg<|Dd (bL jI)<|Dd (bB kO)<|Dd (pN TT sizeOf196)<|Dd (by exact aS [dL d] rfl lN rfl rfl rfl rfl rfl (by intro r hr;rw [aLS] at hr;subst hr;rfl))<|Dd (by exact eK (ps:=[dL d]) rfl lN aCi rfl rfl rfl rfl rfl (vD _) rfl (by intro r hr;rw [aLS] at hr;subst hr;rfl) (m:=1) rfl (by omega) rfl (A3 (ds.take k) d))<|Uu (jK jW)<|Zz ?_;exact⟨(926,tF d)::[(905,⟨(ds.take k).length+1,3,196,iS (ds.take k++[d])⟩),(5,bx 1 191 [.osl 905 ((ds.take k).length+1) 0 ((ds.take k).length+1)]),(924,tA),(923,tC),(921,tS s),(4,bx 1 3 [iv 0]),(3,bx 1 41 [iv 0]),(2,bx 1 191 [.pv (.sl [])])],(cC.wk trivial (Hc (jG (by simp [pH];exact⟨rfl,rfl,rfl,rfl⟩))<|Hc (sV _ _)<|Hc (bW _ _)<|Ha<|Hc (nC rfl rfl)<|Hc (gA _)<|Hc (nB _ _)<|Hb<|Hb<|Hb<|trivial) ⟨rfl,rfl,rfl,rfl,rfl,rfl,rfl,rfl,rfl,rfl,trivial⟩),rfl,rfl⟩
 rcases Nat.lt_or_ge j ds.length with hlt|hge
 ·obtain ⟨f,hf⟩:=bD hlt;have hbad:=hj3 hlt;have hdj:ds.drop j=f::ds.drop (j+1):=by
   rw [List.drop_eq_getElem_cons hlt];rw [aLU hlt] at hf;cases hf;rfl
  have hres:gN s=([],(if f.err≠0 then f.err else 2),(f.pos:Int)):=by
   rw [hg,hrun,hdj,kH]
   split
   ·rfl
   rename_i he;have he0:f.err=0:=by
    by_cases h:f.err=0
    ·exact h
    exact absurd h he
   rw [CW hf,decide_eq_true he0,Bool.true_and,Bool.not_eq_false',aLW] at hbad;rw [aLO (by rw [aL3];omega)]
  rw [hres] at hok;have hok:(if f.err≠0 then f.err else 2)=0:=hok
  split at hok
  ·next h=>exact absurd hok h
  exact absurd hok (by decide)
 have hje:j=ds.length:=Nat.le_antisymm hj1 hge;rw [hje,List.take_length,List.drop_length] at hrun;rw [hg,hrun,kH];refine(D4 s (.yld 904 0) (fun k=>(904,LR x pH)::kL s (ds.take k) (.pv (.sl [])) 0 0) (nI ds) ds.length hs (fun k=>rfl) (fun k=>rfl) (fun k=>rfl) (fun k=>rfl) (fun k=>(cY.ofL ⟨(by exact jG (by simp [pH];exact⟨rfl,rfl,rfl,rfl⟩)),(by exact bW _ _),(by(simp;rfl)),(by exact nC rfl rfl),(by exact gA _),(by exact nB _ _),(by(simp;done)),(by(simp;done)),(by(simp;done)),trivial⟩)) (fun k=>by simp;rfl) (by rw [← hds];exact aLV _) (fun k hk=>hj2 k (by omega)) (.inl (by rw [← hds])) ?_).mono ?_
 ·rw [← hds];intro k d hd hk;have hr:=hround k d hd (by omega);have hok:=hj2 k (by omega);rw [hok,aLO rfl] at hr;rw [hok];exact cB.congrG hr (fun j=>lZ (by decide) j) (fun j=>lZ (by decide) j)
 rintro r H' ⟨rfl,rfl⟩;rw [List.take_length];refine⟨x,_,rfl,by rw [hx1];decide,rfl,fun z=>?_⟩;rw [hx2];refine Sr<|Dd (bL jI)<|Uu (jK jW)<|Uu (jK sizeOf41)<|Uu (jK sizeOf3)<|Zz<|aC ?_;refine xE (H':=[(905,⟨ds.length,3,196,iS ds⟩)]) (.inr rfl) rfl (eW rfl jI rfl rfl rfl rfl) (eW rfl jC rfl rfl rfl rfl) (eW rfl isAgg3 rfl rfl rfl rfl) (Fin.wk (by(simp;rfl)) (Hc (bW _ _)<|trivial) trivial) ?_;exact Qq
theorem aHQ (s:ByteArray) (H:aA) (hs:s.size < 1099511627776) (hok:(gN s).2.1=0) (hH:H.get 905=none):aG Tryz.prog 167 [sv s] H (fun r H'=>r=.tup [.osl 905 (gN s).1.length 0 (gN s).1.length,iv 0,iv (gN s).2.2]∧H'=(905,⟨(gN s).1.length,3,196,iS (gN s).1⟩)::H) :=aG.frame (aHR s hs hok) (fun _ _ h=>by cases h) (fun _ _ h=>by cases h) (by simp) (fun id h=>.inr (by
  by_cases e:id=905
  ·rw [e];exact hH
  rw [get_cons_other _ _ e] at h;cases h))
theorem CH {α:Type} (f:α→List PV) (l:List α):l.map (fun e=>(f e).map AV.pv)=(l.map f).map (·.map .pv):=by rw [List.map_map];rfl
theorem qQ {α:Type} (f:α→List PV) (l:List α):((l.map f).take (0+l.length)).drop 0=l.map f:=by rw [aL7,List.drop_zero];exact List.take_of_length_le (by rw [aLP];exact aLV _)
theorem aAD (f:GFound) (H:aA):aG Tryz.prog 238 [av (dL f)] H (fun r H'=>r=bv (gC f)∧H'=H):=by
 refine Pu ?_;refine Bd func238 rfl ntmps238<|Sr<|Dd (by exact bZ (id:=1) rfl rfl rfl rfl rfl)<|Dd aP<|Zz<|Sq ?_;refine bC (t:=2) (n:=10) (X:=gC f) ?_ ?_
 ·all_goals refine Dd (bB jU) ?_
  all_goals refine Dd (bL isAgg9)<|Dd AJ<|Dm ?_
  all_goals refine Sp 6 (fun h6=>?_) fun h6=>?_
  all_goals try contradiction
  all_goals first|refine Fo<|Fo<|Fo ?_|refine On (bB C9)<|On (bL isAgg3)<|On dC ?_
  all_goals refine Dd cL<|Da ?_
  all_goals(exact⟨⟨_,rfl,by(simp only [gC, *];rfl)⟩,rfl,rfl,rfl⟩)
 exact aC<|Rt<|Qq
theorem EU (l:List GFound) (H:aA) (hl:l.length < 4611686018427387904) :
  aG Tryz.prog 237 [.pv (OK l),.pv (.fn 238)] H (fun r H'=>r=iv (tD gC l)∧H'=H):=by
 refine Pu ?_;have hml:(l.map dL).length=l.length:=aLP _;refine Bd func237 rfl ntmps237<|Sr<|Dd aP<|Zz<|Sq<|Sr<|Dd aI<|Dd (fW fP)<|Dd aI<|Zz<|aF ?_;refine bR (σ:=Nat) (fun k=>([(0,.pv (OK l)),(1,.pv (.fn 238)),(7,iv ((l.map dL).length:Int)),(8,iv (k:Int))],[])) (fun k=>k≤l.length∧∀ j,j < k→∀ b,l[j]?=some b→gC b=false) (fun k=>l.length - k) 0 ⟨by omega,by omega⟩ ?_ ?_
 ·exact E0
 rintro k ⟨hk,hno⟩;refine Sr<|Dd dI<|Zz<|Sq ?_;refine Cn ?_ ?_<;>intro hc1
 ·have hlt:k < l.length:=by have:=aLL hc1;omega
  obtain ⟨o,ho⟩:=bD hlt;have hi:=cI (f:=dL) ho;refine aE<|Sq<|aF<|Sr<|Dd aI<|Dd aP<|Zz<|Sr<|Dd aI<|Dd aI<|Dd aI<|Dd (xT lN)<|Dd (by exact cP rfl TT sizeOf196 rfl (by omega) (by simp only [Zl,bF,bH,encStr,iZ,dL];rfl) rfl)<|Dd (by exact bY rfl rfl rfl (cB.fn call238 (aAD o _)))<|Zz ?_;refine Cn ?_ ?_<;>intro hc2
  ·refine Sr<|Dd aI<|Dd aP<|Zz<|aC<|Rt ?_;exact⟨by rw [tD,NL hno ho hc2],rfl⟩
  refine aE<|Rg<|Dd pL<|Dd aI<|Zz ?_;exact⟨k+1,⟨by omega,yC hno ho hc2⟩,by omega,E0⟩
 have hge:k=l.length:=by have:=aLM hc1;omega
 subst hge;refine bG<|Sr<|Dd aP<|Zz<|aC<|Rt ?_;exact⟨by rw [tD,NM hno],rfl⟩
def CL (T:List GFound) (k:Nat):List GFound:=T++List.replicate k Z0
theorem CK (T:List GFound) (k:Nat):(CL T k).length=T.length+k:=by rw [CL,aLQ,List.length_replicate]
theorem aBh (T:List GFound) (k:Nat):iS (CL T k)++[(dL Z0).map AV.pv]=iS (CL T (k+1)):=by rw [A3,CL,CL,List.replicate_succ',List.append_assoc]
def kF (s:ByteArray):Nat→Int
 | 0=>0
 | j+1=>if fQ ((j+1:Nat):Int)=s then((j+1:Nat):Int)else kF s j
theorem aFC (s:ByteArray):kF s 5=F0 s:=by simp only [kF,F0,eq_comm (a:=s)];rfl
theorem H4:∀ l:List GFound,lX l=dK l (l.length / 3)
 | []=>by simp [lX,dK]
 | [a]=>by simp [lX,dK]
 | [a,b]=>by simp [lX,dK]
 | a::b::c::r=>by
  rw [lX,H4 r];have h1:(a::b::c::r).length=r.length+3:=rfl;rw [h1,Nat.add_div_right _ (by decide),dK,dK,List.range_succ_eq_map,List.map_cons,List.map_map];rfl
theorem aDH (s:ByteArray):atV s=(lO s).1:=by rw [atV,lO];cases h:Lib.atoiAll s.data.toList<;>rfl
abbrev oR (id:ByteArray) (k x y:Int) (n m:Nat):Ob:=bx 6 153 [sv id,iv k,iv x,iv y,.osl 906 n 0 n,.osl 907 m 0 m]
def QO (L:List GFound):Ob:=⟨L.length,3,196,iS L⟩
def rH (L:List GFound) (id:ByteArray) (k x y:Int) (R:List ByteArray) (G:List GTag):aA:=[(907,⟨G.length,2,206,pZ G⟩),(906,⟨R.length,1,9,dO R⟩),(3,oR id k x y R.length G.length),(905,QO L),(2,bx 6 153 ((bH zObj).map .pv))]
abbrev rE (L:List GFound):bN:=[(0,.osl 905 L.length 0 L.length),(2,.ref 2 0 0 0),(3,.ref 3 0 0 0)]
theorem aKP (L:List GFound) (id:ByteArray) (k x y:Int) (R:List ByteArray) (s:ByteArray) (G:List GTag):rH L id k x y (R++[s]) G=[(907,⟨G.length,2,206,pZ G⟩),(906,⟨R.length+1,1,9,dO (R++[s])⟩),(3,oR id k x y (R.length+1) G.length),(905,QO L),(2,bx 6 153 ((bH zObj).map .pv))]:=by simp [rH]
theorem aIb (L:List GFound) (id:ByteArray) (k x y:Int) (R:List ByteArray) (t:GTag) (G:List GTag):rH L id k x y R (G++[t])=[(907,⟨G.length+1,2,206,pZ (G++[t])⟩),(906,⟨R.length,1,9,dO R⟩),(3,oR id k x y R.length (G.length+1)),(905,QO L),(2,bx 6 153 ((bH zObj).map .pv))]:=by simp [rH]
theorem vC {L:List GFound} {i:Nat} {f:GFound} (h:L[i]?=some f):(iS L)[i]?=some [iv f.kind,sv f.text,iv (f.pos:Int)]:=by rw [iS,aL9,h];rfl
theorem aGb (T:List GFound) (hl:T.length < 549755813888) (hsz:∀ f∈pC T,f.text.size < 1099511627776):aG Tryz.prog 202 [.osl 905 T.length 0 T.length] [(905,QO T)] (fun r H'=>r=av (bH (kI T))∧H'=[(905,QO (pC T))]):=by
 refine Bd func202 rfl ntmps202<|Sr<|Dd (by exact bE (id:=2) rfl WT rfl rfl)<|Zz<|Sq<|aF ?_;refine bR (σ:=Nat) (fun k=>([(0,.osl 905 (CL T k).length 0 (CL T k).length),(2,.ref 2 0 0 0)],[(905,QO (CL T k)),(2,bx 6 153 ((bH zObj).map .pv))])) (fun k=>k≤4 - T.length) (fun k=>4 - T.length - k) 0 (aL6 _) ?_ ?_
 ·rw [show CL T 0=T by simp [CL]];exact(cC.wk (Ea<|Ea<|trivial) (Hc (bW _ _)<|Hb<|trivial) ⟨rfl,trivial⟩)
 rintro k hk;have hpl:=CK T k;unfold QO;refine Sq<|Sr<|Dd aI<|Dd (by exact dS rfl fP rfl rfl rfl)<|Dd dI<|Zz ?_;refine Cn ?_ ?_<;>intro hc1
 ·have hlt:T.length+k < 4:=by have:=aLL hc1;rw [hpl] at this;omega
  refine aE<|aF<|Rg<|Dd aI<|Dd (uS aGL)<|Dd (by exact aS [dL Z0] rfl lN rfl rfl rfl rfl rfl (by intro r hr;rw [aLS] at hr;subst hr;rfl))<|Dd (by exact eK (ps:=[dL Z0]) rfl lN aCi rfl rfl rfl rfl rfl (vD _) rfl (by intro r hr;rw [aLS] at hr;subst hr;rfl) (m:=1) rfl (by omega) rfl (aBh T k))<|Da ?_;refine⟨k+1,by omega,by omega,?_⟩;rw [show (CL T (k+1)).length=(CL T k).length+1 by rw [CK,CK];omega];exact(cC.wk (Ea<|Ea<|trivial) (Hc (bW _ _)<|Hb<|trivial) ⟨rfl,trivial⟩)
 have hge:4≤T.length+k:=by have:=aLM hc1;rw [hpl] at this;omega
 obtain rfl:k=4 - T.length:=by omega
 obtain ⟨L,hL⟩:∃ L,L=CL T (4 - T.length):=⟨_,rfl⟩;have hLp:pC T=L:=by rw [hL];rfl
 have hLl:4≤L.length∧L.length < 549755813893:=by rw [hL,CK];omega
 rw [hLp] at hsz;rw [hLp,← hL];clear hpl;obtain ⟨t0,ht0⟩:=bD (show 0 < L.length by omega);obtain ⟨t1,ht1⟩:=bD (show 1 < L.length by omega);obtain ⟨t2,ht2⟩:=bD (show 2 < L.length by omega);obtain ⟨t3,ht3⟩:=bD (show 3 < L.length by omega);have hr0:=vC ht0;have hr1:=vC ht1;have hr2:=vC ht2;have hr3:=vC ht3;have hd:∀ {i:Nat} {f:GFound},L[i]?=some f→L.getD i Z0=f:=fun {i f} h=>by rw [List.getD_eq_getElem?_getD,h];rfl
 have hR:=kI.eq_1 T;rw [hLp,hd ht0,hd ht1,hd ht2,hd ht3] at hR;refine bG<|Sr<|Dd aI<|Dd (by exact dH rfl lN rfl rfl rfl rfl rfl (by omega) (by exact aL0 _) (show 1 < L.length by omega) rfl)<|Dd (bB jU)<|Dd (by exact aK rfl isAgg9 rfl rfl rfl hr1 rfl)<|Dd (uS aHf)<|Dd (by exact bE (id:=3) rfl aGW rfl rfl)<|Uu (jK sizeOf153)<|Zz<|Sq<|Sq ?_;refine fE.ent (E':=rE L) (H':=[(906,⟨0,1,9,[]⟩),(3,bx 6 153 [sv t1.text,iv 0,iv 0,iv 0,.osl 906 0 0 0,.pv .nils]),(905,QO L),(2,bx 6 153 ((bH zObj).map .pv))]) (cC.nz 906 1 9 rfl rfl ⟨⟨_,rfl,(by exact Nz.same (by(simp;rfl)))⟩,⟨_,rfl,(by exact Nz.same (by(simp;rfl)))⟩,⟨_,rfl,(by exact Nz.same (by(simp;rfl)))⟩,trivial⟩ ⟨⟨_,rfl,rfl,rfl,rfl,(by exact .inr ⟨_,_,rfl,rfl,(by repeat(first|exact trivial|refine⟨(by first|exact Nz.own|exact Nz.same (by(simp;done))),?_⟩))⟩)⟩,⟨_,rfl,rfl,rfl,rfl,(by exact .inl ⟨rfl,(by exact bW _ _)⟩)⟩,⟨_,rfl,rfl,rfl,rfl,(by exact .inl ⟨rfl,(by(simp;done))⟩)⟩,trivial⟩ ⟨rfl,trivial⟩) ?_;refine fE.ent (E':=rE L) (H':=rH L t1.text 0 0 0 [] []) (cC.nz 907 2 206 rfl rfl ⟨⟨_,rfl,(by exact Nz.same (by(simp;rfl)))⟩,⟨_,rfl,(by exact Nz.same (by(simp;rfl)))⟩,⟨_,rfl,(by exact Nz.same (by(simp;rfl)))⟩,trivial⟩ ⟨⟨_,rfl,rfl,rfl,rfl,(by exact .inl ⟨rfl,(by exact bV _ _)⟩)⟩,⟨_,rfl,rfl,rfl,rfl,(by exact .inr ⟨_,_,rfl,rfl,(by repeat(first|exact trivial|refine⟨(by first|exact Nz.own|exact Nz.same (by first|(simp;done)|(simp;rfl))),?_⟩))⟩)⟩,⟨_,rfl,rfl,rfl,rfl,(by exact .inl ⟨rfl,(by exact bW _ _)⟩)⟩,⟨_,rfl,rfl,rfl,rfl,(by exact .inl ⟨rfl,(by(simp;done))⟩)⟩,trivial⟩ ⟨rfl,trivial⟩) ?_;refine Rg<|Dd aP<|Zz<|aF ?_;refine bR (σ:=Nat) (fun j=>(rE L++[(4,iv ((j+1:Nat):Int))],rH L t1.text (kF t0.text j) 0 0 [] [])) (fun j=>j≤5) (fun j=>5 - j) 0 (aL6 _) ?_ ?_
 ·exact(cC.wk (Ea<|Ea<|Ea<|Eb<|trivial) (Hc (jO _ _)<|Hc (bV _ _)<|Hc (by(simp;exact⟨rfl,rfl⟩))<|Hc (bW _ _)<|Hb<|trivial) ⟨rfl,trivial⟩)
 rintro j hj;refine Sq<|Sr<|Dd aI<|Dd TM<|Zz ?_;refine Cn ?_ ?_<;>intro hc2
 ·have hj5:j < 5:=by have:=aLL hc2;omega
  refine aE<|Sq<|aF<|Sq<|aQ follows<|Cq aI<|Cq (by exact aB rfl rfl tR rfl (A1 ((j+1:Nat):Int) _))<|Cq aI<|Cq (by exact dH rfl lN rfl rfl rfl rfl rfl (by omega) (by exact aL0 _) (show 0 < L.length by omega) rfl)<|Cq (bB jU)<|Cq (by exact aK rfl isAgg9 rfl rfl rfl hr0 rfl)<|Cq AJ<|bJ<|Kr ?_;refine Cn ?_ ?_<;>intro hc3
  ·have hw:fQ ((j+1:Nat):Int)=t0.text:=aLL hc3;refine Rg<|Dd aI<|Dd (bB gE)<|Uu (by exact aZ rfl sizeOf3 rfl rfl rfl rfl rfl rfl (by simp only [aLR,List.length_nil];omega) (by simp only [Zl,bF,bH,encStr,iZ,dL];rfl) (by simp only [Zl,bF,bH,encStr,iZ,dL];rfl))<|Zz<|Rg<|Dd aI<|Dd pL<|Da ?_;refine⟨j+1,by omega,by omega,?_⟩;rw [show kF t0.text (j+1)=((j+1:Nat):Int)by rw [kF,aLO hw]];exact(cC.wk (Ea<|Ea<|Ea<|Eb<|trivial) (Hc (jO _ _)<|Hc (bV _ _)<|Hc (by(simp;exact⟨rfl,rfl⟩))<|Hc (bW _ _)<|Hb<|trivial) ⟨rfl,trivial⟩)
  have hw:fQ ((j+1:Nat):Int)≠t0.text:=aLM hc3;refine aE<|Rg<|Dd aI<|Dd pL<|Da ?_;refine⟨j+1,by omega,by omega,?_⟩;rw [show kF t0.text (j+1)=kF t0.text j by rw [kF,aLN hw]];exact(cC.wk (Ea<|Ea<|Ea<|Eb<|trivial) (Hc (jO _ _)<|Hc (bV _ _)<|Hc (by(simp;exact⟨rfl,rfl⟩))<|Hc (bW _ _)<|Hb<|trivial) ⟨rfl,trivial⟩)
 have hj5:j=5:=by have:=aLM hc2;omega
 subst hj5;rw [aFC];obtain ⟨kd,hkd⟩:∃ kd,kd=F0 t0.text:=⟨_,rfl⟩;rw [← hkd] at hR ⊢;have htk:(iS L).length=L.length:=vD L;refine bG<|Sr<|Dd aI<|Dd (by exact gF (l:=4) (h:=L.length) rfl lN rfl rfl rfl rfl rfl rfl (by omega) (by omega) rfl rfl)<|Dd aP<|Zz<|Sq<|Sr<|Dd (bB gE)<|Dd (bL isAgg3)<|Dd dC<|Zz ?_;refine Cn ?_ ?_<;>intro hc4
 ·have hk1:kd=1:=aLL hc4;have hR2:kI T=⟨t1.text,1,atV t2.text,atV t3.text,[],lX (L.drop 4)⟩:=by rw [hR,aLO hk1]
  subst hk1;refine Sr<|Dd aI<|Dd (by exact dH rfl lN rfl rfl rfl rfl rfl (by omega) (by exact aL0 _) (show 2 < L.length by omega) rfl)<|Dd (bB jU)<|Dd (by exact aK rfl isAgg9 rfl rfl rfl hr2 rfl)<|Dd (by exact aB rfl rfl tV rfl (HJ t2.text (hsz _ (aLZ ht2)) _))<|Dd aI<|Dd eS<|Dd eS<|Dd (bB nQ)<|Dd (bB tH)<|Uu (by exact aZ rfl sizeOf3 rfl rfl rfl rfl rfl rfl (by simp only [aLR,List.length_nil];omega) (by simp only [Zl,bF,bH,encStr,iZ,dL];rfl) (by simp only [Zl,bF,bH,encStr,iZ,dL];rfl))<|Zz<|Rg<|Dd aI<|Dd (by exact dH rfl lN rfl rfl rfl rfl rfl (by omega) (by exact aL0 _) (show 3 < L.length by omega) rfl)<|Dd (bB jU)<|Dd (by exact aK rfl isAgg9 rfl rfl rfl hr3 rfl)<|Dd (by exact aB rfl rfl tV rfl (HJ t3.text (hsz _ (aLZ ht3)) _)) ?_;refine Dd aI<|Dd eS<|Dd eS<|Dd (bB nQ)<|Dd (bB tG)<|Uu (by exact aZ rfl sizeOf3 rfl rfl rfl rfl rfl rfl (by simp only [aLR,List.length_nil];omega) (by simp only [Zl,bF,bH,encStr,iZ,dL];rfl) (by simp only [Zl,bF,bH,encStr,iZ,dL];rfl))<|Zz<|Sq<|aF ?_;obtain ⟨D,hD⟩:∃ D,D=L.drop 4:=⟨_,rfl⟩;have hDl:D.length=L.length - 4:=by rw [hD,aL4]
  refine bR (σ:=Nat) (fun j=>(rE L++[(5,.osl 905 L.length (4+3*j) (L.length - 4 - 3*j))],rH L t1.text 1 (lO t2.text).1 (lO t3.text).1 ([]:List ByteArray) (dK D j))) (fun j=>3*j≤D.length) (fun j=>D.length - 3*j) 0 (aL6 _) ?_ ?_
  ·exact(cC.wk (Ea<|Ea<|Ea<|Ea<|trivial) (Hc (jO _ _)<|Hc (bV _ _)<|Hc (by(simp;exact⟨rfl,rfl⟩))<|Hc (bW _ _)<|Hb<|trivial) ⟨rfl,trivial⟩)
  rintro j hj;have hnx:=yV D j;have hfl:=AX D j;refine Sq<|Sr<|Dd aI<|Dd (by exact dS rfl fP rfl rfl rfl)<|Dd mU<|Zz ?_;refine Cn ?_ ?_<;>intro hc5
  ·have hlt:3*j+2 < D.length:=by have:=aLL hc5;omega
   obtain ⟨f0,hf0⟩:∃ f,L[4+3*j]?=some f:=bD (by omega);obtain ⟨f2,hf2⟩:∃ f,L[4+3*j+2]?=some f:=bD (by omega);have hr0:=vC hf0;have hr2:=vC hf2;have hta:MG D j=⟨f0.text,f2.text⟩:=by
    rw [MG,hD,List.getElem?_drop,List.getElem?_drop,hf0,show 4+(3*j+2)=4+3*j+2 from rfl,hf2];rfl
   refine aE<|Sq<|aF<|aQ follows<|Cs (fun _ h=>fh fK h)<|Cs (fun _ h=>lh cT h)<|Cs (fun _ _=>aI)<|Cs (fun H1 hH=>by exact dH rfl lN rfl ((hH _ rfl).trans rfl) rfl rfl rfl (by omega) (by exact aL0 _) (show 0 < L.length - 4 - 3*j by omega) rfl)<|Cs (fun _ h=>fh jU h)<|Cs (fun H1 hH=>by exact aK rfl isAgg9 rfl ((hH _ rfl).trans rfl) rfl hr0 rfl)<|Cs (fun _ _=>aI)<|Cs (fun H1 hH=>by exact dH rfl lN rfl ((hH _ rfl).trans rfl) rfl rfl rfl (by omega) (by exact aL0 _) (show 2 < L.length - 4 - 3*j by omega) rfl)<|Cs (fun _ h=>fh jU h)<|Cs (fun H1 hH=>by exact aK rfl isAgg9 rfl ((hH _ rfl).trans rfl) rfl hr2 rfl)<|Cs (fun _ _=>(uS aGK))<|Cs (fun H1 hH=>by exact aS [bF ⟨f0.text,f2.text⟩] rfl wS rfl rfl rfl rfl rfl (by intro r hr;rw [aLS] at hr;subst hr;rfl)) ?_;refine aX (r:=⟨_,none,[_]⟩) (DStep.plain rfl (fun H1 hH=>by exact eK (ps:=[bF ⟨f0.text,f2.text⟩]) rfl wS aGG rfl ((hH _ rfl).trans rfl) rfl rfl rfl (HV _) rfl (by intro r hr;rw [aLS] at hr;subst hr;rfl) (m:=1) rfl (by omega) rfl (HW (dK D j) ⟨f0.text,f2.text⟩))) rfl ?_;refine Cs (fun _ h=>fh fK h) ?_;refine aX (r:=⟨_,none,[_]⟩) (DStep.plain rfl (fun H1 hH=>by exact(by exact aZ rfl sizeOf151 rfl rfl rfl ((hH _ rfl).trans rfl) rfl rfl (by simp only [aLR,List.length_nil];omega) (by simp only [Zl,bF,bH,encStr,iZ,dL];rfl) (by simp only [Zl,bF,bH,encStr,iZ,dL];rfl)))) rfl ?_;refine bJ<|Kr<|Rg<|Dd aI<|Dd (by exact gF (l:=3) (h:=(L.length - 4 - 3*j)) rfl lN rfl rfl rfl rfl rfl rfl (by omega) (by omega) rfl rfl)<|Da ?_;refine⟨j+1,by omega,by omega,?_⟩;dsimp only;rw [hnx,hta,aIb];exact(cC.wk (Ea<|Ea<|Ea<|Ea<|trivial) (Hc (jO _ _)<|Hc (bV _ _)<|Hc (by(simp;exact⟨rfl,rfl⟩))<|Hc (bW _ _)<|Hb<|trivial) ⟨rfl,trivial⟩)
  have hge:D.length < 3*j+3:=by have:=aLM hc5;omega
  have hdj:D.length / 3=j:=by omega
  have hG:lX D=dK D j:=by rw [H4,hdj]
  refine bG<|Sq ?_;refine fE.ent (cC.fzG (id:=907) (E':=rE L) (H':=[(906,⟨(([]:List ByteArray)).length,1,9,dO (([]:List ByteArray))⟩),(3,bx 6 153 [sv (t1.text),iv (1),iv ((lO t2.text).1),iv ((lO t3.text).1),.osl 906 (([]:List ByteArray)).length 0 (([]:List ByteArray)).length,.pv (qW (dK D j))]),(905,QO L),(2,bx 6 153 ((bH zObj).map .pv))]) ((dK D j).map bF) rfl (CH bF _) ?_ rfl ?_ ?_) ?_
  ·intro p hp;simp only [aL1,aL5,or_false] at hp;rcases hp with rfl|rfl|rfl<;>exact⟨_,rfl,.same (by simp;rfl)⟩
  ·exact⟨⟨_,rfl,rfl,rfl,rfl,fT (bV _ _)⟩,⟨_,rfl,rfl,rfl,rfl,nL rfl (cH (.same (by simp)) (cH (.same (by simp)) (cH (.same (by simp)) (cH (.same (by simp)) (cH (.same (by simp;rfl)) (cH (.osl (qQ bF _)) nM))))))⟩,⟨_,rfl,rfl,rfl,rfl,fT (bW _ _)⟩,⟨_,rfl,rfl,rfl,rfl,fT (by simp)⟩,trivial⟩
  ·exact⟨rfl,trivial⟩
  refine fE.ent (cC.fzG (id:=906) (E':=rE L) (H':=[(3,bx 6 153 [sv (t1.text),iv (1),iv ((lO t2.text).1),iv ((lO t3.text).1),.pv (aU (([]:List ByteArray))),.pv (qW (dK D j))]),(905,QO L),(2,bx 6 153 ((bH zObj).map .pv))]) ((([]:List ByteArray)).map encStr) rfl (fU _) ?_ rfl ?_ ?_) ?_
  ·intro p hp;simp only [aL1,aL5,or_false] at hp;rcases hp with rfl|rfl|rfl<;>exact⟨_,rfl,.same (by simp;rfl)⟩
  ·exact⟨⟨_,rfl,rfl,rfl,rfl,nL rfl (cH (.same (by simp)) (cH (.same (by simp)) (cH (.same (by simp)) (cH (.same (by simp)) (cH (.osl (qQ encStr _)) (cH (.same (by simp)) nM))))))⟩,⟨_,rfl,rfl,rfl,rfl,fT (bW _ _)⟩,⟨_,rfl,rfl,rfl,rfl,fT (by simp)⟩,trivial⟩
  ·exact⟨rfl,trivial⟩
  refine Rg<|Dd (by exact aL rfl cM sizeOf153 rfl rfl rfl rfl (by simp only [Zl,bF,bH,encStr,iZ,dL];rfl) rfl)<|Uu (jK sizeOf153)<|Zz<|aC ?_;refine dF (H':=[(905,QO L)]) (.inr rfl) rfl (eU rfl cM sizeOf153 rfl rfl rfl (by simp only [Zl,bF,bH,encStr,iZ,dL];rfl) rfl) (Fin.wk (by(simp;done)) (Hc (bW _ _)<|trivial) ⟨rfl,trivial⟩) ?_;refine⟨?_,rfl⟩;rw [(show kI T=⟨t1.text,1,(lO t2.text).1,(lO t3.text).1,[],lX (L.drop 4)⟩by rw [hR2,aDH,aDH]),← hD,hG];rfl
 have hk1:kd≠1:=aLM hc4;rw [aLN hk1] at hR;have hIx:=EU L [] (by omega);have hIr:∀ H,H.get 905=some (QO L)→aG Tryz.prog 237 [.osl 905 L.length 0 L.length,.pv (.fn 238)] H (fun r H'=>r=iv (tD gC L)∧H'=H):=fun H hH =>
  RO.calls (RO.lend (id:=905) (H1:=[]) (L.map dL) (RO.of hIx rfl) hH (CH dL L) rfl
   (cH (.osl (qQ dL L)) (cH (.same (by simp)) nM)) (fun _ _ h=>by cases h) (fun _ _ h=>by cases h) rfl)
 refine Sr<|Dd aI<|Dd (by exact aB rfl rfl call237 rfl (hIr _ rfl))<|Dd aP<|Zz<|Sq<|Sr<|Dd aI<|Dd dI<|Zz ?_;refine Cn ?_ ?_<;>intro hc6
 ·have hlo:tD gC L < 3:=aLL hc6;rw [aLO hlo] at hR;rw [hR];refine Sr<|Dd (uS YF)<|Uu (jK sizeOf153)<|Zz<|aC ?_;refine dF (H':=[(905,QO L)]) (.inr rfl) rfl (eU rfl cM sizeOf153 rfl rfl rfl (by simp only [Zl,bF,bH,encStr,iZ,dL];rfl) rfl) (Fin.wk (by(simp;done)) (Hc (bW _ _)<|trivial) ⟨rfl,trivial⟩) ?_;exact Qq
 have hlo:¬ tD gC L < 3:=aLM hc6;rw [aLN hlo] at hR;obtain ⟨q,hq,hqL⟩:∃ q:Nat,tD gC L=(q:Int)∧q < L.length:=by
  rcases VO gC L with⟨e1,_⟩|⟨q,o,e1,e2,_⟩
  ·rw [e1] at hlo;exact absurd (by decide) hlo
  exact⟨q,e1,(aLT.1 e2).1⟩
 rw [hq] at hR hlo ⊢;rw [aL0] at hR;have hq3:3≤q:=by omega
 obtain ⟨M,hM⟩:∃ M,M=(L.take q).drop 3:=⟨_,rfl⟩;have hMl:M.length=q - 3:=by rw [hM,aL4,aL3];omega
 rw [← hM] at hR;refine aE<|Sq<|Sr<|Dd aI<|Dd aI<|Dd (by exact gF (l:=3) (h:=q) rfl lN rfl rfl rfl rfl rfl rfl (by omega) (by omega) rfl rfl)<|Dd (by exact dS rfl fP rfl rfl rfl)<|Dd aI<|Zz<|aF ?_;refine bR (σ:=Nat) (fun i=>(rE L++[(5,.osl 905 L.length 4 (L.length - 4)),(6,iv (q:Int)),(66,.osl 905 L.length 3 (q - 3)),(67,iv ((q - 3:Nat):Int)),(68,iv (i:Int))],rH L t1.text kd 0 0 ((M.take i).map GFound.text) [])) (fun i=>i≤M.length) (fun i=>M.length - i) 0 (aL6 _) ?_ ?_
 ·exact(cC.wk (Ea<|Ea<|Ea<|Ea<|Eb<|Ea<|Eb<|Eb<|trivial) (Hc (jO _ _)<|Hc (bV _ _)<|Hc (by(simp;exact⟨rfl,rfl⟩))<|Hc (bW _ _)<|Hb<|trivial) ⟨rfl,trivial⟩)
 rintro i hi;refine Sr<|Dd dI<|Zz<|Sq ?_;refine Cn ?_ ?_<;>intro hc7
 ·have hiq:i < q - 3:=by have:=aLL hc7;omega
  obtain ⟨f,hf⟩:=bD (show i < M.length by omega);have hfL:L[3+i]?=some f:=by
   rw [hM,List.getElem?_drop,List.getElem?_take_of_lt (by omega)] at hf;exact hf
  have hrf:=vC hfL;have hMt:(M.take (i+1)).map GFound.text=(M.take i).map GFound.text++[f.text]:=by rw [List.take_add_one,hf,List.map_append];rfl
  have hRl:((M.take i).map GFound.text).length=i:=by rw [aLP,aL3];omega
  refine aE<|Sq<|aF<|Sr<|Dd (by exact dH rfl lN rfl rfl rfl rfl rfl (by omega) (by exact aL0 _) (by omega) rfl)<|Dd (by exact aL rfl TT sizeOf196 rfl rfl rfl hrf (by simp only [Zl,bF,bH,encStr,iZ,dL];rfl) rfl)<|Dd (by exact bE (id:=8) rfl aIL rfl rfl)<|Uu (jK sizeOf196)<|Zz<|Rg<|Dd (bB gD)<|Dd (bL aJ)<|Dd (bB jU)<|Dd (bL isAgg9)<|Dd (by exact aS [encStr f.text] rfl cO rfl rfl rfl rfl rfl (by intro r hr;rw [aLS] at hr;subst hr;rfl))<|Dd (by exact eK (ps:=[encStr f.text]) rfl cO TN rfl rfl rfl rfl rfl (iR _) rfl (by intro r hr;rw [aLS] at hr;subst hr;rfl) (m:=1) rfl (by omega) rfl (kC ((M.take i).map GFound.text) f.text))<|Dd (bB gD)<|Uu (by exact aZ rfl sizeOf22 rfl rfl rfl rfl rfl rfl (by simp only [aLR,List.length_nil];omega) (by simp only [Zl,bF,bH,encStr,iZ,dL];rfl) (by simp only [Zl,bF,bH,encStr,iZ,dL];rfl)) ?_;refine Zz<|Rg<|Dd pL<|Dd aI<|Zz ?_;refine⟨i+1,by omega,by omega,?_⟩;dsimp only;rw [hMt,aKP];exact(cC.wk (Ea<|Ea<|Ea<|Ea<|Eb<|Ea<|Eb<|Eb<|trivial) (Hc (jO _ _)<|Hc (bV _ _)<|Hc (by(simp;exact⟨rfl,rfl⟩))<|Hc (bW _ _)<|Hb<|trivial) ⟨rfl,trivial⟩)
 have hiq:i=q - 3:=by have:=aLM hc7;omega
 have hMi:M.take i=M:=List.take_of_length_le (by omega);rw [hMi];refine bG<|Rg<|Dd aI<|Dd aI<|Dd (by exact cA rfl rfl rfl (show IntKind.i64.wrap ((q:Int)+1)=((q+1:Nat):Int)by rw [IntKind.wrap_i64];omega))<|Dd (by exact gF (l:=(q+1)) (h:=L.length) rfl lN rfl rfl rfl rfl rfl rfl (by omega) (by omega) rfl rfl)<|Dd aP<|Zz<|Sq<|aF ?_;rw [← aL7 (q+1)] at hR;obtain ⟨D,hD⟩:∃ D,D=L.drop (0+(q+1)):=⟨_,rfl⟩;have hDl:D.length=L.length - (0+(q+1)):=by rw [hD,aL4]
 refine bR (σ:=Nat) (fun j=>(rE L++[(5,.osl 905 L.length ((0+(q+1))+3*j) (L.length - (q+1) - 3*j))],rH L t1.text kd 0 0 (M.map GFound.text) (dK D j))) (fun j=>3*j≤D.length) (fun j=>D.length - 3*j) 0 (aL6 _) ?_ ?_
 ·exact(cC.wk (Ea<|Ea<|Ea<|Ea<|trivial) (Hc (jO _ _)<|Hc (bV _ _)<|Hc (by(simp;exact⟨rfl,rfl⟩))<|Hc (bW _ _)<|Hb<|trivial) ⟨rfl,trivial⟩)
 rintro j hj;have hnx:=yV D j;have hfl:=AX D j;refine Sq<|Sr<|Dd aI<|Dd (by exact dS rfl fP rfl rfl rfl)<|Dd mU<|Zz ?_;refine Cn ?_ ?_<;>intro hc8
 ·have hlt:3*j+2 < D.length:=by have:=aLL hc8;omega
  obtain ⟨f0,hf0⟩:∃ f,L[(0+(q+1))+3*j]?=some f:=bD (by omega);obtain ⟨f2,hf2⟩:∃ f,L[(0+(q+1))+3*j+2]?=some f:=bD (by omega);have hr0:=vC hf0;have hr2:=vC hf2;have hta:MG D j=⟨f0.text,f2.text⟩:=by
   rw [MG,hD,List.getElem?_drop,List.getElem?_drop,hf0,show (0+(q+1))+(3*j+2)=(0+(q+1))+3*j+2 from rfl,hf2];rfl
  refine aE<|Sq<|aF<|aQ follows<|Cs (fun _ h=>fh fK h)<|Cs (fun _ h=>lh cT h)<|Cs (fun _ _=>aI)<|Cs (fun H1 hH=>by exact dH rfl lN rfl ((hH _ rfl).trans rfl) rfl rfl rfl (by omega) (by exact aL0 _) (show 0 < L.length - (q+1) - 3*j by omega) rfl)<|Cs (fun _ h=>fh jU h)<|Cs (fun H1 hH=>by exact aK rfl isAgg9 rfl ((hH _ rfl).trans rfl) rfl hr0 rfl)<|Cs (fun _ _=>aI)<|Cs (fun H1 hH=>by exact dH rfl lN rfl ((hH _ rfl).trans rfl) rfl rfl rfl (by omega) (by exact aL0 _) (show 2 < L.length - (q+1) - 3*j by omega) rfl)<|Cs (fun _ h=>fh jU h)<|Cs (fun H1 hH=>by exact aK rfl isAgg9 rfl ((hH _ rfl).trans rfl) rfl hr2 rfl)<|Cs (fun _ _=>(uS aGK))<|Cs (fun H1 hH=>by exact aS [bF ⟨f0.text,f2.text⟩] rfl wS rfl rfl rfl rfl rfl (by intro r hr;rw [aLS] at hr;subst hr;rfl)) ?_;refine aX (r:=⟨_,none,[_]⟩) (DStep.plain rfl (fun H1 hH=>by exact eK (ps:=[bF ⟨f0.text,f2.text⟩]) rfl wS aGG rfl ((hH _ rfl).trans rfl) rfl rfl rfl (HV _) rfl (by intro r hr;rw [aLS] at hr;subst hr;rfl) (m:=1) rfl (by omega) rfl (HW (dK D j) ⟨f0.text,f2.text⟩))) rfl ?_;refine Cs (fun _ h=>fh fK h) ?_;refine aX (r:=⟨_,none,[_]⟩) (DStep.plain rfl (fun H1 hH=>by exact(by exact aZ rfl sizeOf151 rfl rfl rfl ((hH _ rfl).trans rfl) rfl rfl (by simp only [aLR,List.length_nil];omega) (by simp only [Zl,bF,bH,encStr,iZ,dL];rfl) (by simp only [Zl,bF,bH,encStr,iZ,dL];rfl)))) rfl ?_;refine bJ<|Kr<|Rg<|Dd aI<|Dd (by exact gF (l:=3) (h:=(L.length - (q+1) - 3*j)) rfl lN rfl rfl rfl rfl rfl rfl (by omega) (by omega) rfl rfl)<|Da ?_;refine⟨j+1,by omega,by omega,?_⟩;dsimp only;rw [hnx,hta,aIb];exact(cC.wk (Ea<|Ea<|Ea<|Ea<|trivial) (Hc (jO _ _)<|Hc (bV _ _)<|Hc (by(simp;exact⟨rfl,rfl⟩))<|Hc (bW _ _)<|Hb<|trivial) ⟨rfl,trivial⟩)
 have hge:D.length < 3*j+3:=by have:=aLM hc8;omega
 have hdj:D.length / 3=j:=by omega
 have hG:lX D=dK D j:=by rw [H4,hdj]
 refine bG<|Sq ?_;refine fE.ent (cC.fzG (id:=907) (E':=rE L) (H':=[(906,⟨((M.map GFound.text)).length,1,9,dO ((M.map GFound.text))⟩),(3,bx 6 153 [sv (t1.text),iv (kd),iv (0),iv (0),.osl 906 ((M.map GFound.text)).length 0 ((M.map GFound.text)).length,.pv (qW (dK D j))]),(905,QO L),(2,bx 6 153 ((bH zObj).map .pv))]) ((dK D j).map bF) rfl (CH bF _) ?_ rfl ?_ ?_) ?_
 ·intro p hp;simp only [aL1,aL5,or_false] at hp;rcases hp with rfl|rfl|rfl<;>exact⟨_,rfl,.same (by simp;rfl)⟩
 ·exact⟨⟨_,rfl,rfl,rfl,rfl,fT (bV _ _)⟩,⟨_,rfl,rfl,rfl,rfl,nL rfl (cH (.same (by simp)) (cH (.same (by simp)) (cH (.same (by simp)) (cH (.same (by simp)) (cH (.same (by simp;rfl)) (cH (.osl (qQ bF _)) nM))))))⟩,⟨_,rfl,rfl,rfl,rfl,fT (bW _ _)⟩,⟨_,rfl,rfl,rfl,rfl,fT (by simp)⟩,trivial⟩
 ·exact⟨rfl,trivial⟩
 refine fE.ent (cC.fzG (id:=906) (E':=rE L) (H':=[(3,bx 6 153 [sv (t1.text),iv (kd),iv (0),iv (0),.pv (aU ((M.map GFound.text))),.pv (qW (dK D j))]),(905,QO L),(2,bx 6 153 ((bH zObj).map .pv))]) (((M.map GFound.text)).map encStr) rfl (fU _) ?_ rfl ?_ ?_) ?_
 ·intro p hp;simp only [aL1,aL5,or_false] at hp;rcases hp with rfl|rfl|rfl<;>exact⟨_,rfl,.same (by simp;rfl)⟩
 ·exact⟨⟨_,rfl,rfl,rfl,rfl,nL rfl (cH (.same (by simp)) (cH (.same (by simp)) (cH (.same (by simp)) (cH (.same (by simp)) (cH (.osl (qQ encStr _)) (cH (.same (by simp)) nM))))))⟩,⟨_,rfl,rfl,rfl,rfl,fT (bW _ _)⟩,⟨_,rfl,rfl,rfl,rfl,fT (by simp)⟩,trivial⟩
 ·exact⟨rfl,trivial⟩
 refine Rg<|Dd (by exact aL rfl cM sizeOf153 rfl rfl rfl rfl (by simp only [Zl,bF,bH,encStr,iZ,dL];rfl) rfl)<|Uu (jK sizeOf153)<|Zz<|aC ?_;refine dF (H':=[(905,QO L)]) (.inr rfl) rfl (eU rfl cM sizeOf153 rfl rfl rfl (by simp only [Zl,bF,bH,encStr,iZ,dL];rfl) rfl) (Fin.wk (by(simp;done)) (Hc (bW _ _)<|trivial) ⟨rfl,trivial⟩) ?_;refine⟨?_,rfl⟩;rw [hR,← hD,hG];rfl
end Go.Proofs.YtiifmppaejpemaaGreatDoor
