/-
  Parts of the proof: rules of an abstract program logic, contracts of functions, plain laws. Conditions: each theorem's own.
-/
import Derived.Test.YtmkgeogoojcciaaGreatDoorKS1M8
set_option linter.unusedVariables false
set_option linter.unusedSimpArgs false
set_option maxRecDepth 100000
set_option maxHeartbeats 8000000
namespace Go.Proofs
theorem P0:type_of% Tryz.call12:=Tryz.call12
theorem W3:type_of% Tryz.call13:=Tryz.call13
theorem sI:type_of% Tryz.call14:=Tryz.call14
theorem PZ:type_of% Tryz.call17:=Tryz.call17
theorem W2:type_of% Tryz.call18:=Tryz.call18
theorem W0:type_of% Tryz.call23:=Tryz.call23
end Go.Proofs
namespace Go.Abs
theorem lK {P:Program} {G0:aA} {N:Nat} {ops:Array Oper} {K:bI→aA→Prop} {l:List Oper} {E E':bI} {H H':aA} (he:bY G0 E H E' H') (h:AL P G0 N ops K l E' H'):AL P G0 N ops K l E H :=fun G hG a w hs ro hro Q hq=>h G hG a w (he G hG N a w hs) ro hro Q hq
def AR (T:Nat) (ops:List Oper) (rs:List Rec):Bool :=(rF 0 ops&&rC ops (KT ops []) 0 [] (List.zipWith Ent2.mk (ops.take T) rs))&&(List.range ops.length).all fun j=>Nat.blt j T||(List.range j).all fun i=>((KT ops []).getD j 0).testBit i
theorem O7 {F:Fence} {nn:Nat} {P:Program} {ops:Array Oper} {Q:Exit→Act→World→Prop} {T:Nat} (hedge:∀ j o,ops.toList[j]?=some o→∀ e∈o.after.toList,Region.binds .any e=true→e.on < j) (htail:∀ (j:Nat),T≤j→j < ops.size→∀ i,i < j→T8 ops.toList i j) :
  ∀ (fuel j:Nat) (listed:Array Bool) (a:Act) (w:World),T≤j→listed.size=ops.size→(∀ i,i < ops.size→listed.getD i false=decide (i < j))→ops.size - j≤fuel→wpListIn F nn P ops Q (ops.toList.drop j) a w→wpAnyIn F nn P .any ops Q fuel listed a w:=by
 intro fuel;have rdy:∀ (j:Nat) (listed:Array Bool),T≤j→listed.size=ops.size→(∀ i,i < ops.size→listed.getD i false=decide (i < j))→(∀ i∈Region.ready .any ops listed,i=j∧i < ops.size)∧(j < ops.size→j∈Region.ready .any ops listed):=by
  intro j listed hj hsz hli;constructor
  ·intro i hi;have hi1:=List.mem_filter.1 hi;have hilt:i < ops.size:=List.mem_range.1 hi1.1;have hi':i < listed.size:=by omega
   have ho:ops[i]?=some ops[i]:=Array.getElem?_eq_getElem hilt;have hi2:=hi1.2;simp only [ho,Option.map_some,Option.getD_some,XR] at hi2;obtain ⟨hnl,hpreds⟩:=hi2;have hnl':listed.getD i false=false:=by
    simp [Array.getD,hi'] at hnl ⊢;exact hnl
   rw [hli i hilt] at hnl';have hge:j≤i:=by have:=XF hnl';omega
   refine⟨Classical.byContradiction fun hne=>?_,hilt⟩;have h1:=htail i (by omega) hilt j (by omega) (fun q=>decide (q < j)&&decide (q < ops.size)) (fun q o hq hS e he hb=>by
    have h2:=hedge q o hq e he hb;simp only [XR,XP] at hS ⊢;omega) ops[i] (by simp [ho]) (fun e he hb=>by
    have h2:=(Array.all_eq_true'.1 hpreds) e (by simpa using he);have h3:listed.getD e.on false=true:=by simpa [hb] using h2
    have h4:=hedge i ops[i] (by simp [ho]) e he hb;rw [hli e.on (by omega)] at h3;simp only [XR,XP];exact⟨XE h3,by omega⟩)
   simp at h1
  intro hjs;have ho:ops[j]?=some ops[j]:=Array.getElem?_eq_getElem hjs;have hj':j < listed.size:=by omega
  refine List.mem_filter.2 ⟨List.mem_range.2 hjs,?_⟩;have hn:listed.getD j false=false:=by rw [hli j hjs];exact decide_eq_false (Nat.lt_irrefl _)
  have hn':listed.getD j true=false:=by
   simp [Array.getD,hj'] at hn ⊢;exact hn
  simp only [hn',Bool.not_false,Bool.true_and,ho,Option.map_some,Option.getD_some];rw [Array.all_eq_true'];intro e he;cases hb:Region.binds .any e with
  | false=>simp
  | true =>
   have hon:=hedge j ops[j] (by simp [ho]) e (by simpa using he) hb;simp only [Bool.not_true,Bool.false_or];rw [hli e.on (by omega)];exact decide_eq_true hon
 induction fuel with
 | zero =>
  intro j listed a w hj hsz hli hf h;obtain ⟨r1,r2⟩:=rdy j listed hj hsz hli;have hd:ops.toList.drop j=[]:=List.drop_eq_nil_of_le (by rw [Array.length_toList];omega);rw [hd] at h;refine⟨?_,h⟩;cases hr:Region.ready .any ops listed with
  | nil=>rfl
  | cons i r =>
   have:=r1 i (by rw [hr];exact List.mem_cons_self);omega
 | succ fuel ih =>
  intro j listed a w hj hsz hli hf h;obtain ⟨r1,r2⟩:=rdy j listed hj hsz hli;refine⟨fun hnil=>?_,fun i hi=>?_⟩
  ·have hd:ops.toList.drop j=[]:=List.drop_eq_nil_of_le (by
    rw [Array.length_toList];refine Classical.byContradiction fun hno=>?_;have:=r2 (by omega);rw [hnil] at this;cases this)
   rw [hd] at h;exact h
  obtain ⟨rfl,hilt⟩:=r1 i hi;have ho:ops[i]?=some ops[i]:=Array.getElem?_eq_getElem hilt;have hdr:ops.toList.drop i=ops[i]::ops.toList.drop (i+1):=by
   rw [List.drop_eq_getElem_cons (by simpa using hilt)];simp
  rw [hdr] at h;have hi':i < listed.size:=by omega
  have hlist:∀ q,(listed.setIfInBounds i true).getD q false=if q=i then true else listed.getD q false:=by
   intro q;by_cases e:q=i
   ·subst e;simp [Array.getD,hi']
   simp only [Array.getD_eq_getD_getElem?,Array.getElem?_setIfInBounds_ne (Ne.symm e),e,if_false]
  have next:∀ a w,wpListIn F nn P ops Q (ops.toList.drop (i+1)) a w→wpAnyIn F nn P .any ops Q fuel (listed.setIfInBounds i true) a w:=fun a w hh =>
   ih (i+1) _ a w (by omega) (by simp [hsz]) (fun q hq=>by
    rw [hlist];by_cases e:q=i
    ·subst e;rw [XH rfl];exact(decide_eq_true (by omega)).symm
    rw [XG e,hli q hq];exact decide_eq_decide.2 (by omega)) (by omega) hh
  unfold wpOpIn;simp only [ho];unfold wpListIn at h
  split
  ·next hw =>
   rw [XH hw] at h;exact Oper.wpIn_mono next h
  next hw =>
  rw [XG hw] at h;exact⟨h.1,next _ _ h.2⟩
theorem KY {P:Program} {G0:aA} {N id:Nat} {Q:Exit→bI→aA→Prop} {ops:Array Oper} {E E':bI} {H H':aA} {rs:List Rec} (T:Nat) (hm:P.follows .mixedOrders=true) (hT:T≤ops.size) (hc:DChain P N ops.toList (ops.toList.take T) E H rs E' H') (hok:AR T ops.toList rs=true)
  (hB:AL P G0 N ops (fun E H=>Q .normal E H) (ops.toList.drop T) E' H'):fV P G0 N (.region id ops true) Q E H:=by
 intro G hG a w hs ro hro;have hnd0:ro=none∨ops.toList.all Oper.noDefer=true:=hro;refine wpIn_region_any hm ?_;obtain ⟨hlen,hst,hE',hH'⟩:=hc.spec;obtain ⟨l,hl⟩:∃ l,l=List.zipWith Ent2.mk (ops.toList.take T) rs:=⟨_,rfl⟩;rw [← hl] at hst hE' hH';simp only [AR,XR,← hl] at hok;obtain ⟨⟨hok1,hok2⟩,hok3⟩:=hok;have hTl:(ops.toList.take T).length=T:=by rw [XW,Array.length_toList];omega
 rw [hTl] at hE' hH';have hndB:ro=none∨(ops.toList.drop T).all Oper.noDefer=true:=hnd0.imp (fun h=>h) fun h=>List.all_eq_true.2 fun x hx=>List.all_eq_true.1 h x (List.mem_of_mem_drop hx);have hll:l.length=T:=by rw [hl,List.length_zipWith,hlen,hTl];omega
 have hlo:∀ (i:Nat) (x:Ent2),l[i]?=some x→ops.toList[i]?=some x.o:=by
  intro i x hx;have hiT:i < T:=by have:=(XM.1 hx).1;omega
  rw [hl,List.getElem?_zipWith,List.getElem?_take_of_lt hiT] at hx;cases e1:ops.toList[i]? with
  | none=>simp [e1] at hx
  | some o =>
   cases e2:rs[i]? with
   | none=>simp [e1,e2] at hx
   | some r=>simp [e1,e2] at hx;rw [← hx]
 have hedge:=rD ops.toList 0 hok1;have hbef:∀ (i j:Nat) (x y:Ent2),i < j→l[i]?=some x→l[j]?=some y→eW ops.toList x y=true→T8 ops.toList i j:=fun i j x y hij hx hy hcl =>
  tH ops.toList [] [] rfl rfl (by simp) j i (rB l [] hok2 i j hij (XZ _) x y hx hy hcl)
 have htail:∀ (j:Nat),T≤j→j < ops.size→∀ i,i < j→T8 ops.toList i j:=by
  intro j hj hjs i hi;have h1:=List.all_eq_true.1 hok3 j (List.mem_range.2 (by rw [Array.length_toList];exact hjs));rw [Bool.or_eq_true] at h1;rcases h1 with h1|h1
  ·rw [Nat.blt_eq] at h1;omega
  exact tH ops.toList [] [] rfl rfl (by simp) j i (List.all_eq_true.1 h1 i (List.mem_range.2 hi))
 have hedge0:∀ j o,ops.toList[j]?=some o→∀ e∈o.after.toList,Region.binds .any e=true→e.on < j:=fun j o h e he hb=>by have:=hedge j o h e he hb;omega
 have fin:∀ (fuel:Nat) (listed:Array Bool) (a:Act) (w:World) (E1:bI) (H1:aA),listed.size=ops.size→ops.size≤T+fuel→(∀ j,T≤j→listed.getD j false=false)→(∀ i,i < T→listed.getD i false=true)→St G N E1 H1 a w→(∀ t,E1.get t=pV E l (fun i=>listed.getD i false) T t)→(∀ j,H1.get j=pU H l (fun i=>listed.getD i false) T j) →
   wpAnyIn (RF ro) 0 P .any ops (fun e a w=>∃ E H,Q e E H∧St G N E H a w) fuel listed a w:=by
  intro fuel listed a w E1 H1 hsz hfu hnoB hall hst1 hE1 hH1;refine O7 hedge0 htail fuel T listed a w (XO _) hsz (fun i hi=>?_) (by omega) ?_
  ·by_cases h:i < T
   ·rw [hall i h,decide_eq_true h]
   rw [hnoB i (by omega),decide_eq_false h]
  refine hB G hG a w (bY.get (G0:=G0) (fun t=>?_) (fun j=>?_) G hG N a w hst1) ro hndB _ (fun E H a w hK hst=>⟨E,H,hK,hst⟩)
  ·rw [hE' t,hE1 t];exact(iZ (E:=E) T T (XO _) (fun j x hj _=>⟨fun hlt=>hall j hlt,fun h1 h2=>by omega⟩)).symm
  rw [hH' j,hH1 j];exact(iY (H:=H) T T (XO _) (fun i x hi _=>⟨fun hlt=>hall i hlt,fun h1 h2=>by omega⟩)).symm
 have cnt:∀ (fuel:Nat) (listed:Array Bool),listed.size=ops.size→(∀ j,T≤j→listed.getD j false=false)→((List.range ops.size).filter fun i=>!listed.getD i true).length≤fuel→ops.size≤T+fuel:=by
  intro fuel listed hsz hnoB hcnt;have h1:(List.range' T (ops.size - T)).length≤((List.range ops.size).filter fun i=>!listed.getD i true).length:=by
   refine List.Nodup.length_le_of_subset List.nodup_range' fun j hj=>?_;rw [List.mem_range'_1] at hj;have hjl:j < listed.size:=by omega
   have h2:=hnoB j (by omega);refine List.mem_filter.2 ⟨List.mem_range.2 (by omega),?_⟩;simp [Array.getD,hjl] at h2 ⊢;exact h2
  rw [List.length_range'] at h1;omega
 have main:∀ (fuel:Nat) (listed:Array Bool) (a:Act) (w:World) (E1:bI) (H1:aA),listed.size=ops.size→((List.range ops.size).filter fun i=>!listed.getD i true).length≤fuel →
   xG ops.toList (fun i=>listed.getD i false)→(∀ j,T≤j→listed.getD j false=false)→St G N E1 H1 a w→(∀ t,E1.get t=pV E l (fun i=>listed.getD i false) T t)→(∀ j,H1.get j=pU H l (fun i=>listed.getD i false) T j) →
   wpAnyIn (RF ro) 0 P .any ops (fun e a w=>∃ E H,Q e E H∧St G N E H a w) fuel listed a w:=by
  intro fuel
  induction fuel with
  | zero =>
   intro listed a w E1 H1 hsz hcnt hdown hnoB hst1 hE1 hH1;have hall:∀ i,i < T→listed.getD i false=true:=by
    intro i hi;have hnil:=List.eq_nil_of_length_eq_zero (Nat.le_zero.1 hcnt);have:=List.filter_eq_nil_iff.1 hnil i (List.mem_range.2 (by omega));have hi':i < listed.size:=by omega
    simp [Array.getD,hi'] at this ⊢;exact this
   exact fin 0 listed a w E1 H1 hsz (cnt 0 listed hsz hnoB hcnt) hnoB hall hst1 hE1 hH1
  | succ fuel ih =>
   intro listed a w E1 H1 hsz hcnt hdown hnoB hst1 hE1 hH1;by_cases hallT:∀ i,i < T→listed.getD i false=true
   ·exact fin _ listed a w E1 H1 hsz (cnt _ listed hsz hnoB hcnt) hnoB hallT hst1 hE1 hH1
   refine⟨fun hnil=>?_,fun i hi=>?_⟩
   ·-- nothing is left
    exfalso;have hall:∀ i,i < ops.size→listed.getD i false=true:=by
     intro i
     induction i using Nat.strongRecOn with
     | _ i ihi =>
      intro hi;refine Classical.byContradiction fun hno=>?_;have hi':i < listed.size:=by omega
      have hno':listed.getD i true=false:=by
       simp [Array.getD,hi'] at hno ⊢;exact hno
      have hlt:i < ops.toList.length:=by simpa using hi
      have hr:i∈Region.ready .any ops listed:=by
       unfold Region.ready;refine List.mem_filter.2 ⟨List.mem_range.2 hi,?_⟩;have ho:ops[i]?=some ops[i]:=Array.getElem?_eq_getElem hi;simp only [hno',Bool.not_false,Bool.true_and,ho,Option.map_some,Option.getD_some];rw [Array.all_eq_true'];intro e he;cases hb:Region.binds .any e with
       | false=>simp
       | true =>
        have hon:=hedge i ops[i] (by simp [ho]) e (by simpa using he) hb;simp only [Bool.not_true,Bool.false_or];exact ihi e.on (by omega) (by omega)
      rw [hnil] at hr;cases hr
    exact hallT fun i hi=>hall i (by omega)
   have hi1:=List.mem_filter.1 hi;have hilt:i < ops.size:=List.mem_range.1 hi1.1;have hi':i < listed.size:=by omega
   have ho:ops[i]?=some ops[i]:=Array.getElem?_eq_getElem hilt;have hi2:=hi1.2;simp only [ho,Option.map_some,Option.getD_some,XR] at hi2;obtain ⟨hnl,hpreds⟩:=hi2;have hnl':listed.getD i false=false:=by
    simp [Array.getD,hi'] at hnl ⊢;exact hnl
   have hpre:∀ e∈(ops[i]).after.toList,Region.binds .any e=true→listed.getD e.on false=true:=by
    intro e he hb;have:=(Array.all_eq_true'.1 hpreds) e (by simpa using he)
    simpa [hb] using this
   have hiT:i < T:=by
    refine Classical.byContradiction fun hno=>hallT fun q hq=>?_;exact htail i (by omega) hilt q (by omega) _ hdown ops[i] (by simp [ho]) hpre
   have hil:i < l.length:=by omega
   obtain ⟨x,hx⟩:∃ x,l[i]?=some x:=⟨_,XN hil⟩;have hxo:x.o=ops[i]:=by
    have:=hlo i x hx;simp [ho] at this;exact this.symm
   obtain ⟨hdok,Ek,Hk,hEk,hHk,hdst⟩:=hst i x hx;have hbefore:∀ (j:Nat) (y:Ent2),j < i→l[j]?=some y→eW ops.toList y x=true→listed.getD j false=true:=by
    intro j y hj hy hcl;exact hbef j i y x hj hy hx hcl _ hdown ops[i] (by simp [ho]) hpre
   have hbehind:∀ (j:Nat) (y:Ent2),i < j→l[j]?=some y→eW ops.toList x y=true→listed.getD j false=false:=by
    intro j y hj hy hcl;cases hjl:listed.getD j false with
    | false=>rfl
    | true =>
     have hjlt:j < l.length:=(XM.1 hy).1;have hjo:ops.toList[j]?=some y.o:=hlo j y hy;have:=hbef i j x y hj hx hy hcl _ hdown y.o hjo (fun e he hb=>hdown j y.o hjo hjl e he hb);rw [hnl'] at this;cases this
   have agreeE:∀ t,(∀ (j:Nat) (y:Ent2),l[j]?=some y→y.o.dst=some t→(j < i→eW ops.toList y x=true)∧(i < j→eW ops.toList x y=true))→E1.get t=Ek.get t:=by
    intro t ht;rw [hE1 t,hEk t];refine iZ (E:=E) T i (by omega) (fun j y hj hd=>⟨fun hlt=>hbefore j y hlt hj ((ht j y hj hd).1 hlt),fun h1 h2=>?_⟩);by_cases e:j=i
    ·subst e;exact hnl'
    exact hbehind j y (by omega) hj ((ht j y hj hd).2 (by omega))
   have agreeH:∀ k,(∀ (j:Nat) (y:Ent2),l[j]?=some y→(y.r.W.get k).isSome=true→(j < i→eW ops.toList y x=true)∧(i < j→eW ops.toList x y=true))→H1.get k=Hk.get k:=by
    intro k hk;rw [hH1 k,hHk k];refine iY (H:=H) T i (by omega) (fun j y hj hd=>⟨fun hlt=>hbefore j y hlt hj ((hk j y hj hd).1 hlt),fun h1 h2=>?_⟩);by_cases e:j=i
    ·subst e;exact hnl'
    exact hbehind j y (by omega) hj ((hk j y hj hd).2 (by omega))
   have hlooks:∀ t,t∈eG ops.toList x.o→E1.get t=Ek.get t:=fun t ht =>
    agreeE t fun j y hj hd=>⟨fun _=>nB hd ht,fun _=>nA hd ht⟩
   have hreads:∀ k,mN x.r.R k=true→H1.get k=Hk.get k:=fun k hk =>
    agreeH k fun j y hj hd=>⟨fun _=>zP hd hk,fun _=>zQ hd hk⟩
   have hlist:∀ j,(listed.setIfInBounds i true).getD j false=if j=i then true else listed.getD j false:=by
    intro j;by_cases e:j=i
    ·subst e;simp [Array.getD,hi']
    simp only [Array.getD_eq_getD_getElem?,Array.getElem?_setIfInBounds_ne (Ne.symm e),e,if_false]
   have hdown':xG ops.toList (fun j=>(listed.setIfInBounds i true).getD j false):=by
    intro j o hj hjl e he hb;simp only [hlist] at hjl ⊢;by_cases ej:j=i
    ·subst ej;have:o=ops[j]:=by simp [ho] at hj;exact hj.symm
     subst this;have:=hpre e he hb;simp [this]
    simp only [ej,if_false] at hjl;have:=hdown j o hj hjl e he hb;simp only at this;simp [this]
   have hcnt':((List.range ops.size).filter fun j=>!(listed.setIfInBounds i true).getD j true).length≤fuel:=by
    have hlist':∀ j,(listed.setIfInBounds i true).getD j true=if j=i then true else listed.getD j true:=by
     intro j;by_cases e:j=i
     ·subst e;simp [Array.getD,hi']
     simp only [Array.getD_eq_getD_getElem?,Array.getElem?_setIfInBounds_ne (Ne.symm e),e,if_false]
    have h1:((List.range ops.size).filter fun j=>!(listed.setIfInBounds i true).getD j true)=((List.range ops.size).filter fun j=>!listed.getD j true).filter fun j=>j != i:=by
     rw [List.filter_filter];refine List.filter_congr fun j _=>?_;rw [hlist'];by_cases e:j=i<;>simp [e]
    rw [h1];have h2:=List.length_filter_lt_length_iff_exists (p:=fun j=>j != i) (l:=(List.range ops.size).filter fun j=>!listed.getD j true) |>.2 ⟨i,List.mem_filter.2 ⟨hi1.1,by simpa using hnl⟩,by simp⟩;omega
   have next:∀ (r:AV) (a':Act) (w':World),r=x.r.v→St G N (jA E1 x.o.dst x.r.v) (x.r.W++H1) a' w'→wpAnyIn (RF ro) 0 P .any ops (fun e a w=>∃ E H,Q e E H∧St G N E H a w) fuel (listed.setIfInBounds i true) a' w':=by
    intro r a' w' _ hst';refine ih _ a' w' _ _ (by simp [hsz]) hcnt' hdown' (fun j hj=>by rw [hlist,XG (by omega)];exact hnoB j hj) hst' (fun t=>?_) (fun k=>?_)
    ·-- slots
     by_cases hd:x.o.dst=some t
     ·have e1:bI.get (jA E1 x.o.dst x.r.v) t=some x.r.v:=by rw [hd];simp [jA,bI.get_cons_same]
      rw [e1];have e2:=iZ (E:=E) (l:=l) (S:=fun j=>(listed.setIfInBounds i true).getD j false) (t:=t) T (i+1) (by omega) (fun j y hj hyd=>⟨fun hlt=>?_,fun h1 h2=>?_⟩)
      ·rw [e2,pV,hx];simp [hd]
      ·simp only [hlist];by_cases ej:j=i
       ·simp [ej]
       simp only [ej,if_false];exact hbefore j y (by omega) hj (jG hyd hd)
      simp only [hlist];rw [XG (by omega)];exact hbehind j y (by omega) hj (jG hd hyd)
     have e1:bI.get (jA E1 x.o.dst x.r.v) t=E1.get t:=by
      cases hdd:x.o.dst with
      | none=>rfl
      | some d=>exact bI.get_cons_other _ _ (fun e=>hd (by rw [hdd,e]))
     rw [e1,hE1 t];have:∀ n,pV E l (fun i=>listed.getD i false) n t=pV E l (fun j=>(listed.setIfInBounds i true).getD j false) n t:=by
      intro n
      induction n with
      | zero=>rfl
      | succ n ihn =>
       rw [pV,pV];cases hn:l[n]? with
       | none=>exact ihn
       | some y =>
        simp only;by_cases en:n=i
        ·subst en;rw [hx] at hn;cases hn;rw [XG (fun h=>hd h.2),XG (fun h=>hd h.2)];exact ihn
        have hS:(listed.setIfInBounds i true).getD n false=listed.getD n false:=by rw [hlist,XG en]
        rw [hS,ihn]
     exact this _
    rw [rS];by_cases hd:(x.r.W.get k).isSome=true
    ·obtain ⟨ob,hob⟩:=Option.isSome_iff_exists.1 hd;rw [hob];have e2:=iY (H:=H) (l:=l) (S:=fun j=>(listed.setIfInBounds i true).getD j false) (id:=k) T (i+1) (by omega) (fun j y hj hyd=>⟨fun hlt=>?_,fun h1 h2=>?_⟩)
     ·rw [e2,pU,hx];simp [hob]
     ·simp only [hlist];by_cases ej:j=i
      ·simp [ej]
      simp only [ej,if_false];exact hbefore j y (by omega) hj (pA hyd hd)
     simp only [hlist];rw [XG (by omega)];exact hbehind j y (by omega) hj (pA hd hyd)
    have hnone:x.r.W.get k=none:=by simpa using hd
    rw [hnone];simp only;rw [hH1 k];have:∀ n,pU H l (fun i=>listed.getD i false) n k=pU H l (fun j=>(listed.setIfInBounds i true).getD j false) n k:=by
     intro n
     induction n with
     | zero=>rfl
     | succ n ihn =>
      rw [pU,pU];cases hn:l[n]? with
      | none=>exact ihn
      | some y =>
       simp only;by_cases en:n=i
       ·subst en;rw [hx] at hn;cases hn;rw [XG (fun h=>hd h.2),XG (fun h=>hd h.2)];exact ihn
       have hS:(listed.setIfInBounds i true).getD n false=listed.getD n false:=by rw [hlist,XG en]
       rw [hS,ihn]
    exact this _
   unfold wpOpIn;simp only [ho];rw [hxo] at hdst hlooks hdok;rw [hxo] at next;have hgE:∀ (j:Nat) (want:Bool) (t:Tmp) (b:Bool),(ops[i]).guard=some (j,want)→gH ops.toList j=some t→Ek.get t=some (.pv (.bool b))→yielded ops a.tmps j=some b:=by
    intro j want t b hg hj hb;have hmem:t∈eG ops.toList ops[i]:=by simp [eG,hg,hj]
    exact j3 (E:=E1) hj ((hlooks t hmem).trans hb) hst1.rel.choose_spec.choose_spec.2.2
   have hnd:ro=none∨(ops[i]).noDefer=true:=hnd0.imp (fun h=>h) fun h=>List.all_eq_true.1 h _ (by simp);cases hdst with
   | plain hg h =>
    have hw:Region.wanted ops[i] (yielded ops a.tmps)=true:=by simp [Region.wanted,hg]
    simp only [hw,if_true];refine hst1.op hdok ((h H1 hreads).restr hlooks) ?_ hnd;rintro r H2 a' w' ⟨rfl,rfl⟩ hs';exact next _ a' w' rfl hs'
   | on j want t b hg hj hb hw h =>
    have hy:=hgE j want t b hg hj hb;have hw:Region.wanted ops[i] (yielded ops a.tmps)=true:=by simp [Region.wanted,hg,hy,hw]
    simp only [hw,if_true];refine hst1.op hdok ((h H1 hreads).restr hlooks) ?_ hnd;rintro r H2 a' w' ⟨rfl,rfl⟩ hs';exact next _ a' w' rfl hs'
   | off j want t x' hg hj hb hw hv hW =>
    have hmem:t∈eG ops.toList ops[i]:=by simp [eG,hg,hj]
    have hw:Region.wanted ops[i] (yielded ops a.tmps)=false :=
     sX (E:=E1) hg hj ((hlooks t hmem).trans hb) hw hst1.rel.choose_spec.choose_spec.2.2
    simp only [hw,Bool.false_eq_true,if_false];refine⟨fun _ _=>trivial,?_⟩;refine next (.tup []) _ w hv.symm ?_;obtain ⟨I,ι,hr,hst2,he⟩:=hst1.rel;rw [hv,hW];refine⟨?_,?_,I,ι,hr,hst2,fK.put hr (Step.refl _ _ _ _) he fK.skip (by rw [hst1.size];exact hdok)⟩
    ·rw [fX];exact hst1.defers
    have:=hst1.size;cases (ops[i]).dst<;>simpa [Act.put] using this
 have hs':St G N E H a {w with drawn:=w.drawn+1}:=by
  obtain ⟨I,ι,hr,hst2,he⟩:=hs.rel;obtain ⟨k2,k3⟩:=hr.drawn (w':={w with drawn:=w.drawn+1}) rfl rfl rfl rfl;exact⟨hs.defers,hs.size,I,ι,k2,hst2.trans k3,fun t v ht=>let ⟨c,h1,h2⟩:=he t v ht;⟨c,h1,h2.mono hr k3⟩⟩
 refine main ops.size (Array.replicate ops.size false) a _ E H (by simp) (by
  have:=List.length_filter_le (fun i=>!(Array.replicate ops.size false).getD i true) (List.range ops.size)
  simpa using this) (fun j o hj hjl=>by simp [Array.getD] at hjl) (fun j _=>by simp [Array.getD]) hs' (fun t=>?_) (fun k=>?_)
 ·have:∀ n,pV E l (fun i=>(Array.replicate ops.size false).getD i false) n t=E.get t:=by
   intro n
   induction n with
   | zero=>rfl
   | succ n ihn =>
    rw [pV];cases l[n]? with
    | none=>exact ihn
    | some y =>
     have hf:(Array.replicate ops.size false).getD n false=false:=by simp [Array.getD]
     simp only [hf,Bool.false_eq_true,false_and,if_false];exact ihn
  exact(this _).symm
 have:∀ n,pU H l (fun i=>(Array.replicate ops.size false).getD i false) n k=H.get k:=by
  intro n
  induction n with
  | zero=>rfl
  | succ n ihn =>
   rw [pU];cases l[n]? with
   | none=>exact ihn
   | some y =>
    have hf:(Array.replicate ops.size false).getD n false=false:=by simp [Array.getD]
    simp only [hf,Bool.false_eq_true,false_and,if_false];exact ihn
 exact(this _).symm
theorem GB {P:Program} {G0:aA} {N id:Nat} {Q:Exit→bI→aA→Prop} {ops:Array Oper} {E:bI} {H:aA} (T:Nat) (hm:P.follows .mixedOrders=true) (hT:T≤ops.size)
  (h:DC P N ops.toList (ops.toList.take T) E H (fun rs E' H'=>AR T ops.toList rs=true∧AL P G0 N ops (fun E H=>Q .normal E H) (ops.toList.drop T) E' H')):fV P G0 N (.region id ops true) Q E H:=by
 obtain ⟨rs,E',H',h1,h2,h3⟩:=h;exact KY T hm hT h1 h2 h3
end Go.Abs
namespace Go.Proofs.YtmkgeogoojcciaaGreatDoor
open Go.Proofs.Tryz
open Go.Abs Go.Lib
def UR (x:GOp):Prop:=x.put.length < 1000000000∧x.drop.length < 1000000000∧∀ p∈x.put,p.1.size < 1099511627776∧p.2.size < 1099511627776
theorem J1 {l:List GOp} (h:t8 l=true):l.length≤12∧∀ x∈l,x.put.length≤6∧x.drop.length≤6∧(∀ p∈x.put,p.1.size+p.2.size≤600)∧∀ s∈x.drop,s.size≤600:=by rw [t8,XR,XP] at h;refine⟨h.2,fun x hx=>?_⟩;have h1:=List.all_eq_true.1 h.1 x hx;rw [BI] at h1;simp only [XR,XP] at h1;exact⟨h1.1.1,h1.1.2,fun p hp=>XE (List.all_eq_true.1 h1.2.1 p hp),fun s hs=>XE (List.all_eq_true.1 h1.2.2 s hs)⟩
theorem J5 {x:GOp} (h:∀ p∈x.put,p.1.size+p.2.size≤600):¬ bH (dM x.put).1 x.drop=2:=by
 intro hw;rw [bH] at hw
 split at hw
 ·cases hw
 split at hw
 ·next hb =>
  obtain ⟨p,hp,hb⟩:=List.any_eq_true.1 hb;have:=h _ (n0 hp);rw [bigV] at hb;have:=XE hb;simp only at *;omega
 cases hw
theorem RY {k n:Nat} {x:GOp} (h:∀ p∈x.put,p.1.size+p.2.size≤600):uD k n (dM x.put).1 x.drop=0∨uD k n (dM x.put).1 x.drop=1∨uD k n (dM x.put).1 x.drop=21:=by
 rw [uD];rcases kF k n (dM x.put).1 x.drop with⟨e1,_⟩|⟨e1,_⟩|⟨e1,_⟩|⟨e1,e2⟩
 ·rw [e1];exact .inl rfl
 ·rw [e1];exact .inl rfl
 ·rw [e1];exact .inr (.inr rfl)
 have:=eM (dM x.put).1 x.drop;have:=J5 h;rw [e1,XG (by omega)];omega
theorem F6 (hhd:∀ H,aJ Tryz.prog 10 [] H (fun r H'=>r=bv true∧H'=H)) (raw:Int) (l:List GOp) (hr:0≤raw∧raw≤255) (hl:l.length < 1000000000) (hs:∀ x∈l,UR x) :
  aJ Tryz.prog 3 [.pv (.int .u8 raw),.pv (pJ l)] [] (fun r H'=>r=bv true∧H'=[]):=by
 have hml:(l.map rU).length=l.length:=XI _;have hfw:=fun H=>UZ l H (by omega) (fun x hx=>by have:=hs x hx;exact⟨by have:=this.1;omega,by have:=this.2.1;omega,this.2.2⟩);obtain ⟨N,hN⟩:∃ N,N=4+(raw % 100).toNat:=⟨_,rfl⟩;have hN4:4≤N:=by omega
 have hN1:N≤103:=by omega
 have hrem:raw.tmod 100=((N - 4:Nat):Int):=by
  rw [Int.tmod_eq_emod_of_nonneg hr.1];omega
 refine Bd func3 rfl ntmps3<|Sr<|Dd aS<|Zz<|Sr<|Dd (by exact aB rfl rfl call10 rfl (hhd _))<|Dd aS<|Zz<|Sq<|Sr<|Dd aE<|Dd (by exact aB rfl rfl call11 rfl (hfw _))<|Dd uL<|Zz ?_;refine Cn ?_ ?_<;>intro hc1
 ·exact Sr<|Dd aE<|Dd aS<|Zz<|aN<|Rt<|Qq
 have hq:t8 l=true:=by have h:=hc1;simpa using h
 obtain ⟨hl12,hfx⟩:=J1 hq;obtain ⟨k,hk⟩:∃ k,k=(N - 2) / 2:=⟨_,rfl⟩;have hop:=oV (r4 (n:=N) (by omega) (by omega)) (qW hN4) hN4 rfl;rw [← hk] at hop;refine aG<|Sr<|Dd aE<|Dd (by exact eR rfl bQ bV rfl (iA (by omega) (by omega)))<|Dd (by exact uT rfl rfl rfl (by decide) hrem)<|Dd (by exact cF rfl rfl rfl (show IntKind.i64.wrap (4+((N - 4:Nat):Int))=(N:Int)by rw [iA (by omega) (by omega)];omega))<|Dd (by exact aB rfl rfl W3 rfl (M9 N (by omega) (by omega))) ?_;refine iN rfl rfl (aB rfl rfl P0 rfl hop) ?_;rintro _ _ ⟨rfl,lm,cm,q1,q2,q3,q4,rfl⟩;refine Dd aE<|Dd eB<|Dd eB<|Dd aS<|Dd aS<|Zz<|Sq<|Sr<|Dd aE<|Dd pD<|Zz ?_;refine Cn ?_ ?_<;>intro hc2
 ·cases hc2
 obtain ⟨tl,hSt0⟩:∃ tl,St N k tl (kV N) 0 0 lm cm (fun _=>none):=⟨_,by rw [hk];exact L7 hN4 (by omega) q1 q2 q4⟩;obtain ⟨d0,hd0⟩:∃ d,d=kV N:=⟨_,rfl⟩;rw [← hd0] at hSt0 ⊢;clear hd0;have hlm:lm=[]:=List.length_eq_zero_iff.1 (by omega);have hkv0:cL lm=[]:=List.length_eq_zero_iff.1 (by rw [kM,hlm];rfl);refine aG<|Sr<|Dd aS<|Zz<|Sq<|Sr<|Dd aS<|Zz<|aM ?_;refine KW (fun(i:Nat) (d:DSt) (n:Nat) (lm:bN) (cm:Nat)=>([(1,.pv (pJ l)),(5,bv true),(6,.ref 1100 0 0 0),(8,.pv (aW (cL lm))),(9,iv (i:Int))],sH d (b7 k 0 n false) (bJ lm cm))) (fun i d n lm cm=>i≤l.length∧lm.length≤184000∧∃ C,St N k tl d 0 n lm cm C) (fun i d n lm cm=>l.length - i) 0 d0 0 lm cm ⟨XZ _,by omega,_,hSt0⟩ ?_ ?_
 ·rw [hkv0];exact(bY.wk (Eb<|Eb<|Ea<|Eb<|Eb<|trivial) (Hc (aF _ _ rfl rfl rfl)<|Hc (aC _ _)<|Hc (aL _ _ _)<|Hc (aK _ _)<|Hc (by(simp;exact⟨rfl,rfl⟩))<|Hc (aQ _ _ _)<|trivial) trivial)
 clear hSt0 hlm hkv0 q1 q2 q3 q4 lm cm;rintro i d n lm cm ⟨hi,hlml,C,hSt⟩;have hlmlen:=hSt.inv.len hSt.nd hSt.kv;have hnk:=hSt.inv.nk;refine Sq<|Sr<|Dd aE<|Dd aE<|Dd (j2 lO)<|Dd dG<|Zz ?_;refine Cn ?_ ?_<;>intro hc3
 ·have hlt:i < l.length:=by have:=XE hc3;omega
  obtain ⟨x,hx⟩:=aY hlt;have hix:=cG (f:=rU) hx;obtain ⟨f1,f2,f3,f4⟩:=hfx x (XS hx);have hmk:=gE x.put;have hmkl:(dM x.put).1.length≤6:=Nat.le_trans (sR x.put ([],0)) (by show 0+x.put.length≤6;omega);have hcm:=jN hSt (by omega) (dM x.put).1 (dM x.put).2 x.drop hmk.1 hmk.2 (by omega) (by omega);have hmd:=fun H=>QX (cL lm) x H (by rw [kM];omega) (by omega) (by omega);have hEf:=RY (k:=k) (n:=n) f3;obtain ⟨E,hE⟩:∃ E,E=uD k n (dM x.put).1 x.drop:=⟨_,rfl⟩;rw [← hE] at hcm hEf;refine aG<|Sq<|aM<|Sq ?_;refine GB 12 follows (XV rfl) ?_;refine Cr [1100] (fun _ _=>aE)<|Cr [] (fun _ _=>aE)<|Cr [] (fun _ _=>aE)<|Cr [] (fun H1 hH=>by exact aZ rfl xL rfl rfl (by omega) (by exact XT _) hix rfl)<|Cr [] (fun _ _=>(RM oD))<|Cr [] (fun _ _=>(kL jP))<|Cp [950] (fun H1 hH=>by exact aB rfl rfl call15 rfl (ND x.put _ ((hH 950 rfl).trans rfl) (by omega)))<|Cr [] (fun _ _=>aE)<|Cr [] (fun _ _=>aE)<|Cr [] (fun H1 hH=>by exact aZ rfl xL rfl rfl (by omega) (by exact XT _) hix rfl)<|Cr [] (fun _ _=>(RM sZ))<|Cr [] (fun _ _=>(kL b5))<|cM<|Kr ?_;refine iN rfl rfl (aB rfl rfl sI rfl hcm) ?_;rintro _ _ ⟨rfl,d2,n2,l2,c2,hSt2,_,rfl⟩;have hl2len:=hSt2.inv.len hSt2.nd hSt2.kv;have hn2k:=hSt2.inv.nk;have hct:=F5 d2 k 0 n2 false l2 c2 hSt2.st hSt2.nd (by omega);have hsm:=fun H=>CI (cL l2) (cL l2) H (by rw [kM];omega) (by rw [kM];omega);have g61:(!decide (cL l2=cL l2))=false:=by rw [decide_eq_true rfl];rfl
  refine Dd aS<|Zz<|Sq<|Sr<|Dd aE<|Dd hU<|Zz ?_;refine Cn ?_ ?_<;>intro hc4
  ·have e0:E=0:=by have:=XE hc4;omega
   have hmod:BC (cL lm) x.put x.drop=cL l2:=NB hSt.nd hSt2.nd hSt.kv (fun y=>by rw [hSt2.kv,XH e0]) (fun y=>mW);rw [hmod] at hmd;subst e0;refine Rg<|Dd aE<|Dd aE<|Dd aE<|Dd (by exact aZ rfl xL rfl rfl (by omega) (by exact XT _) hix rfl)<|Dd (by exact xT rfl isAgg37 sizeOf37 rfl (by omega) (by simp only [Zl,encStr,oG,rU];rfl) rfl)<|Dd (by exact aB rfl rfl call16 rfl (hmd _))<|Dd aS<|Zz<|Sr<|Dd aE<|Dd (by exact aB rfl rfl W2 rfl (fG hct _ ⟨rfl,rfl,rfl,rfl,rfl,rfl,trivial⟩ (by simp;rfl)))<|Dd aE<|Dd (by exact aB rfl rfl PZ rfl (hsm _))<|Dd uL<|Dd aE<|Oa aE<|Oa pD<|Oa aE<|Fo<|Fo<|Oa gO<|Oa aE<|Fo<|Fo<|Oa gO<|Dd CP<|Zz ?_;refine Cn ?_ ?_<;>intro hc5
   ·((cases hc5;done))
   refine aG<|Rg<|Dd aE<|Dd kU<|Da ?_;refine⟨i+1,d2,n2,l2,c2,⟨by omega,by omega,_,hSt2⟩,by omega,?_⟩;exact(bY.wk (Eb<|Eb<|Ea<|Eb<|Eb<|trivial) (Hc (aF _ _ rfl rfl rfl)<|Hc (aC _ _)<|Hc (aL _ _ _)<|Hc (aK _ _)<|Hc (by(simp;exact⟨rfl,rfl⟩))<|Hc (aQ _ _ _)<|trivial) trivial)
  have e0:¬ E=0:=by have:=XF hc4;omega
  have hsame:cL lm=cL l2:=wE hSt.nd hSt2.nd fun y=>by rw [hSt.kv,hSt2.kv,XG e0]
  rw [hsame];rcases hEf with e1|e1|e1
  ·exact absurd e1 e0
  ·subst e1;refine aG<|Sr<|Dd aE<|Dd (by exact aB rfl rfl W2 rfl (fG hct _ ⟨rfl,rfl,rfl,rfl,rfl,rfl,trivial⟩ (by simp;rfl)))<|Dd aE<|Dd (by exact aB rfl rfl PZ rfl (hsm _))<|Dd uL<|Dd aE<|Oa aE<|Oa pD<|Oa aE<|On aE<|On pD<|Oa gO<|Oa aE<|Fo<|Fo<|Oa gO<|Dd CP<|Zz ?_;refine Cn ?_ ?_<;>intro hc6
   ·((cases hc6;done))
   refine aG<|Rg<|Dd aE<|Dd kU<|Da ?_;refine⟨i+1,d2,n2,l2,c2,⟨by omega,by omega,_,hSt2⟩,by omega,?_⟩;exact(bY.wk (Eb<|Eb<|Ea<|Eb<|Eb<|trivial) (Hc (aF _ _ rfl rfl rfl)<|Hc (aC _ _)<|Hc (aL _ _ _)<|Hc (aK _ _)<|Hc (by(simp;exact⟨rfl,rfl⟩))<|Hc (aQ _ _ _)<|trivial) trivial)
  subst e1;refine aG<|Sr<|Dd aE<|Dd (by exact aB rfl rfl W2 rfl (fG hct _ ⟨rfl,rfl,rfl,rfl,rfl,rfl,trivial⟩ (by simp;rfl)))<|Dd aE<|Dd (by exact aB rfl rfl PZ rfl (hsm _))<|Dd uL<|Dd aE<|Oa aE<|Oa pD<|Oa aE<|On aE<|On pD<|Oa gO<|Oa aE<|On aE<|On pD<|Oa gO<|Dd CP<|Zz ?_;refine Cn ?_ ?_<;>intro hc7
  ·((cases hc7;done))
  refine aG<|Rg<|Dd aE<|Dd kU<|Da ?_;refine⟨i+1,d2,n2,l2,c2,⟨by omega,by omega,_,hSt2⟩,by omega,?_⟩;exact(bY.wk (Eb<|Eb<|Ea<|Eb<|Eb<|trivial) (Hc (aF _ _ rfl rfl rfl)<|Hc (aC _ _)<|Hc (aL _ _ _)<|Hc (aK _ _)<|Hc (by(simp;exact⟨rfl,rfl⟩))<|Hc (aQ _ _ _)<|trivial) trivial)
 have hks:=A5 d k 0 n false lm cm hSt.st (by omega);have hinc:=vD hSt.nd;have htl:=fL lm;have hmt:((bP lm).map encStr).length=(bP lm).length:=XI _;refine a6<|Sr<|Dd aE<|Dd (by exact aB rfl rfl W1 rfl (hks))<|Dd aS<|Zz<|Sq<|Sr<|Dd aS<|Zz<|aM ?_;refine bB (σ:=Nat) (fun j=>([(5,bv true),(11,.pv (aW (bP lm))),(12,iv (j:Int))],[])) (fun j=>1≤j) (fun j=>(bP lm).length - j) 1 (XO _) ?_ ?_
 ·exact Wk
 intro j hj;refine Sq<|Sr<|Dd aE<|Dd aE<|Dd (j2 aO)<|Dd dG<|Zz ?_;refine Cn ?_ ?_<;>intro hc8
 ·have hlt:j < (bP lm).length:=by have:=XE hc8;omega
  obtain ⟨s,hs⟩:=aY (l:=bP lm) (k:=j - 1) (by omega);obtain ⟨t,ht⟩:=aY hlt;have his:=cG (f:=encStr) hs;have hit:=cG (f:=encStr) ht;have hst:j0 s t=true:=by
   obtain ⟨p1,e1⟩:=XM.1 hs;obtain ⟨p2,e2⟩:=XM.1 ht;have:=List.pairwise_iff_getElem.1 hinc (j - 1) j p1 p2 (by omega)
   rwa [e1,e2] at this
  refine aG<|Sq<|aM<|Sq<|bK follows<|Cq aE<|Cq aE<|Cq (by exact dO rfl rfl rfl (show IntKind.i64.wrap ((j:Int) - 1)=((j - 1:Nat):Int)by rw [iA (by omega) (by omega)];omega))<|Cq (by exact aZ rfl bR rfl rfl (by omega) (by exact XT _) his rfl)<|Cq (kL aU)<|Cq aE<|Cq aE<|Cq (by exact aZ rfl bR rfl rfl (by omega) (by exact XT _) hit rfl)<|Cq (kL aU)<|Cq (by exact M0 rfl rfl rfl)<|cM<|Kr ?_;refine Cn ?_ ?_<;>intro hc9
  ·(have h:=hc9;rw [hst] at h;cases h)
  refine aG<|Rg<|Dd aE<|Dd kU<|Da ?_;exact⟨j+1,by omega,by omega,Wk⟩
 exact a6<|Sr<|Dd aE<|Dd aS<|Zz<|aN<|Rt<|Qq
end Go.Proofs.YtmkgeogoojcciaaGreatDoor
namespace Go.Proofs.YtmkgeogoojcciaaGreatDoor
open Go.Proofs.Tryz
open Go.Abs Go.ChangeShapes Go.WideShapes Go.ChangeAt Go.RowKit
theorem own:ownKnob Tryz.prog.godebug=none:=by kernel_rfl
theorem HJ:laidOutB Tryz.prog=true:=by kernel_rfl
theorem EK {H:Type} {l:List (DataW H)} (hk:Rows.uptoSmall H l=true):Rows.uptoBulkAll l≤1048576:=XE hk
theorem KO {H:Type} {l r:List (DataW H)} {n:Nat} (h:Rows.uptoBulkAll (l++r)≤n):Rows.uptoBulkAll l≤n:=by
 induction l generalizing n with
 | nil=>simp [Rows.uptoBulkAll]
 | cons x l ih =>
  simp only [List.cons_append,Rows.uptoBulkAll] at h ⊢;have:=ih (n:=n - Rows.uptoBulk x) (by omega);omega
def VL (n:Int):Prop:=(Lit.int .i64 n).wf=true
theorem V4 {B n:Nat} {ps:List PV} (h:Sh Tryz.prog B (n+1) 5 ps):∃ i,ps=[.int .u8 i]∧0≤i∧i≤255:=by obtain ⟨i,rfl,hi⟩:=vJ bQ h;exact⟨i,rfl,by simpa [Lit.wf,IntKind.min,IntKind.max,IntKind.signed,IntKind.bits] using hi⟩
theorem TP {B n:Nat} {ps:List PV} (h:Sh Tryz.prog B (n+2) 31 ps):∃ l,ps=[aW l]∧l.length≤B∧∀ s,s∈l→s.size≤B:=by obtain ⟨l,rfl,h1,h2⟩:=z8 (f:=encStr) (good:=fun s=>s.size≤B) aO h (fun r hr=>EW aI hr);exact⟨l,rfl,h1,h2⟩
theorem MI {P:Program} {B n k:Nat} {t e:TypeId} {ps:List PV} (ht:P.underlying t=some (.array k e)) (h:Sh P B (n+1) t ps):UF (fun t ps=>Sh P B n t ps) P.cellsOf (r7 P e 0 k) ps:=by unfold Sh at h;rw [ht] at h;exact h
def L4 (B:Nat) (p:ByteArray×ByteArray):Prop:=p.1.size≤B∧p.2.size≤B
theorem V6 {B n:Nat} {ps:List PV} (h:Sh Tryz.prog B (n+2) 66 ps):∃ p,ps=oG p∧L4 B p:=by obtain ⟨_,_,rfl,_,h1,_,_,rfl,_,h2,rfl⟩:=MI fT h;obtain ⟨s,rfl,q1⟩:=EW aI h1;obtain ⟨t,rfl,q2⟩:=EW aI h2;exact⟨(s,t),rfl,q1,q2⟩
theorem U5 {B n:Nat} {ps:List PV} (h:Sh Tryz.prog B (n+3) 35 ps):∃ l,ps=[IS l]∧l.length≤B∧∀ p,p∈l→L4 B p:=by obtain ⟨l,rfl,h1,h2⟩:=z8 (f:=oG) (good:=L4 B) iQ h (fun r hr=>V6 hr);exact⟨l,rfl,h1,h2⟩
def S1 (B:Nat) (o:GOp):Prop:=VL o.kind∧(o.put.length≤B∧∀ p,p∈o.put→L4 B p)∧(o.drop.length≤B∧∀ s,s∈o.drop→s.size≤B)∧VL o.a∧VL o.b∧VL o.c
def B9 (B:Nat) (l:List GOp):Prop:=l.length≤B∧∀ o,o∈l→S1 B o
theorem V5 {B n:Nat} {ps:List PV} (h:Sh Tryz.prog B (n+4) 37 ps):∃ o,ps=rU o∧S1 B o:=by obtain ⟨_,_,rfl,_,h1,_,_,rfl,_,h2,_,_,rfl,_,h3,_,_,rfl,_,h4,_,_,rfl,_,h5,_,_,rfl,_,h6,rfl⟩:=IU LB h;obtain ⟨k,rfl,q1⟩:=vJ bV h1;obtain ⟨l,rfl,q2⟩:=U5 h2;obtain ⟨d,rfl,q3⟩:=TP h3;obtain ⟨a,rfl,q4⟩:=vJ bV h4;obtain ⟨b,rfl,q5⟩:=vJ bV h5;obtain ⟨c,rfl,q6⟩:=vJ bV h6;exact⟨⟨k,l,d,a,b,c⟩,rfl,q1,q2,q3,q4,q5,q6⟩
theorem U4 {B n:Nat} {ps:List PV} (h:Sh Tryz.prog B (n+5) 22 ps):∃ l,ps=[pJ l]∧B9 B l:=by obtain ⟨l,rfl,h1,h2⟩:=z8 (f:=rU) (good:=S1 B) lO h (fun r hr=>V5 hr);exact⟨l,rfl,h1,h2⟩
theorem B9.len {l:List GOp} (h:B9 1048576 l):l.length < 1000000000:=Nat.lt_of_le_of_lt h.1 (by decide)
theorem B9.ok {l:List GOp} (h:B9 1048576 l):∀ x∈l,UR x:=fun x hx=>by
 obtain ⟨_,⟨h1,h2⟩,⟨h3,_⟩,_⟩:=h.2 x hx;exact⟨by omega,by omega,fun p hp=>by have:=h2 p hp;unfold L4 at this;omega⟩
end Go.Proofs.YtmkgeogoojcciaaGreatDoor
namespace Go.Abs
theorem aJ.frameQ {P:Program} {f:FuncId} {args:List AV} {H0 H:aA} {R:AV→aA→Prop} (h:aJ P f args H0 R) (hs:Sub H0 H) (hc:bF H0) (ha:∀ a∈args,Clo H0 a)
  (hk0:∀ r H1,R r H1→∀ id,(H1.get id).isSome=true→(H0.get id).isSome=true∨H.get id=none):aJ P f args H (fun r H'=>∃ K,R r K∧H'=K++H):=by
 intro I ι w vs hr hl hv;refine(h I ι w vs (hr.restrict hs hc) hl (fun i v a h1 h2=>(hv i v a h1 h2).restrict hs (ha a (XS h2)))).mono ?_;rintro e w' ⟨r,H',I',ι',v,rfl,hR,k1,k2,k3⟩;have hk:=hk0 r H' hR;obtain ⟨ι2,hι2⟩:∃ ι2:b6,ι2=(fun j=>if(H'.get j).isSome=true then ι' j else ι j):=⟨_,rfl⟩;have i1:∀ j o,H'.get j=some o→ι2 j=ι' j:=fun j o hj=>by rw [hι2];simp [hj]
 have i2:∀ j,H'.get j=none→ι2 j=ι j:=fun j hj=>by rw [hι2];simp [hj]
 have g1:∀ j o,H'.get j=some o→aA.get (H'++H) j=some o:=fun j o hj=>by rw [eS,hj]
 have g2:∀ j,H'.get j=none→aA.get (H'++H) j=H.get j:=fun j hj=>by rw [eS,hj]
 have hfr:∀ j o,H.get j=some o→H'.get j=none→H0.get j=none:=fun j o hj hn=>by
  cases e:H0.get j with
  | none=>rfl
  | some o0 =>
   obtain ⟨o',e1,_⟩:=k3.objs j o0 e;rw [hn] at e1;cases e1
 have hno:∀ j o b c,H.get j=some o→H'.get j=none→ι j=some (b,c)→¬ sJ ι H0 b:=fun j o b c hj hn hb ⟨j',o',c',hj',hb'⟩=>by
  have:=hr.inj j j' o o' b c c' hj (hs _ _ hj') hb hb';subst this;rw [hfr j o hj hn] at hj';cases hj'
 have hst:Step I ι H w I' ι2 (H'++H) w':=by
  refine⟨k3.os,k3.tape,k3.output,k3.size,fun a ha hn=>k3.froz a ha (fun h=>hn (h.sub hs)),k3.imm,fun b hb=>?_,?_,?_,?_⟩
  ·rcases k3.immNew b hb with h1|h1|h1
   ·exact .inl h1
   ·exact .inr (.inl (h1.sub hs))
   exact .inr (.inr h1)
  ·rintro b ⟨j,o,c,hj,hc⟩;cases e:H'.get j with
   | some o' =>
    rw [i1 j o' e] at hc;rcases k3.own b ⟨j,o',c,e,hc⟩with h1|h1
    ·exact .inl (h1.sub hs)
    exact .inr h1
   | none =>
    rw [i2 j e] at hc;rw [g2 j e] at hj;exact .inl ⟨j,o,c,hj,hc⟩
  ·intro b hb hn;exact k3.keep b hb (fun h=>hn (h.sub hs))
  intro j o hj;cases e:H'.get j with
  | some o' =>
   rcases hk j (by rw [e];rfl)with h1|h1
   ·obtain ⟨o0,e0⟩:=Option.isSome_iff_exists.1 h1;have:=hs _ _ e0;rw [hj] at this;cases this;obtain ⟨o2,q1,q2,q3⟩:=k3.objs j o e0;exact⟨o2,g1 j o2 q1,q2,fun e=>by rw [i1 j o2 q1];exact q3 e⟩
   rw [hj] at h1;cases h1
  | none=>exact⟨o,(g2 j e).trans hj,XO _,fun _=>⟨i2 j e,rfl,fun _=>XO _⟩⟩
 have hv':∀ {v:Value} {a:AV},VRel w' I' ι' H' v a→VRel w' I' ι2 (H'++H) v a:=fun hva =>
  hva.mono' (fun _ _=>rfl) (fun _ h=>h) (fun id o ho=>⟨o,g1 id o ho,XO _,fun _=>⟨i1 id o ho,rfl,fun _=>XO _⟩⟩)
 refine⟨r,H'++H,I',ι2,v,rfl,⟨H',hR,rfl⟩,hv' k1,⟨k2.imm,fun j o hj=>?_,fun j j' o o' b c c' hj hj' hc hc'=>?_,k2.glob⟩,hst⟩
 ·cases e:H'.get j with
  | some o' =>
   rw [g1 j o' e] at hj;obtain rfl:o'=o:=Option.some.inj hj;exact(k2.obj j o' e).keep (i1 j o' e) (fun _ _ _ _=>⟨rfl,fun h=>h⟩) (fun r _ a _ v hv=>hv' hv)
  | none =>
   rw [g2 j e] at hj;refine(hr.obj j o hj).keep (i2 j e) (fun b' cap' e1 hlt=>⟨k3.keep b' hlt (hno j o b' cap' hj e e1),fun e3 hi=>?_⟩) (fun r _ a _ v hv=>hv.mono hr hst);rcases k3.immNew b' hi with h1|h1|h1
   ·exact e3 h1
   ·exact hno j o b' cap' hj e e1 h1
   omega
 cases e:H'.get j with
 | some q =>
  rw [i1 j q e] at hc;cases e':H'.get j' with
  | some q' =>
   rw [i1 j' q' e'] at hc';exact k2.inj j j' q q' b c c' e e' hc hc'
  | none =>
   rw [i2 j' e'] at hc';rw [g2 j' e'] at hj';have hlt:=hr.lt ⟨j',o',c',hj',hc'⟩;rcases k3.own b ⟨j,q,c,e,hc⟩with h1|h1
   ·exact absurd h1 (hno j' o' b c' hj' e' hc')
   omega
 | none =>
  rw [i2 j e] at hc;rw [g2 j e] at hj;cases e':H'.get j' with
  | some q' =>
   rw [i1 j' q' e'] at hc';have hlt:=hr.lt ⟨j,o,c,hj,hc⟩;rcases k3.own b ⟨j',q',c',e',hc'⟩with h1|h1
   ·exact absurd h1 (hno j o b c hj e hc)
   omega
  | none =>
   rw [i2 j' e'] at hc';rw [g2 j' e'] at hj';exact hr.inj j j' o o' b c c' hj hj' hc hc'
end Go.Abs
namespace Go.Proofs.YtmkgeogoojcciaaGreatDoor
open Go.Proofs.Tryz
open Go.Abs Go.Lib
def xK (n:Nat):Nat:=if 1000≤n∧n < 1200 then n+2000 else if 3000≤n∧n < 3200 then n - 2000 else n
theorem GS (n:Nat):xK (xK n)=n:=by
 unfold xK
 repeat' split
 all_goals omega
def O3 (ga:Nat):Arm→AV
 | .never=>.pv .nilp
 | .off _ _ _=>.pv .nilp
 | .on _ _ _=>.ref 3003 ga 0 0
abbrev zJ (s:DSt):List AV:=[.osl 3001 0 0 (64*s.cells.length),.osl 3002 s.gq 0 s.q.length,bv s.off,O3 s.ga s.arm]
abbrev jU (s:DSt):aA:=[(3000,⟨0,4,80,[zJ s]⟩),(3001,⟨0,1,5,bG (flat s.cells)⟩),(3002,⟨s.gq,3,103,tU s.q⟩),(3003,⟨s.ga,3,100,nF s.arm⟩)]
abbrev uI (k a n:Nat) (b:Bool):Ob:=⟨0,6,72,[[.ref 3000 0 0 0,iv (k:Int),iv (a:Int),iv (n:Int),.mp 3101 0,bv b]]⟩
abbrev EY (s:DSt) (o m:Ob):aA:=[(3000,⟨0,4,80,[zJ s]⟩),(3001,⟨0,1,5,bG (flat s.cells)⟩),(3002,⟨s.gq,3,103,tU s.q⟩),(3003,⟨s.ga,3,100,nF s.arm⟩),(3100,o),(3101,m)]
theorem yM (ρ:Nat→Nat) {α:Type} (f:α→List PV) (l:List α):(l.map fun e=>(f e).map AV.pv).map (gX ρ)=l.map fun e=>(f e).map AV.pv:=by rw [List.map_map];refine List.map_congr_left fun e _=>?_;show gX ρ ((f e).map AV.pv)=_;rw [eP,List.map_map];rfl
theorem vP (ρ:Nat→Nat) (l:List UInt8):(bG l).map (gX ρ)=bG l:=by rw [bG,List.map_map];exact List.map_congr_left fun e _=>rfl
theorem lW (s:DSt):iS xK (a7 s)=jU s:=by
 have e1:(nF s.arm).map (gX xK)=nF s.arm:=by cases s.arm<;>rfl
 have e2:gB xK (O4 s.ga s.arm)=O3 s.ga s.arm:=by cases s.arm<;>rfl
 simp only [a7,jU,iS,iC,List.map_cons,List.map_nil,vP,yM,e1,oK,zJ,gX,e2];rfl
theorem oT (s:DSt) (k a n:Nat) (b:Bool) (l:bN) (c:Nat):iS xK (sH s (b7 k a n b) (bJ l c))=EY s (uI k a n b) (bJ l c):=by
 have e1:(nF s.arm).map (gX xK)=nF s.arm:=by cases s.arm<;>rfl
 have e2:gB xK (O4 s.ga s.arm)=O3 s.ga s.arm:=by cases s.arm<;>rfl
 have e3:=AC xK l c;simp only [sH,EY,iS,List.map_cons,List.map_nil,e3];simp only [iC,List.map_cons,List.map_nil,vP,yM,e1,oK,zJ,gX,e2];rfl
theorem kE (s:DSt) (H:aA) (h1:(H.get 3001).isSome=true) (h2:(H.get 3002).isSome=true) (h3:(H.get 3003).isSome=true):∀ r∈[zJ s],∀ a∈r,Clo H a:=by
 intro r hr a ha;rw [XL.1 hr] at ha;simp only [zJ,XU,XY,or_false] at ha;rcases ha with rfl|rfl|rfl|rfl
 ·exact .osl h1
 ·exact .osl h2
 ·exact .pv _
 cases s.arm<;>first|exact .pv _|exact .ref h3
theorem AA {H:aA} {k a n:Nat} {b:Bool} (h1:(H.get 3000).isSome=true) (h2:(H.get 3101).isSome=true):∀ r∈(uI k a n b).rows,∀ x∈r,Clo H x:=by
 intro r hr x hx;rw [XL.1 hr] at hx;simp only [XU,XY,or_false] at hx;rcases hx with rfl|rfl|rfl|rfl|rfl|rfl
 ·exact .ref h1
 ·exact .pv _
 ·exact .pv _
 ·exact .pv _
 ·exact .mp h2
 exact .pv _
theorem pQ (s:DSt):bF (jU s):=(bF.ofL ⟨(by exact kE _ _ rfl rfl rfl),(by exact aC _ _),(by exact aL _ _ _),(by exact aK _ _),trivial⟩)
theorem EX (s:DSt) (k a n:Nat) (b:Bool) (l:bN) (c:Nat):bF (EY s (uI k a n b) (bJ l c)):=(bF.ofL ⟨(by exact kE _ _ rfl rfl rfl),(by exact aC _ _),(by exact aL _ _ _),(by exact aK _ _),(by exact AA rfl rfl),(by exact aQ _ _ _),trivial⟩)
theorem H6 {f:FuncId} {args args':List AV} {H0 H3 H:aA} {R:AV→aA→Prop} (h:aJ Tryz.prog f args H0 R) (ha:gX xK args=args') (hH:iS xK H0=H3) (hs:Sub H3 H) (hc:bF H3) (hac:∀ a∈args',Clo H3 a)
  (hk:∀ r K,R r K→∀ id,(aA.get (iS xK K) id).isSome=true→(H3.get id).isSome=true∨H.get id=none):aJ Tryz.prog f args' H (fun r H'=>∃ r0 K,R r0 K∧r=gB xK r0∧H'=iS xK K++H):=by
 refine(aJ.frameQ (aJ.renQ GS h ha hH) hs hc hac ?_).mono ?_
 ·rintro r K ⟨r0,K0,hR,rfl,rfl⟩ id hid;exact hk r0 K0 hR id hid
 rintro r H' ⟨K,⟨r0,K0,hR,rfl,rfl⟩,rfl⟩;exact⟨r0,K0,hR,rfl,rfl⟩
theorem UX {d:DSt} {id:Nat} (h:(aA.get (jU d) id).isSome=true):id=3000∨id=3001∨id=3002∨id=3003:=by
 simp only [jU,aA.get] at h;cases e0:Nat.beq 3000 id
 ·cases e1:Nat.beq 3001 id
  ·cases e2:Nat.beq 3002 id
   ·cases e3:Nat.beq 3003 id
    ·rw [e0,e1,e2,e3] at h;cases h
    exact .inr (.inr (.inr (Nat.eq_of_beq_eq_true e3).symm))
   exact .inr (.inr (.inl (Nat.eq_of_beq_eq_true e2).symm))
  exact .inr (.inl (Nat.eq_of_beq_eq_true e1).symm)
 exact .inl (Nat.eq_of_beq_eq_true e0).symm
theorem TK {d:DSt} {o m:Ob} {id:Nat} (h:(aA.get (EY d o m) id).isSome=true):id=3000∨id=3001∨id=3002∨id=3003∨id=3100∨id=3101:=by
 simp only [EY,aA.get] at h;cases e0:Nat.beq 3000 id
 ·cases e1:Nat.beq 3001 id
  ·cases e2:Nat.beq 3002 id
   ·cases e3:Nat.beq 3003 id
    ·cases e4:Nat.beq 3100 id
     ·cases e5:Nat.beq 3101 id
      ·rw [e0,e1,e2,e3,e4,e5] at h;cases h
      exact .inr (.inr (.inr (.inr (.inr (Nat.eq_of_beq_eq_true e5).symm))))
     exact .inr (.inr (.inr (.inr (.inl (Nat.eq_of_beq_eq_true e4).symm))))
    exact .inr (.inr (.inr (.inl (Nat.eq_of_beq_eq_true e3).symm)))
   exact .inr (.inr (.inl (Nat.eq_of_beq_eq_true e2).symm))
  exact .inr (.inl (Nat.eq_of_beq_eq_true e1).symm)
 exact .inl (Nat.eq_of_beq_eq_true e0).symm
theorem pN {M d:Nat} (hd0:0 < d) (hM:M < 10 ^ d):∀ (L:List ByteArray),(∀ s∈L,s.size≤M)→(aR L).length≤L.length*(M+d+1)
 | [],_=>XZ _
 | s::r,h=>by
  have ih:=pN hd0 hM r (fun x hx=>h x (List.mem_cons_of_mem _ hx));have hs:=h s List.mem_cons_self;have hd:=dK (k:=d) (u:=s.size) (by omega) hd0;rw [dL,XJ,XK,XJ,dB,XK,Nat.add_mul];omega
theorem yZ {n:Nat} (h:n < 10):(dD (n:Int)).size≤1:=by have e:dD (n:Int)=ofL (decDigits n):=jE (by rw [bA,kD]);rw [e,bS];exact dK (k:=1) (by omega) (by decide)
theorem lU {l:bN} {P:List ByteArray} (hl:∀ p∈l,p.1.size≤1∧p.2.1.size≤1) (hP:∀ s∈P,s.size≤1) (hn:2*l.length+2+P.length≤10):cT (bC l P)≤1:=by
 have h1:(aR (cA l P)).length≤(cA l P).length*(1+1+1):=by
  refine pN (by decide) (by decide) _ fun s hs=>?_;rw [jI] at hs;rcases XU.1 hs with rfl|hs
  ·exact yZ (by omega)
  rcases List.mem_append.1 hs with hs|hs
  ·obtain ⟨x,hx,hs⟩:=List.mem_flatMap.1 hs;simp only [XU,XY,or_false] at hs;rcases hs with rfl|rfl
   ·obtain ⟨p,hp,rfl⟩:=List.mem_map.1 (j8.1 hx);exact(hl p hp).1
   exact p8 x fun p hp=>(hl p hp).2
  rcases XU.1 hs with rfl|hs
  ·exact yZ (by omega)
  exact hP s hs
 rw [yG] at h1;have hd:=dK (k:=2) (u:=(aR (cA l P)).length) (by omega) (by decide);have h2:(bC l P).length≤46:=by
  rw [bC,dL,XJ,XK,XJ,bA,bS];have h0:(aR []).length=0:=rfl;omega
 rw [cT];omega
theorem L3 {l:bN} {P:List ByteArray} {x:ByteArray} (hx:x∈l.map Prod.fst):(cE l x).size≤(bC l P).length:=by
 have h1:cE l x∈cA l P:=by
  rw [jI];refine List.mem_cons_of_mem _ (List.mem_append_left _ (List.mem_flatMap.2 ⟨x,j8.2 hx,?_⟩));simp
 have h2:=mP h1;rw [bC,dL,XJ,XK,XJ,bA];omega
theorem w5 {k n:Nat} {l2:bN} {P:List ByteArray} (h1:bH l2 P=0) (h2:n+cT (bC l2 (fP P))≤k):uD k n l2 P=0:=by
 rw [uD];rcases kF k n l2 P with⟨e1,_⟩|⟨e1,_⟩|⟨e1,_,_,e2⟩|⟨e1,e2⟩
 ·rw [e1];rfl
 ·rw [e1];rfl
 ·omega
 exact absurd h1 e2
theorem OI {k n:Nat} {l2:bN} {P:List ByteArray} (h1:bH l2 P=0) (h0:0 < l2.length) (h2:k < n+cT (bC l2 (fP P))):uD k n l2 P=21:=by
 rw [uD];rcases kF k n l2 P with⟨e1,_,e2⟩|⟨e1,_,_,e2⟩|⟨e1,_⟩|⟨e1,e2⟩
 ·omega
 ·omega
 ·rw [e1];rfl
 exact absurd h1 e2
theorem KH {k n:Nat} {l2:bN} {P:List ByteArray} (h1:¬ bH l2 P=0):uD k n l2 P=bH l2 P:=by
 rw [uD];rcases kF k n l2 P with⟨_,e2,_⟩|⟨_,e2,_⟩|⟨_,e2,_⟩|⟨e1,e2⟩
 ·exact absurd e2 h1
 ·exact absurd e2 h1
 ·exact absurd e2 h1
 have:=eM l2 P;rw [e1,XG (by omega)]
theorem lC:fP []=[]:=List.length_eq_zero_iff.1 (by have:=rY [];rw [List.length_nil] at this;omega)
theorem vC {a b:bN} (ha:fB a) (hb:fB b) (h:∀ k,cS a k=cS b k):b8 a=b8 b:=by rw [b8,b8,A0 ha hb h,yH ha hb h]
theorem oQ (A B:aA):Sub A (A++B):=fun j o h=>by rw [eS,h]
theorem V0 (n:Nat) (h1:1≤n) (h2:n≤8000) (H:aA) (k0:H.get 3000=none) (k1:H.get 3001=none) (k2:H.get 3002=none) (k3:H.get 3003=none):aJ Tryz.prog 13 [iv (n:Int)] H (fun r H'=>r=.ref 3000 0 0 0∧H'=jU (kV n)++H):=by
 refine(H6 (M9 n h1 h2) (args':=[iv (n:Int)]) rfl (rfl:iS xK []=[]) (fun _ _ h=>by cases h) (fun _ _ h=>by cases h) (by intro a ha;rw [XL] at ha;subst ha;exact .pv _) ?_).mono ?_
 ·rintro r K ⟨rfl,rfl⟩ id hid;rw [lW] at hid;rcases UX hid with rfl|rfl|rfl|rfl
  ·exact .inr k0
  ·exact .inr k1
  ·exact .inr k2
  exact .inr k3
 rintro r H' ⟨r0,K,⟨rfl,rfl⟩,rfl,rfl⟩;exact⟨rfl,by rw [lW]⟩
theorem UQ {d:DSt} {N k a n:Nat} {C:CT} (hc:Calm d N) (hI:SInv d.cells k a n C) (hN:4≤N) (hk:k=(N - 2) / 2) (H:aA) (hs:Sub (jU d) H) (k4:H.get 3100=none) (k5:H.get 3101=none) :
  aJ Tryz.prog 12 [.ref 3000 0 0 0] H (fun r H'=>r=.tup [.ref 3100 0 0 0,iv 0]∧∃ l c,dR l c∧fB l∧l.length≤46*n∧(∀ x,cS l x=C x)∧H'=EY d (uI k a n false) (bJ l c)++H):=by
 refine(H6 (oV hc hI hN hk) (args':=[.ref 3000 0 0 0]) rfl (lW d) hs (pQ d) (by simp;rfl) ?_).mono ?_
 ·rintro r K ⟨rfl,l,c,q1,q2,q3,q4,rfl⟩ id hid;rw [oT] at hid;rcases TK hid with rfl|rfl|rfl|rfl|rfl|rfl
  ·exact .inl rfl
  ·exact .inl rfl
  ·exact .inl rfl
  ·exact .inl rfl
  ·exact .inr k4
  exact .inr k5
 rintro r H' ⟨r0,K,⟨rfl,l,c,q1,q2,q3,q4,rfl⟩,rfl,rfl⟩;exact⟨rfl,l,c,q1,q2,q3,q4,by rw [oT]⟩
theorem E6 (d:DSt) (k a n:Nat) (b:Bool) (l l2:bN) (c c2:Nat):iS xK ((950,bJ l2 c2)::sH d (b7 k a n b) (bJ l c))=(950,bJ l2 c2)::EY d (uI k a n b) (bJ l c):=by have h:=oT d k a n b l c;show (xK 950,iC xK (bJ l2 c2))::iS xK (sH d (b7 k a n b) (bJ l c))=_;rw [h,AC];rfl
theorem KN (d:DSt) (k a n:Nat) (b:Bool) (l l2:bN) (c c2:Nat):bF ((950,bJ l2 c2)::EY d (uI k a n b) (bJ l c)):=(bF.ofL ⟨(by exact aQ _ _ _),(by exact kE _ _ rfl rfl rfl),(by exact aC _ _),(by exact aL _ _ _),(by exact aK _ _),(by exact AA rfl rfl),(by exact aQ _ _ _),trivial⟩)
theorem V1 {d:DSt} {o m o2:Ob} {id:Nat} (h:(aA.get ((950,o2)::EY d o m) id).isSome=true):id=950∨id=3000∨id=3001∨id=3002∨id=3003∨id=3100∨id=3101:=by
 by_cases e:id=950
 ·exact .inl e
 rw [get_cons_other _ _ e] at h;exact .inr (TK h)
theorem RX {N k:Nat} {tl:List ByteArray} {d:DSt} {a n:Nat} {l:bN} {c:Nat} {C:CT} (h:St N k tl d a n l c C) (hk:k < 4000) (l2:bN) (c2:Nat) (P:List ByteArray) (hst2:dR l2 c2) (hnd2:fB l2) (hl2:l2.length≤1000) (hP:P.length≤1000) (H:aA) (hs:Sub ((950,bJ l2 c2)::EY d (uI k a n false) (bJ l c)) H) :
  aJ Tryz.prog 14 [.ref 3100 0 0 0,.mp 950 0,.pv (aW P)] H (fun r H'=>r=iv (uD k n l2 P)∧∃ d' n' l' c',St N k tl d' a n' l' c' (if uD k n l2 P=0 then o9 C l2 (fP P)else C)∧n'=(if vA k n false l2 P = -1 then n+cT (bC l2 (fP P))else n)∧H'=(950,bJ l2 c2)::EY d' (uI k a n' false) (bJ l' c')++H):=by
 refine(H6 (jN h hk l2 c2 P hst2 hnd2 hl2 hP) (args':=[.ref 3100 0 0 0,.mp 950 0,.pv (aW P)]) rfl (E6 d k a n false l l2 c c2) hs (KN _ _ _ _ _ _ _ _ _) (by simp;exact⟨rfl,rfl⟩) ?_).mono ?_
 ·rintro r K ⟨rfl,d',n',l',c',q1,q2,rfl⟩ id hid;rw [E6] at hid;rcases V1 hid with rfl|rfl|rfl|rfl|rfl|rfl|rfl<;>exact .inl rfl
 rintro r H' ⟨r0,K,⟨rfl,d',n',l',c',q1,q2,rfl⟩,rfl,rfl⟩;exact⟨rfl,d',n',l',c',q1,q2,by rw [E6]⟩
theorem S9 {N k:Nat} {tl:List ByteArray} {d:DSt} {a n:Nat} {l:bN} {c:Nat} {C:CT} (h:St N k tl d a n l c C) (hk:k < 4000) (H:aA) (hs:Sub (EY d (uI k a n false) (bJ l c)) H) :
  aJ Tryz.prog 21 [.ref 3100 0 0 0] H (fun r H'=>r=iv (SJ k l)∧∃ d' a' n',St N k tl d' a' n' l c C∧(SJ k l=0→d'.cells=jD k (b8 l) tl)∧H'=EY d' (uI k a' n' false) (bJ l c)++H):=by
 refine(H6 (vM h hk) (args':=[.ref 3100 0 0 0]) rfl (oT d k a n false l c) hs (EX _ _ _ _ _ _ _) (by simp;rfl) ?_).mono ?_
 ·rintro r K ⟨rfl,d',a',n',q1,q2,rfl⟩ id hid;rw [oT] at hid;rcases TK hid with rfl|rfl|rfl|rfl|rfl|rfl<;>exact .inl rfl
 rintro r H' ⟨r0,K,⟨rfl,d',a',n',q1,q2,rfl⟩,rfl,rfl⟩;exact⟨rfl,d',a',n',q1,q2,by rw [oT]⟩
theorem VY (d:DSt) (hd:DOk d) (H:aA) (hs:Sub (jU d) H):aJ Tryz.prog 22 [.ref 3000 0 0 0] H (fun r H'=>r=sv (mD d)∧H'=H):=by have h:=aJ.ren (ρ:=xK) GS (SL d hd) (args':=[.ref 3000 0 0 0]) (r':=sv (mD d)) rfl (lW d) rfl (lW d);exact aJ.frameS h hs (pQ d) (by simp;rfl)
abbrev tA:ByteArray:=⟨#[97]⟩
abbrev tB:ByteArray:=⟨#[98]⟩
abbrev tC:ByteArray:=⟨#[99]⟩
abbrev t1:ByteArray:=⟨#[49]⟩
abbrev t2:ByteArray:=⟨#[50]⟩
abbrev kB:bN×Nat:=dM [(tB,t2)]
abbrev LH:bN×Nat:=dM [(tA,t1),(tB,t2)]
theorem RB (x:ByteArray):cS kB.1 x=if tB=x then some t2 else none:=by rw [AZ];rfl
theorem UY (x:ByteArray):cS LH.1 x=if tB=x then some t2 else if tA=x then some t1 else none:=by
 rw [AZ];show ((if tB=x then some t2 else none).orElse fun _=>if tA=x then some t1 else none)=_
 split<;>rfl
theorem U8 (x:ByteArray):o9 (o9 (fun _=>none) LH.1 (fP [])) [] (fP [tA]) x=cS kB.1 x:=by
 have hAB:¬ tB=tA:=by decide
 rw [o9,o9,lC,XG XY,RB,UY];by_cases h:x∈fP [tA]
 ·rw [XH h];have:=mW.1 h;rw [XL] at this;subst this;rw [XG hAB]
 rw [XG h];have hx:¬ tA=x:=fun e=>h (mW.2 (by rw [e];exact XL.2 rfl));rw [XG hx];show ((none:Option ByteArray).orElse fun _=>(if tB=x then some t2 else none).orElse fun _=>none)=_;by_cases h2:tB=x
 ·rw [XH h2];rfl
 rw [XG h2];rfl
theorem V8 (x:ByteArray):o9 (fun _=>none) kB.1 (fP []) x=cS kB.1 x:=by
 rw [o9,lC,XG XY,RB];by_cases h2:tB=x
 ·rw [XH h2];rfl
 rw [XG h2];rfl
theorem RA:bP kB.1=[tB]:=IP (List.pairwise_singleton _ _)
theorem C6:cT (b8 kB.1)≤1:=by
 have h:b8 kB.1=bC kB.1 []:=XG (by decide);rw [h];exact lU (fun p hp=>by
  have:=n0 hp;simp only [XL,Prod.mk.injEq] at this;rw [this.1,this.2];exact⟨XO 1,XO 1⟩) (fun s hs=>by cases hs) (by decide)
theorem HY:uD 9 0 LH.1 []=0:=w5 (by decide) (by
 have h:cT (bC LH.1 (fP []))≤1:=lU (fun p hp=>by
  have:=n0 hp;simp only [XU,XY,or_false,Prod.mk.injEq] at this;rcases this with⟨e1,e2⟩|⟨e1,e2⟩<;>rw [e1,e2]<;>exact⟨XO 1,XO 1⟩) (fun s hs=>by rw [lC] at hs;cases hs) (by rw [lC];decide)
 omega)
theorem UV:(if vA 9 0 false LH.1 [] = -1 then 0+cT (bC LH.1 (fP []))else 0)≤1:=by
 have h:cT (bC LH.1 (fP []))≤1:=lU (fun p hp=>by
  have:=n0 hp;simp only [XU,XY,or_false,Prod.mk.injEq] at this;rcases this with⟨e1,e2⟩|⟨e1,e2⟩<;>rw [e1,e2]<;>exact⟨XO 1,XO 1⟩) (fun s hs=>by rw [lC] at hs;cases hs) (by rw [lC];decide)
 split<;>omega
theorem SM:cT (bC [] (fP [tA]))≤1:=lU (fun p hp=>by cases hp) (fun s hs=>by
  have:=mW.1 hs;rw [XL] at this;rw [this];exact XO 1) (by have:=rY [tA];have e:([tA]:List ByteArray).length=1:=rfl;have e0:([]:bN).length=0:=rfl;omega)
theorem HX {n:Nat} (h:n≤1):uD 9 n [] [tA]=0:=w5 (by decide) (by have:=SM;omega)
theorem UU {n:Nat} (h:n≤1):(if vA 9 n false [] [tA] = -1 then n+cT (bC [] (fP [tA]))else n)≤2:=by
 have:=SM
 split<;>omega
theorem HW:uD 9 0 kB.1 []=0:=w5 (by decide) (by
 have h:cT (bC kB.1 (fP []))≤1:=lU (fun p hp=>by
  have:=n0 hp;simp only [XL,Prod.mk.injEq] at this;rw [this.1,this.2];exact⟨XO 1,XO 1⟩) (fun s hs=>by rw [lC] at hs;cases hs) (by rw [lC];decide)
 omega)
theorem GN (n:Nat):(ofL (zB n)).size=n:=by rw [bS,zB,List.length_replicate]
theorem p7 (k v:ByteArray):(dM [(k,v)]).1=[(k,v,0)]:=rfl
theorem yC {k v:ByteArray} (hk:eJ k=true):bH (dM [(k,v)]).1 []=if(20000:Int) < (v.size:Int)then 2 else 0:=by
 rw [p7,bH];show (if(((!eJ k||RH [] k)||false)||false)=true then(1:Int)else if(decide ((20000:Int) < (v.size:Int))||false)=true then 2 else 0)=_;rw [hk];show (if false=true then(1:Int)else if(decide ((20000:Int) < (v.size:Int))||false)=true then 2 else 0)=_;rw [XG Bool.false_ne_true,Bool.or_false];by_cases h:(20000:Int) < (v.size:Int)
 ·rw [XH (decide_eq_true h),XH h]
 rw [XG (by rw [decide_eq_false h];decide),XG h]
theorem eH {n:Nat} {v:ByteArray} (hv:v.size=20001):uD 9 n (dM [(tC,v)]).1 []=2:=by
 have hw:bH (dM [(tC,v)]).1 []=2:=by rw [yC (by decide),hv];rfl
 rw [KH (by rw [hw];decide),hw]
theorem eI {n:Nat} {v:ByteArray} (hv:v.size=500):uD 9 n (dM [(tC,v)]).1 []=21:=by
 have hw:bH (dM [(tC,v)]).1 []=0:=by rw [yC (by decide),hv];rfl
 refine OI hw (by rw [p7];exact Nat.zero_lt_one) ?_;have h:=L3 (l:=(dM [(tC,v)]).1) (P:=fP []) (x:=tC) (by rw [p7];exact XL.2 rfl);have hg:cE (dM [(tC,v)]).1 tC=v:=by
  rw [p7];show (if tC=tC then v else _)=v;rw [XH rfl]
 rw [hg,hv] at h;rw [cT];omega
theorem DB (n:Nat):((List.replicate n [AV.pv (.int .u8 0)]).drop 0).take n=bG (zB n):=by rw [List.drop_zero,List.take_of_length_le (by rw [List.length_replicate];exact XO _),bG,zB,List.map_replicate];rfl
theorem RT {a b:DSt} (h:a.cells=b.cells):mD a=mD b:=by rw [mD,mD,h]
theorem KD {d:DSt} {N:Nat} (h:Calm d N):(mD d).size=64*N:=by
 have:(mD d).size=(flat d.cells).length:=by rw [← dB,mD]
 rw [this,mA h.inv.ok.c,h.inv.n]
theorem NU (H:aA):aJ Tryz.prog 10 [] H (fun r H'=>r=bv true∧H'=H):=by
 refine Pu ?_;have hop:=oV (k:=9) (r4 (n:=20) (by omega) (by omega)) (qW (by omega)) (by omega) rfl;have hz1:=GN 20001;have hz2:=GN 500;have hb1:=DB 20001;have hb2:=DB 500;have hnew:=M9 20 (by omega) (by omega);obtain ⟨tl,htl⟩:∃ tl,tl=(kV 20).cells.drop (2*9+2):=⟨_,rfl⟩;have hst0:∀ {l:bN} {c:Nat},dR l c→fB l→(∀ x,cS l x=none)→St 20 9 tl (kV 20) 0 0 l c (fun _=>none):=fun q1 q2 q3=>by
  rw [htl];exact L7 (N:=20) (by omega) (by omega) q1 q2 q3
 clear htl;have hd3:=fun H k0 k1 k2 k3=>V0 20 (by omega) (by omega) H k0 k1 k2 k3;have hop3:=fun H hs k4 k5=>UQ (k:=9) (r4 (n:=20) (by omega) (by omega)) (qW (by omega)) (by omega) rfl H hs k4 k5;obtain ⟨z1,hzz1⟩:∃ z,z=zB 20001:=⟨_,rfl⟩;obtain ⟨z2,hzz2⟩:∃ z,z=zB 500:=⟨_,rfl⟩;rw [← hzz1] at hz1 hb1;rw [← hzz2] at hz2 hb2;clear hzz1 hzz2;obtain ⟨e0,he0⟩:∃ e,e=kV 20:=⟨_,rfl⟩;rw [← he0] at hop hnew hst0 hd3 hop3;clear he0;refine Bd func10 rfl ntmps10<|Sr<|Dd aS<|Zz<|Sr<|Dd (by exact aB rfl rfl W3 rfl (hnew))<|Dd aS<|Zz<|Sr<|Dm ?_;refine iN rfl rfl (aB rfl rfl P0 rfl hop) ?_;rintro _ _ ⟨rfl,l0,c0,q1,q2,q3,q4,rfl⟩;have hS0:=hst0 q1 q2 q4;clear q1 q2 q3 q4 hop hnew;refine Dd aE<|Dd eB<|Dd eB<|Dd aS<|Dd aS<|Zz<|Sr<|Dd aE<|Dd (by exact g8 (id:=950) eE rfl rfl)<|Uu (by exact f0 (κ:=eE) (l:=bL []) (k:=tA) (v:=sv t1) (.inr rfl) aT aI rfl (get_cons_same _ _ _) rfl rfl rfl rfl rfl (k9 _ _ _ _) (mR _ _ _))<|Uu (by exact f0 (κ:=eE) (l:=bL (dM [(tA,t1)]).1) (k:=tB) (v:=sv t2) (.inr rfl) aT aI rfl (get_cons_same _ _ _) rfl rfl rfl rfl rfl (k9 _ _ _ _) (mR _ _ _))<|Dm ?_;refine lK (E':=[(1,.ref 1000 0 0 0),(2,.ref 1100 0 0 0),(3,iv 0),(28,.ref 1100 0 0 0),(30,.mp 950 0)]) (H':=(950,bJ LH.1 LH.2)::sH e0 (b7 9 0 0 false) (bJ l0 c0)) (bY.wk (Ea<|Ea<|Eb<|Ea<|Ea<|trivial) (Hc (aQ _ _ _)<|Hc (aF _ _ rfl rfl rfl)<|Hc (aC _ _)<|Hc (aL _ _ _)<|Hc (aK _ _)<|Hc (bD rfl rfl)<|Hc (aQ _ _ _)<|trivial) trivial) ?_;refine iN rfl rfl (aB rfl rfl sI rfl (jN hS0 (by omega) LH.1 LH.2 [] (gE _).1 (gE _).2 (by decide) (by decide))) ?_;rintro _ _ ⟨rfl,d1,n1,l1,c1,hS1,hn1,rfl⟩;rw [HY,XH rfl] at hS1;rw [HY];have hn1:n1≤1:=by rw [hn1];exact UV
 clear hS0;refine Dd aS<|Zz<|Sr<|Dd aE<|Dd (by exact bE [[.str tA]] rfl bR rfl rfl rfl rfl rfl (by simp)) ?_;refine lK (E':=[(1,.ref 1000 0 0 0),(2,.ref 1100 0 0 0),(3,iv 0),(4,iv 0),(32,.ref 1100 0 0 0),(33,.pv (aW [tA]))]) (H':=sH d1 (b7 9 0 n1 false) (bJ l1 c1)) (bY.wk (Ea<|Ea<|Eb<|Eb<|Ea<|Eb<|trivial) (Hc (aF _ _ rfl rfl rfl)<|Hc (aC _ _)<|Hc (aL _ _ _)<|Hc (aK _ _)<|Hc (bD rfl rfl)<|Hc (aQ _ _ _)<|trivial) trivial) ?_;refine iN rfl rfl (aB rfl rfl sI rfl (BN hS1 (by omega) [tA] (by decide))) ?_;rintro _ _ ⟨rfl,d2,n2,l2,c2,hS2,hn2,rfl⟩;rw [HX hn1,XH rfl] at hS2;rw [HX hn1];have hn2:n2≤2:=by rw [hn2];exact UU hn1
 clear hS1 hn1;obtain ⟨C,hC⟩:∃ C,C=o9 (o9 (fun _=>none) LH.1 (fP [])) [] (fP [tA]):=⟨_,rfl⟩;have hCB:∀ x,C x=cS kB.1 x:=fun x=>by rw [hC];exact U8 x
 rw [← hC] at hS2;clear hC;have hgA:=FU d2 9 0 n2 false l2 c2 tA;have hgB:=FU d2 9 0 n2 false l2 c2 tB;have kA:cS l2 tA=none:=by rw [hS2.kv,hCB,RB,XG (by decide)]
 have kBv:cS l2 tB=some t2:=by rw [hS2.kv,hCB,RB,XH rfl]
 rw [kY,kA] at hgA;rw [kY,kBv] at hgB;refine Dd aS<|Zz<|Sr<|Dd aE<|Dd (by exact aB rfl rfl WZ rfl (hgA))<|Dd aE<|Dd eB<|Dd eB<|Dd aS<|Dd aS<|Zz<|Sr<|Dd aE<|Dd (by exact aB rfl rfl WZ rfl (hgB))<|Dd aE<|Dd eB<|Dd eB<|Dd aS<|Dd aS<|Zz<|Sr<|Dd aE<|Dd (by exact jH (id:=960) rfl CG U1 VI rfl rfl rfl (by decide) (by decide) rfl rfl (by decide) rfl)<|Dd (by exact gQ rfl bX bQ aI rfl rfl rfl rfl hb1 rfl)<|Dd (by exact aB rfl rfl W0 rfl (M4 tC (ofL z1) _ rfl)) ?_;refine lK (E':=[(1,.ref 1000 0 0 0),(2,.ref 1100 0 0 0),(3,iv 0),(4,iv 0),(5,iv 0),(7,bv false),(8,sv t2),(9,bv true),(45,.ref 1100 0 0 0),(48,.mp 950 0)]) (H':=(950,bJ (dM [(tC,ofL z1)]).1 (dM [(tC,ofL z1)]).2)::sH d2 (b7 9 0 n2 false) (bJ l2 c2)) (bY.wk (Ea<|Ea<|Eb<|Eb<|Eb<|Eb<|Eb<|Eb<|Ea<|Ea<|trivial) (Hc (aQ _ _ _)<|Hc (aF _ _ rfl rfl rfl)<|Hc (aC _ _)<|Hc (aL _ _ _)<|Hc (aK _ _)<|Hc (bD rfl rfl)<|Hc (aQ _ _ _)<|trivial) trivial) ?_;refine iN rfl rfl (aB rfl rfl sI rfl (jN hS2 (by omega) (dM [(tC,ofL z1)]).1 (dM [(tC,ofL z1)]).2 [] (gE _).1 (gE _).2 (by rw [p7];exact XV rfl) (by decide))) ?_;rintro _ _ ⟨rfl,d3,n3,l3,c3,hS3,hn3,rfl⟩;rw [eH hz1,XG (by decide)] at hS3;rw [eH hz1];clear hS2 hgA hgB kA kBv;refine lK (E':=[(1,.ref 1000 0 0 0),(2,.ref 1100 0 0 0),(3,iv 0),(4,iv 0),(5,iv 0),(7,bv false),(8,sv t2),(9,bv true),(49,iv 2)]) (H':=sH d3 (b7 9 0 n3 false) (bJ l3 c3)) (bY.wk (Ea<|Ea<|Eb<|Eb<|Eb<|Eb<|Eb<|Eb<|Eb<|trivial) (Hc (aF _ _ rfl rfl rfl)<|Hc (aC _ _)<|Hc (aL _ _ _)<|Hc (aK _ _)<|Hc (bD rfl rfl)<|Hc (aQ _ _ _)<|trivial) trivial) ?_;refine Dd aS<|Zz<|Sr<|Dd aE<|Dd (by exact jH (id:=960) rfl CG U1 VI rfl rfl rfl (by decide) (by decide) rfl rfl (by decide) rfl)<|Dd (by exact gQ rfl bX bQ aI rfl rfl rfl rfl hb2 rfl)<|Dd (by exact aB rfl rfl W0 rfl (M4 tC (ofL z2) _ rfl)) ?_;refine lK (E':=[(1,.ref 1000 0 0 0),(2,.ref 1100 0 0 0),(3,iv 0),(4,iv 0),(5,iv 0),(7,bv false),(8,sv t2),(9,bv true),(10,iv 2),(50,.ref 1100 0 0 0),(53,.mp 950 0)]) (H':=(950,bJ (dM [(tC,ofL z2)]).1 (dM [(tC,ofL z2)]).2)::sH d3 (b7 9 0 n3 false) (bJ l3 c3)) (bY.wk (Ea<|Ea<|Eb<|Eb<|Eb<|Eb<|Eb<|Eb<|Eb<|Ea<|Ea<|trivial) (Hc (aQ _ _ _)<|Hc (aF _ _ rfl rfl rfl)<|Hc (aC _ _)<|Hc (aL _ _ _)<|Hc (aK _ _)<|Hc (bD rfl rfl)<|Hc (aQ _ _ _)<|trivial) trivial) ?_;refine iN rfl rfl (aB rfl rfl sI rfl (jN hS3 (by omega) (dM [(tC,ofL z2)]).1 (dM [(tC,ofL z2)]).2 [] (gE _).1 (gE _).2 (by rw [p7];exact XV rfl) (by decide))) ?_;rintro _ _ ⟨rfl,d4,n4,l4,c4,hS4,hn4,rfl⟩;rw [eI hz2,XG (by decide)] at hS4;rw [eI hz2];clear hS3 hn3 hn4;have hw4:b8 l4=b8 kB.1:=vC hS4.nd (gE _).2 fun x=>by rw [hS4.kv,hCB]
 have hsc4:SJ 9 l4=0:=XG (by rw [hw4];have:=C6;omega);refine Dd aS<|Zz<|Sr<|Dm ?_;refine lK (E':=[(1,.ref 1000 0 0 0),(3,iv 0),(4,iv 0),(5,iv 0),(7,bv false),(8,sv t2),(9,bv true),(10,iv 2),(11,iv 21),(55,.ref 1100 0 0 0)]) (H':=sH d4 (b7 9 0 n4 false) (bJ l4 c4)) (bY.wk (Ea<|Eb<|Eb<|Eb<|Eb<|Eb<|Eb<|Eb<|Eb<|Ea<|trivial) (Hc (aF _ _ rfl rfl rfl)<|Hc (aC _ _)<|Hc (aL _ _ _)<|Hc (aK _ _)<|Hc (bD rfl rfl)<|Hc (aQ _ _ _)<|trivial) trivial) ?_;refine iN rfl rfl (aB rfl rfl call21 rfl (vM hS4 (by omega))) ?_;rintro _ _ ⟨rfl,d5,a5,n5,hS5,hcan5,rfl⟩;have hcan5:=hcan5 hsc4;rw [hw4] at hcan5;rw [hsc4];clear hS4 hsc4 hw4;have hraw5:=RR (o:=b7 9 a5 n5 false) (m:=bJ l4 c4) (SL d5 hS5.calm.inv.ok) (by simp;rfl);refine Dd aS<|Zz<|Sr<|Dd aE<|Dd (by exact aB rfl rfl call22 rfl (hraw5))<|Dd aS<|Zz<|Sr<|Dm ?_;refine lK (E':=[(1,.ref 1000 0 0 0),(3,iv 0),(4,iv 0),(5,iv 0),(7,bv false),(8,sv t2),(9,bv true),(10,iv 2),(11,iv 21),(12,iv 0),(13,sv (mD d5)),(60,.ref 1000 0 0 0)]) (H':=a7 d5) (bY.wk (Ea<|Eb<|Eb<|Eb<|Eb<|Eb<|Eb<|Eb<|Eb<|Eb<|Eb<|Ea<|trivial) (Hc (aF _ _ rfl rfl rfl)<|Hc (aC _ _)<|Hc (aL _ _ _)<|Hc (aK _ _)<|trivial) trivial) ?_;refine iN rfl rfl (aB rfl rfl P0 rfl (oV hS5.calm hS5.inv (by omega) rfl)) ?_;rintro _ _ ⟨rfl,l6,c6,q1,q2,q3,q4,rfl⟩;have hk6:bP l6=[tB]:=(sL q2 (gE _).2 fun x=>by rw [q4,hCB]).trans RA;have hl6:l6.length < 1099511627776:=by have:=hS5.inv.nk;omega
 have hd5:(mD d5).size=1280:=KD hS5.calm;have hkey:=A5 d5 9 a5 n5 false l6 c6 q1 hl6;rw [hk6] at hkey;clear hS5 hraw5 q2 q3 q4;refine Dd aE<|Dd eB<|Dd eB<|Dd aS<|Dd aS<|Zz<|Sr<|Dd (by exact aB rfl rfl W3 rfl (hd3 _ rfl rfl rfl rfl))<|Dd aS<|Zz<|Sr<|Dm ?_;refine iN rfl rfl (aB rfl rfl P0 rfl (hop3 _ (oQ _ _) rfl rfl)) ?_;rintro _ _ ⟨rfl,l7,c7,p1,p2,p3,p4,rfl⟩;have hS7:=hst0 p1 p2 p4;clear p1 p2 p3 p4 hd3 hop3 hst0;refine Dd aE<|Dd eB<|Dd eB<|Dd aS<|Dd aS<|Zz<|Sr<|Dd aE<|Dd (by exact aB rfl rfl W0 rfl (M4 tB t2 _ rfl)) ?_;refine lK (E':=[(3,iv 0),(4,iv 0),(5,iv 0),(7,bv false),(8,sv t2),(9,bv true),(10,iv 2),(11,iv 21),(12,iv 0),(13,sv (mD d5)),(14,.ref 1100 0 0 0),(15,iv 0),(16,.ref 3000 0 0 0),(17,.ref 3100 0 0 0),(18,iv 0),(70,.ref 3100 0 0 0),(71,.mp 950 0)]) (H':=((950,bJ kB.1 kB.2)::EY e0 (uI 9 0 0 false) (bJ l7 c7))++sH d5 (b7 9 a5 n5 false) (bJ l6 c6)) (bY.wk (Eb<|Eb<|Eb<|Eb<|Eb<|Eb<|Eb<|Eb<|Eb<|Eb<|Ea<|Eb<|Ea<|Ea<|Eb<|Ea<|Ea<|trivial) (Hc (aQ _ _ _)<|Hc (kE _ _ rfl rfl rfl)<|Hc (aC _ _)<|Hc (aL _ _ _)<|Hc (aK _ _)<|Hc (AA rfl rfl)<|Hc (aQ _ _ _)<|Hc (aF _ _ rfl rfl rfl)<|Hc (aC _ _)<|Hc (aL _ _ _)<|Hc (aK _ _)<|Hc (bD rfl rfl)<|Hc (aQ _ _ _)<|trivial) trivial) ?_;refine iN rfl rfl (aB rfl rfl sI rfl (RX hS7 (by omega) kB.1 kB.2 [] (gE _).1 (gE _).2 (by rw [p7];exact XV rfl) (by decide) _ (oQ _ _))) ?_;rintro _ _ ⟨rfl,d8,n8,l8,c8,hS8,hn8,rfl⟩;rw [HW,XH rfl] at hS8;rw [HW];have hw8:b8 l8=b8 kB.1:=vC hS8.nd (gE _).2 fun x=>by rw [hS8.kv,V8]
 have hsc8:SJ 9 l8=0:=XG (by rw [hw8];have:=C6;omega);clear hS7 hn8;refine Dd aS<|Zz<|Sr<|Dm ?_;refine lK (E':=[(3,iv 0),(4,iv 0),(5,iv 0),(7,bv false),(8,sv t2),(9,bv true),(10,iv 2),(11,iv 21),(12,iv 0),(13,sv (mD d5)),(14,.ref 1100 0 0 0),(15,iv 0),(16,.ref 3000 0 0 0),(18,iv 0),(19,iv 0),(73,.ref 3100 0 0 0)]) (H':=EY d8 (uI 9 0 n8 false) (bJ l8 c8)++sH d5 (b7 9 a5 n5 false) (bJ l6 c6)) (bY.wk (Eb<|Eb<|Eb<|Eb<|Eb<|Eb<|Eb<|Eb<|Eb<|Eb<|Ea<|Eb<|Ea<|Eb<|Eb<|Ea<|trivial) (Hc (kE _ _ rfl rfl rfl)<|Hc (aC _ _)<|Hc (aL _ _ _)<|Hc (aK _ _)<|Hc (AA rfl rfl)<|Hc (aQ _ _ _)<|Hc (aF _ _ rfl rfl rfl)<|Hc (aC _ _)<|Hc (aL _ _ _)<|Hc (aK _ _)<|Hc (bD rfl rfl)<|Hc (aQ _ _ _)<|trivial) trivial) ?_;refine iN rfl rfl (aB rfl rfl call21 rfl (S9 hS8 (by omega) _ (oQ _ _))) ?_;rintro _ _ ⟨rfl,d9,a9,n9,hS9,hcan9,rfl⟩;have hcan9:=hcan9 hsc8;rw [hw8] at hcan9;rw [hsc8];clear hS8 hsc8 hw8;have hreq:mD d5=mD d9:=RT (hcan5.trans hcan9.symm);refine lK (E':=[(3,iv 0),(4,iv 0),(5,iv 0),(7,bv false),(8,sv t2),(9,bv true),(10,iv 2),(11,iv 21),(12,iv 0),(13,sv (mD d5)),(14,.ref 1100 0 0 0),(15,iv 0),(16,.ref 3000 0 0 0),(18,iv 0),(19,iv 0),(74,iv 0)]) (H':=sH d5 (b7 9 a5 n5 false) (bJ l6 c6)++jU d9) (bY.wk (Eb<|Eb<|Eb<|Eb<|Eb<|Eb<|Eb<|Eb<|Eb<|Eb<|Ea<|Eb<|Ea<|Eb<|Eb<|Eb<|trivial) (Hc (aF _ _ rfl rfl rfl)<|Hc (aC _ _)<|Hc (aL _ _ _)<|Hc (aK _ _)<|Hc (bD rfl rfl)<|Hc (aQ _ _ _)<|Hc (kE _ _ rfl rfl rfl)<|Hc (aC _ _)<|Hc (aL _ _ _)<|Hc (aK _ _)<|trivial) trivial) ?_;have hkey:=aJ.frameS (H:=sH d5 (b7 9 a5 n5 false) (bJ l6 c6)++jU d9) hkey (oQ _ _) (oR _ _ _ _ _ _ _) (by simp;rfl);have hraw9:=VY d9 hS9.calm.inv.ok (sH d5 (b7 9 a5 n5 false) (bJ l6 c6)++jU d9) (fun j o h=>by rcases UX (d:=d9) (id:=j) (by rw [h];rfl)with rfl|rfl|rfl|rfl<;>exact h);have hsame:=CI [tB] [tB] (sH d5 (b7 9 a5 n5 false) (bJ l6 c6)++jU d9) (by decide) (by decide);rw [decide_eq_true rfl] at hsame;refine Dd aS<|Zz<|Sr<|Dd aE<|Dd hU<|Dd aE<|On aE<|On hU<|Dd gO<|Dd aE<|On aE<|On hU<|Dd gO<|Dd aE<|On aE<|On uL<|Dd gO<|Dd aE<|On aE<|Dd gO<|Dd aE<|On aE<|On S8<|Dd gO<|Dd aE<|On aE<|On hU<|Dd gO<|Dd aE<|On aE<|On hU<|Dd gO<|Dd aE<|On aE<|On hU<|Dd gO<|Dd aE<|On aE<|On hU<|Dd gO<|Dd aE<|On aE<|On (by exact aB rfl rfl W1 rfl (hkey))<|On (by exact bE [[.str tB]] rfl bR rfl rfl rfl rfl rfl (by simp))<|On (by exact aB rfl rfl PZ rfl (hsame))<|Dd gO<|Dd aS<|Zz<|Sq ?_;have h135:AV.pv (.bool (decide (mD d5=mD d9)))=bv true:=by rw [decide_eq_true hreq]
 have h140:AV.pv (.bool (decide (((mD d5).size:Int)=1280)))=bv true:=by rw [hd5];rfl
 exact Rg<|Dd aE<|Dd aE<|On aE<|On hU<|Dd gO<|Dd aE<|On aE<|On hU<|Dd gO<|Dd aE<|On aE<|On hU<|Dd gO<|Dd aE<|On aE<|On aE<|On (by exact aB rfl rfl call22 rfl (hraw9))<|On (by exact bW.eqv (vW rfl rfl rfl) h135)<|Dd gO<|Dd aE<|On aE<|On (x5 aI)<|On (by exact bW.eqv (HC rfl rfl rfl) h140)<|Dd gO<|Dd aS<|Zz<|aN<|Rt<|Qq
end Go.Proofs.YtmkgeogoojcciaaGreatDoor
