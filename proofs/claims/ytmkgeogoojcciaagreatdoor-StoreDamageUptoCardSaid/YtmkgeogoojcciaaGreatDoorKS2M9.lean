/-
  Parts of the proof: rules of an abstract program logic, contracts of functions, plain laws. Conditions: each theorem's own.
-/
import Derived.Test.YtmkgeogoojcciaaGreatDoorKS2M8
set_option linter.unusedVariables false
set_option linter.unusedSimpArgs false
set_option maxRecDepth 100000
set_option maxHeartbeats 8000000
namespace Go.Proofs
theorem CQ:type_of% Tryz.call12:=Tryz.call12
theorem X2:type_of% Tryz.call13:=Tryz.call13
theorem sV:type_of% Tryz.call14:=Tryz.call14
theorem X1:type_of% Tryz.call21:=Tryz.call21
theorem X0:type_of% Tryz.call23:=Tryz.call23
end Go.Proofs
namespace Go.Abs
theorem lB {P:Program} {G0:aA} {N:Nat} {ops:Array Oper} {K:bD→aA→Prop} {l:List Oper} {E E':bD} {H H':aA} (he:bY G0 E H E' H') (h:AL P G0 N ops K l E' H'):AL P G0 N ops K l E H :=fun G hG a w hs ro hro Q hq=>h G hG a w (he G hG N a w hs) ro hro Q hq
def BK (T:Nat) (ops:List Oper) (rs:List Rec):Bool :=(rR 0 ops&&rP ops (MC ops []) 0 [] (List.zipWith Ent2.mk (ops.take T) rs))&&(List.range ops.length).all fun j=>Nat.blt j T||(List.range j).all fun i=>((MC ops []).getD j 0).testBit i
theorem QG {F:Fence} {nn:Nat} {P:Program} {ops:Array Oper} {Q:Exit→Act→World→Prop} {T:Nat} (hedge:∀ j o,ops.toList[j]?=some o→∀ e∈o.after.toList,Region.binds .any e=true→e.on < j) (htail:∀ (j:Nat),T≤j→j < ops.size→∀ i,i < j→U9 ops.toList i j) :
  ∀ (fuel j:Nat) (listed:Array Bool) (a:Act) (w:World),T≤j→listed.size=ops.size→(∀ i,i < ops.size→listed.getD i false=decide (i < j))→ops.size - j≤fuel→wpListIn F nn P ops Q (ops.toList.drop j) a w→wpAnyIn F nn P .any ops Q fuel listed a w:=by
 intro fuel;have rdy:∀ (j:Nat) (listed:Array Bool),T≤j→listed.size=ops.size→(∀ i,i < ops.size→listed.getD i false=decide (i < j))→(∀ i∈Region.ready .any ops listed,i=j∧i < ops.size)∧(j < ops.size→j∈Region.ready .any ops listed):=by
  intro j listed hj hsz hli;constructor
  ·intro i hi;have hi1:=List.mem_filter.1 hi;have hilt:i < ops.size:=List.mem_range.1 hi1.1;have hi':i < listed.size:=by omega
   have ho:ops[i]?=some ops[i]:=Array.getElem?_eq_getElem hilt;have hi2:=hi1.2;simp only [ho,Option.map_some,Option.getD_some,YQ] at hi2;obtain ⟨hnl,hpreds⟩:=hi2;have hnl':listed.getD i false=false:=by
    simp [Array.getD,hi'] at hnl ⊢;exact hnl
   rw [hli i hilt] at hnl';have hge:j≤i:=by have:=YE hnl';omega
   refine⟨Classical.byContradiction fun hne=>?_,hilt⟩;have h1:=htail i (by omega) hilt j (by omega) (fun q=>decide (q < j)&&decide (q < ops.size)) (fun q o hq hS e he hb=>by
    have h2:=hedge q o hq e he hb;simp only [YQ,YO] at hS ⊢;omega) ops[i] (by simp [ho]) (fun e he hb=>by
    have h2:=(Array.all_eq_true'.1 hpreds) e (by simpa using he);have h3:listed.getD e.on false=true:=by simpa [hb] using h2
    have h4:=hedge i ops[i] (by simp [ho]) e he hb;rw [hli e.on (by omega)] at h3;simp only [YQ,YO];exact⟨YD h3,by omega⟩)
   simp at h1
  intro hjs;have ho:ops[j]?=some ops[j]:=Array.getElem?_eq_getElem hjs;have hj':j < listed.size:=by omega
  refine List.mem_filter.2 ⟨List.mem_range.2 hjs,?_⟩;have hn:listed.getD j false=false:=by rw [hli j hjs];exact decide_eq_false (Nat.lt_irrefl _)
  have hn':listed.getD j true=false:=by
   simp [Array.getD,hj'] at hn ⊢;exact hn
  simp only [hn',Bool.not_false,Bool.true_and,ho,Option.map_some,Option.getD_some];rw [Array.all_eq_true'];intro e he;cases hb:Region.binds .any e with
  | false=>simp
  | true =>
   have hon:=hedge j ops[j] (by simp [ho]) e (by simpa using he) hb;simp only [Bool.not_true,Bool.false_or];rw [hli e.on (by omega)];exact decide_eq_true hon
 induction fuel with
 | zero =>
  intro j listed a w hj hsz hli hf h;obtain ⟨r1,r2⟩:=rdy j listed hj hsz hli;have hd:ops.toList.drop j=[]:=List.drop_eq_nil_of_le (by rw [Array.length_toList];omega);rw [hd] at h;refine⟨?_,h⟩;cases hr:Region.ready .any ops listed with
  | nil=>rfl
  | cons i r =>
   have:=r1 i (by rw [hr];exact List.mem_cons_self);omega
 | succ fuel ih =>
  intro j listed a w hj hsz hli hf h;obtain ⟨r1,r2⟩:=rdy j listed hj hsz hli;refine⟨fun hnil=>?_,fun i hi=>?_⟩
  ·have hd:ops.toList.drop j=[]:=List.drop_eq_nil_of_le (by
    rw [Array.length_toList];refine Classical.byContradiction fun hno=>?_;have:=r2 (by omega);rw [hnil] at this;cases this)
   rw [hd] at h;exact h
  obtain ⟨rfl,hilt⟩:=r1 i hi;have ho:ops[i]?=some ops[i]:=Array.getElem?_eq_getElem hilt;have hdr:ops.toList.drop i=ops[i]::ops.toList.drop (i+1):=by
   rw [List.drop_eq_getElem_cons (by simpa using hilt)];simp
  rw [hdr] at h;have hi':i < listed.size:=by omega
  have hlist:∀ q,(listed.setIfInBounds i true).getD q false=if q=i then true else listed.getD q false:=by
   intro q;by_cases e:q=i
   ·subst e;simp [Array.getD,hi']
   simp only [Array.getD_eq_getD_getElem?,Array.getElem?_setIfInBounds_ne (Ne.symm e),e,if_false]
  have next:∀ a w,wpListIn F nn P ops Q (ops.toList.drop (i+1)) a w→wpAnyIn F nn P .any ops Q fuel (listed.setIfInBounds i true) a w:=fun a w hh =>
   ih (i+1) _ a w (by omega) (by simp [hsz]) (fun q hq=>by
    rw [hlist];by_cases e:q=i
    ·subst e;rw [YG rfl];exact(decide_eq_true (by omega)).symm
    rw [YF e,hli q hq];exact decide_eq_decide.2 (by omega)) (by omega) hh
  unfold wpOpIn;simp only [ho];unfold wpListIn at h
  split
  ·next hw =>
   rw [YG hw] at h;exact Oper.wpIn_mono next h
  next hw =>
  rw [YF hw] at h;exact⟨h.1,next _ _ h.2⟩
theorem MI {P:Program} {G0:aA} {N id:Nat} {Q:Exit→bD→aA→Prop} {ops:Array Oper} {E E':bD} {H H':aA} {rs:List Rec} (T:Nat) (hm:P.follows .mixedOrders=true) (hT:T≤ops.size) (hc:DChain P N ops.toList (ops.toList.take T) E H rs E' H') (hok:BK T ops.toList rs=true)
  (hB:AL P G0 N ops (fun E H=>Q .normal E H) (ops.toList.drop T) E' H'):fP P G0 N (.region id ops true) Q E H:=by
 intro G hG a w hs ro hro;have hnd0:ro=none∨ops.toList.all Oper.noDefer=true:=hro;refine wpIn_region_any hm ?_;obtain ⟨hlen,hst,hE',hH'⟩:=hc.spec;obtain ⟨l,hl⟩:∃ l,l=List.zipWith Ent2.mk (ops.toList.take T) rs:=⟨_,rfl⟩;rw [← hl] at hst hE' hH';simp only [BK,YQ,← hl] at hok;obtain ⟨⟨hok1,hok2⟩,hok3⟩:=hok;have hTl:(ops.toList.take T).length=T:=by rw [YV,Array.length_toList];omega
 rw [hTl] at hE' hH';have hndB:ro=none∨(ops.toList.drop T).all Oper.noDefer=true:=hnd0.imp (fun h=>h) fun h=>List.all_eq_true.2 fun x hx=>List.all_eq_true.1 h x (List.mem_of_mem_drop hx);have hll:l.length=T:=by rw [hl,List.length_zipWith,hlen,hTl];omega
 have hlo:∀ (i:Nat) (x:Ent2),l[i]?=some x→ops.toList[i]?=some x.o:=by
  intro i x hx;have hiT:i < T:=by have:=(YL.1 hx).1;omega
  rw [hl,List.getElem?_zipWith,List.getElem?_take_of_lt hiT] at hx;cases e1:ops.toList[i]? with
  | none=>simp [e1] at hx
  | some o =>
   cases e2:rs[i]? with
   | none=>simp [e1,e2] at hx
   | some r=>simp [e1,e2] at hx;rw [← hx]
 have hedge:=rQ ops.toList 0 hok1;have hbef:∀ (i j:Nat) (x y:Ent2),i < j→l[i]?=some x→l[j]?=some y→eV ops.toList x y=true→U9 ops.toList i j:=fun i j x y hij hx hy hcl =>
  tX ops.toList [] [] rfl rfl (by simp) j i (rO l [] hok2 i j hij (YY _) x y hx hy hcl)
 have htail:∀ (j:Nat),T≤j→j < ops.size→∀ i,i < j→U9 ops.toList i j:=by
  intro j hj hjs i hi;have h1:=List.all_eq_true.1 hok3 j (List.mem_range.2 (by rw [Array.length_toList];exact hjs));rw [Bool.or_eq_true] at h1;rcases h1 with h1|h1
  ·rw [Nat.blt_eq] at h1;omega
  exact tX ops.toList [] [] rfl rfl (by simp) j i (List.all_eq_true.1 h1 i (List.mem_range.2 hi))
 have hedge0:∀ j o,ops.toList[j]?=some o→∀ e∈o.after.toList,Region.binds .any e=true→e.on < j:=fun j o h e he hb=>by have:=hedge j o h e he hb;omega
 have fin:∀ (fuel:Nat) (listed:Array Bool) (a:Act) (w:World) (E1:bD) (H1:aA),listed.size=ops.size→ops.size≤T+fuel→(∀ j,T≤j→listed.getD j false=false)→(∀ i,i < T→listed.getD i false=true)→St G N E1 H1 a w→(∀ t,E1.get t=p8 E l (fun i=>listed.getD i false) T t)→(∀ j,H1.get j=p7 H l (fun i=>listed.getD i false) T j) →
   wpAnyIn (RF ro) 0 P .any ops (fun e a w=>∃ E H,Q e E H∧St G N E H a w) fuel listed a w:=by
  intro fuel listed a w E1 H1 hsz hfu hnoB hall hst1 hE1 hH1;refine QG hedge0 htail fuel T listed a w (YN _) hsz (fun i hi=>?_) (by omega) ?_
  ·by_cases h:i < T
   ·rw [hall i h,decide_eq_true h]
   rw [hnoB i (by omega),decide_eq_false h]
  refine hB G hG a w (bY.get (G0:=G0) (fun t=>?_) (fun j=>?_) G hG N a w hst1) ro hndB _ (fun E H a w hK hst=>⟨E,H,hK,hst⟩)
  ·rw [hE' t,hE1 t];exact(jC (E:=E) T T (YN _) (fun j x hj _=>⟨fun hlt=>hall j hlt,fun h1 h2=>by omega⟩)).symm
  rw [hH' j,hH1 j];exact(jB (H:=H) T T (YN _) (fun i x hi _=>⟨fun hlt=>hall i hlt,fun h1 h2=>by omega⟩)).symm
 have cnt:∀ (fuel:Nat) (listed:Array Bool),listed.size=ops.size→(∀ j,T≤j→listed.getD j false=false)→((List.range ops.size).filter fun i=>!listed.getD i true).length≤fuel→ops.size≤T+fuel:=by
  intro fuel listed hsz hnoB hcnt;have h1:(List.range' T (ops.size - T)).length≤((List.range ops.size).filter fun i=>!listed.getD i true).length:=by
   refine List.Nodup.length_le_of_subset List.nodup_range' fun j hj=>?_;rw [List.mem_range'_1] at hj;have hjl:j < listed.size:=by omega
   have h2:=hnoB j (by omega);refine List.mem_filter.2 ⟨List.mem_range.2 (by omega),?_⟩;simp [Array.getD,hjl] at h2 ⊢;exact h2
  rw [List.length_range'] at h1;omega
 have main:∀ (fuel:Nat) (listed:Array Bool) (a:Act) (w:World) (E1:bD) (H1:aA),listed.size=ops.size→((List.range ops.size).filter fun i=>!listed.getD i true).length≤fuel →
   xU ops.toList (fun i=>listed.getD i false)→(∀ j,T≤j→listed.getD j false=false)→St G N E1 H1 a w→(∀ t,E1.get t=p8 E l (fun i=>listed.getD i false) T t)→(∀ j,H1.get j=p7 H l (fun i=>listed.getD i false) T j) →
   wpAnyIn (RF ro) 0 P .any ops (fun e a w=>∃ E H,Q e E H∧St G N E H a w) fuel listed a w:=by
  intro fuel
  induction fuel with
  | zero =>
   intro listed a w E1 H1 hsz hcnt hdown hnoB hst1 hE1 hH1;have hall:∀ i,i < T→listed.getD i false=true:=by
    intro i hi;have hnil:=List.eq_nil_of_length_eq_zero (Nat.le_zero.1 hcnt);have:=List.filter_eq_nil_iff.1 hnil i (List.mem_range.2 (by omega));have hi':i < listed.size:=by omega
    simp [Array.getD,hi'] at this ⊢;exact this
   exact fin 0 listed a w E1 H1 hsz (cnt 0 listed hsz hnoB hcnt) hnoB hall hst1 hE1 hH1
  | succ fuel ih =>
   intro listed a w E1 H1 hsz hcnt hdown hnoB hst1 hE1 hH1;by_cases hallT:∀ i,i < T→listed.getD i false=true
   ·exact fin _ listed a w E1 H1 hsz (cnt _ listed hsz hnoB hcnt) hnoB hallT hst1 hE1 hH1
   refine⟨fun hnil=>?_,fun i hi=>?_⟩
   ·-- nothing is left
    exfalso;have hall:∀ i,i < ops.size→listed.getD i false=true:=by
     intro i
     induction i using Nat.strongRecOn with
     | _ i ihi =>
      intro hi;refine Classical.byContradiction fun hno=>?_;have hi':i < listed.size:=by omega
      have hno':listed.getD i true=false:=by
       simp [Array.getD,hi'] at hno ⊢;exact hno
      have hlt:i < ops.toList.length:=by simpa using hi
      have hr:i∈Region.ready .any ops listed:=by
       unfold Region.ready;refine List.mem_filter.2 ⟨List.mem_range.2 hi,?_⟩;have ho:ops[i]?=some ops[i]:=Array.getElem?_eq_getElem hi;simp only [hno',Bool.not_false,Bool.true_and,ho,Option.map_some,Option.getD_some];rw [Array.all_eq_true'];intro e he;cases hb:Region.binds .any e with
       | false=>simp
       | true =>
        have hon:=hedge i ops[i] (by simp [ho]) e (by simpa using he) hb;simp only [Bool.not_true,Bool.false_or];exact ihi e.on (by omega) (by omega)
      rw [hnil] at hr;cases hr
    exact hallT fun i hi=>hall i (by omega)
   have hi1:=List.mem_filter.1 hi;have hilt:i < ops.size:=List.mem_range.1 hi1.1;have hi':i < listed.size:=by omega
   have ho:ops[i]?=some ops[i]:=Array.getElem?_eq_getElem hilt;have hi2:=hi1.2;simp only [ho,Option.map_some,Option.getD_some,YQ] at hi2;obtain ⟨hnl,hpreds⟩:=hi2;have hnl':listed.getD i false=false:=by
    simp [Array.getD,hi'] at hnl ⊢;exact hnl
   have hpre:∀ e∈(ops[i]).after.toList,Region.binds .any e=true→listed.getD e.on false=true:=by
    intro e he hb;have:=(Array.all_eq_true'.1 hpreds) e (by simpa using he)
    simpa [hb] using this
   have hiT:i < T:=by
    refine Classical.byContradiction fun hno=>hallT fun q hq=>?_;exact htail i (by omega) hilt q (by omega) _ hdown ops[i] (by simp [ho]) hpre
   have hil:i < l.length:=by omega
   obtain ⟨x,hx⟩:∃ x,l[i]?=some x:=⟨_,YM hil⟩;have hxo:x.o=ops[i]:=by
    have:=hlo i x hx;simp [ho] at this;exact this.symm
   obtain ⟨hdok,Ek,Hk,hEk,hHk,hdst⟩:=hst i x hx;have hbefore:∀ (j:Nat) (y:Ent2),j < i→l[j]?=some y→eV ops.toList y x=true→listed.getD j false=true:=by
    intro j y hj hy hcl;exact hbef j i y x hj hy hx hcl _ hdown ops[i] (by simp [ho]) hpre
   have hbehind:∀ (j:Nat) (y:Ent2),i < j→l[j]?=some y→eV ops.toList x y=true→listed.getD j false=false:=by
    intro j y hj hy hcl;cases hjl:listed.getD j false with
    | false=>rfl
    | true =>
     have hjlt:j < l.length:=(YL.1 hy).1;have hjo:ops.toList[j]?=some y.o:=hlo j y hy;have:=hbef i j x y hj hx hy hcl _ hdown y.o hjo (fun e he hb=>hdown j y.o hjo hjl e he hb);rw [hnl'] at this;cases this
   have agreeE:∀ t,(∀ (j:Nat) (y:Ent2),l[j]?=some y→y.o.dst=some t→(j < i→eV ops.toList y x=true)∧(i < j→eV ops.toList x y=true))→E1.get t=Ek.get t:=by
    intro t ht;rw [hE1 t,hEk t];refine jC (E:=E) T i (by omega) (fun j y hj hd=>⟨fun hlt=>hbefore j y hlt hj ((ht j y hj hd).1 hlt),fun h1 h2=>?_⟩);by_cases e:j=i
    ·subst e;exact hnl'
    exact hbehind j y (by omega) hj ((ht j y hj hd).2 (by omega))
   have agreeH:∀ k,(∀ (j:Nat) (y:Ent2),l[j]?=some y→(y.r.W.get k).isSome=true→(j < i→eV ops.toList y x=true)∧(i < j→eV ops.toList x y=true))→H1.get k=Hk.get k:=by
    intro k hk;rw [hH1 k,hHk k];refine jB (H:=H) T i (by omega) (fun j y hj hd=>⟨fun hlt=>hbefore j y hlt hj ((hk j y hj hd).1 hlt),fun h1 h2=>?_⟩);by_cases e:j=i
    ·subst e;exact hnl'
    exact hbehind j y (by omega) hj ((hk j y hj hd).2 (by omega))
   have hlooks:∀ t,t∈eD ops.toList x.o→E1.get t=Ek.get t:=fun t ht =>
    agreeE t fun j y hj hd=>⟨fun _=>nP hd ht,fun _=>nO hd ht⟩
   have hreads:∀ k,m4 x.r.R k=true→H1.get k=Hk.get k:=fun k hk =>
    agreeH k fun j y hj hd=>⟨fun _=>AR hd hk,fun _=>AS hd hk⟩
   have hlist:∀ j,(listed.setIfInBounds i true).getD j false=if j=i then true else listed.getD j false:=by
    intro j;by_cases e:j=i
    ·subst e;simp [Array.getD,hi']
    simp only [Array.getD_eq_getD_getElem?,Array.getElem?_setIfInBounds_ne (Ne.symm e),e,if_false]
   have hdown':xU ops.toList (fun j=>(listed.setIfInBounds i true).getD j false):=by
    intro j o hj hjl e he hb;simp only [hlist] at hjl ⊢;by_cases ej:j=i
    ·subst ej;have:o=ops[j]:=by simp [ho] at hj;exact hj.symm
     subst this;have:=hpre e he hb;simp [this]
    simp only [ej,if_false] at hjl;have:=hdown j o hj hjl e he hb;simp only at this;simp [this]
   have hcnt':((List.range ops.size).filter fun j=>!(listed.setIfInBounds i true).getD j true).length≤fuel:=by
    have hlist':∀ j,(listed.setIfInBounds i true).getD j true=if j=i then true else listed.getD j true:=by
     intro j;by_cases e:j=i
     ·subst e;simp [Array.getD,hi']
     simp only [Array.getD_eq_getD_getElem?,Array.getElem?_setIfInBounds_ne (Ne.symm e),e,if_false]
    have h1:((List.range ops.size).filter fun j=>!(listed.setIfInBounds i true).getD j true)=((List.range ops.size).filter fun j=>!listed.getD j true).filter fun j=>j != i:=by
     rw [List.filter_filter];refine List.filter_congr fun j _=>?_;rw [hlist'];by_cases e:j=i<;>simp [e]
    rw [h1];have h2:=List.length_filter_lt_length_iff_exists (p:=fun j=>j != i) (l:=(List.range ops.size).filter fun j=>!listed.getD j true) |>.2 ⟨i,List.mem_filter.2 ⟨hi1.1,by simpa using hnl⟩,by simp⟩;omega
   have next:∀ (r:AV) (a':Act) (w':World),r=x.r.v→St G N (iV E1 x.o.dst x.r.v) (x.r.W++H1) a' w'→wpAnyIn (RF ro) 0 P .any ops (fun e a w=>∃ E H,Q e E H∧St G N E H a w) fuel (listed.setIfInBounds i true) a' w':=by
    intro r a' w' _ hst';refine ih _ a' w' _ _ (by simp [hsz]) hcnt' hdown' (fun j hj=>by rw [hlist,YF (by omega)];exact hnoB j hj) hst' (fun t=>?_) (fun k=>?_)
    ·-- slots
     by_cases hd:x.o.dst=some t
     ·have e1:bD.get (iV E1 x.o.dst x.r.v) t=some x.r.v:=by rw [hd];simp [iV,bD.get_cons_same]
      rw [e1];have e2:=jC (E:=E) (l:=l) (S:=fun j=>(listed.setIfInBounds i true).getD j false) (t:=t) T (i+1) (by omega) (fun j y hj hyd=>⟨fun hlt=>?_,fun h1 h2=>?_⟩)
      ·rw [e2,p8,hx];simp [hd]
      ·simp only [hlist];by_cases ej:j=i
       ·simp [ej]
       simp only [ej,if_false];exact hbefore j y (by omega) hj (jL hyd hd)
      simp only [hlist];rw [YF (by omega)];exact hbehind j y (by omega) hj (jL hd hyd)
     have e1:bD.get (iV E1 x.o.dst x.r.v) t=E1.get t:=by
      cases hdd:x.o.dst with
      | none=>rfl
      | some d=>exact bD.get_cons_other _ _ (fun e=>hd (by rw [hdd,e]))
     rw [e1,hE1 t];have:∀ n,p8 E l (fun i=>listed.getD i false) n t=p8 E l (fun j=>(listed.setIfInBounds i true).getD j false) n t:=by
      intro n
      induction n with
      | zero=>rfl
      | succ n ihn =>
       rw [p8,p8];cases hn:l[n]? with
       | none=>exact ihn
       | some y =>
        simp only;by_cases en:n=i
        ·subst en;rw [hx] at hn;cases hn;rw [YF (fun h=>hd h.2),YF (fun h=>hd h.2)];exact ihn
        have hS:(listed.setIfInBounds i true).getD n false=listed.getD n false:=by rw [hlist,YF en]
        rw [hS,ihn]
     exact this _
    rw [r9];by_cases hd:(x.r.W.get k).isSome=true
    ·obtain ⟨ob,hob⟩:=Option.isSome_iff_exists.1 hd;rw [hob];have e2:=jB (H:=H) (l:=l) (S:=fun j=>(listed.setIfInBounds i true).getD j false) (id:=k) T (i+1) (by omega) (fun j y hj hyd=>⟨fun hlt=>?_,fun h1 h2=>?_⟩)
     ·rw [e2,p7,hx];simp [hob]
     ·simp only [hlist];by_cases ej:j=i
      ·simp [ej]
      simp only [ej,if_false];exact hbefore j y (by omega) hj (pK hyd hd)
     simp only [hlist];rw [YF (by omega)];exact hbehind j y (by omega) hj (pK hd hyd)
    have hnone:x.r.W.get k=none:=by simpa using hd
    rw [hnone];simp only;rw [hH1 k];have:∀ n,p7 H l (fun i=>listed.getD i false) n k=p7 H l (fun j=>(listed.setIfInBounds i true).getD j false) n k:=by
     intro n
     induction n with
     | zero=>rfl
     | succ n ihn =>
      rw [p7,p7];cases hn:l[n]? with
      | none=>exact ihn
      | some y =>
       simp only;by_cases en:n=i
       ·subst en;rw [hx] at hn;cases hn;rw [YF (fun h=>hd h.2),YF (fun h=>hd h.2)];exact ihn
       have hS:(listed.setIfInBounds i true).getD n false=listed.getD n false:=by rw [hlist,YF en]
       rw [hS,ihn]
    exact this _
   unfold wpOpIn;simp only [ho];rw [hxo] at hdst hlooks hdok;rw [hxo] at next;have hgE:∀ (j:Nat) (want:Bool) (t:Tmp) (b:Bool),(ops[i]).guard=some (j,want)→fU ops.toList j=some t→Ek.get t=some (.pv (.bool b))→yielded ops a.tmps j=some b:=by
    intro j want t b hg hj hb;have hmem:t∈eD ops.toList ops[i]:=by simp [eD,hg,hj]
    exact kE (E:=E1) hj ((hlooks t hmem).trans hb) hst1.rel.choose_spec.choose_spec.2.2
   have hnd:ro=none∨(ops[i]).noDefer=true:=hnd0.imp (fun h=>h) fun h=>List.all_eq_true.1 h _ (by simp);cases hdst with
   | plain hg h =>
    have hw:Region.wanted ops[i] (yielded ops a.tmps)=true:=by simp [Region.wanted,hg]
    simp only [hw,if_true];refine hst1.op hdok ((h H1 hreads).restr hlooks) ?_ hnd;rintro r H2 a' w' ⟨rfl,rfl⟩ hs';exact next _ a' w' rfl hs'
   | on j want t b hg hj hb hw h =>
    have hy:=hgE j want t b hg hj hb;have hw:Region.wanted ops[i] (yielded ops a.tmps)=true:=by simp [Region.wanted,hg,hy,hw]
    simp only [hw,if_true];refine hst1.op hdok ((h H1 hreads).restr hlooks) ?_ hnd;rintro r H2 a' w' ⟨rfl,rfl⟩ hs';exact next _ a' w' rfl hs'
   | off j want t x' hg hj hb hw hv hW =>
    have hmem:t∈eD ops.toList ops[i]:=by simp [eD,hg,hj]
    have hw:Region.wanted ops[i] (yielded ops a.tmps)=false :=
     tM (E:=E1) hg hj ((hlooks t hmem).trans hb) hw hst1.rel.choose_spec.choose_spec.2.2
    simp only [hw,Bool.false_eq_true,if_false];refine⟨fun _ _=>trivial,?_⟩;refine next (.tup []) _ w hv.symm ?_;obtain ⟨I,ι,hr,hst2,he⟩:=hst1.rel;rw [hv,hW];refine⟨?_,?_,I,ι,hr,hst2,fG.put hr (Step.refl _ _ _ _) he fG.skip (by rw [hst1.size];exact hdok)⟩
    ·rw [fS];exact hst1.defers
    have:=hst1.size;cases (ops[i]).dst<;>simpa [Act.put] using this
 have hs':St G N E H a {w with drawn:=w.drawn+1}:=by
  obtain ⟨I,ι,hr,hst2,he⟩:=hs.rel;obtain ⟨k2,k3⟩:=hr.drawn (w':={w with drawn:=w.drawn+1}) rfl rfl rfl rfl;exact⟨hs.defers,hs.size,I,ι,k2,hst2.trans k3,fun t v ht=>let ⟨c,h1,h2⟩:=he t v ht;⟨c,h1,h2.mono hr k3⟩⟩
 refine main ops.size (Array.replicate ops.size false) a _ E H (by simp) (by
  have:=List.length_filter_le (fun i=>!(Array.replicate ops.size false).getD i true) (List.range ops.size)
  simpa using this) (fun j o hj hjl=>by simp [Array.getD] at hjl) (fun j _=>by simp [Array.getD]) hs' (fun t=>?_) (fun k=>?_)
 ·have:∀ n,p8 E l (fun i=>(Array.replicate ops.size false).getD i false) n t=E.get t:=by
   intro n
   induction n with
   | zero=>rfl
   | succ n ihn =>
    rw [p8];cases l[n]? with
    | none=>exact ihn
    | some y =>
     have hf:(Array.replicate ops.size false).getD n false=false:=by simp [Array.getD]
     simp only [hf,Bool.false_eq_true,false_and,if_false];exact ihn
  exact(this _).symm
 have:∀ n,p7 H l (fun i=>(Array.replicate ops.size false).getD i false) n k=H.get k:=by
  intro n
  induction n with
  | zero=>rfl
  | succ n ihn =>
   rw [p7];cases l[n]? with
   | none=>exact ihn
   | some y =>
    have hf:(Array.replicate ops.size false).getD n false=false:=by simp [Array.getD]
    simp only [hf,Bool.false_eq_true,false_and,if_false];exact ihn
 exact(this _).symm
theorem HF {P:Program} {G0:aA} {N id:Nat} {Q:Exit→bD→aA→Prop} {ops:Array Oper} {E:bD} {H:aA} (T:Nat) (hm:P.follows .mixedOrders=true) (hT:T≤ops.size)
  (h:DC P N ops.toList (ops.toList.take T) E H (fun rs E' H'=>BK T ops.toList rs=true∧AL P G0 N ops (fun E H=>Q .normal E H) (ops.toList.drop T) E' H')):fP P G0 N (.region id ops true) Q E H:=by
 obtain ⟨rs,E',H',h1,h2,h3⟩:=h;exact MI T hm hT h1 h2 h3
end Go.Abs
namespace Go.Proofs.YtmkgeogoojcciaaGreatDoor
open Go.Proofs.Tryz
open Go.Abs Go.Lib
def VU (x:GOp):Prop:=x.put.length < 1000000000∧x.drop.length < 1000000000∧∀ p∈x.put,p.1.size < 1099511627776∧p.2.size < 1099511627776
theorem LJ {l:List GOp} (h:uM l=true):l.length≤12∧∀ x∈l,x.put.length≤6∧x.drop.length≤6∧(∀ p∈x.put,p.1.size+p.2.size≤600)∧∀ s∈x.drop,s.size≤600:=by rw [uM,YQ,YO] at h;refine⟨h.2,fun x hx=>?_⟩;have h1:=List.all_eq_true.1 h.1 x hx;rw [CA] at h1;simp only [YQ,YO] at h1;exact⟨h1.1.1,h1.1.2,fun p hp=>YD (List.all_eq_true.1 h1.2.1 p hp),fun s hs=>YD (List.all_eq_true.1 h1.2.2 s hs)⟩
end Go.Proofs.YtmkgeogoojcciaaGreatDoor
namespace Go.Proofs.YtmkgeogoojcciaaGreatDoor
open Go.Proofs.Tryz
open Go.Abs Go.ChangeShapes Go.WideShapes Go.ChangeAt Go.RowKit
theorem own:ownKnob Tryz.prog.godebug=none:=by kernel_rfl
theorem IR:laidOutB Tryz.prog=true:=by kernel_rfl
theorem FJ {H:Type} {l:List (DataW H)} (hk:Rows.uptoSmall H l=true):Rows.uptoBulkAll l≤1048576:=YD hk
theorem L7 {H:Type} {l r:List (DataW H)} {n:Nat} (h:Rows.uptoBulkAll (l++r)≤n):Rows.uptoBulkAll l≤n:=by
 induction l generalizing n with
 | nil=>simp [Rows.uptoBulkAll]
 | cons x l ih =>
  simp only [List.cons_append,Rows.uptoBulkAll] at h ⊢;have:=ih (n:=n - Rows.uptoBulk x) (by omega);omega
def WP (n:Int):Prop:=(Lit.int .i64 n).wf=true
theorem SR {B n:Nat} {ps:List PV} (h:Sh Tryz.prog B (n+1) 5 ps):∃ i,ps=[.int .u8 i]∧0≤i∧i≤255:=by obtain ⟨i,rfl,hi⟩:=vR bG h;exact⟨i,rfl,by simpa [Lit.wf,IntKind.min,IntKind.max,IntKind.signed,IntKind.bits] using hi⟩
theorem UR {B n:Nat} {ps:List PV} (h:Sh Tryz.prog B (n+2) 31 ps):∃ l,ps=[aX l]∧l.length≤B∧∀ s,s∈l→s.size≤B:=by obtain ⟨l,rfl,h1,h2⟩:=A4 (f:=encStr) (good:=fun s=>s.size≤B) aP h (fun r hr=>FW aK hr);exact⟨l,rfl,h1,h2⟩
theorem NU {P:Program} {B n k:Nat} {t e:TypeId} {ps:List PV} (ht:P.underlying t=some (.array k e)) (h:Sh P B (n+1) t ps):VG (fun t ps=>Sh P B n t ps) P.cellsOf (sL P e 0 k) ps:=by unfold Sh at h;rw [ht] at h;exact h
def NH (B:Nat) (p:ByteArray×ByteArray):Prop:=p.1.size≤B∧p.2.size≤B
theorem W7 {B n:Nat} {ps:List PV} (h:Sh Tryz.prog B (n+2) 66 ps):∃ p,ps=uP p∧NH B p:=by obtain ⟨_,_,rfl,_,h1,_,_,rfl,_,h2,rfl⟩:=NU lX h;obtain ⟨s,rfl,q1⟩:=FW aK h1;obtain ⟨t,rfl,q2⟩:=FW aK h2;exact⟨(s,t),rfl,q1,q2⟩
theorem V8 {B n:Nat} {ps:List PV} (h:Sh Tryz.prog B (n+3) 35 ps):∃ l,ps=[RM l]∧l.length≤B∧∀ p,p∈l→NH B p:=by obtain ⟨l,rfl,h1,h2⟩:=A4 (f:=uP) (good:=NH B) lY h (fun r hr=>W7 hr);exact⟨l,rfl,h1,h2⟩
def T0 (B:Nat) (o:GOp):Prop:=WP o.kind∧(o.put.length≤B∧∀ p,p∈o.put→NH B p)∧(o.drop.length≤B∧∀ s,s∈o.drop→s.size≤B)∧WP o.a∧WP o.b∧WP o.c
def C5 (B:Nat) (l:List GOp):Prop:=l.length≤B∧∀ o,o∈l→T0 B o
theorem W6 {B n:Nat} {ps:List PV} (h:Sh Tryz.prog B (n+4) 37 ps):∃ o,ps=uO o∧T0 B o:=by obtain ⟨_,_,rfl,_,h1,_,_,rfl,_,h2,_,_,rfl,_,h3,_,_,rfl,_,h4,_,_,rfl,_,h5,_,_,rfl,_,h6,rfl⟩:=J9 sQ h;obtain ⟨k,rfl,q1⟩:=vR bL h1;obtain ⟨l,rfl,q2⟩:=V8 h2;obtain ⟨d,rfl,q3⟩:=UR h3;obtain ⟨a,rfl,q4⟩:=vR bL h4;obtain ⟨b,rfl,q5⟩:=vR bL h5;obtain ⟨c,rfl,q6⟩:=vR bL h6;exact⟨⟨k,l,d,a,b,c⟩,rfl,q1,q2,q3,q4,q5,q6⟩
theorem V7 {B n:Nat} {ps:List PV} (h:Sh Tryz.prog B (n+5) 22 ps):∃ l,ps=[pS l]∧C5 B l:=by obtain ⟨l,rfl,h1,h2⟩:=A4 (f:=uO) (good:=T0 B) lZ h (fun r hr=>W6 hr);exact⟨l,rfl,h1,h2⟩
theorem C5.len {l:List GOp} (h:C5 1048576 l):l.length < 1000000000:=Nat.lt_of_le_of_lt h.1 (by decide)
theorem C5.ok {l:List GOp} (h:C5 1048576 l):∀ x∈l,VU x:=fun x hx=>by
 obtain ⟨_,⟨h1,h2⟩,⟨h3,_⟩,_⟩:=h.2 x hx;exact⟨by omega,by omega,fun p hp=>by have:=h2 p hp;unfold NH at this;omega⟩
end Go.Proofs.YtmkgeogoojcciaaGreatDoor
namespace Go.Proofs.YtmkgeogoojcciaaGreatDoor
open Go.Proofs.Tryz
open Go.Abs Go.Lib
theorem MF {P:Program} {G0:aA} {N:Nat} {Q:Exit→bD→aA→Prop} {E:bD} {H:aA} {cc:Code} {α β γ δ ε ζ:Type} (S:α→β→γ→δ→ε→ζ→bD×aA) (J:α→β→γ→δ→ε→ζ→Prop) (μ:α→β→γ→δ→ε→ζ→Nat) (a0:α) (b0:β) (c0:γ) (d0:δ) (e0:ε) (z0:ζ) (h0:J a0 b0 c0 d0 e0 z0) (hin:bY G0 E H (S a0 b0 c0 d0 e0 z0).1 (S a0 b0 c0 d0 e0 z0).2)
  (round:∀ a b c d e z,J a b c d e z→fP P G0 N cc (oU (fun E' H'=>∃ a' b' c' d' e' z',J a' b' c' d' e' z'∧μ a' b' c' d' e' z' < μ a b c d e z∧bY G0 E' H' (S a' b' c' d' e' z').1 (S a' b' c' d' e' z').2) Q) (S a b c d e z).1 (S a b c d e z).2):fP P G0 N (.loop cc) Q E H:=by
 refine MG (α:=α) (β:=β) (γ:=γ) (δ:=δ) (ε:=ε×ζ) (fun a b c d s=>S a b c d s.1 s.2) (fun a b c d s=>J a b c d s.1 s.2) (fun a b c d s=>μ a b c d s.1 s.2) a0 b0 c0 d0 (e0,z0) h0 hin ?_;intro a b c d s hs;have h:=round a b c d s.1 s.2 hs;have e:(fun(E':bD) (H':aA)=>∃ (a':α) (b':β) (c':γ) (d':δ) (s':ε×ζ),J a' b' c' d' s'.1 s'.2∧μ a' b' c' d' s'.1 s'.2 < μ a b c d s.1 s.2∧bY G0 E' H' (S a' b' c' d' s'.1 s'.2).1 (S a' b' c' d' s'.1 s'.2).2)=(fun E' H'=>∃ a' b' c' d' e' z',J a' b' c' d' e' z'∧μ a' b' c' d' e' z' < μ a b c d s.1 s.2∧bY G0 E' H' (S a' b' c' d' e' z').1 (S a' b' c' d' e' z').2):=by
  funext E' H';exact propext ⟨fun⟨a',b',c',d',s',h⟩=>⟨a',b',c',d',s'.1,s'.2,h⟩,fun⟨a',b',c',d',e',z',h⟩=>⟨a',b',c',d',(e',z'),h⟩⟩
 rw [e];exact h
theorem DG {d:DSt} {N place a n:Nat} {hd:Bool} (h:Calm d N) (hp:place < N) (ha:a < 10) (hn:n < 10000000):(qF d place a n hd).1=0∧Calm (qF d place a n hd).2 N:=by
 rw [qF];by_cases e:bK d place=mD place a n hd
 ·rw [YG e];exact⟨rfl,h⟩
 rw [YF e];obtain ⟨a1,a2,_⟩:=nE h (place:=place) (L:=[zS]) (by rw [List.length_singleton];omega) (fun t ht=>by rw [YK.1 ht];exact VO) (by rw [List.length_singleton];omega);by_cases e2:(iT d place [zS]).1=0∧hd=true
 ·rw [YG e2];obtain ⟨b1,b2,_⟩:=nE a2 (place:=place) (L:=[mD place a n hd]) (by rw [List.length_singleton];omega) (fun t ht=>by rw [YK.1 ht];exact vI place hd ha hn) (by rw [List.length_singleton];omega);exact⟨b1,b2⟩
 rw [YF e2];exact⟨a1,a2⟩
theorem L3 {d:DSt} {N:Nat} (h:Calm d N) {p i m:Nat} (hp:p < N) (hi:i < 64) (hm:1≤m) (hm2:m < 256):Calm (u0 d p i m) N∧(u0 d p i m).cells=d.cells.set p (flip ((d.cells[p]?).getD ⟨#[]⟩) i m):=by
 have hr:rF d (p:Int) (i:Int) (m:Int)=true:=by
  rw [rF,fI,decide_eq_true (by have:=h.inv.n;omega),decide_eq_true (by omega),decide_eq_true (by omega),decide_eq_true (by omega),decide_eq_true (by omega)];rfl
 have e:u0 d p i m={d with cells:=d.cells.set p (flip ((d.cells[p]?).getD ⟨#[]⟩) i m)}:=by
  rw [u0,YG hr,YS,YS,YS]
 have hi:=SH h.inv (p:Int) (i:Int) (m:Int);rw [e] at hi ⊢;exact⟨⟨hi,h.off,h.na⟩,rfl⟩
theorem KY {d:DSt} {N k:Nat} {C:CT} (hc:Calm d N) (hN:4≤N) (hk:k=(N - 2) / 2) (hor:iY d k=true∨(iY d k=false∧FB d k (xW d k) (xV d k)=C)) :
  aJ Tryz.prog 12 [.ref 1000 0 0 0] (aY d) (fun r H'=>(r=.tup [.pv .nilp,iv 23]∧H'=aY d)∨(r=.tup [.ref 1100 0 0 0,iv 0]∧∃ d2 a2 n2 l c,dQ l c∧fD l∧l.length≤184000∧(∀ x,cT l x=C x)∧H'=sH d2 (b4 k a2 n2 false) (bJ l c))):=by
 have hn2:=hc.inv.ok.n2;have hcn:=hc.inv.n;have hb:=zQ d k;refine(IH hc.on hN k (xW d k) (xV d k) (tE d k) hk rfl rfl rfl).mono ?_;obtain ⟨r1,r2⟩:=DG (hd:=tE d k) hc (place:=1) (a:=xW d k) (n:=xV d k) (by omega) (by omega) (by omega);obtain ⟨r3,r4⟩:=DG (hd:=tE d k) r2 (place:=0) (a:=xW d k) (n:=xV d k) (by omega) (by omega) (by omega);rintro r H' (⟨h,rfl,rfl⟩|⟨_,h,_⟩|⟨_,_,h,_⟩|⟨h1,_,_,rfl,l,c,q1,q2,q3,q4,rfl⟩)
 ·exact .inl ⟨rfl,rfl⟩
 ·exact absurd r1 h
 ·exact absurd r3 h
 rcases hor with h|⟨_,h⟩
 ·rw [h1] at h;cases h
 exact .inr ⟨rfl,_,_,_,l,c,q1,q2,by omega,fun x=>by rw [q4,h],rfl⟩
theorem vL {x:Int} {n:Nat} (h0:0≤x) (hn:0 < n):∃ p:Nat,x.tmod (n:Int)=(p:Int)∧p < n:=by
 refine⟨(x % (n:Int)).toNat,?_,?_⟩
 ·have:=Int.emod_nonneg x (b:=(n:Int)) (by omega);rw [Int.tmod_eq_emod_of_nonneg h0];omega
 have:=Int.emod_lt_of_pos x (b:=(n:Int)) (by omega);have:=Int.emod_nonneg x (b:=(n:Int)) (by omega);omega
theorem LV (hhd:∀ H,aJ Tryz.prog 10 [] H (fun r H'=>r=bv true∧H'=H)) (raw:Int) (l:List GOp) (sec pos msk:Int) (hr:0≤raw∧raw≤255) (hl:l.length < 1000000000) (hs:∀ x∈l,VU x) (hsec:0≤sec∧sec≤255) (hpos:0≤pos∧pos≤255) (hmsk:0≤msk∧msk≤255) :
  aJ Tryz.prog 6 [.pv (.int .u8 raw),.pv (pS l),.pv (.int .u8 sec),.pv (.int .u8 pos),.pv (.int .u8 msk)] [] (fun r H'=>r=bv true∧H'=[]):=by
 have hml:(l.map uO).length=l.length:=YH _;have hfw:=fun H=>V2 l H (by omega) (fun x hx=>by have:=hs x hx;exact⟨by have:=this.1;omega,by have:=this.2.1;omega,this.2.2⟩);obtain ⟨N,hN⟩:∃ N,N=4+(raw % 100).toNat:=⟨_,rfl⟩;have hN4:4≤N:=by omega
 have hN1:N≤103:=by omega
 have hrem:raw.tmod 100=((N - 4:Nat):Int):=by
  rw [Int.tmod_eq_emod_of_nonneg hr.1];omega
 obtain ⟨p,hp1,hp2⟩:=vL hsec.1 (show 0 < N by omega);obtain ⟨i,hi1,hi2⟩:=vL hpos.1 (show 0 < 64 by omega);obtain ⟨m,hm1,hm2⟩:=vL hmsk.1 (show 0 < 255 by omega);refine Bd func6 rfl ntmps6<|Sr<|Dd aR<|Zz<|Sr<|Dd (by exact aB rfl rfl call10 rfl (hhd _))<|Dd aR<|Zz<|Sq<|Sr<|Dd aF<|Dd (by exact aB rfl rfl call11 rfl (hfw _))<|Dd xX<|Zz ?_;refine Cn ?_ ?_<;>intro hc1
 ·exact Sr<|Dd aF<|Dd aR<|Zz<|aM<|Rt<|Qq
 have hq:uM l=true:=by have h:=hc1;simpa using h
 obtain ⟨hl12,hfx⟩:=LJ hq;obtain ⟨k,hk⟩:∃ k,k=(N - 2) / 2:=⟨_,rfl⟩;have hop:=pB (sI (n:=N) (by omega) (by omega)) (rB hN4) hN4 rfl;rw [← hk] at hop;refine aH<|Sr<|Dd aF<|Dd (by exact cS rfl bG bL rfl (iB (by omega) (by omega)))<|Dd (by exact mZ rfl rfl rfl (by decide) hrem)<|Dd (by exact cG rfl rfl rfl (show IntKind.i64.wrap (4+((N - 4:Nat):Int))=(N:Int)by rw [iB (by omega) (by omega)];omega))<|Dd aR<|Zz<|Sr<|Dd aF<|Dd (by exact aB rfl rfl X2 rfl (OJ N (by omega) (by omega)))<|Dd aR<|Zz<|Sr<|Dm ?_;refine iD rfl rfl (aB rfl rfl CQ rfl hop) ?_;rintro _ _ ⟨rfl,lm,cm,q1,q2,q3,q4,rfl⟩;refine Dd aF<|Dd dU<|Dd dU<|Dd aR<|Dd aR<|Zz<|Sq<|Sr<|Dd aF<|Dd tF<|Zz ?_;refine Cn ?_ ?_<;>intro hc2
 ·cases hc2
 obtain ⟨tl,hSt0⟩:∃ tl,St N k tl (lE N) 0 0 lm cm (fun _=>none):=⟨_,by rw [hk];exact NK hN4 (by omega) q1 q2 q4⟩;obtain ⟨d0,hd0⟩:∃ d,d=lE N:=⟨_,rfl⟩;rw [← hd0] at hSt0 ⊢;clear hd0;refine aH<|Sq<|Sr<|Dd aR<|Zz<|aO ?_;refine MF (fun(j:Nat) (d:DSt) (a n:Nat) (lm:bT) (cm:Nat)=>([(1,.pv (pS l)),(2,.pv (.int .u8 sec)),(3,.pv (.int .u8 pos)),(4,.pv (.int .u8 msk)),(11,bv true),(12,iv (N:Int)),(13,.ref 1000 0 0 0),(14,.ref 1100 0 0 0),(16,iv (j:Int))],sH d (b4 k a n false) (bJ lm cm))) (fun j d a n lm cm=>j≤l.length∧∃ C,St N k tl d a n lm cm C) (fun j d a n lm cm=>l.length - j) 0 d0 0 0 lm cm ⟨YY _,_,hSt0⟩ ?_ ?_
 ·exact(bY.wk (Eb<|Eb<|Eb<|Eb<|Eb<|Eb<|Ea<|Ea<|Eb<|trivial) (Hc (aE _ _ rfl rfl rfl)<|Hc (aC _ _)<|Hc (aL _ _ _)<|Hc (aI _ _)<|Hc (by(simp;exact⟨rfl,rfl⟩))<|Hc (aS _ _ _)<|trivial) trivial)
 clear hSt0 q1 q2 q3 q4 lm cm;rintro j d a n lm cm ⟨hj,C,hSt⟩;have hlmlen:=hSt.inv.len hSt.nd hSt.kv;have hnk:=hSt.inv.nk;refine Sq<|Sr<|Dd aF<|Dd aF<|Dd (mB lZ)<|Dd dO<|Zz ?_;refine Cn ?_ ?_<;>intro hc3
 ·have hlt:j < l.length:=by have:=YD hc3;omega
  obtain ⟨x,hx⟩:=aZ hlt;have hix:=dM (f:=uO) hx;obtain ⟨f1,f2,f3,f4⟩:=hfx x (YR hx);have hmk:=gA x.put;have hmkl:(eP x.put).1.length≤6:=Nat.le_trans (zL x.put ([],0)) (by show 0+x.put.length≤6;omega);have hcm:=jZ hSt (by omega) (eP x.put).1 (eP x.put).2 x.drop hmk.1 hmk.2 (by omega) (by omega);have hsc:=qB hSt (by omega);refine aH<|Sq<|aO<|Sr<|Dd aF<|Dd aF<|Dd (by exact bP rfl x8 rfl rfl (by omega) (by exact YS _) hix rfl)<|Dd (Q2 UN)<|Dd (nL aT)<|Dd gH<|Zz ?_;refine Cn ?_ ?_<;>intro hc4
  ·refine Rg<|Dm ?_;refine iD rfl rfl (aB rfl rfl X1 rfl hsc) ?_;rintro _ _ ⟨rfl,d2,a2,n2,hSt2,_,rfl⟩;refine Zz<|Rg<|Dd aF<|Dd mU<|Da ?_;refine⟨j+1,d2,a2,n2,lm,cm,⟨by omega,_,hSt2⟩,by omega,?_⟩;exact(bY.wk (Eb<|Eb<|Eb<|Eb<|Eb<|Eb<|Ea<|Ea<|Eb<|trivial) (Hc (aE _ _ rfl rfl rfl)<|Hc (aC _ _)<|Hc (aL _ _ _)<|Hc (aI _ _)<|Hc (by(simp;exact⟨rfl,rfl⟩))<|Hc (aS _ _ _)<|trivial) trivial)
  refine HF 12 follows (YU rfl) ?_;refine Cr [1100] (fun _ _=>aF)<|Cr [] (fun _ _=>aF)<|Cr [] (fun _ _=>aF)<|Cr [] (fun H1 hH=>by exact bP rfl x8 rfl rfl (by omega) (by exact YS _) hix rfl)<|Cr [] (fun _ _=>(Q2 wY))<|Cr [] (fun _ _=>(nL xO))<|Cp [950] (fun H1 hH=>by exact aB rfl rfl call15 rfl (OL x.put _ ((hH 950 rfl).trans rfl) (by omega)))<|Cr [] (fun _ _=>aF)<|Cr [] (fun _ _=>aF)<|Cr [] (fun H1 hH=>by exact bP rfl x8 rfl rfl (by omega) (by exact YS _) hix rfl)<|Cr [] (fun _ _=>(Q2 B6))<|Cr [] (fun _ _=>(nL cD))<|cU<|Kr ?_;refine iD rfl rfl (aB rfl rfl sV rfl hcm) ?_;rintro _ _ ⟨rfl,d2,n2,l2,c2,hSt2,_,rfl⟩;refine Zz<|Rg<|Dd aF<|Dd mU<|Da ?_;refine⟨j+1,d2,a,n2,l2,c2,⟨by omega,_,hSt2⟩,by omega,?_⟩;exact(bY.wk (Eb<|Eb<|Eb<|Eb<|Eb<|Eb<|Ea<|Ea<|Eb<|trivial) (Hc (aE _ _ rfl rfl rfl)<|Hc (aC _ _)<|Hc (aL _ _ _)<|Hc (aI _ _)<|Hc (by(simp;exact⟨rfl,rfl⟩))<|Hc (aS _ _ _)<|trivial) trivial)
 obtain ⟨hcal,hcel⟩:=L3 hSt.calm hp2 hi2 (m:=1+m) (by omega) (by omega);have hflip:=KY hcal hN4 hk (L4 hSt.calm hcal hSt.inv (by omega) hp2 hi2 (by omega) (by omega) hcel);have hrot:=JG (o:=b4 k a n false) (m:=bJ lm cm) (VR d (p:Int) (i:Int) ((1+m:Nat):Int) hSt.calm.inv.ok) (by simp;rfl);have hct:=xF d k a n false lm cm hSt.st hSt.nd (by omega);obtain ⟨d5,hd5⟩:∃ x,x=u0 d (p:Int) (i:Int) ((1+m:Nat):Int):=⟨_,rfl⟩;rw [← hd5] at hflip hrot;clear hd5;refine bI<|Sr<|Dd aF<|Dd (by exact aB rfl rfl call18 rfl (hct))<|Dd aR<|Zz<|Sr<|Dd aF<|Dd aF<|Dd (by exact cS rfl bG bL rfl (iB (by omega) (by omega)))<|Dd aF<|Dd (by exact mZ rfl rfl rfl (by omega) hp1)<|Dd aF<|Dd (by exact cS rfl bG bL rfl (iB (by omega) (by omega)))<|Dd (by exact mZ rfl rfl rfl (by decide) hi1)<|Dd aF<|Dd (by exact cS rfl bG bL rfl (iB (by omega) (by omega)))<|Dd (by exact mZ rfl rfl rfl (by decide) hm1)<|Dd (by exact cG rfl rfl rfl (show IntKind.i64.wrap (1+(m:Int))=((1+m:Nat):Int)by rw [iB (by omega) (by omega)];omega))<|Dd (by exact aB rfl rfl call27 rfl (hrot))<|Zz<|Sr<|Dm ?_;refine lB (E':=[(11,bv true),(17,.pv (aX (gX lm))),(81,.ref 1000 0 0 0)]) (H':=aY d5) (bY.wk (Eb<|Eb<|Ea<|trivial) (Hc (aE _ _ rfl rfl rfl)<|Hc (aC _ _)<|Hc (aL _ _ _)<|Hc (aI _ _)<|trivial) trivial) ?_;refine iD rfl rfl (aB rfl rfl CQ rfl hflip) ?_;rintro _ _ (⟨rfl,rfl⟩|⟨rfl,d6,a6,n6,l6,c6,q1,q2,q3,q4,rfl⟩)
 ·refine Dd aF<|Dd dU<|Dd dU<|Dd aR<|Dd aR<|Zz<|Sr<|Dd aF<|Dd aF<|On aF<|On gH<|On aF<|On aF<|On (by exact lJ rfl eR rfl rfl)<|On fN<|On aF<|Fo<|Fo<|Fo ?_;refine vG rfl rfl rfl rfl ?_;refine vG rfl rfl rfl rfl ?_;refine vG rfl rfl rfl rfl ?_;refine vG rfl rfl rfl rfl ?_;exact Fo<|On fN<|Dd fN<|Dd aR<|Zz<|aM<|Rt<|Qq
 have hsame:gX l6=gX lm:=GT q2 hSt.nd fun y=>by rw [q4,hSt.kv]
 have hc6:=xF d6 k a6 n6 false l6 c6 q1 q2 (by omega);have hsm:=fun H=>DF (gX l6) (gX lm) H (by rw [wJ];omega) (by rw [wJ];omega);rw [hsame,decide_eq_true rfl] at hsm;rw [hsame] at hc6;exact Dd aF<|Dd dU<|Dd dU<|Dd aR<|Dd aR<|Zz<|Sr<|Dd aF<|Dd aF<|On aF<|On gH<|On aF<|Fo<|Fo<|On fN<|On aF<|On aF<|On gH<|On aF<|On aF<|On (by exact aB rfl rfl call18 rfl (hc6))<|On aF<|On (by exact aB rfl rfl call17 rfl (hsm _))<|On fN<|On fN<|Dd fN<|Dd aR<|Zz<|aM<|Rt<|Qq
end Go.Proofs.YtmkgeogoojcciaaGreatDoor
namespace Go.Abs
theorem aJ.frameQ {P:Program} {f:FuncId} {args:List AV} {H0 H:aA} {R:AV→aA→Prop} (h:aJ P f args H0 R) (hs:Sub H0 H) (hc:bE H0) (ha:∀ a∈args,Clo H0 a)
  (hk0:∀ r H1,R r H1→∀ id,(H1.get id).isSome=true→(H0.get id).isSome=true∨H.get id=none):aJ P f args H (fun r H'=>∃ K,R r K∧H'=K++H):=by
 intro I ι w vs hr hl hv;refine(h I ι w vs (hr.restrict hs hc) hl (fun i v a h1 h2=>(hv i v a h1 h2).restrict hs (ha a (YR h2)))).mono ?_;rintro e w' ⟨r,H',I',ι',v,rfl,hR,k1,k2,k3⟩;have hk:=hk0 r H' hR;obtain ⟨ι2,hι2⟩:∃ ι2:b6,ι2=(fun j=>if(H'.get j).isSome=true then ι' j else ι j):=⟨_,rfl⟩;have i1:∀ j o,H'.get j=some o→ι2 j=ι' j:=fun j o hj=>by rw [hι2];simp [hj]
 have i2:∀ j,H'.get j=none→ι2 j=ι j:=fun j hj=>by rw [hι2];simp [hj]
 have g1:∀ j o,H'.get j=some o→aA.get (H'++H) j=some o:=fun j o hj=>by rw [eQ,hj]
 have g2:∀ j,H'.get j=none→aA.get (H'++H) j=H.get j:=fun j hj=>by rw [eQ,hj]
 have hfr:∀ j o,H.get j=some o→H'.get j=none→H0.get j=none:=fun j o hj hn=>by
  cases e:H0.get j with
  | none=>rfl
  | some o0 =>
   obtain ⟨o',e1,_⟩:=k3.objs j o0 e;rw [hn] at e1;cases e1
 have hno:∀ j o b c,H.get j=some o→H'.get j=none→ι j=some (b,c)→¬ sW ι H0 b:=fun j o b c hj hn hb ⟨j',o',c',hj',hb'⟩=>by
  have:=hr.inj j j' o o' b c c' hj (hs _ _ hj') hb hb';subst this;rw [hfr j o hj hn] at hj';cases hj'
 have hst:Step I ι H w I' ι2 (H'++H) w':=by
  refine⟨k3.os,k3.tape,k3.output,k3.size,fun a ha hn=>k3.froz a ha (fun h=>hn (h.sub hs)),k3.imm,fun b hb=>?_,?_,?_,?_⟩
  ·rcases k3.immNew b hb with h1|h1|h1
   ·exact .inl h1
   ·exact .inr (.inl (h1.sub hs))
   exact .inr (.inr h1)
  ·rintro b ⟨j,o,c,hj,hc⟩;cases e:H'.get j with
   | some o' =>
    rw [i1 j o' e] at hc;rcases k3.own b ⟨j,o',c,e,hc⟩with h1|h1
    ·exact .inl (h1.sub hs)
    exact .inr h1
   | none =>
    rw [i2 j e] at hc;rw [g2 j e] at hj;exact .inl ⟨j,o,c,hj,hc⟩
  ·intro b hb hn;exact k3.keep b hb (fun h=>hn (h.sub hs))
  intro j o hj;cases e:H'.get j with
  | some o' =>
   rcases hk j (by rw [e];rfl)with h1|h1
   ·obtain ⟨o0,e0⟩:=Option.isSome_iff_exists.1 h1;have:=hs _ _ e0;rw [hj] at this;cases this;obtain ⟨o2,q1,q2,q3⟩:=k3.objs j o e0;exact⟨o2,g1 j o2 q1,q2,fun e=>by rw [i1 j o2 q1];exact q3 e⟩
   rw [hj] at h1;cases h1
  | none=>exact⟨o,(g2 j e).trans hj,YN _,fun _=>⟨i2 j e,rfl,fun _=>YN _⟩⟩
 have hv':∀ {v:Value} {a:AV},VRel w' I' ι' H' v a→VRel w' I' ι2 (H'++H) v a:=fun hva =>
  hva.mono' (fun _ _=>rfl) (fun _ h=>h) (fun id o ho=>⟨o,g1 id o ho,YN _,fun _=>⟨i1 id o ho,rfl,fun _=>YN _⟩⟩)
 refine⟨r,H'++H,I',ι2,v,rfl,⟨H',hR,rfl⟩,hv' k1,⟨k2.imm,fun j o hj=>?_,fun j j' o o' b c c' hj hj' hc hc'=>?_,k2.glob⟩,hst⟩
 ·cases e:H'.get j with
  | some o' =>
   rw [g1 j o' e] at hj;obtain rfl:o'=o:=Option.some.inj hj;exact(k2.obj j o' e).keep (i1 j o' e) (fun _ _ _ _=>⟨rfl,fun h=>h⟩) (fun r _ a _ v hv=>hv' hv)
  | none =>
   rw [g2 j e] at hj;refine(hr.obj j o hj).keep (i2 j e) (fun b' cap' e1 hlt=>⟨k3.keep b' hlt (hno j o b' cap' hj e e1),fun e3 hi=>?_⟩) (fun r _ a _ v hv=>hv.mono hr hst);rcases k3.immNew b' hi with h1|h1|h1
   ·exact e3 h1
   ·exact hno j o b' cap' hj e e1 h1
   omega
 cases e:H'.get j with
 | some q =>
  rw [i1 j q e] at hc;cases e':H'.get j' with
  | some q' =>
   rw [i1 j' q' e'] at hc';exact k2.inj j j' q q' b c c' e e' hc hc'
  | none =>
   rw [i2 j' e'] at hc';rw [g2 j' e'] at hj';have hlt:=hr.lt ⟨j',o',c',hj',hc'⟩;rcases k3.own b ⟨j,q,c,e,hc⟩with h1|h1
   ·exact absurd h1 (hno j' o' b c' hj' e' hc')
   omega
 | none =>
  rw [i2 j e] at hc;rw [g2 j e] at hj;cases e':H'.get j' with
  | some q' =>
   rw [i1 j' q' e'] at hc';have hlt:=hr.lt ⟨j,o,c,hj,hc⟩;rcases k3.own b ⟨j',q',c',e',hc'⟩with h1|h1
   ·exact absurd h1 (hno j o b c hj e hc)
   omega
  | none =>
   rw [i2 j' e'] at hc';rw [g2 j' e'] at hj';exact hr.inj j j' o o' b c c' hj hj' hc hc'
end Go.Abs
namespace Go.Proofs.YtmkgeogoojcciaaGreatDoor
open Go.Proofs.Tryz
open Go.Abs Go.Lib
def x6 (n:Nat):Nat:=if 1000≤n∧n < 1200 then n+2000 else if 3000≤n∧n < 3200 then n - 2000 else n
theorem HW (n:Nat):x6 (x6 n)=n:=by
 unfold x6
 repeat' split
 all_goals omega
def QC (ga:Nat):Arm→AV
 | .never=>.pv .nilp
 | .off _ _ _=>.pv .nilp
 | .on _ _ _=>.ref 3003 ga 0 0
abbrev AK (s:DSt):List AV:=[.osl 3001 0 0 (64*s.cells.length),.osl 3002 s.gq 0 s.q.length,bv s.off,QC s.ga s.arm]
abbrev j5 (s:DSt):aA:=[(3000,⟨0,4,80,[AK s]⟩),(3001,⟨0,1,5,bA (flat s.cells)⟩),(3002,⟨s.gq,3,103,uG s.q⟩),(3003,⟨s.ga,3,100,nV s.arm⟩)]
abbrev uX (k a n:Nat) (b:Bool):Ob:=⟨0,6,72,[[.ref 3000 0 0 0,iv (k:Int),iv (a:Int),iv (n:Int),.mp 3101 0,bv b]]⟩
abbrev FZ (s:DSt) (o m:Ob):aA:=[(3000,⟨0,4,80,[AK s]⟩),(3001,⟨0,1,5,bA (flat s.cells)⟩),(3002,⟨s.gq,3,103,uG s.q⟩),(3003,⟨s.ga,3,100,nV s.arm⟩),(3100,o),(3101,m)]
theorem zI (ρ:Nat→Nat) {α:Type} (f:α→List PV) (l:List α):(l.map fun e=>(f e).map AV.pv).map (gV ρ)=l.map fun e=>(f e).map AV.pv:=by rw [List.map_map];refine List.map_congr_left fun e _=>?_;show gV ρ ((f e).map AV.pv)=_;rw [eN,List.map_map];rfl
theorem vV (ρ:Nat→Nat) (l:List UInt8):(bA l).map (gV ρ)=bA l:=by rw [bA,List.map_map];exact List.map_congr_left fun e _=>rfl
theorem mI (s:DSt):iU x6 (aY s)=j5 s:=by
 have e1:(nV s.arm).map (gV x6)=nV s.arm:=by cases s.arm<;>rfl
 have e2:fY x6 (QD s.ga s.arm)=QC s.ga s.arm:=by cases s.arm<;>rfl
 simp only [aY,j5,iU,iG,List.map_cons,List.map_nil,vV,zI,e1,nC,AK,gV,e2];rfl
theorem o8 (s:DSt) (k a n:Nat) (b:Bool) (l:bT) (c:Nat):iU x6 (sH s (b4 k a n b) (bJ l c))=FZ s (uX k a n b) (bJ l c):=by
 have e1:(nV s.arm).map (gV x6)=nV s.arm:=by cases s.arm<;>rfl
 have e2:fY x6 (QD s.ga s.arm)=QC s.ga s.arm:=by cases s.arm<;>rfl
 have e3:=A7 x6 l c;simp only [sH,FZ,iU,List.map_cons,List.map_nil,e3];simp only [iG,List.map_cons,List.map_nil,vV,zI,e1,nC,AK,gV,e2];rfl
theorem kP (s:DSt) (H:aA) (h1:(H.get 3001).isSome=true) (h2:(H.get 3002).isSome=true) (h3:(H.get 3003).isSome=true):∀ r∈[AK s],∀ a∈r,Clo H a:=by
 intro r hr a ha;rw [YK.1 hr] at ha;simp only [AK,YT,YX,or_false] at ha;rcases ha with rfl|rfl|rfl|rfl
 ·exact .osl h1
 ·exact .osl h2
 ·exact .pv _
 cases s.arm<;>first|exact .pv _|exact .ref h3
theorem A5 {H:aA} {k a n:Nat} {b:Bool} (h1:(H.get 3000).isSome=true) (h2:(H.get 3101).isSome=true):∀ r∈(uX k a n b).rows,∀ x∈r,Clo H x:=by
 intro r hr x hx;rw [YK.1 hr] at hx;simp only [YT,YX,or_false] at hx;rcases hx with rfl|rfl|rfl|rfl|rfl|rfl
 ·exact .ref h1
 ·exact .pv _
 ·exact .pv _
 ·exact .pv _
 ·exact .mp h2
 exact .pv _
theorem pY (s:DSt):bE (j5 s):=(bE.ofL ⟨(by exact kP _ _ rfl rfl rfl),(by exact aC _ _),(by exact aL _ _ _),(by exact aI _ _),trivial⟩)
theorem FY (s:DSt) (k a n:Nat) (b:Bool) (l:bT) (c:Nat):bE (FZ s (uX k a n b) (bJ l c)):=(bE.ofL ⟨(by exact kP _ _ rfl rfl rfl),(by exact aC _ _),(by exact aL _ _ _),(by exact aI _ _),(by exact A5 rfl rfl),(by exact aS _ _ _),trivial⟩)
theorem JM {f:FuncId} {args args':List AV} {H0 H3 H:aA} {R:AV→aA→Prop} (h:aJ Tryz.prog f args H0 R) (ha:gV x6 args=args') (hH:iU x6 H0=H3) (hs:Sub H3 H) (hc:bE H3) (hac:∀ a∈args',Clo H3 a)
  (hk:∀ r K,R r K→∀ id,(aA.get (iU x6 K) id).isSome=true→(H3.get id).isSome=true∨H.get id=none):aJ Tryz.prog f args' H (fun r H'=>∃ r0 K,R r0 K∧r=fY x6 r0∧H'=iU x6 K++H):=by
 refine(aJ.frameQ (aJ.renQ HW h ha hH) hs hc hac ?_).mono ?_
 ·rintro r K ⟨r0,K0,hR,rfl,rfl⟩ id hid;exact hk r0 K0 hR id hid
 rintro r H' ⟨K,⟨r0,K0,hR,rfl,rfl⟩,rfl⟩;exact⟨r0,K0,hR,rfl,rfl⟩
theorem V0 {d:DSt} {id:Nat} (h:(aA.get (j5 d) id).isSome=true):id=3000∨id=3001∨id=3002∨id=3003:=by
 simp only [j5,aA.get] at h;cases e0:Nat.beq 3000 id
 ·cases e1:Nat.beq 3001 id
  ·cases e2:Nat.beq 3002 id
   ·cases e3:Nat.beq 3003 id
    ·rw [e0,e1,e2,e3] at h;cases h
    exact .inr (.inr (.inr (Nat.eq_of_beq_eq_true e3).symm))
   exact .inr (.inr (.inl (Nat.eq_of_beq_eq_true e2).symm))
  exact .inr (.inl (Nat.eq_of_beq_eq_true e1).symm)
 exact .inl (Nat.eq_of_beq_eq_true e0).symm
theorem UL {d:DSt} {o m:Ob} {id:Nat} (h:(aA.get (FZ d o m) id).isSome=true):id=3000∨id=3001∨id=3002∨id=3003∨id=3100∨id=3101:=by
 simp only [FZ,aA.get] at h;cases e0:Nat.beq 3000 id
 ·cases e1:Nat.beq 3001 id
  ·cases e2:Nat.beq 3002 id
   ·cases e3:Nat.beq 3003 id
    ·cases e4:Nat.beq 3100 id
     ·cases e5:Nat.beq 3101 id
      ·rw [e0,e1,e2,e3,e4,e5] at h;cases h
      exact .inr (.inr (.inr (.inr (.inr (Nat.eq_of_beq_eq_true e5).symm))))
     exact .inr (.inr (.inr (.inr (.inl (Nat.eq_of_beq_eq_true e4).symm))))
    exact .inr (.inr (.inr (.inl (Nat.eq_of_beq_eq_true e3).symm)))
   exact .inr (.inr (.inl (Nat.eq_of_beq_eq_true e2).symm))
  exact .inr (.inl (Nat.eq_of_beq_eq_true e1).symm)
 exact .inl (Nat.eq_of_beq_eq_true e0).symm
theorem pW {M d:Nat} (hd0:0 < d) (hM:M < 10 ^ d):∀ (L:List ByteArray),(∀ s∈L,s.size≤M)→(aQ L).length≤L.length*(M+d+1)
 | [],_=>YY _
 | s::r,h=>by
  have ih:=pW hd0 hM r (fun x hx=>h x (List.mem_cons_of_mem _ hx));have hs:=h s List.mem_cons_self;have hd:=dJ (k:=d) (u:=s.size) (by omega) hd0;rw [dK,YI,YJ,YI,cL,YJ,Nat.add_mul];omega
theorem zX {n:Nat} (h:n < 10):(dE (n:Int)).size≤1:=by have e:dE (n:Int)=ofL (decDigits n):=jJ (by rw [a7,kN]);rw [e,bR];exact dJ (k:=1) (by omega) (by decide)
theorem mF {l:bT} {P:List ByteArray} (hl:∀ p∈l,p.1.size≤1∧p.2.1.size≤1) (hP:∀ s∈P,s.size≤1) (hn:2*l.length+2+P.length≤10):cN (bB l P)≤1:=by
 have h1:(aQ (b9 l P)).length≤(b9 l P).length*(1+1+1):=by
  refine pW (by decide) (by decide) _ fun s hs=>?_;rw [jP] at hs;rcases YT.1 hs with rfl|hs
  ·exact zX (by omega)
  rcases List.mem_append.1 hs with hs|hs
  ·obtain ⟨x,hx,hs⟩:=List.mem_flatMap.1 hs;simp only [YT,YX,or_false] at hs;rcases hs with rfl|rfl
   ·obtain ⟨p,hp,rfl⟩:=List.mem_map.1 (kK.1 hx);exact(hl p hp).1
   exact qK x fun p hp=>(hl p hp).2
  rcases YT.1 hs with rfl|hs
  ·exact zX (by omega)
  exact hP s hs
 rw [y9] at h1;have hd:=dJ (k:=2) (u:=(aQ (b9 l P)).length) (by omega) (by decide);have h2:(bB l P).length≤46:=by
  rw [bB,dK,YI,YJ,YI,a7,bR];have h0:(aQ []).length=0:=rfl;omega
 rw [cN];omega
theorem NG {l:bT} {P:List ByteArray} {x:ByteArray} (hx:x∈l.map Prod.fst):(dA l x).size≤(bB l P).length:=by
 have h1:dA l x∈b9 l P:=by
  rw [jP];refine List.mem_cons_of_mem _ (List.mem_append_left _ (List.mem_flatMap.2 ⟨x,kK.2 hx,?_⟩));simp
 have h2:=m7 h1;rw [bB,dK,YI,YJ,YI,a7];omega
theorem xH {k n:Nat} {l2:bT} {P:List ByteArray} (h1:bH l2 P=0) (h2:n+cN (bB l2 (fM P))≤k):yX k n l2 P=0:=by
 rw [yX];rcases mR k n l2 P with⟨e1,_⟩|⟨e1,_⟩|⟨e1,_,_,e2⟩|⟨e1,e2⟩
 ·rw [e1];rfl
 ·rw [e1];rfl
 ·omega
 exact absurd h1 e2
theorem PP {k n:Nat} {l2:bT} {P:List ByteArray} (h1:bH l2 P=0) (h0:0 < l2.length) (h2:k < n+cN (bB l2 (fM P))):yX k n l2 P=21:=by
 rw [yX];rcases mR k n l2 P with⟨e1,_,e2⟩|⟨e1,_,_,e2⟩|⟨e1,_⟩|⟨e1,e2⟩
 ·omega
 ·omega
 ·rw [e1];rfl
 exact absurd h1 e2
theorem LZ {k n:Nat} {l2:bT} {P:List ByteArray} (h1:¬ bH l2 P=0):yX k n l2 P=bH l2 P:=by
 rw [yX];rcases mR k n l2 P with⟨_,e2,_⟩|⟨_,e2,_⟩|⟨_,e2,_⟩|⟨e1,e2⟩
 ·exact absurd e2 h1
 ·exact absurd e2 h1
 ·exact absurd e2 h1
 have:=e9 l2 P;rw [e1,YF (by omega)]
theorem lP:fM []=[]:=List.length_eq_zero_iff.1 (by have:=sG [];rw [List.length_nil] at this;omega)
theorem vH {a b:bT} (ha:fD a) (hb:fD b) (h:∀ k,cT a k=cT b k):b7 a=b7 b:=by rw [b7,b7,BS ha hb h,zA ha hb h]
theorem oW (A B:aA):Sub A (A++B):=fun j o h=>by rw [eQ,h]
theorem W2 (n:Nat) (h1:1≤n) (h2:n≤8000) (H:aA) (k0:H.get 3000=none) (k1:H.get 3001=none) (k2:H.get 3002=none) (k3:H.get 3003=none):aJ Tryz.prog 13 [iv (n:Int)] H (fun r H'=>r=.ref 3000 0 0 0∧H'=j5 (lE n)++H):=by
 refine(JM (OJ n h1 h2) (args':=[iv (n:Int)]) rfl (rfl:iU x6 []=[]) (fun _ _ h=>by cases h) (fun _ _ h=>by cases h) (by intro a ha;rw [YK] at ha;subst ha;exact .pv _) ?_).mono ?_
 ·rintro r K ⟨rfl,rfl⟩ id hid;rw [mI] at hid;rcases V0 hid with rfl|rfl|rfl|rfl
  ·exact .inr k0
  ·exact .inr k1
  ·exact .inr k2
  exact .inr k3
 rintro r H' ⟨r0,K,⟨rfl,rfl⟩,rfl,rfl⟩;exact⟨rfl,by rw [mI]⟩
theorem VT {d:DSt} {N k a n:Nat} {C:CT} (hc:Calm d N) (hI:SInv d.cells k a n C) (hN:4≤N) (hk:k=(N - 2) / 2) (H:aA) (hs:Sub (j5 d) H) (k4:H.get 3100=none) (k5:H.get 3101=none) :
  aJ Tryz.prog 12 [.ref 3000 0 0 0] H (fun r H'=>r=.tup [.ref 3100 0 0 0,iv 0]∧∃ l c,dQ l c∧fD l∧l.length≤46*n∧(∀ x,cT l x=C x)∧H'=FZ d (uX k a n false) (bJ l c)++H):=by
 refine(JM (pB hc hI hN hk) (args':=[.ref 3000 0 0 0]) rfl (mI d) hs (pY d) (by simp;rfl) ?_).mono ?_
 ·rintro r K ⟨rfl,l,c,q1,q2,q3,q4,rfl⟩ id hid;rw [o8] at hid;rcases UL hid with rfl|rfl|rfl|rfl|rfl|rfl
  ·exact .inl rfl
  ·exact .inl rfl
  ·exact .inl rfl
  ·exact .inl rfl
  ·exact .inr k4
  exact .inr k5
 rintro r H' ⟨r0,K,⟨rfl,l,c,q1,q2,q3,q4,rfl⟩,rfl,rfl⟩;exact⟨rfl,l,c,q1,q2,q3,q4,by rw [o8]⟩
theorem F3 (d:DSt) (k a n:Nat) (b:Bool) (l l2:bT) (c c2:Nat):iU x6 ((950,bJ l2 c2)::sH d (b4 k a n b) (bJ l c))=(950,bJ l2 c2)::FZ d (uX k a n b) (bJ l c):=by have h:=o8 d k a n b l c;show (x6 950,iG x6 (bJ l2 c2))::iU x6 (sH d (b4 k a n b) (bJ l c))=_;rw [h,A7];rfl
theorem L6 (d:DSt) (k a n:Nat) (b:Bool) (l l2:bT) (c c2:Nat):bE ((950,bJ l2 c2)::FZ d (uX k a n b) (bJ l c)):=(bE.ofL ⟨(by exact aS _ _ _),(by exact kP _ _ rfl rfl rfl),(by exact aC _ _),(by exact aL _ _ _),(by exact aI _ _),(by exact A5 rfl rfl),(by exact aS _ _ _),trivial⟩)
theorem W3 {d:DSt} {o m o2:Ob} {id:Nat} (h:(aA.get ((950,o2)::FZ d o m) id).isSome=true):id=950∨id=3000∨id=3001∨id=3002∨id=3003∨id=3100∨id=3101:=by
 by_cases e:id=950
 ·exact .inl e
 rw [get_cons_other _ _ e] at h;exact .inr (UL h)
theorem SX {N k:Nat} {tl:List ByteArray} {d:DSt} {a n:Nat} {l:bT} {c:Nat} {C:CT} (h:St N k tl d a n l c C) (hk:k < 4000) (l2:bT) (c2:Nat) (P:List ByteArray) (hst2:dQ l2 c2) (hnd2:fD l2) (hl2:l2.length≤1000) (hP:P.length≤1000) (H:aA) (hs:Sub ((950,bJ l2 c2)::FZ d (uX k a n false) (bJ l c)) H) :
  aJ Tryz.prog 14 [.ref 3100 0 0 0,.mp 950 0,.pv (aX P)] H (fun r H'=>r=iv (yX k n l2 P)∧∃ d' n' l' c',St N k tl d' a n' l' c' (if yX k n l2 P=0 then pZ C l2 (fM P)else C)∧n'=(if vE k n false l2 P = -1 then n+cN (bB l2 (fM P))else n)∧H'=(950,bJ l2 c2)::FZ d' (uX k a n' false) (bJ l' c')++H):=by
 refine(JM (jZ h hk l2 c2 P hst2 hnd2 hl2 hP) (args':=[.ref 3100 0 0 0,.mp 950 0,.pv (aX P)]) rfl (F3 d k a n false l l2 c c2) hs (L6 _ _ _ _ _ _ _ _ _) (by simp;exact⟨rfl,rfl⟩) ?_).mono ?_
 ·rintro r K ⟨rfl,d',n',l',c',q1,q2,rfl⟩ id hid;rw [F3] at hid;rcases W3 hid with rfl|rfl|rfl|rfl|rfl|rfl|rfl<;>exact .inl rfl
 rintro r H' ⟨r0,K,⟨rfl,d',n',l',c',q1,q2,rfl⟩,rfl,rfl⟩;exact⟨rfl,d',n',l',c',q1,q2,by rw [F3]⟩
theorem T9 {N k:Nat} {tl:List ByteArray} {d:DSt} {a n:Nat} {l:bT} {c:Nat} {C:CT} (h:St N k tl d a n l c C) (hk:k < 4000) (H:aA) (hs:Sub (FZ d (uX k a n false) (bJ l c)) H) :
  aJ Tryz.prog 21 [.ref 3100 0 0 0] H (fun r H'=>r=iv (TH k l)∧∃ d' a' n',St N k tl d' a' n' l c C∧(TH k l=0→d'.cells=jI k (b7 l) tl)∧H'=FZ d' (uX k a' n' false) (bJ l c)++H):=by
 refine(JM (qB h hk) (args':=[.ref 3100 0 0 0]) rfl (o8 d k a n false l c) hs (FY _ _ _ _ _ _ _) (by simp;rfl) ?_).mono ?_
 ·rintro r K ⟨rfl,d',a',n',q1,q2,rfl⟩ id hid;rw [o8] at hid;rcases UL hid with rfl|rfl|rfl|rfl|rfl|rfl<;>exact .inl rfl
 rintro r H' ⟨r0,K,⟨rfl,d',a',n',q1,q2,rfl⟩,rfl,rfl⟩;exact⟨rfl,d',a',n',q1,q2,by rw [o8]⟩
theorem W1 (d:DSt) (hd:DOk d) (H:aA) (hs:Sub (j5 d) H):aJ Tryz.prog 22 [.ref 3000 0 0 0] H (fun r H'=>r=sv (mQ d)∧H'=H):=by have h:=aJ.ren (ρ:=x6) HW (TJ d hd) (args':=[.ref 3000 0 0 0]) (r':=sv (mQ d)) rfl (mI d) rfl (mI d);exact aJ.frameS h hs (pY d) (by simp;rfl)
abbrev tA:ByteArray:=⟨#[97]⟩
abbrev tB:ByteArray:=⟨#[98]⟩
abbrev tC:ByteArray:=⟨#[99]⟩
abbrev t1:ByteArray:=⟨#[49]⟩
abbrev t2:ByteArray:=⟨#[50]⟩
abbrev kB:bT×Nat:=eP [(tB,t2)]
abbrev MV:bT×Nat:=eP [(tA,t1),(tB,t2)]
theorem SF (x:ByteArray):cT kB.1 x=if tB=x then some t2 else none:=by rw [GR];rfl
theorem V1 (x:ByteArray):cT MV.1 x=if tB=x then some t2 else if tA=x then some t1 else none:=by
 rw [GR];show ((if tB=x then some t2 else none).orElse fun _=>if tA=x then some t1 else none)=_
 split<;>rfl
theorem WB (x:ByteArray):pZ (pZ (fun _=>none) MV.1 (fM [])) [] (fM [tA]) x=cT kB.1 x:=by
 have hAB:¬ tB=tA:=by decide
 rw [pZ,pZ,lP,YF YX,SF,V1];by_cases h:x∈fM [tA]
 ·rw [YG h];have:=pJ.1 h;rw [YK] at this;subst this;rw [YF hAB]
 rw [YF h];have hx:¬ tA=x:=fun e=>h (pJ.2 (by rw [e];exact YK.2 rfl));rw [YF hx];show ((none:Option ByteArray).orElse fun _=>(if tB=x then some t2 else none).orElse fun _=>none)=_;by_cases h2:tB=x
 ·rw [YG h2];rfl
 rw [YF h2];rfl
theorem W9 (x:ByteArray):pZ (fun _=>none) kB.1 (fM []) x=cT kB.1 x:=by
 rw [pZ,lP,YF YX,SF];by_cases h2:tB=x
 ·rw [YG h2];rfl
 rw [YF h2];rfl
theorem SE:cH kB.1=[tB]:=J6 (List.pairwise_singleton _ _)
theorem D3:cN (b7 kB.1)≤1:=by
 have h:b7 kB.1=bB kB.1 []:=YF (by decide);rw [h];exact mF (fun p hp=>by
  have:=rV hp;simp only [YK,Prod.mk.injEq] at this;rw [this.1,this.2];exact⟨YN 1,YN 1⟩) (fun s hs=>by cases hs) (by decide)
theorem JF:yX 9 0 MV.1 []=0:=xH (by decide) (by
 have h:cN (bB MV.1 (fM []))≤1:=mF (fun p hp=>by
  have:=rV hp;simp only [YT,YX,or_false,Prod.mk.injEq] at this;rcases this with⟨e1,e2⟩|⟨e1,e2⟩<;>rw [e1,e2]<;>exact⟨YN 1,YN 1⟩) (fun s hs=>by rw [lP] at hs;cases hs) (by rw [lP];decide)
 omega)
theorem VY:(if vE 9 0 false MV.1 [] = -1 then 0+cN (bB MV.1 (fM []))else 0)≤1:=by
 have h:cN (bB MV.1 (fM []))≤1:=mF (fun p hp=>by
  have:=rV hp;simp only [YT,YX,or_false,Prod.mk.injEq] at this;rcases this with⟨e1,e2⟩|⟨e1,e2⟩<;>rw [e1,e2]<;>exact⟨YN 1,YN 1⟩) (fun s hs=>by rw [lP] at hs;cases hs) (by rw [lP];decide)
 split<;>omega
theorem TM:cN (bB [] (fM [tA]))≤1:=mF (fun p hp=>by cases hp) (fun s hs=>by
  have:=pJ.1 hs;rw [YK] at this;rw [this];exact YN 1) (by have:=sG [tA];have e:([tA]:List ByteArray).length=1:=rfl;have e0:([]:bT).length=0:=rfl;omega)
theorem JE {n:Nat} (h:n≤1):yX 9 n [] [tA]=0:=xH (by decide) (by have:=TM;omega)
theorem VX {n:Nat} (h:n≤1):(if vE 9 n false [] [tA] = -1 then n+cN (bB [] (fM [tA]))else n)≤2:=by
 have:=TM
 split<;>omega
theorem JD:yX 9 0 kB.1 []=0:=xH (by decide) (by
 have h:cN (bB kB.1 (fM []))≤1:=mF (fun p hp=>by
  have:=rV hp;simp only [YK,Prod.mk.injEq] at this;rw [this.1,this.2];exact⟨YN 1,YN 1⟩) (fun s hs=>by rw [lP] at hs;cases hs) (by rw [lP];decide)
 omega)
theorem HR (n:Nat):(ofL (zB n)).size=n:=by rw [bR,zB,List.length_replicate]
theorem qJ (k v:ByteArray):(eP [(k,v)]).1=[(k,v,0)]:=rfl
theorem y5 {k v:ByteArray} (hk:eE k=true):bH (eP [(k,v)]).1 []=if(20000:Int) < (v.size:Int)then 2 else 0:=by
 rw [qJ,bH];show (if(((!eE k||SL [] k)||false)||false)=true then(1:Int)else if(decide ((20000:Int) < (v.size:Int))||false)=true then 2 else 0)=_;rw [hk];show (if false=true then(1:Int)else if(decide ((20000:Int) < (v.size:Int))||false)=true then 2 else 0)=_;rw [YF Bool.false_ne_true,Bool.or_false];by_cases h:(20000:Int) < (v.size:Int)
 ·rw [YG (decide_eq_true h),YG h]
 rw [YF (by rw [decide_eq_false h];decide),YF h]
theorem eH {n:Nat} {v:ByteArray} (hv:v.size=20001):yX 9 n (eP [(tC,v)]).1 []=2:=by
 have hw:bH (eP [(tC,v)]).1 []=2:=by rw [y5 (by decide),hv];rfl
 rw [LZ (by rw [hw];decide),hw]
theorem eI {n:Nat} {v:ByteArray} (hv:v.size=500):yX 9 n (eP [(tC,v)]).1 []=21:=by
 have hw:bH (eP [(tC,v)]).1 []=0:=by rw [y5 (by decide),hv];rfl
 refine PP hw (by rw [qJ];exact Nat.zero_lt_one) ?_;have h:=NG (l:=(eP [(tC,v)]).1) (P:=fM []) (x:=tC) (by rw [qJ];exact YK.2 rfl);have hg:dA (eP [(tC,v)]).1 tC=v:=by
  rw [qJ];show (if tC=tC then v else _)=v;rw [YG rfl]
 rw [hg,hv] at h;rw [cN];omega
theorem D9 (n:Nat):((List.replicate n [AV.pv (.int .u8 0)]).drop 0).take n=bA (zB n):=by rw [List.drop_zero,List.take_of_length_le (by rw [List.length_replicate];exact YN _),bA,zB,List.map_replicate];rfl
theorem SS {a b:DSt} (h:a.cells=b.cells):mQ a=mQ b:=by rw [mQ,mQ,h]
theorem LW {d:DSt} {N:Nat} (h:Calm d N):(mQ d).size=64*N:=by
 have:(mQ d).size=(flat d.cells).length:=by rw [← cL,mQ]
 rw [this,jG h.inv.ok.c,h.inv.n]
theorem OY (H:aA):aJ Tryz.prog 10 [] H (fun r H'=>r=bv true∧H'=H):=by
 refine Pu ?_;have hop:=pB (k:=9) (sI (n:=20) (by omega) (by omega)) (rB (by omega)) (by omega) rfl;have hz1:=HR 20001;have hz2:=HR 500;have hb1:=D9 20001;have hb2:=D9 500;have hnew:=OJ 20 (by omega) (by omega);obtain ⟨tl,htl⟩:∃ tl,tl=(lE 20).cells.drop (2*9+2):=⟨_,rfl⟩;have hst0:∀ {l:bT} {c:Nat},dQ l c→fD l→(∀ x,cT l x=none)→St 20 9 tl (lE 20) 0 0 l c (fun _=>none):=fun q1 q2 q3=>by
  rw [htl];exact NK (N:=20) (by omega) (by omega) q1 q2 q3
 clear htl;have hd3:=fun H k0 k1 k2 k3=>W2 20 (by omega) (by omega) H k0 k1 k2 k3;have hop3:=fun H hs k4 k5=>VT (k:=9) (sI (n:=20) (by omega) (by omega)) (rB (by omega)) (by omega) rfl H hs k4 k5;obtain ⟨z1,hzz1⟩:∃ z,z=zB 20001:=⟨_,rfl⟩;obtain ⟨z2,hzz2⟩:∃ z,z=zB 500:=⟨_,rfl⟩;rw [← hzz1] at hz1 hb1;rw [← hzz2] at hz2 hb2;clear hzz1 hzz2;obtain ⟨e0,he0⟩:∃ e,e=lE 20:=⟨_,rfl⟩;rw [← he0] at hop hnew hst0 hd3 hop3;clear he0;refine Bd func10 rfl ntmps10<|Sr<|Dd aR<|Zz<|Sr<|Dd (by exact aB rfl rfl X2 rfl (hnew))<|Dd aR<|Zz<|Sr<|Dm ?_;refine iD rfl rfl (aB rfl rfl CQ rfl hop) ?_;rintro _ _ ⟨rfl,l0,c0,q1,q2,q3,q4,rfl⟩;have hS0:=hst0 q1 q2 q4;clear q1 q2 q3 q4 hop hnew;refine Dd aF<|Dd dU<|Dd dU<|Dd aR<|Dd aR<|Zz<|Sr<|Dd aF<|Dd (by exact jV (id:=950) fF rfl rfl)<|Uu (by exact jX (κ:=fF) (l:=bQ []) (k:=tA) (v:=sv t1) (.inr rfl) aU aK rfl (get_cons_same _ _ _) rfl rfl rfl rfl rfl (pG _ _ _ _) (sB _ _ _))<|Uu (by exact jX (κ:=fF) (l:=bQ (eP [(tA,t1)]).1) (k:=tB) (v:=sv t2) (.inr rfl) aU aK rfl (get_cons_same _ _ _) rfl rfl rfl rfl rfl (pG _ _ _ _) (sB _ _ _))<|Dm ?_;refine lB (E':=[(1,.ref 1000 0 0 0),(2,.ref 1100 0 0 0),(3,iv 0),(28,.ref 1100 0 0 0),(30,.mp 950 0)]) (H':=(950,bJ MV.1 MV.2)::sH e0 (b4 9 0 0 false) (bJ l0 c0)) (bY.wk (Ea<|Ea<|Eb<|Ea<|Ea<|trivial) (Hc (aS _ _ _)<|Hc (aE _ _ rfl rfl rfl)<|Hc (aC _ _)<|Hc (aL _ _ _)<|Hc (aI _ _)<|Hc (bC rfl rfl)<|Hc (aS _ _ _)<|trivial) trivial) ?_;refine iD rfl rfl (aB rfl rfl sV rfl (jZ hS0 (by omega) MV.1 MV.2 [] (gA _).1 (gA _).2 (by decide) (by decide))) ?_;rintro _ _ ⟨rfl,d1,n1,l1,c1,hS1,hn1,rfl⟩;rw [JF,YG rfl] at hS1;rw [JF];have hn1:n1≤1:=by rw [hn1];exact VY
 clear hS0;refine Dd aR<|Zz<|Sr<|Dd aF<|Dd (by exact bF [[.str tA]] rfl b8 rfl rfl rfl rfl rfl (by simp)) ?_;refine lB (E':=[(1,.ref 1000 0 0 0),(2,.ref 1100 0 0 0),(3,iv 0),(4,iv 0),(32,.ref 1100 0 0 0),(33,.pv (aX [tA]))]) (H':=sH d1 (b4 9 0 n1 false) (bJ l1 c1)) (bY.wk (Ea<|Ea<|Eb<|Eb<|Ea<|Eb<|trivial) (Hc (aE _ _ rfl rfl rfl)<|Hc (aC _ _)<|Hc (aL _ _ _)<|Hc (aI _ _)<|Hc (bC rfl rfl)<|Hc (aS _ _ _)<|trivial) trivial) ?_;refine iD rfl rfl (aB rfl rfl sV rfl (CG hS1 (by omega) [tA] (by decide))) ?_;rintro _ _ ⟨rfl,d2,n2,l2,c2,hS2,hn2,rfl⟩;rw [JE hn1,YG rfl] at hS2;rw [JE hn1];have hn2:n2≤2:=by rw [hn2];exact VX hn1
 clear hS1 hn1;obtain ⟨C,hC⟩:∃ C,C=pZ (pZ (fun _=>none) MV.1 (fM [])) [] (fM [tA]):=⟨_,rfl⟩;have hCB:∀ x,C x=cT kB.1 x:=fun x=>by rw [hC];exact WB x
 rw [← hC] at hS2;clear hC;have hgA:=GY d2 9 0 n2 false l2 c2 tA;have hgB:=GY d2 9 0 n2 false l2 c2 tB;have kA:cT l2 tA=none:=by rw [hS2.kv,hCB,SF,YF (by decide)]
 have kBv:cT l2 tB=some t2:=by rw [hS2.kv,hCB,SF,YG rfl]
 rw [lL,kA] at hgA;rw [lL,kBv] at hgB;refine Dd aR<|Zz<|Sr<|Dd aF<|Dd (by exact aB rfl rfl XZ rfl (hgA))<|Dd aF<|Dd dU<|Dd dU<|Dd aR<|Dd aR<|Zz<|Sr<|Dd aF<|Dd (by exact aB rfl rfl XZ rfl (hgB))<|Dd aF<|Dd dU<|Dd dU<|Dd aR<|Dd aR<|Zz<|Sr<|Dd aF<|Dd (by exact jO (id:=960) rfl x7 V4 WL rfl rfl rfl (by decide) (by decide) rfl rfl (by decide) rfl)<|Dd (by exact gM rfl bU bG aK rfl rfl rfl rfl hb1 rfl)<|Dd (by exact aB rfl rfl X0 rfl (OE tC (ofL z1) _ rfl)) ?_;refine lB (E':=[(1,.ref 1000 0 0 0),(2,.ref 1100 0 0 0),(3,iv 0),(4,iv 0),(5,iv 0),(7,bv false),(8,sv t2),(9,bv true),(45,.ref 1100 0 0 0),(48,.mp 950 0)]) (H':=(950,bJ (eP [(tC,ofL z1)]).1 (eP [(tC,ofL z1)]).2)::sH d2 (b4 9 0 n2 false) (bJ l2 c2)) (bY.wk (Ea<|Ea<|Eb<|Eb<|Eb<|Eb<|Eb<|Eb<|Ea<|Ea<|trivial) (Hc (aS _ _ _)<|Hc (aE _ _ rfl rfl rfl)<|Hc (aC _ _)<|Hc (aL _ _ _)<|Hc (aI _ _)<|Hc (bC rfl rfl)<|Hc (aS _ _ _)<|trivial) trivial) ?_;refine iD rfl rfl (aB rfl rfl sV rfl (jZ hS2 (by omega) (eP [(tC,ofL z1)]).1 (eP [(tC,ofL z1)]).2 [] (gA _).1 (gA _).2 (by rw [qJ];exact YU rfl) (by decide))) ?_;rintro _ _ ⟨rfl,d3,n3,l3,c3,hS3,hn3,rfl⟩;rw [eH hz1,YF (by decide)] at hS3;rw [eH hz1];clear hS2 hgA hgB kA kBv;refine lB (E':=[(1,.ref 1000 0 0 0),(2,.ref 1100 0 0 0),(3,iv 0),(4,iv 0),(5,iv 0),(7,bv false),(8,sv t2),(9,bv true),(49,iv 2)]) (H':=sH d3 (b4 9 0 n3 false) (bJ l3 c3)) (bY.wk (Ea<|Ea<|Eb<|Eb<|Eb<|Eb<|Eb<|Eb<|Eb<|trivial) (Hc (aE _ _ rfl rfl rfl)<|Hc (aC _ _)<|Hc (aL _ _ _)<|Hc (aI _ _)<|Hc (bC rfl rfl)<|Hc (aS _ _ _)<|trivial) trivial) ?_;refine Dd aR<|Zz<|Sr<|Dd aF<|Dd (by exact jO (id:=960) rfl x7 V4 WL rfl rfl rfl (by decide) (by decide) rfl rfl (by decide) rfl)<|Dd (by exact gM rfl bU bG aK rfl rfl rfl rfl hb2 rfl)<|Dd (by exact aB rfl rfl X0 rfl (OE tC (ofL z2) _ rfl)) ?_;refine lB (E':=[(1,.ref 1000 0 0 0),(2,.ref 1100 0 0 0),(3,iv 0),(4,iv 0),(5,iv 0),(7,bv false),(8,sv t2),(9,bv true),(10,iv 2),(50,.ref 1100 0 0 0),(53,.mp 950 0)]) (H':=(950,bJ (eP [(tC,ofL z2)]).1 (eP [(tC,ofL z2)]).2)::sH d3 (b4 9 0 n3 false) (bJ l3 c3)) (bY.wk (Ea<|Ea<|Eb<|Eb<|Eb<|Eb<|Eb<|Eb<|Eb<|Ea<|Ea<|trivial) (Hc (aS _ _ _)<|Hc (aE _ _ rfl rfl rfl)<|Hc (aC _ _)<|Hc (aL _ _ _)<|Hc (aI _ _)<|Hc (bC rfl rfl)<|Hc (aS _ _ _)<|trivial) trivial) ?_;refine iD rfl rfl (aB rfl rfl sV rfl (jZ hS3 (by omega) (eP [(tC,ofL z2)]).1 (eP [(tC,ofL z2)]).2 [] (gA _).1 (gA _).2 (by rw [qJ];exact YU rfl) (by decide))) ?_;rintro _ _ ⟨rfl,d4,n4,l4,c4,hS4,hn4,rfl⟩;rw [eI hz2,YF (by decide)] at hS4;rw [eI hz2];clear hS3 hn3 hn4;have hw4:b7 l4=b7 kB.1:=vH hS4.nd (gA _).2 fun x=>by rw [hS4.kv,hCB]
 have hsc4:TH 9 l4=0:=YF (by rw [hw4];have:=D3;omega);refine Dd aR<|Zz<|Sr<|Dm ?_;refine lB (E':=[(1,.ref 1000 0 0 0),(3,iv 0),(4,iv 0),(5,iv 0),(7,bv false),(8,sv t2),(9,bv true),(10,iv 2),(11,iv 21),(55,.ref 1100 0 0 0)]) (H':=sH d4 (b4 9 0 n4 false) (bJ l4 c4)) (bY.wk (Ea<|Eb<|Eb<|Eb<|Eb<|Eb<|Eb<|Eb<|Eb<|Ea<|trivial) (Hc (aE _ _ rfl rfl rfl)<|Hc (aC _ _)<|Hc (aL _ _ _)<|Hc (aI _ _)<|Hc (bC rfl rfl)<|Hc (aS _ _ _)<|trivial) trivial) ?_;refine iD rfl rfl (aB rfl rfl X1 rfl (qB hS4 (by omega))) ?_;rintro _ _ ⟨rfl,d5,a5,n5,hS5,hcan5,rfl⟩;have hcan5:=hcan5 hsc4;rw [hw4] at hcan5;rw [hsc4];clear hS4 hsc4 hw4;have hraw5:=JG (o:=b4 9 a5 n5 false) (m:=bJ l4 c4) (TJ d5 hS5.calm.inv.ok) (by simp;rfl);refine Dd aR<|Zz<|Sr<|Dd aF<|Dd (by exact aB rfl rfl call22 rfl (hraw5))<|Dd aR<|Zz<|Sr<|Dm ?_;refine lB (E':=[(1,.ref 1000 0 0 0),(3,iv 0),(4,iv 0),(5,iv 0),(7,bv false),(8,sv t2),(9,bv true),(10,iv 2),(11,iv 21),(12,iv 0),(13,sv (mQ d5)),(60,.ref 1000 0 0 0)]) (H':=aY d5) (bY.wk (Ea<|Eb<|Eb<|Eb<|Eb<|Eb<|Eb<|Eb<|Eb<|Eb<|Eb<|Ea<|trivial) (Hc (aE _ _ rfl rfl rfl)<|Hc (aC _ _)<|Hc (aL _ _ _)<|Hc (aI _ _)<|trivial) trivial) ?_;refine iD rfl rfl (aB rfl rfl CQ rfl (pB hS5.calm hS5.inv (by omega) rfl)) ?_;rintro _ _ ⟨rfl,l6,c6,q1,q2,q3,q4,rfl⟩;have hk6:cH l6=[tB]:=(sY q2 (gA _).2 fun x=>by rw [q4,hCB]).trans SE;have hl6:l6.length < 1099511627776:=by have:=hS5.inv.nk;omega
 have hd5:(mQ d5).size=1280:=LW hS5.calm;have hkey:=IV d5 9 a5 n5 false l6 c6 q1 hl6;rw [hk6] at hkey;clear hS5 hraw5 q2 q3 q4;refine Dd aF<|Dd dU<|Dd dU<|Dd aR<|Dd aR<|Zz<|Sr<|Dd (by exact aB rfl rfl X2 rfl (hd3 _ rfl rfl rfl rfl))<|Dd aR<|Zz<|Sr<|Dm ?_;refine iD rfl rfl (aB rfl rfl CQ rfl (hop3 _ (oW _ _) rfl rfl)) ?_;rintro _ _ ⟨rfl,l7,c7,p1,p2,p3,p4,rfl⟩;have hS7:=hst0 p1 p2 p4;clear p1 p2 p3 p4 hd3 hop3 hst0;refine Dd aF<|Dd dU<|Dd dU<|Dd aR<|Dd aR<|Zz<|Sr<|Dd aF<|Dd (by exact aB rfl rfl X0 rfl (OE tB t2 _ rfl)) ?_;refine lB (E':=[(3,iv 0),(4,iv 0),(5,iv 0),(7,bv false),(8,sv t2),(9,bv true),(10,iv 2),(11,iv 21),(12,iv 0),(13,sv (mQ d5)),(14,.ref 1100 0 0 0),(15,iv 0),(16,.ref 3000 0 0 0),(17,.ref 3100 0 0 0),(18,iv 0),(70,.ref 3100 0 0 0),(71,.mp 950 0)]) (H':=((950,bJ kB.1 kB.2)::FZ e0 (uX 9 0 0 false) (bJ l7 c7))++sH d5 (b4 9 a5 n5 false) (bJ l6 c6)) (bY.wk (Eb<|Eb<|Eb<|Eb<|Eb<|Eb<|Eb<|Eb<|Eb<|Eb<|Ea<|Eb<|Ea<|Ea<|Eb<|Ea<|Ea<|trivial) (Hc (aS _ _ _)<|Hc (kP _ _ rfl rfl rfl)<|Hc (aC _ _)<|Hc (aL _ _ _)<|Hc (aI _ _)<|Hc (A5 rfl rfl)<|Hc (aS _ _ _)<|Hc (aE _ _ rfl rfl rfl)<|Hc (aC _ _)<|Hc (aL _ _ _)<|Hc (aI _ _)<|Hc (bC rfl rfl)<|Hc (aS _ _ _)<|trivial) trivial) ?_;refine iD rfl rfl (aB rfl rfl sV rfl (SX hS7 (by omega) kB.1 kB.2 [] (gA _).1 (gA _).2 (by rw [qJ];exact YU rfl) (by decide) _ (oW _ _))) ?_;rintro _ _ ⟨rfl,d8,n8,l8,c8,hS8,hn8,rfl⟩;rw [JD,YG rfl] at hS8;rw [JD];have hw8:b7 l8=b7 kB.1:=vH hS8.nd (gA _).2 fun x=>by rw [hS8.kv,W9]
 have hsc8:TH 9 l8=0:=YF (by rw [hw8];have:=D3;omega);clear hS7 hn8;refine Dd aR<|Zz<|Sr<|Dm ?_;refine lB (E':=[(3,iv 0),(4,iv 0),(5,iv 0),(7,bv false),(8,sv t2),(9,bv true),(10,iv 2),(11,iv 21),(12,iv 0),(13,sv (mQ d5)),(14,.ref 1100 0 0 0),(15,iv 0),(16,.ref 3000 0 0 0),(18,iv 0),(19,iv 0),(73,.ref 3100 0 0 0)]) (H':=FZ d8 (uX 9 0 n8 false) (bJ l8 c8)++sH d5 (b4 9 a5 n5 false) (bJ l6 c6)) (bY.wk (Eb<|Eb<|Eb<|Eb<|Eb<|Eb<|Eb<|Eb<|Eb<|Eb<|Ea<|Eb<|Ea<|Eb<|Eb<|Ea<|trivial) (Hc (kP _ _ rfl rfl rfl)<|Hc (aC _ _)<|Hc (aL _ _ _)<|Hc (aI _ _)<|Hc (A5 rfl rfl)<|Hc (aS _ _ _)<|Hc (aE _ _ rfl rfl rfl)<|Hc (aC _ _)<|Hc (aL _ _ _)<|Hc (aI _ _)<|Hc (bC rfl rfl)<|Hc (aS _ _ _)<|trivial) trivial) ?_;refine iD rfl rfl (aB rfl rfl X1 rfl (T9 hS8 (by omega) _ (oW _ _))) ?_;rintro _ _ ⟨rfl,d9,a9,n9,hS9,hcan9,rfl⟩;have hcan9:=hcan9 hsc8;rw [hw8] at hcan9;rw [hsc8];clear hS8 hsc8 hw8;have hreq:mQ d5=mQ d9:=SS (hcan5.trans hcan9.symm);refine lB (E':=[(3,iv 0),(4,iv 0),(5,iv 0),(7,bv false),(8,sv t2),(9,bv true),(10,iv 2),(11,iv 21),(12,iv 0),(13,sv (mQ d5)),(14,.ref 1100 0 0 0),(15,iv 0),(16,.ref 3000 0 0 0),(18,iv 0),(19,iv 0),(74,iv 0)]) (H':=sH d5 (b4 9 a5 n5 false) (bJ l6 c6)++j5 d9) (bY.wk (Eb<|Eb<|Eb<|Eb<|Eb<|Eb<|Eb<|Eb<|Eb<|Eb<|Ea<|Eb<|Ea<|Eb<|Eb<|Eb<|trivial) (Hc (aE _ _ rfl rfl rfl)<|Hc (aC _ _)<|Hc (aL _ _ _)<|Hc (aI _ _)<|Hc (bC rfl rfl)<|Hc (aS _ _ _)<|Hc (kP _ _ rfl rfl rfl)<|Hc (aC _ _)<|Hc (aL _ _ _)<|Hc (aI _ _)<|trivial) trivial) ?_;have hkey:=aJ.frameS (H:=sH d5 (b4 9 a5 n5 false) (bJ l6 c6)++j5 d9) hkey (oW _ _) (oY _ _ _ _ _ _ _) (by simp;rfl);have hraw9:=W1 d9 hS9.calm.inv.ok (sH d5 (b4 9 a5 n5 false) (bJ l6 c6)++j5 d9) (fun j o h=>by rcases V0 (d:=d9) (id:=j) (by rw [h];rfl)with rfl|rfl|rfl|rfl<;>exact h);have hsame:=DF [tB] [tB] (sH d5 (b4 9 a5 n5 false) (bJ l6 c6)++j5 d9) (by decide) (by decide);rw [decide_eq_true rfl] at hsame;refine Dd aR<|Zz<|Sr<|Dd aF<|Dd gH<|Dd aF<|On aF<|On gH<|Dd fN<|Dd aF<|On aF<|On gH<|Dd fN<|Dd aF<|On aF<|On xX<|Dd fN<|Dd aF<|On aF<|Dd fN<|Dd aF<|On aF<|On T8<|Dd fN<|Dd aF<|On aF<|On gH<|Dd fN<|Dd aF<|On aF<|On gH<|Dd fN<|Dd aF<|On aF<|On gH<|Dd fN<|Dd aF<|On aF<|On gH<|Dd fN<|Dd aF<|On aF<|On (by exact aB rfl rfl call19 rfl (hkey))<|On (by exact bF [[.str tB]] rfl b8 rfl rfl rfl rfl rfl (by simp))<|On (by exact aB rfl rfl call17 rfl (hsame))<|Dd fN<|Dd aR<|Zz<|Sq ?_;have h135:AV.pv (.bool (decide (mQ d5=mQ d9)))=bv true:=by rw [decide_eq_true hreq]
 have h140:AV.pv (.bool (decide (((mQ d5).size:Int)=1280)))=bv true:=by rw [hd5];rfl
 exact Rg<|Dd aF<|Dd aF<|On aF<|On gH<|Dd fN<|Dd aF<|On aF<|On gH<|Dd fN<|Dd aF<|On aF<|On gH<|Dd fN<|Dd aF<|On aF<|On aF<|On (by exact aB rfl rfl call22 rfl (hraw9))<|On (by exact bV.eqv (v6 rfl rfl rfl) h135)<|Dd fN<|Dd aF<|On aF<|On (yO aK)<|On (by exact bV.eqv (IJ rfl rfl rfl) h140)<|Dd fN<|Dd aR<|Zz<|aM<|Rt<|Qq
end Go.Proofs.YtmkgeogoojcciaaGreatDoor
