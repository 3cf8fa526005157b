/-
  Parts of the proof: rules of an abstract program logic, contracts of functions, plain laws. Conditions: each theorem's own.
-/
import Derived.Test.YtmkgeogoojcciaaGreatDoorKS7M8
set_option linter.unusedVariables false
set_option linter.unusedSimpArgs false
set_option maxRecDepth 100000
set_option maxHeartbeats 8000000
namespace Go.Proofs
theorem yS:type_of% Tryz.call107:=Tryz.call107
theorem H4:type_of% Tryz.call108:=Tryz.call108
theorem aHL:type_of% Tryz.call109:=Tryz.call109
theorem sT:type_of% Tryz.call110:=Tryz.call110
theorem sS:type_of% Tryz.call111:=Tryz.call111
theorem ZB:type_of% Tryz.call112:=Tryz.call112
theorem ZA:type_of% Tryz.call134:=Tryz.call134
theorem CI:type_of% Tryz.call65:=Tryz.call65
end Go.Proofs
namespace Go.Abs
theorem rG {P:Program} {G0:aE} {N:Nat} {ops:Array Oper} {K:bZ→aE→Prop} {l:List Oper} {E E':bZ} {H H':aE} (he:cC G0 E H E' H') (h:AL P G0 N ops K l E' H'):AL P G0 N ops K l E H :=fun G hG a w hs ro hro Q hq=>h G hG a w (he G hG N a w hs) ro hro Q hq
def uR (T:Nat) (ops:List Oper) (rs:List Rec):Bool :=(xS 0 ops&&xR ops (NR ops []) 0 [] (List.zipWith Ent2.mk (ops.take T) rs))&&(List.range ops.length).all fun j=>Nat.blt j T||(List.range j).all fun i=>((NR ops []).getD j 0).testBit i
theorem Q0 {F:Fence} {nn:Nat} {P:Program} {ops:Array Oper} {Q:Exit→Act→World→Prop} {T:Nat} (hedge:∀ j o,ops.toList[j]?=some o→∀ e∈o.after.toList,Region.binds .any e=true→e.on < j) (htail:∀ (j:Nat),T≤j→j < ops.size→∀ i,i < j→Pre ops.toList i j) :
  ∀ (fuel j:Nat) (listed:Array Bool) (a:Act) (w:World),T≤j→listed.size=ops.size→(∀ i,i < ops.size→listed.getD i false=decide (i < j))→ops.size - j≤fuel→wpListIn F nn P ops Q (ops.toList.drop j) a w→wpAnyIn F nn P .any ops Q fuel listed a w:=by
 intro fuel;have rdy:∀ (j:Nat) (listed:Array Bool),T≤j→listed.size=ops.size→(∀ i,i < ops.size→listed.getD i false=decide (i < j))→(∀ i∈Region.ready .any ops listed,i=j∧i < ops.size)∧(j < ops.size→j∈Region.ready .any ops listed):=by
  intro j listed hj hsz hli;constructor
  ·intro i hi;have hi1:=List.mem_filter.1 hi;have hilt:i < ops.size:=List.mem_range.1 hi1.1;have hi':i < listed.size:=by omega
   have ho:ops[i]?=some ops[i]:=Array.getElem?_eq_getElem hilt;have hi2:=hi1.2;simp only [ho,Option.map_some,Option.getD_some,aIA] at hi2;obtain ⟨hnl,hpreds⟩:=hi2;have hnl':listed.getD i false=false:=by
    simp [Array.getD,hi'] at hnl ⊢;exact hnl
   rw [hli i hilt] at hnl';have hge:j≤i:=by have:=aHo hnl';omega
   refine⟨Classical.byContradiction fun hne=>?_,hilt⟩;have h1:=htail i (by omega) hilt j (by omega) (fun q=>decide (q < j)&&decide (q < ops.size)) (fun q o hq hS e he hb=>by
    have h2:=hedge q o hq e he hb;simp only [aIA,aHy] at hS ⊢;omega) ops[i] (by simp [ho]) (fun e he hb=>by
    have h2:=(Array.all_eq_true'.1 hpreds) e (by simpa using he);have h3:listed.getD e.on false=true:=by simpa [hb] using h2
    have h4:=hedge i ops[i] (by simp [ho]) e he hb;rw [hli e.on (by omega)] at h3;simp only [aIA,aHy];exact⟨aHn h3,by omega⟩)
   simp at h1
  intro hjs;have ho:ops[j]?=some ops[j]:=Array.getElem?_eq_getElem hjs;have hj':j < listed.size:=by omega
  refine List.mem_filter.2 ⟨List.mem_range.2 hjs,?_⟩;have hn:listed.getD j false=false:=by rw [hli j hjs];exact decide_eq_false (Nat.lt_irrefl _)
  have hn':listed.getD j true=false:=by
   simp [Array.getD,hj'] at hn ⊢;exact hn
  simp only [hn',Bool.not_false,Bool.true_and,ho,Option.map_some,Option.getD_some];rw [Array.all_eq_true'];intro e he;cases hb:Region.binds .any e with
  | false=>simp
  | true =>
   have hon:=hedge j ops[j] (by simp [ho]) e (by simpa using he) hb;simp only [Bool.not_true,Bool.false_or];rw [hli e.on (by omega)];exact decide_eq_true hon
 induction fuel with
 | zero =>
  intro j listed a w hj hsz hli hf h;obtain ⟨r1,r2⟩:=rdy j listed hj hsz hli;have hd:ops.toList.drop j=[]:=List.drop_eq_nil_of_le (by rw [Array.length_toList];omega);rw [hd] at h;refine⟨?_,h⟩;cases hr:Region.ready .any ops listed with
  | nil=>rfl
  | cons i r =>
   have:=r1 i (by rw [hr];exact List.mem_cons_self);omega
 | succ fuel ih =>
  intro j listed a w hj hsz hli hf h;obtain ⟨r1,r2⟩:=rdy j listed hj hsz hli;refine⟨fun hnil=>?_,fun i hi=>?_⟩
  ·have hd:ops.toList.drop j=[]:=List.drop_eq_nil_of_le (by
    rw [Array.length_toList];refine Classical.byContradiction fun hno=>?_;have:=r2 (by omega);rw [hnil] at this;cases this)
   rw [hd] at h;exact h
  obtain ⟨rfl,hilt⟩:=r1 i hi;have ho:ops[i]?=some ops[i]:=Array.getElem?_eq_getElem hilt;have hdr:ops.toList.drop i=ops[i]::ops.toList.drop (i+1):=by
   rw [List.drop_eq_getElem_cons (by simpa using hilt)];simp
  rw [hdr] at h;have hi':i < listed.size:=by omega
  have hlist:∀ q,(listed.setIfInBounds i true).getD q false=if q=i then true else listed.getD q false:=by
   intro q;by_cases e:q=i
   ·subst e;simp [Array.getD,hi']
   simp only [Array.getD_eq_getD_getElem?,Array.getElem?_setIfInBounds_ne (Ne.symm e),e,if_false]
  have next:∀ a w,wpListIn F nn P ops Q (ops.toList.drop (i+1)) a w→wpAnyIn F nn P .any ops Q fuel (listed.setIfInBounds i true) a w:=fun a w hh =>
   ih (i+1) _ a w (by omega) (by simp [hsz]) (fun q hq=>by
    rw [hlist];by_cases e:q=i
    ·subst e;rw [aHq rfl];exact(decide_eq_true (by omega)).symm
    rw [aHp e,hli q hq];exact decide_eq_decide.2 (by omega)) (by omega) hh
  unfold wpOpIn;simp only [ho];unfold wpListIn at h
  split
  ·next hw =>
   rw [aHq hw] at h;exact Oper.wpIn_mono next h
  next hw =>
  rw [aHp hw] at h;exact⟨h.1,next _ _ h.2⟩
theorem YV {P:Program} {G0:aE} {N id:Nat} {Q:Exit→bZ→aE→Prop} {ops:Array Oper} {E E':bZ} {H H':aE} {rs:List Rec} (T:Nat) (hm:P.follows .mixedOrders=true) (hT:T≤ops.size) (hc:DChain P N ops.toList (ops.toList.take T) E H rs E' H') (hok:uR T ops.toList rs=true)
  (hB:AL P G0 N ops (fun E H=>Q .normal E H) (ops.toList.drop T) E' H'):iF P G0 N (.region id ops true) Q E H:=by
 intro G hG a w hs ro hro;have hnd0:ro=none∨ops.toList.all Oper.noDefer=true:=hro;refine wpIn_region_any hm ?_;obtain ⟨hlen,hst,hE',hH'⟩:=hc.spec;obtain ⟨l,hl⟩:∃ l,l=List.zipWith Ent2.mk (ops.toList.take T) rs:=⟨_,rfl⟩;rw [← hl] at hst hE' hH';simp only [uR,aIA,← hl] at hok;obtain ⟨⟨hok1,hok2⟩,hok3⟩:=hok;have hTl:(ops.toList.take T).length=T:=by rw [aIF,Array.length_toList];omega
 rw [hTl] at hE' hH';have hndB:ro=none∨(ops.toList.drop T).all Oper.noDefer=true:=hnd0.imp (fun h=>h) fun h=>List.all_eq_true.2 fun x hx=>List.all_eq_true.1 h x (List.mem_of_mem_drop hx);have hll:l.length=T:=by rw [hl,List.length_zipWith,hlen,hTl];omega
 have hlo:∀ (i:Nat) (x:Ent2),l[i]?=some x→ops.toList[i]?=some x.o:=by
  intro i x hx;have hiT:i < T:=by have:=(aHv.1 hx).1;omega
  rw [hl,List.getElem?_zipWith,List.getElem?_take_of_lt hiT] at hx;cases e1:ops.toList[i]? with
  | none=>simp [e1] at hx
  | some o =>
   cases e2:rs[i]? with
   | none=>simp [e1,e2] at hx
   | some r=>simp [e1,e2] at hx;rw [← hx]
 have hedge:=uQ ops.toList 0 hok1;have hbef:∀ (i j:Nat) (x y:Ent2),i < j→l[i]?=some x→l[j]?=some y→gD ops.toList x y=true→Pre ops.toList i j:=fun i j x y hij hx hy hcl =>
  qN ops.toList [] [] rfl rfl (by simp) j i (uP l [] hok2 i j hij (aII _) x y hx hy hcl)
 have htail:∀ (j:Nat),T≤j→j < ops.size→∀ i,i < j→Pre ops.toList i j:=by
  intro j hj hjs i hi;have h1:=List.all_eq_true.1 hok3 j (List.mem_range.2 (by rw [Array.length_toList];exact hjs));rw [Bool.or_eq_true] at h1;rcases h1 with h1|h1
  ·rw [Nat.blt_eq] at h1;omega
  exact qN ops.toList [] [] rfl rfl (by simp) j i (List.all_eq_true.1 h1 i (List.mem_range.2 hi))
 have hedge0:∀ j o,ops.toList[j]?=some o→∀ e∈o.after.toList,Region.binds .any e=true→e.on < j:=fun j o h e he hb=>by have:=hedge j o h e he hb;omega
 have fin:∀ (fuel:Nat) (listed:Array Bool) (a:Act) (w:World) (E1:bZ) (H1:aE),listed.size=ops.size→ops.size≤T+fuel→(∀ j,T≤j→listed.getD j false=false)→(∀ i,i < T→listed.getD i false=true)→St G N E1 H1 a w→(∀ t,E1.get t=oC E l (fun i=>listed.getD i false) T t)→(∀ j,H1.get j=oB H l (fun i=>listed.getD i false) T j) →
   wpAnyIn (RF ro) 0 P .any ops (fun e a w=>∃ E H,Q e E H∧St G N E H a w) fuel listed a w:=by
  intro fuel listed a w E1 H1 hsz hfu hnoB hall hst1 hE1 hH1;refine Q0 hedge0 htail fuel T listed a w (aHx _) hsz (fun i hi=>?_) (by omega) ?_
  ·by_cases h:i < T
   ·rw [hall i h,decide_eq_true h]
   rw [hnoB i (by omega),decide_eq_false h]
  refine hB G hG a w (cC.get (G0:=G0) (fun t=>?_) (fun j=>?_) G hG N a w hst1) ro hndB _ (fun E H a w hK hst=>⟨E,H,hK,hst⟩)
  ·rw [hE' t,hE1 t];exact(kD (E:=E) T T (aHx _) (fun j x hj _=>⟨fun hlt=>hall j hlt,fun h1 h2=>by omega⟩)).symm
  rw [hH' j,hH1 j];exact(kC (H:=H) T T (aHx _) (fun i x hi _=>⟨fun hlt=>hall i hlt,fun h1 h2=>by omega⟩)).symm
 have cnt:∀ (fuel:Nat) (listed:Array Bool),listed.size=ops.size→(∀ j,T≤j→listed.getD j false=false)→((List.range ops.size).filter fun i=>!listed.getD i true).length≤fuel→ops.size≤T+fuel:=by
  intro fuel listed hsz hnoB hcnt;have h1:(List.range' T (ops.size - T)).length≤((List.range ops.size).filter fun i=>!listed.getD i true).length:=by
   refine List.Nodup.length_le_of_subset List.nodup_range' fun j hj=>?_;rw [List.mem_range'_1] at hj;have hjl:j < listed.size:=by omega
   have h2:=hnoB j (by omega);refine List.mem_filter.2 ⟨List.mem_range.2 (by omega),?_⟩;simp [Array.getD,hjl] at h2 ⊢;exact h2
  rw [List.length_range'] at h1;omega
 have main:∀ (fuel:Nat) (listed:Array Bool) (a:Act) (w:World) (E1:bZ) (H1:aE),listed.size=ops.size→((List.range ops.size).filter fun i=>!listed.getD i true).length≤fuel →
   jA ops.toList (fun i=>listed.getD i false)→(∀ j,T≤j→listed.getD j false=false)→St G N E1 H1 a w→(∀ t,E1.get t=oC E l (fun i=>listed.getD i false) T t)→(∀ j,H1.get j=oB H l (fun i=>listed.getD i false) T j) →
   wpAnyIn (RF ro) 0 P .any ops (fun e a w=>∃ E H,Q e E H∧St G N E H a w) fuel listed a w:=by
  intro fuel
  induction fuel with
  | zero =>
   intro listed a w E1 H1 hsz hcnt hdown hnoB hst1 hE1 hH1;have hall:∀ i,i < T→listed.getD i false=true:=by
    intro i hi;have hnil:=List.eq_nil_of_length_eq_zero (Nat.le_zero.1 hcnt);have:=List.filter_eq_nil_iff.1 hnil i (List.mem_range.2 (by omega));have hi':i < listed.size:=by omega
    simp [Array.getD,hi'] at this ⊢;exact this
   exact fin 0 listed a w E1 H1 hsz (cnt 0 listed hsz hnoB hcnt) hnoB hall hst1 hE1 hH1
  | succ fuel ih =>
   intro listed a w E1 H1 hsz hcnt hdown hnoB hst1 hE1 hH1;by_cases hallT:∀ i,i < T→listed.getD i false=true
   ·exact fin _ listed a w E1 H1 hsz (cnt _ listed hsz hnoB hcnt) hnoB hallT hst1 hE1 hH1
   refine⟨fun hnil=>?_,fun i hi=>?_⟩
   ·-- nothing is left
    exfalso;have hall:∀ i,i < ops.size→listed.getD i false=true:=by
     intro i
     induction i using Nat.strongRecOn with
     | _ i ihi =>
      intro hi;refine Classical.byContradiction fun hno=>?_;have hi':i < listed.size:=by omega
      have hno':listed.getD i true=false:=by
       simp [Array.getD,hi'] at hno ⊢;exact hno
      have hlt:i < ops.toList.length:=by simpa using hi
      have hr:i∈Region.ready .any ops listed:=by
       unfold Region.ready;refine List.mem_filter.2 ⟨List.mem_range.2 hi,?_⟩;have ho:ops[i]?=some ops[i]:=Array.getElem?_eq_getElem hi;simp only [hno',Bool.not_false,Bool.true_and,ho,Option.map_some,Option.getD_some];rw [Array.all_eq_true'];intro e he;cases hb:Region.binds .any e with
       | false=>simp
       | true =>
        have hon:=hedge i ops[i] (by simp [ho]) e (by simpa using he) hb;simp only [Bool.not_true,Bool.false_or];exact ihi e.on (by omega) (by omega)
      rw [hnil] at hr;cases hr
    exact hallT fun i hi=>hall i (by omega)
   have hi1:=List.mem_filter.1 hi;have hilt:i < ops.size:=List.mem_range.1 hi1.1;have hi':i < listed.size:=by omega
   have ho:ops[i]?=some ops[i]:=Array.getElem?_eq_getElem hilt;have hi2:=hi1.2;simp only [ho,Option.map_some,Option.getD_some,aIA] at hi2;obtain ⟨hnl,hpreds⟩:=hi2;have hnl':listed.getD i false=false:=by
    simp [Array.getD,hi'] at hnl ⊢;exact hnl
   have hpre:∀ e∈(ops[i]).after.toList,Region.binds .any e=true→listed.getD e.on false=true:=by
    intro e he hb;have:=(Array.all_eq_true'.1 hpreds) e (by simpa using he)
    simpa [hb] using this
   have hiT:i < T:=by
    refine Classical.byContradiction fun hno=>hallT fun q hq=>?_;exact htail i (by omega) hilt q (by omega) _ hdown ops[i] (by simp [ho]) hpre
   have hil:i < l.length:=by omega
   obtain ⟨x,hx⟩:∃ x,l[i]?=some x:=⟨_,aHw hil⟩;have hxo:x.o=ops[i]:=by
    have:=hlo i x hx;simp [ho] at this;exact this.symm
   obtain ⟨hdok,Ek,Hk,hEk,hHk,hdst⟩:=hst i x hx;have hbefore:∀ (j:Nat) (y:Ent2),j < i→l[j]?=some y→gD ops.toList y x=true→listed.getD j false=true:=by
    intro j y hj hy hcl;exact hbef j i y x hj hy hx hcl _ hdown ops[i] (by simp [ho]) hpre
   have hbehind:∀ (j:Nat) (y:Ent2),i < j→l[j]?=some y→gD ops.toList x y=true→listed.getD j false=false:=by
    intro j y hj hy hcl;cases hjl:listed.getD j false with
    | false=>rfl
    | true =>
     have hjlt:j < l.length:=(aHv.1 hy).1;have hjo:ops.toList[j]?=some y.o:=hlo j y hy;have:=hbef i j x y hj hx hy hcl _ hdown y.o hjo (fun e he hb=>hdown j y.o hjo hjl e he hb);rw [hnl'] at this;cases this
   have agreeE:∀ t,(∀ (j:Nat) (y:Ent2),l[j]?=some y→y.o.dst=some t→(j < i→gD ops.toList y x=true)∧(i < j→gD ops.toList x y=true))→E1.get t=Ek.get t:=by
    intro t ht;rw [hE1 t,hEk t];refine kD (E:=E) T i (by omega) (fun j y hj hd=>⟨fun hlt=>hbefore j y hlt hj ((ht j y hj hd).1 hlt),fun h1 h2=>?_⟩);by_cases e:j=i
    ·subst e;exact hnl'
    exact hbehind j y (by omega) hj ((ht j y hj hd).2 (by omega))
   have agreeH:∀ k,(∀ (j:Nat) (y:Ent2),l[j]?=some y→(y.r.W.get k).isSome=true→(j < i→gD ops.toList y x=true)∧(i < j→gD ops.toList x y=true))→H1.get k=Hk.get k:=by
    intro k hk;rw [hH1 k,hHk k];refine kC (H:=H) T i (by omega) (fun j y hj hd=>⟨fun hlt=>hbefore j y hlt hj ((hk j y hj hd).1 hlt),fun h1 h2=>?_⟩);by_cases e:j=i
    ·subst e;exact hnl'
    exact hbehind j y (by omega) hj ((hk j y hj hd).2 (by omega))
   have hlooks:∀ t,t∈eY ops.toList x.o→E1.get t=Ek.get t:=fun t ht =>
    agreeE t fun j y hj hd=>⟨fun _=>pN hd ht,fun _=>pM hd ht⟩
   have hreads:∀ k,rR x.r.R k=true→H1.get k=Hk.get k:=fun k hk =>
    agreeH k fun j y hj hd=>⟨fun _=>DK hd hk,fun _=>DL hd hk⟩
   have hlist:∀ j,(listed.setIfInBounds i true).getD j false=if j=i then true else listed.getD j false:=by
    intro j;by_cases e:j=i
    ·subst e;simp [Array.getD,hi']
    simp only [Array.getD_eq_getD_getElem?,Array.getElem?_setIfInBounds_ne (Ne.symm e),e,if_false]
   have hdown':jA ops.toList (fun j=>(listed.setIfInBounds i true).getD j false):=by
    intro j o hj hjl e he hb;simp only [hlist] at hjl ⊢;by_cases ej:j=i
    ·subst ej;have:o=ops[j]:=by simp [ho] at hj;exact hj.symm
     subst this;have:=hpre e he hb;simp [this]
    simp only [ej,if_false] at hjl;have:=hdown j o hj hjl e he hb;simp only at this;simp [this]
   have hcnt':((List.range ops.size).filter fun j=>!(listed.setIfInBounds i true).getD j true).length≤fuel:=by
    have hlist':∀ j,(listed.setIfInBounds i true).getD j true=if j=i then true else listed.getD j true:=by
     intro j;by_cases e:j=i
     ·subst e;simp [Array.getD,hi']
     simp only [Array.getD_eq_getD_getElem?,Array.getElem?_setIfInBounds_ne (Ne.symm e),e,if_false]
    have h1:((List.range ops.size).filter fun j=>!(listed.setIfInBounds i true).getD j true)=((List.range ops.size).filter fun j=>!listed.getD j true).filter fun j=>j != i:=by
     rw [List.filter_filter];refine List.filter_congr fun j _=>?_;rw [hlist'];by_cases e:j=i<;>simp [e]
    rw [h1];have h2:=List.length_filter_lt_length_iff_exists (p:=fun j=>j != i) (l:=(List.range ops.size).filter fun j=>!listed.getD j true) |>.2 ⟨i,List.mem_filter.2 ⟨hi1.1,by simpa using hnl⟩,by simp⟩;omega
   have next:∀ (r:AV) (a':Act) (w':World),r=x.r.v→St G N (jD E1 x.o.dst x.r.v) (x.r.W++H1) a' w'→wpAnyIn (RF ro) 0 P .any ops (fun e a w=>∃ E H,Q e E H∧St G N E H a w) fuel (listed.setIfInBounds i true) a' w':=by
    intro r a' w' _ hst';refine ih _ a' w' _ _ (by simp [hsz]) hcnt' hdown' (fun j hj=>by rw [hlist,aHp (by omega)];exact hnoB j hj) hst' (fun t=>?_) (fun k=>?_)
    ·-- slots
     by_cases hd:x.o.dst=some t
     ·have e1:bZ.get (jD E1 x.o.dst x.r.v) t=some x.r.v:=by rw [hd];simp [jD,bZ.get_cons_same]
      rw [e1];have e2:=kD (E:=E) (l:=l) (S:=fun j=>(listed.setIfInBounds i true).getD j false) (t:=t) T (i+1) (by omega) (fun j y hj hyd=>⟨fun hlt=>?_,fun h1 h2=>?_⟩)
      ·rw [e2,oC,hx];simp [hd]
      ·simp only [hlist];by_cases ej:j=i
       ·simp [ej]
       simp only [ej,if_false];exact hbefore j y (by omega) hj (kG hyd hd)
      simp only [hlist];rw [aHp (by omega)];exact hbehind j y (by omega) hj (kG hd hyd)
     have e1:bZ.get (jD E1 x.o.dst x.r.v) t=E1.get t:=by
      cases hdd:x.o.dst with
      | none=>rfl
      | some d=>exact bZ.get_cons_other _ _ (fun e=>hd (by rw [hdd,e]))
     rw [e1,hE1 t];have:∀ n,oC E l (fun i=>listed.getD i false) n t=oC E l (fun j=>(listed.setIfInBounds i true).getD j false) n t:=by
      intro n
      induction n with
      | zero=>rfl
      | succ n ihn =>
       rw [oC,oC];cases hn:l[n]? with
       | none=>exact ihn
       | some y =>
        simp only;by_cases en:n=i
        ·subst en;rw [hx] at hn;cases hn;rw [aHp (fun h=>hd h.2),aHp (fun h=>hd h.2)];exact ihn
        have hS:(listed.setIfInBounds i true).getD n false=listed.getD n false:=by rw [hlist,aHp en]
        rw [hS,ihn]
     exact this _
    rw [uY];by_cases hd:(x.r.W.get k).isSome=true
    ·obtain ⟨ob,hob⟩:=Option.isSome_iff_exists.1 hd;rw [hob];have e2:=kC (H:=H) (l:=l) (S:=fun j=>(listed.setIfInBounds i true).getD j false) (id:=k) T (i+1) (by omega) (fun j y hj hyd=>⟨fun hlt=>?_,fun h1 h2=>?_⟩)
     ·rw [e2,oB,hx];simp [hob]
     ·simp only [hlist];by_cases ej:j=i
      ·simp [ej]
      simp only [ej,if_false];exact hbefore j y (by omega) hj (qM hyd hd)
     simp only [hlist];rw [aHp (by omega)];exact hbehind j y (by omega) hj (qM hd hyd)
    have hnone:x.r.W.get k=none:=by simpa using hd
    rw [hnone];simp only;rw [hH1 k];have:∀ n,oB H l (fun i=>listed.getD i false) n k=oB H l (fun j=>(listed.setIfInBounds i true).getD j false) n k:=by
     intro n
     induction n with
     | zero=>rfl
     | succ n ihn =>
      rw [oB,oB];cases hn:l[n]? with
      | none=>exact ihn
      | some y =>
       simp only;by_cases en:n=i
       ·subst en;rw [hx] at hn;cases hn;rw [aHp (fun h=>hd h.2),aHp (fun h=>hd h.2)];exact ihn
       have hS:(listed.setIfInBounds i true).getD n false=listed.getD n false:=by rw [hlist,aHp en]
       rw [hS,ihn]
    exact this _
   unfold wpOpIn;simp only [ho];rw [hxo] at hdst hlooks hdok;rw [hxo] at next;have hgE:∀ (j:Nat) (want:Bool) (t:Tmp) (b:Bool),(ops[i]).guard=some (j,want)→gV ops.toList j=some t→Ek.get t=some (.pv (.bool b))→yielded ops a.tmps j=some b:=by
    intro j want t b hg hj hb;have hmem:t∈eY ops.toList ops[i]:=by simp [eY,hg,hj]
    exact nJ (E:=E1) hj ((hlooks t hmem).trans hb) hst1.rel.choose_spec.choose_spec.2.2
   have hnd:ro=none∨(ops[i]).noDefer=true:=hnd0.imp (fun h=>h) fun h=>List.all_eq_true.1 h _ (by simp);cases hdst with
   | plain hg h =>
    have hw:Region.wanted ops[i] (yielded ops a.tmps)=true:=by simp [Region.wanted,hg]
    simp only [hw,if_true];refine hst1.op hdok ((h H1 hreads).restr hlooks) ?_ hnd;rintro r H2 a' w' ⟨rfl,rfl⟩ hs';exact next _ a' w' rfl hs'
   | on j want t b hg hj hb hw h =>
    have hy:=hgE j want t b hg hj hb;have hw:Region.wanted ops[i] (yielded ops a.tmps)=true:=by simp [Region.wanted,hg,hy,hw]
    simp only [hw,if_true];refine hst1.op hdok ((h H1 hreads).restr hlooks) ?_ hnd;rintro r H2 a' w' ⟨rfl,rfl⟩ hs';exact next _ a' w' rfl hs'
   | off j want t x' hg hj hb hw hv hW =>
    have hmem:t∈eY ops.toList ops[i]:=by simp [eY,hg,hj]
    have hw:Region.wanted ops[i] (yielded ops a.tmps)=false :=
     yB (E:=E1) hg hj ((hlooks t hmem).trans hb) hw hst1.rel.choose_spec.choose_spec.2.2
    simp only [hw,Bool.false_eq_true,if_false];refine⟨fun _ _=>trivial,?_⟩;refine next (.tup []) _ w hv.symm ?_;obtain ⟨I,ι,hr,hst2,he⟩:=hst1.rel;rw [hv,hW];refine⟨?_,?_,I,ι,hr,hst2,jE.put hr (Step.refl _ _ _ _) he jE.skip (by rw [hst1.size];exact hdok)⟩
    ·rw [jO];exact hst1.defers
    have:=hst1.size;cases (ops[i]).dst<;>simpa [Act.put] using this
 have hs':St G N E H a {w with drawn:=w.drawn+1}:=by
  obtain ⟨I,ι,hr,hst2,he⟩:=hs.rel;obtain ⟨k2,k3⟩:=hr.drawn (w':={w with drawn:=w.drawn+1}) rfl rfl rfl rfl;exact⟨hs.defers,hs.size,I,ι,k2,hst2.trans k3,fun t v ht=>let ⟨c,h1,h2⟩:=he t v ht;⟨c,h1,h2.mono hr k3⟩⟩
 refine main ops.size (Array.replicate ops.size false) a _ E H (by simp) (by
  have:=List.length_filter_le (fun i=>!(Array.replicate ops.size false).getD i true) (List.range ops.size)
  simpa using this) (fun j o hj hjl=>by simp [Array.getD] at hjl) (fun j _=>by simp [Array.getD]) hs' (fun t=>?_) (fun k=>?_)
 ·have:∀ n,oC E l (fun i=>(Array.replicate ops.size false).getD i false) n t=E.get t:=by
   intro n
   induction n with
   | zero=>rfl
   | succ n ihn =>
    rw [oC];cases l[n]? with
    | none=>exact ihn
    | some y =>
     have hf:(Array.replicate ops.size false).getD n false=false:=by simp [Array.getD]
     simp only [hf,Bool.false_eq_true,false_and,if_false];exact ihn
  exact(this _).symm
 have:∀ n,oB H l (fun i=>(Array.replicate ops.size false).getD i false) n k=H.get k:=by
  intro n
  induction n with
  | zero=>rfl
  | succ n ihn =>
   rw [oB];cases l[n]? with
   | none=>exact ihn
   | some y =>
    have hf:(Array.replicate ops.size false).getD n false=false:=by simp [Array.getD]
    simp only [hf,Bool.false_eq_true,false_and,if_false];exact ihn
 exact(this _).symm
theorem mH {P:Program} {G0:aE} {N id:Nat} {Q:Exit→bZ→aE→Prop} {ops:Array Oper} {E:bZ} {H:aE} (T:Nat) (hm:P.follows .mixedOrders=true) (hT:T≤ops.size)
  (h:DC P N ops.toList (ops.toList.take T) E H (fun rs E' H'=>uR T ops.toList rs=true∧AL P G0 N ops (fun E H=>Q .normal E H) (ops.toList.drop T) E' H')):iF P G0 N (.region id ops true) Q E H:=by
 obtain ⟨rs,E',H',h1,h2,h3⟩:=h;exact YV T hm hT h1 h2 h3
end Go.Abs
namespace Go.Proofs.YtmkgeogoojcciaaGreatDoor
open Go.Proofs.Tryz
open Go.Abs Go.Lib
def aFz (x:GOp):Prop:=x.put.length < 1000000000∧x.drop.length < 1000000000∧∀ p∈x.put,p.1.size < 1099511627776∧p.2.size < 1099511627776
theorem XZ {l:List GOp} (h:D9 l=true):l.length≤12∧∀ x∈l,x.put.length≤6∧x.drop.length≤6∧(∀ p∈x.put,p.1.size+p.2.size≤600)∧∀ s∈x.drop,s.size≤600:=by rw [D9,aIA,aHy] at h;refine⟨h.2,fun x hx=>?_⟩;have h1:=List.all_eq_true.1 h.1 x hx;rw [NF] at h1;simp only [aIA,aHy] at h1;exact⟨h1.1.1,h1.1.2,fun p hp=>aHn (List.all_eq_true.1 h1.2.1 p hp),fun s hs=>aHn (List.all_eq_true.1 h1.2.2 s hs)⟩
end Go.Proofs.YtmkgeogoojcciaaGreatDoor
namespace Go.Proofs.YtmkgeogoojcciaaGreatDoor
open Go.Proofs.Tryz
open Go.Abs Go.ChangeShapes Go.WideShapes Go.ChangeAt Go.RowKit
theorem own:ownKnob Tryz.prog.godebug=none:=by kernel_rfl
theorem U8:laidOutB Tryz.prog=true:=by kernel_rfl
theorem RK {H:Type} {l:List (DataW H)} (hk:Rows.uptoSmall H l=true):Rows.uptoBulkAll l≤1048576:=aHn hk
theorem YN {H:Type} {l r:List (DataW H)} {n:Nat} (h:Rows.uptoBulkAll (l++r)≤n):Rows.uptoBulkAll l≤n:=by
 induction l generalizing n with
 | nil=>simp [Rows.uptoBulkAll]
 | cons x l ih =>
  simp only [List.cons_append,Rows.uptoBulkAll] at h ⊢;have:=ih (n:=n - Rows.uptoBulk x) (by omega);omega
def wfI (n:Int):Prop:=(Lit.int .i64 n).wf=true
theorem wfI.bd {n:Int} (h:wfI n) : -9223372036854775808≤n∧n≤9223372036854775807:=by simpa [wfI,Lit.wf,IntKind.min,IntKind.max,IntKind.signed,IntKind.bits] using h
theorem aGP {B n:Nat} {ps:List PV} (h:Sh Tryz.prog B (n+1) 3 ps):∃ i,ps=[.int .i64 i]∧wfI i:=by obtain ⟨i,rfl,hi⟩:=FR cJ h;exact⟨i,rfl,hi⟩
theorem aFT {B n:Nat} {ps:List PV} (h:Sh Tryz.prog B (n+2) 31 ps):∃ l,ps=[aX l]∧l.length≤B∧∀ s,s∈l→s.size≤B:=by obtain ⟨l,rfl,h1,h2⟩:=LX (f:=encStr) (good:=fun s=>s.size≤B) aO h (fun r hr=>RS aC hr);exact⟨l,rfl,h1,h2⟩
theorem aAE {P:Program} {B n k:Nat} {t e:TypeId} {ps:List PV} (ht:P.underlying t=some (.array k e)) (h:Sh P B (n+1) t ps):ShF (fun t ps=>Sh P B n t ps) P.cellsOf (B8 P e 0 k) ps:=by unfold Sh at h;rw [ht] at h;exact h
def Z2 (B:Nat) (p:ByteArray×ByteArray):Prop:=p.1.size≤B∧p.2.size≤B
theorem aGx {B n:Nat} {ps:List PV} (h:Sh Tryz.prog B (n+2) 66 ps):∃ p,ps=encKV p∧Z2 B p:=by obtain ⟨_,_,rfl,_,h1,_,_,rfl,_,h2,rfl⟩:=aAE aW h;obtain ⟨s,rfl,q1⟩:=RS aC h1;obtain ⟨t,rfl,q2⟩:=RS aC h2;exact⟨(s,t),rfl,q1,q2⟩
theorem aGO {B n:Nat} {ps:List PV} (h:Sh Tryz.prog B (n+3) 35 ps):∃ l,ps=[hU l]∧l.length≤B∧∀ p,p∈l→Z2 B p:=by obtain ⟨l,rfl,h1,h2⟩:=LX (f:=encKV) (good:=Z2 B) bY h (fun r hr=>aGx hr);exact⟨l,rfl,h1,h2⟩
def aEi (B:Nat) (o:GOp):Prop:=wfI o.kind∧(o.put.length≤B∧∀ p,p∈o.put→Z2 B p)∧(o.drop.length≤B∧∀ s,s∈o.drop→s.size≤B)∧wfI o.a∧wfI o.b∧wfI o.c
def FF (B:Nat) (l:List GOp):Prop:=l.length≤B∧∀ o,o∈l→aEi B o
theorem aGw {B n:Nat} {ps:List PV} (h:Sh Tryz.prog B (n+4) 37 ps):∃ o,ps=BZ o∧aEi B o:=by obtain ⟨_,_,rfl,_,h1,_,_,rfl,_,h2,_,_,rfl,_,h3,_,_,rfl,_,h4,_,_,rfl,_,h5,_,_,rfl,_,h6,rfl⟩:=WJ kM h;obtain ⟨k,rfl,q1⟩:=FR cJ h1;obtain ⟨l,rfl,q2⟩:=aGO h2;obtain ⟨d,rfl,q3⟩:=aFT h3;obtain ⟨a,rfl,q4⟩:=FR cJ h4;obtain ⟨b,rfl,q5⟩:=FR cJ h5;obtain ⟨c,rfl,q6⟩:=FR cJ h6;exact⟨⟨k,l,d,a,b,c⟩,rfl,q1,q2,q3,q4,q5,q6⟩
theorem aGN {B n:Nat} {ps:List PV} (h:Sh Tryz.prog B (n+5) 22 ps):∃ l,ps=[oQ l]∧FF B l:=by obtain ⟨l,rfl,h1,h2⟩:=LX (f:=BZ) (good:=aEi B) sO h (fun r hr=>aGw hr);exact⟨l,rfl,h1,h2⟩
theorem FF.len {l:List GOp} (h:FF 1048576 l):l.length < 1000000000:=Nat.lt_of_le_of_lt h.1 (by decide)
theorem FF.ok {l:List GOp} (h:FF 1048576 l):∀ x∈l,aFz x:=fun x hx=>by
 obtain ⟨_,⟨h1,h2⟩,⟨h3,_⟩,_⟩:=h.2 x hx;exact⟨by omega,by omega,fun p hp=>by have:=h2 p hp;unfold Z2 at this;omega⟩
theorem FF.ka {l:List GOp} (h:FF 1048576 l):∀ x∈l,x.a≤9223372036854775807:=fun x hx=>(h.2 x hx).2.2.2.1.bd.2
end Go.Proofs.YtmkgeogoojcciaaGreatDoor
namespace Go.Abs
theorem aK.frameQ {P:Program} {f:FuncId} {args:List AV} {H0 H:aE} {R:AV→aE→Prop} (h:aK P f args H0 R) (hs:Sub H0 H) (hc:bT H0) (ha:∀ a∈args,Clo H0 a)
  (hk0:∀ r H1,R r H1→∀ id,(H1.get id).isSome=true→(H0.get id).isSome=true∨H.get id=none):aK P f args H (fun r H'=>∃ K,R r K∧H'=K++H):=by
 intro I ι w vs hr hl hv;refine(h I ι w vs (hr.restrict hs hc) hl (fun i v a h1 h2=>(hv i v a h1 h2).restrict hs (ha a (aIB h2)))).mono ?_;rintro e w' ⟨r,H',I',ι',v,rfl,hR,k1,k2,k3⟩;have hk:=hk0 r H' hR;obtain ⟨ι2,hι2⟩:∃ ι2:eE,ι2=(fun j=>if(H'.get j).isSome=true then ι' j else ι j):=⟨_,rfl⟩;have i1:∀ j o,H'.get j=some o→ι2 j=ι' j:=fun j o hj=>by rw [hι2];simp [hj]
 have i2:∀ j,H'.get j=none→ι2 j=ι j:=fun j hj=>by rw [hι2];simp [hj]
 have g1:∀ j o,H'.get j=some o→aE.get (H'++H) j=some o:=fun j o hj=>by rw [iR,hj]
 have g2:∀ j,H'.get j=none→aE.get (H'++H) j=H.get j:=fun j hj=>by rw [iR,hj]
 have hfr:∀ j o,H.get j=some o→H'.get j=none→H0.get j=none:=fun j o hj hn=>by
  cases e:H0.get j with
  | none=>rfl
  | some o0 =>
   obtain ⟨o',e1,_⟩:=k3.objs j o0 e;rw [hn] at e1;cases e1
 have hno:∀ j o b c,H.get j=some o→H'.get j=none→ι j=some (b,c)→¬ CP ι H0 b:=fun j o b c hj hn hb ⟨j',o',c',hj',hb'⟩=>by
  have:=hr.inj j j' o o' b c c' hj (hs _ _ hj') hb hb';subst this;rw [hfr j o hj hn] at hj';cases hj'
 have hst:Step I ι H w I' ι2 (H'++H) w':=by
  refine⟨k3.os,k3.tape,k3.output,k3.size,fun a ha hn=>k3.froz a ha (fun h=>hn (h.sub hs)),k3.imm,fun b hb=>?_,?_,?_,?_⟩
  ·rcases k3.immNew b hb with h1|h1|h1
   ·exact .inl h1
   ·exact .inr (.inl (h1.sub hs))
   exact .inr (.inr h1)
  ·rintro b ⟨j,o,c,hj,hc⟩;cases e:H'.get j with
   | some o' =>
    rw [i1 j o' e] at hc;rcases k3.own b ⟨j,o',c,e,hc⟩with h1|h1
    ·exact .inl (h1.sub hs)
    exact .inr h1
   | none =>
    rw [i2 j e] at hc;rw [g2 j e] at hj;exact .inl ⟨j,o,c,hj,hc⟩
  ·intro b hb hn;exact k3.keep b hb (fun h=>hn (h.sub hs))
  intro j o hj;cases e:H'.get j with
  | some o' =>
   rcases hk j (by rw [e];rfl)with h1|h1
   ·obtain ⟨o0,e0⟩:=Option.isSome_iff_exists.1 h1;have:=hs _ _ e0;rw [hj] at this;cases this;obtain ⟨o2,q1,q2,q3⟩:=k3.objs j o e0;exact⟨o2,g1 j o2 q1,q2,fun e=>by rw [i1 j o2 q1];exact q3 e⟩
   rw [hj] at h1;cases h1
  | none=>exact⟨o,(g2 j e).trans hj,aHx _,fun _=>⟨i2 j e,rfl,fun _=>aHx _⟩⟩
 have hv':∀ {v:Value} {a:AV},VRel w' I' ι' H' v a→VRel w' I' ι2 (H'++H) v a:=fun hva =>
  hva.mono' (fun _ _=>rfl) (fun _ h=>h) (fun id o ho=>⟨o,g1 id o ho,aHx _,fun _=>⟨i1 id o ho,rfl,fun _=>aHx _⟩⟩)
 refine⟨r,H'++H,I',ι2,v,rfl,⟨H',hR,rfl⟩,hv' k1,⟨k2.imm,fun j o hj=>?_,fun j j' o o' b c c' hj hj' hc hc'=>?_,k2.glob⟩,hst⟩
 ·cases e:H'.get j with
  | some o' =>
   rw [g1 j o' e] at hj;obtain rfl:o'=o:=Option.some.inj hj;exact(k2.obj j o' e).keep (i1 j o' e) (fun _ _ _ _=>⟨rfl,fun h=>h⟩) (fun r _ a _ v hv=>hv' hv)
  | none =>
   rw [g2 j e] at hj;refine(hr.obj j o hj).keep (i2 j e) (fun b' cap' e1 hlt=>⟨k3.keep b' hlt (hno j o b' cap' hj e e1),fun e3 hi=>?_⟩) (fun r _ a _ v hv=>hv.mono hr hst);rcases k3.immNew b' hi with h1|h1|h1
   ·exact e3 h1
   ·exact hno j o b' cap' hj e e1 h1
   omega
 cases e:H'.get j with
 | some q =>
  rw [i1 j q e] at hc;cases e':H'.get j' with
  | some q' =>
   rw [i1 j' q' e'] at hc';exact k2.inj j j' q q' b c c' e e' hc hc'
  | none =>
   rw [i2 j' e'] at hc';rw [g2 j' e'] at hj';have hlt:=hr.lt ⟨j',o',c',hj',hc'⟩;rcases k3.own b ⟨j,q,c,e,hc⟩with h1|h1
   ·exact absurd h1 (hno j' o' b c' hj' e' hc')
   omega
 | none =>
  rw [i2 j e] at hc;rw [g2 j e] at hj;cases e':H'.get j' with
  | some q' =>
   rw [i1 j' q' e'] at hc';have hlt:=hr.lt ⟨j,o,c,hj,hc⟩;rcases k3.own b ⟨j',q',c',e',hc'⟩with h1|h1
   ·exact absurd h1 (hno j o b c hj e hc)
   omega
  | none =>
   rw [i2 j' e'] at hc';rw [g2 j' e'] at hj';exact hr.inj j j' o o' b c c' hj hj' hc hc'
end Go.Abs
namespace Go.Proofs.YtmkgeogoojcciaaGreatDoor
open Go.Proofs.Tryz
open Go.Abs Go.Lib
def IG (n:Nat):Nat:=if 1000≤n∧n < 1200 then n+2000 else if 3000≤n∧n < 3200 then n - 2000 else n
theorem T7 (n:Nat):IG (IG n)=n:=by
 unfold IG
 repeat' split
 all_goals omega
def aCH (ga:Nat):Arm→AV
 | .never=>.pv .nilp
 | .off _ _ _=>.pv .nilp
 | .on _ _ _=>.ref 3003 ga 0 0
abbrev KY (s:DSt):List AV:=[.osl 3001 0 0 (64*s.cells.length),.osl 3002 s.gq 0 s.q.length,bv s.off,aCH s.ga s.arm]
abbrev pJ (s:DSt):aE:=[(3000,⟨0,4,80,[KY s]⟩),(3001,⟨0,1,5,bP (flat s.cells)⟩),(3002,⟨s.gq,3,103,vK s.q⟩),(3003,⟨s.ga,3,100,mI s.arm⟩)]
abbrev EH (k a n:Nat) (b:Bool):Ob:=⟨0,6,72,[[.ref 3000 0 0 0,iv (k:Int),iv (a:Int),iv (n:Int),.mp 3101 0,bv b]]⟩
abbrev RU (s:DSt) (o m:Ob):aE:=[(3000,⟨0,4,80,[KY s]⟩),(3001,⟨0,1,5,bP (flat s.cells)⟩),(3002,⟨s.gq,3,103,vK s.q⟩),(3003,⟨s.ga,3,100,mI s.arm⟩),(3100,o),(3101,m)]
theorem xN (ρ:Nat→Nat) {α:Type} (f:α→List PV) (l:List α):(l.map fun e=>(f e).map AV.pv).map (kR ρ)=l.map fun e=>(f e).map AV.pv:=by rw [List.map_map];refine List.map_congr_left fun e _=>?_;show kR ρ ((f e).map AV.pv)=_;rw [iP,List.map_map];rfl
theorem F5 (ρ:Nat→Nat) (l:List UInt8):(bP l).map (kR ρ)=bP l:=by rw [bP,List.map_map];exact List.map_congr_left fun e _=>rfl
theorem tF (s:DSt):jM IG (bN s)=pJ s:=by
 have e1:(mI s.arm).map (kR IG)=mI s.arm:=by cases s.arm<;>rfl
 have e2:jN IG (aCI s.ga s.arm)=aCH s.ga s.arm:=by cases s.arm<;>rfl
 simp only [bN,pJ,jM,lU,List.map_cons,List.map_nil,F5,xN,e1,mY,KY,kR,e2];rfl
theorem xM (s:DSt) (k a n:Nat) (b:Bool) (l:cN) (c:Nat):jM IG (sH s (dU k a n b) (cB l c))=RU s (EH k a n b) (cB l c):=by
 have e1:(mI s.arm).map (kR IG)=mI s.arm:=by cases s.arm<;>rfl
 have e2:jN IG (aCI s.ga s.arm)=aCH s.ga s.arm:=by cases s.arm<;>rfl
 have e3:=xK IG l c;simp only [sH,RU,jM,List.map_cons,List.map_nil,e3];simp only [lU,List.map_cons,List.map_nil,F5,xN,e1,mY,KY,kR,e2];rfl
theorem qK (s:DSt) (H:aE) (h1:(H.get 3001).isSome=true) (h2:(H.get 3002).isSome=true) (h3:(H.get 3003).isSome=true):∀ r∈[KY s],∀ a∈r,Clo H a:=by
 intro r hr a ha;rw [aHu.1 hr] at ha;simp only [KY,aID,aIH,or_false] at ha;rcases ha with rfl|rfl|rfl|rfl
 ·exact .osl h1
 ·exact .osl h2
 ·exact .pv _
 cases s.arm<;>first|exact .pv _|exact .ref h3
theorem LZ {H:aE} {k a n:Nat} {b:Bool} (h1:(H.get 3000).isSome=true) (h2:(H.get 3101).isSome=true):∀ r∈(EH k a n b).rows,∀ x∈r,Clo H x:=by
 intro r hr x hx;rw [aHu.1 hr] at hx;simp only [aID,aIH,or_false] at hx;rcases hx with rfl|rfl|rfl|rfl|rfl|rfl
 ·exact .ref h1
 ·exact .pv _
 ·exact .pv _
 ·exact .pv _
 ·exact .mp h2
 exact .pv _
theorem zA (s:DSt):bT (pJ s):=(bT.ofL ⟨(by exact qK _ _ rfl rfl rfl),(by exact aG _ _),(by exact aD _ _ _),(by exact aP _ _),trivial⟩)
theorem RT (s:DSt) (k a n:Nat) (b:Bool) (l:cN) (c:Nat):bT (RU s (EH k a n b) (cB l c)):=(bT.ofL ⟨(by exact qK _ _ rfl rfl rfl),(by exact aG _ _),(by exact aD _ _ _),(by exact aP _ _),(by exact LZ rfl rfl),(by exact aU _ _ _),trivial⟩)
theorem VX {f:FuncId} {args args':List AV} {H0 H3 H:aE} {R:AV→aE→Prop} (h:aK Tryz.prog f args H0 R) (ha:kR IG args=args') (hH:jM IG H0=H3) (hs:Sub H3 H) (hc:bT H3) (hac:∀ a∈args',Clo H3 a)
  (hk:∀ r K,R r K→∀ id,(aE.get (jM IG K) id).isSome=true→(H3.get id).isSome=true∨H.get id=none):aK Tryz.prog f args' H (fun r H'=>∃ r0 K,R r0 K∧r=jN IG r0∧H'=jM IG K++H):=by
 refine(aK.frameQ (aK.renQ T7 h ha hH) hs hc hac ?_).mono ?_
 ·rintro r K ⟨r0,K0,hR,rfl,rfl⟩ id hid;exact hk r0 K0 hR id hid
 rintro r H' ⟨K,⟨r0,K0,hR,rfl,rfl⟩,rfl⟩;exact⟨r0,K0,hR,rfl,rfl⟩
theorem aGF {d:DSt} {id:Nat} (h:(aE.get (pJ d) id).isSome=true):id=3000∨id=3001∨id=3002∨id=3003:=by
 simp only [pJ,aE.get] at h;cases e0:Nat.beq 3000 id
 ·cases e1:Nat.beq 3001 id
  ·cases e2:Nat.beq 3002 id
   ·cases e3:Nat.beq 3003 id
    ·rw [e0,e1,e2,e3] at h;cases h
    exact .inr (.inr (.inr (Nat.eq_of_beq_eq_true e3).symm))
   exact .inr (.inr (.inl (Nat.eq_of_beq_eq_true e2).symm))
  exact .inr (.inl (Nat.eq_of_beq_eq_true e1).symm)
 exact .inl (Nat.eq_of_beq_eq_true e0).symm
theorem aFM {d:DSt} {o m:Ob} {id:Nat} (h:(aE.get (RU d o m) id).isSome=true):id=3000∨id=3001∨id=3002∨id=3003∨id=3100∨id=3101:=by
 simp only [RU,aE.get] at h;cases e0:Nat.beq 3000 id
 ·cases e1:Nat.beq 3001 id
  ·cases e2:Nat.beq 3002 id
   ·cases e3:Nat.beq 3003 id
    ·cases e4:Nat.beq 3100 id
     ·cases e5:Nat.beq 3101 id
      ·rw [e0,e1,e2,e3,e4,e5] at h;cases h
      exact .inr (.inr (.inr (.inr (.inr (Nat.eq_of_beq_eq_true e5).symm))))
     exact .inr (.inr (.inr (.inr (.inl (Nat.eq_of_beq_eq_true e4).symm))))
    exact .inr (.inr (.inr (.inl (Nat.eq_of_beq_eq_true e3).symm)))
   exact .inr (.inr (.inl (Nat.eq_of_beq_eq_true e2).symm))
  exact .inr (.inl (Nat.eq_of_beq_eq_true e1).symm)
 exact .inl (Nat.eq_of_beq_eq_true e0).symm
theorem yY {M d:Nat} (hd0:0 < d) (hM:M < 10 ^ d):∀ (L:List ByteArray),(∀ s∈L,s.size≤M)→(aT L).length≤L.length*(M+d+1)
 | [],_=>aII _
 | s::r,h=>by
  have ih:=yY hd0 hM r (fun x hx=>h x (List.mem_cons_of_mem _ hx));have hs:=h s List.mem_cons_self;have hd:=dT (k:=d) (u:=s.size) (by omega) hd0;rw [fB,aHs,aHt,aHs,dP,aHt,Nat.add_mul];omega
theorem KD {n:Nat} (h:n < 10):(fL (n:Int)).size≤1:=by have e:fL (n:Int)=ofL (decDigits n):=gE (by rw [bB,lB]);rw [e,bO];exact dT (k:=1) (by omega) (by decide)
theorem sY {l:cN} {P:List ByteArray} (hl:∀ p∈l,p.1.size≤1∧p.2.1.size≤1) (hP:∀ s∈P,s.size≤1) (hn:2*l.length+2+P.length≤10):dD (bM l P)≤1:=by
 have h1:(aT (eD l P)).length≤(eD l P).length*(1+1+1):=by
  refine yY (by decide) (by decide) _ fun s hs=>?_;rw [mN] at hs;rcases aID.1 hs with rfl|hs
  ·exact KD (by omega)
  rcases List.mem_append.1 hs with hs|hs
  ·obtain ⟨x,hx,hs⟩:=List.mem_flatMap.1 hs;simp only [aID,aIH,or_false] at hs;rcases hs with rfl|rfl
   ·obtain ⟨p,hp,rfl⟩:=List.mem_map.1 (mO.1 hx);exact(hl p hp).1
   exact zT x fun p hp=>(hl p hp).2
  rcases aID.1 hs with rfl|hs
  ·exact KD (by omega)
  exact hP s hs
 rw [JI] at h1;have hd:=dT (k:=2) (u:=(aT (eD l P)).length) (by omega) (by decide);have h2:(bM l P).length≤46:=by
  rw [bM,fB,aHs,aHt,aHs,bB,bO];have h0:(aT []).length=0:=rfl;omega
 rw [dD];omega
theorem Z0 {l:cN} {P:List ByteArray} {x:ByteArray} (hx:x∈l.map Prod.fst):(fO l x).size≤(bM l P).length:=by
 have h1:fO l x∈eD l P:=by
  rw [mN];refine List.mem_cons_of_mem _ (List.mem_append_left _ (List.mem_flatMap.2 ⟨x,mO.2 hx,?_⟩));simp
 have h2:=qV h1;rw [bM,fB,aHs,aHt,aHs,bB];omega
theorem HR {k n:Nat} {l2:cN} {P:List ByteArray} (h1:bX l2 P=0) (h2:n+dD (bM l2 (fN P))≤k):JA k n l2 P=0:=by
 rw [JA];rcases qL k n l2 P with⟨e1,_⟩|⟨e1,_⟩|⟨e1,_,_,e2⟩|⟨e1,e2⟩
 ·rw [e1];rfl
 ·rw [e1];rfl
 ·omega
 exact absurd h1 e2
theorem aBf {k n:Nat} {l2:cN} {P:List ByteArray} (h1:bX l2 P=0) (h0:0 < l2.length) (h2:k < n+dD (bM l2 (fN P))):JA k n l2 P=21:=by
 rw [JA];rcases qL k n l2 P with⟨e1,_,e2⟩|⟨e1,_,_,e2⟩|⟨e1,_⟩|⟨e1,e2⟩
 ·omega
 ·omega
 ·rw [e1];rfl
 exact absurd h1 e2
theorem YG {k n:Nat} {l2:cN} {P:List ByteArray} (h1:¬ bX l2 P=0):JA k n l2 P=bX l2 P:=by
 rw [JA];rcases qL k n l2 P with⟨_,e2,_⟩|⟨_,e2,_⟩|⟨_,e2,_⟩|⟨e1,e2⟩
 ·exact absurd e2 h1
 ·exact absurd e2 h1
 ·exact absurd e2 h1
 have:=gN l2 P;rw [e1,aHp (by omega)]
theorem sE:fN []=[]:=List.length_eq_zero_iff.1 (by have:=yI [];rw [List.length_nil] at this;omega)
theorem FC {a b:cN} (ha:gX a) (hb:gX b) (h:∀ k,eN a k=eN b k):cE a=cE b:=by rw [cE,cE,MX ha hb h,JK ha hb h]
theorem PS {l:cN} {x:ByteArray}:x∈l.map Prod.fst↔eN l x≠none:=by rw [Ne,iX,Classical.not_not]
theorem aEv (x:Nat) (hx:x < 18446744073709551616) (H:aE):aK Tryz.prog 58 [uv x] H (fun r H'=>r=uv (EK x)∧H'=H):=by refine Pu ?_;refine Bd func58 rfl ntmps58<|Sr<|Dd aR<|Zz<|Sr<|Dd aB<|Dd (by exact fG rfl rfl rfl (show IntKind.u64.wrap ((x:Int)*2862933555777941757)=((DA x:Nat):Int)by rw [IntKind.wrap_u64,DA];omega))<|Dd aR<|Zz<|Sr<|Dd aB<|Dd aB<|Dd (by exact BC rfl rfl rfl (by decide) (by decide) (aAD (DA x) 32 rfl))<|Dd (by exact jX rfl (by simp) rfl rfl (bits_xor_u64_nat (DA x) (DA x / 2 ^ 32) (xU x) (qY 32 (xU x))))<|Dd aR<|Zz<|Sr<|Dd aB<|Dd (by exact fG rfl rfl rfl (show IntKind.u64.wrap (((DA x ^^^ (DA x / 2 ^ 32):Nat):Int)*3935559000370003845)=((GQ x:Nat):Int)by rw [IntKind.wrap_u64,GQ,aD2];omega))<|Dd aR<|Zz<|Sr<|Dd aB<|Dd aB<|Dd (by exact BC rfl rfl rfl (by decide) (by decide) (aAD (GQ x) 29 rfl))<|Dd (by exact jX rfl (by simp) rfl rfl (bits_xor_u64_nat (GQ x) (GQ x / 2 ^ 29) (xT x) (qY 29 (xT x)))) ?_;exact Dd aR<|Zz<|aH<|Rt<|Qq
def aDk (b:Int):Prop:=(48≤b∧b≤57)∨(97≤b∧b≤102)
abbrev HX:ByteArray:=⟨#[48,49,50,51,52,53,54,55,56,57,97,98,99,100,101,102]⟩
instance (b:Int):Decidable (aDk b):=by unfold aDk;infer_instance
theorem aFQ:∀ q:Fin 16,aDk (eV HX q.1):=by decide
theorem aFO {q:Nat} (h:q < 16):(HX.extract q (q+1)).size=1∧aDk (eV (HX.extract q (q+1)) 0):=by
 refine⟨by rw [ByteArray.size_extract];have:HX.size=16:=rfl;omega,?_⟩;have e:eV (HX.extract q (q+1)) 0=eV HX q:=by
  unfold eV;rw [dS,show q+1 - q=1 by omega,List.getElem?_take_of_lt (by decide),List.getElem?_drop];rfl
 rw [e];exact aFQ ⟨q,h⟩
theorem aDS {l:List UInt8} {i:Nat} {b:UInt8} (hi:i < 8) (hb:l[i]?=some b):(iV l)[i]?=some b:=by have hlt:=(aHv.1 hb).1;rw [iV,List.getElem?_append_left (by rw [aIF];omega),List.getElem?_take_of_lt hi,hb]
theorem aAd {l:List UInt8} {i:Nat} (hi:i < 8) (hl:l.length≤i):(iV l)[i]?=some 0:=by rw [iV,List.getElem?_append_right (by rw [aIF];omega),List.getElem?_replicate,aHq (by rw [aIF];omega)]
theorem aDX (D i:Nat) (hi:i < 16):D / 16 ^ i % 16=XO D (15 - i):=by rw [XO,show 60 - 4*(15 - i)=4*i by omega,Nat.pow_mul]
theorem aFP:∀ q:Fin 16,(HX.extract q.1 (q.1+1)).data.toList=[UInt8.ofNat (tQ q.1).toNat]:=fun q=>by
 rw [dS,show q.1+1 - q.1=1 by omega];revert q;decide
theorem PZ (D:Nat):(tR D).length=16:=by rw [tR,aHr,List.length_range]
theorem aBL (D:Nat) {i:Nat} (h:i < 16):(tR D)[i]?=some (UInt8.ofNat (tQ (XO D i)).toNat):=by rw [tR,aIL,List.getElem?_range h];rfl
theorem aBK (D:Nat) {i:Nat} (h:i < 16):HX.extract (D / 16 ^ i % 16) (D / 16 ^ i % 16+1)++ofL ((tR D).drop (16 - i))=ofL ((tR D).drop (16 - (i+1))):=by
 refine gE ?_;rw [ByteArray.data_append,Array.toList_append,aFP ⟨_,Nat.mod_lt _ (by decide)⟩,bB,bB];show UInt8.ofNat (tQ (D / 16 ^ i % 16)).toNat::(tR D).drop (16 - i)=_;rw [aDX D i h,show 16 - (i+1)=15 - i by omega,show 16 - i=15 - i+1 by omega];have hlt:15 - i < (tR D).length:=by rw [PZ];omega
 rw [List.drop_eq_getElem_cons hlt];have:=aBL D (i:=15 - i) (by omega);rw [aHw hlt] at this;rw [Option.some.inj this]
theorem aDC (s:ByteArray) (hs:s.size < 1000000000) (H:aE):aK Tryz.prog 26 [sv s] H (fun r H'=>r=sv (QE s)∧H'=H):=by
 refine Pu ?_;have hsl:=dP s;have hst0:bits .xor .u64 1181783497276652981 (s.size:Int)=((I7 s.size:Nat):Int):=bits_xor_u64_nat 1181783497276652981 s.size (by decide) (by omega);have hst1:I7 s.size < 18446744073709551616:=VU (by omega);obtain ⟨D,hD⟩:∃ D,D=HG (I7 s.size) s.data.toList:=⟨_,rfl⟩;have hdig:QE s=ofL (tR D):=by rw [QE,← hD];rfl
 rw [hdig];clear hdig;refine Bd func26 rfl ntmps26<|Sr<|Dd aR<|Zz<|Sr<|Dd aB<|Dd (mD aC)<|Dd (by exact eO rfl cJ fQ rfl (OH (by omega)))<|Dd (by exact jX rfl (by simp) rfl rfl hst0)<|Dd aR<|Zz<|Sq<|Sr<|Dd aR<|Zz<|aJ ?_;refine iM (fun(j st:Nat)=>([(0,sv s),(3,uv st),(4,iv ((8*j:Nat):Int))],[])) (fun j st=>8*j≤s.size+8∧st < 18446744073709551616∧((8*j≤s.size∧HG st (s.data.toList.drop (8*j))=D)∨(s.size < 8*j∧st=D))) (fun j st=>s.size+8 - 8*j) 0 (I7 s.size) ⟨by omega,hst1,.inl ⟨by omega,by rw [hD];rfl⟩⟩ ?_ ?_
 ·exact Wk
 rintro j st ⟨hj,hst,hinv⟩;refine Sq<|Sr<|Dd aB<|Dd aB<|Dd (mD aC)<|Dd le'<|Zz ?_;refine Cn ?_ ?_<;>intro hc1
 ·have hle:8*j≤s.size:=by have:=aHn hc1;omega
  have hdd:HG st (s.data.toList.drop (8*j))=D:=by
   rcases hinv with⟨_,h⟩|⟨h,_⟩
   ·exact h
   omega
  obtain ⟨R,hR⟩:∃ R,R=s.data.toList.drop (8*j):=⟨_,rfl⟩;have hRl:R.length=s.size - 8*j:=by rw [hR,aIG,hsl]
  have hp8:=PE R;rw [← hR] at hdd;refine aF<|Sq<|aJ<|Sr<|Dd aR<|Zz<|Sq<|Sr<|Dd aB<|Dd aR<|Zz<|aJ ?_;refine bG (σ:=Nat) (fun i=>([(0,sv s),(3,uv st),(4,iv ((8*j:Nat):Int)),(5,uv (pP ((iV R).take i))),(6,iv ((8*j+i:Nat):Int))],[])) (fun i=>i≤8) (fun i=>8 - i) 0 (aII _) ?_ ?_
  ·exact Wk
  intro i hi;by_cases h8:i < 8
  ·obtain ⟨y,hy⟩:=aY (l:=iV R) (k:=i) (by omega);have hnx:pP ((iV R).take (i+1))=pP ((iV R).take i)*256+y.toNat:=by rw [bW hy,LD]
   have h7:pP ((iV R).take i) < 72057594037927936:=Q3 (by rw [aIF];omega);have hyb:y.toNat < 256:=y.toNat_lt;obtain ⟨b,hb⟩:∃ b,b=pP ((iV R).take i):=⟨_,rfl⟩;rw [← hb] at hnx h7 ⊢;refine Sq<|Sr<|Dd aB<|Dd aB<|Dd (by exact bA rfl rfl rfl (show IntKind.i64.wrap (((8*j:Nat):Int)+8)=((8*j+8:Nat):Int)by rw [eS (by omega) (by omega)];omega))<|Dd cP<|Zz ?_;refine Cn ?_ ?_<;>intro hc2
   ·refine aF<|Sq<|aJ<|Sr<|Dd aB<|Dd (by exact fG rfl rfl rfl (show IntKind.u64.wrap ((b:Int)*256)=((b*256:Nat):Int)by rw [IntKind.wrap_u64];omega))<|Dd aR<|Zz<|Sr<|Dd aB<|Dd aB<|Dd (mD aC)<|Dd cP<|Zz ?_;refine Cn ?_ ?_<;>intro hc3
    ·have hlt2:8*j+i < s.size:=by have:=aHn hc3;omega
     have hby:eV s (8*j+i)=(y.toNat:Int):=by
      have hri:R[i]?=s.data.toList[8*j+i]?:=by rw [hR,List.getElem?_drop]
      obtain ⟨z,hz⟩:=aY (l:=s.data.toList) (k:=8*j+i) (by omega);have:=aDS (l:=R) h8 (hri.trans hz);rw [hy] at this;rw [eV,hz,← Option.some.inj this];rfl
     refine Rg<|Dd aB<|Dd aB<|Dd aB<|Dd (by exact dC rfl aC rfl rfl (by omega) (by exact aIC _) (by omega) rfl)<|Dd (by exact eO rfl bV fQ rfl (show IntKind.u64.wrap (eV s (8*j+i))=((y.toNat:Nat):Int)by rw [hby,OH (by omega)]))<|Dd (by exact bA rfl rfl rfl (show IntKind.u64.wrap (((b*256:Nat):Int)+((y.toNat:Nat):Int))=((b*256+y.toNat:Nat):Int)by rw [IntKind.wrap_u64];omega))<|Dd aR<|Zz<|Rg<|Dd aB<|Dd (by exact bA rfl rfl rfl (show IntKind.i64.wrap (((8*j+i:Nat):Int)+1)=((8*j+(i+1):Nat):Int)by rw [eS (by omega) (by omega)];omega))<|Da ?_;refine⟨i+1,by omega,by omega,?_⟩;rw [hnx];exact Wk
    have hge2:s.size≤8*j+i:=by have:=aHo hc3;omega
    have hy0:y.toNat=0:=by
     have:=aAd (l:=R) h8 (by omega);rw [hy] at this;rw [Option.some.inj this];rfl
    refine aF<|Rg<|Dd aB<|Dd (by exact bA rfl rfl rfl (show IntKind.i64.wrap (((8*j+i:Nat):Int)+1)=((8*j+(i+1):Nat):Int)by rw [eS (by omega) (by omega)];omega))<|Da ?_;refine⟨i+1,by omega,by omega,?_⟩;rw [hnx,hy0,Nat.add_zero];exact Wk
   (have h:=aHo hc2;omega)
  have h88:i=8:=by omega
  subst h88;have htk:(iV R).take 8=iV R:=List.take_of_length_le (by omega);rw [htk];refine Sq<|Sr<|Dd aB<|Dd aB<|Dd (by exact bA rfl rfl rfl (show IntKind.i64.wrap (((8*j:Nat):Int)+8)=((8*j+8:Nat):Int)by rw [eS (by omega) (by omega)];omega))<|Dd cP<|Zz ?_;refine Cn ?_ ?_<;>intro hc4
  ·(have h:=aHn hc4;omega)
  have hlt:=HZ (l:=iV R) (by omega);have hmx:=fun H=>aEv (st ^^^ pP (iV R)) (vU hst hlt) H;refine aV<|Rg<|Dd aB<|Dd aB<|Dd (by exact jX rfl (by simp) rfl rfl (bits_xor_u64_nat st (pP (iV R)) hst hlt))<|Dd (by exact aA rfl rfl call58 rfl (hmx _))<|Dd aR<|Zz<|Rg<|Dd aB<|Dd (by exact bA rfl rfl rfl (show IntKind.i64.wrap (((8*j:Nat):Int)+8)=((8*(j+1):Nat):Int)by rw [eS (by omega) (by omega)];omega))<|Da ?_;refine⟨j+1,EK (st ^^^ pP (iV R)),⟨by omega,MW _,?_⟩,by omega,Wk⟩;by_cases hge:8≤R.length
  ·refine .inl ⟨by omega,?_⟩;have hpt:iV (R.take 8)=iV R:=by
    rw [iV,iV,List.take_take,aIF,Nat.min_eq_left hge];rw [show 8 - R.length=0 by omega];rfl
   have h1:=KV st hge;rw [hpt,hdd,hR,List.drop_drop] at h1;rw [hR,show 8*(j+1)=8*j+8 by omega,h1]
  refine .inr ⟨by omega,?_⟩;rw [← KW st (by omega),hdd]
 have hgt:s.size < 8*j:=by have:=aHo hc1;omega
 have hstD:st=D:=by
  rcases hinv with⟨h,_⟩|⟨_,h⟩
  ·omega
  exact h
 subst hstD;have hl16:=PZ st;have hz0:ofL ((tR st).drop (16 - 0))=⟨#[]⟩:=by rw [List.drop_of_length_le (by omega)];rfl
 have hd0:st / 16 ^ 0=st:=by rw [Nat.pow_zero,Nat.div_one]
 refine aV<|Sr<|Dd aR<|Zz<|Sq<|Sr<|Dd aR<|Zz<|aJ ?_;refine bG (σ:=Nat) (fun i=>([(3,uv (st / 16 ^ i)),(7,sv (ofL ((tR st).drop (16 - i)))),(8,iv (i:Int))],[])) (fun i=>i≤16) (fun i=>16 - i) 0 (aII _) ?_ ?_
 ·rw [hz0,hd0];exact Wk
 intro i hi;obtain ⟨v,hv⟩:∃ v,v=st / 16 ^ i:=⟨_,rfl⟩;have hbd:v < 18446744073709551616:=by rw [hv];exact Nat.lt_of_le_of_lt (Nat.div_le_self _ _) hst
 have hv2:st / 16 ^ (i+1)=v / 16:=by rw [hv,Nat.pow_succ,← Nat.div_div_eq_div_mul]
 rw [← hv];have hm:((v:Nat):Int).tmod 16=((v % 16:Nat):Int):=by rw [Int.tmod_eq_emod_of_nonneg (by omega)];omega
 have hq:IntKind.u64.wrap (((v:Nat):Int).tdiv 16)=((v / 16:Nat):Int):=by
  rw [Int.tdiv_eq_ediv_of_nonneg (by omega),IntKind.wrap_u64];omega
 have hq16:v % 16 < 16:=Nat.mod_lt _ (by decide);have hone:=aFO hq16;have htl:(ofL ((tR st).drop (16 - i))).size=i:=by rw [bO,aIG];omega
 by_cases h16:i < 16
 ·have hnx:=aBK st h16;rw [← hv] at hnx;obtain ⟨g,hg⟩:∃ g,g=v % 16:=⟨_,rfl⟩;rw [← hg] at hm hq16 hone hnx;refine Sq<|Sr<|Dd aB<|Dd cP<|Zz ?_;refine Cn ?_ ?_<;>intro hc5
  ·refine aF<|Sq<|aJ<|Sr<|Dd aB<|Dd (by exact pX rfl rfl rfl (by decide) hm)<|Dd aB<|Dd (by exact pX rfl rfl rfl (by decide) hm)<|Dd (by exact bA rfl rfl rfl (show IntKind.u64.wrap ((g:Int)+1)=((g+1:Nat):Int)by rw [IntKind.wrap_u64];omega))<|Dd (by exact bQ (l:=g) (h:=g+1) rfl aC rfl rfl rfl (by omega) (show g+1≤HX.size from by have:HX.size=16:=rfl;omega) rfl)<|Dd aB<|Dd (by exact fA rfl rfl rfl (show (HX.extract g (g+1)).size+(ofL ((tR st).drop (16 - i))).size≤9223372036854775807 by rw [hone.1,htl];omega) hnx)<|Dd aR<|Zz<|Rg<|Dd aB<|Dd (by exact nH rfl rfl rfl (by decide) hq)<|Dd aR<|Zz<|Rg<|Dd aB<|Dd (by exact bA rfl rfl rfl (show IntKind.i64.wrap ((i:Int)+1)=((i+1:Nat):Int)by rw [eS (by omega) (by omega)];omega))<|Da ?_;refine⟨i+1,by omega,by omega,?_⟩;rw [hv2];exact Wk
  (have h:=aHo hc5;omega)
 have h66:i=16:=by omega
 subst h66;refine Sq<|Sr<|Dd aB<|Dd cP<|Zz ?_;refine Cn ?_ ?_<;>intro hc6
 ·(have h:=aHn hc6;omega)
 exact aV<|Sr<|Dd aB<|Dd aR<|Zz<|aH<|Rt<|Qq
abbrev TX:ByteArray:=⟨#[48,49,50,51,52,53,54,55,56,57]⟩
theorem aEf:∀ q:Fin 10,(TX.extract q.1 (q.1+1)).data.toList=[UInt8.ofNat (48+q.1)]:=fun q=>by
 rw [dS,show q.1+1 - q.1=1 by omega];revert q;decide
theorem ZU {q:Nat} (h:q < 10):TX.extract q (q+1)=ofL [UInt8.ofNat (48+q)]:=gE (by rw [aEf ⟨q,h⟩,bB])
theorem oX (a b:List UInt8):ofL a++ofL b=ofL (a++b):=gE (by rw [ByteArray.data_append,Array.toList_append,bB,bB,bB])
def NK (v:Nat):List UInt8:=if v=0 then[] else decDigits v
theorem YB {v:Nat} (h:0 < v) (t:List UInt8):NK (v / 10)++(UInt8.ofNat (48+v % 10)::t)=NK v++t:=by
 have e:NK v=decDigits v:=aHp (by omega);rw [e,decDigits];by_cases h10:v < 10
 ·rw [dif_pos h10,NK,aHq (by omega),Nat.mod_eq_of_lt h10];rfl
 rw [dif_neg h10,NK,aHp (by omega),List.append_assoc];rfl
theorem TA (n:Nat):NK (n / 10)++[UInt8.ofNat (48+n % 10)]=decDigits n:=by
 rw [decDigits];by_cases h10:n < 10
 ·rw [dif_pos h10,NK,aHq (by omega),Nat.mod_eq_of_lt h10];rfl
 rw [dif_neg h10,NK,aHp (by omega)]
theorem aAY (n:Nat) (hn:n < 9223372036854775808) (H:aE):aK Tryz.prog 135 [uv n] H (fun r H'=>r=sv (ofL (decDigits n))∧H'=H):=by
 refine Pu ?_;have step:∀ v:Nat,v < 18446744073709551616→((v:Nat):Int).tmod 10=((v % 10:Nat):Int)∧IntKind.u64.wrap (((v:Nat):Int).tdiv 10)=((v / 10:Nat):Int)∧IntKind.u64.wrap (((v % 10:Nat):Int)+1)=((v % 10+1:Nat):Int)∧v % 10 < 10∧v % 10+1≤TX.size:=fun v hv=>by
  refine⟨by rw [Int.tmod_eq_emod_of_nonneg (by omega)];omega,by rw [Int.tdiv_eq_ediv_of_nonneg (by omega),IntKind.wrap_u64];omega,by rw [IntKind.wrap_u64];omega,Nat.mod_lt _ (by decide),?_⟩;have:TX.size=10:=rfl;omega
 obtain ⟨a1,a2,a3,a4,a5⟩:=step n (by omega);have hx:=ZU a4;have hfin:=TA n;obtain ⟨g,hg⟩:∃ g,g=n % 10:=⟨_,rfl⟩;rw [← hg] at a1 a3 a4 a5 hx hfin;refine Bd func135 rfl ntmps135<|Sr<|Dd aR<|Zz<|Sr<|Dd aB<|Dd (by exact pX rfl rfl rfl (by decide) a1)<|Dd aB<|Dd (by exact pX rfl rfl rfl (by decide) a1)<|Dd (by exact bA rfl rfl rfl a3)<|Dd (by exact bQ (l:=g) (h:=g+1) rfl aC rfl rfl rfl (by omega) a5 hx)<|Dd aR<|Zz<|Sq<|Sr<|Dd aB<|Dd (by exact nH rfl rfl rfl (by decide) a2)<|Dd aR<|Zz<|aJ ?_;refine iM (fun(v:Nat) (t:List UInt8)=>([(0,uv v),(3,sv (ofL t))],[])) (fun v t=>v < 9223372036854775808∧NK v++t=decDigits n) (fun v t=>v) (n / 10) [UInt8.ofNat (48+g)] ⟨by omega,hfin⟩ ?_ ?_
 ·exact Wk
 rintro v t ⟨hv,hvt⟩;obtain ⟨b1,b2,b3,b4,b5⟩:=step v (by omega);have hx:=ZU b4;have hlen:t.length≤21:=by
  have h1:=congrArg List.length hvt;rw [aHs] at h1;have h2:=dT (k:=19) (u:=n) (by omega) (by decide);omega
 by_cases h0:0 < v
 ·have hst:=YB h0 t;rw [hvt] at hst;obtain ⟨g,hg⟩:∃ g,g=v % 10:=⟨_,rfl⟩;rw [← hg] at b1 b3 b4 b5 hx hst;refine Sq<|Sr<|Dd aB<|Dd yP<|Zz ?_;refine Cn ?_ ?_<;>intro hc1
  ·refine aF<|Sq<|aJ<|Rg<|Dd aB<|Dd (by exact pX rfl rfl rfl (by decide) b1)<|Dd aB<|Dd (by exact pX rfl rfl rfl (by decide) b1)<|Dd (by exact bA rfl rfl rfl b3)<|Dd (by exact bQ (l:=g) (h:=g+1) rfl aC rfl rfl rfl (by omega) b5 hx)<|Dd aB<|Dd (by exact fA rfl rfl rfl (by rw [bO,bO,List.length_singleton];omega) (oX [UInt8.ofNat (48+g)] t))<|Dd aR<|Zz<|Rg<|Dd aB<|Dd (by exact nH rfl rfl rfl (by decide) b2)<|Da ?_;exact⟨v / 10,UInt8.ofNat (48+g)::t,⟨by omega,hst⟩,by omega,Wk⟩
  (have h:=aHo hc1;omega)
 have hv0:v=0:=by omega
 subst hv0;have ht:t=decDigits n:=hvt;subst ht;refine Sq<|Sr<|Dd aB<|Dd yP<|Zz ?_;refine Cn ?_ ?_<;>intro hc2
 ·cases hc2
 exact aV<|Sr<|Dd aB<|Dd aR<|Zz<|aH<|Rt<|Qq
theorem tG (n:Nat) (hn:n < 9223372036854775808) (H:aE):aK Tryz.prog 110 [iv (n:Int)] H (fun r H'=>r=sv (ofL (decDigits n))∧H'=H):=by
 refine Pu ?_;have hd:=fun H=>aAY n hn H;refine Bd func110 rfl ntmps110<|Sr<|Dd aR<|Zz<|Sq<|Sr<|Dd aB<|Dd cP<|Zz ?_;refine Cn ?_ ?_<;>intro hc1
 ·(have h:=aHn hc1;omega)
 exact aF<|Sr<|Dd aB<|Dd (by exact eO rfl cJ fQ rfl (OH (by omega)))<|Dd (by exact aA rfl rfl call135 rfl (hd _))<|Dd aR<|Zz<|aH<|Rt<|Qq
theorem UK (n w:Nat) (hn:n < 9223372036854775808) (hw:w≤1000) (H:aE):aK Tryz.prog 134 [iv (n:Int),iv (w:Int)] H (fun r H'=>r=sv (ofL (dg n w))∧H'=H):=by
 refine Pu ?_;have hd:=fun H=>tG n hn H;have hl:=dT (k:=19) (u:=n) (by omega) (by decide);obtain ⟨D,hD⟩:∃ D,D=decDigits n:=⟨_,rfl⟩;have hdg:dg n w=List.replicate (w - D.length) 48++D:=by rw [hD];rfl
 rw [← hD] at hd hl;rw [hdg];clear hdg hD;refine Bd func134 rfl ntmps134<|Sr<|Dd aR<|Zz<|Sr<|Dd aB<|Dd (by exact aA rfl rfl sT rfl (hd _))<|Dd aR<|Zz<|Sq<|aJ ?_;refine bG (σ:=Nat) (fun i=>([(1,iv (w:Int)),(5,sv (ofL (List.replicate i 48++D)))],[])) (fun i=>i≤w - D.length) (fun i=>w - D.length - i) 0 (aII _) ?_ ?_
 ·exact Wk
 intro i hi;have hz:(ofL (List.replicate i 48++D)).size=i+D.length:=by rw [bO,aHs,List.length_replicate]
 have hnx:(⟨#[48]⟩:ByteArray)++ofL (List.replicate i 48++D)=ofL (List.replicate (i+1) 48++D):=by
  rw [List.replicate_succ];exact oX [48] _
 have h48:(⟨#[48]⟩:ByteArray).size=1:=rfl;refine Sq<|Sr<|Dd aB<|Dd (mD aC)<|Dd aB<|Dd cP<|Zz ?_;refine Cn ?_ ?_<;>intro hc1
 ·have hlt:i+D.length < w:=by have:=aHn hc1;rw [hz] at this;omega
  refine aF<|aJ<|Rg<|Dd aB<|Dd (by exact fA rfl rfl rfl (by rw [hz,h48];omega) hnx)<|Da ?_;exact⟨i+1,by omega,by omega,Wk⟩
 have hge:i=w - D.length:=by have:=aHo hc1;rw [hz] at this;omega
 subst hge;exact aV<|Sr<|Dd aB<|Dd aR<|Zz<|aH<|Rt<|Qq
theorem zbN (n:Nat):((List.replicate n [AV.pv (.int .u8 0)]).drop 0).take n=bP (zB n):=by rw [List.drop_zero,List.take_of_length_le (by rw [List.length_replicate];exact aHx _),bP,zB,List.map_replicate];rfl
theorem wB (n:Nat) (hn:n < 1000000000) (H:aE):aK Tryz.prog 65 [iv (n:Int)] H (fun r H'=>r=sv (ofL (zB n))∧H'=H):=by refine Pu ?_;have hb:=zbN n;exact Bd func65 rfl ntmps65<|Sr<|Dd aR<|Zz<|Sr<|Dd aB<|Dd (by exact jG (id:=960) rfl sZ X8 zo5 rfl rfl rfl (by omega) (by omega) (by exact aIC _) (by exact aIC _) (by omega) rfl)<|Dd (by exact fM rfl cL bV aC rfl rfl rfl rfl hb rfl)<|Dd aR<|Zz<|aH<|Rt<|Qq
theorem UE (place:Nat) (L:List UInt8) (hp:place < 100000000) (hL:L.length < 1000000) (H:aE):aK Tryz.prog 133 [iv (place:Int),sv (ofL L)] H (fun r H'=>r=sv (ofL (LM (dg place 8++L)++L))∧H'=H):=by refine Pu ?_;have hd:=fun H=>UK place 8 (by omega) (by omega) H;have h8:=dg8 hp;have hs:=fun H=>aDC (ofL (dg place 8++L)) (by rw [bO,aHs];omega) H;rw [QD] at hs;exact Bd func133 rfl ntmps133<|Sr<|Dd aR<|Zz<|Sr<|Dd aB<|Dd (by exact aA rfl rfl ZA rfl (hd _))<|Dd aB<|Dd (by exact fA rfl rfl rfl (by rw [bO,bO];omega) (oX (dg place 8) L))<|Dd (by exact aA rfl rfl call26 rfl (hs _))<|Dd aB<|Dd (by exact fA rfl rfl rfl (by rw [bO,bO,nD];omega) (oX (LM (dg place 8++L)) L))<|Dd aR<|Zz<|aH<|Rt<|Qq
theorem A4 (place a n:Nat) (hp:place < 100000000) (ha:a < 10) (hn:n < 10000000) (H:aE):aK Tryz.prog 108 [iv (place:Int),iv (a:Int),iv (n:Int)] H (fun r H'=>r=sv (hS place a n)∧H'=H):=by
 refine Pu ?_;have hd1:=fun H=>UK a 1 (by omega) (by omega) H;have hd7:=fun H=>UK n 7 (by omega) (by omega) H;have l1:(dg a 1).length=1:=jT (nN a (by omega) (by omega));have l7:(dg n 7).length=7:=jT (nN n (by omega) (by omega));have hz:=fun H=>wB 40 (by omega) H;have lz:(zB 40).length=40:=by rw [zB,List.length_replicate]
 have hpad:(dg a 1++dg n 7)++zB 40=oU (dg a 1++dg n 7):=by rw [oU,aHs,l1,l7]
 have hse:=fun H=>UE place (oU (dg a 1++dg n 7)) hp (by rw [← hpad];simp only [aHs];omega) H;have e12:=oX (dg a 1) (dg n 7);have e14:=oX (dg a 1++dg n 7) (zB 40);rw [hpad] at e14;exact Bd func108 rfl ntmps108<|Sr<|Dd aR<|Zz<|Sr<|Dd aB<|Dd aB<|Dd (by exact aA rfl rfl ZA rfl (hd1 _))<|Dd aB<|Dd (by exact aA rfl rfl ZA rfl (hd7 _))<|Dd (by exact fA rfl rfl rfl (by rw [bO,bO];omega) e12)<|Dd (by exact aA rfl rfl CI rfl (hz _))<|Dd (by exact fA rfl rfl rfl (by rw [bO,bO,aHs];omega) e14)<|Dd (by exact aA rfl rfl call133 rfl (hse _))<|Dd aR<|Zz<|aH<|Rt<|Qq
theorem CQ (place:Nat) (p:List UInt8) (hp:place < 100000000) (h46:p.length≤46) (H:aE):aK Tryz.prog 109 [iv (place:Int),sv (ofL p)] H (fun r H'=>r=sv (ofL (fE place p))∧H'=H):=by
 refine Pu ?_;have hz0:=bO p;have hd2:∀ H,aK Tryz.prog 134 [iv ((ofL p).size:Int),iv 2] H (fun r H'=>r=sv (ofL (dg p.length 2))∧H'=H):=fun H=>by
  rw [hz0];exact UK p.length 2 (by omega) (by omega) H
 have l2:(dg p.length 2).length=2:=jT (nN p.length (by omega) (by omega));have hz:=fun H=>wB (46 - p.length) (by omega) H;have lz:(zB (46 - p.length)).length=46 - p.length:=by rw [zB,List.length_replicate]
 have hpad:(dg p.length 2++p)++zB (46 - p.length)=oU (dg p.length 2++p):=by
  rw [oU,aHs,l2,show 48 - (2+p.length)=46 - p.length by omega]
 have hse:=fun H=>UE place (oU (dg p.length 2++p)) hp (by rw [← hpad];simp only [aHs];omega) H;have e10:=oX (dg p.length 2) p;have e15:=oX (dg p.length 2++p) (zB (46 - p.length));rw [hpad] at e15;have l2':(dg (ofL p).size 2).length=2:=by rw [hz0];exact l2
 exact Bd func109 rfl ntmps109<|Sr<|Dd aR<|Zz<|Sr<|Dd aB<|Dd aB<|Dd (mD aC)<|Dd (by exact aA rfl rfl ZA rfl (hd2 _))<|Dd aB<|Dd (by exact fA rfl rfl rfl (by rw [bO,bO,← hz0];omega) e10)<|Dd aB<|Dd (mD aC)<|Dd (by exact dG rfl rfl rfl (show IntKind.i64.wrap (46 - ((ofL p).size:Int))=((46 - p.length:Nat):Int)by rw [hz0,eS (by omega) (by omega)];omega))<|Dd (by exact aA rfl rfl CI rfl (hz _))<|Dd (by exact fA rfl rfl rfl (by rw [bO,bO,aHs];omega) e15)<|Dd (by exact aA rfl rfl call133 rfl (hse _))<|Dd aR<|Zz<|aH<|Rt<|Qq
def yN (l:List UInt8):Int:=match decFrom 0 l with
 | some n=>(n:Int)
 | none => -1
theorem B1 {b:UInt8} (h:48≤b.toNat∧b.toNat≤57):digitVal b=some (b.toNat - 48):=by rw [digitVal];simp [h]
theorem EB {b:UInt8} (h:¬ (48≤b.toNat∧b.toNat≤57)):digitVal b=none:=by rw [digitVal];simp;omega
theorem MQ (n w:Nat):yN (dg n w)=(n:Int):=by rw [yN,NJ]
theorem zC {l:List UInt8} {v:Nat} {b:UInt8} (h:decFrom 0 l=some v):decFrom 0 (l++[b])=(digitVal b).map fun d=>v*10+d:=by rw [sB,h];show decFrom v [b]=_;rw [decFrom];cases digitVal b<;>rfl
theorem xJ (s:ByteArray) (hs:s.size≤18) (H:aE):aK Tryz.prog 107 [sv s] H (fun r H'=>r=iv (yN s.data.toList)∧H'=H):=by
 refine Pu ?_;have hsl:=dP s;obtain ⟨l,hl⟩:∃ l,l=s.data.toList:=⟨_,rfl⟩;rw [← hl] at hsl ⊢;have hby:∀ i b,l[i]?=some b→eV s i=(b.toNat:Int):=fun i b h=>by rw [eV,← hl,h];rfl
 have p18:∀ i,i≤18→10 ^ i≤10 ^ 18:=fun i h=>Nat.pow_le_pow_right (by decide) h;refine Bd func107 rfl ntmps107<|Sr<|Dd aR<|Zz<|Sr<|Dd aR<|Zz<|Sq<|Sr<|Dd aR<|Zz<|aJ ?_;refine iM (fun(i v:Nat)=>([(0,sv s),(3,iv (v:Int)),(4,iv (i:Int))],[])) (fun i v=>i≤l.length∧decFrom 0 (l.take i)=some v∧v < 10 ^ i) (fun i v=>l.length - i) 0 0 ⟨aII _,rfl,by decide⟩ ?_ ?_
 ·exact Wk
 rintro i v ⟨hi,hv,hv2⟩;by_cases hlt:i < l.length
 ·obtain ⟨b,hb⟩:=aY hlt;have hbb:=hby i b hb;have htk:=bW hb;have hpw:=p18 i (by omega);have hp18:(10:Nat) ^ 18=1000000000000000000:=by decide
  by_cases hd:48≤b.toNat∧b.toNat≤57
  ·have hnx:decFrom 0 (l.take (i+1))=some (v*10+(b.toNat - 48)):=by rw [htk,zC hv,B1 hd];rfl
   have hlt2:v*10+(b.toNat - 48) < 10 ^ (i+1):=by rw [Nat.pow_succ];omega
   have hi17:v < 100000000000000000:=Nat.lt_of_lt_of_le hv2 (Nat.le_trans (Nat.pow_le_pow_right (by decide) (show i≤17 by omega)) (Nat.le_of_eq (by decide)));have n14:AV.pv (.bool (decide (eV s i < 48)))=bv false:=by rw [hbb,decide_eq_false (by omega)]
   have n19:AV.pv (.bool (decide (57 < eV s i)))=bv false:=by rw [hbb,decide_eq_false (by omega)]
   refine Sq<|Sr<|Dd aB<|Dd aB<|Dd (mD aC)<|Dd cP<|Zz ?_;refine Cn ?_ ?_<;>intro hc1
   ·refine aF<|Sq<|aJ<|Sq<|Sr<|Dd aB<|Dd aB<|Dd (by exact dC rfl aC rfl rfl (by omega) (by exact aIC _) (by omega) rfl)<|Dd (by exact bS.eqv (dB rfl rfl rfl) n14)<|Dd aB<|On aB<|On aB<|On (by exact dC rfl aC rfl rfl (by omega) (by exact aIC _) (by omega) rfl)<|On (by exact bS.eqv (eF rfl rfl rfl) n19)<|Dd cX<|Zz ?_;refine Cn ?_ ?_<;>intro hc2
    ·cases hc2
    refine aF<|Rg<|Dd aB<|Dd (by exact fG rfl rfl rfl (show IntKind.i64.wrap (10*(v:Int))=((10*v:Nat):Int)by rw [eS (by omega) (by omega)];omega))<|Dd aB<|Dd aB<|Dd (by exact dC rfl aC rfl rfl (by omega) (by exact aIC _) (by omega) rfl)<|Dd (by exact dG rfl rfl rfl (show IntKind.u8.wrap (eV s i - 48)=((b.toNat - 48:Nat):Int)by rw [hbb,IntKind.wrap_u8];omega))<|Dd (by exact eO rfl bV cJ rfl (eS (by omega) (by omega)))<|Dd (by exact bA rfl rfl rfl (show IntKind.i64.wrap (((10*v:Nat):Int)+((b.toNat - 48:Nat):Int))=((v*10+(b.toNat - 48):Nat):Int)by rw [eS (by omega) (by omega)];omega))<|Dd aR<|Zz<|Rg<|Dd aB<|Dd (by exact bA rfl rfl rfl (show IntKind.i64.wrap ((i:Int)+1)=((i+1:Nat):Int)by rw [eS (by omega) (by omega)];omega))<|Dd aR ?_;refine Zz ?_;exact⟨i+1,_,⟨by omega,hnx,hlt2⟩,by omega,Wk⟩
   (have h:=aHo hc1;omega)
  have hnone:yN l = -1:=by
   have e:l=l.take (i+1)++l.drop (i+1):=(List.take_append_drop _ _).symm;rw [yN,e,sB,htk,zC hv,EB hd];rfl
  rw [hnone];have hbd:b.toNat < 256:=b.toNat_lt;by_cases h48:b.toNat < 48
  ·have n14:AV.pv (.bool (decide (eV s i < 48)))=bv true:=by rw [hbb,decide_eq_true (by omega)]
   refine Sq<|Sr<|Dd aB<|Dd aB<|Dd (mD aC)<|Dd cP<|Zz ?_;refine Cn ?_ ?_<;>intro hc3
   ·refine aF<|Sq<|aJ<|Sq<|Sr<|Dd aB<|Dd aB<|Dd (by exact dC rfl aC rfl rfl (by omega) (by exact aIC _) (by omega) rfl)<|Dd (by exact bS.eqv (dB rfl rfl rfl) n14)<|Dd aB<|Fo<|Fo<|Fo<|Fo<|Dd cX<|Zz ?_;refine Cn ?_ ?_<;>intro hc4
    ·exact Sr<|Dd aR<|Zz<|aH<|Rt<|Qq
    cases hc4
   (have h:=aHo hc3;omega)
  have n14:AV.pv (.bool (decide (eV s i < 48)))=bv false:=by rw [hbb,decide_eq_false (by omega)]
  have n19:AV.pv (.bool (decide (57 < eV s i)))=bv true:=by rw [hbb,decide_eq_true (by omega)]
  refine Sq<|Sr<|Dd aB<|Dd aB<|Dd (mD aC)<|Dd cP<|Zz ?_;refine Cn ?_ ?_<;>intro hc5
  ·refine aF<|Sq<|aJ<|Sq<|Sr<|Dd aB<|Dd aB<|Dd (by exact dC rfl aC rfl rfl (by omega) (by exact aIC _) (by omega) rfl)<|Dd (by exact bS.eqv (dB rfl rfl rfl) n14)<|Dd aB<|On aB<|On aB<|On (by exact dC rfl aC rfl rfl (by omega) (by exact aIC _) (by omega) rfl)<|On (by exact bS.eqv (eF rfl rfl rfl) n19)<|Dd cX<|Zz ?_;refine Cn ?_ ?_<;>intro hc6
   ·exact Sr<|Dd aR<|Zz<|aH<|Rt<|Qq
   cases hc6
  (have h:=aHo hc5;omega)
 have hend:i=l.length:=by omega
 have hval:yN l=(v:Int):=by
  rw [hend,List.take_length] at hv;rw [yN,hv]
 rw [hval];refine Sq<|Sr<|Dd aB<|Dd aB<|Dd (mD aC)<|Dd cP<|Zz ?_;refine Cn ?_ ?_<;>intro hc7
 ·(have h:=aHn hc7;omega)
 exact aV<|Sr<|Dd aB<|Dd aR<|Zz<|aH<|Rt<|Qq
theorem S2 (place:Nat) {a n:Nat} (ha:a < 10) (hn:n < 10000000):((hS place a n).extract 16 17).data.toList=dg a 1∧((hS place a n).extract 17 24).data.toList=dg n 7:=by
 have l1:(dg a 1).length=1:=jT (nN a (by omega) (by omega));have l7:(dg n 7).length=7:=jT (nN n (by omega) (by omega));constructor
 ·rw [dS,bB,D6,pR,oU,List.drop_left' (nD _),List.append_assoc,List.take_left' l1]
 rw [dS,bB,D6,pR,oU,show (17:Nat)=16+1 from rfl,← List.drop_drop,List.drop_left' (nD _),List.append_assoc,List.drop_left' l1,List.take_left' l7]
theorem aDm {k place:Nat} {t:ByteArray} (h:kJ k place t=true) (hk:k < 10000000):pF t < 2∧pE t≤k∧hS place (pF t) (pE t)=t∧yN (t.extract 16 17).data.toList=(pF t:Int)∧yN (t.extract 17 24).data.toList=(pE t:Int):=by obtain ⟨h1,h2,h3⟩:=wF h;obtain ⟨p1,p2⟩:=S2 place (a:=pF t) (n:=pE t) (by omega) (by omega);rw [h3] at p1 p2;exact⟨h1,h2,h3,by rw [p1,MQ],by rw [p2,MQ]⟩
theorem UI (k place:Nat) (t:ByteArray) (ht:t.size=64) (hp:place < 100000000) (hk:k < 10000000) (H:aE):aK Tryz.prog 64 [iv (place:Int),sv t,iv (k:Int)] H (fun r H'=>r=.tup [iv ((if kJ k place t then pF t else 0:Nat):Int),iv ((if kJ k place t then pE t else 0:Nat):Int),bv (kJ k place t)]∧H'=H):=by
 refine Pu ?_;have t1:∀ {p:Prop} [Decidable p],p→AV.pv (.bool (decide p))=bv true:=fun h=>by rw [decide_eq_true h]
 have t0:∀ {p:Prop} [Decidable p],¬ p→AV.pv (.bool (decide p))=bv false:=fun h=>by rw [decide_eq_false h]
 have n1:∀ {p:Prop} [Decidable p],¬ p→AV.pv (.bool (!decide p))=bv true:=fun h=>by rw [decide_eq_false h];rfl
 have n0:∀ {p:Prop} [Decidable p],p→AV.pv (.bool (!decide p))=bv false:=fun h=>by rw [decide_eq_true h];rfl
 have hA:=fun H=>xJ (t.extract 16 17) (by rw [ByteArray.size_extract];omega) H;have hC:=fun H=>xJ (t.extract 17 24) (by rw [ByteArray.size_extract];omega) H;have hok:=fun h=>aDm (k:=k) (place:=place) (t:=t) h hk;obtain ⟨A,hAe⟩:∃ A,A=yN (t.extract 16 17).data.toList:=⟨_,rfl⟩;obtain ⟨C,hCe⟩:∃ C,C=yN (t.extract 17 24).data.toList:=⟨_,rfl⟩;rw [← hAe] at hA hok;rw [← hCe] at hC hok;have h64:(t.size:Int)=64:=by omega
 refine Bd func64 rfl ntmps64<|Sr<|Dd aR<|Dd aR<|Dd aR<|Zz<|Sq<|Sr<|Dd aB<|Dd (mD aC)<|Dd (by exact bS.eqv (gB rfl rfl rfl) (n0 h64))<|Zz ?_;refine Cn ?_ ?_<;>intro hc1
 ·cases hc1
 refine aF<|Sr<|Dd aB<|Dd (by exact bQ (l:=16) (h:=17) rfl aC rfl rfl rfl (by omega) (by omega) rfl)<|Dd (by exact aA rfl rfl yS rfl (hA _))<|Dd aR<|Zz<|Sr<|Dd aB<|Dd (by exact bQ (l:=17) (h:=24) rfl aC rfl rfl rfl (by omega) (by omega) rfl)<|Dd (by exact aA rfl rfl yS rfl (hC _))<|Dd aR<|Zz<|Sq<|Sq ?_;by_cases hP:kJ k place t=true
 ·obtain ⟨h1,h2,h3,h4,h5⟩:=hok hP;have hH:=fun H=>A4 place (pF t) (pE t) hp (by omega) (by omega) H;rw [h3] at hH;rw [aHq hP,aHq hP,hP];subst h4 h5;refine Rg<|Dd aB<|Dd (by exact bS.eqv (dB rfl rfl rfl) (t0 (by omega)))<|Dd aB<|On aB<|On (by exact bS.eqv (eF rfl rfl rfl) (t0 (by omega)))<|Dd cX<|Dd aB<|On aB<|On (by exact bS.eqv (dB rfl rfl rfl) (t0 (by omega)))<|Dd cX<|Dd aB<|On aB<|On aB<|On (by exact bS.eqv (eF rfl rfl rfl) (t0 (by omega)))<|Dd cX<|Dd aB<|On aB<|On aB<|On aB<|On (by exact aA rfl rfl H4 rfl (hH _))<|On aB<|On (by exact bS.eqv (iW rfl rfl rfl) (n0 rfl))<|Dd cX<|Zz ?_;refine Cn ?_ ?_<;>intro hc2
  ·cases hc2
  refine aF<|Sr<|Dd aB<|Dd aB<|Dd aR<|Dd aR<|Dd aR<|Zz<|aH ?_;refine zD (H':=[]) (.inr rfl) rfl (aI rfl) (aI rfl) (aI rfl) (Fin.wk (by simp) trivial trivial) ?_;exact Qq
 have hP0:kJ k place t=false:=by simpa using hP
 rw [hP0];by_cases a1:A < 0
 ·refine Rg<|Dd aB<|Dd (by exact bS.eqv (dB rfl rfl rfl) (t1 a1))<|Dd aB<|Fo<|Fo<|Dd cX<|Dd aB<|Fo<|Fo<|Dd cX<|Dd aB<|Fo<|Fo<|Fo<|Dd cX<|Dd aB<|Fo<|Fo<|Fo<|Fo<|Fo<|Fo<|Dd cX<|Zz ?_;refine Cn ?_ ?_<;>intro hc3
  ·refine Sr<|Dd aR<|Dd aR<|Dd aR<|Zz<|aH ?_;refine zD (H':=[]) (.inr rfl) rfl (aI rfl) (aI rfl) (aI rfl) (Fin.wk (by simp) trivial trivial) ?_;exact Qq
  cases hc3
 by_cases a2:1 < A
 ·refine Rg<|Dd aB<|Dd (by exact bS.eqv (dB rfl rfl rfl) (t0 a1))<|Dd aB<|On aB<|On (by exact bS.eqv (eF rfl rfl rfl) (t1 a2))<|Dd cX<|Dd aB<|Fo<|Fo<|Dd cX<|Dd aB<|Fo<|Fo<|Fo<|Dd cX<|Dd aB<|Fo<|Fo<|Fo<|Fo<|Fo<|Fo<|Dd cX<|Zz ?_;refine Cn ?_ ?_<;>intro hc4
  ·refine Sr<|Dd aR<|Dd aR<|Dd aR<|Zz<|aH ?_;refine zD (H':=[]) (.inr rfl) rfl (aI rfl) (aI rfl) (aI rfl) (Fin.wk (by simp) trivial trivial) ?_;exact Qq
  cases hc4
 by_cases a3:C < 0
 ·refine Rg<|Dd aB<|Dd (by exact bS.eqv (dB rfl rfl rfl) (t0 a1))<|Dd aB<|On aB<|On (by exact bS.eqv (eF rfl rfl rfl) (t0 a2))<|Dd cX<|Dd aB<|On aB<|On (by exact bS.eqv (dB rfl rfl rfl) (t1 a3))<|Dd cX<|Dd aB<|Fo<|Fo<|Fo<|Dd cX<|Dd aB<|Fo<|Fo<|Fo<|Fo<|Fo<|Fo<|Dd cX<|Zz ?_;refine Cn ?_ ?_<;>intro hc5
  ·refine Sr<|Dd aR<|Dd aR<|Dd aR<|Zz<|aH ?_;refine zD (H':=[]) (.inr rfl) rfl (aI rfl) (aI rfl) (aI rfl) (Fin.wk (by simp) trivial trivial) ?_;exact Qq
  cases hc5
 by_cases a4:(k:Int) < C
 ·refine Rg<|Dd aB<|Dd (by exact bS.eqv (dB rfl rfl rfl) (t0 a1))<|Dd aB<|On aB<|On (by exact bS.eqv (eF rfl rfl rfl) (t0 a2))<|Dd cX<|Dd aB<|On aB<|On (by exact bS.eqv (dB rfl rfl rfl) (t0 a3))<|Dd cX<|Dd aB<|On aB<|On aB<|On (by exact bS.eqv (eF rfl rfl rfl) (t1 a4))<|Dd cX<|Dd aB<|Fo<|Fo<|Fo<|Fo<|Fo<|Fo<|Dd cX<|Zz ?_;refine Cn ?_ ?_<;>intro hc6
  ·refine Sr<|Dd aR<|Dd aR<|Dd aR<|Zz<|aH ?_;refine zD (H':=[]) (.inr rfl) rfl (aI rfl) (aI rfl) (aI rfl) (Fin.wk (by simp) trivial trivial) ?_;exact Qq
  cases hc6
 obtain ⟨a,ea⟩:∃ a:Nat,A=(a:Int):=⟨A.toNat,by omega⟩;obtain ⟨n,en⟩:∃ n:Nat,C=(n:Int):=⟨C.toNat,by omega⟩;have hne:¬ hS place a n=t:=fun e=>by
  have:=(P1 (place:=place) (show a < 2 by omega) (show n≤k by omega) hk).2.2;rw [e,hP0] at this;cases this
 have hH:=fun H=>A4 place a n hp (by omega) (by omega) H;rw [← ea,← en] at hH;refine Rg<|Dd aB<|Dd (by exact bS.eqv (dB rfl rfl rfl) (t0 a1))<|Dd aB<|On aB<|On (by exact bS.eqv (eF rfl rfl rfl) (t0 a2))<|Dd cX<|Dd aB<|On aB<|On (by exact bS.eqv (dB rfl rfl rfl) (t0 a3))<|Dd cX<|Dd aB<|On aB<|On aB<|On (by exact bS.eqv (eF rfl rfl rfl) (t0 a4))<|Dd cX<|Dd aB<|On aB<|On aB<|On aB<|On (by exact aA rfl rfl H4 rfl (hH _))<|On aB<|On (by exact bS.eqv (iW rfl rfl rfl) (n1 hne))<|Dd cX<|Zz ?_;refine Cn ?_ ?_<;>intro hc7
 ·refine Sr<|Dd aR<|Dd aR<|Dd aR<|Zz<|aH ?_;refine zD (H':=[]) (.inr rfl) rfl (aI rfl) (aI rfl) (aI rfl) (Fin.wk (by simp) trivial trivial) ?_;exact Qq
 cases hc7
theorem PA (place:Nat) {p:List UInt8} (h:p.length≤46):((ofL (fE place p)).extract 16 18).data.toList=dg p.length 2∧(ofL (fE place p)).extract 18 (18+p.length)=ofL p:=by
 have l2:(dg p.length 2).length=2:=jT (nN p.length (by omega) (by omega));constructor
 ·rw [dS,bB,fE,pR,oU,List.drop_left' (nD _),List.append_assoc,List.take_left' l2]
 refine gE ?_;rw [dS,bB,bB,fE,pR,oU,show (18:Nat)=16+2 from rfl,← List.drop_drop,List.drop_left' (nD _),List.append_assoc,List.drop_left' l2,Nat.add_sub_cancel_left,List.take_left' rfl]
theorem aFA {place:Nat} {t:ByteArray} (h:¬ C3 place t=sNil):∃ p:List UInt8,1≤p.length∧p.length≤46∧t=ofL (fE place p)∧C3 place t=ofL p:=by
 rw [C3] at h ⊢
 split at h
 ·exact absurd rfl h
 next hb =>
 rw [aHp hb]
 split at h
 ·next he =>
  rw [aHq he];refine⟨(XA t).data.toList,?_,?_,he.symm,(gE (by rw [bB]))⟩
  ·refine Nat.pos_of_ne_zero fun e=>h (gE ?_);rw [List.length_eq_zero_iff.1 e]
  rw [GE] at hb;simp only [Bool.not_eq_true,aIN,aHz] at hb;rw [dP,XA,ByteArray.size_extract];omega
 exact absurd rfl h
theorem aAT (place:Nat) (t:ByteArray) (ht:t.size=64) (hp:place < 100000000) (H:aE):aK Tryz.prog 67 [iv (place:Int),sv t] H (fun r H'=>r=sv (C3 place t)∧H'=H):=by
 refine Pu ?_;have t1:∀ {p:Prop} [Decidable p],p→AV.pv (.bool (decide p))=bv true:=fun h=>by rw [decide_eq_true h]
 have t0:∀ {p:Prop} [Decidable p],¬ p→AV.pv (.bool (decide p))=bv false:=fun h=>by rw [decide_eq_false h]
 have n1:∀ {p:Prop} [Decidable p],¬ p→AV.pv (.bool (!decide p))=bv true:=fun h=>by rw [decide_eq_false h];rfl
 have n0:∀ {p:Prop} [Decidable p],p→AV.pv (.bool (!decide p))=bv false:=fun h=>by rw [decide_eq_true h];rfl
 have hA:=fun H=>xJ (t.extract 16 18) (by rw [ByteArray.size_extract];omega) H;have h64:(t.size:Int)=64:=by omega
 obtain ⟨A,hAe⟩:∃ A,A=yN (t.extract 16 18).data.toList:=⟨_,rfl⟩;rw [← hAe] at hA;refine Bd func67 rfl ntmps67<|Sr<|Dd aR<|Zz<|Sq<|Sr<|Dd aB<|Dd (mD aC)<|Dd (by exact bS.eqv (gB rfl rfl rfl) (n0 h64))<|Zz ?_;refine Cn ?_ ?_<;>intro hc1
 ·cases hc1
 refine aF<|Sr<|Dd aB<|Dd (by exact bQ (l:=16) (h:=18) rfl aC rfl rfl rfl (by omega) (by omega) rfl)<|Dd (by exact aA rfl rfl yS rfl (hA _))<|Dd aR<|Zz<|Sq<|Sq ?_;by_cases hP:C3 place t=sNil
 ·rw [hP];by_cases a1:A < 1
  ·refine Rg<|Dd aB<|Dd (by exact bS.eqv (dB rfl rfl rfl) (t1 a1))<|Dd aB<|Fo<|Fo<|Dd cX<|Dd aB<|Fo<|Fo<|Fo<|Fo<|Fo<|Fo<|Fo<|Fo<|Dd cX<|Zz ?_;refine Cn ?_ ?_<;>intro hc2
   ·exact Sr<|Dd aR<|Zz<|aH<|Rt<|Qq
   cases hc2
  by_cases a2:46 < A
  ·refine Rg<|Dd aB<|Dd (by exact bS.eqv (dB rfl rfl rfl) (t0 a1))<|Dd aB<|On aB<|On (by exact bS.eqv (eF rfl rfl rfl) (t1 a2))<|Dd cX<|Dd aB<|Fo<|Fo<|Fo<|Fo<|Fo<|Fo<|Fo<|Fo<|Dd cX<|Zz ?_;refine Cn ?_ ?_<;>intro hc3
   ·exact Sr<|Dd aR<|Zz<|aH<|Rt<|Qq
   cases hc3
  obtain ⟨n,en⟩:∃ n:Nat,A=(n:Int):=⟨A.toNat,by omega⟩;obtain ⟨q,hq⟩:∃ q,q=(t.extract 18 (18+n)).data.toList:=⟨_,rfl⟩;have hqs:t.extract 18 (18+n)=ofL q:=gE (by rw [bB,hq]);have hql:q.length=n:=by rw [hq,dP,ByteArray.size_extract];omega
  have hne:¬ ofL (fE place q)=t:=fun e=>by
   have:=PB (place:=place) (p:=q) (by omega) (by omega);rw [e,hP] at this;exact U1 (p:=q) (by omega) this.symm
  have hsec:=fun H=>CQ place q hp (by omega) H;refine Rg<|Dd aB<|Dd (by exact bS.eqv (dB rfl rfl rfl) (t0 a1))<|Dd aB<|On aB<|On (by exact bS.eqv (eF rfl rfl rfl) (t0 a2))<|Dd cX<|Dd aB<|On aB<|On aB<|On aB<|On (by exact bA rfl rfl rfl (show IntKind.i64.wrap (18+A)=((18+n:Nat):Int)by rw [en,eS (by omega) (by omega)];omega))<|On (by exact bQ (l:=18) (h:=18+n) rfl aC rfl rfl rfl (by omega) (by omega) hqs)<|On (by exact aA rfl rfl aHL rfl (hsec _))<|On aB<|On (by exact bS.eqv (iW rfl rfl rfl) (n1 hne))<|Dd cX<|Zz ?_;refine Cn ?_ ?_<;>intro hc4
  ·exact Sr<|Dd aR<|Zz<|aH<|Rt<|Qq
  cases hc4
 obtain ⟨p,p1,p2,p3,p4⟩:=aFA hP;rw [p4];obtain ⟨c1,c2⟩:=PA place p2;rw [← p3] at c1 c2;have hAn:A=(p.length:Int):=by rw [hAe,c1,MQ]
 have hsec:=fun H=>CQ place p hp p2 H;rw [← p3] at hsec;clear hAe c1 p3 p4 hP;subst hAn;refine Rg<|Dd aB<|Dd (by exact bS.eqv (dB rfl rfl rfl) (t0 (by omega)))<|Dd aB<|On aB<|On (by exact bS.eqv (eF rfl rfl rfl) (t0 (by omega)))<|Dd cX<|Dd aB<|On aB<|On aB<|On aB<|On (by exact bA rfl rfl rfl (show IntKind.i64.wrap (18+(p.length:Int))=((18+p.length:Nat):Int)by rw [eS (by omega) (by omega)];omega))<|On (by exact bQ (l:=18) (h:=18+p.length) rfl aC rfl rfl rfl (by omega) (by omega) c2)<|On (by exact aA rfl rfl aHL rfl (hsec _))<|On aB<|On (by exact bS.eqv (iW rfl rfl rfl) (n0 rfl))<|Dd cX<|Zz ?_;refine Cn ?_ ?_<;>intro hc5
 ·cases hc5
 exact aF<|Sr<|Dd aB<|Dd aB<|Dd (by exact bA rfl rfl rfl (show IntKind.i64.wrap (18+(p.length:Int))=((18+p.length:Nat):Int)by rw [eS (by omega) (by omega)];omega))<|Dd (by exact bQ (l:=18) (h:=18+p.length) rfl aC rfl rfl rfl (by omega) (by omega) c2)<|Dd aR<|Zz<|aH<|Rt<|Qq
theorem L7 (s:ByteArray) (H:aE):aK Tryz.prog 72 [sv s] H (fun r H'=>r=bv (cR s)∧H'=H):=by
 refine Pu ?_;have t1:∀ {p:Prop} [Decidable p],p→AV.pv (.bool (decide p))=bv true:=fun h=>by rw [decide_eq_true h]
 have t0:∀ {p:Prop} [Decidable p],¬ p→AV.pv (.bool (decide p))=bv false:=fun h=>by rw [decide_eq_false h]
 have he:s=⟨#[]⟩↔s.size=0:=⟨fun e=>by rw [e];rfl,fun e=>gE (by
  have:=dP s;rw [e] at this;rw [List.length_eq_zero_iff.1 this])⟩
 refine Bd func72 rfl ntmps72 ?_;by_cases h1:1≤s.size
 ·have hne:¬ s=⟨#[]⟩:=fun e=>by have:=he.1 e;omega
  by_cases h2:s.size≤200
  ·have hn:cR s=true:=by rw [cR,decide_eq_false hne,decide_eq_true (by omega)];rfl
   rw [hn];exact Sr<|Dd aR<|Zz<|Sr<|Dd aB<|Dd (mD aC)<|Dd (by exact bS.eqv (uO rfl rfl rfl) (t1 (by omega)))<|Dd aB<|On aB<|On (mD aC)<|On (by exact bS.eqv (BG rfl rfl rfl) (t1 (by omega)))<|Dd cX<|Dd aR<|Zz<|aH<|Rt<|Qq
  have hn:cR s=false:=by rw [cR,decide_eq_false hne,decide_eq_false (by omega)];rfl
  rw [hn];exact Sr<|Dd aR<|Zz<|Sr<|Dd aB<|Dd (mD aC)<|Dd (by exact bS.eqv (uO rfl rfl rfl) (t1 (by omega)))<|Dd aB<|On aB<|On (mD aC)<|On (by exact bS.eqv (BG rfl rfl rfl) (t0 (by omega)))<|Dd cX<|Dd aR<|Zz<|aH<|Rt<|Qq
 have hn:cR s=false:=by rw [cR,decide_eq_true (he.2 (by omega))];rfl
 rw [hn];exact Sr<|Dd aR<|Zz<|Sr<|Dd aB<|Dd (mD aC)<|Dd (by exact bS.eqv (uO rfl rfl rfl) (t0 (by omega)))<|Dd aB<|Fo<|Fo<|Fo<|Dd cX<|Dd aR<|Zz<|aH<|Rt<|Qq
def N9 (t:List UInt8) (n:Nat):List ByteArray:=(List.range n).map fun i=>ofL (gH t i)
theorem aAc (t:List UInt8) (n:Nat):N9 t (n+1)=N9 t n++[ofL (gH t n)]:=by rw [N9,List.range_succ,List.map_append];rfl
theorem A9 (t:List UInt8) (n:Nat):(N9 t n).length=n:=by rw [N9,aHr,List.length_range]
theorem JS (t:List UInt8) (ht:t.length < 1000000000) (H:aE):aK Tryz.prog 73 [sv (ofL t)] H (fun r H'=>r=.pv (aX (N9 t (dD t)))∧H'=H):=by
 refine Pu ?_;have hz:=bO t;refine Bd func73 rfl ntmps73<|Sr<|Dd aR<|Zz<|Sr<|Dd (by exact eU (id:=905) (sz:=1) (ty:=9) rfl rfl rfl)<|Zz<|Sq<|Sr<|Dd aR<|Zz<|aJ ?_;refine bG (σ:=Nat) (fun i=>([(0,sv (ofL t)),(3,.osl 905 i 0 i),(4,iv ((46*i:Nat):Int))],[(905,⟨i,1,9,eA (N9 t i)⟩)])) (fun i=>i≤dD t) (fun i=>dD t - i) 0 (aII _) ?_ ?_
 ·exact(cC.wk (Eb<|Ea<|Eb<|trivial) (Hc (dK _ _)<|trivial) trivial)
 intro i hi;have hl:=A9 t i;refine Sq<|Sr<|Dd aB<|Dd aB<|Dd (mD aC)<|Dd cP<|Zz ?_;refine Cn ?_ ?_<;>intro hc1
 ·have hlt:46*i < t.length:=by have:=aHn hc1;rw [hz] at this;omega
  have hipc:i < dD t:=by rw [dD];omega
  have hex:(ofL t).extract (46*i) (min (46*i+46) t.length)=ofL (gH t i):=gE (by
   rw [dS,bB,bB,gH,List.take_eq_take_iff,aIG];omega)
  have hmin:min ((46*i+46:Nat):Int) ((ofL t).size:Int)=((min (46*i+46) t.length:Nat):Int):=by rw [hz];omega
  refine aF<|Sq<|aJ<|Rg<|Dd aB<|Dd aB<|Dd aB<|Dd aB<|Dd (by exact bA rfl rfl rfl (show IntKind.i64.wrap (((46*i:Nat):Int)+46)=((46*i+46:Nat):Int)by rw [eS (by omega) (by omega)];omega))<|Dd aB<|Dd (mD aC)<|Dd (by exact uN rfl rfl rfl hmin)<|Dd (by exact bQ (l:=46*i) (h:=min (46*i+46) t.length) rfl aC rfl rfl rfl (by omega) (by rw [hz];omega) hex)<|Dd (by exact bD [[.str (ofL (gH t i))]] rfl cD rfl rfl rfl rfl rfl (by simp))<|Dd (by exact dV (k:=i+1) (ps:=[[.str (ofL (gH t i))]]) rfl cD IB rfl rfl rfl rfl rfl ((eX _).trans hl) rfl (by simp) (m:=1) rfl (by omega) (by omega) (jK _ [ofL (gH t i)]))<|Dd aR<|Zz<|Rg<|Dd aB<|Dd (by exact bA rfl rfl rfl (show IntKind.i64.wrap (((46*i:Nat):Int)+46)=((46*(i+1):Nat):Int)by rw [eS (by omega) (by omega)];omega)) ?_;refine Da ?_;refine⟨i+1,by omega,by omega,?_⟩;rw [aAc];exact(cC.wk (Eb<|Ea<|Eb<|trivial) (Hc (dK _ _)<|trivial) trivial)
 have hge:i=dD t:=by have:=aHo hc1;rw [hz] at this;rw [dD] at hi ⊢;omega
 subst hge;refine aV<|Sr<|Dd aB<|Dd aR<|Zz<|aH ?_;refine bI (H':=[]) (.inr rfl) rfl (aI rfl) (Fin.stK (N9 t (dD t)) rfl rfl rfl (A9 t _).symm rfl trivial trivial) ?_;exact Qq
def CE (L:List (ByteArray×ByteArray)) (key:ByteArray):Nat:=(L.takeWhile fun p=>lI p.1 key).length
theorem aA1 (L:List (ByteArray×ByteArray)) (key:ByteArray) (H:aE) (hL:L.length < 1000000000):aK Tryz.prog 111 [.pv (hU L),sv key] H (fun r H'=>r=iv (CE L key:Int)∧H'=H):=by
 refine Pu ?_;have hml:(L.map encKV).length=L.length:=aHr _;have t1:∀ {p:Prop} [Decidable p],p→AV.pv (.bool (decide p))=bv true:=fun h=>by rw [decide_eq_true h]
 have t0:∀ {p:Prop} [Decidable p],¬ p→AV.pv (.bool (decide p))=bv false:=fun h=>by rw [decide_eq_false h]
 refine Bd func111 rfl ntmps111<|Sr<|Dd aR<|Zz<|Sr<|Dd aR<|Zz<|Sq<|aJ ?_;refine bG (σ:=Nat) (fun i=>([(0,.pv (hU L)),(1,sv key),(5,iv (i:Int))],[])) (fun i=>i≤L.length∧∀ j p,j < i→L[j]?=some p→lI p.1 key=true) (fun i=>L.length - i) 0 ⟨aII _,fun j p h=>absurd h (Nat.not_lt_zero _)⟩ ?_ ?_
 ·exact Wk
 rintro i ⟨hi,hall⟩;by_cases hlt:i < L.length
 ·obtain ⟨p,hp⟩:=aY hlt;have hip:=cV (f:=encKV) hp;have e9:=t1 (show (i:Int) < ((L.map encKV).length:Int)by omega);rcases Bool.eq_false_or_eq_true (lI p.1 key)with hs|hs
  ·refine Sq<|Sr<|Dd aB<|Dd aB<|Dd (jY bY)<|Dd (by exact bS.eqv (dB rfl rfl rfl) e9)<|Dd aB<|On aB<|On aB<|On (by exact aZ rfl gF rfl rfl (by omega) (by exact aIC _) hip rfl)<|On (by exact bC rfl aW sizeOf9 rfl rfl (by omega) (by exact aIC _) (by decide) rfl)<|On (gW aQ)<|On aB<|On (by exact bS.eqv (GG rfl rfl rfl) (show AV.pv (.bool (lI p.1 key))=bv true by rw [hs]))<|Dd cX<|Zz ?_;refine Cn ?_ ?_<;>intro hc1
   ·refine aF<|aJ<|Rg<|Dd aB<|Dd (by exact bA rfl rfl rfl (show IntKind.i64.wrap ((i:Int)+1)=((i+1:Nat):Int)by rw [eS (by omega) (by omega)];omega))<|Da ?_;refine⟨i+1,⟨by omega,fun j q hj hq=>?_⟩,by omega,Wk⟩;rcases Nat.lt_succ_iff_lt_or_eq.1 hj with h|rfl
    ·exact hall j q h hq
    rw [hp] at hq;obtain rfl:=Option.some.inj hq;exact hs
   cases hc1
  have hat:CE L key=i:=ZX hi (fun j x hj hx=>hall j x hj hx) (.inr ⟨p,hp,hs⟩);rw [hat];refine Sq<|Sr<|Dd aB<|Dd aB<|Dd (jY bY)<|Dd (by exact bS.eqv (dB rfl rfl rfl) e9)<|Dd aB<|On aB<|On aB<|On (by exact aZ rfl gF rfl rfl (by omega) (by exact aIC _) hip rfl)<|On (by exact bC rfl aW sizeOf9 rfl rfl (by omega) (by exact aIC _) (by decide) rfl)<|On (gW aQ)<|On aB<|On (by exact bS.eqv (GG rfl rfl rfl) (show AV.pv (.bool (lI p.1 key))=bv false by rw [hs]))<|Dd cX<|Zz ?_;refine Cn ?_ ?_<;>intro hc2
  ·cases hc2
  exact aV<|Sr<|Dd aB<|Dd aR<|Zz<|aH<|Rt<|Qq
 have hend:i=L.length:=by omega
 have hat:CE L key=i:=ZX hi (fun j x hj hx=>hall j x hj hx) (.inl hend);rw [hat];refine Sq<|Sr<|Dd aB<|Dd aB<|Dd (jY bY)<|Dd (by exact bS.eqv (dB rfl rfl rfl) (t0 (show ¬ (i:Int) < ((L.map encKV).length:Int)by omega)))<|Dd aB<|Fo<|Fo<|Fo<|Fo<|Fo<|Fo<|Fo<|Dd cX<|Zz ?_;refine Cn ?_ ?_<;>intro hc3
 ·cases hc3
 exact aV<|Sr<|Dd aB<|Dd aR<|Zz<|aH<|Rt<|Qq
def AT (L:List ByteArray):Nat:=(L.map fun s=>s.size+21).sum
theorem WB (L:List ByteArray) (s:ByteArray):AT (L++[s])=AT L+(s.size+21):=by rw [AT,List.map_append,List.sum_append];rfl
theorem T6:∀ {L:List ByteArray},(∀ s∈L,s.size≤100000000)→AT L≤L.length*100000021
 | [],_=>aII _
 | s::r,h=>by
  have ih:=T6 (L:=r) (fun x hx=>h x (List.mem_cons_of_mem _ hx));have hs:=h s List.mem_cons_self;show s.size+21+AT r≤_;rw [aHt,Nat.add_mul];omega
theorem KC:∀ {L:List ByteArray},(∀ s∈L,s.size≤100000000)→(aT L).length≤AT L
 | [],_=>aII _
 | s::r,h=>by
  have ih:=KC (L:=r) (fun x hx=>h x (List.mem_cons_of_mem _ hx));have hs:=h s List.mem_cons_self;have hd:=dT (k:=9) (u:=s.size) (by omega) (by decide);rw [fB,aHs,aHt,aHs,dP];show _≤s.size+21+AT r;omega
theorem PX (L:List ByteArray) (s:ByteArray):aT (L++[s])=(aT L++decDigits s.size)++[58]++s.data.toList:=by rw [D5,fB];show aT L++(decDigits s.size++58::(s.data.toList++[]))=_;rw [List.append_nil,List.append_assoc,List.append_assoc];rfl
theorem CS (L:List ByteArray) (hL:L.length≤100000) (hs:∀ s∈L,s.size≤100000000) (H:aE):aK Tryz.prog 112 [.pv (aX L)] H (fun r H'=>r=sv (ofL (aT L))∧H'=H):=by
 refine Pu ?_;have hml:(L.map encStr).length=L.length:=aHr _;have htk:∀ i,AT (L.take i)≤10000002100000:=fun i=>by
  have h1:=T6 (L:=L.take i) (fun s h=>hs s (List.mem_of_mem_take h));have h2:(L.take i).length≤100000:=by rw [aIF];omega
  have h3:=Nat.mul_le_mul_right 100000021 h2;omega
 have hjl:∀ i,(aT (L.take i)).length≤AT (L.take i):=fun i=>KC fun s h=>hs s (List.mem_of_mem_take h);refine Bd func112 rfl ntmps112<|Sr<|Dd aR<|Zz<|Sr<|Dd aR<|Zz<|Sq<|Sr<|Dd aR<|Zz<|aJ ?_;refine bG (σ:=Nat) (fun i=>([(0,.pv (aX L)),(3,iv (AT (L.take i):Int)),(4,iv (i:Int))],[])) (fun i=>i≤L.length) (fun i=>L.length - i) 0 (aII _) ?_ ?_
 ·exact Wk
 intro i hi;have hb:=htk i;refine Sq<|Sr<|Dd aB<|Dd aB<|Dd (jY aO)<|Dd cP<|Zz ?_;refine Cn ?_ ?_<;>intro hc1
 ·have hlt:i < L.length:=by have:=aHn hc1;omega
  obtain ⟨s,hsi⟩:=aY hlt;have his:=cV (f:=encStr) hsi;have hsz:=hs s (aIB hsi);have hnx:AT (L.take (i+1))=AT (L.take i)+(s.size+21):=by rw [bW hsi,WB]
  refine aF<|Sq<|aJ<|Rg<|Dd aB<|Dd aB<|Dd aB<|Dd (by exact aZ rfl cD rfl rfl (by omega) (by exact aIC _) his rfl)<|Dd (gW aQ)<|Dd (mD aC)<|Dd (by exact bA rfl rfl rfl (show IntKind.i64.wrap ((s.size:Int)+21)=((s.size+21:Nat):Int)by rw [eS (by omega) (by omega)];omega))<|Dd (by exact bA rfl rfl rfl (show IntKind.i64.wrap ((AT (L.take i):Int)+((s.size+21:Nat):Int))=((AT (L.take (i+1)):Nat):Int)by rw [hnx,eS (by omega) (by omega)];omega))<|Dd aR<|Zz<|Rg<|Dd aB<|Dd (by exact bA rfl rfl rfl (show IntKind.i64.wrap ((i:Int)+1)=((i+1:Nat):Int)by rw [eS (by omega) (by omega)];omega))<|Da ?_;exact⟨i+1,by omega,by omega,Wk⟩
 have hge:i=L.length:=by have:=aHo hc1;omega
 refine aV<|Sr<|Dd aB<|Dd (by exact jG (id:=905) rfl sZ X8 zo5 rfl rfl rfl (by omega) (by omega) (by exact aIC _) (by exact aIC _) (by omega) rfl)<|Dd aR<|Zz<|Sq<|Sr<|Dd aR<|Zz<|aJ ?_;refine bG (σ:=Nat) (fun i=>([(0,.pv (aX L)),(5,.osl 905 (3*i) 0 (aT (L.take i)).length),(6,iv (i:Int))],[(905,⟨3*i,1,5,bP (aT (L.take i))⟩)])) (fun i=>i≤L.length) (fun i=>L.length - i) 0 (aII _) ?_ ?_
 ·exact(cC.wk (Eb<|Ea<|Eb<|trivial) (Hc (aG _ _)<|trivial) trivial)
 clear hge hb hi;intro i hi;have hb:=htk i;have hj:=hjl i;have hb2:=htk (i+1);have hj2:=hjl (i+1);refine Sq<|Sr<|Dd aB<|Dd aB<|Dd (jY aO)<|Dd cP<|Zz ?_;refine Cn ?_ ?_<;>intro hc2
 ·have hlt:i < L.length:=by have:=aHn hc2;omega
  obtain ⟨s,hsi⟩:=aY hlt;have his:=cV (f:=encStr) hsi;have hsz:=hs s (aIB hsi);have hdec:=fun H=>tG s.size (by omega) H;have hnx:aT (L.take (i+1))=(aT (L.take i)++decDigits s.size)++[58]++s.data.toList:=by rw [bW hsi,PX]
  have hdl:=dT (k:=9) (u:=s.size) (by omega) (by decide);obtain ⟨J,hJ⟩:∃ J,J=aT (L.take i):=⟨_,rfl⟩;rw [← hJ] at hnx hj ⊢;have hds:=bO (decDigits s.size);have h39:(bP (J++decDigits s.size)).length=J.length+(decDigits s.size).length:=by rw [tU,aHs]
  have h45:(bP ((J++decDigits s.size)++[58])).length=J.length+(decDigits s.size).length+1:=by rw [tU,aHs,aHs];rfl
  refine aF<|Sq<|aJ<|Sr<|Dd aB<|Dd aB<|Dd aB<|Dd (by exact aZ rfl cD rfl rfl (by omega) (by exact aIC _) his rfl)<|Dd (gW aQ)<|Dd (mD aC)<|Dd (by exact aA rfl rfl sT rfl (hdec _))<|Dd (by exact nA (rows':=bP (J++decDigits s.size)) (k:=J.length+(decDigits s.size).length) rfl sZ aC X8 LG rfl rfl rfl rfl rfl (tU J) rfl (by rw [hds];omega) (by rw [hds]) (by rw [bB];exact yL J (decDigits s.size)))<|Dd aR<|Zz<|Sr<|Dd aB<|Dd (by exact bD [[.int .u8 58]] rfl sZ rfl rfl rfl rfl rfl (by simp))<|Dd (by exact dV (k:=J.length+(decDigits s.size).length+1) (ps:=[[.int .u8 58]]) rfl sZ X8 rfl rfl rfl rfl rfl h39 rfl (by simp) (m:=1) rfl (by omega) rfl (yL (J++decDigits s.size) [58]))<|Dd aR<|Zz<|Rg<|Dd aB<|Dd aB<|Dm ?_;refine Dd (sU cD)<|Dd (gW aQ (hi:=his))<|Dd (by exact nA (k:=J.length+(decDigits s.size).length+1+s.size) rfl sZ aC X8 LG rfl rfl rfl rfl rfl h45 rfl (by omega) rfl (yL ((J++decDigits s.size)++[58]) s.data.toList))<|Dd aR<|Zz<|Rg<|Dd aB<|Dd (by exact bA rfl rfl rfl (show IntKind.i64.wrap ((i:Int)+1)=((i+1:Nat):Int)by rw [eS (by omega) (by omega)];omega))<|Da ?_;refine⟨i+1,by omega,by omega,?_⟩;rw [hnx];have hlen:(J++decDigits s.size++[58]++s.data.toList).length=J.length+(decDigits s.size).length+1+s.size:=by
   rw [aHs,aHs,aHs,dP];rfl
  rw [hlen];exact(cC.wk (Eb<|Ea<|Eb<|trivial) (Hc (aG _ _)<|trivial) trivial)
 have hge:i=L.length:=by have:=aHo hc2;omega
 subst hge;rw [List.take_length] at hj ⊢;obtain ⟨J,hJ⟩:∃ J,J=aT L:=⟨_,rfl⟩;rw [← hJ];have hb46:((bP J).drop 0).take J.length=bP J:=by rw [List.drop_zero,List.take_of_length_le (by rw [tU];exact aHx _)]
 exact aV<|Sr<|Dd aB<|Dd (by exact fM rfl cL bV aC rfl rfl rfl rfl hb46 rfl)<|Dd aR<|Zz<|aH<|Rt<|Qq
theorem aB1 {l:List UInt8} {v:Nat} (hm:(58:UInt8)∈l) (hc:yH l=decDigits v) (hv:v≤(tW l).length) (h18:v < 1000000000000000000):nY l=false∧Q9 l=v:=by obtain ⟨n1,n2⟩:=xA (l:=decDigits v) (u:=v) (dT (k:=18) (by omega) (by decide)) (qB v) (fun b hb=>rA v hb) (iY v);have hi:fL (v:Int)=ofL (decDigits v):=gE (by rw [lB,bB]);refine⟨?_,by rw [Q9,hc,n2];rfl⟩;rw [nY,hc,n1,n2,decide_eq_true hm,decide_eq_false (show ¬ (v:Int) < 0 by omega),decide_eq_false (show ¬ (((tW l).length:Int) < (v:Int))by omega),hi,decide_eq_true rfl];rfl
theorem aE4 {l:List UInt8} (h:nY l=false):(58:UInt8)∈l∧∃ v:Nat,yH l=decDigits v∧v≤(tW l).length:=by rw [nY] at h;simp only [aIN,Bool.not_eq_false',aHy,aHz] at h;obtain ⟨⟨⟨⟨h1,h2⟩,h3⟩,h4⟩,h5⟩:=h;obtain ⟨v,hv⟩:∃ v:Nat,fH (ofL (yH l))=(v:Int):=⟨(fH (ofL (yH l))).toNat,by omega⟩;rw [hv] at h4 h5;refine⟨h1,v,?_,by omega⟩;have:=congrArg (fun s:ByteArray=>s.data.toList) h5;simp only [lB,bB] at this;exact this.symm
theorem HI:∀ {l:List UInt8} {a n:Nat},decFrom a l=some n→n < (a+1)*10 ^ l.length
 | [],a,n,h=>by
  obtain rfl:=Option.some.inj h;simp
 | b::r,a,n,h=>by
  rw [decFrom] at h;cases e:digitVal b with
  | none=>rw [e] at h;cases h
  | some d =>
   rw [e] at h;have h1:=HI (l:=r) (a:=a*10+d) h;have hd:d < 10:=by
    rw [digitVal] at e
    split at e
    ·obtain rfl:=Option.some.inj e;omega
    cases e
   rw [aHt,Nat.pow_succ];have h2:(a*10+d+1)*10 ^ r.length≤((a+1)*10)*10 ^ r.length:=Nat.mul_le_mul_right _ (by omega);have h3:(a+1)*(10 ^ r.length*10)=(a+1)*10*10 ^ r.length:=by rw [Nat.mul_comm (10 ^ r.length) 10,Nat.mul_assoc]
   omega
theorem aAp (v:Nat):yN (decDigits v)=(v:Int):=by rw [yN,iY]
theorem aDz {l:List UInt8} {c:Nat} (hn:∀ b∈l.take c,b≠58) (hc:l[c]?=some 58):yH l=l.take c∧tW l=l.drop (c+1)∧(58:UInt8)∈l:=by
 have e:l=l.take c++58::l.drop (c+1):=by
  have hlt:=(aHv.1 hc).1;have h2:l.drop c=58::l.drop (c+1):=by
   rw [List.drop_eq_getElem_cons hlt];rw [aHw hlt] at hc;rw [Option.some.inj hc]
  rw [← h2,List.take_append_drop]
 have h:=QN (w:=l.take c) (r:=l.drop (c+1)) (fun hm=>hn _ hm rfl);rw [← e] at h;exact⟨h.1,h.2,aIB hc⟩
theorem VP {l:List UInt8} {c:Nat} (hl:l.length < 10000000) (hn:∀ b∈l.take c,b≠58) (hc:c=7∨c=l.length) (hcl:c≤l.length) (hx:l[c]?≠some 58):nY l=true:=by
 cases e:nY l with
 | true=>rfl
 | false =>
  exfalso;obtain ⟨h1,v,h2,h3⟩:=aE4 e;have hW:(yH l).length≤7:=by
   rw [h2];refine dT (k:=7) ?_ (by decide);have:(tW l).length < l.length:=HP (fun e=>by rw [e] at h1;cases h1);omega
  obtain ⟨u,w,hsp,hu⟩:=List.eq_append_cons_of_mem h1;have hco:=(QN (w:=u) (r:=w) hu).1;rw [← hsp] at hco;have hat:l[(yH l).length]?=some 58:=by
   rw [hco,hsp,List.getElem?_append_right (aHx _),Nat.sub_self];rfl
  have hlt:=(aHv.1 hat).1;by_cases hcc:(yH l).length < c
  ·refine hn 58 (List.mem_of_getElem? (i:=(yH l).length) ?_) rfl;rw [List.getElem?_take_of_lt hcc,hat]
  have:(yH l).length=c:=by omega
  rw [this] at hat;exact hx hat
theorem FY (l:List UInt8) (hl:l.length < 10000000) (H:aE):aK Tryz.prog 68 [sv (ofL l)] H (fun r H'=>r=.tup [.pv (aX (cS l).1),bv (cS l).2]∧H'=H):=by
 refine Pu ?_;have t1:∀ {p:Prop} [Decidable p],p→AV.pv (.bool (decide p))=bv true:=fun h=>by rw [decide_eq_true h]
 have t0:∀ {p:Prop} [Decidable p],¬ p→AV.pv (.bool (decide p))=bv false:=fun h=>by rw [decide_eq_false h]
 have n1:∀ {p:Prop} [Decidable p],¬ p→AV.pv (.bool (!decide p))=bv true:=fun h=>by rw [decide_eq_false h];rfl
 have n0:∀ {p:Prop} [Decidable p],p→AV.pv (.bool (!decide p))=bv false:=fun h=>by rw [decide_eq_true h];rfl
 have hz:=bO l;have hby:∀ i b,l[i]?=some b→eV (ofL l) i=(b.toNat:Int):=fun i b h=>by rw [eV,bB,h];rfl
 refine Bd func68 rfl ntmps68<|Sr<|Dd aR<|Dd aR<|Zz<|Sr<|Dd (by exact eU (id:=905) (sz:=1) (ty:=9) rfl rfl rfl)<|Zz<|Sr<|Dd aR<|Zz<|Sq<|aJ ?_;refine iM (fun(p:Nat) (A:List ByteArray)=>([(0,sv (ofL l)),(4,.osl 905 A.length 0 A.length),(5,iv (p:Int))],[(905,⟨A.length,1,9,eA A⟩)])) (fun p A=>p≤l.length∧A.length≤p∧iJ (l.drop p).length (l.drop p) A=cS l) (fun p A=>l.length - p) 0 [] ⟨aII _,aHx _,rfl⟩ ?_ ?_
 ·exact(cC.wk (Eb<|Ea<|Eb<|trivial) (Hc (dK _ _)<|trivial) trivial)
 rintro p A ⟨hp,hAp,hJ⟩;refine Sq<|Sr<|Dd aB<|Dd aB<|Dd (mD aC)<|Dd cP<|Zz ?_;refine Cn ?_ ?_<;>intro hc1
 ·have hlt:p < l.length:=by have:=aHn hc1;rw [hz] at this;omega
  obtain ⟨R,hR⟩:∃ R,R=l.drop p:=⟨_,rfl⟩;have hRl:R.length=l.length - p:=by rw [hR,aIG]
  have hRg:∀ c,R[c]?=l[p+c]?:=fun c=>by rw [hR,List.getElem?_drop]
  rw [← hR] at hJ;have hR0:R≠[]:=fun e=>by rw [e] at hRl;simp at hRl;omega
  refine aF<|aJ<|Sr<|Dd aB<|Da ?_;refine fZ (fun(c:Nat)=>([(0,sv (ofL l)),(4,.osl 905 A.length 0 A.length),(5,iv ((p+c:Nat):Int)),(6,iv (p:Int))],[(905,⟨A.length,1,9,eA A⟩)])) (fun c=>c≤7∧p+c≤l.length∧(∀ b∈R.take c,b≠58)∧(R[c]?=some 58∨c=7∨c=R.length)) ?_ ?_
  ·refine aJ ?_;refine bG (σ:=Nat) (fun c=>([(0,sv (ofL l)),(4,.osl 905 A.length 0 A.length),(5,iv ((p+c:Nat):Int)),(6,iv (p:Int))],[(905,⟨A.length,1,9,eA A⟩)])) (fun c=>c≤7∧p+c≤l.length∧∀ b∈R.take c,b≠58) (fun c=>7 - c) 0 ⟨by omega,by omega,fun b hb=>by simp at hb⟩ ?_ ?_
   ·exact(cC.wk (Eb<|Ea<|Eb<|Eb<|trivial) (Hc (dK _ _)<|trivial) trivial)
   rintro c ⟨hc7,hcl,hno⟩;have e20:IntKind.i64.wrap ((p:Int)+7)=((p+7:Nat):Int):=by rw [eS (by omega) (by omega)];omega
   by_cases hend:p+c < l.length
   ·obtain ⟨b,hb⟩:=aY (l:=R) (k:=c) (by omega);have hbl:=hby (p+c) b ((hRg c).symm.trans hb);by_cases h58:b=58
    ·have hb58:eV (ofL l) (p+c)=58:=by rw [hbl,h58];rfl
     by_cases c7:c < 7
     ·refine Sq<|Sr<|Dd aB<|Dd aB<|Dd (mD aC)<|Dd (by exact bS.eqv (dB rfl rfl rfl) (t1 (by rw [hz];omega)))<|Dd aB<|On aB<|On aB<|On (by exact bA rfl rfl rfl e20)<|On (by exact bS.eqv (dB rfl rfl rfl) (t1 (by omega)))<|Dd cX<|Dd aB<|On aB<|On aB<|On (by exact dC rfl aC rfl rfl (by omega) (by exact aIC _) (by rw [hz];omega) rfl)<|On (by exact bS.eqv (gB rfl rfl rfl) (n0 hb58))<|Dd cX<|Zz ?_;refine Cn ?_ ?_<;>intro hc2
      ·cases hc2
      refine aV ?_;exact⟨c,⟨hc7,hcl,hno,.inl (by rw [hb,h58])⟩,(cC.wk (Eb<|Ea<|Eb<|Eb<|trivial) (Hc (dK _ _)<|trivial) trivial)⟩
     refine Sq<|Sr<|Dd aB<|Dd aB<|Dd (mD aC)<|Dd (by exact bS.eqv (dB rfl rfl rfl) (t1 (by rw [hz];omega)))<|Dd aB<|On aB<|On aB<|On (by exact bA rfl rfl rfl e20)<|On (by exact bS.eqv (dB rfl rfl rfl) (t0 (by omega)))<|Dd cX<|Dd aB<|Fo<|Fo<|Fo<|Fo<|Dd cX<|Zz ?_;refine Cn ?_ ?_<;>intro hc3
     ·cases hc3
     refine aV ?_;exact⟨c,⟨hc7,hcl,hno,.inl (by rw [hb,h58])⟩,(cC.wk (Eb<|Ea<|Eb<|Eb<|trivial) (Hc (dK _ _)<|trivial) trivial)⟩
    have hb58:¬ eV (ofL l) (p+c)=58:=fun e=>h58 (by
     rw [hbl] at e;exact UInt8.toNat_inj.1 (by show b.toNat=58;omega))
    by_cases c7:c < 7
    ·refine Sq<|Sr<|Dd aB<|Dd aB<|Dd (mD aC)<|Dd (by exact bS.eqv (dB rfl rfl rfl) (t1 (by rw [hz];omega)))<|Dd aB<|On aB<|On aB<|On (by exact bA rfl rfl rfl e20)<|On (by exact bS.eqv (dB rfl rfl rfl) (t1 (by omega)))<|Dd cX<|Dd aB<|On aB<|On aB<|On (by exact dC rfl aC rfl rfl (by omega) (by exact aIC _) (by rw [hz];omega) rfl)<|On (by exact bS.eqv (gB rfl rfl rfl) (n1 hb58))<|Dd cX<|Zz ?_;refine Cn ?_ ?_<;>intro hc4
     ·refine aF<|aJ<|Rg<|Dd aB<|Dd (by exact bA rfl rfl rfl (show IntKind.i64.wrap (((p+c:Nat):Int)+1)=((p+(c+1):Nat):Int)by rw [eS (by omega) (by omega)];omega))<|Da ?_;refine⟨c+1,⟨by omega,by omega,fun x hx=>?_⟩,by omega,(cC.wk (Eb<|Ea<|Eb<|Eb<|trivial) (Hc (dK _ _)<|trivial) trivial)⟩;rw [bW hb] at hx;rcases List.mem_append.1 hx with hx|hx
      ·exact hno x hx
      rw [aHu.1 hx];exact h58
     cases hc4
    refine Sq<|Sr<|Dd aB<|Dd aB<|Dd (mD aC)<|Dd (by exact bS.eqv (dB rfl rfl rfl) (t1 (by rw [hz];omega)))<|Dd aB<|On aB<|On aB<|On (by exact bA rfl rfl rfl e20)<|On (by exact bS.eqv (dB rfl rfl rfl) (t0 (by omega)))<|Dd cX<|Dd aB<|Fo<|Fo<|Fo<|Fo<|Dd cX<|Zz ?_;refine Cn ?_ ?_<;>intro hc5
    ·cases hc5
    refine aV ?_;exact⟨c,⟨hc7,hcl,hno,.inr (.inl (by omega))⟩,(cC.wk (Eb<|Ea<|Eb<|Eb<|trivial) (Hc (dK _ _)<|trivial) trivial)⟩
   refine Sq<|Sr<|Dd aB<|Dd aB<|Dd (mD aC)<|Dd (by exact bS.eqv (dB rfl rfl rfl) (t0 (by rw [hz];omega)))<|Dd aB<|Fo<|Fo<|Fo<|Fo<|Dd cX<|Dd aB<|Fo<|Fo<|Fo<|Fo<|Dd cX<|Zz ?_;refine Cn ?_ ?_<;>intro hc6
   ·cases hc6
   refine aV ?_;exact⟨c,⟨hc7,hcl,hno,.inr (.inr (by omega))⟩,(cC.wk (Eb<|Ea<|Eb<|Eb<|trivial) (Hc (dK _ _)<|trivial) trivial)⟩
  rintro c ⟨hc7,hcl,hno,hex⟩;have hfail:nY R=true→cS l=([],false):=fun h=>by rw [← hJ,FI hR0 h]
  by_cases hend:p+c < l.length
  ·obtain ⟨b,hb⟩:=aY (l:=R) (k:=c) (by omega);have hbl:=hby (p+c) b ((hRg c).symm.trans hb);by_cases h58:b=58
   ·have hb58:eV (ofL l) (p+c)=58:=by rw [hbl,h58];rfl
    rw [h58] at hb;obtain ⟨k1,k2,k3⟩:=aDz hno hb;have hx44:(ofL l).extract p (p+c)=ofL (R.take c):=gE (by rw [dS,bB,bB,hR,show p+c - p=c by omega]);have hnum:=fun H=>xJ (ofL (R.take c)) (by rw [bO,aIF];omega) H;rw [bB] at hnum;have hRR:(tW R).length=l.length - (p+c) - 1:=by rw [k2,aIG,hRl];omega
    have w62:IntKind.i64.wrap (((ofL l).size:Int) - ((p+c:Nat):Int))=((l.length - (p+c):Nat):Int):=by rw [hz,eS (by omega) (by omega)];omega
    have w63:IntKind.i64.wrap (((l.length - (p+c):Nat):Int) - 1)=((l.length - (p+c) - 1:Nat):Int):=by rw [eS (by omega) (by omega)];omega
    refine Sq<|Sr<|Dd aB<|Dd aB<|Dd (mD aC)<|Dd (by exact bS.eqv (uO rfl rfl rfl) (t0 (by rw [hz];omega)))<|Dd aB<|On aB<|On aB<|On (by exact dC rfl aC rfl rfl (by omega) (by exact aIC _) (by rw [hz];omega) rfl)<|On (by exact bS.eqv (gB rfl rfl rfl) (n0 hb58))<|Dd cX<|Zz ?_;refine Cn ?_ ?_<;>intro hc7
    ·cases hc7
    refine aF<|Sr<|Dd aB<|Dd aB<|Dd aB<|Dd (by exact bQ (l:=p) (h:=p+c) rfl aC rfl rfl rfl (by omega) (by rw [hz];omega) hx44)<|Dd (by exact aA rfl rfl yS rfl (hnum _))<|Dd aR<|Zz<|Sq<|Sq ?_;obtain ⟨X,hX⟩:∃ X,X=yN (R.take c):=⟨_,rfl⟩;rw [← hX];rcases Bool.eq_false_or_eq_true (nY R)with hB|hB
    ·rw [hfail hB];by_cases hX0:X < 0
     ·refine bF follows<|Cq aB<|Cq (by exact bS.eqv (dB rfl rfl rfl) (t1 hX0))<|Cq aB<|Of<|Of<|Of<|Of<|Of<|Of<|Of<|Cq cX<|Cq aB<|Of<|Of<|Of<|Of<|Of<|Of<|Of<|Cq cX<|cA<|Kr ?_;refine Cn ?_ ?_<;>intro hc8
      ·refine Sr<|Dd aR<|Dd aR<|Zz<|aH ?_;refine fF (H':=[]) (.inr rfl) rfl (aI rfl) (aI rfl) (Fin.wk (r:=.tup [.pv (aX []),bv false]) (by simp) trivial trivial) ?_;exact Qq
      cases hc8
     obtain ⟨n,hn⟩:∃ n:Nat,X=(n:Int):=⟨X.toNat,by omega⟩;have hn7:n < 9223372036854775808:=by
      rw [hX,yN] at hn;cases e:decFrom 0 (R.take c)with
      | none=>rw [e] at hn;cases hn
      | some m =>
       rw [e] at hn;have h1:=HI (l:=R.take c) (a:=0) e;have h2:(R.take c).length≤7:=by rw [aIF];omega
       have h3:10 ^ (R.take c).length≤10 ^ 7:=Nat.pow_le_pow_right (by decide) h2;have h4:(10:Nat) ^ 7=10000000:=by decide
       have:(m:Int)=(n:Int):=hn;omega
     have hdec:=fun H=>tG n hn7 H;rw [← hn] at hdec;by_cases hD:ofL (decDigits n)=ofL (R.take c)
     ·have hDl:decDigits n=R.take c:=by
       have:=congrArg (fun s:ByteArray=>s.data.toList) hD
       simpa only [bB] using this
      have hbig:((l.length - (p+c) - 1:Nat):Int) < X:=by
       by_cases hle:n≤(tW R).length
       ·have:=(aB1 (l:=R) (v:=n) k3 (k1.trans hDl.symm) hle (by omega)).1;rw [hB] at this;cases this
       omega
      refine bF follows<|Cq aB<|Cq (by exact bS.eqv (dB rfl rfl rfl) (t0 hX0))<|Cq aB<|Nf aB<|Nf (by exact aA rfl rfl sT rfl (hdec _))<|Nf aB<|Nf aB<|Nf aB<|Nf (by exact bQ (l:=p) (h:=p+c) rfl aC rfl rfl rfl (by omega) (by rw [hz];omega) hx44)<|Nf (by exact bS.eqv (iW rfl rfl rfl) (n0 hD))<|Cq cX<|Cq aB<|Nf aB<|Nf aB<|Nf (mD aC)<|Nf aB<|Nf (by exact dG rfl rfl rfl w62)<|Nf (by exact dG rfl rfl rfl w63)<|Nf (by exact bS.eqv (eF rfl rfl rfl) (t1 hbig))<|Cq cX<|cA<|Kr ?_;refine Cn ?_ ?_<;>intro hc9
      ·refine Sr<|Dd aR<|Dd aR<|Zz<|aH ?_;refine fF (H':=[]) (.inr rfl) rfl (aI rfl) (aI rfl) (Fin.wk (r:=.tup [.pv (aX []),bv false]) (by simp) trivial trivial) ?_;exact Qq
      cases hc9
     refine bF follows<|Cq aB<|Cq (by exact bS.eqv (dB rfl rfl rfl) (t0 hX0))<|Cq aB<|Nf aB<|Nf (by exact aA rfl rfl sT rfl (hdec _))<|Nf aB<|Nf aB<|Nf aB<|Nf (by exact bQ (l:=p) (h:=p+c) rfl aC rfl rfl rfl (by omega) (by rw [hz];omega) hx44)<|Nf (by exact bS.eqv (iW rfl rfl rfl) (n1 hD))<|Cq cX<|Cq aB<|Of<|Of<|Of<|Of<|Of<|Of<|Of<|Cq cX<|cA<|Kr ?_;refine Cn ?_ ?_<;>intro hc10
     ·refine Sr<|Dd aR<|Dd aR<|Zz<|aH ?_;refine fF (H':=[]) (.inr rfl) rfl (aI rfl) (aI rfl) (Fin.wk (r:=.tup [.pv (aX []),bv false]) (by simp) trivial trivial) ?_;exact Qq
     cases hc10
    obtain ⟨_,v,hv1,hv2⟩:=aE4 hB;have hXv:X=(v:Int):=by rw [hX,← k1,hv1,aAp]
    have hel:=(aB1 (l:=R) (v:=v) k3 hv1 hv2 (by omega)).2;have hstep:=vY (acc:=A) hR0 hB;rw [hJ,hel] at hstep;have hdec:=fun H=>tG v (by omega) H;have hD:ofL (decDigits v)=ofL (R.take c):=by rw [← hv1,k1]
    have hx74:(ofL l).extract (p+c+1) (p+c+1+v)=ofL ((tW R).take v):=gE (by rw [dS,bB,bB,k2,hR,List.drop_drop,show p+c+1+v - (p+c+1)=v by omega,show p+(c+1)=p+c+1 by omega]);have hdr:l.drop (p+c+1+v)=(tW R).drop v:=by rw [k2,hR,List.drop_drop,List.drop_drop,show p+(c+1+v)=p+c+1+v by omega]
    have hnl:(A++[ofL ((tW R).take v)]).length=A.length+1:=by rw [aHs];rfl
    clear hX;subst hXv;refine bF follows<|Cq aB<|Cq (by exact bS.eqv (dB rfl rfl rfl) (t0 (by omega)))<|Cq aB<|Nf aB<|Nf (by exact aA rfl rfl sT rfl (hdec _))<|Nf aB<|Nf aB<|Nf aB<|Nf (by exact bQ (l:=p) (h:=p+c) rfl aC rfl rfl rfl (by omega) (by rw [hz];omega) hx44)<|Nf (by exact bS.eqv (iW rfl rfl rfl) (n0 hD))<|Cq cX<|Cq aB<|Nf aB<|Nf aB<|Nf (mD aC)<|Nf aB<|Nf (by exact dG rfl rfl rfl w62)<|Nf (by exact dG rfl rfl rfl w63)<|Nf (by exact bS.eqv (eF rfl rfl rfl) (t0 (by omega)))<|Cq cX<|cA<|Kr ?_;refine Cn ?_ ?_<;>intro hc11
    ·cases hc11
    refine aF<|Sr<|Dd aB<|Dd aB<|Dd aB<|Dd (by exact bA rfl rfl rfl (show IntKind.i64.wrap (((p+c:Nat):Int)+1)=((p+c+1:Nat):Int)by rw [eS (by omega) (by omega)];omega))<|Dd aB<|Dd (by exact bA rfl rfl rfl (show IntKind.i64.wrap (((p+c:Nat):Int)+1)=((p+c+1:Nat):Int)by rw [eS (by omega) (by omega)];omega))<|Dd aB<|Dd (by exact bA rfl rfl rfl (show IntKind.i64.wrap (((p+c+1:Nat):Int)+(v:Int))=((p+c+1+v:Nat):Int)by rw [eS (by omega) (by omega)];omega))<|Dd (by exact bQ (l:=p+c+1) (h:=p+c+1+v) rfl aC rfl rfl rfl (by omega) (by rw [hz];omega) hx74)<|Dd (by exact bD [[.str (ofL ((tW R).take v))]] rfl cD rfl rfl rfl rfl rfl (by intro r hr;rw [aHu] at hr;subst hr;rfl))<|Dd (by exact dV (ps:=[[.str (ofL ((tW R).take v))]]) rfl cD IB rfl rfl rfl rfl rfl (eX _) rfl (by intro r hr;rw [aHu] at hr;subst hr;rfl) (m:=1) rfl (by omega) rfl (oA _ (ofL ((tW R).take v)))) ?_;refine Dd aR<|Zz<|Rg<|Dd aB<|Dd (by exact bA rfl rfl rfl (show IntKind.i64.wrap (((p+c:Nat):Int)+1)=((p+c+1:Nat):Int)by rw [eS (by omega) (by omega)];omega))<|Dd aB<|Dd (by exact bA rfl rfl rfl (show IntKind.i64.wrap (((p+c+1:Nat):Int)+(v:Int))=((p+c+1+v:Nat):Int)by rw [eS (by omega) (by omega)];omega))<|Da ?_;refine⟨p+c+1+v,A++[ofL ((tW R).take v)],⟨by omega,by omega,by rw [hdr];exact hstep.symm⟩,by omega,?_⟩;dsimp only;rw [hnl];exact(cC.wk (Eb<|Ea<|Eb<|trivial) (Hc (dK _ _)<|trivial) trivial)
   have hb58:¬ eV (ofL l) (p+c)=58:=fun e=>h58 (by
    rw [hbl] at e;exact UInt8.toNat_inj.1 (by show b.toNat=58;omega))
   have hc7':c=7:=by
    rcases hex with e|e|e
    ·rw [hb] at e;exact absurd (Option.some.inj e) h58
    ·exact e
    omega
   rw [hfail (VP (c:=c) (by omega) hno (.inl hc7') (by omega) (by rw [hb];exact fun e=>h58 (Option.some.inj e)))];refine Sq<|Sr<|Dd aB<|Dd aB<|Dd (mD aC)<|Dd (by exact bS.eqv (uO rfl rfl rfl) (t0 (by rw [hz];omega)))<|Dd aB<|On aB<|On aB<|On (by exact dC rfl aC rfl rfl (by omega) (by exact aIC _) (by rw [hz];omega) rfl)<|On (by exact bS.eqv (gB rfl rfl rfl) (n1 hb58))<|Dd cX<|Zz ?_;refine Cn ?_ ?_<;>intro hc12
   ·refine Sr<|Dd aR<|Dd aR<|Zz<|aH ?_;refine fF (H':=[]) (.inr rfl) rfl (aI rfl) (aI rfl) (Fin.wk (r:=.tup [.pv (aX []),bv false]) (by simp) trivial trivial) ?_;exact Qq
   cases hc12
  rw [hfail (VP (c:=c) (by omega) hno (.inr (by omega)) (by omega) (by rw [List.getElem?_eq_none (by omega)];exact fun e=>by cases e))];refine Sq<|Sr<|Dd aB<|Dd aB<|Dd (mD aC)<|Dd (by exact bS.eqv (uO rfl rfl rfl) (t1 (by rw [hz];omega)))<|Dd aB<|Fo<|Fo<|Fo<|Fo<|Dd cX<|Zz ?_;refine Cn ?_ ?_<;>intro hc13
  ·refine Sr<|Dd aR<|Dd aR<|Zz<|aH ?_;refine fF (H':=[]) (.inr rfl) rfl (aI rfl) (aI rfl) (Fin.wk (r:=.tup [.pv (aX []),bv false]) (by simp) trivial trivial) ?_;exact Qq
  cases hc13
 have hge:p=l.length:=by have:=aHo hc1;rw [hz] at this;omega
 have hfin:cS l=(A,true):=by
  rw [← hJ,hge,List.drop_length];rfl
 rw [hfin];refine aV<|Sr<|Dd aB<|Dd aR<|Dd aR<|Zz<|aH ?_;refine fF (H':=[]) (.inr rfl) rfl (aI rfl) (aI rfl) (Fin.st2 A (bv true) rfl rfl rfl rfl (by simp)) ?_;exact Qq
def mX (L:List (ByteArray×ByteArray)):List ByteArray:=L.flatMap fun p=>[p.1,p.2]
theorem BY (L:List (ByteArray×ByteArray)):(mX L).length=2*L.length:=by
 induction L with
 | nil=>rfl
 | cons p r ih =>
  rw [mX,List.flatMap_cons,aHs,aHt];have:(List.flatMap (fun p:ByteArray×ByteArray=>[p.1,p.2]) r).length=2*r.length:=ih;rw [this,aHt,aHt,List.length_nil];omega
theorem KO (L:List (ByteArray×ByteArray)) (p:ByteArray×ByteArray):mX (L++[p])=mX L++[p.1,p.2]:=by rw [mX,List.flatMap_append];rfl
def dZ (L:List (ByteArray×ByteArray)) (D:List ByteArray):List ByteArray:=((ofL (decDigits L.length)::mX L)++[ofL (decDigits D.length)])++D
def MA (L:List (ByteArray×ByteArray)) (D:List ByteArray):List UInt8:=aT [ofL (aT (dZ L D))]
theorem L3 (L:List (ByteArray×ByteArray)) (D:List ByteArray) (hL:L.length≤10000) (hD:D.length≤10000) (hs:∀ s∈dZ L D,s.size≤100000000) (hj:(aT (dZ L D)).length≤100000000) (H:aE) :
  aK Tryz.prog 74 [.pv (hU L),.pv (aX D)] H (fun r H'=>r=sv (ofL (MA L D))∧H'=H):=by
 refine Pu ?_;have hml:(L.map encKV).length=L.length:=aHr _;have hmd:(D.map encStr).length=D.length:=aHr _;have hd1:∀ H,aK Tryz.prog 110 [iv ((L.map encKV).length:Int)] H (fun r H'=>r=sv (ofL (decDigits L.length))∧H'=H):=fun H=>by
  rw [hml];exact tG L.length (by omega) H
 have hd2:∀ H,aK Tryz.prog 110 [iv ((D.map encStr).length:Int)] H (fun r H'=>r=sv (ofL (decDigits D.length))∧H'=H):=fun H=>by
  rw [hmd];exact tG D.length (by omega) H
 have hfl:∀ i,i≤L.length→(mX (L.take i)).length=2*i:=fun i hi=>by rw [BY,aIF];omega
 have hW:(dZ L D).length=2*L.length+2+D.length:=by
  rw [dZ];simp only [aHs,aHt,List.length_nil,BY]
 have hj1:=fun H=>CS (dZ L D) (by omega) hs H;have hj2:=fun H=>CS [ofL (aT (dZ L D))] (aIE rfl) (fun s h=>by rw [aHu.1 h,bO];exact hj) H;refine Bd func74 rfl ntmps74<|Sr<|Dd aR<|Zz<|Sr<|Dd aB<|Dd (jY bY)<|Dd (by exact aA rfl rfl sT rfl (hd1 _))<|Dd (by exact fX (id:=905) rfl cD rfl rfl rfl rfl (by simp) rfl)<|Dd aR<|Zz<|Sq<|Sr<|Dd aR<|Zz<|aJ ?_;obtain ⟨w0,hw0⟩:∃ w,w=ofL (decDigits L.length):=⟨_,rfl⟩;obtain ⟨w1,hw1⟩:∃ w,w=ofL (decDigits D.length):=⟨_,rfl⟩;have hRW:dZ L D=((w0::mX L)++[w1])++D:=by rw [hw0,hw1];rfl
 rw [← hw1] at hd2;rw [← hw0];refine bG (σ:=Nat) (fun i=>([(0,.pv (hU L)),(1,.pv (aX D)),(5,.osl 905 i 0 (2*i+1)),(6,iv (i:Int))],[(905,⟨i,1,9,eA (w0::mX (L.take i))⟩)])) (fun i=>i≤L.length) (fun i=>L.length - i) 0 (aII _) ?_ ?_
 ·exact(cC.wk (Eb<|Eb<|Ea<|Eb<|trivial) (Hc (dK _ _)<|trivial) trivial)
 intro i hi;have hfi:=hfl i hi;have hrl:(w0::mX (L.take i)).length=2*i+1:=by rw [aHt,hfi]
 refine Sq<|Sr<|Dd aB<|Dd aB<|Dd (jY bY)<|Dd cP<|Zz ?_;refine Cn ?_ ?_<;>intro hc1
 ·have hlt:i < L.length:=by have:=aHn hc1;omega
  obtain ⟨p,hp⟩:=aY hlt;have hip:=cV (f:=encKV) hp;have hnx:w0::mX (L.take (i+1))=(w0::mX (L.take i))++[p.1,p.2]:=by rw [bW hp,KO];rfl
  refine aF<|Sq<|aJ<|bF follows<|Cr [905] (fun _ _=>aB)<|Cr [] (fun _ _=>aB)<|Cr [] (fun _ _=>aB)<|Cr [] (fun H1 hH=>by exact aZ rfl gF rfl rfl (by omega) (by exact aIC _) hip rfl)<|Cr [] (fun H1 hH=>by exact bC rfl aW sizeOf9 rfl rfl (by omega) (by exact aIC _) (by decide) rfl)<|Cr [] (fun _ _=>(gW aQ))<|Cr [] (fun _ _=>aB)<|Cr [] (fun _ _=>aB)<|Cr [] (fun H1 hH=>by exact aZ rfl gF rfl rfl (by omega) (by exact aIC _) hip rfl)<|Cr [] (fun H1 hH=>by exact bC rfl aW sizeOf9 rfl rfl (by omega) (by exact aIC _) (by decide) rfl)<|Cr [] (fun _ _=>(gW aQ))<|Cr [] (fun H1 hH=>by exact bD [[.str p.1],[.str p.2]] rfl cD rfl rfl rfl rfl rfl (oO p.1 p.2))<|Cp [905] (fun H1 hH=>by exact dV (k:=2*(i+1)+1) (ps:=[[.str p.1],[.str p.2]]) rfl cD IB rfl ((hH _ rfl).trans rfl) rfl rfl rfl ((eX _).trans hrl) rfl (oO _ _) (m:=2) rfl (by omega) (by omega) (jK _ [p.1,p.2])) ?_;refine Cr [905] (fun _ _=>aR)<|cA<|Kr<|Rg<|Dd aB<|Dd (by exact bA rfl rfl rfl (show IntKind.i64.wrap ((i:Int)+1)=((i+1:Nat):Int)by rw [eS (by omega) (by omega)];omega))<|Da ?_;refine⟨i+1,by omega,by omega,?_⟩;rw [hnx];exact(cC.wk (Eb<|Eb<|Ea<|Eb<|trivial) (Hc (dK _ _)<|trivial) trivial)
 have hge:i=L.length:=by have:=aHo hc1;omega
 subst hge;rw [List.take_length] at hrl ⊢;have h2:(eA ((w0::mX L)++[w1])).length=2*L.length+2:=by rw [eX,aHs,hrl];rfl
 refine aV<|Sr<|Dd aB<|Dd aB<|Dd (jY aO)<|Dd (by exact aA rfl rfl sT rfl (hd2 _))<|Dd (by exact bD [[.str w1]] rfl cD rfl rfl rfl rfl rfl (by simp))<|Dd (by exact dV (k:=2*L.length+2) (ps:=[[.str w1]]) rfl cD IB rfl rfl rfl rfl rfl ((eX _).trans hrl) rfl (by simp) (m:=1) rfl (by omega) (by omega) (jK _ [w1]))<|Dd aR<|Zz<|Sr<|Dd aB<|Dd aB<|Dd (by exact dV (k:=2*L.length+2+D.length) (ps:=D.map encStr) rfl cD IB rfl rfl rfl rfl rfl h2 rfl (kF _) (m:=D.length) hmd (by omega) (by omega) (zF _ D))<|Dd aR<|Zz<|Sr<|Dm ?_;have hWn:2*L.length+2+D.length=(dZ L D).length:=hW.symm;refine rG (cC.fz (id:=905) (E':=[(39,.pv (aX (dZ L D)))]) (H':=[]) ((dZ L D).map encStr) rfl (by rw [hRW];exact kV _) (by
  intro p hp;rw [aHu] at hp;subst hp;exact⟨_,rfl,.osl (by rw [hWn];exact gZ encStr (dZ L D))⟩) rfl trivial trivial) ?_
 exact Dd (by exact aA rfl rfl ZB rfl (hj1 _))<|Dd (by exact bD [[.str (ofL (aT (dZ L D)))]] rfl cD rfl rfl rfl rfl rfl (by simp))<|Dd (by exact aA rfl rfl ZB rfl (hj2 _))<|Dd aR<|Zz<|aH<|Rt<|Qq
def rY (L:List (ByteArray×ByteArray)):List (List AV):=(L.map encKV).map (·.map AV.pv)
theorem qH (L:List (ByteArray×ByteArray)):(rY L).length=L.length:=by rw [rY,aHr,aHr]
theorem qI (A B:List (ByteArray×ByteArray)):rY A++(B.map encKV).map (·.map AV.pv)=rY (A++B):=by rw [rY,rY,List.map_append,List.map_append]
theorem Fin.stKV {H1:aE} {id g n:Nat} {ob:Ob} (l:List (ByteArray×ByteArray)) (hH:H1.get id=some ob) (hg:ob.g=g) (hps:ob.rows=rY l) (hn:n=l.length):Fin [] H1 (.osl id g 0 n) [] (.pv (hU l)):=by subst hg hn;exact Fin.fz (id:=id) (ob:=ob) (l.map encKV) hH hps (.osl (gZ encKV l)) rfl trivial trivial
def yV (L:List (ByteArray×ByteArray)) (key:ByteArray):List (ByteArray×ByteArray):=match L[CE L key]? with
 | some p=>if p.1=key then L.drop (CE L key+1)else L.drop (CE L key)
 | none=>L.drop (CE L key)
def tI (L:List (ByteArray×ByteArray)) (key value:ByteArray):List (ByteArray×ByteArray):=(L.take (CE L key)++[(key,value)])++yV L key
theorem aCE (L:List (ByteArray×ByteArray)) (key:ByteArray):CE L key≤L.length:=(List.takeWhile_sublist _).length_le
theorem L5 (L:List (ByteArray×ByteArray)) (key value:ByteArray) (hL:L.length < 1000000) (H:aE):aK Tryz.prog 71 [.pv (hU L),sv key,sv value] H (fun r H'=>r=.pv (hU (tI L key value))∧H'=H):=by
 refine Pu ?_;have hml:(L.map encKV).length=L.length:=aHr _;have t1:∀ {p:Prop} [Decidable p],p→AV.pv (.bool (decide p))=bv true:=fun h=>by rw [decide_eq_true h]
 have t0:∀ {p:Prop} [Decidable p],¬ p→AV.pv (.bool (decide p))=bv false:=fun h=>by rw [decide_eq_false h]
 have hat:=fun H=>aA1 L key H (by omega);have hle:=aCE L key;have hP:tI L key value=(L.take (CE L key)++[(key,value)])++yV L key:=rfl;have hRk:yV L key=match L[CE L key]? with
  | some p=>if p.1=key then L.drop (CE L key+1)else L.drop (CE L key)
  | none=>L.drop (CE L key):=rfl
 obtain ⟨k,hk⟩:∃ k,k=CE L key:=⟨_,rfl⟩;rw [← hk] at hat hle hP hRk;have hd:(L.map encKV).drop k=(L.drop k).map encKV:=List.map_drop.symm;have ht:(L.map encKV).take k=(L.take k).map encKV:=List.map_take.symm;refine Bd func71 rfl ntmps71<|Sr<|Dd aR<|Zz<|Sr<|Dd aB<|Dd aB<|Dd (by exact aA rfl rfl sS rfl (hat _))<|Dd aR<|Zz<|Sr<|Dd aB<|Dd aB<|Dd (by exact fW (l:=k) (h:=(L.map encKV).length) (rows':=(L.drop k).map encKV) rfl gF rfl (kT L) rfl rfl (by omega) (aHx _) (by rw [List.take_length,List.map_drop]))<|Da ?_;refine fZ (fun(_:Unit)=>([(0,.pv (hU L)),(1,sv key),(2,sv value),(7,iv (k:Int)),(8,.pv (hU (yV L key)))],[])) (fun _=>True) ?_ ?_
 ·by_cases hlt:k < L.length
  ·obtain ⟨p,hp⟩:=aY hlt;have hip:=cV (f:=encKV) hp;rw [hp] at hRk;have e19:=t1 (show (k:Int) < ((L.map encKV).length:Int)by omega);by_cases he:p.1=key
   ·have hR:yV L key=L.drop (k+1):=by rw [hRk];exact aHq he
    rw [hR];refine Sr<|Dd aB<|Dd aB<|Dd (jY bY)<|Dd (by exact bS.eqv (dB rfl rfl rfl) e19)<|Dd aB<|On aB<|On aB<|On (by exact aZ rfl gF rfl rfl (by omega) (by exact aIC _) hip rfl)<|On (by exact bC rfl aW sizeOf9 rfl rfl (by omega) (by exact aIC _) (by decide) rfl)<|On (gW aQ)<|On aB<|On (by exact bS.eqv (oV rfl rfl rfl) (t1 he))<|Dd cX<|Zz ?_;refine Cn ?_ ?_<;>intro hc1
    ·refine Rg<|Dd aB<|Dd aB<|Dd (by exact bA rfl rfl rfl (show IntKind.i64.wrap ((k:Int)+1)=((k+1:Nat):Int)by rw [eS (by omega) (by omega)];omega))<|Dd (by exact fW (l:=k+1) (h:=(L.map encKV).length) (rows':=(L.drop (k+1)).map encKV) rfl gF rfl (kT L) rfl rfl (by omega) (aHx _) (by rw [List.take_length,List.map_drop]))<|Da ?_;exact⟨(),trivial,Wk⟩
    cases hc1
   have hR:yV L key=L.drop k:=by rw [hRk];exact aHp he
   rw [hR];refine Sr<|Dd aB<|Dd aB<|Dd (jY bY)<|Dd (by exact bS.eqv (dB rfl rfl rfl) e19)<|Dd aB<|On aB<|On aB<|On (by exact aZ rfl gF rfl rfl (by omega) (by exact aIC _) hip rfl)<|On (by exact bC rfl aW sizeOf9 rfl rfl (by omega) (by exact aIC _) (by decide) rfl)<|On (gW aQ)<|On aB<|On (by exact bS.eqv (oV rfl rfl rfl) (t0 he))<|Dd cX<|Zz ?_;refine Cn ?_ ?_<;>intro hc2
   ·cases hc2
   refine aF ?_;exact⟨(),trivial,Wk⟩
  have hR:yV L key=L.drop k:=by rw [hRk,List.getElem?_eq_none (by omega)]
  rw [hR];refine Sr<|Dd aB<|Dd aB<|Dd (jY bY)<|Dd (by exact bS.eqv (dB rfl rfl rfl) (t0 (show ¬ (k:Int) < ((L.map encKV).length:Int)by omega)))<|Dd aB<|Fo<|Fo<|Fo<|Fo<|Fo<|Fo<|Fo<|Dd cX<|Zz ?_;refine Cn ?_ ?_<;>intro hc3
  ·cases hc3
  refine aF ?_;exact⟨(),trivial,Wk⟩
 rintro _ _;have h37:(rY (L.take k)).length=k:=by rw [qH,aIF];omega
 have h43:(rY (L.take k++[(key,value)])).length=k+1:=by rw [qH,aHs,aIF];show min k L.length+1=k+1;omega
 obtain ⟨R,hR⟩:∃ R,R=yV L key:=⟨_,rfl⟩;have hRl:R.length≤L.length:=by
  rw [hR,hRk]
  split
  ·split<;>(rw [aIG];omega)
  rw [aIG];omega
 rw [hP];rw [← hR];clear hRk hP hR;refine Sr<|Dd (by exact fX (id:=905) rfl gF rfl rfl rfl rfl (show ∀ r∈rY [],r.length=2 from by intro r hr;cases hr) rfl)<|Dd aB<|Dd aB<|Dd (by exact fW (l:=0) (h:=k) (rows':=(L.take k).map encKV) rfl gF rfl (kT L) rfl rfl (aII _) (by omega) (by rw [List.drop_zero,List.map_take]))<|Dd (by exact dV (k:=k) (ps:=(L.take k).map encKV) rfl gF X7 rfl rfl rfl rfl rfl rfl rfl (kT _) (m:=(L.take k).length) (aHr _) (by rw [aIF];omega) (by rw [aIF];omega) (qI [] _))<|Dd aR<|Zz<|Sr<|Dd aB<|Dd aB<|Dd aB<|Dd (by exact DR rfl aGY rfl rfl)<|Dd (by exact bD [[.str key,.str value]] rfl gF rfl rfl rfl rfl rfl (by simp))<|Dd (by exact dV (k:=k+1) (ps:=[(key,value)].map encKV) rfl gF X7 rfl rfl rfl rfl rfl h37 rfl (kT _) (m:=1) rfl (by omega) rfl (qI (L.take k) [(key,value)])) ?_;refine Dd aR<|Zz<|Sr<|Dd aB<|Dd aB<|Dd (by exact dV (k:=k+1+R.length) (ps:=R.map encKV) rfl gF X7 rfl rfl rfl rfl rfl h43 rfl (kT _) (m:=R.length) (aHr _) (by omega) rfl (qI (L.take k++[(key,value)]) R))<|Dd aR<|Zz<|aH ?_;refine bI (H':=[]) (.inr rfl) rfl (aI rfl) (Fin.stKV (L.take k++[(key,value)]++R) rfl rfl rfl (by rw [aHs,← qH (L.take k++[(key,value)]),h43])) ?_;exact Qq
def nZ (L:List (ByteArray×ByteArray)) (key:ByteArray):List (ByteArray×ByteArray):=match L[CE L key]? with
 | some p=>if p.1=key then L.take (CE L key)++L.drop (CE L key+1)else L
 | none=>L
theorem UJ (L:List (ByteArray×ByteArray)) (key:ByteArray) (hL:L.length < 1000000) (H:aE):aK Tryz.prog 77 [.pv (hU L),sv key] H (fun r H'=>r=.pv (hU (nZ L key))∧H'=H):=by
 refine Pu ?_;have hml:(L.map encKV).length=L.length:=aHr _;have t1:∀ {p:Prop} [Decidable p],p→AV.pv (.bool (decide p))=bv true:=fun h=>by rw [decide_eq_true h]
 have t0:∀ {p:Prop} [Decidable p],¬ p→AV.pv (.bool (decide p))=bv false:=fun h=>by rw [decide_eq_false h]
 have n1:∀ {p:Prop} [Decidable p],¬ p→AV.pv (.bool (!decide p))=bv true:=fun h=>by rw [decide_eq_false h];rfl
 have n0:∀ {p:Prop} [Decidable p],p→AV.pv (.bool (!decide p))=bv false:=fun h=>by rw [decide_eq_true h];rfl
 have hat:=fun H=>aA1 L key H (by omega);have hle:=aCE L key;have hP:nZ L key=match L[CE L key]? with
  | some p=>if p.1=key then L.take (CE L key)++L.drop (CE L key+1)else L
  | none=>L:=rfl
 obtain ⟨k,hk⟩:∃ k,k=CE L key:=⟨_,rfl⟩;rw [← hk] at hat hle hP;clear hk;refine Bd func77 rfl ntmps77 ?_;by_cases hlt:k < L.length
 ·obtain ⟨p,hp⟩:=aY hlt;have hip:=cV (f:=encKV) hp;rw [hp] at hP;have e12:=t0 (show ¬ (k:Int)=((L.map encKV).length:Int)by omega);by_cases he:p.1=key
  ·have hR:nZ L key=L.take k++L.drop (k+1):=by rw [hP];exact aHq he
   rw [hR];have h27:(rY (L.take k)).length=k:=by rw [qH,aIF];omega
   refine Sr<|Dd aR<|Zz<|Sr<|Dd aB<|Dd aB<|Dd (by exact aA rfl rfl sS rfl (hat _))<|Dd aR<|Zz<|Sq<|Sr<|Dd aB<|Dd aB<|Dd (jY bY)<|Dd (by exact bS.eqv (rV rfl rfl rfl) e12)<|Dd aB<|On aB<|On aB<|On (by exact aZ rfl gF rfl rfl (by omega) (by exact aIC _) hip rfl)<|On (by exact bC rfl aW sizeOf9 rfl rfl (by omega) (by exact aIC _) (by decide) rfl)<|On (gW aQ)<|On aB<|On (by exact bS.eqv (iW rfl rfl rfl) (n0 he))<|Dd cX<|Zz ?_;refine Cn ?_ ?_<;>intro hc1
   ·cases hc1
   refine aF<|Sq ?_;refine mH 9 follows (aIE rfl) ?_;refine Cp [905] (fun H1 hH=>by exact fX (id:=905) rfl gF rfl rfl rfl rfl (show ∀ r∈rY [],r.length=2 from by intro r hr;cases hr) ((hH _ rfl).trans rfl))<|Cr [] (fun _ _=>aB)<|Cr [] (fun _ _=>aB)<|Cr [] (fun H1 hH=>by exact fW (l:=0) (h:=k) (rows':=(L.take k).map encKV) rfl gF rfl (kT L) rfl rfl (aII _) (by omega) (by rw [List.drop_zero,List.map_take]))<|Cp [905] (fun H1 hH=>by exact dV (k:=k) (ps:=(L.take k).map encKV) rfl gF X7 rfl ((hH _ rfl).trans rfl) rfl rfl rfl rfl rfl (kT _) (m:=(L.take k).length) (aHr _) (by rw [aIF];omega) (by rw [aIF];omega) (qI [] _))<|Cr [] (fun _ _=>aB)<|Cr [] (fun _ _=>aB)<|Cr [] (fun H1 hH=>by exact bA rfl rfl rfl (show IntKind.i64.wrap ((k:Int)+1)=((k+1:Nat):Int)by rw [eS (by omega) (by omega)];omega)) ?_;refine Cr [] (fun H1 hH=>by exact fW (l:=k+1) (h:=(L.map encKV).length) (rows':=(L.drop (k+1)).map encKV) rfl gF rfl (kT L) rfl rfl (by omega) (aHx _) (by rw [List.take_length,List.map_drop]))<|cA<|Kr<|Dd (by exact dV (k:=k+(L.drop (k+1)).length) (ps:=(L.drop (k+1)).map encKV) rfl gF X7 rfl rfl rfl rfl rfl h27 rfl (kT _) (m:=(L.drop (k+1)).length) (aHr _) (by rw [aIG];omega) rfl (qI (L.take k) (L.drop (k+1))))<|Dd aR<|Zz<|aH ?_;refine bI (H':=[]) (.inr rfl) rfl (aI rfl) (Fin.stKV (L.take k++L.drop (k+1)) rfl rfl rfl (by rw [aHs,← qH (L.take k),h27])) ?_;exact Qq
  have hR:nZ L key=L:=by rw [hP];exact aHp he
  rw [hR];refine Sr<|Dd aR<|Zz<|Sr<|Dd aB<|Dd aB<|Dd (by exact aA rfl rfl sS rfl (hat _))<|Dd aR<|Zz<|Sq<|Sr<|Dd aB<|Dd aB<|Dd (jY bY)<|Dd (by exact bS.eqv (rV rfl rfl rfl) e12)<|Dd aB<|On aB<|On aB<|On (by exact aZ rfl gF rfl rfl (by omega) (by exact aIC _) hip rfl)<|On (by exact bC rfl aW sizeOf9 rfl rfl (by omega) (by exact aIC _) (by decide) rfl)<|On (gW aQ)<|On aB<|On (by exact bS.eqv (iW rfl rfl rfl) (n1 he))<|Dd cX<|Zz ?_;refine Cn ?_ ?_<;>intro hc2
  ·exact Sr<|Dd aB<|Dd aR<|Zz<|aH<|Rt<|Qq
  cases hc2
 have hR:nZ L key=L:=by rw [hP,List.getElem?_eq_none (by omega)]
 rw [hR];refine Sr<|Dd aR<|Zz<|Sr<|Dd aB<|Dd aB<|Dd (by exact aA rfl rfl sS rfl (hat _))<|Dd aR<|Zz<|Sq<|Sr<|Dd aB<|Dd aB<|Dd (jY bY)<|Dd (by exact bS.eqv (rV rfl rfl rfl) (t1 (show (k:Int)=((L.map encKV).length:Int)by omega)))<|Dd aB<|Fo<|Fo<|Fo<|Fo<|Fo<|Fo<|Fo<|Dd cX<|Zz ?_;refine Cn ?_ ?_<;>intro hc3
 ·exact Sr<|Dd aB<|Dd aR<|Zz<|aH<|Rt<|Qq
 cases hc3
end Go.Proofs.YtmkgeogoojcciaaGreatDoor
