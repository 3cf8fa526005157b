/-
  Parts of the proof: rules of an abstract program logic, contracts of functions, plain laws. Conditions: each theorem's own.
-/
import Derived.Test.YtmkgeogoojcciaaGreatDoorKS4M6
set_option linter.unusedVariables false
set_option linter.unusedSimpArgs false
set_option maxRecDepth 100000
set_option maxHeartbeats 8000000
namespace Go.Proofs
theorem uK:type_of% Tryz.call46:=Tryz.call46
theorem Y4:type_of% Tryz.call47:=Tryz.call47
theorem uJ:type_of% Tryz.call50:=Tryz.call50
theorem Y3:type_of% Tryz.call51:=Tryz.call51
theorem Y2:type_of% Tryz.call52:=Tryz.call52
theorem Y1:type_of% Tryz.call53:=Tryz.call53
theorem fY:type_of% Tryz.underlying25:=Tryz.underlying25
end Go.Proofs
namespace Go.Proofs.YtmkgeogoojcciaaGreatDoor
open Go.Proofs.Tryz
open Go.Abs
theorem IS (l:List ByteArray) (q:ByteArray→Bool):(List.range l.length).any (fun k=>((l[k]?).map q).getD false)=l.any q:=by
 rw [Bool.eq_iff_iff,List.any_eq_true,List.any_eq_true];constructor
 ·rintro⟨k,hk,h⟩;have hl:=List.mem_range.1 hk;rw [ZQ hl] at h;exact⟨_,List.getElem_mem hl,h⟩
 rintro⟨s,hs,h⟩;obtain ⟨k,hk⟩:=Z7.1 hs;exact⟨k,List.mem_range.2 (ZP.1 hk).1,by rw [hk];exact h⟩
theorem BZ (fv:AV) (l:List ByteArray) (q:ByteArray→Bool) (H:aA) (hl:l.length < 4611686018427387904) (hf:∀ s,eS Tryz.prog fv [sv s] H (fun r H'=>r=bv (q s)∧H'=H)) :
  aJ Tryz.prog 93 [.pv (aY l),fv] H (fun r H'=>r=bv (l.any q)∧H'=H):=by
 have h:=AR fv l (fun k=>((l[k]?).map q).getD false) (fun _=>H) hl (fun k s hs=>by rw [hs];exact hf s);rw [IS] at h;exact h
def dB (s:ByteArray):Bool:=!decide (s=⟨#[]⟩)&&decide ((s.size:Int)≤200)
theorem JT (s:ByteArray) (H:aA):aJ Tryz.prog 91 [sv s] H (fun r H'=>r=bv (dB s)∧H'=H):=by
 refine Pu ?_;refine Bd func91 rfl ntmps91<|Sr<|Dd aS<|Zz<|Sq ?_;refine dF (t:=2) (n:=9) (X:=dB s) ?_ ?_
 ·all_goals refine Dd aF ?_
  all_goals refine Dd OG<|Dm ?_
  all_goals refine Sp 5 (fun h5=>?_) fun h5=>?_
  all_goals try contradiction
  all_goals first|refine Fo<|Fo<|Fo ?_|refine On aF<|On (wN aH)<|On XV ?_
  all_goals refine Dd dU<|Da ?_
  all_goals(exact⟨⟨_,rfl,by(simp only [dB, *];rfl)⟩,rfl,rfl,rfl⟩)
 exact aN<|Rt<|Qq
def zG (P:List ByteArray) (p:ByteArray×ByteArray×Nat):Bool:=!dB p.1||R0 P p.1
def bigV (p:ByteArray×ByteArray×Nat):Bool:=decide ((20000:Int) < (p.2.1.size:Int))
def bE (l:bT) (P:List ByteArray):Int:=if l.any (zG P)||P.any (fun s=>!dB s)then 1 else if l.any bigV then 2 else 0
def DU (l:bT) (s:List Nat):Bool:=s.any fun i=>((l[i]?).map bigV).getD false
theorem M7 {l:bT} {s:List Nat} {i:Nat} {p:ByteArray×ByteArray×Nat} (h:l[i]?=some p):DU l (s++[i])=(DU l s||bigV p):=by rw [DU,DU,List.any_append,List.any_cons,List.any_nil,Bool.or_false,h];rfl
theorem QX {l:bT} {s:List Nat} (hb:∀ i,i∈s→i < l.length) (ha:∀ i,i < l.length→i∈s):DU l s=l.any bigV:=by
 rw [Bool.eq_iff_iff,DU,List.any_eq_true,List.any_eq_true];constructor
 ·rintro⟨i,hi,h⟩;rw [ZQ (hb i hi)] at h;exact⟨_,List.getElem_mem (hb i hi),h⟩
 rintro⟨p,hp,h⟩;obtain ⟨i,hi⟩:=Z7.1 hp;exact⟨i,ha i (ZP.1 hi).1,by rw [hi];exact h⟩
abbrev WN:Ob:=bx 1 53 [.pv (.fn 91)]
abbrev X6 (l:bT) (c:Nat) (s:List Nat):aA:=[(946,FG 950 l c s),(5,WN),(950,bK l c)]
theorem D5 (s:ByteArray) (H:aA) (h5:H.get 5=some WN):aJ Tryz.prog 94 [sv s,.ref 5 0 0 0] H (fun r H'=>r=bv (!dB s)∧H'=H):=by refine Bd func94 rfl ntmps94<|Sr<|Dd aS<|Zz<|Sr<|Dd (by exact aW rfl isAgg53 rfl h5 rfl rfl rfl)<|Dd aF<|Dd (by exact gM rfl rfl rfl ((eS.fn call91 (JT s H))))<|Dd AJ<|Dd aS<|Zz<|aN ?_;refine bD (H':=H) (.inr rfl) rfl (aI rfl) Fin.refl ?_;exact Qq
theorem SE (l:bT) (c:Nat) (P:List ByteArray) (hst:eA l c) (hl:l.length < 1099511627776) (hP:P.length < 1099511627776) :
  aJ Tryz.prog 46 [.mp 950 0,.pv (aY P)] [(950,bK l c)] (fun r H'=>r=iv (bE l P)∧H'=[(950,bK l c)]):=by
 refine Bd func46 rfl ntmps46<|Sr<|Dd aS<|Zz<|Sr<|Dd (by exact cH (id:=5) rfl WV rfl rfl)<|Uu (qV sizeOf53)<|Zz<|Sr<|Dd aS<|Zz<|Sq<|Sr<|Dd aF<|Dd (by exact DH (q:=946) (κ:=fX) (l:=bQ l) rfl aV rfl rfl rfl rfl rfl rfl)<|Zz<|aP ?_;refine bR (σ:=List Nat) (fun s=>([(0,.mp 950 0),(1,.pv (aY P)),(5,.ref 5 0 0 0),(6,bv (DU l s)),(10,.it 946 0)],X6 l c s)) (fun s=>(s.Nodup∧∀ i,i∈s→i < l.length)∧∀ i,i∈s→∀ p,l[i]?=some p→zG P p=false) (fun s=>l.length - s.length) [] ⟨⟨List.nodup_nil,by simp⟩,by simp⟩ ?_ ?_
 ·exact(cG.wk (Ea<|Eb<|Ea<|Eb<|Ea<|trivial) (Hc (J4 rfl _ _ _)<|Hb<|Hc (aT _ _ _)<|trivial) ⟨rfl,trivial⟩)
 rintro s ⟨⟨hd,hb⟩,hok⟩;have hsl:s.length≤l.length:=kC _ _ hd hb;have hcf:=fun H (h5:H.get 5=some WN)=>BZ (.clo 94 [.ref 5 0 0 0]) P (fun s=>!dB s) H (by omega) (fun s=>eS.clo call94 (D5 s H h5));obtain ⟨ns,hns⟩:∃ b,b=P.any (fun s=>!dB s):=⟨_,rfl⟩;rw [← hns] at hcf;refine Sq<|Rg ?_;refine iM rfl rfl (IB (κ:=fX) (l:=bQ l) rfl rfl rfl rfl rfl rfl rfl rfl rfl (ZR _) (ZR _)) ?_;rintro _ _ (⟨rfl,rfl,hn0⟩|⟨hni,hnp,hn1,hn2,rfl,rfl⟩)
 ·refine Dd eR<|Zz<|Sq ?_;refine Cn ?_ ?_<;>intro hc1
  ·cases hc1
  have hall:∀ i,i < l.length→i∈s:=fun i hi=>by
   have hq:(bQ l)[i]?=some ((l[i]).1,sv (l[i]).2.1,(l[i]).2.2):=by rw [bQ,Z6,ZQ hi];rfl
   have:=hn0 _ (ZW hq);obtain ⟨j,hj,e⟩:=List.mem_map.1 this;have e2:jW l j=jW l i:=by
    rw [e,jW,ZQ hi];rfl
   have:=GY hst (hb j hj) hi e2
   rwa [this] at hj
  have hbig:=QX hb hall;have hnb:l.any (zG P)=false:=by
   rw [Bool.eq_false_iff];intro h;obtain ⟨p,hp,h⟩:=List.any_eq_true.1 h;obtain ⟨i,hi⟩:=Z7.1 hp;rw [hok i (hall i (ZP.1 hi).1) p hi] at h;cases h
  have hV:bE l P=if ns=true then 1 else if l.any bigV=true then 2 else 0:=by rw [bE,hnb,← hns,Bool.false_or]
  rw [hV,hbig];obtain ⟨bg,hbg⟩:∃ b,b=l.any bigV:=⟨_,rfl⟩;rw [← hbg];refine bL<|Sq<|aP<|Sr<|Dd aF<|Dd (by exact eY rfl rfl)<|Dd (by exact aB rfl rfl call93 rfl (hcf _ rfl))<|Da ?_;refine Cn ?_ ?_<;>intro hc2
  ·have hn:ns=true:=hc2;rw [ZK hn];refine Sr<|Dd aS<|Zz<|aN ?_;refine bD (H':=[(950,bK l c)]) (.inr rfl) rfl (aI rfl) (Fin.wk (by(simp;done)) (Hc (aT _ _ _)<|trivial) ⟨rfl,trivial⟩) ?_;exact Qq
  have hn:¬ ns=true:=by rw [show ns=false from hc2];decide
  rw [ZJ hn];refine Sr<|Dd aF<|Da ?_;refine Cn ?_ ?_<;>intro hc3
  ·have hn2:bg=true:=hc3;rw [ZK hn2];refine Sr<|Dd aS<|Zz<|aN ?_;refine bD (H':=[(950,bK l c)]) (.inr rfl) rfl (aI rfl) (Fin.wk (by(simp;done)) (Hc (aT _ _ _)<|trivial) ⟨rfl,trivial⟩) ?_;exact Qq
  have hn2:¬ bg=true:=by rw [show bg=false from hc3];decide
  rw [ZJ hn2];refine aK<|Sr<|Dd aS<|Zz<|aN ?_;refine bD (H':=[(950,bK l c)]) (.inr rfl) rfl (aI rfl) (Fin.wk (by(simp;done)) (Hc (aT _ _ _)<|trivial) ⟨rfl,trivial⟩) ?_;exact Qq
 obtain ⟨p,hp,rfl⟩:=uX hn1;have hlt:hni < l.length:=(ZP.1 hp).1;have hst2:jW l hni=p.2.2:=by rw [jW,hp];rfl
 have hn3:hni∉s:=fun hm=>hn2 (List.mem_map.2 ⟨hni,hm,hst2⟩);have hb2:∀ i,i∈s++[hni]→i < l.length:=fun i hi=>by
  rcases List.mem_append.1 hi with h|h
  ·exact hb i h
  rw [ZO] at h;omega
 have hd2:(s++[hni]).Nodup:=List.nodup_append.2 ⟨hd,by simp,fun a ha b hb e=>by rw [ZO] at hb;subst hb;subst e;exact hn3 ha⟩;have hlen:=kC _ _ hd2 hb2;rw [ZM,List.length_singleton] at hlen;have hit:FG 950 l c (s++[hni])=⟨0,0,0,eG (.mp 950 0) c c (s.map (jW l)++[p.2.2])⟩:=by rw [FG,List.map_append,List.map_cons,List.map_nil,hst2]
 have hin:=fun H=>DR P p.1 H (by omega);have hbg:=M7 (s:=s) hp;refine Dd eR<|Zz<|Sq ?_;refine Cn ?_ ?_<;>intro hc4
 ·refine aK<|aP<|Sr<|Dd (by exact DI (κ:=fX) (seen:=s.map (jW l)) (p:=(p.1,sv p.2.1,p.2.2)) (since:=c) rfl rfl rfl rfl rfl rfl rfl rfl rfl hn1)<|Dd eR<|Dd eR<|Dd aS<|Dd aS<|Zz<|Sq<|Sq ?_;refine gP.ent (E':=[(0,.mp 950 0),(1,.pv (aY P)),(5,.ref 5 0 0 0),(6,bv (DU l s)),(10,.it 946 0),(7,sv p.1),(8,sv p.2.1)]) (H':=X6 l c (s++[hni])) (cG.get' ⟨⟨_,rfl,rfl⟩,⟨_,rfl,rfl⟩,⟨_,rfl,rfl⟩,⟨_,rfl,rfl⟩,⟨_,rfl,rfl⟩,⟨_,rfl,rfl⟩,⟨_,rfl,rfl⟩,trivial⟩ (fun j=>by rw [X6,hit];exact iT 946 _ (FG 950 l c s) [(5,WN),(950,bK l c)] j)) ?_;refine dF (t:=24) (n:=10) (X:=zG P p) ?_ ?_
  ·all_goals refine Dd (eQ isAgg53) ?_
   all_goals refine Dd aF<|Dd (by exact gM rfl rfl rfl ((eS.fn call91 (JT p.1 _))))<|Dd AJ<|Dm ?_
   all_goals refine Sp 20 (fun h20=>?_) fun h20=>?_
   all_goals try contradiction
   all_goals first|refine Fo<|Fo<|Fo ?_|refine On aF<|On aF<|On (by exact aB rfl rfl call92 rfl (hin _)) ?_
   all_goals refine Dd dU<|Zz ?_
   all_goals(exact⟨⟨_,rfl,by(simp only [zG, *];rfl)⟩,rfl,rfl,rfl⟩)
  refine Cn ?_ ?_<;>intro hc5
  ·have hk2:zG P p=true:=hc5;have hV:bE l P=1:=by rw [bE,List.any_eq_true.2 ⟨p,ZW hp,hk2⟩];rfl
   rw [hV];refine Sr<|Dd aS<|Zz<|aN ?_;refine bD (H':=[(950,bK l c)]) (.inr rfl) rfl (aI rfl) (Fin.wk (by(simp;done)) (Hc (aT _ _ _)<|trivial) ⟨rfl,trivial⟩) ?_;exact Qq
  have hk2:zG P p=false:=hc5;refine aK ?_;refine dF (t:=6) (n:=8) (X:=DU l s||bigV p) ?_ ?_
  ·all_goals refine Dd aF ?_
   all_goals refine Dm ?_
   all_goals refine Sp 26 (fun h26=>?_) fun h26=>?_
   all_goals try contradiction
   all_goals first|refine Fo<|Fo<|Fo ?_|refine On aF<|On (wN aH)<|On GI ?_
   all_goals refine Dd dU<|Da ?_
   all_goals(exact⟨⟨_,rfl,by rw [h26];rfl⟩,rfl,rfl,rfl⟩)
  refine⟨s++[hni],⟨⟨hd2,hb2⟩,fun i hi q hq=>?_⟩,by rw [ZM,List.length_singleton];omega,?_⟩
  ·rcases List.mem_append.1 hi with h|h
   ·exact hok i h q hq
   rw [ZO] at h;subst h;rw [hp] at hq;cases hq;exact hk2
  rw [hbg];exact(cG.wk (Ea<|Eb<|Ea<|Eb<|Ea<|trivial) (Hc (J4 rfl _ _ _)<|Hb<|Hc (aT _ _ _)<|trivial) ⟨rfl,trivial⟩)
 cases hc4
abbrev iL (l:List ByteArray):List (List AV):=l.map (fun e=>(encStr e).map .pv)
def raw (e:GEdit) (s:ByteArray):Prop:=s=e.id∨s=e.other∨s=e.node∨s=e.obj.id∨s∈e.refs∨s∈e.obj.refs
abbrev dN (l:List ByteArray):List (List AV):=l.map (fun s=>(encStr s).map .pv)
def AM (l:List ByteArray):Prop:=l.Pairwise (fun a b=>rH a b=true)
end Go.Proofs.YtmkgeogoojcciaaGreatDoor
section
namespace Go.Abs
theorem AH {P:Program} {N:Nat} {o:Oper} {E:bJ} {H:aA} {T:TypeId} {t:Tmp} {e:TypeId} {id g off len sz:Nat} {ob:Ob} {row:List AV} {rows':List (List AV)} (ho:o.op=.call {callee:=.builtin .clear,args:=#[.tmp t],argTypes:=#[T]}) (hS:dT P T e sz) (hZ:gH P e row) (hrow:row.length=sz)
  (hx:E.get t=some (.osl id g off len)) (hH:H.get id=some ob) (hg:ob.g=g) (hosz:ob.sz=sz) (hoff:off≤ob.rows.length) (hrows:ob.rows.take off++(List.replicate len row++ob.rows.drop (off+len))=rows') :
  bN P N o E H .any ((id,⟨g,sz,ob.ty,rows'⟩)::H):=by
 intro a w I ι h1 h2 hr he K Q hkk;obtain ⟨v,hv,hvr⟩:=he t _ hx;obtain ⟨c,h3,h4,h5⟩:=CL hr hvr hH hg;refine L2 (x:=.tmp t) (E:=(t,.osc id g off len c)::E) ho hS hZ hrow (bJ.get_cons_same _ _ _) hH hg hosz hoff hrows a w I ι h1 h2 hr (fun u x hu=>?_) K Q hkk;by_cases e:t=u
 ·subst e;rw [bJ.get_cons_same] at hu;cases hu;exact⟨v,hv,h5⟩
 rw [bJ.get_cons_other _ _ e] at hu;exact he u x hu
end Go.Abs
namespace Go.Proofs.YtmkgeogoojcciaaGreatDoor
open Go.Proofs.Tryz
open Go.Abs
def bY:List ByteArray→List ByteArray
 | []=>[]
 | [x]=>[x]
 | x::y::r=>if x=y then bY (y::r)else x::bY (y::r)
theorem vF:∀ (l:List ByteArray) (x y:ByteArray),bY (l++[x,y])=bY (l++[x])++(if x=y then[] else[y])
 | [],x,y=>by
  show (if x=y then bY [y] else x::bY [y])=[x]++_;by_cases e:x=y
  ·rw [ZK e,ZK e,e];rfl
  rw [ZJ e,ZJ e];rfl
 | [a],x,y=>by
  show (if a=x then bY [x,y] else a::bY [x,y])=(if a=x then bY [x] else a::bY [x])++_;have:=vF [] x y;rw [show bY [x,y]=bY ([]++[x,y])from rfl,this]
  split<;>rfl
 | a::b::l,x,y=>by
  have:=vF (b::l) x y;show (if a=b then bY ((b::l)++[x,y])else a::bY ((b::l)++[x,y]))=(if a=b then bY ((b::l)++[x])else a::bY ((b::l)++[x]))++_;rw [this]
  split<;>rfl
theorem B1 {L:List ByteArray} {k:Nat} {x y:ByteArray} (hk:1≤k) (hx:L[k - 1]?=some x) (hy:L[k]?=some y):bY (L.take (k+1))=bY (L.take k)++(if x=y then[] else[y]):=by
 obtain ⟨j,rfl⟩:∃ j,k=j+1:=⟨k - 1,by omega⟩;rw [show j+1 - 1=j by omega] at hx;have h1:L.take (j+1)=L.take j++[x]:=by rw [List.take_add_one,hx];rfl
 have h2:L.take (j+1+1)=L.take j++[x,y]:=by rw [List.take_add_one,h1,hy,List.append_assoc];rfl
 rw [h2,h1,vF]
theorem pN:∀ {l:List ByteArray} {x:ByteArray},x∈bY l↔x∈l
 | [],x=>Iff.rfl
 | [a],x=>Iff.rfl
 | a::b::l,x=>by
  show x∈(if a=b then bY (b::l)else a::bY (b::l))↔_;have ih:=pN (l:=b::l) (x:=x)
  split
  ·next e =>
   rw [ih,e];simp
  rw [ZY,ih,List.mem_cons (a:=x) (b:=a)]
theorem tT:∀ {l:List ByteArray},l.Pairwise (fun a b=>rH b a=false)→AM (bY l)
 | [],_=>.nil
 | [a],_=>List.pairwise_singleton _ _
 | a::b::l,h=>by
  have h2:=(List.pairwise_cons.1 h).2;have ih:=tT h2;show AM (if a=b then bY (b::l)else a::bY (b::l))
  split
  ·exact ih
  next e =>
  refine List.pairwise_cons.2 ⟨fun y hy=>?_,ih⟩;have hy2:=pN.1 hy;have hba:rH b a=false:=(List.pairwise_cons.1 h).1 b List.mem_cons_self;have hab:rH a b=true:=by
   cases hc:rH a b with
   | true=>rfl
   | false=>exact absurd (CD hc hba) e
  rcases ZY.1 hy2 with rfl|hy2
  ·exact hab
  have h3:=(List.pairwise_cons.1 h2).1 y hy2;cases hc:rH b y with
  | true=>exact A1 hab hc
  | false=>rw [CD h3 hc];exact hab
theorem BL:∀ (l:List ByteArray),(bY l).length≤l.length
 | []=>ZR _
 | [a]=>ZR _
 | a::b::l=>by
  have ih:=BL (b::l);show (if a=b then bY (b::l)else a::bY (b::l)).length≤(b::l).length+1
  split
  ·omega
  rw [ZN];omega
theorem sK {l:List ByteArray} {i:Nat} {s:ByteArray} (h:l[i]?=some s):(iL l)[i]?=some ((encStr s).map .pv):=by rw [Z6,h];rfl
theorem HZ {P L:List ByteArray} {j:Nat} {s:ByteArray} (h:P.length≤j) (hs:L[j]?=some s):(P++L.drop P.length)[j]?=some s:=by rw [List.getElem?_append_right h,List.getElem?_drop,show P.length+(j - P.length)=j by omega];exact hs
theorem ID {H:aA} {id:Nat} {o:Ob} (h:H.get id=some o) (j:Nat):aA.get ((id,o)::H) j=H.get j:=by
 by_cases e:j=id
 ·subst e;rw [get_cons_same,h]
 exact get_cons_other _ _ e
theorem B0 (L:List ByteArray) (g:Nat) (H:aA) (h1:H.get 901=some ⟨g,1,9,iL L⟩) (hl:L.length < 1099511627776) :
  aJ Tryz.prog 47 [.osl 901 g 0 L.length] H (fun r H'=>r=.osl 901 g 0 (bY L).length∧H'=(901,⟨g,1,9,iL (bY L++List.replicate (L.length - (bY L).length) sNil)⟩)::H):=by
 refine Bd func47 rfl ntmps47 ?_;refine gP.ent (E':=[(0,.osl 901 g 0 L.length)]) (H':=(901,⟨g,1,9,iL L⟩)::H) (cG.get' ⟨⟨_,rfl,rfl⟩,trivial⟩ (ID h1)) ?_;refine Sr<|Dd aS<|Zz<|Sq<|Sr<|Dd aF<|Dd (by exact dD rfl aQ rfl rfl rfl)<|Dd eF<|Zz ?_;refine Cn ?_ ?_<;>intro hc1
 ·have hlt:L.length < 2:=by have:=ZH hc1;omega
  have hc0:bY L=L:=by
   match L,hlt with
   | [],_=>rfl
   | [a],_=>rfl
  refine Sr<|Dd aF<|Dd aS<|Zz<|aN ?_;refine bD (H':=(901,⟨g,1,9,iL L⟩)::H) (.inr rfl) rfl (aI rfl) Fin.refl ⟨by rw [hc0],by rw [hc0,Nat.sub_self,List.replicate_zero,List.append_nil]⟩
 have hge:2≤L.length:=by have:=ZI hc1;omega
 refine aK<|Sq<|Sr<|Dd aS<|Zz<|aP ?_;refine bR (σ:=Nat) (fun i=>([(0,.osl 901 g 0 L.length),(3,iv (i:Int))],(901,⟨g,1,9,iL L⟩)::H)) (fun i=>1≤i∧i≤L.length∧bY (L.take i)=L.take i) (fun i=>L.length - i) 1 ⟨by omega,by omega,by
  obtain ⟨x,hx⟩:=bM (l:=L) (k:=0) (by omega);rw [List.take_add_one,hx];rfl⟩ ?_ ?_
 ·exact cG.get' ⟨⟨_,rfl,rfl⟩,⟨_,rfl,rfl⟩,trivial⟩ (fun j=>rfl)
 rintro i ⟨hi1,hi2,hi3⟩;refine Sq<|Sr<|Dd aF<|Dd aF<|Dd (by exact dD rfl aQ rfl rfl rfl)<|Dd eF<|Zz ?_;refine Cn ?_ ?_<;>intro hc2
 ·have hil:i < L.length:=by have:=ZH hc2;omega
  obtain ⟨y,hy⟩:=bM hil;obtain ⟨x,hx⟩:=bM (l:=L) (k:=i - 1) (by omega);have ht:=B1 hi1 hx hy;refine aK<|Sq<|aP<|Sq<|bU follows<|Cq aF<|Cq aF<|Cq (by exact eC rfl cK rfl rfl rfl rfl rfl (by omega) (by exact ZX _) hil (Z4 _))<|Cq (by exact aW rfl bB rfl rfl rfl (sK hy) rfl)<|Cq aF<|Cq aF<|Cq (by exact dQ rfl rfl rfl (by exact gV (by omega) (by omega)))<|Cq (by exact eC (m:=i - 1) rfl cK rfl rfl rfl rfl rfl (by omega) (show ((i:Int) - 1).toNat=i - 1 by omega) (by omega) (Z4 _))<|Cq (by exact aW rfl bB rfl rfl rfl (sK hx) rfl)<|Cq VI<|dO<|Kr ?_;refine Cn ?_ ?_<;>intro hc3
  ·have hyx:=ZH hc3;rw [ZK hyx.symm,List.append_nil,hi3] at ht;refine Sr<|Dd aF<|Dd aF<|Dd (by exact fI (l:=i) (h:=L.length) rfl cK rfl rfl rfl rfl rfl rfl (by omega) (ZR _) (Z4 _) rfl)<|Dd aS<|Zz<|Sq<|Sr<|Dd aS<|Zz<|aP ?_;refine nE (fun(k:Nat) (R:List ByteArray)=>([(0,.osl 901 g 0 L.length),(3,iv (R.length:Int)),(4,.osl 901 g i (L.length - i)),(5,iv (k:Int))],(901,⟨g,1,9,iL (R++L.drop R.length)⟩)::H)) (fun k R=>1≤k∧i+k≤L.length∧R=bY (L.take (i+k))∧R.length+1≤i+k) (fun k R=>L.length - (i+k)) 1 (L.take i) ⟨by omega,by omega,ht.symm,by rw [Z0];omega⟩ ?_ ?_
   ·have hti:(L.take i).length=i:=by rw [Z0];omega
    rw [hti,List.take_append_drop];exact cG.get' ⟨⟨_,rfl,rfl⟩,⟨_,rfl,rfl⟩,⟨_,rfl,rfl⟩,⟨_,rfl,rfl⟩,trivial⟩ (fun j=>rfl)
   rintro k R ⟨hk1,hk2,hk3,hk4⟩;refine Sq<|Sr<|Dd aF<|Dd aF<|Dd (by exact dD rfl aQ rfl rfl rfl)<|Dd eF<|Zz ?_;refine Cn ?_ ?_<;>intro hc4
   ·have hkl:i+k < L.length:=by have:=ZH hc4;omega
    obtain ⟨v,hv⟩:=bM hkl;obtain ⟨u,hu⟩:=bM (l:=L) (k:=i+k - 1) (by omega);have ht2:=B1 (by omega) hu hv;have hv2:=sK (HZ (P:=R) (by omega) hv);have hu2:=sK (HZ (P:=R) (by omega) hu);refine aK<|Sq<|aP<|Sq<|bU follows<|Cq aF<|Cq aF<|Cq (by exact eC (m:=k) rfl cK rfl rfl rfl rfl rfl (by omega) (ZX _) (by omega) rfl)<|Cq (by exact aW rfl bB rfl rfl rfl hv2 rfl)<|Cq aF<|Cq aF<|Cq (by exact dQ rfl rfl rfl (by exact gV (by omega) (by omega)))<|Cq (by exact eC (m:=k - 1) (m2:=i+k - 1) rfl cK rfl rfl rfl rfl rfl (by omega) (show ((k:Int) - 1).toNat=k - 1 by omega) (by omega) (by omega))<|Cq (by exact aW rfl bB rfl rfl rfl hu2 rfl)<|Cq OG<|dO<|Kr ?_;refine Cn ?_ ?_<;>intro hc5
    ·have hne:¬ u=v:=fun e=>by
      have h:=hc5;rw [e] at h;simp at h
     rw [ZJ hne,← hk3] at ht2;have hR0:∃ z,L[R.length]?=some z:=bM (by omega);obtain ⟨z,hz⟩:=hR0;have hat:(iL (R++L.drop R.length))[R.length]?=some ((encStr z).map .pv):=sK (HZ (P:=R) (ZR _) hz);have hset:(iL (R++L.drop R.length)).set R.length [sv v]=iL ((R++[v])++L.drop (R++[v]).length):=by
      have hd:L.drop R.length=z::L.drop (R.length+1):=by
       obtain ⟨p,q⟩:=ZP.1 hz;rw [List.drop_eq_getElem_cons p,q]
      rw [hd,ZM,List.length_singleton,iL,List.map_append,List.map_cons,List.set_append_right _ _ (by rw [ZL];exact ZR _),ZL,Nat.sub_self,List.set_cons_zero,List.append_assoc,iL,List.map_append,List.map_append];rfl
     refine Sr<|Dd aF<|Dd aF<|Dd aF<|Dd aF<|Dd (by exact eC (m:=k) rfl cK rfl rfl rfl rfl rfl (by omega) (ZX _) (by omega) rfl)<|Dd (by exact aW rfl bB rfl rfl rfl hv2 rfl)<|Dd (by exact eC rfl cK rfl rfl rfl rfl rfl (by omega) (by exact ZX _) (by omega:R.length < L.length) (Z4 _))<|Uu (by exact dI rfl sizeOf9 rfl rfl rfl rfl rfl hat (by simp [encStr]) rfl hset)<|Zz<|Rg<|Dd aF<|Dd rD<|Dd aS<|Zz<|Rg<|Dd aF<|Dd rD<|Da ?_;refine⟨k+1,R++[v],⟨by omega,by omega,ht2.symm,by rw [ZM,List.length_singleton];omega⟩,by omega,?_⟩;rw [show (((R++[v]).length:Nat):Int)=(R.length:Int)+1 by rw [ZM,List.length_singleton];rfl];exact cG.dup ⟨⟨_,rfl,rfl⟩,⟨_,rfl,rfl⟩,⟨_,rfl,rfl⟩,⟨_,rfl,rfl⟩,trivial⟩
    have he:u=v:=by
     have h:=hc5;have h2:v=u:=by simpa using h
     exact h2.symm
    rw [ZK he,List.append_nil,← hk3] at ht2;refine aK<|Rg<|Dd aF<|Dd rD<|Da ?_;refine⟨k+1,R,⟨by omega,by omega,ht2.symm,by omega⟩,by omega,?_⟩;exact cG.get' ⟨⟨_,rfl,rfl⟩,⟨_,rfl,rfl⟩,⟨_,rfl,rfl⟩,⟨_,rfl,rfl⟩,trivial⟩ (fun j=>rfl)
   have hge2:i+k=L.length:=by have:=ZI hc4;omega
   rw [hge2,List.take_length] at hk3;have hRl:R.length≤L.length:=by omega
   have hmix:(iL (R++L.drop R.length)).length=L.length:=by
    rw [ZL,ZM,Z1];omega
   have hcl:(iL (R++L.drop R.length)).take R.length++(List.replicate (L.length - R.length) [sv sNil]++(iL (R++L.drop R.length)).drop (R.length+(L.length - R.length)))=iL (R++List.replicate (L.length - R.length) sNil):=by
    have hd0:(iL (R++L.drop R.length)).drop (R.length+(L.length - R.length))=[]:=List.drop_eq_nil_of_le (by rw [hmix];omega);rw [hd0,List.append_nil,iL,List.map_append,List.take_left' (ZL _),iL,List.map_append,List.map_replicate];rfl
   refine bL<|Sr<|Dd aF<|Dd aF<|Dd (by exact fI (l:=R.length) (h:=L.length) rfl cK rfl rfl rfl rfl rfl rfl hRl (ZR _) (Z4 _) rfl)<|Uu (by exact AH rfl cK YQ rfl rfl rfl rfl rfl (by rw [hmix];exact hRl) hcl)<|Zz<|Sr<|Dd aF<|Dd aF<|Dd (by exact fI (l:=0) (h:=R.length) rfl cK rfl rfl rfl rfl rfl rfl (Z3 _) hRl (Z4 _) rfl)<|Dd aS<|Zz<|aN ?_;refine bD (H':=(901,⟨g,1,9,iL (R++List.replicate (L.length - R.length) sNil)⟩)::H) (.inr rfl) rfl (aI rfl) (Fin.get' (fun j=>iT _ _ _ _ j)) ⟨by rw [hk3];rfl,by rw [hk3]⟩
  have hyx:=ZI hc3;rw [ZJ (fun e=>hyx e.symm),hi3] at ht;refine aK<|Rg<|Dd aF<|Dd rD<|Da ?_;refine⟨i+1,⟨by omega,by omega,?_⟩,by omega,cG.get' ⟨⟨_,rfl,rfl⟩,⟨_,rfl,rfl⟩,trivial⟩ (fun j=>rfl)⟩;rw [ht,List.take_add_one,hy];rfl
 have hge3:i=L.length:=by have:=ZI hc2;omega
 subst hge3;rw [List.take_length] at hi3;refine bL<|Sr<|Dd aF<|Dd aS<|Zz<|aN ?_;refine bD (H':=(901,⟨g,1,9,iL L⟩)::H) (.inr rfl) rfl (aI rfl) Fin.refl ⟨by rw [hi3],by rw [hi3,Nat.sub_self,List.replicate_zero,List.append_nil]⟩
end Go.Proofs.YtmkgeogoojcciaaGreatDoor
end
namespace Go.Proofs.YtmkgeogoojcciaaGreatDoor
open Go.Proofs.Tryz
open Go.Abs Go.Lib
theorem EM (a b:ByteArray):rH a b=decide (EB a < EB b):=by unfold rH;rw [iZ,ByteArray.toList_eq,ByteArray.toList_eq];rfl
theorem EA (l:List UInt8):EB (UY l)=l:=by simp [EB,UY]
theorem A0 (l:List ByteArray):(cQ l).Pairwise (fun a b=>rH b a=false):=by unfold cQ;rw [List.pairwise_map];refine List.Pairwise.imp (R:=fun(x y:List UInt8)=>decide (x≤y)=true) (fun {x y} h=>?_) (List.pairwise_mergeSort (le:=fun(x y:List UInt8)=>decide (x≤y)) (fun a b c h1 h2=>decide_eq_true (List.le_trans (ZH h1) (ZH h2))) vP _);rw [EM,EA,EA];exact decide_eq_false (List.not_lt.2 (ZH h))
theorem K7 {l:List ByteArray} (hn:l.Nodup):AM (cQ l):=by
 have hp:(cQ l).Pairwise (fun a b=>a≠b):=(rG l).symm.pairwise hn (fun {a b} h=>h.symm);refine(hp.and (A0 l)).imp fun {a b} h=>?_;obtain ⟨h1,h2⟩:=h;cases hc:rH a b with
 | true=>rfl
 | false=>exact absurd (CD hc h2) h1
theorem yQ {l:List ByteArray} (h:AM l):l.Nodup:=by refine List.Pairwise.imp (fun {a b} h e=>?_) h;subst e;rw [JC] at h;cases h
theorem JD {a b:ByteArray} (h:rH a b=true):rH b a=false:=by
 cases e:rH b a with
 | false=>rfl
 | true=>have:=A1 h e;rw [JC] at this;cases this
theorem uP {l:List ByteArray} (h:AM l):cQ l=l:=by
 have hp:(l.map EB).Pairwise (fun x y=>decide (x≤y)=true):=by
  rw [List.pairwise_map];refine h.imp fun {a b} h=>decide_eq_true ?_;have h2:=JD h;rw [EM] at h2;exact List.not_lt.1 (ZI h2)
 rw [cQ,List.mergeSort_of_pairwise hp,JV]
theorem xN:∀ {l:List ByteArray},l.Pairwise (fun a b=>rH b a=false)→eU l=true
 | [],_=>rfl
 | [a],_=>rfl
 | a::b::r,h=>by
  have h1:=(List.pairwise_cons.1 h).1 b List.mem_cons_self;rw [eU,h1,xN (List.pairwise_cons.1 h).2];rfl
theorem TO {l:List ByteArray} (h:AM l):l.Pairwise (fun a b=>rH b a=false):=h.imp fun {a b} h=>JD h
theorem BM:∀ {l:List ByteArray},l.Nodup→bY l=l
 | [],_=>rfl
 | [a],_=>rfl
 | a::b::r,h=>by
  have hn:=List.nodup_cons.1 h;have e:¬ a=b:=fun e=>hn.1 (by rw [e];exact List.mem_cons_self);show (if a=b then bY (b::r)else a::bY (b::r))=_;rw [ZJ e,BM hn.2]
theorem C7 {k v:ByteArray} {n:Nat}:∀ {l:bT},fU l→(k,v,n)∈l→cU l k=some v
 | [],_,h=>by cases h
 | (k',a,m)::r,hn,h=>by
  have h2:=List.nodup_cons.1 hn;rw [cU];rcases ZY.1 h with e|h
  ·cases e;rw [ZK rfl]
  rw [ZJ (fun e=>h2.1 (by subst e;exact List.mem_map.2 ⟨_,h,rfl⟩))];exact C7 h2.2 h
theorem C3 {k v:ByteArray}:∀ {l:bT},cU l k=some v→∃ n,(k,v,n)∈l
 | [],h=>by cases h
 | (k',a,m)::r,h=>by
  rw [cU] at h;by_cases e:k'=k
  ·rw [ZK e] at h;cases h;subst e;exact⟨m,List.mem_cons_self⟩
  rw [ZJ e] at h;obtain ⟨n,hn⟩:=C3 h;exact⟨n,List.mem_cons_of_mem _ hn⟩
theorem BF {a b:bT} (ha:fU a) (hb:fU b) (h:∀ k,cU a k=cU b k):(a.map Prod.fst).Perm (b.map Prod.fst):=(List.perm_ext_iff_of_nodup ha hb).2 fun k=>by
 have h1:=iR (k:=k) (l:=a);have h2:=iR (k:=k) (l:=b);rw [h k] at h1;exact Decidable.not_iff_not.1 (h1.symm.trans h2)
theorem AX {a b:bT} (ha:fU a) (hb:fU b) (h:∀ k,cU a k=cU b k):eD a=eD b:=xO (BF ha hb h)
theorem C5 {a b:bT} (ha:fU a) (hb:fU b) (h:∀ k,cU a k=cU b k):a.length=b.length:=by
 have:=(BF ha hb h).length_eq
 rwa [ZL,ZL] at this
theorem KY {a b:bT} (ha:fU a) (hb:fU b) (h:∀ k,cU a k=cU b k) (P:List ByteArray):cA a P=cA b P:=by
 have hg:(fun x=>[x,fF a x])=fun x=>[x,fF b x]:=by
  funext x;rw [nO,nO,h]
 have hl:(bQ a).length=(bQ b).length:=by rw [bQ,bQ,ZL,ZL,C5 ha hb h]
 rw [cA,cA,AX ha hb h,wZ,wZ,hg,hl]
theorem AY {a b:bT} (ha:fU a) (hb:fU b) (h:∀ k,cU a k=cU b k) (P:List ByteArray):aZ a P=aZ b P:=by rw [aZ,aZ,KY ha hb h]
theorem GA {a b:bT} (h:∀ k,cU a k=cU b k) (q:ByteArray×ByteArray×Nat→Bool) (hq:∀ k v n m,q (k,v,n)=q (k,v,m)) (ha:fU a):a.any q=true→b.any q=true:=by intro h1;obtain ⟨⟨k,v,n⟩,hp,h2⟩:=List.any_eq_true.1 h1;have e:=C7 ha hp;rw [h] at e;obtain ⟨m,hm⟩:=C3 e;exact List.any_eq_true.2 ⟨_,hm,by rw [hq k v m n];exact h2⟩
theorem KO {a b:bT} (ha:fU a) (hb:fU b) (h:∀ k,cU a k=cU b k) (q:ByteArray×ByteArray×Nat→Bool) (hq:∀ k v n m,q (k,v,n)=q (k,v,m)):a.any q=b.any q :=Bool.eq_iff_iff.2 ⟨GA h q hq ha,GA (fun k=>(h k).symm) q hq hb⟩
theorem GP {a b:bT} (ha:fU a) (hb:fU b) (h:∀ k,cU a k=cU b k) (P:List ByteArray):bE a P=bE b P:=by rw [bE,bE,KO ha hb h (zG P) (fun k v n m=>rfl),KO ha hb h bigV (fun k v n m=>rfl)]
def sZ (W:List ByteArray):Nat→bT×Nat
 | 0=>([],0)
 | j+1=>(jQ (sZ W j).1 (W.getD (2*j) sNil) (W.getD (2*j+1) sNil) (sZ W j).2,tE (sZ W j).1 (W.getD (2*j) sNil) (sZ W j).2)
theorem CY (W:List ByteArray):∀ j,eA (sZ W j).1 (sZ W j).2∧fU (sZ W j).1
 | 0=>⟨⟨List.Pairwise.nil,fun p hp=>(by cases hp)⟩,List.nodup_nil⟩
 | j+1=>⟨C8 (CY W j).1 _ _,C9 (CY W j).2 _ _ _⟩
theorem FD (k v:ByteArray) (c:Nat) (l:bT):l.length≤(jQ l k v c).length∧(jQ l k v c).length≤l.length+1:=by
 have h:=congrArg List.length (qF k v c l);rw [ZL] at h;rw [h]
 split
 ·rw [ZL];omega
 rw [ZM,ZL,List.length_singleton];omega
theorem CZ (W:List ByteArray):∀ j,(sZ W j).1.length≤j
 | 0=>ZR _
 | j+1=>by
  have h1:=CZ W j;have h2:=(FD (W.getD (2*j) sNil) (W.getD (2*j+1) sNil) (sZ W j).2 (sZ W j).1).2;show (jQ (sZ W j).1 (W.getD (2*j) sNil) (W.getD (2*j+1) sNil) (sZ W j).2).length≤_;omega
theorem C0 (F R:List ByteArray):∀ j,2*j≤F.length→sZ (F++R) j=sZ F j
 | 0,_=>rfl
 | j+1,h=>by
  have h1:(F++R).getD (2*j) sNil=F.getD (2*j) sNil:=by rw [List.getD_eq_getElem?_getD,List.getD_eq_getElem?_getD,List.getElem?_append_left (by omega)]
  have h2:(F++R).getD (2*j+1) sNil=F.getD (2*j+1) sNil:=by rw [List.getD_eq_getElem?_getD,List.getD_eq_getElem?_getD,List.getElem?_append_left (by omega)]
  rw [sZ,sZ,C0 F R j (by omega),h1,h2]
theorem BO (g:ByteArray→ByteArray):∀ (S:List ByteArray) (j:Nat) (s:ByteArray),S[j]?=some s→(S.flatMap fun x=>[x,g x])[2*j]?=some s∧(S.flatMap fun x=>[x,g x])[2*j+1]?=some (g s)
 | [],j,s,h=>by cases h
 | x::r,0,s,h=>by cases h;exact⟨rfl,rfl⟩
 | x::r,j+1,s,h=>BO g r j s h
theorem E6 (g:ByteArray→ByteArray) {S:List ByteArray} (hn:S.Nodup):∀ j,j≤S.length→(sZ (S.flatMap fun x=>[x,g x]) j).1.map Prod.fst=S.take j∧∀ k,cU (sZ (S.flatMap fun x=>[x,g x]) j).1 k=if k∈S.take j then some (g k)else none
 | 0,_=>⟨rfl,fun k=>by rw [List.take_zero,ZJ Z2];rfl⟩
 | j+1,h=>by
  obtain ⟨h1,h2⟩:=E6 g hn j (by omega);obtain ⟨s,hs⟩:=bM (l:=S) (k:=j) (by omega);obtain ⟨f1,f2⟩:=BO g S j s hs;have g1:(S.flatMap fun x=>[x,g x]).getD (2*j) sNil=s:=by rw [List.getD_eq_getElem?_getD,f1];rfl
  have g2:(S.flatMap fun x=>[x,g x]).getD (2*j+1) sNil=g s:=by rw [List.getD_eq_getElem?_getD,f2];rfl
  have ht:S.take (j+1)=S.take j++[s]:=dR hs;have hns:s∉S.take j:=fun hm=>by
   have hn2:(S.take (j+1)).Nodup:=hn.sublist (List.take_sublist _ _);rw [ht] at hn2;exact(List.nodup_append.1 hn2).2.2 s hm s (ZO.2 rfl) rfl
  rw [sZ,g1,g2,ht];constructor
  ·rw [qF,h2 s,ZJ hns,h1];rfl
  intro k;rw [xA,h2 k];by_cases e:s=k
  ·subst e;rw [ZK rfl,ZK (by simp)]
  rw [ZJ e];by_cases hk:k∈S.take j
  ·rw [ZK hk,ZK (List.mem_append_left _ hk)]
  rw [ZJ hk,ZJ (fun hm=>by
   rcases List.mem_append.1 hm with h|h
   ·exact hk h
   rw [ZO] at h;exact e h.symm)]
theorem mP {l:bT} {k:ByteArray}:k∈eD l↔k∈l.map Prod.fst:=(rG _).mem_iff
theorem GU {l:bT} (h:fU l):AM (eD l):=K7 h
theorem L7 {l:bT} (h:fU l) (R:List ByteArray):∀ k,cU (sZ (((eD l).flatMap fun x=>[x,fF l x])++R) l.length).1 k=cU l k:=by
 intro k;have hl:=kX l;rw [C0 _ _ _ (by rw [lC,hl];omega)];obtain ⟨_,h2⟩:=E6 (fF l) (yQ (GU h)) l.length (by omega);rw [h2,List.take_of_length_le (by omega)];by_cases hk:k∈eD l
 ·rw [ZK hk,nO];cases e:cU l k with
  | some v=>rfl
  | none=>exact absurd (mP.1 hk) (iR.1 e)
 rw [ZJ hk];exact(iR.2 (fun h=>hk (mP.2 h))).symm
abbrev zY (t:List UInt8):List ByteArray:=(eE t).1
abbrev UR (t:List UInt8):Int:=dG ((zY t).getD 0 sNil)
abbrev JH (t:List UInt8):Nat:=(UR t).toNat
abbrev fJ (t:List UInt8):bT×Nat:=sZ ((zY t).drop 1) (JH t)
abbrev dK (t:List UInt8):List ByteArray:=(zY t).drop (2*JH t+2)
def rN (t:List UInt8):Bool:=!(eE t).2||decide ((zY t).length=0)
def kH (t:List UInt8):Bool:=((gO ((zY t).getD 0 sNil)||decide (UR t < 0))||decide ((((zY t).length / 2:Nat):Int) < UR t))||decide (((zY t).length:Int) < 2*UR t+2)
def rM (t:List UInt8):Bool:=((((decide ((fJ t).1.length+(dK t).length=0)||!decide (bE (fJ t).1 (dK t)=0))||!decide (aZ (fJ t).1 (dK t)=aR [ofL t]))||!eU (dK t))||decide ((bY (dK t)).length < (dK t).length))
def kG (t:List UInt8):Bool:=!rN t&&(!kH t&&!rM t)
theorem gB (l:bT) (P:List ByteArray):cA l P=dA (l.length:Int)::(((eD l).flatMap fun x=>[x,fF l x])++(dA (P.length:Int)::P)):=by rw [cA,wZ,List.take_length,bQ,ZL,ZL,List.cons_append,List.cons_append,List.append_assoc];rfl
theorem nP:∀ {L:List ByteArray} {x:ByteArray},x∈L→x.size≤(aR L).length
 | [],x,h=>by cases h
 | y::L,x,h=>by
  rw [dE,ZM,ZN,ZM,cW];rcases ZY.1 h with rfl|h
  ·omega
  have:=nP h;omega
theorem JG {l:bT} {P:List ByteArray} (hn:fU l) (hP:AM P) (h0:0 < l.length+P.length) (hw:bE l P=0) (hsz:(aR (cA l P)).length < 1000000000000) :
  kG (aR (cA l P))=true∧(∀ k,cU (fJ (aR (cA l P))).1 k=cU l k)∧dK (aR (cA l P))=P:=by
 have hsp:eE (aR (cA l P))=(cA l P,true):=qU fun x hx=>by have:=nP hx;omega
 have hlen:=pE (cA l P);have hparts:=gB l P;have hll:(cA l P).length=2*l.length+2+P.length:=by
  rw [hparts,ZN,ZM,lC,kX,ZN];omega
 have hD:(cA l P).getD 0 sNil=dA (l.length:Int):=by rw [hparts];rfl
 have hi:dA (l.length:Int)=ofL (decDigits l.length):=jA (by rw [aX,lA]);obtain ⟨n1,n2⟩:=uA (l:=decDigits l.length) (u:=l.length) (cZ (k:=18) (by omega) (by decide)) (nU _) (fun b=>nS _) (lM _);have hL:zY (aR (cA l P))=cA l P:=by rw [zY,hsp]
 have hV:UR (aR (cA l P))=(l.length:Int):=by rw [UR,hL,hD,hi,n2]
 have hN:JH (aR (cA l P))=l.length:=by rw [JH,hV,ZX]
 have hput:∀ k,cU (fJ (aR (cA l P))).1 k=cU l k:=by
  rw [fJ,hL,hN,hparts,List.drop_succ_cons,List.drop_zero];exact L7 hn _
 have hnd:fU (fJ (aR (cA l P))).1:=(CY _ _).2;have hdrop:dK (aR (cA l P))=P:=by
  rw [dK,hL,hN,show cA l P=(dA (l.length:Int)::(((eD l).flatMap fun x=>[x,fF l x])++[dA (P.length:Int)]))++P by rw [hparts];simp];exact List.drop_left' (by rw [ZN,ZM,lC,kX];rfl)
 refine⟨?_,hput,hdrop⟩;have b1:rN (aR (cA l P))=false:=by
  rw [rN,hL,hsp,hll,decide_eq_false (by omega)];rfl
 have b2:kH (aR (cA l P))=false:=by
  rw [kH,hV,hL,hD,hi,n1,hll,decide_eq_false (by omega),decide_eq_false (by omega),decide_eq_false (by omega)];rfl
 have b3:rM (aR (cA l P))=false:=by
  rw [rM,hdrop,GP hnd hn hput,hw,AY hnd hn hput,C5 hnd hn hput,xN (TO hP),BM (yQ hP),decide_eq_false (by omega),decide_eq_true rfl,show aZ l P=aR [ofL (aR (cA l P))] from rfl,decide_eq_true rfl,decide_eq_false (by omega)];rfl
 rw [kG,b1,b2,b3];rfl
theorem pF (n:Nat) (h:n < 1000000000000000000):(dA (n:Int)).size≤21:=rR (by omega) (by omega)
theorem vX {M:Nat} (hM:M < 1000000000000000000):∀ (L:List ByteArray),(∀ s∈L,s.size≤M)→(aR L).length≤L.length*(M+22)
 | [],_=>Z3 _
 | s::r,h=>by
  have ih:=vX hM r (fun x hx=>h x (List.mem_cons_of_mem _ hx));have hs:=h s List.mem_cons_self;have hd:=cZ (k:=18) (u:=s.size) (by omega) (by decide);rw [dE,ZM,ZN,ZM,cW,ZN,Nat.add_mul];omega
theorem xL:∀ (n:Nat) (t:List UInt8) (acc:List ByteArray) (x:ByteArray),x∈(fB n t acc).1→x∈acc∨x.size≤t.length
 | 0,t,acc,x,h=>.inl h
 | n+1,t,acc,x,h=>by
  have hcl:=(IL t).2;rw [fB] at h
  split at h
  ·exact .inl h
  split at h
  ·cases h
  rcases xL n _ _ x h with h|h
  ·rcases List.mem_append.1 h with h|h
   ·exact .inl h
   rw [ZO.1 h,bP,Z0];exact .inr (by omega)
  rw [Z1] at h;exact .inr (by omega)
theorem CH {t:List UInt8} {x:ByteArray} (h:x∈zY t):x.size≤t.length:=by
 rcases xL _ _ _ _ h with h|h
 ·cases h
 exact h
theorem FC {k v:ByteArray} {c:Nat} {p:ByteArray×ByteArray×Nat}:∀ {l:bT},p∈jQ l k v c→p∈l∨(p.1=k∧p.2.1=v)
 | [],h=>by
  rw [ZO.1 h];exact .inr ⟨rfl,rfl⟩
 | (k',a,n)::r,h=>by
  rw [jQ] at h
  split at h
  ·rcases ZY.1 h with h|h
   ·rw [h];exact .inr ⟨rfl,rfl⟩
   exact .inl (List.mem_cons_of_mem _ h)
  rcases ZY.1 h with h|h
  ·rw [h];exact .inl List.mem_cons_self
  rcases FC h with h|h
  ·exact .inl (List.mem_cons_of_mem _ h)
  exact .inr h
theorem BK {W:List ByteArray} {M:Nat} (h:∀ x∈W,x.size≤M) (i:Nat):(W.getD i sNil).size≤M:=by
 rw [List.getD_eq_getElem?_getD];cases e:W[i]? with
 | none=>exact Z3 _
 | some x=>exact h x (ZW e)
theorem JU {W:List ByteArray} {M:Nat} (h:∀ x∈W,x.size≤M):∀ (j:Nat) (p:ByteArray×ByteArray×Nat),p∈(sZ W j).1→p.1.size≤M∧p.2.1.size≤M
 | 0,p,hp=>by cases hp
 | j+1,p,hp=>by
  rcases FC hp with h1|⟨h1,h2⟩
  ·exact JU h j p h1
  rw [h1,h2];exact⟨BK h _,BK h _⟩
theorem rP {M:Nat} (k:ByteArray):∀ {l:bT},(∀ p∈l,p.2.1.size≤M)→(fF l k).size≤M
 | [],_=>Z3 _
 | (k',a,n)::r,h=>by
  rw [fF]
  split
  ·exact h _ List.mem_cons_self
  exact rP k fun p hp=>h p (List.mem_cons_of_mem _ hp)
theorem AW (l:bT) (P:List ByteArray):(cA l P).length=2*l.length+2+P.length:=by rw [gB,ZN,ZM,lC,kX,ZN];omega
theorem oS {l:bT} {P:List ByteArray} {M:Nat} (h21:21≤M) (hM:M < 1000000000) (hl:∀ p∈l,p.1.size≤M∧p.2.1.size≤M) (hP:∀ s∈P,s.size≤M) (hn:2*l.length+2+P.length < 1000000000) :
  (aZ l P).length≤(2*l.length+2+P.length)*(M+22)+22:=by
 have h1:(aR (cA l P)).length≤(cA l P).length*(M+22):=by
  refine vX (by omega) _ fun s hs=>?_;rw [gB] at hs;rcases ZY.1 hs with rfl|hs
  ·have:=pF l.length (by omega);omega
  rcases List.mem_append.1 hs with hs|hs
  ·obtain ⟨x,hx,hs⟩:=List.mem_flatMap.1 hs;simp only [ZY,Z2,or_false] at hs;rcases hs with rfl|rfl
   ·obtain ⟨p,hp,rfl⟩:=List.mem_map.1 (mP.1 hx);exact(hl p hp).1
   exact rP x fun p hp=>(hl p hp).2
  rcases ZY.1 hs with rfl|hs
  ·have:=pF P.length (by omega);omega
  exact hP s hs
 rw [AW] at h1;have hb:(2*l.length+2+P.length)*(M+22)≤1000000000*1000000022:=Nat.mul_le_mul (by omega) (by omega);have hd:=cZ (k:=19) (u:=(aR (cA l P)).length) (by omega) (by decide);rw [aZ,dE,ZM,ZN,ZM,aX,bP];have h0:(aR []).length=0:=rfl;omega
theorem OS {t:List UInt8} (ht:t.length < 1000000) (hb:kH t=false):(aZ (fJ t).1 (dK t)).length < 35184372088832∧(fJ t).1.length≤t.length∧(dK t).length≤t.length:=by
 have h1:=CZ ((zY t).drop 1) (JH t);have hlen:(zY t).length≤t.length:=by
  have go:∀ (n:Nat) (u:List UInt8) (acc:List ByteArray),(fB n u acc).1.length≤acc.length+n:=by
   intro n
   induction n with
   | zero=>intro u acc;exact Nat.le_add_right _ _
   | succ n ih =>
    intro u acc;rw [fB]
    split
    ·exact Nat.le_add_right _ _
    split
    ·exact Z3 _
    have:=ih ((wB u).drop (KA u)) (acc++[ofL ((wB u).take (KA u))]);rw [ZM,List.length_singleton] at this;omega
  have:=go t.length t [];rw [List.length_nil,Z4] at this;exact this
 rw [kH] at hb;simp only [Z8,ZT] at hb;have h2:JH t≤(zY t).length / 2:=by
  have h3:=hb.1.2;have h4:=hb.1.1.2;rw [JH];omega
 have h5:(fJ t).1.length≤t.length:=by
  show (sZ ((zY t).drop 1) (JH t)).1.length≤_;omega
 have h6:(dK t).length≤t.length:=by
  rw [dK,Z1];omega
 refine⟨?_,h5,h6⟩;have h7:=oS (l:=(fJ t).1) (P:=dK t) (M:=1000000) (by decide) (by decide) (fun p hp=>by
  have:=JU (W:=(zY t).drop 1) (M:=t.length) (fun x hx=>CH (List.mem_of_mem_drop hx)) _ p hp;omega) (fun s hs=>by have:=CH (List.mem_of_mem_drop hs);omega) (by omega)
 have h8:(2*(fJ t).1.length+2+(dK t).length)*(1000000+22)≤3000002*1000022:=Nat.mul_le_mul (by omega) (by omega);omega
structure Calm (d:DSt) (n:Nat):Prop where
 inv:DInv d n 0
 off:d.off=false
 na:∀ a w b,d.arm≠.on a w b
theorem Calm.q {d:DSt} {n:Nat} (h:Calm d n):d.q=[]:=List.length_eq_zero_iff.1 (Nat.le_zero.1 h.inv.q)
theorem tY {n:Nat} (h1:1≤n) (h2:n≤8000):Calm (lO n) n:=⟨TN h1 h2,rfl,fun a w b h=>by cases h⟩
theorem BW {s:DSt} (h:∀ a w b,s.arm≠.on a w b):dP s=s∧eN s=0:=by
 unfold dP eN;cases e:s.arm with
 | on a w b=>exact absurd e (h a w b)
 | never=>exact⟨rfl,rfl⟩
 | off a w b=>exact⟨rfl,rfl⟩
def kQ (cells:List ByteArray) (p:Nat):List ByteArray→List ByteArray
 | []=>cells
 | t::r=>kQ (cells.set p t) (p+1) r
def sF (p:Nat):List ByteArray→List (Nat×ByteArray)
 | []=>[]
 | t::r=>(p,t)::sF (p+1) r
theorem CJ:∀ (A B:List ByteArray) (p:Nat),sF p (A++B)=sF p A++sF (p+A.length) B
 | [],B,p=>rfl
 | t::A,B,p=>by
  rw [List.cons_append,sF,sF,CJ A B (p+1),List.cons_append,ZN,Nat.add_assoc p 1,Nat.add_comm 1 A.length]
theorem wT:∀ (L cells:List ByteArray) (p:Nat),cM cells (sF p L)=kQ cells p L
 | [],_,_=>rfl
 | t::r,cells,p=>wT r (cells.set p t) (p+1)
theorem jY:∀ (L cells:List ByteArray) (p:Nat),(kQ cells p L).length=cells.length
 | [],_,_=>rfl
 | t::r,cells,p=>(jY r (cells.set p t) (p+1)).trans List.length_set
theorem iQ:∀ (L cells:List ByteArray) (p j:Nat),(kQ cells p L)[j]?=if p≤j∧j < p+L.length∧j < cells.length then L[j - p]? else cells[j]?
 | [],cells,p,j=>by rw [kQ,ZJ (by rw [List.length_nil];omega)]
 | t::r,cells,p,j=>by
  rw [kQ,iQ r (cells.set p t) (p+1) j,List.length_set,ZN];by_cases h:p≤j∧j < p+(r.length+1)∧j < cells.length
  ·rw [ZK h];by_cases e:p=j
   ·subst e;rw [ZJ (by omega),List.getElem?_set_self h.2.2,Nat.sub_self];rfl
   rw [ZK (by omega),show j - p=(j - (p+1))+1 by omega,List.getElem?_cons_succ]
  rw [ZJ h,ZJ (by omega)];by_cases e:p=j
  ·subst e;have hl:cells.length≤p:=by omega
   rw [List.getElem?_eq_none (by rw [List.length_set];exact hl),List.getElem?_eq_none hl]
  rw [List.getElem?_set_ne e]
theorem D7 {d:DSt} {n:Nat} (h:Calm d n) {place:Nat} {L:List ByteArray} (hp:place+L.length≤n) (hs:∀ t∈L,t.size=64):∀ i,i≤L.length→nF d place L i=(0,{d with q:=sF place (L.take i),gq:=d.gq+i})
 | 0,_=>by
  rw [nF,List.take_zero,sF,← h.q];rfl
 | i+1,hi=>by
  obtain ⟨t,ht⟩:=bM (l:=L) (k:=i) (by omega);have hz:=hs t (ZW ht);have hD:L.getD i sNil=t:=by rw [List.getD_eq_getElem?_getD,ht];rfl
  have hq:sF place (L.take (i+1))=sF place (L.take i)++[(place+i,t)]:=by
   rw [dR ht,CJ,Z0,Nat.min_eq_left (by omega)];rfl
  obtain ⟨s,hS⟩:∃ s,s=({d with q:=sF place (L.take i),gq:=d.gq+i}:DSt):=⟨_,rfl⟩;have so:s.off=false:=by rw [hS];exact h.off
  have sc:fE s ((place+i:Nat):Int)=true:=by
   rw [jO,hS];exact decide_eq_true (by have:=h.inv.n;show place+i < d.cells.length;omega)
  obtain ⟨c1,c2⟩:=BW (s:=jL s (place+i) t) (by rw [hS];exact h.na);rw [nF,D7 h hp hs i (by omega),ZK rfl,hD,hq,← hS];have w1:hU s ((place+i:Nat):Int) t=0:=by rw [hU,so,ZJ (by decide),sc,decide_eq_true hz,ZK (show (true&&true)=true from rfl),ZX,c2]
  have w2:iW s ((place+i:Nat):Int) t=jL s (place+i) t:=by rw [iW,so,ZJ (by decide),sc,decide_eq_true hz,ZK (show (true&&true)=true from rfl),ZX,c1]
  rw [w1,w2,hS];rfl
theorem N2 {d:DSt} {n:Nat} (h:Calm d n) {place:Nat} {L:List ByteArray} (hp:place+L.length≤n) (hs:∀ t∈L,t.size=64):jI d place L=(0,{d with cells:=kQ d.cells place L,q:=[],gq:=d.gq+L.length+1}):=by
 have hk:=D7 h hp hs L.length (ZR _);rw [List.take_length] at hk;obtain ⟨s,hS⟩:∃ s,s=({d with q:=sF place L,gq:=d.gq+L.length}:DSt):=⟨_,rfl⟩;have so:s.off=false:=by rw [hS];exact h.off
 obtain ⟨c1,c2⟩:=BW (s:=s) (by rw [hS];exact h.na);rw [← hS] at hk;have w1:mH s=0:=by rw [mH,so,ZJ (by decide),c2]
 have w2:iX s=vE s:=by rw [iX,so,ZJ (by decide),c2,ZK rfl,c1]
 rw [jI,hk,ZK rfl,w1,w2,vE,hS];show (0,({d with cells:=cM d.cells (sF place L),q:=[],gq:=d.gq+L.length+1}:DSt))=_;rw [wT]
theorem tW {d:DSt} {n:Nat} (h:Calm d n) {place:Nat} {L:List ByteArray} (hp:place+L.length≤n) (hs:∀ t∈L,t.size=64) (hm:L.length≤1048576):(jI d place L).1=0∧Calm (jI d place L).2 n∧(jI d place L).2.cells=kQ d.cells place L:=by have hi:=kP h.inv place L (by omega);rw [N2 h hp hs] at hi ⊢;exact⟨rfl,⟨⟨hi.ok,hi.arm,hi.n,Z3 _⟩,h.off,h.na⟩,rfl⟩
theorem lN {d:DSt} {n:Nat} (h:Calm d n) (i:Nat):bW d i=(d.cells[i]?).getD ⟨#[]⟩:=by rw [bW,h.q];rfl
theorem DE (place:Nat) {a n:Nat} (ha:a < 10) (hn:n < 10000000):(hS place a n).size=64:=by rw [bP,BH,A2];rw [ZM,kL (oF a (by omega) (by omega)),kL (oF n (by omega) (by omega))];omega
theorem HI (place:Nat) {p:List UInt8} (h:p.length≤46):(eP place p).length=64:=by rw [eP,A2];rw [ZM,kL (oF _ (by omega) (by omega))];omega
theorem LB (fr:Nat) (t:List UInt8) (i:Nat):∀ x∈jN fr t i,x.size=64:=fun x hx=>by
 obtain ⟨j,hj,rfl⟩:=List.mem_map.1 hx;rw [bP,HI _ (by rw [mT];omega)]
theorem sN {fr:Nat} {t:List UInt8} {i j:Nat} (h:j < i):(jN fr t i)[j]?=some (ofL (eP (fr+j) (fM t j))):=by rw [jN,Z6,List.getElem?_range h];rfl
theorem QS {d:DSt} {n:Nat} (h:Calm d n) (hn:2≤n) {a cn:Nat} (ha:a < 10) (hc:cn < 10000000):(wI d a cn).1=0∧Calm (wI d a cn).2 n∧(wI d a cn).2.cells=(d.cells.set 1 (hS 1 a cn)).set 0 (hS 0 a cn):=by obtain ⟨a1,a2,a3⟩:=tW h (place:=1) (L:=[hS 1 a cn]) (by rw [List.length_singleton];omega) (fun t ht=>by rw [ZO.1 ht];exact DE _ ha hc) (by rw [List.length_singleton];omega);obtain ⟨b1,b2,b3⟩:=tW a2 (place:=0) (L:=[hS 0 a cn]) (by rw [List.length_singleton];omega) (fun t ht=>by rw [ZO.1 ht];exact DE _ ha hc) (by rw [List.length_singleton];omega);rw [wI,ZK a1];exact⟨b1,b2,by rw [b3,a3];rfl⟩
theorem tZ {d:DSt} {n:Nat} (h:Calm d n) {k a cn:Nat} {t:List UInt8} (hk:2*k+2≤n) (hn:n≤8000) (ha:a < 2) (hc:cn+cR t≤k) :
  (jH d k a cn t).1=0∧Calm (jH d k a cn t).2 n∧(jH d k a cn t).2.cells=((kQ d.cells (2+a*k+cn) (jN (2+a*k+cn) t (cR t))).set 1 (hS 1 a (cn+cR t))).set 0 (hS 0 a (cn+cR t)):=by
 have hak:a*k≤k:=by
  rcases(show a=0∨a=1 by omega)with e|e<;>subst e<;>omega
 obtain ⟨a1,a2,a3⟩:=tW h (place:=2+a*k+cn) (L:=jN (2+a*k+cn) t (cR t)) (by rw [dJ];omega) (LB _ _ _) (by rw [dJ];omega);obtain ⟨b1,b2,b3⟩:=QS a2 (a:=a) (cn:=cn+cR t) (by omega) (by omega) (by omega);rw [jH,ZK a1];exact⟨b1,b2,by rw [b3,a3]⟩
abbrev CT:=ByteArray→Option ByteArray
def pM (C:CT) (l:bT) (D:List ByteArray):CT:=fun x=>if x∈D then none else(cU l x).orElse fun _=>C x
def V5 (C:CT) (t:List UInt8):CT:=pM C (fJ t).1 (dK t)
def oG (T:List (List UInt8)):CT:=T.foldl V5 (fun _=>none)
theorem rY (T:List (List UInt8)) (t:List UInt8):oG (T++[t])=V5 (oG T) t:=by rw [oG,List.foldl_append];rfl
theorem QI {C:CT} {l:bT} {D:List ByteArray} {x v:ByteArray} (h:pM C l D x=some v):cU l x=some v∨C x=some v:=by
 rw [pM] at h
 split at h
 ·cases h
 cases e:cU l x with
 | none=>rw [e] at h;exact .inr h
 | some u=>rw [e] at h;exact .inl h
theorem KI (T:List (List UInt8)) {x v:ByteArray}:oG T x=some v→∃ t∈T,cU (fJ t).1 x=some v:=by
 have go:∀ (n:Nat) (T:List (List UInt8)),T.length=n→oG T x=some v→∃ t∈T,cU (fJ t).1 x=some v:=by
  intro n
  induction n with
  | zero =>
   intro T hT h;rw [List.length_eq_zero_iff.1 hT] at h;cases h
  | succ n ih =>
   intro T hT h;have hne:T≠[]:=fun e=>by rw [e] at hT;cases hT
   have e:T=T.dropLast++[T.getLast hne]:=(List.dropLast_concat_getLast hne).symm;rw [e,rY] at h;rcases QI h with h|h
   ·exact⟨_,List.getLast_mem hne,h⟩
   obtain ⟨t,ht,h2⟩:=ih T.dropLast (by rw [List.length_dropLast];omega) h;exact⟨t,List.dropLast_subset T ht,h2⟩
 exact go T.length T rfl
theorem xS {t:List UInt8} (h:kG t=true):(eE t).2=true∧kH t=false∧0 < (fJ t).1.length+(dK t).length∧bE (fJ t).1 (dK t)=0:=by rw [kG] at h;simp only [ZU,Bool.not_eq_true'] at h;obtain ⟨h1,h2,h3⟩:=h;rw [rN,Z8] at h1;rw [rM] at h3;simp only [Z8,ZT,Bool.not_eq_false',ZS] at h3;refine⟨by simpa using h1.1,h2,by have:=h3.1.1.1.1;omega,h3.1.1.1.2⟩
theorem nG {l:bT} {D:List ByteArray} (h:bE l D=0):(∀ p∈l,dB p.1=true∧p.1∉D∧p.2.1.size≤20000)∧∀ s∈D,dB s=true:=by
 rw [bE] at h
 split at h
 ·cases h
 next h1 =>
 split at h
 ·cases h
 next h2 =>
 rw [Bool.not_eq_true,Z8] at h1;constructor
 ·intro p hp;have a1:=List.any_eq_false.1 h1.1 p hp;have a2:=List.any_eq_false.1 (Bool.not_eq_true _▸h2) p hp;rw [zG] at a1;rw [bigV] at a2;simp only [Bool.not_eq_true,Z8,Bool.not_eq_false',ZT] at a1 a2;refine⟨a1.1,fun hm=>?_,by omega⟩;rw [iS.2 hm] at a1;cases a1.2
 intro s hs;have a1:=List.any_eq_false.1 h1.2 s hs
 simpa using a1
theorem yM {l:bT} {D:List ByteArray} (h1:∀ p∈l,dB p.1=true∧p.1∉D∧p.2.1.size≤20000) (h2:∀ s∈D,dB s=true):bE l D=0:=by
 have a1:l.any (zG D)=false:=List.any_eq_false.2 fun p hp=>by
  have:=h1 p hp;rw [zG,this.1,Bool.not_true,Bool.false_or];exact fun e=>this.2.1 (iS.1 e)
 have a2:D.any (fun s=>!dB s)=false:=List.any_eq_false.2 fun s hs=>by rw [h2 s hs];decide
 have a3:l.any bigV=false:=List.any_eq_false.2 fun p hp=>by
  have:=(h1 p hp).2.2;rw [bigV];simp only [ZS];omega
 rw [bE,a1,a2,a3];rfl
theorem XF {T:List (List UInt8)} (hT:∀ t∈T,kG t=true) {x v:ByteArray} (h:oG T x=some v):dB x=true∧v.size≤20000:=by obtain ⟨t,ht,h2⟩:=KI T h;obtain ⟨n,hn⟩:=C3 h2;have:=(nG (xS (hT t ht)).2.2.2).1 _ hn;exact⟨this.1,this.2.2⟩
theorem QH {T:List (List UInt8)} (hT:∀ t∈T,kG t=true) {l:bT} (hn:fU l) (hl:∀ x,cU l x=oG T x):bE l []=0 :=yM (fun⟨x,v,n⟩ hp=>by
  have:=XF hT ((hl x).symm.trans (C7 hn hp));exact⟨this.1,Z2,this.2⟩) (fun s hs=>by cases hs)
theorem PE {α:Type} [DecidableEq α]:∀ {l m:List α},l.Nodup→(∀ x,x∈l→x∈m)→l.length≤m.length
 | [],m,_,_=>Z3 _
 | a::l,m,hn,h=>by
  have hn2:=List.nodup_cons.1 hn;have hm:a∈m:=h a List.mem_cons_self;have h2:=PE (l:=l) (m:=m.erase a) hn2.2 (fun x hx=>(List.mem_erase_of_ne (fun e=>by subst e;exact hn2.1 hx)).2 (h x (List.mem_cons_of_mem _ hx)));rw [List.length_erase_of_mem hm] at h2;have:=List.length_pos_of_mem hm;rw [ZN];omega
theorem rF:∀ (n:Nat) (t:List UInt8) (acc:List ByteArray),(fB n t acc).1.length≤acc.length+n
 | 0,t,acc=>Nat.le_add_right _ _
 | n+1,t,acc=>by
  rw [fB]
  split
  ·exact Nat.le_add_right _ _
  split
  ·exact Z3 _
  have:=rF n ((wB t).drop (KA t)) (acc++[ofL ((wB t).take (KA t))]);rw [ZM,List.length_singleton] at this;omega
theorem JI (t:List UInt8):(zY t).length≤t.length:=by have:=rF t.length t [];rw [List.length_nil,Z4] at this;exact this
theorem LF {t:List UInt8} (h:kH t=false):(fJ t).1.length≤t.length:=by
 have h1:=CZ ((zY t).drop 1) (JH t);have h2:=JI t;rw [kH] at h;simp only [Z8,ZT] at h;have h3:=h.1.2;have h4:=h.1.1.2;have:JH t≤(zY t).length / 2:=by rw [JH];omega
 show (sZ ((zY t).drop 1) (JH t)).1.length≤_;omega
theorem V4 {T:List (List UInt8)} (hT:∀ t∈T,kG t=true) {l:bT} (hn:fU l) (hl:∀ x,cU l x=oG T x):l.length≤(aR (T.map ofL)).length:=by
 have h1:(l.map Prod.fst).length≤(T.flatMap fun t=>(fJ t).1.map Prod.fst).length:=PE hn (fun x hx=>by
  cases e:cU l x with
  | none=>exact absurd hx (iR.1 e)
  | some v =>
   rw [hl] at e;obtain ⟨t,ht,h2⟩:=KI T e;obtain ⟨n,h3⟩:=C3 h2;exact List.mem_flatMap.2 ⟨t,ht,List.mem_map.2 ⟨_,h3,rfl⟩⟩)
 rw [ZL] at h1;refine Nat.le_trans h1 ?_;clear h1 hl hn
 induction T with
 | nil=>exact Z3 _
 | cons t T ih =>
  have:=ih (fun t ht=>hT t (List.mem_cons_of_mem _ ht));have h2:=LF (xS (hT t List.mem_cons_self)).2.1;rw [List.flatMap_cons,ZM,ZL,List.map_cons,dE,ZM,ZN,ZM,aX];omega
structure LogAt (cells:List ByteArray) (fr:Nat) (Q:List (List UInt8)):Prop where
 p:∀ q∈Q,1≤q.length∧q.length≤46
 at':∀ i q,Q[i]?=some q→cells[fr+i]?=some (ofL (eP (fr+i) q))
structure SInv (cells:List ByteArray) (k a n:Nat) (C:CT):Prop where
 k1:1≤k
 kn:2*k+2≤cells.length∧cells.length≤2*k+3
 a2:a < 2
 nk:n≤k
 hd:(cells[1]?=some (hS 1 a n)∧cells[0]?=some (hS 0 a n))∨(cells[1]?=some zS∧cells[0]?=some zS∧a=0∧n=0)
 lg:∃ (Q T:List (List UInt8)),Q.length=n∧LogAt cells (2+a*k) Q∧Q.flatten=aR (T.map ofL)∧(∀ t∈T,kG t=true)∧C=oG T
theorem rW:∀ {Q:List (List UInt8)},(∀ q∈Q,1≤q.length∧q.length≤46)→Q.flatten.length≤46*Q.length
 | [],_=>ZR _
 | q::Q,h=>by
  have:=rW (Q:=Q) (fun q hq=>h q (List.mem_cons_of_mem _ hq));have:=(h q List.mem_cons_self).2;rw [List.flatten_cons,ZM,ZN];omega
theorem SInv.len {cells:List ByteArray} {k a n:Nat} {C:CT} (h:SInv cells k a n C) {l:bT} (hn:fU l) (hl:∀ x,cU l x=C x):l.length≤46*n:=by obtain ⟨Q,T,h1,h2,h3,h4,h5⟩:=h.lg;have:=V4 h4 hn (fun x=>by rw [hl,h5]);have:=rW h2.p;rw [h3] at this;omega
theorem SInv.wrong {cells:List ByteArray} {k a n:Nat} {C:CT} (h:SInv cells k a n C) {l:bT} (hn:fU l) (hl:∀ x,cU l x=C x):bE l []=0:=by obtain ⟨Q,T,h1,h2,h3,h4,h5⟩:=h.lg;exact QH h4 hn (fun x=>by rw [hl,h5])
theorem sG {k place:Nat}:kN k place zS=false:=by
 have h:gO (zS.extract 16 24)=true:=by
  have e:(zS.extract 16 24).data.toList=[0,0,0,0,0,0,0,0]:=by
   rw [dZ,aX];rfl
  rw [gO,e];rfl
 have hb:lG zS=true:=by rw [lG,h];rfl
 rw [kN,hb];rfl
theorem sM {n:Nat} (h1:4≤n):SInv (lO n).cells ((n - 2) / 2) 0 0 (fun _=>none):=by
 have hl:(lO n).cells.length=n:=by rw [lO,List.length_replicate]
 have hz:∀ i,i < n→(lO n).cells[i]?=some zS:=fun i hi=>by
  show (List.replicate n z64)[i]?=_;rw [List.getElem?_replicate,ZK hi];rfl
 refine⟨by omega,by omega,by omega,by omega,.inr ⟨hz 1 (by omega),hz 0 (by omega),rfl,rfl⟩,[],[],rfl,⟨fun q hq=>(by cases hq),fun i q hq=>(by cases hq)⟩,rfl,fun t ht=>(by cases ht),rfl⟩
theorem OK {cells:List ByteArray} {k a n:Nat} {C:CT} (h:SInv cells k a n C) {l:bT} {D:List ByteArray} (hn:fU l) (hD:AM D) (h0:0 < l.length+D.length) (hw:bE l D=0) (hc:n+cR (aZ l D)≤k) (hk:k < 5000) :
  SInv (((kQ cells (2+a*k+n) (jN (2+a*k+n) (aZ l D) (cR (aZ l D)))).set 1 (hS 1 a (n+cR (aZ l D)))).set 0 (hS 0 a (n+cR (aZ l D)))) k a (n+cR (aZ l D)) (pM C l D):=by
 obtain ⟨Q,T,h1,h2,h3,h4,h5⟩:=h.lg;have hin:=sI (l:=l) (P:=D) (N:=1000000) (by have:=hc;rw [cR] at this;omega);obtain ⟨r1,r2,r3⟩:=JG hn hD h0 hw (by omega);obtain ⟨t,ht⟩:∃ t,t=aZ l D:=⟨_,rfl⟩;have htj:t=aR [ofL (aR (cA l D))]:=ht;rw [← ht] at hc ⊢;have hak:a*k≤k:=by
  have:=h.a2;rcases(show a=0∨a=1 by omega)with e|e<;>subst e<;>omega
 have hlen:=h.kn;refine⟨h.k1,by rw [List.length_set,List.length_set,jY];exact h.kn,h.a2,hc,.inl ⟨?_,?_⟩,Q++(List.range (cR t)).map (fM t),T++[aR (cA l D)],?_,⟨?_,?_⟩,?_,?_,?_⟩
 ·rw [List.getElem?_set_ne (by omega),List.getElem?_set_self (by rw [jY];omega)]
 ·rw [List.getElem?_set_self (by rw [List.length_set,jY];omega)]
 ·rw [ZM,ZL,List.length_range,h1]
 ·intro q hq;rcases List.mem_append.1 hq with hq|hq
  ·exact h2.p q hq
  obtain ⟨i,hi,rfl⟩:=List.mem_map.1 hq;exact EW (List.mem_range.1 hi)
 ·intro i q hq;rw [List.getElem?_set_ne (by omega),List.getElem?_set_ne (by omega),iQ,dJ];by_cases hi:i < n
  ·rw [List.getElem?_append_left (by omega)] at hq;rw [ZJ (by omega)];exact h2.at' i q hq
  rw [List.getElem?_append_right (by omega),h1,Z6] at hq;have hi2:i - n < cR t:=by
   by_cases e:i - n < cR t
   ·exact e
   rw [List.getElem?_eq_none (by rw [List.length_range];omega)] at hq;cases hq
  rw [List.getElem?_range hi2] at hq;cases hq;rw [ZK (by omega),show 2+a*k+i - (2+a*k+n)=i - n by omega,sN hi2,show 2+a*k+n+(i - n)=2+a*k+i by omega]
 ·rw [List.flatten_append,JP,h3,htj,List.map_append,FF];rfl
 ·intro u hu;rcases List.mem_append.1 hu with hu|hu
  ·exact h4 u hu
  rw [ZO.1 hu];exact r1
 rw [rY,← h5,V5,r3];funext x;rw [pM,pM,r2]
def A8 (s:bT×Nat) (ps:List (ByteArray×ByteArray)):bT×Nat:=ps.foldl (fun s p=>(jQ s.1 p.1 p.2 s.2,tE s.1 p.1 s.2)) s
theorem ER:∀ (ps:List (ByteArray×ByteArray)) (s:bT×Nat),eA s.1 s.2→fU s.1→eA (A8 s ps).1 (A8 s ps).2∧fU (A8 s ps).1
 | [],s,h1,h2=>⟨h1,h2⟩
 | p::r,s,h1,h2=>ER r _ (C8 h1 p.1 p.2) (C9 h2 p.1 p.2 s.2)
def qY:List (ByteArray×ByteArray)→ByteArray→Option ByteArray
 | [],_=>none
 | p::r,k=>(qY r k).orElse fun _=>if p.1=k then some p.2 else none
theorem JM (k:ByteArray):∀ (ps:List (ByteArray×ByteArray)) (s:bT×Nat),cU (A8 s ps).1 k=(qY ps k).orElse fun _=>cU s.1 k
 | [],s=>rfl
 | p::r,s=>by
  have h:=JM k r (jQ s.1 p.1 p.2 s.2,tE s.1 p.1 s.2);show cU (A8 (jQ s.1 p.1 p.2 s.2,tE s.1 p.1 s.2) r).1 k=_;rw [h,xA,qY];cases qY r k with
  | some v=>rfl
  | none =>
   show (if p.1=k then some p.2 else cU s.1 k)=((if p.1=k then some p.2 else none).orElse fun _=>cU s.1 k)
   split<;>rfl
abbrev dY (ps:List (ByteArray×ByteArray)):bT×Nat:=A8 ([],0) ps
theorem C4 (ps:List (ByteArray×ByteArray)) (k:ByteArray):cU (dY ps).1 k=qY ps k:=by rw [dY,JM];show ((qY ps k).orElse fun _=>none)=_;cases qY ps k<;>rfl
theorem HV:eA ([]:bT) 0:=⟨List.Pairwise.nil,fun p hp=>(by cases hp)⟩
theorem yF:fU ([]:bT):=List.nodup_nil
theorem fD (ps:List (ByteArray×ByteArray)):eA (dY ps).1 (dY ps).2∧fU (dY ps).1:=ER ps _ HV yF
theorem tD {ps:List (ByteArray×ByteArray)} {p:ByteArray×ByteArray×Nat} (h:p∈(dY ps).1):(p.1,p.2.1)∈ps:=by
 obtain ⟨k,v,n⟩:=p;have e:=C7 (fD ps).2 h;rw [C4] at e;have go:∀ ps:List (ByteArray×ByteArray),qY ps k=some v→(k,v)∈ps:=by
  intro ps
  induction ps with
  | nil=>intro h;cases h
  | cons q r ih =>
   intro h;rw [qY] at h;cases e:qY r k with
   | some u =>
    rw [e] at h;cases h;exact List.mem_cons_of_mem _ (ih e)
   | none =>
    rw [e] at h;by_cases e2:q.1=k
    ·have h:(if q.1=k then some q.2 else none)=some v:=h;rw [ZK e2] at h;cases h;rw [← e2];exact List.mem_cons_self
    have h:(if q.1=k then some q.2 else none)=some v:=h;rw [ZJ e2] at h;cases h
 exact go ps e
end Go.Proofs.YtmkgeogoojcciaaGreatDoor
namespace Go.Proofs.YtmkgeogoojcciaaGreatDoor
open Go.Proofs.Tryz
open Go.Abs
theorem iJ (l:List ByteArray):∀ r∈l.map encStr,r.length=1:=fun r hr=>by
 obtain ⟨t,_,rfl⟩:=List.mem_map.1 hr;rfl
def V8 (l:List ByteArray):Ob:=bx 1 31 [.pv (aY l)]
def WQ:Ob:=bx 1 3 [iv 2]
theorem QR (l:List ByteArray) (H:aA) (h1:H.get 931=none) (h2:H.get 932=none) :
  aJ Tryz.prog 118 [.pv (aY l),iv 2] H (fun r H'=>r=.clo 145 [.ref 931 0 0 0,.ref 932 0 0 0]∧H'=(932,WQ)::(931,V8 l)::H):=by
 have h2':aA.get ((931,V8 l)::H) 932=none:=h2;refine Bd func118 rfl ntmps118<|Sr<|Dd (by exact gN (id:=931) rfl rfl rfl rfl h1)<|Dd (by exact gN (id:=932) rfl rfl rfl rfl h2')<|Dd aS<|Zz<|Sq<|Sr<|Dd (eQ aU)<|Dd eF<|Zz ?_;refine Cn ?_ ?_<;>intro hc1
 ·cases hc1
 refine aK<|Sr<|Dd (by exact eY rfl rfl)<|Dd aS<|Zz<|aN ?_;refine bD (H':=((932,WQ)::(931,V8 l)::H)) (.inr rfl) rfl (aI rfl) Fin.refl ?_;exact Qq
def vV (l:List ByteArray) (k:Nat):List ByteArray:=(l.drop (2*k)).take 2
theorem LV (l:List ByteArray) (k:Nat):((l.map encStr).drop (2*k)).take 2=(vV l k).map encStr:=by rw [vV,List.map_take,List.map_drop]
theorem S6 {n:Nat} (h:2≤n):min (2:Int) (n:Int)=2:=Int.min_eq_left (by omega)
theorem MW (l:List ByteArray) (fv:AV) (Hs:Nat→aA) (m:Nat) (hl:l.length=2*m) (hm:m < 1099511627776) (h1:∀ k,(Hs k).get 931=some (V8 l)) (h2:∀ k,(Hs k).get 932=some WQ)
  (hy:∀ k,k < m→eS Tryz.prog fv [.pv (aY (vV l k))] (Hs k) (fun r H'=>r=bv true∧H'=Hs (k+1))) :
  aJ Tryz.prog 145 [fv,.ref 931 0 0 0,.ref 932 0 0 0] (Hs 0) (fun r H'=>r=.tup []∧H'=Hs m):=by
 have hml:(l.map encStr).length=l.length:=ZL _;refine Bd func145 rfl ntmps145<|Sr<|Dd aS<|Zz<|aP ?_;refine bR (σ:=Nat) (fun k=>([(0,fv),(1,.ref 931 0 0 0),(2,.ref 932 0 0 0),(4,iv ((2*k:Nat):Int))],Hs k)) (fun k=>k≤m) (fun k=>m - k) 0 (Z3 _) ?_ ?_
 ·exact E0
 rintro k hkm;refine Sq<|Sr<|Dd aF<|Dd (by exact aW rfl dW rfl (h1 k) rfl rfl rfl)<|Dd (qQ aQ)<|Dd eF<|Zz ?_;refine Cn ?_ ?_<;>intro hc1
 ·have hlt:2*k < l.length:=by have:=ZH hc1;omega
  have hkm2:k < m:=by omega
  have hyk:=hy k hkm2;have hdl:((l.map encStr).drop (2*k)).length=l.length - 2*k:=by rw [Z1,hml]
  refine aK<|Sq<|aP<|Sq<|bU follows<|Cq (by exact aW rfl aU rfl (h2 k) rfl rfl rfl)<|Cq (by exact aW rfl dW rfl (h1 k) rfl rfl rfl)<|Cq aF<|Cq (by exact hX (l:=2*k) (h:=(l.map encStr).length) (rows':=(l.map encStr).drop (2*k)) rfl cK rfl (iJ l) rfl rfl (by omega) (ZR _) (by rw [List.take_length]))<|Cq (qQ aQ)<|Cq (by exact wU (r:=2) rfl rfl rfl (by rw [hdl];exact S6 (by omega)))<|Cq aS<|dO<|Kr<|Sr<|Dd aF<|Dd (by exact aW rfl dW rfl (h1 k) rfl rfl rfl)<|Dd aF<|Dd aF<|Dd aF<|Dd (by exact bZ rfl rfl rfl (show IntKind.i64.wrap (((2*k:Nat):Int)+2)=((2*k+2:Nat):Int)by rw [IntKind.wrap_i64];omega))<|Dd aF<|Dd aF<|Dd (by exact bZ rfl rfl rfl (show IntKind.i64.wrap (((2*k:Nat):Int)+2)=((2*k+2:Nat):Int)by rw [IntKind.wrap_i64];omega)) ?_;refine Dd (by exact NX (l:=2*k) (h:=2*k+2) (rows':=(vV l k).map encStr) rfl cK rfl (iJ l) rfl rfl rfl (by omega) (by omega) (by intro h;rw [List.map_eq_nil_iff] at h;rw [h] at hlt;exact absurd hlt (Nat.not_lt_zero _)) (by rw [← LV,List.drop_take];congr 1;omega))<|Dd (by exact gM rfl rfl rfl (hyk))<|Dd AJ<|Zz ?_;refine Cn ?_ ?_<;>intro hc2
  ·cases hc2
  refine aK<|Rg<|Dd aF<|Dd (by exact aW rfl aU rfl (h2 (k+1)) rfl rfl rfl)<|Dd (by exact bZ rfl rfl rfl (show IntKind.i64.wrap (((2*k:Nat):Int)+2)=((2*(k+1):Nat):Int)by rw [IntKind.wrap_i64];omega))<|Da ?_;exact⟨k+1,hkm2,by omega,E0⟩
 have hge:l.length≤2*k:=by have:=ZI hc1;omega
 have hkk:k=m:=by omega
 refine bL ?_;rw [← hkk];exact jJ (H':=Hs k) (.inl rfl) rfl Fin.refl ⟨rfl,rfl⟩
theorem W1 (l:List ByteArray):∀ r∈l.map encStr,r.length=1:=fun r hr=>by
 obtain ⟨t,_,rfl⟩:=List.mem_map.1 hr;rfl
theorem QP (l:List ByteArray) (H:aA) (hc:bG H) (h1:H.get 901=none) (hl:l.length < 1099511627776) :
  aJ Tryz.prog 120 [.pv (aY l)] H (fun r H'=>r=.osl 901 1 0 l.length∧H'=(901,⟨1,1,9,iL l⟩)::H):=by
 have hml:(l.map encStr).length=l.length:=ZL _;refine Bd func120 rfl ntmps120<|Sr<|Dd aS<|Zz<|Sq<|Sr<|Dm ?_;refine iM rfl rfl (HL rfl aQ rfl) ?_;rintro _ H2 ⟨e2,b,rfl,hb⟩;rw [e2];clear e2 H2;refine Zz ?_;refine Cn ?_ ?_<;>intro hc1
 ·have h0:=hb hc1;have h00:l=[]:=List.map_eq_nil_iff.1 h0;subst h00;refine Sr<|Dd (by exact pA (id:=901) (sz:=1) (ty:=9) rfl h1 rfl)<|Zz<|aN ?_;refine bD (H':=((901,⟨1,1,9,[]⟩)::H)) (.inr rfl) rfl (aI rfl) ((Fin.bump (g:=0) (k:=1) rfl rfl (by decide) rfl rfl rfl).trans (Fin.get' (fun j=>iT _ _ _ _ j))) ?_;exact Qq
 refine aK<|Sr<|Dd (by exact jK (id:=901) rfl cK rfl rfl rfl rfl (by simp) h1)<|Dd aF<|Dd (by exact gA rfl cK P9 rfl rfl rfl rfl rfl rfl rfl (W1 l) hml (by omega) (Z4 _) (show []++(l.map encStr).map (·.map AV.pv)=iL l by rw [List.nil_append,List.map_map];rfl))<|Dd aS<|Zz<|aN ?_;refine bD (H':=((901,⟨1,1,9,iL l⟩)::H)) (.inr rfl) rfl (aI rfl) (Fin.get' (fun j=>iT _ _ _ _ j)) ?_;exact Qq
end Go.Proofs.YtmkgeogoojcciaaGreatDoor
namespace Go.Proofs.YtmkgeogoojcciaaGreatDoor
open Go.Proofs.Tryz
open Go.Abs Go.Lib
theorem ES:∀ (ps l:bT) (c:Nat),(fS l c ps).1.length≤l.length+ps.length
 | [],l,c=>ZR _
 | (k,v,n)::r,l,c=>by
  have h1:=ES r (jQ l k v c) (tE l k c);have h2:=(FD k v c l).2;show (fS (jQ l k v c) (tE l k c) r).1.length≤_;rw [ZN];omega
theorem QF (P:List ByteArray):∀ l:bT,(kT l P).length≤l.length:=by
 induction P with
 | nil=>exact fun l=>ZR _
 | cons k r ih=>exact fun l=>Nat.le_trans (ih (rQ l k)) (pD k l).length_le
theorem zJ {l put ps:bT} {c:Nat} {D:List ByteArray} (hst:eA l c) (hnd:fU l) (hnp:fU put) (hp:ps.Perm put):eA (kT (fS l c ps).1 D) (fS l c ps).2∧fU (kT (fS l c ps).1 D)∧(kT (fS l c ps).1 D).length≤l.length+put.length∧∀ x,cU (kT (fS l c ps).1 D) x=pM (cU l) put D x:=by
 have h1:=JN ps l c hst hnd;have h2:=KG D _ _ h1.1 h1.2;have hnps:fU ps:=(hp.map Prod.fst).nodup_iff.2 hnp;refine⟨h2.1,h2.2,?_,fun x=>?_⟩
 ·have a1:=QF D (fS l c ps).1;have a2:=ES ps l c;have a3:=hp.length_eq;omega
 rw [QG x D _ h1.2,OY x ps l c hnps,PK hp x hnps,pM];by_cases hx:x∈D
 ·rw [ZK (iS.2 hx),ZK hx]
 rw [ZJ (fun h=>hx (iS.1 h)),ZJ hx]
abbrev rE (L:List ByteArray) (t:List UInt8) (u:Nat):bJ:=[(0,.mp 1101 0),(1,sv (ofL t)),(5,.pv (aY L)),(7,iv (u:Int)),(9,.ref 9 0 0 0)]
abbrev rK (W:List ByteArray) (j:Nat) (K:aA):aA:=(932,WQ)::(931,V8 W)::(9,RZ 950)::(950,bK (sZ W j).1 (sZ W j).2)::K
theorem LU {W:List ByteArray} {j:Nat} (h:2*j+1 < W.length):((vV W j).map encStr)[0]?=some (encStr (W.getD (2*j) sNil))∧((vV W j).map encStr)[1]?=some (encStr (W.getD (2*j+1) sNil)):=by have h0:W[2*j]?=some (W[2*j]'(by omega)):=ZQ (by omega);have h1:W[2*j+1]?=some (W[2*j+1]'h):=ZQ h;rw [Z6,Z6,vV,List.getElem?_take_of_lt (by omega),List.getElem?_take_of_lt (by omega),List.getElem?_drop,List.getElem?_drop,List.getD_eq_getElem?_getD,List.getD_eq_getElem?_getD,Nat.add_zero,h0,h1];exact Qq
theorem B8 {H:aA} {id:Nat} {o:Ob} (h:H.get id=some o):Sub [(id,o)] H:=by
 intro j o2 ho;simp only [aA.get] at ho;cases e:Nat.beq id j with
 | true =>
  rw [e] at ho;cases ho;rw [← Nat.eq_of_beq_eq_true e];exact h
 | false=>rw [e] at ho;cases ho
theorem BD (id:Nat) (l:bT) (c:Nat):bG [(id,bK l c)]:=bG.of (fun p hp=>by
 rw [ZO] at hp;subst hp;exact aT _ _ _)
theorem I7 (l:bT) (c:Nat) (P:List ByteArray) (hst:eA l c) (hl:l.length < 1099511627776) (hP:P.length < 1099511627776) (H:aA) (h:H.get 950=some (bK l c)):aJ Tryz.prog 46 [.mp 950 0,.pv (aY P)] H (fun r H'=>r=iv (bE l P)∧H'=H) :=aJ.frameS (SE l c P hst hl hP) (B8 h) (BD _ _ _) (by simp;rfl)
theorem N6 (l:bT) (c:Nat) (P:List ByteArray) (hst:eA l c) (hl:l.length < 1099511627776) (hP:P.length < 1099511627776) (hsz:(aZ l P).length < 35184372088832) (H:aA) (h:H.get 950=some (bK l c)):aJ Tryz.prog 50 [.mp 950 0,.pv (aY P)] H (fun r H'=>r=sv (ofL (aZ l P))∧H'=H) :=aJ.frameS (I8 l c P hst hl hP hsz) (B8 h) (BD _ _ _) (by simp;rfl)
theorem F6 (H:aA) (l:List ByteArray):∀ r∈(V8 l).rows,∀ a∈r,Clo H a:=by intro r hr a ha;simp only [V8,bx,ZO] at hr;subst hr;rw [ZO] at ha;subst ha;exact .pv _
theorem F7 (H:aA):∀ r∈WQ.rows,∀ a∈r,Clo H a:=by intro r hr a ha;simp only [WQ,bx,ZO] at hr;subst hr;rw [ZO] at ha;subst ha;exact .pv _
theorem N9 (H:aA) (l:List ByteArray):∀ r∈iL l,∀ a∈r,Clo H a:=by intro r hr a ha;obtain ⟨s,_,rfl⟩:=List.mem_map.1 hr;obtain ⟨p,_,rfl⟩:=List.mem_map.1 ha;exact .pv _
theorem LH (d:DSt) (k a n:Nat) (b:Bool) (l:bT) (c:Nat) (t:List UInt8) (hst:eA l c) (hnd:fU l) (ht:t.length < 1000000) :
  aJ Tryz.prog 89 [.mp 1101 0,sv (ofL t)] (sH d (cC k a n b) (bK l c)) (fun r H'=>r=bv (kG t)∧∃ l' c',eA l' c'∧fU l'∧l'.length≤l.length+t.length∧(kG t=true→∀ x,cU l' x=pM (cU l) (fJ t).1 (dK t) x)∧H'=sH d (cC k a n b) (bK l' c')):=by
 have hspl:=fun H=>EL t H (by omega);have hLl:=JI t;have hb1:rN t=(!(eE t).2||decide ((zY t).length=0)):=rfl;have hok:kG t=(!rN t&&(!kH t&&!rM t)):=rfl;have bad:kG t=false→∃ l' c',eA l' c'∧fU l'∧l'.length≤l.length+t.length∧(kG t=true→∀ x,cU l' x=pM (cU l) (fJ t).1 (dK t) x)∧sH d (cC k a n b) (bK l c)=sH d (cC k a n b) (bK l' c'):=fun h=>⟨l,c,hst,hnd,Nat.le_add_right _ _,fun h2=>(by rw [h] at h2;cases h2),rfl⟩;obtain ⟨ok,hokv⟩:∃ ok,ok=(eE t).2:=⟨_,rfl⟩;obtain ⟨L,hL⟩:∃ L,L=zY t:=⟨_,rfl⟩;have hL2:(eE t).1=L:=hL.symm;rw [← hokv,hL2] at hspl;rw [← hokv,← hL] at hb1;rw [← hL] at hLl;have hml:(L.map encStr).length=L.length:=ZL _;refine Bd func89 rfl ntmps89<|Sr<|Dd aS<|Zz<|Sr<|Dd aF<|Dd (by exact aB rfl rfl call87 rfl (hspl _))<|Dd aF<|Dd eR<|Dd eR<|Dd aS<|Dd aS<|Zz<|Sq<|Sq ?_;refine dF (t:=23) (n:=8) (X:=!ok||decide (((L.map encStr).length:Int)=0)) ?_ ?_
 ·all_goals refine Dd aF ?_
  all_goals refine Dd AJ<|Dm ?_
  all_goals refine Sp 19 (fun h19=>?_) fun h19=>?_
  all_goals try contradiction
  all_goals first|refine Fo<|Fo<|Fo ?_|refine On aF<|On (qQ aQ)<|On gS ?_
  all_goals refine Dd dU<|Zz ?_
  all_goals(exact⟨⟨_,rfl,by(rw [h19];rfl)⟩,rfl,rfl,rfl⟩)
 refine Cn ?_ ?_<;>intro hc1
 ·have hq:=hc1;have hf:kG t=false:=by
   rw [hok,hb1];have h2:(!ok||decide (L.length=0))=true:=by
    rw [hml] at hq
    rwa [show decide ((L.length:Int)=0)=decide (L.length=0)from decide_eq_decide.2 (by omega)] at hq
   rw [h2];rfl
  refine Sr<|Dd aS<|Zz<|aN ?_;refine bD (H':=(sH d (cC k a n b) (bK l c))) (.inr rfl) rfl (aI rfl) (Fin.wk (by(simp;done)) (Hc (aG _ _ rfl rfl rfl)<|Hc (aC _ _)<|Hc (aM _ _ _)<|Hc (aL _ _)<|Hc (bA rfl rfl)<|Hc (aT _ _ _)<|trivial) ⟨rfl,rfl,rfl,rfl,rfl,rfl,trivial⟩) ?_;exact⟨by rw [hf],bad hf⟩
 have hq:=hc1;rw [Z8,Bool.not_eq_false',ZT] at hq;have hl0:0 < L.length:=by omega
 have hb1f:rN t=false:=by rw [hb1,hq.1,decide_eq_false (by omega)];rfl
 obtain ⟨x,hx⟩:=bM hl0;have hix:=fV (f:=encStr) hx;have hgD:L.getD 0 sNil=x:=by rw [List.getD_eq_getElem?_getD,hx];rfl
 have hxs:x.size < 1099511627776:=by have:=CH (t:=t) (x:=x) (by rw [← hL];exact ZW hx);omega
 have hat:=fun H=>xH x hxs H;have hb2:kH t=(((gO x||decide (dG x < 0))||decide (((L.length / 2:Nat):Int) < dG x))||decide ((L.length:Int) < 2*dG x+2)):=by rw [kH,UR,← hL,hgD]
 have hN:JH t=(dG x).toNat:=by rw [JH,UR,← hL,hgD]
 obtain ⟨v,hv⟩:∃ v,v=dG x:=⟨_,rfl⟩;obtain ⟨e,he⟩:∃ e,e=gO x:=⟨_,rfl⟩;simp only [← hv,← he] at hat hb2 hN;clear hv he;have hquo:IntKind.i64.wrap (((L.map encStr).length:Int).tdiv 2)=((L.length / 2:Nat):Int):=by
  rw [hml,Int.tdiv_eq_ediv_of_nonneg (by omega),gV (by omega) (by omega)];omega
 refine aK<|Sr<|Dd aF<|Dd (by exact eT rfl cK rfl rfl (by omega) (by exact ZX _) hix rfl)<|Dd (AK bB)<|Dd (by exact aB rfl rfl R5 rfl (hat _))<|Dd aF<|Dd eR<|Dd eR<|Dd aS<|Dd aS<|Zz<|Sq<|Sq ?_;refine dF (t:=51) (n:=24) (X:=((e||decide (v < 0))||decide (((L.length / 2:Nat):Int) < v))||decide (((L.map encStr).length:Int) < 2*v+2)) ?_ ?_
 ·all_goals refine Dd aF ?_
  all_goals refine Dd (by exact sW rfl iE rfl)<|Dm ?_
  all_goals refine Sp 33 (fun h33=>?_) fun h33=>?_
  all_goals(try(with_reducible contradiction))
  all_goals first|refine Fo<|Fo ?_|refine On aF<|On eF ?_
  all_goals refine Dd dU<|Dm ?_
  all_goals refine Sp 37 (fun h37=>?_) fun h37=>?_
  all_goals(try(with_reducible contradiction))
  all_goals first|refine Fo<|Fo<|Fo<|Fo<|Fo ?_|refine On aF<|On aF<|On (qQ aQ)<|On (by exact lV rfl rfl rfl (by decide) hquo)<|On GI ?_
  all_goals refine Dd dU<|Dm ?_
  all_goals refine Sp 44 (fun h44=>?_) fun h44=>?_
  all_goals(try(with_reducible contradiction))
  all_goals first|refine Fo<|Fo<|Fo<|Fo<|Fo<|Fo ?_|refine On aF<|On (qQ aQ)<|On aF<|On (by exact fN rfl rfl rfl (by have q1:=ZI h37;have q2:=ZI h44;exact gV (by omega) (by omega)))<|On (by exact bZ rfl rfl rfl (by have q1:=ZI h37;have q2:=ZI h44;exact gV (by omega) (by omega)))<|On eF ?_
  all_goals refine Dd dU<|Zz ?_
  all_goals(exact⟨⟨_,rfl,by first|(rw [h33];rfl)|(rw [h33,h37];rfl)|(rw [h33,h37,h44];rfl)⟩,rfl,rfl,rfl⟩)
 refine Cn ?_ ?_<;>intro hc2
 ·have hq2:=hc2;rw [hml] at hq2;have hf:kG t=false:=by rw [hok,hb2,hq2,hb1f];rfl
  refine Sr<|Dd aS<|Zz<|aN ?_;refine bD (H':=(sH d (cC k a n b) (bK l c))) (.inr rfl) rfl (aI rfl) (Fin.wk (by(simp;done)) (Hc (aG _ _ rfl rfl rfl)<|Hc (aC _ _)<|Hc (aM _ _ _)<|Hc (aL _ _)<|Hc (bA rfl rfl)<|Hc (aT _ _ _)<|trivial) ⟨rfl,rfl,rfl,rfl,rfl,rfl,trivial⟩) ?_;exact⟨by rw [hf],bad hf⟩
 have hq2:=hc2;rw [hml] at hq2;have hb2f:kH t=false:=hb2.trans hq2;rw [Z8,Z8,Z8,ZT,ZT,ZT] at hq2;obtain ⟨u,rfl⟩:∃ u:Nat,v=(u:Int):=⟨v.toNat,by omega⟩;rw [ZX] at hN;obtain ⟨W,hW⟩:∃ W,W=(L.drop 1).take (2*u):=⟨_,rfl⟩;have hWl:W.length=2*u:=by rw [hW,Z0,Z1];omega
 have hWe:((L.map encStr).take (2*u+1)).drop 1=W.map encStr:=by
  rw [hW,List.map_take,List.map_drop,List.drop_take];rfl
 have hput:fJ t=sZ W u:=by
  rw [fJ,← hL,hN,hW]
  conv=>lhs;rw [← List.take_append_drop (2*u) (L.drop 1)]
  exact C0 _ _ u (by rw [Z0,Z1];omega)
 have hdrop:dK t=L.drop (2*u+2):=by rw [dK,← hL,hN]
 have hsm:=OS ht hb2f;have hb3:rM t=((((decide ((fJ t).1.length+(dK t).length=0)||!decide (bE (fJ t).1 (dK t)=0))||!decide (aZ (fJ t).1 (dK t)=aR [ofL t]))||!eU (dK t))||decide ((bY (dK t)).length < (dK t).length)):=rfl;rw [hput] at hsm hb3 bad ⊢;have hpok:=CY W u;obtain ⟨D,hD⟩:∃ D,D=dK t:=⟨_,rfl⟩;rw [← hD] at hsm hb3 hdrop bad ⊢;have hDe:((L.map encStr).take (L.map encStr).length).drop (2*u+2)=D.map encStr:=by
  rw [List.take_length,hdrop,List.map_drop]
 clear hix hx hb1 hb2 hspl;refine aK<|Sr<|Dd (by exact lW (id:=950) fX rfl rfl)<|Dd (by exact cH (id:=9) rfl X4 rfl rfl)<|Uu (qV sizeOf33)<|Zz<|Sq<|Sr<|Dd aF<|Dd aF<|Dd (by exact fN rfl rfl rfl (gV (by omega) (by omega)))<|Dd (by exact bZ rfl rfl rfl (show IntKind.i64.wrap (2*(u:Int)+1)=((2*u+1:Nat):Int)by rw [gV (by omega) (by omega)];omega))<|Dd (by exact hX (l:=1) (h:=2*u+1) (rows':=W.map encStr) rfl cK rfl (iJ L) rfl rfl (by omega) (by omega) hWe)<|Dd (by exact aB rfl rfl call118 rfl (QR W _ rfl rfl))<|Zz<|aP ?_;refine gP.ent (E':=(58,.clo 145 [.ref 931 0 0 0,.ref 932 0 0 0])::rE L t u) (H':=rK W 0 (sH d (cC k a n b) (bK l c))) (cG.wk (Ec (by(simp;exact⟨rfl,rfl⟩))<|Ea<|Eb<|Eb<|Eb<|Ea<|trivial) (Hc (F7 _)<|Hc (F6 _ _)<|Ha<|Hc (aT _ _ _)<|Hc (aG _ _ rfl rfl rfl)<|Hc (aC _ _)<|Hc (aM _ _ _)<|Hc (aL _ _)<|Hc (bA rfl rfl)<|Hc (aT _ _ _)<|trivial) ⟨rfl,rfl,rfl,rfl,rfl,rfl,trivial⟩) ?_;refine vI (id:=944) (p:=59) (rE L t u) rfl call145 rfl rfl (by simp [rE];exact⟨rfl,rfl,rfl,rfl,rfl⟩) ?_;intro x hx1 hx2 hx3 hx4 hx5 hx6;refine(MW W (.yld 944 0) (fun j=>(944,LR x (rE L t u))::rK W j (sH d (cC k a n b) (bK l c))) u hWl (by omega) (fun j=>rfl) (fun j=>rfl) ?_).mono ?_
 ·intro j hj;obtain ⟨p0,p1⟩:=LU (W:=W) (j:=j) (by omega);refine .inl ⟨944,0,rfl,?_⟩;refine B6 ((10,.pv (aY (vV W j)))::rE L t u) (rK W j (sH d (cC k a n b) (bK l c))) hx1 hx2 hx3 hx4 hx5 hx6 rfl rfl rfl ?_ ?_
  ·refine Rg<|Da ?_;exact E0
  refine aP<|bU follows<|Cs (fun _ h=>lh bS h)<|Cs (fun _ _=>aF)<|Cs (fun H1 hH=>by exact eT rfl cK rfl rfl (by omega) (by exact ZX _) p0 rfl)<|Cs (fun _ _=>(AK bB))<|Cs (fun _ _=>aF)<|Cs (fun H1 hH=>by exact eT rfl cK rfl rfl (by omega) (by exact ZX _) p1 rfl)<|Cs (fun _ _=>(AK bB)) ?_;refine cF (r:=⟨_,none,[_]⟩) (DStep.plain rfl (fun H1 hH=>by exact lZ (κ:=fX) (l:=bQ (sZ W j).1) (.inl rfl) aV aH rfl ((hH _ rfl).trans rfl) rfl rfl rfl rfl rfl (tL _ _ _ _) (xC _ _ _))) rfl ?_;refine dO<|Kr ?_;exact⟨rK W (j+1) (sH d (cC k a n b) (bK l c)),(cG.wk trivial (Hc (RS (by simp [rE];repeat(first|rfl|refine⟨rfl,?_⟩)))<|Hc (F7 _)<|Hc (F6 _ _)<|Ha<|Hc (aT _ _ _)<|Hc (aG _ _ rfl rfl rfl)<|Hc (aC _ _)<|Hc (aM _ _ _)<|Hc (aL _ _)<|Hc (bA rfl rfl)<|Hc (aT _ _ _)<|trivial) ⟨rfl,rfl,rfl,rfl,rfl,rfl,rfl,rfl,rfl,rfl,rfl,trivial⟩),rfl,rfl⟩
 rintro r H' ⟨rfl,rfl⟩;refine⟨x,_,rfl,by rw [hx1];decide,rfl,fun z=>?_⟩;rw [hx2];obtain ⟨put,cp,hpc⟩:∃ put cp,sZ W u=(put,cp):=⟨_,_,rfl⟩;simp only [hpc] at hpok hb3 hsm bad ⊢;refine gP.ent (E':=rE L t u) (H':=(9,RZ 950)::(950,bK put cp)::sH d (cC k a n b) (bK l c)) ?_ ?_
 ·simp only [rK,hpc];exact(cG.wk (Ea<|Eb<|Eb<|Eb<|Ea<|trivial) (Ha<|Hc (aT _ _ _)<|Hc (aG _ _ rfl rfl rfl)<|Hc (aC _ _)<|Hc (aM _ _ _)<|Hc (aL _ _)<|Hc (bA rfl rfl)<|Hc (aT _ _ _)<|trivial) ⟨rfl,rfl,rfl,rfl,rfl,rfl,trivial⟩)
 have hmp:(bQ put).length=put.length:=ZL _;have hmd:(D.map encStr).length=D.length:=ZL _;have hwr:=fun H hH=>I7 put cp D hpok.1 (by omega) (by omega) H hH;have htx:=fun H hH=>N6 put cp D hpok.1 (by omega) (by omega) hsm.1 H hH;have hso:=fun H=>FH D H (by omega);have hb3:rM t=((((decide (((bQ put).length:Int)+((D.map encStr).length:Int)=0)||!decide (bE put D=0))||!decide (ofL (aZ put D)=ofL (aR [ofL t])))||!eU D)||decide (((bY D).length:Int) < ((D.map encStr).length:Int))):=by
  rw [hb3,show decide (((bQ put).length:Int)+((D.map encStr).length:Int)=0)=decide (put.length+D.length=0)from decide_eq_decide.2 (by omega),show decide (((bY D).length:Int) < ((D.map encStr).length:Int))=decide ((bY D).length < D.length)from decide_eq_decide.2 (by omega),show decide (ofL (aZ put D)=ofL (aR [ofL t]))=decide (aZ put D=aR [ofL t])from decide_eq_decide.2 ⟨fun h=>by rw [← aX (aZ put D),h,aX],fun h=>by rw [h]⟩]
 rw [hb1f,hb2f,hb3] at hok;have hjs:(aR [ofL t]).length < 35184372088832:=by
  have hd:=cZ (k:=18) (u:=t.length) (by omega) (by decide);rw [dE,ZM,ZN,ZM,aX,bP];have h0:(aR []).length=0:=rfl;omega
 have hdropL:D.length≤L.length:=by rw [hdrop,Z1];omega
 cases g78:decide (((bQ put).length:Int)+((D.map encStr).length:Int)=0)with
 | true =>
  refine Sr<|Dd aF<|Dd aF<|Dd (by exact fN rfl rfl rfl (gV (by omega) (by omega)))<|Dd (by exact bZ rfl rfl rfl (show IntKind.i64.wrap (2*(u:Int)+2)=((2*u+2:Nat):Int)by rw [gV (by omega) (by omega)];omega))<|Dd (by exact hX (l:=2*u+2) (h:=(L.map encStr).length) (rows':=D.map encStr) rfl cK rfl (iJ L) rfl rfl (by omega) (ZR _) hDe)<|Dd aS<|Zz<|Sq<|Sr<|Dd (eQ bS)<|Dd (by exact vY (κ:=fX) (l:=bQ put) rfl aV rfl rfl rfl rfl)<|Dd aF<|Dd (qQ aQ)<|Dd (by exact bZ rfl rfl rfl (gV (by omega) (by omega)))<|Dd gS<|Dd aF<|Fa<|Fa<|Fa<|Fa<|Dd UT<|Dd aF<|Fo<|Fo<|Fo<|Fo<|Fo<|Fo<|Fo<|Dd dU<|Dd aF<|Fo<|Fo<|Fo<|Dd dU<|Dd aF<|Fo<|Fo<|Fo<|Fo<|Fo<|Fo<|Fo<|Dd dU<|Zz ?_;refine Cn ?_ ?_<;>intro hc3
  ·have hf:kG t=false:=by rw [hok,g78];simp
   refine Sr<|Dd aS<|Zz<|aN ?_;refine bD (H':=(sH d (cC k a n b) (bK l c))) (.inr rfl) rfl (aI rfl) (Fin.wk (by(simp;done)) (Hc (aG _ _ rfl rfl rfl)<|Hc (aC _ _)<|Hc (aM _ _ _)<|Hc (aL _ _)<|Hc (bA rfl rfl)<|Hc (aT _ _ _)<|trivial) ⟨rfl,rfl,rfl,rfl,rfl,rfl,trivial⟩) ?_;exact⟨by rw [hf],bad hf⟩
  ((cases hc3;done))
 | false =>
  cases g84:(!decide (bE put D=0))with
  | true =>
   refine Sr<|Dd aF<|Dd aF<|Dd (by exact fN rfl rfl rfl (gV (by omega) (by omega)))<|Dd (by exact bZ rfl rfl rfl (show IntKind.i64.wrap (2*(u:Int)+2)=((2*u+2:Nat):Int)by rw [gV (by omega) (by omega)];omega))<|Dd (by exact hX (l:=2*u+2) (h:=(L.map encStr).length) (rows':=D.map encStr) rfl cK rfl (iJ L) rfl rfl (by omega) (ZR _) hDe)<|Dd aS<|Zz<|Sq<|Sr<|Dd (eQ bS)<|Dd (by exact vY (κ:=fX) (l:=bQ put) rfl aV rfl rfl rfl rfl)<|Dd aF<|Dd (qQ aQ)<|Dd (by exact bZ rfl rfl rfl (gV (by omega) (by omega)))<|Dd gS<|Dd aF<|Oa (eQ bS)<|Oa aF<|Oa (by exact aB rfl rfl uK rfl (hwr _ rfl))<|Oa uG<|Dd LS<|Dd aF<|Fa<|Fa<|Fa<|Fa<|Fa<|Fa<|Fa<|Dd UT<|Dd aF<|Fo<|Fo<|Fo<|Dd dU<|Dd aF<|Fo<|Fo<|Fo<|Fo<|Fo<|Fo<|Fo<|Dd dU<|Zz ?_;refine Cn ?_ ?_<;>intro hc4
   ·have hf:kG t=false:=by rw [hok,g78,g84];simp
    refine Sr<|Dd aS<|Zz<|aN ?_;refine bD (H':=(sH d (cC k a n b) (bK l c))) (.inr rfl) rfl (aI rfl) (Fin.wk (by(simp;done)) (Hc (aG _ _ rfl rfl rfl)<|Hc (aC _ _)<|Hc (aM _ _ _)<|Hc (aL _ _)<|Hc (bA rfl rfl)<|Hc (aT _ _ _)<|trivial) ⟨rfl,rfl,rfl,rfl,rfl,rfl,trivial⟩) ?_;exact⟨by rw [hf],bad hf⟩
   ((cases hc4;done))
  | false =>
   cases g93:(!decide (ofL (aZ put D)=ofL (aR [ofL t])))with
   | true =>
    refine Sr<|Dd aF<|Dd aF<|Dd (by exact fN rfl rfl rfl (gV (by omega) (by omega)))<|Dd (by exact bZ rfl rfl rfl (show IntKind.i64.wrap (2*(u:Int)+2)=((2*u+2:Nat):Int)by rw [gV (by omega) (by omega)];omega))<|Dd (by exact hX (l:=2*u+2) (h:=(L.map encStr).length) (rows':=D.map encStr) rfl cK rfl (iJ L) rfl rfl (by omega) (ZR _) hDe)<|Dd aS<|Zz<|Sq<|Sr<|Dd (eQ bS)<|Dd (by exact vY (κ:=fX) (l:=bQ put) rfl aV rfl rfl rfl rfl)<|Dd aF<|Dd (qQ aQ)<|Dd (by exact bZ rfl rfl rfl (gV (by omega) (by omega)))<|Dd gS<|Dd aF<|Oa (eQ bS)<|Oa aF<|Oa (by exact aB rfl rfl uK rfl (hwr _ rfl))<|Oa uG<|Dd LS<|Dd aF<|Oa (eQ bS)<|Oa aF<|Oa (by exact aB rfl rfl uJ rfl (htx _ rfl))<|Oa aF<|Oa (by exact bH [[.str (ofL t)]] rfl cK rfl rfl rfl rfl rfl (by simp)) ?_;refine Oa (by exact aB rfl rfl oM rfl (kZ [ofL t] _ hjs))<|Oa OG<|Dd LS<|Dd aF<|Fa<|Fa<|Fa<|Dd UT<|Dd aF<|Fo<|Fo<|Fo<|Fo<|Fo<|Fo<|Fo<|Dd dU<|Zz ?_;refine Cn ?_ ?_<;>intro hc5
    ·have hf:kG t=false:=by rw [hok,g78,g84,g93];simp
     refine Sr<|Dd aS<|Zz<|aN ?_;refine bD (H':=(sH d (cC k a n b) (bK l c))) (.inr rfl) rfl (aI rfl) (Fin.wk (by(simp;done)) (Hc (aG _ _ rfl rfl rfl)<|Hc (aC _ _)<|Hc (aM _ _ _)<|Hc (aL _ _)<|Hc (bA rfl rfl)<|Hc (aT _ _ _)<|trivial) ⟨rfl,rfl,rfl,rfl,rfl,rfl,trivial⟩) ?_;exact⟨by rw [hf],bad hf⟩
    ((cases hc5;done))
   | false =>
    cases g98:(!eU D)with
    | true =>
     refine Sr<|Dd aF<|Dd aF<|Dd (by exact fN rfl rfl rfl (gV (by omega) (by omega)))<|Dd (by exact bZ rfl rfl rfl (show IntKind.i64.wrap (2*(u:Int)+2)=((2*u+2:Nat):Int)by rw [gV (by omega) (by omega)];omega))<|Dd (by exact hX (l:=2*u+2) (h:=(L.map encStr).length) (rows':=D.map encStr) rfl cK rfl (iJ L) rfl rfl (by omega) (ZR _) hDe)<|Dd aS<|Zz<|Sq<|Sr<|Dd (eQ bS)<|Dd (by exact vY (κ:=fX) (l:=bQ put) rfl aV rfl rfl rfl rfl)<|Dd aF<|Dd (qQ aQ)<|Dd (by exact bZ rfl rfl rfl (gV (by omega) (by omega)))<|Dd gS<|Dd aF<|Oa (eQ bS)<|Oa aF<|Oa (by exact aB rfl rfl uK rfl (hwr _ rfl))<|Oa uG<|Dd LS<|Dd aF<|Oa (eQ bS)<|Oa aF<|Oa (by exact aB rfl rfl uJ rfl (htx _ rfl))<|Oa aF<|Oa (by exact bH [[.str (ofL t)]] rfl cK rfl rfl rfl rfl rfl (by simp)) ?_;refine Oa (by exact aB rfl rfl oM rfl (kZ [ofL t] _ hjs))<|Oa OG<|Dd LS<|Dd aF<|Oa aF<|Oa (by exact aB rfl rfl call119 rfl (hso _))<|Oa AJ<|Dd LS<|Dd aF<|Fa<|Fa<|Fa<|Fa<|Fa<|Fa<|Fa<|Dd UT<|Zz ?_;refine Cn ?_ ?_<;>intro hc6
     ·have hf:kG t=false:=by rw [hok,g78,g84,g93,g98];simp
      refine Sr<|Dd aS<|Zz<|aN ?_;refine bD (H':=(sH d (cC k a n b) (bK l c))) (.inr rfl) rfl (aI rfl) (Fin.wk (by(simp;done)) (Hc (aG _ _ rfl rfl rfl)<|Hc (aC _ _)<|Hc (aM _ _ _)<|Hc (aL _ _)<|Hc (bA rfl rfl)<|Hc (aT _ _ _)<|trivial) ⟨rfl,rfl,rfl,rfl,rfl,rfl,trivial⟩) ?_;exact⟨by rw [hf],bad hf⟩
     ((cases hc6;done))
    | false =>
     refine Sr<|Dd aF<|Dd aF<|Dd (by exact fN rfl rfl rfl (gV (by omega) (by omega)))<|Dd (by exact bZ rfl rfl rfl (show IntKind.i64.wrap (2*(u:Int)+2)=((2*u+2:Nat):Int)by rw [gV (by omega) (by omega)];omega))<|Dd (by exact hX (l:=2*u+2) (h:=(L.map encStr).length) (rows':=D.map encStr) rfl cK rfl (iJ L) rfl rfl (by omega) (ZR _) hDe)<|Dd aS<|Zz<|Sq<|Sr<|Dd (eQ bS)<|Dd (by exact vY (κ:=fX) (l:=bQ put) rfl aV rfl rfl rfl rfl)<|Dd aF<|Dd (qQ aQ)<|Dd (by exact bZ rfl rfl rfl (gV (by omega) (by omega)))<|Dd gS<|Dd aF<|Oa (eQ bS)<|Oa aF<|Oa (by exact aB rfl rfl uK rfl (hwr _ rfl))<|Oa uG<|Dd LS<|Dd aF<|Oa (eQ bS)<|Oa aF<|Oa (by exact aB rfl rfl uJ rfl (htx _ rfl))<|Oa aF<|Oa (by exact bH [[.str (ofL t)]] rfl cK rfl rfl rfl rfl rfl (by simp)) ?_;refine Oa (by exact aB rfl rfl oM rfl (kZ [ofL t] _ hjs))<|Oa OG<|Dd LS<|Dd aF<|Oa aF<|Oa (by exact aB rfl rfl call119 rfl (hso _))<|Oa AJ<|Dd LS<|Dd aF<|Oa aF<|Oa (by exact aB rfl rfl call120 rfl (QP D _ (bG.ofL ⟨(by(simp;rfl)),(by exact aT _ _ _),(by exact aG _ _ rfl rfl rfl),(by exact aC _ _),(by exact aM _ _ _),(by exact aL _ _),(by exact bA rfl rfl),(by exact aT _ _ _),trivial⟩) rfl (by omega)))<|Oa (by exact aB rfl rfl Y4 rfl (B0 D 1 _ rfl (by omega)))<|Oa (by exact dD rfl aQ rfl rfl rfl)<|Oa aF<|Oa (qQ aQ)<|Oa eF<|Dd LS<|Zz ?_;refine Cn ?_ ?_<;>intro hc7
     ·have g106:=hc7;have hf:kG t=false:=by rw [hok,g78,g84,g93,g98,g106];rfl
      refine Sr<|Dd aS<|Zz<|aN ?_;refine bD (H':=(sH d (cC k a n b) (bK l c))) (.inr rfl) rfl (aI rfl) (Fin.wk (by(simp;done)) (Hc (aG _ _ rfl rfl rfl)<|Hc (aC _ _)<|Hc (aM _ _ _)<|Hc (aL _ _)<|Hc (bA rfl rfl)<|Hc (aT _ _ _)<|trivial) ⟨rfl,rfl,rfl,rfl,rfl,rfl,trivial⟩) ?_;exact⟨by rw [hf],bad hf⟩
     have g106:=hc7;have hf:kG t=true:=by rw [hok,g78,g84,g93,g98,g106];rfl
     rw [hf];refine aK<|Sr<|Dd aF<|Dd (eQ bS)<|Dm ?_;refine iM rfl rfl (aB rfl rfl Y1 rfl (RC l put c cp D _ (by omega) (by omega) hpok.1 rfl rfl rfl (bG.ofL ⟨(by exact aM _ _ _),(by(simp;done)),(by(simp;rfl)),(by exact aT _ _ _),(by exact aG _ _ rfl rfl rfl),(by exact aC _ _),(by exact aM _ _ _),(by exact aL _ _),(by exact bA rfl rfl),(by exact aT _ _ _),trivial⟩))) ?_;rintro r H' ⟨rfl,ps,hps,rfl⟩;obtain ⟨q1,q2,q3,q4⟩:=zJ (D:=D) hst hnd hpok.2 hps;refine Zz<|Sr<|Dd aS<|Zz<|aN ?_;refine bD (H':=(sH d (cC k a n b) (bK (kT (fS l c ps).1 D) (fS l c ps).2))) (.inr rfl) rfl (aI rfl) (Fin.wk (by(simp;done)) (Hc (aG _ _ rfl rfl rfl)<|Hc (aC _ _)<|Hc (aM _ _ _)<|Hc (aL _ _)<|Hc (bA rfl rfl)<|Hc (aT _ _ _)<|trivial) ⟨rfl,rfl,rfl,rfl,rfl,rfl,trivial⟩) ?_;exact⟨rfl,_,_,q1,q2,by omega,fun _=>q4,rfl⟩
def VX:Ob:=⟨0,0,0,eG (.pv .nilm) 0 0 []⟩
theorem TL {H:aA}:∀ r∈VX.rows,∀ x∈r,Clo H x:=by intro r hr x hx;simp only [VX,eG,List.map_nil,ZO] at hr;subst hr;simp only [ZY,Z2,or_false] at hx;rcases hx with rfl|rfl|rfl<;>exact .pv _
abbrev nBx:Ob:=bx 1 33 [.pv .nilm]
theorem NZ (P:List ByteArray) (hP:P.length < 1099511627776) (H:aA) :
  aJ Tryz.prog 46 [.pv .nilm,.pv (aY P)] H (fun r H'=>r=iv (bE [] P)∧H'=H):=by
 refine Pu ?_;have hcf:=fun H (h5:H.get 5=some WN)=>BZ (.clo 94 [.ref 5 0 0 0]) P (fun s=>!dB s) H (by omega) (fun s=>eS.clo call94 (D5 s H h5));have hV:bE [] P=if P.any (fun s=>!dB s)=true then 1 else 0:=by
  rw [bE];show (if(false||P.any fun s=>!dB s)=true then(1:Int)else if false=true then 2 else 0)=_;rw [Bool.false_or];rfl
 rw [hV];obtain ⟨ns,hns⟩:∃ b,b=P.any (fun s=>!dB s):=⟨_,rfl⟩;rw [← hns] at hcf ⊢;refine Bd func46 rfl ntmps46<|Sr<|Dd aS<|Zz<|Sr<|Dd (by exact cH (id:=5) rfl WV rfl rfl)<|Uu (qV sizeOf53)<|Zz<|Sr<|Dd aS<|Zz<|Sq<|Sr<|Dd aF<|Dd (by exact CX (q:=946) rfl aV rfl rfl)<|Zz<|aP ?_;refine bR (σ:=Unit) (fun _=>([(0,.pv .nilm),(1,.pv (aY P)),(5,.ref 5 0 0 0),(6,bv false),(10,.it 946 0)],[(946,VX),(5,WN)])) (fun _=>True) (fun _=>0) () trivial ?_ ?_
 ·exact(cG.wk (Eb<|Eb<|Ea<|Eb<|Ea<|trivial) (Hc TL<|Hb<|trivial) trivial)
 rintro _ -;refine Sq<|Rg ?_;refine iM rfl rfl (HY rfl rfl rfl rfl rfl) ?_;rintro _ _ (⟨rfl,rfl,hn0⟩|⟨hni,hnp,hn1,hn2,rfl,rfl⟩)
 ·refine Dd eR<|Zz<|Sq ?_;refine Cn ?_ ?_<;>intro hc1
  ·cases hc1
  refine bL<|Sq<|aP<|Sr<|Dd aF<|Dd (by exact eY rfl rfl)<|Dd (by exact aB rfl rfl call93 rfl (hcf _ rfl))<|Da ?_;refine Cn ?_ ?_<;>intro hc2
  ·have hn:ns=true:=hc2;rw [ZK hn];exact Sr<|Dd aS<|Zz<|aN<|Rt<|Qq
  have hn:¬ ns=true:=by rw [show ns=false from hc2];decide
  rw [ZJ hn];refine Sr<|Dd aF<|Da ?_;refine Cn ?_ ?_<;>intro hc3
  ·cases hc3
  exact aK<|Sr<|Dd aS<|Zz<|aN<|Rt<|Qq
 exact hn1.elim
theorem TG (H:aA) (h1:H.get 951=none) :
  aJ Tryz.prog 55 [.pv .nilm] H (fun r H'=>r=.clo 105 [.ref 951 0 0 0]∧H'=(951,nBx)::H):=by
 refine Bd func55 rfl ntmps55<|Sr<|Dd (by exact gN (id:=951) rfl rfl rfl rfl h1)<|Dd aS<|Zz<|Sr<|Dd (by exact eY rfl rfl)<|Dd aS<|Zz<|aN ?_;refine bD (H':=((951,nBx)::H)) (.inr rfl) rfl (aI rfl) Fin.refl ?_;exact Qq
theorem PM (K:aA) (h1:K.get 951=some nBx):zL 105 [.ref 951 0 0 0] (fun M=>M.Perm []) K:=by
 intro yv Hs hK h6 hcl hf hy0 hy1;have g1:∀ M,(Hs M).get 951=some nBx:=fun M=>hK M _ _ h1;refine Bd func105 rfl ntmps105<|Sr<|Dd (by exact aW rfl bS rfl (g1 []) rfl rfl rfl)<|Dd (by exact CX (q:=946) rfl aV rfl (h6 []))<|Zz<|aP ?_;refine bR (σ:=Unit) (fun _=>([(0,yv),(5,.it 946 0)],(946,VX)::Hs [])) (fun _=>True) (fun _=>0) () trivial ?_ ?_
 ·exact E0
 rintro _ -;refine Sq<|Rg ?_;refine iM rfl rfl (HY rfl rfl (get_cons_same _ _ _) rfl rfl) ?_;rintro _ _ (⟨rfl,rfl,hn0⟩|⟨hni,hnp,hn1,hn2,rfl,rfl⟩)
 ·refine Dd eR<|Zz<|Sq ?_;refine Cn ?_ ?_<;>intro hc1
  ·cases hc1
  refine bL ?_;exact jJ (H':=Hs []) (.inl rfl) rfl (Fin.pops' [(946,VX)] (by simp) (hcl _) (by simp [h6]) (by simp [h6])) ⟨rfl,[],List.Perm.refl _,rfl⟩
 exact hn1.elim
abbrev tN (g:Nat) (W:List ByteArray):aA:=[(951,nBx),(920,⟨g,1,9,dC W⟩)]
theorem VB (g:Nat) (W:List ByteArray):bG (tN g W):=bG.of (fun p hp=>by
 simp only [ZY,Z2,or_false] at hp;rcases hp with rfl|rfl
 ·intro r hr x hx;simp only [bx,ZO] at hr;subst hr;rw [ZO] at hx;subst hx;exact .pv _
 exact jM _ _)
theorem SJ (P:List ByteArray) (hP:P.length < 1099511627776) (hsz:(aZ [] P).length < 35184372088832) (H:aA) :
  aJ Tryz.prog 50 [.pv .nilm,.pv (aY P)] H (fun r H'=>r=sv (ofL (aZ [] P))∧H'=H):=by
 refine Pu ?_;have hso:=CA (L:=([]:List ByteArray)) (by decide) YO (tN 0 [dA 0]) (PM _ rfl) rfl rfl rfl rfl (VB _ _) (by simp;rfl);have hS:eD []=[]:=List.length_eq_zero_iff.1 (kX []);have hin:=sI hsz;have hpl:(P.map encStr).length=P.length:=ZL _;have hW:cA [] P=[dA 0,dA ((P.map encStr).length:Int)]++P:=by
  rw [cA,hS];rfl
 change aJ _ _ _ _ fun r H'=>r=.pv (aY (eD []))∧H'=_ at hso;rw [hS] at hso;refine Bd func50 rfl ntmps50<|Sr<|Dd aS<|Zz<|Sr<|Dd aF<|Dd (by exact UZ rfl aV rfl)<|Dd (by exact aB rfl rfl oN rfl (nQ 0 (by omega) (by omega) _))<|Dd (by exact jK (id:=920) rfl cK rfl rfl rfl rfl (show ∀ r∈dC [dA 0],r.length=1 from by intro r hr;rw [ZO.1 hr];rfl) rfl)<|Dd aS<|Zz<|Sq<|Sr<|Dd aF<|Dd (by exact aB rfl rfl Y0 rfl (TG _ rfl))<|Dd (by exact aB rfl rfl DZ rfl (hso))<|Dd (qQ aQ)<|Dd aF<|Zz<|aP ?_;refine bR (σ:=Unit) (fun _=>([(0,.pv .nilm),(1,.pv (aY P)),(5,.osl 920 0 0 1),(14,.pv (aY [])),(15,iv 0),(16,iv 0)],tN 0 [dA 0])) (fun _=>True) (fun _=>0) () trivial ?_ ?_
 ·exact E0
 rintro _ -;refine Sr<|Dd eF<|Zz<|Sq ?_;refine Cn ?_ ?_<;>intro hc1
 ·(have:=ZH hc1;omega)
 refine bL<|Sr<|Dd aF<|Dd aF<|Dd (qQ aQ)<|Dd (by exact aB rfl rfl oN rfl (nQ ((P.map encStr).length:Int) (by omega) (by omega) _))<|Dd (by exact bH [[.str (dA ((P.map encStr).length:Int))]] rfl cK rfl rfl rfl rfl rfl (by intro r hr;rw [ZO] at hr;subst hr;rfl))<|Dd (by exact gA (ps:=[[.str (dA ((P.map encStr).length:Int))]]) rfl cK P9 rfl rfl rfl rfl rfl (gI _) rfl (by intro r hr;rw [ZO] at hr;subst hr;rfl) (m:=1) rfl (by omega) rfl (kW _ _))<|Dd aS<|Zz<|Sr<|Dd aF<|Dd aF<|Dd (by exact gA (ps:=P.map encStr) rfl cK P9 rfl rfl rfl rfl rfl (gI _) rfl (by intro r hr;obtain ⟨q,_,rfl⟩:=List.mem_map.1 hr;rfl) (m:=P.length) hpl (by omega) rfl (xJ _ P))<|Dd (by exact aB rfl rfl oM rfl (J2 (W:=cA [] P) hin (by rw [hW];rfl) (by rw [hW,ZM];rfl))) ?_;exact Dd (by exact bH [[.str (ofL (aR (cA [] P)))]] rfl cK rfl rfl rfl rfl rfl (by intro r hr;rw [ZO] at hr;subst hr;rfl))<|Dd (by exact aB rfl rfl oM rfl (kZ [ofL (aR (cA [] P))] _ hsz))<|Dd aS<|Zz<|aN<|Rt<|Qq
theorem T3 (l:bT) (c:Nat) (H:aA) (h0:H.get 1101=some (bK l c)) (h6:H.get 946=none) (hcl:bG H) :
  aJ Tryz.prog 104 [.mp 1101 0,.pv .nilm] H (fun r H'=>r=.tup []∧H'=H):=by
 refine Bd func104 rfl ntmps104<|Sr<|Dd aF<|Dd (by exact CX (q:=946) rfl aV rfl h6)<|Zz<|aP ?_;refine bR (σ:=Unit) (fun _=>([(0,.mp 1101 0),(7,.it 946 0)],(946,VX)::H)) (fun _=>True) (fun _=>0) () trivial ?_ ?_
 ·exact E0
 rintro _ -;refine Sq<|Rg ?_;refine iM rfl rfl (HY rfl rfl (get_cons_same _ _ _) rfl rfl) ?_;rintro _ _ (⟨rfl,rfl,hn0⟩|⟨hni,hnp,hn1,hn2,rfl,rfl⟩)
 ·refine Dd eR<|Zz<|Sq ?_;refine Cn ?_ ?_<;>intro hc1
  ·cases hc1
  refine bL ?_;exact jJ (H':=H) (.inl rfl) rfl (Fin.pops' [(946,VX)] (by simp) hcl (by simp [h6]) (by simp [h6])) ⟨rfl,rfl⟩
 exact hn1.elim
theorem RB (l:bT) (c:Nat) (P:List ByteArray) (H:aA) (hP:P.length < 1099511627776) (h0:H.get 1101=some (bK l c)) (h6:H.get 946=none) (hcl:bG H) :
  aJ Tryz.prog 53 [.mp 1101 0,.pv .nilm,.pv (aY P)] H (fun r H'=>r=.tup []∧H'=(1101,bK (kT l P) c)::H):=by
 have hml:(P.map encStr).length=P.length:=ZL _;have hcp:=T3 l c H h0 h6 hcl;refine Bd func53 rfl ntmps53<|Sr<|Dd aF<|Dd aF<|Dd (by exact aB rfl rfl call104 rfl (hcp))<|Zz<|Sr<|Dd aF<|Dd (qQ aQ)<|Dd aF<|Zz<|aP ?_;refine bR (σ:=Nat) (fun k=>([(0,.mp 1101 0),(11,.pv (aY P)),(12,iv ((P.map encStr).length:Int)),(13,iv (k:Int))],(1101,bK (kT l (P.take k)) c)::H)) (fun k=>k≤P.length) (fun k=>P.length - k) 0 (Z3 _) ?_ ?_
 ·exact cG.get' ⟨⟨_,rfl,rfl⟩,⟨_,rfl,rfl⟩,⟨_,rfl,rfl⟩,⟨_,rfl,rfl⟩,trivial⟩ (fun j=>yS h0 j)
 intro k hk;refine Sr<|Dd eF<|Zz<|Sq ?_;refine Cn ?_ ?_<;>intro hc1
 ·have hlt:k < P.length:=by have:=ZH hc1;omega
  obtain ⟨s,hs⟩:=bM hlt;have hi:=fV (f:=encStr) hs;refine aK<|Sq<|aP<|Sr<|Dd (KV cK)<|Dd (AK bB)<|Dd aS<|Zz<|Rg<|Dd aF<|Dd aF<|Uu (by exact FQ (κ:=fX) (l:=bQ (kT l (P.take k))) rfl aV aH rfl (get_cons_same _ _ _) rfl rfl rfl rfl (DG s _))<|Zz<|Rg<|Dd rD<|Dd aF<|Zz ?_;refine⟨k+1,by omega,by omega,?_⟩;rw [BU hs];exact cG.get' ⟨⟨_,rfl,rfl⟩,⟨_,rfl,rfl⟩,⟨_,rfl,rfl⟩,⟨_,rfl,by rfl⟩,trivial⟩ (fun j=>iT _ _ _ _ j)
 have hge:k=P.length:=by have:=ZI hc1;omega
 subst hge;rw [List.take_length];refine bL ?_;exact jJ (H':=(1101,bK (kT l P) c)::H) (.inl rfl) rfl Fin.refl ⟨rfl,rfl⟩
def PH (d:DSt) (k a i:Nat):ByteArray:=EV (2+a*k+i) (bW d (2+a*k+i))
def FA (d:DSt) (k a n:Nat):Bool:=(List.range n).all fun i=>!decide (PH d k a i=sNil)
def PG (d:DSt) (k a n:Nat):List UInt8:=(List.range n).flatMap fun i=>(PH d k a i).data.toList
def yL (d:DSt) (k a n:Nat):Bool:=FA d k a n&&((eE (PG d k a n)).2&&(eE (PG d k a n)).1.all fun c=>kG c.data.toList)
def U2 (d:DSt) (k a n:Nat):CT:=oG ((eE (PG d k a n)).1.map fun c=>c.data.toList)
def wL (d:DSt) (k:Nat):Bool:=kN k 1 (bW d 1)
def JR (d:DSt) (k:Nat):Bool:=wL d k||kN k 0 (bW d 0)
def UW (d:DSt) (k:Nat):Nat:=if wL d k then oX (bW d 1)else if kN k 0 (bW d 0)then oX (bW d 0)else 0
def UV (d:DSt) (k:Nat):Nat:=if wL d k then oW (bW d 1)else if kN k 0 (bW d 0)then oW (bW d 0)else 0
theorem S1 {p:List UInt8} (h:1≤p.length):¬ ofL p=sNil:=fun e=>by
 have:=congrArg ByteArray.size e;rw [bP] at this;have h0:sNil.size=0:=rfl;omega
theorem F5 {d:DSt} {N k a n:Nat} {C:CT} (hc:Calm d N) (h:SInv d.cells k a n C) {Q:List (List UInt8)} (h1:Q.length=n) (h2:LogAt d.cells (2+a*k) Q) {i:Nat} {q:List UInt8} (hq:Q[i]?=some q):PH d k a i=ofL q:=by have hp:=h2.p q (ZW hq);rw [PH,lN hc,h2.at' i q hq];exact O1 hp.1 hp.2
theorem VV {d:DSt} {N k a n:Nat} {C:CT} (hc:Calm d N) (h:SInv d.cells k a n C) {Q:List (List UInt8)} (h1:Q.length=n) (h2:LogAt d.cells (2+a*k) Q):PG d k a n=Q.flatten:=by
 have go:∀ m,m≤n→(List.range m).flatMap (fun i=>(PH d k a i).data.toList)=(Q.take m).flatten:=by
  intro m
  induction m with
  | zero=>intro _;rfl
  | succ m ih =>
   intro hm;obtain ⟨q,hq⟩:=bM (l:=Q) (k:=m) (by omega);rw [List.range_succ,List.flatMap_append,ih (by omega),dR hq,List.flatten_append,List.flatMap_cons,List.flatMap_nil,F5 hc h h1 h2 hq,aX];rfl
 rw [PG,go n (ZR _),← h1,List.take_length]
theorem MZ {d:DSt} {N k a n:Nat} {C:CT} (hc:Calm d N) (h:SInv d.cells k a n C) (hk:k < 10000000) :
  UW d k=a∧UV d k=n∧(JR d k=true∨(JR d k=false∧bW d 0=zS))∧yL d k a n=true∧U2 d k a n=C∧bW d 1=oR 1 a n (JR d k)∧bW d 0=oR 0 a n (JR d k):=by
 obtain ⟨Q,T,h1,h2,h3,h4,h5⟩:=h.lg;have hT:PG d k a n=aR (T.map ofL):=(VV hc h h1 h2).trans h3;have hlen:=rW h2.p;have hnk:=h.nk;have hsp:eE (PG d k a n)=(T.map ofL,true):=by
  rw [hT];refine qU fun x hx=>?_;have:=nP hx;rw [← h3] at this;omega
 have hall:FA d k a n=true:=List.all_eq_true.2 fun i hi=>by
  obtain ⟨q,hq⟩:=bM (l:=Q) (k:=i) (by have:=List.mem_range.1 hi;omega);have hp:=h2.p q (ZW hq);rw [F5 hc h h1 h2 hq,decide_eq_false (S1 hp.1)];rfl
 have hok:yL d k a n=true:=by
  rw [yL,hall,hsp];simp only [Bool.true_and];refine List.all_eq_true.2 fun x hx=>?_;obtain ⟨t,ht,rfl⟩:=List.mem_map.1 hx;rw [aX];exact h4 t ht
 have hC:U2 d k a n=C:=by
  rw [U2,hsp,h5,List.map_map];congr 1;rw [show ((fun c:ByteArray=>c.data.toList)∘ofL)=id from funext fun t=>aX t,List.map_id]
 rcases h.hd with⟨g1,g0⟩|⟨g1,g0,ea,en⟩
 ·have t1:bW d 1=hS 1 a n:=by rw [lN hc,g1];rfl
  have t0:bW d 0=hS 0 a n:=by rw [lN hc,g0];rfl
  obtain ⟨p1,p2,p3⟩:=PU (place:=1) h.a2 h.nk hk;have hh:wL d k=true:=by rw [wL,t1,p3]
  have hH:JR d k=true:=by rw [JR,hh];rfl
  exact⟨by rw [UW,hh,ZK rfl,t1,p1],by rw [UV,hh,ZK rfl,t1,p2],.inl hH,hok,hC,by rw [hH,t1];rfl,by rw [hH,t0];rfl⟩
 have t1:bW d 1=zS:=by rw [lN hc,g1];rfl
 have t0:bW d 0=zS:=by rw [lN hc,g0];rfl
 have hh:wL d k=false:=by rw [wL,t1,sG]
 have hH:JR d k=false:=by rw [JR,hh,t0,sG];rfl
 exact⟨by rw [UW,hh,ZJ (by decide),t0,sG,ZJ (by decide),ea],by rw [UV,hh,ZJ (by decide),t0,sG,ZJ (by decide),en],.inr ⟨hH,t0⟩,hok,hC,by rw [hH,t1];rfl,by rw [hH,t0];rfl⟩
def cD (l:bT):List UInt8:=if l.length=0 then[] else aZ l []
abbrev zR (n:Nat):List ByteArray:=List.replicate n zS
theorem SD:zS.size=64:=by rw [bP,zB,List.length_replicate]
theorem IZ (n:Nat):∀ t∈zR n,t.size=64:=fun t ht=>by rw [List.eq_of_mem_replicate ht,SD]
def D3 (d:DSt) (k a:Nat) (w:List UInt8):Int×DSt:=if(jH d k (1 - a) 0 w).1=0 then jI (jH d k (1 - a) 0 w).2 (2+a*k+0) (zR (k - 0))else jH d k (1 - a) 0 w
def WM (d:DSt) (k:Nat) (w:List UInt8):Int×DSt:=if(D3 d k 1 w).1=0 then jI (D3 d k 1 w).2 (2+0*k+cR w) (zR (k - cR w))else D3 d k 1 w
def JE (d:DSt) (k a:Nat) (w:List UInt8):Int×DSt:=if a=1 then WM d k w else if(D3 d k 0 w).1=0 then WM (D3 d k 0 w).2 k w else D3 d k 0 w
def jT (k:Nat) (w:List UInt8) (tl:List ByteArray):List ByteArray:=hS 0 0 (cR w)::hS 1 0 (cR w)::(jN 2 w (cR w)++(zR (k - cR w)++(zR k++tl)))
theorem F3 {d:DSt} {n:Nat} (h:Calm d n) {k a:Nat} {w:List UInt8} (hk:2*k+2≤n) (hn:n≤8000) (ha:a < 2) (hw:cR w≤k) :
  (D3 d k a w).1=0∧Calm (D3 d k a w).2 n∧(D3 d k a w).2.cells=kQ (((kQ d.cells (2+(1 - a)*k+0) (jN (2+(1 - a)*k+0) w (cR w))).set 1 (hS 1 (1 - a) (0+cR w))).set 0 (hS 0 (1 - a) (0+cR w))) (2+a*k+0) (zR (k - 0)):=by
 have hak:a*k≤k:=by
  rcases(show a=0∨a=1 by omega)with e|e<;>subst e<;>omega
 obtain ⟨a1,a2,a3⟩:=tZ h (k:=k) (a:=1 - a) (cn:=0) (t:=w) hk hn (by omega) (by omega);obtain ⟨b1,b2,b3⟩:=tW a2 (place:=2+a*k+0) (L:=zR (k - 0)) (by rw [List.length_replicate];omega) (IZ _) (by rw [List.length_replicate];omega);rw [D3,ZK a1];exact⟨b1,b2,by rw [b3,a3]⟩
theorem F4 {d:DSt} {n:Nat} (h:Calm d n) {k:Nat} {w:List UInt8} (hk:2*k+2≤n) (hn:n≤8000) (hw:cR w≤k) :
  (WM d k w).1=0∧Calm (WM d k w).2 n∧(WM d k w).2.cells=jT k w (d.cells.drop (2*k+2)):=by
 obtain ⟨a1,a2,a3⟩:=F3 h (k:=k) (a:=1) (w:=w) hk hn (by omega) hw;obtain ⟨b1,b2,b3⟩:=tW a2 (place:=2+0*k+cR w) (L:=zR (k - cR w)) (by rw [List.length_replicate];omega) (IZ _) (by rw [List.length_replicate];omega);rw [WM,ZK a1];refine⟨b1,b2,?_⟩;have hl:=h.inv.n;rw [b3,a3];refine List.ext_getElem? fun j=>?_;rw [iQ,iQ,jY,List.length_set,List.length_set,jY,List.length_replicate,List.length_replicate];rw [jT];rcases(show j=0∨j=1∨∃ i,j=i+2 by
  match j with
  | 0=>exact .inl rfl
  | 1=>exact .inr (.inl rfl)
  | i+2=>exact .inr (.inr ⟨i,rfl⟩))with rfl|rfl|⟨i,rfl⟩
 ·rw [ZJ (by omega),ZJ (by omega),List.getElem?_set_self (by rw [List.length_set,jY];omega)];rw [Z4];rfl
 ·rw [ZJ (by omega),ZJ (by omega),List.getElem?_set_ne (by omega),List.getElem?_set_self (by rw [jY];omega)];rw [Z4];rfl
 rw [List.getElem?_cons_succ,List.getElem?_cons_succ,List.getElem?_set_ne (by omega),List.getElem?_set_ne (by omega),iQ,dJ];by_cases h1:i < cR w
 ·rw [ZJ (by omega),ZJ (by omega),ZK (by omega),List.getElem?_append_left (by rw [dJ];exact h1),sN h1,show i+2 - (2+(1 - 1)*k+0)=i by omega,sN h1,show 2+(1 - 1)*k+0=2 by omega]
 rw [List.getElem?_append_right (by rw [dJ];omega),dJ];by_cases h2:i < k
 ·rw [ZK (by omega),List.getElem?_append_left (by rw [List.length_replicate];omega),List.getElem?_replicate,List.getElem?_replicate,ZK (by omega),ZK (by omega)]
 rw [ZJ (by omega),List.getElem?_append_right (by rw [List.length_replicate];omega),List.length_replicate];by_cases h3:i < 2*k
 ·rw [ZK (by omega),List.getElem?_append_left (by rw [List.length_replicate];omega),List.getElem?_replicate,List.getElem?_replicate,ZK (by omega),ZK (by omega)]
 rw [ZJ (by omega),ZJ (by omega),List.getElem?_append_right (by rw [List.length_replicate];omega),List.length_replicate,List.getElem?_drop];congr 1;omega
theorem QT {d:DSt} {n:Nat} (h:Calm d n) {k a:Nat} {w:List UInt8} (hk:2*k+2≤n) (hn:n≤8000) (ha:a < 2) (hw:cR w≤k) :
  (JE d k a w).1=0∧Calm (JE d k a w).2 n∧(JE d k a w).2.cells=jT k w (d.cells.drop (2*k+2)):=by
 rw [JE];by_cases e:a=1
 ·rw [ZK e];exact F4 h hk hn hw
 rw [ZJ e];obtain ⟨a1,a2,a3⟩:=F3 h (k:=k) (a:=0) (w:=w) hk hn (by omega) hw;rw [ZK a1];obtain ⟨b1,b2,b3⟩:=F4 a2 hk hn hw;refine⟨b1,b2,?_⟩;rw [b3];congr 1;rw [a3];have hl:=h.inv.n;refine List.ext_getElem? fun j=>?_;rw [List.getElem?_drop,List.getElem?_drop,iQ,List.length_replicate,ZJ (by omega),List.getElem?_set_ne (by omega),List.getElem?_set_ne (by omega),iQ,dJ,ZJ (by omega)]
theorem G9 {cells:List ByteArray} {k a n:Nat} {C:CT} (h:SInv cells k a n C) {l:bT} (hn:fU l) (hl:∀ x,cU l x=C x) (hw:cR (cD l)≤k) (hk:k < 5000) :
  SInv (jT k (cD l) (cells.drop (2*k+2))) k 0 (cR (cD l)) C:=by
 have hkn:=h.kn;have hwr:=h.wrong hn hl;obtain ⟨w,hW⟩:∃ w,w=cD l:=⟨_,rfl⟩;have hlen:(jT k w (cells.drop (2*k+2))).length=cells.length:=by
  rw [← hW] at hw;rw [jT,ZN,ZN,ZM,dJ,ZM,ZM,List.length_replicate,List.length_replicate,Z1];omega
 rw [← hW] at hw ⊢;have hat:LogAt (jT k w (cells.drop (2*k+2))) (2+0*k) ((List.range (cR w)).map (fM w)):=by
  refine⟨fun q hq=>?_,fun i q hq=>?_⟩
  ·obtain ⟨i,hi,rfl⟩:=List.mem_map.1 hq;exact EW (List.mem_range.1 hi)
  rw [Z6] at hq;have hi:i < cR w:=by
   by_cases e:i < cR w
   ·exact e
   rw [List.getElem?_eq_none (by rw [List.length_range];omega)] at hq;cases hq
  rw [List.getElem?_range hi] at hq;cases hq;rw [jT,show 2+0*k+i=i+2 by omega,List.getElem?_cons_succ,List.getElem?_cons_succ,List.getElem?_append_left (by rw [dJ];exact hi),sN hi,Nat.add_comm i 2]
 refine⟨h.k1,by rw [hlen];exact hkn,by omega,hw,.inl ⟨rfl,rfl⟩,?_⟩;have hfl:((List.range (cR w)).map (fM w)).flatten=w:=JP w;by_cases h0:l.length=0
 ·have hw0:w=[]:=by rw [hW,cD,ZK h0]
  refine⟨_,[],?_,hat,by rw [hfl,hw0];rfl,fun t ht=>(by cases ht),?_⟩
  ·rw [ZL,List.length_range]
  funext x;rw [← hl,List.length_eq_zero_iff.1 h0];rfl
 have hwt:w=aZ l []:=by rw [hW,cD,ZJ h0]
 have hin:=sI (l:=l) (P:=[]) (N:=1000000) (by rw [← hwt];have:=hw;rw [cR] at this;omega);obtain ⟨r1,r2,r3⟩:=JG hn (P:=[]) List.Pairwise.nil (by omega) hwr (by omega);refine⟨_,[aR (cA l [])],?_,hat,by rw [hfl,hwt];rfl,fun t ht=>by rw [ZO.1 ht];exact r1,?_⟩
 ·rw [ZL,List.length_range]
 funext x;show C x=V5 (fun _=>none) (aR (cA l [])) x;rw [V5,r3,pM,ZJ Z2,r2,hl];cases C x<;>rfl
def VE (i:Nat):Nat:=if i=950 then 1101 else if i=1101 then 950 else i
theorem SK (i:Nat):VE (VE i)=i:=by
 unfold VE
 repeat' split
 all_goals omega
theorem CI (ρ:Nat→Nat) (l:bT) (c:Nat):iP ρ (bK l c)=bK l c:=by
 show (⟨0,0,c,(fK fX (bQ l)).map (iA ρ)⟩:Ob)=⟨0,0,c,fK fX (bQ l)⟩;have:∀ r∈fK fX (bQ l),iA ρ r=r:=by
  intro r hr;obtain ⟨p,hp,rfl⟩:=List.mem_map.1 hr;obtain ⟨q,_,rfl⟩:=List.mem_map.1 hp;rfl
 rw [List.map_congr_left this,List.map_id']
theorem OU (l:bT) (c:Nat):jG VE [(950,bK l c)]=[(1101,bK l c)]:=by show [(VE 950,iP VE (bK l c))]=_;rw [CI];rfl
theorem SI (l:bT) (c:Nat) (P:List ByteArray) (hst:eA l c) (hl:l.length < 1099511627776) (hP:P.length < 1099511627776) (hsz:(aZ l P).length < 35184372088832) (H:aA) (h:H.get 1101=some (bK l c)) :
  aJ Tryz.prog 50 [.mp 1101 0,.pv (aY P)] H (fun r H'=>r=sv (ofL (aZ l P))∧H'=H):=by
 have h1:=aJ.ren (ρ:=VE) SK (I8 l c P hst hl hP hsz) (args':=[.mp 1101 0,.pv (aY P)]) (H':=[(1101,bK l c)]) (r':=sv (ofL (aZ l P))) (H1':=[(1101,bK l c)]) rfl (OU l c) rfl (OU l c);refine aJ.frameS h1 (fun j o ho=>?_) (bG.ofL ⟨aT _ _ _,trivial⟩) (by simp;rfl);simp only [aA.get] at ho;cases e:Nat.beq 1101 j with
 | true =>
  rw [e] at ho;cases ho;rw [← Nat.eq_of_beq_eq_true e];exact h
 | false=>rw [e] at ho;cases ho
theorem OP {d:DSt} {N m:Nat} (h:DInv d N m) (k a n:Nat) (l:bT) (c:Nat) (hk:k < 4000) (hkN:2*k+2≤N) (ha:a < 2) (hn:n≤k) (hm:m≤10) (hst:eA l c) (hl:l.length < 1099511627776) (hsz:(aZ l []).length < 100000000000) :
  aJ Tryz.prog 21 [.ref 1100 0 0 0] (sH d (cC k a n false) (bK l c)) (fun r H'=>(k < cR (cD l)∧r=iv 21∧H'=sH d (cC k a n false) (bK l c))∨(cR (cD l)≤k∧r=iv (JE d k a (cD l)).1∧∃ a' n',a' < 2∧n'≤k∧((JE d k a (cD l)).1=0→a'=0∧n'=cR (cD l))∧H'=sH (JE d k a (cD l)).2 (cC k a' n' (!decide ((JE d k a (cD l)).1=0))) (bK l c))):=by
 have htx:=fun H hH=>SI l c [] hst hl (by decide) (by omega) H hH;have hml:(bQ l).length=l.length:=ZL _;have hW:cD l=if l.length=0 then[] else aZ l []:=rfl
 have hwl:(cD l).length < 100000000000:=by
  rw [hW]
  split
  ·decide
  exact hsz
 refine Bd func21 rfl ntmps21<|Sr<|Dd aS<|Zz<|Sq<|aP<|Sr<|Dd aF<|Dd (by exact cT rfl fY rfl rfl rfl rfl)<|Da ?_;refine Cn ?_ ?_<;>intro hc1
 ·cases hc1
 refine Sr<|Dd aF<|Dd fH<|Dd (dX jR)<|Dd (eQ dM)<|Da ?_;refine Cn ?_ ?_<;>intro hc2
 ·cases hc2
 refine aK<|Sr<|Da ?_;refine nZ (fun(_:Unit)=>([(0,.ref 1100 0 0 0),(2,iv 0),(3,sv (ofL (cD l)))],sH d (cC k a n false) (bK l c))) (fun _=>True) ?_ ?_
 ·refine Sr<|Dd aF<|Dd fH<|Dd (dX rS)<|Dd (eQ bS)<|Dd (by exact vY (κ:=fX) (l:=bQ l) rfl aV rfl rfl rfl rfl)<|Dd GI<|Zz ?_;refine Cn ?_ ?_<;>intro hc3
  ·have hq:¬ l.length=0:=by have:=ZH hc3;omega
   rw [hW,ZJ hq];refine Rg<|Dd aF<|Dd fH<|Dd (dX rS)<|Dd (eQ bS)<|Dd (by exact aB rfl rfl uJ rfl (htx _ rfl))<|Da ?_;exact⟨(),trivial,(cG.wk (Ea<|Eb<|Eb<|trivial) (Hc (aG _ _ rfl rfl rfl)<|Hc (aC _ _)<|Hc (aM _ _ _)<|Hc (aL _ _)<|Hc (bA rfl rfl)<|Hc (aT _ _ _)<|trivial) ⟨rfl,rfl,rfl,rfl,rfl,rfl,trivial⟩)⟩
  have hq:l.length=0:=by have:=ZI hc3;omega
  rw [hW,ZK hq];refine aK ?_;exact⟨(),trivial,(cG.wk (Ea<|Eb<|Eb<|trivial) (Hc (aG _ _ rfl rfl rfl)<|Hc (aC _ _)<|Hc (aM _ _ _)<|Hc (aL _ _)<|Hc (bA rfl rfl)<|Hc (aT _ _ _)<|trivial) ⟨rfl,rfl,rfl,rfl,rfl,rfl,trivial⟩)⟩
 rintro _ -;obtain ⟨w,hw⟩:∃ w,w=cD l:=⟨_,rfl⟩;rw [← hw] at hwl ⊢;clear hW htx;have hcn:=fun H=>zD w (by omega) H;refine Sq<|Sq<|bU follows<|Cq aF<|Cq (by exact aB rfl rfl Y3 rfl (hcn _))<|Cq aF<|Cq fH<|Cq (dX rT)<|Cq (eQ aU)<|Cq GI<|dO<|Kr ?_;refine Cn ?_ ?_<;>intro hc4
 ·have hq:k < cR w:=by have:=ZH hc4;omega
  refine Sr<|Dd aS<|Zz<|aN ?_;refine bD (H':=(sH d (cC k a n false) (bK l c))) (.inr rfl) rfl (aI rfl) (Fin.wk (by(simp;done)) (Hc (aG _ _ rfl rfl rfl)<|Hc (aC _ _)<|Hc (aM _ _ _)<|Hc (aL _ _)<|Hc (bA rfl rfl)<|Hc (aT _ _ _)<|trivial) ⟨rfl,rfl,rfl,rfl,rfl,rfl,trivial⟩) ?_;exact .inl ⟨hq,rfl,rfl⟩
 have hq:cR w≤k:=by have:=ZI hc4;omega
 refine aK<|aP ?_;refine NC (fun(d1:DSt) (a1 n1 m1:Nat)=>([(0,.ref 1100 0 0 0),(3,sv (ofL w))],sH d1 (cC k a1 n1 false) (bK l c))) (fun d1 a1 n1 m1=>DInv d1 N m1∧a1 < 2∧n1≤k∧(m1≤10∨(a1=1∧m1≤10010))∧JE d k a w=JE d1 k a1 w) (fun d1 a1 n1 m1=>1 - a1) d a n m ⟨h,ha,hn,.inl hm,rfl⟩ ?_ ?_
 ·exact(cG.wk (Ea<|Eb<|trivial) (Hc (aG _ _ rfl rfl rfl)<|Hc (aC _ _)<|Hc (aM _ _ _)<|Hc (aL _ _)<|Hc (bA rfl rfl)<|Hc (aT _ _ _)<|trivial) ⟨rfl,rfl,rfl,rfl,rfl,rfl,trivial⟩)
 rintro d1 a1 n1 m1 ⟨hi,ha1,hn1,hm1,hsc⟩;rw [hsc];have hwl2:w.length < 100000000:=by rw [cR] at hq;omega
 have hadd:=RI hi k a1 n1 (1 - a1) 0 false l c w hwl2 (by omega) (by omega) (by omega) (by omega);have hai:=RJ hi k (1 - a1) 0 w (by omega);rw [Z4] at hadd;obtain ⟨x,hx⟩:∃ x,x=jH d1 k (1 - a1) 0 w:=⟨_,rfl⟩;rw [← hx] at hadd hai;have hR:D3 d1 k a1 w=if x.1=0 then jI x.2 (2+a1*k+0) (zR (k - 0))else x:=by rw [D3,← hx]
 have hS:JE d1 k a1 w=if a1=1 then(if(D3 d1 k a1 w).1=0 then jI (D3 d1 k a1 w).2 (2+0*k+cR w) (zR (k - cR w))else D3 d1 k a1 w)else if(D3 d1 k a1 w).1=0 then JE (D3 d1 k a1 w).2 k 1 w else D3 d1 k a1 w:=by
  rcases(show a1=0∨a1=1 by omega)with e|e<;>subst e<;>rfl
 have hcl:=F2 hai k (1 - a1) (cR w) a1 0 false l c (by omega) ha1 (Z3 _) (by omega);have hyi:=kP hai (2+a1*k+0) (zR (k - 0)) (by rw [List.length_replicate];omega);rw [List.length_replicate] at hyi;obtain ⟨y,hy⟩:∃ y,y=jI x.2 (2+a1*k+0) (zR (k - 0)):=⟨_,rfl⟩;rw [← hy] at hcl hyi hR;have hcl2:=F2 hyi k (1 - a1) (cR w) 0 (cR w) false l c (by omega) (by omega) hq (by omega);obtain ⟨z,hz⟩:∃ z,z=jI y.2 (2+0*k+cR w) (zR (k - cR w)):=⟨_,rfl⟩;rw [← hz] at hcl2;clear hx hsc;refine aP<|Sr<|Dd aF<|Dd fH<|Dd (dX lK)<|Dd (dX rV)<|Dd (eQ aU)<|Dd aS<|Zz<|Sr<|Dd aF<|Dd aF<|Dd (by exact dQ rfl rfl rfl (show IntKind.i64.wrap (1 - (a1:Int))=((1 - a1:Nat):Int)by rw [gV (by omega) (by omega)];omega))<|Dd (NR M6)<|Dd aF<|Dd (by exact aB rfl rfl Y2 rfl (hadd))<|Dd aS<|Zz<|Sq<|Sr<|Dd aF<|Dd gS<|Zz ?_;refine Cn ?_ ?_<;>intro hc5
 ·have e0:x.1=0:=ZH hc5;rw [ZK e0] at hR ⊢;rw [hR] at hS;refine Rg<|Dd aF<|Dd aF<|Dd (by exact aB rfl rfl call56 rfl (hcl))<|Dd aS<|Zz<|Sq<|Sr<|Dd aF<|Dd uG<|Zz ?_;refine Cn ?_ ?_<;>intro hc6
  ·have e1:¬ y.1=0:=by have h:=hc6;simpa using h
   have hS2:JE d1 k a1 w=y:=by
    rw [hS,ZJ e1,ZJ e1,ite_self]
   rw [hS2];refine Sr<|Dd aF<|Dd aS<|Zz<|aN ?_;refine bD (H':=(sH y.2 (cC k (1 - a1) (cR w) (false||!decide (y.1=0))) (bK l c))) (.inr rfl) rfl (aI rfl) (Fin.wk (by(simp;done)) (Hc (aG _ _ rfl rfl rfl)<|Hc (aC _ _)<|Hc (aM _ _ _)<|Hc (aL _ _)<|Hc (bA rfl rfl)<|Hc (aT _ _ _)<|trivial) ⟨rfl,rfl,rfl,rfl,rfl,rfl,trivial⟩) ?_;exact .inr ⟨hq,rfl,1 - a1,cR w,by omega,hq,fun h=>absurd h e1,rfl⟩
  have e1:y.1=0:=by have h:=hc6;simpa using h
  rw [ZK e1,ZK e1,← hz] at hS;have hb:(false||!decide (y.1=0))=false:=by rw [e1];rfl
  rw [hb];refine aK<|Sr<|Dd aF<|Dd gS<|Zz ?_;refine Cn ?_ ?_<;>intro hc7
  ·have e2:a1=1:=by have:=ZH hc7;omega
   rw [ZK e2] at hS;rw [hS];refine Sr<|Dd aF<|Dd aF<|Dd fH<|Dd (dX lK)<|Dd (dX mG)<|Dd (eQ aU)<|Dd (by exact aB rfl rfl call56 rfl (hcl2))<|Dd aS<|Zz<|aN ?_;refine bD (H':=(sH z.2 (cC k (1 - a1) (cR w) (false||!decide (z.1=0))) (bK l c))) (.inr rfl) rfl (aI rfl) (Fin.wk (by(simp;done)) (Hc (aG _ _ rfl rfl rfl)<|Hc (aC _ _)<|Hc (aM _ _ _)<|Hc (aL _ _)<|Hc (bA rfl rfl)<|Hc (aT _ _ _)<|trivial) ⟨rfl,rfl,rfl,rfl,rfl,rfl,trivial⟩) ?_;exact .inr ⟨hq,rfl,1 - a1,cR w,by omega,hq,fun _=>⟨by omega,rfl⟩,rfl⟩
  have e2:¬ a1=1:=by have:=ZI hc7;omega
  rw [ZJ e2] at hS;have e3:a1=0:=by omega
  subst e3;refine aK ?_;exact⟨y.2,1,cR w,_,⟨hyi,by omega,hq,.inr ⟨rfl,by omega⟩,hS⟩,by omega,(cG.wk (Ea<|Eb<|trivial) (Hc (aG _ _ rfl rfl rfl)<|Hc (aC _ _)<|Hc (aM _ _ _)<|Hc (aL _ _)<|Hc (bA rfl rfl)<|Hc (aT _ _ _)<|trivial) ⟨rfl,rfl,rfl,rfl,rfl,rfl,trivial⟩)⟩
 have e0:¬ x.1=0:=ZI hc5;rw [ZJ e0] at hR ⊢;rw [hR] at hS;have hS2:JE d1 k a1 w=x:=by
  rw [hS,ZJ e0,ZJ e0,ite_self]
 rw [hS2];have hd0:decide (x.1=0)=false:=decide_eq_false e0;refine aK<|Sq<|Sr<|Dd aF<|Dd uG<|Zz ?_;refine Cn ?_ ?_<;>intro hc8
 ·refine Sr<|Dd aF<|Dd aS<|Zz<|aN ?_;refine bD (H':=(sH x.2 (cC k a1 n1 (!decide (x.1=0))) (bK l c))) (.inr rfl) rfl (aI rfl) (by rw [hd0];exact(Fin.wk (by(simp;done)) (Hc (aG _ _ rfl rfl rfl)<|Hc (aC _ _)<|Hc (aM _ _ _)<|Hc (aL _ _)<|Hc (bA rfl rfl)<|Hc (aT _ _ _)<|trivial) ⟨rfl,rfl,rfl,rfl,rfl,rfl,trivial⟩)) ?_;exact .inr ⟨hq,rfl,a1,n1,ha1,hn1,fun h=>absurd h e0,rfl⟩
 (have h:=hc8;simp [e0] at h)
end Go.Proofs.YtmkgeogoojcciaaGreatDoor
namespace Go.Proofs.YtmkgeogoojcciaaGreatDoor
open Go.Proofs.Tryz
open Go.Abs
theorem JB {F:FuncId} {caps:List AV} {L:List ByteArray} (hL:L.length < 1099511627776) (hE:∀ (args:Array Value) (w:World),(callFunc F args).run Tryz.prog w=.ok (.enter F args) w) (K:aA) (hS:zL F caps (fun M=>M.Perm L) K) (k2:K.get 942=none) (k4:K.get 944=none) (k5:K.get 945=none) (k6:K.get 946=none) (hc:bG K) (hcap:Clo K (.clo F caps)) :
  aJ Tryz.prog 48 [.clo F caps] K (fun r H'=>r=.osl 945 L.length 0 L.length∧H'=(945,⟨L.length,1,9,dN (cQ L)⟩)::K):=by
 refine Bd func48 rfl ntmps48<|Sr<|Dd aS<|Zz<|Sr<|Dm ?_;refine iM rfl rfl (aB rfl rfl call95 rfl (F1 hE K hS k2 k4 k5 k6 hc hcap)) ?_;rintro r H' ⟨M,hperm,rfl,rfl⟩;have hMl:M.length < 4611686018427387904:=by rw [hperm.length_eq];omega
 have hSo:=xO hperm;have hln:M.length=L.length:=hperm.length_eq;refine Dd aS<|Zz<|Sr<|Dd aF<|Dd (by exact aB rfl rfl call96 rfl (AZ M rfl rfl hMl))<|Zz<|Sr<|Dd aF<|Dd aS<|Zz<|aN ?_;refine bD (H':=((945,⟨M.length,1,9,dN (cQ M)⟩)::K)) (.inr rfl) rfl (aI rfl) (Fin.get' (fun j=>iT _ _ _ _ j)) ?_;exact⟨by rw [hln],by rw [hSo,hln]⟩
end Go.Proofs.YtmkgeogoojcciaaGreatDoor
namespace Go.Proofs.YtmkgeogoojcciaaGreatDoor
open Go.Proofs.Tryz
open Go.Abs Go.Lib
structure OnD (d:DSt) (n:Nat):Prop where
 inv:DInv d n 0
 off:d.off=false
structure D2 (d:DSt) (n:Nat):Prop where
 inv:DInv d n 0
 off:d.off=true
 na:∀ a w b,d.arm≠.on a w b
theorem OnD.q {d:DSt} {n:Nat} (h:OnD d n):d.q=[]:=List.length_eq_zero_iff.1 (Nat.le_zero.1 h.inv.q)
theorem Calm.on {d:DSt} {n:Nat} (h:Calm d n):OnD d n:=⟨h.inv,h.off⟩
def UL (cells:List ByteArray) (p:Nat) (L c':List ByteArray):Prop:=∃ m,m≤L.length∧(c'=kQ cells p (L.take m)∨∃ t j,L[m]?=some t∧1≤j∧j≤64∧c'=(kQ cells p (L.take m)).set (p+m) (oH (t.extract 0 j) ((cells[p+m]?).getD ⟨#[]⟩)))
theorem JK:∀ (L:List ByteArray) (p:Nat),(sF p L).length=L.length
 | [],_=>rfl
 | t::r,p=>by rw [sF,ZN,JK r,ZN]
theorem EQ:∀ (L:List ByteArray) (p m:Nat),(sF p L).take m=sF p (L.take m)
 | [],p,m=>by rw [sF,List.take_nil,List.take_nil];rfl
 | t::r,p,0=>rfl
 | t::r,p,m+1=>by rw [sF,List.take_succ_cons,EQ r,List.take_succ_cons,sF]
theorem JL:∀ (L:List ByteArray) (p m:Nat),(sF p L)[m]?=(L[m]?).map fun t=>(p+m,t)
 | [],p,m=>rfl
 | t::r,p,0=>rfl
 | t::r,p,m+1=>by
  rw [sF,List.getElem?_cons_succ,List.getElem?_cons_succ,JL r];congr 1;funext x;rw [Nat.add_assoc,Nat.add_comm 1 m]
theorem BR {cells:List ByteArray} {s:DSt} {place:Nat} {L:List ByteArray} {i:Nat} (hi:i≤L.length) (hq:s.q=sF place (L.take i)) (hc:s.cells=cells) (w b:Int):UL cells place L (mY s w b):=by
 have hqm:∀ m,m≤i→s.q.take m=sF place (L.take m):=fun m hm=>by rw [hq,EQ,List.take_take,Nat.min_eq_left hm]
 have hql:s.q.length=i:=by rw [hq,JK,Z0];omega
 obtain ⟨m,hM⟩:∃ m,m=yX s w:=⟨_,rfl⟩;have hmi:m≤i:=by rw [hM,yX];omega
 rw [mY,← hM,hqm m hmi,wT,hc];refine⟨m,by omega,?_⟩;cases e:s.q[m]? with
 | none=>exact .inl rfl
 | some p =>
  rw [hq,JL] at e;rw [D9];by_cases hb:0 < b
  ·rw [ZK hb];by_cases hmi2:m < i
   ·rw [List.getElem?_take_of_lt hmi2] at e;cases e2:L[m]? with
    | none=>rw [e2] at e;cases e
    | some t =>
     rw [e2] at e;cases e;refine .inr ⟨t,(min b 64).toNat,rfl,by omega,by omega,?_⟩;show (kQ cells place (List.take m L)).set (place+m) (oH (t.extract 0 (min b 64).toNat) (((kQ cells place (List.take m L))[place+m]?).getD ⟨#[]⟩))=_;rw [iQ,Z0,ZJ (by omega)]
   rw [List.getElem?_eq_none (by rw [Z0];omega)] at e;cases e
  rw [ZJ hb];exact .inl rfl
theorem BS {s:DSt} {n m:Nat} (h:DInv s n m) (ho:s.off=false) (w b:Int):D2 (kO s w b) n:=by have hi:=tG h w b;rw [kO,ZJ (by rw [ho];decide)] at hi ⊢;exact⟨⟨hi.ok,hi.arm,hi.n,Z3 _⟩,rfl,fun a w b e=>(BT e).elim⟩
theorem FY {s:DSt} {n m:Nat} (h:DInv s n m) (ho:s.off=false):(eN s=0∧(dP s).off=false∧(dP s).q=s.q∧(dP s).cells=s.cells)∨(eN s=22∧∃ w b,dP s=kO s w b):=by
 unfold eN dP;cases e:s.arm with
 | never=>exact .inl ⟨rfl,ho,rfl,rfl⟩
 | off a w b=>exact .inl ⟨rfl,ho,rfl,rfl⟩
 | on a w b =>
  by_cases ha:0 < a
  ·refine .inl ?_;simp only [ZK ha];exact⟨trivial,ho,trivial,trivial⟩
  refine .inr ?_;simp only [ZJ ha];exact⟨trivial,w,b,rfl⟩
theorem N0 {d:DSt} {n:Nat} (h:OnD d n) {place:Nat} {L:List ByteArray} (hp:place+L.length≤n) (hs:∀ t∈L,t.size=64) (hm:L.length≤1048575):∀ i,i≤L.length →
  ((nF d place L i).1=0∧(nF d place L i).2.off=false∧(nF d place L i).2.q=sF place (L.take i)∧(nF d place L i).2.cells=d.cells)∨((nF d place L i).1=22∧D2 (nF d place L i).2 n∧UL d.cells place L (nF d place L i).2.cells)
 | 0,_=>.inl ⟨rfl,h.off,by rw [List.take_zero,sF];exact h.q,rfl⟩
 | i+1,hi=>by
  have hinv:=pT h.inv place L i (by omega);rcases N0 h hp hs hm i (by omega)with⟨h1,h2,h3,h4⟩|⟨h1,h2,h3⟩
  ·obtain ⟨t,ht⟩:=bM (l:=L) (k:=i) (by omega);have hz:=hs t (ZW ht);have hD:L.getD i sNil=t:=by rw [List.getD_eq_getElem?_getD,ht];rfl
   have hq:sF place (L.take (i+1))=sF place (L.take i)++[(place+i,t)]:=by
    rw [dR ht,CJ,Z0,Nat.min_eq_left (by omega)];rfl
   obtain ⟨s,hS⟩:∃ s,s=(nF d place L i).2:=⟨_,rfl⟩;rw [← hS] at h2 h3 h4 hinv;have sc:fE s ((place+i:Nat):Int)=true:=by
    rw [jO];exact decide_eq_true (by have:=hinv.n;omega)
   have wi:=BG hinv (by omega) ((place+i:Nat):Int) t;have w1:hU s ((place+i:Nat):Int) t=eN (jL s (place+i) t):=by rw [hU,h2,ZJ (by decide),sc,decide_eq_true hz,ZK (show (true&&true)=true from rfl),ZX]
   have w2:iW s ((place+i:Nat):Int) t=dP (jL s (place+i) t):=by rw [iW,h2,ZJ (by decide),sc,decide_eq_true hz,ZK (show (true&&true)=true from rfl),ZX]
   rw [nF,ZK h1,hD,hq,← hS,w1,w2];have hqS:(jL s (place+i) t).q=sF place (L.take (i+1)):=by
    rw [hq,← h3];rfl
   have hok:DInv (jL s (place+i) t) n (0+i+1):=⟨uN hinv.ok (by have:=hinv.n;omega) hz (by have:=hinv.q;omega),hinv.arm,hinv.n,by show (s.q++[(place+i,t)]).length≤_;rw [ZM,List.length_singleton];have:=hinv.q;omega⟩;rcases FY hok h2 with⟨c1,c2,c3,c4⟩|⟨c1,w,b,c2⟩
   ·exact .inl ⟨c1,c2,by rw [c3,hqS,hq],by rw [c4];exact h4⟩
   refine .inr ⟨c1,?_,?_⟩
   ·rw [c2];exact BS hok h2 w b
   rw [c2,kO,ZJ (by show ¬ s.off=true;rw [h2];decide)];exact BR hi hqS h4 w b
  rw [nF,ZJ (by rw [h1];decide)];exact .inr ⟨h1,h2,h3⟩
theorem N1 {d:DSt} {n:Nat} (h:OnD d n) {place:Nat} {L:List ByteArray} (hp:place+L.length≤n) (hs:∀ t∈L,t.size=64) (hm:L.length≤1048575) :
  ((jI d place L).1=0∧OnD (jI d place L).2 n∧(jI d place L).2.cells=kQ d.cells place L)∨((jI d place L).1=22∧D2 (jI d place L).2 n∧UL d.cells place L (jI d place L).2.cells):=by
 have hi:=kP h.inv place L (by omega);have hk:=pT h.inv place L L.length (by omega);rcases N0 h hp hs hm L.length (ZR _)with⟨h1,h2,h3,h4⟩|⟨h1,h2,h3⟩
 ·rw [List.take_length] at h3;rw [jI,ZK h1] at hi ⊢;obtain ⟨s,hS⟩:∃ s,s=(nF d place L L.length).2:=⟨_,rfl⟩;rw [← hS] at h2 h3 h4 hk hi ⊢;have e1:mH s=eN s:=by rw [mH,h2,ZJ (by decide)]
  rcases FY hk h2 with⟨c1,c2,c3,c4⟩|⟨c1,w,b,c2⟩
  ·have e2:iX s=vE (dP s):=by rw [iX,h2,ZJ (by decide),ZK c1]
   rw [e2] at hi;refine .inl ⟨by rw [e1];exact c1,?_,?_⟩
   ·show OnD (iX s) n;rw [e2];exact⟨⟨hi.ok,hi.arm,hi.n,Z3 _⟩,c2⟩
   show (iX s).cells=_;rw [e2];show cM (dP s).cells (dP s).q=_;rw [c3,c4,h3,h4,wT]
  have e2:iX s=kO s w b:=by rw [iX,h2,ZJ (by decide),ZJ (by rw [c1];decide),c2]
  refine .inr ⟨by rw [e1];exact c1,?_,?_⟩
  ·show D2 (iX s) n;rw [e2];exact BS hk h2 w b
  show UL _ _ _ (iX s).cells;rw [e2,kO,ZJ (by rw [h2];decide)];exact BR (ZR _) (by rw [List.take_length];exact h3) h4 w b
 rw [jI,ZJ (by rw [h1];decide)];exact .inr ⟨h1,h2,h3⟩
end Go.Proofs.YtmkgeogoojcciaaGreatDoor
