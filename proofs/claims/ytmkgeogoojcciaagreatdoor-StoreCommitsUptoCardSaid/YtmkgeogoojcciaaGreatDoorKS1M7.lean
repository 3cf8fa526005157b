/-
  Parts of the proof: rules of an abstract program logic, contracts of functions, plain laws. Conditions: each theorem's own.
-/
import Derived.Test.YtmkgeogoojcciaaGreatDoorKS1M6
set_option linter.unusedVariables false
set_option linter.unusedSimpArgs false
set_option maxRecDepth 100000
set_option maxHeartbeats 8000000
namespace Go.Proofs
theorem r9:type_of% Tryz.call46:=Tryz.call46
theorem WT:type_of% Tryz.call47:=Tryz.call47
theorem r8:type_of% Tryz.call50:=Tryz.call50
theorem WS:type_of% Tryz.call51:=Tryz.call51
theorem WR:type_of% Tryz.call52:=Tryz.call52
theorem WQ:type_of% Tryz.call53:=Tryz.call53
theorem fT:type_of% Tryz.underlying25:=Tryz.underlying25
end Go.Proofs
namespace Go.Proofs.YtmkgeogoojcciaaGreatDoor
open Go.Proofs.Tryz
open Go.Abs
theorem GC (l:List ByteArray) (q:ByteArray→Bool):(List.range l.length).any (fun k=>((l[k]?).map q).getD false)=l.any q:=by
 rw [Bool.eq_iff_iff,List.any_eq_true,List.any_eq_true];constructor
 ·rintro⟨k,hk,h⟩;have hl:=List.mem_range.1 hk;rw [XI hl] at h;exact⟨_,List.getElem_mem hl,h⟩
 rintro⟨s,hs,h⟩;obtain ⟨k,hk⟩:=XY.1 hs;exact⟨k,List.mem_range.2 (XH.1 hk).1,by rw [hk];exact h⟩
theorem zJ (fv:AV) (l:List ByteArray) (q:ByteArray→Bool) (H:aA) (hl:l.length < 4611686018427387904) (hf:∀ s,eK Tryz.prog fv [sv s] H (fun r H'=>r=bv (q s)∧H'=H)) :
  aK Tryz.prog 93 [.pv (aW l),fv] H (fun r H'=>r=bv (l.any q)∧H'=H):=by
 have h:=x6 fv l (fun k=>((l[k]?).map q).getD false) (fun _=>H) hl (fun k s hs=>by rw [hs];exact hf s);rw [GC] at h;exact h
def eJ (s:ByteArray):Bool:=!decide (s=⟨#[]⟩)&&decide ((s.size:Int)≤200)
theorem HD (s:ByteArray) (H:aA):aK Tryz.prog 91 [sv s] H (fun r H'=>r=bv (eJ s)∧H'=H):=by
 refine Pu ?_;refine Bd func91 rfl ntmps91<|Sr<|Dd aS<|Zz<|Sq ?_;refine dA (t:=2) (n:=9) (X:=eJ s) ?_ ?_
 ·all_goals refine Dd aE ?_
  all_goals refine Dd MA<|Dm ?_
  all_goals refine Sp 5 (fun h5=>?_) fun h5=>?_
  all_goals try contradiction
  all_goals first|refine Fo<|Fo<|Fo ?_|refine On aE<|On (xX aI)<|On WJ ?_
  all_goals refine Dd gL<|Da ?_
  all_goals(exact⟨⟨_,rfl,by(simp only [eJ, *];rfl)⟩,rfl,rfl,rfl⟩)
 exact aN<|Rt<|Qq
def wW (P:List ByteArray) (p:ByteArray×ByteArray×Nat):Bool:=!eJ p.1||RB P p.1
def bigV (p:ByteArray×ByteArray×Nat):Bool:=decide ((20000:Int) < (p.2.1.size:Int))
def bH (l:bN) (P:List ByteArray):Int:=if l.any (wW P)||P.any (fun s=>!eJ s)then 1 else if l.any bigV then 2 else 0
def BN (l:bN) (s:List Nat):Bool:=s.any fun i=>((l[i]?).map bigV).getD false
theorem KP {l:bN} {s:List Nat} {i:Nat} {p:ByteArray×ByteArray×Nat} (h:l[i]?=some p):BN l (s++[i])=(BN l s||bigV p):=by rw [BN,BN,List.any_append,List.any_cons,List.any_nil,Bool.or_false,h];rfl
theorem ON {l:bN} {s:List Nat} (hb:∀ i,i∈s→i < l.length) (ha:∀ i,i < l.length→i∈s):BN l s=l.any bigV:=by
 rw [Bool.eq_iff_iff,BN,List.any_eq_true,List.any_eq_true];constructor
 ·rintro⟨i,hi,h⟩;rw [XI (hb i hi)] at h;exact⟨_,List.getElem_mem (hb i hi),h⟩
 rintro⟨p,hp,h⟩;obtain ⟨i,hi⟩:=XY.1 hp;exact⟨i,ha i (XH.1 hi).1,by rw [hi];exact h⟩
abbrev T7:Ob:=bx 1 53 [.pv (.fn 91)]
abbrev VR (l:bN) (c:Nat) (s:List Nat):aA:=[(946,uT 950 l c s),(5,T7),(950,bJ l c)]
theorem B0 (s:ByteArray) (H:aA) (h5:H.get 5=some T7):aK Tryz.prog 94 [sv s,.ref 5 0 0 0] H (fun r H'=>r=bv (!eJ s)∧H'=H):=by refine Bd func94 rfl ntmps94<|Sr<|Dd aS<|Zz<|Sr<|Dd (by exact aX rfl isAgg53 rfl h5 rfl rfl rfl)<|Dd aE<|Dd (by exact gB rfl rfl rfl ((eK.fn call91 (HD s H))))<|Dd uF<|Dd aS<|Zz<|aN ?_;refine a8 (H':=H) (.inr rfl) rfl (aH rfl) Fin.refl ?_;exact Qq
theorem P2 (l:bN) (c:Nat) (P:List ByteArray) (hst:dR l c) (hl:l.length < 1099511627776) (hP:P.length < 1099511627776) :
  aK Tryz.prog 46 [.mp 950 0,.pv (aW P)] [(950,bJ l c)] (fun r H'=>r=iv (bH l P)∧H'=[(950,bJ l c)]):=by
 refine Bd func46 rfl ntmps46<|Sr<|Dd aS<|Zz<|Sr<|Dd (by exact cC (id:=5) rfl UF rfl rfl)<|Uu (pE sizeOf53)<|Zz<|Sr<|Dd aS<|Zz<|Sq<|Sr<|Dd aE<|Dd (by exact uV (q:=946) (κ:=eE) (l:=bL l) rfl aT rfl rfl rfl rfl rfl rfl)<|Zz<|aM ?_;refine bB (σ:=List Nat) (fun s=>([(0,.mp 950 0),(1,.pv (aW P)),(5,.ref 5 0 0 0),(6,bv (BN l s)),(10,.it 946 0)],VR l c s)) (fun s=>(s.Nodup∧∀ i,i∈s→i < l.length)∧∀ i,i∈s→∀ p,l[i]?=some p→wW P p=false) (fun s=>l.length - s.length) [] ⟨⟨List.nodup_nil,by simp⟩,by simp⟩ ?_ ?_
 ·exact(bY.wk (Ea<|Eb<|Ea<|Eb<|Ea<|trivial) (Hc (kV rfl _ _ _)<|Hb<|Hc (aQ _ _ _)<|trivial) ⟨rfl,trivial⟩)
 rintro s ⟨⟨hd,hb⟩,hok⟩;have hsl:s.length≤l.length:=gO _ _ hd hb;have hcf:=fun H (h5:H.get 5=some T7)=>zJ (.clo 94 [.ref 5 0 0 0]) P (fun s=>!eJ s) H (by omega) (fun s=>eK.clo call94 (B0 s H h5));obtain ⟨ns,hns⟩:∃ b,b=P.any (fun s=>!eJ s):=⟨_,rfl⟩;rw [← hns] at hcf;refine Sq<|Rg ?_;refine iJ rfl rfl (A8 (κ:=eE) (l:=bL l) rfl rfl rfl rfl rfl rfl rfl rfl rfl (XJ _) (XJ _)) ?_;rintro _ _ (⟨rfl,rfl,hn0⟩|⟨hni,hnp,hn1,hn2,rfl,rfl⟩)
 ·refine Dd eB<|Zz<|Sq ?_;refine Cn ?_ ?_<;>intro hc1
  ·cases hc1
  have hall:∀ i,i < l.length→i∈s:=fun i hi=>by
   have hq:(bL l)[i]?=some ((l[i]).1,sv (l[i]).2.1,(l[i]).2.2):=by rw [bL,XX,XI hi];rfl
   have:=hn0 _ (XN hq);obtain ⟨j,hj,e⟩:=List.mem_map.1 this;have e2:gH l j=gH l i:=by
    rw [e,gH,XI hi];rfl
   have:=zW hst (hb j hj) hi e2
   rwa [this] at hj
  have hbig:=ON hb hall;have hnb:l.any (wW P)=false:=by
   rw [Bool.eq_false_iff];intro h;obtain ⟨p,hp,h⟩:=List.any_eq_true.1 h;obtain ⟨i,hi⟩:=XY.1 hp;rw [hok i (hall i (XH.1 hi).1) p hi] at h;cases h
  have hV:bH l P=if ns=true then 1 else if l.any bigV=true then 2 else 0:=by rw [bH,hnb,← hns,Bool.false_or]
  rw [hV,hbig];obtain ⟨bg,hbg⟩:∃ b,b=l.any bigV:=⟨_,rfl⟩;rw [← hbg];refine a6<|Sq<|aM<|Sr<|Dd aE<|Dd (by exact eP rfl rfl)<|Dd (by exact aB rfl rfl call93 rfl (hcf _ rfl))<|Da ?_;refine Cn ?_ ?_<;>intro hc2
  ·have hn:ns=true:=hc2;rw [XC hn];refine Sr<|Dd aS<|Zz<|aN ?_;refine a8 (H':=[(950,bJ l c)]) (.inr rfl) rfl (aH rfl) (Fin.wk (by(simp;done)) (Hc (aQ _ _ _)<|trivial) ⟨rfl,trivial⟩) ?_;exact Qq
  have hn:¬ ns=true:=by rw [show ns=false from hc2];decide
  rw [XB hn];refine Sr<|Dd aE<|Da ?_;refine Cn ?_ ?_<;>intro hc3
  ·have hn2:bg=true:=hc3;rw [XC hn2];refine Sr<|Dd aS<|Zz<|aN ?_;refine a8 (H':=[(950,bJ l c)]) (.inr rfl) rfl (aH rfl) (Fin.wk (by(simp;done)) (Hc (aQ _ _ _)<|trivial) ⟨rfl,trivial⟩) ?_;exact Qq
  have hn2:¬ bg=true:=by rw [show bg=false from hc3];decide
  rw [XB hn2];refine aG<|Sr<|Dd aS<|Zz<|aN ?_;refine a8 (H':=[(950,bJ l c)]) (.inr rfl) rfl (aH rfl) (Fin.wk (by(simp;done)) (Hc (aQ _ _ _)<|trivial) ⟨rfl,trivial⟩) ?_;exact Qq
 obtain ⟨p,hp,rfl⟩:=oQ hn1;have hlt:hni < l.length:=(XH.1 hp).1;have hst2:gH l hni=p.2.2:=by rw [gH,hp];rfl
 have hn3:hni∉s:=fun hm=>hn2 (List.mem_map.2 ⟨hni,hm,hst2⟩);have hb2:∀ i,i∈s++[hni]→i < l.length:=fun i hi=>by
  rcases List.mem_append.1 hi with h|h
  ·exact hb i h
  rw [XG] at h;omega
 have hd2:(s++[hni]).Nodup:=List.nodup_append.2 ⟨hd,by simp,fun a ha b hb e=>by rw [XG] at hb;subst hb;subst e;exact hn3 ha⟩;have hlen:=gO _ _ hd2 hb2;rw [XE,List.length_singleton] at hlen;have hit:uT 950 l c (s++[hni])=⟨0,0,0,dV (.mp 950 0) c c (s.map (gH l)++[p.2.2])⟩:=by rw [uT,List.map_append,List.map_cons,List.map_nil,hst2]
 have hin:=fun H=>BJ P p.1 H (by omega);have hbg:=KP (s:=s) hp;refine Dd eB<|Zz<|Sq ?_;refine Cn ?_ ?_<;>intro hc4
 ·refine aG<|aM<|Sr<|Dd (by exact uW (κ:=eE) (seen:=s.map (gH l)) (p:=(p.1,sv p.2.1,p.2.2)) (since:=c) rfl rfl rfl rfl rfl rfl rfl rfl rfl hn1)<|Dd eB<|Dd eB<|Dd aS<|Dd aS<|Zz<|Sq<|Sq ?_;refine fU.ent (E':=[(0,.mp 950 0),(1,.pv (aW P)),(5,.ref 5 0 0 0),(6,bv (BN l s)),(10,.it 946 0),(7,sv p.1),(8,sv p.2.1)]) (H':=VR l c (s++[hni])) (bY.get' ⟨⟨_,rfl,rfl⟩,⟨_,rfl,rfl⟩,⟨_,rfl,rfl⟩,⟨_,rfl,rfl⟩,⟨_,rfl,rfl⟩,⟨_,rfl,rfl⟩,⟨_,rfl,rfl⟩,trivial⟩ (fun j=>by rw [VR,hit];exact gE 946 _ (uT 950 l c s) [(5,T7),(950,bJ l c)] j)) ?_;refine dA (t:=24) (n:=10) (X:=wW P p) ?_ ?_
  ·all_goals refine Dd (eA isAgg53) ?_
   all_goals refine Dd aE<|Dd (by exact gB rfl rfl rfl ((eK.fn call91 (HD p.1 _))))<|Dd uF<|Dm ?_
   all_goals refine Sp 20 (fun h20=>?_) fun h20=>?_
   all_goals try contradiction
   all_goals first|refine Fo<|Fo<|Fo ?_|refine On aE<|On aE<|On (by exact aB rfl rfl call92 rfl (hin _)) ?_
   all_goals refine Dd gL<|Zz ?_
   all_goals(exact⟨⟨_,rfl,by(simp only [wW, *];rfl)⟩,rfl,rfl,rfl⟩)
  refine Cn ?_ ?_<;>intro hc5
  ·have hk2:wW P p=true:=hc5;have hV:bH l P=1:=by rw [bH,List.any_eq_true.2 ⟨p,XN hp,hk2⟩];rfl
   rw [hV];refine Sr<|Dd aS<|Zz<|aN ?_;refine a8 (H':=[(950,bJ l c)]) (.inr rfl) rfl (aH rfl) (Fin.wk (by(simp;done)) (Hc (aQ _ _ _)<|trivial) ⟨rfl,trivial⟩) ?_;exact Qq
  have hk2:wW P p=false:=hc5;refine aG ?_;refine dA (t:=6) (n:=8) (X:=BN l s||bigV p) ?_ ?_
  ·all_goals refine Dd aE ?_
   all_goals refine Dm ?_
   all_goals refine Sp 26 (fun h26=>?_) fun h26=>?_
   all_goals try contradiction
   all_goals first|refine Fo<|Fo<|Fo ?_|refine On aE<|On (xX aI)<|On yZ ?_
   all_goals refine Dd gL<|Da ?_
   all_goals(exact⟨⟨_,rfl,by rw [h26];rfl⟩,rfl,rfl,rfl⟩)
  refine⟨s++[hni],⟨⟨hd2,hb2⟩,fun i hi q hq=>?_⟩,by rw [XE,List.length_singleton];omega,?_⟩
  ·rcases List.mem_append.1 hi with h|h
   ·exact hok i h q hq
   rw [XG] at h;subst h;rw [hp] at hq;cases hq;exact hk2
  rw [hbg];exact(bY.wk (Ea<|Eb<|Ea<|Eb<|Ea<|trivial) (Hc (kV rfl _ _ _)<|Hb<|Hc (aQ _ _ _)<|trivial) ⟨rfl,trivial⟩)
 cases hc4
abbrev g5 (l:List ByteArray):List (List AV):=l.map (fun e=>(encStr e).map .pv)
def raw (e:GEdit) (s:ByteArray):Prop:=s=e.id∨s=e.other∨s=e.node∨s=e.obj.id∨s∈e.refs∨s∈e.obj.refs
abbrev dE (l:List ByteArray):List (List AV):=l.map (fun s=>(encStr s).map .pv)
def xY (l:List ByteArray):Prop:=l.Pairwise (fun a b=>jU a b=true)
end Go.Proofs.YtmkgeogoojcciaaGreatDoor
section
namespace Go.Abs
theorem xU {P:Program} {N:Nat} {o:Oper} {E:bI} {H:aA} {T:TypeId} {t:Tmp} {e:TypeId} {id g off len sz:Nat} {ob:Ob} {row:List AV} {rows':List (List AV)} (ho:o.op=.call {callee:=.builtin .clear,args:=#[.tmp t],argTypes:=#[T]}) (hS:dF P T e sz) (hZ:f0 P e row) (hrow:row.length=sz)
  (hx:E.get t=some (.osl id g off len)) (hH:H.get id=some ob) (hg:ob.g=g) (hosz:ob.sz=sz) (hoff:off≤ob.rows.length) (hrows:ob.rows.take off++(List.replicate len row++ob.rows.drop (off+len))=rows') :
  bW P N o E H .any ((id,⟨g,sz,ob.ty,rows'⟩)::H):=by
 intro a w I ι h1 h2 hr he K Q hkk;obtain ⟨v,hv,hvr⟩:=he t _ hx;obtain ⟨c,h3,h4,h5⟩:=AD hr hvr hH hg;refine JK (x:=.tmp t) (E:=(t,.osc id g off len c)::E) ho hS hZ hrow (bI.get_cons_same _ _ _) hH hg hosz hoff hrows a w I ι h1 h2 hr (fun u x hu=>?_) K Q hkk;by_cases e:t=u
 ·subst e;rw [bI.get_cons_same] at hu;cases hu;exact⟨v,hv,h5⟩
 rw [bI.get_cons_other _ _ e] at hu;exact he u x hu
end Go.Abs
namespace Go.Proofs.YtmkgeogoojcciaaGreatDoor
open Go.Proofs.Tryz
open Go.Abs
def bZ:List ByteArray→List ByteArray
 | []=>[]
 | [x]=>[x]
 | x::y::r=>if x=y then bZ (y::r)else x::bZ (y::r)
theorem sX:∀ (l:List ByteArray) (x y:ByteArray),bZ (l++[x,y])=bZ (l++[x])++(if x=y then[] else[y])
 | [],x,y=>by
  show (if x=y then bZ [y] else x::bZ [y])=[x]++_;by_cases e:x=y
  ·rw [XC e,XC e,e];rfl
  rw [XB e,XB e];rfl
 | [a],x,y=>by
  show (if a=x then bZ [x,y] else a::bZ [x,y])=(if a=x then bZ [x] else a::bZ [x])++_;have:=sX [] x y;rw [show bZ [x,y]=bZ ([]++[x,y])from rfl,this]
  split<;>rfl
 | a::b::l,x,y=>by
  have:=sX (b::l) x y;show (if a=b then bZ ((b::l)++[x,y])else a::bZ ((b::l)++[x,y]))=(if a=b then bZ ((b::l)++[x])else a::bZ ((b::l)++[x]))++_;rw [this]
  split<;>rfl
theorem zL {L:List ByteArray} {k:Nat} {x y:ByteArray} (hk:1≤k) (hx:L[k - 1]?=some x) (hy:L[k]?=some y):bZ (L.take (k+1))=bZ (L.take k)++(if x=y then[] else[y]):=by
 obtain ⟨j,rfl⟩:∃ j,k=j+1:=⟨k - 1,by omega⟩;rw [show j+1 - 1=j by omega] at hx;have h1:L.take (j+1)=L.take j++[x]:=by rw [List.take_add_one,hx];rfl
 have h2:L.take (j+1+1)=L.take j++[x,y]:=by rw [List.take_add_one,h1,hy,List.append_assoc];rfl
 rw [h2,h1,sX]
theorem oG:∀ {l:List ByteArray} {x:ByteArray},x∈bZ l↔x∈l
 | [],x=>Iff.rfl
 | [a],x=>Iff.rfl
 | a::b::l,x=>by
  show x∈(if a=b then bZ (b::l)else a::bZ (b::l))↔_;have ih:=oG (l:=b::l) (x:=x)
  split
  ·next e =>
   rw [ih,e];simp
  rw [XP,ih,List.mem_cons (a:=x) (b:=a)]
theorem rR:∀ {l:List ByteArray},l.Pairwise (fun a b=>jU b a=false)→xY (bZ l)
 | [],_=>.nil
 | [a],_=>List.pairwise_singleton _ _
 | a::b::l,h=>by
  have h2:=(List.pairwise_cons.1 h).2;have ih:=rR h2;show xY (if a=b then bZ (b::l)else a::bZ (b::l))
  split
  ·exact ih
  next e =>
  refine List.pairwise_cons.2 ⟨fun y hy=>?_,ih⟩;have hy2:=oG.1 hy;have hba:jU b a=false:=(List.pairwise_cons.1 h).1 b List.mem_cons_self;have hab:jU a b=true:=by
   cases hc:jU a b with
   | true=>rfl
   | false=>exact absurd (uJ hc hba) e
  rcases XP.1 hy2 with rfl|hy2
  ·exact hab
  have h3:=(List.pairwise_cons.1 h2).1 y hy2;cases hc:jU b y with
  | true=>exact sF hab hc
  | false=>rw [uJ h3 hc];exact hab
theorem y6:∀ (l:List ByteArray),(bZ l).length≤l.length
 | []=>XJ _
 | [a]=>XJ _
 | a::b::l=>by
  have ih:=y6 (b::l);show (if a=b then bZ (b::l)else a::bZ (b::l)).length≤(b::l).length+1
  split
  ·omega
  rw [XF];omega
theorem qN {l:List ByteArray} {i:Nat} {s:ByteArray} (h:l[i]?=some s):(g5 l)[i]?=some ((encStr s).map .pv):=by rw [XX,h];rfl
theorem FM {P L:List ByteArray} {j:Nat} {s:ByteArray} (h:P.length≤j) (hs:L[j]?=some s):(P++L.drop P.length)[j]?=some s:=by rw [List.getElem?_append_right h,List.getElem?_drop,show P.length+(j - P.length)=j by omega];exact hs
theorem FU {H:aA} {id:Nat} {o:Ob} (h:H.get id=some o) (j:Nat):aA.get ((id,o)::H) j=H.get j:=by
 by_cases e:j=id
 ·subst e;rw [get_cons_same,h]
 exact get_cons_other _ _ e
theorem zK (L:List ByteArray) (g:Nat) (H:aA) (h1:H.get 901=some ⟨g,1,9,g5 L⟩) (hl:L.length < 1099511627776) :
  aK Tryz.prog 47 [.osl 901 g 0 L.length] H (fun r H'=>r=.osl 901 g 0 (bZ L).length∧H'=(901,⟨g,1,9,g5 (bZ L++List.replicate (L.length - (bZ L).length) sNil)⟩)::H):=by
 refine Bd func47 rfl ntmps47 ?_;refine fU.ent (E':=[(0,.osl 901 g 0 L.length)]) (H':=(901,⟨g,1,9,g5 L⟩)::H) (bY.get' ⟨⟨_,rfl,rfl⟩,trivial⟩ (FU h1)) ?_;refine Sr<|Dd aS<|Zz<|Sq<|Sr<|Dd aE<|Dd (by exact cV rfl aO rfl rfl rfl)<|Dd dG<|Zz ?_;refine Cn ?_ ?_<;>intro hc1
 ·have hlt:L.length < 2:=by have:=W9 hc1;omega
  have hc0:bZ L=L:=by
   match L,hlt with
   | [],_=>rfl
   | [a],_=>rfl
  refine Sr<|Dd aE<|Dd aS<|Zz<|aN ?_;refine a8 (H':=(901,⟨g,1,9,g5 L⟩)::H) (.inr rfl) rfl (aH rfl) Fin.refl ⟨by rw [hc0],by rw [hc0,Nat.sub_self,List.replicate_zero,List.append_nil]⟩
 have hge:2≤L.length:=by have:=XA hc1;omega
 refine aG<|Sq<|Sr<|Dd aS<|Zz<|aM ?_;refine bB (σ:=Nat) (fun i=>([(0,.osl 901 g 0 L.length),(3,iv (i:Int))],(901,⟨g,1,9,g5 L⟩)::H)) (fun i=>1≤i∧i≤L.length∧bZ (L.take i)=L.take i) (fun i=>L.length - i) 1 ⟨by omega,by omega,by
  obtain ⟨x,hx⟩:=aY (l:=L) (k:=0) (by omega);rw [List.take_add_one,hx];rfl⟩ ?_ ?_
 ·exact bY.get' ⟨⟨_,rfl,rfl⟩,⟨_,rfl,rfl⟩,trivial⟩ (fun j=>rfl)
 rintro i ⟨hi1,hi2,hi3⟩;refine Sq<|Sr<|Dd aE<|Dd aE<|Dd (by exact cV rfl aO rfl rfl rfl)<|Dd dG<|Zz ?_;refine Cn ?_ ?_<;>intro hc2
 ·have hil:i < L.length:=by have:=W9 hc2;omega
  obtain ⟨y,hy⟩:=aY hil;obtain ⟨x,hx⟩:=aY (l:=L) (k:=i - 1) (by omega);have ht:=zL hi1 hx hy;refine aG<|Sq<|aM<|Sq<|bK follows<|Cq aE<|Cq aE<|Cq (by exact dU rfl bR rfl rfl rfl rfl rfl (by omega) (by exact XO _) hil (XV _))<|Cq (by exact aX rfl aU rfl rfl rfl (qN hy) rfl)<|Cq aE<|Cq aE<|Cq (by exact dO rfl rfl rfl (by exact g9 (by omega) (by omega)))<|Cq (by exact dU (m:=i - 1) rfl bR rfl rfl rfl rfl rfl (by omega) (show ((i:Int) - 1).toNat=i - 1 by omega) (by omega) (XV _))<|Cq (by exact aX rfl aU rfl rfl rfl (qN hx) rfl)<|Cq S3<|cM<|Kr ?_;refine Cn ?_ ?_<;>intro hc3
  ·have hyx:=W9 hc3;rw [XC hyx.symm,List.append_nil,hi3] at ht;refine Sr<|Dd aE<|Dd aE<|Dd (by exact fA (l:=i) (h:=L.length) rfl bR rfl rfl rfl rfl rfl rfl (by omega) (XJ _) (XV _) rfl)<|Dd aS<|Zz<|Sq<|Sr<|Dd aS<|Zz<|aM ?_;refine tD (fun(k:Nat) (R:List ByteArray)=>([(0,.osl 901 g 0 L.length),(3,iv (R.length:Int)),(4,.osl 901 g i (L.length - i)),(5,iv (k:Int))],(901,⟨g,1,9,g5 (R++L.drop R.length)⟩)::H)) (fun k R=>1≤k∧i+k≤L.length∧R=bZ (L.take (i+k))∧R.length+1≤i+k) (fun k R=>L.length - (i+k)) 1 (L.take i) ⟨by omega,by omega,ht.symm,by rw [XR];omega⟩ ?_ ?_
   ·have hti:(L.take i).length=i:=by rw [XR];omega
    rw [hti,List.take_append_drop];exact bY.get' ⟨⟨_,rfl,rfl⟩,⟨_,rfl,rfl⟩,⟨_,rfl,rfl⟩,⟨_,rfl,rfl⟩,trivial⟩ (fun j=>rfl)
   rintro k R ⟨hk1,hk2,hk3,hk4⟩;refine Sq<|Sr<|Dd aE<|Dd aE<|Dd (by exact cV rfl aO rfl rfl rfl)<|Dd dG<|Zz ?_;refine Cn ?_ ?_<;>intro hc4
   ·have hkl:i+k < L.length:=by have:=W9 hc4;omega
    obtain ⟨v,hv⟩:=aY hkl;obtain ⟨u,hu⟩:=aY (l:=L) (k:=i+k - 1) (by omega);have ht2:=zL (by omega) hu hv;have hv2:=qN (FM (P:=R) (by omega) hv);have hu2:=qN (FM (P:=R) (by omega) hu);refine aG<|Sq<|aM<|Sq<|bK follows<|Cq aE<|Cq aE<|Cq (by exact dU (m:=k) rfl bR rfl rfl rfl rfl rfl (by omega) (XO _) (by omega) rfl)<|Cq (by exact aX rfl aU rfl rfl rfl hv2 rfl)<|Cq aE<|Cq aE<|Cq (by exact dO rfl rfl rfl (by exact g9 (by omega) (by omega)))<|Cq (by exact dU (m:=k - 1) (m2:=i+k - 1) rfl bR rfl rfl rfl rfl rfl (by omega) (show ((k:Int) - 1).toNat=k - 1 by omega) (by omega) (by omega))<|Cq (by exact aX rfl aU rfl rfl rfl hu2 rfl)<|Cq MA<|cM<|Kr ?_;refine Cn ?_ ?_<;>intro hc5
    ·have hne:¬ u=v:=fun e=>by
      have h:=hc5;rw [e] at h;simp at h
     rw [XB hne,← hk3] at ht2;have hR0:∃ z,L[R.length]?=some z:=aY (by omega);obtain ⟨z,hz⟩:=hR0;have hat:(g5 (R++L.drop R.length))[R.length]?=some ((encStr z).map .pv):=qN (FM (P:=R) (XJ _) hz);have hset:(g5 (R++L.drop R.length)).set R.length [sv v]=g5 ((R++[v])++L.drop (R++[v]).length):=by
      have hd:L.drop R.length=z::L.drop (R.length+1):=by
       obtain ⟨p,q⟩:=XH.1 hz;rw [List.drop_eq_getElem_cons p,q]
      rw [hd,XE,List.length_singleton,g5,List.map_append,List.map_cons,List.set_append_right _ _ (by rw [XD];exact XJ _),XD,Nat.sub_self,List.set_cons_zero,List.append_assoc,g5,List.map_append,List.map_append];rfl
     refine Sr<|Dd aE<|Dd aE<|Dd aE<|Dd aE<|Dd (by exact dU (m:=k) rfl bR rfl rfl rfl rfl rfl (by omega) (XO _) (by omega) rfl)<|Dd (by exact aX rfl aU rfl rfl rfl hv2 rfl)<|Dd (by exact dU rfl bR rfl rfl rfl rfl rfl (by omega) (by exact XO _) (by omega:R.length < L.length) (XV _))<|Uu (by exact cX rfl sizeOf9 rfl rfl rfl rfl rfl hat (by simp [encStr]) rfl hset)<|Zz<|Rg<|Dd aE<|Dd kP<|Dd aS<|Zz<|Rg<|Dd aE<|Dd kP<|Da ?_;refine⟨k+1,R++[v],⟨by omega,by omega,ht2.symm,by rw [XE,List.length_singleton];omega⟩,by omega,?_⟩;rw [show (((R++[v]).length:Nat):Int)=(R.length:Int)+1 by rw [XE,List.length_singleton];rfl];exact bY.dup ⟨⟨_,rfl,rfl⟩,⟨_,rfl,rfl⟩,⟨_,rfl,rfl⟩,⟨_,rfl,rfl⟩,trivial⟩
    have he:u=v:=by
     have h:=hc5;have h2:v=u:=by simpa using h
     exact h2.symm
    rw [XC he,List.append_nil,← hk3] at ht2;refine aG<|Rg<|Dd aE<|Dd kP<|Da ?_;refine⟨k+1,R,⟨by omega,by omega,ht2.symm,by omega⟩,by omega,?_⟩;exact bY.get' ⟨⟨_,rfl,rfl⟩,⟨_,rfl,rfl⟩,⟨_,rfl,rfl⟩,⟨_,rfl,rfl⟩,trivial⟩ (fun j=>rfl)
   have hge2:i+k=L.length:=by have:=XA hc4;omega
   rw [hge2,List.take_length] at hk3;have hRl:R.length≤L.length:=by omega
   have hmix:(g5 (R++L.drop R.length)).length=L.length:=by
    rw [XD,XE,XS];omega
   have hcl:(g5 (R++L.drop R.length)).take R.length++(List.replicate (L.length - R.length) [sv sNil]++(g5 (R++L.drop R.length)).drop (R.length+(L.length - R.length)))=g5 (R++List.replicate (L.length - R.length) sNil):=by
    have hd0:(g5 (R++L.drop R.length)).drop (R.length+(L.length - R.length))=[]:=List.drop_eq_nil_of_le (by rw [hmix];omega);rw [hd0,List.append_nil,g5,List.map_append,List.take_left' (XD _),g5,List.map_append,List.map_replicate];rfl
   refine a6<|Sr<|Dd aE<|Dd aE<|Dd (by exact fA (l:=R.length) (h:=L.length) rfl bR rfl rfl rfl rfl rfl rfl hRl (XJ _) (XV _) rfl)<|Uu (by exact xU rfl bR WD rfl rfl rfl rfl rfl (by rw [hmix];exact hRl) hcl)<|Zz<|Sr<|Dd aE<|Dd aE<|Dd (by exact fA (l:=0) (h:=R.length) rfl bR rfl rfl rfl rfl rfl rfl (XU _) hRl (XV _) rfl)<|Dd aS<|Zz<|aN ?_;refine a8 (H':=(901,⟨g,1,9,g5 (R++List.replicate (L.length - R.length) sNil)⟩)::H) (.inr rfl) rfl (aH rfl) (Fin.get' (fun j=>gE _ _ _ _ j)) ⟨by rw [hk3];rfl,by rw [hk3]⟩
  have hyx:=XA hc3;rw [XB (fun e=>hyx e.symm),hi3] at ht;refine aG<|Rg<|Dd aE<|Dd kP<|Da ?_;refine⟨i+1,⟨by omega,by omega,?_⟩,by omega,bY.get' ⟨⟨_,rfl,rfl⟩,⟨_,rfl,rfl⟩,trivial⟩ (fun j=>rfl)⟩;rw [ht,List.take_add_one,hy];rfl
 have hge3:i=L.length:=by have:=XA hc2;omega
 subst hge3;rw [List.take_length] at hi3;refine a6<|Sr<|Dd aE<|Dd aS<|Zz<|aN ?_;refine a8 (H':=(901,⟨g,1,9,g5 L⟩)::H) (.inr rfl) rfl (aH rfl) Fin.refl ⟨by rw [hi3],by rw [hi3,Nat.sub_self,List.replicate_zero,List.append_nil]⟩
end Go.Proofs.YtmkgeogoojcciaaGreatDoor
end
namespace Go.Proofs.YtmkgeogoojcciaaGreatDoor
open Go.Proofs.Tryz
open Go.Abs Go.Lib
theorem vC (a b:ByteArray):jU a b=decide (BV a < BV b):=by unfold jU;rw [iG,ByteArray.toList_eq,ByteArray.toList_eq];rfl
theorem B4 (l:List UInt8):BV (SK l)=l:=by simp [BV,SK]
theorem sE (l:List ByteArray):(b4 l).Pairwise (fun a b=>jU b a=false):=by unfold b4;rw [List.pairwise_map];refine List.Pairwise.imp (R:=fun(x y:List UInt8)=>decide (x≤y)=true) (fun {x y} h=>?_) (List.pairwise_mergeSort (le:=fun(x y:List UInt8)=>decide (x≤y)) (fun a b c h1 h2=>decide_eq_true (List.le_trans (W9 h1) (W9 h2))) tJ _);rw [vC,B4,B4];exact decide_eq_false (List.not_lt.2 (W9 h))
theorem IL {l:List ByteArray} (hn:l.Nodup):xY (b4 l):=by
 have hp:(b4 l).Pairwise (fun a b=>a≠b):=(mC l).symm.pairwise hn (fun {a b} h=>h.symm);refine(hp.and (sE l)).imp fun {a b} h=>?_;obtain ⟨h1,h2⟩:=h;cases hc:jU a b with
 | true=>rfl
 | false=>exact absurd (uJ hc h2) h1
theorem wF {l:List ByteArray} (h:xY l):l.Nodup:=by refine List.Pairwise.imp (fun {a b} h e=>?_) h;subst e;rw [GT] at h;cases h
theorem uK {a b:ByteArray} (h:jU a b=true):jU b a=false:=by
 cases e:jU b a with
 | false=>rfl
 | true=>have:=sF h e;rw [GT] at this;cases this
theorem IM {l:List ByteArray} (h:xY l):b4 l=l:=by
 have hp:(l.map BV).Pairwise (fun x y=>decide (x≤y)=true):=by
  rw [List.pairwise_map];refine h.imp fun {a b} h=>decide_eq_true ?_;have h2:=uK h;rw [vC] at h2;exact List.not_lt.1 (XA h2)
 rw [b4,List.mergeSort_of_pairwise hp,AU]
theorem vB:∀ {l:List ByteArray},l.Pairwise (fun a b=>jU b a=false)→eN l=true
 | [],_=>rfl
 | [a],_=>rfl
 | a::b::r,h=>by
  have h1:=(List.pairwise_cons.1 h).1 b List.mem_cons_self;rw [eN,h1,vB (List.pairwise_cons.1 h).2];rfl
theorem Q9 {l:List ByteArray} (h:xY l):l.Pairwise (fun a b=>jU b a=false):=h.imp fun {a b} h=>uK h
theorem y7:∀ {l:List ByteArray},l.Nodup→bZ l=l
 | [],_=>rfl
 | [a],_=>rfl
 | a::b::r,h=>by
  have hn:=List.nodup_cons.1 h;have e:¬ a=b:=fun e=>hn.1 (by rw [e];exact List.mem_cons_self);show (if a=b then bZ (b::r)else a::bZ (b::r))=_;rw [XB e,y7 hn.2]
theorem AZ {k v:ByteArray} {n:Nat}:∀ {l:bN},e9 l→(k,v,n)∈l→cS l k=some v
 | [],_,h=>by cases h
 | (k',a,m)::r,hn,h=>by
  have h2:=List.nodup_cons.1 hn;rw [cS];rcases XP.1 h with e|h
  ·cases e;rw [XC rfl]
  rw [XB (fun e=>h2.1 (by subst e;exact List.mem_map.2 ⟨_,h,rfl⟩))];exact AZ h2.2 h
theorem AT {k v:ByteArray}:∀ {l:bN},cS l k=some v→∃ n,(k,v,n)∈l
 | [],h=>by cases h
 | (k',a,m)::r,h=>by
  rw [cS] at h;by_cases e:k'=k
  ·rw [XC e] at h;cases h;subst e;exact⟨m,List.mem_cons_self⟩
  rw [XB e] at h;obtain ⟨n,hn⟩:=AT h;exact⟨n,List.mem_cons_of_mem _ hn⟩
theorem yV {a b:bN} (ha:e9 a) (hb:e9 b) (h:∀ k,cS a k=cS b k):(a.map Prod.fst).Perm (b.map Prod.fst):=(List.perm_ext_iff_of_nodup ha hb).2 fun k=>by
 have h1:=gP (k:=k) (l:=a);have h2:=gP (k:=k) (l:=b);rw [h k] at h1;exact Decidable.not_iff_not.1 (h1.symm.trans h2)
theorem sD {a b:bN} (ha:e9 a) (hb:e9 b) (h:∀ k,cS a k=cS b k):bP a=bP b:=nI (yV ha hb h)
theorem AX {a b:bN} (ha:e9 a) (hb:e9 b) (h:∀ k,cS a k=cS b k):a.length=b.length:=by
 have:=(yV ha hb h).length_eq
 rwa [XD,XD] at this
theorem IH {a b:bN} (ha:e9 a) (hb:e9 b) (h:∀ k,cS a k=cS b k) (P:List ByteArray):cA a P=cA b P:=by
 have hg:(fun x=>[x,cE a x])=fun x=>[x,cE b x]:=by
  funext x;rw [kT,kT,h]
 have hl:(bL a).length=(bL b).length:=by rw [bL,bL,XD,XD,AX ha hb h]
 rw [cA,cA,sD ha hb h,wZ,wZ,hg,hl]
theorem yC {a b:bN} (ha:e9 a) (hb:e9 b) (h:∀ k,cS a k=cS b k) (P:List ByteArray):bC a P=bC b P:=by rw [bC,bC,IH ha hb h]
theorem D0 {a b:bN} (h:∀ k,cS a k=cS b k) (q:ByteArray×ByteArray×Nat→Bool) (hq:∀ k v n m,q (k,v,n)=q (k,v,m)) (ha:e9 a):a.any q=true→b.any q=true:=by intro h1;obtain ⟨⟨k,v,n⟩,hp,h2⟩:=List.any_eq_true.1 h1;have e:=AZ ha hp;rw [h] at e;obtain ⟨m,hm⟩:=AT e;exact List.any_eq_true.2 ⟨_,hm,by rw [hq k v m n];exact h2⟩
theorem H9 {a b:bN} (ha:e9 a) (hb:e9 b) (h:∀ k,cS a k=cS b k) (q:ByteArray×ByteArray×Nat→Bool) (hq:∀ k v n m,q (k,v,n)=q (k,v,m)):a.any q=b.any q :=Bool.eq_iff_iff.2 ⟨D0 h q hq ha,D0 (fun k=>(h k).symm) q hq hb⟩
theorem ED {a b:bN} (ha:e9 a) (hb:e9 b) (h:∀ k,cS a k=cS b k) (P:List ByteArray):bH a P=bH b P:=by rw [bH,bH,H9 ha hb h (wW P) (fun k v n m=>rfl),H9 ha hb h bigV (fun k v n m=>rfl)]
def lA (W:List ByteArray):Nat→bN×Nat
 | 0=>([],0)
 | j+1=>(fY (lA W j).1 (W.getD (2*j) sNil) (W.getD (2*j+1) sNil) (lA W j).2,lB (lA W j).1 (W.getD (2*j) sNil) (lA W j).2)
theorem nU (W:List ByteArray):∀ j,dR (lA W j).1 (lA W j).2∧e9 (lA W j).1
 | 0=>⟨⟨List.Pairwise.nil,fun p hp=>(by cases hp)⟩,List.nodup_nil⟩
 | j+1=>⟨A0 (nU W j).1 _ _,A1 (nU W j).2 _ _ _⟩
theorem wA (k v:ByteArray) (c:Nat) (l:bN):l.length≤(fY l k v c).length∧(fY l k v c).length≤l.length+1:=by
 have h:=congrArg List.length (oR k v c l);rw [XD] at h;rw [h]
 split
 ·rw [XD];omega
 rw [XE,XD,List.length_singleton];omega
theorem uP (W:List ByteArray):∀ j,(lA W j).1.length≤j
 | 0=>XJ _
 | j+1=>by
  have h1:=uP W j;have h2:=(wA (W.getD (2*j) sNil) (W.getD (2*j+1) sNil) (lA W j).2 (lA W j).1).2;show (fY (lA W j).1 (W.getD (2*j) sNil) (W.getD (2*j+1) sNil) (lA W j).2).length≤_;omega
theorem AR (F R:List ByteArray):∀ j,2*j≤F.length→lA (F++R) j=lA F j
 | 0,_=>rfl
 | j+1,h=>by
  have h1:(F++R).getD (2*j) sNil=F.getD (2*j) sNil:=by rw [List.getD_eq_getElem?_getD,List.getD_eq_getElem?_getD,List.getElem?_append_left (by omega)]
  have h2:(F++R).getD (2*j+1) sNil=F.getD (2*j+1) sNil:=by rw [List.getD_eq_getElem?_getD,List.getD_eq_getElem?_getD,List.getElem?_append_left (by omega)]
  rw [lA,lA,AR F R j (by omega),h1,h2]
theorem y9 (g:ByteArray→ByteArray):∀ (S:List ByteArray) (j:Nat) (s:ByteArray),S[j]?=some s→(S.flatMap fun x=>[x,g x])[2*j]?=some s∧(S.flatMap fun x=>[x,g x])[2*j+1]?=some (g s)
 | [],j,s,h=>by cases h
 | x::r,0,s,h=>by cases h;exact⟨rfl,rfl⟩
 | x::r,j+1,s,h=>y9 g r j s h
theorem CW (g:ByteArray→ByteArray) {S:List ByteArray} (hn:S.Nodup):∀ j,j≤S.length→(lA (S.flatMap fun x=>[x,g x]) j).1.map Prod.fst=S.take j∧∀ k,cS (lA (S.flatMap fun x=>[x,g x]) j).1 k=if k∈S.take j then some (g k)else none
 | 0,_=>⟨rfl,fun k=>by rw [List.take_zero,XB XT];rfl⟩
 | j+1,h=>by
  obtain ⟨h1,h2⟩:=CW g hn j (by omega);obtain ⟨s,hs⟩:=aY (l:=S) (k:=j) (by omega);obtain ⟨f1,f2⟩:=y9 g S j s hs;have g1:(S.flatMap fun x=>[x,g x]).getD (2*j) sNil=s:=by rw [List.getD_eq_getElem?_getD,f1];rfl
  have g2:(S.flatMap fun x=>[x,g x]).getD (2*j+1) sNil=g s:=by rw [List.getD_eq_getElem?_getD,f2];rfl
  have ht:S.take (j+1)=S.take j++[s]:=cR hs;have hns:s∉S.take j:=fun hm=>by
   have hn2:(S.take (j+1)).Nodup:=hn.sublist (List.take_sublist _ _);rw [ht] at hn2;exact(List.nodup_append.1 hn2).2.2 s hm s (XG.2 rfl) rfl
  rw [lA,g1,g2,ht];constructor
  ·rw [oR,h2 s,XB hns,h1];rfl
  intro k;rw [uS,h2 k];by_cases e:s=k
  ·subst e;rw [XC rfl,XC (by simp)]
  rw [XB e];by_cases hk:k∈S.take j
  ·rw [XC hk,XC (List.mem_append_left _ hk)]
  rw [XB hk,XB (fun hm=>by
   rcases List.mem_append.1 hm with h|h
   ·exact hk h
   rw [XG] at h;exact e h.symm)]
theorem j2 {l:bN} {k:ByteArray}:k∈bP l↔k∈l.map Prod.fst:=(mC _).mem_iff
theorem u6 {l:bN} (h:e9 l):xY (bP l):=IL h
theorem yS {l:bN} (h:e9 l) (R:List ByteArray):∀ k,cS (lA (((bP l).flatMap fun x=>[x,cE l x])++R) l.length).1 k=cS l k:=by
 intro k;have hl:=fK l;rw [AR _ _ _ (by rw [fM,hl];omega)];obtain ⟨_,h2⟩:=CW (cE l) (wF (u6 h)) l.length (by omega);rw [h2,List.take_of_length_le (by omega)];by_cases hk:k∈bP l
 ·rw [XC hk,kT];cases e:cS l k with
  | some v=>rfl
  | none=>exact absurd (j2.1 hk) (gP.1 e)
 rw [XB hk];exact(gP.2 (fun h=>hk (j2.2 h))).symm
abbrev xI (t:List UInt8):List ByteArray:=(dX t).1
abbrev SF (t:List UInt8):Int:=cW ((xI t).getD 0 sNil)
abbrev GY (t:List UInt8):Nat:=(SF t).toNat
abbrev fB (t:List UInt8):bN×Nat:=lA ((xI t).drop 1) (GY t)
abbrev cZ (t:List UInt8):List ByteArray:=(xI t).drop (2*GY t+2)
def pU (t:List UInt8):Bool:=!(dX t).2||decide ((xI t).length=0)
def jM (t:List UInt8):Bool:=((gG ((xI t).getD 0 sNil)||decide (SF t < 0))||decide ((((xI t).length / 2:Nat):Int) < SF t))||decide (((xI t).length:Int) < 2*SF t+2)
def pT (t:List UInt8):Bool:=((((decide ((fB t).1.length+(cZ t).length=0)||!decide (bH (fB t).1 (cZ t)=0))||!decide (bC (fB t).1 (cZ t)=aR [ofL t]))||!eN (cZ t))||decide ((bZ (cZ t)).length < (cZ t).length))
def jL (t:List UInt8):Bool:=!pU t&&(!jM t&&!pT t)
theorem jD (l:bN) (P:List ByteArray):cA l P=dD (l.length:Int)::(((bP l).flatMap fun x=>[x,cE l x])++(dD (P.length:Int)::P)):=by rw [cA,wZ,List.take_length,bL,XD,XD,List.cons_append,List.cons_append,List.append_assoc];rfl
theorem mJ:∀ {L:List ByteArray} {x:ByteArray},x∈L→x.size≤(aR L).length
 | [],x,h=>by cases h
 | y::L,x,h=>by
  rw [dL,XE,XF,XE,dB];rcases XP.1 h with rfl|h
  ·omega
  have:=mJ h;omega
theorem GX {l:bN} {P:List ByteArray} (hn:e9 l) (hP:xY P) (h0:0 < l.length+P.length) (hw:bH l P=0) (hsz:(aR (cA l P)).length < 1000000000000) :
  jL (aR (cA l P))=true∧(∀ k,cS (fB (aR (cA l P))).1 k=cS l k)∧cZ (aR (cA l P))=P:=by
 have hsp:dX (aR (cA l P))=(cA l P,true):=pC fun x hx=>by have:=mJ hx;omega
 have hlen:=nX (cA l P);have hparts:=jD l P;have hll:(cA l P).length=2*l.length+2+P.length:=by
  rw [hparts,XF,XE,fM,fK,XF];omega
 have hD:(cA l P).getD 0 sNil=dD (l.length:Int):=by rw [hparts];rfl
 have hi:dD (l.length:Int)=ofL (decDigits l.length):=i8 (by rw [bA,j5]);obtain ⟨n1,n2⟩:=rW (l:=decDigits l.length) (u:=l.length) (dK (k:=18) (by omega) (by decide)) (mO _) (fun b=>mM _) (kJ _);have hL:xI (aR (cA l P))=cA l P:=by rw [xI,hsp]
 have hV:SF (aR (cA l P))=(l.length:Int):=by rw [SF,hL,hD,hi,n2]
 have hN:GY (aR (cA l P))=l.length:=by rw [GY,hV,XO]
 have hput:∀ k,cS (fB (aR (cA l P))).1 k=cS l k:=by
  rw [fB,hL,hN,hparts,List.drop_succ_cons,List.drop_zero];exact yS hn _
 have hnd:e9 (fB (aR (cA l P))).1:=(nU _ _).2;have hdrop:cZ (aR (cA l P))=P:=by
  rw [cZ,hL,hN,show cA l P=(dD (l.length:Int)::(((bP l).flatMap fun x=>[x,cE l x])++[dD (P.length:Int)]))++P by rw [hparts];simp];exact List.drop_left' (by rw [XF,XE,fM,fK];rfl)
 refine⟨?_,hput,hdrop⟩;have b1:pU (aR (cA l P))=false:=by
  rw [pU,hL,hsp,hll,decide_eq_false (by omega)];rfl
 have b2:jM (aR (cA l P))=false:=by
  rw [jM,hV,hL,hD,hi,n1,hll,decide_eq_false (by omega),decide_eq_false (by omega),decide_eq_false (by omega)];rfl
 have b3:pT (aR (cA l P))=false:=by
  rw [pT,hdrop,ED hnd hn hput,hw,yC hnd hn hput,AX hnd hn hput,vB (Q9 hP),y7 (wF hP),decide_eq_false (by omega),decide_eq_true rfl,show bC l P=aR [ofL (aR (cA l P))] from rfl,decide_eq_true rfl,decide_eq_false (by omega)];rfl
 rw [jL,b1,b2,b3];rfl
theorem nY (n:Nat) (h:n < 1000000000000000000):(dD (n:Int)).size≤21:=pZ (by omega) (by omega)
theorem tT {M:Nat} (hM:M < 1000000000000000000):∀ (L:List ByteArray),(∀ s∈L,s.size≤M)→(aR L).length≤L.length*(M+22)
 | [],_=>XU _
 | s::r,h=>by
  have ih:=tT hM r (fun x hx=>h x (List.mem_cons_of_mem _ hx));have hs:=h s List.mem_cons_self;have hd:=dK (k:=18) (u:=s.size) (by omega) (by decide);rw [dL,XE,XF,XE,dB,XF,Nat.add_mul];omega
theorem u9:∀ (n:Nat) (t:List UInt8) (acc:List ByteArray) (x:ByteArray),x∈(eT n t acc).1→x∈acc∨x.size≤t.length
 | 0,t,acc,x,h=>.inl h
 | n+1,t,acc,x,h=>by
  have hcl:=(F5 t).2;rw [eT] at h
  split at h
  ·exact .inl h
  split at h
  ·cases h
  rcases u9 n _ _ x h with h|h
  ·rcases List.mem_append.1 h with h|h
   ·exact .inl h
   rw [XG.1 h,bS,XR];exact .inr (by omega)
  rw [XS] at h;exact .inr (by omega)
theorem z7 {t:List UInt8} {x:ByteArray} (h:x∈xI t):x.size≤t.length:=by
 rcases u9 _ _ _ _ h with h|h
 ·cases h
 exact h
theorem C2 {k v:ByteArray} {c:Nat} {p:ByteArray×ByteArray×Nat}:∀ {l:bN},p∈fY l k v c→p∈l∨(p.1=k∧p.2.1=v)
 | [],h=>by
  rw [XG.1 h];exact .inr ⟨rfl,rfl⟩
 | (k',a,n)::r,h=>by
  rw [fY] at h
  split at h
  ·rcases XP.1 h with h|h
   ·rw [h];exact .inr ⟨rfl,rfl⟩
   exact .inl (List.mem_cons_of_mem _ h)
  rcases XP.1 h with h|h
  ·rw [h];exact .inl List.mem_cons_self
  rcases C2 h with h|h
  ·exact .inl (List.mem_cons_of_mem _ h)
  exact .inr h
theorem y5 {W:List ByteArray} {M:Nat} (h:∀ x∈W,x.size≤M) (i:Nat):(W.getD i sNil).size≤M:=by
 rw [List.getD_eq_getElem?_getD];cases e:W[i]? with
 | none=>exact XU _
 | some x=>exact h x (XN e)
theorem HE {W:List ByteArray} {M:Nat} (h:∀ x∈W,x.size≤M):∀ (j:Nat) (p:ByteArray×ByteArray×Nat),p∈(lA W j).1→p.1.size≤M∧p.2.1.size≤M
 | 0,p,hp=>by cases hp
 | j+1,p,hp=>by
  rcases C2 hp with h1|⟨h1,h2⟩
  ·exact HE h j p h1
  rw [h1,h2];exact⟨y5 h _,y5 h _⟩
theorem pX {M:Nat} (k:ByteArray):∀ {l:bN},(∀ p∈l,p.2.1.size≤M)→(cE l k).size≤M
 | [],_=>XU _
 | (k',a,n)::r,h=>by
  rw [cE]
  split
  ·exact h _ List.mem_cons_self
  exact pX k fun p hp=>h p (List.mem_cons_of_mem _ hp)
theorem yB (l:bN) (P:List ByteArray):(cA l P).length=2*l.length+2+P.length:=by rw [jD,XF,XE,fM,fK,XF];omega
theorem nH {l:bN} {P:List ByteArray} {M:Nat} (h21:21≤M) (hM:M < 1000000000) (hl:∀ p∈l,p.1.size≤M∧p.2.1.size≤M) (hP:∀ s∈P,s.size≤M) (hn:2*l.length+2+P.length < 1000000000) :
  (bC l P).length≤(2*l.length+2+P.length)*(M+22)+22:=by
 have h1:(aR (cA l P)).length≤(cA l P).length*(M+22):=by
  refine tT (by omega) _ fun s hs=>?_;rw [jD] at hs;rcases XP.1 hs with rfl|hs
  ·have:=nY l.length (by omega);omega
  rcases List.mem_append.1 hs with hs|hs
  ·obtain ⟨x,hx,hs⟩:=List.mem_flatMap.1 hs;simp only [XP,XT,or_false] at hs;rcases hs with rfl|rfl
   ·obtain ⟨p,hp,rfl⟩:=List.mem_map.1 (j2.1 hx);exact(hl p hp).1
   exact pX x fun p hp=>(hl p hp).2
  rcases XP.1 hs with rfl|hs
  ·have:=nY P.length (by omega);omega
  exact hP s hs
 rw [yB] at h1;have hb:(2*l.length+2+P.length)*(M+22)≤1000000000*1000000022:=Nat.mul_le_mul (by omega) (by omega);have hd:=dK (k:=19) (u:=(aR (cA l P)).length) (by omega) (by decide);rw [bC,dL,XE,XF,XE,bA,bS];have h0:(aR []).length=0:=rfl;omega
theorem MK {t:List UInt8} (ht:t.length < 1000000) (hb:jM t=false):(bC (fB t).1 (cZ t)).length < 35184372088832∧(fB t).1.length≤t.length∧(cZ t).length≤t.length:=by
 have h1:=uP ((xI t).drop 1) (GY t);have hlen:(xI t).length≤t.length:=by
  have go:∀ (n:Nat) (u:List UInt8) (acc:List ByteArray),(eT n u acc).1.length≤acc.length+n:=by
   intro n
   induction n with
   | zero=>intro u acc;exact Nat.le_add_right _ _
   | succ n ih =>
    intro u acc;rw [eT]
    split
    ·exact Nat.le_add_right _ _
    split
    ·exact XU _
    have:=ih ((tY u).drop (HT u)) (acc++[ofL ((tY u).take (HT u))]);rw [XE,List.length_singleton] at this;omega
  have:=go t.length t [];rw [List.length_nil,XV] at this;exact this
 rw [jM] at hb;simp only [XZ,XL] at hb;have h2:GY t≤(xI t).length / 2:=by
  have h3:=hb.1.2;have h4:=hb.1.1.2;rw [GY];omega
 have h5:(fB t).1.length≤t.length:=by
  show (lA ((xI t).drop 1) (GY t)).1.length≤_;omega
 have h6:(cZ t).length≤t.length:=by
  rw [cZ,XS];omega
 refine⟨?_,h5,h6⟩;have h7:=nH (l:=(fB t).1) (P:=cZ t) (M:=1000000) (by decide) (by decide) (fun p hp=>by
  have:=HE (W:=(xI t).drop 1) (M:=t.length) (fun x hx=>z7 (List.mem_of_mem_drop hx)) _ p hp;omega) (fun s hs=>by have:=z7 (List.mem_of_mem_drop hs);omega) (by omega)
 have h8:(2*(fB t).1.length+2+(cZ t).length)*(1000000+22)≤3000002*1000022:=Nat.mul_le_mul (by omega) (by omega);omega
structure Calm (d:DSt) (n:Nat):Prop where
 inv:DInv d n 0
 off:d.off=false
 na:∀ a w b,d.arm≠.on a w b
theorem Calm.q {d:DSt} {n:Nat} (h:Calm d n):d.q=[]:=List.length_eq_zero_iff.1 (Nat.le_zero.1 h.inv.q)
theorem rU {n:Nat} (h1:1≤n) (h2:n≤8000):Calm (kQ n) n:=⟨Q8 h1 h2,rfl,fun a w b h=>by cases h⟩
theorem zH {s:DSt} (h:∀ a w b,s.arm≠.on a w b):dI s=s∧eC s=0:=by
 unfold dI eC;cases e:s.arm with
 | on a w b=>exact absurd e (h a w b)
 | never=>exact⟨rfl,rfl⟩
 | off a w b=>exact⟨rfl,rfl⟩
def jV (cells:List ByteArray) (p:Nat):List ByteArray→List ByteArray
 | []=>cells
 | t::r=>jV (cells.set p t) (p+1) r
def qI (p:Nat):List ByteArray→List (Nat×ByteArray)
 | []=>[]
 | t::r=>(p,t)::qI (p+1) r
theorem AA:∀ (A B:List ByteArray) (p:Nat),qI p (A++B)=qI p A++qI (p+A.length) B
 | [],B,p=>rfl
 | t::A,B,p=>by
  rw [List.cons_append,qI,qI,AA A B (p+1),List.cons_append,XF,Nat.add_assoc p 1,Nat.add_comm 1 A.length]
theorem uM:∀ (L cells:List ByteArray) (p:Nat),cK cells (qI p L)=jV cells p L
 | [],_,_=>rfl
 | t::r,cells,p=>uM r (cells.set p t) (p+1)
theorem jE:∀ (L cells:List ByteArray) (p:Nat),(jV cells p L).length=cells.length
 | [],_,_=>rfl
 | t::r,cells,p=>(jE r (cells.set p t) (p+1)).trans List.length_set
theorem hX:∀ (L cells:List ByteArray) (p j:Nat),(jV cells p L)[j]?=if p≤j∧j < p+L.length∧j < cells.length then L[j - p]? else cells[j]?
 | [],cells,p,j=>by rw [jV,XB (by rw [List.length_nil];omega)]
 | t::r,cells,p,j=>by
  rw [jV,hX r (cells.set p t) (p+1) j,List.length_set,XF];by_cases h:p≤j∧j < p+(r.length+1)∧j < cells.length
  ·rw [XC h];by_cases e:p=j
   ·subst e;rw [XB (by omega),List.getElem?_set_self h.2.2,Nat.sub_self];rfl
   rw [XC (by omega),show j - p=(j - (p+1))+1 by omega,List.getElem?_cons_succ]
  rw [XB h,XB (by omega)];by_cases e:p=j
  ·subst e;have hl:cells.length≤p:=by omega
   rw [List.getElem?_eq_none (by rw [List.length_set];exact hl),List.getElem?_eq_none hl]
  rw [List.getElem?_set_ne e]
theorem B2 {d:DSt} {n:Nat} (h:Calm d n) {place:Nat} {L:List ByteArray} (hp:place+L.length≤n) (hs:∀ t∈L,t.size=64):∀ i,i≤L.length→l9 d place L i=(0,{d with q:=qI place (L.take i),gq:=d.gq+i})
 | 0,_=>by
  rw [l9,List.take_zero,qI,← h.q];rfl
 | i+1,hi=>by
  obtain ⟨t,ht⟩:=aY (l:=L) (k:=i) (by omega);have hz:=hs t (XN ht);have hD:L.getD i sNil=t:=by rw [List.getD_eq_getElem?_getD,ht];rfl
  have hq:qI place (L.take (i+1))=qI place (L.take i)++[(place+i,t)]:=by
   rw [cR ht,AA,XR,Nat.min_eq_left (by omega)];rfl
  obtain ⟨s,hS⟩:∃ s,s=({d with q:=qI place (L.take i),gq:=d.gq+i}:DSt):=⟨_,rfl⟩;have so:s.off=false:=by rw [hS];exact h.off
  have sc:eY s ((place+i:Nat):Int)=true:=by
   rw [iW,hS];exact decide_eq_true (by have:=h.inv.n;show place+i < d.cells.length;omega)
  obtain ⟨c1,c2⟩:=zH (s:=iR s (place+i) t) (by rw [hS];exact h.na);rw [l9,B2 h hp hs i (by omega),XC rfl,hD,hq,← hS];have w1:gS s ((place+i:Nat):Int) t=0:=by rw [gS,so,XB (by decide),sc,decide_eq_true hz,XC (show (true&&true)=true from rfl),XO,c2]
  have w2:iE s ((place+i:Nat):Int) t=iR s (place+i) t:=by rw [iE,so,XB (by decide),sc,decide_eq_true hz,XC (show (true&&true)=true from rfl),XO,c1]
  rw [w1,w2,hS];rfl
theorem LS {d:DSt} {n:Nat} (h:Calm d n) {place:Nat} {L:List ByteArray} (hp:place+L.length≤n) (hs:∀ t∈L,t.size=64):iP d place L=(0,{d with cells:=jV d.cells place L,q:=[],gq:=d.gq+L.length+1}):=by
 have hk:=B2 h hp hs L.length (XJ _);rw [List.take_length] at hk;obtain ⟨s,hS⟩:∃ s,s=({d with q:=qI place L,gq:=d.gq+L.length}:DSt):=⟨_,rfl⟩;have so:s.off=false:=by rw [hS];exact h.off
 obtain ⟨c1,c2⟩:=zH (s:=s) (by rw [hS];exact h.na);rw [← hS] at hk;have w1:lE s=0:=by rw [lE,so,XB (by decide),c2]
 have w2:iF s=sW s:=by rw [iF,so,XB (by decide),c2,XC rfl,c1]
 rw [iP,hk,XC rfl,w1,w2,sW,hS];show (0,({d with cells:=cK d.cells (qI place L),q:=[],gq:=d.gq+L.length+1}:DSt))=_;rw [uM]
theorem rT {d:DSt} {n:Nat} (h:Calm d n) {place:Nat} {L:List ByteArray} (hp:place+L.length≤n) (hs:∀ t∈L,t.size=64) (hm:L.length≤1048576):(iP d place L).1=0∧Calm (iP d place L).2 n∧(iP d place L).2.cells=jV d.cells place L:=by have hi:=jT h.inv place L (by omega);rw [LS h hp hs] at hi ⊢;exact⟨rfl,⟨⟨hi.ok,hi.arm,hi.n,XU _⟩,h.off,h.na⟩,rfl⟩
theorem kK {d:DSt} {n:Nat} (h:Calm d n) (i:Nat):bT d i=(d.cells[i]?).getD ⟨#[]⟩:=by rw [bT,h.q];rfl
theorem A6 (place:Nat) {a n:Nat} (ha:a < 10) (hn:n < 10000000):(hS place a n).size=64:=by rw [bS,yY,yF];rw [XE,jP (mZ a (by omega) (by omega)),jP (mZ n (by omega) (by omega))];omega
theorem E7 (place:Nat) {p:List UInt8} (h:p.length≤46):(eF place p).length=64:=by rw [eF,yF];rw [XE,jP (mZ _ (by omega) (by omega))];omega
theorem IT (fr:Nat) (t:List UInt8) (i:Nat):∀ x∈iV fr t i,x.size=64:=fun x hx=>by
 obtain ⟨j,hj,rfl⟩:=List.mem_map.1 hx;rw [bS,E7 _ (by rw [lR];omega)]
theorem qR {fr:Nat} {t:List UInt8} {i j:Nat} (h:j < i):(iV fr t i)[j]?=some (ofL (eF (fr+j) (fF t j))):=by rw [iV,XX,List.getElem?_range h];rfl
theorem OI {d:DSt} {n:Nat} (h:Calm d n) (hn:2≤n) {a cn:Nat} (ha:a < 10) (hc:cn < 10000000):(uB d a cn).1=0∧Calm (uB d a cn).2 n∧(uB d a cn).2.cells=(d.cells.set 1 (hS 1 a cn)).set 0 (hS 0 a cn):=by obtain ⟨a1,a2,a3⟩:=rT h (place:=1) (L:=[hS 1 a cn]) (by rw [List.length_singleton];omega) (fun t ht=>by rw [XG.1 ht];exact A6 _ ha hc) (by rw [List.length_singleton];omega);obtain ⟨b1,b2,b3⟩:=rT a2 (place:=0) (L:=[hS 0 a cn]) (by rw [List.length_singleton];omega) (fun t ht=>by rw [XG.1 ht];exact A6 _ ha hc) (by rw [List.length_singleton];omega);rw [uB,XC a1];exact⟨b1,b2,by rw [b3,a3];rfl⟩
theorem rV {d:DSt} {n:Nat} (h:Calm d n) {k a cn:Nat} {t:List UInt8} (hk:2*k+2≤n) (hn:n≤8000) (ha:a < 2) (hc:cn+cT t≤k) :
  (iO d k a cn t).1=0∧Calm (iO d k a cn t).2 n∧(iO d k a cn t).2.cells=((jV d.cells (2+a*k+cn) (iV (2+a*k+cn) t (cT t))).set 1 (hS 1 a (cn+cT t))).set 0 (hS 0 a (cn+cT t)):=by
 have hak:a*k≤k:=by
  rcases(show a=0∨a=1 by omega)with e|e<;>subst e<;>omega
 obtain ⟨a1,a2,a3⟩:=rT h (place:=2+a*k+cn) (L:=iV (2+a*k+cn) t (cT t)) (by rw [cY];omega) (IT _ _ _) (by rw [cY];omega);obtain ⟨b1,b2,b3⟩:=OI a2 (a:=a) (cn:=cn+cT t) (by omega) (by omega) (by omega);rw [iO,XC a1];exact⟨b1,b2,by rw [b3,a3]⟩
abbrev CT:=ByteArray→Option ByteArray
def oV (C:CT) (l:bN) (D:List ByteArray):CT:=fun x=>if x∈D then none else(cS l x).orElse fun _=>C x
def TO (C:CT) (t:List UInt8):CT:=oV C (fB t).1 (cZ t)
def m3 (T:List (List UInt8)):CT:=T.foldl TO (fun _=>none)
theorem qB (T:List (List UInt8)) (t:List UInt8):m3 (T++[t])=TO (m3 T) t:=by rw [m3,List.foldl_append];rfl
theorem N9 {C:CT} {l:bN} {D:List ByteArray} {x v:ByteArray} (h:oV C l D x=some v):cS l x=some v∨C x=some v:=by
 rw [oV] at h
 split at h
 ·cases h
 cases e:cS l x with
 | none=>rw [e] at h;exact .inr h
 | some u=>rw [e] at h;exact .inl h
theorem HZ (T:List (List UInt8)) {x v:ByteArray}:m3 T x=some v→∃ t∈T,cS (fB t).1 x=some v:=by
 have go:∀ (n:Nat) (T:List (List UInt8)),T.length=n→m3 T x=some v→∃ t∈T,cS (fB t).1 x=some v:=by
  intro n
  induction n with
  | zero =>
   intro T hT h;rw [List.length_eq_zero_iff.1 hT] at h;cases h
  | succ n ih =>
   intro T hT h;have hne:T≠[]:=fun e=>by rw [e] at hT;cases hT
   have e:T=T.dropLast++[T.getLast hne]:=(List.dropLast_concat_getLast hne).symm;rw [e,qB] at h;rcases N9 h with h|h
   ·exact⟨_,List.getLast_mem hne,h⟩
   obtain ⟨t,ht,h2⟩:=ih T.dropLast (by rw [List.length_dropLast];omega) h;exact⟨t,List.dropLast_subset T ht,h2⟩
 exact go T.length T rfl
theorem vH {t:List UInt8} (h:jL t=true):(dX t).2=true∧jM t=false∧0 < (fB t).1.length+(cZ t).length∧bH (fB t).1 (cZ t)=0:=by rw [jL] at h;simp only [XM,Bool.not_eq_true'] at h;obtain ⟨h1,h2,h3⟩:=h;rw [pU,XZ] at h1;rw [pT] at h3;simp only [XZ,XL,Bool.not_eq_false',XK] at h3;refine⟨by simpa using h1.1,h2,by have:=h3.1.1.1.1;omega,h3.1.1.1.2⟩
theorem mA {l:bN} {D:List ByteArray} (h:bH l D=0):(∀ p∈l,eJ p.1=true∧p.1∉D∧p.2.1.size≤20000)∧∀ s∈D,eJ s=true:=by
 rw [bH] at h
 split at h
 ·cases h
 next h1 =>
 split at h
 ·cases h
 next h2 =>
 rw [Bool.not_eq_true,XZ] at h1;constructor
 ·intro p hp;have a1:=List.any_eq_false.1 h1.1 p hp;have a2:=List.any_eq_false.1 (Bool.not_eq_true _▸h2) p hp;rw [wW] at a1;rw [bigV] at a2;simp only [Bool.not_eq_true,XZ,Bool.not_eq_false',XL] at a1 a2;refine⟨a1.1,fun hm=>?_,by omega⟩;rw [gD.2 hm] at a1;cases a1.2
 intro s hs;have a1:=List.any_eq_false.1 h1.2 s hs
 simpa using a1
theorem wB {l:bN} {D:List ByteArray} (h1:∀ p∈l,eJ p.1=true∧p.1∉D∧p.2.1.size≤20000) (h2:∀ s∈D,eJ s=true):bH l D=0:=by
 have a1:l.any (wW D)=false:=List.any_eq_false.2 fun p hp=>by
  have:=h1 p hp;rw [wW,this.1,Bool.not_true,Bool.false_or];exact fun e=>this.2.1 (gD.1 e)
 have a2:D.any (fun s=>!eJ s)=false:=List.any_eq_false.2 fun s hs=>by rw [h2 s hs];decide
 have a3:l.any bigV=false:=List.any_eq_false.2 fun p hp=>by
  have:=(h1 p hp).2.2;rw [bigV];simp only [XK];omega
 rw [bH,a1,a2,a3];rfl
theorem U1 {T:List (List UInt8)} (hT:∀ t∈T,jL t=true) {x v:ByteArray} (h:m3 T x=some v):eJ x=true∧v.size≤20000:=by obtain ⟨t,ht,h2⟩:=HZ T h;obtain ⟨n,hn⟩:=AT h2;have:=(mA (vH (hT t ht)).2.2.2).1 _ hn;exact⟨this.1,this.2.2⟩
theorem N8 {T:List (List UInt8)} (hT:∀ t∈T,jL t=true) {l:bN} (hn:e9 l) (hl:∀ x,cS l x=m3 T x):bH l []=0 :=wB (fun⟨x,v,n⟩ hp=>by
  have:=U1 hT ((hl x).symm.trans (AZ hn hp));exact⟨this.1,XT,this.2⟩) (fun s hs=>by cases hs)
theorem M6 {α:Type} [DecidableEq α]:∀ {l m:List α},l.Nodup→(∀ x,x∈l→x∈m)→l.length≤m.length
 | [],m,_,_=>XU _
 | a::l,m,hn,h=>by
  have hn2:=List.nodup_cons.1 hn;have hm:a∈m:=h a List.mem_cons_self;have h2:=M6 (l:=l) (m:=m.erase a) hn2.2 (fun x hx=>(List.mem_erase_of_ne (fun e=>by subst e;exact hn2.1 hx)).2 (h x (List.mem_cons_of_mem _ hx)));rw [List.length_erase_of_mem hm] at h2;have:=List.length_pos_of_mem hm;rw [XF];omega
theorem pM:∀ (n:Nat) (t:List UInt8) (acc:List ByteArray),(eT n t acc).1.length≤acc.length+n
 | 0,t,acc=>Nat.le_add_right _ _
 | n+1,t,acc=>by
  rw [eT]
  split
  ·exact Nat.le_add_right _ _
  split
  ·exact XU _
  have:=pM n ((tY t).drop (HT t)) (acc++[ofL ((tY t).take (HT t))]);rw [XE,List.length_singleton] at this;omega
theorem GZ (t:List UInt8):(xI t).length≤t.length:=by have:=pM t.length t [];rw [List.length_nil,XV] at this;exact this
theorem IW {t:List UInt8} (h:jM t=false):(fB t).1.length≤t.length:=by
 have h1:=uP ((xI t).drop 1) (GY t);have h2:=GZ t;rw [jM] at h;simp only [XZ,XL] at h;have h3:=h.1.2;have h4:=h.1.1.2;have:GY t≤(xI t).length / 2:=by rw [GY];omega
 show (lA ((xI t).drop 1) (GY t)).1.length≤_;omega
theorem TN {T:List (List UInt8)} (hT:∀ t∈T,jL t=true) {l:bN} (hn:e9 l) (hl:∀ x,cS l x=m3 T x):l.length≤(aR (T.map ofL)).length:=by
 have h1:(l.map Prod.fst).length≤(T.flatMap fun t=>(fB t).1.map Prod.fst).length:=M6 hn (fun x hx=>by
  cases e:cS l x with
  | none=>exact absurd hx (gP.1 e)
  | some v =>
   rw [hl] at e;obtain ⟨t,ht,h2⟩:=HZ T e;obtain ⟨n,h3⟩:=AT h2;exact List.mem_flatMap.2 ⟨t,ht,List.mem_map.2 ⟨_,h3,rfl⟩⟩)
 rw [XD] at h1;refine Nat.le_trans h1 ?_;clear h1 hl hn
 induction T with
 | nil=>exact XU _
 | cons t T ih =>
  have:=ih (fun t ht=>hT t (List.mem_cons_of_mem _ ht));have h2:=IW (vH (hT t List.mem_cons_self)).2.1;rw [List.flatMap_cons,XE,XD,List.map_cons,dL,XE,XF,XE,bA];omega
structure LogAt (cells:List ByteArray) (fr:Nat) (Q:List (List UInt8)):Prop where
 p:∀ q∈Q,1≤q.length∧q.length≤46
 at':∀ i q,Q[i]?=some q→cells[fr+i]?=some (ofL (eF (fr+i) q))
structure SInv (cells:List ByteArray) (k a n:Nat) (C:CT):Prop where
 k1:1≤k
 kn:2*k+2≤cells.length∧cells.length≤2*k+3
 a2:a < 2
 nk:n≤k
 hd:(cells[1]?=some (hS 1 a n)∧cells[0]?=some (hS 0 a n))∨(cells[1]?=some zS∧cells[0]?=some zS∧a=0∧n=0)
 lg:∃ (Q T:List (List UInt8)),Q.length=n∧LogAt cells (2+a*k) Q∧Q.flatten=aR (T.map ofL)∧(∀ t∈T,jL t=true)∧C=m3 T
theorem p9:∀ {Q:List (List UInt8)},(∀ q∈Q,1≤q.length∧q.length≤46)→Q.flatten.length≤46*Q.length
 | [],_=>XJ _
 | q::Q,h=>by
  have:=p9 (Q:=Q) (fun q hq=>h q (List.mem_cons_of_mem _ hq));have:=(h q List.mem_cons_self).2;rw [List.flatten_cons,XE,XF];omega
theorem SInv.len {cells:List ByteArray} {k a n:Nat} {C:CT} (h:SInv cells k a n C) {l:bN} (hn:e9 l) (hl:∀ x,cS l x=C x):l.length≤46*n:=by obtain ⟨Q,T,h1,h2,h3,h4,h5⟩:=h.lg;have:=TN h4 hn (fun x=>by rw [hl,h5]);have:=p9 h2.p;rw [h3] at this;omega
theorem SInv.wrong {cells:List ByteArray} {k a n:Nat} {C:CT} (h:SInv cells k a n C) {l:bN} (hn:e9 l) (hl:∀ x,cS l x=C x):bH l []=0:=by obtain ⟨Q,T,h1,h2,h3,h4,h5⟩:=h.lg;exact N8 h4 hn (fun x=>by rw [hl,h5])
theorem qJ {k place:Nat}:jR k place zS=false:=by
 have h:gG (zS.extract 16 24)=true:=by
  have e:(zS.extract 16 24).data.toList=[0,0,0,0,0,0,0,0]:=by
   rw [eS,bA];rfl
  rw [gG,e];rfl
 have hb:kE zS=true:=by rw [kE,h];rfl
 rw [jR,hb];rfl
theorem qQ {n:Nat} (h1:4≤n):SInv (kQ n).cells ((n - 2) / 2) 0 0 (fun _=>none):=by
 have hl:(kQ n).cells.length=n:=by rw [kQ,List.length_replicate]
 have hz:∀ i,i < n→(kQ n).cells[i]?=some zS:=fun i hi=>by
  show (List.replicate n z64)[i]?=_;rw [List.getElem?_replicate,XC hi];rfl
 refine⟨by omega,by omega,by omega,by omega,.inr ⟨hz 1 (by omega),hz 0 (by omega),rfl,rfl⟩,[],[],rfl,⟨fun q hq=>(by cases hq),fun i q hq=>(by cases hq)⟩,rfl,fun t ht=>(by cases ht),rfl⟩
theorem ME {cells:List ByteArray} {k a n:Nat} {C:CT} (h:SInv cells k a n C) {l:bN} {D:List ByteArray} (hn:e9 l) (hD:xY D) (h0:0 < l.length+D.length) (hw:bH l D=0) (hc:n+cT (bC l D)≤k) (hk:k < 5000) :
  SInv (((jV cells (2+a*k+n) (iV (2+a*k+n) (bC l D) (cT (bC l D)))).set 1 (hS 1 a (n+cT (bC l D)))).set 0 (hS 0 a (n+cT (bC l D)))) k a (n+cT (bC l D)) (oV C l D):=by
 obtain ⟨Q,T,h1,h2,h3,h4,h5⟩:=h.lg;have hin:=qL (l:=l) (P:=D) (N:=1000000) (by have:=hc;rw [cT] at this;omega);obtain ⟨r1,r2,r3⟩:=GX hn hD h0 hw (by omega);obtain ⟨t,ht⟩:∃ t,t=bC l D:=⟨_,rfl⟩;have htj:t=aR [ofL (aR (cA l D))]:=ht;rw [← ht] at hc ⊢;have hak:a*k≤k:=by
  have:=h.a2;rcases(show a=0∨a=1 by omega)with e|e<;>subst e<;>omega
 have hlen:=h.kn;refine⟨h.k1,by rw [List.length_set,List.length_set,jE];exact h.kn,h.a2,hc,.inl ⟨?_,?_⟩,Q++(List.range (cT t)).map (fF t),T++[aR (cA l D)],?_,⟨?_,?_⟩,?_,?_,?_⟩
 ·rw [List.getElem?_set_ne (by omega),List.getElem?_set_self (by rw [jE];omega)]
 ·rw [List.getElem?_set_self (by rw [List.length_set,jE];omega)]
 ·rw [XE,XD,List.length_range,h1]
 ·intro q hq;rcases List.mem_append.1 hq with hq|hq
  ·exact h2.p q hq
  obtain ⟨i,hi,rfl⟩:=List.mem_map.1 hq;exact CP (List.mem_range.1 hi)
 ·intro i q hq;rw [List.getElem?_set_ne (by omega),List.getElem?_set_ne (by omega),hX,cY];by_cases hi:i < n
  ·rw [List.getElem?_append_left (by omega)] at hq;rw [XB (by omega)];exact h2.at' i q hq
  rw [List.getElem?_append_right (by omega),h1,XX] at hq;have hi2:i - n < cT t:=by
   by_cases e:i - n < cT t
   ·exact e
   rw [List.getElem?_eq_none (by rw [List.length_range];omega)] at hq;cases hq
  rw [List.getElem?_range hi2] at hq;cases hq;rw [XC (by omega),show 2+a*k+i - (2+a*k+n)=i - n by omega,qR hi2,show 2+a*k+n+(i - n)=2+a*k+i by omega]
 ·rw [List.flatten_append,G8,h3,htj,List.map_append,C4];rfl
 ·intro u hu;rcases List.mem_append.1 hu with hu|hu
  ·exact h4 u hu
  rw [XG.1 hu];exact r1
 rw [qB,← h5,TO,r3];funext x;rw [oV,oV,r2]
def cL (l:bN):List ByteArray:=(bP l).flatMap fun k=>[k,cE l k]
theorem v8 {a b:bN} (ha:e9 a) (hb:e9 b) (h:∀ k,cS a k=cS b k):cL a=cL b:=by
 have hg:(fun x=>[x,cE a x])=fun x=>[x,cE b x]:=by
  funext x;rw [kT,kT,h]
 rw [cL,cL,sD ha hb h,hg]
theorem kH (l:bN):(cL l).length=2*l.length:=by rw [cL,fM,fK]
def eU (s:bN×Nat) (ps:List (ByteArray×ByteArray)):bN×Nat:=ps.foldl (fun s p=>(fY s.1 p.1 p.2 s.2,lB s.1 p.1 s.2)) s
theorem vM (s:bN×Nat) (ps:List (ByteArray×ByteArray)) (p:ByteArray×ByteArray):eU s (ps++[p])=(fY (eU s ps).1 p.1 p.2 (eU s ps).2,lB (eU s ps).1 p.1 (eU s ps).2):=by rw [eU,eU,List.foldl_append];rfl
theorem nN:∀ (ps:List (ByteArray×ByteArray)) (s:bN×Nat),dR s.1 s.2→e9 s.1→dR (eU s ps).1 (eU s ps).2∧e9 (eU s ps).1
 | [],s,h1,h2=>⟨h1,h2⟩
 | p::r,s,h1,h2=>nN r _ (A0 h1 p.1 p.2) (A1 h2 p.1 p.2 s.2)
theorem sK:∀ (ps:List (ByteArray×ByteArray)) (s:bN×Nat),(eU s ps).1.length≤s.1.length+ps.length
 | [],s=>XJ _
 | p::r,s=>by
  have h1:=sK r (fY s.1 p.1 p.2 s.2,lB s.1 p.1 s.2);have h2:=(wA p.1 p.2 s.2 s.1).2;rw [XF];show (eU (fY s.1 p.1 p.2 s.2,lB s.1 p.1 s.2) r).1.length≤_;have h3:(fY s.1 p.1 p.2 s.2,lB s.1 p.1 s.2).1.length=(fY s.1 p.1 p.2 s.2).length:=rfl;omega
def pG:List (ByteArray×ByteArray)→ByteArray→Option ByteArray
 | [],_=>none
 | p::r,k=>(pG r k).orElse fun _=>if p.1=k then some p.2 else none
theorem AB (k:ByteArray):∀ (ps:List (ByteArray×ByteArray)) (s:bN×Nat),cS (eU s ps).1 k=(pG ps k).orElse fun _=>cS s.1 k
 | [],s=>rfl
 | p::r,s=>by
  have h:=AB k r (fY s.1 p.1 p.2 s.2,lB s.1 p.1 s.2);show cS (eU (fY s.1 p.1 p.2 s.2,lB s.1 p.1 s.2) r).1 k=_;rw [h,uS,pG];cases pG r k with
  | some v=>rfl
  | none =>
   show (if p.1=k then some p.2 else cS s.1 k)=((if p.1=k then some p.2 else none).orElse fun _=>cS s.1 k)
   split<;>rfl
abbrev dM (ps:List (ByteArray×ByteArray)):bN×Nat:=eU ([],0) ps
theorem AW (ps:List (ByteArray×ByteArray)) (k:ByteArray):cS (dM ps).1 k=pG ps k:=by rw [dM,AB];show ((pG ps k).orElse fun _=>none)=_;cases pG ps k<;>rfl
theorem FJ:dR ([]:bN) 0:=⟨List.Pairwise.nil,fun p hp=>(by cases hp)⟩
theorem vX:e9 ([]:bN):=List.nodup_nil
theorem gC (ps:List (ByteArray×ByteArray)):dR (dM ps).1 (dM ps).2∧e9 (dM ps).1:=nN ps _ FJ vX
theorem nV {ps:List (ByteArray×ByteArray)} {p:ByteArray×ByteArray×Nat} (h:p∈(dM ps).1):(p.1,p.2.1)∈ps:=by
 obtain ⟨k,v,n⟩:=p;have e:=AZ (gC ps).2 h;rw [AW] at e;have go:∀ ps:List (ByteArray×ByteArray),pG ps k=some v→(k,v)∈ps:=by
  intro ps
  induction ps with
  | nil=>intro h;cases h
  | cons q r ih =>
   intro h;rw [pG] at h;cases e:pG r k with
   | some u =>
    rw [e] at h;cases h;exact List.mem_cons_of_mem _ (ih e)
   | none =>
    rw [e] at h;by_cases e2:q.1=k
    ·have h:(if q.1=k then some q.2 else none)=some v:=h;rw [XC e2] at h;cases h;rw [← e2];exact List.mem_cons_self
    have h:(if q.1=k then some q.2 else none)=some v:=h;rw [XB e2] at h;cases h
 exact go ps e
abbrev QU (was:List ByteArray) (ps:List (ByteArray×ByteArray)) (D:List ByteArray):bN×Nat:=(g7 (eU (lA was (was.length / 2)) ps).1 D,(eU (lA was (was.length / 2)) ps).2)
def A9 (was:List ByteArray) (ps:List (ByteArray×ByteArray)) (D:List ByteArray):List ByteArray:=cL (QU was ps D).1
theorem QT (was:List ByteArray) (ps:List (ByteArray×ByteArray)) (D:List ByteArray):dR (QU was ps D).1 (QU was ps D).2∧e9 (QU was ps D).1:=by have h1:=nU was (was.length / 2);have h2:=nN ps _ h1.1 h1.2;exact uZ D _ _ h2.1 h2.2
theorem M8 {l:bN} (h:e9 l) (k:ByteArray):cS (lA (cL l) ((cL l).length / 2)).1 k=cS l k:=by have:=yS h [] k;rw [List.append_nil] at this;rw [kH,Nat.mul_div_cancel_left _ (by decide)];exact this
theorem M7 {l l':bN} {C:CT} {ps:List (ByteArray×ByteArray)} {P D:List ByteArray} (hn:e9 l) (hn':e9 l') (hl:∀ k,cS l k=C k) (hl':∀ k,cS l' k=oV C (dM ps).1 D k) (hD:∀ k,k∈D↔k∈P):A9 (cL l) ps P=cL l':=by
 refine v8 (QT _ _ _).2 hn' fun k=>?_;have h2:=nN ps _ (nU (cL l) ((cL l).length / 2)).1 (nU (cL l) ((cL l).length / 2)).2;show cS (g7 (eU (lA (cL l) ((cL l).length / 2)) ps).1 P) k=_;rw [F0 k P _ h2.2,AB,M8 hn,hl',oV,AW,hl];by_cases hk:k∈P
 ·rw [XC (gD.2 hk),XC ((hD k).2 hk)]
 rw [XB (fun h=>hk (gD.1 h)),XB (fun h=>hk ((hD k).1 h))]
end Go.Proofs.YtmkgeogoojcciaaGreatDoor
namespace Go.Proofs.YtmkgeogoojcciaaGreatDoor
open Go.Proofs.Tryz
open Go.Abs
theorem dW (l:List ByteArray):∀ r∈l.map encStr,r.length=1:=fun r hr=>by
 obtain ⟨t,_,rfl⟩:=List.mem_map.1 hr;rfl
def TR (l:List ByteArray):Ob:=bx 1 31 [.pv (aW l)]
def T9:Ob:=bx 1 3 [iv 2]
theorem OH (l:List ByteArray) (H:aA) (h1:H.get 931=none) (h2:H.get 932=none) :
  aK Tryz.prog 118 [.pv (aW l),iv 2] H (fun r H'=>r=.clo 145 [.ref 931 0 0 0,.ref 932 0 0 0]∧H'=(932,T9)::(931,TR l)::H):=by
 have h2':aA.get ((931,TR l)::H) 932=none:=h2;refine Bd func118 rfl ntmps118<|Sr<|Dd (by exact fP (id:=931) rfl rfl rfl rfl h1)<|Dd (by exact fP (id:=932) rfl rfl rfl rfl h2')<|Dd aS<|Zz<|Sq<|Sr<|Dd (eA aV)<|Dd dG<|Zz ?_;refine Cn ?_ ?_<;>intro hc1
 ·cases hc1
 refine aG<|Sr<|Dd (by exact eP rfl rfl)<|Dd aS<|Zz<|aN ?_;refine a8 (H':=((932,T9)::(931,TR l)::H)) (.inr rfl) rfl (aH rfl) Fin.refl ?_;exact Qq
def tR (l:List ByteArray) (k:Nat):List ByteArray:=(l.drop (2*k)).take 2
theorem JE (l:List ByteArray) (k:Nat):((l.map encStr).drop (2*k)).take 2=(tR l k).map encStr:=by rw [tR,List.map_take,List.map_drop]
theorem QW {n:Nat} (h:2≤n):min (2:Int) (n:Int)=2:=Int.min_eq_left (by omega)
theorem KF (l:List ByteArray) (fv:AV) (Hs:Nat→aA) (m:Nat) (hl:l.length=2*m) (hm:m < 1099511627776) (h1:∀ k,(Hs k).get 931=some (TR l)) (h2:∀ k,(Hs k).get 932=some T9)
  (hy:∀ k,k < m→eK Tryz.prog fv [.pv (aW (tR l k))] (Hs k) (fun r H'=>r=bv true∧H'=Hs (k+1))) :
  aK Tryz.prog 145 [fv,.ref 931 0 0 0,.ref 932 0 0 0] (Hs 0) (fun r H'=>r=.tup []∧H'=Hs m):=by
 have hml:(l.map encStr).length=l.length:=XD _;refine Bd func145 rfl ntmps145<|Sr<|Dd aS<|Zz<|aM ?_;refine bB (σ:=Nat) (fun k=>([(0,fv),(1,.ref 931 0 0 0),(2,.ref 932 0 0 0),(4,iv ((2*k:Nat):Int))],Hs k)) (fun k=>k≤m) (fun k=>m - k) 0 (XU _) ?_ ?_
 ·exact E0
 rintro k hkm;refine Sq<|Sr<|Dd aE<|Dd (by exact aX rfl b5 rfl (h1 k) rfl rfl rfl)<|Dd (jW aO)<|Dd dG<|Zz ?_;refine Cn ?_ ?_<;>intro hc1
 ·have hlt:2*k < l.length:=by have:=W9 hc1;omega
  have hkm2:k < m:=by omega
  have hyk:=hy k hkm2;have hdl:((l.map encStr).drop (2*k)).length=l.length - 2*k:=by rw [XS,hml]
  refine aG<|Sq<|aM<|Sq<|bK follows<|Cq (by exact aX rfl aV rfl (h2 k) rfl rfl rfl)<|Cq (by exact aX rfl b5 rfl (h1 k) rfl rfl rfl)<|Cq aE<|Cq (by exact fD (l:=2*k) (h:=(l.map encStr).length) (rows':=(l.map encStr).drop (2*k)) rfl bR rfl (dW l) rfl rfl (by omega) (XJ _) (by rw [List.take_length]))<|Cq (jW aO)<|Cq (by exact uO (r:=2) rfl rfl rfl (by rw [hdl];exact QW (by omega)))<|Cq aS<|cM<|Kr<|Sr<|Dd aE<|Dd (by exact aX rfl b5 rfl (h1 k) rfl rfl rfl)<|Dd aE<|Dd aE<|Dd aE<|Dd (by exact cF rfl rfl rfl (show IntKind.i64.wrap (((2*k:Nat):Int)+2)=((2*k+2:Nat):Int)by rw [IntKind.wrap_i64];omega))<|Dd aE<|Dd aE<|Dd (by exact cF rfl rfl rfl (show IntKind.i64.wrap (((2*k:Nat):Int)+2)=((2*k+2:Nat):Int)by rw [IntKind.wrap_i64];omega)) ?_;refine Dd (by exact LM (l:=2*k) (h:=2*k+2) (rows':=(tR l k).map encStr) rfl bR rfl (dW l) rfl rfl rfl (by omega) (by omega) (by intro h;rw [List.map_eq_nil_iff] at h;rw [h] at hlt;exact absurd hlt (Nat.not_lt_zero _)) (by rw [← JE,List.drop_take];congr 1;omega))<|Dd (by exact gB rfl rfl rfl (hyk))<|Dd uF<|Zz ?_;refine Cn ?_ ?_<;>intro hc2
  ·cases hc2
  refine aG<|Rg<|Dd aE<|Dd (by exact aX rfl aV rfl (h2 (k+1)) rfl rfl rfl)<|Dd (by exact cF rfl rfl rfl (show IntKind.i64.wrap (((2*k:Nat):Int)+2)=((2*(k+1):Nat):Int)by rw [IntKind.wrap_i64];omega))<|Da ?_;exact⟨k+1,hkm2,by omega,E0⟩
 have hge:l.length≤2*k:=by have:=XA hc1;omega
 have hkk:k=m:=by omega
 refine a6 ?_;rw [← hkk];exact iQ (H':=Hs k) (.inl rfl) rfl Fin.refl ⟨rfl,rfl⟩
theorem UJ (l:List ByteArray):∀ r∈l.map encStr,r.length=1:=fun r hr=>by
 obtain ⟨t,_,rfl⟩:=List.mem_map.1 hr;rfl
theorem OG (l:List ByteArray) (H:aA) (hc:bF H) (h1:H.get 901=none) (hl:l.length < 1099511627776) :
  aK Tryz.prog 120 [.pv (aW l)] H (fun r H'=>r=.osl 901 1 0 l.length∧H'=(901,⟨1,1,9,g5 l⟩)::H):=by
 have hml:(l.map encStr).length=l.length:=XD _;refine Bd func120 rfl ntmps120<|Sr<|Dd aS<|Zz<|Sq<|Sr<|Dm ?_;refine iJ rfl rfl (E9 rfl aO rfl) ?_;rintro _ H2 ⟨e2,b,rfl,hb⟩;rw [e2];clear e2 H2;refine Zz ?_;refine Cn ?_ ?_<;>intro hc1
 ·have h0:=hb hc1;have h00:l=[]:=List.map_eq_nil_iff.1 h0;subst h00;refine Sr<|Dd (by exact iC (id:=901) (sz:=1) (ty:=9) rfl h1 rfl)<|Zz<|aN ?_;refine a8 (H':=((901,⟨1,1,9,[]⟩)::H)) (.inr rfl) rfl (aH rfl) ((Fin.bump (g:=0) (k:=1) rfl rfl (by decide) rfl rfl rfl).trans (Fin.get' (fun j=>gE _ _ _ _ j))) ?_;exact Qq
 refine aG<|Sr<|Dd (by exact eW (id:=901) rfl bR rfl rfl rfl rfl (by simp) h1)<|Dd aE<|Dd (by exact dQ rfl bR D7 rfl rfl rfl rfl rfl rfl rfl (UJ l) hml (by omega) (XV _) (show []++(l.map encStr).map (·.map AV.pv)=g5 l by rw [List.nil_append,List.map_map];rfl))<|Dd aS<|Zz<|aN ?_;refine a8 (H':=((901,⟨1,1,9,g5 l⟩)::H)) (.inr rfl) rfl (aH rfl) (Fin.get' (fun j=>gE _ _ _ _ j)) ?_;exact Qq
end Go.Proofs.YtmkgeogoojcciaaGreatDoor
namespace Go.Proofs.YtmkgeogoojcciaaGreatDoor
open Go.Proofs.Tryz
open Go.Abs Go.Lib
theorem CJ:∀ (ps l:bN) (c:Nat),(fN l c ps).1.length≤l.length+ps.length
 | [],l,c=>XJ _
 | (k,v,n)::r,l,c=>by
  have h1:=CJ r (fY l k v c) (lB l k c);have h2:=(wA k v c l).2;show (fN (fY l k v c) (lB l k c) r).1.length≤_;rw [XF];omega
theorem DK (P:List ByteArray):∀ l:bN,(g7 l P).length≤l.length:=by
 induction P with
 | nil=>exact fun l=>XJ _
 | cons k r ih=>exact fun l=>Nat.le_trans (ih (pY l k)) (nW k l).length_le
theorem w5 {l put ps:bN} {c:Nat} {D:List ByteArray} (hst:dR l c) (hnd:e9 l) (hnp:e9 put) (hp:ps.Perm put):dR (g7 (fN l c ps).1 D) (fN l c ps).2∧e9 (g7 (fN l c ps).1 D)∧(g7 (fN l c ps).1 D).length≤l.length+put.length∧∀ x,cS (g7 (fN l c ps).1 D) x=oV (cS l) put D x:=by
 have h1:=G6 ps l c hst hnd;have h2:=uZ D _ _ h1.1 h1.2;have hnps:e9 ps:=(hp.map Prod.fst).nodup_iff.2 hnp;refine⟨h2.1,h2.2,?_,fun x=>?_⟩
 ·have a1:=DK D (fN l c ps).1;have a2:=CJ ps l c;have a3:=hp.length_eq;omega
 rw [F0 x D _ h1.2,MP x ps l c hnps,NG hp x hnps,oV];by_cases hx:x∈D
 ·rw [XC (gD.2 hx),XC hx]
 rw [XB (fun h=>hx (gD.1 h)),XB hx]
abbrev rE (L:List ByteArray) (t:List UInt8) (u:Nat):bI:=[(0,.mp 1101 0),(1,sv (ofL t)),(5,.pv (aW L)),(7,iv (u:Int)),(9,.ref 9 0 0 0)]
abbrev rK (W:List ByteArray) (j:Nat) (K:aA):aA:=(932,T9)::(931,TR W)::(9,PO 950)::(950,bJ (lA W j).1 (lA W j).2)::K
theorem JD {W:List ByteArray} {j:Nat} (h:2*j+1 < W.length):((tR W j).map encStr)[0]?=some (encStr (W.getD (2*j) sNil))∧((tR W j).map encStr)[1]?=some (encStr (W.getD (2*j+1) sNil)):=by have h0:W[2*j]?=some (W[2*j]'(by omega)):=XI (by omega);have h1:W[2*j+1]?=some (W[2*j+1]'h):=XI h;rw [XX,XX,tR,List.getElem?_take_of_lt (by omega),List.getElem?_take_of_lt (by omega),List.getElem?_drop,List.getElem?_drop,List.getD_eq_getElem?_getD,List.getD_eq_getElem?_getD,Nat.add_zero,h0,h1];exact Qq
theorem zU {H:aA} {id:Nat} {o:Ob} (h:H.get id=some o):Sub [(id,o)] H:=by
 intro j o2 ho;simp only [aA.get] at ho;cases e:Nat.beq id j with
 | true =>
  rw [e] at ho;cases ho;rw [← Nat.eq_of_beq_eq_true e];exact h
 | false=>rw [e] at ho;cases ho
theorem yT (id:Nat) (l:bN) (c:Nat):bF [(id,bJ l c)]:=bF.of (fun p hp=>by
 rw [XG] at hp;subst hp;exact aQ _ _ _)
theorem GO (l:bN) (c:Nat) (P:List ByteArray) (hst:dR l c) (hl:l.length < 1099511627776) (hP:P.length < 1099511627776) (H:aA) (h:H.get 950=some (bJ l c)):aK Tryz.prog 46 [.mp 950 0,.pv (aW P)] H (fun r H'=>r=iv (bH l P)∧H'=H) :=aK.frameS (P2 l c P hst hl hP) (zU h) (yT _ _ _) (by simp;rfl)
theorem LZ (l:bN) (c:Nat) (P:List ByteArray) (hst:dR l c) (hl:l.length < 1099511627776) (hP:P.length < 1099511627776) (hsz:(bC l P).length < 35184372088832) (H:aA) (h:H.get 950=some (bJ l c)):aK Tryz.prog 50 [.mp 950 0,.pv (aW P)] H (fun r H'=>r=sv (ofL (bC l P))∧H'=H) :=aK.frameS (GP l c P hst hl hP hsz) (zU h) (yT _ _ _) (by simp;rfl)
theorem DW (H:aA) (l:List ByteArray):∀ r∈(TR l).rows,∀ a∈r,Clo H a:=by intro r hr a ha;simp only [TR,bx,XG] at hr;subst hr;rw [XG] at ha;subst ha;exact .pv _
theorem DX (H:aA):∀ r∈T9.rows,∀ a∈r,Clo H a:=by intro r hr a ha;simp only [T9,bx,XG] at hr;subst hr;rw [XG] at ha;subst ha;exact .pv _
theorem L3 (H:aA) (l:List ByteArray):∀ r∈g5 l,∀ a∈r,Clo H a:=by intro r hr a ha;obtain ⟨s,_,rfl⟩:=List.mem_map.1 hr;obtain ⟨p,_,rfl⟩:=List.mem_map.1 ha;exact .pv _
theorem IY (d:DSt) (k a n:Nat) (b:Bool) (l:bN) (c:Nat) (t:List UInt8) (hst:dR l c) (hnd:e9 l) (ht:t.length < 1000000) :
  aK Tryz.prog 89 [.mp 1101 0,sv (ofL t)] (sH d (b6 k a n b) (bJ l c)) (fun r H'=>r=bv (jL t)∧∃ l' c',dR l' c'∧e9 l'∧l'.length≤l.length+t.length∧(jL t=true→∀ x,cS l' x=oV (cS l) (fB t).1 (cZ t) x)∧H'=sH d (b6 k a n b) (bJ l' c')):=by
 have hspl:=fun H=>CC t H (by omega);have hLl:=GZ t;have hb1:pU t=(!(dX t).2||decide ((xI t).length=0)):=rfl;have hok:jL t=(!pU t&&(!jM t&&!pT t)):=rfl;have bad:jL t=false→∃ l' c',dR l' c'∧e9 l'∧l'.length≤l.length+t.length∧(jL t=true→∀ x,cS l' x=oV (cS l) (fB t).1 (cZ t) x)∧sH d (b6 k a n b) (bJ l c)=sH d (b6 k a n b) (bJ l' c'):=fun h=>⟨l,c,hst,hnd,Nat.le_add_right _ _,fun h2=>(by rw [h] at h2;cases h2),rfl⟩;obtain ⟨ok,hokv⟩:∃ ok,ok=(dX t).2:=⟨_,rfl⟩;obtain ⟨L,hL⟩:∃ L,L=xI t:=⟨_,rfl⟩;have hL2:(dX t).1=L:=hL.symm;rw [← hokv,hL2] at hspl;rw [← hokv,← hL] at hb1;rw [← hL] at hLl;have hml:(L.map encStr).length=L.length:=XD _;refine Bd func89 rfl ntmps89<|Sr<|Dd aS<|Zz<|Sr<|Dd aE<|Dd (by exact aB rfl rfl call87 rfl (hspl _))<|Dd aE<|Dd eB<|Dd eB<|Dd aS<|Dd aS<|Zz<|Sq<|Sq ?_;refine dA (t:=23) (n:=8) (X:=!ok||decide (((L.map encStr).length:Int)=0)) ?_ ?_
 ·all_goals refine Dd aE ?_
  all_goals refine Dd uF<|Dm ?_
  all_goals refine Sp 19 (fun h19=>?_) fun h19=>?_
  all_goals try contradiction
  all_goals first|refine Fo<|Fo<|Fo ?_|refine On aE<|On (jW aO)<|On g6 ?_
  all_goals refine Dd gL<|Zz ?_
  all_goals(exact⟨⟨_,rfl,by(rw [h19];rfl)⟩,rfl,rfl,rfl⟩)
 refine Cn ?_ ?_<;>intro hc1
 ·have hq:=hc1;have hf:jL t=false:=by
   rw [hok,hb1];have h2:(!ok||decide (L.length=0))=true:=by
    rw [hml] at hq
    rwa [show decide ((L.length:Int)=0)=decide (L.length=0)from decide_eq_decide.2 (by omega)] at hq
   rw [h2];rfl
  refine Sr<|Dd aS<|Zz<|aN ?_;refine a8 (H':=(sH d (b6 k a n b) (bJ l c))) (.inr rfl) rfl (aH rfl) (Fin.wk (by(simp;done)) (Hc (aF _ _ rfl rfl rfl)<|Hc (aC _ _)<|Hc (aL _ _ _)<|Hc (aJ _ _)<|Hc (bD rfl rfl)<|Hc (aQ _ _ _)<|trivial) ⟨rfl,rfl,rfl,rfl,rfl,rfl,trivial⟩) ?_;exact⟨by rw [hf],bad hf⟩
 have hq:=hc1;rw [XZ,Bool.not_eq_false',XL] at hq;have hl0:0 < L.length:=by omega
 have hb1f:pU t=false:=by rw [hb1,hq.1,decide_eq_false (by omega)];rfl
 obtain ⟨x,hx⟩:=aY hl0;have hix:=cG (f:=encStr) hx;have hgD:L.getD 0 sNil=x:=by rw [List.getD_eq_getElem?_getD,hx];rfl
 have hxs:x.size < 1099511627776:=by have:=z7 (t:=t) (x:=x) (by rw [← hL];exact XN hx);omega
 have hat:=fun H=>u4 x hxs H;have hb2:jM t=(((gG x||decide (cW x < 0))||decide (((L.length / 2:Nat):Int) < cW x))||decide ((L.length:Int) < 2*cW x+2)):=by rw [jM,SF,← hL,hgD]
 have hN:GY t=(cW x).toNat:=by rw [GY,SF,← hL,hgD]
 obtain ⟨v,hv⟩:∃ v,v=cW x:=⟨_,rfl⟩;obtain ⟨e,he⟩:∃ e,e=gG x:=⟨_,rfl⟩;simp only [← hv,← he] at hat hb2 hN;clear hv he;have hquo:IntKind.i64.wrap (((L.map encStr).length:Int).tdiv 2)=((L.length / 2:Nat):Int):=by
  rw [hml,Int.tdiv_eq_ediv_of_nonneg (by omega),g9 (by omega) (by omega)];omega
 refine aG<|Sr<|Dd aE<|Dd (by exact aZ rfl bR rfl rfl (by omega) (by exact XO _) hix rfl)<|Dd (kG aU)<|Dd (by exact aB rfl rfl PT rfl (hat _))<|Dd aE<|Dd eB<|Dd eB<|Dd aS<|Dd aS<|Zz<|Sq<|Sq ?_;refine dA (t:=51) (n:=24) (X:=((e||decide (v < 0))||decide (((L.length / 2:Nat):Int) < v))||decide (((L.map encStr).length:Int) < 2*v+2)) ?_ ?_
 ·all_goals refine Dd aE ?_
  all_goals refine Dd (by exact qY rfl gW rfl)<|Dm ?_
  all_goals refine Sp 33 (fun h33=>?_) fun h33=>?_
  all_goals(try(with_reducible contradiction))
  all_goals first|refine Fo<|Fo ?_|refine On aE<|On dG ?_
  all_goals refine Dd gL<|Dm ?_
  all_goals refine Sp 37 (fun h37=>?_) fun h37=>?_
  all_goals(try(with_reducible contradiction))
  all_goals first|refine Fo<|Fo<|Fo<|Fo<|Fo ?_|refine On aE<|On aE<|On (jW aO)<|On (by exact mF rfl rfl rfl (by decide) hquo)<|On yZ ?_
  all_goals refine Dd gL<|Dm ?_
  all_goals refine Sp 44 (fun h44=>?_) fun h44=>?_
  all_goals(try(with_reducible contradiction))
  all_goals first|refine Fo<|Fo<|Fo<|Fo<|Fo<|Fo ?_|refine On aE<|On (jW aO)<|On aE<|On (by exact gR rfl rfl rfl (by have q1:=XA h37;have q2:=XA h44;exact g9 (by omega) (by omega)))<|On (by exact cF rfl rfl rfl (by have q1:=XA h37;have q2:=XA h44;exact g9 (by omega) (by omega)))<|On dG ?_
  all_goals refine Dd gL<|Zz ?_
  all_goals(exact⟨⟨_,rfl,by first|(rw [h33];rfl)|(rw [h33,h37];rfl)|(rw [h33,h37,h44];rfl)⟩,rfl,rfl,rfl⟩)
 refine Cn ?_ ?_<;>intro hc2
 ·have hq2:=hc2;rw [hml] at hq2;have hf:jL t=false:=by rw [hok,hb2,hq2,hb1f];rfl
  refine Sr<|Dd aS<|Zz<|aN ?_;refine a8 (H':=(sH d (b6 k a n b) (bJ l c))) (.inr rfl) rfl (aH rfl) (Fin.wk (by(simp;done)) (Hc (aF _ _ rfl rfl rfl)<|Hc (aC _ _)<|Hc (aL _ _ _)<|Hc (aJ _ _)<|Hc (bD rfl rfl)<|Hc (aQ _ _ _)<|trivial) ⟨rfl,rfl,rfl,rfl,rfl,rfl,trivial⟩) ?_;exact⟨by rw [hf],bad hf⟩
 have hq2:=hc2;rw [hml] at hq2;have hb2f:jM t=false:=hb2.trans hq2;rw [XZ,XZ,XZ,XL,XL,XL] at hq2;obtain ⟨u,rfl⟩:∃ u:Nat,v=(u:Int):=⟨v.toNat,by omega⟩;rw [XO] at hN;obtain ⟨W,hW⟩:∃ W,W=(L.drop 1).take (2*u):=⟨_,rfl⟩;have hWl:W.length=2*u:=by rw [hW,XR,XS];omega
 have hWe:((L.map encStr).take (2*u+1)).drop 1=W.map encStr:=by
  rw [hW,List.map_take,List.map_drop,List.drop_take];rfl
 have hput:fB t=lA W u:=by
  rw [fB,← hL,hN,hW]
  conv=>lhs;rw [← List.take_append_drop (2*u) (L.drop 1)]
  exact AR _ _ u (by rw [XR,XS];omega)
 have hdrop:cZ t=L.drop (2*u+2):=by rw [cZ,← hL,hN]
 have hsm:=MK ht hb2f;have hb3:pT t=((((decide ((fB t).1.length+(cZ t).length=0)||!decide (bH (fB t).1 (cZ t)=0))||!decide (bC (fB t).1 (cZ t)=aR [ofL t]))||!eN (cZ t))||decide ((bZ (cZ t)).length < (cZ t).length)):=rfl;rw [hput] at hsm hb3 bad ⊢;have hpok:=nU W u;obtain ⟨D,hD⟩:∃ D,D=cZ t:=⟨_,rfl⟩;rw [← hD] at hsm hb3 hdrop bad ⊢;have hDe:((L.map encStr).take (L.map encStr).length).drop (2*u+2)=D.map encStr:=by
  rw [List.take_length,hdrop,List.map_drop]
 clear hix hx hb1 hb2 hspl;refine aG<|Sr<|Dd (by exact g4 (id:=950) eE rfl rfl)<|Dd (by exact cC (id:=9) rfl VP rfl rfl)<|Uu (pE sizeOf33)<|Zz<|Sq<|Sr<|Dd aE<|Dd aE<|Dd (by exact gR rfl rfl rfl (g9 (by omega) (by omega)))<|Dd (by exact cF rfl rfl rfl (show IntKind.i64.wrap (2*(u:Int)+1)=((2*u+1:Nat):Int)by rw [g9 (by omega) (by omega)];omega))<|Dd (by exact fD (l:=1) (h:=2*u+1) (rows':=W.map encStr) rfl bR rfl (dW L) rfl rfl (by omega) (by omega) hWe)<|Dd (by exact aB rfl rfl call118 rfl (OH W _ rfl rfl))<|Zz<|aM ?_;refine fU.ent (E':=(58,.clo 145 [.ref 931 0 0 0,.ref 932 0 0 0])::rE L t u) (H':=rK W 0 (sH d (b6 k a n b) (bJ l c))) (bY.wk (Ec (by(simp;exact⟨rfl,rfl⟩))<|Ea<|Eb<|Eb<|Eb<|Ea<|trivial) (Hc (DX _)<|Hc (DW _ _)<|Ha<|Hc (aQ _ _ _)<|Hc (aF _ _ rfl rfl rfl)<|Hc (aC _ _)<|Hc (aL _ _ _)<|Hc (aJ _ _)<|Hc (bD rfl rfl)<|Hc (aQ _ _ _)<|trivial) ⟨rfl,rfl,rfl,rfl,rfl,rfl,trivial⟩) ?_;refine s8 (id:=944) (p:=59) (rE L t u) rfl call145 rfl rfl (by simp [rE];exact⟨rfl,rfl,rfl,rfl,rfl⟩) ?_;intro x hx1 hx2 hx3 hx4 hx5 hx6;refine(KF W (.yld 944 0) (fun j=>(944,LR x (rE L t u))::rK W j (sH d (b6 k a n b) (bJ l c))) u hWl (by omega) (fun j=>rfl) (fun j=>rfl) ?_).mono ?_
 ·intro j hj;obtain ⟨p0,p1⟩:=JD (W:=W) (j:=j) (by omega);refine .inl ⟨944,0,rfl,?_⟩;refine zQ ((10,.pv (aW (tR W j)))::rE L t u) (rK W j (sH d (b6 k a n b) (bJ l c))) hx1 hx2 hx3 hx4 hx5 hx6 rfl rfl rfl ?_ ?_
  ·refine Rg<|Da ?_;exact E0
  refine aM<|bK follows<|Cs (fun _ h=>lh bO h)<|Cs (fun _ _=>aE)<|Cs (fun H1 hH=>by exact aZ rfl bR rfl rfl (by omega) (by exact XO _) p0 rfl)<|Cs (fun _ _=>(kG aU))<|Cs (fun _ _=>aE)<|Cs (fun H1 hH=>by exact aZ rfl bR rfl rfl (by omega) (by exact XO _) p1 rfl)<|Cs (fun _ _=>(kG aU)) ?_;refine bU (r:=⟨_,none,[_]⟩) (DStep.plain rfl (fun H1 hH=>by exact fZ (κ:=eE) (l:=bL (lA W j).1) (.inl rfl) aT aI rfl ((hH _ rfl).trans rfl) rfl rfl rfl rfl rfl (kW _ _ _ _) (mL _ _ _))) rfl ?_;refine cM<|Kr ?_;exact⟨rK W (j+1) (sH d (b6 k a n b) (bJ l c)),(bY.wk trivial (Hc (PH (by simp [rE];repeat(first|rfl|refine⟨rfl,?_⟩)))<|Hc (DX _)<|Hc (DW _ _)<|Ha<|Hc (aQ _ _ _)<|Hc (aF _ _ rfl rfl rfl)<|Hc (aC _ _)<|Hc (aL _ _ _)<|Hc (aJ _ _)<|Hc (bD rfl rfl)<|Hc (aQ _ _ _)<|trivial) ⟨rfl,rfl,rfl,rfl,rfl,rfl,rfl,rfl,rfl,rfl,rfl,trivial⟩),rfl,rfl⟩
 rintro r H' ⟨rfl,rfl⟩;refine⟨x,_,rfl,by rw [hx1];decide,rfl,fun z=>?_⟩;rw [hx2];obtain ⟨put,cp,hpc⟩:∃ put cp,lA W u=(put,cp):=⟨_,_,rfl⟩;simp only [hpc] at hpok hb3 hsm bad ⊢;refine fU.ent (E':=rE L t u) (H':=(9,PO 950)::(950,bJ put cp)::sH d (b6 k a n b) (bJ l c)) ?_ ?_
 ·simp only [rK,hpc];exact(bY.wk (Ea<|Eb<|Eb<|Eb<|Ea<|trivial) (Ha<|Hc (aQ _ _ _)<|Hc (aF _ _ rfl rfl rfl)<|Hc (aC _ _)<|Hc (aL _ _ _)<|Hc (aJ _ _)<|Hc (bD rfl rfl)<|Hc (aQ _ _ _)<|trivial) ⟨rfl,rfl,rfl,rfl,rfl,rfl,trivial⟩)
 have hmp:(bL put).length=put.length:=XD _;have hmd:(D.map encStr).length=D.length:=XD _;have hwr:=fun H hH=>GO put cp D hpok.1 (by omega) (by omega) H hH;have htx:=fun H hH=>LZ put cp D hpok.1 (by omega) (by omega) hsm.1 H hH;have hso:=fun H=>C5 D H (by omega);have hb3:pT t=((((decide (((bL put).length:Int)+((D.map encStr).length:Int)=0)||!decide (bH put D=0))||!decide (ofL (bC put D)=ofL (aR [ofL t])))||!eN D)||decide (((bZ D).length:Int) < ((D.map encStr).length:Int))):=by
  rw [hb3,show decide (((bL put).length:Int)+((D.map encStr).length:Int)=0)=decide (put.length+D.length=0)from decide_eq_decide.2 (by omega),show decide (((bZ D).length:Int) < ((D.map encStr).length:Int))=decide ((bZ D).length < D.length)from decide_eq_decide.2 (by omega),show decide (ofL (bC put D)=ofL (aR [ofL t]))=decide (bC put D=aR [ofL t])from decide_eq_decide.2 ⟨fun h=>by rw [← bA (bC put D),h,bA],fun h=>by rw [h]⟩]
 rw [hb1f,hb2f,hb3] at hok;have hjs:(aR [ofL t]).length < 35184372088832:=by
  have hd:=dK (k:=18) (u:=t.length) (by omega) (by decide);rw [dL,XE,XF,XE,bA,bS];have h0:(aR []).length=0:=rfl;omega
 have hdropL:D.length≤L.length:=by rw [hdrop,XS];omega
 cases g78:decide (((bL put).length:Int)+((D.map encStr).length:Int)=0)with
 | true =>
  refine Sr<|Dd aE<|Dd aE<|Dd (by exact gR rfl rfl rfl (g9 (by omega) (by omega)))<|Dd (by exact cF rfl rfl rfl (show IntKind.i64.wrap (2*(u:Int)+2)=((2*u+2:Nat):Int)by rw [g9 (by omega) (by omega)];omega))<|Dd (by exact fD (l:=2*u+2) (h:=(L.map encStr).length) (rows':=D.map encStr) rfl bR rfl (dW L) rfl rfl (by omega) (XJ _) hDe)<|Dd aS<|Zz<|Sq<|Sr<|Dd (eA bO)<|Dd (by exact tU (κ:=eE) (l:=bL put) rfl aT rfl rfl rfl rfl)<|Dd aE<|Dd (jW aO)<|Dd (by exact cF rfl rfl rfl (g9 (by omega) (by omega)))<|Dd g6<|Dd aE<|Fa<|Fa<|Fa<|Fa<|Dd QE<|Dd aE<|Fo<|Fo<|Fo<|Fo<|Fo<|Fo<|Fo<|Dd gL<|Dd aE<|Fo<|Fo<|Fo<|Dd gL<|Dd aE<|Fo<|Fo<|Fo<|Fo<|Fo<|Fo<|Fo<|Dd gL<|Zz ?_;refine Cn ?_ ?_<;>intro hc3
  ·have hf:jL t=false:=by rw [hok,g78];simp
   refine Sr<|Dd aS<|Zz<|aN ?_;refine a8 (H':=(sH d (b6 k a n b) (bJ l c))) (.inr rfl) rfl (aH rfl) (Fin.wk (by(simp;done)) (Hc (aF _ _ rfl rfl rfl)<|Hc (aC _ _)<|Hc (aL _ _ _)<|Hc (aJ _ _)<|Hc (bD rfl rfl)<|Hc (aQ _ _ _)<|trivial) ⟨rfl,rfl,rfl,rfl,rfl,rfl,trivial⟩) ?_;exact⟨by rw [hf],bad hf⟩
  ((cases hc3;done))
 | false =>
  cases g84:(!decide (bH put D=0))with
  | true =>
   refine Sr<|Dd aE<|Dd aE<|Dd (by exact gR rfl rfl rfl (g9 (by omega) (by omega)))<|Dd (by exact cF rfl rfl rfl (show IntKind.i64.wrap (2*(u:Int)+2)=((2*u+2:Nat):Int)by rw [g9 (by omega) (by omega)];omega))<|Dd (by exact fD (l:=2*u+2) (h:=(L.map encStr).length) (rows':=D.map encStr) rfl bR rfl (dW L) rfl rfl (by omega) (XJ _) hDe)<|Dd aS<|Zz<|Sq<|Sr<|Dd (eA bO)<|Dd (by exact tU (κ:=eE) (l:=bL put) rfl aT rfl rfl rfl rfl)<|Dd aE<|Dd (jW aO)<|Dd (by exact cF rfl rfl rfl (g9 (by omega) (by omega)))<|Dd g6<|Dd aE<|Oa (eA bO)<|Oa aE<|Oa (by exact aB rfl rfl r9 rfl (hwr _ rfl))<|Oa oZ<|Dd CM<|Dd aE<|Fa<|Fa<|Fa<|Fa<|Fa<|Fa<|Fa<|Dd QE<|Dd aE<|Fo<|Fo<|Fo<|Dd gL<|Dd aE<|Fo<|Fo<|Fo<|Fo<|Fo<|Fo<|Fo<|Dd gL<|Zz ?_;refine Cn ?_ ?_<;>intro hc4
   ·have hf:jL t=false:=by rw [hok,g78,g84];simp
    refine Sr<|Dd aS<|Zz<|aN ?_;refine a8 (H':=(sH d (b6 k a n b) (bJ l c))) (.inr rfl) rfl (aH rfl) (Fin.wk (by(simp;done)) (Hc (aF _ _ rfl rfl rfl)<|Hc (aC _ _)<|Hc (aL _ _ _)<|Hc (aJ _ _)<|Hc (bD rfl rfl)<|Hc (aQ _ _ _)<|trivial) ⟨rfl,rfl,rfl,rfl,rfl,rfl,trivial⟩) ?_;exact⟨by rw [hf],bad hf⟩
   ((cases hc4;done))
  | false =>
   cases g93:(!decide (ofL (bC put D)=ofL (aR [ofL t])))with
   | true =>
    refine Sr<|Dd aE<|Dd aE<|Dd (by exact gR rfl rfl rfl (g9 (by omega) (by omega)))<|Dd (by exact cF rfl rfl rfl (show IntKind.i64.wrap (2*(u:Int)+2)=((2*u+2:Nat):Int)by rw [g9 (by omega) (by omega)];omega))<|Dd (by exact fD (l:=2*u+2) (h:=(L.map encStr).length) (rows':=D.map encStr) rfl bR rfl (dW L) rfl rfl (by omega) (XJ _) hDe)<|Dd aS<|Zz<|Sq<|Sr<|Dd (eA bO)<|Dd (by exact tU (κ:=eE) (l:=bL put) rfl aT rfl rfl rfl rfl)<|Dd aE<|Dd (jW aO)<|Dd (by exact cF rfl rfl rfl (g9 (by omega) (by omega)))<|Dd g6<|Dd aE<|Oa (eA bO)<|Oa aE<|Oa (by exact aB rfl rfl r9 rfl (hwr _ rfl))<|Oa oZ<|Dd CM<|Dd aE<|Oa (eA bO)<|Oa aE<|Oa (by exact aB rfl rfl r8 rfl (htx _ rfl))<|Oa aE<|Oa (by exact bE [[.str (ofL t)]] rfl bR rfl rfl rfl rfl rfl (by simp)) ?_;refine Oa (by exact aB rfl rfl nC rfl (j4 [ofL t] _ hjs))<|Oa MA<|Dd CM<|Dd aE<|Fa<|Fa<|Fa<|Dd QE<|Dd aE<|Fo<|Fo<|Fo<|Fo<|Fo<|Fo<|Fo<|Dd gL<|Zz ?_;refine Cn ?_ ?_<;>intro hc5
    ·have hf:jL t=false:=by rw [hok,g78,g84,g93];simp
     refine Sr<|Dd aS<|Zz<|aN ?_;refine a8 (H':=(sH d (b6 k a n b) (bJ l c))) (.inr rfl) rfl (aH rfl) (Fin.wk (by(simp;done)) (Hc (aF _ _ rfl rfl rfl)<|Hc (aC _ _)<|Hc (aL _ _ _)<|Hc (aJ _ _)<|Hc (bD rfl rfl)<|Hc (aQ _ _ _)<|trivial) ⟨rfl,rfl,rfl,rfl,rfl,rfl,trivial⟩) ?_;exact⟨by rw [hf],bad hf⟩
    ((cases hc5;done))
   | false =>
    cases g98:(!eN D)with
    | true =>
     refine Sr<|Dd aE<|Dd aE<|Dd (by exact gR rfl rfl rfl (g9 (by omega) (by omega)))<|Dd (by exact cF rfl rfl rfl (show IntKind.i64.wrap (2*(u:Int)+2)=((2*u+2:Nat):Int)by rw [g9 (by omega) (by omega)];omega))<|Dd (by exact fD (l:=2*u+2) (h:=(L.map encStr).length) (rows':=D.map encStr) rfl bR rfl (dW L) rfl rfl (by omega) (XJ _) hDe)<|Dd aS<|Zz<|Sq<|Sr<|Dd (eA bO)<|Dd (by exact tU (κ:=eE) (l:=bL put) rfl aT rfl rfl rfl rfl)<|Dd aE<|Dd (jW aO)<|Dd (by exact cF rfl rfl rfl (g9 (by omega) (by omega)))<|Dd g6<|Dd aE<|Oa (eA bO)<|Oa aE<|Oa (by exact aB rfl rfl r9 rfl (hwr _ rfl))<|Oa oZ<|Dd CM<|Dd aE<|Oa (eA bO)<|Oa aE<|Oa (by exact aB rfl rfl r8 rfl (htx _ rfl))<|Oa aE<|Oa (by exact bE [[.str (ofL t)]] rfl bR rfl rfl rfl rfl rfl (by simp)) ?_;refine Oa (by exact aB rfl rfl nC rfl (j4 [ofL t] _ hjs))<|Oa MA<|Dd CM<|Dd aE<|Oa aE<|Oa (by exact aB rfl rfl call119 rfl (hso _))<|Oa uF<|Dd CM<|Dd aE<|Fa<|Fa<|Fa<|Fa<|Fa<|Fa<|Fa<|Dd QE<|Zz ?_;refine Cn ?_ ?_<;>intro hc6
     ·have hf:jL t=false:=by rw [hok,g78,g84,g93,g98];simp
      refine Sr<|Dd aS<|Zz<|aN ?_;refine a8 (H':=(sH d (b6 k a n b) (bJ l c))) (.inr rfl) rfl (aH rfl) (Fin.wk (by(simp;done)) (Hc (aF _ _ rfl rfl rfl)<|Hc (aC _ _)<|Hc (aL _ _ _)<|Hc (aJ _ _)<|Hc (bD rfl rfl)<|Hc (aQ _ _ _)<|trivial) ⟨rfl,rfl,rfl,rfl,rfl,rfl,trivial⟩) ?_;exact⟨by rw [hf],bad hf⟩
     ((cases hc6;done))
    | false =>
     refine Sr<|Dd aE<|Dd aE<|Dd (by exact gR rfl rfl rfl (g9 (by omega) (by omega)))<|Dd (by exact cF rfl rfl rfl (show IntKind.i64.wrap (2*(u:Int)+2)=((2*u+2:Nat):Int)by rw [g9 (by omega) (by omega)];omega))<|Dd (by exact fD (l:=2*u+2) (h:=(L.map encStr).length) (rows':=D.map encStr) rfl bR rfl (dW L) rfl rfl (by omega) (XJ _) hDe)<|Dd aS<|Zz<|Sq<|Sr<|Dd (eA bO)<|Dd (by exact tU (κ:=eE) (l:=bL put) rfl aT rfl rfl rfl rfl)<|Dd aE<|Dd (jW aO)<|Dd (by exact cF rfl rfl rfl (g9 (by omega) (by omega)))<|Dd g6<|Dd aE<|Oa (eA bO)<|Oa aE<|Oa (by exact aB rfl rfl r9 rfl (hwr _ rfl))<|Oa oZ<|Dd CM<|Dd aE<|Oa (eA bO)<|Oa aE<|Oa (by exact aB rfl rfl r8 rfl (htx _ rfl))<|Oa aE<|Oa (by exact bE [[.str (ofL t)]] rfl bR rfl rfl rfl rfl rfl (by simp)) ?_;refine Oa (by exact aB rfl rfl nC rfl (j4 [ofL t] _ hjs))<|Oa MA<|Dd CM<|Dd aE<|Oa aE<|Oa (by exact aB rfl rfl call119 rfl (hso _))<|Oa uF<|Dd CM<|Dd aE<|Oa aE<|Oa (by exact aB rfl rfl call120 rfl (OG D _ (bF.ofL ⟨(by(simp;rfl)),(by exact aQ _ _ _),(by exact aF _ _ rfl rfl rfl),(by exact aC _ _),(by exact aL _ _ _),(by exact aJ _ _),(by exact bD rfl rfl),(by exact aQ _ _ _),trivial⟩) rfl (by omega)))<|Oa (by exact aB rfl rfl WT rfl (zK D 1 _ rfl (by omega)))<|Oa (by exact cV rfl aO rfl rfl rfl)<|Oa aE<|Oa (jW aO)<|Oa dG<|Dd CM<|Zz ?_;refine Cn ?_ ?_<;>intro hc7
     ·have g106:=hc7;have hf:jL t=false:=by rw [hok,g78,g84,g93,g98,g106];rfl
      refine Sr<|Dd aS<|Zz<|aN ?_;refine a8 (H':=(sH d (b6 k a n b) (bJ l c))) (.inr rfl) rfl (aH rfl) (Fin.wk (by(simp;done)) (Hc (aF _ _ rfl rfl rfl)<|Hc (aC _ _)<|Hc (aL _ _ _)<|Hc (aJ _ _)<|Hc (bD rfl rfl)<|Hc (aQ _ _ _)<|trivial) ⟨rfl,rfl,rfl,rfl,rfl,rfl,trivial⟩) ?_;exact⟨by rw [hf],bad hf⟩
     have g106:=hc7;have hf:jL t=true:=by rw [hok,g78,g84,g93,g98,g106];rfl
     rw [hf];refine aG<|Sr<|Dd aE<|Dd (eA bO)<|Dm ?_;refine iJ rfl rfl (aB rfl rfl WQ rfl (O2 l put c cp D _ (by omega) (by omega) hpok.1 rfl rfl rfl (bF.ofL ⟨(by exact aL _ _ _),(by(simp;done)),(by(simp;rfl)),(by exact aQ _ _ _),(by exact aF _ _ rfl rfl rfl),(by exact aC _ _),(by exact aL _ _ _),(by exact aJ _ _),(by exact bD rfl rfl),(by exact aQ _ _ _),trivial⟩))) ?_;rintro r H' ⟨rfl,ps,hps,rfl⟩;obtain ⟨q1,q2,q3,q4⟩:=w5 (D:=D) hst hnd hpok.2 hps;refine Zz<|Sr<|Dd aS<|Zz<|aN ?_;refine a8 (H':=(sH d (b6 k a n b) (bJ (g7 (fN l c ps).1 D) (fN l c ps).2))) (.inr rfl) rfl (aH rfl) (Fin.wk (by(simp;done)) (Hc (aF _ _ rfl rfl rfl)<|Hc (aC _ _)<|Hc (aL _ _ _)<|Hc (aJ _ _)<|Hc (bD rfl rfl)<|Hc (aQ _ _ _)<|trivial) ⟨rfl,rfl,rfl,rfl,rfl,rfl,trivial⟩) ?_;exact⟨rfl,_,_,q1,q2,by omega,fun _=>q4,rfl⟩
def TG:Ob:=⟨0,0,0,dV (.pv .nilm) 0 0 []⟩
theorem Q7 {H:aA}:∀ r∈TG.rows,∀ x∈r,Clo H x:=by intro r hr x hx;simp only [TG,dV,List.map_nil,XG] at hr;subst hr;simp only [XP,XT,or_false] at hx;rcases hx with rfl|rfl|rfl<;>exact .pv _
abbrev nBx:Ob:=bx 1 33 [.pv .nilm]
theorem LO (P:List ByteArray) (hP:P.length < 1099511627776) (H:aA) :
  aK Tryz.prog 46 [.pv .nilm,.pv (aW P)] H (fun r H'=>r=iv (bH [] P)∧H'=H):=by
 refine Pu ?_;have hcf:=fun H (h5:H.get 5=some T7)=>zJ (.clo 94 [.ref 5 0 0 0]) P (fun s=>!eJ s) H (by omega) (fun s=>eK.clo call94 (B0 s H h5));have hV:bH [] P=if P.any (fun s=>!eJ s)=true then 1 else 0:=by
  rw [bH];show (if(false||P.any fun s=>!eJ s)=true then(1:Int)else if false=true then 2 else 0)=_;rw [Bool.false_or];rfl
 rw [hV];obtain ⟨ns,hns⟩:∃ b,b=P.any (fun s=>!eJ s):=⟨_,rfl⟩;rw [← hns] at hcf ⊢;refine Bd func46 rfl ntmps46<|Sr<|Dd aS<|Zz<|Sr<|Dd (by exact cC (id:=5) rfl UF rfl rfl)<|Uu (pE sizeOf53)<|Zz<|Sr<|Dd aS<|Zz<|Sq<|Sr<|Dd aE<|Dd (by exact AQ (q:=946) rfl aT rfl rfl)<|Zz<|aM ?_;refine bB (σ:=Unit) (fun _=>([(0,.pv .nilm),(1,.pv (aW P)),(5,.ref 5 0 0 0),(6,bv false),(10,.it 946 0)],[(946,TG),(5,T7)])) (fun _=>True) (fun _=>0) () trivial ?_ ?_
 ·exact(bY.wk (Eb<|Eb<|Ea<|Eb<|Ea<|trivial) (Hc Q7<|Hb<|trivial) trivial)
 rintro _ -;refine Sq<|Rg ?_;refine iJ rfl rfl (FL rfl rfl rfl rfl rfl) ?_;rintro _ _ (⟨rfl,rfl,hn0⟩|⟨hni,hnp,hn1,hn2,rfl,rfl⟩)
 ·refine Dd eB<|Zz<|Sq ?_;refine Cn ?_ ?_<;>intro hc1
  ·cases hc1
  refine a6<|Sq<|aM<|Sr<|Dd aE<|Dd (by exact eP rfl rfl)<|Dd (by exact aB rfl rfl call93 rfl (hcf _ rfl))<|Da ?_;refine Cn ?_ ?_<;>intro hc2
  ·have hn:ns=true:=hc2;rw [XC hn];exact Sr<|Dd aS<|Zz<|aN<|Rt<|Qq
  have hn:¬ ns=true:=by rw [show ns=false from hc2];decide
  rw [XB hn];refine Sr<|Dd aE<|Da ?_;refine Cn ?_ ?_<;>intro hc3
  ·cases hc3
  exact aG<|Sr<|Dd aS<|Zz<|aN<|Rt<|Qq
 exact hn1.elim
theorem Q3 (H:aA) (h1:H.get 951=none) :
  aK Tryz.prog 55 [.pv .nilm] H (fun r H'=>r=.clo 105 [.ref 951 0 0 0]∧H'=(951,nBx)::H):=by
 refine Bd func55 rfl ntmps55<|Sr<|Dd (by exact fP (id:=951) rfl rfl rfl rfl h1)<|Dd aS<|Zz<|Sr<|Dd (by exact eP rfl rfl)<|Dd aS<|Zz<|aN ?_;refine a8 (H':=((951,nBx)::H)) (.inr rfl) rfl (aH rfl) Fin.refl ?_;exact Qq
theorem NH (K:aA) (h1:K.get 951=some nBx):w7 105 [.ref 951 0 0 0] (fun M=>M.Perm []) K:=by
 intro yv Hs hK h6 hcl hf hy0 hy1;have g1:∀ M,(Hs M).get 951=some nBx:=fun M=>hK M _ _ h1;refine Bd func105 rfl ntmps105<|Sr<|Dd (by exact aX rfl bO rfl (g1 []) rfl rfl rfl)<|Dd (by exact AQ (q:=946) rfl aT rfl (h6 []))<|Zz<|aM ?_;refine bB (σ:=Unit) (fun _=>([(0,yv),(5,.it 946 0)],(946,TG)::Hs [])) (fun _=>True) (fun _=>0) () trivial ?_ ?_
 ·exact E0
 rintro _ -;refine Sq<|Rg ?_;refine iJ rfl rfl (FL rfl rfl (get_cons_same _ _ _) rfl rfl) ?_;rintro _ _ (⟨rfl,rfl,hn0⟩|⟨hni,hnp,hn1,hn2,rfl,rfl⟩)
 ·refine Dd eB<|Zz<|Sq ?_;refine Cn ?_ ?_<;>intro hc1
  ·cases hc1
  refine a6 ?_;exact iQ (H':=Hs []) (.inl rfl) rfl (Fin.pops' [(946,TG)] (by simp) (hcl _) (by simp [h6]) (by simp [h6])) ⟨rfl,[],List.Perm.refl _,rfl⟩
 exact hn1.elim
abbrev tN (g:Nat) (W:List ByteArray):aA:=[(951,nBx),(920,⟨g,1,9,cJ W⟩)]
theorem SU (g:Nat) (W:List ByteArray):bF (tN g W):=bF.of (fun p hp=>by
 simp only [XP,XT,or_false] at hp;rcases hp with rfl|rfl
 ·intro r hr x hx;simp only [bx,XG] at hr;subst hr;rw [XG] at hx;subst hx;exact .pv _
 exact eX _ _)
theorem P6 (P:List ByteArray) (hP:P.length < 1099511627776) (hsz:(bC [] P).length < 35184372088832) (H:aA) :
  aK Tryz.prog 50 [.pv .nilm,.pv (aW P)] H (fun r H'=>r=sv (ofL (bC [] P))∧H'=H):=by
 refine Pu ?_;have hso:=zX (L:=([]:List ByteArray)) (by decide) WB (tN 0 [dD 0]) (NH _ rfl) rfl rfl rfl rfl (SU _ _) (by simp;rfl);have hS:bP []=[]:=List.length_eq_zero_iff.1 (fK []);have hin:=qL hsz;have hpl:(P.map encStr).length=P.length:=XD _;have hW:cA [] P=[dD 0,dD ((P.map encStr).length:Int)]++P:=by
  rw [cA,hS];rfl
 change aK _ _ _ _ fun r H'=>r=.pv (aW (bP []))∧H'=_ at hso;rw [hS] at hso;refine Bd func50 rfl ntmps50<|Sr<|Dd aS<|Zz<|Sr<|Dd aE<|Dd (by exact SL rfl aT rfl)<|Dd (by exact aB rfl rfl nD rfl (mK 0 (by omega) (by omega) _))<|Dd (by exact eW (id:=920) rfl bR rfl rfl rfl rfl (show ∀ r∈cJ [dD 0],r.length=1 from by intro r hr;rw [XG.1 hr];rfl) rfl)<|Dd aS<|Zz<|Sq<|Sr<|Dd aE<|Dd (by exact aB rfl rfl WP rfl (Q3 _ rfl))<|Dd (by exact aB rfl rfl BT rfl (hso))<|Dd (jW aO)<|Dd aE<|Zz<|aM ?_;refine bB (σ:=Unit) (fun _=>([(0,.pv .nilm),(1,.pv (aW P)),(5,.osl 920 0 0 1),(14,.pv (aW [])),(15,iv 0),(16,iv 0)],tN 0 [dD 0])) (fun _=>True) (fun _=>0) () trivial ?_ ?_
 ·exact E0
 rintro _ -;refine Sr<|Dd dG<|Zz<|Sq ?_;refine Cn ?_ ?_<;>intro hc1
 ·(have:=W9 hc1;omega)
 refine a6<|Sr<|Dd aE<|Dd aE<|Dd (jW aO)<|Dd (by exact aB rfl rfl nD rfl (mK ((P.map encStr).length:Int) (by omega) (by omega) _))<|Dd (by exact bE [[.str (dD ((P.map encStr).length:Int))]] rfl bR rfl rfl rfl rfl rfl (by intro r hr;rw [XG] at hr;subst hr;rfl))<|Dd (by exact dQ (ps:=[[.str (dD ((P.map encStr).length:Int))]]) rfl bR D7 rfl rfl rfl rfl rfl (eL _) rfl (by intro r hr;rw [XG] at hr;subst hr;rfl) (m:=1) rfl (by omega) rfl (j1 _ _))<|Dd aS<|Zz<|Sr<|Dd aE<|Dd aE<|Dd (by exact dQ (ps:=P.map encStr) rfl bR D7 rfl rfl rfl rfl rfl (eL _) rfl (by intro r hr;obtain ⟨q,_,rfl⟩:=List.mem_map.1 hr;rfl) (m:=P.length) hpl (by omega) rfl (j9 _ P))<|Dd (by exact aB rfl rfl nC rfl (HM (W:=cA [] P) hin (by rw [hW];rfl) (by rw [hW,XE];rfl))) ?_;exact Dd (by exact bE [[.str (ofL (aR (cA [] P)))]] rfl bR rfl rfl rfl rfl rfl (by intro r hr;rw [XG] at hr;subst hr;rfl))<|Dd (by exact aB rfl rfl nC rfl (j4 [ofL (aR (cA [] P))] _ hsz))<|Dd aS<|Zz<|aN<|Rt<|Qq
theorem RR (l:bN) (c:Nat) (H:aA) (h0:H.get 1101=some (bJ l c)) (h6:H.get 946=none) (hcl:bF H) :
  aK Tryz.prog 104 [.mp 1101 0,.pv .nilm] H (fun r H'=>r=.tup []∧H'=H):=by
 refine Bd func104 rfl ntmps104<|Sr<|Dd aE<|Dd (by exact AQ (q:=946) rfl aT rfl h6)<|Zz<|aM ?_;refine bB (σ:=Unit) (fun _=>([(0,.mp 1101 0),(7,.it 946 0)],(946,TG)::H)) (fun _=>True) (fun _=>0) () trivial ?_ ?_
 ·exact E0
 rintro _ -;refine Sq<|Rg ?_;refine iJ rfl rfl (FL rfl rfl (get_cons_same _ _ _) rfl rfl) ?_;rintro _ _ (⟨rfl,rfl,hn0⟩|⟨hni,hnp,hn1,hn2,rfl,rfl⟩)
 ·refine Dd eB<|Zz<|Sq ?_;refine Cn ?_ ?_<;>intro hc1
  ·cases hc1
  refine a6 ?_;exact iQ (H':=H) (.inl rfl) rfl (Fin.pops' [(946,TG)] (by simp) hcl (by simp [h6]) (by simp [h6])) ⟨rfl,rfl⟩
 exact hn1.elim
theorem O1 (l:bN) (c:Nat) (P:List ByteArray) (H:aA) (hP:P.length < 1099511627776) (h0:H.get 1101=some (bJ l c)) (h6:H.get 946=none) (hcl:bF H) :
  aK Tryz.prog 53 [.mp 1101 0,.pv .nilm,.pv (aW P)] H (fun r H'=>r=.tup []∧H'=(1101,bJ (g7 l P) c)::H):=by
 have hml:(P.map encStr).length=P.length:=XD _;have hcp:=RR l c H h0 h6 hcl;refine Bd func53 rfl ntmps53<|Sr<|Dd aE<|Dd aE<|Dd (by exact aB rfl rfl call104 rfl (hcp))<|Zz<|Sr<|Dd aE<|Dd (jW aO)<|Dd aE<|Zz<|aM ?_;refine bB (σ:=Nat) (fun k=>([(0,.mp 1101 0),(11,.pv (aW P)),(12,iv ((P.map encStr).length:Int)),(13,iv (k:Int))],(1101,bJ (g7 l (P.take k)) c)::H)) (fun k=>k≤P.length) (fun k=>P.length - k) 0 (XU _) ?_ ?_
 ·exact bY.get' ⟨⟨_,rfl,rfl⟩,⟨_,rfl,rfl⟩,⟨_,rfl,rfl⟩,⟨_,rfl,rfl⟩,trivial⟩ (fun j=>wH h0 j)
 intro k hk;refine Sr<|Dd dG<|Zz<|Sq ?_;refine Cn ?_ ?_<;>intro hc1
 ·have hlt:k < P.length:=by have:=W9 hc1;omega
  obtain ⟨s,hs⟩:=aY hlt;have hi:=cG (f:=encStr) hs;refine aG<|Sq<|aM<|Sr<|Dd (BY bR)<|Dd (kG aU)<|Dd aS<|Zz<|Rg<|Dd aE<|Dd aE<|Uu (by exact wJ (κ:=eE) (l:=bL (g7 l (P.take k))) rfl aT aI rfl (get_cons_same _ _ _) rfl rfl rfl rfl (uU s _))<|Zz<|Rg<|Dd kP<|Dd aE<|Zz ?_;refine⟨k+1,by omega,by omega,?_⟩;rw [sV hs];exact bY.get' ⟨⟨_,rfl,rfl⟩,⟨_,rfl,rfl⟩,⟨_,rfl,rfl⟩,⟨_,rfl,by rfl⟩,trivial⟩ (fun j=>gE _ _ _ _ j)
 have hge:k=P.length:=by have:=XA hc1;omega
 subst hge;rw [List.take_length];refine a6 ?_;exact iQ (H':=(1101,bJ (g7 l P) c)::H) (.inl rfl) rfl Fin.refl ⟨rfl,rfl⟩
def ND (d:DSt) (k a i:Nat):ByteArray:=CO (2+a*k+i) (bT d (2+a*k+i))
def C0 (d:DSt) (k a n:Nat):Bool:=(List.range n).all fun i=>!decide (ND d k a i=sNil)
def NC (d:DSt) (k a n:Nat):List UInt8:=(List.range n).flatMap fun i=>(ND d k a i).data.toList
def v7 (d:DSt) (k a n:Nat):Bool:=C0 d k a n&&((dX (NC d k a n)).2&&(dX (NC d k a n)).1.all fun c=>jL c.data.toList)
def SN (d:DSt) (k a n:Nat):CT:=m3 ((dX (NC d k a n)).1.map fun c=>c.data.toList)
def uE (d:DSt) (k:Nat):Bool:=jR k 1 (bT d 1)
def HB (d:DSt) (k:Nat):Bool:=uE d k||jR k 0 (bT d 0)
def SJ (d:DSt) (k:Nat):Nat:=if uE d k then nP (bT d 1)else if jR k 0 (bT d 0)then nP (bT d 0)else 0
def SI (d:DSt) (k:Nat):Nat:=if uE d k then nO (bT d 1)else if jR k 0 (bT d 0)then nO (bT d 0)else 0
theorem QO {p:List UInt8} (h:1≤p.length):¬ ofL p=sNil:=fun e=>by
 have:=congrArg ByteArray.size e;rw [bS] at this;have h0:sNil.size=0:=rfl;omega
theorem DV {d:DSt} {N k a n:Nat} {C:CT} (hc:Calm d N) (h:SInv d.cells k a n C) {Q:List (List UInt8)} (h1:Q.length=n) (h2:LogAt d.cells (2+a*k) Q) {i:Nat} {q:List UInt8} (hq:Q[i]?=some q):ND d k a i=ofL q:=by have hp:=h2.p q (XN hq);rw [ND,kK hc,h2.at' i q hq];exact MS hp.1 hp.2
theorem TE {d:DSt} {N k a n:Nat} {C:CT} (hc:Calm d N) (h:SInv d.cells k a n C) {Q:List (List UInt8)} (h1:Q.length=n) (h2:LogAt d.cells (2+a*k) Q):NC d k a n=Q.flatten:=by
 have go:∀ m,m≤n→(List.range m).flatMap (fun i=>(ND d k a i).data.toList)=(Q.take m).flatten:=by
  intro m
  induction m with
  | zero=>intro _;rfl
  | succ m ih =>
   intro hm;obtain ⟨q,hq⟩:=aY (l:=Q) (k:=m) (by omega);rw [List.range_succ,List.flatMap_append,ih (by omega),cR hq,List.flatten_append,List.flatMap_cons,List.flatMap_nil,DV hc h h1 h2 hq,bA];rfl
 rw [NC,go n (XJ _),← h1,List.take_length]
theorem KI {d:DSt} {N k a n:Nat} {C:CT} (hc:Calm d N) (h:SInv d.cells k a n C) (hk:k < 10000000) :
  SJ d k=a∧SI d k=n∧(HB d k=true∨(HB d k=false∧bT d 0=zS))∧v7 d k a n=true∧SN d k a n=C∧bT d 1=nG 1 a n (HB d k)∧bT d 0=nG 0 a n (HB d k):=by
 obtain ⟨Q,T,h1,h2,h3,h4,h5⟩:=h.lg;have hT:NC d k a n=aR (T.map ofL):=(TE hc h h1 h2).trans h3;have hlen:=p9 h2.p;have hnk:=h.nk;have hsp:dX (NC d k a n)=(T.map ofL,true):=by
  rw [hT];refine pC fun x hx=>?_;have:=mJ hx;rw [← h3] at this;omega
 have hall:C0 d k a n=true:=List.all_eq_true.2 fun i hi=>by
  obtain ⟨q,hq⟩:=aY (l:=Q) (k:=i) (by have:=List.mem_range.1 hi;omega);have hp:=h2.p q (XN hq);rw [DV hc h h1 h2 hq,decide_eq_false (QO hp.1)];rfl
 have hok:v7 d k a n=true:=by
  rw [v7,hall,hsp];simp only [Bool.true_and];refine List.all_eq_true.2 fun x hx=>?_;obtain ⟨t,ht,rfl⟩:=List.mem_map.1 hx;rw [bA];exact h4 t ht
 have hC:SN d k a n=C:=by
  rw [SN,hsp,h5,List.map_map];congr 1;rw [show ((fun c:ByteArray=>c.data.toList)∘ofL)=id from funext fun t=>bA t,List.map_id]
 rcases h.hd with⟨g1,g0⟩|⟨g1,g0,ea,en⟩
 ·have t1:bT d 1=hS 1 a n:=by rw [kK hc,g1];rfl
  have t0:bT d 0=hS 0 a n:=by rw [kK hc,g0];rfl
  obtain ⟨p1,p2,p3⟩:=NN (place:=1) h.a2 h.nk hk;have hh:uE d k=true:=by rw [uE,t1,p3]
  have hH:HB d k=true:=by rw [HB,hh];rfl
  exact⟨by rw [SJ,hh,XC rfl,t1,p1],by rw [SI,hh,XC rfl,t1,p2],.inl hH,hok,hC,by rw [hH,t1];rfl,by rw [hH,t0];rfl⟩
 have t1:bT d 1=zS:=by rw [kK hc,g1];rfl
 have t0:bT d 0=zS:=by rw [kK hc,g0];rfl
 have hh:uE d k=false:=by rw [uE,t1,qJ]
 have hH:HB d k=false:=by rw [HB,hh,t0,qJ];rfl
 exact⟨by rw [SJ,hh,XB (by decide),t0,qJ,XB (by decide),ea],by rw [SI,hh,XB (by decide),t0,qJ,XB (by decide),en],.inr ⟨hH,t0⟩,hok,hC,by rw [hH,t1];rfl,by rw [hH,t0];rfl⟩
def b7 (l:bN):List UInt8:=if l.length=0 then[] else bC l []
abbrev zR (n:Nat):List ByteArray:=List.replicate n zS
theorem P1:zS.size=64:=by rw [bS,zB,List.length_replicate]
theorem GK (n:Nat):∀ t∈zR n,t.size=64:=fun t ht=>by rw [List.eq_of_mem_replicate ht,P1]
def BW (d:DSt) (k a:Nat) (w:List UInt8):Int×DSt:=if(iO d k (1 - a) 0 w).1=0 then iP (iO d k (1 - a) 0 w).2 (2+a*k+0) (zR (k - 0))else iO d k (1 - a) 0 w
def T6 (d:DSt) (k:Nat) (w:List UInt8):Int×DSt:=if(BW d k 1 w).1=0 then iP (BW d k 1 w).2 (2+0*k+cT w) (zR (k - cT w))else BW d k 1 w
def GU (d:DSt) (k a:Nat) (w:List UInt8):Int×DSt:=if a=1 then T6 d k w else if(BW d k 0 w).1=0 then T6 (BW d k 0 w).2 k w else BW d k 0 w
def i7 (k:Nat) (w:List UInt8) (tl:List ByteArray):List ByteArray:=hS 0 0 (cT w)::hS 1 0 (cT w)::(iV 2 w (cT w)++(zR (k - cT w)++(zR k++tl)))
theorem DT {d:DSt} {n:Nat} (h:Calm d n) {k a:Nat} {w:List UInt8} (hk:2*k+2≤n) (hn:n≤8000) (ha:a < 2) (hw:cT w≤k) :
  (BW d k a w).1=0∧Calm (BW d k a w).2 n∧(BW d k a w).2.cells=jV (((jV d.cells (2+(1 - a)*k+0) (iV (2+(1 - a)*k+0) w (cT w))).set 1 (hS 1 (1 - a) (0+cT w))).set 0 (hS 0 (1 - a) (0+cT w))) (2+a*k+0) (zR (k - 0)):=by
 have hak:a*k≤k:=by
  rcases(show a=0∨a=1 by omega)with e|e<;>subst e<;>omega
 obtain ⟨a1,a2,a3⟩:=rV h (k:=k) (a:=1 - a) (cn:=0) (t:=w) hk hn (by omega) (by omega);obtain ⟨b1,b2,b3⟩:=rT a2 (place:=2+a*k+0) (L:=zR (k - 0)) (by rw [List.length_replicate];omega) (GK _) (by rw [List.length_replicate];omega);rw [BW,XC a1];exact⟨b1,b2,by rw [b3,a3]⟩
theorem DU {d:DSt} {n:Nat} (h:Calm d n) {k:Nat} {w:List UInt8} (hk:2*k+2≤n) (hn:n≤8000) (hw:cT w≤k) :
  (T6 d k w).1=0∧Calm (T6 d k w).2 n∧(T6 d k w).2.cells=i7 k w (d.cells.drop (2*k+2)):=by
 obtain ⟨a1,a2,a3⟩:=DT h (k:=k) (a:=1) (w:=w) hk hn (by omega) hw;obtain ⟨b1,b2,b3⟩:=rT a2 (place:=2+0*k+cT w) (L:=zR (k - cT w)) (by rw [List.length_replicate];omega) (GK _) (by rw [List.length_replicate];omega);rw [T6,XC a1];refine⟨b1,b2,?_⟩;have hl:=h.inv.n;rw [b3,a3];refine List.ext_getElem? fun j=>?_;rw [hX,hX,jE,List.length_set,List.length_set,jE,List.length_replicate,List.length_replicate];rw [i7];rcases(show j=0∨j=1∨∃ i,j=i+2 by
  match j with
  | 0=>exact .inl rfl
  | 1=>exact .inr (.inl rfl)
  | i+2=>exact .inr (.inr ⟨i,rfl⟩))with rfl|rfl|⟨i,rfl⟩
 ·rw [XB (by omega),XB (by omega),List.getElem?_set_self (by rw [List.length_set,jE];omega)];rw [XV];rfl
 ·rw [XB (by omega),XB (by omega),List.getElem?_set_ne (by omega),List.getElem?_set_self (by rw [jE];omega)];rw [XV];rfl
 rw [List.getElem?_cons_succ,List.getElem?_cons_succ,List.getElem?_set_ne (by omega),List.getElem?_set_ne (by omega),hX,cY];by_cases h1:i < cT w
 ·rw [XB (by omega),XB (by omega),XC (by omega),List.getElem?_append_left (by rw [cY];exact h1),qR h1,show i+2 - (2+(1 - 1)*k+0)=i by omega,qR h1,show 2+(1 - 1)*k+0=2 by omega]
 rw [List.getElem?_append_right (by rw [cY];omega),cY];by_cases h2:i < k
 ·rw [XC (by omega),List.getElem?_append_left (by rw [List.length_replicate];omega),List.getElem?_replicate,List.getElem?_replicate,XC (by omega),XC (by omega)]
 rw [XB (by omega),List.getElem?_append_right (by rw [List.length_replicate];omega),List.length_replicate];by_cases h3:i < 2*k
 ·rw [XC (by omega),List.getElem?_append_left (by rw [List.length_replicate];omega),List.getElem?_replicate,List.getElem?_replicate,XC (by omega),XC (by omega)]
 rw [XB (by omega),XB (by omega),List.getElem?_append_right (by rw [List.length_replicate];omega),List.length_replicate,List.getElem?_drop];congr 1;omega
theorem OJ {d:DSt} {n:Nat} (h:Calm d n) {k a:Nat} {w:List UInt8} (hk:2*k+2≤n) (hn:n≤8000) (ha:a < 2) (hw:cT w≤k) :
  (GU d k a w).1=0∧Calm (GU d k a w).2 n∧(GU d k a w).2.cells=i7 k w (d.cells.drop (2*k+2)):=by
 rw [GU];by_cases e:a=1
 ·rw [XC e];exact DU h hk hn hw
 rw [XB e];obtain ⟨a1,a2,a3⟩:=DT h (k:=k) (a:=0) (w:=w) hk hn (by omega) hw;rw [XC a1];obtain ⟨b1,b2,b3⟩:=DU a2 hk hn hw;refine⟨b1,b2,?_⟩;rw [b3];congr 1;rw [a3];have hl:=h.inv.n;refine List.ext_getElem? fun j=>?_;rw [List.getElem?_drop,List.getElem?_drop,hX,List.length_replicate,XB (by omega),List.getElem?_set_ne (by omega),List.getElem?_set_ne (by omega),hX,cY,XB (by omega)]
theorem ES {cells:List ByteArray} {k a n:Nat} {C:CT} (h:SInv cells k a n C) {l:bN} (hn:e9 l) (hl:∀ x,cS l x=C x) (hw:cT (b7 l)≤k) (hk:k < 5000) :
  SInv (i7 k (b7 l) (cells.drop (2*k+2))) k 0 (cT (b7 l)) C:=by
 have hkn:=h.kn;have hwr:=h.wrong hn hl;obtain ⟨w,hW⟩:∃ w,w=b7 l:=⟨_,rfl⟩;have hlen:(i7 k w (cells.drop (2*k+2))).length=cells.length:=by
  rw [← hW] at hw;rw [i7,XF,XF,XE,cY,XE,XE,List.length_replicate,List.length_replicate,XS];omega
 rw [← hW] at hw ⊢;have hat:LogAt (i7 k w (cells.drop (2*k+2))) (2+0*k) ((List.range (cT w)).map (fF w)):=by
  refine⟨fun q hq=>?_,fun i q hq=>?_⟩
  ·obtain ⟨i,hi,rfl⟩:=List.mem_map.1 hq;exact CP (List.mem_range.1 hi)
  rw [XX] at hq;have hi:i < cT w:=by
   by_cases e:i < cT w
   ·exact e
   rw [List.getElem?_eq_none (by rw [List.length_range];omega)] at hq;cases hq
  rw [List.getElem?_range hi] at hq;cases hq;rw [i7,show 2+0*k+i=i+2 by omega,List.getElem?_cons_succ,List.getElem?_cons_succ,List.getElem?_append_left (by rw [cY];exact hi),qR hi,Nat.add_comm i 2]
 refine⟨h.k1,by rw [hlen];exact hkn,by omega,hw,.inl ⟨rfl,rfl⟩,?_⟩;have hfl:((List.range (cT w)).map (fF w)).flatten=w:=G8 w;by_cases h0:l.length=0
 ·have hw0:w=[]:=by rw [hW,b7,XC h0]
  refine⟨_,[],?_,hat,by rw [hfl,hw0];rfl,fun t ht=>(by cases ht),?_⟩
  ·rw [XD,List.length_range]
  funext x;rw [← hl,List.length_eq_zero_iff.1 h0];rfl
 have hwt:w=bC l []:=by rw [hW,b7,XB h0]
 have hin:=qL (l:=l) (P:=[]) (N:=1000000) (by rw [← hwt];have:=hw;rw [cT] at this;omega);obtain ⟨r1,r2,r3⟩:=GX hn (P:=[]) List.Pairwise.nil (by omega) hwr (by omega);refine⟨_,[aR (cA l [])],?_,hat,by rw [hfl,hwt];rfl,fun t ht=>by rw [XG.1 ht];exact r1,?_⟩
 ·rw [XD,List.length_range]
 funext x;show C x=TO (fun _=>none) (aR (cA l [])) x;rw [TO,r3,oV,XB XT,r2,hl];cases C x<;>rfl
def SY (i:Nat):Nat:=if i=950 then 1101 else if i=1101 then 950 else i
theorem P7 (i:Nat):SY (SY i)=i:=by
 unfold SY
 repeat' split
 all_goals omega
theorem z8 (ρ:Nat→Nat) (l:bN) (c:Nat):sI ρ (bJ l c)=bJ l c:=by
 show (⟨0,0,c,(fC eE (bL l)).map (kD ρ)⟩:Ob)=⟨0,0,c,fC eE (bL l)⟩;have:∀ r∈fC eE (bL l),kD ρ r=r:=by
  intro r hr;obtain ⟨p,hp,rfl⟩:=List.mem_map.1 hr;obtain ⟨q,_,rfl⟩:=List.mem_map.1 hp;rfl
 rw [List.map_congr_left this,List.map_id']
theorem MM (l:bN) (c:Nat):m7 SY [(950,bJ l c)]=[(1101,bJ l c)]:=by show [(SY 950,sI SY (bJ l c))]=_;rw [z8];rfl
theorem P5 (l:bN) (c:Nat) (P:List ByteArray) (hst:dR l c) (hl:l.length < 1099511627776) (hP:P.length < 1099511627776) (hsz:(bC l P).length < 35184372088832) (H:aA) (h:H.get 1101=some (bJ l c)) :
  aK Tryz.prog 50 [.mp 1101 0,.pv (aW P)] H (fun r H'=>r=sv (ofL (bC l P))∧H'=H):=by
 have h1:=aK.ren (ρ:=SY) P7 (GP l c P hst hl hP hsz) (args':=[.mp 1101 0,.pv (aW P)]) (H':=[(1101,bJ l c)]) (r':=sv (ofL (bC l P))) (H1':=[(1101,bJ l c)]) rfl (MM l c) rfl (MM l c);refine aK.frameS h1 (fun j o ho=>?_) (bF.ofL ⟨aQ _ _ _,trivial⟩) (by simp;rfl);simp only [aA.get] at ho;cases e:Nat.beq 1101 j with
 | true =>
  rw [e] at ho;cases ho;rw [← Nat.eq_of_beq_eq_true e];exact h
 | false=>rw [e] at ho;cases ho
theorem MI {d:DSt} {N m:Nat} (h:DInv d N m) (k a n:Nat) (l:bN) (c:Nat) (hk:k < 4000) (hkN:2*k+2≤N) (ha:a < 2) (hn:n≤k) (hm:m≤10) (hst:dR l c) (hl:l.length < 1099511627776) (hsz:(bC l []).length < 100000000000) :
  aK Tryz.prog 21 [.ref 1100 0 0 0] (sH d (b6 k a n false) (bJ l c)) (fun r H'=>(k < cT (b7 l)∧r=iv 21∧H'=sH d (b6 k a n false) (bJ l c))∨(cT (b7 l)≤k∧r=iv (GU d k a (b7 l)).1∧∃ a' n',a' < 2∧n'≤k∧((GU d k a (b7 l)).1=0→a'=0∧n'=cT (b7 l))∧H'=sH (GU d k a (b7 l)).2 (b6 k a' n' (!decide ((GU d k a (b7 l)).1=0))) (bJ l c))):=by
 have htx:=fun H hH=>P5 l c [] hst hl (by decide) (by omega) H hH;have hml:(bL l).length=l.length:=XD _;have hW:b7 l=if l.length=0 then[] else bC l []:=rfl
 have hwl:(b7 l).length < 100000000000:=by
  rw [hW]
  split
  ·decide
  exact hsz
 refine Bd func21 rfl ntmps21<|Sr<|Dd aS<|Zz<|Sq<|aM<|Sr<|Dd aE<|Dd (by exact cP rfl fT rfl rfl rfl rfl)<|Da ?_;refine Cn ?_ ?_<;>intro hc1
 ·cases hc1
 refine Sr<|Dd aE<|Dd e8<|Dd (dP iZ)<|Dd (eA dC)<|Da ?_;refine Cn ?_ ?_<;>intro hc2
 ·cases hc2
 refine aG<|Sr<|Da ?_;refine kN (fun(_:Unit)=>([(0,.ref 1100 0 0 0),(2,iv 0),(3,sv (ofL (b7 l)))],sH d (b6 k a n false) (bJ l c))) (fun _=>True) ?_ ?_
 ·refine Sr<|Dd aE<|Dd e8<|Dd (dP p5)<|Dd (eA bO)<|Dd (by exact tU (κ:=eE) (l:=bL l) rfl aT rfl rfl rfl rfl)<|Dd yZ<|Zz ?_;refine Cn ?_ ?_<;>intro hc3
  ·have hq:¬ l.length=0:=by have:=W9 hc3;omega
   rw [hW,XB hq];refine Rg<|Dd aE<|Dd e8<|Dd (dP p5)<|Dd (eA bO)<|Dd (by exact aB rfl rfl r8 rfl (htx _ rfl))<|Da ?_;exact⟨(),trivial,(bY.wk (Ea<|Eb<|Eb<|trivial) (Hc (aF _ _ rfl rfl rfl)<|Hc (aC _ _)<|Hc (aL _ _ _)<|Hc (aJ _ _)<|Hc (bD rfl rfl)<|Hc (aQ _ _ _)<|trivial) ⟨rfl,rfl,rfl,rfl,rfl,rfl,trivial⟩)⟩
  have hq:l.length=0:=by have:=XA hc3;omega
  rw [hW,XC hq];refine aG ?_;exact⟨(),trivial,(bY.wk (Ea<|Eb<|Eb<|trivial) (Hc (aF _ _ rfl rfl rfl)<|Hc (aC _ _)<|Hc (aL _ _ _)<|Hc (aJ _ _)<|Hc (bD rfl rfl)<|Hc (aQ _ _ _)<|trivial) ⟨rfl,rfl,rfl,rfl,rfl,rfl,trivial⟩)⟩
 rintro _ -;obtain ⟨w,hw⟩:∃ w,w=b7 l:=⟨_,rfl⟩;rw [← hw] at hwl ⊢;clear hW htx;have hcn:=fun H=>wS w (by omega) H;refine Sq<|Sq<|bK follows<|Cq aE<|Cq (by exact aB rfl rfl WS rfl (hcn _))<|Cq aE<|Cq e8<|Cq (dP p6)<|Cq (eA aV)<|Cq yZ<|cM<|Kr ?_;refine Cn ?_ ?_<;>intro hc4
 ·have hq:k < cT w:=by have:=W9 hc4;omega
  refine Sr<|Dd aS<|Zz<|aN ?_;refine a8 (H':=(sH d (b6 k a n false) (bJ l c))) (.inr rfl) rfl (aH rfl) (Fin.wk (by(simp;done)) (Hc (aF _ _ rfl rfl rfl)<|Hc (aC _ _)<|Hc (aL _ _ _)<|Hc (aJ _ _)<|Hc (bD rfl rfl)<|Hc (aQ _ _ _)<|trivial) ⟨rfl,rfl,rfl,rfl,rfl,rfl,trivial⟩) ?_;exact .inl ⟨hq,rfl,rfl⟩
 have hq:cT w≤k:=by have:=XA hc4;omega
 refine aG<|aM ?_;refine KU (fun(d1:DSt) (a1 n1 m1:Nat)=>([(0,.ref 1100 0 0 0),(3,sv (ofL w))],sH d1 (b6 k a1 n1 false) (bJ l c))) (fun d1 a1 n1 m1=>DInv d1 N m1∧a1 < 2∧n1≤k∧(m1≤10∨(a1=1∧m1≤10010))∧GU d k a w=GU d1 k a1 w) (fun d1 a1 n1 m1=>1 - a1) d a n m ⟨h,ha,hn,.inl hm,rfl⟩ ?_ ?_
 ·exact(bY.wk (Ea<|Eb<|trivial) (Hc (aF _ _ rfl rfl rfl)<|Hc (aC _ _)<|Hc (aL _ _ _)<|Hc (aJ _ _)<|Hc (bD rfl rfl)<|Hc (aQ _ _ _)<|trivial) ⟨rfl,rfl,rfl,rfl,rfl,rfl,trivial⟩)
 rintro d1 a1 n1 m1 ⟨hi,ha1,hn1,hm1,hsc⟩;rw [hsc];have hwl2:w.length < 100000000:=by rw [cT] at hq;omega
 have hadd:=O8 hi k a1 n1 (1 - a1) 0 false l c w hwl2 (by omega) (by omega) (by omega) (by omega);have hai:=O9 hi k (1 - a1) 0 w (by omega);rw [XV] at hadd;obtain ⟨x,hx⟩:∃ x,x=iO d1 k (1 - a1) 0 w:=⟨_,rfl⟩;rw [← hx] at hadd hai;have hR:BW d1 k a1 w=if x.1=0 then iP x.2 (2+a1*k+0) (zR (k - 0))else x:=by rw [BW,← hx]
 have hS:GU d1 k a1 w=if a1=1 then(if(BW d1 k a1 w).1=0 then iP (BW d1 k a1 w).2 (2+0*k+cT w) (zR (k - cT w))else BW d1 k a1 w)else if(BW d1 k a1 w).1=0 then GU (BW d1 k a1 w).2 k 1 w else BW d1 k a1 w:=by
  rcases(show a1=0∨a1=1 by omega)with e|e<;>subst e<;>rfl
 have hcl:=DS hai k (1 - a1) (cT w) a1 0 false l c (by omega) ha1 (XU _) (by omega);have hyi:=jT hai (2+a1*k+0) (zR (k - 0)) (by rw [List.length_replicate];omega);rw [List.length_replicate] at hyi;obtain ⟨y,hy⟩:∃ y,y=iP x.2 (2+a1*k+0) (zR (k - 0)):=⟨_,rfl⟩;rw [← hy] at hcl hyi hR;have hcl2:=DS hyi k (1 - a1) (cT w) 0 (cT w) false l c (by omega) (by omega) hq (by omega);obtain ⟨z,hz⟩:∃ z,z=iP y.2 (2+0*k+cT w) (zR (k - cT w)):=⟨_,rfl⟩;rw [← hz] at hcl2;clear hx hsc;refine aM<|Sr<|Dd aE<|Dd e8<|Dd (dP kI)<|Dd (dP p8)<|Dd (eA aV)<|Dd aS<|Zz<|Sr<|Dd aE<|Dd aE<|Dd (by exact dO rfl rfl rfl (show IntKind.i64.wrap (1 - (a1:Int))=((1 - a1:Nat):Int)by rw [g9 (by omega) (by omega)];omega))<|Dd (LF KO)<|Dd aE<|Dd (by exact aB rfl rfl WR rfl (hadd))<|Dd aS<|Zz<|Sq<|Sr<|Dd aE<|Dd g6<|Zz ?_;refine Cn ?_ ?_<;>intro hc5
 ·have e0:x.1=0:=W9 hc5;rw [XC e0] at hR ⊢;rw [hR] at hS;refine Rg<|Dd aE<|Dd aE<|Dd (by exact aB rfl rfl call56 rfl (hcl))<|Dd aS<|Zz<|Sq<|Sr<|Dd aE<|Dd oZ<|Zz ?_;refine Cn ?_ ?_<;>intro hc6
  ·have e1:¬ y.1=0:=by have h:=hc6;simpa using h
   have hS2:GU d1 k a1 w=y:=by
    rw [hS,XB e1,XB e1,ite_self]
   rw [hS2];refine Sr<|Dd aE<|Dd aS<|Zz<|aN ?_;refine a8 (H':=(sH y.2 (b6 k (1 - a1) (cT w) (false||!decide (y.1=0))) (bJ l c))) (.inr rfl) rfl (aH rfl) (Fin.wk (by(simp;done)) (Hc (aF _ _ rfl rfl rfl)<|Hc (aC _ _)<|Hc (aL _ _ _)<|Hc (aJ _ _)<|Hc (bD rfl rfl)<|Hc (aQ _ _ _)<|trivial) ⟨rfl,rfl,rfl,rfl,rfl,rfl,trivial⟩) ?_;exact .inr ⟨hq,rfl,1 - a1,cT w,by omega,hq,fun h=>absurd h e1,rfl⟩
  have e1:y.1=0:=by have h:=hc6;simpa using h
  rw [XC e1,XC e1,← hz] at hS;have hb:(false||!decide (y.1=0))=false:=by rw [e1];rfl
  rw [hb];refine aG<|Sr<|Dd aE<|Dd g6<|Zz ?_;refine Cn ?_ ?_<;>intro hc7
  ·have e2:a1=1:=by have:=W9 hc7;omega
   rw [XC e2] at hS;rw [hS];refine Sr<|Dd aE<|Dd aE<|Dd e8<|Dd (dP kI)<|Dd (dP lD)<|Dd (eA aV)<|Dd (by exact aB rfl rfl call56 rfl (hcl2))<|Dd aS<|Zz<|aN ?_;refine a8 (H':=(sH z.2 (b6 k (1 - a1) (cT w) (false||!decide (z.1=0))) (bJ l c))) (.inr rfl) rfl (aH rfl) (Fin.wk (by(simp;done)) (Hc (aF _ _ rfl rfl rfl)<|Hc (aC _ _)<|Hc (aL _ _ _)<|Hc (aJ _ _)<|Hc (bD rfl rfl)<|Hc (aQ _ _ _)<|trivial) ⟨rfl,rfl,rfl,rfl,rfl,rfl,trivial⟩) ?_;exact .inr ⟨hq,rfl,1 - a1,cT w,by omega,hq,fun _=>⟨by omega,rfl⟩,rfl⟩
  have e2:¬ a1=1:=by have:=XA hc7;omega
  rw [XB e2] at hS;have e3:a1=0:=by omega
  subst e3;refine aG ?_;exact⟨y.2,1,cT w,_,⟨hyi,by omega,hq,.inr ⟨rfl,by omega⟩,hS⟩,by omega,(bY.wk (Ea<|Eb<|trivial) (Hc (aF _ _ rfl rfl rfl)<|Hc (aC _ _)<|Hc (aL _ _ _)<|Hc (aJ _ _)<|Hc (bD rfl rfl)<|Hc (aQ _ _ _)<|trivial) ⟨rfl,rfl,rfl,rfl,rfl,rfl,trivial⟩)⟩
 have e0:¬ x.1=0:=XA hc5;rw [XB e0] at hR ⊢;rw [hR] at hS;have hS2:GU d1 k a1 w=x:=by
  rw [hS,XB e0,XB e0,ite_self]
 rw [hS2];have hd0:decide (x.1=0)=false:=decide_eq_false e0;refine aG<|Sq<|Sr<|Dd aE<|Dd oZ<|Zz ?_;refine Cn ?_ ?_<;>intro hc8
 ·refine Sr<|Dd aE<|Dd aS<|Zz<|aN ?_;refine a8 (H':=(sH x.2 (b6 k a1 n1 (!decide (x.1=0))) (bJ l c))) (.inr rfl) rfl (aH rfl) (by rw [hd0];exact(Fin.wk (by(simp;done)) (Hc (aF _ _ rfl rfl rfl)<|Hc (aC _ _)<|Hc (aL _ _ _)<|Hc (aJ _ _)<|Hc (bD rfl rfl)<|Hc (aQ _ _ _)<|trivial) ⟨rfl,rfl,rfl,rfl,rfl,rfl,trivial⟩)) ?_;exact .inr ⟨hq,rfl,a1,n1,ha1,hn1,fun h=>absurd h e0,rfl⟩
 (have h:=hc8;simp [e0] at h)
end Go.Proofs.YtmkgeogoojcciaaGreatDoor
namespace Go.Proofs.YtmkgeogoojcciaaGreatDoor
open Go.Proofs.Tryz
open Go.Abs
theorem GS {F:FuncId} {caps:List AV} {L:List ByteArray} (hL:L.length < 1099511627776) (hE:∀ (args:Array Value) (w:World),(callFunc F args).run Tryz.prog w=.ok (.enter F args) w) (K:aA) (hS:w7 F caps (fun M=>M.Perm L) K) (k2:K.get 942=none) (k4:K.get 944=none) (k5:K.get 945=none) (k6:K.get 946=none) (hc:bF K) (hcap:Clo K (.clo F caps)) :
  aK Tryz.prog 48 [.clo F caps] K (fun r H'=>r=.osl 945 L.length 0 L.length∧H'=(945,⟨L.length,1,9,dE (b4 L)⟩)::K):=by
 refine Bd func48 rfl ntmps48<|Sr<|Dd aS<|Zz<|Sr<|Dm ?_;refine iJ rfl rfl (aB rfl rfl call95 rfl (DR hE K hS k2 k4 k5 k6 hc hcap)) ?_;rintro r H' ⟨M,hperm,rfl,rfl⟩;have hMl:M.length < 4611686018427387904:=by rw [hperm.length_eq];omega
 have hSo:=nI hperm;have hln:M.length=L.length:=hperm.length_eq;refine Dd aS<|Zz<|Sr<|Dd aE<|Dd (by exact aB rfl rfl call96 rfl (yE M rfl rfl hMl))<|Zz<|Sr<|Dd aE<|Dd aS<|Zz<|aN ?_;refine a8 (H':=((945,⟨M.length,1,9,dE (b4 M)⟩)::K)) (.inr rfl) rfl (aH rfl) (Fin.get' (fun j=>gE _ _ _ _ j)) ?_;exact⟨by rw [hln],by rw [hSo,hln]⟩
end Go.Proofs.YtmkgeogoojcciaaGreatDoor
