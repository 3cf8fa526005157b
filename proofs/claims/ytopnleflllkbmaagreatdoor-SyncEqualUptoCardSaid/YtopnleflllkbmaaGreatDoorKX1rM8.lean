/-
  Parts of the proof. Conditions: each theorem's own.
-/
import Derived.Test.YtopnleflllkbmaaGreatDoorKX1rM7
set_option linter.unusedVariables false
set_option linter.unusedSimpArgs false
set_option maxRecDepth 100000
set_option maxHeartbeats 8000000
namespace Go.Proofs
open Tryz
theorem aEN:type_of% call114:=call114
theorem Nj:type_of% call12:=call12
theorem LB:type_of% call14:=call14
theorem aEh:type_of% call16:=call16
theorem aEK:type_of% call164:=call164
theorem aEF:type_of% call216:=call216
theorem qU:type_of% call63:=call63
theorem qT:type_of% call64:=call64
theorem Nh:type_of% call65:=call65
end Go.Proofs
namespace Go.Proofs.YtopnleflllkbmaaGreatDoor
open Go.Proofs.Tryz
open Go.Abs
variable{F:FuncId}
def vh(F:FuncId)(caps:List AV)(PR:List B_->Prop)(K:aF):Prop :=∀(yv:AV) (Hs:List B_->aF),(∀e_,Sub K (Hs e_))->(∀e_,(Hs e_).get 946=none)->(∀e_,dD (Hs e_))->(∀e_,Clo (Hs e_) yv) ->
  (∀e_ x,e_.length<2^40->dF Tryz.prog yv [sv x] (Hs e_) (fun r H'=>r=bv true/\H'=Hs (e_++[x]))) ->
  (∀o e_ x,e_.length<2^40->dF Tryz.prog yv [sv x] ((946,o)::Hs e_) (fun r H'=>r=bv true/\H'=(946,o)::Hs (e_++[x]))) ->
  aS Tryz.prog F (yv::caps) (Hs []) (fun r H'=>r=.tup []/\∃e_,PR e_/\H'=Hs e_)
def Mv:cY:=[(2,.ref 942 0 0 0)]
def Nm(e_:List B_)(K:aF):aF:=(945,⟨e_.length,1,9,bZ e_⟩)::(942,bx 1 22 [.osl 945 e_.length 0 e_.length])::K
theorem pb(e_)(s)(K:aF):Nm (e_++[s]) K=(945,⟨e_.length+1,1,9,bZ (e_++[s])⟩)::(942,bx 1 22 [.osl 945 (e_.length+1) 0 (e_.length+1)])::K:=by simp[Nm]
theorem ic{e_}{K:aF}{x:Go.Loop}(h:dD K):dD ((944,LR x Mv)::Nm e_ K):=by refine dD.app (D:=[(944,LR x Mv),(945,⟨e_.length,1,9,bZ e_⟩),(942,bx 1 22 _)]) ?_ h;refine DF.spec ⟨nU (by simp[Mv];rfl),aW _ _,?_,T_⟩;intro r c a b;simp only[bx,q9]at c;subst c;rw[q9]at b;subst b;exact .osl Z
theorem om{caps:List AV}{PR:List B_->Prop}(hE:∀(args:Array Value) (w:World),(callFunc F args).run Tryz.prog w=.ok (.enter F args) w)(K:aF)(hS:vh F caps PR K)(k2:K.get 942=none)(k4:K.get 944=none)(k5:K.get 945=none)(k6:K.get 946=none)(hc:dD K)(hcap:Clo K (.clo F caps)):
  aS Tryz.prog 129 [.pv .nils,.clo F caps] K (fun r H'=>∃e_,PR e_/\r=.osl 945 e_.length 0 e_.length/\H'=(945,⟨e_.length,1,9,bZ e_⟩)::K):=by
 have k2':aF.get ((945,⟨0,1,9,[]⟩)::K) 942=none:=k2;refine Bd func129 Z ntmps129<|S1 (t:=0) (id:=945) (sz:=1) (ty:=9) Z k5 rfl<|WY (t:=0) Z Z Z (j6 _)<|C (by exact uP (id:=942) Z Z Z Z k2')<|O U<|S<|Sz V<|aD ?_;refine fZ.ent (E':=[(2,.ref 942 0 0 0),(6,.clo F caps)]) (H':=Nm [] K) (cJ.get' ⟨⟨_,Z,Z⟩,⟨_,Z,Z⟩,T_⟩ (fun j=>mT (by decide) j))<|BS (id:=944) (p:=7) Mv Z hE Z k4 (by simp[Mv];rfl) ?_;intro x hx1 hx2 hx3 hx4 hx5 hx6;refine(hS (.yld 944 0) (fun e_=>(944,LR x Mv)::Nm e_ K) (fun e_=>?_) (fun e_=>k6) (fun e_=>ic hc) (fun e_=>by simp;rfl) ?_ ?_).mono ?_
 ·refine Sub.app (D:=[(944,LR x Mv),(945,⟨e_.length,1,9,bZ e_⟩),(942,bx 1 22 [.osl 945 e_.length 0 e_.length])]) ?_;intro p hp;simp only[l7,n_,or_false]at hp;rcases hp with rfl|rfl|rfl
  ·exact k4
  ·exact k5
  exact k2
 ·intro e_ s hM;refine .inl ⟨944,0,Z,?_⟩;rw[pb];refine LC [(2,.ref 942 0 0 0),(5,sv s)] (Nm e_ K) hx1 hx2 hx3 hx4 hx5 hx6 Z Z Z ?_ ?_
  ·refine Rg<|Da ?_;exact E0
  refine aD<|Rd (bS aH)<|Y V<|Y (by exact aK [[.str s]] Z bH Z Z Z Z Z R_)<|Y (by exact cA (ps:=[[.str s]]) Z bH wB Z Z Z Z Z (eE _) Z R_ (m:=1) Z (by omega) Z (gP _ s))<|Uu (iZ sizeOf22)<|Zz ?_;exact⟨(945,⟨e_.length+1,1,9,bZ (e_++[s])⟩)::(942,bx 1 22 [.osl 945 (e_.length+1) 0 (e_.length+1)])::K,cJ.get' T_ (fun j=>ee [_,_,_] [_,_,_,_,_] (by repeat(first|exact trivial|refine⟨Z,?_⟩)) j),Z,Z⟩
 ·intro o e_ s hM;refine dF.congrG (H1:=(944,LR x Mv)::(946,o)::Nm e_ K) (K1:=(944,LR x Mv)::(946,o)::Nm (e_++[s]) K) (.inl ⟨944,0,Z,?_⟩) (fun j=>mT (by decide) j) (fun j=>mT (by decide) j);rw[pb];refine LC [(2,.ref 942 0 0 0),(5,sv s)] ((946,o)::Nm e_ K) hx1 hx2 hx3 hx4 hx5 hx6 Z Z Z ?_ ?_
  ·refine Rg<|Da ?_;exact E0
  refine aD<|Rd (bS aH)<|Y V<|Y (by exact aK [[.str s]] Z bH Z Z Z Z Z R_)<|Y (by exact cA (ps:=[[.str s]]) Z bH wB Z Z Z Z Z (eE _) Z R_ (m:=1) Z (by omega) Z (gP _ s))<|Uu (iZ sizeOf22)<|Zz ?_;exact⟨(946,o)::(945,⟨e_.length+1,1,9,bZ (e_++[s])⟩)::(942,bx 1 22 [.osl 945 (e_.length+1) 0 (e_.length+1)])::K,cJ.get' T_ (fun j=>ee [_,_,_,_] [_,_,_,_,_,_] (by repeat(first|exact trivial|refine⟨Z,?_⟩)) j),Z,Z⟩
 rintro r H' ⟨rfl,e_,hM,rfl⟩;refine⟨x,_,Z,by rw[hx1];decide,Z,fun z=>?_⟩;rw[hx2];refine C (bS aH)<|O U<|aC ?_;refine cR (H':=((945,⟨e_.length,1,9,bZ e_⟩)::K)) (.inr Z) Z (aJ Z) (Fin.front' [(944,LR z Mv),(945,⟨e_.length,1,9,bZ e_⟩),(942,bx 1 22 [.osl 945 e_.length 0 e_.length])] [(945,⟨e_.length,1,9,bZ e_⟩)] (.osl Z) (by simp[k2,k4,aF.get]) (by intro p m;rw[List.mem_singleton]at m;subst m;rfl) (DF.spec ⟨aW _ _,T_⟩) hc (by simp[k2,k4,aF.get])) ?_;exact⟨e_,hM,Z,Z⟩
theorem Kn{b:List AV}{d:List B_->Prop}(e:∀(args:Array Value) (w:World),(callFunc F args).run Tryz.prog w=.ok (.enter F args) w)(K:aF)(hS:vh F b d K)(k2:K.get 942=none)(h:K.get 944=none)(i:K.get 945=none)(f:K.get 946=none)(g:dD K)(c:Clo K (.clo F b)):
  aS Tryz.prog 75 [.clo F b] K (fun r H'=>∃e_,d e_/\r=.osl 945 e_.length 0 e_.length/\H'=(945,⟨e_.length,1,9,bZ e_⟩)::K):=by
 refine Bd func75 Z ntmps75<|Sz U<|Sr<|Dm<|ou Z Z (JT Z Z call129 Z (om e K hS k2 h i f g c)) ?_;rintro r H' ⟨e_,hM,rfl,rfl⟩;refine O U<|aC<|cR (H':=((945,⟨e_.length,1,9,bZ e_⟩)::K)) (.inr Z) Z (aJ Z) Fin.refl ?_
 grind
theorem vt(l:List B_)(K:aF)(hl:l.length<2^40)(m:K.get 951=some (bx 1 22 [.pv (aL l)])):vh 77 [.ref 951 0 0 0] (fun e_=>e_.Perm l) K:=by
 intro p f n h6 hcl hf h hy1;have o:∀e_,(f e_).get 951=some (bx 1 22 [.pv (aL l)]):=fun e_=>n e_ _ _ m;have hml:(l.map S_).length=l.length:=g_ _;refine Bd func77 Z ntmps77<|C (aX Z aH Z (o []) Z Z Z)<|Y (fY aE)<|O V<|aD<|bC (σ:=Nat) (fun i=>([(0,p),(5,.pv (aL l)),(6,iv ((l.map S_).length:Int)),(7,iv (i:Int))],f (l.take i))) (fun i=>i<=l.length) (fun i=>l.length - i) 0 (l6 _) ?_ ?_
 ·exact E0
 rintro i hi;refine Sz cM<|S<|Cn ?_ ?_<;>intro c
 ·have g:i<l.length:=I_ c
  obtain ⟨s,k⟩:=aU g;have his:=cC (f:=S_) k;have d:=h (l.take i) s (by rw[q7];omega);rw[<-fP k]at d;refine aA<|S<|aD<|C (iN bH)<|Y (gG N_)<|O U<|C V<|Y V<|Y (cZ Z Z Z (d))<|O iW<|Cn ?_ ?_<;>intro e
  ·cases e
  refine aA<|Rd gV<|O V ?_;exact⟨i+1,X,X,E0⟩
 have j:i=l.length:=J_ c
 subst j;refine aP ?_;exact oO (H':=f (l.take l.length)) (.inl Z) Z Fin.refl ⟨Z,_,by rw[List.take_length],Z⟩
theorem Pe{c:List AV}{L:List B_}(hL:L.length<2^40)(f:∀(args:Array Value) (w:World),(callFunc F args).run Tryz.prog w=.ok (.enter F args) w)(K:aF)(hS:vh F c (fun e_=>e_.Perm L) K)(k2:K.get 942=none)(g:K.get 944=none)(k:K.get 945=none)(i:K.get 946=none)(h:dD K)(d:Clo K (.clo F c)):
  aS Tryz.prog 32 [.clo F c] K (fun r H'=>r=.osl 945 L.length 0 L.length/\H'=(945,⟨L.length,1,9,fB (jH L)⟩)::K):=by
 refine Bd func32 Z ntmps32<|Sz U<|Sr<|Dm<|ou Z Z (bF Z Z call75 Z (Kn f K hS k2 g k i h d)) ?_;rintro r H' ⟨e_,b,rfl,rfl⟩;have e:e_.length<2^62:=by rw[b.length_eq];omega
 have hSo:=Dy b;have hln:e_.length=L.length:=b.length_eq;refine O U<|C V<|O (kc call76 (wq e_ Z Z e))<|C V<|O U<|aC ?_;refine cR (H':=((945,⟨e_.length,1,9,fB (jH e_)⟩)::K)) (.inr Z) Z (aJ Z) (Fin.get' (fun j=>wS _ _ _ _ j)) ?_
 simp_all
end Go.Proofs.YtopnleflllkbmaaGreatDoor
namespace Go.Proofs.YtopnleflllkbmaaGreatDoor
open Go.Proofs.Tryz
open Go.Abs Go.Lib
variable{l:List B_}{t i:B_}
abbrev Oe(P:List B_):Ob:=bx 1 22 [.pv (aL P)]
theorem vr(P:List B_)(H:aF)(b:H.get 951=none):
  aS Tryz.prog 33 [.pv (aL P)] H (fun r H'=>r=.clo 77 [.ref 951 0 0 0]/\H'=(951,Oe P)::H):=by
 refine Bd func33 Z ntmps33<|C (uP (id:=951) Z Z Z Z b)<|O U<|C (gT Z Z)<|O U<|aC<|cR (H':=((951,Oe P)::H)) (.inr Z) Z (aJ Z) Fin.refl Qq
def Bk(i:Nat):Nat:=if i=901 then 945 else if i=945 then 901 else i
theorem Ol(i:Nat):Bk (Bk i)=i:=by
 unfold Bk
 grind
abbrev gv(g:Nat)(l:List B_):Ob:=⟨g,1,9,tL l⟩
theorem XV(ρ:Nat->Nat)(g:Nat)(l:List B_):wH ρ (gv g l)=gv g l:=by
 show (⟨g,1,9,(tL l).map (A2 ρ)⟩:Ob)=_;have:∀r∈tL l,A2 ρ r=r:=by
  intro r a;obtain ⟨s,_,rfl⟩:=List.mem_map.1 a;rfl
 rw[List.map_congr_left this,List.map_id']
theorem wb(H:aF)(l):∀r∈tL l,∀a∈r,Clo H a:=F_
instance(H:aF)(l):W_ (H) (tL l):=⟨wb H l⟩
theorem nx(L:List B_)(g:Nat)(H:aF)(d:H.get 945=some (gv g L))(f:L.length<2^40):
  aS Tryz.prog 31 [.osl 945 g 0 L.length] H (fun r H'=>r=.osl 945 g 0 (fK L).length/\H'=[(945,gv g (fK L++List.replicate (L.length - (fK L).length) a6)),(945,gv g L)]++H):=by
 have j:=WS L g [(901,gv g L)] Z f;have c:HF Bk [(901,gv g L)]=[(945,gv g L)]:=by
  show [(Bk 901,wH Bk (gv g L))]=_;rw[XV];rfl
 have i:HF Bk [(901,gv g (fK L++List.replicate (L.length - (fK L).length) a6)),(901,gv g L)]=[(945,gv g (fK L++List.replicate (L.length - (fK L).length) a6)),(945,gv g L)]:=by
  show [(Bk 901,wH Bk (gv g (fK L++List.replicate (L.length - (fK L).length) a6))),(Bk 901,wH Bk (gv g L))]=_;rw[XV,XV];rfl
 have k:=aS.ren (ρ:=Bk) Ol j (args':=[.osl 945 g 0 L.length]) (r':=.osl 945 g 0 (fK L).length) Z c Z i;refine k.frame (HB.sub ⟨d,T_⟩) (dD.of (fun p b=>by
  rw[q9]at b;subst b;exact wb _ _)) (by simp;rfl) (fun id h=>.inl ?_)
 simp only[aF.get]at h |-;cases e:Nat.beq 945 id with
 |true=>rfl
 |false=>rw[e]at h;cases h
theorem wv(l:List B_):(jH l).Pairwise (fun a b=>kC b a=false):=by
 rw[jH,List.pairwise_map];refine(List.pairwise_mergeSort (le:=fun(x y:List UInt8)=>decide (x<=y)) (fun a b c e f=>?_) (fun a b=>NF a b) (l.map qf)).imp fun {a b} d=>?_
 ·rw[k_]at *;exact List.le_trans e f
 rw[k_]at d;rw[B9,q6];exact fun h=>absurd d (List.not_le.2 h)
def JS(l:List B_):List B_:=fK (jH l)
theorem cn{l}{x}:x∈JS l↔x∈l:=E4.trans (oX l).mem_iff
theorem cm(l):zP (JS l):=KR (wv l)
theorem Hr(l):(JS l).length<=l.length:=by have a:=WB (jH l);rw[jC]at a;exact a
theorem Rn(P R):(((JS P++R).map S_).take (0+(JS P).length)).drop 0=(JS P).map S_:=F_
theorem LX{l}(h:zP l):JS l=l:=P3 _ _ (cm l) h fun x=>cn
def HM(ids:List B_):B_:=if ids.all l9=true then iV (JS ids)else a6
def HN(ids:List B_):Int:=if ids.all l9=true then 0 else 1
theorem Hz(t:B_)(b:t.size<2^40)(H:aF):RC 29 [sv t] (bv (oddJ t)) H:=by refine Pu ?_;exact Bd func29 Z ntmps29<|Sz U<|C V<|Y (kc K9 (V2 t b _))<|Y iW<|O U<|aC<|Rt<|Qq
theorem J3(a:List B_)(H:aF)(w:a.length<1000000)(d:∀t∈a,t.size<2^40):RC 12 [.pv (aL a)] (.tup [sv (HM a),iv (HN a)]) H:=by
 refine Pu ?_;have v:=fun H=>C5 29 a oddJ X (fun s z=>dF.fn call29 (Hz s (d s z) [])) H;rw[PD]at v;rw[HM,HN];refine Bd func12 Z ntmps12<|C U<|O U<|S<|C V<|O (kc LA (v _))<|Cn ?_ ?_<;>intro f
 ·have i:a.all l9=false:=not_not f;rw[a8 (by rw[i];decide),a8 (by rw[i];decide)];refine C U<|O U<|aC<|iB (H':=[]) (.inr Z) Z (aJ Z) (aJ Z) (P_ (r:=.tup [.pv (.str a6),iv 1])) Qq
 have c:a.all l9=true:=pJ f;rw[b6 c,b6 c];have hS:IdS (JS a):=⟨cm a,fun x y=>List.all_eq_true.1 c x (cn.1 y),Nat.lt_of_le_of_lt (Hr a) w⟩;have k:=Pe (L:=a) X call77 ((951,Oe a)::[]) (vt a _ X Z) Z Z Z Z (dD.ofL ⟨(by(simp;done)),T_⟩) (by simp;rfl);have q:=xC hS.srt hS.dig (p:=a6) E_ hS.len;have n:=uj q;have j:=eh q;have l:=fun H=>bu (JS a) a6 H hS E_;have g:=fun H=>MX (eF (JS a) a6) H (by have:=q.cnt;omega) (by rw[iR,j9]at n;omega);obtain ⟨F,e⟩:∃F,F=iR (eF (JS a) a6):=X_;have o:=fun H=>sj [F] H (by decide:1<2^40) (by simp only[List.flatten_cons,List.flatten_nil,List.append_nil];rw[e];omega) (Nat.lt_of_le_of_lt (xT _ fun s d=>by
  simp only[List.flatten_cons,List.flatten_nil,List.append_nil]at d;rcases l7.1 d with rfl|d
  ·decide
  rcases l7.1 d with rfl|d
  ·exact(by decide +kernel:(aQ ((1:Nat):Int)).size<=16)
  rw[e]at d;exact j s d) (by simp only[List.flatten_cons,List.flatten_nil,List.append_nil,j7];rw[e];omega))
 rw[iV,<-e];rw[<-e]at g;refine aA<|C V<|Y (kc call33 (vr a _ Z))<|Y (kc call32 (k))<|Y (kc call31 (by have h:=nx (jH a) a.length ((945,gv a.length (jH a))::(951,Oe a)::[]) Z (by rw[jC];omega);rw[jC]at h;exact h))<|O U<|S ?_;refine fZ.ent (cJ.fzG (id:=945) (E':=[(4,.pv (aL (JS a)))]) (H':=[]) ((JS a++List.replicate (a.length - (fK (jH a)).length) a6).map S_) Z (by rw[List.map_map];rfl) ?_ Z T_ T_) ?_
 ·intro p u;rw[q9]at u;subst u;exact⟨_,Z,.osl (Rn a _)⟩
 exact Rd V<|Y (kc aEg (l _))<|Y (kc aEf (g _))<|Y (aK ([F].map q8) Z F7 Z Z Z Z Z (pP _))<|Y (kc call34 (o _))<|Y U<|O U<|aC<|Ru<|Qq
theorem xf(a b:List B_)(H:aF)(ha:a.length<1000000000)(hb:b.length<1000000000):RC 16 [.pv (aL a),.pv (aL b)] (bv (decide (a=b))) H:=by
 refine Pu ?_;have hma:(a.map S_).length=a.length:=g_ _;have hmb:(b.map S_).length=b.length:=g_ _;refine Bd func16 Z ntmps16<|Sz U<|S<|C V<|Y (fY aE)<|Y V<|Y (fY aE)<|O zX<|Cn ?_ ?_<;>intro g
 ·have m:¬ a.length=b.length:=by have h:=g;simp at h;omega
  have p:decide (a=b)=false:=decide_eq_false fun e=>m (by rw[e]);rw[p];exact Sz U<|aC<|Rt<|Qq
 have m:a.length=b.length:=by have h:=g;simp at h;omega
 refine aA<|S<|Sz U<|aD<|bC (σ:=Nat) (fun k=>([(0,.pv (aL a)),(1,.pv (aL b)),(5,iv (k:Int))],[])) (fun k=>k<=a.length/\a.take k=b.take k) (fun k=>a.length - k) 0 ⟨l6 _,Z⟩ ?_ ?_
 ·exact Wk
 rintro k ⟨hk,s⟩;refine S<|C V<|Y V<|Y (fY aE)<|O cM<|Cn ?_ ?_<;>intro f
 ·have o:k<a.length:=I_ f
  obtain ⟨x,l⟩:=aU o;obtain ⟨y,n⟩:=aU (l:=b) (k:=k) X;have hix:=cC (f:=S_) l;have hiy:=cC (f:=S_) n;refine aA<|S<|aD<|S<|aN a7<|Cq V<|Cq V<|Cq (iN bH)<|Cq (gG N_)<|Cq V<|Cq V<|Cq (iN bH)<|Cq (gG N_)<|Cq HD<|bL<|Kr<|Cn ?_ ?_<;>intro j
  ·have q:¬ x=y:=by have h:=j;simpa using h
   have p:decide (a=b)=false:=decide_eq_false fun e=>q (by rw[e,n]at l;cases l;rfl);rw[p];exact Sz U<|aC<|Rt<|Qq
  have u:x=y:=by have h:=j;simpa using h
  refine aA<|Rd V<|Y gV<|Da ?_;refine⟨k+1,⟨X,?_⟩,X,Wk⟩;rw[fP l,fP n,s,u]
 have i:k=a.length:=J_ f
 have t:decide (a=b)=true:=decide_eq_true (by
  rw[<-List.take_length (l:=a),<-i,s,i,m,List.take_length])
 rw[t];exact aP<|Sz U<|aC<|Rt<|Qq
def N3(l:List B_):Nat:=(l.map ByteArray.size).sum
theorem vz{k:Nat}{s:B_}(h:l[k]?=some s):N3 (l.take (k+1))=N3 (l.take k)+s.size:=by rw[fP h,N3,List.map_append,List.sum_append];rfl
theorem Om{m:Nat}(h:∀s∈l,s.size<=m)(k:Nat):N3 (l.take k)<=l.length*m:=by
 have d:∀(l:List B_),(∀s∈l,s.size<=m)->N3 l<=l.length*m:=by
  intro l
  induction l with
  |nil=>exact fun _=>l6 _
  |cons a l c =>
   intro h;have h1:=h a List.mem_cons_self;have:=c fun s b=>h s (List.mem_cons_of_mem _ b);show a.size+N3 l<=(l.length+1)*m
   grind
 exact Nat.le_trans (d _ fun s b=>h s (List.mem_of_mem_take b)) (Nat.mul_le_mul_right _ (by rw[q7];omega))
def zf(l:List B_)(n:Int):Bool:=decide (((l.map S_).length:Int)<=n)&&decide ((N3 l:Int)<=20000)
theorem aC8(l:List B_)(n:Int)(H:aF)(j:l.length<=1048576)(i:∀s∈l,s.size<=1048576):RC 10 [.pv (aL l),iv n] (bv (zf l n)) H:=by
 refine Pu ?_;have hml:(l.map S_).length=l.length:=g_ _;have b:=Om i;have hmul:l.length*1048576<=1048576*1048576:=Nat.mul_le_mul_right _ j;refine Bd func10 Z ntmps10<|Sz U<|Sz U<|S<|Sz U<|aD<|bC (σ:=Nat) (fun k=>([(0,.pv (aL l)),(1,iv n),(5,iv (N3 (l.take k):Int)),(6,iv (k:Int))],[])) (fun k=>k<=l.length) (fun k=>l.length - k) 0 (l6 _) ?_ ?_
 ·exact Wk
 intro k hk;have hsk:=b k;refine S<|C V<|Y V<|Y (fY aE)<|O cM<|Cn ?_ ?_<;>intro e
 ·have g:k<l.length:=I_ e
  obtain ⟨s,c⟩:=aU g;have h:=cC (f:=S_) c;have hnx:=vz c;have hsk1:=b (k+1);refine aA<|S<|aD<|Rd V<|Y V<|Y V<|Y (kx bH h)<|Y (gG N_ (hi:=h))<|Y (gR U_)<|Y (by exact eQ Z Z Z (show IntKind.i64.wrap ((N3 (l.take k):Int)+(s.size:Int))=((N3 (l.take (k+1)):Nat):Int)by rw[pW X X];omega))<|O U<|Rd V<|Y kp<|Da ?_;exact⟨k+1,X,X,Wk⟩
 have f:k=l.length:=J_ e
 subst f;rw[List.take_length];refine aP<|S<|aR (t:=4) (n:=10) (A_:=zf l n) ?_ ?_
 ·all_goals refine Y V<|Y (fY aE)<|Y V<|Y IN<|Dm ?_<;>(refine Sp 24 (fun d=>?_) fun d=>?_)<;>(try(with_reducible contradiction))<;>(first|refine M<|M ?_|refine J V<|J IN ?_)<;>refine Y cE<|Da ?_<;>exact Gj (h:=by rw[zf];(rw[d];rfl))
 exact aC<|Rt<|Qq
theorem Kb(h:zf l 40=true):l.length<=40/\∀s∈l,s.size<=20000:=by
 rw[zf,j0,k_,k_,g_]at h;refine⟨X,fun s b=>?_⟩;have c:∀(l:List B_),∀s∈l,s.size<=N3 l:=by
  intro l
  induction l with
  |nil=>simp_all
  |cons a l ih =>
   intro s b;show s.size<=a.size+N3 l
   grind
 have:=c l s b;omega
def Pp:B_:=⟨#[115,101,99,114,101,116]⟩
def r0W:j8:=⟨5,0,1,1,⟨#[109,97,105,110]⟩,[],[],a6,false,0,a6,zS,⟨a6,a6,[],[],zS⟩⟩
theorem Zt:(NO r0W Pp 1).2=0:=by kernel_rfl
theorem Zv:∃x,NO r0W Pp 1=(x,0):=by have h:=Zt;generalize NO r0W Pp 1=y at *;exact⟨y.1,Prod.ext Z h⟩
theorem aCK:mI r0W:=by have b:qA 0:=⟨E_,H_⟩;have a:qA 1:=⟨E_,E_⟩;exact⟨⟨⟨E_,E_⟩,b,a,a,b⟩,⟨E_,E_,E_⟩,⟨E_,fun t h=>by cases h⟩,⟨E_,fun t h=>by cases h⟩,Zh,E_,E_,⟨E_,fun t h=>by cases h⟩,E_,Zh⟩
theorem Fe:∃t i,IP t=some i/\∀H,RC 27 [] (.tup [sv t,sv i]) H:=by obtain ⟨x,g⟩:=Zv;have e:=Sv g;have b:=LV (aM (jL x));rw[e.parse]at b;have c:=fun H=>Zu r0W Pp 1 aCK E_ E_ H;rw[g]at c;have d:=fun H=>XE x b.1 b.2 H;rw[e.text]at d;have f:=fun H=>ua x b.1 b.2 H;refine⟨b7 (aM (jL x)),HU x,by rw[IP,cO,e.parse];rfl,fun H=>?_⟩;generalize b7 (aM (jL x))=t at *;generalize HU x=i at *;clear g e b;refine Pu ?_;exact Bd func27 Z ntmps27<|C U<|O U<|C (oN SW)<|Y (kc call71 (c _))<|Y V<|Y dH<|Y dH<|Y (kl 2 ie)<|Uu (iZ bD)<|O U<|C (wA cK bD)<|Y (kc aEe (d _))<|Y V<|Y dH<|Y dH<|Y U<|O U<|C V<|Y (wA cK bD)<|Y (kc Ni (f _))<|Y U<|O U<|aC<|Ru<|Qq
theorem YU{t i}(hi:IP t=some i):gB [t]=[i]:=by
 have h:kG [t]=[(i,t)]:=by
  show lF _ t=_;rw[lF,hi];rfl
 refine P3 _ _ (qI _) (List.pairwise_singleton _ _) fun x=>?_;rw[gB,(oX _).mem_iff,h];rfl
theorem cz{t i}(hi:IP t=some i):kW (kG [t]) i=t:=by
 have h:kG [t]=[(i,t)]:=by
  show lF _ t=_;rw[lF,hi];rfl
 rw[h,kW,List.find?_cons,decide_eq_true rfl];rfl
theorem ub{i}(hi:l9 i=true):IdS [i]:=⟨List.pairwise_singleton _ _,(fun x hx=>by simp_all),H_⟩
theorem YV:IdS []:=⟨List.Pairwise.nil,(fun x a=>by cases a),H_⟩
theorem ra{A_ y_:List B_}(a:IdS A_):JG y_ (iV A_)=BP y_ ⟨[],[],[]⟩ (eF A_ a6):=by rw[JG,HO a.srt a.dig a.len,show BY (iV A_)=[]from ZZ [eF A_ a6] (fun p b=>by rw[q9]at b;subst b;exact xC a.srt a.dig E_ a.len) (show 1<1000000 by decide)];rfl
theorem aCs:KW [] (iV [])=[]:=by
 have:=YZ _ [] (fun t=>Iff.rfl) H_
 rwa [O6]at this
theorem aCr(hi:IP t=some i):KW [t] (iV [])=[t]:=by rw[KW,YU hi,ra YV,BP,b6 (show (eF [] a6).cnt<=16 by decide)];show List.map _ (((kE [i] a6).filter fun i=>!decide (i∈(eF [] a6).ids)).foldl (oJ [i]) [])++(jz qF _++jz BC [])=_;rw[qy,show (eF [] a6).ids=[]from rfl];simp only[List.filter_cons,List.filter_nil,n_,decide_false,Bool.not_false,if_true,List.foldl_cons,List.foldl_nil];rw[oJ,b6 H_];show [kW (kG [t]) i]++_=_;rw[cz hi];rfl
theorem aCq(a:l9 i=true):KW [] (iV [i])=[qF [[i]]]:=by rw[KW,O6,ra (ub a),BP,b6 (show (eF [i] a6).cnt<=16 by show (kE [i] a6).length<=16;rw[qy];simp_all)];rfl
theorem aCp(hi:IP t=some i):KW [t] (qF [[i]])=[t]:=by rw[KW,YU hi,show qF [[i]]=qF ([i].map fun s=>[s])from Z,Fi (fun s a=>by rw[q9]at a;rw[a];exact Jl hi) H_];show List.map _ (oJ [i] [] i)++_=_;rw[oJ,b6 H_];show [kW (kG [t]) i]++_=_;rw[cz hi];rfl
theorem aCo(hi:IP t=some i):KW [t] (iV [i])=[]:=by rw[<-YU hi];exact YZ [t] [t] (fun t=>Iff.rfl) (r9 Z)
theorem BA{A_}(a:IdS A_):¬ 20000<(iV A_).size:=Nat.not_lt.2 (Rs (xC a.srt a.dig E_ a.len))
theorem aAL(H:aF):RC 9 [] (bv true) H:=by
 refine Pu ?_;obtain ⟨t,i,hid,j⟩:=Fe;have hJ:=Jl hid;have B:t.size<=20000:=by obtain ⟨r,_,h⟩:=U1 hid;exact h
 have c:=ub hJ;have k:∀H,RC 12 [.pv (aL [])] (.tup [sv (iV []),iv 0]) H:=fun H=>by
  have:=J3 [] H E_ (fun t h=>by cases h);have e:([]:List B_).all l9=true:=rfl
  rwa [HM,HN,b6 e,b6 e,LX List.Pairwise.nil]at this
 have v:∀H,RC 12 [.pv (aL [i])] (.tup [sv (iV [i]),iv 0]) H:=fun H=>by
  have:=J3 [i] H (r9 Z) (fun t h=>by rw[q9]at h;rw[h,jY hJ];decide);have e:[i].all l9=true:=F_
  rwa [HM,HN,b6 e,b6 e,LX c.srt]at this
 have D:∀H,RC 12 [.pv (aL [⟨#[120]⟩])] (.tup [sv a6,iv 1]) H:=fun H=>by
  have:=J3 [⟨#[120]⟩] H E_ (fun t h=>by rw[q9]at h;rw[h];decide)
  rwa [HM,HN,a8 E_,a8 E_]at this
 have hA:∀(L:List B_) (t:B_) (R:List B_),L.length<=1->(∀s∈L,s.size<=20000)->¬ 20000<t.size->KW L t=R->∀H,RC 14 [.pv (aL L),sv t] (.tup [.pv (aL R),iv 0]) H:=fun L t R c_ G E F H=>by
  have:=fy L t H X (fun t I=>by have:=G t I;omega)
  rwa [a8 E,a8 E,F]at this
 have y:∀s∈([]:List B_),s.size<=20000:=fun s h=>by cases h
 have w:∀s∈[t],s.size<=20000:=fun s h=>by rw[q9]at h;rw[h];exact B
 have l:=hA [] (iV []) _ E_ y (BA YV) aCs;have n:=hA [t] (iV []) _ (r9 Z) w (BA YV) (aCr hid);have d:=hA [] (iV [i]) _ E_ y (BA c) (aCq hJ);have u:=hA [t] (qF [[i]]) _ (r9 Z) w (Nat.not_lt.2 (Co hJ)) (aCp hid);have o:=hA [t] (iV [i]) _ (r9 Z) w (BA c) (aCo hid);have d_:∀H,RC 17 [sv t] (.pv (aL [t])) H:=fun H=>by
  have:=qg t H X
  rwa [hid]at this
 have f:∀H,RC 17 [sv (iV [i])] (.pv (aL [])) H:=fun H=>by
  have c_:=BA c;have:=qg (iV [i]) H X;have e:IP (iV [i])=none:=Tn (P:=[eF [i] a6]) (HO c.srt c.dig c.len) H_
  rwa [e]at this
 have hS:∀H,RC 16 [.pv (aL [t]),.pv (aL [t])] (bv true) H:=fun H=>by
  have:=xf [t] [t] H (r9 Z) (r9 Z)
  rwa [decide_eq_true rfl]at this
 obtain ⟨m0,g⟩:∃m,m=iV []:=X_;obtain ⟨m1,p⟩:∃m,m=iV [i]:=X_;obtain ⟨x,q⟩:∃m,m=qF [[i]]:=X_;rw[<-g]at k l n;rw[<-p]at v d o f;rw[<-q]at d u;clear g p q hA w y c;refine Bd func9 Z ntmps9<|Sz U<|C (kc call27 (j _))<|Y V<|Y dH<|Y dH<|Y U<|O U<|C (kc Nj (k _))<|Y V<|Y dH<|Y dH<|Y U<|O U<|C V<|Y (aK ([i].map S_) Z bH Z Z Z Z Z (eX _))<|Y (kc Nj (v _))<|Y V<|Y dH<|Y dH<|Y U<|O U<|C V<|Y (kc LB (l _))<|Y V<|Y dH<|Y dH<|Y U<|O U<|C V<|Y (aK ([t].map S_) Z bH Z Z Z Z Z (eX _))<|Y V<|Y (kc LB (n _))<|Y V<|Y dH<|Y dH<|Y U<|O U<|C V<|Y (kc LB (d _))<|Y V<|Y dH<|Y dH<|Y U<|Y U<|Zz<|C (aK ([⟨#[120]⟩].map S_) Z bH Z Z Z Z Z (eX _))<|Y (kc Nj (D _))<|Y V<|Y dH<|Y dH<|Y U<|O U<|S<|C V<|Y (fY aE)<|O (cL.val (JW Z Z Z) ((by rfl)))<|Cn ?_ ?_<;>intro A
 ·cases A
 refine aA<|C V<|Y (aK ([t].map S_) Z bH Z Z Z Z Z (eX _))<|Y V<|Y (bU Z bH Z Z X (l8 _) (show ([x].map S_)[0]?=some (S_ x)from Z) Z)<|Y (eW Z N_ Z (show ([x].map S_)[0]?=some (S_ x)from Z) Z)<|Y (kc LB (u _))<|Y V<|Y dH<|Y dH<|Y U<|O U<|C V<|Y (aK ([t].map S_) Z bH Z Z Z Z Z (eX _))<|Y V<|Y (kc LB (o _))<|Y V<|Y dH<|Y dH<|Y U<|O U<|C V<|Y cD<|Y V<|J V<|J cD<|Y cE<|Y V<|J V<|J cD<|Y cE<|Y V<|J V<|J (fY aE)<|J cD<|Y cE<|Y V<|J V<|J cD<|Y cE<|Y V<|J V<|J V<|J (aK ([t].map S_) Z bH Z Z Z Z Z (eX _)) ?_;exact J (kc aEh (hS _))<|Y cE<|Y V<|J V<|J cD<|Y cE<|Y V<|J V<|J cD<|Y cE<|Y V<|J V<|J cD<|Y cE<|Y V<|J V<|J (fY aE)<|J cD<|Y cE<|O U<|C V<|Y V<|J V<|J cD<|Y cE<|Y V<|J V<|J V<|J (aK ([t].map S_) Z bH Z Z Z Z Z (eX _))<|J (kc aEh (hS _))<|Y cE<|Y V<|J V<|J (kc call17 (d_ _))<|J V<|J (aK ([t].map S_) Z bH Z Z Z Z Z (eX _))<|J (kc aEh (hS _))<|Y cE<|Y V<|J V<|J (kc call17 (f _))<|J (fY aE)<|J cD<|Y cE<|O U<|aC<|Rt<|Qq
def Br(s:B_)(k:Nat):Bool:=!(decide (aZ s k<48)||decide (57<aZ s k))
def XY(s:B_):Nat->Int
 |0=>0
 |k+1=>10*XY s k+(aZ s k - 48)
def JJ(s:B_):Int:=if s.size=0 then -1 else if(List.range s.size).all (Br s)&&decide (s.size<=7)then XY s s.size else -1
theorem rh{s}:∀ {k},(∀j,j<k->Br s j=true)->0<=XY s k/\XY s k<10 ^ k
 |0,_=>⟨Int.le_refl 0,by show 0<1;omega⟩
 |k+1,h=>by
  obtain ⟨h1,h2⟩:=rh (k:=k) fun j hj=>h j X;have a:=h k X;rw[Br,r8,q_,q6,q6]at a;rw[XY];omega
theorem aBf{k}(h:k<=7):(10:Int) ^ k<=10000000:=by
 have a:k=0\/k=1\/k=2\/k=3\/k=4\/k=5\/k=6\/k=7:=X
 rcases a with rfl|rfl|rfl|rfl|rfl|rfl|rfl|rfl<;>decide
theorem U4(s:B_)(H:aF)(hs:s.size<2^40):RC 163 [sv s] (iv (JJ s)) H:=by
 refine Pu<|Bd func163 Z ntmps163<|Sz U<|Sz U<|S<|Sz U<|aD<|bC (σ:=Nat) (fun k=>([(0,sv s),(3,iv (XY s k)),(4,iv (k:Int))],[])) (fun k=>k<=s.size/\(∀j,j<k->Br s j=true)/\(0<k->s.size<=7)) (fun k=>s.size - k) 0 ⟨l6 _,fun j q=>absurd q (Nat.not_lt_zero _),fun h=>absurd h (Nat.lt_irrefl 0)⟩ ?_ ?_
 ·exact Wk
 rintro k ⟨hk,t,h7⟩;refine S<|C V<|Y V<|Y (gR U_)<|O cM<|Cn ?_ ?_<;>intro d
 ·have hlt:k<s.size:=I_ d
  refine aA<|S<|aD<|S<|S<|aR (t:=25) (n:=17) (A_:=(decide (aZ s k<48)||decide (57<aZ s k))||decide (7<(s.size:Int))) ?_ ?_
  ·all_goals refine Y V<|Y V<|Y (ky U_)<|Y cM<|Dm ?_<;>(refine Sp 15 (fun p=>?_) fun p=>?_)<;>(first|contradiction|refine M<|M<|M<|M ?_|refine J V<|J V<|J (ky U_)<|J jK ?_)<;>refine Y cE<|Dm ?_<;>(refine Sp 21 (fun o=>?_) fun o=>?_)<;>(first|contradiction|refine M<|M<|M ?_|refine J V<|J (gR U_)<|J jK ?_)<;>refine O cE ?_<;>(exact⟨⟨_,Z,G_⟩,Z,Z,Z⟩)
  refine Cn ?_ ?_<;>intro c
  ·have hbad:Br s k=false\/7<s.size:=by have h:=c;rw[Br];simp only[Bool.or_eq_true,k_]at h;rcases h with h|h;exact .inl G_;exact .inr X
   have f:JJ s = -1:=by
    rw[JJ,a8 X,a8 ?_]
    grind
   rw[f];exact Sz U<|aC<|Rt<|Qq
  have b:Br s k=true/\s.size<=7:=by have h:=c;rw[q_,q6]at h;exact⟨by rw[Br,h.1];rfl,X⟩
  have hbd:=rh t;have hp:=aBf (k:=k) X;have m:=b.1;rw[Br,r8,q_,q6,q6]at m;have n:∀j,j<k+1->Br s j=true:=fun j q=>by
   grind
  refine aA<|Rd V<|Y (qO Z Z Z (pW X X))<|Y V<|Y V<|Y (ky U_)<|Y (dV Z Z Z (wu8 X X))<|Y (eO Z dM underlying3 Z (pW X X))<|Y gV<|O U<|Rd V<|Y gV<|Da ?_;exact⟨k+1,⟨X,n,fun _=>b.2⟩,X,Wk⟩
 have l:k=s.size:=J_ d
 subst l;refine aP<|S<|C V<|O xA<|Cn ?_ ?_<;>intro g
 ·have i:s=⟨#[]⟩:=b9 g;have f:JJ s = -1:=by rw[i];rfl
  rw[f];exact Sz U<|aC<|Rt<|Qq
 have i:s.size≠0:=fun e=>b_ g (nj (List.length_eq_zero_iff.1 F_));have f:JJ s=XY s s.size:=by
  rw[JJ,a8 i,b6 ?_]
  grind
 rw[f];exact aA<|C V<|O U<|aC<|Rt<|Qq
def JI(s:B_):Nat->Int
 |0=>0
 |k+1=>10*JI s k+IntKind.u8.wrap (aZ s k - 48)
theorem Vq(x):0<=IntKind.u8.wrap x/\IntKind.u8.wrap x<=255:=by have:IntKind.u8.wrap x=x % 256:=rfl;omega
theorem bb(s):∀k,k<=7->0<=JI s k/\JI s k+255<=255*10 ^ k
 |0,_=>⟨Int.le_refl 0,by show 0+255<=255*1;omega⟩
 |k+1,h=>by
  obtain ⟨h1,h2⟩:=bb s k X;have h3:=Vq (aZ s k - 48);rw[JI];omega
theorem QT(s:B_)(H:aF)(hs:s.size<2^40):RC 215 [sv s] (iv (JI s (min s.size 7))) H:=by
 refine Pu<|Bd func215 Z ntmps215<|Sz U<|Sz U<|S<|Sz U<|aD<|bC (σ:=Nat) (fun k=>([(0,sv s),(3,iv (JI s k)),(4,iv (k:Int))],[])) (fun k=>k<=s.size/\k<=7) (fun k=>s.size - k) 0 ⟨l6 _,l6 _⟩ ?_ ?_
 ·exact Wk
 rintro k ⟨hk,d⟩;refine S<|S<|aR (t:=12) (n:=9) (A_:=decide ((k:Int)<(s.size:Int))&&decide ((k:Int)<7)) ?_ ?_
 ·all_goals refine Y V<|Y V<|Y (gR U_)<|Y cM<|Dm ?_<;>(refine Sp 9 (fun e=>?_) fun e=>?_)<;>(first|contradiction|refine M<|M ?_|refine J V<|J cM ?_)<;>refine O cE ?_<;>(exact⟨⟨_,Z,G_⟩,Z,Z,Z⟩)
 refine Cn ?_ ?_<;>intro c
 ·have b:k<s.size/\k<7:=by have h:=c;rw[j0,k_,k_]at h;omega
  obtain ⟨b,hl7⟩:=b;have hbd:=bb s k d;have hp:=aBf d;have hw:=Vq (aZ s k - 48);refine aA<|S<|aD<|Rd V<|Y (qO Z Z Z (pW X X))<|Y V<|Y V<|Y (ky U_)<|Y (dV Z Z Z Z)<|Y (eO Z dM underlying3 Z (pW X X))<|Y gV<|O U<|Rd V<|Y gV<|Da ?_;exact⟨k+1,⟨X,X⟩,X,Wk⟩
 have hge:k=min s.size 7:=by have h:=c;rw[Bool.and_eq_false_iff,q6,q6]at h;omega
 refine aP<|C V<|O U<|aC<|Rt ?_
 simp_all
def jd(s:B_)(f:Nat):List B_:=(dN 32 (s.data.toList.drop f)).map b7
theorem wo(s):cN s=jd s 0:=rfl
theorem Kf{s}{f i}(hf:f<=i)(hi:i<s.size):s.data.toList.drop f=(s.data.toList.drop f).take (i - f)++oU s i::s.data.toList.drop (i+1):=by
 have hl:=aT s;have a:(s.data.toList.drop f).drop (i - f)=oU s i::s.data.toList.drop (i+1):=by
  rw[List.drop_drop,show f+(i - f)=i by omega,List.drop_eq_getElem_cons _];rw[oU,m8 X];rfl
 rw[<-a,List.take_append_drop]
theorem Xo{s}{f i}(d:f<=i)(hi:i<s.size)(e:oU s i=32)(b:32∉(s.data.toList.drop f).take (i - f)):jd s f=b7 ((s.data.toList.drop f).take (i - f))::jd s (i+1):=by have h:=Kf d hi;rw[e]at h;have c:=congrArg (fun l=>(dN 32 l).map b7) h;simp[jR b,List.map_cons]at c;exact c
theorem Pa{s}{f}(a:32∉s.data.toList.drop f):jd s f=[b7 (s.data.toList.drop f)]:=by rw[jd,rQ a];rfl
theorem Sb{s}{f i}(hf:f<=i)(hi:i<s.size)(b:oU s i≠32)(hno:32∉(s.data.toList.drop f).take (i - f)):32∉(s.data.toList.drop f).take (i+1 - f):=by
 rw[show i+1 - f=(i - f)+1 by omega,List.take_add_one,];intro h;rcases List.mem_append.1 h with h|h
 ·grind
 exact b (by rw[oU];simp_all)
theorem Fv(s:B_)(H:aF)(hs:s.size<1000000000):RC 161 [sv s] (.pv (aL (cN s))) H:=by
 refine Pu ?_;have hl:=aT s;refine Bd func161 Z ntmps161<|Sz U<|Sz (by exact eP (id:=906) (sz:=1) (ty:=9) Z Z Z)<|Sz U<|S<|Sz U<|aD<|BT (fun(i f:Nat) (a:List B_)=>([(0,sv s),(3,.osl 906 a.length 0 a.length),(4,iv (f:Int)),(5,iv (i:Int))],[(906,⟨a.length,1,9,TI a⟩)])) (fun i f a=>i<=s.size+1/\f<=i/\a.length<=i/\(i<=s.size->cN s=a++jd s f/\(32:UInt8)∉(s.data.toList.drop f).take (i - f))/\(i=s.size+1->cN s=a)) (fun i _ _=>s.size+1 - i) 0 0 [] ⟨by omega,j6 _,j6 _,fun _=>⟨wo s,by simp⟩,fun h=>by omega⟩ ?_ ?_
 ·exact(cJ.wk (Eb<|Ea<|Eb<|Eb<|T_) (Hc (lW _ _)<|T_) T_)
 rintro i f a ⟨hi,x,hol,hA,hB⟩;refine S<|C V<|Y V<|Y (gR U_)<|O IN<|Cn ?_ ?_<;>intro o
 ·have d:i<=s.size:=by have:=b9 o;omega
  obtain ⟨k,g⟩:=hA d;have j:aZ s i=((oU s i).toNat:Int):=tD s i;refine aA<|S<|aD<|S<|aR (t:=21) (n:=11) (A_:=decide ((i:Int)=(s.size:Int))||decide (aZ s i=32)) ?_ ?_
  ·all_goals refine Y V<|Y V<|Y (gR U_)<|Y cD<|Dm ?_<;>(refine Sp 16 (fun m=>?_) fun m=>?_)<;>(first|contradiction|refine M<|M<|M<|M ?_|refine J V<|J V<|J (by exact cV Z U_ Z Z (by omega) (by exact l8 _) (by have:=b_ m;omega) Z)<|J cD ?_)<;>refine O cE ?_<;>exact Gj (h:=by simp_all)
  refine Cn ?_ ?_<;>intro l
  ·have t:i=s.size\/aZ s i=32:=by have h:=l;rw[Bool.or_eq_true,k_,k_]at h;rcases h with h|h;exact .inl (by omega);exact .inr h
   obtain ⟨w,q⟩:∃w,w=b7 ((s.data.toList.drop f).take (i - f)):=X_;have z:s.extract f i=w:=by rw[q];exact nj (by rw[gU,cO])
   have v:(a++[w]).length=a.length+1:=by simp_all
   have hN:(i+1<=s.size->cN s=(a++[w])++jd s (i+1)/\(32:UInt8)∉(s.data.toList.drop (i+1)).take (i+1 - (i+1)))/\(i+1=s.size+1->cN s=a++[w]):=by
    constructor
    ·intro h;have u:oU s i=32:=by
      rcases t with e|e
      ·omega
      rw[j]at e;exact UInt8.toNat_inj.1 (by grind)
     refine⟨?_,by simp_all⟩;rw[k,Xo x (by omega) u g,q,List.append_assoc];rfl
    intro h;have e:(s.data.toList.drop f).take (i - f)=s.data.toList.drop f:=List.take_of_length_le (by rw[p_];omega);rw[e]at g q;rw[k,Pa g,q]
   refine C V<|Y V<|Y V<|Y V<|Y (by exact bT (l:=f) (h:=i) Z U_ Z Z Z x d z)<|Y (by exact aK [S_ w] Z bH Z Z Z Z Z R_)<|Y (by exact cA (ps:=[S_ w]) Z bH wB Z Z Z Z Z (XO _) Z R_ (m:=1) Z (by omega) Z (XQ _ w))<|O U<|Rd V<|Y gV<|O U<|Rd V<|Y gV<|Da ?_;refine⟨i+1,i+1,a++[w],⟨by omega,j6 _,by omega,hN.1,hN.2⟩,by omega,?_⟩;rw[v];exact(cJ.wk (Eb<|Ea<|Eb<|Eb<|T_) (Hc (lW _ _)<|T_) T_)
  have t:i<s.size/\aZ s i≠32:=by have h:=l;rw[q_,q6,q6]at h;exact⟨by omega,h.2⟩
  have u:oU s i≠32:=fun e=>t.2 (by rw[j,e];rfl);have n:=Sb x t.1 u g;refine aA<|Rd V<|Y gV<|Da ?_;exact⟨i+1,f,a,⟨by omega,by omega,by omega,fun _=>⟨k,n⟩,fun h=>by omega⟩,by omega,(cJ.wk (Eb<|Ea<|Eb<|Eb<|T_) (Hc (lW _ _)<|T_) T_)⟩
 have d:i=s.size+1:=by have:=b_ o;omega
 have y:=hB d;rw[y];refine aP<|C V<|O U<|aC ?_;refine cR (H':=[]) (.inr Z) Z (aJ Z) (Fin.fz (id:=906) (a.map S_) Z (Fg _) (.osl (lS S_ _)) Z T_ T_) ?_;exact Qq
def Dk(b c:a_):Bool:=decide (b.text=⟨#[61]⟩)&&decide (c.kind=3)
abbrev Zr(a c:a_):l_:=⟨a.text,c.text⟩
def K3:List l_->List a_->List l_×Bool
 |acc,[]=>(acc,true)
 |acc,a::b::c::r=>if Dk b c then K3 (acc++[Zr a c]) r else([],false)
 |_,[_]=>([],false)
 |_,[_,_]=>([],false)
theorem Fin.tg2{H1}{id g n}{ob}(l)(v)(b:H1.get id=some ob)(c:ob.g=g)(a:ob.rows=sI l)(d:n=l.length)(e:Clo [] v):
  Fin [] H1 (.tup [.osl id g 0 n,v]) [] (.tup [.pv (pX l),v]):=by
 subst c d;exact Fin.fz _ b (a.trans (by rw[List.map_map];rfl)) (.tup Z (bG (.osl (lS _ l)) (bG (.same e) kX))) Z T_ T_
theorem aCa{T:List a_}{i}{a b c}(k:T[i]?=some a)(d:T[i+1]?=some b)(h:T[i+2]?=some c):T.drop i=a::b::c::T.drop (i+3):=by obtain ⟨m,j⟩:=m_.1 k;obtain ⟨l,f⟩:=m_.1 d;obtain ⟨e,g⟩:=m_.1 h;rw[List.drop_eq_getElem_cons m,List.drop_eq_getElem_cons l,List.drop_eq_getElem_cons e,j,f,g]
theorem xm{acc}{T}(a:0<T.length)(h:T.length<3):K3 acc T=([],false):=by
 match T with
 | []=>exact absurd a (Nat.lt_irrefl 0)
 | [_]=>rfl
 | [_,_]=>rfl
 |_::_::_::_=>rw[j7,j7,j7]at h;omega
theorem LP(T:List a_)(H:aF)(hT:T.length<1000000000):RC 216 [.pv (CA T)] (.tup [.pv (pX (K3 [] T).1),bv (K3 [] T).2]) H:=by
 refine Pu ?_;have hmT:(T.map K_).length=T.length:=g_ _;refine Bd func216 Z ntmps216<|C U<|O U<|Sz (eP (id:=906) (sz:=2) (ty:=270) Z Z Z)<|S<|Sz U<|aD<|fS (fun(i:Nat) (A:List l_)=>([(0,.pv (CA T)),(4,.osl 906 A.length 0 A.length),(5,iv (i:Int))],[(906,⟨A.length,2,270,sI A⟩)])) (fun i A=>i<=T.length/\A.length<=i/\K3 [] T=K3 A (T.drop i)) (fun i _=>T.length - i) 0 [] ⟨l6 _,j6 _,Z⟩ ?_ ?_
 ·exact L_
 rintro i A ⟨hi,hA,g⟩;refine S<|C V<|Y V<|Y (fY cP)<|O cM<|Cn ?_ ?_<;>intro l
 ·have t:i<T.length:=I_ l
  obtain ⟨a,B⟩:=aU t;have hia:=cC (f:=K_) B;by_cases E:i+2<T.length
  ·obtain ⟨b,d_⟩:=aU (l:=T) (k:=i+1) X;obtain ⟨c,z⟩:=aU E;have p:=cC (f:=K_) d_;have o:=cC (f:=K_) z;have q:=aCa B d_ z;rw[q,K3]at g;have x:¬ (decide (((T.map K_).length:Int)<=(i:Int)+2)=true):=G_
   refine aA<|S<|aD<|S<|S<|aR (t:=34) (n:=25) (A_:=!Dk b c) ?_ ?_
   ·all_goals refine Y V<|Y gV<|Y V<|Y (fY cP)<|Y DK<|Dm ?_<;>(refine Sp 17 (fun k=>?_) fun k=>?_)<;>(try contradiction)<;>refine J V<|J V<|J gV<|J (bU Z hU Z Z X (show ((i:Int)+1).toNat=i+1 by omega) p Z)<|J (EP iF)<|J (gG N_)<|J HD<|Y cE<|Dm ?_<;>(refine Sp 26 (fun j=>?_) fun j=>?_)<;>(first|contradiction|refine M<|M<|M<|M<|M<|M<|M ?_|refine J V<|J V<|J gV<|J (bU Z hU Z Z X (show ((i:Int)+2).toNat=i+2 by omega) o Z)<|J (EP uS)<|J (gG M_)<|J zX ?_)<;>refine O cE ?_<;>exact Gj (h:=by(rw[Dk];simp_all))
   refine Cn ?_ ?_<;>intro n
   ·have v:Dk b c=false:=by have h:=n;rwa [r8]at h
    rw[v,a8 H_]at g;rw[g];refine C U<|O U<|aC<|iB (H':=[]) (.inr Z) Z (aJ Z) (aJ Z) (P_ (r:=.tup [.pv (pX []),bv false])) Qq
   have v:Dk b c=true:=by have h:=n;rwa [Bool.not_eq_false']at h
   rw[v,b6 rfl]at g;have s:(A++[Zr a c]).length=A.length+1:=F_
   refine aA<|aN a7<|Cs (fun _ _=>V)<|Cs (fun _ _=>V)<|Cs (fun _ _=>V)<|Cs (fun _ _=>(iN hU))<|Cs (fun _ _=>(EP iF))<|Cs (fun _ _=>(gG N_))<|Cs (fun _ _=>V)<|Cs (fun _ _=>V)<|Cs (fun _ _=>gV)<|Cs (fun D u=>by exact bU Z hU Z Z X (show ((i:Int)+2).toNat=i+2 by omega) o Z)<|Cs (fun _ _=>(EP iF))<|Cs (fun _ _=>(gG N_))<|Cs (fun _ _=>(oN Lb))<|Cs (fun D u=>by exact aK [bP (Zr a c)] Z lM Z Z Z Z Z R_) ?_;refine iH (r:=⟨_,none,[_]⟩) (DStep.plain Z (fun D u=>by exact cA (ps:=[bP (Zr a c)]) Z lM Ke Z ((u _ Z).trans Z) Z Z Z (G8 _) Z R_ (m:=1) Z X Z (G9 _ (Zr a c)))) Z ?_;refine Cs (fun _ _=>U)<|bL<|Kr<|Rd V<|Y gV<|Da ?_;refine⟨i+3,A++[Zr a c],⟨X,X,g⟩,X,?_⟩;rw[s];exact L_
  have hS:K3 [] T=([],false):=by rw[g];exact xm (by rw[p_];omega) (by rw[p_];omega)
  have x:¬ (decide (((T.map K_).length:Int)<=(i:Int)+2)=false):=by rw[q6];omega
  rw[hS];refine aA<|S<|aD<|S<|S<|aR (t:=34) (n:=25) (A_:=true) ?_ ?_
  ·all_goals refine Y V<|Y gV<|Y V<|Y (fY cP)<|Y DK<|Dm ?_<;>(refine Sp 17 (fun k=>?_) fun k=>?_)<;>(try contradiction)<;>refine M<|M<|M<|M<|M<|M<|M<|Y cE<|Dm ?_<;>(refine Sp 26 (fun j=>?_) fun j=>?_)<;>(try contradiction)<;>refine M<|M<|M<|M<|M<|M<|M<|O cE ?_<;>exact Gj (h:=by rfl)
  refine Cn ?_ ?_<;>intro y
  ·refine C U<|O U<|aC<|iB (H':=[]) (.inr Z) Z (aJ Z) (aJ Z) (P_ (r:=.tup [.pv (pX []),bv false])) Qq
  cases y
 have w:i=T.length:=J_ l
 rw[w,List.drop_length,K3]at g;rw[g];refine aP<|C V<|Y U<|O U<|aC ?_;refine iB (H':=[]) (.inr Z) Z (aJ Z) (aJ Z) (Fin.tg2 A (bv true) Z Z Z Z H_) ?_;exact Qq
end Go.Proofs.YtopnleflllkbmaaGreatDoor
namespace Go.Proofs.YtopnleflllkbmaaGreatDoor
open Go.Proofs.Tryz
open Go.Abs
theorem zi(l):GX l=(l.map bJ).map (·.map .pv):=by rw[List.map_map];rfl
open Go.Lib
def DU(rE:B_->b8)(s:B_):Nat->Nat×List b8
 |0=>(0,[])
 |i+1=>if decide (aZ s i=10)then(i+1,(DU rE s i).2++[rE (s.extract (DU rE s i).1 i)])else DU rE s i
theorem Gb(rE)(s):∀i,(DU rE s i).1<=i/\(DU rE s i).2.length<=i
 |0=>⟨j6 _,j6 _⟩
 |i+1=>by
  obtain ⟨h1,h2⟩:=Gb rE s i;rw[DU]
  grind
theorem bf(rE)(s)(i):∀d,(DU rE s i).2.length<=(DU rE s (i+d)).2.length
 |0=>j6 _
 |d+1=>by
  refine Nat.le_trans (bf _ s i d) ?_;rw[show i+(d+1)=(i+d)+1 by omega,DU]
  grind
theorem OQ{rE}{s}{Q:b8->Prop}(h:∀x,x.size<=s.size->Q (rE x)):∀i,∀e∈(DU rE s i).2,Q e
 |0,e,b=>by cases b
 | i+1,e,b=>by
  rw[DU]at b
  split at b
  ·rcases List.mem_append.1 b with c|c
   ·exact OQ h i e c
   rw[q9.1 c];exact h _ (fR s _ _)
  exact OQ h i e b
def gPr(rE:B_->b8)(t:B_):List b8×Int:=if 20000<t.size then([],2)else if dX (DU rE t t.size).2=(t,0)then((DU rE t t.size).2,0)else([],5)
theorem xn{rE:B_->b8}(E:∀x:B_,x.size<=20000->T3 (rE x)/\(rE x).refs.length<2^40)(c_:∀(x:B_) (H:aF),x.size<=20000->RC 109 [sv x] (av (bJ (rE x))) H)(t:B_)(H:aF)(hs:t.size<1000000000):
  RC 67 [sv t] (.tup [.pv (kD (gPr rE t).1),iv (gPr rE t).2]) H:=by
 refine Pu<|Bd func67 Z ntmps67<|C U<|O U<|S<|C V<|Y (gR U_)<|O jK<|Cn ?_ ?_<;>intro n
 ·have d_:20000<t.size:=by have:=b9 n;omega
  rw[gPr,b6 d_];refine C U<|O U<|aC<|iB (H':=[]) (.inr Z) Z (aJ Z) (aJ Z) (Fin.wk (r:=.tup [.pv (kD []),iv 2]) (by simp) T_ T_) Qq
 have d_:¬ 20000<t.size:=by have:=b_ n;omega
 rw[gPr,a8 d_];refine aA<|Sz (by exact eP (id:=905) (sz:=15) (ty:=137) Z Z Z)<|Sz U<|S<|Sz U<|aD<|bC (σ:=Nat) (fun i=>([(0,sv t),(4,.osl 905 (DU rE t i).2.length 0 (DU rE t i).2.length),(5,iv ((DU rE t i).1:Int)),(6,iv (i:Int))],[(905,⟨(DU rE t i).2.length,15,137,GX (DU rE t i).2⟩)])) (fun i=>i<=t.size) (fun i=>t.size - i) 0 (l6 _) ?_ ?_
 ·exact(cJ.wk (Eb<|Ea<|Eb<|Eb<|T_) (Hc (xF _ _)<|T_) T_)
 rintro i N;obtain ⟨I,D⟩:=Gb rE t i;have c:DU rE t (i+1)=if decide (aZ t i=10)then(i+1,(DU rE t i).2++[rE (t.extract (DU rE t i).1 i)])else DU rE t i:=rfl;have m:=bf rE t i (t.size - i);rw[show i+(t.size - i)=t.size by omega]at m;have d:=OQ (rE:=rE) (s:=t) (Q:=fun e=>T3 e/\e.refs.length<2^40) (fun x w=>E x (by omega)) i;rcases l:DU rE t i with⟨f,L⟩;simp only[l]at I D c m d |-;refine S<|S<|aR (t:=20) (n:=10) (A_:=decide ((i:Int)<(t.size:Int))&&decide ((L.length:Int)<=200)) ?_ ?_
 ·all_goals refine Y V<|Y V<|Y (gR U_)<|Y cM<|Dm ?_<;>(refine Sp 16 (fun y=>?_) fun y=>?_)<;>(first|contradiction|refine M<|M<|M ?_|refine J V<|J (by exact dQ Z eS Z Z Z)<|J IN ?_)<;>refine O cE ?_<;>(exact⟨⟨_,Z,by grind⟩,Z,Z,Z⟩)
 refine Cn ?_ ?_<;>intro u
 ·have hlt:i<t.size:=by have h:=u;rw[j0,k_]at h;omega
  refine aA<|S<|aD<|C V<|Y V<|Y (ky U_)<|O cD<|Cn ?_ ?_<;>intro q
  ·have F:decide (aZ t i=10)=true:=q;rw[F,b6 rfl]at c;obtain ⟨x,w⟩:∃x,x=t.extract f i:=X_;have z:x.size<=20000:=by rw[w];have:=fR t f i;omega
   rw[<-w]at c;have G:(L++[rE x]).length=L.length+1:=by simp_all
   refine C V<|Y V<|Y V<|Y V<|Y (by exact bT (l:=f) (h:=i) Z U_ Z Z Z I N w.symm)<|Y (kc call109 (c_ x _ z))<|Y (by exact aK [bJ (rE x)] Z ae Z Z Z Z Z R_)<|Y (by exact cA (ps:=[bJ (rE x)]) Z ae We Z Z Z Z Z (WN _) Z R_ (m:=1) Z (by omega) Z (WO L (rE x)))<|O U<|Rd V<|Y gV<|O U<|Rd V<|Y gV<|Da ?_;refine⟨i+1,by omega,by omega,?_⟩;rw[c];simp only;rw[G];exact(cJ.wk (Eb<|Ea<|Eb<|Eb<|T_) (Hc (xF _ _)<|T_) T_)
  have F:decide (aZ t i=10)=false:=q;rw[F,a8 (by simp)]at c;refine aA<|Rd V<|Y gV<|Da ?_;refine⟨i+1,by omega,by omega,?_⟩;rw[c];exact(cJ.wk (Eb<|Ea<|Eb<|Eb<|T_) (Hc (xF _ _)<|T_) T_)
 have j:i=t.size\/200<L.length:=by have h:=u;rw[Bool.and_eq_false_iff,q6,q6]at h;omega
 have v:(if dX (DU rE t t.size).2=(t,0)then((DU rE t t.size).2,(0:Int))else([],5))=if dX L=(t,0)then(L,0)else([],5):=by
  rcases j with e|e
  ·rw[<-e,l]
  have o:∀e_:List b8,200<e_.length->¬ dX e_=(t,0):=fun e_ hM h=>by
   rw[dX]at h
   split at h
   ·next K=>have:=(NU K).2.1;omega
   have:=congrArg Prod.snd h;cases this
  rw[a8 (o _ (by omega)),a8 (o _ e)]
 rw[v];refine fZ.ent (cJ.fzG (id:=905) (E':=[(0,sv t),(4,.pv (kD L))]) (H':=[]) (L.map bJ) Z (zi L) ?_ Z ?_ ?_) ?_
 ·intro p l;simp only[l7,n_,or_false]at l;rcases l with rfl|rfl
  ·exact⟨_,Z,.same (by simp;try rfl)⟩
  exact⟨_,Z,.osl (lS bJ L)⟩
 ·exact T_
 ·exact T_
 refine aP<|C V<|Y (kc aEO (QP L _ (by omega) (fun e h=>(d e h).1) (fun e h=>(d e h).2)))<|Y V<|Y dH<|Y dH<|Y U<|O U<|S<|S<|aR (t:=48) (n:=8) (A_:=!decide ((dX L).2=0)||!decide ((dX L).1=t)) ?_ ?_
 ·all_goals refine Y V<|Y zX<|Dm ?_<;>(refine Sp 44 (fun k=>?_) fun k=>?_)<;>(first|contradiction|refine M<|M<|M ?_|refine J V<|J V<|J HD ?_)<;>refine O cE ?_<;>exact Gj (h:=by(rw[k];rfl))
 refine Cn ?_ ?_<;>intro g
 ·have A:dX L≠(t,0):=fun e=>by have h:=g;rw[e]at h;simp at h
  rw[a8 A];refine C U<|O U<|aC<|iB (H':=[]) (.inr Z) Z (aJ Z) (aJ Z) (Fin.wk (r:=.tup [.pv (kD []),iv 5]) (by simp) T_ T_) Qq
 have B:dX L=(t,0):=by have h:=g;simp only[q_,Bool.not_eq_false',k_]at h;exact Prod.ext h.2 h.1
 rw[b6 B];exact aA<|C V<|Y U<|O U<|aC<|Ru<|Qq
theorem cd{s}{i}(hi:i<s.size)(h:mV s i=2):uY s i=true:=by rw[mV,b6 hi]at h;have a:=(YW s i).2.1;rw[h]at a;have e:=b9 (a.trans Z);rw[uY,decide_eq_true hi,e];rfl
theorem LI{s}{i j}(h:eT s i=(none,j))(hi:i<s.size):i<j/\j<=s.size:=by
 rw[eT]at h
 split at h
 ·grind
 split at h
 ·rename_i b;cases h;have a:=cd hi b;obtain ⟨l1,l2⟩:=FL (uY s) (s.size - i) i;rw[FW];refine⟨?_,X⟩;rcases Nat.lt_or_ge i _ with h|h
  ·exact h
  have e:yQ (uY s) (s.size - i) i=i:=X
  have:=xB (uY s) (s.size - i) i X;rw[e,a]at this;cases this
 grind
theorem FE(s):∀(n m i),s.size - i<n->s.size - i<m->jZ s n i=jZ s m i
 |0,_,_,h,_=>by omega
 |_+1,0,_,_,h=>by omega
 | n + 1, m + 1, i, h1, h2 => by
  rw[jZ,jZ];by_cases b:i<s.size
  ·rw[b6 b,b6 b];cases d:eT s i with
   | mk o j =>
    cases o with
    |none =>
     have:=LI d b;exact FE s n m j X X
    |some f =>
     show f::_=f::_;congr 1;by_cases c:f.err=0
     ·have:=OK d c b;rw[b6 c,b6 c];exact FE s n m j X X
     simp_all
  grind
def F6(s:B_)(i:Nat):List a_:=jZ s (s.size+1) i
theorem UL{s}{i j}(hi:i<s.size)(h:eT s i=(none,j)):F6 s i=F6 s j:=by have:=LI h hi;rw[F6,jZ,b6 hi,h];exact FE s _ _ j X X
theorem vv{s}{i j}{f}(hi:i<s.size)(h:eT s i=(some f,j))(a:f.err=0):F6 s i=f::F6 s j:=by have:=OK h a hi;rw[F6,jZ,b6 hi,h];show f::(if f.err=0 then _ else _)=_;rw[b6 a];congr 1;exact FE s _ _ j X X
theorem Dh{s}{i j}{f}(hi:i<s.size)(h:eT s i=(some f,j))(he:f.err≠0):F6 s i=[f]:=by
 rw[F6,jZ]
 simp_all
theorem Di{s}{i}(hi:¬ i<s.size):F6 s i=[]:=by rw[F6,jZ,a8 hi]
theorem ug(s:B_)(e:Nat)(H:aF)(hs:s.size<2^40)(d_:e<=s.size):aS Tryz.prog 218 [sv s,iv (e:Int)] H (fun r H'=>∃j,r=iv ((j:Nat):Int)/\e<=j/\j<=s.size/\F6 s e=F6 s j/\(j<s.size->mV s j≠1/\mV s j≠2)/\H'=H):=by
 refine Bd func218 Z ntmps218<|Sz U<|S<|aD<|bC (σ:=Nat) (fun i=>([(0,sv s),(1,iv (i:Int))],H)) (fun i=>e<=i/\i<=s.size/\F6 s e=F6 s i) (fun i=>s.size - i) e ⟨j6 _,d_,Z⟩ ?_ ?_
 ·exact E0
 rintro i ⟨hge,B,d⟩;refine S<|C V<|Y V<|Y (gR U_)<|O cM<|Cn ?_ ?_<;>intro o
 ·have b:i<s.size:=I_ o
  have x:mV s i=yF (aZ s i):=by rw[mV,b6 b]
  obtain ⟨z,y,_⟩:=YW s i;rw[<-x]at z y;refine aA<|aD<|C V<|Y V<|Y (ky U_)<|O (bF Z Z aEB Z (Jr ⟨#[32,9,10]⟩ (aZ s i) _ E_))<|Cn ?_ ?_<;>intro t
  ·have u:mV s i=1:=b9 (z.symm.trans t);have c:eT s i=(none,i+1):=by rw[eT,b6 u]
   refine Rd V<|Y gV<|Da ?_;exact⟨i+1,⟨X,b,d.trans (UL b c)⟩,X,E0⟩
  have u:mV s i≠1:=b_ (z.symm.trans t);refine C V<|Y V<|Y (ky U_)<|O cD<|Cn ?_ ?_<;>intro q
  ·have v:mV s i=2:=b9 (y.symm.trans q);have c:eT s i=(none,FW s i):=by rw[eT,a8 u,b6 v]
   refine aD<|bC (σ:=Nat) (fun k=>([(0,sv s),(1,iv (k:Int))],H)) (fun k=>i<=k/\k<=s.size/\∀j,i<=j->j<k->uY s j=true) (fun k=>s.size - k) i ⟨j6 _,B,fun j u v=>by omega⟩ ?_ ?_
   ·exact E0
   rintro k ⟨w,D,p⟩;refine S<|S<|aR (t:=28) (n:=11) (A_:=decide ((k:Int)<(s.size:Int))&&!decide (aZ s k=10)) ?_ ?_
   ·all_goals refine Y V<|Y V<|Y (gR U_)<|Y cM<|Dm ?_<;>(refine Sp 23 (fun g=>?_) fun g=>?_)<;>(first|contradiction|refine M<|M<|M<|M ?_|refine J V<|J V<|J (cV Z U_ Z Z X (l8 _) (I_ g) Z)<|J zX ?_)<;>refine O cE ?_<;>(exact⟨⟨_,Z,G_⟩,Z,Z,Z⟩)
   refine Cn ?_ ?_<;>intro f
   ·have h:=f;rw[j0,k_]at h;have l:k<s.size:=X
    have hp:uY s k=true:=by rw[uY,decide_eq_true l,Bool.true_and];grind
    refine aA<|aD<|Rd V<|Y gV<|Da ?_;refine⟨k+1,⟨X,l,fun j u v=>?_⟩,X,E0⟩
    grind
   have n:FW s i=k:=by
    refine yX (uY s) w X p ?_;rcases Nat.lt_or_ge k s.size with h|h
    ·left;have A:=f;rw[decide_eq_true (show (k:Int)<(s.size:Int)by omega),Bool.true_and]at A;rw[uY,A,Bool.and_false]
    omega
   rw[n]at c;have hgo:=LI c b;refine aP ?_;exact⟨k,⟨X,D,d.trans (UL b c)⟩,X,E0⟩
  have v:mV s i≠2:=b_ (y.symm.trans q);refine C V<|O U<|aC<|cR (H':=H) (.inr Z) Z (aJ Z) Fin.refl ?_
  grind
 have m:i=s.size:=J_ o
 subst m;refine aP<|C V<|O U<|aC<|cR (H':=H) (.inr Z) Z (aJ Z) Fin.refl ?_
 grind
def Ww:a_:=⟨0,a6,0,0⟩
def If(s:B_)(i:Nat):a_×Int×Int:=match eT s i with
 |(some f,j)=>if f.err=0 then(f,(j:Int),0)else(Ww,0,f.err)
 |(none,_)=>(Ww,0,0)
theorem J4{s}{i j}{f}(h:eT s i=(some f,j))(he:f.err=0):If s i=(f,(j:Int),0):=by
 rw[If]
 simp_all
theorem RQ{s}{i j}{f}(h:eT s i=(some f,j))(he:f.err≠0):If s i=(Ww,0,f.err):=by
 rw[If]
 simp_all
theorem VE{s}{k}(h:k<s.size):uX s k=Bp (aZ s k):=by
 obtain ⟨c1,c2,c3⟩:=SU s k;have a:mV s k=yF (aZ s k):=by rw[mV,b6 h]
 rw[uX,a,c1,c2,c3];rfl
theorem cf{s}{k}(h:k<s.size):N5 s k=xX (aZ s k):=by
 obtain ⟨c1,c2,c3⟩:=SU s k;have a:mV s k=yF (aZ s k):=by rw[mV,b6 h]
 rw[N5,a,c2]
def aBb(p:a_×Int×Int):AV:=.tup [av (K_ p.1),iv p.2.1,iv p.2.2]
theorem Ow{s}{i:Nat}{H}(b:s.size<2^40)(hi:i<s.size)(a:nV (s.data.toList.drop (i+1))=none):RC 263 [sv s,iv i] (.tup [sv a6,iv 0,bv false]) H:=by
 have:=ql s i H b hi
 rwa [a]at this
theorem Ov{s}{i:Nat}{H}{p}(b:s.size<2^40)(hi:i<s.size)(c:nV (s.data.toList.drop (i+1))=some p):RC 263 [sv s,iv i] (.tup [sv ⟨p.1.toArray⟩,iv ((i+(p.2+1):Nat)),bv true]) H:=by
 have:=ql s i H b hi;rw[c]at this;have e:xG (some p) [] (i+1)=(⟨p.1.toArray⟩,((i+(p.2+1)):Int)):=by
  show ((⟨([]++p.1).toArray⟩:B_),((i+1+p.2):Int))=_
  grind
 rw[e]at this;exact this
theorem Ii(s:B_)(i:Nat)(H:aF)(hs:s.size<2^40)(hi:i<s.size)(hn1:mV s i≠1)(hn2:mV s i≠2):RC 219 [sv s,iv (i:Int)] (aBb (If s i)) H:=by
 refine aS.pure ?_ (by simp[aBb]) H;have v_:mV s i=yF (aZ s i):=by rw[mV,b6 hi]
 obtain ⟨c1,c2,c3⟩:=SU s i;obtain ⟨q1,q2,T,z_,q5⟩:=YW s i;rw[<-v_]at c1 c2 c3 q1 q2 T z_;refine Bd func219 Z ntmps219<|C (kl 4 pd)<|Y U<|O U<|C V<|Y gV<|O U<|C V<|Y V<|Y (cV Z U_ Z Z X (by rfl) hi Z)<|O U<|S<|C V<|O (kc aEI (LQ (aZ s i) _))<|Cn ?_ ?_<;>intro E
 ·have h3:mV s i=3:=b9 (c1.trans E);have hst:eT s i=(some (AA s i (BX s i)),BX s i):=by rw[eT,a8 hn1,a8 hn2,b6 h3]
  refine S<|aD<|bC (σ:=Nat) (fun k=>([(0,sv s),(1,iv (i:Int)),(4,.ref 4 0 0 0),(7,iv (k:Int))],[(4,bx 3 189 [iv 0,sv a6,iv 0])])) (fun k=>i<k/\k<=s.size/\∀j,i<=j->j<k->uX s j=true) (fun k=>s.size - k) (i+1) ⟨Nat.lt_succ_self _,hi,fun j o_ f_=>?_⟩ ?_ ?_
  ·obtain rfl:j=i:=X
   rw[uX,h3];rfl
  ·exact Wk
  rintro k ⟨hik,hk,hall⟩;refine S<|S<|aR (t:=28) (n:=11) (A_:=decide ((k:Int)<(s.size:Int))&&Bp (aZ s k)) ?_ ?_
  ·all_goals refine Y V<|Y V<|Y (gR U_)<|Y cM<|Dm ?_<;>(refine Sp 23 (fun D=>?_) fun D=>?_)<;>(first|contradiction|refine M<|M<|M<|M ?_|refine J V<|J V<|J (cV Z U_ Z Z X (l8 _) (I_ D) Z)<|J (kc aEJ (XX (aZ s k) _)) ?_)<;>refine O cE ?_<;>(exact⟨⟨_,Z,G_⟩,Z,Z,Z⟩)
  refine Cn ?_ ?_<;>intro L
  ·have h:=L;rw[j0,k_]at h;have hkl:k<s.size:=X
   have hp:uX s k=true:=by rw[VE hkl];grind
   refine aA<|aD<|Rd V<|Y gV<|Da ?_;refine⟨k+1,⟨X,hkl,fun j o_ f_=>?_⟩,X,Wk⟩
   grind
  have hend:BX s i=k:=by
   refine yX (uX s) (Nat.le_of_lt hik) X hall ?_;rcases Nat.lt_or_ge k s.size with h|h
   ·left;have N:=L;rw[decide_eq_true (show (k:Int)<(s.size:Int)by omega),Bool.true_and]at N;rw[VE h,N]
   omega
  rw[hend]at hst;have hsub:IntKind.i64.wrap ((k:Int) - (i:Int))=((k - i:Nat):Int):=by rw[IntKind.wrap_i64];omega
  refine aP<|S<|C V<|Y V<|Y (dV Z Z Z hsub)<|O jK<|Cn ?_ ?_<;>intro I
  ·have h24:24<k - i:=I_ I
   have hb:=RQ hst (by show (if 24<k - i then(2:Int)else 0)≠0;omega);have A_:(AA s i k).err=2:=b6 h24;rw[A_]at hb;rw[hb];refine C (oN G3)<|Uu (iZ sizeOf189)<|Y U<|O U<|aC<|mA (H':=[]) (.inr Z) Z (CC iS sizeOf189) (aJ Z) (aJ Z) (P_ (r:=.tup [.agg [iv 0,sv a6,iv 0],iv 0,iv 2])) Qq
  have h24:¬ 24<k - i:=J_ I
  have A_:(AA s i k).err=0:=a8 h24;rw[J4 hst A_];refine aA<|C V<|Y V<|Y V<|Y (bT (l:=i) (h:=k) Z U_ Z Z Z X X Z)<|Y V<|Y (oN G3)<|Y V<|Uu (iZ sizeOf189)<|Y U<|O U<|aC<|mA (H':=[]) (.inr Z) Z (CC iS sizeOf189) (aJ Z) (aJ Z) (P_ (r:=.tup [.agg [iv 1,sv (s.extract i k),iv (i:Int)],iv ((k:Nat):Int),iv 0])) Qq
 have h3:mV s i≠3:=b_ (c1.trans E);refine aA<|S<|C V<|O (kc aED (QV (aZ s i) _))<|Cn ?_ ?_<;>intro hc4
 ·have h4:mV s i=4:=b9 (c2.trans hc4);have hst:eT s i=(some (GU s i (IC s i)),IC s i):=by rw[eT,a8 hn1,a8 hn2,a8 h3,b6 h4]
  refine S<|aD<|bC (σ:=Nat) (fun k=>([(0,sv s),(1,iv (i:Int)),(4,.ref 4 0 0 0),(7,iv (k:Int))],[(4,bx 3 189 [iv 0,sv a6,iv 0])])) (fun k=>i<k/\k<=s.size/\∀j,i<=j->j<k->N5 s j=true) (fun k=>s.size - k) (i+1) ⟨Nat.lt_succ_self _,hi,fun j o_ f_=>?_⟩ ?_ ?_
  ·obtain rfl:j=i:=X
   rw[N5,h4];rfl
  ·exact Wk
  rintro k ⟨hik,hk,hall⟩;refine S<|S<|aR (t:=54) (n:=11) (A_:=decide ((k:Int)<(s.size:Int))&&xX (aZ s k)) ?_ ?_
  ·all_goals refine Y V<|Y V<|Y (gR U_)<|Y cM<|Dm ?_<;>(refine Sp 49 (fun h49=>?_) fun h49=>?_)<;>(first|contradiction|refine M<|M<|M<|M ?_|refine J V<|J V<|J (cV Z U_ Z Z X (l8 _) (I_ h49) Z)<|J (kc aED (QV (aZ s k) _)) ?_)<;>refine O cE ?_<;>exact Gj (h:=by(rw[h49];rfl))
  refine Cn ?_ ?_<;>intro K
  ·have h:=K;rw[j0,k_]at h;have hkl:k<s.size:=X
   have hp:N5 s k=true:=by rw[cf hkl];exact h.2
   refine aA<|aD<|Rd V<|Y gV<|Da ?_;refine⟨k+1,⟨X,hkl,fun j o_ f_=>?_⟩,X,Wk⟩;rcases Nat.lt_or_ge j k with h|h
   ·exact hall j o_ h
   obtain rfl:j=k:=X
   exact hp
  have hstop:k<s.size->xX (aZ s k)=false:=fun h=>by
   have N:=K
   rwa [decide_eq_true (show (k:Int)<(s.size:Int)by omega),Bool.true_and]at N
  have hend:IC s i=k:=by
   refine yX (N5 s) (Nat.le_of_lt hik) X hall ?_;rcases Nat.lt_or_ge k s.size with h|h
   ·left;rw[cf h,hstop h]
   right;omega
  rw[hend]at hst;have hsub:IntKind.i64.wrap ((k:Int) - (i:Int))=((k - i:Nat):Int):=by rw[IntKind.wrap_i64];omega
  have hw:(decide ((k:Int)<(s.size:Int))&&Bp (aZ s k))=(decide (mV s k=3)||decide (mV s k=5)):=by
   rcases Nat.lt_or_ge k s.size with h|h
   ·obtain ⟨d1,d2,d3⟩:=SU s k;rw[mV,b6 h,d1,d3,Bp,hstop h,Bool.or_false,decide_eq_true (show (k:Int)<(s.size:Int)by omega),Bool.true_and]
   rw[mV,a8 X,decide_eq_false (show ¬ (k:Int)<(s.size:Int)by omega)];rfl
  refine aP<|S<|S<|aR (t:=72) (n:=18) (A_:=decide (7<((k - i:Nat):Int))||(decide ((k:Int)<(s.size:Int))&&Bp (aZ s k))) ?_ ?_
  ·all_goals refine Y V<|Y V<|Y (dV Z Z Z hsub)<|Y jK<|Dm ?_<;>(refine Sp 61 (fun h61=>?_) fun h61=>?_)<;>(first|contradiction|refine M<|M<|M<|M<|M ?_|refine J V<|J V<|J (gR U_)<|J cM<|J V ?_)<;>(first|refine Sp 66 (fun h66=>?_) fun h66=>?_|refine kN (t:=66) Z ?_)<;>(first|contradiction|refine M ?_|refine Fu ?_|refine J V ?_)<;>(first|refine M ?_|refine Fu ?_|refine J V ?_)<;>(first|refine M ?_|refine Fu ?_|refine J (cV Z U_ Z Z X (l8 _) (I_ h66) Z) ?_)<;>(first|refine M ?_|refine Fu ?_|refine J (kc aEJ (XX (aZ s k) _)) ?_)<;>(first|refine M ?_|refine J cE ?_)<;>refine O cE ?_<;>exact Gj (h:=by first|(rw[h61];rfl)|(rw[h61,h66];rfl))
  refine Cn ?_ ?_<;>intro F
  ·have e_:(GU s i k).err=4:=by
    have h:=F;rw[hw,<-Bool.or_assoc]at h;have R:decide (7<((k - i:Nat):Int))=decide (7<k - i):=by rw[Bool.eq_iff_iff,k_,k_];omega
    rw[R]at h;exact b6 h
   have hb:=RQ hst (by rw[e_];decide);rw[e_]at hb;rw[hb];refine C (oN G3)<|Uu (iZ sizeOf189)<|Y U<|O U<|aC<|mA (H':=[]) (.inr Z) Z (CC iS sizeOf189) (aJ Z) (aJ Z) (P_ (r:=.tup [.agg [iv 0,sv a6,iv 0],iv 0,iv 4])) Qq
  have e_:(GU s i k).err=0:=by
   have h:=F;rw[hw,<-Bool.or_assoc]at h;have R:decide (7<((k - i:Nat):Int))=decide (7<k - i):=by rw[Bool.eq_iff_iff,k_,k_];omega
   rw[R]at h;exact a8 (by rw[h];simp)
  rw[J4 hst e_];refine aA<|C V<|Y V<|Y V<|Y (bT (l:=i) (h:=k) Z U_ Z Z Z X X Z)<|Y V<|Y (oN G3)<|Y V<|Uu (iZ sizeOf189)<|Y U<|O U<|aC<|mA (H':=[]) (.inr Z) Z (CC iS sizeOf189) (aJ Z) (aJ Z) (P_ (r:=.tup [.agg [iv 2,sv (s.extract i k),iv (i:Int)],iv ((k:Nat):Int),iv 0])) Qq
 have h4:mV s i≠4:=b_ (c2.trans hc4);refine aA<|S<|C V<|O cD<|Cn ?_ ?_<;>intro G
 ·have P:mV s i=7:=b9 (z_.symm.trans G);have hst:eT s i=(some (EL s i).1,(EL s i).2):=by rw[eT,a8 hn1,a8 hn2,a8 h3,a8 h4,b6 P]
  have c_:(s.extract i s.size).data.toList.drop 1=s.data.toList.drop (i+1):=by rw[rY,List.drop_drop]
  cases Q:nV (s.data.toList.drop (i+1))with
  |none =>
   have hun:AB (s.extract i s.size)=(a6,0):=by rw[AB,c_,Q]
   have u_:EL s i=(vC i,i):=by rw[EL,hun];rfl
   rw[u_]at hst;have hb:=RQ hst (by show (3:Int)≠0;decide);rw[hb];refine C V<|Y V<|Y (kc call263 (Ow hs hi Q))<|Y V<|Y dH<|Y dH<|Y dH<|Y U<|Y U<|O U<|S<|C V<|O iW<|Cn ?_ ?_<;>intro W
   ·refine C (oN G3)<|Uu (iZ sizeOf189)<|Y U<|O U<|aC<|mA (H':=[]) (.inr Z) Z (CC iS sizeOf189) (aJ Z) (aJ Z) (P_ (r:=.tup [.agg [iv 0,sv a6,iv 0],iv 0,iv 3])) Qq
   ((cases W;done))
  | some p =>
   have hun:AB (s.extract i s.size)=(⟨p.1.toArray⟩,((p.2+1:Nat):Int)):=by rw[AB,c_,Q]
   have u_:EL s i=(⟨3,⟨p.1.toArray⟩,i,0⟩,i+(p.2+1)):=by
    rw[EL,hun,b6 (by show (0:Int)<((_:Nat):Int);omega)];rfl
   rw[u_]at hst;rw[J4 hst rfl];refine C V<|Y V<|Y (kc call263 (Ov hs hi Q))<|Y V<|Y dH<|Y dH<|Y dH<|Y U<|Y U<|O U<|S<|C V<|O iW<|Cn ?_ ?_<;>intro y_
   ·((cases y_;done))
   refine aA<|C V<|Y V<|Y (oN G3)<|Y V<|Uu (iZ sizeOf189)<|Y U<|O U<|aC<|mA (H':=[]) (.inr Z) Z (CC iS sizeOf189) (aJ Z) (aJ Z) P_ Qq
 have P:mV s i≠7:=b_ (z_.symm.trans G);refine aA<|S<|C V<|Y (bF Z Z aEB Z (Jr ⟨#[59,44,46,58,40,41,123,125,91,93,61,60,62,47,45]⟩ (aZ s i) _ E_))<|O iW<|Cn ?_ ?_<;>intro hc10
 ·have h6:mV s i≠6:=by
   have h:(!SA ⟨#[59,44,46,58,40,41,123,125,91,93,61,60,62,47,45]⟩ (aZ s i))=true:=hc10;rw[T]at h
   simpa using h
  have hst:eT s i=(some (vC i),i):=by rw[eT,a8 hn1,a8 hn2,a8 h3,a8 h4,a8 P,a8 h6]
  have hb:=RQ hst (by show (3:Int)≠0;decide);rw[hb];refine C (oN G3)<|Uu (iZ sizeOf189)<|Y U<|O U<|aC<|mA (H':=[]) (.inr Z) Z (CC iS sizeOf189) (aJ Z) (aJ Z) (P_ (r:=.tup [.agg [iv 0,sv a6,iv 0],iv 0,iv 3])) Qq
 have h6:mV s i=6:=by
  have h:(!SA ⟨#[59,44,46,58,40,41,123,125,91,93,61,60,62,47,45]⟩ (aZ s i))=false:=hc10;rw[T]at h
  simpa using h
 have hst:eT s i=(some ⟨4,s.extract i (i+1),i,0⟩,i+1):=by rw[eT,a8 hn1,a8 hn2,a8 h3,a8 h4,a8 P,b6 h6]
 rw[J4 hst rfl];refine aA<|C V<|Y V<|Y V<|Y (bT (l:=i) (h:=(i+1)) Z U_ Z Z Z X X Z)<|Y V<|Y (oN G3)<|Y V<|Uu (iZ sizeOf189)<|Y U<|O U<|aC<|mA (H':=[]) (.inr Z) Z (CC iS sizeOf189) (aJ Z) (aJ Z) (P_ (r:=.tup [.agg [iv 4,sv (s.extract i (i+1)),iv (i:Int)],iv ((i+1:Nat):Int),iv 0])) Qq
theorem Dr{s}{i j}{f}(h:eT s i=(some f,j)):f.pos=i:=by
 rw[eT]at h
 split at h
 ·cases h
 split at h
 ·cases h
 split at h
 ·cases h;rfl
 split at h
 ·cases h;rfl
 split at h
 ·cases h;rw[EL]
  split<;>rfl
 split at h<;>(cases h;rfl)
theorem Oy{s}{i}(b:mV s i≠1)(a:mV s i≠2):∃f j,eT s i=(some f,j):=by
 rw[eT,a8 b,a8 a]
 split
 ·simp_all
 split
 ·simp_all
 split
 ·simp_all
 split<;>exact⟨_,_,Z⟩
theorem td(s:B_)(H:aF)(D:s.size<2^40):RC 164 [sv s] (.tup [.pv (CA (fD s).1),iv (fD s).2.1,iv (fD s).2.2]) H:=by
 refine Pu<|Bd func164 Z ntmps164<|C U<|Y U<|O U<|S<|C V<|Y (gR U_)<|O jK<|Cn ?_ ?_<;>intro p
 ·have e:fD s=([],2,-1):=by rw[fD,b6 (I_ p)]
  rw[e];refine C U<|Y U<|O U<|aC<|mA (H':=[]) (.inr Z) Z (aJ Z) (aJ Z) (aJ Z) (Fin.wk H_ T_ T_) Qq
 have v:¬ 20000<s.size:=by have:=b_ p;omega
 have o_:fD s=kI [] (F6 s 0):=by rw[fD,a8 v];rfl
 obtain ⟨g,t⟩:∃g,g=fD s:=X_;rw[<-t]at o_ |-;refine aA<|Sz (by exact eP (id:=905) (sz:=3) (ty:=189) Z Z Z)<|Sr<|Dm<|ou Z Z (bF Z Z call218 Z (ug s 0 _ D (l6 _))) ?_;rintro r H' ⟨N,rfl,hj1,d_,hj3,B,rfl⟩;refine O U<|S<|aD<|fS (fun(j:Nat) (L:List a_)=>([(0,sv s),(5,.osl 905 L.length 0 L.length),(6,iv (j:Int))],[(905,⟨L.length,3,189,lN L⟩)])) (fun j L=>j<=s.size/\L.length<=5000/\g=kI L (F6 s j)/\(j<s.size->mV s j≠1/\mV s j≠2)) (fun j L=>s.size - j) N [] ⟨d_,l6 _,F_,B⟩ ?_ ?_
 ·exact(cJ.wk (Eb<|Ea<|Eb<|T_) (Hc (cS _ _)<|T_) T_)
 rintro j L ⟨hj,hL,b,E⟩;refine S<|C V<|Y V<|Y (gR U_)<|O cM<|Cn ?_ ?_<;>intro o
 ·have d:j<s.size:=by have:=b9 o;omega
  obtain ⟨G,F⟩:=E d;obtain ⟨f,e,c⟩:=Oy G F;have l:=Ii s j [(905,⟨L.length,3,189,lN L⟩)] D d G F;have m:=Dr c;by_cases k:f.err=0
  ·rw[J4 c k]at l;have w:=OK c k d;have x:=vv d c k;rw[x]at b;refine aA<|aD<|C V<|Y V<|Y (kc call219 (l))<|Y V<|Y dH<|Y dH<|Y dH<|Y (kl 7 pd)<|Uu (iZ sizeOf189)<|Y U<|O U<|S<|C V<|O zX<|Cn ?_ ?_<;>intro A
   ·((cases A;done))
   refine aA<|S<|C V<|Y (by exact dQ Z cP Z Z Z)<|O cD<|Cn ?_ ?_<;>intro n
   ·have z:L.length=5000:=by have:=b9 n;omega
    have i:g=([],2,(j:Int)):=by rw[b,kI,a8 (fun h=>h k),b6 z,m]
    rw[i];refine C V<|Y U<|Y U<|O U<|aC<|mA (H':=[]) (.inr Z) Z (aJ Z) (aJ Z) (aJ Z) (Fin.wk H_ T_ T_) Qq
   have z:¬ L.length=5000:=by have:=b_ n;omega
   rw[kI,a8 (fun h=>h k),a8 z]at b;refine aA<|C V<|Y (by exact aV Z iS sizeOf189 Z Z Z Z (by simp only[Zl,K_];rfl) Z)<|Y (by exact aK [K_ f] Z hU Z Z Z Z Z R_)<|Y (by exact cA (ps:=[K_ f]) Z hU um Z Z Z Z Z (xH _) Z R_ (m:=1) Z X Z (B3 L f))<|O U<|Rd V<|Dm ?_;refine ou Z Z (bF Z Z call218 Z (ug s e _ D w.2)) ?_;rintro r H' ⟨e_,rfl,g1,Q,c_,K,rfl⟩;refine Da ?_;refine⟨e_,L++[f],⟨Q,G_,by rw[b,c_],K⟩,X,?_⟩;dsimp only;rw[j9,List.length_singleton];exact(cJ.wk (Eb<|Ea<|Eb<|T_) (Hc (cS _ _)<|T_) T_)
  have P:(!decide (f.err=0))=true:=by rw[decide_eq_false k];rfl
  rw[RQ c k]at l;have i:g=([],f.err,(j:Int)):=by rw[b,Dh d c k,kI,b6 k,m]
  rw[i];refine aA<|aD<|C V<|Y V<|Y (kc call219 (l))<|Y V<|Y dH<|Y dH<|Y dH<|Y (kl 7 pd)<|Uu (iZ sizeOf189)<|Y U<|O U<|S<|C V<|O (by exact cL.valY (by exact JW Z Z Z) (P))<|Cn ?_ ?_<;>intro y
  ·refine C V<|Y V<|Y U<|Y U<|O U<|aC<|mA (H':=[]) (.inr Z) Z (aJ Z) (aJ Z) (aJ Z) (Fin.wk H_ T_ T_) Qq
  ((cases y;done))
 have u:¬ j<s.size:=by have:=b_ o;omega
 rw[Di u,kI]at b;rw[b];refine aP<|S ?_;refine fZ.ent (cJ.fz (id:=905) (E':=[(5,.pv (CA L))]) (H':=[]) (L.map K_) Z (by rw[List.map_map];rfl)
  (by intro q I;rw[q9]at I;subst I;exact⟨_,Z,.osl (by rw[r7,List.drop_zero,List.take_of_length_le (by rw[g_];exact j6 _)])⟩) Z T_ T_) ?_
 refine Rd V<|Y U<|Y U<|O U<|aC<|mA (H':=[]) (.inr Z) Z (aJ Z) (aJ Z) (aJ Z) Fin.refl Qq
def wW(s:B_)(i:Nat):B_:=(cN s).getD i a6
def mQ(s:B_):B_:=s.extract ((wW s 0).size+(wW s 1).size+(wW s 2).size+3) s.size
def HH(s:B_):Bool:=(decide ((fD (mQ s)).2.1=0)&&decide ((fD (mQ s)).1.length=1))&&decide (((fD (mQ s)).1.getD 0 J7).kind=3)
def rr(rP:B_->j_)(s:B_):b8 :=if wW s 0=b7 wPut/\4<s.size then⟨1,a6,a6,a6,0,0,a6,a6,[],rP (s.extract 4 s.size)⟩
 else if wW s 0=b7 IT/\(cN s).length=4 then⟨2,wW s 1,a6,a6,JJ (wW s 2),JJ (wW s 3),a6,a6,[],h_⟩
 else if(wW s 0=b7 AU/\4<=(cN s).length)/\HH s=true then⟨3,wW s 1,a6,a6,0,0,wW s 2,((fD (mQ s)).1.getD 0 J7).text,[],h_⟩
 else if wW s 0=b7 IS/\2<=(cN s).length then⟨4,wW s 1,a6,a6,0,0,a6,a6,(cN s).drop 2,h_⟩
 else if wW s 0=b7 IW/\(cN s).length=2 then⟨5,wW s 1,a6,a6,0,0,a6,a6,[],h_⟩
 else if wW s 0=b7 BZ/\(cN s).length=4 then⟨6,wW s 1,wW s 3,wW s 2,0,0,a6,a6,[],h_⟩
 else if wW s 0=b7 IU/\(cN s).length=3 then⟨7,wW s 1,wW s 2,a6,0,0,a6,a6,[],h_⟩
 else NV
theorem Xb{s}{i}(h:i<(cN s).length):((cN s).map S_)[i]?=some (S_ (wW s i)):=by rw[r6,wW,List.getD_eq_getElem?_getD,m8 h];rfl
theorem FD(s)(i):(wW s i).size<=s.size:=by
 rw[wW,List.getD_eq_getElem?_getD];cases e:(cN s)[i]? with
 |none=>exact l6 _
 |some w =>
  have b:=m7 e;obtain ⟨x,c,rfl⟩:=List.mem_map.1 b;have:=qX _ c;rw[aT]at this;show (b7 x).size<=_;rw[cB];omega
theorem HC(c):∀l,((dN c l).map List.length).sum+(dN c l).length=l.length+1
 | []=>rfl
 | b::l=>by
  have ih:=HC c l;have a:=qZ c l;rw[dN]
  split
  ·rw[List.map_cons,List.sum_cons,j7,j7];show 0+_+_=_;omega
  cases e:dN c l with
  |nil=>rw[e]at a;exact absurd a (Nat.lt_irrefl 0)
  |cons x r =>
   grind
theorem aAR{s}(h:4<=(cN s).length):(wW s 0).size+(wW s 1).size+(wW s 2).size+3<=s.size:=by
 have j:=HC 32 s.data.toList;have g:∀i,wW s i=b7 ((dN _ _).getD i _):=fun i=>by
  rw[wW,cN,List.getD_eq_getElem?_getD,List.getD_eq_getElem?_getD,r6];cases (dN _ _)[i]?<;>rfl
 rw[g,g,g];rw[cN,g_]at h
 match e:dN _ _ with
 | []=>rw[e]at h;exact absurd h H_
 | [_]=>rw[e]at h;simp only[j7,List.length_nil]at h;omega
 | [_,_]=>rw[e]at h;simp only[j7,List.length_nil]at h;omega
 | [_,_,_]=>rw[e]at h;simp only[j7,List.length_nil]at h;omega
 |a::b::c::d::r =>
  rw[e]at j;simp[List.map_cons,List.sum_cons,j7]at j;show a.length+b.length+c.length+3<=_;omega
variable{rP:B_->j_}
def tK(T:List a_):Int:=DJ (T.getD 0 J7).text
def zU(T:List a_):List B_:=((T.drop 3).takeWhile fun f=>decide (f.kind=1)).map a_.text
def QU(T:List a_):Bool:=decide ((T.getD 2 J7).kind=2)&&decide ((T.getD 3 J7).kind=2)
def ZM(s:B_):Int:=JI s (min s.size 7)
def sQ(T:List a_):List l_×Bool:=if tK T=1 then K3 [] (T.drop 4)else K3 [] (T.drop (3+(zU T).length+1))
def tY(T:List a_):j_:=if tK T=1 then⟨(T.getD 1 J7).text,1,ZM (T.getD 2 J7).text,ZM (T.getD 3 J7).text,[],(sQ T).1⟩else⟨(T.getD 1 J7).text,tK T,0,0,zU T,(sQ T).1⟩
def Qj(s:B_):j_×Int:=if 20000<s.size then(h_,2)else if(fD s).2.1=0/\4<=(fD s).1.length then
 (if tK (fD s).1=1/\QU (fD s).1=false then(h_,5)else if(sQ (fD s).1).2=true/\fA (tY (fD s).1)=(s,0)then(tY (fD s).1,0)else(h_,5))else(h_,5)
theorem ba{s}(hd:∀b∈s.data.toList,48<=b.toNat/\b.toNat<=57):∀k,k<=s.size->∃n,Lib.decFrom 0 (s.data.toList.take k)=some n/\XY s k=n/\JI s k=n
 |0,_=>⟨0,Z,Z,Z⟩
 |k+1,h=>by
  obtain ⟨n,i,g,f⟩:=ba hd k X;obtain ⟨b,d⟩:∃b,s.data.toList[k]?=some b:=aU (by rw[aT];omega);have j:=hd b (m7 d);have e:Lib.digitVal b=some (b.toNat - 48):=by rw[Lib.digitVal,b6 j]
  have c:aZ s k=(b.toNat):=by rw[aZ,d];rfl
  refine⟨n*10+(b.toNat - 48),Lib.decFrom_take _ k 0 n b _ i d e,?_,?_⟩
  ·rw[XY,g];omega
  rw[JI,f,c];show 10*n+((b.toNat:Int) - 48) % 256=_;omega
theorem mq{x}(b:0<=x):(aQ x).data.toList=Lib.decDigits x.toNat:=by show (Lib.itoa x).toArray.toList=_;rw[jX _ b]
theorem FO{x:Int}(p:0<=x)(h1:x<10000000):JJ (aQ x)=x/\ZM (aQ x)=x:=by
 have h:=mq p;have i:∀b∈(aQ x).data.toList,48<=b.toNat/\b.toNat<=57:=fun b e=>by rw[h]at e;exact rF _ e
 have d:(aQ x).size=(Lib.decDigits x.toNat).length:=by rw[<-aT,h]
 have hpos:0<(aQ x).size:=by rw[d];exact List.length_pos_iff.2 (pQ _)
 have l:(aQ x).size<=7:=by rw[d];exact cU X E_
 obtain ⟨n,k,m,o⟩:=ba i (aQ x).size (j6 _);rw[List.take_of_length_le F_,h,mU]at k;cases k;have g:(List.range (aQ x).size).all (Br (aQ x))=true:=by
  rw[List.all_eq_true];intro j hj;obtain ⟨b,e⟩:∃b,(aQ x).data.toList[j]?=some b:=aU F_;have hm:=i b (m7 e);have f:aZ (aQ x) j=(b.toNat:Int):=by rw[aZ,e];rfl
  rw[Br,f,decide_eq_false X,decide_eq_false X];rfl
 constructor
 ·rw[JJ,g,decide_eq_true l,Bool.and_true,b6 Z,m];omega
 rw[ZM,Nat.min_eq_left l,o];omega
theorem NA{s:B_}:∀(l:List l_) (i:Nat),(∀t,t∈l->cF t.key=true)->s.data.toList.drop i=nH l->∃T,E9 s i (nH l) T/\TF T l/\∀acc,K3 acc T=(acc++l,true)
 | [],i,_,h=>⟨[],all_nil h,⟨Z,(fun f w=>by cases w),Z⟩,fun acc=>by rw[K3,List.append_nil]⟩
 | t::l,i,d,h=>by
  have u:nH (t::l)=32::(t.key.data.toList++61::(cW t.val.data.toList++nH l)):=by
   rw[nH,List.flatMap_cons,R0];simp[nH]
  rw[u]at h |-;have g:=(pV h).2.2;have b:=fE g;have a:=(pV b).2.2;have o:=fE a;obtain ⟨T,r,q,p⟩:=NA l _ (fun t n=>d t (List.mem_cons_of_mem _ n)) o;have j:0<(cW t.val.data.toList).length:=by rw[cW,j7];omega
  have v:=DB (I7 a) Z (rC a j) j r;have m:=F4 b E_ v;have k:=mW g (d t List.mem_cons_self) (fun c r' e=>by cases e;exact⟨E_,E_,E_⟩) m;refine⟨_,uH h k,TF.cons q Z Z Z,fun acc=>?_⟩;rw[K3,p,List.append_assoc];rfl
theorem vw{α:Type}{p}{A B}{c:α}(h:∀a∈A,p a=true)(hc:p c=false):(A++c::B).takeWhile p=A:=F_
theorem xi{o:j_}(A:oF o=true):∃T,E9 (DQ o) 0 (sC o) T/\(∀f,f∈T->f.err=0)/\T.length<=5000/\4<=T.length/\¬ (tK T=1/\QU T=false)/\(sQ T).2=true/\tY T=o:=by
 obtain ⟨hr,ht,e_,D,_⟩:=BM A;obtain ⟨q,v_,hn,hz⟩:=fu A;obtain ⟨A_,E⟩:=AS (FY A);have r:∀t,t∈o.tags->cF t.key=true:=fun t h=>((xE.1 e_).1 t h).1;have y:=VM o;by_cases n:o.kind=1
 ·have e:sC o=(eD o.kind).data.toList++32::(o.id.data.toList++32::(Lib.itoa o.x++32::(Lib.itoa o.y++nH o.tags))):=by
   rw[sC,lY,b6 n];simp
  rw[e]at y |-;have u:=fE y;rw[aT]at u;have z:=(pV u).2.2;have s:=fE z;rw[aT]at s;have B:=(pV s).2.2;have F:=fE B;have w:=(pV F).2.2;have c_:=fE w;obtain ⟨T,Q,⟨r1,N,r3⟩,I⟩:=NA o.tags _ r c_;have b:=mW y A_ (lV _) (uH u (mW z D (lV _) (uH s (PG B q.1 X (lV _) (uH F (PG w v_.1 X (P2 _) Q))))));have g:∀(a b c d:a_) (R:List a_),tK (⟨1,eD o.kind,0,0⟩::b::c::d::R)=1:=fun a b c d R=>by
   show DJ (eD o.kind)=1;rw[E,n]
  refine⟨_,b,fun f m=>?_,?_,?_,?_,?_,?_⟩
  ·simp only[l7]at m;rcases m with rfl|rfl|rfl|rfl|m
   ·rfl
   ·rfl
   ·rfl
   ·rfl
   exact N f m
  ·simp only[j7];omega
  ·simp only[j7];omega
  ·rintro⟨-,h⟩;simp[QU]at h
  ·rw[sQ,b6 (g J7 _ _ _ _)];show (K3 [] T).2=true;rw[I]
  rw[tY,b6 (g J7 _ _ _ _),sQ,b6 (g J7 _ _ _ _)];show (⟨o.id,1,ZM (aQ o.x),ZM (aQ o.y),[],(K3 [] T).1⟩:j_)=o;rw[I,(FO q.1 X).2,(FO v_.1 X).2];exact O1 Z n Z Z (hn n) Z
 obtain ⟨k,l,p⟩:=U0 A n;have v:=tW A;rw[p]at v;have e:sC o=(eD o.kind).data.toList++32::(o.id.data.toList++32::(40::(k.data.toList++(l.flatMap (fun k=>32::k.data.toList)++41::nH o.tags)))):=by
  rw[sC,lY,a8 n,p,xW];simp
 rw[e]at y |-;have u:=fE y;rw[aT]at u;have z:=(pV u).2.2;have s:=fE z;rw[aT]at s;have B:=(pV s).2.2;have F:=(pV B).2.2;have w:=fE F;rw[aT]at w;have c_:=fE w;have h8:=(pV c_).2.2;obtain ⟨T,Q,⟨r1,N,r3⟩,I⟩:=NA o.tags _ r h8;have o_:=F4 c_ E_ Q;obtain ⟨R,hR,u_,W⟩:=S6 l _ _ _ (fun x q=>v x (List.mem_cons_of_mem _ q)) w (I6 _) o_;have K:GI (l.flatMap (fun k=>32::k.data.toList)++41::nH o.tags):=by
  cases l with
  |nil=>exact I6 _
  |cons a l=>rw[List.flatMap_cons];exact lV _
 have b:=mW y A_ (lV _) (uH u (mW z D (lV _) (uH s (F4 B E_ (mW F (v k List.mem_cons_self) K hR)))));have hRl:R.length=l.length:=by rw[<-u_,g_]
 have hrl:o.refs.length=l.length+1:=by rw[p,j7]
 have g:∀(b c d:a_) (z_:List a_),tK (⟨1,eD o.kind,0,0⟩::b::c::d::z_)=o.kind:=fun b c d z_=>by
  show DJ (eD o.kind)=_;exact E
 have H:∀(a b c d:a_) (j:Nat),d.kind=1->zU (a::b::c::d::(R++⟨4,⟨#[41]⟩,j,0⟩::T))=d.text::R.map a_.text:=fun a b c d j f_=>by
  show (((d::R)++⟨4,⟨#[41]⟩,j,0⟩::T).takeWhile _).map a_.text=_;rw[vw (fun x q=>?_) (by rfl)]
  ·rfl
  rcases l7.1 q with rfl|q
  ·exact decide_eq_true f_
  exact decide_eq_true (W x q).1
 have G:∀(b c d:a_) (j:Nat),d.kind=1->sQ (⟨1,eD o.kind,0,0⟩::b::c::d::(R++⟨4,⟨#[41]⟩,j,0⟩::T))=(o.tags,true):=fun b c d j f_=>by
  rw[sQ,a8 (by rw[g];exact n),H _ _ _ _ _ f_];have L:∀a b c:a_,(a::b::c::d::(R++⟨4,⟨#[41]⟩,j,0⟩::T)).drop (3+(d.text::R.map a_.text).length+1)=T:=fun a b c=>by
   rw[show 3+(d.text::R.map a_.text).length+1=(a::b::c::d::(R++[⟨4,⟨#[41]⟩,j,0⟩])).length by simp;omega,show a::b::c::d::(R++⟨4,⟨#[41]⟩,j,0⟩::T)=(a::b::c::d::(R++[⟨4,⟨#[41]⟩,j,0⟩]))++T by simp];exact List.drop_left
  rw[L,I];rfl
 refine⟨_,b,fun f m=>?_,?_,?_,?_,?_,?_⟩
 ·simp only[l7,List.mem_append]at m;rcases m with rfl|rfl|rfl|rfl|m|rfl|m
  ·rfl
  ·rfl
  ·rfl
  ·rfl
  ·exact(W f m).2
  ·rfl
  exact N f m
 ·simp only[j7,j9];omega
 ·simp only[j7,j9];omega
 ·rintro⟨h,-⟩;rw[g]at h;exact n h
 ·rw[G _ _ _ _ rfl]
 obtain ⟨y_,z2⟩:=hz n;rw[tY,a8 (by rw[g];exact n),G _ _ _ _ Z,H _ _ _ _ _ Z,g];refine O1 Z Z y_ z2 ?_ Z;rw[p,u_]
theorem bg{o}(h:(fA o).2=0):Qj (fA o).1=(o,0):=by
 obtain ⟨c,d,hs⟩:=O2 h;obtain ⟨T,b,a,h2,h3,h4,h5,h6⟩:=xi c;have hlex:fD (DQ o)=(T,0,0):=by
  rw[fD,a8 (by omega),b _ (by exact Nat.le_succ _),ML T _ a (by simp_all),List.nil_append]
 rw[d];show Qj (DQ o)=(o,0);rw[Qj,a8 X]
 simp_all
theorem Rx{a b}(h:b7 a=b7 b):a=b:=by have:=congrArg (fun x=>x.data.toList) h;exact this
theorem qY(l):cN (b7 l)=(dN 32 l).map b7:=rfl
theorem G6(l)(i):wW (b7 l) i=b7 ((dN 32 l).getD i []):=by rw[wW,qY,List.getD_eq_getElem?_getD,List.getD_eq_getElem?_getD,r6];cases (dN _ l)[i]?<;>rfl
theorem mi{v}(hv:v.size<=200):fD (b7 (cW v.data.toList))=([⟨3,v,0,0⟩],0,0):=by
 have b:(b7 (cW v.data.toList)).data.toList.drop 0=cW v.data.toList++[]:=by rw[List.append_nil];rfl
 have hl:(cW v.data.toList).length<=402:=by
  have:=SN v.data.toList;rw[aT]at this;rw[cW,j7,j9,List.length_singleton];omega
 have c:0<(cW v.data.toList).length:=by rw[cW,j7];omega
 have d:=DB (I7 b) Z (rC b c) c (all_nil (fE b));rw[fD,a8 (by rw[cB];omega),d _ (by rw[cB,List.append_nil];omega)];rfl
theorem KN{l}{k}:(b7 l).extract k (b7 l).size=b7 (l.drop k):=oI (by rw[rY,cO,cO])
theorem QL(c_:∀o,(fA o).2=0->rP (fA o).1=o){e:b8}(K:fU e=true)(A:fM e=0):rr rP (b7 (fJ e))=e:=by
 obtain ⟨⟨o1,o7⟩,c,j⟩:=uB.1 K;rw[fM]at A;have d:∀ {a b:List UInt8},a≠b->∀ {p:Prop},¬ (b7 a=b7 b/\p):=fun h p e_=>h (Rx e_.1);by_cases m:e.op=1
 ·rw[b6 m]at A;obtain ⟨hg,N,_⟩:=O2 A;have H:=c_ _ A;rw[FB,b6 m,m]at j;rw[fJ,b6 m];have hpos:0<(fA e.obj).1.data.toList.length:=by
   rw[N];show 0<(sC e.obj).length;rw[sC,lY,j9,j9,j7];omega
  have I:wW (b7 (wPut++32::(fA e.obj).1.data.toList)) 0=b7 wPut:=by
   rfl
  rw[rr,I,b6 ⟨Z,by rw[cB,j9,j7];show 4<3+_;omega⟩,KN];show (⟨1,a6,a6,a6,0,0,a6,a6,[],rP (b7 (fA e.obj).1.data.toList)⟩:b8)=e;rw[gJ,H];exact j
 rw[wL,a8 m,j0]at c;obtain ⟨d_,c⟩:=c;have y:=mL d_;rw[fJ,a8 m];by_cases f:e.op=2
 ·rw[b6 f]at c;have r:(0<=e.x/\e.x<1048576)/\0<=e.y/\e.y<1048576:=by
   rw[ln]at c
   grind
  rw[FB,a8 m,b6 f,f]at j;rw[gH,b6 f];have n1:=F0 r.1.1;have n2:=F0 r.2.1;have i:dN 32 (bQ [32] [IT,e.id.data.toList,Lib.itoa e.x,Lib.itoa e.y])=[IT,e.id.data.toList,Lib.itoa e.x,Lib.itoa e.y]:=kU E_ F_;simp only[rr,G6,qY,i,List.getD_cons_zero,List.getD_cons_succ];rw[a8 (d E_),b6 ⟨T_,Z⟩,gJ];show (⟨2,e.id,a6,a6,JJ (aQ e.x),JJ (aQ e.y),a6,a6,[],h_⟩:b8)=e;rw[(FO r.1.1 X).1,(FO r.2.1 X).1];exact j
 by_cases g:e.op=3
 ·rw[a8 f,b6 g,j0,k_]at c;have B:=mL c.1;rw[FB,a8 m,a8 f,b6 g,g]at j;rw[gH,a8 f,b6 g];have F:bQ [32] [AU,e.id.data.toList,e.key.data.toList,cW e.val.data.toList]=AU++32::(e.id.data.toList++32::(e.key.data.toList++32::cW e.val.data.toList)):=by simp[bQ]
  have hsp:=qZ 32 (cW e.val.data.toList);have i:dN 32 (bQ [32] [AU,e.id.data.toList,e.key.data.toList,cW e.val.data.toList])=AU::e.id.data.toList::e.key.data.toList::dN 32 (cW e.val.data.toList):=by
   rw[F,jR E_,jR y.1,jR B.1]
  have n:mQ (b7 (bQ [32] [AU,e.id.data.toList,e.key.data.toList,cW e.val.data.toList]))=b7 (cW e.val.data.toList):=by
   rw[mQ,KN];simp only[G6,i,List.getD_cons_zero,List.getD_cons_succ,cB];rw[F];congr 1;have:AU++32::(e.id.data.toList++32::(e.key.data.toList++32::cW e.val.data.toList))=(AU++32::(e.id.data.toList++32::(e.key.data.toList++[32])))++cW e.val.data.toList:=H_
   rw[this,show AU.length+e.id.data.toList.length+e.key.data.toList.length+3=(AU++32::(e.id.data.toList++32::(e.key.data.toList++[32]))).length by grind];exact List.drop_left
  have z:=mi (v:=e.val) X;have D:HH (b7 (bQ [32] [AU,e.id.data.toList,e.key.data.toList,cW e.val.data.toList]))=true:=by
   rw[HH,n,z];rfl
  simp only[rr,G6,qY,i,List.getD_cons_zero,List.getD_cons_succ,n,D,z];rw[a8 (d E_),a8 (d E_),b6 ⟨⟨T_,G_⟩,T_⟩,gJ,gJ];exact j
 by_cases l:e.op=4
 ·rw[a8 f,a8 g,b6 l,j0,j0,List.all_eq_true]at c;have L:=c.2;rw[FB,a8 m,a8 f,a8 g,b6 l,l]at j;rw[gH,a8 f,a8 g,b6 l];have i:dN 32 (bQ [32] (IS::e.id.data.toList::bs e.refs))=IS::e.id.data.toList::bs e.refs:=kU E_ (by
   intro w k;rcases l7.1 k with rfl|k
   ·exact y.1
   obtain ⟨s,i,rfl⟩:=List.mem_map.1 k;exact(mL (L s i)).1)
  simp only[rr,G6,qY,i,List.getD_cons_zero,List.getD_cons_succ];rw[a8 (d E_),a8 (d E_),a8 (fun h=>d E_ h.1),b6 ⟨T_,by simp only[g_,j7];omega⟩,gJ];show (⟨4,e.id,a6,a6,0,0,a6,a6,(bs e.refs).map b7,h_⟩:b8)=e;rw[Ky];exact j
 by_cases q:e.op=5
 ·rw[FB,a8 m,a8 f,a8 g,a8 l,b6 q,q]at j;rw[gH,a8 f,a8 g,a8 l,b6 q];have i:dN 32 (bQ [32] [IW,e.id.data.toList])=[IW,e.id.data.toList]:=kU E_ (by intro w k;rw[q9]at k;subst k;exact y.1);simp only[rr,G6,qY,i,List.getD_cons_zero,List.getD_cons_succ];rw[a8 (d E_),a8 (d E_),a8 (fun h=>d E_ h.1),a8 (d E_),b6 ⟨T_,Z⟩,gJ];exact j
 by_cases x:e.op=6
 ·rw[a8 f,a8 g,a8 l,a8 q,b6 x,j0]at c;have B:=mL c.1;have E:=mL c.2;rw[FB,a8 m,a8 f,a8 g,a8 l,a8 q,b6 x,x]at j;rw[gH,a8 f,a8 g,a8 l,a8 q,b6 x];have i:dN 32 (bQ [32] [BZ,e.id.data.toList,e.node.data.toList,e.other.data.toList])=[BZ,e.id.data.toList,e.node.data.toList,e.other.data.toList]:=kU E_ (by intro w k;simp only[l7,n_,or_false]at k;rcases k with rfl|rfl|rfl;all_goals first|exact y.1|exact B.1|exact E.1);simp only[rr,G6,qY,i,List.getD_cons_zero,List.getD_cons_succ];rw[a8 (d E_),a8 (d E_),a8 (fun h=>d E_ h.1),a8 (d E_),a8 (d E_),b6 ⟨T_,Z⟩,gJ,gJ,gJ];exact j
 have G:e.op=7:=X
 rw[a8 f,a8 g,a8 l,a8 q,a8 x]at c;have E:=mL c;rw[FB,a8 m,a8 f,a8 g,a8 l,a8 q,a8 x,G]at j;rw[gH,a8 f,a8 g,a8 l,a8 q,a8 x];have i:dN 32 (bQ [32] [IU,e.id.data.toList,e.other.data.toList])=[IU,e.id.data.toList,e.other.data.toList]:=kU E_ (by intro w k;simp only[l7,n_,or_false]at k;rcases k with rfl|rfl;all_goals first|exact y.1|exact E.1);simp only[rr,G6,qY,i,List.getD_cons_zero,List.getD_cons_succ];rw[a8 (d E_),a8 (d E_),a8 (fun h=>d E_ h.1),a8 (d E_),a8 (d E_),a8 (d E_),b6 ⟨T_,Z⟩,gJ,gJ];exact j
theorem bc{rE:B_->b8}{s:B_}{A w:List UInt8}{r:List UInt8}{acc:List b8}(i:s.data.toList=A++(w++r))(f:(10:UInt8)∉w)(h:DU rE s A.length=(A.length,acc)):∀j,j<=w.length->DU rE s (A.length+j)=(A.length,acc)
 |0,_=>h
 |j+1,hj=>by
  have g:=bc i f h j X;have k:s.data.toList[A.length+j]?=w[j]?:=G_
  obtain ⟨b,c⟩:∃b,w[j]?=some b:=aU X;have d:b≠10:=fun e=>f G_;have a:aZ s (A.length+j)=(b.toNat:Int):=by rw[aZ,k,c];rfl
  rw[show A.length+(j+1)=(A.length+j)+1 by omega,DU,a,a8 ?_,g];rw[k_];intro e;exact d (UInt8.toNat_inj.1 (by show b.toNat=10;omega))
theorem Ga{rE}{s}{A w}{r}{acc}(b:s.data.toList=A++(w++10::r))(c:10∉w)(h:DU rE s A.length=(A.length,acc)):DU rE s (A.length+w.length+1)=(A.length+w.length+1,acc++[rE (b7 w)]):=by
 have e:=bc b c h _ (j6 _);have f:s.data.toList[A.length+w.length]?=some 10:=F_
 have a:aZ s (A.length+w.length)=10:=by rw[aZ,f];rfl
 have d:s.extract _ _=b7 w:=zK (by rw[b,List.drop_left]);rw[DU,a,e,b6 (show decide _=true by decide),d]
theorem U3{rE}{s:B_}:∀(l) (A) (acc),s.data.toList=A++l.flatMap (fun e=>fJ e++[10])->(∀e∈l,(10:UInt8)∉fJ e/\rE (b7 (fJ e))=e)->DU rE s A.length=(A.length,acc)->DU rE s s.size=(s.size,acc++l)
 | [],A,acc,b,_,h=>by
  rw[List.flatMap_nil,List.append_nil]at b;rw[<-aT,b,h,List.append_nil]
 | e::l,A,acc,b,c,h=>by
  rw[List.flatMap_cons,List.append_assoc]at b;obtain ⟨d,h2⟩:=c e List.mem_cons_self;have hn:=Ga b d h;have hAl:(A++(fJ e++[10])).length=A.length+(fJ e).length+1:=by
   grind
  have:=U3 (rE:=rE) (s:=s) l (A++(fJ e++[10])) (acc++[e]) F_ (fun x f=>c x (List.mem_cons_of_mem _ f)) F_;rw[this,List.append_assoc];rfl
theorem Jv{rE}(k:∀e,fU e=true->fM e=0->rE (b7 (fJ e))=e)(t):gPr rE t=iD t:=by
 have key:∀l,dX l=(t,0)->(DU rE t t.size).2=l:=fun l h=>by
  have a:(dX l).2=0:=by rw[h]
  have g:lH l=true:=by
   rw[dX]at a
   grind
  obtain ⟨hne,d⟩:=HZ g;rw[dX,b6 g]at h a;obtain ⟨f,i,h3⟩:=PS a;rw[List.nil_append]at i;rw[i]at h;have j:t=b7 _:=(congrArg Prod.fst h).symm;have:=U3 (s:=t) l [] [] (by rw[j];rfl) (fun e b=>⟨(LN (d e b) (f e b)).2,k e (d e b) (f e b)⟩) Z;rw[this];rfl
 rw[gPr];by_cases c:20000<t.size
 ·rw[b6 c,iD,b6 c]
 rw[a8 c];by_cases h:dX (DU rE t t.size).2=(t,0)
 ·rw[b6 h];have a:(dX (DU rE t t.size).2).2=0:=by rw[h]
  have:=D5 a;rw[h]at this;exact this.symm
 rw[iD,a8 c]
 grind
theorem ju(n):∀(T) (acc),(∀f∈T,f.text.size<=n)->(∀t∈acc,t.key.size<=n/\t.val.size<=n)->(K3 acc T).1.length<=acc.length+T.length/\∀t∈(K3 acc T).1,t.key.size<=n/\t.val.size<=n
 | [],acc,_,h=>by
  rw[K3]
  simp_all
 | [a],acc,_,h=>by
  rw[K3]
  simp_all
 | [a,b],acc,_,h=>by
  rw[K3]
  simp_all
 | a::b::c::r,acc,e,h=>by
  rw[K3]
  split
  ·have d:=ju n r (acc++[Zr a c]) (fun f hf=>e f G_) (fun t ht=>by
    grind)
   rw[j9,List.length_singleton]at d;simp[j7];exact⟨X,d.2⟩
  simp_all
theorem Dj{T:List _}{n}(h:∀f∈T,f.text.size<=n)(i):(T.getD i J7).text.size<=n:=by
 rw[List.getD_eq_getElem?_getD];cases e:T[i]? with
 |none=>exact l6 _
 |some f=>grind
theorem oV:gu h_:=⟨E_,⟨E_,fun t h=>by cases h⟩,E_,fun s a=>by cases a⟩
theorem rm{T:List a_}{n:Nat}(hn:n<2^40)(d:∀f∈T,f.text.size<=n)(hl:T.length<549755813888):gu (tY T):=by
 have b:MB (sQ T).1:=by
  rw[sQ]
  split
  ·have h:=ju n (T.drop 4) [] (fun f c=>d f (List.mem_of_mem_drop c)) (fun t a=>by cases a);rw[p_,List.length_nil]at h;exact⟨X,fun t a=>⟨by have:=(h.2 t a).1;omega,by have:=(h.2 t a).2;omega⟩⟩
  have h:=ju n (T.drop (3+(zU T).length+1)) [] (fun f c=>d f (List.mem_of_mem_drop c)) (fun t a=>by cases a);rw[p_,List.length_nil]at h;exact⟨X,fun t a=>⟨by have:=(h.2 t a).1;omega,by have:=(h.2 t a).2;omega⟩⟩
 have hid:=Dj d 1;rw[tY]
 split
 ·exact⟨G_,b,F_,fun s e=>by cases e⟩
 refine⟨G_,b,?_,fun s e=>?_⟩
 ·have:=(List.takeWhile_sublist (l:=T.drop 3) fun f=>decide (f.kind=1)).length_le;rw[zU,g_];rw[p_]at this;omega
 obtain ⟨f,c,rfl⟩:=List.mem_map.1 (show s∈zU T from e);have:=d f (List.mem_of_mem_drop ((List.takeWhile_sublist _).subset c));omega
theorem Gc{s}(a:s.size<2^40):gu (Qj s).1:=by
 rw[Qj]
 split
 ·exact oV
 split
 ·split
  ·exact oV
  split
  ·exact rm a (fun f b=>FX s f b) (wN s a)
  exact oV
 exact oV
theorem jb(s):(cN s).length<=s.size+1:=by have a:=HC 32 s.data.toList;rw[aT]at a;rw[cN,g_];omega
theorem aa{s w}(h:w∈cN s):w.size<=s.size:=by obtain ⟨x,a,rfl⟩:=List.mem_map.1 h;have:=qX _ a;rw[aT]at this;show (b7 x).size<=_;rw[cB];omega
theorem EG{f x y}{id b node key d}{refs}{c}(m:id.size<=20000)(j:b.size<=20000)(g:node.size<=20000)(h:key.size<=20000)(e:refs.length<=20001)(l:∀s∈refs,s.size<=20000)(k:gu c):
  T3 ⟨f,id,b,node,x,y,key,d,refs,c⟩/\(⟨f,id,b,node,x,y,key,d,refs,c⟩:b8).refs.length<2^40 :=
 ⟨⟨⟨Nat.lt_of_le_of_lt m H_,Nat.lt_of_le_of_lt j H_,Nat.lt_of_le_of_lt g H_,Nat.lt_of_le_of_lt h H_⟩,⟨Nat.lt_of_le_of_lt e H_,fun s i=>Nat.lt_of_le_of_lt (l s i) H_⟩,k⟩,Nat.lt_of_le_of_lt e H_⟩
theorem Gi(f:∀x:B_,x.size<=20000->gu (rP x)){s:B_}(e:s.size<=20000):T3 (rr rP s)/\(rr rP s).refs.length<2^40:=by
 have b:=fun i=>Nat.le_trans (FD s i) e;have a:(a6:B_).size<=20000:=l6 _;have d:([]:List B_).length<=20001:=l6 _;have c:∀s∈([]:List B_),s.size<=20000:=fun s h=>by cases h
 rw[rr]
 split
 ·exact EG a a a a d c (f _ (Nat.le_trans (fR s _ _) e))
 split
 ·exact EG (b 1) a a a d c oV
 split
 ·exact EG (b 1) a a (b 2) d c oV
 split
 ·exact EG (b 1) a a a (by rw[p_];have:=jb s;omega) (fun w g=>Nat.le_trans (aa (List.mem_of_mem_drop g)) e) oV
 split
 ·exact EG (b 1) a a a d c oV
 split
 ·exact EG (b 1) (b 3) (b 2) a d c oV
 split
 ·exact EG (b 1) (b 2) a a d c oV
 exact EG a a a a d c oV
abbrev oQ(id:B_)(k x y:Int)(n:Nat):Ob:=bx 6 135 [sv id,iv k,iv x,iv y,.osl 906 n 0 n,.pv .nils]
def qH(id:B_)(k x y:Int)(R:List B_):aF:=[(906,⟨R.length,1,9,bZ R⟩),(7,oQ id k x y R.length),(2,bx 6 135 ((bM h_).map .pv))]
abbrev qE(s:B_)(T:List a_):cY:=[(0,sv s),(2,.ref 2 0 0 0),(4,.pv (CA T)),(7,.ref 7 0 0 0)]
theorem aD4(id)(k x y)(R)(s):qH id k x y (R++[s])=[(906,⟨R.length+1,1,9,bZ (R++[s])⟩),(7,oQ id k x y (R.length+1)),(2,bx 6 135 ((bM h_).map .pv))]:=by simp[qH]
theorem De{α:Type}{p}:∀ {l:List α} {i},i<=(l.takeWhile p).length->(l.length<=i->(l.takeWhile p).length=i)/\∀a,l[i]?=some a->(p a=true->i<(l.takeWhile p).length)/\(p a=false->(l.takeWhile p).length=i)
 | [],i,h=>⟨fun _=>by simp_all,fun a ha=>by grind⟩
 | b::l,i,h=>by
  rw[List.takeWhile_cons]at h |-;by_cases hb:p b=true
  ·cases i with
   |zero=>simp_all
   |succ i =>
    obtain ⟨h1,h2⟩:=De (l:=l) (p:=p) (i:=i) F_
    simp_all
  simp_all
theorem R2{s}(h:s.size<=20000):(fD s).1.length<100000:=by
 unfold fD
 split
 ·decide
 have a:=HS (jZ s (s.size+1) 0) [];have h2:=AX s (s.size+1) 0;rw[List.length_nil]at a;omega
theorem jv(s:B_)(H:aF)(hs:s.size<=20000):RC 162 [sv s] (.tup [av (bM (Qj s).1),iv (Qj s).2]) H:=by
 refine Pu ?_;have hlen:=wN s X;have hlen2:=R2 hs;have hsz:=fun f hf=>FX s f hf;have u:=rm (n:=s.size) X hsz hlen;have hlx:=fun H=>td s H X;rw[Qj,a8 X];obtain ⟨T,hT⟩:∃T,T=(fD s).1:=X_;obtain ⟨er,her⟩:∃e,e=(fD s).2.1:=X_;obtain ⟨pp,hpp⟩:∃e,e=(fD s).2.2:=X_;simp only[<-hT,<-her,<-hpp]at hlen hlen2 hsz u hlx |-;clear hT her hpp;have hmT:(T.map K_).length=T.length:=g_ _;refine Bd func162 Z ntmps162<|C (kl 2 UF)<|O U<|S<|C V<|Y (gR U_)<|O jK<|Cn ?_ ?_<;>intro hc1
 ·exact absurd (b9 hc1) X
 refine aA<|C V<|Y (kc aEK (hlx _))<|Y V<|Y dH<|Y dH<|Y dH<|Y U<|Y U<|O U<|S<|S<|aR (t:=30) (n:=8) (A_:=!decide (er=0)||decide (((T.map K_).length:Int)<4)) ?_ ?_
 ·all_goals refine Y V<|Y zX<|Dm ?_<;>(refine Sp 26 (fun h26=>?_) fun h26=>?_)<;>(try(with_reducible contradiction))<;>(first|refine M<|M<|M ?_|refine J V<|J (fY cP)<|J cM ?_)<;>refine O cE ?_<;>exact Gj (h:=by simp_all)
 refine Cn ?_ ?_<;>intro hc2
 ·have hb:=hc2;rw[a8 (fun e=>by grind)];refine C (oN E6)<|Uu (iZ sizeOf135)<|O U<|aC<|iB (H':=[]) (.inr Z) Z (CC bW sizeOf135) (aJ Z) (P_ (r:=.tup [av (bM h_),iv 5])) Qq
 have hb:=hc2;rw[q_,Bool.not_eq_false',k_,q6]at hb;have h4:4<=T.length:=X
 rw[b6 ⟨hb.1,h4⟩];obtain ⟨t0,ht0⟩:=aU (show 0<T.length by omega);obtain ⟨t,ht1⟩:=aU (show 1<T.length by omega);obtain ⟨t2,ht2⟩:=aU (show 2<T.length by omega);obtain ⟨t3,ht3⟩:=aU (show 3<T.length by omega);have i0:=cC (f:=K_) ht0;have i1:=cC (f:=K_) ht1;have i2:=cC (f:=K_) ht2;have i3:=cC (f:=K_) ht3;have hd:∀ {i:Nat} {f:a_},T[i]?=some f->T.getD i J7=f:=fun {i f} h=>by simp_all
 have d1:=hd ht1;have d2:=hd ht2;have d3:=hd ht3;have q:tK T=DJ t0.text:=by rw[tK,hd ht0]
 refine aA<|C V<|Y (iN hU)<|Y (EP iF)<|Y (gG N_)<|Y (oN La)<|Y (kl 7 Bw)<|Uu (iZ sizeOf135)<|Zz<|S<|S ?_;refine fZ.ent (E':=qE s T) (H':=qH t.text 0 0 0 []) (Q_ 906 1 9) ?_;refine Rg<|O U<|aD<|bC (σ:=Nat) (fun j=>(qE s T++[(8,iv ((j+1:Nat):Int))],qH t.text (kF t0.text j) 0 0 [])) (fun j=>j<=5) (fun j=>5 - j) 0 (l6 _) ?_ ?_
 ·exact L_
 rintro j hj;refine S<|C V<|O IN<|Cn ?_ ?_<;>intro hc3
 ·have hj5:j<5:=I_ hc3
  refine aA<|S<|aD<|S<|aN a7<|Cq V<|Cq (iN hU)<|Cq (EP iF)<|Cq (gG N_)<|Cq V<|Cq (kc Be (FN ((j+1:Nat):Int) _))<|Cq xA<|bL<|Kr<|Cn ?_ ?_<;>intro hc4
  ·have hw:t0.text=eD ((j+1:Nat):Int):=b9 hc4;refine Rd V<|Y (bA eA)<|Uu (by exact cQ Z sizeOf3 Z Z Z Z Z Z (by simp only[j7,List.length_nil];omega) (by simp only[Zl,bP,bM,S_,gK,K_];rfl) (by simp only[Zl,bP,bM,S_,gK,K_];rfl))<|Zz<|Rd V<|Y gV<|Da ?_;refine⟨j+1,X,X,?_⟩;rw[show kF t0.text (j+1)=((j+1:Nat):Int)by rw[kF,b6 hw.symm]];exact L_
  have hw:t0.text≠eD ((j+1:Nat):Int):=b_ hc4;refine aA<|Rd V<|Y gV<|Da ?_;refine⟨j+1,X,X,?_⟩;rw[show kF t0.text (j+1)=kF t0.text j by rw[kF,a8 (Ne.symm hw)]];exact L_
 have hj5:j=5:=J_ hc3
 subst hj5;rw[tp];obtain ⟨x,hkd⟩:∃x,x=DJ t0.text:=X_;rw[<-hkd]at q |-;clear hkd;refine aP<|Sz U<|S<|C (bA eA)<|Y (bS M_)<|O cD<|Cn ?_ ?_<;>intro hc5
 ·have z:x=1:=b9 hc5;subst z;have z2:t2.text.size<=20000:=Nat.le_trans (hsz _ (m7 ht2)) hs;have z3:t3.text.size<=20000:=Nat.le_trans (hsz _ (m7 ht3)) hs;refine S<|S<|aR (t:=64) (n:=13) (A_:=!decide (t2.kind=2)||!decide (t3.kind=2)) ?_ ?_
  ·all_goals refine Y V<|Y (iN hU)<|Y (EP uS)<|Y (gG M_)<|Y zX<|Dm ?_<;>(refine Sp 58 (fun h58=>?_) fun h58=>?_)<;>(try(with_reducible contradiction))<;>(first|refine M<|M<|M<|M<|M ?_|refine J V<|J (iN hU)<|J (EP uS)<|J (gG M_)<|J zX ?_)<;>refine O cE ?_<;>exact Gj (h:=by(simp only[*,Zo];done))
  refine Cn ?_ ?_<;>intro hc6
  ·have hq:=hc6;rw[b6 ⟨q,by rw[QU,d2,d3];revert hq;cases decide (t2.kind=2)<;>cases decide (t3.kind=2)<;>decide⟩];refine C (oN E6)<|Uu (iZ sizeOf135)<|O U<|aC<|iB (H':=[]) (.inr Z) Z (CC bW sizeOf135) (aJ Z) (P_ (r:=.tup [av (bM h_),iv 5])) Qq
  have hq:=hc6;rw[a8 (fun e=>by have h2:=e.2;rw[QU,d2,d3]at h2;revert hq h2;cases decide (t2.kind=2)<;>cases decide (t3.kind=2)<;>decide)];have v:min ((4:Nat):Int) ((T.map K_).length:Int)=((min (4) T.length:Nat):Int):=by rw[hmT];omega
  have hrl3:∀r∈T.map K_,r.length=3:=fun r hr=>by
   obtain ⟨f,_,rfl⟩:=List.mem_map.1 hr;rfl
  have y:((T.map K_).take (T.map K_).length).drop (min (4) T.length)=(T.drop (4)).map K_:=by
   rw[List.take_length,List.map_drop];rcases Nat.le_total (4) T.length with h|h
   ·rw[Nat.min_eq_left h]
   rw[Nat.min_eq_right h,List.drop_of_length_le (by rw[hmT];exact j6 _),List.drop_of_length_le (by rw[hmT];exact h)]
  have hml:min (4) T.length<=(T.map K_).length:=by rw[hmT];exact Nat.min_le_right _ _
  have w:=fun H=>LP (T.drop (4)) H (by rw[p_];omega);have hTG:=(show sQ T=K3 [] (T.drop 4)by rw[sQ,b6 q]);have hOT:=(show tY T=⟨t.text,1,ZM t2.text,ZM t3.text,[],(sQ T).1⟩by rw[tY,b6 q,d1,d2,d3]);obtain ⟨G,hG⟩:∃G,G=K3 [] (T.drop (4)):=X_;rw[hOT,hTG]at u;rw[hOT,hTG];simp only[<-hG]at w u |-;clear hG hTG hOT;refine aA<|aN a7<|Cr [] (fun _ _=>V)<|Cr [] (fun _ _=>(iN hU))<|Cr [] (fun _ _=>(EP iF))<|Cr [] (fun _ _=>(gG N_))<|Cr [] (fun H1 hH=>by exact bF Z Z call215 Z (QT t2.text _ X))<|Cr [] (fun _ _=>V)<|Cr [] (fun _ _=>(iN hU))<|Cr [] (fun _ _=>(EP iF))<|Cr [] (fun _ _=>(gG N_))<|Cr [] (fun H1 hH=>by exact bF Z Z call215 Z (QT t3.text _ X))<|Cr [] (fun _ _=>(oN KT))<|Cr [7] (fun _ h=>fh mM h)<|Cp [7] (fun H1 hH=>by exact qN Z sizeOf104 Z Z Z Z ((hH _ Z).trans Z) Z Z (by simp only[j7,List.length_nil];omega) (by simp only[Zl,bP,bM,S_,gK,K_];rfl) (by simp only[Zl,bP,bM,S_,gK,K_];rfl))<|bL<|Kr<|S ?_;refine fZ.ent (cJ.fzG (id:=906) (E':=qE s T++[(9,iv ((4:Nat):Int))]) (H':=[(7,bx 6 135 [sv (t.text),iv (1),iv ((ZM t2.text)),iv ((ZM t3.text)),.pv (aL (([]:List B_))),.pv .nils]),(2,bx 6 135 ((bM h_).map .pv))]) ((([]:List B_)).map S_) Z (dU _) ?_ Z ?_ ?_) ?_
  ·intro p hp;simp only[List.cons_append,List.nil_append,l7,n_,or_false]at hp;rcases hp with rfl|rfl|rfl|rfl|rfl<;>exact⟨_,Z,.same (by simp;try rfl)⟩
  ·exact⟨⟨_,Z,Z,Z,Z,lZ Z (bG (.same H_) (bG (.same H_) (bG (.same H_) (bG (.same H_) (bG (.osl (lS S_ _)) (bG (.same H_) kX))))))⟩,⟨_,Z,Z,Z,Z,eJ H_⟩,T_⟩
  ·exact T_
  refine Rd V<|Y V<|Y V<|Y (fY cP)<|Y (CJ Z Z Z v)<|Y (eU (l:=(min (4) T.length)) (h:=((T.map K_).length)) Z hU Z (by assumption) Z Z X X y)<|Y (kc aEF (w _))<|Y V<|Y dH<|Y dH<|Y U<|O U<|C V<|Y (bA fV)<|Uu (by exact cQ Z sizeOf133 Z Z Z Z Z Z (by simp only[j7,List.length_nil];omega) (by simp only[Zl,bP,bM,S_,gK,K_];rfl) (by simp only[Zl,bP,bM,S_,gK,K_];rfl))<|Zz<|C (wA bW sizeOf135)<|Y (kc Bc (CF ⟨t.text,1,(ZM t2.text),(ZM t3.text),([]:List B_),G.1⟩ _ u))<|Y V<|Y dH<|Y dH<|Y U<|O U<|S<|S ?_;refine aR (t:=131) (n:=13) (A_:=(!G.2||!decide ((fA ⟨t.text,1,(ZM t2.text),(ZM t3.text),([]:List B_),G.1⟩).2=0))||!decide ((fA ⟨t.text,1,(ZM t2.text),(ZM t3.text),([]:List B_),G.1⟩).1=s)) ?_ ?_
  ·all_goals refine Y V<|Y iW<|Dm ?_<;>(refine Sp 123 (fun h123=>?_) fun h123=>?_)<;>(try(with_reducible contradiction))<;>(first|refine M<|M ?_|refine J V<|J zX ?_)<;>refine Y cE<|Dm ?_<;>(refine Sp 127 (fun h127=>?_) fun h127=>?_)<;>(try(with_reducible contradiction))<;>(first|refine M<|M<|M ?_|refine J V<|J V<|J HD ?_)<;>refine O cE ?_<;>exact Gj (h:=by first|(rw[h123];rfl)|(rw[h123,h127];rfl))
  refine Cn ?_ ?_<;>intro hc7
  ·have hq:=hc7;rw[a8 (fun e=>by rw[e.1,e.2]at hq;simp at hq)];refine C (oN E6)<|Uu (iZ sizeOf135)<|O U<|aC<|iB (H':=[]) (.inr Z) Z (CC bW sizeOf135) (aJ Z) (P_ (r:=.tup [av (bM h_),iv 5])) Qq
  have hq:=hc7;simp only[q_,Bool.not_eq_false',k_]at hq;rw[b6 ⟨hq.1.1,Prod.ext hq.2 hq.1.2⟩];refine aA<|C (wA bW sizeOf135)<|Uu (iZ sizeOf135)<|O U<|aC<|iB (H':=[]) (.inr Z) Z (CC bW sizeOf135) (aJ Z) (P_ (r:=.tup [av (bM ⟨t.text,1,(ZM t2.text),(ZM t3.text),([]:List B_),G.1⟩),iv 0])) Qq
 have z:x≠1:=b_ hc5;rw[a8 (fun e=>z (q.symm.trans e.1))];obtain ⟨e_,hM⟩:∃e_,e_=T.drop 3:=X_;have hMl:e_.length=T.length - 3:=by rw[hM,p_]
 obtain ⟨W,hW⟩:∃W,W=e_.takeWhile fun f=>decide (f.kind=1):=X_;have hWM:W=e_.take W.length:=by rw[hW];exact List.prefix_iff_eq_take.1 (List.takeWhile_prefix _)
 have hWl:W.length<=e_.length:=by rw[hW];exact(List.takeWhile_sublist _).length_le
 have hRf:zU T=W.map a_.text:=by rw[zU,hW,hM]
 have hg:∀i,i<=W.length->(e_.length<=i->W.length=i)/\∀a,e_[i]?=some a->(decide (a.kind=1)=true->i<W.length)/\(decide (a.kind=1)=false->W.length=i):=fun i hi=>by
  rw[hW]at hi |-;exact De hi
 refine Sz U<|S<|aD<|bC (σ:=Nat) (fun i=>(qE s T++[(9,iv ((3+i:Nat):Int))],qH t.text x 0 0 ((e_.take i).map a_.text))) (fun i=>i<=W.length) (fun i=>W.length - i) 0 (l6 _) ?_ ?_
 ·exact L_
 rintro i hi;obtain ⟨g1,g2⟩:=hg i hi;by_cases hin:3+i<T.length
 ·obtain ⟨f,hf⟩:=aU hin;have hfM:e_[i]?=some f:=by rw[hM,List.getElem?_drop];exact hf
  have hif:=cC (f:=K_) hf;obtain ⟨g3,g4⟩:=g2 f hfM;have A:decide (((3+i:Nat):Int)<((T.map K_).length:Int))=true:=decide_eq_true X;refine S<|S<|aR (t:=89) (n:=13) (A_:=decide (f.kind=1)) ?_ ?_
  ·all_goals refine Y V<|Y V<|Y (fY cP)<|Y (cL.valY (iC Z Z Z) (A))<|Dm ?_<;>(refine Sp 82 (fun h82=>?_) fun h82=>?_)<;>(try(with_reducible contradiction))<;>refine J V<|J V<|J (bU Z hU Z Z X (l8 (3+i)) hif Z)<|J (EP uS)<|J (gG M_)<|J cD<|O cE ?_<;>exact Gj (h:=by rfl)
  refine Cn ?_ ?_<;>intro hc8
  ·have hk:=g3 hc8;have hMt:(e_.take (i+1)).map a_.text=(e_.take i).map a_.text++[f.text]:=by rw[List.take_add_one,hfM,List.map_append];rfl
   have hRl:((e_.take i).map a_.text).length=i:=by rw[g_,q7];omega
   refine aA<|aD<|S<|aN a7<|Cs (fun _ h=>fh dZ h)<|Cs (fun _ h=>lh aH h)<|Cs (fun _ _=>V)<|Cs (fun _ _=>V)<|Cs (fun H1 hH=>by exact bU Z hU Z Z X (l8 (3+i)) hif Z)<|Cs (fun _ _=>(EP iF))<|Cs (fun _ _=>(gG N_))<|Cs (fun H1 hH=>by exact aK [S_ f.text] Z bH Z Z Z Z Z R_) ?_;refine iH (r:=⟨_,none,[_]⟩) (DStep.plain Z (fun H1 hH=>by exact cA (ps:=[S_ f.text]) Z bH wB Z ((hH _ Z).trans Z) Z Z Z (eE _) Z R_ (m:=1) Z X Z (gP ((e_.take i).map a_.text) f.text))) Z ?_;refine Cs (fun _ h=>fh dZ h)<|iH (r:=⟨_,none,[_]⟩) (DStep.plain Z (fun H1 hH=>by exact(by exact cQ Z sizeOf22 Z Z Z ((hH _ Z).trans Z) Z Z (by simp only[j7,List.length_nil];omega) (by simp only[Zl,bP,bM,S_,gK,K_];rfl) (by simp only[Zl,bP,bM,S_,gK,K_];rfl)))) Z ?_;refine bL<|Kr<|Rd V<|Y gV<|Da ?_;refine⟨i+1,X,X,?_⟩;dsimp only;rw[hMt,aD4];exact L_
  have hk:=g4 hc8;obtain ⟨R,hR⟩:∃R,R=(e_.take i).map a_.text:=X_;have hWR:zU T=R:=by rw[hRf,hWM,hk,hR]
  rw[<-hR];have v:min (((3+i+1):Nat):Int) ((T.map K_).length:Int)=((min ((3+i+1)) T.length:Nat):Int):=by rw[hmT];omega
  have hrl3:∀r∈T.map K_,r.length=3:=fun r hr=>by
   obtain ⟨f,_,rfl⟩:=List.mem_map.1 hr;rfl
  have y:((T.map K_).take (T.map K_).length).drop (min ((3+i+1)) T.length)=(T.drop ((3+i+1))).map K_:=by
   rw[List.take_length,List.map_drop];rcases Nat.le_total ((3+i+1)) T.length with h|h
   ·rw[Nat.min_eq_left h]
   rw[Nat.min_eq_right h,List.drop_of_length_le (by rw[hmT];exact j6 _),List.drop_of_length_le (by rw[hmT];exact h)]
  have hml:min ((3+i+1)) T.length<=(T.map K_).length:=by rw[hmT];exact Nat.min_le_right _ _
  have w:=fun H=>LP (T.drop ((3+i+1))) H (by rw[p_];omega);have hTG:=(show sQ T=K3 [] (T.drop (3+i+1))by rw[sQ,a8 (fun e=>z (q.symm.trans e)),hRf,g_,hk]);have hOT:=(show tY T=⟨t.text,x,0,0,R,(sQ T).1⟩by rw[tY,a8 (fun e=>z (q.symm.trans e)),d1,q,hWR]);obtain ⟨G,hG⟩:∃G,G=K3 [] (T.drop ((3+i+1))):=X_;rw[hOT,hTG]at u;rw[hOT,hTG];simp only[<-hG]at w u |-;clear hG hTG hOT;refine aP<|Rd V<|Y gV<|O U<|S ?_;refine fZ.ent (cJ.fzG (id:=906) (E':=qE s T++[(9,iv (((3+i+1):Nat):Int))]) (H':=[(7,bx 6 135 [sv (t.text),iv (x),iv (0),iv (0),.pv (aL (R)),.pv .nils]),(2,bx 6 135 ((bM h_).map .pv))]) ((R).map S_) Z (dU _) ?_ Z ?_ ?_) ?_
  ·intro p hp;simp only[List.cons_append,List.nil_append,l7,n_,or_false]at hp;rcases hp with rfl|rfl|rfl|rfl|rfl<;>exact⟨_,Z,.same (by simp;try rfl)⟩
  ·exact⟨⟨_,Z,Z,Z,Z,lZ Z (bG (.same H_) (bG (.same H_) (bG (.same H_) (bG (.same H_) (bG (.osl (lS S_ _)) (bG (.same H_) kX))))))⟩,⟨_,Z,Z,Z,Z,eJ H_⟩,T_⟩
  ·exact T_
  refine Rd V<|Y V<|Y V<|Y (fY cP)<|Y (CJ Z Z Z v)<|Y (eU (l:=(min ((3+i+1)) T.length)) (h:=((T.map K_).length)) Z hU Z (by assumption) Z Z X X y)<|Y (kc aEF (w _))<|Y V<|Y dH<|Y dH<|Y U<|O U<|C V<|Y (bA fV)<|Uu (by exact cQ Z sizeOf133 Z Z Z Z Z Z (by simp only[j7,List.length_nil];omega) (by simp only[Zl,bP,bM,S_,gK,K_];rfl) (by simp only[Zl,bP,bM,S_,gK,K_];rfl))<|Zz<|C (wA bW sizeOf135)<|Y (kc Bc (CF ⟨t.text,x,0,0,R,G.1⟩ _ u))<|Y V<|Y dH<|Y dH<|Y U<|O U<|S<|S ?_;refine aR (t:=131) (n:=13) (A_:=(!G.2||!decide ((fA ⟨t.text,x,0,0,R,G.1⟩).2=0))||!decide ((fA ⟨t.text,x,0,0,R,G.1⟩).1=s)) ?_ ?_
  ·all_goals refine Y V<|Y iW<|Dm ?_<;>(refine Sp 123 (fun h123=>?_) fun h123=>?_)<;>(try(with_reducible contradiction))<;>(first|refine M<|M ?_|refine J V<|J zX ?_)<;>refine Y cE<|Dm ?_<;>(refine Sp 127 (fun h127=>?_) fun h127=>?_)<;>(try(with_reducible contradiction))<;>(first|refine M<|M<|M ?_|refine J V<|J V<|J HD ?_)<;>refine O cE ?_<;>exact Gj (h:=by first|(rw[h123];rfl)|(rw[h123,h127];rfl))
  refine Cn ?_ ?_<;>intro hc9
  ·have hq:=hc9;rw[a8 (fun e=>by rw[e.1,e.2]at hq;simp at hq)];refine C (oN E6)<|Uu (iZ sizeOf135)<|O U<|aC<|iB (H':=[]) (.inr Z) Z (CC bW sizeOf135) (aJ Z) (P_ (r:=.tup [av (bM h_),iv 5])) Qq
  have hq:=hc9;simp only[q_,Bool.not_eq_false',k_]at hq;rw[b6 ⟨hq.1.1,Prod.ext hq.2 hq.1.2⟩];refine aA<|C (wA bW sizeOf135)<|Uu (iZ sizeOf135)<|O U<|aC<|iB (H':=[]) (.inr Z) Z (CC bW sizeOf135) (aJ Z) (P_ (r:=.tup [av (bM ⟨t.text,x,0,0,R,G.1⟩),iv 0])) Qq
 have hk:=g1 X;have A:decide (((3+i:Nat):Int)<((T.map K_).length:Int))=false:=decide_eq_false X;obtain ⟨R,hR⟩:∃R,R=(e_.take i).map a_.text:=X_;have hWR:zU T=R:=by rw[hRf,hWM,hk,hR]
 rw[<-hR];refine S<|S<|aR (t:=89) (n:=13) (A_:=false) ?_ ?_
 ·all_goals refine Y V<|Y V<|Y (fY cP)<|Y (cL.valY (iC Z Z Z) (A))<|Dm ?_<;>(refine Sp 82 (fun h82=>?_) fun h82=>?_)<;>(try(with_reducible contradiction))<;>refine M<|M<|M<|M<|M<|M<|O cE ?_<;>exact Gj (h:=by rfl)
 refine Cn ?_ ?_<;>intro hc10
 ·cases hc10
 have v:min (((3+i+1):Nat):Int) ((T.map K_).length:Int)=((min ((3+i+1)) T.length:Nat):Int):=by rw[hmT];omega
 have hrl3:∀r∈T.map K_,r.length=3:=fun r hr=>by
  obtain ⟨f,_,rfl⟩:=List.mem_map.1 hr;rfl
 have y:((T.map K_).take (T.map K_).length).drop (min ((3+i+1)) T.length)=(T.drop ((3+i+1))).map K_:=by
  rw[List.take_length,List.map_drop];rcases Nat.le_total ((3+i+1)) T.length with h|h
  ·rw[Nat.min_eq_left h]
  rw[Nat.min_eq_right h,List.drop_of_length_le (by rw[hmT];exact j6 _),List.drop_of_length_le (by rw[hmT];exact h)]
 have hml:min ((3+i+1)) T.length<=(T.map K_).length:=by rw[hmT];exact Nat.min_le_right _ _
 have w:=fun H=>LP (T.drop ((3+i+1))) H (by rw[p_];omega);have hTG:=(show sQ T=K3 [] (T.drop (3+i+1))by rw[sQ,a8 (fun e=>z (q.symm.trans e)),hRf,g_,hk]);have hOT:=(show tY T=⟨t.text,x,0,0,R,(sQ T).1⟩by rw[tY,a8 (fun e=>z (q.symm.trans e)),d1,q,hWR]);obtain ⟨G,hG⟩:∃G,G=K3 [] (T.drop ((3+i+1))):=X_;rw[hOT,hTG]at u;rw[hOT,hTG];simp only[<-hG]at w u |-;clear hG hTG hOT;refine aP<|Rd V<|Y gV<|O U<|S ?_;refine fZ.ent (cJ.fzG (id:=906) (E':=qE s T++[(9,iv (((3+i+1):Nat):Int))]) (H':=[(7,bx 6 135 [sv (t.text),iv (x),iv (0),iv (0),.pv (aL (R)),.pv .nils]),(2,bx 6 135 ((bM h_).map .pv))]) ((R).map S_) Z (dU _) ?_ Z ?_ ?_) ?_
 ·intro p hp;simp only[List.cons_append,List.nil_append,l7,n_,or_false]at hp;rcases hp with rfl|rfl|rfl|rfl|rfl<;>exact⟨_,Z,.same (by simp;try rfl)⟩
 ·exact⟨⟨_,Z,Z,Z,Z,lZ Z (bG (.same H_) (bG (.same H_) (bG (.same H_) (bG (.same H_) (bG (.osl (lS S_ _)) (bG (.same H_) kX))))))⟩,⟨_,Z,Z,Z,Z,eJ H_⟩,T_⟩
 ·exact T_
 refine Rd V<|Y V<|Y V<|Y (fY cP)<|Y (CJ Z Z Z v)<|Y (eU (l:=(min ((3+i+1)) T.length)) (h:=((T.map K_).length)) Z hU Z (by assumption) Z Z X X y)<|Y (kc aEF (w _))<|Y V<|Y dH<|Y dH<|Y U<|O U<|C V<|Y (bA fV)<|Uu (by exact cQ Z sizeOf133 Z Z Z Z Z Z (by simp only[j7,List.length_nil];omega) (by simp only[Zl,bP,bM,S_,gK,K_];rfl) (by simp only[Zl,bP,bM,S_,gK,K_];rfl))<|Zz<|C (wA bW sizeOf135)<|Y (kc Bc (CF ⟨t.text,x,0,0,R,G.1⟩ _ u))<|Y V<|Y dH<|Y dH<|Y U<|O U<|S<|S ?_;refine aR (t:=131) (n:=13) (A_:=(!G.2||!decide ((fA ⟨t.text,x,0,0,R,G.1⟩).2=0))||!decide ((fA ⟨t.text,x,0,0,R,G.1⟩).1=s)) ?_ ?_
 ·all_goals refine Y V<|Y iW<|Dm ?_<;>(refine Sp 123 (fun h123=>?_) fun h123=>?_)<;>(try(with_reducible contradiction))<;>(first|refine M<|M ?_|refine J V<|J zX ?_)<;>refine Y cE<|Dm ?_<;>(refine Sp 127 (fun h127=>?_) fun h127=>?_)<;>(try(with_reducible contradiction))<;>(first|refine M<|M<|M ?_|refine J V<|J V<|J HD ?_)<;>refine O cE ?_<;>exact Gj (h:=by first|(rw[h123];rfl)|(rw[h123,h127];rfl))
 refine Cn ?_ ?_<;>intro hc11
 ·have hq:=hc11;rw[a8 (fun e=>by rw[e.1,e.2]at hq;simp at hq)];refine C (oN E6)<|Uu (iZ sizeOf135)<|O U<|aC<|iB (H':=[]) (.inr Z) Z (CC bW sizeOf135) (aJ Z) (P_ (r:=.tup [av (bM h_),iv 5])) Qq
 have hq:=hc11;simp only[q_,Bool.not_eq_false',k_]at hq;rw[b6 ⟨hq.1.1,Prod.ext hq.2 hq.1.2⟩];refine aA<|C (wA bW sizeOf135)<|Uu (iZ sizeOf135)<|O U<|aC<|iB (H':=[]) (.inr Z) Z (CC bW sizeOf135) (aJ Z) (P_ (r:=.tup [av (bM ⟨t.text,x,0,0,R,G.1⟩),iv 0])) Qq
end Go.Proofs.YtopnleflllkbmaaGreatDoor
namespace Go.Proofs.YtopnleflllkbmaaGreatDoor
open Go.Proofs.Tryz
open Go.Abs Go.Lib
theorem Gh{rP:B_->j_}{rX:B_->Int}(hP:∀(x:B_) (H:aF),x.size<=20000->RC 162 [sv x] (.tup [av (bM (rP x)),iv (rX x)]) H)(s:B_)(H:aF)(hs:s.size<=20000):
  RC 109 [sv s] (av (bJ (rr rP s))) H:=by
 refine Pu ?_;have hsp:=fun H=>Fv s H X;have hw0:∀i,i<(cN s).length->((cN s).map S_)[i]?=some (S_ (wW s i)):=fun i hi=>Xb hi;have hf0:4<=(cN s).length->(wW s 0).size+(wW s 1).size+(wW s 2).size+3<=s.size:=aAR;have hpos:0<(cN s).length:=by rw[cN,g_];exact qZ _ _
 rw[rr];obtain ⟨L,hL⟩:∃L,L=cN s:=X_;simp only[<-hL]at hsp hw0 hf0 hpos |-;clear hL;have hml:(L.map S_).length=L.length:=g_ _;have i0:=hw0 0 hpos;refine Bd func109 Z ntmps109<|Sz (kl 2 UE)<|C V<|Y (kc call161 (hsp _))<|O U<|C V<|Y (fY aE)<|O U<|S<|S<|aR (t:=22) (n:=10) (A_:=decide (wW s 0=⟨#[112,117,116]⟩)&&decide ((4:Int)<(s.size:Int))) ?_ ?_
 ·all_goals refine Y V<|Y (iN bH)<|Y (gG N_)<|Y xA<|Dm ?_<;>(refine Sp 18 (fun h18=>?_) fun h18=>?_)<;>(first|contradiction|refine M<|M<|M ?_|refine J V<|J (gR U_)<|J jK ?_)<;>refine O cE ?_<;>exact Gj (h:=by(simp only[*,Zo];done))
 refine Cn ?_ ?_<;>intro hc1
 ·have h1:wW s 0=b7 wPut/\_:=zM hc1;rw[b6 ⟨h1.1,X⟩];refine C V<|Y (bT (l:=4) (h:=s.size) Z U_ Z Z Z X (j6 _) Z)<|Y (kc call162 (hP (s.extract 4 s.size) _ (Nat.le_trans (fR s 4 s.size) hs)))<|Y V<|Y dH<|Y dH<|Y (kl 5 UF)<|Uu (iZ sizeOf135)<|O U<|C (by exact aV Z bW sizeOf135 Z Z Z Z (by simp only[Zl,bP,bM,S_,bJ,gK,K_];rfl) Z)<|Y (oN tR)<|Uu (iZ aY)<|Zz<|aC ?_;refine cR (H':=[]) (.inr Z) Z (CC cT aY) (P_ (r:=av (bJ ⟨1,a6,a6,a6,0,0,a6,a6,[],rP (s.extract 4 s.size)⟩))) ?_;exact Qq
 have h1:¬ (wW s 0=b7 wPut/\_):=zN hc1;rw[a8 (fun h=>h1 ⟨h.1,X⟩)];refine aA<|S<|S<|aR (t:=38) (n:=9) (A_:=decide (wW s 0=⟨#[109,111,118,101]⟩)&&decide (((L.map S_).length:Int)=4)) ?_ ?_
 ·all_goals refine Y V<|Y (iN bH)<|Y (gG N_)<|Y xA<|Dm ?_<;>(refine Sp 35 (fun h35=>?_) fun h35=>?_)<;>(first|contradiction|refine M<|M ?_|refine J V<|J cD ?_)<;>refine O cE ?_<;>exact Gj (h:=by(simp only[*,Zo];done))
 refine Cn ?_ ?_<;>intro hc2
 ·have h2:wW s 0=b7 IT/\_:=zM hc2;rw[b6 ⟨h2.1,X⟩];have i1:=hw0 1 X;have i2:=hw0 2 X;have i3:=hw0 3 X;have z2:=FD s 2;have z3:=FD s 3;refine S<|aN a7<|Cr [] (fun _ _=>V)<|Cr [] (fun _ _=>(iN bH))<|Cr [] (fun _ _=>(gG N_))<|Cr [] (fun _ _=>V)<|Cr [] (fun _ _=>(iN bH))<|Cr [] (fun _ _=>(gG N_))<|Cr [] (fun H1 hH=>by exact bF Z Z call163 Z (U4 (wW s 2) _ X))<|Cr [] (fun _ _=>V)<|Cr [] (fun _ _=>(iN bH))<|Cr [] (fun _ _=>(gG N_))<|Cr [] (fun H1 hH=>by exact bF Z Z call163 Z (U4 (wW s 3) _ X))<|Cr [] (fun _ _=>(oN KT))<|Cr [] (fun _ _=>(oN tR))<|Cp [2] (fun _ h=>sa aY h)<|bL<|Kr<|aC ?_;refine cR (H':=[]) (.inr Z) Z (CC cT aY) (P_ (r:=av (bJ ⟨2,wW s 1,a6,a6,JJ (wW s 2),JJ (wW s 3),a6,a6,[],h_⟩))) Qq
 have h2:¬ (wW s 0=b7 IT/\_):=zN hc2;rw[a8 (fun h=>h2 ⟨h.1,X⟩)];refine aA<|eM (fun(_:Unit)=>([(0,sv s),(2,.ref 2 0 0 0),(3,.pv (aL L)),(4,iv ((L.map S_).length:Int))],[(2,bx 15 137 ((bJ NV).map .pv))])) (fun _=>¬ ((wW s 0=b7 AU/\4<=L.length)/\HH s=true)) ?_ ?_
 ·refine S<|aR (t:=59) (n:=9) (A_:=decide (wW s 0=⟨#[116,97,103]⟩)&&decide ((4:Int)<=((L.map S_).length:Int))) ?_ ?_
  ·all_goals refine Y V<|Y (iN bH)<|Y (gG N_)<|Y xA<|Dm ?_<;>(refine Sp 56 (fun h56=>?_) fun h56=>?_)<;>(try(with_reducible contradiction))<;>(first|refine M<|M ?_|refine J V<|J DK ?_)<;>refine O cE ?_<;>exact Gj (h:=by(simp only[*,Zo];done))
  refine Cn ?_ ?_<;>intro hc3
  ·have h3:wW s 0=b7 AU/\_:=zM hc3;have i1:=hw0 1 X;have i2:=hw0 2 X;have z0:=FD s 0;have z1:=FD s 1;have z2:=FD s 2;have hf3:=hf0 X;have hrs:(mQ s).size<=s.size:=fR s _ _;have hlx:=fun H=>td (mQ s) H X;have hto:HH s=((decide ((fD (mQ s)).2.1=0)&&decide ((fD (mQ s)).1.length=1))&&decide (((fD (mQ s)).1.getD 0 J7).kind=3)):=rfl;obtain ⟨R,hR⟩:∃R,R=mQ s:=X_;have hRx:s.extract ((wW s 0).size+(wW s 1).size+(wW s 2).size+3) s.size=R:=by rw[hR];rfl
   rw[<-hR]at hlx hto;obtain ⟨T,hT⟩:∃T,T=(fD R).1:=X_;obtain ⟨er,her⟩:∃e,e=(fD R).2.1:=X_;obtain ⟨pp,hpp⟩:∃e,e=(fD R).2.2:=X_;have hTr:T=(fD (mQ s)).1:=by rw[hT,hR]
   simp only[<-hT,<-her,<-hpp]at hlx hto;clear hT her hpp hR;have hmT:(T.map K_).length=T.length:=g_ _;clear h1 h2;by_cases hone:T.length=1
   ·obtain ⟨t,ht⟩:=List.length_eq_one_iff.1 hone;have hi0:(T.map K_)[0]?=some [.int .i64 t.kind,.str t.text,.int .i64 t.pos]:=by rw[ht];rfl
    have hg0:T.getD 0 J7=t:=by rw[ht];rfl
    rw[hg0,decide_eq_true hone,Bool.and_true]at hto;have hon2:decide (((T.map K_).length:Int)=1)=true:=decide_eq_true X;refine S<|aN a7<|Cq V<|Cq V<|Cq (iN bH)<|Cq (gG N_)<|Cq (gR U_)<|Cq V<|Cq (iN bH)<|Cq (gG N_)<|Cq (gR U_)<|Cq gV<|Cq V<|Cq (iN bH)<|Cq (gG N_)<|Cq (gR U_)<|Cq gV<|Cq gV<|Cq (bT (l:=(wW s 0).size+(wW s 1).size+(wW s 2).size+3) (h:=s.size) Z U_ Z Z Z hf3 (j6 _) hRx)<|Cq (kc aEK (hlx _))<|Cq V<|Cq dH<|Cq dH<|Cq dH<|Cq U<|Cq U<|Cq U<|bL<|Kr<|S<|aR (t:=95) (n:=16) (A_:=decide (er=0)&&decide (t.kind=3)) ?_ ?_
    ·all_goals refine Y V<|Y cD<|Dm ?_<;>(refine Sp 84 (fun h84=>?_) fun h84=>?_)<;>(try(with_reducible contradiction))<;>(first|refine M<|M<|M ?_|refine J V<|J (fY cP)<|J (cL.valY (nM Z Z Z) (hon2)) ?_)<;>refine Y cE<|Dm ?_<;>(refine Sp 89 (fun h89=>?_) fun h89=>?_)<;>(try(with_reducible contradiction))<;>(first|refine M<|M<|M<|M<|M ?_|refine J V<|J (bU Z hU Z Z X (show (0:Int).toNat=0 from Z) hi0 Z)<|J (EP uS)<|J (gG M_)<|J cD ?_)<;>refine O cE ?_<;>exact Gj (h:=by(simp only[*,Zo];done))
    refine Cn ?_ ?_<;>intro hc4
    ·have hq:HH s=true:=hto.trans hc4;rw[b6 ⟨⟨h3.1,X⟩,hq⟩,<-hTr,hg0];refine S<|aN a7<|Cr [] (fun _ _=>V)<|Cr [] (fun H1 hH=>by exact bU Z bH Z Z X (show (1:Int).toNat=1 from Z) i1 Z)<|Cr [] (fun _ _=>(gG N_))<|Cr [] (fun _ _=>V)<|Cr [] (fun H1 hH=>by exact bU Z bH Z Z X (show (2:Int).toNat=2 from Z) i2 Z)<|Cr [] (fun _ _=>(gG N_))<|Cr [] (fun _ _=>V)<|Cr [] (fun H1 hH=>by exact bU Z hU Z Z X (show (0:Int).toNat=0 from Z) hi0 Z)<|Cr [] (fun _ _=>(EP iF))<|Cr [] (fun _ _=>(gG N_))<|Cr [] (fun _ _=>(oN tR))<|Cp [2] (fun _ h=>sa aY h)<|bL<|Kr<|aC ?_;refine cR (H':=[]) (.inr Z) Z (CC cT aY) (P_ (r:=av (bJ ⟨3,wW s 1,a6,a6,0,0,wW s 2,t.text,[],h_⟩))) Qq
    have hq:HH s=false:=hto.trans hc4;refine aA ?_;exact⟨(),(fun h=>by have:=h.2;rw[hq]at this;cases this),Wk⟩
   have hon2:decide (((T.map K_).length:Int)=1)=false:=decide_eq_false X;rw[decide_eq_false hone,Bool.and_false,Bool.false_and]at hto;refine S<|aN a7<|Cq V<|Cq V<|Cq (iN bH)<|Cq (gG N_)<|Cq (gR U_)<|Cq V<|Cq (iN bH)<|Cq (gG N_)<|Cq (gR U_)<|Cq gV<|Cq V<|Cq (iN bH)<|Cq (gG N_)<|Cq (gR U_)<|Cq gV<|Cq gV<|Cq (bT (l:=(wW s 0).size+(wW s 1).size+(wW s 2).size+3) (h:=s.size) Z U_ Z Z Z hf3 (j6 _) hRx)<|Cq (kc aEK (hlx _))<|Cq V<|Cq dH<|Cq dH<|Cq dH<|Cq U<|Cq U<|Cq U<|bL<|Kr<|S<|aR (t:=95) (n:=16) (A_:=false) ?_ ?_
   ·all_goals refine Y V<|Y cD<|Dm ?_<;>(refine Sp 84 (fun h84=>?_) fun h84=>?_)<;>(try(with_reducible contradiction))<;>(first|refine M<|M<|M ?_|refine J V<|J (fY cP)<|J (cL.valY (nM Z Z Z) (hon2)) ?_)<;>refine Y cE<|Dm ?_<;>(refine Sp 89 (fun h89=>?_) fun h89=>?_)<;>(try(with_reducible contradiction))<;>refine M<|M<|M<|M<|M<|O cE ?_<;>exact Gj (h:=by rfl)
   refine Cn ?_ ?_<;>intro hc5
   ·cases hc5
   refine aA ?_;exact⟨(),(fun h=>by have:=h.2;rw[hto]at this;cases this),Wk⟩
  have h3:¬ (wW s 0=b7 AU/\_):=zN hc3;refine aA ?_;exact⟨(),(fun h=>h3 ⟨h.1.1,X⟩),Wk⟩
 rintro _ hno;rw[a8 hno];clear h1 h2 hno;refine S<|S<|aR (t:=114) (n:=9) (A_:=decide (wW s 0=⟨#[114,101,102,115]⟩)&&decide ((2:Int)<=((L.map S_).length:Int))) ?_ ?_
 ·all_goals refine Y V<|Y (iN bH)<|Y (gG N_)<|Y xA<|Dm ?_<;>(refine Sp 111 (fun h111=>?_) fun h111=>?_)<;>(try(with_reducible contradiction))<;>(first|refine M<|M ?_|refine J V<|J DK ?_)<;>refine O cE ?_<;>exact Gj (h:=by(simp only[*,Zo];done))
 refine Cn ?_ ?_<;>intro hc6
 ·have h4:wW s 0=b7 IS/\_:=zM hc6;rw[b6 ⟨h4.1,X⟩];have i1:=hw0 1 X;refine S<|aN a7<|Cr [] (fun _ _=>V)<|Cr [] (fun _ _=>(iN bH))<|Cr [] (fun _ _=>(gG N_))<|Cr [] (fun _ _=>V)<|Cr [] (fun H1 hH=>by exact eU (l:=2) (h:=(L.map S_).length) (rows':=(L.drop 2).map S_) Z bH Z (IA _) Z Z X (j6 _) (by rw[List.take_length];exact List.map_drop.symm))<|Cr [] (fun _ _=>(oN tR))<|Cp [2] (fun _ h=>sa aY h)<|bL<|Kr<|aC ?_;refine cR (H':=[]) (.inr Z) Z (CC cT aY) (P_ (r:=av (bJ ⟨4,wW s 1,a6,a6,0,0,a6,a6,L.drop 2,h_⟩))) Qq
 have h4:¬ (wW s 0=b7 IS/\_):=zN hc6;rw[a8 (fun h=>h4 ⟨h.1,X⟩)];refine aA<|S<|S<|aR (t:=128) (n:=9) (A_:=decide (wW s 0=⟨#[100,114,111,112]⟩)&&decide (((L.map S_).length:Int)=2)) ?_ ?_
 ·all_goals refine Y V<|Y (iN bH)<|Y (gG N_)<|Y xA<|Dm ?_<;>(refine Sp 125 (fun h125=>?_) fun h125=>?_)<;>(try(with_reducible contradiction))<;>(first|refine M<|M ?_|refine J V<|J cD ?_)<;>refine O cE ?_<;>exact Gj (h:=by(simp only[*,Zo];done))
 refine Cn ?_ ?_<;>intro hc7
 ·have h5:wW s 0=b7 IW/\_:=zM hc7;rw[b6 ⟨h5.1,X⟩];have i1:=hw0 1 X;refine C V<|Y (iN bH)<|Y (gG N_)<|Y (oN tR)<|Uu (iZ aY)<|Zz<|aC<|cR (H':=[]) (.inr Z) Z (CC cT aY) (P_ (r:=av (bJ ⟨5,wW s 1,a6,a6,0,0,a6,a6,[],h_⟩))) Qq
 have h5:¬ (wW s 0=b7 IW/\_):=zN hc7;rw[a8 (fun h=>h5 ⟨h.1,X⟩)];refine aA<|S<|S<|aR (t:=140) (n:=9) (A_:=decide (wW s 0=⟨#[115,112,108,105,116]⟩)&&decide (((L.map S_).length:Int)=4)) ?_ ?_
 ·all_goals refine Y V<|Y (iN bH)<|Y (gG N_)<|Y xA<|Dm ?_<;>(refine Sp 137 (fun h137=>?_) fun h137=>?_)<;>(try(with_reducible contradiction))<;>(first|refine M<|M ?_|refine J V<|J cD ?_)<;>refine O cE ?_<;>exact Gj (h:=by(simp only[*,Zo];done))
 refine Cn ?_ ?_<;>intro hc8
 ·have h6:wW s 0=b7 BZ/\_:=zM hc8;rw[b6 ⟨h6.1,X⟩];have i1:=hw0 1 X;have i2:=hw0 2 X;have i3:=hw0 3 X;refine S<|aN a7<|Cr [] (fun _ _=>V)<|Cr [] (fun _ _=>(iN bH))<|Cr [] (fun _ _=>(gG N_))<|Cr [] (fun _ _=>V)<|Cr [] (fun _ _=>(iN bH))<|Cr [] (fun _ _=>(gG N_))<|Cr [] (fun _ _=>V)<|Cr [] (fun _ _=>(iN bH))<|Cr [] (fun _ _=>(gG N_))<|Cr [] (fun _ _=>(oN tR))<|Cp [2] (fun _ h=>sa aY h)<|bL<|Kr<|aC<|cR (H':=[]) (.inr Z) Z (CC cT aY) (P_ (r:=av (bJ ⟨6,wW s 1,wW s 3,wW s 2,0,0,a6,a6,[],h_⟩))) Qq
 have h6:¬ (wW s 0=b7 BZ/\_):=zN hc8;rw[a8 (fun h=>h6 ⟨h.1,X⟩)];refine aA<|S<|S<|aR (t:=158) (n:=9) (A_:=decide (wW s 0=⟨#[106,111,105,110]⟩)&&decide (((L.map S_).length:Int)=3)) ?_ ?_
 ·all_goals refine Y V<|Y (iN bH)<|Y (gG N_)<|Y xA<|Dm ?_<;>(refine Sp 155 (fun h155=>?_) fun h155=>?_)<;>(try(with_reducible contradiction))<;>(first|refine M<|M ?_|refine J V<|J cD ?_)<;>refine O cE ?_<;>exact Gj (h:=by(simp only[*,Zo];done))
 refine Cn ?_ ?_<;>intro hc9
 ·have h7:wW s 0=b7 IU/\_:=zM hc9;rw[b6 ⟨h7.1,X⟩];have i1:=hw0 1 X;have i2:=hw0 2 X;refine S<|aN a7<|Cr [] (fun _ _=>V)<|Cr [] (fun _ _=>(iN bH))<|Cr [] (fun _ _=>(gG N_))<|Cr [] (fun _ _=>V)<|Cr [] (fun _ _=>(iN bH))<|Cr [] (fun _ _=>(gG N_))<|Cr [] (fun _ _=>(oN tR))<|Cp [2] (fun _ h=>sa aY h)<|bL<|Kr<|aC<|cR (H':=[]) (.inr Z) Z (CC cT aY) (P_ (r:=av (bJ ⟨7,wW s 1,wW s 2,a6,0,0,a6,a6,[],h_⟩))) Qq
 have h7:¬ (wW s 0=b7 IU/\_):=zN hc9;rw[a8 (fun h=>h7 ⟨h.1,X⟩)];refine aA<|C (oN tR)<|Uu (iZ aY)<|Zz<|aC<|cR (H':=[]) (.inr Z) Z (CC cT aY) (P_ (r:=av (bJ NV))) Qq
abbrev RS:=List B_×Bool
abbrev rp(q:RS):Ob:=bx 2 99 [.pv (aL q.1),bv q.2]
abbrev rq(q:RS):aF:=[(980,rp q)]
abbrev ri:AV:=.ref 980 0 0 0
theorem rn(q)(H):∀r∈(rp q).rows,∀a∈r,Clo H a:=H_
instance(q)(H):W_ (H) ((rp q).rows):=⟨rn q H⟩
def Mo(f:FuncId)(q:RS)(v:AV)(q':RS):Prop:=∀H1:aF,H1.get 980=some (rp q)->aS Tryz.prog f [ri] H1 (fun r H'=>r=v/\H'=rq q'++H1)
theorem Mo.of{f}{q a}{v}(h:aS Tryz.prog f [ri] (rq q) (fun r H'=>r=v/\H'=rq a)):Mo f q v a:=fun H1 c=>by
 have hk:∀(q) id,980≠id->(rq q).get id=none:=fun q id e=>by simp[aF.get,jS e]
 refine aS.frame h (fun id ob b=>?_) (dD.ofL ⟨rn q _,T_⟩) (by simp;rfl) (fun id hi=>?_)
 ·by_cases e:980=id
  ·subst e;cases b;exact c
  grind
 by_cases e:980=id
 ·subst e;exact .inl Z
 grind
def rN(q:RS):B_×RS:=(q.1.headD a6,(q.1.drop 1,q.2||decide (q.1.length=0)))
theorem uQ(q:RS)(hq:q.1.length<2^40):Mo 63 q (sv (rN q).1) (rN q).2:=by
 refine Mo.of ?_;obtain ⟨L,b⟩:=q;rcases L with _|⟨s,L⟩
 ·refine Bd func63 Z ntmps63<|Sz U<|S<|C V<|Y sD<|Y (bA MU)<|Y (bS aH)<|Y (fY aE)<|O (cL.valY (nM Z Z Z) ((decide_eq_true Z)))<|Cn ?_ ?_<;>intro hc1
  ·refine C V<|Y sD<|Y (bA MT)<|Uu (by exact cQ Z sizeOf4 Z Z Z Z Z Z (by simp only[j7,List.length_nil];omega) (by simp only[Zl,S_];rfl) (by simp only[Zl,S_];rfl))<|Zz<|Sz U<|aC ?_;refine cR (H':=(rq ([],true))) (.inr Z) Z (aJ Z) P_ ?_;exact⟨Z,by simp[rN]⟩
  cases hc1
 have hml:((s::L).map S_).length=L.length+1:=by rw[g_];rfl
 have hq2:L.length+1<2^40:=hq;refine Bd func63 Z ntmps63<|Sz U<|S<|C V<|Y sD<|Y (bA MU)<|Y (bS aH)<|Y (fY aE)<|O (cL.eqv (nM Z Z Z) (by rw[hml,decide_eq_false X]))<|Cn ?_ ?_<;>intro hc1
 ·cases hc1
 refine aA<|C V<|Y sD<|Y (bA MU)<|Y (bS aH)<|Y (bU Z bH Z Z X (l8 _) Z Z)<|Y (gG N_ (hi:=rfl))<|O U<|C V<|Y V<|Y sD<|Y (bA MU)<|Y (bS aH)<|Y (by exact eU (l:=1) (h:=((s::L).map S_).length) (rows':=L.map S_) Z bH Z (eX _) Z Z H_ (j6 _) (by rw[List.take_length];rfl))<|Y sD<|Y (bA MU)<|Uu (by exact cQ Z sizeOf22 Z Z Z Z Z Z (by simp only[j7,List.length_nil];omega) (by simp only[Zl,S_];rfl) (by simp only[Zl,S_];rfl))<|Zz<|C V<|O U<|aC ?_;refine cR (H':=(rq (L,b))) (.inr Z) Z (aJ Z) P_ ?_;exact⟨Z,by simp[rN]⟩
def T5(l:List UInt8):Int:=l.foldl (fun n b=>10*n+(b.toNat:Int) - 48) 0
def xQ(s:B_):Option Int:=if 7<s.size then none else if ff (T5 s.data.toList)=s then some (T5 s.data.toList)else none
def rU(q:RS):Int×RS:=((xQ (rN q).1).getD 0,((rN q).2.1,(rN q).2.2||(xQ (rN q).1).isNone))
theorem Ig(l)(b):T5 (l++[b])=10*T5 l+(b.toNat) - 48:=by rw[T5,List.foldl_append];rfl
theorem Ih:∀(l:List UInt8) (n:Int) (p:Nat),1<=p -> -(30*p - 30)<=n->n<=30*p - 30 -> -(30*((p*10 ^ l.length:Nat)) - 30)<=l.foldl (fun n b=>10*n+(b.toNat:Int) - 48) n/\l.foldl (fun n b=>10*n+(b.toNat:Int) - 48) n<=30*((p*10 ^ l.length:Nat)) - 30
 | [],n,p,_,a,c=>by simp_all
 |b::l,n,p,hp,a,c=>by
  have hb:=b.toNat_lt;have:=Ih l (10*n+(b.toNat) - 48) (p*10) X X X;rw[j7,Nat.pow_succ,Nat.mul_comm (10 ^ l.length),<-Nat.mul_assoc];exact this
theorem MF{l}(h:l.length<=7): -300000000<=T5 l/\T5 l<=300000000:=by have h1:=Ih l 0 1 (j6 _) H_ H_;have h2:10 ^ l.length<=10 ^ 7:=Nat.pow_le_pow_right H_ h;rw[T5];omega
theorem oC(q:RS)(c_:q.1.length<2^40):Mo 64 q (iv (rU q).1) (rU q).2:=by
 refine Mo.of ?_;have j:=uQ q c_;rw[rU];obtain ⟨⟨s,d⟩,G⟩:∃p,p=rN q:=X_;rw[<-G]at j |-;clear G;dsimp only at j |-;obtain ⟨l,w⟩:∃l,l=s.data.toList:=X_;have hsl:l.length=s.size:=F_
 have z:∀i b,l[i]?=some b->aZ s i=(b.toNat:Int):=fun i b h=>by rw[aZ,<-w,h];rfl
 have k:xQ s=none->((xQ s).getD 0,(d.1,d.2||(xQ s).isNone))=(0,(d.1,true)):=fun h=>by simp_all
 have g:xQ s=some (T5 l)->((xQ s).getD 0,(d.1,d.2||(xQ s).isNone))=(T5 l,d):=fun h=>by simp_all
 obtain ⟨y_,D⟩:∃y_,y_=((xQ s).getD 0,(d.1,d.2||(xQ s).isNone)):=X_;rw[<-D]at k g;show aS Tryz.prog _ [ri] (rq q) (fun r K=>r=iv (((xQ s).getD 0,(d.1,d.2||(xQ s).isNone)):Int×RS).1/\K=rq (((xQ s).getD 0,(d.1,d.2||(xQ s).isNone)):Int×RS).2);rw[<-D];clear D;refine Bd func64 Z ntmps64<|Sz U<|C V<|Y (kc qU (j _ Z))<|O U<|Sz U<|S<|C V<|Y (gR U_)<|O jK<|Cn ?_ ?_<;>intro t
 ·have v:7<s.size:=by have:=b9 t;omega
  rw[k (by rw[xQ,b6 v])];refine C V<|Y sD<|Y (bA MT)<|Uu (by exact cQ Z sizeOf4 Z Z Z Z Z Z F_ (by simp only[Zl,S_];rfl) (by simp only[Zl,S_];rfl))<|Zz<|Sz U<|aC ?_;refine cR (H':=(rq (d.1,true))) (.inr Z) Z (aJ Z) P_ ?_;exact Qq
 have v:¬ 7<s.size:=by have:=b_ t;omega
 refine aA<|S<|Sz U<|aD<|bC (σ:=Nat) (fun i=>([(0,ri),(3,sv s),(4,iv (T5 (l.take i))),(5,iv (i:Int))],[(980,rp d)])) (fun i=>i<=l.length) (fun i=>l.length - i) 0 (l6 _) ?_ ?_
 ·exact Wk
 intro i hi;have d_:=MF (l:=l.take i) G_;by_cases x:i<l.length
 ·obtain ⟨b,I⟩:=aU x;have y:=z i b I;have hb256:=b.toNat_lt;have n:T5 (l.take (i+1))=10*T5 (l.take i)+(b.toNat:Int) - 48:=by rw[fP I,Ig]
  refine S<|C V<|Y V<|Y (gR U_)<|O cM<|Cn ?_ ?_<;>intro F
  ·refine aA<|S<|aD<|Rd V<|Y (qO Z Z Z (pW X X))<|Y V<|Y V<|Y (ky U_)<|Y (eO Z dM underlying3 Z (show IntKind.i64.wrap (aZ s i)=(b.toNat:Int)by rw[y,pW X X]))<|Y (eQ Z Z Z (pW X X))<|Y (dV Z Z Z (show IntKind.i64.wrap (10*T5 (l.take i)+(b.toNat:Int) - 48)=T5 (l.take (i+1))by rw[n,pW X X]))<|O U<|Rd V<|Y kp<|Da ?_;exact⟨i+1,X,X,Wk⟩
  (have h:=b_ F;omega)
 have o:i=l.length:=X
 subst o;rw[List.take_length]at d_ |-;have u:=fun H=>aA1 (T5 l) X X H;refine S<|C V<|Y V<|Y (gR U_)<|O cM<|Cn ?_ ?_<;>intro E
 ·(have h:=b9 E;omega)
 refine aP<|S<|C V<|Y (kc jG (u _))<|Y V<|O HD<|Cn ?_ ?_<;>intro m
 ·have A:¬ ff (T5 l)=s:=by have:=m;intro e;rw[decide_eq_true e]at this;cases this
  rw[k (by rw[xQ,a8 v,<-w,a8 A])];refine C V<|Y sD<|Y (bA MT)<|Uu (by exact cQ Z sizeOf4 Z Z Z Z Z Z (by simp only[j7,List.length_nil];omega) (by simp only[Zl,S_];rfl) (by simp only[Zl,S_];rfl))<|Zz<|Sz U<|aC ?_;refine cR (H':=(rq (d.1,true))) (.inr Z) Z (aJ Z) P_ ?_;exact Qq
 have B:ff (T5 l)=s:=by have:=m;rw[Bool.not_eq_false']at this;exact b9 this
 rw[g (by rw[xQ,a8 v,<-w,b6 B])];refine aA<|C V<|O U<|aC<|cR (H':=(rq d)) (.inr Z) Z (aJ Z) P_ Qq
def rL(q:RS):List B_×RS:=if((rU q).2.1.length:Int)<(rU q).1\/(rU q).1<0 then([],((rU q).2.1,true))else((rU q).2.1.take (rU q).1.toNat,((rU q).2.1.drop (rU q).1.toNat,(rU q).2.2))
def rZ(q:RS):m9×RS:=(⟨(rU q).1,(rL (rU q).2).1,(rL (rL (rU q).2).2).1⟩,(rL (rL (rU q).2).2).2)
theorem Yb(q):(rN q).2.1.length<=q.1.length:=by show (q.1.drop 1).length<=_;simp_all
theorem XZ(q):(rU q).2.1.length<=q.1.length:=Yb q
theorem Yc(q):(rL q).2.1.length<=q.1.length:=by
 have:=XZ q;rw[rL]
 split
 ·exact this
 grind
theorem O3(q:RS)(F:q.1.length<2^40):Mo 65 q (.pv (aL (rL q).1)) (rL q).2:=by
 refine Mo.of ?_;have l:=oC q F;have r:=XZ q;have e:((rU q).2.1.length:Int)<(rU q).1\/(rU q).1<0->rL q=([],((rU q).2.1,true)):=fun h=>by rw[rL,b6 h]
 have d:¬ (((rU q).2.1.length:Int)<(rU q).1\/(rU q).1<0)->rL q=((rU q).2.1.take (rU q).1.toNat,((rU q).2.1.drop (rU q).1.toNat,(rU q).2.2)):=fun h=>by rw[rL,a8 h]
 obtain ⟨y_,D⟩:∃y_,y_=rL q:=X_;rw[<-D]at e d |-;obtain ⟨⟨n,L,b⟩,d_⟩:∃p,p=rU q:=X_;rw[<-d_]at l r e d;clear d_ D;dsimp only at l r e d;have t:(L.map S_).length=L.length:=g_ _;refine Bd func65 Z ntmps65<|Sz U<|C V<|Y (kc qT (l _ Z))<|O U<|S<|S<|aR (t:=18) (n:=12) (A_:=decide (((L.map S_).length:Int)<n)||decide (n<0)) ?_ ?_
 ·all_goals refine Y V<|Y V<|Y sD<|Y (bA MU)<|Y (bS aH)<|Y (fY aE)<|Y jK<|Dm ?_<;>(refine Sp 15 (fun A=>?_) fun A=>?_)<;>(first|contradiction|refine M<|M ?_|refine J V<|J cM ?_)<;>refine O cE ?_<;>(exact⟨⟨_,Z,G_⟩,Z,Z,Z⟩)
 refine Cn ?_ ?_<;>intro o
 ·have j:=o;rw[t,Bool.or_eq_true,k_,k_]at j;rw[e j];refine C V<|Y sD<|Y (bA MT)<|Uu (by exact cQ Z sizeOf4 Z Z Z Z Z Z F_ (by simp only[Zl,S_];rfl) (by simp only[Zl,S_];rfl))<|Zz<|Sz U<|aC ?_;refine cR (H':=(rq (L,true))) (.inr Z) Z (aJ Z) (P_ (r:=.pv (aL []))) ?_;exact Qq
 have j:=o;rw[t,q_,q6,q6]at j;rw[d (fun h=>h.elim j.1 j.2)];obtain ⟨hb1,hb2⟩:=j;obtain ⟨k,rfl⟩:∃k:Nat,n=(k:Int):=⟨n.toNat,X⟩;rw[l8];have u:∀i,i<=k->(L.take i).length=i:=fun i w=>by grind
 refine aA<|Sz (eP (id:=905) (sz:=1) (ty:=9) Z Z Z)<|S<|Sz U<|aD<|bC (σ:=Nat) (fun i=>([(0,ri),(3,iv (k:Int)),(4,.osl 905 i 0 i),(5,iv (i:Int))],[(905,⟨i,1,9,bZ (L.take i)⟩),(980,rp (L.drop i,b))])) (fun i=>i<=k) (fun i=>k - i) 0 (l6 _) ?_ ?_
 ·exact L_
 intro i w;refine S<|C V<|Y V<|O cM<|Cn ?_ ?_<;>intro m
 ·have hik:i<k:=by have:=b9 m;omega
  obtain ⟨s,z⟩:=aU (l:=L) (k:=i) X;have B:L.drop i=s::L.drop (i+1):=by
   have E:=(m_.1 z).1;rw[List.drop_eq_getElem_cons E,(m_.1 z).2]
  have x:Mo 63 (L.drop i,b) (sv s) (L.drop (i+1),b):=by
   have:=uQ (L.drop i,b) G_;rw[rN]at this
   simpa[B]using this
  have y:=fP z;have g:=u i w;refine aA<|S<|aD<|Rd V<|Y V<|Y (kc qU (x _ Z))<|Y (aK [[.str s]] Z bH Z Z Z Z Z F_)<|Y (by exact cA (k:=i+1) (ps:=[[.str s]]) Z bH wB Z Z Z Z Z ((eE _).trans g) Z F_ (m:=1) Z X Z (rows':=bZ (L.take (i+1))) (by rw[y];exact gP _ s))<|O U<|Rd V<|Y kp<|Da ?_;exact⟨i+1,X,X,L_⟩
 have v:i=k:=by have:=b_ m;omega
 subst v;have g:=u i w;refine aP<|C V<|O U<|aC ?_;refine cR (H':=(rq (L.drop i,b))) (.inr Z) Z (aJ Z) (Fin.fz (id:=905) (ob:=⟨i,1,9,bZ (L.take i)⟩) (r':=.pv (aL (L.take i))) ((L.take i).map S_) Z (dU _) (.osl (HA S_ _ g)) Z ⟨⟨_,Z,Z⟩,(by(simp;done)),T_⟩ ⟨Z,T_⟩) ?_;exact Qq
theorem qv(q:RS)(i:q.1.length<2^40):Mo 66 q (av (lI (rZ q).1)) (rZ q).2:=by refine Mo.of ?_;have h:=oC q i;have f:=O3 (rU q).2 (Nat.lt_of_le_of_lt (XZ q) i);have d:=O3 (rL (rU q).2).2 (Nat.lt_of_le_of_lt (Yc _) (Nat.lt_of_le_of_lt (XZ q) i));rw[rZ];obtain ⟨⟨n,k⟩,j⟩:∃p,p=rU q:=X_;rw[<-j]at h f d |-;dsimp only at h f d |-;obtain ⟨⟨a,m⟩,e⟩:∃p,p=rL k:=X_;rw[<-e]at f d |-;dsimp only at f d |-;obtain ⟨⟨c,l⟩,g⟩:∃p,p=rL m:=X_;rw[<-g]at d |-;dsimp only at d |-;clear j e g;refine Bd func66 Z ntmps66<|Sz (kl 2 ZQ)<|Sz (kl 3 ZQ)<|C V<|Y (kc qT (h _ Z))<|Y (bA CY)<|Uu (ku sizeOf3)<|Zz<|C V<|Y (kc Nh (f _ Z))<|Y (bA vU)<|Uu (ku sizeOf22)<|Zz<|C V<|Y (kc Nh (d _ Z))<|Y (bA vT)<|Uu (ku sizeOf22)<|Zz<|C (wA gO sizeOf48)<|Uu (iZ sizeOf48)<|Zz<|aC ?_;refine cR (H':=(rq l)) (.inr Z) Z (eY Z gO sizeOf48 Z Z Z (by simp only[Zl,S_];rfl) Z) P_ ?_;exact Qq
theorem EW(l:List B_)(H:aF)(t:lq l):RC 114 [.pv (aL l)] (bv (l.all l9)) H:=by
 refine Pu ?_;obtain ⟨hl1,o⟩:=t;have hml:(l.map S_).length=l.length:=g_ _;refine Bd func114 Z ntmps114<|Sz U<|S<|Sz U<|aD<|bC (σ:=Nat) (fun k=>([(0,.pv (aL l)),(3,iv (k:Int))],[])) (fun k=>k<=l.length/\∀j,j<k->∀b,l[j]?=some b->l9 b=true) (fun k=>l.length - k) 0 ⟨X,X⟩ ?_ ?_
 ·exact Wk
 rintro k ⟨hk,f⟩;refine S<|C V<|Y V<|Y (fY aE)<|O cM<|Cn ?_ ?_<;>intro e
 ·have i:k<l.length:=by have:=b9 e;omega
  obtain ⟨s,g⟩:=aU i;have q:=cC (f:=S_) g;have hsz:=o s (m7 g);have p:=fun H=>Vv s X H;have d:=fun h=>ZC (p:=l9) g h;refine aA<|S<|aD<|C V<|Y V<|Y (bU Z bH Z Z X (by rfl) q Z)<|Y (gG N_ (hi:=q))<|Y (kc call37 (p _))<|O iW<|Cn ?_ ?_<;>intro c
  ·have n:=not_not c;rw[d n];exact Sz U<|aC<|Rt<|Qq
  have n:=pJ c;refine aA<|Rd V<|Y kp<|Da ?_;exact⟨k+1,⟨X,LD f g n⟩,X,Wk⟩
 have m:k=l.length:=by have:=b_ e;omega
 subst m;rw[S5 f];exact aP<|Sz U<|aC<|Rt<|Qq
theorem Ca(s:m9)(H:aF)(hs:xP s):RC 169 [av (lI s)] (bv (AR s)) H:=by
 refine aS.pure ?_ F_ H;have hX:AR s=((decide (s.idx=0)&&decide (((s.sig.map S_).length:Int)=0))&&decide (((s.path.map S_).length:Int)=0)):=by
  rw[AR,Bool.and_assoc]
  grind
 refine Bd func169 Z ntmps169<|C (kb 1)<|O U<|S<|aR (t:=2) (n:=18) (A_:=AR s) ?_ ?_
 ·all_goals refine Y (bA CY)<|Y (bS M_)<|Y cD<|Dm ?_<;>(refine Sp 6 (fun d=>?_) fun d=>?_)<;>(first|contradiction|refine M<|M<|M<|M ?_|refine J (bA vU)<|J (bS aH)<|J (fY aE)<|J cD ?_)<;>refine Y cE<|Dm ?_<;>(refine Sp 12 (fun c=>?_) fun c=>?_)<;>(first|refine M<|M<|M<|M ?_|refine J (bA vT)<|J (bS aH)<|J (fY aE)<|J cD ?_)<;>refine Y cE<|Da ?_<;>exact Gj (h:=by simp_all)
 exact aC<|Rt<|Qq
theorem SG(s:m9)(H:aF)(n:xP s):RC 116 [av (lI s)] (bv (kZ s)) H:=by
 refine aS.pure ?_ F_ H;have o:=fun H=>Ca s H n;obtain ⟨⟨i1,i2⟩,q,u⟩:=n;have g:=fun H=>EW s.sig H q;have h:=fun H=>EW s.path H u;have t:decide (s.idx<256)=decide (s.idx<=255):=by
  grind
 have k:kZ s=(AR s||(((((decide (0<=s.idx)&&decide (s.idx<=255))&&decide (((s.sig.map S_).length:Int)=18))&&decide (((s.path.map S_).length:Int)<=8))&&s.sig.all l9)&&s.path.all l9)):=by rw[kZ,t]
 obtain ⟨z,f⟩:∃z,z=AR s:=X_;obtain ⟨d1,e⟩:∃d,d=s.sig.all l9:=X_;obtain ⟨d2,c⟩:∃d,d=s.path.all l9:=X_;rw[<-f]at o k;rw[<-e]at g k;rw[<-c]at h k;clear f e c;refine Bd func116 Z ntmps116<|C (kb 1)<|O U<|S<|aR (t:=2) (n:=41) (A_:=kZ s) ?_ ?_
 ·all_goals refine Y (by exact aV Z gO sizeOf48 Z Z Z Z (by simp only[Zl,S_];rfl) Z) ?_
  all_goals refine Y (kc call169 (o _))<|Dm ?_<;>(refine Sp 5 (fun v=>?_) fun v=>?_)<;>(first|contradiction|refine M<|M<|M<|M ?_|refine J (bA CY)<|J (bS M_)<|J DK<|J V ?_)<;>(first|refine Sp 9 (fun p=>?_) fun p=>?_|refine kN (t:=9) Z ?_)<;>(first|contradiction|refine M ?_|refine Fu ?_|refine J (bA CY) ?_)<;>(first|refine M ?_|refine Fu ?_|refine J (bS M_) ?_)<;>(first|refine M ?_|refine Fu ?_|refine J IN ?_)<;>(first|refine M<|M ?_|refine J cE<|J V ?_)<;>(first|refine Sp 14 (fun m=>?_) fun m=>?_|refine kN (t:=14) Z ?_)<;>(first|contradiction|refine M ?_|refine Fu ?_|refine J (bA vU) ?_)<;>(first|refine M ?_|refine Fu ?_|refine J (bS aH) ?_)<;>(first|refine M ?_|refine Fu ?_|refine J (fY aE) ?_)<;>(first|refine M ?_|refine Fu ?_|refine J cD ?_)<;>(first|refine M<|M ?_|refine J cE<|J V ?_)<;>(first|refine Sp 20 (fun i=>?_) fun i=>?_|refine kN (t:=20) Z ?_)<;>(first|contradiction|refine M ?_|refine Fu ?_|refine J (bA vT) ?_)<;>(first|refine M ?_|refine Fu ?_|refine J (bS aH) ?_)<;>(first|refine M ?_|refine Fu ?_|refine J (fY aE) ?_)<;>(first|refine M ?_|refine Fu ?_|refine J IN ?_)<;>(first|refine M<|M ?_|refine J cE<|J V ?_)<;>(first|refine Sp 26 (fun j=>?_) fun j=>?_|refine kN (t:=26) Z ?_)<;>(first|contradiction|refine M ?_|refine Fu ?_|refine J (bA vU) ?_)<;>(first|refine M ?_|refine Fu ?_|refine J (bS aH) ?_)<;>(first|refine M ?_|refine Fu ?_|refine J (kc aEN (g _)) ?_)<;>(first|refine M<|M ?_|refine J cE<|J V ?_)<;>(first|refine Sp 31 (fun l=>?_) fun l=>?_|refine kN (t:=31) Z ?_)<;>(first|contradiction|refine M ?_|refine Fu ?_|refine J (bA vT) ?_)<;>(first|refine M ?_|refine Fu ?_|refine J (bS aH) ?_)<;>(first|refine M ?_|refine Fu ?_|refine J (kc aEN (h _)) ?_)<;>(first|refine M ?_|refine J cE ?_)<;>refine Y cE<|Da ?_<;>(exact⟨⟨_,Z,G_⟩,Z,Z,Z⟩)
 exact aC<|Rt<|Qq
def sL:List B_->Bool
 |a::b::r=>kC a b&&sL (b::r)
 |_=>true
theorem fi:∀(l),(fK l).length<=l.length
 | []=>j6 _
 | [x]=>j6 _
 |x::y::r=>by
  have ih:=fi (y::r);show (if x=y then fK _ else x::fK _).length<=_
  grind
theorem R4:∀(l),Jh l=sL l
 | []=>rfl
 | [x]=>rfl
 | x::y::r=>by
  have d:=R4 (y::r);have hl:=fi (y::r);rw[Jh,g_]at d |-;show ((!kC y x&&nJ _)&&decide (((if x=y then fK _ else x::fK _).length:Int)=_))=(kC x y&&sL _);by_cases e:x=y
  ·rw[b6 e,e,FI,Bool.false_and,decide_eq_false (by have h9:(y::y::r).length=(y::r).length+1:=rfl;omega),Bool.and_false]
  rw[Bool.and_assoc];have h1:(!kC y x)=kC x y:=by
   cases c:kC x y
   ·cases b:kC y x
    ·exact absurd (B8 c b) e
    rfl
   cases b:kC y x
   ·rfl
   have:=FH c b;rw[FI]at this;cases this
  simp_all
theorem wa{l:List _}{k}{a b}(f:l[k]?=some a)(c:l[k+1]?=some b):sL (l.drop k)=(kC a b&&sL (l.drop (k+1))):=by obtain ⟨h,e⟩:=m_.1 f;obtain ⟨g,d⟩:=m_.1 c;rw[List.drop_eq_getElem_cons h,List.drop_eq_getElem_cons g,e,d];rfl
theorem XF{l}(h:l.length<=1):sL l=true:=by
 match l,h with
 | [],_=>rfl
 | [a],_=>rfl
def Yj(p:GPriv):Bool:=(((decide (200<(p.name.size:Int))||decide (200<(p.reason.size:Int)))||decide (16<((p.sources.map S_).length:Int)))||decide (200<((p.trace.map kA).length:Int)))||!kZ p.sl
def ll(q:Int×Int):Bool:=YX q.1 q.2
def sO(s:B_):Bool:=!KD s
def A5(p:GPriv):Bool:=!Yj p&&(p.sources.all sO&&p.trace.all ll)
theorem Gw{p}(h:Yj p=true):A5 p=false:=by rw[A5,h];rfl
theorem Gv{p}(h:p.sources.all sO=false):A5 p=false:=by rw[A5,h,Bool.false_and,Bool.and_false]
theorem Gu{p}(h:p.trace.all ll=false):A5 p=false:=by rw[A5,h,Bool.and_false,Bool.and_false]
theorem Gt{p}(a:Yj p=false)(c:p.sources.all sO=true)(b:p.trace.all ll=true):A5 p=true:=by rw[A5,a,c,b];rfl
theorem bn(p:GPriv)(H:aF)(e_:lp p):RC 117 [av (wV p)] (bv (A5 p)) H:=by
 refine aS.pure ?_ F_ H;have N:=fun H=>SG p.sl H e_.2.2.2.2;obtain ⟨q1,q2,⟨q3,B⟩,q4,_⟩:=e_;have hms:(p.sources.map S_).length=p.sources.length:=g_ _;have hmt:(p.trace.map kA).length=p.trace.length:=g_ _;have K:=fun h=>Gw (p:=p) h;have G:=fun h=>Gv (p:=p) h;have F:=fun h=>Gu (p:=p) h;have E:=fun P Q R=>Gt (p:=p) P Q R;obtain ⟨f,u⟩:∃f,f=kZ p.sl:=X_;have hX:Yj p=((((decide (200<(p.name.size:Int))||decide (200<(p.reason.size:Int)))||decide (16<((p.sources.map S_).length:Int)))||decide (200<((p.trace.map kA).length:Int)))||!f):=by rw[Yj,<-u]
 rw[<-u]at N;refine Bd func117 Z ntmps117<|C (kb 1)<|O U<|S<|S<|aR (t:=32) (n:=32) (A_:=Yj p) ?_ ?_
 ·all_goals refine Y (bA H9)<|Y (bS N_)<|Y (gR U_)<|Y jK<|Dm ?_<;>(refine Sp 9 (fun o_=>?_) fun o_=>?_)<;>(first|contradiction|refine M<|M<|M<|M ?_|refine J (bA H8)<|J (bS N_)<|J (gR U_)<|J jK ?_)<;>refine Y cE<|Dm ?_<;>(refine Sp 15 (fun c_=>?_) fun c_=>?_)<;>(first|contradiction|refine M<|M<|M<|M ?_|refine J (bA yC)<|J (bS aH)<|J (fY aE)<|J jK ?_)<;>refine Y cE<|Dm ?_<;>(refine Sp 21 (fun A=>?_) fun A=>?_)<;>(first|contradiction|refine M<|M<|M<|M ?_|refine J (bA sY)<|J (bS jV)<|J (fY fW)<|J jK ?_)<;>refine Y cE<|Dm ?_<;>(refine Sp 27 (fun I=>?_) fun I=>?_)<;>(first|contradiction|refine M<|M<|M<|M ?_|refine J (bA EU)<|J (wA gO sizeOf48)<|J (kc call116 (N _))<|J iW ?_)<;>refine O cE ?_<;>(exact⟨⟨_,Z,G_⟩,Z,Z,Z⟩)
 refine Cn ?_ ?_<;>intro v
 ·have z:=v;rw[K z];exact Sz U<|aC<|Rt<|Qq
 have z:=v;refine aA<|S<|Sz U<|aD<|bC (σ:=Nat) (fun k=>([(1,.ref 1 0 0 0),(3,iv (k:Int))],[(1,bx 7 51 ((wV p).map .pv))])) (fun k=>k<=p.sources.length/\∀j,j<k->∀b,p.sources[j]?=some b->sO b=true) (fun k=>p.sources.length - k) 0 ⟨X,X⟩ ?_ ?_
 ·exact E0
 rintro k ⟨L,e⟩;refine S<|C V<|Y (bA yC)<|Y (bS aH)<|Y (fY aE)<|O cM<|Cn ?_ ?_<;>intro x
 ·have m:k<p.sources.length:=by have:=b9 x;omega
  obtain ⟨s,i⟩:=aU m;have w:=cC (f:=S_) i;have hsz:=B s (m7 i);have g:=fun h=>ZC (p:=sO) i h;refine aA<|S<|aD<|C (bA yC)<|Y (bS aH)<|Y V<|Y (kx bH w)<|Y (gG N_ (hi:=w))<|Y (gR U_)<|O jK<|Cn ?_ ?_<;>intro o
  ·have d:sO s=false:=by rw[sO,KD,o];rfl
   rw[G (g d)];exact Sz U<|aC<|Rt<|Qq
  have d:sO s=true:=by rw[sO,KD,o];rfl
  refine aA<|Rd V<|Y kp<|Da ?_;exact⟨k+1,⟨X,LD e i d⟩,X,E0⟩
 have l:k=p.sources.length:=by have:=b_ x;omega
 subst l;have D:=S5 e;refine aP<|S<|Sz U<|aD<|bC (σ:=Nat) (fun k=>([(1,.ref 1 0 0 0),(4,iv (k:Int))],[(1,bx 7 51 ((wV p).map .pv))])) (fun k=>k<=p.trace.length/\∀j,j<k->∀b,p.trace[j]?=some b->ll b=true) (fun k=>p.trace.length - k) 0 ⟨X,X⟩ ?_ ?_
 ·exact E0
 clear e L;rintro k ⟨L,e⟩;refine S<|C V<|Y (bA sY)<|Y (bS jV)<|Y (fY fW)<|O cM<|Cn ?_ ?_<;>intro n
 ·have m:k<p.trace.length:=by have:=b9 n;omega
  obtain ⟨q,i⟩:=aU m;have w:=cC (f:=kA) i;have d_:=fun H=>Gd q.1 q.2 H;have g:=fun h=>ZC (p:=ll) i h;refine aA<|S<|aD<|C (bA sY)<|Y (bS jV)<|Y V<|Y (kx TM w)<|Y (by exact eV Z eC sizeOf104 Z w (by simp only[Zl,S_];rfl) Z)<|Y (kc aEH (d_ _))<|O iW ?_;refine Cn ?_ ?_<;>intro t
  ·have d:=not_not t;rw[F (g d)];exact Sz U<|aC<|Rt<|Qq
  have d:=pJ t;refine aA<|Rd V<|Y kp<|Da ?_;exact⟨k+1,⟨X,LD e i d⟩,X,E0⟩
 have l:k=p.trace.length:=by have:=b_ n;omega
 subst l;rw[E z D (S5 e)];exact aP<|Sz U<|aC<|Rt<|Qq
def Zp(r:j8):Bool:=decide (r.kind=1)||(decide (r.kind=3)&&decide (r.order=3))
def o1G(r:j8):Bool:=!Zp r&&decide (0<((r.edits.map bJ).length:Int))
def o2G(r:j8):Bool:=Zp r&&!decide ((dX r.edits).2=0)
def o3a(r:j8):Bool:=decide (r.kind=2)||decide (r.kind=3)
def o3G(r:j8):Bool:=if o3a r=true then !l9 r.target else !decide (r.target=a6)
def o4G(r:j8):Bool:=(decide (r.kind=3)&&(decide (r.order<1)||decide (4<r.order)))||(!decide (r.kind=3)&&!decide (r.order=0))
def Zn(r:j8):Bool:=(decide (r.kind=4)&&(!cF r.from'||decide (r.from'=r.branch)))||(!decide (r.kind=4)&&!decide (r.from'=a6))
def o6G(r:j8):Bool:=decide (r.kind=2)||!r.yes
def DP(r:j8):Bool:=!o1G r&&(!o2G r&&(!o3G r&&(!o4G r&&(!Zn r&&o6G r))))
theorem Rj{r}(h:o1G r=true):DP r=false:=by rw[DP,h];rfl
theorem Ri{r}(h:o2G r=true):DP r=false:=by rw[DP];all_goals simp_all
theorem Rh{r}(h:o3G r=true):DP r=false:=by rw[DP];all_goals simp_all
theorem Rf{r}(h:o4G r=true):DP r=false:=by rw[DP];all_goals simp_all
theorem Re{r}(h:Zn r=true):DP r=false:=by rw[DP];all_goals simp_all
theorem Rc{r}(e:o1G r=false)(d:o2G r=false)(b:o3G r=false)(c:o4G r=false)(a:Zn r=false):DP r=o6G r:=by rw[DP,e,d,b,c,a];rfl
theorem Rl(r:j8)(H:aF)(hr:mI r)(hrf:∀e∈r.edits,e.refs.length<2^40):RC 115 [av (dR r)] (bv (DP r)) H:=by
 refine aS.pure ?_ F_ H;obtain ⟨_,⟨b1,b2,b3⟩,_,⟨e1,e2⟩,_⟩:=hr;have A:=fun H=>QP r.edits H e1 e2 hrf;have o_:=fun H=>Vv r.target X H;have E:=fun H=>lE r.from' H X
 have n:=fun h=>Rj (r:=r) h;have hn2:=fun h=>Ri (r:=r) h;have hn3:=fun h=>Rh (r:=r) h;have hn4:=fun h=>Rf (r:=r) h;have hn5:=fun h=>Re (r:=r) h;have hye:=fun v_ u_ T f_ A_=>Rc (r:=r) v_ u_ T f_ A_;have hX0:Zp r=(decide (r.kind=1)||(decide (r.kind=3)&&decide (r.order=3))):=rfl;have B:o1G r=(!Zp r&&decide (0<((r.edits.map bJ).length:Int))):=rfl;have hX2:o2G r=(Zp r&&!decide ((dX r.edits).2=0)):=rfl;have p:o3a r=(decide (r.kind=2)||decide (r.kind=3)):=rfl;have hX3:o3G r=if o3a r=true then !l9 r.target else !decide (r.target=a6):=rfl
 have hX4:o4G r=((decide (r.kind=3)&&(decide (r.order<1)||decide (4<r.order)))||(!decide (r.kind=3)&&!decide (r.order=0))):=rfl;obtain ⟨nm,t⟩:∃nm,nm=cF r.from':=X_
 have s:Zn r=((decide (r.kind=4)&&(!nm||decide (r.from'=r.branch)))||(!decide (r.kind=4)&&!decide (r.from'=a6))):=by rw[Zn,<-t]
 rw[<-t]at E;have Q:o6G r=(decide (r.kind=2)||!r.yes):=rfl;obtain ⟨te,R⟩:∃te,te=dX r.edits:=X_;rw[<-R]at A hX2;obtain ⟨ij,e_⟩:∃ij,ij=l9 r.target:=X_;rw[<-e_]at o_ hX3;clear t R e_;obtain ⟨o0,h0⟩:∃o,o=Zp r:=X_;obtain ⟨o1,v_⟩:∃o,o=o1G r:=X_;obtain ⟨W,u_⟩:∃o,o=o2G r:=X_;obtain ⟨oa,ha⟩:∃o,o=o3a r:=X_;obtain ⟨F,T⟩:∃o,o=o3G r:=X_;obtain ⟨o4,f_⟩:∃o,o=o4G r:=X_;obtain ⟨o5,A_⟩:∃o,o=Zn r:=X_;obtain ⟨o6,h6⟩:∃o,o=o6G r:=X_;rw[<-h0]at hX0 B hX2;rw[<-v_]at B n hye;rw[<-u_]at hX2 hn2 hye;rw[<-ha]at p hX3;rw[<-T]at hX3 hn3 hye;rw[<-f_]at hX4 hn4 hye;rw[<-A_]at s hn5 hye;rw[<-h6]at Q hye;clear h0 v_ u_ ha T f_ A_ h6;obtain ⟨ow,P⟩:∃o,o=DP r:=X_;rw[<-P]at n hn2 hn3 hn4 hn5 hye |-;clear P;refine Bd func115 Z ntmps115<|C (kb 1)<|O U<|S<|aR (t:=3) (n:=16) (A_:=o0) ?_ ?_
 ·all_goals refine Y (bA oH)<|Y (bS M_)<|Y cD<|Dm ?_<;>(refine Sp 9 (fun h9=>?_) fun h9=>?_)<;>(first|contradiction|refine M<|M<|M<|M ?_|refine J (bA oH)<|J (bS M_)<|J cD<|J V ?_)<;>(first|refine Sp 13 (fun h13=>?_) fun h13=>?_|refine kN (t:=13) Z ?_)<;>(first|contradiction|refine M ?_|refine Fu ?_|refine J (bA yB) ?_)<;>(first|refine M ?_|refine Fu ?_|refine J (bS M_) ?_)<;>(first|refine M ?_|refine Fu ?_|refine J cD ?_)<;>(first|refine M ?_|refine J cE ?_)<;>refine Y cE<|Da ?_<;>exact Gj (h:=by simp_all)
 refine S<|S<|aR (t:=26) (n:=9) (A_:=o1) ?_ ?_
 ·all_goals refine Y V<|Y iW<|Dm ?_<;>(refine Sp 21 (fun h21=>?_) fun h21=>?_)<;>(first|contradiction|refine M<|M<|M<|M ?_|refine J (bA CW)<|J (bS oS)<|J (fY eS)<|J jK ?_)<;>refine O cE ?_<;>exact Gj (h:=by simp_all)
 refine Cn ?_ ?_<;>intro I
 ·rw[n I];exact Sz U<|aC<|Rt<|Qq
 have k1:=I;refine aA<|eM (fun(_:Unit)=>([(1,.ref 1 0 0 0)],[(1,bx 21 53 ((dR r).map .pv))])) (fun _=>W=false) ?_ ?_
 ·refine Sz V<|Cn ?_ ?_<;>intro hc2
  ·refine C (bA CW)<|Y (bS oS)<|Y (kc aEO (A _))<|Y V<|Y dH<|Y dH<|Y U<|O U<|C V<|O zX<|Cn ?_ ?_<;>intro hc3
   ·have v:W=true:=by rw[hX2];simp_all
    rw[hn2 v];exact Sz U<|aC<|Rt<|Qq
   have v:W=false:=by rw[hX2];simp_all
   refine aA ?_;exact⟨(),v,E0⟩
  have v:W=false:=by rw[hX2,hc2];rfl
  refine aA ?_;exact⟨(),v,E0⟩
 rintro _ v;refine eM (fun(_:Unit)=>([(1,.ref 1 0 0 0)],[(1,bx 21 53 ((dR r).map .pv))])) (fun _=>F=false) ?_ ?_
 ·refine S<|aR (t:=43) (n:=9) (A_:=oa) ?_ ?_
  ·all_goals refine Y (bA oH)<|Y (bS M_)<|Y cD<|Dm ?_<;>(refine Sp 39 (fun D=>?_) fun D=>?_)<;>(first|contradiction|refine M<|M<|M ?_|refine J (bA oH)<|J (bS M_)<|J cD ?_)<;>refine O cE ?_<;>exact Gj (h:=by(rw[p,D];rfl))
  refine Cn ?_ ?_<;>intro z
  ·have y_:=z;rw[y_]at hX3;refine C (bA CV)<|Y (bS N_)<|Y (kc call37 (o_ _))<|O iW<|Cn ?_ ?_<;>intro c_
   ·have k3:F=true:=by rw[hX3,c_];rfl
    rw[hn3 k3];exact Sz U<|aC<|Rt<|Qq
   have k3:F=false:=by rw[hX3,c_];rfl
   refine aA ?_;exact⟨(),k3,E0⟩
  have y_:=z;rw[y_]at hX3;refine C (bA CV)<|Y (bS N_)<|O HD<|Cn ?_ ?_<;>intro K
  ·have k3:F=true:=by rw[hX3,K];rfl
   rw[hn3 k3];exact Sz U<|aC<|Rt<|Qq
  have k3:F=false:=by rw[hX3,K];rfl
  refine aA ?_;exact⟨(),k3,E0⟩
 rintro _ k3;refine S<|S<|aR (t:=73) (n:=27) (A_:=o4) ?_ ?_
 ·all_goals refine Y (bA oH)<|Y (bS M_)<|Y cD<|Dm ?_<;>(refine Sp 54 (fun h54=>?_) fun h54=>?_)<;>(first|contradiction|refine M<|M<|M<|M ?_|refine J (bA yB)<|J (bS M_)<|J cM<|J V ?_)<;>(first|refine Sp 58 (fun y=>?_) fun y=>?_|refine kN (t:=58) Z ?_)<;>(first|contradiction|refine M ?_|refine Fu ?_|refine J (bA yB) ?_)<;>(first|refine M ?_|refine Fu ?_|refine J (bS M_) ?_)<;>(first|refine M ?_|refine Fu ?_|refine J jK ?_)<;>(first|refine M ?_|refine J cE ?_)<;>refine Y cE<|Dm ?_<;>(refine Sp 64 (fun G=>?_) fun G=>?_)<;>(first|contradiction|refine M<|M<|M<|M ?_|refine J (bA oH)<|J (bS M_)<|J zX<|J V ?_)<;>(first|refine Sp 68 (fun h68=>?_) fun h68=>?_|refine kN (t:=68) Z ?_)<;>(first|contradiction|refine M ?_|refine Fu ?_|refine J (bA yB) ?_)<;>(first|refine M ?_|refine Fu ?_|refine J (bS M_) ?_)<;>(first|refine M ?_|refine Fu ?_|refine J zX ?_)<;>(first|refine M ?_|refine J cE ?_)<;>refine O cE ?_<;>exact Gj (h:=by first|(rw[hX4,h54,y];rfl)|(rw[hX4,h54,y,G];rfl)|(rw[hX4,h54]at *;simp_all;done))
 refine Cn ?_ ?_<;>intro N
 ·rw[hn4 N];exact Sz U<|aC<|Rt<|Qq
 have k4:=N;refine aA<|S<|S<|aR (t:=99) (n:=30) (A_:=o5) ?_ ?_
 ·all_goals refine Y (bA oH)<|Y (bS M_)<|Y cD<|Dm ?_<;>(refine Sp 77 (fun w=>?_) fun w=>?_)<;>(first|contradiction|refine M<|M<|M<|M<|M ?_|refine J (bA wT)<|J (bS N_)<|J (kc fT (E _))<|J iW<|J V ?_)<;>(first|refine Sp 82 (fun u=>?_) fun u=>?_|refine kN (t:=82) Z ?_)<;>(first|contradiction|refine M ?_|refine Fu ?_|refine J (bA wT) ?_)<;>(first|refine M ?_|refine Fu ?_|refine J (bS N_) ?_)<;>(first|refine M ?_|refine Fu ?_|refine J (bA CX) ?_)<;>(first|refine M ?_|refine Fu ?_|refine J (bS N_) ?_)<;>(first|refine M ?_|refine Fu ?_|refine J xA ?_)<;>(first|refine M ?_|refine J cE ?_)<;>refine Y cE<|Dm ?_<;>(refine Sp 90 (fun d_=>?_) fun d_=>?_)<;>(first|contradiction|refine M<|M<|M<|M ?_|refine J (bA oH)<|J (bS M_)<|J zX<|J V ?_)<;>(first|refine Sp 94 (fun z_=>?_) fun z_=>?_|refine kN (t:=94) Z ?_)<;>(first|contradiction|refine M ?_|refine Fu ?_|refine J (bA wT) ?_)<;>(first|refine M ?_|refine Fu ?_|refine J (bS N_) ?_)<;>(first|refine M ?_|refine Fu ?_|refine J HD ?_)<;>(first|refine M ?_|refine J cE ?_)<;>refine O cE ?_<;>exact Gj (h:=by first|(rw[s,w,u];rfl)|(rw[s,w,u,d_];rfl)|(clear n hn2 hn3 hn4 hn5 hye;simp_all;done))
 refine Cn ?_ ?_<;>intro L
 ·rw[hn5 L];exact Sz U<|aC<|Rt<|Qq
 rw[hye k1 v k3 k4 L];refine aA<|S<|aR (t:=2) (n:=10) (A_:=o6) ?_ ?_
 ·all_goals refine Y (bA oH)<|Y (bS M_)<|Y cD<|Dm ?_<;>(refine Sp 103 (fun q=>?_) fun q=>?_)<;>(first|contradiction|refine M<|M<|M ?_|refine J (bA H7)<|J (bS nC)<|J iW ?_)<;>refine Y cE<|Da ?_<;>exact Gj (h:=by(rw[Q,q];rfl))
 exact aC<|Rt<|Qq
end Go.Proofs.YtopnleflllkbmaaGreatDoor
section
set_option format.width 2000
namespace Go.Proofs.YtopnleflllkbmaaGreatDoor
open Go.Proofs.Tryz
open Go.Abs
theorem Zk(q):YH q=!ll q:=by rw[Bool.eq_iff_iff];simp[YH,ll,YX,Bool.or_eq_true,r8,Bool.and_eq_false_iff,q6];omega
theorem ve{α:Type}{p q}(h:∀x,p x=!q x):∀(l:List α),l.any p=!l.all q
 | []=>rfl
 |x::l=>by grind
theorem aBP(r):pz r=!(A5 r.priv&&kZ r.sl):=by
 rw[pz,A5,Yj,ve Zk,ve (q:=sO) (fun x=>by rw[sO,Bool.not_not]) r.priv.sources];show (((((!r.priv.trace.all _||!(!(decide _||(decide _||false))))||_)||_)||_)||_||_)=_
 grind
def Xe(r:j8):Bool:=decide (1<=r.kind)&&decide (r.kind<=5)
def vA(r:j8):Bool:=(((((((((decide (r.kind<1)||decide (5<r.kind))||decide (r.author<0))||decide (59<r.author))||decide (r.number<1))||decide (128<r.number))||decide (r.clock<1))||decide (1000000<r.clock))||!cF r.branch)||decide (16<((r.parents.map S_).length:Int)))||!r.parents.all l9
theorem aBO(r):(!vA r&&sL r.parents)=(Xe r&&!gh r):=by
 have g:decide (r.kind<1)=!decide (1<=r.kind):=G_
 have c:decide (5<r.kind)=!decide (r.kind<=5):=G_
 have d:decide (r.author<0)=!decide (0<=r.author):=G_
 have f:decide (59<r.author)=!decide (r.author<=59):=G_
 have e:decide (r.number<1)=!decide (1<=r.number):=G_
 have a:decide (128<r.number)=!decide (r.number<=128):=G_
 have h:decide (r.clock<1)=!decide (1<=r.clock):=G_
 have b:decide (1000000<r.clock)=!decide (r.clock<=1000000):=G_
 rw[vA,Xe,gh,mK,mK,mK,R4,g,c,d,f,e,a,h,b];simp[Bool.not_or,Bool.not_not,Bool.not_and,Bool.and_assoc]
theorem aAj:¬ (dX []).2=0:=E_
theorem Ze{r:j8}(i:Xe r=true):DP r=(((jW r.edits).2&&MN r)&&Xf r):=by
 rw[Xe,j0,k_,k_]at i;have p:(r.edits.map bJ).length=r.edits.length:=g_ _;have n:(jW r.edits).2=(decide (r.edits.length=0)||decide ((dX r.edits).2=0)):=by
  rw[jW]
  grind
 have k:decide (0<((r.edits.map bJ).length:Int))=!decide (r.edits.length=0):=by
  grind
 have s:r.edits.length=0->decide ((dX r.edits).2=0)=false:=fun h=>by
  rw[List.eq_nil_of_length_eq_zero h];rfl
 rw[Xf,n,DP,o1G,o2G,o3G,o4G,Zn,o6G,k];obtain ⟨l,m⟩:∃l,l=decide (r.edits.length=0):=X_;obtain ⟨g,e⟩:∃g,g=decide ((dX r.edits).2=0):=X_;have a:l=true->g=false:=fun h=>by simp_all
 rw[<-m,<-e];clear m e s k n p;have d:r.kind=1\/r.kind=2\/r.kind=3\/r.kind=4\/r.kind=5:=X
 have ea:decide (r.target=a6)=decide (r.target=a6):=rfl;obtain ⟨y,hy⟩:∃y,y=r.yes:=X_;have o:decide (r.order<1)=!decide (1<=r.order):=G_
 have j:decide (4<r.order)=!decide (r.order<=4):=G_
 rw[Zp,o3a,MN,ZK,My,Bj,Cw,Mz,Vz,o,j,mK];clear o j i;rcases d with h|h|h|h|h
 ·simp only[h];by_cases c1:r.target=a6<;>by_cases c2:r.order=0<;>by_cases c3:r.from'=a6<;>cases b:r.yes<;>cases l<;>cases g<;>simp[c1,c2,c3,b]at a |-
 ·simp only[h];by_cases c2:r.order=0<;>by_cases c3:r.from'=a6<;>cases b:l9 r.target<;>cases l<;>cases g<;>simp[c2,c3,b]at a |-
 ·simp only[h];by_cases c2:r.order=3
  ·rw[c2];by_cases c3:r.from'=a6<;>cases b:l9 r.target<;>cases f:r.yes<;>cases l<;>cases g<;>simp[c3,b,f]at a |-
  cases c1:decide (1<=r.order)<;>cases q:decide (r.order<=4)<;>by_cases c3:r.from'=a6<;>cases b:l9 r.target<;>cases f:r.yes<;>cases l<;>cases g<;>simp[c1,c2,c3,b,f,q]at a |-
 ·simp only[h];by_cases c1:r.target=a6<;>by_cases c2:r.order=0<;>by_cases c3:r.from'=r.branch<;>cases b:cF r.from'<;>cases f:r.yes<;>cases l<;>cases g<;>simp[c1,c2,c3,b,f]at a |-
 simp only[h];by_cases c1:r.target=a6<;>by_cases c2:r.order=0<;>by_cases c3:r.from'=a6<;>cases b:r.yes<;>cases l<;>cases g<;>simp[c1,c2,c3,b]at a |-
theorem Xg(r):(!vA r&&(sL r.parents&&((DP r&&kZ r.sl)&&A5 r.priv)))=gW r:=by
 rw[<-Bool.and_assoc,aBO,gW,aBP];by_cases b:Xe r=true
 ·rw[Ze b]
  grind
 have a:Xe r=false:=F_
 have f:MN r=false:=by
  cases e:MN r
  ·rfl
  obtain ⟨c,d⟩:=BG e;rw[Xe,decide_eq_true c,decide_eq_true d]at a;cases a
 rw[a,f,Bool.false_and,Bool.false_and,Bool.and_false,Bool.false_and]
end Go.Proofs.YtopnleflllkbmaaGreatDoor
end
namespace Go.Proofs.YtopnleflllkbmaaGreatDoor
open Go.Proofs.Tryz
open Go.Abs Go.Lib
theorem ak(r:j8)(H:aF)(hr:mI r)(u_:∀e∈r.edits,e.refs.length<2^40):RC 69 [av (dR r)] (bv (gW r)) H:=by
 refine aS.pure ?_ F_ H;have hml:(r.parents.map S_).length=r.parents.length:=g_ _;have hown:=fun H=>Rl r H hr u_;have z:=fun H=>bn r.priv H hr.2.2.2.2.2;have q:=fun H=>SG r.sl H hr.2.2.2.2.1;have o:=fun H=>lE r.branch H (by have:=hr.2.1.1;omega);have p:=fun H=>EW r.parents H hr.2.2.1;have hpl:=hr.2.2.1.1;have hE:=Xg r;have T:vA r=((((((((((decide (r.kind<1)||decide (5<r.kind))||decide (r.author<0))||decide (59<r.author))||decide (r.number<1))||decide (128<r.number))||decide (r.clock<1))||decide (1000000<r.clock))||!cF r.branch)||decide (16<((r.parents.map S_).length:Int)))||!r.parents.all l9):=rfl;obtain ⟨v,W⟩:∃v,v=gW r:=X_;obtain ⟨a,y_⟩:∃a,a=vA r:=X_;obtain ⟨v_,w⟩:∃a,a=DP r:=X_;obtain ⟨E,hfo2⟩:∃a,a=kZ r.sl:=X_;obtain ⟨B,hpr2⟩:∃a,a=A5 r.priv:=X_;obtain ⟨nm,hnm2⟩:∃a,a=cF r.branch:=X_;obtain ⟨dg,hdg2⟩:∃a,a=r.parents.all l9:=X_;rw[<-W]at hE |-;rw[<-y_]at hE T;rw[<-w]at hE hown;rw[<-hfo2]at hE q;rw[<-hpr2]at hE z;rw[<-hnm2]at T o;rw[<-hdg2]at T p;clear W y_ w hfo2 hpr2 hnm2 hdg2;refine Bd func69 Z ntmps69<|C (kb 1)<|O U<|S<|S<|aR (t:=59) (n:=66) (A_:=a) ?_ ?_
 ·all_goals refine Y (bA oH)<|Y (bS M_)<|Y cM<|Dm ?_<;>(refine Sp 7 (fun h7=>?_) fun h7=>?_)<;>(first|contradiction|refine M<|M<|M ?_|refine J (bA oH)<|J (bS M_)<|J jK ?_)<;>refine Y cE<|Dm ?_<;>(refine Sp 12 (fun D=>?_) fun D=>?_)<;>(first|contradiction|refine M<|M<|M ?_|refine J (bA ET)<|J (bS M_)<|J cM ?_)<;>refine Y cE<|Dm ?_<;>(refine Sp 17 (fun e_=>?_) fun e_=>?_)<;>(first|contradiction|refine M<|M<|M ?_|refine J (bA ET)<|J (bS M_)<|J jK ?_)<;>refine Y cE<|Dm ?_<;>(refine Sp 22 (fun K=>?_) fun K=>?_)<;>(first|contradiction|refine M<|M<|M ?_|refine J (bA AC)<|J (bS M_)<|J cM ?_)<;>refine Y cE<|Dm ?_<;>(refine Sp 27 (fun N=>?_) fun N=>?_)<;>(first|contradiction|refine M<|M<|M ?_|refine J (bA AC)<|J (bS M_)<|J jK ?_)<;>refine Y cE<|Dm ?_<;>(refine Sp 32 (fun I=>?_) fun I=>?_)<;>(first|contradiction|refine M<|M<|M ?_|refine J (bA ES)<|J (bS M_)<|J cM ?_)<;>refine Y cE<|Dm ?_<;>(refine Sp 37 (fun L=>?_) fun L=>?_)<;>(first|contradiction|refine M<|M<|M ?_|refine J (bA ES)<|J (bS M_)<|J jK ?_)<;>refine Y cE<|Dm ?_<;>(refine Sp 42 (fun o_=>?_) fun o_=>?_)<;>(first|contradiction|refine M<|M<|M<|M ?_|refine J (bA CX)<|J (bS N_)<|J (kc fT (o _))<|J iW ?_)<;>refine Y cE<|Dm ?_<;>(refine Sp 48 (fun R=>?_) fun R=>?_)<;>(first|contradiction|refine M<|M<|M<|M ?_|refine J (bA oG)<|J (bS aH)<|J (fY aE)<|J jK ?_)<;>refine Y cE<|Dm ?_<;>(refine Sp 54 (fun f_=>?_) fun f_=>?_)<;>(first|contradiction|refine M<|M<|M<|M ?_|refine J (bA oG)<|J (bS aH)<|J (kc aEN (p _))<|J iW ?_)<;>refine O cE ?_<;>(exact⟨⟨_,Z,G_⟩,Z,Z,Z⟩)
 refine Cn ?_ ?_<;>intro y
 ·have d_:=y;rw[d_]at hE;rw[<-hE];exact Sz U<|aC<|Rt<|Qq
 have d_:=y;rw[d_]at hE;have hE:(sL r.parents&&((v_&&E)&&B))=v:=hE;refine aA<|S<|Sz U<|aD<|bC (σ:=Nat) (fun k=>([(1,.ref 1 0 0 0),(3,iv ((k:Int)+1))],[(1,bx 21 53 ((dR r).map .pv))])) (fun k=>k<=r.parents.length/\sL r.parents=sL (r.parents.drop k)) (fun k=>r.parents.length - k) 0 ⟨X,Z⟩ ?_ ?_
 ·exact E0
 rintro k ⟨hk,hst⟩;refine S<|C V<|Y (bA oG)<|Y (bS aH)<|Y (fY aE)<|O cM<|Cn ?_ ?_<;>intro A
 ·have P:k+1<r.parents.length:=I_ A
  obtain ⟨s,hs⟩:=aU (l:=r.parents) (k:=k) X;obtain ⟨t,z_⟩:=aU P;have hi:=cC (f:=S_) hs;have u:=cC (f:=S_) z_;have F:=wa hs z_;have Q:IntKind.i64.wrap ((k:Int)+1 - 1)=(k:Int):=by rw[pW X X];omega
  refine aA<|S<|aD<|S<|aN a7<|Cq (bA oG)<|Cq (bS aH)<|Cq V<|Cq (dV Z Z Z Q)<|Cq (bU Z bH Z Z X (by rfl) hi Z)<|Cq (gG N_ (hi:=hi))<|Cq (bA oG)<|Cq (bS aH)<|Cq V<|Cq (bU Z bH Z Z X (by rfl) u Z)<|Cq (gG N_ (hi:=u))<|Cq (RH Z Z Z)<|bL<|Kr<|Cn ?_ ?_<;>intro n
  ·have A_:=not_not n;rw[hst,F,A_]at hE;rw[<-hE];exact Sz U<|aC<|Rt<|Qq
  have A_:=pJ n;refine aA<|Rd V<|Y (by exact eQ Z Z Z (show IntKind.i64.wrap ((k:Int)+1+1)=((k+1:Nat):Int)+1 by rw[pW X X];omega))<|Da ?_;exact⟨k+1,⟨X,F_⟩,X,E0⟩
 have hge:r.parents.length<=k+1:=J_ A
 rw[hst,XF (by rw[p_];omega)]at hE;have hE:((v_&&E)&&B)=v:=hE;rw[<-hE];refine aP<|S<|aR (t:=2) (n:=15) (A_:=(v_&&E)&&B) ?_ ?_
 ·all_goals refine Y (wA cK bD)<|Y (kc call115 (hown _))<|Dm ?_<;>(refine Sp 81 (fun G=>?_) fun G=>?_)<;>(first|contradiction|refine M<|M<|M ?_|refine J (bA zI)<|J (wA gO sizeOf48)<|J (kc call116 (q _)) ?_)<;>refine Y cE<|Dm ?_<;>(refine Sp 86 (fun c_=>?_) fun c_=>?_)<;>(first|contradiction|refine M<|M<|M ?_|refine J (bA iE)<|J (wA Av sizeOf51)<|J (kc call117 (z _)) ?_)<;>refine Y cE<|Da ?_<;>exact Gj (h:=by(simp_all;done))
 exact aC<|Rt<|Qq
theorem aBa(r:j8)(H:aF)(j:mI r)(b:∀e∈r.edits,e.refs.length<2^40):RC 26 [av (dR r)] (sv (HU r)) H:=by
 refine aS.pure ?_ F_ H;have i:=fun H=>ak r H j b;refine Bd func26 Z ntmps26<|C (uP (id:=1) Z Z Z Z Z)<|O U<|S<|C (aV Z cK bD Z Z Z Z (Z) Z)<|Y (bF Z Z call69 Z (i _))<|O iW<|Cn ?_ ?_<;>intro c
 ·have d:=not_not c;rw[HU,d];exact Sz U<|aC<|Rt<|Qq
 have d:=pJ c;have h:=sH d;have g:=fun H=>Ka r j h b H;have f:=fun H=>Qa (uW r) (Nat.le_trans (JL h) E_) (JM h) H;rw[HU,b6 d];exact aA<|C (aV Z cK bD Z Z Z Z (Z) Z)<|Y (bF Z Z call70 Z (g _))<|Y (kc call52 (f _))<|O U<|aC<|Rt<|Qq
def pt2(q:Int×Int):List B_:=[aQ q.1,aQ q.2]
def jl(p:GPriv):List B_:=[p.name,p.reason,aQ (p.sources.length:Int)]
def F9(p:GPriv)(k:Nat):List B_:=((jl p++p.sources)++[aQ (p.trace.length:Int)])++(p.trace.take k).flatMap pt2
theorem Po(p):F9 p p.trace.length=yP (TP p):=by rw[F9];simp[TP,yP,fI,jl];rfl
theorem xe{p}{k}{q}(h:p.trace[k]?=some q):F9 p (k+1)=F9 p k++pt2 q:=by simp[F9,fP h,List.flatMap_append]
theorem Fc(r:j8)(I:mI r)(o:VF r)(H:aF):RC 112 [av (wV r.priv)] (.pv (aL (yP (TP r.priv)))) H:=by
 refine aS.pure ?_ F_ H;obtain ⟨p,F⟩:∃p,p=r.priv:=X_;have j:=o.tr;have B:=o.sol;have E:=o.trl;rw[<-F]at j B E |-;clear F o I;have g:(p.sources.map S_).length=p.sources.length:=g_ _;have t:(p.trace.map kA).length=p.trace.length:=g_ _;have u:∀H,RC 84 [iv ((p.sources.map S_).length:Int)] (sv (aQ (p.sources.length:Int))) H:=fun H=>by
  rw[g];exact BO (p.sources.length:Int) X X H
 have d_:∀H,RC 84 [iv ((p.trace.map kA).length:Int)] (sv (aQ (p.trace.length:Int))) H:=fun H=>by
  rw[t];exact BO (p.trace.length:Int) X X H
 have v:(bZ (jl p++p.sources)).length=3+p.sources.length:=by rw[bZ,g_,j9];rfl
 have n:∀k,k<=p.trace.length->(F9 p k).length=4+p.sources.length+2*k:=fun k i=>by
  have:((p.trace.take k).flatMap pt2).length=2*k:=by
   have G:∀l:List (Int×Int),(l.flatMap pt2).length=2*l.length:=fun l=>by
    induction l with
    |nil=>rfl
    |cons q l K=>rw[List.flatMap_cons,j9,K,j7];show 2+_=_;omega
   rw[G,q7];omega
  rw[F9,j9,j9,j9,this];show 3+_+1+_=_;omega
 have A:∀k,k<=p.trace.length->(bZ (F9 p k)).length=4+p.sources.length+2*k:=fun k i=>by rw[bZ,g_,n k i]
 have hw0:bZ (jl p++p.sources)++([aQ (p.trace.length:Int)].map S_).map (·.map AV.pv)=bZ (F9 p 0):=by rw[gM,F9,List.take_zero,List.flatMap_nil,List.append_nil]
 refine Bd func112 Z ntmps112<|C (kb 1)<|O U<|S<|aN a7<|Cr [1] (fun _ h=>fh H9 h)<|Cr [1] (fun _ h=>lh N_ h)<|Cr [1] (fun _ h=>fh H8 h)<|Cr [1] (fun _ h=>lh N_ h)<|Cr [1] (fun _ h=>fh yC h)<|Cr [1] (fun _ h=>lh aH h)<|Cr [] (fun _ _=>(fY aE))<|Cr [] (fun e d=>by exact bF Z Z jG Z (u _))<|Cp [971] (fun e d=>by exact fO (id:=971) Z bH Z Z Z Z (by simp_all) ((d _ Z).trans Z))<|Cr [971] (fun _ _=>U)<|bL<|Kr<|C V<|Y (bA yC)<|Y (bS aH)<|Y (by exact cA (ob:=⟨0,1,9,bZ (jl p)⟩) (k:=3+p.sources.length) (ps:=p.sources.map S_) Z bH wB Z Z Z Z Z Z Z (eX _) (m:=p.sources.length) g (by omega) Z (rows':=bZ (jl p++p.sources)) (by exact gM _ _)) ?_;refine O U<|C V<|Y (bA sY)<|Y (bS jV)<|Y (fY fW)<|Y (kc jG (d_ _))<|Y (by exact aK ([aQ (p.trace.length:Int)].map S_) Z bH Z Z Z Z Z (eX _))<|Y (by exact cA (ob:=⟨1,1,9,bZ (jl p++p.sources)⟩) (k:=4+p.sources.length+2*0) (ps:=[aQ (p.trace.length:Int)].map S_) Z bH wB Z Z Z Z Z v Z (eX _) (m:=1) Z (by omega) (by omega) (rows':=bZ (F9 p 0)) (by omega))<|O U<|S<|Sz U<|aD<|bC (σ:=Nat) (fun k=>([(1,.ref 1 0 0 0),(3,.osl 971 (2+k) 0 (4+p.sources.length+2*k)),(4,iv (k:Int))],[(1,bx 7 51 ((wV p).map .pv)),(971,⟨2+k,1,9,bZ (F9 p k)⟩)])) (fun k=>k<=p.trace.length) (fun k=>p.trace.length - k) 0 (by omega) ?_ ?_
 ·exact L_
 intro k i;have m:=A k i;refine S<|C V<|Y (bA sY)<|Y (bS jV)<|Y (fY fW)<|O cM<|Cn ?_ ?_<;>intro f
 ·have y:k<p.trace.length:=by have:=b9 f;omega
  obtain ⟨q,z⟩:=aU y;have hqb:=j q (m7 z);have s:=cC (f:=kA) z;have L:=fun H=>BO q.1 X X H;have c_:=fun H=>BO q.2 X X H;refine aA<|S<|aD<|aN a7<|Cr [971] (fun _ _=>V)<|Cr [1] (fun _ h=>fh sY h)<|Cr [1] (fun _ h=>lh jV h)<|Cr [] (fun _ _=>V)<|Cr [] (fun e d=>by exact bU Z TM Z Z X (by rfl) s Z)<|Cr [] (fun _ _=>(EP mO))<|Cr [] (fun _ _=>(gG M_ (hi:=s)))<|Cr [] (fun e d=>by exact bF Z Z jG Z (L _))<|Cr [1] (fun _ h=>fh sY h)<|Cr [1] (fun _ h=>lh jV h)<|Cr [] (fun _ _=>V)<|Cr [] (fun e d=>by exact bU Z TM Z Z X (by rfl) s Z)<|Cr [] (fun _ _=>(EP mN))<|Cr [] (fun _ _=>(gG M_ (hi:=s)))<|Cr [] (fun e d=>by exact bF Z Z jG Z (c_ _))<|Cr [] (fun e d=>by exact aK ((pt2 q).map S_) Z bH Z Z Z Z Z (eX _))<|Cp [971] (fun e d=>by exact cA (ob:=⟨2+k,1,9,bZ (F9 p k)⟩) (k:=4+p.sources.length+2*(k+1)) (ps:=(pt2 q).map S_) Z bH wB Z ((d _ Z).trans Z) Z Z Z m Z (eX _) (m:=2) Z X X (rows':=bZ (F9 p (k+1))) (by rw[gM,xe z])) ?_;refine Cr [971] (fun _ _=>U)<|bL<|Kr<|Rd V<|Y kp<|Da ?_;exact⟨k+1,X,X,L_⟩
 have D:k=p.trace.length:=by have:=b_ f;omega
 subst D;have w:=n p.trace.length i;refine aP<|C V<|O U<|aC ?_;refine cR (H':=[]) (.inr Z) Z (aJ Z) (Fin.fz (id:=971) (ob:=⟨2+p.trace.length,1,9,bZ (F9 p p.trace.length)⟩) ((F9 p p.trace.length).map S_) Z (dU _) (.osl (HA S_ _ w)) Z T_ T_) ?_;exact⟨by rw[<-Po];rfl,Z⟩
theorem ze(r)(b:mI r)(c:VF r)(a:∀e∈r.edits,e.refs.length<2^40){H}(hno:H.get 971=none):aS Tryz.prog 70 [av (dR r)] H (fun x H'=>x=.osl 971 2 0 (uW r).length/\H'=(971,⟨2,1,9,bZ (uW r)⟩)::H) :=aS.frame (WG r b c a) (fun _ _ h=>by cases h) (fun _ _ h=>by cases h) H_ (fun id h=>.inr (by
  by_cases e:971=id
  ·simp_all
  simp[aF.get,jS e]at h))
theorem jr(L)(f:L.length<=100000)(g:∀s∈L,s.size<=100000000)(H)(id)(ob)(n)(j:H.get id=some ob)(d:Nat.blt 0 ob.sz=true)(b:ob.rows=bZ L)(h:n=L.length):aS Tryz.prog 85 [.osl id ob.g 0 n] H (fun r H'=>r=sv (b7 (aM L))/\H'=(id,KJ ob)::H):=by
 subst h;refine aS.retire _ (UW L f g _) j d (by rw[b];exact dU _) Z ?_;intro i a a' e c
 match i with
 |0 =>
  cases e;cases c;refine .inr ⟨0,L.length,Z,?_⟩;rw[gX];rfl
 |n+1=>cases e
def wy(s:m9):List B_:=[aQ s.idx,aQ (s.sig.length:Int)]
def Eg(s:m9):List B_:=[aQ (s.path.length:Int)]
theorem QG(s:m9)(i:FSeal s)(H:aF):RC 111 [av (lI s)] (.pv (aL (fI (.z s.idx s.sig s.path)))) H:=by
 refine aS.pure ?_ F_ H;have q:=i.i0;have i1:=i.i1;have l1:=i.sl;have l2:=i.pl;have e:(s.sig.map S_).length=s.sig.length:=g_ _;have f:(s.path.map S_).length=s.path.length:=g_ _;have l:=fun H=>BO s.idx q X H;have m:∀H,RC 84 [iv ((s.sig.map S_).length:Int)] (sv (aQ (s.sig.length:Int))) H:=fun H=>by
  rw[e];exact BO (s.sig.length:Int) X X H
 have n:∀H,RC 84 [iv ((s.path.map S_).length:Int)] (sv (aQ (s.path.length:Int))) H:=fun H=>by
  rw[f];exact BO (s.path.length:Int) X X H
 have c:fI (.z s.idx s.sig s.path)=((wy s++s.sig)++Eg s)++s.path:=by simp[fI,wy,Eg]
 rw[c];have g:(wy s++s.sig).length=2+s.sig.length:=by rw[j9];rfl
 have j:((wy s++s.sig)++Eg s).length=2+s.sig.length+1:=by rw[j9,g];rfl
 have o:(((wy s++s.sig)++Eg s)++s.path).length=2+s.sig.length+1+s.path.length:=G_
 refine Bd func111 Z ntmps111<|C (kb 1)<|O U<|S<|aN a7<|Cr [1] (fun _ h=>fh CY h)<|Cr [1] (fun _ h=>lh M_ h)<|Cr [] (fun p k=>by exact bF Z Z jG Z (l _))<|Cr [1] (fun _ h=>fh vU h)<|Cr [1] (fun _ h=>lh aH h)<|Cr [] (fun _ _=>(fY aE))<|Cr [] (fun p k=>by exact bF Z Z jG Z (m _))<|Cp [971] (fun p k=>by exact fO (id:=971) Z bH Z Z Z Z (by simp_all) ((k _ Z).trans Z))<|Cr [971] (fun _ _=>U)<|bL<|Kr<|C V<|Y (bA vU)<|Y (bS aH)<|Y (by exact cA (ob:=⟨0,1,9,bZ (wy s)⟩) (k:=2+s.sig.length) (ps:=s.sig.map S_) Z bH wB Z Z Z Z Z Z Z (eX _) (m:=s.sig.length) e (by omega) Z (rows':=bZ (wy s++s.sig)) (by exact gM _ _)) ?_;refine O U<|C V<|Y (bA vT)<|Y (bS aH)<|Y (fY aE)<|Y (kc jG (n _))<|Y (by exact aK ((Eg s).map S_) Z bH Z Z Z Z Z (eX _))<|Y (by exact cA (ob:=⟨1,1,9,bZ (wy s++s.sig)⟩) (k:=2+s.sig.length+1) (ps:=(Eg s).map S_) Z bH wB Z Z Z Z Z ((eE _).trans g) Z (eX _) (m:=1) Z (by omega) Z (rows':=bZ ((wy s++s.sig)++Eg s)) (by exact gM _ _))<|O U<|C V<|Y (bA vT)<|Y (bS aH)<|Y (by exact cA (ob:=⟨2,1,9,bZ ((wy s++s.sig)++Eg s)⟩) (k:=2+s.sig.length+1+s.path.length) (ps:=s.path.map S_) Z bH wB Z Z Z Z Z ((eE _).trans j) Z (eX _) (m:=s.path.length) f (by omega) Z (rows':=bZ (((wy s++s.sig)++Eg s)++s.path)) (by exact gM _ _))<|O U<|aC ?_;refine cR (H':=[]) (.inr Z) Z (aJ Z) (Fin.fz (id:=971) (ob:=⟨3,1,9,bZ (((wy s++s.sig)++Eg s)++s.path)⟩) ((((wy s++s.sig)++Eg s)++s.path).map S_) Z (dU _) (.osl (HA S_ _ o)) Z T_ T_) ?_;exact Qq
theorem Pv(r:j8)(y:mI r)(t:∀e∈r.edits,e.refs.length<2^40)(H:aF):RC 68 [av (dR r)] (.tup [sv (mH r).1,iv (mH r).2]) H:=by
 refine aS.pure ?_ F_ H;have L:=fun H=>ak r H y t;rw[mH];refine Bd func68 Z ntmps68<|C (kb 1)<|Y U<|O U<|S<|C (by exact aV Z cK bD Z Z Z Z (by simp only[Zl,S_];rfl) Z)<|Y (kc call69 (L _))<|O iW ?_;refine Cn ?_ ?_<;>intro p
 ·have G:=not_not p;rw[a8 F_];exact C U<|O U<|aC<|Ru<|Qq
 have G:=pJ p;have f:=sH G;have o:jL r=((uW r++fI (.z r.sl.idx r.sl.sig r.sl.path))++yP (TP r.priv))++fI (.z r.priv.sl.idx r.priv.sl.sig r.priv.sl.path):=by rw[jL,jk,List.append_assoc,List.append_assoc]
 have i:∀x∈jL r,Wb x:=fun x e_=>(List.mem_append.1 e_).elim (JM f x) (XN f x);have hpl:=JL f;have hsl:=XM f;have c:(jL r).length<=506:=by rw[jL,j9];omega
 have k:=xS i c;have m:=fun(H:aF) w=>ze r y f t (H:=H) w;have n:=fun H=>QG r.sl (kY f.sl) H;have l:=fun H=>QG r.priv.sl (kY f.psl) H;have q:=fun H=>Fc r y f H;have d:=fun H=>jr (jL r) X (fun s I=>Nat.le_trans (i s I) E_) H 971 ⟨5,1,9,bZ (jL r)⟩ (jL r).length;rw[b6 G];rw[o]at d c k |-;obtain ⟨A,hA⟩:∃A,A=uW r:=X_;obtain ⟨B,hB⟩:∃B,B=fI (.z r.sl.idx r.sl.sig r.sl.path):=X_;obtain ⟨d_,F⟩:∃d_,d_=yP (TP r.priv):=X_;obtain ⟨D,E⟩:∃D,D=fI (.z r.priv.sl.idx r.priv.sl.sig r.priv.sl.path):=X_;rw[<-hA,<-hB,<-F,<-E]at d c k |-;simp only[<-hA]at m;rw[<-hB]at n;rw[<-F]at q;rw[<-E]at l;have q1:(A++B).length<=506:=by have:=c;simp only[j9]at this |-;omega
 have K:((A++B)++d_).length<=506:=by have:=c;simp only[j9]at this |-;omega
 have z:=d;obtain ⟨c_,hJ⟩:∃c_,c_=aM (((A++B)++d_)++D):=X_;rw[<-hJ]at d k |-;have hos:(b7 c_).size=c_.length:=cB _;clear hJ z hA hB F E o i;refine aA<|S<|aN a7<|Cr [1] (fun v g=>by exact aV Z cK bD Z ((g _ Z).trans Z) Z Z (by simp only[Zl,S_];rfl) Z)<|Cp [971] (fun v g=>by exact bF Z Z call70 Z ((m _ ((g _ Z).trans Z))))<|Cr [1] (fun _ h=>fh zI h)<|Cr [1] (fun v g=>by exact aV Z gO sizeOf48 Z ((g _ Z).trans Z) Z Z Z Z)<|Cr [] (fun v g=>by exact bF Z Z call111 Z (n _))<|Cp [971] (fun v g=>by exact cA (ob:=⟨2,1,9,bZ A⟩) (k:=(A++B).length) (ps:=B.map S_) Z bH wB Z ((g _ Z).trans Z) Z Z Z (eE _) Z (eX _) (m:=B.length) (g_ _) G_ F_ (rows':=bZ (A++B)) (gM _ _))<|Cr [] (fun _ _=>U)<|bL<|Kr<|S ?_;refine Rd V<|Y (bA iE)<|Y (wA Av sizeOf51)<|Y (kc call112 (q _))<|Y (by exact cA (ob:=⟨3,1,9,bZ (A++B)⟩) (k:=((A++B)++d_).length) (ps:=d_.map S_) Z bH wB Z Z Z Z Z (eE _) Z (eX _) (m:=d_.length) (g_ _) (by rw[j9]at K;omega) j9.symm (rows':=bZ ((A++B)++d_)) (gM _ _))<|O U<|C V<|Y (bA iE)<|Y (bA EU)<|Y (wA gO sizeOf48)<|Y (kc call111 (l _))<|Y (by exact cA (ob:=⟨4,1,9,bZ ((A++B)++d_)⟩) (k:=(((A++B)++d_)++D).length) (ps:=D.map S_) Z bH wB Z Z Z Z Z (eE _) Z (eX _) (m:=D.length) (g_ _) (by rw[j9]at c;omega) j9.symm (rows':=bZ (((A++B)++d_)++D)) (gM _ _)) ?_;refine O U<|C V<|Y (kc call85 (d _ Z Z Z Z))<|O U<|S<|C V<|Y (gR U_)<|O jK<|Cn ?_ ?_<;>intro u
 ·have j:20000<c_.length:=by have:=b9 u;omega
  rw[b6 j];exact C U<|O U<|aC<|Ru<|Qq
 have j:¬ 20000<c_.length:=by have:=b_ u;omega
 rw[a8 j];exact aA<|C V<|Y U<|O U<|aC<|Ru<|Qq
end Go.Proofs.YtopnleflllkbmaaGreatDoor
