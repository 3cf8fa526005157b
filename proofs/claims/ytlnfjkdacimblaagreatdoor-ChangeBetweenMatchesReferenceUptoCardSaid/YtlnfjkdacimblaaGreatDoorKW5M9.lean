/-
  CONTRACTS: strings.Builder beside other objects, change.Text. Conditions: sizes.
  THE ABSTRACT LOGIC, 41: calls that only make new blocks. Conditions: each rule's own premises.
  THE ABSTRACT LOGIC, 42: strconv.Atoi, the library's contracts carried over; an error held against nil. Conditions: each rule's own premises.
  CONTRACT: strconv.Atoi. Conditions: lengths below 2^40.
  CONTRACTS: slices.IndexFunc at tokens, object.read. Conditions: lengths below 2^39.
  THE ABSTRACT LOGIC, 43: an error held against nil. Conditions: each rule's own premises.
  CONTRACT: change.number. Conditions: lengths below 2^40.
  PLAIN: the sizes of tokens; what they read as is of a moderate size. Conditions: none.
  CONTRACTS: object.Parse, change.read. Conditions: lengths below 2^38.
  CONTRACTS: change.Parse. Conditions: sizes.
  CONTRACTS: slices.Contains at tags, the functions of change.how. Conditions: lengths below 2^40.
  CONTRACT: change.Between. Conditions: the maps' sizes.
  PLAIN: sets that are joined (a forest of indices), and what links join. Conditions: none.
  PLAIN: the groups of a labelling of indices. Conditions: none.
  PLAIN: the units of a change set. Conditions: none.
  THE ABSTRACT LOGIC, 44: a slice of one nil slice; append to a nil slice. Conditions: each rule's own premises.
  GROUPS AS OBJECTS, plain: an owned slice of owned slices of numbers; all of them frozen. Conditions: none.
  CONTRACTS: change.writes, the sets' top and join. Conditions: lengths.
-/
import Derived.Test.YtlnfjkdacimblaaGreatDoorKW5M8
import Derived.Below
import Derived.Shelf.Strconv.ErrVarAll
import Derived.Shelf.Strconv.AtoiAll
import Derived.Shelf.LaysC
import Derived.Ground.NamesProg
import Derived.WideLaws
set_option linter.unusedVariables false
set_option linter.unusedSimpArgs false
set_option maxRecDepth 100000
set_option maxHeartbeats 2000000
namespace Go.Proofs.YtlnfjkdacimblaaGreatDoor
open Go.Abs
section
theorem lenB_c (g:Nat) (l:List UInt8) (u:Bool):ACalls Tryz.prog 34 [.ref 2001 0 0 0] (bld g l u) (fun r H'=>r=iv (l.length:Int)∧H'=bld g l u):=by
 refine Bd Tryz.func34 rfl Tryz.ntmps34<|Sq<|Rg<|Dd as'<|Zz<|Sq<|Rg<|Dd mv'<|Dd nc'<|Dd (fr' fo62_1)<|Dd (l1' Tryz.isAgg52)<|Dd (by exact opd_len_osl rfl Tryz.underlying52 rfl rfl rfl)<|Dd as'<|Zz<|awp_ret ?_
 refine aret1 (H':=(bld g l u)) (.inr rfl) rfl (rval_tmp rfl) Fin.refl ?_
 exact⟨rfl,rfl⟩
abbrev bldA (l:List UInt8) (g:Nat) (u:Bool):Ob:=bObT (.osl 2002 g 0 l.length) u
abbrev bldD (l:List UInt8) (g:Nat):Ob:=⟨g,1,5,brows l⟩
theorem keysB {g g':Nat} {l l':List UInt8} {u u':Bool} {id:Nat} (h:(Heap.get (bld g l u) id).isSome=true):(Heap.get (bld g' l' u') id).isSome=true:=keys2 h
theorem keysE {g:Nat} {l:List UInt8} {u u':Bool} {id:Nat} (h:(Heap.get (bEnd g l u) id).isSome=true):(Heap.get (bld g l u) id).isSome=true:=by
 simp only [bEnd,bld,Heap.get] at h ⊢
 cases e1:Nat.beq 2001 id with
 | true=>rfl
 | false =>
  cases e2:Nat.beq 2002 id with
  | true=>rfl
  | false=>rw [e1,e2] at h;cases h
theorem wrB_f {H:Heap} {g:Nat} {l:List UInt8} {u:Bool} (s:ByteArray) (h1:H.get 2001=some (bldA l g u)) (h2:H.get 2002=some (bldD l g)) (hl:l.length+s.size < 70368744177664):ACalls Tryz.prog 33 [.ref 2001 0 0 0,sv s] H (fun r H'=>r=.tup [iv (s.size:Int),.pv nilI]∧H'=bld (g+1) (l++s.data.toList) true++H) :=
 ACalls.frame (writeString_c g l u s hl) (Sub.of2 h1 h2) (Closed.ofL ⟨(by exact bOb_cloT rfl rfl),(by exact brows_clo _ _),trivial⟩) (by simp;rfl) (fun id h=>.inl (keysB h))
theorem lenB_f {H:Heap} {g:Nat} {l:List UInt8} {u:Bool} (h1:H.get 2001=some (bldA l g u)) (h2:H.get 2002=some (bldD l g)):ACalls Tryz.prog 34 [.ref 2001 0 0 0] H (fun r H'=>r=iv (l.length:Int)∧H'=H) :=
 ACalls.frameS (lenB_c g l u) (Sub.of2 h1 h2) (Closed.ofL ⟨(by exact bOb_cloT rfl rfl),(by exact brows_clo _ _),trivial⟩) (by simp;rfl)
theorem strB_f {H:Heap} {g:Nat} {l:List UInt8} {u:Bool} (h1:H.get 2001=some (bldA l g u)) (h2:H.get 2002=some (bldD l g)) (hl:l.length < 70368744177664):ACalls Tryz.prog 35 [.ref 2001 0 0 0] H (fun r H'=>r=sv ⟨l.toArray⟩∧H'=bEnd g l u++H) :=
 ACalls.frame (str_c g l u hl) (Sub.of2 h1 h2) (Closed.ofL ⟨(by exact bOb_cloT rfl rfl),(by exact brows_clo _ _),trivial⟩) (by simp;rfl) (fun id h=>.inl (keysE (u':=u) h))
def uK:Nat→Bool
 | 0=>false
 | _+1=>true
def accC (l:List GEdit) (k:Nat):List UInt8:=(l.take k).flatMap fun e=>lineY e++[10]
theorem accC_next {l:List GEdit} {k:Nat} {e:GEdit} (h:l[k]?=some e):accC l (k+1)=accC l k++(lineY e++[10]):=by
 rw [accC,List.take_add_one,h,List.flatMap_append]
 simp [accC]
theorem lineY_len {e:GEdit} (he:gEditV e=true):(lineY e).length≤100000:=by
 obtain ⟨⟨o1,o2⟩,o3,o4⟩:=gEditV_iff.1 he
 rw [okOf] at o3
 have hval:=gEditV_val he
 by_cases h1:e.op=1
 ·rw [lineY,if_pos h1,List.length_append,List.length_cons,size_list]
  have:=objT_size (o:=e.obj)
  show 3+_≤_
  omega
 rw [if_neg h1,Bool.and_eq_true] at o3
 obtain ⟨o5,o6⟩:=o3
 have hid:=gName_size o5
 have key:∀ ws:List ByteArray,bs ws=lineW e→ws.length+sizes ws≤100000→(lineY e).length≤100000:=fun ws h h2=>by
  rw [lineY,if_neg h1,← h]
  exact Nat.le_trans (join_size ws) h2
 by_cases h2:e.op=2
 ·rw [if_pos h2,onP,Bool.and_eq_true,decide_eq_true_eq,decide_eq_true_eq] at o6
  have six:(itoaB e.x).size≤7:=by rw [← size_list];show (Lib.itoa e.x).length≤7;rw [itoa_nat _ (by omega)];exact digits_small (by omega) (by decide)
  have siy:(itoaB e.y).size≤7:=by rw [← size_list];show (Lib.itoa e.y).length≤7;rw [itoa_nat _ (by omega)];exact digits_small (by omega) (by decide)
  have hw0:(⟨#[109,111,118,101]⟩:ByteArray).size=4:=rfl
  exact key [⟨#[109,111,118,101]⟩,e.id,itoaB e.x,itoaB e.y] (by rw [lineW,if_pos h2];rfl) (by simp only [sizes_cons,List.length_cons,List.length_nil,show sizes []=0 from rfl];omega)
 rw [if_neg h2] at o6
 by_cases h3:e.op=3
 ·rw [if_pos h3,Bool.and_eq_true] at o6
  have hks:=gName_size o6.1
  have hq:=quote_size e.val
  have hw0:(⟨#[116,97,103]⟩:ByteArray).size=3:=rfl
  exact key [⟨#[116,97,103]⟩,e.id,e.key,⟨(gQuote e.val.data.toList).toArray⟩] (by rw [lineW,if_neg h2,if_pos h3];rfl) (by simp only [sizes_cons,List.length_cons,List.length_nil,show sizes []=0 from rfl];omega)
 rw [if_neg h3] at o6
 by_cases h4:e.op=4
 ·rw [if_pos h4,Bool.and_eq_true,Bool.and_eq_true,decide_eq_true_eq,decide_eq_true_eq,List.all_eq_true] at o6
  obtain ⟨⟨r1,r2⟩,r3⟩:=o6
  have hrs:sizes e.refs≤24*e.refs.length:=sizes_bound (fun s hs=>gName_size (r3 s hs))
  have hw0:(⟨#[114,101,102,115]⟩:ByteArray).size=4:=rfl
  exact key (⟨#[114,101,102,115]⟩::e.id::e.refs) (by rw [lineW,if_neg h2,if_neg h3,if_pos h4];rfl) (by simp only [sizes_cons,List.length_cons];omega)
 rw [if_neg h4] at o6
 by_cases h5:e.op=5
 ·have hw0:(⟨#[100,114,111,112]⟩:ByteArray).size=4:=rfl
  exact key [⟨#[100,114,111,112]⟩,e.id] (by rw [lineW,if_neg h2,if_neg h3,if_neg h4,if_pos h5];rfl) (by simp only [sizes_cons,List.length_cons,List.length_nil,show sizes []=0 from rfl];omega)
 rw [if_neg h5] at o6
 by_cases h6:e.op=6
 ·rw [if_pos h6,Bool.and_eq_true] at o6
  have hns:=gName_size o6.1
  have hos:=gName_size o6.2
  have hw0:(⟨#[115,112,108,105,116]⟩:ByteArray).size=5:=rfl
  exact key [⟨#[115,112,108,105,116]⟩,e.id,e.node,e.other] (by rw [lineW,if_neg h2,if_neg h3,if_neg h4,if_neg h5,if_pos h6];rfl) (by simp only [sizes_cons,List.length_cons,List.length_nil,show sizes []=0 from rfl];omega)
 rw [if_neg h6] at o6
 have hos:=gName_size o6
 have hw0:(⟨#[106,111,105,110]⟩:ByteArray).size=4:=rfl
 exact key [⟨#[106,111,105,110]⟩,e.id,e.other] (by rw [lineW,if_neg h2,if_neg h3,if_neg h4,if_neg h5,if_neg h6];rfl) (by simp only [sizes_cons,List.length_cons,List.length_nil,show sizes []=0 from rfl];omega)
end
end Go.Proofs.YtlnfjkdacimblaaGreatDoor
namespace Go.Abs
open Go.RowKit
section
/-- A call of the library that keeps all blocks that were there. -/
theorem Rel.below {I:Nat→Prop} {ι:Plc} {H:Heap} {w w':World} (hb:Below w.heap.size w w') (hr:Rel I ι H w):Rel I ι H w'∧Step I ι H w I ι H w':=by
 have hk:∀ b,b < w.heap.size→w'.heap[b]?=w.heap[b]?:=hb.block
 have hst:Step I ι H w I ι H w':=by
  refine⟨hb.os,hb.tape,hb.output,hb.size,fun a ha _=>?_,fun _ h=>h,fun _ h=>.inl h,fun _ h=>.inl h,fun b hb _=>hk b hb,fun _ o h=>⟨o,h,Nat.le_refl _,fun _=>⟨rfl,rfl,fun _=>Nat.le_refl _⟩⟩⟩
  unfold World.frozen?
  rw [hk _ ha]
 refine⟨⟨fun b h=>?_,fun j o hj=>?_,hr.inj,hst.glob hr⟩,hst⟩
 ·have:=hr.imm b h
  have:=hb.size
  omega
 exact(hr.obj j o hj).keep rfl (fun b c _ hb=>⟨hk b hb,fun h=>h⟩) (fun r _ a _ v hv=>hv.mono hr hst)
end
end Go.Abs
namespace Go.Abs
open Go.Proofs
section
def isErr (v:Value):Prop:=∃ t p,v=.iface t p
abbrev errI:PV:=.sat isErr
/-- What Atoi answers. -/
def atoiE (s:ByteArray):Int×PV:=match Lib.atoiAll s.data.toList with
 | .ok v=>(v,nilI)
 | .range=>(Lib.atoiSat s.data.toList,errI)
 | _=>(0,errI)
theorem atoi_c {P:Program} {ρ:Shelf.Ren} (L:LaysC.n172 P ρ) {G1 G2:Nat} (hg1:(G1,GV.face)∈gtab) (hn1:P.globalNamed "strconv.ErrSyntax" = some G1) (hg2:(G2,GV.face)∈gtab) (hn2:P.globalNamed "strconv.ErrRange" = some G2) (s:ByteArray) (hs:s.size < 1099511627776) (H:Heap) :
  ACalls P (ρ.f 172) [.pv (.str s)] H (fun r H'=>r=.tup [.pv (.int .i64 (atoiE s).1),.pv (atoiE s).2]∧H'=H):=by
 intro I ι w vs hr hvl hv
 obtain ⟨v,rfl⟩:∃ v,vs=#[v]:=by
  match vs,hvl with
  | ⟨[v]⟩,_=>exact⟨v,rfl⟩
 have e1:=(hv 0 v _ rfl rfl).str_inv
 subst e1
 have hvar:∀ (name:String) (G:Nat),(G,GV.face)∈gtab→P.globalNamed name=some G→∃ t p,w.var? P name=some #[.iface t p]:=fun name G hg hn=>by
  obtain ⟨_,cs,t,f,h2,q,p,h3⟩:=hr.glob _ hg
  subst h3
  exact⟨q,p,by simp only [World.var?,hn,Option.bind_some,h2]⟩
 have fin:∀ (n:Int) (x:Value) (a:PV) (w':World),RowKit.Below w.heap.size w w'→(∀ I H,VRel w' I ι H x (.pv a))→∃ r H' I' ι' v',(Ending.returned (.tuple #[.int .i64 n,x]))=.returned v'∧(r=.tup [.pv (.int .i64 n),.pv a]∧H'=H)∧VRel w' I' ι' H' v' r∧Rel I' ι' H' w'∧Step I ι H w I' ι' H' w':=fun n x a w' hb hx=>by
  obtain ⟨k1,k2⟩:=Rel.below hb hr
  refine⟨_,_,I,ι,_,rfl,⟨rfl,rfl⟩,.tup rfl fun i v b h1 h2=>?_,k1,k2⟩
  match i,h1,h2 with
  | 0,h1,h2=>cases h1;cases h2;exact .pv (.int _ _)
  | 1,h1,h2=>cases h1;cases h2;exact hx _ _
  | i+2,h1,h2=>simp at h1
 rw [atoiE]
 cases h:Lib.atoiAll s.data.toList with
 | ok n =>
  refine(Any.strconv_Atoi_ok L s (by omega) n h w).mono ?_
  rintro e w' ⟨rfl,hw⟩
  have hb:RowKit.Below w.heap.size w w':=by
   rcases hw with rfl|⟨t,rfl⟩
   ·exact RowKit.Below.refl _ _
   exact Lib.bytesWorld_below w _ t
  exact fin n .nilIface nilI w' hb (fun _ _=>.pv (.sat rfl rfl))
 | range =>
  obtain ⟨t,p,hq⟩:=hvar _ G2 hg2 hn2
  refine(Any.strconv_Atoi_range_var L s (by omega) h t p w hq).mono ?_
  rintro e w' ⟨N,rfl,_,_,hb⟩
  exact fin _ _ errI w' hb (fun _ _=>.pv (.sat rfl ⟨_,_,rfl⟩))
 | _ =>
  obtain ⟨t,p,hq⟩:=hvar _ G1 hg1 hn1
  refine(Any.strconv_Atoi_syntax_var L s (by omega) h t p w hq).mono ?_
  rintro e w' ⟨N,rfl,_,_,hb⟩
  exact fin 0 _ errI w' hb (fun _ _=>.pv (.sat rfl ⟨_,_,rfl⟩))
end
end Go.Abs
section
namespace Go.Proofs
open Go.RowKit Go.Sort Go.Shelf
def Tryz.atoiL_ren:Go.Shelf.Ren:=⟨fun|172=>134|244=>181|245=>182|247=>231|279=>232|280=>233|281=>234|282=>235|287=>254|316=>255|171=>68|205=>256|321=>263|322=>264|243=>124|246=>172|283=>220|284=>221|285=>222|286=>223|129=>201|317=>248|318=>249|319=>250|320=>251|337=>261|338=>262|n=>n,fun|9=>9|3=>3|75=>65|76=>66|4=>4|5=>5|167=>257|37=>52|0=>0|85=>258|2=>2|168=>260|53=>235|175=>277|46=>186|210=>280|127=>123|145=>292|143=>290|21=>21|171=>250|173=>252|212=>272|51=>233|20=>20|213=>273|232=>294|233=>295|80=>69|n=>n,fun|15=>2|16=>3|17=>1|18=>6|19=>7|n=>n⟩
theorem Tryz.atoiL:Go.Proofs.LaysC.n172 Tryz.prog Tryz.atoiL_ren:={
  mixed:=by kernel_rfl
  f129:=Tryz.func201.trans (congrArg some (by kernel_rfl))
  f171:=Tryz.func68.trans (congrArg some (by kernel_rfl))
  f172:=Tryz.func134.trans (congrArg some (by kernel_rfl))
  f205:=Tryz.func256.trans (congrArg some (by kernel_rfl))
  f243:=Tryz.func124.trans (congrArg some (by kernel_rfl))
  f244:=Tryz.func181.trans (congrArg some (by kernel_rfl))
  f245:=Tryz.func182.trans (congrArg some (by kernel_rfl))
  f246:=Tryz.func172.trans (congrArg some (by kernel_rfl))
  f247:=Tryz.func231.trans (congrArg some (by kernel_rfl))
  f279:=Tryz.func232.trans (congrArg some (by kernel_rfl))
  f280:=Tryz.func233.trans (congrArg some (by kernel_rfl))
  f281:=Tryz.func234.trans (congrArg some (by kernel_rfl))
  f282:=Tryz.func235.trans (congrArg some (by kernel_rfl))
  f283:=Tryz.func220.trans (congrArg some (by kernel_rfl))
  f284:=Tryz.func221.trans (congrArg some (by kernel_rfl))
  f285:=Tryz.func222.trans (congrArg some (by kernel_rfl))
  f286:=Tryz.func223.trans (congrArg some (by kernel_rfl))
  f287:=Tryz.func254.trans (congrArg some (by kernel_rfl))
  f316:=Tryz.func255.trans (congrArg some (by kernel_rfl))
  f317:=Tryz.func248.trans (congrArg some (by kernel_rfl))
  f318:=Tryz.func249.trans (congrArg some (by kernel_rfl))
  f319:=Tryz.func250.trans (congrArg some (by kernel_rfl))
  f320:=Tryz.func251.trans (congrArg some (by kernel_rfl))
  f321:=Tryz.func263.trans (congrArg some (by kernel_rfl))
  f322:=Tryz.func264.trans (congrArg some (by kernel_rfl))
  f337:=Tryz.func261.trans (congrArg some (by kernel_rfl))
  f338:=Tryz.func262.trans (congrArg some (by kernel_rfl))
  t0:=Tryz.underlying0
  a0:=Tryz.isAgg0
  z0:=Tryz.sizeOf0
  v0:=Tryz.zeroValue0
  t2:=Tryz.underlying2
  a2:=Tryz.isAgg2
  z2:=Tryz.sizeOf2
  v2:=Tryz.zeroValue2
  t3:=Tryz.underlying3
  a3:=Tryz.isAgg3
  z3:=Tryz.sizeOf3
  v3:=Tryz.zeroValue3
  t4:=Tryz.underlying4
  a4:=Tryz.isAgg4
  z4:=Tryz.sizeOf4
  v4:=Tryz.zeroValue4
  t5:=Tryz.underlying5
  a5:=Tryz.isAgg5
  z5:=Tryz.sizeOf5
  v5:=Tryz.zeroValue5
  t9:=Tryz.underlying9
  a9:=Tryz.isAgg9
  z9:=Tryz.sizeOf9
  v9:=Tryz.zeroValue9
  t20:=Tryz.underlying20
  a20:=Tryz.isAgg20
  z20:=Tryz.sizeOf20
  v20:=Tryz.zeroValue20
  t21:=Tryz.underlying21
  a21:=Tryz.isAgg21
  z21:=Tryz.sizeOf21
  v21:=Tryz.zeroValue21
  t37:=Tryz.underlying52
  a37:=Tryz.isAgg52
  z37:=Tryz.sizeOf52
  v37:=Tryz.zeroValue52
  t46:=Tryz.underlying186
  a46:=Tryz.isAgg186
  z46:=Tryz.sizeOf186
  v46:=Tryz.zeroValue186
  t51:=Tryz.underlying233
  a51:=Tryz.isAgg233
  z51:=Tryz.sizeOf233
  v51:=Tryz.zeroValue233
  t53:=Tryz.underlying235
  a53:=Tryz.isAgg235
  z53:=Tryz.sizeOf235
  v53:=Tryz.zeroValue235
  t75:=Tryz.underlying65
  a75:=Tryz.isAgg65
  z75:=Tryz.sizeOf65
  v75:=Tryz.zeroValue65
  t76:=Tryz.underlying66
  a76:=Tryz.isAgg66
  z76:=Tryz.sizeOf66
  v76:=Tryz.zeroValue66
  t85:=Tryz.underlying258
  a85:=Tryz.isAgg258
  z85:=Tryz.sizeOf258
  v85:=Tryz.zeroValue258
  t127:=Tryz.underlying123
  a127:=Tryz.isAgg123
  z127:=Tryz.sizeOf123
  v127:=Tryz.zeroValue123
  t143:=Tryz.underlying290
  a143:=Tryz.isAgg290
  z143:=Tryz.sizeOf290
  v143:=Tryz.zeroValue290
  t145:=Tryz.underlying292
  a145:=Tryz.isAgg292
  z145:=Tryz.sizeOf292
  v145:=Tryz.zeroValue292
  t167:=Tryz.underlying257
  a167:=Tryz.isAgg257
  z167:=Tryz.sizeOf257
  v167:=Tryz.zeroValue257
  t168:=Tryz.underlying260
  a168:=Tryz.isAgg260
  z168:=Tryz.sizeOf260
  v168:=Tryz.zeroValue260
  t171:=Tryz.underlying250
  a171:=Tryz.isAgg250
  z171:=Tryz.sizeOf250
  v171:=Tryz.zeroValue250
  t173:=Tryz.underlying252
  a173:=Tryz.isAgg252
  z173:=Tryz.sizeOf252
  v173:=Tryz.zeroValue252
  t175:=Tryz.underlying277
  a175:=Tryz.isAgg277
  z175:=Tryz.sizeOf277
  v175:=Tryz.zeroValue277
  t210:=Tryz.underlying280
  a210:=Tryz.isAgg280
  z210:=Tryz.sizeOf280
  v210:=Tryz.zeroValue280
  t212:=Tryz.underlying272
  a212:=Tryz.isAgg272
  z212:=Tryz.sizeOf272
  v212:=Tryz.zeroValue272
  t213:=Tryz.underlying273
  a213:=Tryz.isAgg273
  z213:=Tryz.sizeOf273
  t232:=Tryz.underlying294
  a232:=Tryz.isAgg294
  z232:=Tryz.sizeOf294
  v232:=Tryz.zeroValue294
  t233:=Tryz.underlying295
  a233:=Tryz.isAgg295
  z233:=Tryz.sizeOf295
  v233:=Tryz.zeroValue295
  g15:=by kernel_rfl
  g16:=by kernel_rfl
  g17:=by kernel_rfl
  g18:=by kernel_rfl
  g19:=by kernel_rfl
  t80:=Tryz.underlying69
  a80:=Tryz.isAgg69
  z80:=Tryz.sizeOf69
  v80:=Tryz.zeroValue69
  i0:=by kernel_rfl
  i2:=by kernel_rfl
  i3:=by kernel_rfl
  i4:=by kernel_rfl
  i5:=by kernel_rfl
  i9:=by kernel_rfl
  i20:=by kernel_rfl
  i21:=by kernel_rfl
  i37:=by kernel_rfl
  i46:=by kernel_rfl
  i51:=by kernel_rfl
  i53:=by kernel_rfl
  i75:=by kernel_rfl
  i76:=by kernel_rfl
  i80:=by kernel_rfl
  i85:=by kernel_rfl
  i127:=by kernel_rfl
  i143:=by kernel_rfl
  i145:=by kernel_rfl
  i167:=by kernel_rfl
  i168:=by kernel_rfl
  i171:=by kernel_rfl
  i173:=by kernel_rfl
  i175:=by kernel_rfl
  i210:=by kernel_rfl
  i212:=by kernel_rfl
  i232:=by kernel_rfl
  i233:=by kernel_rfl
  m15:=by kernel_rfl
  m16:=by kernel_rfl
  m17:=by kernel_rfl
  m18:=by kernel_rfl
  m19:=by kernel_rfl
  c0:=by kernel_rfl
  c2:=by kernel_rfl
  c3:=by kernel_rfl
  c4:=by kernel_rfl
  c5:=by kernel_rfl
  c9:=by kernel_rfl
  c20:=by kernel_rfl
  c21:=by kernel_rfl
  c37:=by kernel_rfl
  c46:=by kernel_rfl
  c51:=by kernel_rfl
  c53:=by kernel_rfl
  c75:=by kernel_rfl
  c76:=by kernel_rfl
  c80:=by kernel_rfl
  c85:=by kernel_rfl
  c127:=by kernel_rfl
  c143:=by kernel_rfl
  c145:=by kernel_rfl
  c167:=by kernel_rfl
  c168:=by kernel_rfl
  c171:=by kernel_rfl
  c173:=by kernel_rfl
  c175:=by kernel_rfl
  c210:=by kernel_rfl
  c212:=by kernel_rfl
  c213:=by kernel_rfl
  c232:=by kernel_rfl
  c233:=by kernel_rfl}
end Go.Proofs
namespace Go.Proofs.YtlnfjkdacimblaaGreatDoor
open Go.Abs
theorem atoi_cT (s:ByteArray) (hs:s.size < 1099511627776) (H:Heap):ACalls Tryz.prog 134 [sv s] H (fun r H'=>r=.tup [iv (atoiE s).1,.pv (atoiE s).2]∧H'=H) :=
 Go.Abs.atoi_c Tryz.atoiL (G1:=2) (G2:=3) (by unfold gtab;exact .tail _ (.tail _ (.head _))) (by kernel_rfl) (by unfold gtab;exact .tail _ (.head _)) (by kernel_rfl) s hs H
end Go.Proofs.YtlnfjkdacimblaaGreatDoor
end
namespace Go.Proofs.YtlnfjkdacimblaaGreatDoor
open Go.Abs
section
theorem rows_ofY {α:Type} (f:α→List PV) (l:List α):l.map (fun e=>(f e).map AV.pv)=(l.map f).map (·.map .pv):=by rw [List.map_map];rfl
theorem take_rows {α:Type} (f:α→List PV) (l:List α):((l.map f).take (0+l.length)).drop 0=l.map f:=by rw [Nat.zero_add,List.drop_zero];exact List.take_of_length_le (by rw [List.length_map];exact Nat.le_refl _)
end
end Go.Proofs.YtlnfjkdacimblaaGreatDoor
namespace Go.Abs
open Go.Proofs
section
section
variable {P:Program} {N:Nat} {o:Oper} {E:Env} {H:Heap} {t t':TypeId} {x:Operand}
theorem opd_ne_nil (ho:o.op=.binOp .neq t x (.const .nilIface) t') (ht:P.underlying t=some (.interface (P.methodsAt t))) (hx:aeval E x=some (.pv nilI)):OpD P N o E H (.pv (.bool false)) H :=
 .of_run fun a w I ι _ he=>⟨.bool false,by
  have e1:a.eval x=.nilIface:=(aeval_rel he hx).sat_inv
  have e2:a.eval (.const .nilIface)=.nilIface:=rfl
  simp only [execOp,ho,e1,e2,eqGuard,Sem.run_bind,Sem.run_pure,Result.andThen_ok,run_neq_nil_nil _ _ ht,Bool.or_true,if_true,Bool.not_true,Bool.false_eq_true,if_false],.pv (.bool _)⟩
theorem opd_ne_err (ho:o.op=.binOp .neq t x (.const .nilIface) t') (ht:P.underlying t=some (.interface (P.methodsAt t))) (hx:aeval E x=some (.pv errI)):OpD P N o E H (.pv (.bool true)) H :=
 .of_run fun a w I ι _ he=>⟨.bool true,by
  obtain ⟨q,p,e1⟩:isErr (a.eval x):=(aeval_rel he hx).sat_inv
  have e2:a.eval (.const .nilIface)=.nilIface:=rfl
  simp only [execOp,ho,e1,e2,eqGuard,Sem.run_bind,Sem.run_pure,Result.andThen_ok,run_neq_held_nil _ _ _ _ ht]
  rfl,.pv (.bool _)⟩
end
end
end Go.Abs
namespace Go.Proofs.YtlnfjkdacimblaaGreatDoor
open Go.Abs
section
theorem number_c (s:ByteArray) (H:Heap) (hs:s.size < 1099511627776):ACalls Tryz.prog 82 [sv s] H (fun r H'=>r=iv (numV s.data.toList)∧H'=H):=by
 refine ACalls.pure ?_ (by simp) H
 have hA:=atoi_cT s hs
 unfold atoiE at hA
 unfold numV
 cases h:Lib.atoiAll s.data.toList with
 | ok v =>
  simp only [h] at hA
  refine Bd Tryz.func82 rfl Tryz.ntmps82<|Sq<|Rg<|Dd as'<|Zz<|Sq<|Rg<|Dd mv'<|Dd (by exact opr_call rfl rfl Tryz.call134 rfl (hA _))<|Dd mv'<|Dd ex'<|Dd ex'<|Dd as'<|Dd as'<|Zz<|Sq<|Sq<|Rg<|Dd mv'<|Dd (by exact opd_ne_nil rfl Tryz.underlying65 rfl)<|Zz ?_
  refine Cn (fun hc1=>?_) fun hc1=>?_
  ·cases hc1
  skip
  refine awp_skip<|Sq<|Rg<|Dd mv'<|Dd as'<|Zz<|awp_ret ?_
  refine Rt ?_
  exact⟨rfl,rfl⟩
 | range =>
  simp only [h] at hA
  refine Bd Tryz.func82 rfl Tryz.ntmps82<|Sq<|Rg<|Dd as'<|Zz<|Sq<|Rg<|Dd mv'<|Dd (by exact opr_call rfl rfl Tryz.call134 rfl (hA _))<|Dd mv'<|Dd ex'<|Dd ex'<|Dd as'<|Dd as'<|Zz<|Sq<|Sq<|Rg<|Dd mv'<|Dd (by exact opd_ne_err rfl Tryz.underlying65 rfl)<|Zz ?_
  refine Cn (fun hc1=>?_) fun hc1=>?_
  ·skip
   refine Sq<|Rg<|Dd as'<|Zz<|awp_ret ?_
   refine Rt ?_
   exact⟨rfl,rfl⟩
  cases hc1
 | _ =>
  simp only [h] at hA
  refine Bd Tryz.func82 rfl Tryz.ntmps82<|Sq<|Rg<|Dd as'<|Zz<|Sq<|Rg<|Dd mv'<|Dd (by exact opr_call rfl rfl Tryz.call134 rfl (hA _))<|Dd mv'<|Dd ex'<|Dd ex'<|Dd as'<|Dd as'<|Zz<|Sq<|Sq<|Rg<|Dd mv'<|Dd (by exact opd_ne_err rfl Tryz.underlying65 rfl)<|Zz ?_
  refine Cn (fun hc1=>?_) fun hc1=>?_
  ·skip
   refine Sq<|Rg<|Dd as'<|Zz<|awp_ret ?_
   refine Rt ?_
   exact⟨rfl,rfl⟩
  cases hc1
end
section
theorem unqL_datY:∀ (l:List UInt8) (p:List UInt8×Nat),unqL l=some p→p.1.length≤l.length
 | [],p,h=>by cases h
 | [c],p,h=>by
  rw [unqL] at h
  split at h
  ·cases h;exact Nat.zero_le _
  cases h
 | c :: e :: r, p, h => by
  rw [unqL] at h
  split at h
  ·cases h;exact Nat.zero_le _
  split at h
  ·cases h
  split at h
  ·cases hg:gUnesc e with
   | none=>rw [hg] at h;cases h
   | some b =>
    rw [hg] at h
    cases hu:unqL r with
    | none=>rw [hu] at h;cases h
    | some q =>
     rw [hu] at h;cases h
     have:=unqL_datY r q hu
     show q.1.length+1≤r.length+1+1
     omega
  cases hu:unqL (e::r)with
  | none=>rw [hu] at h;cases h
  | some q =>
   rw [hu] at h;cases h
   have:=unqL_datY (e::r) q hu
   show q.1.length+1≤r.length+1+1
   rw [List.length_cons] at this
   omega
theorem extract_sizeY (s:ByteArray) (i j:Nat):(s.extract i j).size≤s.size:=by
 rw [← size_list,extract_list,List.length_take,List.length_drop,size_list]
 omega
theorem unq_sizeY (s:ByteArray):(gUnq s).1.size≤s.size:=by
 rw [gUnq]
 cases h:unqL (s.data.toList.drop 1)with
 | none=>exact Nat.zero_le _
 | some p =>
  have:=unqL_datY _ _ h
  rw [List.length_drop,size_list] at this
  show (⟨p.1.toArray⟩:ByteArray).size≤_
  rw [← size_list]
  show p.1.length≤_
  omega
theorem step_sizeY {s:ByteArray} {i:Nat} {f:GFound} {j:Nat} (h:gStep s i=(some f,j)):f.text.size≤s.size:=by
 rw [gStep] at h
 split at h
 ·cases h
 split at h
 ·cases h
 split at h
 ·cases h;exact extract_sizeY _ _ _
 split at h
 ·cases h;exact extract_sizeY _ _ _
 split at h
 ·cases h
  rw [gStr]
  split
  ·have h1:=unq_sizeY (s.extract i s.size)
   have h2:=extract_sizeY s i s.size
   show (gUnq (s.extract i s.size)).1.size≤_
   omega
  exact Nat.zero_le _
 split at h
 ·cases h;exact extract_sizeY _ _ _
 cases h;exact Nat.zero_le _
theorem toks_sizeY (s:ByteArray):∀ (n i:Nat) (f:GFound),f∈gToks s n i→f.text.size≤s.size
 | 0,_,_,h=>by cases h
 | n+1,i,f,h=>by
  rw [gToks] at h
  split at h
  ·split at h
   ·exact toks_sizeY s n _ f h
   rename_i g j hg
   rcases List.mem_cons.1 h with rfl|h
   ·exact step_sizeY hg
   split at h
   ·exact toks_sizeY s n _ f h
   cases h
  cases h
theorem run_memY:∀ (ds acc:List GFound) (f:GFound),f∈(lexRun acc ds).1→f∈acc∨f∈ds
 | [],acc,f,h=>.inl h
 | d::ds,acc,f,h=>by
  rw [lexRun] at h
  split at h
  ·cases h
  split at h
  ·cases h
  rcases run_memY ds _ f h with h|h
  ·rcases List.mem_append.1 h with h|h
   ·exact .inl h
   rw [List.mem_singleton] at h
   subst h
   exact .inr List.mem_cons_self
  exact .inr (List.mem_cons_of_mem _ h)
theorem lex_sizeY (s:ByteArray) (f:GFound) (h:f∈(gLex s).1):f.text.size≤s.size:=by
 rw [gLex] at h
 split at h
 ·cases h
 rcases run_memY _ _ f h with h|h
 ·cases h
 exact toks_sizeY s _ _ f h
theorem pad4_mem {T:List GFound} {n:Nat} (h:∀ f∈T,f.text.size≤n):∀ f∈pad4 T,f.text.size≤n:=fun f hf=>by
 rw [pad4] at hf
 rcases List.mem_append.1 hf with h1|h1
 ·exact h f h1
 rw [(List.mem_replicate.1 h1).2]
 exact Nat.zero_le _
theorem tagsR_mem:∀ (T:List GFound) (n:Nat),(∀ f∈T,f.text.size≤n)→(tagsR T).length≤T.length∧∀ t∈tagsR T,t.key.size≤n∧t.val.size≤n
 | [],n,_=>by simp [tagsR]
 | [a],n,_=>by simp [tagsR]
 | [a,b],n,_=>by simp [tagsR]
 | a::b::c::r,n,h=>by
  obtain ⟨i1,i2⟩:=tagsR_mem r n fun f hf=>h f (by simp [hf])
  rw [tagsR]
  refine⟨by simp only [List.length_cons];omega,fun t ht=>?_⟩
  rcases List.mem_cons.1 ht with rfl|ht
  ·exact⟨h a (by simp),h c (by simp)⟩
  exact i2 t ht
theorem pad4_len (T:List GFound):(pad4 T).length≤T.length+4:=by rw [pad4,List.length_append,List.length_replicate];omega
theorem readO_ok {T:List GFound} {n:Nat} (h:∀ f∈T,f.text.size≤n) (hn:n < 4611686018427387904) (hl:T.length < 549755813888):okO (gReadO T):=by
 have hp:=pad4_mem h
 have hpl:=pad4_len T
 have hg:∀ i,((pad4 T).getD i noF).text.size≤n:=fun i=>by
  rw [List.getD_eq_getElem?_getD]
  cases e:(pad4 T)[i]? with
  | none=>exact Nat.zero_le _
  | some f=>exact hp f (List.mem_of_getElem? e)
 have ht:∀ k,okTags (tagsR ((pad4 T).drop k)):=fun k=>by
  obtain ⟨a,b⟩:=tagsR_mem ((pad4 T).drop k) n fun f hf=>hp f (List.mem_of_mem_drop hf)
  rw [List.length_drop] at a
  exact⟨by omega,fun t htt=>by have:=b t htt;omega⟩
 rw [gReadO]
 split
 ·exact⟨Nat.lt_of_le_of_lt (hg 1) hn,ht _,by show 0 < _;omega,fun s hs=>by cases hs⟩
 split
 ·exact⟨by decide,⟨by decide,fun t h=>by cases h⟩,by decide,fun s hs=>by cases hs⟩
 refine⟨Nat.lt_of_le_of_lt (hg 1) hn,ht _,?_,fun s hs=>?_⟩
 ·show (List.map _ _).length < _
  rw [List.length_map,List.length_drop,List.length_take]
  omega
 obtain ⟨f,hf,rfl⟩:=List.mem_map.1 hs
 have:=hp f (List.mem_of_mem_take (List.mem_of_mem_drop hf))
 omega
theorem split_word (c:UInt8):∀ {l w:List UInt8},w∈splitC c l→w.length≤l.length
 | [],w,h=>by
  rw [splitC,List.mem_singleton] at h
  rw [h]
  exact Nat.le_refl _
 | b::l,w,h=>by
  have hp:=splitC_pos c l
  rw [splitC] at h
  cases e:splitC c l with
  | nil=>rw [e] at hp;exact absurd hp (Nat.lt_irrefl 0)
  | cons x r =>
   have ih:∀ y∈x::r,y.length≤l.length:=fun y hy=>split_word c (by rw [e];exact hy)
   rw [e] at h
   rw [List.length_cons]
   split at h
   ·rcases List.mem_cons.1 h with rfl|h
    ·exact Nat.zero_le _
    exact Nat.le_succ_of_le (ih w h)
   rcases List.mem_cons.1 h with rfl|h
   ·exact Nat.succ_le_succ (ih _ List.mem_cons_self)
   exact Nat.le_succ_of_le (ih w (List.mem_cons_of_mem _ h))
theorem parseO_ok {s:ByteArray} (hs:s.size < 1099511627776):okO (gReadO (gLex s).1):=readO_ok (fun f hf=>lex_sizeY s f hf) (by omega) (lex_toks_len s hs)
end
section
theorem encStr_rlY (l:List ByteArray):∀ r∈l.map encStr,r.length=1:=fun r hr=>by
 obtain ⟨s,_,rfl⟩:=List.mem_map.1 hr
 rfl
theorem and_t {p q:Prop} [Decidable p] [Decidable q] (h:(decide p&&decide q)=true):p∧q:=by simpa using h
theorem and_f {p q:Prop} [Decidable p] [Decidable q] (h:(decide p&&decide q)=false):¬ (p∧q):=by
 intro h2
 simp [h2] at h
/-! ### change.read -/
end
section
def eRows (l:List GEdit):List (List AV):=l.map fun e=>(encEdit e).map AV.pv
theorem eRows_len (l:List GEdit):(eRows l).length=l.length:=List.length_map _
theorem eRows_app (l:List GEdit) (e:GEdit):eRows l++[(encEdit e).map AV.pv]=eRows (l++[e]):=by rw [eRows,eRows,List.map_append];rfl
theorem eRows_clo (H:Heap) (l:List GEdit):∀ r∈eRows l,∀ a∈r,Clo H a:=by
 intro r hr a ha
 obtain ⟨d,_,rfl⟩:=List.mem_map.1 hr
 obtain ⟨p,_,rfl⟩:=List.mem_map.1 ha
 simp
theorem lB_clo (H:Heap) (s:ByteArray):∀ r∈(lB s).rows,∀ a∈r,Clo H a:=by
 intro r hr a ha
 simp only [lB,bx,List.mem_singleton] at hr
 subst hr
 rw [List.mem_singleton] at ha
 subst ha
 simp
/-- What change.Parse keeps of its frame. -/
def pcE (t:ByteArray):Env:=[(0,sv t),(4,.ref 4 0 0 0)]
def lnE (t:ByteArray) (k:Nat):GEdit:=gReadE (trimB (lineA (restA t k))).data.toList
def lnsE (t:ByteArray) (k:Nat):List GEdit:=(List.range k).map (lnE t)
theorem lnsE_next (t:ByteArray) (k:Nat):lnsE t (k+1)=lnsE t k++[lnE t k]:=by rw [lnsE,List.range_succ,List.map_append];rfl
theorem lnsE_len (t:ByteArray) (k:Nat):(lnsE t k).length=k:=by rw [lnsE,List.length_map,List.length_range]
theorem lnsE_all (t:ByteArray):lnsE t (linesS t).length=(linesC t.data.toList).map fun s=>gReadE (Lib.trimSuffix s [10]):=by
 refine List.ext_getElem? fun k=>?_
 rw [lnsE,List.getElem?_map,List.getElem?_map]
 by_cases h:k < (linesS t).length
 ·have h1:=(line_at h).1
  rw [linesS,List.getElem?_map] at h1
  cases e:(linesC t.data.toList)[k]? with
  | none=>rw [e] at h1;cases h1
  | some w =>
   rw [e] at h1
   have h1:ofY w=lineA (restA t k):=Option.some.inj h1
   rw [List.getElem?_range h,Option.map_some,Option.map_some,lnE,← h1,trimB_eq,ofL_list]
   congr 3
 have h2:(linesC t.data.toList)[k]?=none:=by
  rw [linesS,List.length_map] at h
  exact List.getElem?_eq_none (by omega)
 rw [h2,List.getElem?_eq_none (by simpa using h)]
 rfl
def pcK (t s:ByteArray) (k:Nat):Heap:=[(933,lB s),(905,⟨k,15,51,eRows (lnsE t k)⟩),(4,bx 1 22 [.osl 905 k 0 k])]
theorem get_shY {a b c:Ob} {K:Heap} (j:Nat):Heap.get ((904,b)::(933,a)::K) j=Heap.get ((933,a)::(904,b)::(933,c)::K) j:=by
 by_cases h1:j=904
 ·subst h1;rfl
 by_cases h2:j=933
 ·subst h2;rfl
 rw [get_cons_other _ _ h1,get_cons_other _ _ h2,get_cons_other _ _ h2,get_cons_other _ _ h1,get_cons_other _ _ h2]
theorem trimB_size (s:ByteArray):(trimB s).size≤s.size:=by
 rw [trimB]
 split
 ·rw [← size_list,exL,List.length_take,List.length_drop,size_list];omega
 exact Nat.le_refl _
theorem lineA_size (s:ByteArray):(lineA s).size≤s.size:=by
 rw [lineA]
 split
 ·exact Nat.le_refl _
 rw [← size_list,exL,List.length_take,List.length_drop,size_list];omega
theorem lineA_small {t:ByteArray} {k:Nat} (h:k≤(linesS t).length):(trimB (lineA (restA t k))).size≤t.size:=Nat.le_trans (trimB_size _) (Nat.le_trans (lineA_size _) (rest_drop t k h).2)
theorem ofL_small {w:List UInt8} {n:Nat} (h:w.length≤n) (hn:n < 4611686018427387904):(ofL w).size < 4611686018427387904:=by rw [ofL_size];omega
theorem gParseO_ok {s:ByteArray} (hs:s.size < 1099511627776):okO (gParseO s).1:=by
 rw [gParseO]
 split
 ·exact⟨by decide,⟨by decide,fun t h=>by cases h⟩,by decide,fun s hs=>by cases hs⟩
 split
 ·exact parseO_ok hs
 exact⟨by decide,⟨by decide,fun t h=>by cases h⟩,by decide,fun s hs=>by cases hs⟩
theorem zObj_ok:okO zObj:=⟨by decide,⟨by decide,fun t h=>by cases h⟩,by decide,fun s hs=>by cases hs⟩
theorem nilr_ok:([]:List ByteArray).length < 4611686018427387904∧∀ s∈([]:List ByteArray),s.size < 4611686018427387904:=⟨by decide,fun s hs=>by cases hs⟩
theorem sNil_small:sNil.size < 4611686018427387904:=by decide
theorem gReadE_ok {s:List UInt8} (hs:s.length≤20000):okE (gReadE s):=by
 have hw:∀ i,(ofL ((splitC 32 s).getD i [])).size < 4611686018427387904:=fun i=>by
  refine ofL_small (n:=20000) ?_ (by decide)
  rw [List.getD_eq_getElem?_getD]
  cases e:(splitC 32 s)[i]? with
  | none=>exact Nat.zero_le _
  | some w=>exact Nat.le_trans (split_word 32 (List.mem_of_getElem? e)) hs
 have hz:∀ (op x y:Int),okE ⟨op,sNil,sNil,sNil,x,y,sNil,sNil,[],zObj⟩:=fun op x y=>⟨⟨sNil_small,sNil_small,sNil_small,sNil_small⟩,nilr_ok,zObj_ok⟩
 rw [gReadE,readW]
 split
 ·exact⟨⟨sNil_small,sNil_small,sNil_small,sNil_small⟩,nilr_ok,gParseO_ok (by rw [ofL_size,List.length_drop];omega)⟩
 split
 ·exact⟨⟨hw 1,sNil_small,sNil_small,sNil_small⟩,nilr_ok,zObj_ok⟩
 split
 ·split
  ·exact⟨⟨hw 1,sNil_small,sNil_small,hw 2⟩,nilr_ok,zObj_ok⟩
  exact hz _ _ _
 split
 ·refine⟨⟨hw 1,sNil_small,sNil_small,sNil_small⟩,⟨?_,fun x hx=>?_⟩,zObj_ok⟩
  ·show (List.map _ _).length < _
   have:=List.count_le_length (l:=s) (a:=32)
   rw [List.length_map,List.length_drop,splitC_len]
   omega
  obtain ⟨w,hw2,rfl⟩:=List.mem_map.1 hx
  exact ofL_small (n:=20000) (Nat.le_trans (split_word 32 (List.mem_of_mem_drop hw2)) hs) (by decide)
 split
 ·exact⟨⟨hw 1,sNil_small,sNil_small,sNil_small⟩,nilr_ok,zObj_ok⟩
 split
 ·exact⟨⟨hw 1,hw 3,hw 2,sNil_small⟩,nilr_ok,zObj_ok⟩
 split
 ·exact⟨⟨hw 1,hw 2,sNil_small,sNil_small⟩,nilr_ok,zObj_ok⟩
 exact hz _ _ _
theorem lines_len:∀ {t:ByteArray} {n:Nat},t.size≤n→(linesS t).length≤n
 | t,0,h=>by rw [lines_nil (by omega)];exact Nat.le_refl _
 | t,n+1,h=>by
  by_cases hp:0 < t.size
  ·rw [(lines_cons hp).1,List.length_cons]
   refine Nat.succ_le_succ (lines_len (n:=n) ?_)
   rw [nextA]
   split
   ·exact Nat.zero_le _
   next h1 =>
   obtain ⟨w,r,e1,e2,e3,e4,e5,e6⟩:=ix_at h1
   rw [e3,Int.toNat_natCast,← szY,e5]
   omega
  rw [lines_nil hp];exact Nat.zero_le _
end
section
def encK (k:GObj×GObj):List PV:=encObj k.1++encObj k.2
def tEq (t x:GTag):Bool:=decide (t.key=x.key)&&decide (t.val=x.val)
theorem indexT_c (l:List GTag) (t:GTag) (H:Heap) (hl:l.length < 4611686018427387904):ACalls Tryz.prog 156 [.pv (slTags l),av (encTag t)] H (fun r H'=>r=iv (gidx (tEq t) l)∧H'=H):=by
 refine ACalls.pure ?_ (by simp) H
 have hml:(l.map encTag).length=l.length:=List.length_map _
 refine Bd Tryz.func156 rfl Tryz.ntmps156<|Sq<|Rg<|Dd (by exact opd_box (id:=3) rfl rfl rfl rfl rfl)<|Dd as'<|Zz<|Sq<|Sq<|Rg<|Dd mv'<|Dd (ll' Tryz.underlying47)<|Dd mv'<|Zz<|awp_block ?_
 refine awp_loop (σ:=Nat) (fun k=>([(0,.pv (slTags l)),(3,.ref 3 0 0 0),(7,iv ((l.map encTag).length:Int)),(8,iv (k:Int))],[(3,bx 2 117 ((encTag t).map .pv))])) (fun k=>k≤l.length∧∀ j,j < k→∀ b,l[j]?=some b→tEq t b=false) (fun k=>l.length - k) 0 ⟨by omega,by omega⟩ ?_ ?_
 ·exact E0
 rintro k ⟨hk,hno⟩
 refine Sq<|Rg<|Dd lss'<|Zz<|Sq ?_
 refine Cn (fun hc1=>?_) fun hc1=>?_
 ·have hlt:k < l.length:=by have:=of_decide_eq_true hc1;omega
  obtain ⟨o,ho⟩:=get_of_lt hlt
  have hi:=map_get (f:=encTag) ho
  refine awp_skip<|Sq<|awp_block<|Sq<|Rg<|Dd mv'<|Dd as'<|Zz<|Sq ?_
  refine awp_drawc follows ?_
  refine Cq (by exact opd_loadn_ref rfl Tryz.isAgg117 Tryz.sizeOf117 rfl rfl rfl rfl (by simp only [Zl,encTag,encObj,encStr,encEdit,encInt,encK];rfl) rfl)<|Cq mv'<|Cq mv'<|Cq (xp' so47)<|Cq (by exact opd_loadn_pad rfl Tryz.isAgg117 Tryz.sizeOf117 rfl (by omega) (by simp only [Zl,encTag,encObj,encStr,encEdit,encInt,encK];rfl) rfl)<|Cq (by exact opd_aeql rfl rfl rfl rfl rfl Tryz.eqGuardType117 (se117 _ _ _ _)) ?_
  refine dc_nil ⟨by kernel_rfl,?_⟩
  refine Cn (fun hc2=>?_) fun hc2=>?_
  ·skip
   refine Sq<|Rg<|Dd mv'<|Dd as'<|Zz<|awp_ret ?_
   refine Rt ?_
   exact⟨by rw [gidx,fidx_some hno ho hc2],rfl⟩
  skip
  refine awp_skip<|Rg<|Dd ad'<|Dd mv'<|Zz ?_
  exact⟨k+1,⟨by omega,pre_succ hno ho hc2⟩,by omega,E0⟩
 have hge:k=l.length:=by have:=of_decide_eq_false hc1;omega
 subst hge
 refine awp_exit<|Sq<|Rg<|Dd as'<|Zz<|awp_ret ?_
 refine Rt ?_
 exact⟨by rw [gidx,fidx_none hno],rfl⟩
theorem containsT_c (l:List GTag) (t:GTag) (H:Heap) (hl:l.length < 4611686018427387904):ACalls Tryz.prog 111 [.pv (slTags l),av (encTag t)] H (fun r H'=>r=bv (inT l t)∧H'=H):=by
 refine ACalls.pure ?_ (by simp) H
 refine Bd Tryz.func111 rfl Tryz.ntmps111<|Sq<|Rg<|Dd (by exact opd_box (id:=3) rfl rfl rfl rfl rfl)<|Dd as'<|Zz<|Sq<|Rg<|Dd mv'<|Dd (by exact opd_loadn_ref rfl Tryz.isAgg117 Tryz.sizeOf117 rfl rfl rfl rfl (by simp only [Zl,encTag,encObj,encStr,encEdit,encInt,encK];rfl) rfl)<|Dd (by exact opr_call rfl rfl Tryz.call156 rfl (indexT_c l t _ hl))<|Dd ge'<|Dd as'<|Zz<|awp_ret ?_
 refine Rt ?_
 exact⟨by rw [gidx_any];rfl,rfl⟩
theorem how1_c (k:GObj×GObj) (H:Heap):ACalls Tryz.prog 106 [av (encK k)] H (fun r H'=>r=.pv (slEdits (stMove k))∧H'=H):=by
 refine ACalls.pure ?_ (by simp) H
 refine Bd Tryz.func106 rfl Tryz.ntmps106<|Sq<|Rg<|Dd (by exact opd_box (id:=1) rfl rfl rfl rfl rfl)<|Dd as'<|Zz<|Sq<|Sq<|Rg<|Dd (fr' fo96_0)<|Dd (fr' fo49_2)<|Dd (by exact opd_loadn_ref rfl Tryz.isAgg45 Tryz.sizeOf45 rfl rfl rfl rfl (by simp only [Zl,encTag,encObj,encStr,encEdit,encInt,encK];rfl) rfl)<|Dd (fr' fo96_1)<|Dd (fr' fo49_2)<|Dd (by exact opd_loadn_ref rfl Tryz.isAgg45 Tryz.sizeOf45 rfl rfl rfl rfl (by simp only [Zl,encTag,encObj,encStr,encEdit,encInt,encK];rfl) rfl)<|Dd (by exact opd_aeql rfl rfl rfl rfl rfl Tryz.eqGuardType45 (se45 _ _ _ _))<|Zz ?_
 refine Cn (fun hc1=>?_) fun hc1=>?_
 ·skip
  have h:k.1.x=k.2.x∧k.1.y=k.2.y:=by have:=hc1;simpa using this
  rw [stMove,if_pos h]
  refine Sq<|Rg<|Dd as'<|Zz<|awp_ret ?_
  refine Rt ?_
  exact⟨rfl,rfl⟩
 skip
 have h:¬ (k.1.x=k.2.x∧k.1.y=k.2.y):=by have:=hc1;simpa using this
 rw [stMove,if_neg h]
 refine awp_skip<|Sq<|Rg<|Dd (fr' fo96_0)<|Dd (fr' fo49_0)<|Dd (l1' Tryz.isAgg9)<|Dd (fr' fo96_1)<|Dd (fr' fo49_2)<|Dd (by exact opd_loadn_ref rfl Tryz.isAgg45 Tryz.sizeOf45 rfl rfl rfl rfl (by simp only [Zl,encTag,encObj,encStr,encEdit,encInt,encK];rfl) rfl)<|Dd (bu' bo51)<|Dd (by exact x_buildSlice [encEdit (moveE k.1.id k.2.x k.2.y)] rfl so22 rfl rfl rfl rfl rfl (by intro r hr;rw [List.mem_singleton] at hr;subst hr;rfl))<|Dd as'<|Zz<|awp_ret ?_
 refine Rt ?_
 exact⟨rfl,rfl⟩
theorem how2_c (k:GObj×GObj) (H:Heap) (h1:k.1.refs.length < 1099511627776) (h2:k.2.refs.length < 1099511627776):ACalls Tryz.prog 107 [av (encK k)] H (fun r H'=>r=.pv (slEdits (stRefs k))∧H'=H):=by
 refine ACalls.pure ?_ (by simp) H
 refine Bd Tryz.func107 rfl Tryz.ntmps107<|Sq<|Rg<|Dd (by exact opd_box (id:=1) rfl rfl rfl rfl rfl)<|Dd as'<|Zz<|Sq<|Sq<|Rg<|Dd (fr' fo96_0)<|Dd (fr' fo49_3)<|Dd (l1' Tryz.isAgg46)<|Dd (fr' fo96_1)<|Dd (fr' fo49_3)<|Dd (l1' Tryz.isAgg46)<|Dd (by exact opr_call rfl rfl Tryz.call100 rfl (eqStrs_c k.1.refs k.2.refs _ (by omega)))<|Zz ?_
 refine Cn (fun hc1=>?_) fun hc1=>?_
 ·skip
  have h:k.1.refs=k.2.refs:=of_decide_eq_true hc1
  rw [stRefs,if_pos h]
  refine Sq<|Rg<|Dd as'<|Zz<|awp_ret ?_
  refine Rt ?_
  exact⟨rfl,rfl⟩
 skip
 have h:¬ k.1.refs=k.2.refs:=of_decide_eq_false hc1
 rw [stRefs,if_neg h]
 refine awp_skip<|Sq ?_
 refine awp_drawc follows ?_
 refine Cq (fr' fo96_0)<|Cq (fr' fo49_0)<|Cq (l1' Tryz.isAgg9)<|Cq (fr' fo96_1)<|Cq (fr' fo49_3)<|Cq (l1' Tryz.isAgg46)<|Cq (by exact opr_call rfl rfl Tryz.call108 rfl (cloneF_ByteArray k.2.refs _ h2))<|Cq (bu' bo51)<|Cq (by exact x_buildSlice [encEdit (refsE k.1.id k.2.refs)] rfl so22 rfl rfl rfl rfl rfl (by intro r hr;rw [List.mem_singleton] at hr;subst hr;rfl))<|Cq as' ?_
 refine dc_nil ⟨by kernel_rfl,?_⟩
 refine awp_ret ?_
 refine Rt ?_
 exact⟨rfl,rfl⟩
def tgDel (k:GObj×GObj) (i:Nat):List GEdit:=((k.1.tags.take i).filter fun t=>decide (gGet k.2.tags t.key=none)).map fun t=>tagE k.1.id t.key sNil
def tgNew (k:GObj×GObj) (i:Nat):List GEdit:=((k.2.tags.take i).filter fun t=>!inT k.1.tags t).map fun t=>tagE k.1.id t.key t.val
theorem tgDel_yes {k:GObj×GObj} {i:Nat} {t:GTag} (h:k.1.tags[i]?=some t) (hp:gGet k.2.tags t.key=none):tgDel k (i+1)=tgDel k i++[tagE k.1.id t.key sNil]:=by
 rw [tgDel,List.take_add_one,h,Option.toList_some,List.filter_append,List.filter_cons_of_pos (by simpa using hp),List.map_append];rfl
theorem tgDel_no {k:GObj×GObj} {i:Nat} {t:GTag} (h:k.1.tags[i]?=some t) (hp:¬ gGet k.2.tags t.key=none):tgDel k (i+1)=tgDel k i:=by
 rw [tgDel,List.take_add_one,h,Option.toList_some,List.filter_append,List.filter_cons_of_neg (by simpa using hp),List.map_append];simp [tgDel]
theorem tgNew_yes {k:GObj×GObj} {i:Nat} {t:GTag} (h:k.2.tags[i]?=some t) (hp:inT k.1.tags t=false):tgNew k (i+1)=tgNew k i++[tagE k.1.id t.key t.val]:=by
 rw [tgNew,List.take_add_one,h,Option.toList_some,List.filter_append,List.filter_cons_of_pos (by rw [hp];rfl),List.map_append];rfl
theorem tgNew_no {k:GObj×GObj} {i:Nat} {t:GTag} (h:k.2.tags[i]?=some t) (hp:inT k.1.tags t=true):tgNew k (i+1)=tgNew k i:=by
 rw [tgNew,List.take_add_one,h,Option.toList_some,List.filter_append,List.filter_cons_of_neg (by rw [hp];decide),List.map_append];simp [tgNew]
theorem tgDel_len (k:GObj×GObj) (i:Nat):(tgDel k i).length≤i:=by
 rw [tgDel,List.length_map]
 exact Nat.le_trans (List.length_filter_le _ _) (by rw [List.length_take];omega)
theorem tgNew_len (k:GObj×GObj) (i:Nat):(tgNew k i).length≤i:=by
 rw [tgNew,List.length_map]
 exact Nat.le_trans (List.length_filter_le _ _) (by rw [List.length_take];omega)
theorem tg_all (k:GObj×GObj):tgDel k k.1.tags.length++tgNew k k.2.tags.length=stTags k:=by
 rw [tgDel,tgNew,List.take_length,List.take_length,stTags,tagL,List.map_append,List.map_map,List.map_map]
 rfl
def eOb (L:List GEdit):Ob:=⟨L.length,15,51,eRows L⟩
theorem snocE_len (L:List GEdit) (e:GEdit):(L++[e]).length=L.length+1:=by simp
theorem eOb_snoc (L:List GEdit) (e:GEdit):eOb (L++[e])=⟨L.length+1,15,51,eRows (L++[e])⟩:=by rw [eOb,List.length_append];rfl
theorem how3_c (k:GObj×GObj) (H:Heap) (h1:k.1.tags.length < 68719476736) (h2:k.2.tags.length < 68719476736):ACalls Tryz.prog 109 [av (encK k)] H (fun r H'=>r=.pv (slEdits (stTags k))∧H'=H):=by
 refine ACalls.pure ?_ (by simp) H
 have hm1:(k.1.tags.map encTag).length=k.1.tags.length:=List.length_map _
 have hm2:(k.2.tags.map encTag).length=k.2.tags.length:=List.length_map _
 obtain ⟨kc,hkc⟩:∃ kc,kc=(1,bx 12 96 ((encK k).map .pv)):=⟨_,rfl⟩
 refine Bd Tryz.func109 rfl Tryz.ntmps109<|Sq<|Rg<|Dd (by exact opd_box (id:=1) rfl rfl rfl rfl rfl)<|Dd as'<|Zz<|Sq<|Rg<|Dd (by exact opd_assign_own (id:=905) (sz:=15) (ty:=51) rfl rfl rfl)<|Zz<|Sq<|Sq<|Rg<|Dd (fr' fo96_0)<|Dd (fr' fo49_4)<|Dd (l1' Tryz.isAgg47)<|Dd (ll' Tryz.underlying47)<|Dd mv'<|Zz<|awp_block ?_
 refine awp_loop (σ:=Nat) (fun i=>([(1,.ref 1 0 0 0),(3,.osl 905 (tgDel k i).length 0 (tgDel k i).length),(12,.pv (slTags k.1.tags)),(13,iv ((k.1.tags.map encTag).length:Int)),(14,iv (i:Int))],[(905,eOb (tgDel k i)),(1,bx 12 96 ((encK k).map .pv))])) (fun i=>i≤k.1.tags.length) (fun i=>k.1.tags.length - i) 0 (Nat.zero_le _) ?_ ?_
 ·exact(Ent.wk (Ea<|Ea<|Eb<|Eb<|Eb<|trivial) (Hc (eRows_clo _ _)<|Hb<|trivial) trivial)
 rintro i hi
 have hdl:=tgDel_len k i
 refine Sq<|Rg<|Dd lss'<|Zz<|Sq ?_
 refine Cn (fun hc1=>?_) fun hc1=>?_
 ·skip
  have hlt:i < k.1.tags.length:=by have:=of_decide_eq_true hc1;omega
  obtain ⟨t,ht⟩:=get_of_lt hlt
  have hit:=map_get (f:=encTag) ht
  refine awp_skip<|Sq<|awp_block<|Sq<|Rg<|Dd (xp' so47)<|Dd (by exact opd_loadn_pad rfl Tryz.isAgg117 Tryz.sizeOf117 rfl (by omega) (by simp only [Zl,encTag,encObj,encStr,encEdit,encInt,encK];rfl) rfl)<|Dd (by exact x_alloc (id:=5) rfl zo117 rfl rfl)<|Uu (sa' Tryz.sizeOf117)<|Zz<|Sq<|Rg<|Dd (fr' fo96_1)<|Dd (fr' fo49_4)<|Dd (l1' Tryz.isAgg47)<|Dd (fr' fo117_0)<|Dd (l1' Tryz.isAgg9)<|Dd (by exact opr_call rfl rfl Tryz.call110 rfl (tagGet_c k.2.tags t.key _ (by omega)))<|Dd mv'<|Dd ex'<|Dd ex'<|Dd as'<|Dd as'<|Zz<|Sq<|Rg<|Dd mv'<|Dd no'<|Zz ?_
  refine Cn (fun hc2=>?_) fun hc2=>?_
  ·skip
   have hn:gGet k.2.tags t.key=none:=by have:=hc2;simpa using this
   refine Rg<|Dd mv'<|Dd (fr' fo96_0)<|Dd (fr' fo49_0)<|Dd (l1' Tryz.isAgg9)<|Dd (fr' fo117_0)<|Dd (l1' Tryz.isAgg9)<|Dd (bu' bo51)<|Dd (by exact x_buildSlice [encEdit (tagE k.1.id t.key sNil)] rfl so22 rfl rfl rfl rfl rfl (by intro r hr;rw [List.mem_singleton] at hr;subst hr;rfl))<|Dd (by exact x_append (ps:=[encEdit (tagE k.1.id t.key sNil)]) rfl so22 ei51 rfl rfl rfl rfl rfl (eRows_len _) rfl (by intro r hr;rw [List.mem_singleton] at hr;subst hr;rfl) (m:=1) rfl (by omega) rfl (eRows_app (tgDel k i) (tagE k.1.id t.key sNil)))<|Dd as'<|Zz<|Rg<|Dd ad'<|Dd mv'<|Zz ?_
   refine⟨i+1,by omega,by omega,?_⟩
   rw [tgDel_yes ht hn,List.length_append,eOb_snoc]
   exact(Ent.wk (Ea<|Ea<|Eb<|Eb<|Eb<|trivial) (Hc (eRows_clo _ _)<|Hb<|trivial) trivial)
  skip
  have hn:¬ gGet k.2.tags t.key=none:=by have:=hc2;cases hg:gGet k.2.tags t.key<;>simp_all
  refine awp_skip<|Rg<|Dd ad'<|Dd mv'<|Zz ?_
  refine⟨i+1,by omega,by omega,?_⟩
  rw [tgDel_no ht hn]
  exact(Ent.wk (Ea<|Ea<|Eb<|Eb<|Eb<|trivial) (Hc (eRows_clo _ _)<|Hb<|trivial) trivial)
 skip
 have hge:i=k.1.tags.length:=by have:=of_decide_eq_false hc1;omega
 subst hge
 obtain ⟨A,hA⟩:∃ A,A=tgDel k k.1.tags.length:=⟨_,rfl⟩
 have hall:=tg_all k
 rw [← hA] at hdl hall ⊢
 refine awp_exit<|Sq<|Sq<|Rg<|Dd (fr' fo96_1)<|Dd (fr' fo49_4)<|Dd (l1' Tryz.isAgg47)<|Dd (ll' Tryz.underlying47)<|Dd mv'<|Zz<|awp_block ?_
 refine awp_loop (σ:=Nat) (fun i=>([(1,.ref 1 0 0 0),(3,.osl 905 (A++tgNew k i).length 0 (A++tgNew k i).length),(41,.pv (slTags k.2.tags)),(42,iv ((k.2.tags.map encTag).length:Int)),(43,iv (i:Int))],[(905,eOb (A++tgNew k i)),(1,bx 12 96 ((encK k).map .pv))])) (fun i=>i≤k.2.tags.length) (fun i=>k.2.tags.length - i) 0 (Nat.zero_le _) ?_ ?_
 ·show Ent _ _ _ [(1,_),(3,.osl 905 (A++[]).length 0 (A++[]).length),(41,_),(42,_),(43,_)] [(905,eOb (A++[])),(1,_)]
  rw [List.append_nil]
  exact(Ent.wk (Ea<|Ea<|Eb<|Eb<|Eb<|trivial) (Hc (eRows_clo _ _)<|Hb<|trivial) trivial)
 rintro i hi
 have hnl:=tgNew_len k i
 have hal:(A++tgNew k i).length≤137438953472:=by rw [List.length_append];omega
 refine Sq<|Rg<|Dd lss'<|Zz<|Sq ?_
 refine Cn (fun hc3=>?_) fun hc3=>?_
 ·skip
  have hlt:i < k.2.tags.length:=by have:=of_decide_eq_true hc3;omega
  obtain ⟨t,ht⟩:=get_of_lt hlt
  have hit:=map_get (f:=encTag) ht
  refine awp_skip<|Sq<|awp_block<|Sq<|Rg<|Dd (xp' so47)<|Dd (by exact opd_loadn_pad rfl Tryz.isAgg117 Tryz.sizeOf117 rfl (by omega) (by simp only [Zl,encTag,encObj,encStr,encEdit,encInt,encK];rfl) rfl)<|Dd (by exact x_alloc (id:=9) rfl zo117 rfl rfl)<|Uu (sa' Tryz.sizeOf117)<|Zz<|Sq<|Rg<|Dd (fr' fo96_0)<|Dd (fr' fo49_4)<|Dd (l1' Tryz.isAgg47)<|Dd (by exact opd_loadn_ref rfl Tryz.isAgg117 Tryz.sizeOf117 rfl rfl rfl rfl (by simp only [Zl,encTag,encObj,encStr,encEdit,encInt,encK];rfl) rfl)<|Dd (by exact opr_call rfl rfl Tryz.call111 rfl (containsT_c k.1.tags t _ (by omega)))<|Dd no'<|Zz ?_
  refine Cn (fun hc4=>?_) fun hc4=>?_
  ·skip
   have hn:inT k.1.tags t=false:=by have:=hc4;simpa using this
   refine Rg<|Dd mv'<|Dd (fr' fo96_0)<|Dd (fr' fo49_0)<|Dd (l1' Tryz.isAgg9)<|Dd (fr' fo117_0)<|Dd (l1' Tryz.isAgg9)<|Dd (fr' fo117_1)<|Dd (l1' Tryz.isAgg9)<|Dd (bu' bo51)<|Dd (by exact x_buildSlice [encEdit (tagE k.1.id t.key t.val)] rfl so22 rfl rfl rfl rfl rfl (by intro r hr;rw [List.mem_singleton] at hr;subst hr;rfl))<|Dd (by exact x_append (ps:=[encEdit (tagE k.1.id t.key t.val)]) rfl so22 ei51 rfl rfl rfl rfl rfl (eRows_len _) rfl (by intro r hr;rw [List.mem_singleton] at hr;subst hr;rfl) (m:=1) rfl (by omega) rfl (eRows_app (A++tgNew k i) (tagE k.1.id t.key t.val)))<|Dd as'<|Zz<|Rg<|Dd ad'<|Dd mv'<|Zz ?_
   refine⟨i+1,by omega,by omega,?_⟩
   rw [tgNew_yes ht hn,← List.append_assoc,snocE_len,eOb_snoc]
   exact(Ent.wk (Ea<|Ea<|Eb<|Eb<|Eb<|trivial) (Hc (eRows_clo _ _)<|Hb<|trivial) trivial)
  skip
  have hn:inT k.1.tags t=true:=by have:=hc4;simpa using this
  refine awp_skip<|Rg<|Dd ad'<|Dd mv'<|Zz ?_
  refine⟨i+1,by omega,by omega,?_⟩
  rw [tgNew_no ht hn]
  exact(Ent.wk (Ea<|Ea<|Eb<|Eb<|Eb<|trivial) (Hc (eRows_clo _ _)<|Hb<|trivial) trivial)
 skip
 have hge:i=k.2.tags.length:=by have:=of_decide_eq_false hc3;omega
 subst hge
 rw [hall]
 refine awp_exit<|Sq ?_
 refine AWp.ent (Ent.fz (id:=905) (E':=[(3,.pv (slEdits (stTags k)))]) (H':=[]) ((stTags k).map encEdit) rfl (rows_ofY encEdit _)
  (by intro q hq;rw [List.mem_singleton] at hq;subst hq;exact⟨_,rfl,.osl (by rw [Nat.zero_add,List.drop_zero,List.take_of_length_le (by rw [List.length_map];exact Nat.le_refl _)])⟩) rfl trivial trivial) ?_
 refine Rg<|Dd mv'<|Dd as'<|Zz<|awp_ret ?_
 refine aret1 (H':=[]) (.inr rfl) rfl (rval_tmp rfl) Fin.refl ?_
 exact⟨rfl,rfl⟩
end
section
def btE:Env:=[(2,.ref 2 0 0 0),(3,.ref 3 0 0 0),(6,.ref 6 0 0 0),(7,.ref 7 0 0 0),(8,.ref 8 0 0 0),(9,.ref 9 0 0 0)]
theorem OpD.val {P:Program} {N:Nat} {o:Oper} {E:Env} {H H':Heap} {b b':Bool} (h:OpD P N o E H (.pv (.bool b)) H') (e:b=b'):OpD P N o E H (.pv (.bool b')) H':=e▸h
def kRows (l:List (GObj×GObj)):List (List AV):=l.map fun k=>(encK k).map AV.pv
theorem kRows_clo (H:Heap) (l:List (GObj×GObj)):∀ r∈kRows l,∀ a∈r,Clo H a:=by
 intro r hr a ha
 obtain ⟨d,_,rfl⟩:=List.mem_map.1 hr
 obtain ⟨p,_,rfl⟩:=List.mem_map.1 ha
 simp
theorem kRows_len (l:List (GObj×GObj)):(kRows l).length=l.length:=List.length_map _
theorem kRows_app (l:List (GObj×GObj)) (k:GObj×GObj):kRows l++[(encK k).map AV.pv]=kRows (l++[k]):=by rw [kRows,kRows,List.map_append];rfl
theorem closedC_c (m:List GObj) (H:Heap) (hm:okM m):ACalls Tryz.prog 51 [.agg [.pv (slObjs m)]] H (fun r H'=>r=bv (closedB m)∧H'=H):=by
 refine ACalls.pure ?_ (by simp) H
 refine Bd Tryz.func51 rfl Tryz.ntmps51<|Sq<|Rg<|Dd (by exact opd_box (id:=1) rfl rfl rfl rfl rfl)<|Dd as'<|Zz<|Sq<|Rg<|Dd (by exact opd_loadn_ref rfl Tryz.isAgg38 Tryz.sizeOf38 rfl rfl rfl rfl (by simp only [Zl,encTag,encObj,encStr,encEdit,encInt,encK];rfl) rfl)<|Dd (by exact opr_call rfl rfl Tryz.call25 rfl (allNil_c m _ hm))<|Dd mv'<|Dd ex'<|Dd ex'<|Dd ex'<|Dd (by exact x_alloc (id:=3) rfl zo38 rfl rfl)<|Uu (sa' Tryz.sizeOf38)<|Dd as'<|Dd as'<|Zz<|Sq<|Rg<|Dd mv'<|Dd eql'<|Dd as'<|Zz<|awp_ret ?_
 refine Rt ?_
 refine⟨?_,rfl⟩
 cases closedB m<;>rfl
theorem gidx_neg (m:List GObj) (s:ByteArray):decide (gidx (idIs s) m < 0)=(look m s).isNone:=by
 rcases gidx_cases (idIs s) m with⟨e1,e2⟩|⟨q,p,e1,e2,e3⟩
 ·rw [e1,show look m s=none from e2];rfl
 rw [e1,show look m s=some p from e3]
 exact decide_eq_false (by omega)
def btH (a b:List GObj) (X:List ByteArray) (d:Bool) (m:List GObj) (F P L:List GEdit):Heap:=[(951,eOb F),(952,eOb P),(953,eOb L),(7,bx 1 22 [.osl 951 F.length 0 F.length]),(8,bx 1 22 [.osl 952 P.length 0 P.length]),(9,bx 1 22 [.osl 953 L.length 0 L.length]),(10,sob X),(6,bx 1 89 [.mp 10 0]),(932,dB d),(931,mB m),(3,mB b),(2,mB a)]
theorem btH_F (a b:List GObj) (X:List ByteArray) (d:Bool) (m:List GObj) (F P L:List GEdit) (e:GEdit):btH a b X d m (F++[e]) P L=[(951,⟨F.length+1,15,51,eRows (F++[e])⟩),(952,eOb P),(953,eOb L),(7,bx 1 22 [.osl 951 (F.length+1) 0 (F.length+1)]),(8,bx 1 22 [.osl 952 P.length 0 P.length]),(9,bx 1 22 [.osl 953 L.length 0 L.length]),(10,sob X),(6,bx 1 89 [.mp 10 0]),(932,dB d),(931,mB m),(3,mB b),(2,mB a)]:=by rw [btH,eOb_snoc,snocE_len]
theorem btH_P (a b:List GObj) (X:List ByteArray) (d:Bool) (m:List GObj) (F P L:List GEdit) (e:GEdit):btH a b X d m F (P++[e]) L=[(951,eOb F),(952,⟨P.length+1,15,51,eRows (P++[e])⟩),(953,eOb L),(7,bx 1 22 [.osl 951 F.length 0 F.length]),(8,bx 1 22 [.osl 952 (P.length+1) 0 (P.length+1)]),(9,bx 1 22 [.osl 953 L.length 0 L.length]),(10,sob X),(6,bx 1 89 [.mp 10 0]),(932,dB d),(931,mB m),(3,mB b),(2,mB a)]:=by rw [btH,eOb_snoc,snocE_len]
theorem btH_L (a b:List GObj) (X:List ByteArray) (d:Bool) (m:List GObj) (F P L:List GEdit) (e:GEdit):btH a b X d m F P (L++[e])=[(951,eOb F),(952,eOb P),(953,⟨L.length+1,15,51,eRows (L++[e])⟩),(7,bx 1 22 [.osl 951 F.length 0 F.length]),(8,bx 1 22 [.osl 952 P.length 0 P.length]),(9,bx 1 22 [.osl 953 (L.length+1) 0 (L.length+1)]),(10,sob X),(6,bx 1 89 [.mp 10 0]),(932,dB d),(931,mB m),(3,mB b),(2,mB a)]:=by rw [btH,eOb_snoc,snocE_len]
def btF (X:List ByteArray) (L:List GObj):List GEdit:=(L.filter fun o=>inB X o.id).map fun o=>dropE o.id
def btN (X:List ByteArray) (b L:List GObj):List GEdit:=(L.filter fun o=>!inB X o.id&&(look b o.id).isNone).map fun o=>dropE o.id
def btP (X:List ByteArray) (a L:List GObj):List GEdit:=(L.filter fun o=>inB X o.id||(look a o.id).isNone).map putE
theorem fm_snoc {α:Type} {L:List GObj} {p:GObj→Bool} {f:GObj→α} {k:Nat} {o:GObj} (h:L[k]?=some o):((L.take (k+1)).filter p).map f=((L.take k).filter p).map f++(if p o then[f o] else[]):=by
 rw [List.take_add_one,h,Option.toList_some,List.filter_append,List.map_append]
 congr 1
 cases hp:p o with
 | true=>rw [List.filter_cons_of_pos hp];rfl
 | false=>rw [List.filter_cons_of_neg (by rw [hp];decide)];rfl
theorem fm_len {α:Type} (L:List GObj) (p:GObj→Bool) (f:GObj→α):((L.filter p).map f).length≤L.length:=by
 rw [List.length_map];exact List.length_filter_le _ _
theorem layL_len (m:List GObj) (d:Bool):(layL m d).length≤3*m.length:=by
 have h:∀ p:GObj→Bool,(m.filter p).length≤m.length:=fun p=>List.length_filter_le _ _
 cases d
 ·have:=h (fun o=>decide (o.kind.tdiv 2=0));have:=h (fun o=>decide (o.kind.tdiv 2=1));have:=h (fun o=>decide (o.kind.tdiv 2=2))
  simp only [layL,zs,Bool.false_eq_true,if_false,List.flatMap_cons,List.flatMap_nil,List.length_append,List.length_nil]
  omega
 have:=h (fun o=>decide (o.kind.tdiv 2=0));have:=h (fun o=>decide (o.kind.tdiv 2=1));have:=h (fun o=>decide (o.kind.tdiv 2=2))
 simp only [layL,zs,if_true,List.flatMap_cons,List.flatMap_nil,List.length_append,List.length_nil]
 omega
def fS (s:Nat):Nat:=if s=0 then 106 else if s=1 then 107 else 109
def stS (s:Nat) (k:GObj×GObj):List GEdit:=if s=0 then stMove k else if s=1 then stRefs k else stTags k
def okK (k:GObj×GObj):Prop:=(k.1.refs.length≤2000∧k.2.refs.length≤2000)∧k.1.tags.length≤60∧k.2.tags.length≤60
theorem step_c (s:Nat) (hs:s < 3) (k:GObj×GObj) (hk:okK k) (H:Heap):CallsV Tryz.prog (.pv (.fn (fS s))) [av (encK k)] H (fun r H'=>r=.pv (slEdits (stS s k))∧H'=H):=by
 obtain ⟨⟨h1,h2⟩,h3,h4⟩:=hk
 have h:s=0∨s=1∨s=2:=by omega
 rcases h with rfl|rfl|rfl
 ·exact CallsV.fn Tryz.call106 (how1_c k H)
 ·exact CallsV.fn Tryz.call107 (how2_c k H (by omega) (by omega))
 exact CallsV.fn Tryz.call109 (how3_c k H (by omega) (by omega))
theorem stS_len (s:Nat) {k:GObj×GObj} (hk:okK k):(stS s k).length≤120:=by
 rw [stS]
 split
 ·rw [stMove];split<;>simp
 split
 ·rw [stRefs];split<;>simp
 have h1:=tgDel_len k k.1.tags.length
 have h2:=tgNew_len k k.2.tags.length
 rw [← tg_all,List.length_append]
 have:=hk.2
 omega
theorem flat_len {B:List (GObj×GObj)} {f:GObj×GObj→List GEdit} {c:Nat} (h:∀ k∈B,(f k).length≤c):(B.flatMap f).length≤c*B.length:=by
 induction B with
 | nil=>simp
 | cons k B ih =>
  have h1:=h k (List.mem_cons_self ..)
  have h2:=ih fun x hx=>h x (List.mem_cons_of_mem _ hx)
  rw [List.flatMap_cons,List.length_append,List.length_cons,Nat.mul_add,Nat.mul_one]
  omega
theorem how_c (H:Heap):ACalls Tryz.prog 55 [] H (fun r H'=>r=.agg [.pv (.fn 106),.pv (.fn 107),.pv (.fn 109)]∧H'=H):=by
 refine ACalls.pure ?_ (by simp) H
 refine Bd Tryz.func55 rfl Tryz.ntmps55<|Sq<|Rg<|Dd (by exact x_alloc (id:=0) rfl zo99 rfl rfl)<|Zz<|Sq<|Rg<|Dd (bu' bo99)<|Uu (sa' Tryz.sizeOf99)<|Zz<|awp_ret ?_
 refine aret1 (H':=[]) (.inr rfl) rfl (rval_cell rfl Tryz.isAgg99 Tryz.sizeOf99 rfl rfl rfl (by simp only [Zl,encTag,encObj,encStr,encEdit,encInt,encK];rfl) rfl) (Fin.wk (r:=.agg [.pv (.fn 106),.pv (.fn 107),.pv (.fn 109)]) (.agg (fun a h=>by simp only [List.mem_cons,List.not_mem_nil,or_false] at h;rcases h with rfl|rfl|rfl<;>exact .pv _)) trivial trivial) ?_
 exact⟨rfl,rfl⟩
def bothF (X:List ByteArray) (a:List GObj) (o:GObj):Option (GObj×GObj):=match look a o.id with
 | some p=>if inB X o.id then none else some (p,o)
 | none=>none
theorem both_snoc {X:List ByteArray} {a L:List GObj} {k:Nat} {o:GObj} (h:L[k]?=some o):(L.take (k+1)).filterMap (bothF X a)=(L.take k).filterMap (bothF X a)++(bothF X a o).toList:=by
 rw [List.take_add_one,h,Option.toList_some,List.filterMap_append]
 cases hp:bothF X a o with
 | none=>simp [List.filterMap_cons,hp]
 | some x=>simp [List.filterMap_cons,hp]
theorem both_len {X:List ByteArray} {a L:List GObj}:(L.filterMap (bothF X a)).length≤L.length:=List.length_filterMap_le _ _
def b4H (a b:List GObj) (X:List ByteArray) (F P L:List GEdit) (B:List (GObj×GObj)):Heap:=[(954,⟨B.length,12,96,kRows B⟩),(951,eOb F),(952,eOb P),(953,eOb L),(7,bx 1 22 [.osl 951 F.length 0 F.length]),(8,bx 1 22 [.osl 952 P.length 0 P.length]),(9,bx 1 22 [.osl 953 L.length 0 L.length]),(10,sob X),(6,bx 1 89 [.mp 10 0]),(3,mB b),(2,mB a)]
theorem snocK_len (L:List (GObj×GObj)) (e:GObj×GObj):(L++[e]).length=L.length+1:=by simp
theorem b4H_snoc (a b:List GObj) (X:List ByteArray) (F P L:List GEdit) (B:List (GObj×GObj)) (k:GObj×GObj):b4H a b X F P L (B++[k])=[(954,⟨B.length+1,12,96,kRows (B++[k])⟩),(951,eOb F),(952,eOb P),(953,eOb L),(7,bx 1 22 [.osl 951 F.length 0 F.length]),(8,bx 1 22 [.osl 952 P.length 0 P.length]),(9,bx 1 22 [.osl 953 L.length 0 L.length]),(10,sob X),(6,bx 1 89 [.mp 10 0]),(3,mB b),(2,mB a)]:=by rw [b4H,snocK_len]
theorem rlE (l:List GEdit):∀ r∈l.map encEdit,r.length=15:=fun r hr=>by
 obtain ⟨t,_,rfl⟩:=List.mem_map.1 hr
 rfl
theorem eRows_rl (l:List GEdit):∀ r∈eRows l,r.length=15:=fun r hr=>by
 obtain ⟨t,_,rfl⟩:=List.mem_map.1 hr
 rfl
theorem eRows_two (F G:List GEdit):eRows F++((eRows G).drop 0).take G.length=eRows (F++G):=by
 rw [List.drop_zero,List.take_of_length_le (by rw [eRows_len];exact Nat.le_refl _),eRows,eRows,eRows,List.map_append]
theorem eRows_more (F G:List GEdit):eRows F++(G.map encEdit).map (·.map AV.pv)=eRows (F++G):=by
 rw [← rows_ofY,eRows,eRows,List.map_append]
def oHB (g:Nat) (L Q:List GEdit):Heap:=[(951,⟨g,15,51,eRows L⟩),(953,eOb Q),(9,bx 1 22 [.osl 953 Q.length 0 Q.length])]
def aS (B:List (GObj×GObj)) (L:List GEdit):Nat→List GEdit
 | 0=>L
 | s+1=>aS B L s++B.flatMap (stS s)
theorem aS_len {B:List (GObj×GObj)} (h:∀ k∈B,okK k) (L:List GEdit):∀ s,(aS B L s).length≤L.length+s*(120*B.length)
 | 0=>by simp [aS]
 | s+1=>by
  have h1:=aS_len h L s
  have h2:=flat_len (B:=B) (f:=stS s) (c:=120) (fun k hk=>stS_len s (h k hk))
  rw [aS,List.length_append,Nat.add_mul,Nat.one_mul]
  omega
theorem betweenF_c (a b:List GObj) (ha:okM a) (hb:okM b) (hc:(!closedB a||!closedB b)=true) (H:Heap) :
  ACalls Tryz.prog 22 [.agg [.pv (slObjs a)],.agg [.pv (slObjs b)]] H (fun r H'=>r=.tup [.pv (slEdits (gBetween a b).1),iv (gBetween a b).2]∧H'=H):=by
 refine ACalls.pure ?_ (by simp) H
 rw [gBetween,if_pos hc]
 refine Bd Tryz.func22 rfl Tryz.ntmps22<|Sq<|Rg<|Dd (by exact opd_box (id:=2) rfl rfl rfl rfl rfl)<|Dd (by exact opd_box (id:=3) rfl rfl rfl rfl rfl)<|Dd as'<|Dd as'<|Zz<|Sq<|Sq ?_
 refine awp_bool (t:=30) (n:=9) (X:=!closedB a||!closedB b) ?_ ?_
 ·all_goals refine Dd (by exact opd_loadn_ref rfl Tryz.isAgg38 Tryz.sizeOf38 rfl rfl rfl rfl (by simp only [Zl,encTag,encObj,encStr,encEdit,encInt,encK];rfl) rfl) ?_
  all_goals refine Dd (by exact opr_call rfl rfl Tryz.call51 rfl (closedC_c a _ ha)) ?_
  all_goals refine Dd no' ?_
  all_goals refine Dd mv' ?_
  all_goals refine Sp 26 (fun h26=>?_) fun h26=>?_
  all_goals try contradiction
  all_goals first|refine Fo ?_|refine On (by exact opd_loadn_ref rfl Tryz.isAgg38 Tryz.sizeOf38 rfl rfl rfl rfl (by simp only [Zl,encTag,encObj,encStr,encEdit,encInt,encK];rfl) rfl) ?_
  all_goals first|refine Fo ?_|refine On (by exact opr_call rfl rfl Tryz.call51 rfl (closedC_c b _ hb)) ?_
  all_goals first|refine Fo ?_|refine On no' ?_
  all_goals refine Dd pk' ?_
  all_goals refine al_nil ?_
  all_goals(exact⟨⟨_,rfl,by(simp only [*,Zo];done)⟩,rfl,rfl,rfl⟩)
 refine Cn (fun hc1=>?_) fun hc1=>?_
 ·skip
  refine Sq<|Rg<|Dd as'<|Dd as'<|Zz<|awp_ret ?_
  refine Ru ?_
  exact⟨rfl,rfl⟩
 skip
 rw [hc] at hc1;cases hc1
theorem betweenT_c (a b:List GObj) (ha:okM a) (hb:okM b) (hca:closedB a=true) (hcb:closedB b=true) :
  ACalls Tryz.prog 22 [.agg [.pv (slObjs a)],.agg [.pv (slObjs b)]] [] (fun r H'=>r=.tup [.pv (slEdits (gBetween a b).1),iv (gBetween a b).2]∧H'=[]):=by
 have hga:=gMap_iff.1 (closed_gMap hca)
 have hgb:=gMap_iff.1 (closed_gMap hcb)
 have hkda:∀ o∈a,1≤o.kind∧o.kind≤5:=fun o ho=>gObj_kind (hga.1 o ho)
 have hkdb:∀ o∈b,1≤o.kind∧o.kind≤5:=fun o ho=>gObj_kind (hgb.1 o ho)
 have hal:=hga.2.2
 have hbl:=hgb.2.2
 obtain ⟨X,hX⟩:∃ X,X=renewed a b:=⟨_,rfl⟩
 have hren:=renewed_c a b hca (by omega) (by omega)
 rw [← hX] at hren
 have hrenF:∀ H,H.get 10=none→ACalls Tryz.prog 52 [.agg [.pv (slObjs a)],.agg [.pv (slObjs b)]] H (fun r H'=>r=.mp 10 0∧H'=[(10,sob X)]++H):=fun H h=>ACalls.frame hren (fun id o h=>by cases h) (fun id o h=>by cases h) (by simp) (fun id h'=>.inr (by
  by_cases e:id=10
  ·subst e;exact h
  rw [get_cons_other _ _ e] at h';cases h'))
 have hGB:gBetween a b=if 200 < (betL a b).length then([],2)else(betL a b,0):=by rw [gBetween,if_neg (by rw [hca,hcb];decide)]
 rw [hGB]
 refine Bd Tryz.func22 rfl Tryz.ntmps22<|Sq<|Rg<|Dd (by exact opd_box (id:=2) rfl rfl rfl rfl rfl)<|Dd (by exact opd_box (id:=3) rfl rfl rfl rfl rfl)<|Dd as'<|Dd as'<|Zz<|Sq<|Sq ?_
 refine awp_bool (t:=30) (n:=9) (X:=!closedB a||!closedB b) ?_ ?_
 ·all_goals refine Dd (by exact opd_loadn_ref rfl Tryz.isAgg38 Tryz.sizeOf38 rfl rfl rfl rfl (by simp only [Zl,encTag,encObj,encStr,encEdit,encInt,encK];rfl) rfl) ?_
  all_goals refine Dd (by exact opr_call rfl rfl Tryz.call51 rfl (closedC_c a _ ha)) ?_
  all_goals refine Dd no' ?_
  all_goals refine Dd mv' ?_
  all_goals refine Sp 26 (fun h26=>?_) fun h26=>?_
  all_goals try contradiction
  all_goals first|refine Fo ?_|refine On (by exact opd_loadn_ref rfl Tryz.isAgg38 Tryz.sizeOf38 rfl rfl rfl rfl (by simp only [Zl,encTag,encObj,encStr,encEdit,encInt,encK];rfl) rfl) ?_
  all_goals first|refine Fo ?_|refine On (by exact opr_call rfl rfl Tryz.call51 rfl (closedC_c b _ hb)) ?_
  all_goals first|refine Fo ?_|refine On no' ?_
  all_goals refine Dd pk' ?_
  all_goals refine al_nil ?_
  all_goals(exact⟨⟨_,rfl,by first|(simp only [*,Zo];done)|(simp_all;done)⟩,rfl,rfl,rfl⟩)
 refine Cn (fun hc1=>?_) fun hc1=>?_
 ·skip
  rw [hca,hcb] at hc1;cases hc1
 skip
 refine awp_skip<|Sq<|Rg<|Dd (by exact opd_loadn_ref rfl Tryz.isAgg38 Tryz.sizeOf38 rfl rfl rfl rfl (by simp only [Zl,encTag,encObj,encStr,encEdit,encInt,encK];rfl) rfl)<|Dd (by exact opd_loadn_ref rfl Tryz.isAgg38 Tryz.sizeOf38 rfl rfl rfl rfl (by simp only [Zl,encTag,encObj,encStr,encEdit,encInt,encK];rfl) rfl)<|Dd (by exact opr_call rfl rfl Tryz.call52 rfl (hrenF _ rfl))<|Dd (by exact x_alloc (id:=6) rfl zo89 rfl rfl)<|Uu (sa' Tryz.sizeOf89)<|Zz<|Sq<|Rg<|Dd (by exact x_alloc (id:=7) rfl zoN22 rfl rfl)<|Dd (by exact x_alloc (id:=8) rfl zoN22 rfl rfl)<|Dd (by exact x_alloc (id:=9) rfl zoN22 rfl rfl)<|Zz<|Sq<|Sq ?_
 refine AWp.ent (E':=btE) (H':=[(951,⟨0,15,51,[]⟩),(7,bx 1 22 [.osl 951 0 0 0]),(8,bx 1 22 [.pv .nils]),(9,bx 1 22 [.pv .nils]),(10,sob X),(6,bx 1 89 [.mp 10 0]),(3,mB b),(2,mB a)]) (Ent.nz 951 15 51 rfl rfl ⟨⟨_,rfl,(by exact Nz.same (by(simp;rfl)))⟩,⟨_,rfl,(by exact Nz.same (by(simp;rfl)))⟩,⟨_,rfl,(by exact Nz.same (by(simp;rfl)))⟩,⟨_,rfl,(by exact Nz.same (by(simp;rfl)))⟩,⟨_,rfl,(by exact Nz.same (by(simp;rfl)))⟩,⟨_,rfl,(by exact Nz.same (by(simp;rfl)))⟩,trivial⟩ ⟨⟨_,rfl,rfl,rfl,rfl,(by exact .inr ⟨_,_,rfl,rfl,(by repeat(first|exact trivial|refine⟨(by exact Nz.own),?_⟩))⟩)⟩,⟨_,rfl,rfl,rfl,rfl,(by exact .inl ⟨rfl,(by(simp;done))⟩)⟩,⟨_,rfl,rfl,rfl,rfl,(by exact .inl ⟨rfl,(by(simp;done))⟩)⟩,⟨_,rfl,rfl,rfl,rfl,(by exact .inl ⟨rfl,(by exact sobN_clo _ _)⟩)⟩,⟨_,rfl,rfl,rfl,rfl,(by exact .inl ⟨rfl,(by(simp;rfl))⟩)⟩,⟨_,rfl,rfl,rfl,rfl,(by exact .inl ⟨rfl,(by exact mB_clo _ _)⟩)⟩,⟨_,rfl,rfl,rfl,rfl,(by exact .inl ⟨rfl,(by exact mB_clo _ _)⟩)⟩,trivial⟩ trivial) ?_
 refine AWp.ent (E':=btE) (H':=[(952,⟨0,15,51,[]⟩),(951,⟨0,15,51,[]⟩),(7,bx 1 22 [.osl 951 0 0 0]),(8,bx 1 22 [.osl 952 0 0 0]),(9,bx 1 22 [.pv .nils]),(10,sob X),(6,bx 1 89 [.mp 10 0]),(3,mB b),(2,mB a)]) (Ent.nz 952 15 51 rfl rfl ⟨⟨_,rfl,(by exact Nz.same (by(simp;rfl)))⟩,⟨_,rfl,(by exact Nz.same (by(simp;rfl)))⟩,⟨_,rfl,(by exact Nz.same (by(simp;rfl)))⟩,⟨_,rfl,(by exact Nz.same (by(simp;rfl)))⟩,⟨_,rfl,(by exact Nz.same (by(simp;rfl)))⟩,⟨_,rfl,(by exact Nz.same (by(simp;rfl)))⟩,trivial⟩ ⟨⟨_,rfl,rfl,rfl,rfl,(by exact .inl ⟨rfl,(by(simp;done))⟩)⟩,⟨_,rfl,rfl,rfl,rfl,(by exact .inl ⟨rfl,(by(simp;rfl))⟩)⟩,⟨_,rfl,rfl,rfl,rfl,(by exact .inr ⟨_,_,rfl,rfl,(by repeat(first|exact trivial|refine⟨(by exact Nz.own),?_⟩))⟩)⟩,⟨_,rfl,rfl,rfl,rfl,(by exact .inl ⟨rfl,(by(simp;done))⟩)⟩,⟨_,rfl,rfl,rfl,rfl,(by exact .inl ⟨rfl,(by exact sobN_clo _ _)⟩)⟩,⟨_,rfl,rfl,rfl,rfl,(by exact .inl ⟨rfl,(by(simp;rfl))⟩)⟩,⟨_,rfl,rfl,rfl,rfl,(by exact .inl ⟨rfl,(by exact mB_clo _ _)⟩)⟩,⟨_,rfl,rfl,rfl,rfl,(by exact .inl ⟨rfl,(by exact mB_clo _ _)⟩)⟩,trivial⟩ trivial) ?_
 refine AWp.ent (E':=btE) (H':=[(953,⟨0,15,51,[]⟩),(952,⟨0,15,51,[]⟩),(951,⟨0,15,51,[]⟩),(7,bx 1 22 [.osl 951 0 0 0]),(8,bx 1 22 [.osl 952 0 0 0]),(9,bx 1 22 [.osl 953 0 0 0]),(10,sob X),(6,bx 1 89 [.mp 10 0]),(3,mB b),(2,mB a)]) (Ent.nz 953 15 51 rfl rfl ⟨⟨_,rfl,(by exact Nz.same (by(simp;rfl)))⟩,⟨_,rfl,(by exact Nz.same (by(simp;rfl)))⟩,⟨_,rfl,(by exact Nz.same (by(simp;rfl)))⟩,⟨_,rfl,(by exact Nz.same (by(simp;rfl)))⟩,⟨_,rfl,(by exact Nz.same (by(simp;rfl)))⟩,⟨_,rfl,(by exact Nz.same (by(simp;rfl)))⟩,trivial⟩ ⟨⟨_,rfl,rfl,rfl,rfl,(by exact .inl ⟨rfl,(by(simp;done))⟩)⟩,⟨_,rfl,rfl,rfl,rfl,(by exact .inl ⟨rfl,(by(simp;done))⟩)⟩,⟨_,rfl,rfl,rfl,rfl,(by exact .inl ⟨rfl,(by(simp;rfl))⟩)⟩,⟨_,rfl,rfl,rfl,rfl,(by exact .inl ⟨rfl,(by(simp;rfl))⟩)⟩,⟨_,rfl,rfl,rfl,rfl,(by exact .inr ⟨_,_,rfl,rfl,(by repeat(first|exact trivial|refine⟨(by exact Nz.own),?_⟩))⟩)⟩,⟨_,rfl,rfl,rfl,rfl,(by exact .inl ⟨rfl,(by exact sobN_clo _ _)⟩)⟩,⟨_,rfl,rfl,rfl,rfl,(by exact .inl ⟨rfl,(by(simp;rfl))⟩)⟩,⟨_,rfl,rfl,rfl,rfl,(by exact .inl ⟨rfl,(by exact mB_clo _ _)⟩)⟩,⟨_,rfl,rfl,rfl,rfl,(by exact .inl ⟨rfl,(by exact mB_clo _ _)⟩)⟩,trivial⟩ trivial) ?_
 refine Rg<|Dd (by exact opd_loadn_ref rfl Tryz.isAgg38 Tryz.sizeOf38 rfl rfl rfl rfl (by simp only [Zl,encTag,encObj,encStr,encEdit,encInt,encK];rfl) rfl)<|Dd (by exact opr_call rfl rfl Tryz.call53 rfl (layers_c a true _ rfl rfl))<|Zz<|awp_block ?_
 refine AWp.ent (E':=[(2,.ref 2 0 0 0),(3,.ref 3 0 0 0),(6,.ref 6 0 0 0),(7,.ref 7 0 0 0),(8,.ref 8 0 0 0),(9,.ref 9 0 0 0),(35,.clo 103 [.ref 932 0 0 0,.ref 931 0 0 0])]) (H':=btH a b X true a [] [] []) (Ent.wk (Ea<|Ea<|Ea<|Ea<|Ea<|Ea<|Ec (by(simp;exact⟨rfl,rfl⟩))<|trivial) (Hc (eRows_clo _ _)<|Hc (eRows_clo _ _)<|Hc (eRows_clo _ _)<|Ha<|Ha<|Ha<|Hc (sobN_clo _ _)<|Ha<|Hc (dB_clo _ _)<|Hc (mB_clo _ _)<|Hc (mB_clo _ _)<|Hc (mB_clo _ _)<|trivial) trivial) ?_
 refine awp_range (id:=904) (p:=36) btE rfl Tryz.call103 rfl rfl (by simp [btE];exact⟨rfl,rfl,rfl,rfl,rfl,rfl⟩) ?_
 intro x hx1 hx2 hx3 hx4 hx5 hx6
 obtain ⟨L,hL⟩:∃ L,L=layL a true:=⟨_,rfl⟩
 have hLl:L.length≤3000000:=by have:=layL_len a true;rw [← hL] at this;omega
 have hround:∀ k o,L[k]?=some o→CallsV Tryz.prog (.yld 904 0) [av (encObj o)] ((904,LR x btE)::btH a b X true a (btF X (L.take k)) [] (btN X b (L.take k))) (fun r H'=>r=bv true∧H'=(904,LR x btE)::btH a b X true a (btF X (L.take (k+1))) [] (btN X b (L.take (k+1)))):=by
  intro k o ho
  have hs1:btF X (L.take (k+1))=btF X (L.take k)++(if inB X o.id then[dropE o.id] else[]):=fm_snoc ho
  have hs2:btN X b (L.take (k+1))=btN X b (L.take k)++(if !inB X o.id&&(look b o.id).isNone then[dropE o.id] else[]):=fm_snoc (p:=fun o=>!inB X o.id&&(look b o.id).isNone) ho
  obtain ⟨F,hF⟩:∃ F,F=btF X (L.take k):=⟨_,rfl⟩
  obtain ⟨Q,hQ⟩:∃ Q,Q=btN X b (L.take k):=⟨_,rfl⟩
  have hFl:F.length≤3000000:=by rw [hF];exact Nat.le_trans (fm_len _ _ _) (by rw [List.length_take];omega)
  have hQl:Q.length≤3000000:=by rw [hQ];exact Nat.le_trans (fm_len _ _ _) (by rw [List.length_take];omega)
  rw [hs1,hs2,← hF,← hQ]
  refine .inl ⟨904,0,rfl,?_⟩
  refine ycalls [(2,.ref 2 0 0 0),(3,.ref 3 0 0 0),(6,.ref 6 0 0 0),(7,.ref 7 0 0 0),(8,.ref 8 0 0 0),(9,.ref 9 0 0 0),(10,.ref 110 0 0 0)] ((110,bx 6 49 ((encObj o).map .pv))::btH a b X true a F [] Q) hx1 hx2 hx3 hx4 hx5 hx6 rfl rfl rfl ?_ ?_
  ·skip
   refine Rg<|Dd (by exact x_alloc (id:=110) rfl zo49 rfl rfl)<|Uu (sa' Tryz.sizeOf49)<|Zz ?_
   exact(Ent.wk (Ea<|Ea<|Ea<|Ea<|Ea<|Ea<|Ea<|trivial) (Hc (LR_clo (by simp [btE];exact⟨rfl,rfl,rfl,rfl,rfl,rfl⟩))<|Hb<|Hc (eRows_clo _ _)<|Hc (eRows_clo _ _)<|Hc (eRows_clo _ _)<|Ha<|Ha<|Ha<|Hc (sobN_clo _ _)<|Ha<|Hc (dB_clo _ _)<|Hc (mB_clo _ _)<|Hc (mB_clo _ _)<|Hc (mB_clo _ _)<|trivial) ⟨rfl,rfl,rfl,rfl,rfl,rfl,rfl,rfl,rfl,rfl,rfl,rfl,rfl,trivial⟩)
  skip
  refine awp_block<|Sq<|Rg<|Dd (fr' fo49_0)<|Dd (l1' Tryz.isAgg9)<|Dd (bu' bo51)<|Dd (by exact x_alloc (id:=111) rfl zo51 rfl rfl)<|Uu (sa' Tryz.sizeOf51)<|Zz<|Sq<|Rg<|Dd (l1' Tryz.isAgg89)<|Dd (fr' fo49_0)<|Dd (l1' Tryz.isAgg9)<|Dd (by exact x_lookup_set rfl Tryz.underlying89 Tryz.underlying9 rfl rfl rfl rfl rfl Tryz.zeroValue4 (.inl rfl))<|Zz ?_
  refine Cn (fun hc2=>?_) fun hc2=>?_
  ·skip
   have hi:inB X o.id=true:=hc2
   rw [if_pos hi,if_neg (by rw [hi];simp),List.append_nil]
   refine Rg<|Dd (l1' Tryz.isAgg22)<|Dd (by exact opd_loadn_ref rfl Tryz.isAgg51 Tryz.sizeOf51 rfl rfl rfl rfl (by simp only [Zl,encTag,encObj,encStr,encEdit,encInt,encK];rfl) rfl)<|Dd (by exact x_buildSlice [encEdit (dropE o.id)] rfl so22 rfl rfl rfl rfl rfl (by intro r hr;rw [List.mem_singleton] at hr;subst hr;rfl))<|Dd (by exact x_append (ps:=[encEdit (dropE o.id)]) rfl so22 ei51 rfl rfl rfl rfl rfl (eRows_len _) rfl (by intro r hr;rw [List.mem_singleton] at hr;subst hr;rfl) (m:=1) rfl (by omega) rfl (eRows_app F (dropE o.id)))<|Uu (sa' Tryz.sizeOf22)<|Zz ?_
   refine⟨btH a b X true a (F++[dropE o.id]) [] Q,?_,rfl,rfl⟩
   rw [btH_F]
   exact(Ent.wk trivial (Hc (LR_clo (by simp [btE];exact⟨rfl,rfl,rfl,rfl,rfl,rfl⟩))<|Hc (eRows_clo _ _)<|Hc (eRows_clo _ _)<|Hc (eRows_clo _ _)<|Ha<|Ha<|Ha<|Hc (sobN_clo _ _)<|Ha<|Hc (dB_clo _ _)<|Hc (mB_clo _ _)<|Hc (mB_clo _ _)<|Hc (mB_clo _ _)<|trivial) ⟨rfl,rfl,rfl,rfl,rfl,rfl,rfl,rfl,rfl,rfl,rfl,rfl,rfl,trivial⟩)
  skip
  have hi:inB X o.id=false:=hc2
  rw [if_neg (by rw [hi];decide),List.append_nil]
  refine Sq<|Rg<|Dd (by exact opd_loadn_ref rfl Tryz.isAgg38 Tryz.sizeOf38 rfl rfl rfl rfl (by simp only [Zl,encTag,encObj,encStr,encEdit,encInt,encK];rfl) rfl)<|Dd (fr' fo49_0)<|Dd (l1' Tryz.isAgg9)<|Dd (by exact opr_call rfl rfl Tryz.call54 rfl (find_c b o.id _ (by omega)))<|Dd (by exact OpD.val (by exact opd_lss rfl rfl rfl) (gidx_neg b o.id))<|Zz ?_
  refine Cn (fun hc3=>?_) fun hc3=>?_
  ·skip
   have hn:(look b o.id).isNone=true:=hc3
   rw [if_pos (by rw [hi,hn];rfl)]
   refine Rg<|Dd (l1' Tryz.isAgg22)<|Dd (by exact opd_loadn_ref rfl Tryz.isAgg51 Tryz.sizeOf51 rfl rfl rfl rfl (by simp only [Zl,encTag,encObj,encStr,encEdit,encInt,encK];rfl) rfl)<|Dd (by exact x_buildSlice [encEdit (dropE o.id)] rfl so22 rfl rfl rfl rfl rfl (by intro r hr;rw [List.mem_singleton] at hr;subst hr;rfl))<|Dd (by exact x_append (ps:=[encEdit (dropE o.id)]) rfl so22 ei51 rfl rfl rfl rfl rfl (eRows_len _) rfl (by intro r hr;rw [List.mem_singleton] at hr;subst hr;rfl) (m:=1) rfl (by omega) rfl (eRows_app Q (dropE o.id)))<|Uu (sa' Tryz.sizeOf22)<|Zz ?_
   refine⟨btH a b X true a F [] (Q++[dropE o.id]),?_,rfl,rfl⟩
   rw [btH_L]
   exact(Ent.wk trivial (Hc (LR_clo (by simp [btE];exact⟨rfl,rfl,rfl,rfl,rfl,rfl⟩))<|Hc (eRows_clo _ _)<|Hc (eRows_clo _ _)<|Hc (eRows_clo _ _)<|Ha<|Ha<|Ha<|Hc (sobN_clo _ _)<|Ha<|Hc (dB_clo _ _)<|Hc (mB_clo _ _)<|Hc (mB_clo _ _)<|Hc (mB_clo _ _)<|trivial) ⟨rfl,rfl,rfl,rfl,rfl,rfl,rfl,rfl,rfl,rfl,rfl,rfl,rfl,trivial⟩)
  skip
  have hn:(look b o.id).isNone=false:=hc3
  rw [if_neg (by rw [hn,Bool.and_false];decide),List.append_nil]
  refine awp_skip ?_
  exact⟨btH a b X true a F [] Q,(Ent.wk trivial (Hc (LR_clo (by simp [btE];exact⟨rfl,rfl,rfl,rfl,rfl,rfl⟩))<|Hc (eRows_clo _ _)<|Hc (eRows_clo _ _)<|Hc (eRows_clo _ _)<|Ha<|Ha<|Ha<|Hc (sobN_clo _ _)<|Ha<|Hc (dB_clo _ _)<|Hc (mB_clo _ _)<|Hc (mB_clo _ _)<|Hc (mB_clo _ _)<|trivial) ⟨rfl,rfl,rfl,rfl,rfl,rfl,rfl,rfl,rfl,rfl,rfl,rfl,rfl,trivial⟩),rfl,rfl⟩
 refine(layers1_c a true (.yld 904 0) (fun k=>(904,LR x btE)::btH a b X true a (btF X (L.take k)) [] (btN X b (L.take k))) (by omega) hkda (fun k=>rfl) (fun k=>rfl) (fun k=>rfl) (fun k=>(Closed.ofL ⟨(by exact LR_clo (by simp [btE];exact⟨rfl,rfl,rfl,rfl,rfl,rfl⟩)),(by exact eRows_clo _ _),(by exact eRows_clo _ _),(by exact eRows_clo _ _),(by(simp;rfl)),(by(simp;rfl)),(by(simp;rfl)),(by exact sobN_clo _ _),(by(simp;rfl)),(by exact dB_clo _ _),(by exact mB_clo _ _),(by exact mB_clo _ _),(by exact mB_clo _ _),trivial⟩)) (fun k=>by simp;rfl) (fun k o h=>hround k o (by rw [hL];exact h))).mono ?_
 rintro r H' ⟨rfl,rfl⟩
 refine⟨x,_,rfl,by rw [hx1];decide,rfl,fun z=>?_⟩
 rw [hx2]
 have hF1:btF X (L.take (layL a true).length)=(bFirst a b).map fun o=>dropE o.id:=by rw [hL,List.take_length,btF,bFirst,hX]
 have hN1:btN X b (L.take (layL a true).length)=(bLast a b).map fun o=>dropE o.id:=by rw [hL,List.take_length,btN,bLast,hX]
 rw [hF1,hN1]
 obtain ⟨F,hF⟩:∃ F,F=(bFirst a b).map fun o=>dropE o.id:=⟨_,rfl⟩
 obtain ⟨Q,hQ⟩:∃ Q,Q=(bLast a b).map fun o=>dropE o.id:=⟨_,rfl⟩
 have hFl:F.length≤3000000:=by rw [hF];exact Nat.le_trans (fm_len _ _ _) (by rw [← hL];omega)
 have hQl:Q.length≤3000000:=by rw [hQ];exact Nat.le_trans (fm_len _ _ _) (by rw [← hL];omega)
 have hbet:betL a b=F++((bPuts a b).map putE++((bBoth a b).flatMap stMove++((bBoth a b).flatMap stRefs++((bBoth a b).flatMap stTags++Q)))):=by rw [betL,hF,hQ]
 rw [← hF,← hQ]
 clear hround hx1 hx2 hx3 hx4 hx5 hx6
 refine Sq<|Sq ?_
 refine AWp.ent (E':=btE) (H':=[(951,eOb F),(952,eOb []),(953,eOb Q),(7,bx 1 22 [.osl 951 F.length 0 F.length]),(8,bx 1 22 [.osl 952 0 0 0]),(9,bx 1 22 [.osl 953 Q.length 0 Q.length]),(10,sob X),(6,bx 1 89 [.mp 10 0]),(3,mB b),(2,mB a)]) (Ent.wk (Ea<|Ea<|Ea<|Ea<|Ea<|Ea<|trivial) (Hc (eRows_clo _ _)<|Hc (eRows_clo _ _)<|Hc (eRows_clo _ _)<|Ha<|Ha<|Ha<|Hc (sobN_clo _ _)<|Ha<|Hc (mB_clo _ _)<|Hc (mB_clo _ _)<|trivial) trivial) ?_
 refine Rg<|Dd (by exact opd_loadn_ref rfl Tryz.isAgg38 Tryz.sizeOf38 rfl rfl rfl rfl (by simp only [Zl,encTag,encObj,encStr,encEdit,encInt,encK];rfl) rfl)<|Dd (by exact opr_call rfl rfl Tryz.call53 rfl (layers_c b false _ rfl rfl))<|Zz<|awp_block ?_
 refine AWp.ent (E':=[(2,.ref 2 0 0 0),(3,.ref 3 0 0 0),(6,.ref 6 0 0 0),(7,.ref 7 0 0 0),(8,.ref 8 0 0 0),(9,.ref 9 0 0 0),(58,.clo 103 [.ref 932 0 0 0,.ref 931 0 0 0])]) (H':=btH a b X false b F [] Q) (Ent.wk (Ea<|Ea<|Ea<|Ea<|Ea<|Ea<|Ec (by(simp;exact⟨rfl,rfl⟩))<|trivial) (Hc (eRows_clo _ _)<|Hc (eRows_clo _ _)<|Hc (eRows_clo _ _)<|Ha<|Ha<|Ha<|Hc (sobN_clo _ _)<|Ha<|Hc (dB_clo _ _)<|Hc (mB_clo _ _)<|Hc (mB_clo _ _)<|Hc (mB_clo _ _)<|trivial) trivial) ?_
 refine awp_range (id:=904) (p:=59) btE rfl Tryz.call103 rfl rfl (by simp [btE];exact⟨rfl,rfl,rfl,rfl,rfl,rfl⟩) ?_
 intro x hx1 hx2 hx3 hx4 hx5 hx6
 obtain ⟨M,hM⟩:∃ M,M=layL b false:=⟨_,rfl⟩
 have hMl:M.length≤3000000:=by have:=layL_len b false;rw [← hM] at this;omega
 have hround:∀ k o,M[k]?=some o→CallsV Tryz.prog (.yld 904 0) [av (encObj o)] ((904,LR x btE)::btH a b X false b F (btP X a (M.take k)) Q) (fun r H'=>r=bv true∧H'=(904,LR x btE)::btH a b X false b F (btP X a (M.take (k+1))) Q):=by
  intro k o ho
  have hs1:btP X a (M.take (k+1))=btP X a (M.take k)++(if inB X o.id||(look a o.id).isNone then[putE o] else[]):=fm_snoc (p:=fun o=>inB X o.id||(look a o.id).isNone) ho
  obtain ⟨G,hG⟩:∃ G,G=btP X a (M.take k):=⟨_,rfl⟩
  have hGl:G.length≤3000000:=by rw [hG];exact Nat.le_trans (fm_len _ _ _) (by rw [List.length_take];omega)
  rw [hs1,← hG]
  refine .inl ⟨904,0,rfl,?_⟩
  refine ycalls [(2,.ref 2 0 0 0),(3,.ref 3 0 0 0),(6,.ref 6 0 0 0),(7,.ref 7 0 0 0),(8,.ref 8 0 0 0),(9,.ref 9 0 0 0),(12,.ref 112 0 0 0)] ((112,bx 6 49 ((encObj o).map .pv))::btH a b X false b F G Q) hx1 hx2 hx3 hx4 hx5 hx6 rfl rfl rfl ?_ ?_
  ·skip
   refine Rg<|Dd (by exact x_alloc (id:=112) rfl zo49 rfl rfl)<|Uu (sa' Tryz.sizeOf49)<|Zz ?_
   exact(Ent.wk (Ea<|Ea<|Ea<|Ea<|Ea<|Ea<|Ea<|trivial) (Hc (LR_clo (by simp [btE];exact⟨rfl,rfl,rfl,rfl,rfl,rfl⟩))<|Hb<|Hc (eRows_clo _ _)<|Hc (eRows_clo _ _)<|Hc (eRows_clo _ _)<|Ha<|Ha<|Ha<|Hc (sobN_clo _ _)<|Ha<|Hc (dB_clo _ _)<|Hc (mB_clo _ _)<|Hc (mB_clo _ _)<|Hc (mB_clo _ _)<|trivial) ⟨rfl,rfl,rfl,rfl,rfl,rfl,rfl,rfl,rfl,rfl,rfl,rfl,rfl,trivial⟩)
  skip
  refine awp_block<|Sq ?_
  refine awp_bool (t:=70) (n:=12) (X:=inB X o.id||(look a o.id).isNone) ?_ ?_
  ·all_goals refine Dd (l1' Tryz.isAgg89) ?_
   all_goals refine Dd (fr' fo49_0) ?_
   all_goals refine Dd (l1' Tryz.isAgg9) ?_
   all_goals refine Dd (by exact x_lookup_set rfl Tryz.underlying89 Tryz.underlying9 rfl rfl rfl rfl rfl Tryz.zeroValue4 (.inl rfl)) ?_
   all_goals refine Dd mv' ?_
   all_goals refine Sp 64 (fun h64=>?_) fun h64=>?_
   all_goals try contradiction
   all_goals first|refine Fo ?_|refine On (by exact opd_loadn_ref rfl Tryz.isAgg38 Tryz.sizeOf38 rfl rfl rfl rfl (by simp only [Zl,encTag,encObj,encStr,encEdit,encInt,encK];rfl) rfl) ?_
   all_goals first|refine Fo ?_|refine On (fr' fo49_0) ?_
   all_goals first|refine Fo ?_|refine On (l1' Tryz.isAgg9) ?_
   all_goals first|refine Fo ?_|refine On (by exact opr_call rfl rfl Tryz.call54 rfl (find_c a o.id _ (by omega))) ?_
   all_goals first|refine Fo ?_|refine On (by exact OpD.val (by exact opd_lss rfl rfl rfl) (gidx_neg a o.id)) ?_
   all_goals refine Dd pk' ?_
   all_goals refine al_nil ?_
   all_goals(exact⟨⟨_,rfl,by(simp_all;done)⟩,rfl,rfl,rfl⟩)
  refine Cn (fun hc4=>?_) fun hc4=>?_
  ·skip
   have hi:(inB X o.id||(look a o.id).isNone)=true:=hc4
   rw [if_pos hi]
   refine Rg<|Dd (l1' Tryz.isAgg22)<|Dd (by exact opd_loadn_ref rfl Tryz.isAgg49 Tryz.sizeOf49 rfl rfl rfl rfl (by simp only [Zl,encTag,encObj,encStr,encEdit,encInt,encK];rfl) rfl)<|Dd (bu' bo51)<|Dd (by exact x_buildSlice [encEdit (putE o)] rfl so22 rfl rfl rfl rfl rfl (by intro r hr;rw [List.mem_singleton] at hr;subst hr;rfl))<|Dd (by exact x_append (ps:=[encEdit (putE o)]) rfl so22 ei51 rfl rfl rfl rfl rfl (eRows_len _) rfl (by intro r hr;rw [List.mem_singleton] at hr;subst hr;rfl) (m:=1) rfl (by omega) rfl (eRows_app G (putE o)))<|Uu (sa' Tryz.sizeOf22)<|Zz ?_
   refine⟨btH a b X false b F (G++[putE o]) Q,?_,rfl,rfl⟩
   rw [btH_P]
   exact(Ent.wk trivial (Hc (LR_clo (by simp [btE];exact⟨rfl,rfl,rfl,rfl,rfl,rfl⟩))<|Hc (eRows_clo _ _)<|Hc (eRows_clo _ _)<|Hc (eRows_clo _ _)<|Ha<|Ha<|Ha<|Hc (sobN_clo _ _)<|Ha<|Hc (dB_clo _ _)<|Hc (mB_clo _ _)<|Hc (mB_clo _ _)<|Hc (mB_clo _ _)<|trivial) ⟨rfl,rfl,rfl,rfl,rfl,rfl,rfl,rfl,rfl,rfl,rfl,rfl,rfl,trivial⟩)
  skip
  have hi:(inB X o.id||(look a o.id).isNone)=false:=hc4
  rw [if_neg (by rw [hi];decide),List.append_nil]
  refine awp_skip ?_
  exact⟨btH a b X false b F G Q,(Ent.wk trivial (Hc (LR_clo (by simp [btE];exact⟨rfl,rfl,rfl,rfl,rfl,rfl⟩))<|Hc (eRows_clo _ _)<|Hc (eRows_clo _ _)<|Hc (eRows_clo _ _)<|Ha<|Ha<|Ha<|Hc (sobN_clo _ _)<|Ha<|Hc (dB_clo _ _)<|Hc (mB_clo _ _)<|Hc (mB_clo _ _)<|Hc (mB_clo _ _)<|trivial) ⟨rfl,rfl,rfl,rfl,rfl,rfl,rfl,rfl,rfl,rfl,rfl,rfl,rfl,trivial⟩),rfl,rfl⟩
 refine(layers1_c b false (.yld 904 0) (fun k=>(904,LR x btE)::btH a b X false b F (btP X a (M.take k)) Q) (by omega) hkdb (fun k=>rfl) (fun k=>rfl) (fun k=>rfl) (fun k=>(Closed.ofL ⟨(by exact LR_clo (by simp [btE];exact⟨rfl,rfl,rfl,rfl,rfl,rfl⟩)),(by exact eRows_clo _ _),(by exact eRows_clo _ _),(by exact eRows_clo _ _),(by(simp;rfl)),(by(simp;rfl)),(by(simp;rfl)),(by exact sobN_clo _ _),(by(simp;rfl)),(by exact dB_clo _ _),(by exact mB_clo _ _),(by exact mB_clo _ _),(by exact mB_clo _ _),trivial⟩)) (fun k=>by simp;rfl) (fun k o h=>hround k o (by rw [hM];exact h))).mono ?_
 rintro r H' ⟨rfl,rfl⟩
 refine⟨x,_,rfl,by rw [hx1];decide,rfl,fun z=>?_⟩
 rw [hx2]
 have hP1:btP X a (M.take (layL b false).length)=(bPuts a b).map putE:=by rw [hM,List.take_length,btP,bPuts,hX]
 rw [hP1]
 obtain ⟨G,hG⟩:∃ G,G=(bPuts a b).map putE:=⟨_,rfl⟩
 have hGl:G.length≤3000000:=by rw [hG];exact Nat.le_trans (fm_len _ _ _) (by rw [← hM];omega)
 rw [← hG] at hbet ⊢
 clear hround hx1 hx2 hx3 hx4 hx5 hx6
 have hmb:(b.map encObj).length=b.length:=List.length_map _
 refine Sq<|Rg<|Dd (by exact opd_assign_own (id:=954) (sz:=12) (ty:=96) rfl rfl rfl)<|Zz<|Sq<|Sq<|Rg<|Dd (fr' fo38_0)<|Dd (l1' Tryz.isAgg36)<|Dd (ll' Tryz.underlying36)<|Dd mv'<|Zz<|awp_block ?_
 have hboth:bBoth a b=b.filterMap (bothF X a):=by rw [bBoth,hX];rfl
 refine awp_loop (σ:=Nat) (fun i=>([(2,.ref 2 0 0 0),(3,.ref 3 0 0 0),(6,.ref 6 0 0 0),(7,.ref 7 0 0 0),(8,.ref 8 0 0 0),(9,.ref 9 0 0 0),(13,.osl 954 ((b.take i).filterMap (bothF X a)).length 0 ((b.take i).filterMap (bothF X a)).length),(77,.pv (slObjs b)),(78,iv ((b.map encObj).length:Int)),(79,iv (i:Int))],b4H a b X F G Q ((b.take i).filterMap (bothF X a)))) (fun i=>i≤b.length) (fun i=>b.length - i) 0 (Nat.zero_le _) ?_ ?_
 ·exact(Ent.wk (Ea<|Ea<|Ea<|Ea<|Ea<|Ea<|Ea<|Eb<|Eb<|Eb<|trivial) (Hc (kRows_clo _ _)<|Hc (eRows_clo _ _)<|Hc (eRows_clo _ _)<|Hc (eRows_clo _ _)<|Ha<|Ha<|Ha<|Hc (sobN_clo _ _)<|Ha<|Hc (mB_clo _ _)<|Hc (mB_clo _ _)<|trivial) trivial)
 rintro i hi
 obtain ⟨B,hB⟩:∃ B,B=(b.take i).filterMap (bothF X a):=⟨_,rfl⟩
 have hBl:B.length≤1000000:=by rw [hB];exact Nat.le_trans both_len (by rw [List.length_take];omega)
 rw [← hB]
 refine Sq<|Rg<|Dd lss'<|Zz<|Sq ?_
 refine Cn (fun hc5=>?_) fun hc5=>?_
 ·skip
  have hlt:i < b.length:=by have:=of_decide_eq_true hc5;omega
  obtain ⟨o,ho⟩:=get_of_lt hlt
  have hio:=map_get (f:=encObj) ho
  have hsn:=both_snoc (X:=X) (a:=a) ho
  rw [← hB] at hsn
  rcases gidx_cases (idIs o.id) a with⟨e1,e2⟩|⟨q,p,e1,e2,e3⟩
  ·have hb0:bothF X a o=none:=by rw [bothF,show look a o.id=none from e2]
   rw [hb0,Option.toList_none,List.append_nil] at hsn
   have hF:∀ H,ACalls Tryz.prog 54 [.agg [.pv (slObjs a)],sv o.id] H (fun r H'=>r=iv (-1)∧H'=H):=fun H=>by have:=find_c a o.id H (by omega);rw [e1] at this;exact this
   refine awp_skip<|Sq<|awp_block<|Sq<|Rg<|Dd (xp' so36)<|Dd (by exact opd_loadn_pad rfl Tryz.isAgg49 Tryz.sizeOf49 rfl (by omega) (by simp only [Zl,encTag,encObj,encStr,encEdit,encInt,encK];rfl) rfl)<|Dd (by exact x_alloc (id:=115) rfl zo49 rfl rfl)<|Uu (sa' Tryz.sizeOf49)<|Zz<|Sq<|Rg<|Dd (by exact opd_loadn_ref rfl Tryz.isAgg38 Tryz.sizeOf38 rfl rfl rfl rfl (by simp only [Zl,encTag,encObj,encStr,encEdit,encInt,encK];rfl) rfl)<|Dd (fr' fo49_0)<|Dd (l1' Tryz.isAgg9)<|Dd (by exact opr_call rfl rfl Tryz.call54 rfl (hF _))<|Dd as'<|Zz<|Sq<|Rg<|Dd mv'<|Dd ge'<|Dd mv' ?_
   refine al_off rfl rfl rfl (by rfl) rfl ?_
   refine al_off rfl rfl rfl (by rfl) rfl ?_
   refine al_off rfl rfl rfl (by rfl) rfl ?_
   refine al_off rfl rfl rfl (by rfl) rfl ?_
   refine al_off rfl rfl rfl (by rfl) rfl ?_
   refine Dd pk'<|Zz ?_
   refine Cn (fun hc6=>?_) fun hc6=>?_
   ·skip
    cases hc6
   skip
   refine awp_skip<|Rg<|Dd ad'<|Dd mv'<|Zz ?_
   refine⟨i+1,by omega,by omega,?_⟩
   rw [hsn]
   exact(Ent.wk (Ea<|Ea<|Ea<|Ea<|Ea<|Ea<|Ea<|Eb<|Eb<|Eb<|trivial) (Hc (kRows_clo _ _)<|Hc (eRows_clo _ _)<|Hc (eRows_clo _ _)<|Hc (eRows_clo _ _)<|Ha<|Ha<|Ha<|Hc (sobN_clo _ _)<|Ha<|Hc (mB_clo _ _)<|Hc (mB_clo _ _)<|trivial) trivial)
  have hlk:look a o.id=some p:=e3
  have hia:=map_get (f:=encObj) e2
  have hqa:=(List.getElem?_eq_some_iff.1 e2).1
  have hma:(a.map encObj).length=a.length:=List.length_map _
  have hF:∀ H,ACalls Tryz.prog 54 [.agg [.pv (slObjs a)],sv o.id] H (fun r H'=>r=iv (q:Int)∧H'=H):=fun H=>by have:=find_c a o.id H (by omega);rw [e1] at this;exact this
  have h0:decide ((0:Int)≤(q:Int))=true:=decide_eq_true (by omega)
  refine awp_skip<|Sq<|awp_block<|Sq<|Rg<|Dd (xp' so36)<|Dd (by exact opd_loadn_pad rfl Tryz.isAgg49 Tryz.sizeOf49 rfl (by omega) (by simp only [Zl,encTag,encObj,encStr,encEdit,encInt,encK];rfl) rfl)<|Dd (by exact x_alloc (id:=115) rfl zo49 rfl rfl)<|Uu (sa' Tryz.sizeOf49)<|Zz<|Sq<|Rg<|Dd (by exact opd_loadn_ref rfl Tryz.isAgg38 Tryz.sizeOf38 rfl rfl rfl rfl (by simp only [Zl,encTag,encObj,encStr,encEdit,encInt,encK];rfl) rfl)<|Dd (fr' fo49_0)<|Dd (l1' Tryz.isAgg9)<|Dd (by exact opr_call rfl rfl Tryz.call54 rfl (hF _))<|Dd as'<|Zz<|Sq<|Rg<|Dd mv'<|Dd ge'<|Dd mv' ?_
  refine al_ond rfl rfl rfl (by rfl) rfl rfl (by exact opd_load1_ref rfl Tryz.isAgg89 rfl rfl rfl rfl rfl) ?_
  refine al_ond rfl rfl rfl (by rfl) rfl rfl (by exact opd_field_ref rfl fo49_0 rfl rfl rfl rfl) ?_
  refine al_ond rfl rfl rfl (by rfl) rfl rfl (by exact opd_load1_ref rfl Tryz.isAgg9 rfl rfl rfl rfl rfl) ?_
  refine al_ond rfl rfl rfl (by rfl) rfl rfl (by exact x_lookup_set rfl Tryz.underlying89 Tryz.underlying9 rfl rfl rfl rfl rfl Tryz.zeroValue4 (.inl rfl)) ?_
  refine al_ond rfl rfl rfl (by rfl) rfl rfl (by exact opd_not rfl rfl) ?_
  refine Dd pk'<|Zz ?_
  refine Cn (fun hc7=>?_) fun hc7=>?_
  ·skip
   have hin:inB X o.id=false:=by have:=hc7;simpa using this
   have hb1:bothF X a o=some (p,o):=by rw [bothF,hlk];simp only [hin];rfl
   rw [hb1,Option.toList_some] at hsn
   refine awp_drawc follows ?_
   refine dc_cons (r:=⟨_,none,[]⟩) (DStep.plain rfl (fun H1 hH=>by exact opd_move rfl rfl)) rfl ?_
   refine dc_cons (r:=⟨_,none,[]⟩) (DStep.plain rfl (fun H1 hH=>by exact(by exact opd_field_ref rfl fo38_0 rfl ((hH _ rfl).trans rfl) rfl rfl))) rfl ?_
   refine dc_cons (r:=⟨_,none,[]⟩) (DStep.plain rfl (fun H1 hH=>by exact(by exact opd_load1_ref rfl Tryz.isAgg36 rfl ((hH _ rfl).trans rfl) rfl rfl rfl))) rfl ?_
   refine dc_cons (r:=⟨_,none,[]⟩) (DStep.plain rfl (fun H1 hH=>by exact opd_move rfl rfl)) rfl ?_
   refine dc_cons (r:=⟨_,none,[]⟩) (DStep.plain rfl (fun H1 hH=>by exact(by exact x_index_pad rfl so36 rfl rfl (by omega) (by exact Int.toNat_natCast _) (by assumption) rfl))) rfl ?_
   refine dc_cons (r:=⟨_,none,[]⟩) (DStep.plain rfl (fun H1 hH=>by exact(by exact opd_loadn_pad rfl Tryz.isAgg49 Tryz.sizeOf49 rfl (by omega) (by simp only [Zl,encTag,encObj,encStr,encEdit,encInt,encK];rfl) rfl))) rfl ?_
   refine dc_cons (r:=⟨_,none,[]⟩) (DStep.plain rfl (fun H1 hH=>by exact(by exact opd_loadn_ref rfl Tryz.isAgg49 Tryz.sizeOf49 rfl ((hH _ rfl).trans rfl) rfl rfl (by simp only [Zl,encTag,encObj,encStr,encEdit,encInt,encK];rfl) rfl))) rfl ?_
   refine dc_cons (r:=⟨_,none,[]⟩) (DStep.plain rfl (fun H1 hH=>by exact x_build rfl bo96 rfl rfl)) rfl ?_
   refine dc_cons (r:=⟨_,none,[]⟩) (DStep.plain rfl (fun H1 hH=>by exact(by exact x_buildSlice [encK (p,o)] rfl so94 rfl rfl rfl rfl rfl (by intro r hr;rw [List.mem_singleton] at hr;subst hr;rfl)))) rfl ?_
   refine dc_cons (r:=⟨_,none,[_]⟩) (DStep.plain rfl (fun H1 hH=>by exact x_append (ps:=[encK (p,o)]) rfl so94 ei96 rfl ((hH _ rfl).trans rfl) rfl rfl rfl (kRows_len _) rfl (by intro r hr;rw [List.mem_singleton] at hr;subst hr;rfl) (m:=1) rfl (by omega) rfl (kRows_app B (p,o)))) rfl ?_
   refine dc_cons (r:=⟨_,none,[]⟩) (DStep.plain rfl (fun H1 hH=>by exact opd_assign rfl rfl)) rfl ?_
   refine dc_nil ⟨by kernel_rfl,?_⟩
   refine Rg<|Dd ad'<|Dd mv'<|Zz ?_
   refine⟨i+1,by omega,by omega,?_⟩
   rw [hsn,b4H_snoc,snocK_len]
   exact(Ent.wk (Ea<|Ea<|Ea<|Ea<|Ea<|Ea<|Ea<|Eb<|Eb<|Eb<|trivial) (Hc (kRows_clo _ _)<|Hc (eRows_clo _ _)<|Hc (eRows_clo _ _)<|Hc (eRows_clo _ _)<|Ha<|Ha<|Ha<|Hc (sobN_clo _ _)<|Ha<|Hc (mB_clo _ _)<|Hc (mB_clo _ _)<|trivial) trivial)
  skip
  have hin:inB X o.id=true:=by have:=hc7;simpa using this
  have hb1:bothF X a o=none:=by rw [bothF,hlk];simp only [hin];rfl
  rw [hb1,Option.toList_none,List.append_nil] at hsn
  refine awp_skip<|Rg<|Dd ad'<|Dd mv'<|Zz ?_
  refine⟨i+1,by omega,by omega,?_⟩
  rw [hsn]
  exact(Ent.wk (Ea<|Ea<|Ea<|Ea<|Ea<|Ea<|Ea<|Eb<|Eb<|Eb<|trivial) (Hc (kRows_clo _ _)<|Hc (eRows_clo _ _)<|Hc (eRows_clo _ _)<|Hc (eRows_clo _ _)<|Ha<|Ha<|Ha<|Hc (sobN_clo _ _)<|Ha<|Hc (mB_clo _ _)<|Hc (mB_clo _ _)<|trivial) trivial)
 skip
 have hge:i=b.length:=by have:=of_decide_eq_false hc5;omega
 subst hge
 rw [List.take_length,← hboth] at hB
 have hokB:∀ k∈B,okK k:=fun k hk=>by
  rw [hB] at hk
  obtain ⟨q1,q2,_⟩:=mem_both.1 hk
  have g1:=gObj_len (hga.1 k.1 (look_mem q2))
  have g2:=gObj_len (hgb.1 k.2 q1)
  exact⟨⟨g1.1,g2.1⟩,g1.2.1,g2.2.1⟩
 rw [← hB] at hbet
 refine awp_exit<|Sq ?_
 refine AWp.ent (Ent.fz (id:=954) (E':=[(7,.ref 7 0 0 0),(8,.ref 8 0 0 0),(9,.ref 9 0 0 0),(13,.pv (.sl (B.map encK)))]) (H':=[(951,eOb F),(952,eOb G),(953,eOb Q),(7,bx 1 22 [.osl 951 F.length 0 F.length]),(8,bx 1 22 [.osl 952 G.length 0 G.length]),(9,bx 1 22 [.osl 953 Q.length 0 Q.length])]) (B.map encK) rfl (rows_ofY encK B) ?_ rfl ⟨⟨_,rfl,rfl⟩,(by exact eRows_clo _ _),⟨_,rfl,rfl⟩,(by exact eRows_clo _ _),⟨_,rfl,rfl⟩,(by exact eRows_clo _ _),⟨_,rfl,rfl⟩,(by(simp;rfl)),⟨_,rfl,rfl⟩,(by(simp;rfl)),⟨_,rfl,rfl⟩,(by(simp;rfl)),trivial⟩ trivial) ?_
 ·intro q hq
  simp only [List.mem_cons,List.not_mem_nil,or_false] at hq
  rcases hq with rfl|rfl|rfl|rfl
  ·exact⟨_,rfl,.same (by simp;rfl)⟩
  ·exact⟨_,rfl,.same (by simp;rfl)⟩
  ·exact⟨_,rfl,.same (by simp;rfl)⟩
  exact⟨_,rfl,.osl (take_rows encK B)⟩
 skip
 refine Rg<|Dd (l1' Tryz.isAgg22)<|Dd (l1' Tryz.isAgg22)<|Dd (by exact x_append_osl rfl so22 ei51 rfl rfl rfl rfl rfl (eRows_len F) rfl rfl rfl rfl (eRows_rl G) (by simp [eOb,eRows_len]) (by omega) rfl (eRows_two F G))<|Dd as'<|Zz<|Sq<|Rg<|Dd (by exact opr_call rfl rfl Tryz.call55 rfl (how_c _))<|Dd (by exact x_alloc (id:=118) rfl zo99 rfl rfl)<|Uu (sa' Tryz.sizeOf99)<|Zz<|Sq<|Sq<|Rg<|Dd (fr' fo99_0)<|Dd (l1' Tryz.isAgg97)<|Dd (fr' fo99_1)<|Dd (l1' Tryz.isAgg97)<|Dd (fr' fo99_2)<|Dd (l1' Tryz.isAgg97)<|Dd (by exact x_buildSlice [[.fn 106],[.fn 107],[.fn 109]] rfl so101 rfl rfl rfl rfl rfl (by intro r hr;simp only [List.mem_cons,List.not_mem_nil,or_false] at hr;rcases hr with rfl|rfl|rfl<;>rfl))<|Dd (ll' Tryz.underlying101)<|Dd mv'<|Zz<|awp_block ?_
 have hmB:(B.map encK).length=B.length:=List.length_map _
 have hBl:B.length≤1000000:=by rw [hB,hboth];exact Nat.le_trans both_len (by omega)
 refine awp_loop (σ:=Nat) (fun s=>([(9,.ref 9 0 0 0),(13,.pv (.sl (B.map encK))),(17,.osl 951 (F.length+1+s*B.length) 0 (aS B (F++G) s).length),(117,.pv (.sl [[.fn 106],[.fn 107],[.fn 109]])),(118,iv 3),(119,iv (s:Int))],oHB (F.length+1+s*B.length) (aS B (F++G) s) Q)) (fun s=>s≤3) (fun s=>3 - s) 0 (by omega) ?_ ?_
 ·show Ent _ _ _ [(9,_),(13,_),(17,.osl 951 (F.length+1+0*B.length) 0 (F++G).length),(117,_),(118,_),(119,_)] (oHB (F.length+1+0*B.length) (F++G) Q)
  rw [Nat.zero_mul,Nat.add_zero,List.length_append]
  exact(Ent.wk (Ea<|Eb<|Ea<|Eb<|Eb<|Eb<|trivial) (Hc (eRows_clo _ _)<|Hc (eRows_clo _ _)<|Ha<|trivial) trivial)
 rintro s hs
 obtain ⟨A,hA⟩:∃ A,A=aS B (F++G) s:=⟨_,rfl⟩
 have hAl:A.length≤6000000+s*(120*B.length):=by
  rw [hA]
  refine Nat.le_trans (aS_len hokB (F++G) s) ?_
  rw [List.length_append];omega
 have hnxA:aS B (F++G) (s+1)=A++B.flatMap (stS s):=by rw [hA];rfl
 obtain ⟨g,hg⟩:∃ g,g=F.length+1+s*B.length:=⟨_,rfl⟩
 have hg1:F.length+1+(s+1)*B.length=g+B.length:=by rw [hg,Nat.add_mul,Nat.one_mul];omega
 rw [← hA,← hg]
 refine Sq<|Rg<|Dd lss'<|Zz<|Sq ?_
 refine Cn (fun hc8=>?_) fun hc8=>?_
 ·skip
  have hs3:s < 3:=by have:=of_decide_eq_true hc8;omega
  have hAl2:A.length≤246000000:=by
   have:s*(120*B.length)≤2*(120*B.length):=Nat.mul_le_mul_right _ (by omega)
   omega
  have hfn:([[.fn 106],[.fn 107],[.fn 109]]:List (List PV))[s]?=some [.fn (fS s)]:=by
   have h:s=0∨s=1∨s=2:=by omega
   rcases h with rfl|rfl|rfl<;>rfl
  refine awp_skip<|Sq<|awp_block<|Sq<|Rg<|Dd (by exact x_index_pad rfl so101 rfl rfl (by omega) (by exact Int.toNat_natCast _) hfn rfl)<|Dd (lp' Tryz.isAgg97)<|Dd as'<|Zz<|Sq<|Rg<|Dd mv'<|Dd (ll' Tryz.underlying94)<|Dd mv'<|Zz<|awp_block ?_
  refine awp_loop (σ:=Nat) (fun i=>([(9,.ref 9 0 0 0),(13,.pv (.sl (B.map encK))),(17,.osl 951 (g+i) 0 (A++(B.take i).flatMap (stS s)).length),(117,.pv (.sl [[.fn 106],[.fn 107],[.fn 109]])),(118,iv 3),(119,iv (s:Int)),(20,.pv (.fn (fS s))),(123,.pv (.sl (B.map encK))),(124,iv ((B.map encK).length:Int)),(125,iv (i:Int))],oHB (g+i) (A++(B.take i).flatMap (stS s)) Q)) (fun i=>i≤B.length) (fun i=>B.length - i) 0 (Nat.zero_le _) ?_ ?_
  ·show Ent _ _ _ [(9,_),(13,_),(17,.osl 951 g 0 (A++[]).length),(117,_),(118,_),(119,_),(20,_),(123,_),(124,_),(125,_)] (oHB g (A++[]) Q)
   rw [List.append_nil]
   exact(Ent.wk (Ea<|Eb<|Ea<|Eb<|Eb<|Eb<|Eb<|Eb<|Eb<|Eb<|trivial) (Hc (eRows_clo _ _)<|Hc (eRows_clo _ _)<|Ha<|trivial) trivial)
  rintro i hi
  obtain ⟨C,hC⟩:∃ C,C=A++(B.take i).flatMap (stS s):=⟨_,rfl⟩
  have hCl:C.length≤366000000:=by
   have:=flat_len (B:=B.take i) (f:=stS s) (c:=120) (fun k hk=>stS_len s (hokB k (List.mem_of_mem_take hk)))
   rw [hC,List.length_append]
   have h2:(B.take i).length≤1000000:=by rw [List.length_take];omega
   omega
  rw [← hC]
  refine Sq<|Rg<|Dd lss'<|Zz<|Sq ?_
  refine Cn (fun hc9=>?_) fun hc9=>?_
  ·skip
   have hil:i < B.length:=by have:=of_decide_eq_true hc9;omega
   obtain ⟨k,hk⟩:=get_of_lt hil
   have hik:=map_get (f:=encK) hk
   have hok:=hokB k (List.mem_of_getElem? hk)
   have hsl:=stS_len s hok
   have hnx:A++(B.take (i+1)).flatMap (stS s)=C++stS s k:=by rw [hC,List.take_add_one,hk,Option.toList_some,List.flatMap_append,List.flatMap_cons,List.flatMap_nil,List.append_nil,List.append_assoc]
   refine awp_skip<|Sq<|awp_block<|Sq<|Rg<|Dd (xp' so94)<|Dd (by exact opd_loadn_pad rfl Tryz.isAgg96 Tryz.sizeOf96 rfl (by omega) (by simp only [Zl,encTag,encObj,encStr,encEdit,encInt,encK];rfl) rfl)<|Dd (by exact x_alloc (id:=122) rfl zo96 rfl rfl)<|Uu (sa' Tryz.sizeOf96)<|Zz<|Rg<|Dd mv'<|Dd mv'<|Dd (by exact opd_loadn_ref rfl Tryz.isAgg96 Tryz.sizeOf96 rfl rfl rfl rfl (by simp only [Zl,encTag,encObj,encStr,encEdit,encInt,encK];rfl) rfl)<|Dd (by exact opr_callV rfl rfl rfl (step_c s hs3 k hok _))<|Dd (by exact x_append (ps:=(stS s k).map encEdit) rfl so22 ei51 rfl rfl rfl rfl rfl (eRows_len C) rfl (rlE _) (m:=(stS s k).length) (List.length_map _) (by omega) rfl (eRows_more C (stS s k)))<|Dd as'<|Zz<|Rg<|Dd ad'<|Dd mv'<|Zz ?_
   refine⟨i+1,by omega,by omega,?_⟩
   rw [hnx,oHB,List.length_append]
   exact(Ent.wk (Ea<|Eb<|Ea<|Eb<|Eb<|Eb<|Eb<|Eb<|Eb<|Eb<|trivial) (Hc (eRows_clo _ _)<|Hc (eRows_clo _ _)<|Ha<|trivial) trivial)
  skip
  have hil:i=B.length:=by have:=of_decide_eq_false hc9;omega
  subst hil
  rw [List.take_length,← hnxA] at hC
  refine awp_exit<|Rg<|Dd ad'<|Dd mv'<|Zz ?_
  refine⟨s+1,by omega,by omega,?_⟩
  rw [hg1,← hC]
  exact(Ent.wk (Ea<|Eb<|Ea<|Eb<|Eb<|Eb<|trivial) (Hc (eRows_clo _ _)<|Hc (eRows_clo _ _)<|Ha<|trivial) trivial)
 skip
 have hs3:s=3:=by have:=of_decide_eq_false hc8;omega
 subst hs3
 have hAl3:A.length≤366000000:=by omega
 have hfinal:A++Q=betL a b:=by
  rw [hbet,hA,← List.append_assoc,← List.append_assoc,← List.append_assoc,← List.append_assoc]
  rfl
 refine awp_exit<|Sq<|Rg<|Dd mv'<|Dd (l1' Tryz.isAgg22)<|Dd (by exact x_append_osl rfl so22 ei51 rfl rfl rfl rfl rfl (eRows_len A) rfl rfl rfl rfl (eRows_rl Q) (by simp [eOb,eRows_len]) (by omega) rfl (eRows_two A Q))<|Dd as'<|Zz<|Sq<|Sq<|Rg<|Dd mv'<|Dd (by exact opd_len_osl rfl Tryz.underlying22 rfl rfl rfl)<|Dd gt'<|Zz ?_
 refine Cn (fun hc10=>?_) fun hc10=>?_
 ·skip
  have h2:200 < (betL a b).length:=by have:=of_decide_eq_true hc10;rw [← hfinal,List.length_append];omega
  rw [if_pos h2]
  refine Sq<|Rg<|Dd as'<|Dd as'<|Zz<|awp_ret ?_
  refine Ru ?_
  exact⟨rfl,rfl⟩
 skip
 have h2:¬ 200 < (betL a b).length:=by have:=of_decide_eq_false hc10;rw [← hfinal,List.length_append];omega
 rw [if_neg h2,← hfinal]
 refine awp_skip<|Sq ?_
 refine AWp.ent (Ent.fz (id:=951) (E':=[(17,.pv (slEdits (A++Q)))]) (H':=[]) ((A++Q).map encEdit) rfl (rows_ofY encEdit _)
  (by intro q hq;rw [List.mem_singleton] at hq;subst hq;exact⟨_,rfl,.osl (by rw [Nat.zero_add,List.drop_zero,List.take_of_length_le (by rw [List.length_map,List.length_append];exact Nat.le_refl _)])⟩) rfl trivial trivial) ?_
 refine Rg<|Dd mv'<|Dd as'<|Dd as'<|Zz<|awp_ret ?_
 refine Ru ?_
 exact⟨rfl,rfl⟩
theorem between_c (a b:List GObj) (ha:okM a) (hb:okM b) (H:Heap) :
  ACalls Tryz.prog 22 [.agg [.pv (slObjs a)],.agg [.pv (slObjs b)]] H (fun r H'=>r=.tup [.pv (slEdits (gBetween a b).1),iv (gBetween a b).2]∧H'=H):=by
 cases h1:closedB a with
 | false=>exact betweenF_c a b ha hb (by rw [h1];rfl) H
 | true=>cases h2:closedB b with
  | false=>exact betweenF_c a b ha hb (by rw [h2];simp) H
  | true=>exact ACalls.pure (betweenT_c a b ha hb h1 h2) (by simp) H
end
end Go.Proofs.YtlnfjkdacimblaaGreatDoor
namespace Go.Proofs.YtlnfjkdacimblaaGreatDoor
section
/-- One step up. -/
def upAt (u:List Nat) (i:Nat):Nat:=u.getD i i
def topN:Nat→List Nat→Nat→Nat
 | 0,_,i=>i
 | n+1,u,i=>if upAt u i=i then i else topN n u (upAt u i)
/-- The top of an index. -/
def top (u:List Nat) (i:Nat):Nat:=topN i u i
/-- No index is above its own. -/
def UpOk (u:List Nat):Prop:=∀ i,upAt u i≤i
theorem topN_fuel {u:List Nat} (h:UpOk u):∀ (n m i:Nat),i≤n→i≤m→topN n u i=topN m u i
 | 0,m,i,h1,h2=>by
  obtain rfl:i=0:=by omega
  cases m with
  | zero=>rfl
  | succ m=>rw [topN,topN,if_pos (by have:=h 0;omega)]
 | n+1,0,i,h1,h2=>by
  obtain rfl:i=0:=by omega
  rw [topN,topN,if_pos (by have:=h 0;omega)]
 | n+1,m+1,i,h1,h2=>by
  rw [topN,topN]
  by_cases e:upAt u i=i
  ·rw [if_pos e,if_pos e]
  rw [if_neg e,if_neg e]
  have:=h i
  exact topN_fuel h n m _ (by omega) (by omega)
theorem top_step {u:List Nat} (h:UpOk u) (i:Nat):top u i=if upAt u i=i then i else top u (upAt u i):=by
 by_cases e:upAt u i=i
 ·rw [if_pos e,top]
  cases i with
  | zero=>rfl
  | succ i=>rw [topN,if_pos e]
 rw [if_neg e,top,top]
 have:=h i
 obtain ⟨j,rfl⟩:∃ j,i=j+1:=⟨i - 1,by omega⟩
 rw [topN,if_neg e]
 exact topN_fuel h _ _ _ (by omega) (Nat.le_refl _)
theorem top_self {u:List Nat} (h:UpOk u) {i:Nat} (e:upAt u i=i):top u i=i:=by rw [top_step h,if_pos e]
theorem top_up {u:List Nat} (h:UpOk u) {i:Nat} (e:upAt u i≠i):top u i=top u (upAt u i):=by rw [top_step h,if_neg e]
theorem top_props {u:List Nat} (h:UpOk u):∀ n i,i≤n→top u i≤i∧upAt u (top u i)=top u i
 | 0,i,hi=>by
  obtain rfl:i=0:=by omega
  have e:upAt u 0=0:=by have:=h 0;omega
  rw [top_self h e]
  exact⟨Nat.le_refl _,e⟩
 | n+1,i,hi=>by
  by_cases e:upAt u i=i
  ·rw [top_self h e];exact⟨Nat.le_refl _,e⟩
  have h1:=h i
  obtain ⟨h2,h3⟩:=top_props h n (upAt u i) (by omega)
  rw [top_up h e]
  exact⟨by omega,h3⟩
theorem top_le {u:List Nat} (h:UpOk u) (i:Nat):top u i≤i:=(top_props h i i (Nat.le_refl _)).1
theorem top_root {u:List Nat} (h:UpOk u) (i:Nat):upAt u (top u i)=top u i:=(top_props h i i (Nat.le_refl _)).2
/-- The sets of two indices joined. -/
def joinU (u:List Nat) (a b:Nat):List Nat:=u.set (max (top u a) (top u b)) (min (top u a) (top u b))
theorem joinU_len (u:List Nat) (a b:Nat):(joinU u a b).length=u.length:=List.length_set
theorem upAt_set {u:List Nat} {M m:Nat} (hM:M < u.length) (i:Nat):upAt (u.set M m) i=if i=M then m else upAt u i:=by
 unfold upAt
 rw [List.getD_eq_getElem?_getD,List.getD_eq_getElem?_getD,List.getElem?_set]
 by_cases e:i=M
 ·subst e
  rw [if_pos rfl,if_pos rfl,if_pos hM];rfl
 rw [if_neg e,if_neg (Ne.symm e)]
theorem joinU_ok {u:List Nat} (h:UpOk u) {a b:Nat} (ha:a < u.length) (hb:b < u.length):UpOk (joinU u a b):=by
 intro i
 have h1:=top_le h a
 have h2:=top_le h b
 rw [joinU,upAt_set (by omega)]
 by_cases e:i=max (top u a) (top u b)
 ·rw [if_pos e];omega
 rw [if_neg e];exact h i
theorem top_join {u:List Nat} (h:UpOk u) {a b:Nat} (ha:a < u.length) (hb:b < u.length):∀ n z,z≤n→top (joinU u a b) z=if top u z=max (top u a) (top u b)then min (top u a) (top u b)else top u z:=by
 have h1:=top_le h a
 have h2:=top_le h b
 have r1:=top_root h a
 have r2:=top_root h b
 have h':=joinU_ok h ha hb
 have hup:∀ i,upAt (joinU u a b) i=if i=max (top u a) (top u b)then min (top u a) (top u b)else upAt u i:=fun i=>upAt_set (by omega) i
 obtain ⟨M,hM⟩:∃ M,M=max (top u a) (top u b):=⟨_,rfl⟩
 obtain ⟨m,hm⟩:∃ m,m=min (top u a) (top u b):=⟨_,rfl⟩
 have rM:upAt u M=M:=by rcases Nat.le_total (top u a) (top u b)with g|g<;>(rw [hM];first|rw [Nat.max_eq_right g];exact r2|rw [Nat.max_eq_left g];exact r1)
 have rm:upAt u m=m:=by rcases Nat.le_total (top u a) (top u b)with g|g<;>(rw [hm];first|rw [Nat.min_eq_left g];exact r1|rw [Nat.min_eq_right g];exact r2)
 have hmM:m≤M:=by omega
 rw [← hM,← hm] at hup ⊢
 intro n
 induction n with
 | zero =>
  intro z hz
  obtain rfl:z=0:=by omega
  have e0:upAt u 0=0:=by have:=h 0;omega
  rw [top_self h e0]
  by_cases e:(0:Nat)=M
  ·rw [if_pos e,top_self h' (by rw [hup,if_pos e];omega)];omega
  rw [if_neg e,top_self h' (by rw [hup,if_neg e];exact e0)]
 | succ n ih =>
  intro z hz
  by_cases e0:upAt u z=z
  ·rw [top_self h e0]
   by_cases e:z=M
   ·rw [if_pos e]
    by_cases em:m=M
    ·rw [top_self h' (by rw [hup,if_pos e];omega)];omega
    rw [top_up h' (by rw [hup,if_pos e];omega),hup,if_pos e]
    exact top_self h' (by rw [hup,if_neg em];exact rm)
   rw [if_neg e,top_self h' (by rw [hup,if_neg e];exact e0)]
  have hzM:z≠M:=fun e=>e0 (by rw [e];exact rM)
  have:=h z
  rw [top_up h' (by rw [hup,if_neg hzM];exact e0),hup,if_neg hzM,top_up h e0]
  exact ih _ (by omega)
theorem upAt_snoc (u:List Nat) (i:Nat):upAt (u++[u.length]) i=upAt u i:=by
 unfold upAt
 rw [List.getD_eq_getElem?_getD,List.getD_eq_getElem?_getD]
 rcases Nat.lt_trichotomy i u.length with h|h|h
 ·rw [List.getElem?_append_left h]
 ·subst h
  simp
 rw [List.getElem?_eq_none (by simp;omega),List.getElem?_eq_none (by omega)]
theorem topN_congr {u v:List Nat} (h:∀ i,upAt u i=upAt v i):∀ n i,topN n u i=topN n v i
 | 0,_=>rfl
 | n+1,i=>by rw [topN,topN,h,topN_congr h n]
theorem top_snoc (u:List Nat) (i:Nat):top (u++[u.length]) i=top u i:=topN_congr (upAt_snoc u) _ _
theorem snoc_ok {u:List Nat} (h:UpOk u):UpOk (u++[u.length]):=fun i=>by rw [upAt_snoc];exact h i
theorem nil_ok:UpOk []:=fun i=>Nat.le_of_eq rfl
theorem top_nil (i:Nat):top [] i=i:=top_self nil_ok rfl
/-! ### sets that links join -/
/-- Links do not leave a class. -/
def Inv (L:Nat→Nat→Prop) (f:Nat→Nat):Prop:=∀ i k,L i k→f i=f k
structure Snd (L:Nat→Nat→Prop) (u:List Nat):Prop where
 ok:UpOk u
 sn:∀ f,Inv L f→∀ x,f (top u x)=f x
theorem Snd.nil (L:Nat→Nat→Prop):Snd L []:=⟨nil_ok,fun f _ x=>by rw [top_nil]⟩
theorem Snd.snoc {L:Nat→Nat→Prop} {u:List Nat} (h:Snd L u):Snd L (u++[u.length]):=⟨snoc_ok h.ok,fun f hf x=>by rw [top_snoc];exact h.sn f hf x⟩
theorem Snd.join {L:Nat→Nat→Prop} {u:List Nat} (h:Snd L u) {a b:Nat} (ha:a < u.length) (hb:b < u.length) (hL:∀ f,Inv L f→f a=f b):Snd L (joinU u a b):=by
 refine⟨joinU_ok h.ok ha hb,fun f hf x=>?_⟩
 rw [top_join h.ok ha hb x x (Nat.le_refl _)]
 have e1:=h.sn f hf a
 have e2:=h.sn f hf b
 have e3:=h.sn f hf x
 have e4:=hL f hf
 by_cases e:top u x=max (top u a) (top u b)
 ·rw [if_pos e,← e3,e]
  rcases Nat.le_total (top u a) (top u b)with g|g
  ·rw [Nat.min_eq_left g,Nat.max_eq_right g,e1,e2,e4]
  rw [Nat.min_eq_right g,Nat.max_eq_left g,e1,e2,e4]
 rw [if_neg e];exact e3
theorem join_same {u:List Nat} (h:UpOk u) {a b:Nat} (ha:a < u.length) (hb:b < u.length):top (joinU u a b) a=top (joinU u a b) b:=by
 rw [top_join h ha hb a a (Nat.le_refl _),top_join h ha hb b b (Nat.le_refl _)]
 rcases Nat.le_total (top u a) (top u b)with g|g
 ·rw [Nat.min_eq_left g,Nat.max_eq_right g,if_pos rfl]
  split
  ·rfl
  rfl
 rw [Nat.min_eq_right g,Nat.max_eq_left g,if_pos rfl]
 split<;>rfl
theorem join_keep {u:List Nat} (h:UpOk u) {a b x y:Nat} (ha:a < u.length) (hb:b < u.length) (e:top u x=top u y):top (joinU u a b) x=top (joinU u a b) y:=by
 rw [top_join h ha hb x x (Nat.le_refl _),top_join h ha hb y y (Nat.le_refl _),e]
/-! ### the sets of edits -/
section
variable {S:Type} [DecidableEq S]
def fget:List (S×Nat)→S→Option Nat
 | [],_=>none
 | (k,v)::r,s=>if k=s then some v else fget r s
def wr1 (i:Nat) (st:List Nat×List (S×Nat)) (s:S):List Nat×List (S×Nat):=match fget st.2 s with
 | some k=>(joinU st.1 i k,st.2)
 | none=>(st.1,st.2++[(s,i)])
def us1K (W:Nat→List S):Nat→List Nat×List (S×Nat)
 | 0=>([],[])
 | k+1=>(W k).foldl (wr1 k) ((us1K W k).1++[k],(us1K W k).2)
def wr2 (F:List (S×Nat)) (i:Nat) (u:List Nat) (s:S):List Nat:=match fget F s with
 | some k=>joinU u i k
 | none=>u
def us2K (F:List (S×Nat)) (u:List Nat) (N:Nat→List S):Nat→List Nat
 | 0=>u
 | k+1=>(N k).foldl (wr2 F k) (us2K F u N k)
theorem fget_app:∀ (l:List (S×Nat)) (s t:S) (i:Nat),fget (l++[(t,i)]) s=match fget l s with
  | some k=>some k
  | none=>if t=s then some i else none
 | [],s,t,i=>rfl
 | (k,v)::r,s,t,i=>by
  rw [List.cons_append,fget,fget,fget_app r s t i]
  by_cases e:k=s
  ·rw [if_pos e,if_pos e]
  rw [if_neg e,if_neg e]
structure I1 (L:Nat→Nat→Prop) (W:Nat→List S) (k m:Nat) (st:List Nat×List (S×Nat)):Prop where
 len:st.1.length=m
 snd:Snd L st.1
 at_:∀ s j,fget st.2 s=some j→j < m∧s∈W j
 has:∀ j,j < k→∀ s,s∈W j→(fget st.2 s).isSome=true
theorem wr1_has {i:Nat} {st:List Nat×List (S×Nat)} {s t:S} (h:t=s∨(fget st.2 t).isSome=true):(fget (wr1 i st s).2 t).isSome=true:=by
 unfold wr1
 split
 ·next k hk =>
  rcases h with rfl|h
  ·show (fget st.2 t).isSome=true;rw [hk];rfl
  exact h
 next hk =>
 show (fget (st.2++[(s,i)]) t).isSome=true
 rw [fget_app]
 split
 ·rfl
 next hn =>
 rcases h with rfl|h
 ·rw [if_pos rfl];rfl
 rw [hn] at h;cases h
theorem fold1 {L:Nat→Nat→Prop} {W:Nat→List S} {k:Nat} (hL:∀ j s,j < k+1→s∈W k→s∈W j→∀ f,Inv L f→f k=f j):∀ (ws:List S) (st:List Nat×List (S×Nat)),(∀ s∈ws,s∈W k)→I1 L W k (k+1) st→(∀ s,s∈W k→s∈ws∨(fget st.2 s).isSome=true)→I1 L W (k+1) (k+1) (ws.foldl (wr1 k) st)
 | [],st,_,h,hall=>by
  refine⟨h.len,h.snd,h.at_,fun j hj s hs=>?_⟩
  by_cases e:j=k
  ·subst e
   rcases hall s hs with h1|h1
   ·cases h1
   exact h1
  exact h.has j (by omega) s hs
 | s :: r, st, hw, h, hall => by
  rw [List.foldl_cons]
  refine fold1 hL r _ (fun x hx=>hw x (List.mem_cons_of_mem _ hx)) ?_ ?_
  ·have hsW:=hw s List.mem_cons_self
   refine⟨?_,?_,?_,fun j hj t ht=>wr1_has (.inr (h.has j hj t ht))⟩
   ·unfold wr1
    split
    ·rw [joinU_len];exact h.len
    exact h.len
   ·unfold wr1
    split
    ·next j hj =>
     obtain ⟨a1,a2⟩:=h.at_ s j hj
     exact h.snd.join (by rw [h.len];omega) (by rw [h.len];exact a1) (hL j s a1 hsW a2)
    exact h.snd
   intro t j
   unfold wr1
   split
   ·exact h.at_ t j
   next hn =>
   intro ht
   have ht:fget (st.2++[(s,k)]) t=some j:=ht
   rw [fget_app] at ht
   split at ht
   ·next k2 hk2=>exact h.at_ t j (by rw [hk2];exact ht)
   by_cases e:s=t
   ·rw [if_pos e] at ht
    cases ht
    exact⟨Nat.lt_succ_self _,e▸hsW⟩
   rw [if_neg e] at ht;cases ht
  intro t ht
  rcases hall t ht with h1|h1
  ·rcases List.mem_cons.1 h1 with rfl|h2
   ·exact .inr (wr1_has (.inl rfl))
   exact .inl h2
  exact .inr (wr1_has (.inr h1))
theorem us1_ok {L:Nat→Nat→Prop} {W:Nat→List S} {n:Nat} (hL:∀ i j s,i < n→j < n→s∈W i→s∈W j→∀ f,Inv L f→f i=f j):∀ k,k≤n→I1 L W k k (us1K W k)
 | 0,_=>⟨rfl,Snd.nil L,(fun s j h=>by cases h),fun j hj=>absurd hj (Nat.not_lt_zero _)⟩
 | k+1,hk=>by
  have h:=us1_ok hL k (Nat.le_of_succ_le hk)
  rw [us1K]
  refine fold1 (fun j s hj hs hs2=>hL k j s hk (by omega) hs hs2) (W k) _ (fun s hs=>hs) ⟨?_,?_,fun s j hj=>?_,h.has⟩ (fun s hs=>.inl hs)
  ·show ((us1K W k).1++[k]).length=k+1
   rw [List.length_append,h.len];rfl
  ·have:=h.snd.snoc
   rw [h.len] at this
   exact this
  obtain ⟨a,b⟩:=h.at_ s j hj
  exact⟨by omega,b⟩
structure I2 (L:Nat→Nat→Prop) (F:List (S×Nat)) (N:Nat→List S) (n k:Nat) (u:List Nat):Prop where
 len:u.length=n
 snd:Snd L u
 same:∀ i,i < k→∀ s,s∈N i→∀ j,fget F s=some j→top u i=top u j
theorem fold2 {L:Nat→Nat→Prop} {F:List (S×Nat)} {N:Nat→List S} {n k:Nat} (hk:k < n) (hF:∀ s j,fget F s=some j→j < n) (hL:∀ s j,s∈N k→fget F s=some j→∀ f,Inv L f→f k=f j):∀ (ns:List S) (u:List Nat),(∀ s∈ns,s∈N k)→I2 L F N n k u→(∀ s,s∈N k→s∈ns∨∀ j,fget F s=some j→top u k=top u j)→I2 L F N n (k+1) (ns.foldl (wr2 F k) u)
 | [],u,_,h,hall=>by
  refine⟨h.len,h.snd,fun i hi s hs=>?_⟩
  by_cases e:i=k
  ·subst e
   rcases hall s hs with h1|h1
   ·cases h1
   exact h1
  exact h.same i (by omega) s hs
 | s :: r, u, hw, h, hall => by
  rw [List.foldl_cons]
  cases hg:fget F s with
  | none =>
   have e:wr2 F k u s=u:=by unfold wr2;rw [hg]
   rw [e]
   refine fold2 hk hF hL r u (fun x hx=>hw x (List.mem_cons_of_mem _ hx)) h (fun t ht=>?_)
   rcases hall t ht with h1|h1
   ·rcases List.mem_cons.1 h1 with rfl|h2
    ·exact .inr fun j hj=>by rw [hg] at hj;cases hj
    exact .inl h2
   exact .inr h1
  | some j =>
   have e:wr2 F k u s=joinU u k j:=by unfold wr2;rw [hg]
   have hj:=hF s j hg
   have hkl:k < u.length:=by rw [h.len];exact hk
   have hjl:j < u.length:=by rw [h.len];exact hj
   rw [e]
   refine fold2 hk hF hL r _ (fun x hx=>hw x (List.mem_cons_of_mem _ hx)) ⟨by rw [joinU_len];exact h.len,h.snd.join hkl hjl (hL s j (hw s List.mem_cons_self) hg),fun i hi t ht j2 hj2=>join_keep h.snd.ok hkl hjl (h.same i hi t ht j2 hj2)⟩ (fun t ht=>?_)
   rcases hall t ht with h1|h1
   ·rcases List.mem_cons.1 h1 with rfl|h2
    ·refine .inr fun j2 hj2=>?_
     rw [hg] at hj2
     cases hj2
     exact join_same h.snd.ok hkl hjl
    exact .inl h2
   exact .inr fun j2 hj2=>join_keep h.snd.ok hkl hjl (h1 j2 hj2)
theorem us2_ok {L:Nat→Nat→Prop} {F:List (S×Nat)} {N:Nat→List S} {n:Nat} {u:List Nat} (hu:u.length=n) (hs:Snd L u) (hF:∀ s j,fget F s=some j→j < n) (hL:∀ i s j,i < n→s∈N i→fget F s=some j→∀ f,Inv L f→f i=f j):∀ k,k≤n→I2 L F N n k (us2K F u N k)
 | 0,_=>⟨hu,hs,fun i hi=>absurd hi (Nat.not_lt_zero _)⟩
 | k+1,hk=>by
  have h:=us2_ok hu hs hF hL k (Nat.le_of_succ_le hk)
  rw [us2K]
  exact fold2 hk hF (fun s j=>hL k s j hk) (N k) _ (fun s hs=>hs) h (fun s hs=>.inl hs)
def topsU (W N:Nat→List S) (n:Nat):List Nat:=us2K (us1K W n).2 (us1K W n).1 N n
/-- Two edits are linked: one of them writes what the other one names. -/
def LinkN (W N:Nat→List S) (n i k:Nat):Prop:=i < n∧k < n∧∃ s,s∈N i∧s∈W k
def Lnk (W N:Nat→List S) (n:Nat) (i k:Nat):Prop:=LinkN W N n i k∨LinkN W N n k i
structure Cls (L:Nat→Nat→Prop) (f:Nat→Nat):Prop where
 le:∀ x,f x≤x
 inv:Inv L f
 sn:∀ g,Inv L g→∀ x,g (f x)=g x
theorem tops_ok (W N:Nat→List S) (n:Nat) (hWN:∀ i s,s∈W i→s∈N i):Cls (Lnk W N n) (top (topsU W N n))∧(topsU W N n).length=n∧UpOk (topsU W N n):=by
 have h1:=us1_ok (L:=Lnk W N n) (W:=W) (n:=n) (fun i j s hi hj hs1 hs2 f hf=>hf i j (.inl ⟨hi,hj,s,hWN i s hs1,hs2⟩)) n (Nat.le_refl _)
 have h2:=us2_ok (L:=Lnk W N n) (N:=N) h1.len h1.snd (fun s j h=>(h1.at_ s j h).1) (fun i s j hi hs hj f hf=>hf i j (.inl ⟨hi,(h1.at_ s j hj).1,s,hs,(h1.at_ s j hj).2⟩)) n (Nat.le_refl _)
 refine⟨⟨fun x=>top_le h2.snd.ok x,?_,h2.snd.sn⟩,h2.len,h2.snd.ok⟩
 have key:∀ i k,LinkN W N n i k→top (topsU W N n) i=top (topsU W N n) k:=by
  rintro i k ⟨hi,hk,s,hs1,hs2⟩
  have h3:=h1.has k hk s hs2
  obtain ⟨j,hj⟩:=Option.isSome_iff_exists.1 h3
  exact(h2.same i hi s hs1 j hj).trans (h2.same k hk s (hWN k s hs2) j hj).symm
 intro i k h
 rcases h with h|h
 ·exact key i k h
 exact(key k i h).symm
theorem Cls.idem {L:Nat→Nat→Prop} {f:Nat→Nat} (h:Cls L f) (x:Nat):f (f x)=f x:=h.sn f h.inv x
end
end
section
/-! ### the groups of a labelling -/
def roots (f:Nat→Nat) (n:Nat):List Nat:=(List.range n).filter fun i=>f i=i
def grp (f:Nat→Nat) (n r:Nat):List Nat:=(List.range n).filter fun j=>f j=r
def groups (f:Nat→Nat) (n:Nat):List (List Nat):=(roots f n).map (grp f n)
theorem mem_roots {f:Nat→Nat} {n r:Nat}:r∈roots f n↔r < n∧f r=r:=by
 rw [roots,List.mem_filter,List.mem_range,decide_eq_true_eq]
theorem mem_grp {f:Nat→Nat} {n r j:Nat}:j∈grp f n r↔j < n∧f j=r:=by
 rw [grp,List.mem_filter,List.mem_range,decide_eq_true_eq]
theorem range_sorted (n:Nat):(List.range n).Pairwise (· < ·):=List.pairwise_lt_range
theorem roots_sorted (f:Nat→Nat) (n:Nat):(roots f n).Pairwise (· < ·):=List.Pairwise.filter _ (range_sorted n)
theorem sorted_lt {l:List Nat} (h:l.Pairwise (· < ·)) {i j a b:Nat} (hij:i < j) (ha:l[i]?=some a) (hb:l[j]?=some b):a < b:=by
 obtain ⟨h1,rfl⟩:=List.getElem?_eq_some_iff.1 ha
 obtain ⟨h2,rfl⟩:=List.getElem?_eq_some_iff.1 hb
 exact List.pairwise_iff_getElem.1 h i j h1 h2 hij
theorem sorted_inj {l:List Nat} (h:l.Pairwise (· < ·)) {i j a:Nat} (ha:l[i]?=some a) (hb:l[j]?=some a):i=j:=by
 rcases Nat.lt_trichotomy i j with h1|h1|h1
 ·exact absurd (sorted_lt h h1 ha hb) (Nat.lt_irrefl _)
 ·exact h1
 exact absurd (sorted_lt h h1 hb ha) (Nat.lt_irrefl _)
theorem nodup_sorted {l:List Nat} (h:l.Pairwise (· < ·)):l.Nodup:=List.Pairwise.imp (fun h=>Nat.ne_of_lt h) h
end
end Go.Proofs.YtlnfjkdacimblaaGreatDoor
namespace Go.Proofs.YtlnfjkdacimblaaGreatDoor
open Go.Abs
section
/-- The Ids that an edit writes. -/
def gWrites (e:GEdit):List ByteArray:=if e.op=1 then[e.obj.id] else if e.op=6∨e.op=7 then[e.id,e.other] else[e.id]
def wrOf (l:List GEdit) (i:Nat):List ByteArray:=((l[i]?).map gWrites).getD []
def nmOf (l:List GEdit) (i:Nat):List ByteArray:=((l[i]?).map gNames).getD []
def topsE (l:List GEdit):List Nat:=topsU (wrOf l) (nmOf l) l.length
/-- The units of a change set. -/
def gUnits (l:List GEdit):List (List Nat):=if gChange l then groups (top (topsE l)) l.length else[]
theorem writes_names {e:GEdit} (hv:gEditV e=true) {s:ByteArray} (h:s∈gWrites e):s∈gNames e:=by
 obtain ⟨⟨h1,h2⟩,h3,h4⟩:=gEditV_iff.1 hv
 rw [names_mem hv]
 rw [gWrites] at h
 by_cases e1:e.op=1
 ·rw [if_pos e1,List.mem_singleton] at h
  exact⟨by rw [h];simp [raw],h▸okOf_obj h3 e1⟩
 rw [if_neg e1] at h
 by_cases e6:e.op=6∨e.op=7
 ·rw [if_pos e6] at h
  rcases List.mem_cons.1 h with h|h
  ·exact⟨by rw [h];simp [raw],h▸okOf_id h3 e1⟩
  rw [List.mem_singleton] at h
  exact⟨by rw [h];simp [raw],h▸okOf_other h3 e6⟩
 rw [if_neg e6,List.mem_singleton] at h
 exact⟨by rw [h];simp [raw],h▸okOf_id h3 e1⟩
theorem gChange_all {l:List GEdit} (h:gChange l=true):0 < l.length∧l.length≤200∧∀ e∈l,gEditV e=true:=by
 rw [gChange,Bool.and_eq_true,Bool.and_eq_true,decide_eq_true_eq,decide_eq_true_eq,Bool.not_eq_true',List.any_eq_false] at h
 obtain ⟨⟨h1,h2⟩,h3⟩:=h
 exact⟨by omega,by omega,fun e he=>by have:=h3 e he;simpa using this⟩
theorem wr_nm {l:List GEdit} (h:gChange l=true) (i:Nat) (s:ByteArray) (hs:s∈wrOf l i):s∈nmOf l i:=by
 rw [wrOf] at hs
 rw [nmOf]
 cases e:l[i]? with
 | none=>rw [e] at hs;cases hs
 | some x =>
  rw [e] at hs
  exact writes_names ((gChange_all h).2.2 x (List.mem_of_getElem? e)) hs
/-- Two edits are linked. -/
def LnkE (l:List GEdit):Nat→Nat→Prop:=Lnk (wrOf l) (nmOf l) l.length
theorem topsE_ok {l:List GEdit} (h:gChange l=true):Cls (LnkE l) (top (topsE l))∧(topsE l).length=l.length∧UpOk (topsE l):=tops_ok _ _ _ (wr_nm h)
end
end Go.Proofs.YtlnfjkdacimblaaGreatDoor
namespace Go.Abs
section
section
variable {P:Program} {N:Nat} {o:Oper} {E:Env} {H:Heap} {T:TypeId} {x y:Operand}
theorem x_build_nils {e:TypeId} (ho:o.op=.buildSlice T 1 #[(0,.const (.slice none 0 0))]) (hS:SliceOf P T e 1):OpD P N o E H (.pv (.sl [[.nils]])) H:=by
 obtain ⟨hT,hs,hsz,z,hz⟩:=hS
 intro a w I ι _ _ hrel he K Q hk
 obtain ⟨a',ha'⟩:∃ a':Act,a'={a with tmps:=#[.slice none 0 0]}:=⟨_,rfl⟩
 have he':ERel w I ι H [(0,.pv .nils)] a':=fun t v ht=>by
  have:=mem_of_get ht
  rw [List.mem_singleton] at this
  cases this
  exact⟨.slice none 0 0,by rw [ha'];rfl,.pv .nils⟩
 obtain ⟨c2,k1,k2,_,k4⟩:=fill_rows (c:=(Array.range (1*1)).map (z.cells[· % z.cells.size]!)) (ps:=[(0,.tmp 0)]) (aps:=[(0,.pv .nils)]) (rows:=[[.pv .nils]]) (k:=0) he' 1 rfl rfl (fun r hr=>by
  rw [List.mem_singleton] at hr;subst hr;rfl) (by rw [made_size];simp)
 have hev:([((0:Nat),(Operand.tmp 0))].map fun p=>(p.1,a'.eval p.2))=[((0:Nat),Value.slice none 0 0)]:=by rw [ha'];rfl
 rw [hev] at k1
 have hsz':c2.size=1:=by rw [k2,made_size]
 have hrun:(Instr.buildSlice T 1 (#[((0:Nat),(Operand.const (.slice none 0 0)))].map fun p=>(p.1,a.eval p.2))).run P w=.ok (.slice (some ⟨w.heap.size,0,none⟩) 1 1) (w.alloc (.cells c2 e)):=by
  have h2:(#[((0:Nat),(Operand.const (.slice none 0 0)))].map fun p=>(p.1,a.eval p.2)).toList=[((0:Nat),Value.slice none 0 0)]:=by rw [Array.toList_map];rfl
  simp only [Instr.buildSlice,Sem.run_bind,run_underlying hT,Result.andThen_ok,hs,Sem.run_ite,show ¬ (1*1 > 2 ^ 24)by decide,if_false,show ¬ (1*1=0)by decide,hz,Sem.run_pure,h2,k1,newRow,run_newObj]
  rfl
 obtain ⟨m1,m2⟩:=Rel.newImm (c:=c2) (t:=e) (w':=w.alloc (.cells c2 e)) hrel rfl rfl rfl rfl
 unfold Oper.wpW execOp
 simp only [ho,Sem.run_bind,hrun,Result.andThen_ok,Sem.run_pure]
 refine hk _ _ _ ι _ _ ⟨rfl,rfl⟩ (.pv ?_) m1 m2
 have hcell:∀ j,(w.alloc (.cells c2 e)).cell? ⟨w.heap.size,j,none⟩=c2[j]?:=fun j=>World.cell?_alloc_new w c2 e j
 have hrow:∀ (i:Nat) (r:List PV),([[PV.nils]]:List (List PV))[i]?=some r→(([[PV.nils]]:List (List PV)).map (·.map AV.pv))[i]?=some (r.map .pv):=fun i r h=>by rw [List.getElem?_map,h];rfl
 exact PRep.sl (w:=w.alloc (.cells c2 e)) (I:=fun b=>I b∨b=w.heap.size) w.heap.size 0 1 1 [[.nils]] (fun i k=>(c2[i*1+k]?).getD undef) (.inr rfl) Nat.zero_lt_one (fun r hr=>by rw [List.mem_singleton] at hr;subst hr;rfl) (by simp)
  (fun i r hi k p hk=>by
   obtain ⟨u,q1,q2,q3⟩:=k4 i (r.map .pv) (hrow i r hi) k (.pv p) (by simp [hk])
   rw [Nat.zero_add] at q1
   rw [hcell,Nat.zero_add,q1];rfl)
  (fun i r hi k p hk=>by
   obtain ⟨u,q1,q2,q3⟩:=k4 i (r.map .pv) (hrow i r hi) k (.pv p) (by simp [hk])
   rw [Nat.zero_add] at q1
   rw [q1]
   exact(q3.mono hrel m2).pv_inv)
/-- An operation whose operand is a nil slice: the slice is owned from here on. -/
theorem OpD.nilown {t id sz:Nat} {ty:TypeId} {v:AV} {H2:Heap} (hx:E.get t=some (.pv .nils)) (hid:H.get id=none) (hsz:Nat.blt 0 sz=true)
  (h:OpD P N o ((t,.osl id 0 0 0)::E) ((id,⟨0,sz,ty,[]⟩)::H) v H2):OpD P N o E H v H2:=by
 intro a w I ι _ hN hr he K Q hk
 have hz:0 < sz:=by simpa [Nat.blt_eq] using hsz
 obtain ⟨c,hc,hv⟩:=he t _ hx
 obtain ⟨k1,k2⟩:=Rel.adopt (sz:=sz) (ty:=ty) hr hid hz
 have hvn:c=.slice none 0 0:=by
  have:=hv.pv_inv
  cases this;rfl
 subst hvn
 refine h a w I _ trivial hN k1 (fun u x hu=>?_) K Q (fun c' w' I' ι' r H' hR hv' hr' hs'=>hk c' w' I' ι' r H' hR hv' hr' (k2.trans hs'))
 by_cases e:t=u
 ·subst e
  rw [Env.get_cons_same] at hu;cases hu
  exact⟨_,hc,.osl ⟨0,sz,ty,[]⟩ (get_cons_same _ _ _) (Nat.le_refl _) rfl fun _=>⟨hz,Nat.le_refl _,.inr ⟨by simp,rfl,rfl,rfl⟩⟩⟩
 rw [Env.get_cons_other _ _ e] at hu
 obtain ⟨c,h1,h2⟩:=he u x hu
 exact⟨c,h1,h2.mono hr k2⟩
/-- Append to a nil slice: an object of its own. -/
theorem x_append_nils {e:TypeId} {t m sz bytes id:Nat} {ps:List (List PV)} {rows':List (List AV)} (ho:o.op=.call {callee:=.builtin .append,args:=#[.tmp t,y],argTypes:=#[T,T]}) (hS:SliceOf P T e sz) (hinf:EI P e sz bytes)
  (hx:E.get t=some (.pv .nils)) (hy:aeval ((t,.osl id 0 0 0)::E) y=some (.pv (.sl ps))) (hrl:∀ r∈ps,r.length=sz) (hm:ps.length=m) (hbytes:m*bytes≤140737488355328) (hrows:ps.map (·.map AV.pv)=rows') (hid:H.get id=none) :
  OpD P N o E H (.osl id 1 0 m) ((id,⟨1,sz,e,rows'⟩)::(id,⟨0,sz,e,[]⟩)::H):=by
 have hz:0 < sz:=hS.2.2.1
 refine OpD.nilown (id:=id) (sz:=sz) (ty:=e) hx hid (by simpa [Nat.blt_eq] using hz) ?_
 exact x_append (ps:=ps) ho hS hinf (n:=0) (m:=m) (ob:=⟨0,sz,e,[]⟩) (by simp [aeval,Env.get,beq_self]) (get_cons_same _ _ _) rfl rfl rfl rfl hy hrl hm (by rw [Nat.zero_add];exact hbytes) (Nat.zero_add _) (by simpa using hrows)
end
/-- A call's result in another writing. -/
theorem ACalls.fin {P:Program} {f:FuncId} {args:List AV} {H:Heap} {Q Q':AV→Heap→Prop} (h:ACalls P f args H Q) (hq:∀ r H1,Q r H1→∃ r' H2,Fin H H1 r H2 r'∧Q' r' H2):ACalls P f args H Q' :=
 fun I ι w vs hr hl hv=>(h I ι w vs hr hl hv).mono fun _ w' ⟨r,H',I',ι',v,e,q,k1,k2,k3⟩=>by
  obtain ⟨r',H2,hf,hq'⟩:=hq r H' q
  obtain ⟨I2,ι2,a1,a2,a3⟩:=hf ⟨I,ι,H,w⟩ rfl I' ι' w' v k2 k3 k1
  exact⟨r',H2,I2,ι2,v,e,hq',a3,a1,a2⟩
end
end Go.Abs
namespace Go.Proofs.YtlnfjkdacimblaaGreatDoor
open Go.Abs
section
def iRows (l:List Nat):List (List AV):=l.map fun(x:Nat)=>[iv (x:Int)]
theorem iRows_len (l:List Nat):(iRows l).length=l.length:=List.length_map _
theorem iRows_app (l:List Nat) (x:Nat):iRows l++[[iv (x:Int)]]=iRows (l++[x]):=by rw [iRows,iRows,List.map_append];rfl
theorem iRows_get {l:List Nat} {i x:Nat} (h:l[i]?=some x):(iRows l)[i]?=some [iv (x:Int)]:=by rw [iRows,List.getElem?_map,h];rfl
theorem iRows_clo (H:Heap) (l:List Nat):∀ r∈iRows l,∀ a∈r,Clo H a:=by
 intro r hr a ha
 obtain ⟨d,_,rfl⟩:=List.mem_map.1 hr
 rw [List.mem_singleton] at ha
 subst ha
 simp
def gObU (g:List Nat):Ob:=⟨g.length,1,3,iRows g⟩
def famU:Nat→List (List Nat)→Heap
 | _,[]=>[]
 | n,g::r=>(n+960,gObU g)::famU (n+1) r
theorem famU_get:∀ (G:List (List Nat)) (n id:Nat),Heap.get (famU n G) id=if n+960≤id then(G[id - (n+960)]?).map gObU else none
 | [],n,id=>by simp [famU,Heap.get]
 | p::r,n,id=>by
  rw [famU]
  by_cases e:n+960=id
  ·subst e
   rw [get_cons_same]
   simp
  rw [get_cons_other _ _ (Ne.symm e),famU_get r (n+1) id]
  by_cases h:n+960≤id
  ·rw [if_pos h,if_pos (by omega)]
   have e2:id - (n+960)=(id - (n+1+960))+1:=by omega
   rw [e2,List.getElem?_cons_succ]
  rw [if_neg h,if_neg (by omega)]
theorem famU_mem:∀ (G:List (List Nat)) (n:Nat) (q:Nat×Ob),q∈famU n G→∃ j g,G[j]?=some g∧q=(n+j+960,gObU g)
 | [],_,_,h=>by cases h
 | p::r,n,q,h=>by
  rw [famU] at h
  rcases List.mem_cons.1 h with rfl|h
  ·exact⟨0,p,rfl,rfl⟩
  obtain ⟨j,g,h1,h2⟩:=famU_mem r (n+1) q h
  exact⟨j+1,g,by simpa using h1,by rw [h2];congr 1;omega⟩
def oRows:Nat→List (List Nat)→List (List AV)
 | _,[]=>[]
 | n,g::r=>[.osl (n+960) g.length 0 g.length]::oRows (n+1) r
theorem oRows_get:∀ (G:List (List Nat)) (n k:Nat),(oRows n G)[k]?=(G[k]?).map fun g=>[.osl (n+k+960) g.length 0 g.length]
 | [],_,_=>by simp [oRows]
 | g::r,n,0=>by simp [oRows]
 | g::r,n,k+1=>by
  rw [oRows,List.getElem?_cons_succ,List.getElem?_cons_succ,oRows_get r (n+1) k]
  have e:n+1+k=n+(k+1):=by omega
  rw [e]
theorem oRows_len:∀ (G:List (List Nat)) (n:Nat),(oRows n G).length=G.length
 | [],_=>rfl
 | g::r,n=>by rw [oRows,List.length_cons,List.length_cons,oRows_len r]
theorem oRows_app (G:List (List Nat)) (g:List Nat):oRows 0 (G++[g])=(oRows 0 G++[[AV.pv .nils]]).set G.length [.osl (0+G.length+960) g.length 0 g.length]:=by
 refine List.ext_getElem? fun k=>?_
 rw [oRows_get,List.getElem?_set,List.length_append,oRows_len]
 by_cases e:G.length=k
 ·subst e
  rw [if_pos rfl,if_pos (by simp),List.getElem?_append_right (Nat.le_refl _),Nat.sub_self]
  rfl
 rw [if_neg e]
 by_cases h:k < G.length
 ·rw [List.getElem?_append_left h,List.getElem?_append_left (by rw [oRows_len];exact h),oRows_get]
 rw [List.getElem?_eq_none (by simp;omega),List.getElem?_eq_none (by simp [oRows_len];omega)]
 rfl
theorem oRows_set (G:List (List Nat)) (k:Nat) (g:List Nat):oRows 0 (G.set k g)=(oRows 0 G).set k [.osl (0+k+960) g.length 0 g.length]:=by
 refine List.ext_getElem? fun j=>?_
 rw [oRows_get,List.getElem?_set,List.getElem?_set,oRows_len]
 by_cases e:k=j
 ·subst e
  rw [if_pos rfl,if_pos rfl]
  by_cases h:k < G.length
  ·rw [if_pos h,if_pos h];rfl
  rw [if_neg h,if_neg h];rfl
 rw [if_neg e,if_neg e,oRows_get]
theorem oRows_clo {H:Heap} {G:List (List Nat)} (h:∀ j,j < G.length→(H.get (0+j+960)).isSome=true):∀ r∈oRows 0 G,∀ a∈r,Clo H a:=by
 intro r hr a ha
 obtain ⟨k,hk⟩:=List.mem_iff_getElem?.1 hr
 rw [oRows_get] at hk
 cases e:G[k]? with
 | none=>rw [e] at hk;cases hk
 | some g =>
  rw [e] at hk
  obtain rfl:=Option.some.inj hk
  rw [List.mem_singleton] at ha
  subst ha
  exact .osl (h k (List.getElem?_eq_some_iff.1 e).1)
/-- Numbers from numbers to indices. -/
def mI (l:List (Int×AV)):Ob:=⟨0,0,l.length,mrows (intK .i64) l⟩
def atL:Nat→List Nat→List (Int×AV)
 | _,[]=>[]
 | n,r::R=>((r:Int),iv (n:Int))::atL (n+1) R
theorem atL_put:∀ (R:List Nat) (n i:Nat),i∉R→mput (atL n R) (i:Int) (iv ((n+R.length:Nat):Int))=atL n (R++[i])
 | [],_,_,_=>rfl
 | r::R,n,i,h=>by
  rw [List.mem_cons,not_or] at h
  have e:n+(r::R).length=n+1+R.length:=by rw [List.length_cons];omega
  rw [atL,mput,if_neg (fun e=>h.1 (by omega)),e,atL_put R (n+1) i h.2]
  rfl
theorem atL_get:∀ (R:List Nat) (n k r:Nat),R.Nodup→R[k]?=some r→mget (atL n R) (r:Int)=some (iv ((n+k:Nat):Int))
 | [],_,_,_,_,h=>by cases h
 | q::R,n,0,r,_,h=>by
  obtain rfl:q=r:=by simpa using h
  rw [atL,mget,if_pos rfl]
  rfl
 | q::R,n,k+1,r,hd,h=>by
  rw [List.nodup_cons] at hd
  have hr:R[k]?=some r:=by simpa using h
  have hne:(q:Int)≠(r:Int):=fun e=>hd.1 (by rw [Int.ofNat_inj.1 e];exact List.mem_of_getElem? hr)
  have e:n+1+k=n+(k+1):=by omega
  rw [atL,mget,if_neg hne,atL_get R (n+1) k r hd.2 hr,e]
/-! ### all frozen -/
def encG (g:List Nat):List PV:=[slInts (g.map fun(x:Nat)=>(x:Int))]
def slGroups (G:List (List Nat)):PV:=.sl (G.map encG)
def zRows (G:List (List Nat)):List (List AV):=G.map fun g=>(encG g).map .pv
theorem zRows_len (G:List (List Nat)):(zRows G).length=G.length:=List.length_map _
def oObU (g:Nat) (rows:List (List AV)):Ob:=⟨g,1,42,rows⟩
def mixR (k:Nat) (G:List (List Nat)):List (List AV):=zRows (G.take k)++oRows k (G.drop k)
theorem mixR_get (k:Nat) (G:List (List Nat)) (hk:k≤G.length) (i:Nat):(mixR k G)[i]?=(G[i]?).map fun g=>if i < k then(encG g).map .pv else[.osl (i+960) g.length 0 g.length]:=by
 rw [mixR]
 have hl:(zRows (G.take k)).length=k:=by rw [zRows_len,List.length_take];omega
 by_cases h:i < k
 ·rw [List.getElem?_append_left (by omega),zRows,List.getElem?_map,List.getElem?_take_of_lt h]
  simp only [h,if_true]
 rw [List.getElem?_append_right (by omega),hl,oRows_get,List.getElem?_drop]
 have e:k+(i - k)=i:=by omega
 rw [e]
 simp only [h,if_false]
theorem mixR_len (k:Nat) (G:List (List Nat)) (hk:k≤G.length):(mixR k G).length=G.length:=by
 rw [mixR,List.length_append,zRows_len,oRows_len,List.length_take,List.length_drop];omega
def mixH (m k:Nat) (G:List (List Nat)):Heap:=(905,oObU m (mixR k G))::famU k (G.drop k)
theorem fOk_same {H H':Heap} {id g:Nat} {ps:List (List PV)}:∀ {L:Heap},(∀ p∈L,H.get p.1=some p.2∧∀ r∈p.2.rows,∀ a∈r,Clo H' a)→FOk H H' id g ps L
 | [],_=>trivial
 | (j,o)::L,h=>⟨⟨o,(h _ (List.mem_cons_self ..)).1,rfl,rfl,rfl,fzr_same (h _ (List.mem_cons_self ..)).2⟩,fOk_same fun p hp=>h p (List.mem_cons_of_mem _ hp)⟩
theorem iRows_pv (g:List Nat):iRows g=(g.map fun(x:Nat)=>encInt (x:Int)).map (·.map .pv):=by rw [List.map_map];rfl
theorem fam_fz1 {t m:Nat} {G:List (List Nat)} {k:Nat} (hk:k < G.length):Ent [] [(t,.osl 905 m 0 G.length)] (mixH m k G) [(t,.osl 905 m 0 G.length)] (mixH m (k+1) G):=by
 obtain ⟨g,hg⟩:∃ g,G[k]?=some g:=⟨_,List.getElem?_eq_getElem hk⟩
 have hd:G.drop k=g::G.drop (k+1):=by
  rw [List.drop_eq_getElem_cons hk]
  congr 1
  rw [List.getElem?_eq_getElem hk] at hg
  exact Option.some.inj hg
 have hid:Heap.get (mixH m k G) (k+960)=some (gObU g):=by
  rw [mixH,get_cons_other _ _ (by omega),famU_get,if_pos (Nat.le_refl _),Nat.sub_self,hd]
  rfl
 have hin:∀ j,k < j→j < G.length→(Heap.get (mixH m (k+1) G) (j+960)).isSome=true:=fun j h1 h2=>by
  rw [mixH,get_cons_other _ _ (by omega),famU_get,if_pos (by omega),List.getElem?_drop]
  have e:k+1+(j+960 - (k+1+960))=j:=by omega
  rw [e,List.getElem?_eq_getElem h2]
  rfl
 refine Ent.fzG (id:=k+960) (g.map fun(x:Nat)=>encInt (x:Int)) hid (iRows_pv g) ?_ ?_ ?_ trivial
 ·intro p hp
  rw [List.mem_singleton] at hp
  subst hp
  exact⟨_,by simp [Env.get,beq_self],.same (.osl (by rw [mixH,get_cons_same];rfl))⟩
 ·rw [mixH,get_cons_other _ _ (by omega),famU_get,if_neg (by omega)]
 refine⟨⟨_,get_cons_same _ _ _,rfl,rfl,rfl,?_,fun i r' hi=>?_⟩,fOk_same fun p hp=>?_⟩
 ·show (mixR (k+1) G).length=(mixR k G).length
  rw [mixR_len _ _ hk,mixR_len _ _ (Nat.le_of_lt hk)]
 ·have hi:(mixR (k+1) G)[i]?=some r':=hi
  rw [mixR_get _ _ hk] at hi
  obtain ⟨x,hx,rfl⟩:=Option.map_eq_some_iff.1 hi
  have hil:=(List.getElem?_eq_some_iff.1 hx).1
  refine⟨_,(mixR_get k G (Nat.le_of_lt hk) i).trans (by rw [hx];rfl),?_,?_⟩
  ·dsimp only
   by_cases h1:i < k
   ·rw [if_pos h1,if_pos (by omega)]
   by_cases h2:i < k+1
   ·rw [if_neg h1,if_pos h2];rfl
   rw [if_neg h1,if_neg h2]
  intro q a a' ha ha'
  dsimp only at ha ha'
  by_cases h1:i < k
  ·rw [if_pos h1] at ha
   rw [if_pos (by omega),ha] at ha'
   cases ha'
   obtain ⟨p,_,rfl⟩:=List.mem_map.1 (List.mem_of_getElem? ha)
   exact .same (.pv _)
  by_cases h2:i < k+1
  ·obtain rfl:i=k:=by omega
   rw [hg] at hx
   cases hx
   rw [if_neg h1] at ha
   rw [if_pos h2] at ha'
   match q,ha,ha' with
   | 0,ha,ha' =>
    cases ha;cases ha'
    refine .osl ?_
    rw [Nat.zero_add,List.drop_zero,List.take_of_length_le (by rw [List.length_map];exact Nat.le_refl _),List.map_map]
    rfl
  rw [if_neg h1] at ha
  rw [if_neg h2,ha] at ha'
  cases ha'
  have:=List.mem_of_getElem? ha
  rw [List.mem_singleton] at this
  subst this
  exact .same (.osl (hin i (by omega) hil))
 obtain ⟨j,x,h1,rfl⟩:=famU_mem _ _ _ hp
 rw [List.getElem?_drop] at h1
 refine⟨?_,iRows_clo _ _⟩
 rw [mixH,get_cons_other _ _ (by omega),famU_get,if_pos (by omega),List.getElem?_drop]
 have e:k+(k+1+j+960 - (k+960))=k+1+j:=by omega
 rw [e,h1]
 rfl
theorem fam_fz {t m:Nat} {G:List (List Nat)}:∀ k,k≤G.length→Ent [] [(t,.osl 905 m 0 G.length)] (mixH m 0 G) [(t,.osl 905 m 0 G.length)] (mixH m k G)
 | 0,_=>Ent.refl
 | k+1,h=>(fam_fz k (Nat.le_of_succ_le h)).trans (fam_fz1 h)
theorem fam_all {t m:Nat} (G:List (List Nat)):Ent [] [(t,.osl 905 m 0 G.length)] ((905,oObU m (oRows 0 G))::famU 0 G) [(t,.osl 905 m 0 G.length)] [(905,oObU m (zRows G))]:=by
 have h:=fam_fz (t:=t) (m:=m) (G:=G) G.length (Nat.le_refl _)
 have e1:mixH m 0 G=(905,oObU m (oRows 0 G))::famU 0 G:=rfl
 have e2:mixH m G.length G=[(905,oObU m (zRows G))]:=by
  rw [mixH,mixR,List.take_length,List.drop_length]
  simp [oRows,famU]
 rw [e1,e2] at h
 exact h
end
section
theorem writes_c (e:GEdit) (H:Heap):ACalls Tryz.prog 45 [av (encEdit e)] H (fun r H'=>r=.pv (slStrs (gWrites e))∧H'=H):=by
 refine ACalls.pure ?_ (by simp) H
 refine Bd Tryz.func45 rfl Tryz.ntmps45<|Sq<|Rg<|Dd (by exact opd_box (id:=1) rfl rfl rfl rfl rfl)<|Dd as'<|Zz<|Sq<|Sq<|Rg<|Dd (fr' fo51_0)<|Dd (l1' Tryz.isAgg3)<|Zz<|awp_block<|Sq<|Rg<|Dd eql'<|Dd as'<|Zz ?_
 refine Cn (fun hc1=>?_) fun hc1=>?_
 ·skip
  have h1:e.op=1:=of_decide_eq_true hc1
  have hW:gWrites e=[e.obj.id]:=by rw [gWrites,if_pos h1]
  rw [hW]
  refine Sq<|Rg<|Dd (fr' fo51_8)<|Dd (fr' fo49_0)<|Dd (l1' Tryz.isAgg9)<|Dd (by exact x_buildSlice [encStr e.obj.id] rfl so46 rfl rfl rfl rfl rfl (by intro r hr;rw [List.mem_singleton] at hr;subst hr;rfl))<|Dd as'<|Zz<|awp_ret ?_
  refine Rt ?_
  exact⟨rfl,rfl⟩
 skip
 have h1:¬ e.op=1:=of_decide_eq_false hc1
 refine Sq<|Sq<|Rg<|Dd eql'<|Dd as'<|Zz ?_
 refine Cn (fun hc2=>?_) fun hc2=>?_
 ·skip
  have h6:e.op=6:=of_decide_eq_true hc2
  have hW:gWrites e=[e.id,e.other]:=by rw [gWrites,if_neg h1,if_pos (.inl h6)]
  rw [hW]
  refine awp_skip ?_
  refine Cn (fun hc3=>?_) fun hc3=>?_
  ·skip
   refine Sq<|Rg<|Dd (fr' fo51_1)<|Dd (l1' Tryz.isAgg9)<|Dd (fr' fo51_2)<|Dd (l1' Tryz.isAgg9)<|Dd (by exact x_buildSlice [encStr e.id,encStr e.other] rfl so46 rfl rfl rfl rfl rfl (by intro r hr;simp only [List.mem_cons,List.not_mem_nil,or_false] at hr;rcases hr with rfl|rfl<;>rfl))<|Dd as'<|Zz<|awp_ret ?_
   refine Rt ?_
   exact⟨rfl,rfl⟩
  skip
  ((revert hc3;simp_all;done))
 skip
 have h6:¬ e.op=6:=of_decide_eq_false hc2
 refine Rg<|Dd eql'<|Dd as'<|Zz ?_
 refine Cn (fun hc4=>?_) fun hc4=>?_
 ·skip
  have h7:e.op=7:=of_decide_eq_true hc4
  have hW:gWrites e=[e.id,e.other]:=by rw [gWrites,if_neg h1,if_pos (.inr h7)]
  rw [hW]
  refine Sq<|Rg<|Dd (fr' fo51_1)<|Dd (l1' Tryz.isAgg9)<|Dd (fr' fo51_2)<|Dd (l1' Tryz.isAgg9)<|Dd (by exact x_buildSlice [encStr e.id,encStr e.other] rfl so46 rfl rfl rfl rfl rfl (by intro r hr;simp only [List.mem_cons,List.not_mem_nil,or_false] at hr;rcases hr with rfl|rfl<;>rfl))<|Dd as'<|Zz<|awp_ret ?_
  refine Rt ?_
  exact⟨rfl,rfl⟩
 skip
 have h7:¬ e.op=7:=of_decide_eq_false hc4
 have hW:gWrites e=[e.id]:=by rw [gWrites,if_neg h1,if_neg (by rintro(h|h);exact h6 h;exact h7 h)]
 rw [hW]
 refine awp_skip<|Sq<|Rg<|Dd (fr' fo51_1)<|Dd (l1' Tryz.isAgg9)<|Dd (by exact x_buildSlice [encStr e.id] rfl so46 rfl rfl rfl rfl rfl (by intro r hr;rw [List.mem_singleton] at hr;subst hr;rfl))<|Dd as'<|Zz<|awp_ret ?_
 refine Rt ?_
 exact⟨rfl,rfl⟩
/-! ### sets -/
def uO (u:List Nat):Ob:=⟨u.length,1,3,iRows u⟩
def sO (u:List Nat):Ob:=bx 2 82 [.osl 910 u.length 0 u.length,.mp 911 0]
def fAV (F:List (ByteArray×Nat)):List (ByteArray×AV):=F.map fun p=>(p.1,iv (p.2:Int))
def fO (F:List (ByteArray×Nat)):Ob:=⟨0,0,(fAV F).length,mrows strK (fAV F)⟩
def sH (u:List Nat) (F:List (ByteArray×Nat)):Heap:=[(910,uO u),(911,fO F),(1,sO u)]
theorem upAt_get {u:List Nat} {i:Nat} (h:i < u.length):u[i]?=some (upAt u i):=by
 rw [upAt,List.getD_eq_getElem?_getD,List.getElem?_eq_getElem h]
 rfl
theorem top_c (u:List Nat) (i:Nat) (H:Heap) (h1:H.get 1=some (sO u)) (h2:H.get 910=some (uO u)) (hok:UpOk u) (hi:i < u.length) (hl:u.length < 1099511627776) :
  ACalls Tryz.prog 48 [.ref 1 0 0 0,iv (i:Int)] H (fun r H'=>r=iv (top u i:Int)∧H'=H):=by
 refine Bd Tryz.func48 rfl Tryz.ntmps48<|Sq<|Rg<|Dd as'<|Zz<|Sq<|awp_block ?_
 refine awp_loop (σ:=Nat) (fun j=>([(0,.ref 1 0 0 0),(1,iv (j:Int))],H)) (fun j=>j < u.length∧top u j=top u i) (fun j=>j) i ⟨hi,rfl⟩ ?_ ?_
 ·exact E0
 rintro j ⟨hj,ht⟩
 have hg:=iRows_get (upAt_get hj)
 have hil:(iRows u).length=u.length:=iRows_len u
 have hup:=hok j
 refine Sq<|Sq<|Rg<|Dd mv'<|Dd (by exact opd_nilCheck_ref rfl rfl h1 rfl)<|Dd (by exact opd_field_ref rfl fo82_0 rfl h1 rfl rfl)<|Dd (by exact opd_load1_ref rfl Tryz.isAgg42 rfl h1 rfl rfl rfl)<|Dd mv'<|Dd (by exact x_index_osl rfl so42 rfl h2 rfl rfl rfl (by omega) (by exact Int.toNat_natCast _) hj (Nat.zero_add _))<|Dd (by exact opd_load1_ref rfl Tryz.isAgg3 rfl h2 rfl hg rfl)<|Dd mv'<|Dd ne'<|Zz ?_
 refine Cn (fun hc1=>?_) fun hc1=>?_
 ·skip
  have hne:upAt u j≠j:=by have:=hc1;simp only [Bool.not_eq_true',decide_eq_false_iff_not] at this;omega
  refine awp_skip<|awp_block<|Rg<|Dd mv'<|Dd (by exact opd_nilCheck_ref rfl rfl h1 rfl)<|Dd (by exact opd_field_ref rfl fo82_0 rfl h1 rfl rfl)<|Dd (by exact opd_load1_ref rfl Tryz.isAgg42 rfl h1 rfl rfl rfl)<|Dd mv'<|Dd (by exact x_index_osl rfl so42 rfl h2 rfl rfl rfl (by omega) (by exact Int.toNat_natCast _) hj (Nat.zero_add _))<|Dd (by exact opd_load1_ref rfl Tryz.isAgg3 rfl h2 rfl hg rfl)<|Dd as'<|Zz ?_
  exact⟨upAt u j,⟨by omega,by rw [← ht,top_up hok hne]⟩,by omega,E0⟩
 skip
 have heq:upAt u j=j:=by have:=hc1;simp only [Bool.not_eq_false',decide_eq_true_eq] at this;omega
 refine awp_exit<|Sq<|Rg<|Dd mv'<|Dd as'<|Zz<|awp_ret ?_
 refine aret1 (H':=H) (.inr rfl) rfl (rval_tmp rfl) Fin.refl ?_
 exact⟨by rw [← ht,top_self hok heq],rfl⟩
theorem iRows_set (u:List Nat) (M m:Nat):(iRows u).set M [iv (m:Int)]=iRows (u.set M m):=by rw [iRows,iRows,List.map_set]
theorem joinS_c (u:List Nat) (F:List (ByteArray×Nat)) (a b:Nat) (hok:UpOk u) (ha:a < u.length) (hb:b < u.length) (hl:u.length < 1099511627776) :
  ACalls Tryz.prog 46 [.ref 1 0 0 0,iv (a:Int),iv (b:Int)] (sH u F) (fun r H'=>r=.tup []∧H'=sH (joinU u a b) F):=by
 have hta:=top_le hok a
 have htb:=top_le hok b
 have hil:(iRows u).length=u.length:=iRows_len u
 have hM:max (top u a) (top u b) < u.length:=by omega
 have e:sH (joinU u a b) F=(910,⟨u.length,1,3,iRows (joinU u a b)⟩)::[(911,fO F),(1,sO u)]:=by rw [sH,uO,sO,joinU_len];rfl
 rw [e]
 refine Bd Tryz.func46 rfl Tryz.ntmps46<|Sq<|Rg<|Dd mv'<|Dd mv'<|Dd (by exact opr_call rfl rfl Tryz.call48 rfl (top_c u a _ rfl rfl hok ha hl))<|Dd mv'<|Dd mv'<|Dd (by exact opr_call rfl rfl Tryz.call48 rfl (top_c u b _ rfl rfl hok hb hl))<|Dd as'<|Dd as'<|Zz<|Rg<|Dd mv'<|Dd nc'<|Dd (fr' fo82_0)<|Dd (l1' Tryz.isAgg42)<|Dd mv'<|Dd mv'<|Dd (by exact opd_max rfl rfl rfl (show max ((top u a:Nat):Int) ((top u b:Nat):Int)=((max (top u a) (top u b):Nat):Int)by omega))<|Dd mv'<|Dd mv'<|Dd (by exact opd_min rfl rfl rfl (show min ((top u a:Nat):Int) ((top u b:Nat):Int)=((min (top u a) (top u b):Nat):Int)by omega))<|Dd (by exact x_index_osl rfl so42 rfl rfl rfl rfl rfl (by omega) (by exact Int.toNat_natCast _) hM (Nat.zero_add _))<|Uu (by exact x_store1 rfl Tryz.sizeOf3 rfl rfl rfl rfl rfl (iRows_get (upAt_get hM)) (by simp) rfl (iRows_set u _ _))<|Zz ?_
 exact aret0 (H':=(910,⟨u.length,1,3,iRows (joinU u a b)⟩)::[(911,fO F),(1,sO u)]) (.inl rfl) rfl (Fin.get' (get_dup _ _ _ _)) ⟨rfl,rfl⟩
end
end Go.Proofs.YtlnfjkdacimblaaGreatDoor
