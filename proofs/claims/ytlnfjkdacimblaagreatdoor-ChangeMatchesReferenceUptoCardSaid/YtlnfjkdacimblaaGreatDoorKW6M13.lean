/-
  Parts of the proof: rules of an abstract program logic, contracts of functions, plain laws. Conditions: each theorem's own.
-/
import Derived.Test.YtlnfjkdacimblaaGreatDoorKW6M12
set_option linter.unusedVariables false
set_option linter.unusedSimpArgs false
set_option maxRecDepth 100000
set_option maxHeartbeats 8000000
namespace Go.Proofs
theorem aIH:type_of% Tryz.call138:=Tryz.call138
theorem aI8:type_of% Tryz.call88:=Tryz.call88
end Go.Proofs
namespace Go.Proofs.YtlnfjkdacimblaaGreatDoor
open Go.Proofs.Tryz
open Go.Abs
def aEo:GFound:=⟨0,aP,0,0⟩
def aAf (s:ByteArray) (i:Nat):GFound×Int×Int:=match eF s i with
 | (some f,j)=>if f.err=0 then(f,(j:Int),0)else(aEo,0,f.err)
 | (none,_)=>(aEo,0,0)
theorem B2 {s:ByteArray} {i j:Nat} {f:GFound} (h:eF s i=(some f,j)) (he:f.err=0):aAf s i=(f,(j:Int),0):=by rw [aAf,h];exact aIq he
theorem HR {s:ByteArray} {i j:Nat} {f:GFound} (h:eF s i=(some f,j)) (he:f.err≠0):aAf s i=(aEo,0,f.err):=by rw [aAf,h];exact aIp he
theorem K9 {s:ByteArray} {k:Nat} (h:k < s.size):pW s k=W7 (bP s k):=by
 obtain ⟨c1,c2,c3⟩:=IX s k;have hat:kG s k=sF (bP s k):=by rw [kG,aIq h]
 rw [pW,hat,c1,c2,c3];rfl
theorem PJ {s:ByteArray} {k:Nat} (h:k < s.size):FC s k=sA (bP s k):=by
 obtain ⟨c1,c2,c3⟩:=IX s k;have hat:kG s k=sF (bP s k):=by rw [kG,aIq h]
 rw [FC,hat,c2]
def aG1 (p:GFound×Int×Int):AV:=.tup [av (encTok p.1),iv p.2.1,iv p.2.2]
theorem aCh {s:ByteArray} {i:Nat} {H:aE} (hs:s.size < 1099511627776) (hi:i < s.size) (hu:kP (s.data.toList.drop (i+1))=none):aH Tryz.prog 189 [sv s,iv (i:Int)] H (fun r H'=>r=.tup [sv aP,iv 0,bv false]∧H'=H):=by
 have:=TZ s i H hs hi
 rwa [hu] at this
theorem aCg {s:ByteArray} {i:Nat} {H:aE} {p:List UInt8×Nat} (hs:s.size < 1099511627776) (hi:i < s.size) (hu:kP (s.data.toList.drop (i+1))=some p):aH Tryz.prog 189 [sv s,iv (i:Int)] H (fun r H'=>r=.tup [sv ⟨p.1.toArray⟩,iv ((i+(p.2+1):Nat):Int),bv true]∧H'=H):=by
 have:=TZ s i H hs hi;rw [hu] at this;have e:rQ (some p) [] (i+1)=(⟨p.1.toArray⟩,((i+(p.2+1):Nat):Int)):=by
  show ((⟨([]++p.1).toArray⟩:ByteArray),((i+1+p.2:Nat):Int))=_;rw [List.nil_append,show i+1+p.2=i+(p.2+1)by omega]
 rw [e] at this;exact this
theorem aAg (s:ByteArray) (i:Nat) (H:aE) (hs:s.size < 1099511627776) (hi:i < s.size) (hn1:kG s i≠1) (hn2:kG s i≠2):aH Tryz.prog 140 [sv s,iv (i:Int)] H (fun r H'=>r=aG1 (aAf s i)∧H'=H):=by
 refine aH.pure ?_ (by simp [aG1]) H;have hat:kG s i=sF (bP s i):=by rw [kG,aIq hi]
 obtain ⟨c1,c2,c3⟩:=IX s i;obtain ⟨q1,q2,q3,q4,q5⟩:=NO s i;rw [← hat] at c1 c2 c3 q1 q2 q3 q4;refine Bd func140 rfl ntmps140<|Sr<|Dd (by exact bJ (id:=4) rfl TQ rfl rfl)<|Dd aO<|Dd aO<|Zz<|Sr<|Dd aD<|Dd eL<|Dd aO<|Zz<|Sr<|Dd aD<|Dd aD<|Dd (by exact cF rfl underlying9 rfl rfl (by omega) (by exact aJC _) hi rfl)<|Dd aO<|Zz<|Sq<|Sr<|Dd aD<|Dd (by exact aA rfl rfl aIF rfl (DK (bP s i) _))<|Zz ?_;refine Cn ?_ ?_<;>intro hc1
 ·have h3:kG s i=3:=aIn (c1.trans hc1);have hst:eF s i=(some (tV s i (vC s i)),vC s i):=by rw [eF,aIp hn1,aIp hn2,aIq h3]
  refine Sq<|aF ?_;refine bG (σ:=Nat) (fun k=>([(0,sv s),(1,iv (i:Int)),(4,.ref 4 0 0 0),(7,iv (k:Int))],[(4,bx 3 137 [iv 0,sv aP,iv 0])])) (fun k=>i < k∧k≤s.size∧∀ j,i≤j→j < k→pW s j=true) (fun k=>s.size - k) (i+1) ⟨Nat.lt_succ_self _,hi,fun j h1 h2=>?_⟩ ?_ ?_
  ·obtain rfl:j=i:=by omega
   rw [pW,h3];rfl
  ·exact Wk
  rintro k ⟨hik,hk,hall⟩;refine Sq<|Sq ?_;refine bD (t:=28) (n:=11) (X:=decide ((k:Int) < (s.size:Int))&&W7 (bP s k)) ?_ ?_
  ·all_goals refine Dd aD ?_
   all_goals refine Dd aD<|Dd (jJ underlying9)<|Dd dD<|Dm ?_
   all_goals refine Sp 23 (fun h23=>?_) fun h23=>?_
   all_goals try contradiction
   all_goals first|refine Fo<|Fo<|Fo<|Fo ?_|refine On aD<|On aD<|On (by exact cF rfl underlying9 rfl rfl (by omega) (by exact aJC _) (by have:=aIn h23;omega) rfl)<|On (by exact aA rfl rfl aIG rfl (MW (bP s k) _)) ?_
   all_goals refine Dd dI<|Zz ?_
   all_goals(exact⟨⟨_,rfl,by(rw [h23];rfl)⟩,rfl,rfl,rfl⟩)
  refine Cn ?_ ?_<;>intro hc2
  ·have h:=hc2;rw [aJA,aIy] at h;have hkl:k < s.size:=by omega
   have hp:pW s k=true:=by rw [K9 hkl];exact h.2
   refine aB<|aF<|Rg<|Dd aD<|Dd eL<|Da ?_;refine⟨k+1,⟨by omega,hkl,fun j h1 h2=>?_⟩,by omega,Wk⟩;rcases Nat.lt_or_ge j k with h|h
   ·exact hall j h1 h
   obtain rfl:j=k:=by omega
   exact hp
  have hend:vC s i=k:=by
   refine sV (pW s) (Nat.le_of_lt hik) (by omega) hall ?_;rcases Nat.lt_or_ge k s.size with h|h
   ·left;have h':=hc2;rw [decide_eq_true (show (k:Int) < (s.size:Int)by omega),Bool.true_and] at h';rw [K9 h,h']
   right;omega
  rw [hend] at hst;have hsub:IntKind.i64.wrap ((k:Int) - (i:Int))=((k - i:Nat):Int):=by rw [IntKind.wrap_i64];omega
  refine aZ<|Sq<|Sr<|Dd aD<|Dd aD<|Dd (by exact gC rfl rfl rfl hsub)<|Dd kC<|Zz ?_;refine Cn ?_ ?_<;>intro hc3
  ·have h24:24 < k - i:=by have:=aIn hc3;omega
   have hb:=HR hst (by show (if 24 < k - i then(2:Int)else 0)≠0;rw [aIq h24];decide);have he:(tV s i k).err=2:=aIq h24;rw [he] at hb;rw [hb];refine Sr<|Dd (jG zQ)<|Uu (fP sizeOf137)<|Dd aO<|Dd aO<|Zz<|aC ?_;refine jX (H':=[]) (.inr rfl) rfl (nZ gO sizeOf137) (aN rfl) (aN rfl) (Fin.wk (r:=.tup [.agg [iv 0,sv aP,iv 0],iv 0,iv 2]) (by simp) trivial trivial) ?_;exact Qq
  have h24:¬ 24 < k - i:=by have:=aIo hc3;omega
  have he:(tV s i k).err=0:=aIp h24;rw [B2 hst he];refine aB<|Sr<|Dd aD<|Dd aD<|Dd aD<|Dd (by exact cW (l:=i) (h:=k) rfl underlying9 rfl rfl rfl (by omega) (by omega) rfl)<|Dd aD<|Dd (jG zQ)<|Dd aD<|Uu (fP sizeOf137)<|Dd aO<|Dd aO<|Zz<|aC ?_;refine jX (H':=[]) (.inr rfl) rfl (nZ gO sizeOf137) (aN rfl) (aN rfl) (Fin.wk (r:=.tup [.agg [iv 1,sv (s.extract i k),iv (i:Int)],iv ((k:Nat):Int),iv 0]) (by simp) trivial trivial) ?_;exact Qq
 have h3:kG s i≠3:=aIo (c1.trans hc1);refine aB<|Sq<|Sr<|Dd aD<|Dd (by exact aA rfl rfl aIC rfl (HH (bP s i) _))<|Zz ?_;refine Cn ?_ ?_<;>intro hc4
 ·have h4:kG s i=4:=aIn (c2.trans hc4);have hst:eF s i=(some (zN s i (AZ s i)),AZ s i):=by rw [eF,aIp hn1,aIp hn2,aIp h3,aIq h4]
  refine Sq<|aF ?_;refine bG (σ:=Nat) (fun k=>([(0,sv s),(1,iv (i:Int)),(4,.ref 4 0 0 0),(7,iv (k:Int))],[(4,bx 3 137 [iv 0,sv aP,iv 0])])) (fun k=>i < k∧k≤s.size∧∀ j,i≤j→j < k→FC s j=true) (fun k=>s.size - k) (i+1) ⟨Nat.lt_succ_self _,hi,fun j h1 h2=>?_⟩ ?_ ?_
  ·obtain rfl:j=i:=by omega
   rw [FC,h4];rfl
  ·exact Wk
  rintro k ⟨hik,hk,hall⟩;refine Sq<|Sq ?_;refine bD (t:=54) (n:=11) (X:=decide ((k:Int) < (s.size:Int))&&sA (bP s k)) ?_ ?_
  ·all_goals refine Dd aD ?_
   all_goals refine Dd aD<|Dd (jJ underlying9)<|Dd dD<|Dm ?_
   all_goals refine Sp 49 (fun h49=>?_) fun h49=>?_
   all_goals try contradiction
   all_goals first|refine Fo<|Fo<|Fo<|Fo ?_|refine On aD<|On aD<|On (by exact cF rfl underlying9 rfl rfl (by omega) (by exact aJC _) (by have:=aIn h49;omega) rfl)<|On (by exact aA rfl rfl aIC rfl (HH (bP s k) _)) ?_
   all_goals refine Dd dI<|Zz ?_
   all_goals(exact⟨⟨_,rfl,by(rw [h49];rfl)⟩,rfl,rfl,rfl⟩)
  refine Cn ?_ ?_<;>intro hc5
  ·have h:=hc5;rw [aJA,aIy] at h;have hkl:k < s.size:=by omega
   have hp:FC s k=true:=by rw [PJ hkl];exact h.2
   refine aB<|aF<|Rg<|Dd aD<|Dd eL<|Da ?_;refine⟨k+1,⟨by omega,hkl,fun j h1 h2=>?_⟩,by omega,Wk⟩;rcases Nat.lt_or_ge j k with h|h
   ·exact hall j h1 h
   obtain rfl:j=k:=by omega
   exact hp
  have hstop:k < s.size→sA (bP s k)=false:=fun h=>by
   have h':=hc5
   rwa [decide_eq_true (show (k:Int) < (s.size:Int)by omega),Bool.true_and] at h'
  have hend:AZ s i=k:=by
   refine sV (FC s) (Nat.le_of_lt hik) (by omega) hall ?_;rcases Nat.lt_or_ge k s.size with h|h
   ·left;rw [PJ h,hstop h]
   right;omega
  rw [hend] at hst;have hsub:IntKind.i64.wrap ((k:Int) - (i:Int))=((k - i:Nat):Int):=by rw [IntKind.wrap_i64];omega
  have hw:(decide ((k:Int) < (s.size:Int))&&W7 (bP s k))=(decide (kG s k=3)||decide (kG s k=5)):=by
   rcases Nat.lt_or_ge k s.size with h|h
   ·obtain ⟨d1,d2,d3⟩:=IX s k;rw [kG,aIq h,d1,d3,W7,hstop h,Bool.or_false,decide_eq_true (show (k:Int) < (s.size:Int)by omega),Bool.true_and]
   rw [kG,aIp (by omega),decide_eq_false (show ¬ (k:Int) < (s.size:Int)by omega)];rfl
  refine aZ<|Sq<|Sq ?_;refine bD (t:=72) (n:=18) (X:=decide (7 < ((k - i:Nat):Int))||(decide ((k:Int) < (s.size:Int))&&W7 (bP s k))) ?_ ?_
  ·all_goals refine Dd aD ?_
   all_goals refine Dd aD<|Dd (by exact gC rfl rfl rfl hsub)<|Dd kC<|Dm ?_
   all_goals refine Sp 61 (fun h61=>?_) fun h61=>?_
   all_goals try contradiction
   all_goals first|refine Fo<|Fo<|Fo<|Fo<|Fo ?_|refine On aD<|On aD<|On (jJ underlying9)<|On dD<|On aD ?_
   all_goals(first|refine Sp 66 (fun h66=>?_) fun h66=>?_|refine x8 (t:=66) rfl ?_)
   all_goals try contradiction
   all_goals first|refine Fo ?_|refine Fu ?_|refine On aD ?_
   all_goals first|refine Fo ?_|refine Fu ?_|refine On aD ?_
   all_goals first|refine Fo ?_|refine Fu ?_|refine On (by exact cF rfl underlying9 rfl rfl (by omega) (by exact aJC _) (by have:=aIn h66;omega) rfl) ?_
   all_goals first|refine Fo ?_|refine Fu ?_|refine On (by exact aA rfl rfl aIG rfl (MW (bP s k) _)) ?_
   all_goals first|refine Fo ?_|refine On dI ?_
   all_goals refine Dd dI<|Zz ?_
   all_goals(exact⟨⟨_,rfl,by first|(rw [h61];rfl)|(rw [h61,h66];rfl)⟩,rfl,rfl,rfl⟩)
  refine Cn ?_ ?_<;>intro hc6
  ·have hE:(zN s i k).err=4:=by
    have h:=hc6;rw [hw,← Bool.or_assoc] at h;have e7:decide (7 < ((k - i:Nat):Int))=decide (7 < k - i):=by rw [Bool.eq_iff_iff,aIy,aIy];omega
    rw [e7] at h;exact aIq h
   have hb:=HR hst (by rw [hE];decide);rw [hE] at hb;rw [hb];refine Sr<|Dd (jG zQ)<|Uu (fP sizeOf137)<|Dd aO<|Dd aO<|Zz<|aC ?_;refine jX (H':=[]) (.inr rfl) rfl (nZ gO sizeOf137) (aN rfl) (aN rfl) (Fin.wk (r:=.tup [.agg [iv 0,sv aP,iv 0],iv 0,iv 4]) (by simp) trivial trivial) ?_;exact Qq
  have hE:(zN s i k).err=0:=by
   have h:=hc6;rw [hw,← Bool.or_assoc] at h;have e7:decide (7 < ((k - i:Nat):Int))=decide (7 < k - i):=by rw [Bool.eq_iff_iff,aIy,aIy];omega
   rw [e7] at h;exact aIp (by rw [h];simp)
  rw [B2 hst hE];refine aB<|Sr<|Dd aD<|Dd aD<|Dd aD<|Dd (by exact cW (l:=i) (h:=k) rfl underlying9 rfl rfl rfl (by omega) (by omega) rfl)<|Dd aD<|Dd (jG zQ)<|Dd aD<|Uu (fP sizeOf137)<|Dd aO<|Dd aO<|Zz<|aC ?_;refine jX (H':=[]) (.inr rfl) rfl (nZ gO sizeOf137) (aN rfl) (aN rfl) (Fin.wk (r:=.tup [.agg [iv 2,sv (s.extract i k),iv (i:Int)],iv ((k:Nat):Int),iv 0]) (by simp) trivial trivial) ?_;exact Qq
 have h4:kG s i≠4:=aIo (c2.trans hc4);refine aB<|Sq<|Sr<|Dd aD<|Dd cI<|Zz ?_;refine Cn ?_ ?_<;>intro hc7
 ·have h7:kG s i=7:=aIn (q4.symm.trans hc7);have hst:eF s i=(some (xS s i).1,(xS s i).2):=by rw [eF,aIp hn1,aIp hn2,aIp h3,aIp h4,aIq h7]
  have hdr:(s.extract i s.size).data.toList.drop 1=s.data.toList.drop (i+1):=by rw [xY,List.drop_drop]
  cases hu:kP (s.data.toList.drop (i+1))with
  | none =>
   have hun:sC (s.extract i s.size)=(aP,0):=by rw [sC,hdr,hu]
   have hg:xS s i=(pX i,i):=by rw [xS,hun];rfl
   rw [hg] at hst;have hb:=HR hst (by show (3:Int)≠0;decide);rw [hb];refine Sr<|Dd aD<|Dd aD<|Dd (by exact aA rfl rfl call189 rfl (aCh hs hi hu))<|Dd aD<|Dd eZ<|Dd eZ<|Dd eZ<|Dd aO<|Dd aO<|Dd aO<|Zz<|Sq<|Sr<|Dd aD<|Dd jU<|Zz ?_;refine Cn ?_ ?_<;>intro hc8
   ·refine Sr<|Dd (jG zQ)<|Uu (fP sizeOf137)<|Dd aO<|Dd aO<|Zz<|aC ?_;refine jX (H':=[]) (.inr rfl) rfl (nZ gO sizeOf137) (aN rfl) (aN rfl) (Fin.wk (r:=.tup [.agg [iv 0,sv aP,iv 0],iv 0,iv 3]) (by simp) trivial trivial) ?_;exact Qq
   ((cases hc8;done))
  | some p =>
   have hun:sC (s.extract i s.size)=(⟨p.1.toArray⟩,((p.2+1:Nat):Int)):=by rw [sC,hdr,hu]
   have hg:xS s i=(⟨3,⟨p.1.toArray⟩,i,0⟩,i+(p.2+1)):=by
    rw [xS,hun,aIq (by show (0:Int) < ((_:Nat):Int);omega)];rfl
   rw [hg] at hst;rw [B2 hst rfl];refine Sr<|Dd aD<|Dd aD<|Dd (by exact aA rfl rfl call189 rfl (aCg hs hi hu))<|Dd aD<|Dd eZ<|Dd eZ<|Dd eZ<|Dd aO<|Dd aO<|Dd aO<|Zz<|Sq<|Sr<|Dd aD<|Dd jU<|Zz ?_;refine Cn ?_ ?_<;>intro hc9
   ·((cases hc9;done))
   refine aB<|Sr<|Dd aD<|Dd aD<|Dd (jG zQ)<|Dd aD<|Uu (fP sizeOf137)<|Dd aO<|Dd aO<|Zz<|aC ?_;refine jX (H':=[]) (.inr rfl) rfl (nZ gO sizeOf137) (aN rfl) (aN rfl) (Fin.wk (r:=.tup [.agg [iv 3,sv (⟨p.1.toArray⟩),iv (i:Int)],iv ((i+(p.2+1):Nat):Int),iv 0]) (by simp) trivial trivial) ?_;exact Qq
 have h7:kG s i≠7:=aIo (q4.symm.trans hc7);refine aB<|Sq<|Sr<|Dd aD<|Dd (by exact aA rfl rfl aID rfl (aBR ⟨#[59,44,46,58,40,41,123,125,91,93,61,60,62,47,45]⟩ (bP s i) _ (by decide)))<|Dd jU<|Zz ?_;refine Cn ?_ ?_<;>intro hc10
 ·have h6:kG s i≠6:=by
   have h:(!IB ⟨#[59,44,46,58,40,41,123,125,91,93,61,60,62,47,45]⟩ (bP s i))=true:=hc10;rw [q3] at h
   simpa using h
  have hst:eF s i=(some (pX i),i):=by rw [eF,aIp hn1,aIp hn2,aIp h3,aIp h4,aIp h7,aIp h6]
  have hb:=HR hst (by show (3:Int)≠0;decide);rw [hb];refine Sr<|Dd (jG zQ)<|Uu (fP sizeOf137)<|Dd aO<|Dd aO<|Zz<|aC ?_;refine jX (H':=[]) (.inr rfl) rfl (nZ gO sizeOf137) (aN rfl) (aN rfl) (Fin.wk (r:=.tup [.agg [iv 0,sv aP,iv 0],iv 0,iv 3]) (by simp) trivial trivial) ?_;exact Qq
 have h6:kG s i=6:=by
  have h:(!IB ⟨#[59,44,46,58,40,41,123,125,91,93,61,60,62,47,45]⟩ (bP s i))=false:=hc10;rw [q3] at h
  simpa using h
 have hst:eF s i=(some ⟨4,s.extract i (i+1),i,0⟩,i+1):=by rw [eF,aIp hn1,aIp hn2,aIp h3,aIp h4,aIp h7,aIq h6]
 rw [B2 hst rfl];refine aB<|Sr<|Dd aD<|Dd aD<|Dd aD<|Dd (by exact cW (l:=i) (h:=(i+1)) rfl underlying9 rfl rfl rfl (by omega) (by omega) rfl)<|Dd aD<|Dd (jG zQ)<|Dd aD<|Uu (fP sizeOf137)<|Dd aO<|Dd aO<|Zz<|aC ?_;refine jX (H':=[]) (.inr rfl) rfl (nZ gO sizeOf137) (aN rfl) (aN rfl) (Fin.wk (r:=.tup [.agg [iv 4,sv (s.extract i (i+1)),iv (i:Int)],iv ((i+1:Nat):Int),iv 0]) (by simp) trivial trivial) ?_;exact Qq
theorem ZR {s:ByteArray} {i j:Nat} {f:GFound} (h:eF s i=(some f,j)):f.pos=i:=by
 rw [eF] at h
 split at h
 ·cases h
 split at h
 ·cases h
 split at h
 ·cases h;rfl
 split at h
 ·cases h;rfl
 split at h
 ·cases h;rw [xS]
  split<;>rfl
 split at h<;>(cases h;rfl)
theorem aCj {s:ByteArray} {i:Nat} (hn1:kG s i≠1) (hn2:kG s i≠2):∃ f j,eF s i=(some f,j):=by
 rw [eF,aIp hn1,aIp hn2]
 split
 ·exact⟨_,_,rfl⟩
 split
 ·exact⟨_,_,rfl⟩
 split
 ·exact⟨_,_,rfl⟩
 split<;>exact⟨_,_,rfl⟩
theorem UR (s:ByteArray) (H:aE) (hs:s.size < 1099511627776):aH Tryz.prog 88 [sv s] H (fun r H'=>r=.tup [.pv (vO (eP s).1),iv (eP s).2.1,iv (eP s).2.2]∧H'=H):=by
 refine Pu ?_;refine Bd func88 rfl ntmps88<|Sr<|Dd aO<|Dd aO<|Dd aO<|Zz<|Sq<|Sr<|Dd aD<|Dd (jJ underlying9)<|Dd kC<|Zz ?_;refine Cn ?_ ?_<;>intro hc1
 ·have e:eP s=([],2,-1):=by rw [eP,aIq (by have:=aIn hc1;omega)]
  rw [e];refine Sr<|Dd aO<|Dd aO<|Dd aO<|Zz<|aC ?_;refine jX (H':=[]) (.inr rfl) rfl (aN rfl) (aN rfl) (aN rfl) (Fin.wk (by simp) trivial trivial) ?_;exact Qq
 have hsz:¬ 20000 < s.size:=by have:=aIo hc1;omega
 have hG:eP s=iN [] (zB s 0):=by rw [eP,aIp hsz];rfl
 obtain ⟨res,hres⟩:∃ res,res=eP s:=⟨_,rfl⟩;rw [← hres] at hG ⊢;refine aB<|Sr<|Dd (by exact fI (id:=905) (sz:=3) (ty:=137) rfl rfl rfl)<|Zz<|Sr<|Dm ?_;refine TD rfl rfl (aA rfl rfl call139 rfl (UZ s 0 _ hs (aJI _))) ?_;rintro r H' ⟨j0,rfl,hj1,hj2,hj3,hj4,rfl⟩;refine Dd aO<|Zz<|Sq<|aF ?_;refine gU (fun(j:Nat) (L:List GFound)=>([(0,sv s),(5,.osl 905 L.length 0 L.length),(6,iv (j:Int))],[(905,⟨L.length,3,137,jH L⟩)])) (fun j L=>j≤s.size∧L.length≤5000∧res=iN L (zB s j)∧(j < s.size→kG s j≠1∧kG s j≠2)) (fun j L=>s.size - j) j0 [] ⟨hj2,aJI _,by rw [hG,hj3],hj4⟩ ?_ ?_
 ·exact(cY.wk (Eb<|Ea<|Eb<|trivial) (Hc (cX _ _)<|trivial) trivial)
 rintro j L ⟨hj,hL,hinv,hcl⟩;refine Sq<|Sr<|Dd aD<|Dd aD<|Dd (jJ underlying9)<|Dd dD<|Zz ?_;refine Cn ?_ ?_<;>intro hc2
 ·have hlt:j < s.size:=by have:=aIn hc2;omega
  obtain ⟨k1,k2⟩:=hcl hlt;obtain ⟨f,e,hst⟩:=aCj k1 k2;have hnx:=aAg s j [(905,⟨L.length,3,137,jH L⟩)] hs hlt k1 k2;have hpos:=ZR hst;by_cases he:f.err=0
  ·rw [B2 hst he] at hnx;have hgo:=FV hst he hlt;have htk:=VS hlt hst he;rw [htk] at hinv;refine aB<|aF<|Sr<|Dd aD<|Dd aD<|Dd (by exact aA rfl rfl call140 rfl (hnx))<|Dd aD<|Dd eZ<|Dd eZ<|Dd eZ<|Dd (by exact bJ (id:=7) rfl TQ rfl rfl)<|Uu (fP sizeOf137)<|Dd aO<|Dd aO<|Zz<|Sq<|Sr<|Dd aD<|Dd tU<|Zz ?_;refine Cn ?_ ?_<;>intro hc3
   ·((cases hc3;done))
   refine aB<|Sq<|Sr<|Dd aD<|Dd (by exact dV rfl cT rfl rfl rfl)<|Dd cI<|Zz ?_;refine Cn ?_ ?_<;>intro hc4
   ·have h5:L.length=5000:=by have:=aIn hc4;omega
    have hr:res=([],2,(j:Int)):=by rw [hinv,iN,aIp (fun h=>h he),aIq h5,hpos]
    rw [hr];refine Sr<|Dd aD<|Dd aO<|Dd aO<|Dd aO<|Zz<|aC ?_;refine jX (H':=[]) (.inr rfl) rfl (aN rfl) (aN rfl) (aN rfl) (Fin.wk (by simp) trivial trivial) ?_;exact Qq
   have h5:¬ L.length=5000:=by have:=aIo hc4;omega
   rw [iN,aIp (fun h=>h he),aIp h5] at hinv;refine aB<|Sr<|Dd aD<|Dd (by exact aI rfl gO sizeOf137 rfl rfl rfl rfl (by simp only [Zl,encTok];rfl) rfl)<|Dd (by exact aT [encTok f] rfl fZ rfl rfl rfl rfl rfl (by intro r hr;rw [aIu] at hr;subst hr;rfl))<|Dd (by exact c6 (ps:=[encTok f]) rfl fZ U6 rfl rfl rfl rfl rfl (rR _) rfl (by intro r hr;rw [aIu] at hr;subst hr;rfl) (m:=1) rfl (by omega) rfl (vJ L f))<|Dd aO<|Zz<|Rg<|Dd aD<|Dm ?_;refine TD rfl rfl (aA rfl rfl call139 rfl (UZ s e _ hs hgo.2)) ?_;rintro r H' ⟨j1,rfl,g1,g2,g3,g4,rfl⟩;refine Da ?_;refine⟨j1,L++[f],⟨g2,by rw [aIs,List.length_singleton];omega,by rw [hinv,g3],g4⟩,by omega,?_⟩;dsimp only;rw [aIs,List.length_singleton];exact(cY.wk (Eb<|Ea<|Eb<|trivial) (Hc (cX _ _)<|trivial) trivial)
  have hE:(!decide (f.err=0))=true:=by rw [decide_eq_false he];rfl
  rw [HR hst he] at hnx;have hr:res=([],f.err,(j:Int)):=by rw [hinv,ZG hlt hst he,iN,aIq he,hpos]
  rw [hr];refine aB<|aF<|Sr<|Dd aD<|Dd aD<|Dd (by exact aA rfl rfl call140 rfl (hnx))<|Dd aD<|Dd eZ<|Dd eZ<|Dd eZ<|Dd (by exact bJ (id:=7) rfl TQ rfl rfl)<|Uu (fP sizeOf137)<|Dd aO<|Dd aO<|Zz<|Sq<|Sr<|Dd aD<|Dd (by exact dQ.val (by exact UG rfl rfl rfl) (hE))<|Zz ?_;refine Cn ?_ ?_<;>intro hc5
  ·refine Sr<|Dd aD<|Dd aD<|Dd aO<|Dd aO<|Dd aO<|Zz<|aC ?_;refine jX (H':=[]) (.inr rfl) rfl (aN rfl) (aN rfl) (aN rfl) (Fin.wk (by simp) trivial trivial) ?_;exact Qq
  ((cases hc5;done))
 have hge:¬ j < s.size:=by have:=aIo hc2;omega
 rw [ZH hge,iN] at hinv;rw [hinv];refine aZ<|Sq ?_;refine iB.ent (cY.fz (id:=905) (E':=[(5,.pv (vO L))]) (H':=[]) (L.map encTok) rfl (by rw [List.map_map];rfl)
  (by intro q hq;rw [aIu] at hq;subst hq;exact⟨_,rfl,.osl (by rw [aJJ,List.drop_zero,List.take_of_length_le (by rw [aIr];exact aIx _)])⟩) rfl trivial trivial) ?_
 refine Rg<|Dd aD<|Dd aO<|Dd aO<|Dd aO<|Zz<|aC ?_;refine jX (H':=[]) (.inr rfl) rfl (aN rfl) (aN rfl) (aN rfl) Fin.refl ?_;exact Qq
end Go.Proofs.YtlnfjkdacimblaaGreatDoor
namespace Go.Proofs.YtlnfjkdacimblaaGreatDoor
open Go.Proofs.Tryz
open Go.Abs Go.Lib
def wW (s:ByteArray) (i:Nat):ByteArray:=(cN s).getD i aP
def j6 (s:ByteArray):ByteArray:=s.extract ((wW s 0).size+(wW s 1).size+(wW s 2).size+3) s.size
def AF (s:ByteArray):Bool:=(decide ((eP (j6 s)).2.1=0)&&decide ((eP (j6 s)).1.length=1))&&decide (((eP (j6 s)).1.getD 0 AM).kind=3)
def UB (rP:ByteArray→GObj) (s:ByteArray):GEdit :=if wW s 0=ofL wPut∧4 < s.size then⟨1,aP,aP,aP,0,0,aP,aP,[],rP (s.extract 4 s.size)⟩
 else if wW s 0=ofL BD∧(cN s).length=4 then⟨2,wW s 1,aP,aP,BR (wW s 2),BR (wW s 3),aP,aP,[],zObj⟩
 else if(wW s 0=ofL uG∧4≤(cN s).length)∧AF s=true then⟨3,wW s 1,aP,aP,0,0,wW s 2,((eP (j6 s)).1.getD 0 AM).text,[],zObj⟩
 else if wW s 0=ofL BC∧2≤(cN s).length then⟨4,wW s 1,aP,aP,0,0,aP,aP,(cN s).drop 2,zObj⟩
 else if wW s 0=ofL BF∧(cN s).length=2 then⟨5,wW s 1,aP,aP,0,0,aP,aP,[],zObj⟩
 else if wW s 0=ofL vD∧(cN s).length=4 then⟨6,wW s 1,wW s 3,wW s 2,0,0,aP,aP,[],zObj⟩
 else if wW s 0=ofL BE∧(cN s).length=3 then⟨7,wW s 1,wW s 2,aP,0,0,aP,aP,[],zObj⟩
 else E5
theorem aEr {s:ByteArray} {i:Nat} (h:i < (cN s).length):((cN s).map encStr)[i]?=some (encStr (wW s i)):=by rw [aJL,wW,List.getD_eq_getElem?_getD,aIw h];rfl
theorem yB (s:ByteArray) (i:Nat):(wW s i).size≤s.size:=by
 rw [wW,List.getD_eq_getElem?_getD];cases e:(cN s)[i]? with
 | none=>exact aJI _
 | some w =>
  have hm:=aJB e;rw [cN] at hm;obtain ⟨x,hx,rfl⟩:=List.mem_map.1 hm;have:=mY 32 hx;rw [bC] at this;show (ofL x).size≤_;rw [dL];exact this
theorem AB (c:UInt8):∀ l:List UInt8,((dO c l).map List.length).sum+(dO c l).length=l.length+1
 | []=>rfl
 | b::l=>by
  have ih:=AB c l;have hp:=m0 c l;rw [dO]
  split
  ·rw [List.map_cons,List.sum_cons,aIt,aIt];show 0+_+_=_;omega
  cases e:dO c l with
  | nil=>rw [e] at hp;exact absurd hp (Nat.lt_irrefl 0)
  | cons x r =>
   rw [e,List.map_cons,List.sum_cons,aIt] at ih;show ((((b::x)::r).map List.length).sum+((b::x)::r).length=_);rw [List.map_cons,List.sum_cons,aIt,aIt,aIt];omega
theorem aFs {s:ByteArray} (h:4≤(cN s).length):(wW s 0).size+(wW s 1).size+(wW s 2).size+3≤s.size:=by
 have hs:=AB 32 s.data.toList;rw [bC] at hs;have hw:∀ i,wW s i=ofL ((dO 32 s.data.toList).getD i []):=fun i=>by
  rw [wW,cN,List.getD_eq_getElem?_getD,List.getD_eq_getElem?_getD,aJL];cases (dO 32 s.data.toList)[i]?<;>rfl
 rw [hw,hw,hw,dL,dL,dL];rw [cN,aIr] at h
 match e:dO 32 s.data.toList with
 | []=>rw [e] at h;exact absurd h (by decide)
 | [_]=>rw [e] at h;simp only [aIt,List.length_nil] at h;omega
 | [_,_]=>rw [e] at h;simp only [aIt,List.length_nil] at h;omega
 | [_,_,_]=>rw [e] at h;simp only [aIt,List.length_nil] at h;omega
 | a::b::c::d::r =>
  rw [e] at hs;simp only [List.map_cons,List.sum_cons,aIt] at hs;show a.length+b.length+c.length+3≤_;omega
end Go.Proofs.YtlnfjkdacimblaaGreatDoor
namespace Go.Proofs.YtlnfjkdacimblaaGreatDoor
open Go.Proofs.Tryz
open Go.Abs
def tK (T:List GFound):Int:=uT (T.getD 0 AM).text
def rU (T:List GFound):List ByteArray:=((T.drop 3).takeWhile fun f=>decide (f.kind=1)).map GFound.text
def DJ (T:List GFound):Bool:=decide ((T.getD 2 AM).kind=2)&&decide ((T.getD 3 AM).kind=2)
def OC (s:ByteArray):Int:=BQ s (min s.size 7)
def nI (T:List GFound):List GTag×Bool:=if tK T=1 then CW [] (T.drop 4)else CW [] (T.drop (3+(rU T).length+1))
def m5 (T:List GFound):GObj:=if tK T=1 then⟨(T.getD 1 AM).text,1,OC (T.getD 2 AM).text,OC (T.getD 3 AM).text,[],(nI T).1⟩else⟨(T.getD 1 AM).text,tK T,0,0,rU T,(nI T).1⟩
def rPO (s:ByteArray):GObj×Int:=if 20000 < s.size then(zObj,2)else if(eP s).2.1=0∧4≤(eP s).1.length then
 (if tK (eP s).1=1∧DJ (eP s).1=false then(zObj,5)else if(nI (eP s).1).2=true∧eB (m5 (eP s).1)=(s,0)then(m5 (eP s).1,0)else(zObj,5))else(zObj,5)
theorem O6 {s:ByteArray} (hd:∀ b∈s.data.toList,48≤b.toNat∧b.toNat≤57):∀ k,k≤s.size→∃ n:Nat,Lib.decFrom 0 (s.data.toList.take k)=some n∧MX s k=(n:Int)∧BQ s k=(n:Int)
 | 0,_=>⟨0,rfl,rfl,rfl⟩
 | k+1,h=>by
  obtain ⟨n,h1,h2,h3⟩:=O6 hd k (by omega);obtain ⟨b,hb⟩:∃ b,s.data.toList[k]?=some b:=aX (by rw [bC];omega);have hm:=hd b (aJB hb);have hv:Lib.digitVal b=some (b.toNat - 48):=by rw [Lib.digitVal,aIq hm]
  have hby:bP s k=(b.toNat:Int):=by rw [bP,hb];rfl
  refine⟨n*10+(b.toNat - 48),Lib.decFrom_take _ k 0 n b _ h1 hb hv,?_,?_⟩
  ·rw [MX,h2,hby];omega
  rw [BQ,h3,hby];show 10*(n:Int)+((b.toNat:Int) - 48) % 256=_;omega
theorem SQ {x:Int} (h0:0≤x):(cR x).data.toList=Lib.decDigits x.toNat:=by show (Lib.itoa x).toArray.toList=_;rw [iG _ h0]
theorem yN {x:Int} (h0:0≤x) (h1:x < 10000000):BR (cR x)=x∧OC (cR x)=x:=by
 have hl:=SQ h0;have hd:∀ b∈(cR x).data.toList,48≤b.toNat∧b.toNat≤57:=fun b hb=>by rw [hl] at hb;exact sE _ hb
 have hsz:(cR x).size=(Lib.decDigits x.toNat).length:=by rw [← bC,hl]
 have hpos:0 < (cR x).size:=by rw [hsz];exact List.length_pos_iff.2 (rC _)
 have h7:(cR x).size≤7:=by rw [hsz];exact eM (by omega) (by decide)
 obtain ⟨n,e1,e2,e3⟩:=O6 hd (cR x).size (aIx _);rw [List.take_of_length_le (by rw [bC];exact aIx _),hl,x5] at e1;cases e1;have hdg:(List.range (cR x).size).all (YN (cR x))=true:=by
  rw [List.all_eq_true];intro j hj;obtain ⟨b,hb⟩:∃ b,(cR x).data.toList[j]?=some b:=aX (by rw [bC];exact List.mem_range.1 hj);have hm:=hd b (aJB hb);have hby:bP (cR x) j=(b.toNat:Int):=by rw [bP,hb];rfl
  rw [YN,hby,decide_eq_false (by omega),decide_eq_false (by omega)];rfl
 constructor
 ·rw [BR,aIp (by omega),hdg,decide_eq_true h7,Bool.and_true,aIq rfl,e2];omega
 rw [OC,Nat.min_eq_left h7,e3];omega
theorem EH {s:ByteArray}:∀ (l:List GTag) (i:Nat),(∀ t,t∈l→bU t.key=true)→s.data.toList.drop i=jF l→∃ T,x9 s i (jF l) T∧JE T l∧∀ acc,CW acc T=(acc++l,true)
 | [],i,_,h=>⟨[],all_nil h,⟨rfl,(fun f hf=>by cases hf),rfl⟩,fun acc=>by rw [CW,List.append_nil]⟩
 | t::l,i,hk,h=>by
  have hm:jF (t::l)=32::(t.key.data.toList++61::(dE t.val.data.toList++jF l)):=by
   rw [jF,List.flatMap_cons,HY];simp [jF]
  rw [hm] at h ⊢;have h1:=(mG h).2.2;have h2:=eS h1;rw [bC] at h2;have h3:=(mG h2).2.2;have h4:=eS h3;obtain ⟨T,hT,hR,hG⟩:=EH l _ (fun t ht=>hk t (List.mem_cons_of_mem _ ht)) h4;have hq:0 < (dE t.val.data.toList).length:=by rw [dE,aIt];omega
  have b3:=wI (BJ h3) rfl (m8 h3 hq) hq hT;have b2:=y8 h2 (by decide) b3;have b1:=kH h1 (hk t List.mem_cons_self) (fun c r' e=>by cases e;exact⟨by decide,by decide,by decide⟩) b2;refine⟨_,pK h b1,JE.cons hR rfl rfl rfl,fun acc=>?_⟩;rw [CW,aIq (by simp [VT]),hG,List.append_assoc];rfl
theorem VW {α:Type} {p:α→Bool} {A B:List α} {c:α} (h:∀ a∈A,p a=true) (hc:p c=false):(A++c::B).takeWhile p=A:=by
 induction A with
 | nil=>rw [List.nil_append,List.takeWhile_cons,hc];rfl
 | cons a A ih =>
  rw [List.cons_append,List.takeWhile_cons,h a List.mem_cons_self,aIq rfl,ih fun x hx=>h x (List.mem_cons_of_mem _ hx)]
theorem WD {o:GObj} (hg:iC o=true):∃ T,x9 (o9 o) 0 (m7 o) T∧(∀ f,f∈T→f.err=0)∧T.length≤5000∧4≤T.length∧¬ (tK T=1∧DJ T=false)∧(nI T).2=true∧m5 T=o:=by
 obtain ⟨hr,ht,htg,hid,_⟩:=k7 hg;obtain ⟨hx,hy,hn,hz⟩:=Q9 hg;obtain ⟨hw,hkw⟩:=uE (yU hg);have hkey:∀ t,t∈o.tags→bU t.key=true:=fun t h=>((rL.1 htg).1 t h).1;have h0:=LE o;by_cases hk:o.kind=1
 ·have e:m7 o=(dW o.kind).data.toList++32::(o.id.data.toList++32::(Lib.itoa o.x++32::(Lib.itoa o.y++jF o.tags))):=by
   rw [m7,jP,aIq hk];simp
  rw [e] at h0 ⊢;have h1:=eS h0;rw [bC] at h1;have h2:=(mG h1).2.2;have h3:=eS h2;rw [bC] at h3;have h4:=(mG h3).2.2;have h5:=eS h4;have h6:=(mG h5).2.2;have h7:=eS h6;obtain ⟨T,hT,⟨r1,r2,r3⟩,r4⟩:=EH o.tags _ hkey h7;have b:=kH h0 hw (jN _) (pK h1 (kH h2 hid (jN _) (pK h3 (GG h4 hx.1 (by omega) (jN _) (pK h5 (GG h6 hy.1 (by omega) (GX _) hT))))));have htk:∀ (a b c d:GFound) (R:List GFound),tK (⟨1,dW o.kind,0,0⟩::b::c::d::R)=1:=fun a b c d R=>by
   show uT (dW o.kind)=1;rw [hkw,hk]
  refine⟨_,b,fun f hf=>?_,?_,?_,?_,?_,?_⟩
  ·simp only [aJD] at hf;rcases hf with rfl|rfl|rfl|rfl|hf
   ·rfl
   ·rfl
   ·rfl
   ·rfl
   exact r2 f hf
  ·simp only [aIt];omega
  ·simp only [aIt];omega
  ·rintro⟨-,h⟩;simp [DJ] at h
  ·rw [nI,aIq (htk AM _ _ _ _)];show (CW [] T).2=true;rw [r4]
  rw [m5,aIq (htk AM _ _ _ _),nI,aIq (htk AM _ _ _ _)];show (⟨o.id,1,OC (cR o.x),OC (cR o.y),[],(CW [] T).1⟩:GObj)=o;rw [r4,(yN hx.1 (by omega)).2,(yN hy.1 (by omega)).2];exact F5 rfl hk rfl rfl (hn hk) rfl
 obtain ⟨k,l,hkl⟩:=KV hg hk;have hnm:=oX hg;rw [hkl] at hnm;have e:m7 o=(dW o.kind).data.toList++32::(o.id.data.toList++32::(40::(k.data.toList++(l.flatMap (fun k=>32::k.data.toList)++41::jF o.tags)))):=by
  rw [m7,jP,aIp hk,hkl,r9];simp
 rw [e] at h0 ⊢;have h1:=eS h0;rw [bC] at h1;have h2:=(mG h1).2.2;have h3:=eS h2;rw [bC] at h3;have h4:=(mG h3).2.2;have h5:=(mG h4).2.2;have h6:=eS h5;rw [bC] at h6;have h7:=eS h6;have h8:=(mG h7).2.2;obtain ⟨T,hT,⟨r1,r2,r3⟩,r4⟩:=EH o.tags _ hkey h8;have hcl:=y8 h7 (by decide) hT;obtain ⟨R,hR,q1,q2⟩:=JA l _ _ _ (fun x hx=>hnm x (List.mem_cons_of_mem _ hx)) h6 (BI _) hcl;have hst:zF (l.flatMap (fun k=>32::k.data.toList)++41::jF o.tags):=by
  cases l with
  | nil=>exact BI _
  | cons a l=>rw [List.flatMap_cons];exact jN _
 have b:=kH h0 hw (jN _) (pK h1 (kH h2 hid (jN _) (pK h3 (y8 h4 (by decide) (kH h5 (hnm k List.mem_cons_self) hst hR)))));have hRl:R.length=l.length:=by rw [← q1,aIr]
 have hrl:o.refs.length=l.length+1:=by rw [hkl,aIt]
 have htk:∀ (b c d:GFound) (Z:List GFound),tK (⟨1,dW o.kind,0,0⟩::b::c::d::Z)=o.kind:=fun b c d Z=>by
  show uT (dW o.kind)=_;exact hkw
 have htw:∀ (a b c d:GFound) (j:Nat),d.kind=1→rU (a::b::c::d::(R++⟨4,⟨#[41]⟩,j,0⟩::T))=d.text::R.map GFound.text:=fun a b c d j hd=>by
  show (((d::R)++⟨4,⟨#[41]⟩,j,0⟩::T).takeWhile _).map GFound.text=_;rw [VW (fun x hx=>?_) (by rfl)]
  ·rfl
  rcases aJD.1 hx with rfl|hx
  ·exact decide_eq_true hd
  exact decide_eq_true (q2 x hx).1
 have hrt:∀ (b c d:GFound) (j:Nat),d.kind=1→nI (⟨1,dW o.kind,0,0⟩::b::c::d::(R++⟨4,⟨#[41]⟩,j,0⟩::T))=(o.tags,true):=fun b c d j hd=>by
  rw [nI,aIp (by rw [htk];exact hk),htw _ _ _ _ _ hd];have hdr:∀ a b c:GFound,(a::b::c::d::(R++⟨4,⟨#[41]⟩,j,0⟩::T)).drop (3+(d.text::R.map GFound.text).length+1)=T:=fun a b c=>by
   rw [show 3+(d.text::R.map GFound.text).length+1=(a::b::c::d::(R++[⟨4,⟨#[41]⟩,j,0⟩])).length by simp;omega,show a::b::c::d::(R++⟨4,⟨#[41]⟩,j,0⟩::T)=(a::b::c::d::(R++[⟨4,⟨#[41]⟩,j,0⟩]))++T by simp];exact List.drop_left
  rw [hdr,r4];rfl
 refine⟨_,b,fun f hf=>?_,?_,?_,?_,?_,?_⟩
 ·simp only [aJD,List.mem_append] at hf;rcases hf with rfl|rfl|rfl|rfl|hf|rfl|hf
  ·rfl
  ·rfl
  ·rfl
  ·rfl
  ·exact(q2 f hf).2
  ·rfl
  exact r2 f hf
 ·simp only [aIt,aIs];omega
 ·simp only [aIt,aIs];omega
 ·rintro⟨h,-⟩;rw [htk] at h;exact hk h
 ·rw [hrt _ _ _ _ rfl]
 obtain ⟨z1,z2⟩:=hz hk;rw [m5,aIp (by rw [htk];exact hk),hrt _ _ _ _ rfl,htw _ _ _ _ _ rfl,htk];refine F5 rfl rfl z1 z2 ?_ rfl;rw [hkl,q1]
theorem aAI {o:GObj} (h:(eB o).2=0):rPO (eB o).1=(o,0):=by
 obtain ⟨hg,ht,hs⟩:=F6 h;obtain ⟨T,hT,h1,h2,h3,h4,h5,h6⟩:=WD hg;have hlex:eP (o9 o)=(T,0,0):=by
  rw [eP,aIp (by omega),hT _ (by rw [← bC];exact Nat.le_succ _),uS T [] h1 (by rw [List.length_nil];omega),List.nil_append]
 rw [ht];show rPO (o9 o)=(o,0);rw [rPO,aIp (by omega),hlex];show (if(0:Int)=0∧4≤T.length then(if tK T=1∧DJ T=false then(zObj,(5:Int))else if(nI T).2=true∧eB (m5 T)=(o9 o,0)then(m5 T,0)else(zObj,5))else(zObj,5))=(o,0);rw [aIq ⟨rfl,h3⟩,aIp h4,h6,aIq ⟨h5,ht⟩]
theorem aDO {a b:List UInt8} (h:ofL a=ofL b):a=b:=by have:=congrArg (fun x:ByteArray=>x.data.toList) h;simp only [eI] at this;exact this
theorem mZ (l:List UInt8):cN (ofL l)=(dO 32 l).map ofL:=by rw [cN,eI];rfl
theorem xA (l:List UInt8) (i:Nat):wW (ofL l) i=ofL ((dO 32 l).getD i []):=by rw [wW,mZ,List.getD_eq_getElem?_getD,List.getD_eq_getElem?_getD,aJL];cases (dO 32 l)[i]?<;>rfl
theorem SN {v:ByteArray} (hv:v.size≤200):eP (ofL (dE v.data.toList))=([⟨3,v,0,0⟩],0,0):=by
 have h0:(ofL (dE v.data.toList)).data.toList.drop 0=dE v.data.toList++[]:=by rw [eI,List.append_nil];rfl
 have hl:(dE v.data.toList).length≤402:=by
  have:=IO v.data.toList;rw [bC] at this;rw [dE,aIt,aIs,List.length_singleton];omega
 have hq:0 < (dE v.data.toList).length:=by rw [dE,aIt];omega
 have hT:=wI (BJ h0) rfl (m8 h0 hq) hq (all_nil (eS h0));rw [eP,aIp (by rw [dL];omega),hT _ (by rw [dL,List.append_nil];exact Nat.le_succ _),uS _ [] (by intro f hf;rw [aIu] at hf;subst hf;rfl) (by simp)];rfl
theorem CI {l:List UInt8} {k:Nat}:(ofL l).extract k (ofL l).size=ofL (l.drop k):=EF (by rw [xY,eI,eI])
theorem R6 {rP:ByteArray→GObj} (hP:∀ o,(eB o).2=0→rP (eB o).1=o) {e:GEdit} (hv:dA e=true) (he:fA e=0):UB rP (ofL (eA e))=e:=by
 obtain ⟨⟨o1,o7⟩,hok,hx⟩:=nB.1 hv;rw [fA] at he;have nw:∀ {a b:List UInt8},a≠b→∀ {p:Prop},¬ (ofL a=ofL b∧p):=fun h p h2=>h (aDO h2.1);by_cases p1:e.op=1
 ·rw [aIq p1] at he;obtain ⟨hg,ht,_⟩:=F6 he;have hp:=hP _ he;rw [vB,aIq p1,p1] at hx;rw [eA,aIq p1];have hpos:0 < (eB e.obj).1.data.toList.length:=by
   rw [ht];show 0 < (m7 e.obj).length;rw [m7,jP,aIs,aIs,aIt];omega
  have h0:wW (ofL (wPut++32::(eB e.obj).1.data.toList)) 0=ofL wPut:=by
   rw [xA,gR (by decide)];rfl
  rw [UB,h0,aIq ⟨rfl,by rw [dL,aIs,aIt];show 4 < 3+_;omega⟩,CI];show (⟨1,aP,aP,aP,0,0,aP,aP,[],rP (ofL (eB e.obj).1.data.toList)⟩:GEdit)=e;rw [iF,hp];exact hx
 rw [lU,aIp p1,aJA] at hok;obtain ⟨hid,hok⟩:=hok;have i1:=j3 hid;rw [eA,aIp p1];by_cases p2:e.op=2
 ·rw [aIq p2] at hok;have hxy:(0≤e.x∧e.x < 1048576)∧0≤e.y∧e.y < 1048576:=by
   rw [onP] at hok;simp only [aJA,aIy] at hok;omega
  rw [vB,aIp p1,aIq p2,p2] at hx;rw [fL,aIq p2];have n1:=yW hxy.1.1;have n2:=yW hxy.2.1;have hs:dO 32 (bS [32] [BD,e.id.data.toList,Lib.itoa e.x,Lib.itoa e.y])=[BD,e.id.data.toList,Lib.itoa e.x,Lib.itoa e.y]:=i6 (by decide) (by intro w hw;simp only [aJD,aJH,or_false] at hw;rcases hw with rfl|rfl|rfl;all_goals first|exact i1.1|exact n1.1|exact n2.1);simp only [UB,xA,mZ,hs,List.getD_cons_zero,List.getD_cons_succ];rw [aIp (nw (by decide)),aIq ⟨trivial,rfl⟩,iF];show (⟨2,e.id,aP,aP,BR (cR e.x),BR (cR e.y),aP,aP,[],zObj⟩:GEdit)=e;rw [(yN hxy.1.1 (by omega)).1,(yN hxy.2.1 (by omega)).1];exact hx
 by_cases p3:e.op=3
 ·rw [aIp p2,aIq p3,aJA,aIy] at hok;have k1:=j3 hok.1;rw [vB,aIp p1,aIp p2,aIq p3,p3] at hx;rw [fL,aIp p2,aIq p3];have hj:bS [32] [uG,e.id.data.toList,e.key.data.toList,dE e.val.data.toList]=uG++32::(e.id.data.toList++32::(e.key.data.toList++32::dE e.val.data.toList)):=by simp [bS]
  have hsp:=m0 32 (dE e.val.data.toList);have hs:dO 32 (bS [32] [uG,e.id.data.toList,e.key.data.toList,dE e.val.data.toList])=uG::e.id.data.toList::e.key.data.toList::dO 32 (dE e.val.data.toList):=by
   rw [hj,gR (by decide),gR i1.1,gR k1.1]
  have hrest:j6 (ofL (bS [32] [uG,e.id.data.toList,e.key.data.toList,dE e.val.data.toList]))=ofL (dE e.val.data.toList):=by
   rw [j6,CI];simp only [xA,hs,List.getD_cons_zero,List.getD_cons_succ,dL];rw [hj];congr 1;have:uG++32::(e.id.data.toList++32::(e.key.data.toList++32::dE e.val.data.toList))=(uG++32::(e.id.data.toList++32::(e.key.data.toList++[32])))++dE e.val.data.toList:=by simp
   rw [this,show uG.length+e.id.data.toList.length+e.key.data.toList.length+3=(uG++32::(e.id.data.toList++32::(e.key.data.toList++[32]))).length by simp;omega];exact List.drop_left
  have hlx:=SN (v:=e.val) (by omega);have hto:AF (ofL (bS [32] [uG,e.id.data.toList,e.key.data.toList,dE e.val.data.toList]))=true:=by
   rw [AF,hrest,hlx];rfl
  simp only [UB,xA,mZ,hs,List.getD_cons_zero,List.getD_cons_succ,hrest,hto,hlx];rw [aIp (nw (by decide)),aIp (nw (by decide)),aIq ⟨⟨trivial,by simp only [aIr,aIt];omega⟩,trivial⟩,iF,iF];exact hx
 by_cases p4:e.op=4
 ·rw [aIp p2,aIp p3,aIq p4,aJA,aJA,List.all_eq_true] at hok;have hr:=hok.2;rw [vB,aIp p1,aIp p2,aIp p3,aIq p4,p4] at hx;rw [fL,aIp p2,aIp p3,aIq p4];have hs:dO 32 (bS [32] (BC::e.id.data.toList::bs e.refs))=BC::e.id.data.toList::bs e.refs:=i6 (by decide) (by
   intro w hw;rcases aJD.1 hw with rfl|hw
   ·exact i1.1
   obtain ⟨s,hs,rfl⟩:=List.mem_map.1 hw;exact(j3 (hr s hs)).1)
  simp only [UB,xA,mZ,hs,List.getD_cons_zero,List.getD_cons_succ];rw [aIp (nw (by decide)),aIp (nw (by decide)),aIp (fun h=>nw (by decide) h.1),aIq ⟨trivial,by simp only [aIr,aIt];omega⟩,iF];show (⟨4,e.id,aP,aP,0,0,aP,aP,(bs e.refs).map ofL,zObj⟩:GEdit)=e;rw [aBd];exact hx
 by_cases p5:e.op=5
 ·rw [vB,aIp p1,aIp p2,aIp p3,aIp p4,aIq p5,p5] at hx;rw [fL,aIp p2,aIp p3,aIp p4,aIq p5];have hs:dO 32 (bS [32] [BF,e.id.data.toList])=[BF,e.id.data.toList]:=i6 (by decide) (by intro w hw;rw [aIu] at hw;subst hw;exact i1.1);simp only [UB,xA,mZ,hs,List.getD_cons_zero,List.getD_cons_succ];rw [aIp (nw (by decide)),aIp (nw (by decide)),aIp (fun h=>nw (by decide) h.1),aIp (nw (by decide)),aIq ⟨trivial,rfl⟩,iF];exact hx
 by_cases p6:e.op=6
 ·rw [aIp p2,aIp p3,aIp p4,aIp p5,aIq p6,aJA] at hok;have k1:=j3 hok.1;have k2:=j3 hok.2;rw [vB,aIp p1,aIp p2,aIp p3,aIp p4,aIp p5,aIq p6,p6] at hx;rw [fL,aIp p2,aIp p3,aIp p4,aIp p5,aIq p6];have hs:dO 32 (bS [32] [vD,e.id.data.toList,e.node.data.toList,e.other.data.toList])=[vD,e.id.data.toList,e.node.data.toList,e.other.data.toList]:=i6 (by decide) (by intro w hw;simp only [aJD,aJH,or_false] at hw;rcases hw with rfl|rfl|rfl;all_goals first|exact i1.1|exact k1.1|exact k2.1);simp only [UB,xA,mZ,hs,List.getD_cons_zero,List.getD_cons_succ];rw [aIp (nw (by decide)),aIp (nw (by decide)),aIp (fun h=>nw (by decide) h.1),aIp (nw (by decide)),aIp (nw (by decide)),aIq ⟨trivial,rfl⟩,iF,iF,iF];exact hx
 have p7:e.op=7:=by omega
 rw [aIp p2,aIp p3,aIp p4,aIp p5,aIp p6] at hok;have k2:=j3 hok;rw [vB,aIp p1,aIp p2,aIp p3,aIp p4,aIp p5,aIp p6,p7] at hx;rw [fL,aIp p2,aIp p3,aIp p4,aIp p5,aIp p6];have hs:dO 32 (bS [32] [BE,e.id.data.toList,e.other.data.toList])=[BE,e.id.data.toList,e.other.data.toList]:=i6 (by decide) (by intro w hw;simp only [aJD,aJH,or_false] at hw;rcases hw with rfl|rfl;all_goals first|exact i1.1|exact k2.1);simp only [UB,xA,mZ,hs,List.getD_cons_zero,List.getD_cons_succ];rw [aIp (nw (by decide)),aIp (nw (by decide)),aIp (fun h=>nw (by decide) h.1),aIp (nw (by decide)),aIp (nw (by decide)),aIp (nw (by decide)),aIq ⟨trivial,rfl⟩,iF,iF];exact hx
theorem O9 {rE:ByteArray→GEdit} {s:ByteArray} {A w:List UInt8} {r:List UInt8} {acc:List GEdit} (hs:s.data.toList=A++(w++r)) (hw:(10:UInt8)∉w) (h:w7 rE s A.length=(A.length,acc)):∀ j,j≤w.length→w7 rE s (A.length+j)=(A.length,acc)
 | 0,_=>h
 | j+1,hj=>by
  have ih:=O9 hs hw h j (by omega);have hb:s.data.toList[A.length+j]?=w[j]?:=by rw [hs,List.getElem?_append_right (by omega),Nat.add_sub_cancel_left,List.getElem?_append_left (by omega)]
  obtain ⟨b,hwb⟩:∃ b,w[j]?=some b:=aX (by omega);have hne:b≠10:=fun e=>hw (by rw [← e];exact aJB hwb);have hby:bP s (A.length+j)=(b.toNat:Int):=by rw [bP,hb,hwb];rfl
  rw [show A.length+(j+1)=(A.length+j)+1 by omega,w7,hby,aIp ?_,ih];rw [aIy];intro e;exact hne (UInt8.toNat_inj.1 (by show b.toNat=10;omega))
theorem aAG {rE:ByteArray→GEdit} {s:ByteArray} {A w:List UInt8} {r:List UInt8} {acc:List GEdit} (hs:s.data.toList=A++(w++10::r)) (hw:(10:UInt8)∉w) (h:w7 rE s A.length=(A.length,acc)):w7 rE s (A.length+w.length+1)=(A.length+w.length+1,acc++[rE (ofL w)]):=by
 have h1:=O9 hs hw h w.length (aIx _);have hb:s.data.toList[A.length+w.length]?=some 10:=by rw [hs,List.getElem?_append_right (by omega),Nat.add_sub_cancel_left,List.getElem?_append_right (aIx _),Nat.sub_self];rfl
 have hby:bP s (A.length+w.length)=10:=by rw [bP,hb];rfl
 have hx:s.extract A.length (A.length+w.length)=ofL w:=tG (by rw [hs,List.drop_left]);rw [w7,hby,h1,aIq (show decide ((10:Int)=10)=true by decide),hx]
theorem KZ {rE:ByteArray→GEdit} {s:ByteArray}:∀ (l:List GEdit) (A:List UInt8) (acc:List GEdit),s.data.toList=A++l.flatMap (fun e=>eA e++[10])→(∀ e∈l,(10:UInt8)∉eA e∧rE (ofL (eA e))=e)→w7 rE s A.length=(A.length,acc)→w7 rE s s.size=(s.size,acc++l)
 | [],A,acc,hs,_,h=>by
  rw [List.flatMap_nil,List.append_nil] at hs;rw [← bC,hs,h,List.append_nil]
 | e::l,A,acc,hs,hl,h=>by
  rw [List.flatMap_cons,List.append_assoc] at hs;obtain ⟨h1,h2⟩:=hl e List.mem_cons_self;have hn:=aAG hs h1 h;rw [h2] at hn;have hAl:(A++(eA e++[10])).length=A.length+(eA e).length+1:=by
   rw [aIs,aIs,List.length_singleton];omega
  have:=KZ (rE:=rE) (s:=s) l (A++(eA e++[10])) (acc++[e]) (by rw [hs];simp) (fun x hx=>hl x (List.mem_cons_of_mem _ hx)) (by rw [hAl];exact hn);rw [this,List.append_assoc];rfl
theorem aFm {rE:ByteArray→GEdit} (hE:∀ e,dA e=true→fA e=0→rE (ofL (eA e))=e) (t:ByteArray):gPr rE t=jC t:=by
 have key:∀ l,eJ l=(t,0)→(w7 rE t t.size).2=l:=fun l h=>by
  have h0:(eJ l).2=0:=by rw [h]
  have hc:eW l=true:=by
   rw [eJ] at h0
   split at h0
   ·assumption
   cases h0
  obtain ⟨hne,hv⟩:=AS hc;rw [eJ,aIq hc] at h h0;obtain ⟨h1,h2,h3⟩:=GQ h0;rw [List.nil_append] at h2;rw [h2] at h;have ht:t=ofL (l.flatMap fun e=>eA e++[10]):=(congrArg Prod.fst h).symm;have:=KZ (rE:=rE) (s:=t) l [] [] (by rw [ht,eI];rfl) (fun e he=>⟨(DH (hv e he) (h1 e he)).2,hE e (hv e he) (h1 e he)⟩) rfl;rw [this];rfl
 rw [gPr];by_cases hs:20000 < t.size
 ·rw [aIq hs,jC,aIq hs]
 rw [aIp hs];by_cases h:eJ (w7 rE t t.size).2=(t,0)
 ·rw [aIq h];have h0:(eJ (w7 rE t t.size).2).2=0:=by rw [h]
  have:=PF h0;rw [h] at this;exact this.symm
 rw [aIp h,jC,aIp hs,aIp ?_];intro h2;exact h (by rw [key _ h2];exact h2)
theorem R7 (n:Nat):∀ (T:List GFound) (acc:List GTag),(∀ f∈T,f.text.size≤n)→(∀ t∈acc,t.key.size≤n∧t.val.size≤n)→(CW acc T).1.length≤acc.length+T.length∧∀ t∈(CW acc T).1,t.key.size≤n∧t.val.size≤n
 | [],acc,_,h=>by
  rw [CW];exact⟨Nat.le_add_right _ _,h⟩
 | [a],acc,_,h=>by
  rw [CW];exact⟨aJI _,fun t ht=>by cases ht⟩
 | [a,b],acc,_,h=>by
  rw [CW];exact⟨aJI _,fun t ht=>by cases ht⟩
 | a::b::c::r,acc,hT,h=>by
  rw [CW]
  split
  ·have ih:=R7 n r (acc++[mkT a c]) (fun f hf=>hT f (by simp [hf])) (fun t ht=>by
    rcases List.mem_append.1 ht with h1|h1
    ·exact h t h1
    rw [aIu.1 h1];exact⟨hT a (by simp),hT c (by simp)⟩)
   rw [aIs,List.length_singleton] at ih;simp only [aIt];exact⟨by omega,ih.2⟩
  exact⟨aJI _,fun t ht=>by cases ht⟩
theorem ZI {T:List GFound} {n:Nat} (h:∀ f∈T,f.text.size≤n) (i:Nat):(T.getD i AM).text.size≤n:=by
 rw [List.getD_eq_getElem?_getD];cases e:T[i]? with
 | none=>exact aJI _
 | some f=>exact h f (aJB e)
theorem lN:DO zObj:=⟨by decide,⟨by decide,fun t h=>by cases h⟩,by decide,fun s hs=>by cases hs⟩
theorem UA {T:List GFound} {n:Nat} (hn:n < 1099511627776) (hT:∀ f∈T,f.text.size≤n) (hl:T.length < 549755813888):DO (m5 T):=by
 have htg:rW (nI T).1:=by
  rw [nI]
  split
  ·have h:=R7 n (T.drop 4) [] (fun f hf=>hT f (List.mem_of_mem_drop hf)) (fun t ht=>by cases ht);rw [aJG,List.length_nil] at h;exact⟨by omega,fun t ht=>⟨by have:=(h.2 t ht).1;omega,by have:=(h.2 t ht).2;omega⟩⟩
  have h:=R7 n (T.drop (3+(rU T).length+1)) [] (fun f hf=>hT f (List.mem_of_mem_drop hf)) (fun t ht=>by cases ht);rw [aJG,List.length_nil] at h;exact⟨by omega,fun t ht=>⟨by have:=(h.2 t ht).1;omega,by have:=(h.2 t ht).2;omega⟩⟩
 have hid:=ZI hT 1;rw [m5]
 split
 ·exact⟨by show (T.getD 1 AM).text.size < _;omega,htg,by show (0:Nat) < _;omega,fun s hs=>by cases hs⟩
 refine⟨by show (T.getD 1 AM).text.size < _;omega,htg,?_,fun s hs=>?_⟩
 ·show (rU T).length < _;have:=(List.takeWhile_sublist (l:=T.drop 3) fun f=>decide (f.kind=1)).length_le;rw [rU,aIr];rw [aJG] at this;omega
 obtain ⟨f,hf,rfl⟩:=List.mem_map.1 (show s∈rU T from hs);have:=hT f (List.mem_of_mem_drop ((List.takeWhile_sublist _).subset hf));omega
theorem aFM {s:ByteArray} (hs:s.size < 1099511627776):DO (rPO s).1:=by
 rw [rPO]
 split
 ·exact lN
 split
 ·split
  ·exact lN
  split
  ·exact UA hs (fun f hf=>yT s f hf) (rA s hs)
  exact lN
 exact lN
theorem RX (s:ByteArray):(cN s).length≤s.size+1:=by have hs:=AB 32 s.data.toList;rw [bC] at hs;rw [cN,aIr];omega
theorem OX {s w:ByteArray} (h:w∈cN s):w.size≤s.size:=by rw [cN] at h;obtain ⟨x,hx,rfl⟩:=List.mem_map.1 h;have:=mY 32 hx;rw [bC] at this;show (ofL x).size≤_;rw [dL];exact this
theorem xM {op x y:Int} {id other node key val:ByteArray} {refs:List ByteArray} {obj:GObj} (h1:id.size≤20000) (h2:other.size≤20000) (h3:node.size≤20000) (h4:key.size≤20000) (h5:refs.length≤20001) (h6:∀ s∈refs,s.size≤20000) (h7:DO obj) :
  tQ ⟨op,id,other,node,x,y,key,val,refs,obj⟩∧(⟨op,id,other,node,x,y,key,val,refs,obj⟩:GEdit).refs.length < 1099511627776 :=
 ⟨⟨⟨Nat.lt_of_le_of_lt h1 (by decide),Nat.lt_of_le_of_lt h2 (by decide),Nat.lt_of_le_of_lt h3 (by decide),Nat.lt_of_le_of_lt h4 (by decide)⟩,⟨Nat.lt_of_le_of_lt h5 (by decide),fun s hs=>Nat.lt_of_le_of_lt (h6 s hs) (by decide)⟩,h7⟩,Nat.lt_of_le_of_lt h5 (by decide)⟩
theorem aFN {rP:ByteArray→GObj} (hP:∀ x:ByteArray,x.size≤20000→DO (rP x)) {s:ByteArray} (hs:s.size≤20000):tQ (UB rP s)∧(UB rP s).refs.length < 1099511627776:=by
 have hw:∀ i,(wW s i).size≤20000:=fun i=>Nat.le_trans (yB s i) hs;have h0:(aP:ByteArray).size≤20000:=aJI _;have hn:([]:List ByteArray).length≤20001:=aJI _;have hm:∀ s∈([]:List ByteArray),s.size≤20000:=fun s h=>by cases h
 rw [UB]
 split
 ·exact xM h0 h0 h0 h0 hn hm (hP _ (Nat.le_trans (fD s _ _) hs))
 split
 ·exact xM (hw 1) h0 h0 h0 hn hm lN
 split
 ·exact xM (hw 1) h0 h0 (hw 2) hn hm lN
 split
 ·exact xM (hw 1) h0 h0 h0 (by rw [aJG];have:=RX s;omega) (fun w hx=>Nat.le_trans (OX (List.mem_of_mem_drop hx)) hs) lN
 split
 ·exact xM (hw 1) h0 h0 h0 hn hm lN
 split
 ·exact xM (hw 1) (hw 3) (hw 2) h0 hn hm lN
 split
 ·exact xM (hw 1) (hw 2) h0 h0 hn hm lN
 exact xM h0 h0 h0 h0 hn hm lN
abbrev oQ (id:ByteArray) (k x y:Int) (n:Nat):Ob:=bx 6 49 [sv id,iv k,iv x,iv y,.osl 906 n 0 n,.pv .nils]
def qH (id:ByteArray) (k x y:Int) (R:List ByteArray):aE:=[(906,⟨R.length,1,9,nU R⟩),(7,oQ id k x y R.length),(2,bx 6 49 ((aG zObj).map .pv))]
abbrev qE (s:ByteArray) (T:List GFound):dG:=[(0,sv s),(2,.ref 2 0 0 0),(4,.pv (vO T)),(7,.ref 7 0 0 0)]
theorem aHd (id:ByteArray) (k x y:Int) (R:List ByteArray) (s:ByteArray):qH id k x y (R++[s])=[(906,⟨R.length+1,1,9,nU (R++[s])⟩),(7,oQ id k x y (R.length+1)),(2,bx 6 49 ((aG zObj).map .pv))]:=by simp [qH]
theorem ZB {α:Type} {p:α→Bool}:∀ {l:List α} {i:Nat},i≤(l.takeWhile p).length→(l.length≤i→(l.takeWhile p).length=i)∧∀ a,l[i]?=some a→(p a=true→i < (l.takeWhile p).length)∧(p a=false→(l.takeWhile p).length=i)
 | [],i,h=>⟨fun _=>by simp at h ⊢;omega,fun a ha=>by simp at ha⟩
 | b::l,i,h=>by
  rw [List.takeWhile_cons] at h ⊢;by_cases hb:p b=true
  ·rw [aIq hb] at h ⊢;cases i with
   | zero=>exact⟨fun hl=>by simp at hl,fun a ha=>⟨fun _=>Nat.succ_pos _,fun hf=>by simp at ha;subst ha;rw [hb] at hf;cases hf⟩⟩
   | succ i =>
    obtain ⟨h1,h2⟩:=ZB (l:=l) (p:=p) (i:=i) (by simpa using h);refine⟨fun hl=>?_,fun a ha=>?_⟩
    ·rw [aIt,h1 (by simpa using hl)]
    obtain ⟨h3,h4⟩:=h2 a (by simpa using ha);exact⟨fun e=>by have:=h3 e;rw [aIt];omega,fun e=>by rw [aIt,h4 e]⟩
  rw [aIp hb] at h ⊢;have hi:i=0:=by simp at h;exact h
  subst hi;exact⟨fun _=>rfl,fun a ha=>⟨fun e=>by simp at ha;subst ha;exact absurd e hb,fun _=>rfl⟩⟩
theorem H4 {s:ByteArray} (h:s.size≤20000):(eP s).1.length < 100000:=by
 unfold eP
 split
 ·decide
 have h1:=AP (iH s (s.size+1) 0) [];have h2:=uJ s (s.size+1) 0;rw [List.length_nil] at h1;omega
theorem R8 (s:ByteArray) (H:aE) (hs:s.size≤20000):aH Tryz.prog 86 [sv s] H (fun r H'=>r=.tup [av (aG (rPO s).1),iv (rPO s).2]∧H'=H):=by
 refine Pu ?_;have hlen:=rA s (by omega);have hlen2:=H4 hs;have hsz:=fun f hf=>yT s f hf;have hoo:=UA (n:=s.size) (by omega) hsz hlen;have hlx:=fun H=>UR s H (by omega);rw [rPO,aIp (by omega)];obtain ⟨T,hT⟩:∃ T,T=(eP s).1:=⟨_,rfl⟩;obtain ⟨er,her⟩:∃ e,e=(eP s).2.1:=⟨_,rfl⟩;obtain ⟨pp,hpp⟩:∃ e,e=(eP s).2.2:=⟨_,rfl⟩;simp only [← hT,← her,← hpp] at hlen hlen2 hsz hoo hlx ⊢;clear hT her hpp;have hmT:(T.map encTok).length=T.length:=aIr _;refine Bd func86 rfl ntmps86<|Sr<|Dd (by exact bJ (id:=2) rfl qU rfl rfl)<|Dd aO<|Zz<|Sq<|Sr<|Dd aD<|Dd (jJ underlying9)<|Dd kC<|Zz ?_;refine Cn ?_ ?_<;>intro hc1
 ·exact absurd (aIn hc1) (by omega)
 refine aB<|Sr<|Dd aD<|Dd (by exact aA rfl rfl aI8 rfl (hlx _))<|Dd aD<|Dd eZ<|Dd eZ<|Dd eZ<|Dd aO<|Dd aO<|Dd aO<|Zz<|Sq<|Sq ?_;refine bD (t:=30) (n:=8) (X:=!decide (er=0)||decide (((T.map encTok).length:Int) < 4)) ?_ ?_
 ·all_goals refine Dd aD ?_
  all_goals refine Dd tU<|Dm ?_
  all_goals refine Sp 26 (fun h26=>?_) fun h26=>?_
  all_goals(try(with_reducible contradiction))
  all_goals first|refine Fo<|Fo<|Fo ?_|refine On aD<|On (fK cT)<|On dD ?_
  all_goals refine Dd dI<|Zz ?_
  all_goals(exact⟨⟨_,rfl,by(simp only [*,Zo];done)⟩,rfl,rfl,rfl⟩)
 refine Cn ?_ ?_<;>intro hc2
 ·have hb:=hc2;rw [aIp (fun e=>by rw [Bool.or_eq_true,aJK,aIz,aIy] at hb;rcases hb with hb|hb;exact hb e.1;omega)];refine Sr<|Dd (jG CO)<|Uu (fP sizeOf49)<|Dd aO<|Zz<|aC ?_;refine iD (H':=[]) (.inr rfl) rfl (nZ aY sizeOf49) (aN rfl) (Fin.wk (r:=.tup [av (aG zObj),iv 5]) (by simp) trivial trivial) ?_;exact Qq
 have hb:=hc2;rw [aJN,Bool.not_eq_false',aIy,aIz] at hb;have h4:4≤T.length:=by omega
 rw [aIq ⟨hb.1,h4⟩];obtain ⟨t0,ht0⟩:=aX (show 0 < T.length by omega);obtain ⟨t1,ht1⟩:=aX (show 1 < T.length by omega);obtain ⟨t2,ht2⟩:=aX (show 2 < T.length by omega);obtain ⟨t3,ht3⟩:=aX (show 3 < T.length by omega);have i0:=bZ (f:=encTok) ht0;have i1:=bZ (f:=encTok) ht1;have i2:=bZ (f:=encTok) ht2;have i3:=bZ (f:=encTok) ht3;have hd:∀ {i:Nat} {f:GFound},T[i]?=some f→T.getD i AM=f:=fun {i f} h=>by rw [List.getD_eq_getElem?_getD,h];rfl
 have d1:=hd ht1;have d2:=hd ht2;have d3:=hd ht3;have htK:tK T=uT t0.text:=by rw [tK,hd ht0]
 refine aB<|Sr<|Dd aD<|Dd (e8 fZ)<|Dd (wB f7)<|Dd (fM isAgg9)<|Dd (jG aEd)<|Dd (by exact bJ (id:=7) rfl aEQ rfl rfl)<|Uu (fP sizeOf49)<|Zz<|Sq<|Sq ?_;refine iB.ent (E':=qE s T) (H':=qH t1.text 0 0 0 []) (cY.nz 906 1 9 rfl rfl ⟨⟨_,rfl,(by exact Nz.same (by(simp;done)))⟩,⟨_,rfl,(by exact Nz.same (by(simp;rfl)))⟩,⟨_,rfl,(by exact Nz.same (by(simp;done)))⟩,⟨_,rfl,(by exact Nz.same (by(simp;rfl)))⟩,trivial⟩ ⟨⟨_,rfl,rfl,rfl,rfl,(by exact .inr ⟨_,_,rfl,rfl,(by repeat(first|exact trivial|refine⟨(by first|exact Nz.own|exact Nz.same (by(simp;done))),?_⟩))⟩)⟩,⟨_,rfl,rfl,rfl,rfl,(by exact .inl ⟨rfl,(by(simp;done))⟩)⟩,trivial⟩ trivial) ?_;refine Rg<|Dd aO<|Zz<|aF ?_;refine bG (σ:=Nat) (fun j=>(qE s T++[(8,iv ((j+1:Nat):Int))],qH t1.text (kF t0.text j) 0 0 [])) (fun j=>j≤5) (fun j=>5 - j) 0 (aJI _) ?_ ?_
 ·exact(cY.wk (Eb<|Ea<|Eb<|Ea<|Eb<|trivial) (Hc (fB _ _)<|Ha<|Hb<|trivial) trivial)
 rintro j hj;refine Sq<|Sr<|Dd aD<|Dd JK<|Zz ?_;refine Cn ?_ ?_<;>intro hc3
 ·have hj5:j < 5:=by have:=aIn hc3;omega
  refine aB<|Sq<|aF<|Sq<|aU follows<|Cq aD<|Cq (e8 fZ)<|Cq (wB f7)<|Cq (fM isAgg9)<|Cq aD<|Cq (by exact aA rfl rfl YJ rfl (yM ((j+1:Nat):Int) _))<|Cq sQ<|bM<|Kr ?_;refine Cn ?_ ?_<;>intro hc4
  ·have hw:t0.text=dW ((j+1:Nat):Int):=aIn hc4;refine Rg<|Dd aD<|Dd (bH dT)<|Uu (by exact bW rfl sizeOf3 rfl rfl rfl rfl rfl rfl (by simp only [aIt,List.length_nil];omega) (by simp only [Zl,aQ,aG,encStr,encInt,encTok];rfl) (by simp only [Zl,aQ,aG,encStr,encInt,encTok];rfl))<|Zz<|Rg<|Dd aD<|Dd eL<|Da ?_;refine⟨j+1,by omega,by omega,?_⟩;rw [show kF t0.text (j+1)=((j+1:Nat):Int)by rw [kF,aIq hw.symm]];exact(cY.wk (Eb<|Ea<|Eb<|Ea<|Eb<|trivial) (Hc (fB _ _)<|Ha<|Hb<|trivial) trivial)
  have hw:t0.text≠dW ((j+1:Nat):Int):=aIo hc4;refine aB<|Rg<|Dd aD<|Dd eL<|Da ?_;refine⟨j+1,by omega,by omega,?_⟩;rw [show kF t0.text (j+1)=kF t0.text j by rw [kF,aIp (Ne.symm hw)]];exact(cY.wk (Eb<|Ea<|Eb<|Ea<|Eb<|trivial) (Hc (fB _ _)<|Ha<|Hb<|trivial) trivial)
 have hj5:j=5:=by have:=aIo hc3;omega
 subst hj5;rw [UW];obtain ⟨kd,hkd⟩:∃ kd,kd=uT t0.text:=⟨_,rfl⟩;rw [← hkd] at htK ⊢;clear hkd;refine aZ<|Sr<|Dd aO<|Zz<|Sq<|Sr<|Dd (bH dT)<|Dd (cA isAgg3)<|Dd cI<|Zz ?_;refine Cn ?_ ?_<;>intro hc5
 ·have hk1:kd=1:=aIn hc5;subst hk1;have z2:t2.text.size≤20000:=Nat.le_trans (hsz _ (aJB ht2)) hs;have z3:t3.text.size≤20000:=Nat.le_trans (hsz _ (aJB ht3)) hs;refine Sq<|Sq ?_;refine bD (t:=64) (n:=13) (X:=!decide (t2.kind=2)||!decide (t3.kind=2)) ?_ ?_
  ·all_goals refine Dd aD ?_
   all_goals refine Dd (e8 fZ)<|Dd (wB pR)<|Dd (fM isAgg3)<|Dd tU<|Dm ?_
   all_goals refine Sp 58 (fun h58=>?_) fun h58=>?_
   all_goals(try(with_reducible contradiction))
   all_goals first|refine Fo<|Fo<|Fo<|Fo<|Fo ?_|refine On aD<|On (e8 fZ)<|On (wB pR)<|On (fM isAgg3)<|On tU ?_
   all_goals refine Dd dI<|Zz ?_
   all_goals(exact⟨⟨_,rfl,by(simp only [*,Zo];done)⟩,rfl,rfl,rfl⟩)
  refine Cn ?_ ?_<;>intro hc6
  ·have hq:=hc6;rw [aIq ⟨htK,by rw [DJ,d2,d3];revert hq;cases decide (t2.kind=2)<;>cases decide (t3.kind=2)<;>decide⟩];refine Sr<|Dd (jG CO)<|Uu (fP sizeOf49)<|Dd aO<|Zz<|aC ?_;refine iD (H':=[]) (.inr rfl) rfl (nZ aY sizeOf49) (aN rfl) (Fin.wk (r:=.tup [av (aG zObj),iv 5]) (by simp) trivial trivial) ?_;exact Qq
  have hq:=hc6;rw [aIp (fun e=>by have h2:=e.2;rw [DJ,d2,d3] at h2;revert hq h2;cases decide (t2.kind=2)<;>cases decide (t3.kind=2)<;>decide)];have hmin:min ((4:Nat):Int) ((T.map encTok).length:Int)=((min (4) T.length:Nat):Int):=by rw [hmT];omega
  have hrl3:∀ r∈T.map encTok,r.length=3:=fun r hr=>by
   obtain ⟨f,_,rfl⟩:=List.mem_map.1 hr;rfl
  have hcut:((T.map encTok).take (T.map encTok).length).drop (min (4) T.length)=(T.drop (4)).map encTok:=by
   rw [List.take_length,List.map_drop];rcases Nat.le_total (4) T.length with h|h
   ·rw [Nat.min_eq_left h]
   rw [Nat.min_eq_right h,List.drop_of_length_le (by rw [hmT];exact aIx _),List.drop_of_length_le (by rw [hmT];exact h)]
  have hml:min (4) T.length≤(T.map encTok).length:=by rw [hmT];exact Nat.min_le_right _ _
  have htg:=fun H=>DI (T.drop (4)) H (by rw [aJG];omega);have hTG:=(show nI T=CW [] (T.drop 4)by rw [nI,aIq htK]);have hOT:=(show m5 T=⟨t1.text,1,OC t2.text,OC t3.text,[],(nI T).1⟩by rw [m5,aIq htK,d1,d2,d3]);obtain ⟨G,hG⟩:∃ G,G=CW [] (T.drop (4)):=⟨_,rfl⟩;rw [hOT,hTG] at hoo;rw [hOT,hTG];simp only [← hG] at htg hoo ⊢;clear hG hTG hOT;refine aB<|aU follows<|Cr [] (fun _ _=>aD)<|Cr [] (fun _ _=>(e8 fZ))<|Cr [] (fun _ _=>(wB f7))<|Cr [] (fun _ _=>(fM isAgg9))<|Cr [] (fun H1 hH=>by exact aA rfl rfl call137 rfl (HG t2.text _ (by omega)))<|Cr [] (fun _ _=>aD)<|Cr [] (fun _ _=>(e8 fZ))<|Cr [] (fun _ _=>(wB f7))<|Cr [] (fun _ _=>(fM isAgg9))<|Cr [] (fun H1 hH=>by exact aA rfl rfl call137 rfl (HG t3.text _ (by omega)))<|Cr [] (fun _ _=>(jG J9))<|Cr [7] (fun _ h=>fh kE h)<|Cp [7] (fun H1 hH=>by exact qV rfl sizeOf45 rfl rfl rfl rfl ((hH _ rfl).trans rfl) rfl rfl (by simp only [aIt,List.length_nil];omega) (by simp only [Zl,aQ,aG,encStr,encInt,encTok];rfl) (by simp only [Zl,aQ,aG,encStr,encInt,encTok];rfl))<|bM<|Kr<|Sq ?_;refine iB.ent (cY.fzG (id:=906) (E':=qE s T++[(9,iv ((4:Nat):Int))]) (H':=[(7,bx 6 49 [sv (t1.text),iv (1),iv ((OC t2.text)),iv ((OC t3.text)),.pv (cS (([]:List ByteArray))),.pv .nils]),(2,bx 6 49 ((aG zObj).map .pv))]) ((([]:List ByteArray)).map encStr) rfl (rF _) ?_ rfl ?_ ?_) ?_
  ·intro p hp;simp only [List.cons_append,List.nil_append,aJD,aJH,or_false] at hp;rcases hp with rfl|rfl|rfl|rfl|rfl<;>exact⟨_,rfl,.same (by simp;try rfl)⟩
  ·exact⟨⟨_,rfl,rfl,rfl,rfl,tE rfl (dC (.same (by simp)) (dC (.same (by simp)) (dC (.same (by simp)) (dC (.same (by simp)) (dC (.osl (gQ encStr _)) (dC (.same (by simp)) oK))))))⟩,⟨_,rfl,rfl,rfl,rfl,iI (by simp)⟩,trivial⟩
  ·exact trivial
  refine Rg<|Dd aD<|Dd aD<|Dd aD<|Dd (fK cT)<|Dd (by exact sZ rfl rfl rfl hmin)<|Dd (by exact iY (l:=(min (4) T.length)) (h:=((T.map encTok).length)) rfl fZ rfl (by assumption) rfl rfl (by omega) (by omega) hcut)<|Dd (by exact aA rfl rfl aIH rfl (htg _))<|Dd aD<|Dd eZ<|Dd eZ<|Dd aO<|Dd aO<|Zz<|Sr<|Dd aD<|Dd (bH e9)<|Uu (by exact bW rfl sizeOf47 rfl rfl rfl rfl rfl rfl (by simp only [aIt,List.length_nil];omega) (by simp only [Zl,aQ,aG,encStr,encInt,encTok];rfl) (by simp only [Zl,aQ,aG,encStr,encInt,encTok];rfl))<|Zz<|Sr<|Dd (qZ aY sizeOf49)<|Dd (by exact aA rfl rfl aCT rfl (vR ⟨t1.text,1,(OC t2.text),(OC t3.text),([]:List ByteArray),G.1⟩ _ hoo))<|Dd aD<|Dd eZ<|Dd eZ<|Dd aO<|Dd aO<|Zz<|Sq<|Sq ?_;refine bD (t:=131) (n:=13) (X:=(!G.2||!decide ((eB ⟨t1.text,1,(OC t2.text),(OC t3.text),([]:List ByteArray),G.1⟩).2=0))||!decide ((eB ⟨t1.text,1,(OC t2.text),(OC t3.text),([]:List ByteArray),G.1⟩).1=s)) ?_ ?_
  ·all_goals refine Dd aD ?_
   all_goals refine Dd jU<|Dm ?_
   all_goals refine Sp 123 (fun h123=>?_) fun h123=>?_
   all_goals(try(with_reducible contradiction))
   all_goals first|refine Fo<|Fo ?_|refine On aD<|On tU ?_
   all_goals refine Dd dI<|Dm ?_
   all_goals refine Sp 127 (fun h127=>?_) fun h127=>?_
   all_goals(try(with_reducible contradiction))
   all_goals first|refine Fo<|Fo<|Fo ?_|refine On aD<|On aD<|On JQ ?_
   all_goals refine Dd dI<|Zz ?_
   all_goals(exact⟨⟨_,rfl,by first|(rw [h123];rfl)|(rw [h123,h127];rfl)⟩,rfl,rfl,rfl⟩)
  refine Cn ?_ ?_<;>intro hc7
  ·have hq:=hc7;rw [aIp (fun e=>by rw [e.1,e.2] at hq;simp at hq)];refine Sr<|Dd (jG CO)<|Uu (fP sizeOf49)<|Dd aO<|Zz<|aC ?_;refine iD (H':=[]) (.inr rfl) rfl (nZ aY sizeOf49) (aN rfl) (Fin.wk (r:=.tup [av (aG zObj),iv 5]) (by simp) trivial trivial) ?_;exact Qq
  have hq:=hc7;simp only [aJN,Bool.not_eq_false',aIy] at hq;rw [aIq ⟨hq.1.1,Prod.ext hq.2 hq.1.2⟩];refine aB<|Sr<|Dd (qZ aY sizeOf49)<|Uu (fP sizeOf49)<|Dd aO<|Zz<|aC ?_;refine iD (H':=[]) (.inr rfl) rfl (nZ aY sizeOf49) (aN rfl) (Fin.wk (r:=.tup [av (aG ⟨t1.text,1,(OC t2.text),(OC t3.text),([]:List ByteArray),G.1⟩),iv 0]) (by simp) trivial trivial) ?_;exact Qq
 have hk1:kd≠1:=aIo hc5;rw [aIp (fun e=>hk1 (htK.symm.trans e.1))];obtain ⟨M,hM⟩:∃ M,M=T.drop 3:=⟨_,rfl⟩;have hMl:M.length=T.length - 3:=by rw [hM,aJG]
 obtain ⟨W,hW⟩:∃ W,W=M.takeWhile fun f=>decide (f.kind=1):=⟨_,rfl⟩;have hWM:W=M.take W.length:=by rw [hW];exact List.prefix_iff_eq_take.1 (List.takeWhile_prefix _)
 have hWl:W.length≤M.length:=by rw [hW];exact(List.takeWhile_sublist _).length_le
 have hRf:rU T=W.map GFound.text:=by rw [rU,hW,hM]
 have hg:∀ i,i≤W.length→(M.length≤i→W.length=i)∧∀ a,M[i]?=some a→(decide (a.kind=1)=true→i < W.length)∧(decide (a.kind=1)=false→W.length=i):=fun i hi=>by
  rw [hW] at hi ⊢;exact ZB hi
 refine Sr<|Dd aO<|Zz<|Sq<|aF ?_;refine bG (σ:=Nat) (fun i=>(qE s T++[(9,iv ((3+i:Nat):Int))],qH t1.text kd 0 0 ((M.take i).map GFound.text))) (fun i=>i≤W.length) (fun i=>W.length - i) 0 (aJI _) ?_ ?_
 ·exact(cY.wk (Eb<|Ea<|Eb<|Ea<|Eb<|trivial) (Hc (fB _ _)<|Ha<|Hb<|trivial) trivial)
 rintro i hi;obtain ⟨g1,g2⟩:=hg i hi;by_cases hin:3+i < T.length
 ·obtain ⟨f,hf⟩:=aX hin;have hfM:M[i]?=some f:=by rw [hM,List.getElem?_drop];exact hf
  have hif:=bZ (f:=encTok) hf;obtain ⟨g3,g4⟩:=g2 f hfM;have hlt0:decide (((3+i:Nat):Int) < ((T.map encTok).length:Int))=true:=decide_eq_true (by omega);refine Sq<|Sq ?_;refine bD (t:=89) (n:=13) (X:=decide (f.kind=1)) ?_ ?_
  ·all_goals refine Dd aD ?_
   all_goals refine Dd aD<|Dd (fK cT)<|Dd (by exact dQ.val (by exact yO rfl rfl rfl) (hlt0))<|Dm ?_
   all_goals refine Sp 82 (fun h82=>?_) fun h82=>?_
   all_goals(try(with_reducible contradiction))
   all_goals refine On aD<|On aD<|On (by exact dU rfl fZ rfl rfl (by omega) (aJC (3+i)) hif rfl)<|On (wB pR)<|On (fM isAgg3)<|On cI<|Dd dI<|Zz ?_
   all_goals(exact⟨⟨_,rfl,by rfl⟩,rfl,rfl,rfl⟩)
  refine Cn ?_ ?_<;>intro hc8
  ·have hk:=g3 hc8;have hMt:(M.take (i+1)).map GFound.text=(M.take i).map GFound.text++[f.text]:=by rw [List.take_add_one,hfM,List.map_append];rfl
   have hRl:((M.take i).map GFound.text).length=i:=by rw [aIr,aJF];omega
   refine aB<|aF<|Sq<|aU follows<|Cs (fun _ h=>fh dP h)<|Cs (fun _ h=>lh aV h)<|Cs (fun _ _=>aD)<|Cs (fun _ _=>aD)<|Cs (fun H1 hH=>by exact dU rfl fZ rfl rfl (by omega) (aJC (3+i)) hif rfl)<|Cs (fun _ _=>(wB f7))<|Cs (fun _ _=>(fM isAgg9))<|Cs (fun H1 hH=>by exact aT [encStr f.text] rfl cC rfl rfl rfl rfl rfl (by intro r hr;rw [aIu] at hr;subst hr;rfl)) ?_;refine bT (r:=⟨_,none,[_]⟩) (DStep.plain rfl (fun H1 hH=>by exact c6 (ps:=[encStr f.text]) rfl cC E4 rfl ((hH _ rfl).trans rfl) rfl rfl rfl (C5 _) rfl (by intro r hr;rw [aIu] at hr;subst hr;rfl) (m:=1) rfl (by omega) rfl (C6 ((M.take i).map GFound.text) f.text))) rfl ?_;refine Cs (fun _ h=>fh dP h) ?_;refine bT (r:=⟨_,none,[_]⟩) (DStep.plain rfl (fun H1 hH=>by exact(by exact bW rfl sizeOf46 rfl rfl rfl ((hH _ rfl).trans rfl) rfl rfl (by simp only [aIt,List.length_nil];omega) (by simp only [Zl,aQ,aG,encStr,encInt,encTok];rfl) (by simp only [Zl,aQ,aG,encStr,encInt,encTok];rfl)))) rfl ?_;refine bM<|Kr<|Rg<|Dd aD<|Dd eL<|Da ?_;refine⟨i+1,by omega,by omega,?_⟩;dsimp only;rw [hMt,aHd];exact(cY.wk (Eb<|Ea<|Eb<|Ea<|Eb<|trivial) (Hc (fB _ _)<|Ha<|Hb<|trivial) trivial)
  have hk:=g4 hc8;obtain ⟨R,hR⟩:∃ R,R=(M.take i).map GFound.text:=⟨_,rfl⟩;have hWR:rU T=R:=by rw [hRf,hWM,hk,hR]
  rw [← hR];have hmin:min (((3+i+1):Nat):Int) ((T.map encTok).length:Int)=((min ((3+i+1)) T.length:Nat):Int):=by rw [hmT];omega
  have hrl3:∀ r∈T.map encTok,r.length=3:=fun r hr=>by
   obtain ⟨f,_,rfl⟩:=List.mem_map.1 hr;rfl
  have hcut:((T.map encTok).take (T.map encTok).length).drop (min ((3+i+1)) T.length)=(T.drop ((3+i+1))).map encTok:=by
   rw [List.take_length,List.map_drop];rcases Nat.le_total ((3+i+1)) T.length with h|h
   ·rw [Nat.min_eq_left h]
   rw [Nat.min_eq_right h,List.drop_of_length_le (by rw [hmT];exact aIx _),List.drop_of_length_le (by rw [hmT];exact h)]
  have hml:min ((3+i+1)) T.length≤(T.map encTok).length:=by rw [hmT];exact Nat.min_le_right _ _
  have htg:=fun H=>DI (T.drop ((3+i+1))) H (by rw [aJG];omega);have hTG:=(show nI T=CW [] (T.drop (3+i+1))by rw [nI,aIp (fun e=>hk1 (htK.symm.trans e)),hRf,aIr,hk]);have hOT:=(show m5 T=⟨t1.text,kd,0,0,R,(nI T).1⟩by rw [m5,aIp (fun e=>hk1 (htK.symm.trans e)),d1,htK,hWR]);obtain ⟨G,hG⟩:∃ G,G=CW [] (T.drop ((3+i+1))):=⟨_,rfl⟩;rw [hOT,hTG] at hoo;rw [hOT,hTG];simp only [← hG] at htg hoo ⊢;clear hG hTG hOT;refine aZ<|Rg<|Dd aD<|Dd eL<|Dd aO<|Zz<|Sq ?_;refine iB.ent (cY.fzG (id:=906) (E':=qE s T++[(9,iv (((3+i+1):Nat):Int))]) (H':=[(7,bx 6 49 [sv (t1.text),iv (kd),iv (0),iv (0),.pv (cS (R)),.pv .nils]),(2,bx 6 49 ((aG zObj).map .pv))]) ((R).map encStr) rfl (rF _) ?_ rfl ?_ ?_) ?_
  ·intro p hp;simp only [List.cons_append,List.nil_append,aJD,aJH,or_false] at hp;rcases hp with rfl|rfl|rfl|rfl|rfl<;>exact⟨_,rfl,.same (by simp;try rfl)⟩
  ·exact⟨⟨_,rfl,rfl,rfl,rfl,tE rfl (dC (.same (by simp)) (dC (.same (by simp)) (dC (.same (by simp)) (dC (.same (by simp)) (dC (.osl (gQ encStr _)) (dC (.same (by simp)) oK))))))⟩,⟨_,rfl,rfl,rfl,rfl,iI (by simp)⟩,trivial⟩
  ·exact trivial
  refine Rg<|Dd aD<|Dd aD<|Dd aD<|Dd (fK cT)<|Dd (by exact sZ rfl rfl rfl hmin)<|Dd (by exact iY (l:=(min ((3+i+1)) T.length)) (h:=((T.map encTok).length)) rfl fZ rfl (by assumption) rfl rfl (by omega) (by omega) hcut)<|Dd (by exact aA rfl rfl aIH rfl (htg _))<|Dd aD<|Dd eZ<|Dd eZ<|Dd aO<|Dd aO<|Zz<|Sr<|Dd aD<|Dd (bH e9)<|Uu (by exact bW rfl sizeOf47 rfl rfl rfl rfl rfl rfl (by simp only [aIt,List.length_nil];omega) (by simp only [Zl,aQ,aG,encStr,encInt,encTok];rfl) (by simp only [Zl,aQ,aG,encStr,encInt,encTok];rfl))<|Zz<|Sr<|Dd (qZ aY sizeOf49)<|Dd (by exact aA rfl rfl aCT rfl (vR ⟨t1.text,kd,0,0,R,G.1⟩ _ hoo))<|Dd aD<|Dd eZ<|Dd eZ<|Dd aO<|Dd aO<|Zz<|Sq<|Sq ?_;refine bD (t:=131) (n:=13) (X:=(!G.2||!decide ((eB ⟨t1.text,kd,0,0,R,G.1⟩).2=0))||!decide ((eB ⟨t1.text,kd,0,0,R,G.1⟩).1=s)) ?_ ?_
  ·all_goals refine Dd aD ?_
   all_goals refine Dd jU<|Dm ?_
   all_goals refine Sp 123 (fun h123=>?_) fun h123=>?_
   all_goals(try(with_reducible contradiction))
   all_goals first|refine Fo<|Fo ?_|refine On aD<|On tU ?_
   all_goals refine Dd dI<|Dm ?_
   all_goals refine Sp 127 (fun h127=>?_) fun h127=>?_
   all_goals(try(with_reducible contradiction))
   all_goals first|refine Fo<|Fo<|Fo ?_|refine On aD<|On aD<|On JQ ?_
   all_goals refine Dd dI<|Zz ?_
   all_goals(exact⟨⟨_,rfl,by first|(rw [h123];rfl)|(rw [h123,h127];rfl)⟩,rfl,rfl,rfl⟩)
  refine Cn ?_ ?_<;>intro hc9
  ·have hq:=hc9;rw [aIp (fun e=>by rw [e.1,e.2] at hq;simp at hq)];refine Sr<|Dd (jG CO)<|Uu (fP sizeOf49)<|Dd aO<|Zz<|aC ?_;refine iD (H':=[]) (.inr rfl) rfl (nZ aY sizeOf49) (aN rfl) (Fin.wk (r:=.tup [av (aG zObj),iv 5]) (by simp) trivial trivial) ?_;exact Qq
  have hq:=hc9;simp only [aJN,Bool.not_eq_false',aIy] at hq;rw [aIq ⟨hq.1.1,Prod.ext hq.2 hq.1.2⟩];refine aB<|Sr<|Dd (qZ aY sizeOf49)<|Uu (fP sizeOf49)<|Dd aO<|Zz<|aC ?_;refine iD (H':=[]) (.inr rfl) rfl (nZ aY sizeOf49) (aN rfl) (Fin.wk (r:=.tup [av (aG ⟨t1.text,kd,0,0,R,G.1⟩),iv 0]) (by simp) trivial trivial) ?_;exact Qq
 have hk:=g1 (by omega);have hlt0:decide (((3+i:Nat):Int) < ((T.map encTok).length:Int))=false:=decide_eq_false (by omega);obtain ⟨R,hR⟩:∃ R,R=(M.take i).map GFound.text:=⟨_,rfl⟩;have hWR:rU T=R:=by rw [hRf,hWM,hk,hR]
 rw [← hR];refine Sq<|Sq ?_;refine bD (t:=89) (n:=13) (X:=false) ?_ ?_
 ·all_goals refine Dd aD ?_
  all_goals refine Dd aD<|Dd (fK cT)<|Dd (by exact dQ.val (by exact yO rfl rfl rfl) (hlt0))<|Dm ?_
  all_goals refine Sp 82 (fun h82=>?_) fun h82=>?_
  all_goals(try(with_reducible contradiction))
  all_goals refine Fo<|Fo<|Fo<|Fo<|Fo<|Fo<|Dd dI<|Zz ?_
  all_goals(exact⟨⟨_,rfl,by rfl⟩,rfl,rfl,rfl⟩)
 refine Cn ?_ ?_<;>intro hc10
 ·cases hc10
 have hmin:min (((3+i+1):Nat):Int) ((T.map encTok).length:Int)=((min ((3+i+1)) T.length:Nat):Int):=by rw [hmT];omega
 have hrl3:∀ r∈T.map encTok,r.length=3:=fun r hr=>by
  obtain ⟨f,_,rfl⟩:=List.mem_map.1 hr;rfl
 have hcut:((T.map encTok).take (T.map encTok).length).drop (min ((3+i+1)) T.length)=(T.drop ((3+i+1))).map encTok:=by
  rw [List.take_length,List.map_drop];rcases Nat.le_total ((3+i+1)) T.length with h|h
  ·rw [Nat.min_eq_left h]
  rw [Nat.min_eq_right h,List.drop_of_length_le (by rw [hmT];exact aIx _),List.drop_of_length_le (by rw [hmT];exact h)]
 have hml:min ((3+i+1)) T.length≤(T.map encTok).length:=by rw [hmT];exact Nat.min_le_right _ _
 have htg:=fun H=>DI (T.drop ((3+i+1))) H (by rw [aJG];omega);have hTG:=(show nI T=CW [] (T.drop (3+i+1))by rw [nI,aIp (fun e=>hk1 (htK.symm.trans e)),hRf,aIr,hk]);have hOT:=(show m5 T=⟨t1.text,kd,0,0,R,(nI T).1⟩by rw [m5,aIp (fun e=>hk1 (htK.symm.trans e)),d1,htK,hWR]);obtain ⟨G,hG⟩:∃ G,G=CW [] (T.drop ((3+i+1))):=⟨_,rfl⟩;rw [hOT,hTG] at hoo;rw [hOT,hTG];simp only [← hG] at htg hoo ⊢;clear hG hTG hOT;refine aZ<|Rg<|Dd aD<|Dd eL<|Dd aO<|Zz<|Sq ?_;refine iB.ent (cY.fzG (id:=906) (E':=qE s T++[(9,iv (((3+i+1):Nat):Int))]) (H':=[(7,bx 6 49 [sv (t1.text),iv (kd),iv (0),iv (0),.pv (cS (R)),.pv .nils]),(2,bx 6 49 ((aG zObj).map .pv))]) ((R).map encStr) rfl (rF _) ?_ rfl ?_ ?_) ?_
 ·intro p hp;simp only [List.cons_append,List.nil_append,aJD,aJH,or_false] at hp;rcases hp with rfl|rfl|rfl|rfl|rfl<;>exact⟨_,rfl,.same (by simp;try rfl)⟩
 ·exact⟨⟨_,rfl,rfl,rfl,rfl,tE rfl (dC (.same (by simp)) (dC (.same (by simp)) (dC (.same (by simp)) (dC (.same (by simp)) (dC (.osl (gQ encStr _)) (dC (.same (by simp)) oK))))))⟩,⟨_,rfl,rfl,rfl,rfl,iI (by simp)⟩,trivial⟩
 ·exact trivial
 refine Rg<|Dd aD<|Dd aD<|Dd aD<|Dd (fK cT)<|Dd (by exact sZ rfl rfl rfl hmin)<|Dd (by exact iY (l:=(min ((3+i+1)) T.length)) (h:=((T.map encTok).length)) rfl fZ rfl (by assumption) rfl rfl (by omega) (by omega) hcut)<|Dd (by exact aA rfl rfl aIH rfl (htg _))<|Dd aD<|Dd eZ<|Dd eZ<|Dd aO<|Dd aO<|Zz<|Sr<|Dd aD<|Dd (bH e9)<|Uu (by exact bW rfl sizeOf47 rfl rfl rfl rfl rfl rfl (by simp only [aIt,List.length_nil];omega) (by simp only [Zl,aQ,aG,encStr,encInt,encTok];rfl) (by simp only [Zl,aQ,aG,encStr,encInt,encTok];rfl))<|Zz<|Sr<|Dd (qZ aY sizeOf49)<|Dd (by exact aA rfl rfl aCT rfl (vR ⟨t1.text,kd,0,0,R,G.1⟩ _ hoo))<|Dd aD<|Dd eZ<|Dd eZ<|Dd aO<|Dd aO<|Zz<|Sq<|Sq ?_;refine bD (t:=131) (n:=13) (X:=(!G.2||!decide ((eB ⟨t1.text,kd,0,0,R,G.1⟩).2=0))||!decide ((eB ⟨t1.text,kd,0,0,R,G.1⟩).1=s)) ?_ ?_
 ·all_goals refine Dd aD ?_
  all_goals refine Dd jU<|Dm ?_
  all_goals refine Sp 123 (fun h123=>?_) fun h123=>?_
  all_goals(try(with_reducible contradiction))
  all_goals first|refine Fo<|Fo ?_|refine On aD<|On tU ?_
  all_goals refine Dd dI<|Dm ?_
  all_goals refine Sp 127 (fun h127=>?_) fun h127=>?_
  all_goals(try(with_reducible contradiction))
  all_goals first|refine Fo<|Fo<|Fo ?_|refine On aD<|On aD<|On JQ ?_
  all_goals refine Dd dI<|Zz ?_
  all_goals(exact⟨⟨_,rfl,by first|(rw [h123];rfl)|(rw [h123,h127];rfl)⟩,rfl,rfl,rfl⟩)
 refine Cn ?_ ?_<;>intro hc11
 ·have hq:=hc11;rw [aIp (fun e=>by rw [e.1,e.2] at hq;simp at hq)];refine Sr<|Dd (jG CO)<|Uu (fP sizeOf49)<|Dd aO<|Zz<|aC ?_;refine iD (H':=[]) (.inr rfl) rfl (nZ aY sizeOf49) (aN rfl) (Fin.wk (r:=.tup [av (aG zObj),iv 5]) (by simp) trivial trivial) ?_;exact Qq
 have hq:=hc11;simp only [aJN,Bool.not_eq_false',aIy] at hq;rw [aIq ⟨hq.1.1,Prod.ext hq.2 hq.1.2⟩];refine aB<|Sr<|Dd (qZ aY sizeOf49)<|Uu (fP sizeOf49)<|Dd aO<|Zz<|aC ?_;refine iD (H':=[]) (.inr rfl) rfl (nZ aY sizeOf49) (aN rfl) (Fin.wk (r:=.tup [av (aG ⟨t1.text,kd,0,0,R,G.1⟩),iv 0]) (by simp) trivial trivial) ?_;exact Qq
end Go.Proofs.YtlnfjkdacimblaaGreatDoor
namespace Go.Proofs.YtlnfjkdacimblaaGreatDoor
open Go.Proofs.Tryz
open Go.Abs Go.Lib
theorem aAN {rP:ByteArray→GObj} {rX:ByteArray→Int} (hP:∀ (x:ByteArray) (H:aE),x.size≤20000→aH Tryz.prog 86 [sv x] H (fun r H'=>r=.tup [av (aG (rP x)),iv (rX x)]∧H'=H)) (s:ByteArray) (H:aE) (hs:s.size≤20000) :
  aH Tryz.prog 40 [sv s] H (fun r H'=>r=av (aJ (UB rP s))∧H'=H):=by
 refine Pu ?_;have hsp:=fun H=>aAF s H (by omega);have hw0:∀ i,i < (cN s).length→((cN s).map encStr)[i]?=some (encStr (wW s i)):=fun i hi=>aEr hi;have hf0:4≤(cN s).length→(wW s 0).size+(wW s 1).size+(wW s 2).size+3≤s.size:=aFs;have hpos:0 < (cN s).length:=by rw [cN,aIr];exact m0 _ _
 rw [UB];obtain ⟨L,hL⟩:∃ L,L=cN s:=⟨_,rfl⟩;simp only [← hL] at hsp hw0 hf0 hpos ⊢;clear hL;have hml:(L.map encStr).length=L.length:=aIr _;have i0:=hw0 0 hpos;refine Bd func40 rfl ntmps40<|Sr<|Dd (by exact bJ (id:=2) rfl BA rfl rfl)<|Zz<|Sr<|Dd aD<|Dd (by exact aA rfl rfl call85 rfl (hsp _))<|Dd aO<|Zz<|Sr<|Dd aD<|Dd (fK aK)<|Dd aO<|Zz<|Sq<|Sq ?_;refine bD (t:=22) (n:=10) (X:=decide (wW s 0=⟨#[112,117,116]⟩)&&decide ((4:Int) < (s.size:Int))) ?_ ?_
 ·all_goals refine Dd aD ?_
  all_goals refine Dd (e8 cC)<|Dd (fM isAgg9)<|Dd sQ<|Dm ?_
  all_goals refine Sp 18 (fun h18=>?_) fun h18=>?_
  all_goals try contradiction
  all_goals first|refine Fo<|Fo<|Fo ?_|refine On aD<|On (jJ underlying9)<|On kC ?_
  all_goals refine Dd dI<|Zz ?_
  all_goals(exact⟨⟨_,rfl,by(simp only [*,Zo];done)⟩,rfl,rfl,rfl⟩)
 refine Cn ?_ ?_<;>intro hc1
 ·have h1:wW s 0=ofL wPut∧_:=tI hc1;rw [aIq ⟨h1.1,by omega⟩];refine Sr<|Dd aD<|Dd (by exact cW (l:=4) (h:=s.size) rfl underlying9 rfl rfl rfl (by omega) (aIx _) rfl)<|Dd (by exact aA rfl rfl call86 rfl (hP (s.extract 4 s.size) _ (Nat.le_trans (fD s 4 s.size) hs)))<|Dd aD<|Dd eZ<|Dd eZ<|Dd (by exact bJ (id:=5) rfl qU rfl rfl)<|Uu (fP sizeOf49)<|Dd aO<|Zz<|Sr<|Dd (by exact aI rfl aY sizeOf49 rfl rfl rfl rfl (by simp only [Zl,aQ,aG,encStr,aJ,encInt,encTok];rfl) rfl)<|Dd (jG pI)<|Uu (fP aL)<|Zz<|aC ?_;refine cZ (H':=[]) (.inr rfl) rfl (nZ bA aL) (Fin.wk (r:=av (aJ ⟨1,aP,aP,aP,0,0,aP,aP,[],rP (s.extract 4 s.size)⟩)) (by simp) trivial trivial) ?_;exact Qq
 have h1:¬ (wW s 0=ofL wPut∧_):=tJ hc1;rw [aIp (fun h=>h1 ⟨h.1,by omega⟩)];refine aB<|Sq<|Sq ?_;refine bD (t:=38) (n:=9) (X:=decide (wW s 0=⟨#[109,111,118,101]⟩)&&decide (((L.map encStr).length:Int)=4)) ?_ ?_
 ·all_goals refine Dd aD ?_
  all_goals refine Dd (e8 cC)<|Dd (fM isAgg9)<|Dd sQ<|Dm ?_
  all_goals refine Sp 35 (fun h35=>?_) fun h35=>?_
  all_goals try contradiction
  all_goals first|refine Fo<|Fo ?_|refine On aD<|On cI ?_
  all_goals refine Dd dI<|Zz ?_
  all_goals(exact⟨⟨_,rfl,by(simp only [*,Zo];done)⟩,rfl,rfl,rfl⟩)
 refine Cn ?_ ?_<;>intro hc2
 ·have h2:wW s 0=ofL BD∧_:=tI hc2;rw [aIq ⟨h2.1,by omega⟩];have i1:=hw0 1 (by omega);have i2:=hw0 2 (by omega);have i3:=hw0 3 (by omega);have z2:=yB s 2;have z3:=yB s 3;refine Sq<|aU follows<|Cr [] (fun _ _=>aD)<|Cr [] (fun _ _=>(e8 cC))<|Cr [] (fun _ _=>(fM isAgg9))<|Cr [] (fun _ _=>aD)<|Cr [] (fun _ _=>(e8 cC))<|Cr [] (fun _ _=>(fM isAgg9))<|Cr [] (fun H1 hH=>by exact aA rfl rfl call87 rfl (K0 (wW s 2) _ (by omega)))<|Cr [] (fun _ _=>aD)<|Cr [] (fun _ _=>(e8 cC))<|Cr [] (fun _ _=>(fM isAgg9))<|Cr [] (fun H1 hH=>by exact aA rfl rfl call87 rfl (K0 (wW s 3) _ (by omega)))<|Cr [] (fun _ _=>(jG J9))<|Cr [] (fun _ _=>(jG pI))<|Cp [2] (fun H1 hH=>by exact cV rfl aL rfl rfl rfl rfl ((hH _ rfl).trans rfl) rfl rfl rfl)<|bM<|Kr<|aC ?_;refine cZ (H':=[]) (.inr rfl) rfl (nZ bA aL) (Fin.wk (r:=av (aJ ⟨2,wW s 1,aP,aP,BR (wW s 2),BR (wW s 3),aP,aP,[],zObj⟩)) (by simp) trivial trivial) ?_;exact Qq
 have h2:¬ (wW s 0=ofL BD∧_):=tJ hc2;rw [aIp (fun h=>h2 ⟨h.1,by omega⟩)];refine aB ?_;refine gT (fun(_:Unit)=>([(0,sv s),(2,.ref 2 0 0 0),(3,.pv (cS L)),(4,iv ((L.map encStr).length:Int))],[(2,bx 15 51 ((aJ E5).map .pv))])) (fun _=>¬ ((wW s 0=ofL uG∧4≤L.length)∧AF s=true)) ?_ ?_
 ·refine Sq ?_;refine bD (t:=59) (n:=9) (X:=decide (wW s 0=⟨#[116,97,103]⟩)&&decide ((4:Int)≤((L.map encStr).length:Int))) ?_ ?_
  ·all_goals refine Dd aD ?_
   all_goals refine Dd (e8 cC)<|Dd (fM isAgg9)<|Dd sQ<|Dm ?_
   all_goals refine Sp 56 (fun h56=>?_) fun h56=>?_
   all_goals(try(with_reducible contradiction))
   all_goals first|refine Fo<|Fo ?_|refine On aD<|On wP ?_
   all_goals refine Dd dI<|Zz ?_
   all_goals(exact⟨⟨_,rfl,by(simp only [*,Zo];done)⟩,rfl,rfl,rfl⟩)
  refine Cn ?_ ?_<;>intro hc3
  ·have h3:wW s 0=ofL uG∧_:=tI hc3;have i1:=hw0 1 (by omega);have i2:=hw0 2 (by omega);have z0:=yB s 0;have z1:=yB s 1;have z2:=yB s 2;have hf3:=hf0 (by omega);have hrs:(j6 s).size≤s.size:=fD s _ _;have hlx:=fun H=>UR (j6 s) H (by omega);have hto:AF s=((decide ((eP (j6 s)).2.1=0)&&decide ((eP (j6 s)).1.length=1))&&decide (((eP (j6 s)).1.getD 0 AM).kind=3)):=rfl;obtain ⟨R,hR⟩:∃ R,R=j6 s:=⟨_,rfl⟩;have hRx:s.extract ((wW s 0).size+(wW s 1).size+(wW s 2).size+3) s.size=R:=by rw [hR];rfl
   rw [← hR] at hlx hto;obtain ⟨T,hT⟩:∃ T,T=(eP R).1:=⟨_,rfl⟩;obtain ⟨er,her⟩:∃ e,e=(eP R).2.1:=⟨_,rfl⟩;obtain ⟨pp,hpp⟩:∃ e,e=(eP R).2.2:=⟨_,rfl⟩;have hTr:T=(eP (j6 s)).1:=by rw [hT,hR]
   simp only [← hT,← her,← hpp] at hlx hto;clear hT her hpp hR;have hmT:(T.map encTok).length=T.length:=aIr _;clear h1 h2;by_cases hone:T.length=1
   ·obtain ⟨t,ht⟩:=List.length_eq_one_iff.1 hone;have hi0:(T.map encTok)[0]?=some [.int .i64 t.kind,.str t.text,.int .i64 t.pos]:=by rw [ht];rfl
    have hg0:T.getD 0 AM=t:=by rw [ht];rfl
    rw [hg0,decide_eq_true hone,Bool.and_true] at hto;have hon2:decide (((T.map encTok).length:Int)=1)=true:=decide_eq_true (by omega);refine Sq<|aU follows<|Cq aD<|Cq aD<|Cq (e8 cC)<|Cq (fM isAgg9)<|Cq (jJ underlying9)<|Cq aD<|Cq (e8 cC)<|Cq (fM isAgg9)<|Cq (jJ underlying9)<|Cq eL<|Cq aD<|Cq (e8 cC)<|Cq (fM isAgg9)<|Cq (jJ underlying9)<|Cq eL<|Cq eL<|Cq (by exact cW (l:=(wW s 0).size+(wW s 1).size+(wW s 2).size+3) (h:=s.size) rfl underlying9 rfl rfl rfl hf3 (aIx _) hRx)<|Cq (by exact aA rfl rfl aI8 rfl (hlx _))<|Cq aD<|Cq eZ<|Cq eZ<|Cq eZ<|Cq aO<|Cq aO<|Cq aO<|bM<|Kr<|Sq ?_;refine bD (t:=95) (n:=16) (X:=decide (er=0)&&decide (t.kind=3)) ?_ ?_
    ·all_goals refine Dd aD ?_
     all_goals refine Dd cI<|Dm ?_
     all_goals refine Sp 84 (fun h84=>?_) fun h84=>?_
     all_goals(try(with_reducible contradiction))
     all_goals first|refine Fo<|Fo<|Fo ?_|refine On aD<|On (fK cT)<|On (by exact dQ.val (by exact M8 rfl rfl rfl) (hon2)) ?_
     all_goals refine Dd dI<|Dm ?_
     all_goals refine Sp 89 (fun h89=>?_) fun h89=>?_
     all_goals(try(with_reducible contradiction))
     all_goals first|refine Fo<|Fo<|Fo<|Fo<|Fo ?_|refine On aD<|On (by exact dU rfl fZ rfl rfl (by omega) (show (0:Int).toNat=0 from rfl) hi0 rfl)<|On (wB pR)<|On (fM isAgg3)<|On cI ?_
     all_goals refine Dd dI<|Zz ?_
     all_goals(exact⟨⟨_,rfl,by(simp only [*,Zo];done)⟩,rfl,rfl,rfl⟩)
    refine Cn ?_ ?_<;>intro hc4
    ·have hq:AF s=true:=hto.trans hc4;rw [aIq ⟨⟨h3.1,by omega⟩,hq⟩,← hTr,hg0];refine Sq<|aU follows<|Cr [] (fun _ _=>aD)<|Cr [] (fun H1 hH=>by exact dU rfl cC rfl rfl (by omega) (show (1:Int).toNat=1 from rfl) i1 rfl)<|Cr [] (fun _ _=>(fM isAgg9))<|Cr [] (fun _ _=>aD)<|Cr [] (fun H1 hH=>by exact dU rfl cC rfl rfl (by omega) (show (2:Int).toNat=2 from rfl) i2 rfl)<|Cr [] (fun _ _=>(fM isAgg9))<|Cr [] (fun _ _=>aD)<|Cr [] (fun H1 hH=>by exact dU rfl fZ rfl rfl (by omega) (show (0:Int).toNat=0 from rfl) hi0 rfl)<|Cr [] (fun _ _=>(wB f7))<|Cr [] (fun _ _=>(fM isAgg9))<|Cr [] (fun _ _=>(jG pI))<|Cp [2] (fun H1 hH=>by exact cV rfl aL rfl rfl rfl rfl ((hH _ rfl).trans rfl) rfl rfl rfl)<|bM<|Kr<|aC ?_;refine cZ (H':=[]) (.inr rfl) rfl (nZ bA aL) (Fin.wk (r:=av (aJ ⟨3,wW s 1,aP,aP,0,0,wW s 2,t.text,[],zObj⟩)) (by simp) trivial trivial) ?_;exact Qq
    have hq:AF s=false:=hto.trans hc4;refine aB ?_;exact⟨(),(fun h=>by have:=h.2;rw [hq] at this;cases this),Wk⟩
   have hon2:decide (((T.map encTok).length:Int)=1)=false:=decide_eq_false (by omega);rw [decide_eq_false hone,Bool.and_false,Bool.false_and] at hto;refine Sq<|aU follows<|Cq aD<|Cq aD<|Cq (e8 cC)<|Cq (fM isAgg9)<|Cq (jJ underlying9)<|Cq aD<|Cq (e8 cC)<|Cq (fM isAgg9)<|Cq (jJ underlying9)<|Cq eL<|Cq aD<|Cq (e8 cC)<|Cq (fM isAgg9)<|Cq (jJ underlying9)<|Cq eL<|Cq eL<|Cq (by exact cW (l:=(wW s 0).size+(wW s 1).size+(wW s 2).size+3) (h:=s.size) rfl underlying9 rfl rfl rfl hf3 (aIx _) hRx)<|Cq (by exact aA rfl rfl aI8 rfl (hlx _))<|Cq aD<|Cq eZ<|Cq eZ<|Cq eZ<|Cq aO<|Cq aO<|Cq aO<|bM<|Kr<|Sq ?_;refine bD (t:=95) (n:=16) (X:=false) ?_ ?_
   ·all_goals refine Dd aD ?_
    all_goals refine Dd cI<|Dm ?_
    all_goals refine Sp 84 (fun h84=>?_) fun h84=>?_
    all_goals(try(with_reducible contradiction))
    all_goals first|refine Fo<|Fo<|Fo ?_|refine On aD<|On (fK cT)<|On (by exact dQ.val (by exact M8 rfl rfl rfl) (hon2)) ?_
    all_goals refine Dd dI<|Dm ?_
    all_goals refine Sp 89 (fun h89=>?_) fun h89=>?_
    all_goals(try(with_reducible contradiction))
    all_goals refine Fo<|Fo<|Fo<|Fo<|Fo<|Dd dI<|Zz ?_
    all_goals(exact⟨⟨_,rfl,by rfl⟩,rfl,rfl,rfl⟩)
   refine Cn ?_ ?_<;>intro hc5
   ·cases hc5
   refine aB ?_;exact⟨(),(fun h=>by have:=h.2;rw [hto] at this;cases this),Wk⟩
  have h3:¬ (wW s 0=ofL uG∧_):=tJ hc3;refine aB ?_;exact⟨(),(fun h=>h3 ⟨h.1.1,by omega⟩),Wk⟩
 rintro _ hno;rw [aIp hno];clear h1 h2 hno;refine Sq<|Sq ?_;refine bD (t:=114) (n:=9) (X:=decide (wW s 0=⟨#[114,101,102,115]⟩)&&decide ((2:Int)≤((L.map encStr).length:Int))) ?_ ?_
 ·all_goals refine Dd aD ?_
  all_goals refine Dd (e8 cC)<|Dd (fM isAgg9)<|Dd sQ<|Dm ?_
  all_goals refine Sp 111 (fun h111=>?_) fun h111=>?_
  all_goals(try(with_reducible contradiction))
  all_goals first|refine Fo<|Fo ?_|refine On aD<|On wP ?_
  all_goals refine Dd dI<|Zz ?_
  all_goals(exact⟨⟨_,rfl,by(simp only [*,Zo];done)⟩,rfl,rfl,rfl⟩)
 refine Cn ?_ ?_<;>intro hc6
 ·have h4:wW s 0=ofL BC∧_:=tI hc6;rw [aIq ⟨h4.1,by omega⟩];have i1:=hw0 1 (by omega);refine Sq<|aU follows<|Cr [] (fun _ _=>aD)<|Cr [] (fun _ _=>(e8 cC))<|Cr [] (fun _ _=>(fM isAgg9))<|Cr [] (fun _ _=>aD)<|Cr [] (fun H1 hH=>by exact iY (l:=2) (h:=(L.map encStr).length) (rows':=(L.drop 2).map encStr) rfl cC rfl (AX _) rfl rfl (by omega) (aIx _) (by rw [List.take_length];exact List.map_drop.symm))<|Cr [] (fun _ _=>(jG pI))<|Cp [2] (fun H1 hH=>by exact cV rfl aL rfl rfl rfl rfl ((hH _ rfl).trans rfl) rfl rfl rfl)<|bM<|Kr<|aC ?_;refine cZ (H':=[]) (.inr rfl) rfl (nZ bA aL) (Fin.wk (r:=av (aJ ⟨4,wW s 1,aP,aP,0,0,aP,aP,L.drop 2,zObj⟩)) (by simp) trivial trivial) ?_;exact Qq
 have h4:¬ (wW s 0=ofL BC∧_):=tJ hc6;rw [aIp (fun h=>h4 ⟨h.1,by omega⟩)];refine aB<|Sq<|Sq ?_;refine bD (t:=128) (n:=9) (X:=decide (wW s 0=⟨#[100,114,111,112]⟩)&&decide (((L.map encStr).length:Int)=2)) ?_ ?_
 ·all_goals refine Dd aD ?_
  all_goals refine Dd (e8 cC)<|Dd (fM isAgg9)<|Dd sQ<|Dm ?_
  all_goals refine Sp 125 (fun h125=>?_) fun h125=>?_
  all_goals(try(with_reducible contradiction))
  all_goals first|refine Fo<|Fo ?_|refine On aD<|On cI ?_
  all_goals refine Dd dI<|Zz ?_
  all_goals(exact⟨⟨_,rfl,by(simp only [*,Zo];done)⟩,rfl,rfl,rfl⟩)
 refine Cn ?_ ?_<;>intro hc7
 ·have h5:wW s 0=ofL BF∧_:=tI hc7;rw [aIq ⟨h5.1,by omega⟩];have i1:=hw0 1 (by omega);refine Sr<|Dd aD<|Dd (e8 cC)<|Dd (fM isAgg9)<|Dd (jG pI)<|Uu (fP aL)<|Zz<|aC ?_;refine cZ (H':=[]) (.inr rfl) rfl (nZ bA aL) (Fin.wk (r:=av (aJ ⟨5,wW s 1,aP,aP,0,0,aP,aP,[],zObj⟩)) (by simp) trivial trivial) ?_;exact Qq
 have h5:¬ (wW s 0=ofL BF∧_):=tJ hc7;rw [aIp (fun h=>h5 ⟨h.1,by omega⟩)];refine aB<|Sq<|Sq ?_;refine bD (t:=140) (n:=9) (X:=decide (wW s 0=⟨#[115,112,108,105,116]⟩)&&decide (((L.map encStr).length:Int)=4)) ?_ ?_
 ·all_goals refine Dd aD ?_
  all_goals refine Dd (e8 cC)<|Dd (fM isAgg9)<|Dd sQ<|Dm ?_
  all_goals refine Sp 137 (fun h137=>?_) fun h137=>?_
  all_goals(try(with_reducible contradiction))
  all_goals first|refine Fo<|Fo ?_|refine On aD<|On cI ?_
  all_goals refine Dd dI<|Zz ?_
  all_goals(exact⟨⟨_,rfl,by(simp only [*,Zo];done)⟩,rfl,rfl,rfl⟩)
 refine Cn ?_ ?_<;>intro hc8
 ·have h6:wW s 0=ofL vD∧_:=tI hc8;rw [aIq ⟨h6.1,by omega⟩];have i1:=hw0 1 (by omega);have i2:=hw0 2 (by omega);have i3:=hw0 3 (by omega);refine Sq<|aU follows<|Cr [] (fun _ _=>aD)<|Cr [] (fun _ _=>(e8 cC))<|Cr [] (fun _ _=>(fM isAgg9))<|Cr [] (fun _ _=>aD)<|Cr [] (fun _ _=>(e8 cC))<|Cr [] (fun _ _=>(fM isAgg9))<|Cr [] (fun _ _=>aD)<|Cr [] (fun _ _=>(e8 cC))<|Cr [] (fun _ _=>(fM isAgg9))<|Cr [] (fun _ _=>(jG pI))<|Cp [2] (fun H1 hH=>by exact cV rfl aL rfl rfl rfl rfl ((hH _ rfl).trans rfl) rfl rfl rfl)<|bM<|Kr<|aC ?_;refine cZ (H':=[]) (.inr rfl) rfl (nZ bA aL) (Fin.wk (r:=av (aJ ⟨6,wW s 1,wW s 3,wW s 2,0,0,aP,aP,[],zObj⟩)) (by simp) trivial trivial) ?_;exact Qq
 have h6:¬ (wW s 0=ofL vD∧_):=tJ hc8;rw [aIp (fun h=>h6 ⟨h.1,by omega⟩)];refine aB<|Sq<|Sq ?_;refine bD (t:=158) (n:=9) (X:=decide (wW s 0=⟨#[106,111,105,110]⟩)&&decide (((L.map encStr).length:Int)=3)) ?_ ?_
 ·all_goals refine Dd aD ?_
  all_goals refine Dd (e8 cC)<|Dd (fM isAgg9)<|Dd sQ<|Dm ?_
  all_goals refine Sp 155 (fun h155=>?_) fun h155=>?_
  all_goals(try(with_reducible contradiction))
  all_goals first|refine Fo<|Fo ?_|refine On aD<|On cI ?_
  all_goals refine Dd dI<|Zz ?_
  all_goals(exact⟨⟨_,rfl,by(simp only [*,Zo];done)⟩,rfl,rfl,rfl⟩)
 refine Cn ?_ ?_<;>intro hc9
 ·have h7:wW s 0=ofL BE∧_:=tI hc9;rw [aIq ⟨h7.1,by omega⟩];have i1:=hw0 1 (by omega);have i2:=hw0 2 (by omega);refine Sq<|aU follows<|Cr [] (fun _ _=>aD)<|Cr [] (fun _ _=>(e8 cC))<|Cr [] (fun _ _=>(fM isAgg9))<|Cr [] (fun _ _=>aD)<|Cr [] (fun _ _=>(e8 cC))<|Cr [] (fun _ _=>(fM isAgg9))<|Cr [] (fun _ _=>(jG pI))<|Cp [2] (fun H1 hH=>by exact cV rfl aL rfl rfl rfl rfl ((hH _ rfl).trans rfl) rfl rfl rfl)<|bM<|Kr<|aC ?_;refine cZ (H':=[]) (.inr rfl) rfl (nZ bA aL) (Fin.wk (r:=av (aJ ⟨7,wW s 1,wW s 2,aP,0,0,aP,aP,[],zObj⟩)) (by simp) trivial trivial) ?_;exact Qq
 have h7:¬ (wW s 0=ofL BE∧_):=tJ hc9;rw [aIp (fun h=>h7 ⟨h.1,by omega⟩)];refine aB<|Sr<|Dd (jG pI)<|Uu (fP aL)<|Zz<|aC ?_;refine cZ (H':=[]) (.inr rfl) rfl (nZ bA aL) (Fin.wk (r:=av (aJ E5)) (by simp) trivial trivial) ?_;exact Qq
end Go.Proofs.YtlnfjkdacimblaaGreatDoor
namespace Go.Proofs.YtlnfjkdacimblaaGreatDoor
open Go.Proofs.Tryz
open Go.Abs
theorem K6 (t:ByteArray):∀ e∈(jC t).1,tQ e:=by
 intro e he;rw [jC] at he
 split at he
 ·cases he
 next hs =>
 split at he
 ·have he:e∈(kB t.data.toList).map fun s=>i8 (Lib.trimSuffix s [10]):=he;rw [← HX,DU] at he;obtain ⟨k,hk,rfl⟩:=List.mem_map.1 he;have:=xP (t:=t) (k:=k) (by have:=List.mem_range.1 hk;omega);exact LT (by rw [bC];omega)
 cases he
theorem SD (t:ByteArray):(jC t).1.length≤20000:=by
 rw [jC]
 split
 ·exact aJI _
 next hs =>
 split
 ·show ((kB t.data.toList).map fun s=>i8 (Lib.trimSuffix s [10])).length≤_;rw [← HX,HW];exact DV (by omega)
 exact aJI _
theorem aFV {l:List GEdit} (h:MI 1048576 l):okU l:=fun e he=>⟨aF1 (by decide) (h.2 e he),by
 have h1:=(h.2 e he).2.2.2.2.2.2.2.2.1.1;have h2:=(h.2 e he).2.2.2.2.2.2.2.2.2.2.2.2.2.1.1;omega⟩
theorem R5 (t:ByteArray) (H:aE) (ht:t.size < 1000000000):aH Tryz.prog 14 [sv t] H (fun r H'=>r=.tup [.pv (cD (jC t).1),iv (jC t).2]∧H'=H):=by
 have h:=WG (rE:=UB fun s=>(rPO s).1) (fun x hx=>aFN (fun y hy=>aFM (by omega)) hx) (fun x H hx=>aAN (rP:=fun s=>(rPO s).1) (rX:=fun s=>(rPO s).2) (fun x H hx=>R8 x H hx) x H hx) t H ht
 rwa [aFm (fun e hv he=>R6 (fun o ho=>by rw [aAI ho]) hv he)] at h
theorem aG3 {l:List GEdit} (h:MI 1048576 l):∀ e∈l,e.refs.length+e.obj.refs.length < 1000000000:=fun e he=>by
 have h1:=(h.2 e he).2.2.2.2.2.2.2.2.1.1;have h2:=(h.2 e he).2.2.2.2.2.2.2.2.2.2.2.2.2.1.1;omega
theorem VR (l:List GEdit):(gS l).length≤l.length∧∀ g∈gS l,g.length≤l.length:=by
 rw [gS]
 split
 ·refine⟨?_,fun g hg=>?_⟩
  ·rw [i7,aIr,lR];have:=List.length_filter_le (fun i=>decide (top (uI l) i=i)) (List.range l.length)
   rwa [List.length_range] at this
  obtain ⟨r,_,rfl⟩:=List.mem_map.1 hg;rw [FF];have:=List.length_filter_le (fun j=>decide (top (uI l) j=r)) (List.range l.length)
  rwa [List.length_range] at this
 exact⟨aJI _,fun g hg=>by cases hg⟩
theorem FK (l:List GEdit) (t:ByteArray) (H:aE) (hU:okU l) (hr:∀ e∈l,e.refs.length+e.obj.refs.length < 1000000000) (hl:l.length < 1000000000) (ht:t.size < 1000000000) :
  aH Tryz.prog 3 [.pv (cD l),sv t] H (fun r H'=>r=bv true∧H'=H):=by
 refine Pu ?_;have hle:∀ e∈l,tQ e:=fun e he=>(hU e he).1;have hrr:∀ e∈l,e.refs.length < 1099511627776:=fun e he=>by have:=hr e he;omega
 have hT:=fun H=>FT l H (by omega) hle;have hT2:=fun H=>O8 l H (by omega) hle hrr;have hP:=fun H=>PG t H (by omega);have hP2:=fun H=>R5 t H ht;have hA:=fun H=>VG (jC t).1 (jC t).1 H (by have:=SD t;omega) (K6 t) (K6 t);have hV:=fun H=>pT l H (by omega) hle;have hV2:=fun H=>DL l H (by omega) hle hrr;have hUn:=fun H=>MH l hU (by omega) H;have hUn2:=fun H=>aAE l H (fun e he=>⟨hle e he,hr e he⟩) hl;have hul:=VR l;have hLs:=fun H=>aD3 (gS l) H (by omega) (fun g hg=>by have:=hul.2 g hg;omega);obtain ⟨x,hx⟩:∃ x,x=eJ l:=⟨_,rfl⟩;obtain ⟨y,hy⟩:∃ y,y=jC t:=⟨_,rfl⟩;obtain ⟨U,hUe⟩:∃ y,y=gS l:=⟨_,rfl⟩;obtain ⟨v,hv⟩:∃ y,y=eW l:=⟨_,rfl⟩;simp only [← hx] at hT hT2;simp only [← hy,decide_true] at hP hP2 hA;simp only [← hUe] at hUn hUn2 hLs;simp only [← hv] at hV hV2;clear hx hy hUe hv hul;refine Bd func3 rfl ntmps3<|Sr<|Dd aO<|Zz<|Sr<|Dd (by exact aA rfl rfl call9 rfl (aBQ _))<|Dd aO<|Zz<|Sq<|Sq ?_;refine bD (t:=22) (n:=9) (X:=!U4 l 30||decide (6000 < (t.size:Int))) ?_ ?_
 ·all_goals refine Dd aD ?_
  all_goals refine Dd (by exact aA rfl rfl call10 rfl (aDp l 30 _ (by omega) (fun e h=>aA8 (hle e h))))<|Dd jU<|Dm ?_
  all_goals refine Sp 18 (fun h18=>?_) fun h18=>?_
  all_goals try contradiction
  all_goals first|refine Fo<|Fo<|Fo ?_|refine On aD<|On (jJ underlying9)<|On kC ?_
  all_goals refine Dd dI<|Zz ?_
  all_goals(exact⟨⟨_,rfl,by(simp_all;done)⟩,rfl,rfl,rfl⟩)
 refine Cn ?_ ?_<;>intro hc1
 ·exact Sr<|Dd aD<|Dd aO<|Zz<|aC<|Rt<|Qq
 refine aB<|Sr<|Dd aD<|Dd (by exact aA rfl rfl aCZ rfl (hT _))<|Dd aD<|Dd eZ<|Dd eZ<|Dd aO<|Dd aO<|Zz<|Sr<|Dd aD<|Dd (by exact aA rfl rfl call12 rfl (hT2 _))<|Dd aD<|Dd eZ<|Dd eZ<|Dd aO<|Dd aO<|Zz<|Sr<|Dd aD<|Dd (by exact aA rfl rfl call13 rfl (hP _))<|Dd aD<|Dd eZ<|Dd eZ<|Dd aO<|Dd aO<|Zz<|Sr<|Dd aD<|Dd (by exact aA rfl rfl call14 rfl (hP2 _))<|Dd aD<|Dd eZ<|Dd eZ<|Dd aO<|Dd aO<|Zz<|Sq ?_;refine bD (t:=4) (n:=42) (X:=true) ?_ ?_
 ·all_goals refine Dd aD ?_
  all_goals refine Dm ?_
  all_goals refine Sp 45 (fun h45=>?_) fun h45=>?_
  all_goals try contradiction
  all_goals refine On aD<|On (by exact aA rfl rfl aCY rfl (hV _))<|On aD<|On (by exact aA rfl rfl aIg rfl (hV2 _))<|On (by exact aA0 rfl FO rfl rfl)<|Dd dI<|Dm ?_
  all_goals refine Sp 52 (fun h52=>?_) fun h52=>?_
  all_goals try contradiction
  all_goals first|refine Fo<|Fo<|Fo ?_|refine On aD<|On aD<|On sQ ?_
  all_goals refine Dd dI<|Dm ?_
  all_goals refine Sp 57 (fun h57=>?_) fun h57=>?_
  all_goals try contradiction
  all_goals first|refine Fo<|Fo<|Fo ?_|refine On aD<|On aD<|On cI ?_
  all_goals refine Dd dI<|Dm ?_
  all_goals refine Sp 62 (fun h62=>?_) fun h62=>?_
  all_goals try contradiction
  all_goals first|refine Fo<|Fo<|Fo ?_|refine On aD<|On aD<|On (by exact aA rfl rfl call17 rfl (hA _)) ?_
  all_goals refine Dd dI<|Dm ?_
  all_goals refine Sp 67 (fun h67=>?_) fun h67=>?_
  all_goals try contradiction
  all_goals first|refine Fo<|Fo<|Fo ?_|refine On aD<|On aD<|On cI ?_
  all_goals refine Dd dI<|Dm ?_
  all_goals refine Sp 72 (fun h72=>?_) fun h72=>?_
  all_goals try contradiction
  all_goals first|refine Fo<|Fo<|Fo<|Fo<|Fo ?_|refine On aD<|On (by exact aA rfl rfl aIf rfl (hUn _))<|On aD<|On (by exact aA rfl rfl call20 rfl (hUn2 _))<|On (by exact aA rfl rfl call18 rfl (hLs _)) ?_
  all_goals refine Dd dI<|Da ?_
  all_goals(exact⟨⟨_,rfl,by first|rfl|(simp_all;done)⟩,rfl,rfl,rfl⟩)
 exact aC<|Rt<|Qq
end Go.Proofs.YtlnfjkdacimblaaGreatDoor
