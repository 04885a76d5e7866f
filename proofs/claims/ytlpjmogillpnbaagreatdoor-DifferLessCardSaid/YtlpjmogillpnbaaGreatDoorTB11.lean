/- Lemmas for the proof. No condition. -/
import Derived.Test.YtlpjmogillpnbaaGreatDoorTB10
import Derived.ControlIn
set_option linter.unusedVariables false
set_option linter.unusedSimpArgs false
set_option maxRecDepth 100000
set_option maxHeartbeats 16000000
open Go.Ending renaming returned → ah
open Go.Value renaming int → Z, tuple → aD
open Nat renaming add_assoc → jr, add_mul → bX, add_zero → eO, div_add_mod → bP, div_eq_of_lt → dS, div_lt_iff_lt_mul → bK, eq_zero_or_pos → aS, le_of_lt → jL, le_refl → aI, le_trans → aB, lt_of_le_of_lt → gB, lt_of_lt_of_le → aL, lt_or_ge → aO, mod_lt → dV, mul_add → aU, mul_assoc → bL, mul_comm → aJ, mul_le_mul → dJ, mul_le_mul_left → aK, mul_le_mul_right → aX, mul_pos → gH, pow_add → d9, pow_le_pow_right → bE, pow_succ → bF, zero_add → dw
namespace Go.Num
def R3 (k:Nat):Nat→Nat→Nat
 | 0,_=>0
 | f+1,n=>if (2*R3 k f (n / 2^k)+1)^k≤n then 2*R3 k f (n / 2^k)+1 else 2*R3 k f (n / 2^k)
def eH (k n:Nat):Nat:=R3 k (n.log2 / k+1) n
theorem Dq {k:Nat} (hk:0<k):∀ f n,n<2^(k*f)→R3 k f n^k≤n∧n<(R3 k f n+1)^k
 | 0,n,h=>by
  have:n=0:=by simpa using h
  subst this;refine ⟨?_,?_⟩
  ·show 0^k≤0
   rw [Nat.zero_pow hk];omega
  ·show 0<(0+1)^k
   simp
 | f+1,n,h=>by
  have hp:0<2^k:=Nat.pow_pos zo
  have h1:n / 2^k<2^(k*f):=by
   rw [bK hp,← d9];rw [aU] at h
   simpa using h
  obtain ⟨a,b⟩:=Dq hk f _ h1;unfold R3;generalize R3 k f (n / 2^k)=r at *
  have e:(2*r)^k≤n:=by
   rw [Nat.mul_pow];have:=aK (2^k) a;have:=Nat.mul_div_le n (2^k);omega
  have e2:n<(2*r+1+1)^k:=by
   have h2:n<2^k*(n / 2^k+1):=by
    have:=Nat.lt_mul_div_succ n hp;exact this
   have h3:=aK (2^k) b;rw [show 2*r+1+1=2*(r+1) by omega,Nat.mul_pow];exact aL h2 h3
  split
  ·rename_i h4;exact ⟨h4,e2⟩
  ·rename_i h4;exact ⟨e,by omega⟩
theorem kS {k:Nat} (hk:0<k) (n:Nat):eH k n^k≤n∧n<(eH k n+1)^k:=by
 refine Dq hk _ _ ?_;refine aL (Nat.lt_log2_self (n:=n)) (bE zo ?_);have:=Nat.lt_mul_div_succ n.log2 hk;omega
theorem Dr {k n r:Nat} (hk:0<k) (h:n<(r+1)^k):eH k n≤r:=by
 obtain ⟨a,b⟩:=kS hk n
 have c:eH k n<r+1:=by
  refine Nat.lt_of_not_le fun h=>?_;have:=Nat.pow_le_pow_left h k;omega
 omega
theorem tO {k n r:Nat} (hk:0<k) (h:r^k≤n):r≤eH k n:=by
 obtain ⟨a,b⟩:=kS hk n
 have c:r<eH k n+1:=by
  refine Nat.lt_of_not_le fun h=>?_;have:=Nat.pow_le_pow_left h k;omega
 omega
theorem XD (r x k:Nat):r^k*x+r*x^k≤x^(k+1)+r^(k+1):=by
 rw [bF,bF]
 rcases Nat.le_total r x with h|h
 ·have hk:=Nat.pow_le_pow_left h k;obtain ⟨d,rfl⟩:=Nat.exists_eq_add_of_le h;obtain ⟨e,he⟩:=Nat.exists_eq_add_of_le hk;rw [he];generalize r^k=a;have:(a+e)*(r+d)+a*r=a*(r+d)+r*(a+e)+e*d:=by grind
  omega
 ·have hk:=Nat.pow_le_pow_left h k;obtain ⟨d,rfl⟩:=Nat.exists_eq_add_of_le h;obtain ⟨e,he⟩:=Nat.exists_eq_add_of_le hk;rw [he];generalize x^k=a;have:a*x+(a+e)*(x+d)=(a+e)*x+(x+d)*a+e*d:=by grind
  omega
theorem means (r x:Nat):∀ k,(k+1)*r*x^k≤k*x^(k+1)+r^(k+1)
 | 0=>by simp
 | k+1=>by
  have ih:=aX x (means r x k);have h:=XD r x (k+1);have e1:(k+1+1)*r*x^(k+1)=(k+1)*r*x^k*x+r*x^(k+1):=by rw [bF];grind
  have e2:(k+1)*x^(k+1+1)=k*x^(k+1)*x+x^(k+1+1):=by rw [bF x (k+1)];grind
  have e3:(k*x^(k+1)+r^(k+1))*x=k*x^(k+1)*x+r^(k+1)*x:=by rw [bX]
  omega
def F7 (k m x:Nat):Nat:=(x*(k - 1)+m / x^(k - 1)) / k
theorem Ql {k m x:Nat} (hk:0<k) (hx:0<x):eH k m≤F7 k m x:=by
 obtain ⟨a, -⟩:=kS hk m;generalize eH k m=r at *;obtain ⟨j,rfl⟩:=Nat.exists_eq_add_of_le' hk;unfold F7;rw [Nat.add_sub_cancel];rw [Nat.le_div_iff_mul_le zo];replace a:r^(j+1)≤m:=a
 show r*(j+1)≤_
 have hm:=means r x j;have hp:0<x^j:=Nat.pow_pos hx
 have h1:r*(j+1) - x*j≤m / x^j:=by
  rw [Nat.le_div_iff_mul_le hp,Nat.sub_mul];have e1:(j+1)*r*x^j=r*(j+1)*x^j:=by rw [aJ (j+1)]
  have e2:j*x^(j+1)=x*j*x^j:=by rw [bF];grind
  omega
 omega
theorem MP {k m x:Nat} (hk:0<k) (hx:0<x) (h1:eH k m≤x) (h2:x≤F7 k m x):x=eH k m:=by
 obtain ⟨j,rfl⟩:=Nat.exists_eq_add_of_le' hk;unfold F7 at h2;rw [Nat.add_sub_cancel] at h2;rw [Nat.le_div_iff_mul_le zo] at h2;have hp:0<x^j:=Nat.pow_pos hx;have h3:x≤m / x^j:=by rw [Nat.mul_succ] at h2;omega
 rw [Nat.le_div_iff_mul_le hp] at h3;have h4:x^(j+1)≤m:=by rw [bF,aJ];exact h3
 have:=tO hk h4;omega
theorem F6 {k m l:Nat} (hk:0<k) (h:m<10^l):eH k m≤10^(l / k+1):=by
 refine Dr hk ?_;have h1:(10^(l / k+1))^k≤(10^(l / k+1)+1)^k:=Nat.pow_le_pow_left zo k;rw [← Nat.pow_mul] at h1
 have h2:10^l≤10^((l / k+1)*k):=bE zo (by
  have:=Nat.lt_mul_div_succ l hk;rw [aJ];omega)
 omega
end Go.Num
namespace Go.Num
def jC (n p q:Nat):Nat:=n^p*10^(12*q) / 10^(12*p)
def uS (n p q:Nat):Nat:=eH q (jC n p q)
def JH (n p q:Nat):Bool:=decide (uS n p q^q*10^(12*p)=n^p*10^(12*q))
def phi (n p q:Nat):Nat:=if JH n p q then uS n p q else uS n p q+1
theorem oQ (k:Nat):0<10^k:=Nat.pow_pos zo
theorem CQ {n p q:Nat} (h:p≤q):jC n p q=n^p*10^(12*(q - p)):=by
 unfold jC;rw [show 12*q=12*(q - p)+12*p by omega,d9,← bL,Nat.mul_div_cancel _ (oQ _)]
theorem CS {n p q:Nat} (h:q≤p):jC n p q=n^p / 10^(12*(p - q)):=by
 unfold jC;rw [show 12*p=12*(p - q)+12*q by omega,d9,Nat.mul_div_mul_right _ _ (oQ _)]
theorem Ni {n p q x:Nat}:x≤jC n p q↔x*10^(12*p)≤n^p*10^(12*q):=by
 unfold jC;exact Nat.le_div_iff_mul_le (oQ _)
theorem TJ {n p q r:Nat} (hq:0<q) (h:r^q*10^(12*p)≤n^p*10^(12*q)):r≤uS n p q:=tO hq (Ni.2 h)
theorem Py {B k:Nat} (h:B=10^k) (b:Nat):10^(k+b)=B*10^b:=by rw [h,d9]
theorem P6 {n p q:Nat} (hq:0<q) (p36:p≤36) (RS:q≤12) (h:10^600≤n^p):10^18<uS n p q:=by
 obtain ⟨B,eB⟩:∃ B,B=10^600:=⟨_,rfl⟩;rw [← eB] at h;refine TJ hq ?_
 have h1:(10^18+1)^q≤2^q*10^(18*q):=by
  rw [Nat.pow_mul,← Nat.mul_pow];exact Nat.pow_le_pow_left zd q
 have h2:2^q≤2^12:=bE zo RS;have h3:2^12≤10^4:=by decide
 have h4:(10^18+1)^q≤10^(4+18*q):=by
  rw [d9];exact aB h1 (aX _ (aB h2 h3))
 calc (10^18+1)^q*10^(12*p)≤10^(4+18*q)*10^(12*p):=aX _ h4
  _=10^(4+18*q+12*p):=(d9 ..).symm
  _≤10^(600+12*q):=bE zo zo
  _=B*10^(12*q):=Py eB _
  _≤n^p*10^(12*q):=aX _ h
end Go.Num
namespace Go.Num
theorem Tt {n p q:Nat} (h:p≤q):JH n p q=decide (uS n p q^q=jC n p q):=by
 unfold JH;rw [CQ h,show 12*q=12*(q - p)+12*p by omega,d9 10,← bL];exact decide_eq_decide.2 ⟨fun e=>Nat.eq_of_mul_eq_mul_right (oQ _) e,fun e=>by rw [e]⟩
theorem Tv {n p q:Nat} (hq:0<q) (h:q≤p):JH n p q=(decide (uS n p q^q=jC n p q)&&decide (n^p%10^(12*(p - q))=0)):=by
 have hs:=(kS hq (jC n p q)).1;have hd:=bP (n^p) (10^(12*(p - q)));have hp:=oQ (12*(p - q));unfold JH;rw [Bool.and_eq_decide];refine decide_eq_decide.2 ?_;rw [show 12*p=12*(p - q)+12*q by omega,d9 10,← bL];rw [← CS h] at hd
 change uS n p q^q≤jC n p q at hs
 simp only [decide_eq_true_eq]
 constructor
 ·intro e;have e:=Nat.eq_of_mul_eq_mul_right (oQ _) e
  have h1:uS n p q^q*10^(12*(p - q))≤10^(12*(p - q))*jC n p q:=by
   rw [aJ];exact aK _ hs
  refine ⟨?_,by omega⟩;refine Nat.eq_of_mul_eq_mul_right hp ?_;rw [aJ (jC n p q)];omega
 ·rintro ⟨e1,e2⟩;rw [e1,← hd,e2,eO,aJ (jC n p q)]
theorem Oz {q x:Nat} (hq:0<q) (RS:q≤12) (h:10^600≤x):10^18<eH q x:=by
 refine tO hq (aB ?_ h);have h1:(10^18+1)^q≤(10^18+1)^12:=bE zo RS;have h2:(10^18+1)^12≤10^600:=by decide+kernel
 exact aB h1 h2
def u7 (n p q:Nat) (up:Bool):Int × Int:=if uS n p q≤10^18 then (((if up then phi n p q else uS n p q:Nat):Int),0) else (0,6)
theorem QC {n p q:Nat} {up:Bool} (h:uS n p q≤10^18):u7 n p q up=(((uS n p q:Nat):Int)+(if (up&& !(JH n p q)) then 1 else 0),0):=by
 unfold u7 phi;rw [if_pos h];cases up<;>cases JH n p q<;>simp
end Go.Num
namespace Go.Num
structure Az (b Y1 Y0 un d q r:Nat):Prop where
 h1:q*Y1+r=un
 h2:(un*b+d) / (Y1*b+Y0)≤q
theorem Az.start {b Y1 Y0 un d:Nat} (hb:0<b) (hY:0<Y1) (hd:d<b):Az b Y1 Y0 un d (un / Y1) (un - un / Y1*Y1):=by
 have h:=Nat.div_mul_le_self un Y1;refine ⟨by omega,?_⟩
 have e:(un*b+d) / b=un:=by
  rw [aJ,Nat.mul_add_div hb,dS hd,eO]
 calc (un*b+d) / (Y1*b+Y0)≤(un*b+d) / (Y1*b):=Nat.div_le_div_left zo (gH hY hb)
  _=(un*b+d) / b / Y1:=by rw [Nat.div_div_eq_div_mul,aJ Y1 b]
  _=un / Y1:=by rw [e]
theorem Az.step {b Y1 Y0 un d q r:Nat} (h:Az b Y1 Y0 un d q r) (hY:0<Y1) (hd:d<b) (hun:un<Y1*b+Y0) (c:b≤q∨b*r+d<q*Y0):Az b Y1 Y0 un d (q - 1) (r+Y1)∧1≤q:=by
 obtain ⟨h1,h2⟩:=h;have hb:0<b:=by omega
 have Qw:0<Y1*b+Y0:=by have:=gH hY hb;omega
 have key:(un*b+d) / (Y1*b+Y0)<q:=by
  rcases c with c|c
  ·refine aL ?_ c;rw [bK Qw];have:(un+1)*b≤(Y1*b+Y0)*b:=aX b hun;rw [Nat.succ_mul] at this;rw [aJ b];omega
  ·rw [bK Qw];have e1:un*b=q*Y1*b+b*r:=by rw [← h1,bX,aJ r b]
   rw [aU,← bL,e1];omega
 have hq:1≤q:=gB (Nat.zero_le _) key;refine ⟨⟨?_,Nat.le_sub_one_of_lt key⟩,hq⟩
 have:q*Y1=(q - 1)*Y1+Y1:=by
  conv=>lhs;rw [show q=q - 1+1 by omega,Nat.succ_mul]
 omega
theorem Az.stop {b Y1 Y0 un d q r:Nat} (h:Az b Y1 Y0 un d q r) (hY:0<Y1) (hb:0<b) (c:q*Y0≤b*r+d):q=(un*b+d) / (Y1*b+Y0):=by
 obtain ⟨h1,h2⟩:=h;have Qw:0<Y1*b+Y0:=by have:=gH hY hb;omega
 refine Nat.le_antisymm ?_ h2;rw [Nat.le_div_iff_mul_le Qw,aU,← bL,← h1,bX,aJ r b];omega
theorem Az.brk {b Y1 Y0 un d q r:Nat} (h:Az b Y1 Y0 un d q r) (hY:0<Y1) (hb:0<b) (hY0:Y0<b) (hun:un<Y1*b+Y0) (c:b≤r):q=(un*b+d) / (Y1*b+Y0):=by
 refine h.stop hY hb ?_
 have hq:q<b:=by
  have h1:=h.h1
  have:q*Y1<b*Y1:=by
   rw [aJ b Y1];omega
  exact Nat.lt_of_mul_lt_mul_right this
 have a1:q*Y0≤b*b:=dJ (jL hq) (jL hY0);have a2:b*b≤b*r:=aK b c;omega
theorem QF {b un d1 d0 Y:Nat} (hY:0<Y):((un*b+d1) / Y)*b+((un*b+d1)%Y*b+d0) / Y=(un*b*b+d1*b+d0) / Y∧((un*b+d1)%Y*b+d0)%Y=(un*b*b+d1*b+d0)%Y:=by
 have h:=bP (un*b+d1) Y
 have e:un*b*b+d1*b+d0=Y*((un*b+d1) / Y*b)+((un*b+d1)%Y*b+d0):=by
  have:un*b*b+d1*b=(un*b+d1)*b:=by rw [bX]
  rw [this]
  conv=>lhs;rw [← h,bX]
  rw [← bL,jr]
 rw [e];refine ⟨?_,?_⟩
 ·rw [Nat.mul_add_div hY]
 ·rw [Nat.mul_add_mod]
theorem shifted {hi lo s:Nat} (hs:s≤63) (Qr:lo<18446744073709551616) :
  (hi*2^s+lo / 2^(64 - s))*4294967296*4294967296+lo*2^s%18446744073709551616 / 4294967296*4294967296+lo*2^s%18446744073709551616%4294967296=(hi*18446744073709551616+lo)*2^s∧lo / 2^(64 - s)<2^s:=by
 have e:(18446744073709551616:Nat)=2^(64 - s)*2^s:=by
  rw [← d9,show 64 - s+s=64 by omega]
 have h1:lo*2^s / 18446744073709551616=lo / 2^(64 - s):=by
  conv=>lhs;rw [e]
  exact Nat.mul_div_mul_right _ _ (Nat.pow_pos zo)
 have h2:=bP (lo*2^s) 18446744073709551616;have h3:=bP (lo*2^s%18446744073709551616) 4294967296;refine ⟨?_,?_⟩
 ·rw [h1] at h2
  have h4:(hi*18446744073709551616+lo)*2^s=hi*2^s*18446744073709551616+lo*2^s:=by
   rw [bX,Nat.mul_right_comm]
  rw [h4];omega
 ·rw [bK (Nat.pow_pos zo),aJ,← e];exact Qr
end Go.Num
namespace Go.Proofs.bits
open Go Go.RowKit Go.SW Go.Num Go.Mem Go.Proofs Go.Shelf
theorem MX {y:Nat} (h0:0<y) (h:y<18446744073709551616):∃ s:Nat,s≤63∧(64:Int) - (Lib.bitLen y:Int)=(s:Int)∧9223372036854775808≤y*2^s∧y*2^s<18446744073709551616:=by
 obtain ⟨h1,h2,h3⟩:=Lib.bitLenAux_bounds 64 y h zo;have h4:=Lib.bitLen_le y 64 zo h;have e:Lib.bitLenAux 64 y=Lib.bitLen y:=rfl;rw [e] at h1 h2 h3;generalize Lib.bitLen y=b at *;refine ⟨64 - b,by omega,by omega,?_,?_⟩
 ·have:2^(b - 1)*2^(64 - b)≤y*2^(64 - b):=aX _ h2;rw [← d9,show b - 1+(64 - b)=63 by omega] at this
  simpa using this
 ·have:y*2^(64 - b)<2^b*2^(64 - b):=Nat.mul_lt_mul_of_pos_right h3 (Nat.pow_pos zo);rw [← d9,show b+(64 - b)=64 by omega] at this
  simpa using this
def Rf (Y1 Y0 L1 L0:Nat):Prop:=2147483648≤Y1∧Y1<4294967296∧Y0<4294967296∧L1<4294967296∧L0<4294967296
theorem Uo {Y1 Y0 U d q r:Nat} (h:Az 4294967296 Y1 Y0 U d q r) (h1:2147483648≤Y1) (hU:U<18446744073709551616):q<18446744073709551616:=by
 have e:=h.h1
 rcases aS q with h|h
 ·omega
 ·have:=Nat.le_mul_of_pos_right q (show 0<Y1 by omega);omega
theorem oU {Y1 Y0 L1 L0 U d q r:Nat} (h:Az 4294967296 Y1 Y0 U d q r) (hr:r<4294967296) (hb:Rf Y1 Y0 L1 L0) (hU:U<Y1*4294967296+Y0) (hd:d<4294967296) (c:4294967296≤q∨4294967296*r+d<q*Y0) :
  ∃ q' r':Nat,Hid (Az 4294967296 Y1 Y0 U d q' r')∧Hid (q'<q)∧IntKind.u64.wrap ((q:Int) - 1)=(q':Int)∧IntKind.u64.wrap ((r:Int)+(Y1:Int))=(r':Int):=by
 unfold Rf at hb;have hq:=Uo h hb.1 zo;obtain ⟨hd2,hq1⟩:=h.step zo hd hU c;refine ⟨_,_,zh hd2,zh zo,?_,?_⟩
 ·rw [IntKind.wrap_u64];omega
 ·rw [IntKind.wrap_u64];omega
theorem pI {Y1 Y0 L1 L0 d q r:Nat} (hq:q<4294967296) (hr:r<4294967296) (hb:Rf Y1 Y0 L1 L0) (hd:d<4294967296) :
  ∃ T V:Nat,Hid (q*Y0=T)∧Hid (4294967296*r+d=V)∧IntKind.u64.wrap ((q:Int)*(Y0:Int))=(T:Int)∧IntKind.u64.wrap (IntKind.u64.wrap (4294967296*(r:Int))+(d:Int))=(V:Int):=by
 unfold Rf at hb;refine ⟨_,_,zh rfl,zh rfl,?_,?_⟩
 ·have:q*Y0≤4294967295*4294967295:=dJ zo zo;rw [← Int.natCast_mul,IntKind.wrap_u64];generalize q*Y0=T at *;omega
 ·rw [IntKind.wrap_u64,IntKind.wrap_u64];omega
theorem Af {U d Y q:Nat} (hY:0<Y) (hq:q=(U*4294967296+d) / Y) (hd:d<4294967296) (Qx:Y<18446744073709551616) :
  IntKind.u64.wrap (IntKind.u64.wrap (IntKind.u64.wrap ((U:Int)*4294967296)+(d:Int)) - IntKind.u64.wrap ((q:Int)*(Y:Int)))=(((U*4294967296+d)%Y:Nat):Int):=by
 have h:=bP (U*4294967296+d) Y;have hm:=dV (U*4294967296+d) hY;rw [← hq] at h;have e:(q:Int)*(Y:Int)=((Y*q:Nat):Int):=by rw [Int.natCast_mul,Int.mul_comm]
 rw [e];generalize Y*q=T at *;generalize (U*4294967296+d)%Y=V at *;rw [IntKind.wrap_u64,IntKind.wrap_u64,IntKind.wrap_u64,IntKind.wrap_u64];omega
theorem oZ {U L1 L0 Y Y1 Y0 q:Nat} (hq:q=(U*4294967296+L1) / (Y1*4294967296+Y0)) (hY:Y1*4294967296+Y0=Y) (hb:Rf Y1 Y0 L1 L0) (hUY:U<Y) (Qx:Y<18446744073709551616) :
  ∃ W q0 r0:Nat,Hid (W=(U*4294967296+L1)%Y)∧Hid (W<Y)∧IntKind.u64.wrap (IntKind.u64.wrap (IntKind.u64.wrap ((U:Int)*4294967296)+(L1:Int)) - IntKind.u64.wrap ((q:Int)*(Y:Int)))=(W:Int)∧IntKind.u64.wrap ((W:Int) / (Y1:Int))=(q0:Int)∧IntKind.u64.wrap ((W:Int) - IntKind.u64.wrap ((q0:Int)*(Y1:Int)))=(r0:Int)∧Hid (r0<4294967296)∧Hid (∀ d,d<4294967296→Az 4294967296 Y1 Y0 W d q0 r0):=by
 unfold Rf at hb;rw [hY] at hq;have Sc:0<Y:=by omega
 have h1:=Af Sc hq hb.2.2.2.1 Qx;have hm:=dV (U*4294967296+L1) Sc;obtain ⟨W,eW⟩:∃ W,(U*4294967296+L1)%Y=W:=⟨_,rfl⟩;rw [eW] at h1 hm;refine ⟨W,W / Y1,W - W / Y1*Y1,zh eW.symm,zh hm,h1,?_,?_,zh ?_,zh fun d hd=>Az.start zo zo hd⟩
 ·rw [← Int.natCast_ediv,IntKind.wrap_u64];have:=Nat.div_le_self W Y1;generalize W / Y1=q at *;omega
 ·have:=Nat.div_mul_le_self W Y1;rw [← Int.natCast_mul,IntKind.wrap_u64,IntKind.wrap_u64];omega
 ·have h2:=bP W Y1;have h3:=dV W (show 0<Y1 by omega);rw [aJ] at h2;omega
theorem jg {U L1 L0 Y Y1 Y0 q q0 W:Nat} (hq:q=(U*4294967296+L1) / (Y1*4294967296+Y0)) (hq0:q0=(W*4294967296+L0) / (Y1*4294967296+Y0)) (hW:W=(U*4294967296+L1)%Y) (hb:Rf Y1 Y0 L1 L0) (hY:Y1*4294967296+Y0=Y) (Qx:Y<18446744073709551616) (hN:(U*4294967296*4294967296+L1*4294967296+L0) / Y<18446744073709551616) :
  IntKind.u64.wrap (IntKind.u64.wrap ((q:Int)*4294967296)+(q0:Int))=(((U*4294967296*4294967296+L1*4294967296+L0) / Y:Nat):Int)∧IntKind.u64.wrap (IntKind.u64.wrap (IntKind.u64.wrap ((W:Int)*4294967296)+(L0:Int)) - IntKind.u64.wrap ((q0:Int)*(Y:Int)))=(((U*4294967296*4294967296+L1*4294967296+L0)%Y:Nat):Int):=by
 unfold Rf at hb;rw [hY] at hq hq0;have Sc:0<Y:=by omega
 obtain ⟨h1,h2⟩:=QF (b:=4294967296) (un:=U) (d1:=L1) (d0:=L0) Sc;rw [← hq,← hW,← hq0] at h1;rw [← hW] at h2;refine ⟨?_,?_⟩
 ·rw [← h1] at hN ⊢;rw [IntKind.wrap_u64,IntKind.wrap_u64];omega
 ·rw [Af Sc hq0 hb.2.2.2.2 Qx,h2]
theorem OZ (hi lo y:Nat) (hy:hi<y) (VG:y<18446744073709551616) (Qr:lo<18446744073709551616) (w:World) :
  Calls Tryz.prog 220 #[Z .u64 (hi:Int),Z .u64 (lo:Int),Z .u64 (y:Int)] w (fun e w'=>e= ah (aD #[Z .u64 (((hi*18446744073709551616+lo) / y:Nat):Int),Z .u64 (((hi*18446744073709551616+lo)%y:Nat):Int)])∧Below w.heap.size w w'):=by
 have q1:¬ (y:Int)=0:=by omega
 have q2:¬ (y:Int)≤(hi:Int):=by omega
 by_cases h0:hi=0
 ·subst h0;go_enter Tryz.func220,Tryz.ntmps220
  go_wp2_with fail
  refine aT [(.pure,0),(.pure,1),(.pure,2),(.pure,3),(.pure,4),(.pure,5),(.fin,6),(.fin,7)] zk zk zR zP ?_;refine Wk.out ?_
  (iterate 6 refine zU ?_)
  refine oO [_,_] rfl (fun wf hbf=>?_);go_wp2_with fail
  go_ret2
  have e1:IntKind.u64.wrap ((lo:Int) / (y:Int))=(((0*18446744073709551616+lo) / y:Nat):Int):=by
   rw [Nat.zero_mul,dw,IntKind.wrap_u64];have:=Nat.div_le_self lo y;rw [← Int.natCast_ediv];generalize lo / y=q at *;omega
  have e2:(lo:Int)%(y:Int)=(((0*18446744073709551616+lo)%y:Nat):Int):=by
   rw [Nat.zero_mul,dw];omega
  rw [e1,e2];exact ⟨rfl,((Below.refl _ w).drew.trans (hbf.mono (aI _)))⟩
 ·obtain ⟨s,hs,e1,e2,e3⟩:=MX (y:=y) zo VG;have LZ:=zh (fun W=>(Tryz.bits_LeadingZeros64 (y:Int) W zo zo));rw [Int.toNat_natCast,e1] at LZ;have q3:¬ (hi:Int)=0:=by omega
  obtain ⟨hN,hlt⟩:=shifted (hi:=hi) hs Qr;have hm:min s 64=s:=by omega
  have hp2:0<2^s:=Nat.pow_pos zo;have hw:IntKind.u64.wrap (s:Int)=(s:Int):=by rw [IntKind.wrap_u64];omega
  have hAY:hi*2^s+2^s≤y*2^s:=by
   have:=aX (2^s) hy;rw [Nat.succ_mul] at this;exact this
  have cY:(y:Int)*2^s=((y*2^s:Nat):Int):=by simp
  have cA:(hi:Int)*2^s=((hi*2^s:Nat):Int):=by simp
  have cL:(lo:Int)*2^s=((lo*2^s:Nat):Int):=by simp
  have cB:(lo:Int) / 2^(64 - s)=((lo / 2^(64 - s):Nat):Int):=by simp
  have hOr:bits BinOp.or IntKind.u64 ((hi*2^s:Nat):Int) ((lo / 2^(64 - s):Nat):Int)=((hi*2^s+lo / 2^(64 - s):Nat):Int):=by
   rw [bits_or_u64_nat _ _ zo (by have:=Nat.div_le_self lo (2^(64 - s));omega)]
   congr 1
   rw [aJ hi];exact (Nat.two_pow_add_eq_or_of_lt hlt hi).symm
  have ZA:∀ a:Nat,a / y=a*2^s / (y*2^s)∧a%y=a*2^s%(y*2^s) / 2^s:=fun a=>by
   have hp:0<2^s:=Nat.pow_pos zo;refine ⟨(Nat.mul_div_mul_right _ _ hp).symm,?_⟩;rw [Nat.mul_mod_mul_right,Nat.mul_div_cancel _ hp]
  have Wd:(hi*18446744073709551616+lo) / y<18446744073709551616:=by
   rw [bK zo];omega
  rw [(ZA _).1,← hN] at Wd;rw [(ZA _).1,(ZA _).2,← hN];have cS:∀ a:Nat,(a:Int) / 2^s=((a / 2^s:Nat):Int):=fun a=>by simp
  have Sc:2^63≤y*2^s:=e2;obtain ⟨Y,eY⟩:∃ Y,y*2^s=Y:=⟨_,rfl⟩;obtain ⟨A,eA⟩:∃ A,hi*2^s=A:=⟨_,rfl⟩;obtain ⟨B,eB⟩:∃ B,lo / 2^(64 - s)=B:=⟨_,rfl⟩;obtain ⟨L,eL⟩:∃ L,lo*2^s=L:=⟨_,rfl⟩;rw [eY,eA] at hAY;rw [eY] at e2 e3 cY Sc;rw [eA] at cA;rw [eL] at cL;rw [eB] at cB hlt;rw [eA,eB] at hOr;rw [eY,eA,eB,eL];rw [eY,eA,eB,eL] at Wd;obtain ⟨L',eL'⟩:∃ L',L%18446744073709551616=L':=⟨_,rfl⟩;obtain ⟨U,eU⟩:∃ U,A+B=U:=⟨_,rfl⟩;rw [eU] at hOr;rw [eL',eU];rw [eL',eU] at Wd;have hUY:U<Y:=by omega
  have w1:IntKind.u64.wrap (Y:Int)=(Y:Int):=by rw [IntKind.wrap_u64];omega
  have w2:IntKind.u64.wrap (A:Int)=(A:Int):=by rw [IntKind.wrap_u64];omega
  have w3:IntKind.u64.wrap (L:Int)=(L':Int):=by rw [IntKind.wrap_u64];omega
  have a1:bits BinOp.and IntKind.u64 (Y:Int) 4294967295=((Y%4294967296:Nat):Int):=Mul64.maskN Y zo;have a2:bits BinOp.and IntKind.u64 (L':Int) 4294967295=((L'%4294967296:Nat):Int):=Mul64.maskN L' zo;have d1:(Y:Int) / 4294967296=((Y / 4294967296:Nat):Int):=by omega
  have d2:(L':Int) / 4294967296=((L' / 4294967296:Nat):Int):=by omega
  have Qw:Y / 4294967296*4294967296+Y%4294967296=Y:=by rw [aJ];exact bP Y 4294967296
  obtain ⟨Y1,eY1⟩:∃ Y1,Y / 4294967296=Y1:=⟨_,rfl⟩;obtain ⟨Y0,eY0⟩:∃ Y0,Y%4294967296=Y0:=⟨_,rfl⟩;obtain ⟨L1,ZN⟩:∃ L1,L' / 4294967296=L1:=⟨_,rfl⟩;obtain ⟨L0,ZO⟩:∃ L0,L'%4294967296=L0:=⟨_,rfl⟩;have b1:2147483648≤Y1∧Y1<4294967296∧Y0<4294967296∧L1<4294967296∧L0<4294967296:=by omega
  rw [eY1] at d1 Qw;rw [eY0] at a1 Qw;rw [ZN] at d2;rw [ZO] at a2;rw [ZN,ZO];rw [ZN,ZO] at Wd;obtain ⟨hst⟩:Nonempty (Az 4294967296 Y1 Y0 U L1 (U / Y1) (U - U / Y1*Y1)):=⟨Az.start zo zo zo⟩
  have hQ:IntKind.u64.wrap ((U:Int) / (Y1:Int))=((U / Y1:Nat):Int):=by
   rw [← Int.natCast_ediv,IntKind.wrap_u64];have:=Nat.div_le_self U Y1;generalize U / Y1=q at *;omega
  have hr1:=Nat.div_mul_le_self U Y1
  have hr2:U - U / Y1*Y1<Y1:=by
   have:=bP U Y1;have:=dV U (show 0<Y1 by omega);rw [aJ] at hr1 ⊢;omega
  have hR:IntKind.u64.wrap ((U:Int) - IntKind.u64.wrap (((U / Y1:Nat):Int)*(Y1:Int)))=((U - U / Y1*Y1:Nat):Int):=by
   rw [← Int.natCast_mul,IntKind.wrap_u64,IntKind.wrap_u64];omega
  obtain ⟨q,eq⟩:∃ q,U / Y1=q:=⟨_,rfl⟩;obtain ⟨r,er⟩:∃ r,U - U / Y1*Y1=r:=⟨_,rfl⟩;rw [er,eq] at hst hR;rw [eq] at hQ;rw [er] at hr2;have e3':=e3;have HST:=zh hst;have RG:=zh Wd;have HB1:Hid (Rf Y1 Y0 L1 L0):=zh b1;have hz:¬ (Y1:Int)=0:=by omega
  have Wo:=zh hUY;have wR:=zh Qw;clear Wd VG Qr hst hN hlt hAY ZA e1 e2 e3 hr1 er eq b1 hUY Qw eY1 eY0 ZN ZO eU eL' eY eA eB eL Sc;go_enter Tryz.func220,Tryz.ntmps220
  go_wp2_with fail
  refine (LZ.out _).mono ?_;rintro e w' ⟨rfl,rfl⟩;go_wp2_with fail
  have RL1:Hid (r<4294967296):=zh (by have:=HB1.out.2.1;omega);have Lf:=zh e3';have ST1:=HST;have rF:=zh (Below.refl w'.heap.size w');clear hr2 HST
  go_loopw [15,16] (fun qv rv wr=>∃ q r:Nat,qv= Z .u64 (q:Int)∧rv= Z .u64 (r:Int)∧Hid (Az 4294967296 Y1 Y0 U L1 q r)∧Hid (r<4294967296)∧Hid (Below w'.heap.size w' wr)) (fun qv _ _=>(intOf qv).toNat)
  case atStart=>exact ⟨q,r,rfl,rfl,ST1,RL1,rF⟩
  case round =>
   clear ST1 RL1 rF;obtain ⟨q,r,rfl,rfl,HST,OT,rF⟩:=hrel;have HT:=zh (oU HST.out OT.out HB1.out (by rw [wR.out];exact Wo.out) HB1.out.2.2.2.1)
   rcases aO q 4294967296 with h1|h1
   ·have g1:decide ((4294967296:Int)≤(q:Int))=false:=decide_eq_false zo;obtain ⟨T,V,KU,HE2,m1,m2⟩:=pI h1 OT.out HB1.out HB1.out.2.2.2.1;clear h1
    rcases aO V T with h2|h2
    ·have g2:(V:Int)<(T:Int):=by omega
     obtain ⟨q',r',HD,HL,w1,w2⟩:=HT.out (.inr (by rw [KU.out,HE2.out];exact h2));clear h2
     rcases aO r' 4294967296 with h3|h3
     ·have g3:decide ((4294967296:Int)≤(r':Int))=false:=decide_eq_false zo;have G6:=zh h3;clear h3;go_wp2_with fail
      go_roundw
      case rel=>exact ⟨q',r',rfl,rfl,HD,G6,rF⟩
      case measure=>have:=HL.out;simp [intOf];omega
     ·have g3:decide ((4294967296:Int)≤(r':Int))=true:=decide_eq_true zo;have HQ:=zh (HD.out.brk (aL zo HB1.out.1) zo HB1.out.2.2.1 ((by rw [wR.out];exact Wo.out)) h3);clear h3;obtain ⟨W,q0,r0,HW,OP,x1,x2,x3,SA,OV⟩:=oZ HQ.out wR.out HB1.out Wo.out Lf.out;have KL:=HQ;have ST2:=zh (OV.out L0 HB1.out.2.2.2.2);clear HQ OV;go_wp2_with fail
      go_loopw [18,16] (fun qv rv wr=>∃ q r:Nat,qv= Z .u64 (q:Int)∧rv= Z .u64 (r:Int)∧Hid (Az 4294967296 Y1 Y0 W L0 q r)∧Hid (r<4294967296)∧Hid (Below w'.heap.size w' wr)) (fun qv _ _=>(intOf qv).toNat)
      case atStart=>exact ⟨q0,r0,rfl,rfl,ST2,SA,rF⟩
      case round =>
       clear ST2 SA rF;obtain ⟨q,r,rfl,rfl,HST,OT,rF⟩:=hrel;have HT:=zh (oU HST.out OT.out HB1.out (by rw [wR.out];exact OP.out) HB1.out.2.2.2.2)
       rcases aO q 4294967296 with h1|h1
       ·have g1:decide ((4294967296:Int)≤(q:Int))=false:=decide_eq_false zo;obtain ⟨T,V,KU,HE2,m1,m2⟩:=pI h1 OT.out HB1.out HB1.out.2.2.2.2;clear h1
        rcases aO V T with h2|h2
        ·have g2:(V:Int)<(T:Int):=by omega
         obtain ⟨q',r',HD,HL,w1,w2⟩:=HT.out (.inr (by rw [KU.out,HE2.out];exact h2));clear h2
         rcases aO r' 4294967296 with h3|h3
         ·have g3:decide ((4294967296:Int)≤(r':Int))=false:=decide_eq_false zo;have G6:=zh h3;clear h3;go_wp2_with fail
          go_roundw
          case rel=>exact ⟨q',r',rfl,rfl,HD,G6,rF⟩
          case measure=>have:=HL.out;simp [intOf];omega
         ·have g3:decide ((4294967296:Int)≤(r':Int))=true:=decide_eq_true zo;have HQ:=zh (HD.out.brk (aL zo HB1.out.1) zo HB1.out.2.2.1 ((by rw [wR.out];exact OP.out)) h3);clear h3;have HE:=zh (jg KL.out HQ.out HW.out HB1.out wR.out Lf.out RG.out);have e1:=HE.out.1;have e2:=HE.out.2;go_wp2_with fail
          go_ret2
          exact ⟨by simp,rF.out⟩
        ·have g2:¬ (V:Int)<(T:Int):=by omega
         have HQ:=zh (HST.out.stop (aL zo HB1.out.1) zo (by rw [KU.out,HE2.out];exact h2));clear h2;have HE:=zh (jg KL.out HQ.out HW.out HB1.out wR.out Lf.out RG.out);have e1:=HE.out.1;have e2:=HE.out.2;go_wp2_with fail
         go_ret2
         exact ⟨by simp,rF.out⟩
       ·have g1:decide ((4294967296:Int)≤(q:Int))=true:=decide_eq_true zo;obtain ⟨q',r',HD,HL,w1,w2⟩:=HT.out (.inl h1);clear h1
        rcases aO r' 4294967296 with h3|h3
        ·have g3:decide ((4294967296:Int)≤(r':Int))=false:=decide_eq_false zo;have G6:=zh h3;clear h3;go_wp2_with fail
         go_roundw
         case rel=>exact ⟨q',r',rfl,rfl,HD,G6,rF⟩
         case measure=>have:=HL.out;simp [intOf];omega
        ·have g3:decide ((4294967296:Int)≤(r':Int))=true:=decide_eq_true zo;have HQ:=zh (HD.out.brk (aL zo HB1.out.1) zo HB1.out.2.2.1 ((by rw [wR.out];exact OP.out)) h3);clear h3;have HE:=zh (jg KL.out HQ.out HW.out HB1.out wR.out Lf.out RG.out);have e1:=HE.out.1;have e2:=HE.out.2;go_wp2_with fail
         go_ret2
         exact ⟨by simp,rF.out⟩
    ·have g2:¬ (V:Int)<(T:Int):=by omega
     have HQ:=zh (HST.out.stop (aL zo HB1.out.1) zo (by rw [KU.out,HE2.out];exact h2));clear h2;obtain ⟨W,q0,r0,HW,OP,x1,x2,x3,SA,OV⟩:=oZ HQ.out wR.out HB1.out Wo.out Lf.out;have KL:=HQ;have ST2:=zh (OV.out L0 HB1.out.2.2.2.2);clear HQ OV;go_wp2_with fail
     go_loopw [18,16] (fun qv rv wr=>∃ q r:Nat,qv= Z .u64 (q:Int)∧rv= Z .u64 (r:Int)∧Hid (Az 4294967296 Y1 Y0 W L0 q r)∧Hid (r<4294967296)∧Hid (Below w'.heap.size w' wr)) (fun qv _ _=>(intOf qv).toNat)
     case atStart=>exact ⟨q0,r0,rfl,rfl,ST2,SA,rF⟩
     case round =>
      clear ST2 SA rF;obtain ⟨q,r,rfl,rfl,HST,OT,rF⟩:=hrel;have HT:=zh (oU HST.out OT.out HB1.out (by rw [wR.out];exact OP.out) HB1.out.2.2.2.2)
      rcases aO q 4294967296 with h1|h1
      ·have g1:decide ((4294967296:Int)≤(q:Int))=false:=decide_eq_false zo;obtain ⟨T,V,KU,HE2,m1,m2⟩:=pI h1 OT.out HB1.out HB1.out.2.2.2.2;clear h1
       rcases aO V T with h2|h2
       ·have g2:(V:Int)<(T:Int):=by omega
        obtain ⟨q',r',HD,HL,w1,w2⟩:=HT.out (.inr (by rw [KU.out,HE2.out];exact h2));clear h2
        rcases aO r' 4294967296 with h3|h3
        ·have g3:decide ((4294967296:Int)≤(r':Int))=false:=decide_eq_false zo;have G6:=zh h3;clear h3;go_wp2_with fail
         go_roundw
         case rel=>exact ⟨q',r',rfl,rfl,HD,G6,rF⟩
         case measure=>have:=HL.out;simp [intOf];omega
        ·have g3:decide ((4294967296:Int)≤(r':Int))=true:=decide_eq_true zo;have HQ:=zh (HD.out.brk (aL zo HB1.out.1) zo HB1.out.2.2.1 ((by rw [wR.out];exact OP.out)) h3);clear h3;have HE:=zh (jg KL.out HQ.out HW.out HB1.out wR.out Lf.out RG.out);have e1:=HE.out.1;have e2:=HE.out.2;go_wp2_with fail
         go_ret2
         exact ⟨by simp,rF.out⟩
       ·have g2:¬ (V:Int)<(T:Int):=by omega
        have HQ:=zh (HST.out.stop (aL zo HB1.out.1) zo (by rw [KU.out,HE2.out];exact h2));clear h2;have HE:=zh (jg KL.out HQ.out HW.out HB1.out wR.out Lf.out RG.out);have e1:=HE.out.1;have e2:=HE.out.2;go_wp2_with fail
        go_ret2
        exact ⟨by simp,rF.out⟩
      ·have g1:decide ((4294967296:Int)≤(q:Int))=true:=decide_eq_true zo;obtain ⟨q',r',HD,HL,w1,w2⟩:=HT.out (.inl h1);clear h1
       rcases aO r' 4294967296 with h3|h3
       ·have g3:decide ((4294967296:Int)≤(r':Int))=false:=decide_eq_false zo;have G6:=zh h3;clear h3;go_wp2_with fail
        go_roundw
        case rel=>exact ⟨q',r',rfl,rfl,HD,G6,rF⟩
        case measure=>have:=HL.out;simp [intOf];omega
       ·have g3:decide ((4294967296:Int)≤(r':Int))=true:=decide_eq_true zo;have HQ:=zh (HD.out.brk (aL zo HB1.out.1) zo HB1.out.2.2.1 ((by rw [wR.out];exact OP.out)) h3);clear h3;have HE:=zh (jg KL.out HQ.out HW.out HB1.out wR.out Lf.out RG.out);have e1:=HE.out.1;have e2:=HE.out.2;go_wp2_with fail
        go_ret2
        exact ⟨by simp,rF.out⟩
   ·have g1:decide ((4294967296:Int)≤(q:Int))=true:=decide_eq_true zo;obtain ⟨q',r',HD,HL,w1,w2⟩:=HT.out (.inl h1);clear h1
    rcases aO r' 4294967296 with h3|h3
    ·have g3:decide ((4294967296:Int)≤(r':Int))=false:=decide_eq_false zo;have G6:=zh h3;clear h3;go_wp2_with fail
     go_roundw
     case rel=>exact ⟨q',r',rfl,rfl,HD,G6,rF⟩
     case measure=>have:=HL.out;simp [intOf];omega
    ·have g3:decide ((4294967296:Int)≤(r':Int))=true:=decide_eq_true zo;have HQ:=zh (HD.out.brk (aL zo HB1.out.1) zo HB1.out.2.2.1 ((by rw [wR.out];exact Wo.out)) h3);clear h3;obtain ⟨W,q0,r0,HW,OP,x1,x2,x3,SA,OV⟩:=oZ HQ.out wR.out HB1.out Wo.out Lf.out;have KL:=HQ;have ST2:=zh (OV.out L0 HB1.out.2.2.2.2);clear HQ OV;go_wp2_with fail
     go_loopw [18,16] (fun qv rv wr=>∃ q r:Nat,qv= Z .u64 (q:Int)∧rv= Z .u64 (r:Int)∧Hid (Az 4294967296 Y1 Y0 W L0 q r)∧Hid (r<4294967296)∧Hid (Below w'.heap.size w' wr)) (fun qv _ _=>(intOf qv).toNat)
     case atStart=>exact ⟨q0,r0,rfl,rfl,ST2,SA,rF⟩
     case round =>
      clear ST2 SA rF;obtain ⟨q,r,rfl,rfl,HST,OT,rF⟩:=hrel;have HT:=zh (oU HST.out OT.out HB1.out (by rw [wR.out];exact OP.out) HB1.out.2.2.2.2)
      rcases aO q 4294967296 with h1|h1
      ·have g1:decide ((4294967296:Int)≤(q:Int))=false:=decide_eq_false zo;obtain ⟨T,V,KU,HE2,m1,m2⟩:=pI h1 OT.out HB1.out HB1.out.2.2.2.2;clear h1
       rcases aO V T with h2|h2
       ·have g2:(V:Int)<(T:Int):=by omega
        obtain ⟨q',r',HD,HL,w1,w2⟩:=HT.out (.inr (by rw [KU.out,HE2.out];exact h2));clear h2
        rcases aO r' 4294967296 with h3|h3
        ·have g3:decide ((4294967296:Int)≤(r':Int))=false:=decide_eq_false zo;have G6:=zh h3;clear h3;go_wp2_with fail
         go_roundw
         case rel=>exact ⟨q',r',rfl,rfl,HD,G6,rF⟩
         case measure=>have:=HL.out;simp [intOf];omega
        ·have g3:decide ((4294967296:Int)≤(r':Int))=true:=decide_eq_true zo;have HQ:=zh (HD.out.brk (aL zo HB1.out.1) zo HB1.out.2.2.1 ((by rw [wR.out];exact OP.out)) h3);clear h3;have HE:=zh (jg KL.out HQ.out HW.out HB1.out wR.out Lf.out RG.out);have e1:=HE.out.1;have e2:=HE.out.2;go_wp2_with fail
         go_ret2
         exact ⟨by simp,rF.out⟩
       ·have g2:¬ (V:Int)<(T:Int):=by omega
        have HQ:=zh (HST.out.stop (aL zo HB1.out.1) zo (by rw [KU.out,HE2.out];exact h2));clear h2;have HE:=zh (jg KL.out HQ.out HW.out HB1.out wR.out Lf.out RG.out);have e1:=HE.out.1;have e2:=HE.out.2;go_wp2_with fail
        go_ret2
        exact ⟨by simp,rF.out⟩
      ·have g1:decide ((4294967296:Int)≤(q:Int))=true:=decide_eq_true zo;obtain ⟨q',r',HD,HL,w1,w2⟩:=HT.out (.inl h1);clear h1
       rcases aO r' 4294967296 with h3|h3
       ·have g3:decide ((4294967296:Int)≤(r':Int))=false:=decide_eq_false zo;have G6:=zh h3;clear h3;go_wp2_with fail
        go_roundw
        case rel=>exact ⟨q',r',rfl,rfl,HD,G6,rF⟩
        case measure=>have:=HL.out;simp [intOf];omega
       ·have g3:decide ((4294967296:Int)≤(r':Int))=true:=decide_eq_true zo;have HQ:=zh (HD.out.brk (aL zo HB1.out.1) zo HB1.out.2.2.1 ((by rw [wR.out];exact OP.out)) h3);clear h3;have HE:=zh (jg KL.out HQ.out HW.out HB1.out wR.out Lf.out RG.out);have e1:=HE.out.1;have e2:=HE.out.2;go_wp2_with fail
        go_ret2
        exact ⟨by simp,rF.out⟩
end Go.Proofs.bits
namespace Go
theorem jY {P:Program} {b:Frame} {a:Act} {k:List Item} {cs:List Frame} {w:World} {c:Code}:step P (lone (b.atR a (.code (.scope c)::k)) cs w)= .next (lone (b.atR a (.code c:: .inScope c::k)) cs w) :=
 step_lone_go (by simp [stepG,stepG.exec,Frame.atR])
theorem zA {P:Program} {b:Frame} {a:Act} {k:List Item} {cs:List Frame} {w:World} {c:Code}:step P (lone (b.atR a (.inScope c::k)) cs w)= .next (lone (b.atR a k) cs w) :=
 step_lone_go (by simp [stepG,stepG.exec,Frame.atR])
theorem Fq {F:Fence} {n:Nat} {P:Program} {Q:Exit→Act→World→Prop} {a:Act} {w:World} {c:Code} (h:c.wpIn F n P (Exit.noGoto Q) a w):(Code.scope c).wpIn F n P Q a w:=by
 intro b k cs hro hb hr;have h0:(lone (b.atR a (.code (.scope c)::k)) cs w).fenced P F:=fenced_calm hb hr rfl;obtain ⟨e,a₁,w₁,hq,harr⟩:=h b (.inScope c::k) cs hro hb hr;cases e with
 | normal=>exact ⟨.normal,a₁,w₁,hq,.head h0 jY (StepsIn.trans harr (.one (fenced_calm hb hr rfl) zA))⟩
 | exit id =>
  have hx:exitTo id (.inScope c::k)=exitTo id k:=by simp [exitTo]
  exact ⟨.exit id,a₁,w₁,hq,fun k' hk=>.head h0 jY (harr.1 k' (by rw [hx];exact hk)),
   fun hr' hk=>let ⟨k₁,h1,h2⟩:=harr.2 hr' (by rw [hx];exact hk);⟨k₁,h1,.head h0 jY h2⟩⟩
 | goto l=>exact hq.elim
 | ret=>exact ⟨_,a₁,w₁,hq,.of_steps (.one h0 jY) harr⟩
 | panic ch=>exact ⟨_,a₁,w₁,hq,.of_steps (.one h0 jY) harr⟩
 | outgrown=>exact ⟨_,a₁,w₁,hq,.of_steps (.one h0 jY) harr⟩
end Go
