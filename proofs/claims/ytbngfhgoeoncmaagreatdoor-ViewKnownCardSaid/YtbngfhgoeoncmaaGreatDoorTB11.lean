/- Lemmas for the proof. No condition. -/
import Derived.Test.YtbngfhgoeoncmaaGreatDoorTB10
import Derived.ControlIn
set_option linter.unusedVariables false
set_option linter.unusedSimpArgs false
set_option maxRecDepth 100000
set_option maxHeartbeats 16000000
open Go.Ending renaming returned → ah
open Go.IntKind renaming i64 → I
open Go.Value renaming agg → aB, bool → aC, int → Z, tuple → aF
open Nat renaming add_mul → dH, add_zero → gL, div_add_mod → bU, div_eq_of_lt → iB, div_lt_iff_lt_mul → bO, eq_zero_or_pos → bA, le_refl → aG, le_trans → ay, lt_of_lt_of_le → aP, lt_or_ge → aH, mod_lt → iD, mul_add → aU, mul_assoc → bV, mul_comm → aL, mul_le_mul → dU, mul_le_mul_left → aM, mul_le_mul_right → aZ, mul_pos → fV, pow_add → eG, pow_le_pow_right → bX, pow_succ → bF, zero_add → dS
namespace Go.Proofs.power
open Go Go.RowKit Go.SW Go.Num Go.Mem Go.Proofs Go.Proofs.dR
def YL (p q:Int):Bool:=decide (1≤p)&&(decide (p≤36)&&(decide (1≤q)&&decide (q≤12)))
theorem mD (p q:Int) (w:World):Calls Tryz.prog 50 #[aB #[Z I p,Z I q]] w (fun e w'=>e= ah (aC (YL p q))∧Below w.heap.size w w'):=by
 unfold YL;cases h1:decide (1≤p)<;>cases h2:decide (p≤36)<;>cases h3:decide (1≤q)<;>cases h4:decide (q≤12)
 all_goals
  go_enter Tryz.func50,Tryz.ntmps50
  go_wp2_with fail
  go_ret
  exact ⟨rfl,aO⟩
def Sn (a b:Int × Int):Value:=if a.2≠0 then aF #[aB #[Z I 0,Z I 0],Z I a.2] else if b.2≠0 then aF #[aB #[Z I 0,Z I 0],Z I b.2] else
 if jy a.1 b.1 then aF #[aB #[Z I a.1,Z I b.1],Z I 0] else aF #[aB #[Z I 0,Z I 0],Z I 6]
theorem IG (lo hi:Int) (f:Value) (F:FuncId) (caps free:Array Value) (a b:Int × Int) (w:World) (hf:f= .func (.func F) caps free)
  (h1:∀ W,Below w.heap.size w W→Calls Tryz.prog F (caps++#[Z I lo,aC false]) W (fun e w'=>e= ah (aF #[Z I a.1,Z I a.2])∧Below W.heap.size W w'))
  (h2:∀ W,Below w.heap.size w W→Calls Tryz.prog F (caps++#[Z I hi,aC true]) W (fun e w'=>e= ah (aF #[Z I b.1,Z I b.2])∧Below W.heap.size W w')) (hfr:free=#[])
  (hen:∀ args W,(callFunc F args).run Tryz.prog W= .ok (.enter F args) W) :
  Calls Tryz.prog 51 #[Z I lo,Z I hi,f] w (fun e w'=>e= ah (Sn a b)∧Below w.heap.size w w'):=by
 subst hf hfr;obtain ⟨a1,a2⟩:=a;obtain ⟨b1,b2⟩:=b;have H1:=zh h1;have H2:=zh h2;have HO:=zh (fun W=>vD a1 b1 W);unfold Sn;simp only;clear h1 h2;go_enter Tryz.func51,Tryz.ntmps51
 go_wp2_with fail
 refine (H1.out _ aO).mono ?_;rintro e w1 ⟨rfl,hb1⟩;have hx:=aA.later (aA.new w #[Z I 0,Z I 0] 26) hb1;have HX:=zh hx;have HB1:=zh (Bt (show Below w.heap.size w (w.alloc (.cells #[Z I 0,Z I 0] 26)) from aO) hb1);clear hx hb1
 by_cases ha:a2=0
 ·subst ha;go_wp2_with fail
  refine (H2.out _ HB1.out).mono ?_;rintro e w2 ⟨rfl,hb2⟩;replace HX:=zh (HX.out.later hb2);have HB2:=zh (Bt HB1.out hb2);clear hb2 HB1
  by_cases hb:b2=0
  ·subst hb;go_wp2_with fail
   refine (HO.out _).mono ?_;rintro e w3 ⟨rfl,hb3⟩;replace HX:=zh (HX.out.later hb3);have HB3:=zh (Bt HB2.out hb3);clear hb3 HB2;have hx:=HX.out;have cx:=hx.cell;have fx:=hx.free;have lx:=hx.lt;have hw:=HB3.out;cases hk:jy a1 b1
   all_goals
    go_wp2_with fail
    refine bE rfl rfl aY Tryz.underlying26 rfl zk ?_;exact ⟨by first|rfl|(rw [if_neg (fun h=>h rfl),if_neg (fun h=>h rfl),hk];rfl),aO⟩
  ·have g:(b2 == 0)=false:=beq_eq_false_iff_ne.2 hb;have hx:=HX.out;have cx:=hx.cell;have fx:=hx.free;have lx:=hx.lt;have hw:=HB2.out;go_wp2_with fail
   refine bE rfl rfl aY Tryz.underlying26 rfl zk ?_;exact ⟨by first|rfl|(rw [if_neg (fun h=>h rfl),if_pos hb];rfl),aO⟩
 ·have g:(a2 == 0)=false:=beq_eq_false_iff_ne.2 ha;have hx:=HX.out;have cx:=hx.cell;have fx:=hx.free;have lx:=hx.lt;have hw:=HB1.out;go_wp2_with fail
  refine bE rfl rfl aY Tryz.underlying26 rfl zk ?_;exact ⟨by first|rfl|(rw [if_pos ha];rfl),aO⟩
end Go.Proofs.power
namespace Go.Num
def UK (k:Nat):Nat→Nat→Nat
 | 0,_=>0
 | f+1,n=>if (2*UK k f (n / 2^k)+1)^k≤n then 2*UK k f (n / 2^k)+1 else 2*UK k f (n / 2^k)
def gX (k n:Nat):Nat:=UK k (n.log2 / k+1) n
theorem FM {k:Nat} (hk:0<k):∀ f n,n<2^(k*f)→UK k f n^k≤n∧n<(UK k f n+1)^k
 | 0,n,h=>by
  have:n=0:=by simpa using h
  subst this;refine ⟨?_,?_⟩
  ·show 0^k≤0
   rw [Nat.zero_pow hk];omega
  ·show 0<(0+1)^k
   simp
 | f+1,n,h=>by
  have hp:0<2^k:=Nat.pow_pos zo
  have h1:n / 2^k<2^(k*f):=by
   rw [bO hp,← eG];rw [aU] at h
   simpa using h
  obtain ⟨a,b⟩:=FM hk f _ h1;unfold UK;generalize UK k f (n / 2^k)=r at *
  have e:(2*r)^k≤n:=by
   rw [Nat.mul_pow];have:=aM (2^k) a;have:=Nat.mul_div_le n (2^k);omega
  have e2:n<(2*r+1+1)^k:=by
   have h2:n<2^k*(n / 2^k+1):=by
    have:=Nat.lt_mul_div_succ n hp;exact this
   have h3:=aM (2^k) b;rw [show 2*r+1+1=2*(r+1) by omega,Nat.mul_pow];exact aP h2 h3
  split
  ·rename_i h4;exact ⟨h4,e2⟩
  ·rename_i h4;exact ⟨e,by omega⟩
theorem ku {k:Nat} (hk:0<k) (n:Nat):gX k n^k≤n∧n<(gX k n+1)^k:=by
 refine FM hk _ _ ?_;refine aP (Nat.lt_log2_self (n:=n)) (bX zo ?_);have:=Nat.lt_mul_div_succ n.log2 hk;omega
theorem FN {k n r:Nat} (hk:0<k) (h:n<(r+1)^k):gX k n≤r:=by
 obtain ⟨a,b⟩:=ku hk n
 have c:gX k n<r+1:=by
  refine Nat.lt_of_not_le fun h=>?_;have:=Nat.pow_le_pow_left h k;omega
 omega
theorem uQ {k n r:Nat} (hk:0<k) (h:r^k≤n):r≤gX k n:=by
 obtain ⟨a,b⟩:=ku hk n
 have c:r<gX k n+1:=by
  refine Nat.lt_of_not_le fun h=>?_;have:=Nat.pow_le_pow_left h k;omega
 omega
theorem ZB (r x k:Nat):r^k*x+r*x^k≤x^(k+1)+r^(k+1):=by
 rw [bF,bF]
 rcases Nat.le_total r x with h|h
 ·have hk:=Nat.pow_le_pow_left h k;obtain ⟨d,rfl⟩:=Nat.exists_eq_add_of_le h;obtain ⟨e,he⟩:=Nat.exists_eq_add_of_le hk;rw [he];generalize r^k=a;have:(a+e)*(r+d)+a*r=a*(r+d)+r*(a+e)+e*d:=by grind
  omega
 ·have hk:=Nat.pow_le_pow_left h k;obtain ⟨d,rfl⟩:=Nat.exists_eq_add_of_le h;obtain ⟨e,he⟩:=Nat.exists_eq_add_of_le hk;rw [he];generalize x^k=a;have:a*x+(a+e)*(x+d)=(a+e)*x+(x+d)*a+e*d:=by grind
  omega
theorem means (r x:Nat):∀ k,(k+1)*r*x^k≤k*x^(k+1)+r^(k+1)
 | 0=>by simp
 | k+1=>by
  have ih:=aZ x (means r x k);have h:=ZB r x (k+1);have e1:(k+1+1)*r*x^(k+1)=(k+1)*r*x^k*x+r*x^(k+1):=by rw [bF];grind
  have e2:(k+1)*x^(k+1+1)=k*x^(k+1)*x+x^(k+1+1):=by rw [bF x (k+1)];grind
  have e3:(k*x^(k+1)+r^(k+1))*x=k*x^(k+1)*x+r^(k+1)*x:=by rw [dH]
  omega
def IK (k m x:Nat):Nat:=(x*(k - 1)+m / x^(k - 1)) / k
theorem Sz {k m x:Nat} (hk:0<k) (hx:0<x):gX k m≤IK k m x:=by
 obtain ⟨a, -⟩:=ku hk m;generalize gX k m=r at *;obtain ⟨j,rfl⟩:=Nat.exists_eq_add_of_le' hk;unfold IK;rw [Nat.add_sub_cancel];rw [Nat.le_div_iff_mul_le zo];replace a:r^(j+1)≤m:=a
 show r*(j+1)≤_
 have hm:=means r x j;have hp:0<x^j:=Nat.pow_pos hx
 have h1:r*(j+1) - x*j≤m / x^j:=by
  rw [Nat.le_div_iff_mul_le hp,Nat.sub_mul];have e1:(j+1)*r*x^j=r*(j+1)*x^j:=by rw [aL (j+1)]
  have e2:j*x^(j+1)=x*j*x^j:=by rw [bF];grind
  omega
 omega
theorem OV {k m x:Nat} (hk:0<k) (hx:0<x) (h1:gX k m≤x) (h2:x≤IK k m x):x=gX k m:=by
 obtain ⟨j,rfl⟩:=Nat.exists_eq_add_of_le' hk;unfold IK at h2;rw [Nat.add_sub_cancel] at h2;rw [Nat.le_div_iff_mul_le zo] at h2;have hp:0<x^j:=Nat.pow_pos hx;have h3:x≤m / x^j:=by rw [Nat.mul_succ] at h2;omega
 rw [Nat.le_div_iff_mul_le hp] at h3;have h4:x^(j+1)≤m:=by rw [bF,aL];exact h3
 have:=uQ hk h4;omega
theorem IJ {k m l:Nat} (hk:0<k) (h:m<10^l):gX k m≤10^(l / k+1):=by
 refine FN hk ?_;have h1:(10^(l / k+1))^k≤(10^(l / k+1)+1)^k:=Nat.pow_le_pow_left zo k;rw [← Nat.pow_mul] at h1
 have h2:10^l≤10^((l / k+1)*k):=bX zo (by
  have:=Nat.lt_mul_div_succ l hk;rw [aL];omega)
 omega
end Go.Num
namespace Go.Num
def jr (n p q:Nat):Nat:=n^p*10^(12*q) / 10^(12*p)
def nV (n p q:Nat):Nat:=gX q (jr n p q)
def J7 (n p q:Nat):Bool:=decide (nV n p q^q*10^(12*p)=n^p*10^(12*q))
def phi (n p q:Nat):Nat:=if J7 n p q then nV n p q else nV n p q+1
theorem nY (k:Nat):0<10^k:=Nat.pow_pos zo
theorem Fp {n p q:Nat} (h:p≤q):jr n p q=n^p*10^(12*(q - p)):=by
 unfold jr;rw [show 12*q=12*(q - p)+12*p by omega,eG,← bV,Nat.mul_div_cancel _ (nY _)]
theorem Fq {n p q:Nat} (h:q≤p):jr n p q=n^p / 10^(12*(p - q)):=by
 unfold jr;rw [show 12*p=12*(p - q)+12*q by omega,eG,Nat.mul_div_mul_right _ _ (nY _)]
theorem zQ {n p q x:Nat}:x≤jr n p q↔x*10^(12*p)≤n^p*10^(12*q):=by
 unfold jr;exact Nat.le_div_iff_mul_le (nY _)
theorem uO {q:Nat} (hq:0<q) (n p:Nat):nV n p q^q*10^(12*p)≤n^p*10^(12*q)∧n^p*10^(12*q)<(nV n p q+1)^q*10^(12*p):=by
 obtain ⟨h1,h2⟩:=ku hq (jr n p q);refine ⟨zQ.1 h1,?_⟩;rw [← Nat.not_le];exact fun h=>absurd (zQ.2 h) (Nat.not_le.2 h2)
theorem IX {n p q r:Nat} (hq:0<q) (h:r^q*10^(12*p)≤n^p*10^(12*q)):r≤nV n p q:=uQ hq (zQ.2 h)
theorem zu (n p q:Nat):nV n p q≤phi n p q∧phi n p q≤nV n p q+1:=by
 unfold phi;split<;>omega
theorem OB {q:Nat} (hq:0<q) (n p:Nat):n^p*10^(12*q)≤phi n p q^q*10^(12*p):=by
 unfold phi;split
 ·rename_i h;exact Nat.le_of_eq (of_decide_eq_true h).symm
 ·exact Nat.le_of_lt (uO hq n p).2
theorem OC {n p q r:Nat} (hq:0<q) (h:n^p*10^(12*q)≤r^q*10^(12*p)):phi n p q≤r:=by
 have s:=uO hq n p
 have hr:nV n p q≤r:=by
  rcases aH r (nV n p q) with h1|h1
  ·have a:=ay s.1 h;have b:r^q*10^(12*p)<nV n p q^q*10^(12*p):=(Nat.mul_lt_mul_right (nY _)).2 (Nat.pow_lt_pow_left h1 zo);omega
  ·exact h1
 unfold phi;split
 ·exact hr
 ·rename_i h1
  rcases Nat.eq_or_lt_of_le hr with e|h2
  ·refine absurd ?_ h1;rw [← e] at h;unfold J7;exact decide_eq_true (Nat.le_antisymm s.1 h)
  ·omega
theorem RG {B k:Nat} (h:B=10^k) (b:Nat):10^(k+b)=B*10^b:=by rw [h,eG]
theorem Sg {n p q:Nat} (hq:0<q) (p36:p≤36) (UA:q≤12) (h:10^600≤n^p):10^18<nV n p q:=by
 obtain ⟨B,eB⟩:∃ B,B=10^600:=⟨_,rfl⟩;rw [← eB] at h;refine IX hq ?_
 have h1:(10^18+1)^q≤2^q*10^(18*q):=by
  rw [Nat.pow_mul,← Nat.mul_pow];exact Nat.pow_le_pow_left zd q
 have h2:2^q≤2^12:=bX zo UA;have h3:2^12≤10^4:=by decide
 have h4:(10^18+1)^q≤10^(4+18*q):=by
  rw [eG];exact ay h1 (aZ _ (ay h2 h3))
 calc (10^18+1)^q*10^(12*p)≤10^(4+18*q)*10^(12*p):=aZ _ h4
  _=10^(4+18*q+12*p):=(eG ..).symm
  _≤10^(600+12*q):=bX zo zo
  _=B*10^(12*q):=RG eB _
  _≤n^p*10^(12*q):=aZ _ h
end Go.Num
namespace Go.Num
theorem V9 {n p q:Nat} (h:p≤q):J7 n p q=decide (nV n p q^q=jr n p q):=by
 unfold J7;rw [Fp h,show 12*q=12*(q - p)+12*p by omega,eG 10,← bV];exact decide_eq_decide.2 ⟨fun e=>Nat.eq_of_mul_eq_mul_right (nY _) e,fun e=>by rw [e]⟩
theorem Wd {n p q:Nat} (hq:0<q) (h:q≤p):J7 n p q=(decide (nV n p q^q=jr n p q)&&decide (n^p%10^(12*(p - q))=0)):=by
 have hs:=(ku hq (jr n p q)).1;have hd:=bU (n^p) (10^(12*(p - q)));have hp:=nY (12*(p - q));unfold J7;rw [Bool.and_eq_decide];refine decide_eq_decide.2 ?_;rw [show 12*p=12*(p - q)+12*q by omega,eG 10,← bV];rw [← Fq h] at hd
 change nV n p q^q≤jr n p q at hs
 simp only [decide_eq_true_eq]
 constructor
 ·intro e;have e:=Nat.eq_of_mul_eq_mul_right (nY _) e
  have h1:nV n p q^q*10^(12*(p - q))≤10^(12*(p - q))*jr n p q:=by
   rw [aL];exact aM _ hs
  refine ⟨?_,by omega⟩;refine Nat.eq_of_mul_eq_mul_right hp ?_;rw [aL (jr n p q)];omega
 ·rintro ⟨e1,e2⟩;rw [e1,← hd,e2,gL,aL (jr n p q)]
theorem QE {q x:Nat} (hq:0<q) (UA:q≤12) (h:10^600≤x):10^18<gX q x:=by
 refine uQ hq (ay ?_ h);have h1:(10^18+1)^q≤(10^18+1)^12:=bX zo UA;have h2:(10^18+1)^12≤10^600:=by decide+kernel
 exact ay h1 h2
def xL (n p q:Nat) (up:Bool):Int × Int:=if nV n p q≤10^18 then (((if up then phi n p q else nV n p q:Nat):Int),0) else (0,6)
theorem TB {n p q:Nat} {up:Bool} (h:nV n p q≤10^18):xL n p q up=(((nV n p q:Nat):Int)+(if (up&& !(J7 n p q)) then 1 else 0),0):=by
 unfold xL phi;rw [if_pos h];cases up<;>cases J7 n p q<;>simp
end Go.Num
namespace Go.Num
structure Cm (b Y1 Y0 un d q r:Nat):Prop where
 h1:q*Y1+r=un
 h2:(un*b+d) / (Y1*b+Y0)≤q
theorem Cm.start {b Y1 Y0 un d:Nat} (hb:0<b) (hY:0<Y1) (hd:d<b):Cm b Y1 Y0 un d (un / Y1) (un - un / Y1*Y1):=by
 have h:=Nat.div_mul_le_self un Y1;refine ⟨by omega,?_⟩
 have e:(un*b+d) / b=un:=by
  rw [aL,Nat.mul_add_div hb,iB hd,gL]
 calc (un*b+d) / (Y1*b+Y0)≤(un*b+d) / (Y1*b):=Nat.div_le_div_left zo (fV hY hb)
  _=(un*b+d) / b / Y1:=by rw [Nat.div_div_eq_div_mul,aL Y1 b]
  _=un / Y1:=by rw [e]
theorem Cm.step {b Y1 Y0 un d q r:Nat} (h:Cm b Y1 Y0 un d q r) (hY:0<Y1) (hd:d<b) (hun:un<Y1*b+Y0) (c:b≤q∨b*r+d<q*Y0):Cm b Y1 Y0 un d (q - 1) (r+Y1)∧1≤q:=by
 obtain ⟨h1,h2⟩:=h;have hb:0<b:=by omega
 have Tp:0<Y1*b+Y0:=by have:=fV hY hb;omega
 have key:(un*b+d) / (Y1*b+Y0)<q:=by
  rcases c with c|c
  ·refine aP ?_ c;rw [bO Tp];have:(un+1)*b≤(Y1*b+Y0)*b:=aZ b hun;rw [Nat.succ_mul] at this;rw [aL b];omega
  ·rw [bO Tp];have e1:un*b=q*Y1*b+b*r:=by rw [← h1,dH,aL r b]
   rw [aU,← bV,e1];omega
 have hq:1≤q:=Nat.lt_of_le_of_lt (Nat.zero_le _) key;refine ⟨⟨?_,Nat.le_sub_one_of_lt key⟩,hq⟩
 have:q*Y1=(q - 1)*Y1+Y1:=by
  conv=>lhs;rw [show q=q - 1+1 by omega,Nat.succ_mul]
 omega
theorem Cm.stop {b Y1 Y0 un d q r:Nat} (h:Cm b Y1 Y0 un d q r) (hY:0<Y1) (hb:0<b) (c:q*Y0≤b*r+d):q=(un*b+d) / (Y1*b+Y0):=by
 obtain ⟨h1,h2⟩:=h;have Tp:0<Y1*b+Y0:=by have:=fV hY hb;omega
 refine Nat.le_antisymm ?_ h2;rw [Nat.le_div_iff_mul_le Tp,aU,← bV,← h1,dH,aL r b];omega
theorem Cm.brk {b Y1 Y0 un d q r:Nat} (h:Cm b Y1 Y0 un d q r) (hY:0<Y1) (hb:0<b) (hY0:Y0<b) (hun:un<Y1*b+Y0) (c:b≤r):q=(un*b+d) / (Y1*b+Y0):=by
 refine h.stop hY hb ?_
 have hq:q<b:=by
  have h1:=h.h1
  have:q*Y1<b*Y1:=by
   rw [aL b Y1];omega
  exact Nat.lt_of_mul_lt_mul_right this
 have a1:q*Y0≤b*b:=dU (Nat.le_of_lt hq) (Nat.le_of_lt hY0);have a2:b*b≤b*r:=aM b c;omega
theorem TG {b un d1 d0 Y:Nat} (hY:0<Y):((un*b+d1) / Y)*b+((un*b+d1)%Y*b+d0) / Y=(un*b*b+d1*b+d0) / Y∧((un*b+d1)%Y*b+d0)%Y=(un*b*b+d1*b+d0)%Y:=by
 have h:=bU (un*b+d1) Y
 have e:un*b*b+d1*b+d0=Y*((un*b+d1) / Y*b)+((un*b+d1)%Y*b+d0):=by
  have:un*b*b+d1*b=(un*b+d1)*b:=by rw [dH]
  rw [this]
  conv=>lhs;rw [← h,dH]
  rw [← bV,Nat.add_assoc]
 rw [e];refine ⟨?_,?_⟩
 ·rw [Nat.mul_add_div hY]
 ·rw [Nat.mul_add_mod]
theorem shifted {hi lo s:Nat} (hs:s≤63) (SK:lo<18446744073709551616) :
  (hi*2^s+lo / 2^(64 - s))*4294967296*4294967296+lo*2^s%18446744073709551616 / 4294967296*4294967296+lo*2^s%18446744073709551616%4294967296=(hi*18446744073709551616+lo)*2^s∧lo / 2^(64 - s)<2^s:=by
 have e:(18446744073709551616:Nat)=2^(64 - s)*2^s:=by
  rw [← eG,show 64 - s+s=64 by omega]
 have h1:lo*2^s / 18446744073709551616=lo / 2^(64 - s):=by
  conv=>lhs;rw [e]
  exact Nat.mul_div_mul_right _ _ (Nat.pow_pos zo)
 have h2:=bU (lo*2^s) 18446744073709551616;have h3:=bU (lo*2^s%18446744073709551616) 4294967296;refine ⟨?_,?_⟩
 ·rw [h1] at h2
  have h4:(hi*18446744073709551616+lo)*2^s=hi*2^s*18446744073709551616+lo*2^s:=by
   rw [dH,Nat.mul_right_comm]
  rw [h4];omega
 ·rw [bO (Nat.pow_pos zo),aL,← e];exact SK
end Go.Num
namespace Go.Proofs.bits
open Go Go.RowKit Go.SW Go.Num Go.Mem Go.Proofs Go.Shelf
theorem O7 {y:Nat} (h0:0<y) (h:y<18446744073709551616):∃ s:Nat,s≤63∧(64:Int) - (Lib.bitLen y:Int)=(s:Int)∧9223372036854775808≤y*2^s∧y*2^s<18446744073709551616:=by
 obtain ⟨h1,h2,h3⟩:=Lib.bitLenAux_bounds 64 y h zo;have h4:=Lib.bitLen_le y 64 zo h;have e:Lib.bitLenAux 64 y=Lib.bitLen y:=rfl;rw [e] at h1 h2 h3;generalize Lib.bitLen y=b at *;refine ⟨64 - b,by omega,by omega,?_,?_⟩
 ·have:2^(b - 1)*2^(64 - b)≤y*2^(64 - b):=aZ _ h2;rw [← eG,show b - 1+(64 - b)=63 by omega] at this
  simpa using this
 ·have:y*2^(64 - b)<2^b*2^(64 - b):=Nat.mul_lt_mul_of_pos_right h3 (Nat.pow_pos zo);rw [← eG,show b+(64 - b)=64 by omega] at this
  simpa using this
def Uc (Y1 Y0 L1 L0:Nat):Prop:=2147483648≤Y1∧Y1<4294967296∧Y0<4294967296∧L1<4294967296∧L0<4294967296
theorem Xm {Y1 Y0 U d q r:Nat} (h:Cm 4294967296 Y1 Y0 U d q r) (h1:2147483648≤Y1) (hU:U<18446744073709551616):q<18446744073709551616:=by
 have e:=h.h1
 rcases bA q with h|h
 ·omega
 ·have:=Nat.le_mul_of_pos_right q (show 0<Y1 by omega);omega
theorem pX {Y1 Y0 L1 L0 U d q r:Nat} (h:Cm 4294967296 Y1 Y0 U d q r) (hr:r<4294967296) (hb:Uc Y1 Y0 L1 L0) (hU:U<Y1*4294967296+Y0) (hd:d<4294967296) (c:4294967296≤q∨4294967296*r+d<q*Y0) :
  ∃ q' r':Nat,Hid (Cm 4294967296 Y1 Y0 U d q' r')∧Hid (q'<q)∧IntKind.u64.wrap ((q:Int) - 1)=(q':Int)∧IntKind.u64.wrap ((r:Int)+(Y1:Int))=(r':Int):=by
 unfold Uc at hb;have hq:=Xm h hb.1 zo;obtain ⟨hd2,hq1⟩:=h.step zo hd hU c;refine ⟨_,_,zh hd2,zh zo,?_,?_⟩
 ·rw [IntKind.wrap_u64];omega
 ·rw [IntKind.wrap_u64];omega
theorem qx {Y1 Y0 L1 L0 d q r:Nat} (hq:q<4294967296) (hr:r<4294967296) (hb:Uc Y1 Y0 L1 L0) (hd:d<4294967296) :
  ∃ T V:Nat,Hid (q*Y0=T)∧Hid (4294967296*r+d=V)∧IntKind.u64.wrap ((q:Int)*(Y0:Int))=(T:Int)∧IntKind.u64.wrap (IntKind.u64.wrap (4294967296*(r:Int))+(d:Int))=(V:Int):=by
 unfold Uc at hb;refine ⟨_,_,zh rfl,zh rfl,?_,?_⟩
 ·have:q*Y0≤4294967295*4294967295:=dU zo zo;rw [← Int.natCast_mul,IntKind.wrap_u64];generalize q*Y0=T at *;omega
 ·rw [IntKind.wrap_u64,IntKind.wrap_u64];omega
theorem BH {U d Y q:Nat} (hY:0<Y) (hq:q=(U*4294967296+d) / Y) (hd:d<4294967296) (Tq:Y<18446744073709551616) :
  IntKind.u64.wrap (IntKind.u64.wrap (IntKind.u64.wrap ((U:Int)*4294967296)+(d:Int)) - IntKind.u64.wrap ((q:Int)*(Y:Int)))=(((U*4294967296+d)%Y:Nat):Int):=by
 have h:=bU (U*4294967296+d) Y;have hm:=iD (U*4294967296+d) hY;rw [← hq] at h;have e:(q:Int)*(Y:Int)=((Y*q:Nat):Int):=by rw [Int.natCast_mul,Int.mul_comm]
 rw [e];generalize Y*q=T at *;generalize (U*4294967296+d)%Y=V at *;rw [IntKind.wrap_u64,IntKind.wrap_u64,IntKind.wrap_u64,IntKind.wrap_u64];omega
theorem pY {U L1 L0 Y Y1 Y0 q:Nat} (hq:q=(U*4294967296+L1) / (Y1*4294967296+Y0)) (hY:Y1*4294967296+Y0=Y) (hb:Uc Y1 Y0 L1 L0) (hUY:U<Y) (Tq:Y<18446744073709551616) :
  ∃ W q0 r0:Nat,Hid (W=(U*4294967296+L1)%Y)∧Hid (W<Y)∧IntKind.u64.wrap (IntKind.u64.wrap (IntKind.u64.wrap ((U:Int)*4294967296)+(L1:Int)) - IntKind.u64.wrap ((q:Int)*(Y:Int)))=(W:Int)∧IntKind.u64.wrap ((W:Int) / (Y1:Int))=(q0:Int)∧IntKind.u64.wrap ((W:Int) - IntKind.u64.wrap ((q0:Int)*(Y1:Int)))=(r0:Int)∧Hid (r0<4294967296)∧Hid (∀ d,d<4294967296→Cm 4294967296 Y1 Y0 W d q0 r0):=by
 unfold Uc at hb;rw [hY] at hq;have UR:0<Y:=by omega
 have h1:=BH UR hq hb.2.2.2.1 Tq;have hm:=iD (U*4294967296+L1) UR;obtain ⟨W,eW⟩:∃ W,(U*4294967296+L1)%Y=W:=⟨_,rfl⟩;rw [eW] at h1 hm;refine ⟨W,W / Y1,W - W / Y1*Y1,zh eW.symm,zh hm,h1,?_,?_,zh ?_,zh fun d hd=>Cm.start zo zo hd⟩
 ·rw [← Int.natCast_ediv,IntKind.wrap_u64];have:=Nat.div_le_self W Y1;generalize W / Y1=q at *;omega
 ·have:=Nat.div_mul_le_self W Y1;rw [← Int.natCast_mul,IntKind.wrap_u64,IntKind.wrap_u64];omega
 ·have h2:=bU W Y1;have h3:=iD W (show 0<Y1 by omega);rw [aL] at h2;omega
theorem jh {U L1 L0 Y Y1 Y0 q q0 W:Nat} (hq:q=(U*4294967296+L1) / (Y1*4294967296+Y0)) (hq0:q0=(W*4294967296+L0) / (Y1*4294967296+Y0)) (hW:W=(U*4294967296+L1)%Y) (hb:Uc Y1 Y0 L1 L0) (hY:Y1*4294967296+Y0=Y) (Tq:Y<18446744073709551616) (hN:(U*4294967296*4294967296+L1*4294967296+L0) / Y<18446744073709551616) :
  IntKind.u64.wrap (IntKind.u64.wrap ((q:Int)*4294967296)+(q0:Int))=(((U*4294967296*4294967296+L1*4294967296+L0) / Y:Nat):Int)∧IntKind.u64.wrap (IntKind.u64.wrap (IntKind.u64.wrap ((W:Int)*4294967296)+(L0:Int)) - IntKind.u64.wrap ((q0:Int)*(Y:Int)))=(((U*4294967296*4294967296+L1*4294967296+L0)%Y:Nat):Int):=by
 unfold Uc at hb;rw [hY] at hq hq0;have UR:0<Y:=by omega
 obtain ⟨h1,h2⟩:=TG (b:=4294967296) (un:=U) (d1:=L1) (d0:=L0) UR;rw [← hq,← hW,← hq0] at h1;rw [← hW] at h2;refine ⟨?_,?_⟩
 ·rw [← h1] at hN ⊢;rw [IntKind.wrap_u64,IntKind.wrap_u64];omega
 ·rw [BH UR hq0 hb.2.2.2.2 Tq,h2]
theorem Q8 (hi lo y:Nat) (hy:hi<y) (y64:y<18446744073709551616) (SK:lo<18446744073709551616) (w:World) :
  Calls Tryz.prog 110 #[Z .u64 (hi:Int),Z .u64 (lo:Int),Z .u64 (y:Int)] w (fun e w'=>e= ah (aF #[Z .u64 (((hi*18446744073709551616+lo) / y:Nat):Int),Z .u64 (((hi*18446744073709551616+lo)%y:Nat):Int)])∧Below w.heap.size w w'):=by
 have q1:¬ (y:Int)=0:=by omega
 have q2:¬ (y:Int)≤(hi:Int):=by omega
 by_cases h0:hi=0
 ·subst h0;go_enter Tryz.func110,Tryz.ntmps110
  go_wp2_with fail
  refine aQ [(.pure,0),(.pure,1),(.pure,2),(.pure,3),(.pure,4),(.pure,5),(.fin,6),(.fin,7)] zk zk zR zP ?_;refine Wk.out ?_
  (iterate 6 refine zU ?_)
  refine NM [_,_] rfl (fun wf hbf=>?_);go_wp2_with fail
  go_ret2
  have e1:IntKind.u64.wrap ((lo:Int) / (y:Int))=(((0*18446744073709551616+lo) / y:Nat):Int):=by
   rw [Nat.zero_mul,dS,IntKind.wrap_u64];have:=Nat.div_le_self lo y;rw [← Int.natCast_ediv];generalize lo / y=q at *;omega
  have e2:(lo:Int)%(y:Int)=(((0*18446744073709551616+lo)%y:Nat):Int):=by
   rw [Nat.zero_mul,dS];omega
  rw [e1,e2];exact ⟨rfl,((Below.refl _ w).drew.trans (hbf.mono (aG _)))⟩
 ·obtain ⟨s,hs,e1,e2,e3⟩:=O7 (y:=y) zo y64;have LZ:=zh (fun W=>(Tryz.bits_LeadingZeros64 (y:Int) W zo zo));rw [Int.toNat_natCast,e1] at LZ;have q3:¬ (hi:Int)=0:=by omega
  obtain ⟨hN,hlt⟩:=shifted (hi:=hi) hs SK;have hm:min s 64=s:=by omega
  have hp2:0<2^s:=Nat.pow_pos zo;have hw:IntKind.u64.wrap (s:Int)=(s:Int):=by rw [IntKind.wrap_u64];omega
  have hAY:hi*2^s+2^s≤y*2^s:=by
   have:=aZ (2^s) hy;rw [Nat.succ_mul] at this;exact this
  have cY:(y:Int)*2^s=((y*2^s:Nat):Int):=by simp
  have cA:(hi:Int)*2^s=((hi*2^s:Nat):Int):=by simp
  have cL:(lo:Int)*2^s=((lo*2^s:Nat):Int):=by simp
  have cB:(lo:Int) / 2^(64 - s)=((lo / 2^(64 - s):Nat):Int):=by simp
  have hOr:bits BinOp.or IntKind.u64 ((hi*2^s:Nat):Int) ((lo / 2^(64 - s):Nat):Int)=((hi*2^s+lo / 2^(64 - s):Nat):Int):=by
   rw [bits_or_u64_nat _ _ zo (by have:=Nat.div_le_self lo (2^(64 - s));omega)]
   congr 1
   rw [aL hi];exact (Nat.two_pow_add_eq_or_of_lt hlt hi).symm
  have hyd:∀ a:Nat,a / y=a*2^s / (y*2^s)∧a%y=a*2^s%(y*2^s) / 2^s:=fun a=>by
   have hp:0<2^s:=Nat.pow_pos zo;refine ⟨(Nat.mul_div_mul_right _ _ hp).symm,?_⟩;rw [Nat.mul_mod_mul_right,Nat.mul_div_cancel _ hp]
  have YH:(hi*18446744073709551616+lo) / y<18446744073709551616:=by
   rw [bO zo];omega
  rw [(hyd _).1,← hN] at YH;rw [(hyd _).1,(hyd _).2,← hN];have cS:∀ a:Nat,(a:Int) / 2^s=((a / 2^s:Nat):Int):=fun a=>by simp
  have UR:2^63≤y*2^s:=e2;obtain ⟨Y,eY⟩:∃ Y,y*2^s=Y:=⟨_,rfl⟩;obtain ⟨A,eA⟩:∃ A,hi*2^s=A:=⟨_,rfl⟩;obtain ⟨B,eB⟩:∃ B,lo / 2^(64 - s)=B:=⟨_,rfl⟩;obtain ⟨L,eL⟩:∃ L,lo*2^s=L:=⟨_,rfl⟩;rw [eY,eA] at hAY;rw [eY] at e2 e3 cY UR;rw [eA] at cA;rw [eL] at cL;rw [eB] at cB hlt;rw [eA,eB] at hOr;rw [eY,eA,eB,eL];rw [eY,eA,eB,eL] at YH;obtain ⟨L',eL'⟩:∃ L',L%18446744073709551616=L':=⟨_,rfl⟩;obtain ⟨U,eU⟩:∃ U,A+B=U:=⟨_,rfl⟩;rw [eU] at hOr;rw [eL',eU];rw [eL',eU] at YH;have hUY:U<Y:=by omega
  have w1:IntKind.u64.wrap (Y:Int)=(Y:Int):=by rw [IntKind.wrap_u64];omega
  have w2:IntKind.u64.wrap (A:Int)=(A:Int):=by rw [IntKind.wrap_u64];omega
  have w3:IntKind.u64.wrap (L:Int)=(L':Int):=by rw [IntKind.wrap_u64];omega
  have a1:bits BinOp.and IntKind.u64 (Y:Int) 4294967295=((Y%4294967296:Nat):Int):=Mul64.maskN Y zo;have a2:bits BinOp.and IntKind.u64 (L':Int) 4294967295=((L'%4294967296:Nat):Int):=Mul64.maskN L' zo;have d1:(Y:Int) / 4294967296=((Y / 4294967296:Nat):Int):=by omega
  have d2:(L':Int) / 4294967296=((L' / 4294967296:Nat):Int):=by omega
  have Tp:Y / 4294967296*4294967296+Y%4294967296=Y:=by rw [aL];exact bU Y 4294967296
  obtain ⟨Y1,eY1⟩:∃ Y1,Y / 4294967296=Y1:=⟨_,rfl⟩;obtain ⟨Y0,eY0⟩:∃ Y0,Y%4294967296=Y0:=⟨_,rfl⟩;obtain ⟨L1,eL1⟩:∃ L1,L' / 4294967296=L1:=⟨_,rfl⟩;obtain ⟨L0,eL0⟩:∃ L0,L'%4294967296=L0:=⟨_,rfl⟩;have b1:2147483648≤Y1∧Y1<4294967296∧Y0<4294967296∧L1<4294967296∧L0<4294967296:=by omega
  rw [eY1] at d1 Tp;rw [eY0] at a1 Tp;rw [eL1] at d2;rw [eL0] at a2;rw [eL1,eL0];rw [eL1,eL0] at YH;obtain ⟨hst⟩:Nonempty (Cm 4294967296 Y1 Y0 U L1 (U / Y1) (U - U / Y1*Y1)):=⟨Cm.start zo zo zo⟩
  have hQ:IntKind.u64.wrap ((U:Int) / (Y1:Int))=((U / Y1:Nat):Int):=by
   rw [← Int.natCast_ediv,IntKind.wrap_u64];have:=Nat.div_le_self U Y1;generalize U / Y1=q at *;omega
  have hr1:=Nat.div_mul_le_self U Y1
  have hr2:U - U / Y1*Y1<Y1:=by
   have:=bU U Y1;have:=iD U (show 0<Y1 by omega);rw [aL] at hr1 ⊢;omega
  have hR:IntKind.u64.wrap ((U:Int) - IntKind.u64.wrap (((U / Y1:Nat):Int)*(Y1:Int)))=((U - U / Y1*Y1:Nat):Int):=by
   rw [← Int.natCast_mul,IntKind.wrap_u64,IntKind.wrap_u64];omega
  obtain ⟨q,eq⟩:∃ q,U / Y1=q:=⟨_,rfl⟩;obtain ⟨r,er⟩:∃ r,U - U / Y1*Y1=r:=⟨_,rfl⟩;rw [er,eq] at hst hR;rw [eq] at hQ;rw [er] at hr2;have e3':=e3;have HST:=zh hst;have Uo:=zh YH;have HB1:Hid (Uc Y1 Y0 L1 L0):=zh b1;have hz:¬ (Y1:Int)=0:=by omega
  have YT:=zh hUY;have yA:=zh Tp;clear YH y64 SK hst hN hlt hAY hyd e1 e2 e3 hr1 er eq b1 hUY Tp eY1 eY0 eL1 eL0 eU eL' eY eA eB eL UR;go_enter Tryz.func110,Tryz.ntmps110
  go_wp2_with fail
  refine (LZ.out _).mono ?_;rintro e w' ⟨rfl,rfl⟩;go_wp2_with fail
  have RL1:Hid (r<4294967296):=zh (by have:=HB1.out.2.1;omega);have Nz:=zh e3';have ST1:=HST;have vE:=zh (Below.refl w'.heap.size w');clear hr2 HST
  go_loopw [15,16] (fun qv rv wr=>∃ q r:Nat,qv= Z .u64 (q:Int)∧rv= Z .u64 (r:Int)∧Hid (Cm 4294967296 Y1 Y0 U L1 q r)∧Hid (r<4294967296)∧Hid (Below w'.heap.size w' wr)) (fun qv _ _=>(intOf qv).toNat)
  case atStart=>exact ⟨q,r,rfl,rfl,ST1,RL1,vE⟩
  case round =>
   clear ST1 RL1 vE;obtain ⟨q,r,rfl,rfl,HST,QX,vE⟩:=hrel;have HT:=zh (pX HST.out QX.out HB1.out (by rw [yA.out];exact YT.out) HB1.out.2.2.2.1)
   rcases aH q 4294967296 with h1|h1
   ·have g1:decide ((4294967296:Int)≤(q:Int))=false:=decide_eq_false zo;obtain ⟨T,V,H7,HE2,m1,m2⟩:=qx h1 QX.out HB1.out HB1.out.2.2.2.1;clear h1
    rcases aH V T with h2|h2
    ·have g2:(V:Int)<(T:Int):=by omega
     obtain ⟨q',r',HD,HL,w1,w2⟩:=HT.out (.inr (by rw [H7.out,HE2.out];exact h2));clear h2
     rcases aH r' 4294967296 with h3|h3
     ·have g3:decide ((4294967296:Int)≤(r':Int))=false:=decide_eq_false zo;have JB:=zh h3;clear h3;go_wp2_with fail
      go_roundw
      case rel=>exact ⟨q',r',rfl,rfl,HD,JB,vE⟩
      case measure=>have:=HL.out;simp [intOf];omega
     ·have g3:decide ((4294967296:Int)≤(r':Int))=true:=decide_eq_true zo;have HQ:=zh (HD.out.brk (aP zo HB1.out.1) zo HB1.out.2.2.1 ((by rw [yA.out];exact YT.out)) h3);clear h3;obtain ⟨W,q0,r0,HW,QO,x1,x2,x3,U9,Ve⟩:=pY HQ.out yA.out HB1.out YT.out Nz.out;have Nl:=HQ;have ST2:=zh (Ve.out L0 HB1.out.2.2.2.2);clear HQ Ve;go_wp2_with fail
      go_loopw [18,16] (fun qv rv wr=>∃ q r:Nat,qv= Z .u64 (q:Int)∧rv= Z .u64 (r:Int)∧Hid (Cm 4294967296 Y1 Y0 W L0 q r)∧Hid (r<4294967296)∧Hid (Below w'.heap.size w' wr)) (fun qv _ _=>(intOf qv).toNat)
      case atStart=>exact ⟨q0,r0,rfl,rfl,ST2,U9,vE⟩
      case round =>
       clear ST2 U9 vE;obtain ⟨q,r,rfl,rfl,HST,QX,vE⟩:=hrel;have HT:=zh (pX HST.out QX.out HB1.out (by rw [yA.out];exact QO.out) HB1.out.2.2.2.2)
       rcases aH q 4294967296 with h1|h1
       ·have g1:decide ((4294967296:Int)≤(q:Int))=false:=decide_eq_false zo;obtain ⟨T,V,H7,HE2,m1,m2⟩:=qx h1 QX.out HB1.out HB1.out.2.2.2.2;clear h1
        rcases aH V T with h2|h2
        ·have g2:(V:Int)<(T:Int):=by omega
         obtain ⟨q',r',HD,HL,w1,w2⟩:=HT.out (.inr (by rw [H7.out,HE2.out];exact h2));clear h2
         rcases aH r' 4294967296 with h3|h3
         ·have g3:decide ((4294967296:Int)≤(r':Int))=false:=decide_eq_false zo;have JB:=zh h3;clear h3;go_wp2_with fail
          go_roundw
          case rel=>exact ⟨q',r',rfl,rfl,HD,JB,vE⟩
          case measure=>have:=HL.out;simp [intOf];omega
         ·have g3:decide ((4294967296:Int)≤(r':Int))=true:=decide_eq_true zo;have HQ:=zh (HD.out.brk (aP zo HB1.out.1) zo HB1.out.2.2.1 ((by rw [yA.out];exact QO.out)) h3);clear h3;have HE:=zh (jh Nl.out HQ.out HW.out HB1.out yA.out Nz.out Uo.out);have e1:=HE.out.1;have e2:=HE.out.2;go_wp2_with fail
          go_ret2
          exact ⟨by simp,vE.out⟩
        ·have g2:¬ (V:Int)<(T:Int):=by omega
         have HQ:=zh (HST.out.stop (aP zo HB1.out.1) zo (by rw [H7.out,HE2.out];exact h2));clear h2;have HE:=zh (jh Nl.out HQ.out HW.out HB1.out yA.out Nz.out Uo.out);have e1:=HE.out.1;have e2:=HE.out.2;go_wp2_with fail
         go_ret2
         exact ⟨by simp,vE.out⟩
       ·have g1:decide ((4294967296:Int)≤(q:Int))=true:=decide_eq_true zo;obtain ⟨q',r',HD,HL,w1,w2⟩:=HT.out (.inl h1);clear h1
        rcases aH r' 4294967296 with h3|h3
        ·have g3:decide ((4294967296:Int)≤(r':Int))=false:=decide_eq_false zo;have JB:=zh h3;clear h3;go_wp2_with fail
         go_roundw
         case rel=>exact ⟨q',r',rfl,rfl,HD,JB,vE⟩
         case measure=>have:=HL.out;simp [intOf];omega
        ·have g3:decide ((4294967296:Int)≤(r':Int))=true:=decide_eq_true zo;have HQ:=zh (HD.out.brk (aP zo HB1.out.1) zo HB1.out.2.2.1 ((by rw [yA.out];exact QO.out)) h3);clear h3;have HE:=zh (jh Nl.out HQ.out HW.out HB1.out yA.out Nz.out Uo.out);have e1:=HE.out.1;have e2:=HE.out.2;go_wp2_with fail
         go_ret2
         exact ⟨by simp,vE.out⟩
    ·have g2:¬ (V:Int)<(T:Int):=by omega
     have HQ:=zh (HST.out.stop (aP zo HB1.out.1) zo (by rw [H7.out,HE2.out];exact h2));clear h2;obtain ⟨W,q0,r0,HW,QO,x1,x2,x3,U9,Ve⟩:=pY HQ.out yA.out HB1.out YT.out Nz.out;have Nl:=HQ;have ST2:=zh (Ve.out L0 HB1.out.2.2.2.2);clear HQ Ve;go_wp2_with fail
     go_loopw [18,16] (fun qv rv wr=>∃ q r:Nat,qv= Z .u64 (q:Int)∧rv= Z .u64 (r:Int)∧Hid (Cm 4294967296 Y1 Y0 W L0 q r)∧Hid (r<4294967296)∧Hid (Below w'.heap.size w' wr)) (fun qv _ _=>(intOf qv).toNat)
     case atStart=>exact ⟨q0,r0,rfl,rfl,ST2,U9,vE⟩
     case round =>
      clear ST2 U9 vE;obtain ⟨q,r,rfl,rfl,HST,QX,vE⟩:=hrel;have HT:=zh (pX HST.out QX.out HB1.out (by rw [yA.out];exact QO.out) HB1.out.2.2.2.2)
      rcases aH q 4294967296 with h1|h1
      ·have g1:decide ((4294967296:Int)≤(q:Int))=false:=decide_eq_false zo;obtain ⟨T,V,H7,HE2,m1,m2⟩:=qx h1 QX.out HB1.out HB1.out.2.2.2.2;clear h1
       rcases aH V T with h2|h2
       ·have g2:(V:Int)<(T:Int):=by omega
        obtain ⟨q',r',HD,HL,w1,w2⟩:=HT.out (.inr (by rw [H7.out,HE2.out];exact h2));clear h2
        rcases aH r' 4294967296 with h3|h3
        ·have g3:decide ((4294967296:Int)≤(r':Int))=false:=decide_eq_false zo;have JB:=zh h3;clear h3;go_wp2_with fail
         go_roundw
         case rel=>exact ⟨q',r',rfl,rfl,HD,JB,vE⟩
         case measure=>have:=HL.out;simp [intOf];omega
        ·have g3:decide ((4294967296:Int)≤(r':Int))=true:=decide_eq_true zo;have HQ:=zh (HD.out.brk (aP zo HB1.out.1) zo HB1.out.2.2.1 ((by rw [yA.out];exact QO.out)) h3);clear h3;have HE:=zh (jh Nl.out HQ.out HW.out HB1.out yA.out Nz.out Uo.out);have e1:=HE.out.1;have e2:=HE.out.2;go_wp2_with fail
         go_ret2
         exact ⟨by simp,vE.out⟩
       ·have g2:¬ (V:Int)<(T:Int):=by omega
        have HQ:=zh (HST.out.stop (aP zo HB1.out.1) zo (by rw [H7.out,HE2.out];exact h2));clear h2;have HE:=zh (jh Nl.out HQ.out HW.out HB1.out yA.out Nz.out Uo.out);have e1:=HE.out.1;have e2:=HE.out.2;go_wp2_with fail
        go_ret2
        exact ⟨by simp,vE.out⟩
      ·have g1:decide ((4294967296:Int)≤(q:Int))=true:=decide_eq_true zo;obtain ⟨q',r',HD,HL,w1,w2⟩:=HT.out (.inl h1);clear h1
       rcases aH r' 4294967296 with h3|h3
       ·have g3:decide ((4294967296:Int)≤(r':Int))=false:=decide_eq_false zo;have JB:=zh h3;clear h3;go_wp2_with fail
        go_roundw
        case rel=>exact ⟨q',r',rfl,rfl,HD,JB,vE⟩
        case measure=>have:=HL.out;simp [intOf];omega
       ·have g3:decide ((4294967296:Int)≤(r':Int))=true:=decide_eq_true zo;have HQ:=zh (HD.out.brk (aP zo HB1.out.1) zo HB1.out.2.2.1 ((by rw [yA.out];exact QO.out)) h3);clear h3;have HE:=zh (jh Nl.out HQ.out HW.out HB1.out yA.out Nz.out Uo.out);have e1:=HE.out.1;have e2:=HE.out.2;go_wp2_with fail
        go_ret2
        exact ⟨by simp,vE.out⟩
   ·have g1:decide ((4294967296:Int)≤(q:Int))=true:=decide_eq_true zo;obtain ⟨q',r',HD,HL,w1,w2⟩:=HT.out (.inl h1);clear h1
    rcases aH r' 4294967296 with h3|h3
    ·have g3:decide ((4294967296:Int)≤(r':Int))=false:=decide_eq_false zo;have JB:=zh h3;clear h3;go_wp2_with fail
     go_roundw
     case rel=>exact ⟨q',r',rfl,rfl,HD,JB,vE⟩
     case measure=>have:=HL.out;simp [intOf];omega
    ·have g3:decide ((4294967296:Int)≤(r':Int))=true:=decide_eq_true zo;have HQ:=zh (HD.out.brk (aP zo HB1.out.1) zo HB1.out.2.2.1 ((by rw [yA.out];exact YT.out)) h3);clear h3;obtain ⟨W,q0,r0,HW,QO,x1,x2,x3,U9,Ve⟩:=pY HQ.out yA.out HB1.out YT.out Nz.out;have Nl:=HQ;have ST2:=zh (Ve.out L0 HB1.out.2.2.2.2);clear HQ Ve;go_wp2_with fail
     go_loopw [18,16] (fun qv rv wr=>∃ q r:Nat,qv= Z .u64 (q:Int)∧rv= Z .u64 (r:Int)∧Hid (Cm 4294967296 Y1 Y0 W L0 q r)∧Hid (r<4294967296)∧Hid (Below w'.heap.size w' wr)) (fun qv _ _=>(intOf qv).toNat)
     case atStart=>exact ⟨q0,r0,rfl,rfl,ST2,U9,vE⟩
     case round =>
      clear ST2 U9 vE;obtain ⟨q,r,rfl,rfl,HST,QX,vE⟩:=hrel;have HT:=zh (pX HST.out QX.out HB1.out (by rw [yA.out];exact QO.out) HB1.out.2.2.2.2)
      rcases aH q 4294967296 with h1|h1
      ·have g1:decide ((4294967296:Int)≤(q:Int))=false:=decide_eq_false zo;obtain ⟨T,V,H7,HE2,m1,m2⟩:=qx h1 QX.out HB1.out HB1.out.2.2.2.2;clear h1
       rcases aH V T with h2|h2
       ·have g2:(V:Int)<(T:Int):=by omega
        obtain ⟨q',r',HD,HL,w1,w2⟩:=HT.out (.inr (by rw [H7.out,HE2.out];exact h2));clear h2
        rcases aH r' 4294967296 with h3|h3
        ·have g3:decide ((4294967296:Int)≤(r':Int))=false:=decide_eq_false zo;have JB:=zh h3;clear h3;go_wp2_with fail
         go_roundw
         case rel=>exact ⟨q',r',rfl,rfl,HD,JB,vE⟩
         case measure=>have:=HL.out;simp [intOf];omega
        ·have g3:decide ((4294967296:Int)≤(r':Int))=true:=decide_eq_true zo;have HQ:=zh (HD.out.brk (aP zo HB1.out.1) zo HB1.out.2.2.1 ((by rw [yA.out];exact QO.out)) h3);clear h3;have HE:=zh (jh Nl.out HQ.out HW.out HB1.out yA.out Nz.out Uo.out);have e1:=HE.out.1;have e2:=HE.out.2;go_wp2_with fail
         go_ret2
         exact ⟨by simp,vE.out⟩
       ·have g2:¬ (V:Int)<(T:Int):=by omega
        have HQ:=zh (HST.out.stop (aP zo HB1.out.1) zo (by rw [H7.out,HE2.out];exact h2));clear h2;have HE:=zh (jh Nl.out HQ.out HW.out HB1.out yA.out Nz.out Uo.out);have e1:=HE.out.1;have e2:=HE.out.2;go_wp2_with fail
        go_ret2
        exact ⟨by simp,vE.out⟩
      ·have g1:decide ((4294967296:Int)≤(q:Int))=true:=decide_eq_true zo;obtain ⟨q',r',HD,HL,w1,w2⟩:=HT.out (.inl h1);clear h1
       rcases aH r' 4294967296 with h3|h3
       ·have g3:decide ((4294967296:Int)≤(r':Int))=false:=decide_eq_false zo;have JB:=zh h3;clear h3;go_wp2_with fail
        go_roundw
        case rel=>exact ⟨q',r',rfl,rfl,HD,JB,vE⟩
        case measure=>have:=HL.out;simp [intOf];omega
       ·have g3:decide ((4294967296:Int)≤(r':Int))=true:=decide_eq_true zo;have HQ:=zh (HD.out.brk (aP zo HB1.out.1) zo HB1.out.2.2.1 ((by rw [yA.out];exact QO.out)) h3);clear h3;have HE:=zh (jh Nl.out HQ.out HW.out HB1.out yA.out Nz.out Uo.out);have e1:=HE.out.1;have e2:=HE.out.2;go_wp2_with fail
        go_ret2
        exact ⟨by simp,vE.out⟩
end Go.Proofs.bits
namespace Go
end Go
