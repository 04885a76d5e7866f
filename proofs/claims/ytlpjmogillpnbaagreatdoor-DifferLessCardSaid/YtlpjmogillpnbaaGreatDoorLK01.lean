/- Lemmas for the proof. No condition. -/
import Derived.Test.YtlpjmogillpnbaaGreatDoorTB01
import Derived.Test.YtlpjmogillpnbaaGreatDoorTB02
import Derived.Test.YtlpjmogillpnbaaGreatDoorTB03
import Derived.Test.YtlpjmogillpnbaaGreatDoorTB04
import Derived.Test.YtlpjmogillpnbaaGreatDoorTB05
import Derived.Test.YtlpjmogillpnbaaGreatDoorTB06
import Derived.Test.YtlpjmogillpnbaaGreatDoorTB07
import Derived.Test.YtlpjmogillpnbaaGreatDoorTB08
import Derived.Test.YtlpjmogillpnbaaGreatDoorTB09
import Derived.Test.YtlpjmogillpnbaaGreatDoorTB10
import Derived.Test.YtlpjmogillpnbaaGreatDoorTB11
import Derived.Test.YtlpjmogillpnbaaGreatDoorTB12
import Derived.Test.YtlpjmogillpnbaaGreatDoorTB13
import Derived.Test.YtlpjmogillpnbaaGreatDoorTB14
import Derived.Test.YtlpjmogillpnbaaGreatDoorTB15
import Derived.Test.YtlpjmogillpnbaaGreatDoorTB16
import Derived.Test.YtlpjmogillpnbaaGreatDoorTB17
import Derived.Test.YtlpjmogillpnbaaGreatDoorTB18
import Derived.Test.YtlpjmogillpnbaaGreatDoorTB19
import Derived.Test.YtlpjmogillpnbaaGreatDoorTB20
import Derived.Test.YtlpjmogillpnbaaGreatDoorTB21
import Derived.Test.YtlpjmogillpnbaaGreatDoorTB22
import Derived.Test.YtlpjmogillpnbaaGreatDoorTB23
import Derived.Test.YtlpjmogillpnbaaGreatDoorTB24
import Derived.Test.YtlpjmogillpnbaaGreatDoorTB25
import Derived.Test.YtlpjmogillpnbaaGreatDoorTB26
import Derived.Test.YtlpjmogillpnbaaGreatDoorTB27
import Derived.Test.YtlpjmogillpnbaaGreatDoorTB28
import Derived.Test.YtlpjmogillpnbaaGreatDoorTB29
import Derived.Test.YtlpjmogillpnbaaGreatDoorTB30
import Derived.Test.YtlpjmogillpnbaaGreatDoorTB31
import Derived.Test.YtlpjmogillpnbaaGreatDoorTB32
import Derived.Test.YtlpjmogillpnbaaGreatDoorTB33
import Derived.Test.YtlpjmogillpnbaaGreatDoorTB34
import Derived.Test.YtlpjmogillpnbaaGreatDoorTB35
import Derived.Test.YtlpjmogillpnbaaGreatDoorTB36
import Derived.Test.YtlpjmogillpnbaaGreatDoorTB37
import Derived.Test.YtlpjmogillpnbaaGreatDoorTB38
import Derived.Test.YtlpjmogillpnbaaGreatDoorTB39
import Derived.Test.YtlpjmogillpnbaaGreatDoorTB40
set_option linter.unusedVariables false
set_option linter.unusedSimpArgs false
set_option maxRecDepth 100000
set_option maxHeartbeats 16000000
namespace Go.Proofs.dQ
def flr (q:Rat):Int:=q.num / (q.den:Int)
theorem q_parts (q:Rat):q=(q.num:Rat) / ((q.den:Int):Rat):=by
 have:=Rat.mkRat_self q;rw [Rat.mkRat_eq_div] at this;exact this.symm
end Go.Proofs.dQ
namespace Go.Proofs.iq
open Go Go.Num Go.gW Go.Proofs.aQ Go.Proofs.dQ
def un (n:Int):Rat:=(n:Rat) / ((1000000000000:Int):Rat)
def tightE (a b:Rat):(Int × Int) × Int:=iH (flr (a*((1000000000000:Int):Rat))) (-(flr (-(b*((1000000000000:Int):Rat)))))
theorem bok_lo {X Y:Int} (h:X< -1000000000000000000∨1000000000000000000<Y∨Y<X):jc X Y=false:=by
 unfold jc
 rcases h with h|h|h
 ·rw [decide_eq_false (show ¬ -1000000000000000000≤X by omega)];rfl
 ·rw [decide_eq_false (show ¬ Y≤1000000000000000000 by omega)];simp
 ·rw [decide_eq_false (show ¬ X≤Y by omega)];simp
end Go.Proofs.iq
namespace Go.Proofs.iq
open Go Go.Num Go.gW Go.Proofs.aQ Go.Proofs.dQ
theorem flr_eq (q:Rat):flr q=q.floor:=(Rat.floor_def q).symm
theorem neg_div' (a b:Rat): -(a / b)= -a / b:=by rw [Rat.div_def,Rat.div_def,Rat.neg_mul]
theorem floor_div (n:Int) {d:Int} (hd:0<d):((n:Rat) / (d:Rat)).floor=n / d:=by
 have hd':(0:Rat)<(d:Rat):=by exact_mod_cast hd
 have key:∀ x:Int,x≤((n:Rat) / (d:Rat)).floor↔x≤n / d:=fun x=>by
  rw [Rat.le_floor_iff,Int.le_ediv_iff_mul_le hd];have e:(n:Rat) / (d:Rat)*(d:Rat)=(n:Rat):=Rat.div_mul_cancel (fun h=>by rw [h] at hd';exact absurd hd' zd)
  constructor
  ·intro h;have:=Rat.mul_le_mul_of_nonneg_right h (Rat.le_of_lt hd');rw [e] at this
   exact_mod_cast this
  ·intro h;refine Rat.le_of_mul_le_mul_right (c:=(d:Rat)) ?_ hd';rw [e]
   exact_mod_cast h
 exact Int.le_antisymm ((key _).1 (Int.le_refl _)) ((key _).2 (Int.le_refl _))
theorem SI:(0:Rat)<((1000000000000:Int):Rat):=by decide+kernel
theorem ai0:((1000000000000:Int):Rat)≠0:=by decide+kernel
theorem Xy (n:Int):un n*((1000000000000:Int):Rat)=(n:Rat):=by
 have:=ai0;unfold un;generalize ((1000000000000:Int):Rat)=E at *
 grind
theorem un_prod (x y:Int):un x*un y*((1000000000000:Int):Rat)=((x*y:Int):Rat) / ((1000000000000:Int):Rat):=by
 have:=ai0;unfold un;rw [Rat.intCast_mul];generalize ((1000000000000:Int):Rat)=E at *
 grind
theorem tight_around (q:Rat):tightE q q=iH (Ij (q.num*1000000000000) q.den false) (Ij (q.num*1000000000000) q.den true):=by
 have hd:(0:Int)<(q.den:Int):=by have:=q.den_pos;omega
 have hd0:((q.den:Int):Rat)≠0:=by
  have:(q.den:Int)≠0:=by omega
  exact_mod_cast this
 have e:q*((1000000000000:Int):Rat)=((q.num*1000000000000:Int):Rat) / ((q.den:Int):Rat):=by
  rw [Rat.intCast_mul];have h:=q_parts q;generalize ((1000000000000:Int):Rat)=E at *;generalize (q.num:Rat)=n at *;generalize ((q.den:Int):Rat)=d at *;rw [h]
  grind
 have e2: -(q*((1000000000000:Int):Rat))=((-(q.num*1000000000000):Int):Rat) / ((q.den:Int):Rat):=by
  rw [e,Rat.intCast_neg,neg_div']
 unfold tightE;rw [flr_eq,flr_eq,e2,e,floor_div _ hd,floor_div _ hd];rfl
def lowQ (m:Rat):List Rat→Rat
 | []=>m
 | x::l=>lowQ (if x<m then x else m) l
def highQ (m:Rat):List Rat→Rat
 | []=>m
 | x::l=>highQ (if m<x then x else m) l
theorem low4 (p q r s:Rat):(lowQ p [q,r,s]=p∨lowQ p [q,r,s]=q∨lowQ p [q,r,s]=r∨lowQ p [q,r,s]=s)∧lowQ p [q,r,s]≤p∧lowQ p [q,r,s]≤q∧lowQ p [q,r,s]≤r∧lowQ p [q,r,s]≤s:=by
 unfold lowQ lowQ lowQ lowQ
 grind
theorem high4 (p q r s:Rat):(highQ p [q,r,s]=p∨highQ p [q,r,s]=q∨highQ p [q,r,s]=r∨highQ p [q,r,s]=s)∧p≤highQ p [q,r,s]∧q≤highQ p [q,r,s]∧r≤highQ p [q,r,s]∧s≤highQ p [q,r,s]:=by
 unfold highQ highQ highQ highQ
 grind
theorem E_mono {a b:Rat} (h:a≤b):(a*((1000000000000:Int):Rat)).floor≤(b*((1000000000000:Int):Rat)).floor:=Rat.floor_monotone (Rat.mul_le_mul_of_nonneg_right h (Rat.le_of_lt SI))
theorem E_anti {a b:Rat} (h:a≤b): -((-(a*((1000000000000:Int):Rat))).floor)≤ -((-(b*((1000000000000:Int):Rat))).floor):=by
 have h2:=Rat.floor_monotone (Rat.neg_le_neg (Rat.mul_le_mul_of_nonneg_right h (Rat.le_of_lt SI)));omega
theorem rnd_le (n:Int) {d:Nat} (hd:0<d):Ij n d false≤Ij n d true:=by
 unfold Ij;simp only [Bool.false_eq_true,if_false,if_true];have h1:=Int.mul_ediv_self_le (x:=n) (k:=(d:Int)) zo;have h2:=Int.mul_ediv_self_le (x:= -n) (k:=(d:Int)) zo;have h3:(d:Int)*(n / d)≤(d:Int)*(-(-n / d)):=by rw [Int.mul_neg];omega
 exact Int.le_of_mul_le_mul_left h3 zo
theorem prod_down (x y:Int):(un x*un y*((1000000000000:Int):Rat)).floor=Ij (x*y) 1000000000000 false:=by rw [un_prod,floor_div _ zo];rfl
theorem prod_up (x y:Int): -((-(un x*un y*((1000000000000:Int):Rat))).floor)=Ij (x*y) 1000000000000 true:=by
 rw [un_prod,neg_div',← Rat.intCast_neg,floor_div _ zo];rfl
theorem quo_fit (x y:Int) (up:Bool):((vW x y 1000000000000 up).2=true→(vW x y 1000000000000 up).1=Ij (x*y) 1000000000000 up∧(Ij (x*y) 1000000000000 up).natAbs≤1000000000000000000)∧((vW x y 1000000000000 up).2=false→1000000000000000000<(Ij (x*y) 1000000000000 up).natAbs):=by
 by_cases h:(Ij (x*y) 1000000000000 up).natAbs≤1000000000000000000
 ·rw [show vW x y 1000000000000 up=(Ij (x*y) 1000000000000 up,true) from if_pos h];exact ⟨fun _=>⟨rfl,h⟩,fun h=>by cases h⟩
 ·rw [show vW x y 1000000000000 up=(0,false) from if_neg h];exact ⟨fun h=>(by cases h),fun _=>by omega⟩
theorem tight_mul (a b:Int × Int):tightE (lowQ (un a.1*un b.1) [un a.1*un b.2,un a.2*un b.1,un a.2*un b.2]) (highQ (un a.1*un b.1) [un a.1*un b.2,un a.2*un b.1,un a.2*un b.2])=PI a b:=by
 obtain ⟨h1,h2,h3,h4,h5⟩:=low4 (un a.1*un b.1) (un a.1*un b.2) (un a.2*un b.1) (un a.2*un b.2);obtain ⟨g1,g2,g3,g4,g5⟩:=high4 (un a.1*un b.1) (un a.1*un b.2) (un a.2*un b.1) (un a.2*un b.2);generalize lowQ (un a.1*un b.1) [un a.1*un b.2,un a.2*un b.1,un a.2*un b.2]=lo at *;generalize highQ (un a.1*un b.1) [un a.1*un b.2,un a.2*un b.1,un a.2*un b.2]=hi at *;replace h2:=E_mono h2;replace h3:=E_mono h3;replace h4:=E_mono h4;replace h5:=E_mono h5;replace g2:=E_anti g2;replace g3:=E_anti g3;replace g4:=E_anti g4;replace g5:=E_anti g5
 have h6:(lo*((1000000000000:Int):Rat)).floor=Ij (a.1*b.1) 1000000000000 false∨(lo*((1000000000000:Int):Rat)).floor=Ij (a.1*b.2) 1000000000000 false∨(lo*((1000000000000:Int):Rat)).floor=Ij (a.2*b.1) 1000000000000 false∨(lo*((1000000000000:Int):Rat)).floor=Ij (a.2*b.2) 1000000000000 false:=by
  rcases h1 with rfl|rfl|rfl|rfl<;>simp only [prod_down,true_or,or_true]
 have g6: -((-(hi*((1000000000000:Int):Rat))).floor)=Ij (a.1*b.1) 1000000000000 true∨ -((-(hi*((1000000000000:Int):Rat))).floor)=Ij (a.1*b.2) 1000000000000 true∨ -((-(hi*((1000000000000:Int):Rat))).floor)=Ij (a.2*b.1) 1000000000000 true∨ -((-(hi*((1000000000000:Int):Rat))).floor)=Ij (a.2*b.2) 1000000000000 true:=by
  rcases g1 with rfl|rfl|rfl|rfl<;>simp only [prod_up,true_or,or_true]
 rw [prod_down] at h2 h3 h4 h5;rw [prod_up] at g2 g3 g4 g5;unfold tightE;rw [flr_eq,flr_eq];generalize (lo*((1000000000000:Int):Rat)).floor=L at *;generalize -((-(hi*((1000000000000:Int):Rat))).floor)=H at *;have r1:=rnd_le (a.1*b.1) (d:=1000000000000) zo;have r2:=rnd_le (a.1*b.2) (d:=1000000000000) zo;have r3:=rnd_le (a.2*b.1) (d:=1000000000000) zo;have r4:=rnd_le (a.2*b.2) (d:=1000000000000) zo;have e0:VX a b 0=vW a.1 b.1 1000000000000 false:=rfl;have e1:VX a b 1=vW a.1 b.2 1000000000000 false:=rfl;have e2:VX a b 2=vW a.2 b.1 1000000000000 false:=rfl;have e3:VX a b 3=vW a.2 b.2 1000000000000 false:=rfl;have d0:Bo a b 0=vW a.1 b.1 1000000000000 true:=rfl;have d1:Bo a b 1=vW a.1 b.2 1000000000000 true:=rfl;have d2:Bo a b 2=vW a.2 b.1 1000000000000 true:=rfl;have d3:Bo a b 3=vW a.2 b.2 1000000000000 true:=rfl;have q0:=quo_fit a.1 b.1 false
 have q1:=quo_fit a.1 b.2 false;have q2:=quo_fit a.2 b.1 false;have q3:=quo_fit a.2 b.2 false;have p0:=quo_fit a.1 b.1 true;have p1:=quo_fit a.1 b.2 true;have p2:=quo_fit a.2 b.1 true;have p3:=quo_fit a.2 b.2 true
 have fe:ae3 a b=((VX a b 0).2&&(Bo a b 0).2&&((VX a b 1).2&&(Bo a b 1).2)&&((VX a b 2).2&&(Bo a b 2).2)&&((VX a b 3).2&&(Bo a b 3).2)):=by
  unfold ae3;simp [List.range,List.range.loop,Bool.and_assoc]
 unfold PI;rw [fe,e0,e1,e2,e3,d0,d1,d2,d3];generalize Ij (a.1*b.1) 1000000000000 false=l0 at *;generalize Ij (a.1*b.2) 1000000000000 false=l1 at *;generalize Ij (a.2*b.1) 1000000000000 false=l2 at *;generalize Ij (a.2*b.2) 1000000000000 false=l3 at *;generalize Ij (a.1*b.1) 1000000000000 true=u0 at *;generalize Ij (a.1*b.2) 1000000000000 true=u1 at *;generalize Ij (a.2*b.1) 1000000000000 true=u2 at *;generalize Ij (a.2*b.2) 1000000000000 true=u3 at *;clear e0 e1 e2 e3 d0 d1 d2 d3 fe h1 g1;generalize vW a.1 b.1 1000000000000 false=A0 at *;generalize vW a.1 b.2 1000000000000 false=A1 at *;generalize vW a.2 b.1 1000000000000 false=A2 at *;generalize vW a.2 b.2 1000000000000 false=A3 at *;generalize vW a.1 b.1 1000000000000 true=B0 at *;generalize vW a.1 b.2 1000000000000 true=B1 at *;generalize vW a.2 b.1 1000000000000 true=B2 at *
 generalize vW a.2 b.2 1000000000000 true=B3 at *;obtain ⟨x0,y0⟩:=A0;obtain ⟨x1,y1⟩:=A1;obtain ⟨x2,y2⟩:=A2;obtain ⟨x3,y3⟩:=A3;obtain ⟨s0,t0⟩:=B0;obtain ⟨s1,t1⟩:=B1;obtain ⟨s2,t2⟩:=B2;obtain ⟨s3,t3⟩:=B3;simp only at q0 q1 q2 q3 p0 p1 p2 p3 ⊢
 by_cases hf:(y0&&t0&&(y1&&t1)&&(y2&&t2)&&(y3&&t3))=true
 ·rw [if_pos hf];simp only [Bool.and_eq_true] at hf;obtain ⟨⟨⟨⟨f1,f2⟩,f3,f4⟩,f5,f6⟩,f7,f8⟩:=hf;obtain ⟨rfl, -⟩:=q0.1 f1;obtain ⟨rfl, -⟩:=q1.1 f3;obtain ⟨rfl, -⟩:=q2.1 f5;obtain ⟨rfl, -⟩:=q3.1 f7;obtain ⟨rfl, -⟩:=p0.1 f2;obtain ⟨rfl, -⟩:=p1.1 f4;obtain ⟨rfl, -⟩:=p2.1 f6;obtain ⟨rfl, -⟩:=p3.1 f8
  have m1:L=[x0,x1,x2,x3].foldl min x0:=by
   simp only [List.foldl];omega
  have m2:H=[s0,s1,s2,s3].foldl max s0:=by
   simp only [List.foldl];omega
  rw [m1,m2]
 ·rw [if_neg hf]
  have hb:jc L H=false:=by
   refine bok_lo ?_
   have:y0=false∨t0=false∨y1=false∨t1=false∨y2=false∨t2=false∨y3=false∨t3=false:=by
    revert hf
    cases y0<;>cases t0<;>cases y1<;>cases t1<;>cases y2<;>cases t2<;>cases y3<;>cases t3<;>simp
   rcases this with h|h|h|h|h|h|h|h
   ·have:=q0.2 h;omega
   ·have:=p0.2 h;omega
   ·have:=q1.2 h;omega
   ·have:=p1.2 h;omega
   ·have:=q2.2 h;omega
   ·have:=p2.2 h;omega
   ·have:=q3.2 h;omega
   ·have:=p3.2 h;omega
  unfold iH;rw [hb];rfl
end Go.Proofs.iq
namespace Go.Proofs.matrix
open Go Go.Num Go.gW Go.Proofs.aQ Go.Proofs.iq Go.Proofs.dQ
theorem Jo (z:Int) (q:Rat):un z≤q↔(z:Rat)≤q*((1000000000000:Int):Rat):=by
 rw [← Xy z]
 constructor
 ·exact fun h=>Rat.mul_le_mul_of_nonneg_right h (Rat.le_of_lt SI)
 ·exact fun h=>Rat.le_of_mul_le_mul_right h SI
theorem le_un_iff (z:Int) (q:Rat):q≤un z↔q*((1000000000000:Int):Rat)≤(z:Rat):=by
 rw [← Xy z]
 constructor
 ·exact fun h=>Rat.mul_le_mul_of_nonneg_right h (Rat.le_of_lt SI)
 ·exact fun h=>Rat.le_of_mul_le_mul_right h SI
theorem Cq {a b:Int}:un a≤un b↔a≤b:=by rw [Jo,Xy,Rat.intCast_le_intCast]
theorem un_add (a b:Int):un (a+b)=un a+un b:=by
 unfold un;rw [Rat.intCast_add,Rat.div_def,Rat.div_def,Rat.div_def,Rat.add_mul]
def In (b:Int × Int) (q:Rat) (M:Int):Prop:=un b.1≤q∧q≤un b.2∧ -M≤b.1∧b.2≤M
theorem In.le {b:Int × Int} {q:Rat} {M:Int} (h:In b q M):b.1≤b.2:=Cq.1 (Rat.le_trans h.1 h.2.1)
theorem bok_yes {x y:Int} (h: -1000000000000000000≤x) (h2:x≤y) (h3:y≤1000000000000000000):jc x y=true:=by
 unfold jc;rw [decide_eq_true h,decide_eq_true h2,decide_eq_true h3];rfl
theorem In.jc {b:Int × Int} {q:Rat} {M:Int} (h:In b q M) (hM:M≤1000000000000000000):jc b.1 b.2=true :=
 bok_yes (by have:=h.2.2.1;omega) h.le (by have:=h.2.2.2;omega)
theorem made_in {lo hi q:Rat} {M:Int} (h1:lo≤q) (h2:q≤hi) (h3: -M≤flr (lo*((1000000000000:Int):Rat))) (h4: -(flr (-(hi*((1000000000000:Int):Rat))))≤M) (hM:M≤1000000000000000000):∃ b,tightE lo hi=(b,0)∧In b q M:=by
 have hi':In (flr (lo*((1000000000000:Int):Rat)), -(flr (-(hi*((1000000000000:Int):Rat))))) q M:=by
  refine ⟨?_,?_,h3,h4⟩
  ·rw [Jo,flr_eq];exact Rat.le_trans (Rat.floor_le _) (Rat.mul_le_mul_of_nonneg_right h1 (Rat.le_of_lt SI))
  ·rw [le_un_iff,Rat.intCast_neg];have:=Rat.floor_le (-(hi*((1000000000000:Int):Rat)));rw [← flr_eq] at this;have h5:=Rat.neg_le_neg this;rw [Rat.neg_neg] at h5;exact Rat.le_trans (Rat.mul_le_mul_of_nonneg_right h2 (Rat.le_of_lt SI)) h5
 refine ⟨_,?_,hi'⟩;unfold tightE iH;rw [if_pos (hi'.jc hM)]
end Go.Proofs.matrix
namespace Go.Proofs.iq
open Go Go.RowKit Go.SW Go.Num Go.Mem Go.Proofs Go.gW Go.Proofs.aQ Go.Proofs.dQ
def dnQ (q:Rat):Int:=(q*((1000000000000:Int):Rat)).floor
def upQ (q:Rat):Int:= -((-(q*((1000000000000:Int):Rat))).floor)
theorem floor_up (x:Rat):x.floor≤ -((-x).floor):=by
 have h1:=Rat.floor_le x;have h2:=Rat.floor_le (-x)
 have h3:((x.floor:Int):Rat)≤((-((-x).floor):Int):Rat):=by
  rw [Rat.intCast_neg]
  grind
 exact Rat.intCast_le_intCast.1 h3
theorem dn_up (q:Rat):dnQ q≤upQ q:=floor_up _
def endF (z:Int):Int × Bool:=if z.natAbs≤1000000000000000000 then (z,true) else (0,false)
theorem endF_out {A:Int × Bool} {l:Int} (h:A=endF l):(A.2=true→A.1=l∧l.natAbs≤1000000000000000000)∧(A.2=false→1000000000000000000<l.natAbs):=by
 subst h;unfold endF
 by_cases h:l.natAbs≤1000000000000000000
 ·rw [if_pos h];exact ⟨fun _=>⟨rfl,h⟩,fun h=>by cases h⟩
 ·rw [if_neg h];exact ⟨fun h=>(by cases h),fun _=>by omega⟩
def FitQ (Q:Int→Int→Bool→Int × Bool) (V:Int→Int→Rat) (x y:Int):Prop:=Q x y false=endF (dnQ (V x y))∧Q x y true=endF (upQ (V x y))
theorem tight_gen (Q:Int→Int→Bool→Int × Bool) (V:Int→Int→Rat) (a b:Int × Int) (k0:FitQ Q V a.1 b.1) (k1:FitQ Q V a.1 b.2) (k2:FitQ Q V a.2 b.1) (k3:FitQ Q V a.2 b.2) :
  tightE (lowQ (V a.1 b.1) [V a.1 b.2,V a.2 b.1,V a.2 b.2]) (highQ (V a.1 b.1) [V a.1 b.2,V a.2 b.1,V a.2 b.2])=uM Q a b:=by
 have r1:=dn_up (V a.1 b.1);have r2:=dn_up (V a.1 b.2);have r3:=dn_up (V a.2 b.1);have r4:=dn_up (V a.2 b.2);have q0:=endF_out k0.1;have q1:=endF_out k1.1;have q2:=endF_out k2.1;have q3:=endF_out k3.1;have p0:=endF_out k0.2;have p1:=endF_out k1.2;have p2:=endF_out k2.2;have p3:=endF_out k3.2
 have fe:Un Q a b=((Q a.1 b.1 false).2&&(Q a.1 b.1 true).2&&((Q a.1 b.2 false).2&&(Q a.1 b.2 true).2)&&((Q a.2 b.1 false).2&&(Q a.2 b.1 true).2)&&((Q a.2 b.2 false).2&&(Q a.2 b.2 true).2)):=by
  unfold Un;simp [List.range,List.range.loop,Bool.and_assoc,tN,tV,JG,FQ]
 have e0:tN Q a b 0=Q a.1 b.1 false:=rfl;have e1:tN Q a b 1=Q a.1 b.2 false:=rfl;have e2:tN Q a b 2=Q a.2 b.1 false:=rfl;have e3:tN Q a b 3=Q a.2 b.2 false:=rfl;have d0:tV Q a b 0=Q a.1 b.1 true:=rfl;have d1:tV Q a b 1=Q a.1 b.2 true:=rfl;have d2:tV Q a b 2=Q a.2 b.1 true:=rfl;have d3:tV Q a b 3=Q a.2 b.2 true:=rfl;unfold uM;rw [fe,e0,e1,e2,e3,d0,d1,d2,d3];clear fe e0 e1 e2 e3 d0 d1 d2 d3 k0 k1 k2 k3;generalize Q a.1 b.1 false=A0 at *;generalize Q a.1 b.2 false=A1 at *;generalize Q a.2 b.1 false=A2 at *;generalize Q a.2 b.2 false=A3 at *;generalize Q a.1 b.1 true=B0 at *;generalize Q a.1 b.2 true=B1 at *;generalize Q a.2 b.1 true=B2 at *;generalize Q a.2 b.2 true=B3 at *;generalize V a.1 b.1=v0 at *;generalize V a.1 b.2=v1 at *;generalize V a.2 b.1=v2 at *;generalize V a.2 b.2=v3 at *;obtain ⟨h1,h2,h3,h4,h5⟩:=low4 v0 v1 v2 v3;obtain ⟨g1,g2,g3,g4,g5⟩:=high4 v0 v1 v2 v3
 generalize lowQ v0 [v1,v2,v3]=lo at *;generalize highQ v0 [v1,v2,v3]=hi at *;replace h2:dnQ lo≤dnQ v0:=E_mono h2;replace h3:dnQ lo≤dnQ v1:=E_mono h3;replace h4:dnQ lo≤dnQ v2:=E_mono h4;replace h5:dnQ lo≤dnQ v3:=E_mono h5;replace g2:upQ v0≤upQ hi:=E_anti g2;replace g3:upQ v1≤upQ hi:=E_anti g3;replace g4:upQ v2≤upQ hi:=E_anti g4;replace g5:upQ v3≤upQ hi:=E_anti g5
 have h6:dnQ lo=dnQ v0∨dnQ lo=dnQ v1∨dnQ lo=dnQ v2∨dnQ lo=dnQ v3:=by
  rcases h1 with rfl|rfl|rfl|rfl
  ·exact .inl rfl
  ·exact .inr (.inl rfl)
  ·exact .inr (.inr (.inl rfl))
  ·exact .inr (.inr (.inr rfl))
 have g6:upQ hi=upQ v0∨upQ hi=upQ v1∨upQ hi=upQ v2∨upQ hi=upQ v3:=by
  rcases g1 with rfl|rfl|rfl|rfl
  ·exact .inl rfl
  ·exact .inr (.inl rfl)
  ·exact .inr (.inr (.inl rfl))
  ·exact .inr (.inr (.inr rfl))
 unfold tightE;rw [flr_eq,flr_eq]
 show iH (dnQ lo) (upQ hi)=_
 clear h1 g1;generalize dnQ lo=L at *;generalize upQ hi=H at *;generalize dnQ v0=l0 at *;generalize dnQ v1=l1 at *;generalize dnQ v2=l2 at *;generalize dnQ v3=l3 at *;generalize upQ v0=u0 at *;generalize upQ v1=u1 at *;generalize upQ v2=u2 at *;generalize upQ v3=u3 at *;obtain ⟨x0,y0⟩:=A0;obtain ⟨x1,y1⟩:=A1;obtain ⟨x2,y2⟩:=A2;obtain ⟨x3,y3⟩:=A3;obtain ⟨s0,t0⟩:=B0;obtain ⟨s1,t1⟩:=B1;obtain ⟨s2,t2⟩:=B2;obtain ⟨s3,t3⟩:=B3;simp only at q0 q1 q2 q3 p0 p1 p2 p3 ⊢
 by_cases hf:(y0&&t0&&(y1&&t1)&&(y2&&t2)&&(y3&&t3))=true
 ·rw [if_pos hf];simp only [Bool.and_eq_true] at hf;obtain ⟨⟨⟨⟨f1,f2⟩,f3,f4⟩,f5,f6⟩,f7,f8⟩:=hf;obtain ⟨rfl, -⟩:=q0.1 f1;obtain ⟨rfl, -⟩:=q1.1 f3;obtain ⟨rfl, -⟩:=q2.1 f5;obtain ⟨rfl, -⟩:=q3.1 f7;obtain ⟨rfl, -⟩:=p0.1 f2;obtain ⟨rfl, -⟩:=p1.1 f4;obtain ⟨rfl, -⟩:=p2.1 f6;obtain ⟨rfl, -⟩:=p3.1 f8
  have m1:L=[x0,x1,x2,x3].foldl min x0:=by
   simp only [List.foldl];omega
  have m2:H=[s0,s1,s2,s3].foldl max s0:=by
   simp only [List.foldl];omega
  rw [m1,m2]
 ·rw [if_neg hf]
  have hb:jc L H=false:=by
   refine bok_lo ?_
   have:y0=false∨t0=false∨y1=false∨t1=false∨y2=false∨t2=false∨y3=false∨t3=false:=by
    revert hf
    cases y0<;>cases t0<;>cases y1<;>cases t1<;>cases y2<;>cases t2<;>cases y3<;>cases t3<;>simp
   rcases this with h|h|h|h|h|h|h|h
   ·have:=q0.2 h;omega
   ·have:=p0.2 h;omega
   ·have:=q1.2 h;omega
   ·have:=p1.2 h;omega
   ·have:=q2.2 h;omega
   ·have:=p2.2 h;omega
   ·have:=q3.2 h;omega
   ·have:=p3.2 h;omega
  unfold iH;rw [hb];rfl
end Go.Proofs.iq
namespace Go.Proofs.iq
open Go Go.RowKit Go.SW Go.Num Go.Mem Go.Proofs Go.gW Go.Proofs.aQ Go.Proofs.dQ
theorem quoE_end (x y:Int) (d:Nat) (up:Bool):vW x y d up=endF (Ij (x*y) d up):=rfl
theorem dn_of {q:Rat} {n:Int} {d:Nat} (hd:0<d) (h:q*((1000000000000:Int):Rat)=(n:Rat) / ((d:Int):Rat)):dnQ q=Ij n d false∧upQ q=Ij n d true:=by
 unfold dnQ upQ;rw [h]
 constructor
 ·rw [floor_div _ zo];rfl
 ·rw [neg_div',← Rat.intCast_neg,floor_div _ zo];rfl
theorem fit_div (x y:Int) (hy:y≠0):FitQ (fun x y up=>kP x 1000000000000 y up) (fun x y=>un x / un y) x y:=by
 have hE:=ai0;have e1:=Xy x;have e2:=Xy y;have hy':(y:Rat)≠0:=fun h=>hy (by exact_mod_cast h);have hu:un y≠0:=fun h=>hy' (by rw [← e2,h];exact Rat.zero_mul _)
 have key:un x / un y*((1000000000000:Int):Rat)=(((if y<0 then -x else x)*1000000000000:Int):Rat) / ((y.natAbs:Int):Rat):=by
  have h1:un x / un y=(x:Rat) / (y:Rat):=by
   rw [← e1,← e2]
   grind
  rw [h1,Rat.intCast_mul]
  by_cases h:y<0
  ·rw [if_pos h];have:((y.natAbs:Int):Rat)= -(y:Rat):=by rw [← Rat.intCast_neg];congr 1;omega
   rw [this,Rat.intCast_neg]
   grind
  ·rw [if_neg h];have:((y.natAbs:Int):Rat)=(y:Rat):=by congr 1;omega
   rw [this]
   grind
 have h:=dn_of zo key;unfold FitQ kP;simp only [quoE_end];exact ⟨congrArg endF h.1.symm,congrArg endF h.2.symm⟩
theorem fit_scl (d:Int) (hd:0<d) (x n:Int):FitQ (fun x y up=>kP x y d up) (fun x y=>un x*((y:Rat) / (d:Rat))) x n:=by
 have e1:=Xy x
 have hd':(d:Rat)≠0:=fun h=>by
  have:d=0:=by exact_mod_cast h
  omega
 have key:un x*((n:Rat) / (d:Rat))*((1000000000000:Int):Rat)=((x*n:Int):Rat) / ((d.natAbs:Int):Rat):=by
  have:((d.natAbs:Int):Rat)=(d:Rat):=by congr 1;omega
  rw [this,Rat.intCast_mul,← e1]
  grind
 have h:=dn_of zo key;unfold FitQ kP;simp only [quoE_end,if_neg (show ¬ d<0 by omega)];exact ⟨congrArg endF h.1.symm,congrArg endF h.2.symm⟩
theorem tight_div (a b:Int × Int) (h1:b.1≠0) (h2:b.2≠0):tightE (lowQ (un a.1 / un b.1) [un a.1 / un b.2,un a.2 / un b.1,un a.2 / un b.2]) (highQ (un a.1 / un b.1) [un a.1 / un b.2,un a.2 / un b.1,un a.2 / un b.2])=uM (fun x y up=>kP x 1000000000000 y up) a b :=
 tight_gen _ (fun x y=>un x / un y) a b (fit_div _ _ h1) (fit_div _ _ h2) (fit_div _ _ h1) (fit_div _ _ h2)
theorem tight_scl (a:Int × Int) (n d:Int) (hd:0<d):tightE (lowQ (un a.1*((n:Rat) / (d:Rat))) [un a.2*((n:Rat) / (d:Rat))]) (highQ (un a.1*((n:Rat) / (d:Rat))) [un a.2*((n:Rat) / (d:Rat))])=uM (fun x y up=>kP x y d up) a (n,n):=by
 rw [← tight_gen _ (fun x y=>un x*((y:Rat) / (d:Rat))) a (n,n) (fit_scl d hd _ _) (fit_scl d hd _ _) (fit_scl d hd _ _) (fit_scl d hd _ _)];simp only;generalize un a.1*((n:Rat) / (d:Rat))=p;generalize un a.2*((n:Rat) / (d:Rat))=q;have h1:lowQ p [p,q,q]=lowQ p [q]:=by unfold lowQ lowQ lowQ lowQ;grind
 have h2:highQ p [p,q,q]=highQ p [q]:=by unfold highQ highQ highQ highQ;grind
 rw [h1,h2]
end Go.Proofs.iq
namespace Go.gW
open Go Go.Num Go.Proofs
theorem tenP_pos (k:Nat):0<jN k:=Nat.pow_pos zo
theorem Hq.inv {a:Nat} {p:Rat} (h:Hq a p):Hq a (p⁻¹):=by
 obtain ⟨n,d,h1,h2,h3,rfl⟩:=h;have e1:=uy h1
 rcases Int.lt_trichotomy n 0 with h|rfl|h
 ·have e2:((-n:Int):Rat)≠0:=uy zo;rw [Rat.intCast_neg] at e2;refine ⟨-d, -n,by omega,by omega,by omega,?_⟩;rw [Rat.intCast_neg,Rat.intCast_neg]
  grind
 ·exact ⟨0,1,by omega,by have:=tenP_pos a;omega,by have:=tenP_pos a;omega,by simp [Rat.div_def]⟩
 ·have e2:=uy h;exact ⟨d,n,h,h3,h2,by grind⟩
theorem Hq.div {a b:Nat} {p q:Rat} (h:Hq a p) (k:Hq b q):Hq (a+b) (p / q):=by
 rw [Rat.div_def];exact h.mul k.inv
end Go.gW
namespace Go.Proofs.aQ
open Go Go.RowKit Go.SW Go.Num Go.Mem Go.Proofs Go.gW Go.Proofs.matrix Go.Proofs.iq Go.Proofs.dQ
theorem mul_le_nonpos {a b c:Rat} (h:a≤b) (hc:c≤0):b*c≤a*c:=by
 have h1:0≤ -c:=by grind
 have h2:=Rat.mul_le_mul_of_nonneg_right h h1
 grind
theorem seg {c x d:Rat} (y:Rat) (h1:c≤x) (h2:x≤d):(c*y≤x*y∨d*y≤x*y)∧(x*y≤c*y∨x*y≤d*y):=by
 rcases Rat.le_total (a:=0) (b:=y) with hy|hy
 ·exact ⟨.inl (Rat.mul_le_mul_of_nonneg_right h1 hy),.inr (Rat.mul_le_mul_of_nonneg_right h2 hy)⟩
 ·exact ⟨.inr (mul_le_nonpos h2 hy),.inl (mul_le_nonpos h1 hy)⟩
theorem seg2 {a b x c d y:Rat} (h1:a≤x) (h2:x≤b) (k1:c≤y) (k2:y≤d) :
  (a*c≤x*y∨a*d≤x*y∨b*c≤x*y∨b*d≤x*y)∧(x*y≤a*c∨x*y≤a*d∨x*y≤b*c∨x*y≤b*d):=by
 have s:=seg y h1 h2;have ta:=seg a k1 k2;have tb:=seg b k1 k2;rw [Rat.mul_comm c a,Rat.mul_comm d a,Rat.mul_comm y a] at ta;rw [Rat.mul_comm c b,Rat.mul_comm d b,Rat.mul_comm y b] at tb
 constructor
 ·rcases s.1 with h|h
  ·rcases ta.1 with g|g
   ·exact .inl (Rat.le_trans g h)
   ·exact .inr (.inl (Rat.le_trans g h))
  ·rcases tb.1 with g|g
   ·exact .inr (.inr (.inl (Rat.le_trans g h)))
   ·exact .inr (.inr (.inr (Rat.le_trans g h)))
 ·rcases s.2 with h|h
  ·rcases ta.2 with g|g
   ·exact .inl (Rat.le_trans h g)
   ·exact .inr (.inl (Rat.le_trans h g))
  ·rcases tb.2 with g|g
   ·exact .inr (.inr (.inl (Rat.le_trans h g)))
   ·exact .inr (.inr (.inr (Rat.le_trans h g)))
def Wi (M:Int) (v:Rat):Prop:=un (-M)≤v∧v≤un M
theorem un_neg (n:Int):un (-n)= -un n:=by unfold un;rw [Rat.intCast_neg,neg_div']
theorem Wi.dn {M:Int} {v:Rat} (h:Wi M v): -M≤flr (v*((1000000000000:Int):Rat)):=by
 have:=E_mono h.1;rw [Xy,Rat.floor_intCast] at this;rw [flr_eq];exact this
theorem Wi.up {M:Int} {v:Rat} (h:Wi M v): -(flr (-(v*((1000000000000:Int):Rat))))≤M:=by
 have:=E_anti h.2;rw [Xy,← Rat.intCast_neg,Rat.floor_intCast] at this;rw [flr_eq];omega
theorem _root_.Go.Proofs.matrix.In.lo {b:Int × Int} {q:Rat} {M:Int} (h:In b q M):un b.1≤q:=h.1
theorem _root_.Go.Proofs.matrix.In.hi {b:Int × Int} {q:Rat} {M:Int} (h:In b q M):q≤un b.2:=h.2.1
theorem _root_.Go.Proofs.matrix.In.mono {b:Int × Int} {q:Rat} {M N:Int} (h:In b q M) (k:M≤N):In b q N:=⟨h.1,h.2.1,by have:=h.2.2.1;omega,by have:=h.2.2.2;omega⟩
theorem un_mul_le {x y z:Int} (h:x*y≤z*1000000000000):un x*un y≤un z:=by
 rw [le_un_iff,un_prod];have e:=SI;have h2:((x*y:Int):Rat)≤((z*1000000000000:Int):Rat):=Rat.intCast_le_intCast.2 h;rw [Rat.intCast_mul z] at h2;have h3:=Rat.mul_le_mul_of_nonneg_right h2 (Rat.le_of_lt (Rat.inv_pos.2 e));rw [Rat.div_def]
 rwa [Rat.mul_assoc (z:Rat),Rat.mul_inv_cancel _ ai0,Rat.mul_one] at h3
theorem un_mul_ge {x y z:Int} (h:z*1000000000000≤x*y):un z≤un x*un y:=by
 have:=un_mul_le (x:= -x) (y:=y) (z:= -z) (by rw [Int.neg_mul,Int.neg_mul];omega);rw [un_neg,un_neg,Rat.neg_mul] at this;have:=Rat.neg_le_neg this
 rwa [Rat.neg_neg,Rat.neg_neg] at this
theorem mul_wi {x y A B M:Int} (hx:x.natAbs≤A) (hy:y.natAbs≤B) (h:A*B≤M*1000000000000):Wi M (un x*un y):=by
 have h1:(x*y).natAbs≤A*B:=by
  rw [Int.natAbs_mul,Int.natCast_mul];exact Int.mul_le_mul hx hy zo zo
 exact ⟨un_mul_ge zo,un_mul_le zo⟩
theorem okB2 {s t:Int × Int} (h:jc s.1 s.2=true) (k:jc t.1 t.2=true):okB [s,t]=true:=by
 unfold okB;simp only [List.all_cons,List.all_nil,Bool.and_true,h,k]
theorem okB1 {s:Int × Int} (h:jc s.1 s.2=true):okB [s]=true:=by
 unfold okB;simp only [List.all_cons,List.all_nil,Bool.and_true,h]
theorem in_aroundB {f:Fr} {q:Rat} {M:Int} (h:rd f=some q) (w:Wi M q) (hM:M≤1000000000000000000):∃ b,aQ.jE f=(b,0)∧In b q M:=by
 have e:aQ.jE f=tightE q q:=by rw [tight_around];unfold aQ.jE;rw [h]
 rw [e];exact made_in Rat.le_refl Rat.le_refl w.dn w.up hM
theorem Wi.of {n d M:Int} (hd:0<d) (h1: -(M*d)≤n*1000000000000) (h2:n*1000000000000≤M*d):Wi M ((n:Rat) / (d:Rat)):=by
 have hd':(0:Rat)<(d:Rat):=Rat.intCast_pos.2 hd;have hd0:(d:Rat)≠0:=fun e=>by rw [e] at hd';exact absurd hd' zd
 have key:∀ a b:Int,a*d≤b*1000000000000→un a≤(b:Rat) / (d:Rat):=fun a b h=>by
  rw [Jo];refine Rat.le_of_mul_le_mul_right (c:=(d:Rat)) ?_ hd';have e:(b:Rat) / (d:Rat)*((1000000000000:Int):Rat)*(d:Rat)=(b:Rat)*((1000000000000:Int):Rat):=by grind
  rw [e];have h2:((a*d:Int):Rat)≤((b*1000000000000:Int):Rat):=Rat.intCast_le_intCast.2 h;rw [Rat.intCast_mul,Rat.intCast_mul] at h2;exact h2
 refine ⟨key _ _ (by rw [Int.neg_mul];exact h1),?_⟩;have:=key (-M) (-n) (by rw [Int.neg_mul,Int.neg_mul];omega);rw [un_neg,Rat.intCast_neg,← neg_div'] at this
 grind
end Go.Proofs.aQ
namespace Go.Num
theorem plo_spec {q:Nat} (hq:0<q) (n p:Nat):uS n p q^q*10^(12*p)≤n^p*10^(12*q)∧n^p*10^(12*q)<(uS n p q+1)^q*10^(12*p):=by
 obtain ⟨h1,h2⟩:=kS hq (jC n p q);refine ⟨Ni.1 h1,?_⟩;rw [← Nat.not_le];exact fun h=>absurd (Ni.2 h) (Nat.not_le.2 h2)
theorem phi_bounds (n p q:Nat):uS n p q≤phi n p q∧phi n p q≤uS n p q+1:=by
 unfold phi;split<;>omega
theorem phi_spec {q:Nat} (hq:0<q) (n p:Nat):n^p*10^(12*q)≤phi n p q^q*10^(12*p):=by
 unfold phi;split
 ·rename_i h;exact Nat.le_of_eq (of_decide_eq_true h).symm
 ·exact Nat.le_of_lt (plo_spec hq n p).2
theorem phi_le {n p q r:Nat} (hq:0<q) (h:n^p*10^(12*q)≤r^q*10^(12*p)):phi n p q≤r:=by
 have s:=plo_spec hq n p
 have hr:uS n p q≤r:=by
  rcases Nat.lt_or_ge r (uS n p q) with h1|h1
  ·have a:=Nat.le_trans s.1 h;have b:r^q*10^(12*p)<uS n p q^q*10^(12*p):=(Nat.mul_lt_mul_right (oQ _)).2 (Nat.pow_lt_pow_left h1 zo);omega
  ·exact h1
 unfold phi;split
 ·exact hr
 ·rename_i h1
  rcases Nat.eq_or_lt_of_le hr with e|h2
  ·refine absurd ?_ h1;rw [← e] at h;unfold JH;exact decide_eq_true (Nat.le_antisymm s.1 h)
  ·omega
end Go.Num
namespace Go.Num
theorem nlo_spec (l:List Nat):nlo l^2≤oN l∧oN l<(nlo l+1)^2:=kS zo _
theorem nhi_spec (l:List Nat):oN l≤nhi l^2:=by
 unfold nhi;split
 ·rename_i h;omega
 ·exact Nat.le_of_lt (nlo_spec l).2
theorem nlo_le_nhi (l:List Nat):nlo l≤nhi l:=by
 unfold nhi;split<;>omega
theorem le_nlo {l:List Nat} {r:Nat} (h:r^2≤oN l):r≤nlo l:=tO zo h
theorem nlo_le {l:List Nat} {r:Nat} (h:oN l≤r^2):nlo l≤r:=by
 rcases Nat.lt_or_ge r (nlo l) with h1|h1
 ·have:=Nat.pow_lt_pow_left h1 (show 2≠0 by omega);have:=(nlo_spec l).1;omega
 ·exact h1
theorem nhi_le {l:List Nat} {r:Nat} (h:oN l≤r^2):nhi l≤r:=by
 have h1:=nlo_le h;unfold nhi;split
 ·exact h1
 ·rename_i h2
  rcases Nat.eq_or_lt_of_le h1 with e|h3
  ·have:=(nlo_spec l).1;rw [e] at this h2;omega
  ·omega
theorem sq_le {x:Nat} {l:List Nat} (h:x∈l):x^2≤oN l:=by
 induction l with
 | nil=>cases h
 | cons y t ih =>
  rw [LW]
  rcases List.mem_cons.1 h with rfl|h
  ·omega
  ·have:=ih h;omega
end Go.Num
namespace Go.Proofs.lab
open Go Go.RowKit Go.SW Go.Num Go.Mem Go.Proofs Go.gW Go.Proofs.aQ Go.Proofs.matrix Go.Proofs.iq Go.Proofs.dQ
def negB (b:Int × Int):Int × Int:=(-b.2, -b.1)
structure Wd (b:Int × Int):Prop where
 le:b.1≤b.2
 lo: -129000000000000≤b.1
 hi:b.2≤129000000000000
 far:Ca b=0∨5000000000≤Ca b
theorem Wd.ok {b:Int × Int} (h:Wd b):jc b.1 b.2=true:=bok_yes (by have:=h.lo;omega) h.le (by have:=h.hi;omega)
theorem un_E1:un 1000000000000=1:=by decide+kernel
theorem sq_le {a b:Rat} (h0:0≤a) (h:a≤b):a*a≤b*b:=Rat.le_trans (Rat.mul_le_mul_of_nonneg_left h h0) (Rat.mul_le_mul_of_nonneg_right h (Rat.le_trans h0 h))
theorem tight_neg {a b c d:Rat}:(tightE (lowQ (-c) [-d, -a, -b]) (highQ (-c) [-d, -a, -b]))=(if (tightE (lowQ a [b,c,d]) (highQ a [b,c,d])).2=0 then (negB (tightE (lowQ a [b,c,d]) (highQ a [b,c,d])).1,0) else tightE (lowQ a [b,c,d]) (highQ a [b,c,d])):=by
 obtain ⟨m1,m2,m3,m4,m5⟩:=low4 a b c d;obtain ⟨k1,k2,k3,k4,k5⟩:=high4 a b c d;obtain ⟨n1,n2,n3,n4,n5⟩:=low4 (-c) (-d) (-a) (-b);obtain ⟨l1,l2,l3,l4,l5⟩:=high4 (-c) (-d) (-a) (-b)
 have e1:lowQ (-c) [-d, -a, -b]= -(highQ a [b,c,d]):=by
  generalize lowQ (-c) [-d, -a, -b]=x at *;generalize highQ a [b,c,d]=y at *;clear m1 m2 m3 m4 m5 l1 l2 l3 l4 l5;refine Rat.le_antisymm ?_ ?_
  ·rcases k1 with rfl|rfl|rfl|rfl<;>assumption
  ·rcases n1 with rfl|rfl|rfl|rfl<;>exact Rat.neg_le_neg (by assumption)
 have e2:highQ (-c) [-d, -a, -b]= -(lowQ a [b,c,d]):=by
  generalize highQ (-c) [-d, -a, -b]=x at *;generalize lowQ a [b,c,d]=y at *;clear k1 k2 k3 k4 k5 n1 n2 n3 n4 n5;refine Rat.le_antisymm ?_ ?_
  ·rcases l1 with rfl|rfl|rfl|rfl<;>exact Rat.neg_le_neg (by assumption)
  ·rcases m1 with rfl|rfl|rfl|rfl<;>assumption
 rw [e1,e2];generalize highQ a [b,c,d]=y;generalize lowQ a [b,c,d]=x;unfold tightE;rw [Rat.neg_mul,Rat.neg_mul,Rat.neg_neg];generalize flr (x*((1000000000000:Int):Rat))=u;generalize flr (-(y*((1000000000000:Int):Rat)))=v;unfold iH negB;cases h:jc u (-v)
 ·have:jc v (-u)=false:=by
   unfold jc at *;simp only [Bool.and_eq_false_iff,decide_eq_false_iff_not] at *;omega
  rw [this];rfl
 ·have:jc v (-u)=true:=by
   unfold jc at *;simp only [Bool.and_eq_true,decide_eq_true_eq] at *;omega
  rw [this];simp only [if_true,Int.neg_neg]
theorem div_neg {A c q:Int × Int} (hA:jc A.1 A.2=true) (hA2:jc (negB A).1 (negB A).2=true) (hc:jc c.1 c.2=true) (h1:0<c.1) (h2:c.1≤c.2) (e:aQ.vg A c=(q,0)):aQ.vg (negB A) c=(negB q,0):=by
 have f:∀ A:Int × Int,jc A.1 A.2=true→aQ.vg A c=tightE (lowQ (un A.1 / un c.1) [un A.1 / un c.2,un A.2 / un c.1,un A.2 / un c.2]) (highQ (un A.1 / un c.1) [un A.1 / un c.2,un A.2 / un c.1,un A.2 / un c.2]):=fun A hA=>by
  rw [tight_div A c zo zo];unfold aQ.vg Us;rw [if_pos (okB2 hA hc),if_neg zo]
 rw [f A hA] at e;rw [f _ hA2];have n:∀ x y:Int,un (-x) / un y= -(un x / un y):=fun x y=>by rw [un_neg,← neg_div']
 show tightE (lowQ (un (-A.2) / un c.1) [un (-A.2) / un c.2,un (-A.1) / un c.1,un (-A.1) / un c.2]) (highQ (un (-A.2) / un c.1) [un (-A.2) / un c.2,un (-A.1) / un c.1,un (-A.1) / un c.2])=_
 rw [n,n,n,n,tight_neg,e];rfl
end Go.Proofs.lab
namespace Go.Proofs.differ
open Go Go.RowKit Go.SW Go.Num Go.Mem Go.Proofs Go.gW Go.Fx
instance (s:ByteArray) (n:Int):Decidable (Lit s n):=by unfold Lit;exact inferInstance
end Go.Proofs.differ
namespace Go.Proofs.lab
open Go Go.RowKit Go.SW Go.Num Go.Mem Go.Proofs Go.gW Go.Proofs.aQ Go.Proofs.matrix Go.Proofs.iq Go.Proofs.dQ
theorem made_out {lo hi:Int} {b:Int × Int} (h:iH lo hi=(b,0)):b=(lo,hi):=by
 unfold iH at h;split at h
 ·exact (congrArg Prod.fst h).symm
 ·exact absurd (show (6:Int)=0 from congrArg Prod.snd h) zd
theorem plo_up {m n:Nat} (h:m≤n):uS m 1 2≤uS n 1 2:=TJ zo (Nat.le_trans (plo_spec zo m 1).1 (Nat.mul_le_mul_right _ (by rw [Nat.pow_one,Nat.pow_one];exact h)))
theorem quo_sqM {x A M:Int} (h0:0≤x) (h1:x≤A) (hm:A*A≤M*1000000000000) (hM:M≤1000000000000000000) (up:Bool):kP x x 1000000000000 up=((if up then upQ (un x*un x) else dnQ (un x*un x)),true):=by
 have h2:0≤x*x:=Int.mul_nonneg h0 h0;have h3:x*x≤M*1000000000000:=Int.le_trans (Int.mul_le_mul h1 h1 h0 zo) hm;unfold kP;rw [if_neg zo];have e:(1000000000000:Int).natAbs=1000000000000:=rfl;rw [e];unfold vW;have d:=prod_down x x;have u:=prod_up x x
 have b1:(Ij (x*x) 1000000000000 up).natAbs≤1000000000000000000:=by
  have g1:(0:Int)≤x*x / 1000000000000:=Int.ediv_nonneg h2 zo;have g2:x*x / 1000000000000≤M:=Int.ediv_le_of_le_mul zo h3;have g3: -(x*x) / 1000000000000≤0:=by omega
  have g4: -M≤ -(x*x) / 1000000000000:=by omega
  unfold Ij;have c:((1000000000000:Nat):Int)=1000000000000:=rfl;rw [c];cases up
  ·rw [if_neg zd];omega
  ·rw [if_pos rfl];omega
 rw [if_pos b1];unfold upQ dnQ;rw [d,u];cases up<;>rfl
theorem un_nn {z:Int} (h:0≤z):0≤un z:=by
 have:un 0≤un z:=Cq.2 h;exact Rat.le_trans (by decide+kernel) this
theorem in_sqr {b:Int × Int} {v:Rat} {A:Int} (M:Int) (h:In b v A) (hA:A≤1000000000000000000) (hm:A*A≤M*1000000000000) (hM:M≤1000000000000000000):∃ s,qY b=(s,0)∧In s (v*v) M∧0≤s.1:=by
 have hb:=h.jc hA;have hle:=h.le;obtain ⟨h1,h2,h3,h4⟩:=h;have ea:=power.Rc (lo:=b.1) (hi:=b.2) hb;have eb:Ca (b.1,b.2)=Ca b:=rfl;have ec:Bw (b.1,b.2)=Bw b:=rfl;rw [eb,ec] at ea;have l1:Ca b≤Bw b:=by unfold Ca Bw;omega
 have l2:Bw b≤A:=by unfold Bw;omega
 have q1:=quo_sqM (x:=((Ca b:Nat):Int)) zo zo hm hM false;have q2:=quo_sqM (x:=((Bw b:Nat):Int)) zo zo hm hM true;rw [if_neg zd] at q1;rw [if_pos rfl] at q2
 have a1:∃ z:Rat,(z=v∨z= -v)∧un ((Ca b:Nat):Int)≤z∧z≤un ((Bw b:Nat):Int):=by
  rcases Rat.le_total (a:=0) (b:=v) with c|c
  ·refine ⟨v,.inl rfl,?_,Rat.le_trans h2 (Cq.2 (by unfold Bw;omega))⟩
   rcases Int.le_total b.1 0 with g|g
   ·rcases Int.le_total 0 b.2 with g2|g2
    ·rw [show ((Ca b:Nat):Int)=0 by unfold Ca;omega];exact Rat.le_trans (by decide+kernel) c
    ·have h5:=Cq.2 g2;have z0:un 0=0:=by decide+kernel
     rw [z0] at h5;have h6:v=0:=Rat.le_antisymm (Rat.le_trans h2 h5) c
     have h7:b.2=0:=by
      refine Int.le_antisymm g2 (Cq.1 ?_);rw [z0,← h6];exact h2
     rw [show ((Ca b:Nat):Int)=0 by unfold Ca;omega,z0];exact c
   ·rw [show ((Ca b:Nat):Int)=b.1 by unfold Ca;omega];exact h1
  ·have n1:un (-b.2)≤ -v:=by rw [un_neg];exact Rat.neg_le_neg h2
   have n2: -v≤un (-b.1):=by rw [un_neg];exact Rat.neg_le_neg h1
   refine ⟨-v,.inr rfl,?_,Rat.le_trans n2 (Cq.2 (by unfold Bw;omega))⟩;have c':0≤ -v:=by have:=Rat.neg_le_neg c;rwa [Rat.neg_zero] at this
   rcases Int.le_total 0 b.2 with g|g
   ·rcases Int.le_total b.1 0 with g2|g2
    ·rw [show ((Ca b:Nat):Int)=0 by unfold Ca;omega];exact Rat.le_trans (by decide+kernel) c'
    ·have h5:=Cq.2 g2;have z0:un 0=0:=by decide+kernel
     rw [z0] at h5;have h6:v=0:=Rat.le_antisymm c (Rat.le_trans h5 h1)
     have h7:b.1=0:=by
      refine Int.le_antisymm (Cq.1 ?_) g2;rw [z0,← h6];exact h1
     rw [show ((Ca b:Nat):Int)=0 by unfold Ca;omega,z0];exact c'
   ·rw [show ((Ca b:Nat):Int)= -b.2 by unfold Ca;omega];exact n1
 obtain ⟨z,hz,z1,z2⟩:=a1;have zz:v*v=z*z:=by rcases hz with rfl|rfl<;>grind
 have u0:=un_nn (z:=((Ca b:Nat):Int)) zo;have m1:=sq_le u0 z1;have m2:=sq_le (Rat.le_trans u0 z1) z2;rw [← zz] at m1 m2;have w1:Wi M (un ((Ca b:Nat):Int)*un ((Ca b:Nat):Int)):=mul_wi (A:=A) (B:=A) zo zo hm;have w2:Wi M (un ((Bw b:Nat):Int)*un ((Bw b:Nat):Int)):=mul_wi (A:=A) (B:=A) zo zo hm;obtain ⟨s,es,hs⟩:=made_in (q:=v*v) m1 m2 w1.dn w2.up hM;unfold tightE at es;rw [flr_eq,flr_eq] at es;refine ⟨s,?_,hs,?_⟩
 ·unfold qY;rw [ea];simp only [q1,q2,ne_eq,not_true_eq_false,if_false,and_self,if_true];exact es
 ·rw [made_out es];exact Rat.le_floor_iff.2 (Rat.mul_nonneg (Rat.mul_nonneg u0 u0) (Rat.le_of_lt SI))
theorem around_lo {f:Fr} {q:Rat} {b:Int × Int} {z:Int} (h:rd f=some q) (e:aQ.jE f=(b,0)) (hz:un z≤q):z≤b.1:=by
 have e2:aQ.jE f=tightE q q:=by rw [tight_around];unfold aQ.jE;rw [h]
 rw [e2] at e;unfold tightE at e;rw [made_out e,flr_eq];exact Rat.le_floor_iff.2 ((Jo _ _).1 hz)
end Go.Proofs.lab
namespace Go.Proofs.aQ
open Go Go.RowKit Go.Num Go.Mem Go.Proofs Go.gW Go.Proofs.matrix Go.Proofs.lab Go.Proofs.iq Go.Proofs.dQ
structure Sb (a A:Int × Int):Prop where
 lo:A.1≤a.1
 le:a.1≤a.2
 hi:a.2≤A.2
theorem Sb.refl {a:Int × Int} (h:a.1≤a.2):Sb a a:=⟨Int.le_refl _,h,Int.le_refl _⟩
theorem Sb.trans {a b c:Int × Int} (h:Sb a b) (k:Sb b c):Sb a c:=⟨Int.le_trans k.lo h.lo,h.le,Int.le_trans h.hi k.hi⟩
theorem Sb.jc {a A:Int × Int} (h:Sb a A) (k:jc A.1 A.2=true):jc a.1 a.2=true:=by
 obtain ⟨n1,n2,n3⟩:=lK k;obtain ⟨h1,h2,h3⟩:=h;exact bok_yes zo h2 zo
theorem made_iso {x y X Y:Int} {C:Int × Int} (h1:X≤x) (h2:x≤y) (h3:y≤Y) (e:iH X Y=(C,0)):∃ c,iH x y=(c,0)∧Sb c C:=by
 have hC:=made_out e;subst hC
 have hb:jc X Y=true:=by
  unfold iH at e;split at e
  ·assumption
  ·exact absurd (show (6:Int)=0 from congrArg Prod.snd e) zd
 refine ⟨(x,y),?_,h1,h2,h3⟩;unfold iH;rw [if_pos (Sb.jc (a:=(x,y)) (A:=(X,Y)) ⟨h1,h2,h3⟩ hb)]
theorem ok_if {c:Prop} [Decidable c] {r:(Int × Int) × Int} {C:Int × Int} {k:Int} (hk:k≠0) (h:(if c then r else ((0,0),k))=(C,0)):c∧r=(C,0):=by
 split at h
 ·exact ⟨by assumption,h⟩
 ·exact absurd (congrArg Prod.snd h) hk
theorem okB_two {a b:Int × Int} (h:okB [a,b]=true):jc a.1 a.2=true∧jc b.1 b.2=true:=by
 unfold okB at h
 simpa only [List.all_cons,List.all_nil,Bool.and_true,Bool.and_eq_true] using h
theorem okB_one {a:Int × Int} (h:okB [a]=true):jc a.1 a.2=true:=by
 unfold okB at h
 simpa only [List.all_cons,List.all_nil,Bool.and_true] using h
section
variable {a b A B C:Int × Int}
theorem iso_add (ha:Sb a A) (hb:Sb b B) (e:gU A B=(C,0)):∃ c,gU a b=(c,0)∧Sb c C:=by
 obtain ⟨h1,h2⟩:=ok_if zd e;obtain ⟨k1,k2⟩:=okB_two h1;obtain ⟨c,h3,h4⟩:=made_iso (x:=a.1+b.1) (y:=a.2+b.2) (by have:=ha.lo;have:=hb.lo;omega) (by have:=ha.le;have:=hb.le;omega) (by have:=ha.hi;have:=hb.hi;omega) h2;refine ⟨c,?_,h4⟩;unfold gU;rw [if_pos (okB2 (ha.jc k1) (hb.jc k2))];exact h3
theorem iso_sub (ha:Sb a A) (hb:Sb b B) (e:pU A B=(C,0)):∃ c,pU a b=(c,0)∧Sb c C:=by
 obtain ⟨h1,h2⟩:=ok_if zd e;obtain ⟨k1,k2⟩:=okB_two h1;obtain ⟨c,h3,h4⟩:=made_iso (x:=a.1 - b.2) (y:=a.2 - b.1) (by have:=ha.lo;have:=hb.hi;omega) (by have:=ha.le;have:=hb.le;omega) (by have:=ha.hi;have:=hb.lo;omega) h2;refine ⟨c,?_,h4⟩;unfold pU;rw [if_pos (okB2 (ha.jc k1) (hb.jc k2))];exact h3
theorem tight_iso {lo hi LO HI:Rat} (h1:LO≤lo) (h2:lo≤hi) (h3:hi≤HI) (e:tightE LO HI=(C,0)):∃ c,tightE lo hi=(c,0)∧Sb c C:=by
 unfold tightE at *;refine made_iso ?_ ?_ ?_ e
 ·rw [flr_eq,flr_eq];exact Rat.le_floor_iff.2 (Rat.le_trans (Rat.floor_le _) (Rat.mul_le_mul_of_nonneg_right h1 (Rat.le_of_lt SI)))
 ·rw [flr_eq,flr_eq];have x1:=Rat.floor_le (lo*((1000000000000:Int):Rat));have x2:=Rat.floor_le (-(hi*((1000000000000:Int):Rat)));have x3:=Rat.mul_le_mul_of_nonneg_right h2 (Rat.le_of_lt SI)
  have x4:((lo*((1000000000000:Int):Rat)).floor:Rat)≤((-(-(hi*((1000000000000:Int):Rat))).floor:Int):Rat):=by
   rw [Rat.intCast_neg];generalize lo*((1000000000000:Int):Rat)=x at *;generalize hi*((1000000000000:Int):Rat)=y at *;generalize ((x.floor:Int):Rat)=u at *;generalize (((-y).floor:Int):Rat)=v at *
   grind
  exact Rat.intCast_le_intCast.1 x4
 ·rw [flr_eq,flr_eq];have:(-(HI*((1000000000000:Int):Rat))).floor≤(-(hi*((1000000000000:Int):Rat))).floor:=Rat.le_floor_iff.2 (Rat.le_trans (Rat.floor_le _) (Rat.neg_le_neg (Rat.mul_le_mul_of_nonneg_right h3 (Rat.le_of_lt SI))));omega
def Bt4 (P0 P1 P2 P3 q:Rat):Prop:=(P0≤q∨P1≤q∨P2≤q∨P3≤q)∧(q≤P0∨q≤P1∨q≤P2∨q≤P3)
theorem four_iso {p0 p1 p2 p3 P0 P1 P2 P3:Rat} (l0:Bt4 P0 P1 P2 P3 p0) (l1:Bt4 P0 P1 P2 P3 p1) (l2:Bt4 P0 P1 P2 P3 p2) (l3:Bt4 P0 P1 P2 P3 p3) (e:tightE (lowQ P0 [P1,P2,P3]) (highQ P0 [P1,P2,P3])=(C,0)) :
  ∃ c,tightE (lowQ p0 [p1,p2,p3]) (highQ p0 [p1,p2,p3])=(c,0)∧Sb c C:=by
 obtain ⟨M1,M2,M3,M4,M5⟩:=low4 P0 P1 P2 P3;obtain ⟨K1,K2,K3,K4,K5⟩:=high4 P0 P1 P2 P3;obtain ⟨m1,m2,m3,m4,m5⟩:=low4 p0 p1 p2 p3;obtain ⟨k1,k2,k3,k4,k5⟩:=high4 p0 p1 p2 p3
 have lo:∀ q,Bt4 P0 P1 P2 P3 q→lowQ P0 [P1,P2,P3]≤q:=fun q h=>by
  rcases h.1 with h|h|h|h
  ·exact Rat.le_trans M2 h
  ·exact Rat.le_trans M3 h
  ·exact Rat.le_trans M4 h
  ·exact Rat.le_trans M5 h
 have hi:∀ q,Bt4 P0 P1 P2 P3 q→q≤highQ P0 [P1,P2,P3]:=fun q h=>by
  rcases h.2 with h|h|h|h
  ·exact Rat.le_trans h K2
  ·exact Rat.le_trans h K3
  ·exact Rat.le_trans h K4
  ·exact Rat.le_trans h K5
 refine tight_iso ?_ (Rat.le_trans m2 k2) ?_ e
 ·rcases m1 with h|h|h|h<;>rw [h]
  ·exact lo _ l0
  ·exact lo _ l1
  ·exact lo _ l2
  ·exact lo _ l3
 ·rcases k1 with h|h|h|h<;>rw [h]
  ·exact hi _ l0
  ·exact hi _ l1
  ·exact hi _ l2
  ·exact hi _ l3
theorem Sb.ends (h:Sb a A):un A.1≤un a.1∧un a.1≤un A.2∧un A.1≤un a.2∧un a.2≤un A.2:=by
 obtain ⟨h1,h2,h3⟩:=h;exact ⟨Cq.2 h1,Cq.2 zo,Cq.2 zo,Cq.2 h3⟩
theorem mul_tight (h:okB [a,b]=true):jo a b=tightE (lowQ (un a.1*un b.1) [un a.1*un b.2,un a.2*un b.1,un a.2*un b.2]) (highQ (un a.1*un b.1) [un a.1*un b.2,un a.2*un b.1,un a.2*un b.2]):=by
 rw [tight_mul a b];unfold jo;rw [if_pos h]
theorem iso_mul (ha:Sb a A) (hb:Sb b B) (e:jo A B=(C,0)):∃ c,jo a b=(c,0)∧Sb c C:=by
 have e0:=e;unfold jo at e0;obtain ⟨h1, -⟩:=ok_if zd e0;obtain ⟨k1,k2⟩:=okB_two h1;rw [mul_tight h1] at e;rw [mul_tight (okB2 (ha.jc k1) (hb.jc k2))];obtain ⟨x1,x2,x3,x4⟩:=ha.ends;obtain ⟨y1,y2,y3,y4⟩:=hb.ends;exact four_iso (seg2 x1 x2 y1 y2) (seg2 x1 x2 y3 y4) (seg2 x3 x4 y1 y2) (seg2 x3 x4 y3 y4) e
theorem inv_le {x y:Rat} (hx:0<x) (hxy:x≤y):y⁻¹≤x⁻¹:=by
 have hy:0<y:=Std.lt_of_lt_of_le hx hxy;have ix:=Rat.inv_pos.2 hx;have iy:=Rat.inv_pos.2 hy;have h5:=Rat.mul_le_mul_of_nonneg_right hxy (Rat.le_of_lt (Rat.mul_pos ix iy));have nx:x≠0:=fun e=>by rw [e] at hx;exact absurd hx Rat.lt_irrefl
 have ny:y≠0:=fun e=>by rw [e] at hy;exact absurd hy Rat.lt_irrefl
 have e1:x*(x⁻¹*y⁻¹)=y⁻¹:=by rw [← Rat.mul_assoc,Rat.mul_inv_cancel _ nx,Rat.one_mul]
 have e2:y*(x⁻¹*y⁻¹)=x⁻¹:=by rw [Rat.mul_comm x⁻¹,← Rat.mul_assoc,Rat.mul_inv_cancel _ ny,Rat.one_mul]
 rwa [e1,e2] at h5
theorem un_pos {z:Int} (h:0<z):0<un z:=by
 have:un 1≤un z:=Cq.2 zo;exact Std.lt_of_lt_of_le (by decide+kernel) this
theorem div_tight (h:okB [a,b]=true) (hb:0<b.1) (hb2:b.1≤b.2):vg a b=tightE (lowQ (un a.1 / un b.1) [un a.1 / un b.2,un a.2 / un b.1,un a.2 / un b.2]) (highQ (un a.1 / un b.1) [un a.1 / un b.2,un a.2 / un b.1,un a.2 / un b.2]):=by
 rw [tight_div a b zo zo];unfold vg Us;rw [if_pos h,if_neg zo]
theorem iso_div (ha:Sb a A) (hb:Sb b B) (hB:0<B.1) (e:vg A B=(C,0)):∃ c,vg a b=(c,0)∧Sb c C:=by
 have e0:=e;unfold vg at e0;obtain ⟨h1, -⟩:=ok_if zd e0;obtain ⟨k1,k2⟩:=okB_two h1;have q1:=hb.lo;have q2:=hb.le;have q3:=hb.hi;rw [div_tight h1 hB zo] at e;rw [div_tight (okB2 (ha.jc k1) (hb.jc k2)) zo q2];obtain ⟨x1,x2,x3,x4⟩:=ha.ends;obtain ⟨y1,y2,y3,y4⟩:=hb.ends;have p0:=un_pos hB;have p1:0<un b.1:=un_pos zo;have p2:0<un b.2:=un_pos zo;have z1:=inv_le p0 y1;have z2:=inv_le p1 y2;have z3:=inv_le p0 y3;have z4:=inv_le p2 y4;simp only [Rat.div_def] at *;have sw:∀ {x y z t q:Rat},Bt4 x y z t q→Bt4 y x t z q:=fun h=>⟨by rcases h.1 with h|h|h|h<;>simp [h],by rcases h.2 with h|h|h|h<;>simp [h]⟩
 exact four_iso (sw (seg2 x1 x2 z2 z1)) (sw (seg2 x1 x2 z4 z3)) (sw (seg2 x3 x4 z2 z1)) (sw (seg2 x3 x4 z4 z3)) e
theorem iso_abs (ha:Sb a A) (e:nT A.1 A.2=(C,0)):∃ c,nT a.1 a.2=(c,0)∧Sb c C:=by
 obtain ⟨h1,h2⟩:=ok_if zd e;have q1:=ha.lo;have q2:=ha.le;have q3:=ha.hi;obtain ⟨c,h3,h4⟩:=made_iso (x:=max (max a.1 (-a.2)) 0) (y:=max (-a.1) a.2) zo zo zo h2;refine ⟨c,?_,h4⟩;unfold nT;rw [if_pos (ha.jc h1)];exact h3
theorem iso_clp {lo hi:Int} (ha:Sb a A) (e:zO A lo hi=(C,0)):∃ c,zO a lo hi=(c,0)∧Sb c C:=by
 obtain ⟨h1,h2⟩:=ok_if zd e;have h2':=h2;unfold Uy at h2';obtain ⟨h3,h4⟩:=ok_if zd h2';have q1:=ha.lo;have q2:=ha.le;have q3:=ha.hi;obtain ⟨c,h5,h6⟩:=made_iso (x:=min (max a.1 lo) hi) (y:=min (max a.2 lo) hi) zo zo zo h4;refine ⟨c,?_,h6⟩;unfold zO Uy;rw [if_pos (okB1 (ha.jc (okB_one h1))),if_pos h3];exact h5
end
end Go.Proofs.aQ
namespace Go.Proofs.aQ
open Go Go.RowKit Go.Num Go.Mem Go.Proofs Go.gW Go.Proofs.matrix Go.Proofs.lab Go.Proofs.iq Go.Proofs.dQ
section
variable {a b A B C:Int × Int}
theorem quo_x {x:Int} (up:Bool):kP x x 1000000000000 up=if (Ij (x*x) 1000000000000 up).natAbs≤1000000000000000000 then (Ij (x*x) 1000000000000 up,true) else (0,false):=by
 unfold kP;rw [if_neg zo];rfl
theorem rnd_mono1 {x y:Int} (h:x≤y) (up:Bool):Ij x 1000000000000 up≤Ij y 1000000000000 up:=by
 unfold Ij;have c:((1000000000000:Nat):Int)=1000000000000:=rfl;rw [c];cases up
 ·rw [if_neg zd,if_neg zd];omega
 ·rw [if_pos rfl,if_pos rfl];omega
theorem rnd_nn {x:Int} (h:0≤x) (up:Bool):0≤Ij x 1000000000000 up:=by
 unfold Ij;have c:((1000000000000:Nat):Int)=1000000000000:=rfl;rw [c];cases up
 ·rw [if_neg zd];omega
 ·rw [if_pos rfl];omega
theorem rnd_lu {x y:Int} (h:x≤y):Ij x 1000000000000 false≤Ij y 1000000000000 true:=by
 unfold Ij;have c:((1000000000000:Nat):Int)=1000000000000:=rfl;rw [c,if_neg zd,if_pos rfl];omega
theorem sqr_eq (h:jc a.1 a.2=true):qY a=if (Ij ((Ca a:Int)*(Ca a:Int)) 1000000000000 false).natAbs≤1000000000000000000∧(Ij ((Bw a:Int)*(Bw a:Int)) 1000000000000 true).natAbs≤1000000000000000000 then iH (Ij ((Ca a:Int)*(Ca a:Int)) 1000000000000 false) (Ij ((Bw a:Int)*(Bw a:Int)) 1000000000000 true) else ((0,0),6):=by
 have ea:=power.Rc (lo:=a.1) (hi:=a.2) h;have eb:Ca (a.1,a.2)=Ca a:=rfl;have ec:Bw (a.1,a.2)=Bw a:=rfl;rw [eb,ec] at ea;unfold qY;rw [ea];simp only [ne_eq,not_true_eq_false,if_false,quo_x]
 by_cases h1:(Ij ((Ca a:Int)*(Ca a:Int)) 1000000000000 false).natAbs≤1000000000000000000
 ·by_cases h2:(Ij ((Bw a:Int)*(Bw a:Int)) 1000000000000 true).natAbs≤1000000000000000000
  ·rw [if_pos h1,if_pos h2,if_pos ⟨rfl,rfl⟩,if_pos ⟨h1,h2⟩]
  ·rw [if_pos h1,if_neg h2,if_neg (fun h=>by cases h.2),if_neg (fun h=>h2 h.2)]
 ·rw [if_neg h1,if_neg (fun h=>by cases h.1),if_neg (fun h=>h1 h.1)]
theorem Sb.bl (h:Sb a A):Ca A≤Ca a∧Ca a≤Bw a∧Bw a≤Bw A:=by
 obtain ⟨h1,h2,h3⟩:=h;unfold Ca Bw;omega
theorem sqr_bok (e:qY A=(C,0)):jc A.1 A.2=true:=by
 cases h:jc A.1 A.2 with
 | true=>rfl
 | false =>
  unfold qY nT at e;rw [h] at e;simp at e
theorem iso_sqr (ha:Sb a A) (e:qY A=(C,0)):∃ c,qY a=(c,0)∧Sb c C:=by
 have hA:=sqr_bok e;rw [sqr_eq hA] at e;rw [sqr_eq (ha.jc hA)];obtain ⟨⟨h1,h2⟩,h3⟩:=ok_if zd e;obtain ⟨b1,b2,b3⟩:=ha.bl;have m1:(Ca A:Int)*(Ca A:Int)≤(Ca a:Int)*(Ca a:Int):=Int.mul_le_mul zo zo zo zo;have m2:(Ca a:Int)*(Ca a:Int)≤(Bw a:Int)*(Bw a:Int):=Int.mul_le_mul zo zo zo zo;have m3:(Bw a:Int)*(Bw a:Int)≤(Bw A:Int)*(Bw A:Int):=Int.mul_le_mul zo zo zo zo;have m0:0≤(Ca a:Int)*(Ca a:Int):=Int.mul_nonneg zo zo;have r1:=rnd_mono1 m1 false;have r2:=rnd_lu m2;have r3:=rnd_mono1 m3 true;have r0:=rnd_nn m0 false;rw [if_pos ⟨by omega,by omega⟩];exact made_iso r1 r2 r3 h3
theorem scl_tight {n d:Int} (h:jc a.1 a.2=true) (hn:¬ (n< -1000000000000∨1000000000000<n∨d<1∨1000000000000<d)):xH a n d=tightE (lowQ (un a.1*((n:Rat) / (d:Rat))) [un a.2*((n:Rat) / (d:Rat)),un a.2*((n:Rat) / (d:Rat)),un a.2*((n:Rat) / (d:Rat))]) (highQ (un a.1*((n:Rat) / (d:Rat))) [un a.2*((n:Rat) / (d:Rat)),un a.2*((n:Rat) / (d:Rat)),un a.2*((n:Rat) / (d:Rat))]):=by
 have g1:∀ p q:Rat,lowQ p [q,q,q]=lowQ p [q]:=fun p q=>by unfold lowQ lowQ lowQ lowQ;grind
 have g2:∀ p q:Rat,highQ p [q,q,q]=highQ p [q]:=fun p q=>by unfold highQ highQ highQ highQ;grind
 rw [g1,g2,tight_scl a n d zo];unfold xH Tm;rw [if_pos (okB1 h),if_neg hn]
theorem iso_scl {n d:Int} (ha:Sb a A) (e:xH A n d=(C,0)):∃ c,xH a n d=(c,0)∧Sb c C:=by
 have e0:=e;unfold xH at e0;obtain ⟨h1,h2⟩:=ok_if zd e0
 have hn:¬ (n< -1000000000000∨1000000000000<n∨d<1∨1000000000000<d):=fun hn=>by
  unfold Tm at h2;rw [if_pos hn] at h2;exact absurd (show (2:Int)=0 from congrArg Prod.snd h2) zd
 have k1:=okB_one h1;rw [scl_tight k1 hn] at e;rw [scl_tight (ha.jc k1) hn];obtain ⟨x1,x2,x3,x4⟩:=ha.ends;have bt:∀ {x y q:Rat},(x≤q∨y≤q)∧(q≤x∨q≤y)→Bt4 x y y y q:=fun h=>⟨h.1.imp id .inl,h.2.imp id .inl⟩
 have s1:=bt (seg ((n:Rat) / (d:Rat)) x1 x2);have s2:=bt (seg ((n:Rat) / (d:Rat)) x3 x4);exact four_iso s1 s2 s2 s2 e
theorem ch_max (a b:Int × Int):I8 1 a b=((max a.1 b.1,max a.2 b.2),0):=by
 unfold I8;split
 ·rename_i h;rw [h,Int.max_self,Int.max_self]
 ·rfl
theorem ch_hull (a b:Int × Int):I8 2 a b=((min a.1 b.1,max a.2 b.2),0):=by
 unfold I8;split
 ·rename_i h;rw [h,Int.max_self,Int.min_self]
 ·rfl
theorem iso_max (ha:Sb a A) (hb:Sb b B) (e:MV A B=(C,0)):∃ c,MV a b=(c,0)∧Sb c C:=by
 unfold MV at *;obtain ⟨h1,h2⟩:=ok_if zd e;obtain ⟨k1,k2⟩:=okB_two h1;rw [if_pos (okB2 (ha.jc k1) (hb.jc k2)),ch_max];rw [ch_max] at h2;cases h2
 obtain ⟨x1,x2,x3⟩:=ha;obtain ⟨y1,y2,y3⟩:=hb;exact ⟨_,rfl,by show max A.1 B.1≤max a.1 b.1;omega,by show max a.1 b.1≤max a.2 b.2;omega,by show max a.2 b.2≤max A.2 B.2;omega⟩
theorem iso_hull (ha:Sb a A) (hb:Sb b B) (e:Dw A B=(C,0)):(∃ c,Dw a b=(c,0)∧Sb c C)∧Sb a C∧Sb b C:=by
 unfold Dw at *;obtain ⟨h1,h2⟩:=ok_if zd e;obtain ⟨k1,k2⟩:=okB_two h1;rw [if_pos (okB2 (ha.jc k1) (hb.jc k2)),ch_hull];rw [ch_hull] at h2;cases h2
 obtain ⟨x1,x2,x3⟩:=ha;obtain ⟨y1,y2,y3⟩:=hb;refine ⟨⟨_,rfl,by show min A.1 B.1≤min a.1 b.1;omega,by show min a.1 b.1≤max a.2 b.2;omega,by show max a.2 b.2≤max A.2 B.2;omega⟩,⟨?_,x2,?_⟩,⟨?_,y2,?_⟩⟩<;>simp only<;>omega
theorem out_parts {x y:Int × Int} (e:power.Bc x y=(C,0)):x.2=0∧y.2=0∧C=(x.1,y.1)∧jc x.1 y.1=true:=by
 unfold power.Bc at e;split at e
 ·rename_i h;exact absurd (congrArg Prod.snd e) h
 ·split at e
  ·rename_i h;exact absurd (congrArg Prod.snd e) h
  ·rename_i h1 h2;obtain ⟨h3,h4⟩:=ok_if zd e;exact ⟨by omega,by omega,(congrArg Prod.fst h4).symm,h3⟩
theorem sq2 {x y:Nat}:oN [x,y]=x^2+y^2:=by simp [oN]
theorem sq3 {x y z:Nat}:oN [x,y,z]=x^2+(y^2+z^2):=by simp [oN]
theorem iso_root (ha:Sb a A) (e:power.O5 A.1 A.2 1 2=(C,0)):∃ c,power.O5 a.1 a.2 1 2=(c,0)∧Sb c C:=by
 obtain ⟨x1,x2,x3⟩:=ha;unfold power.O5 at *;split at e
 ·exact absurd (show (30:Int)=0 from congrArg Prod.snd e) zd
 ·rename_i g1;split at e
  ·exact absurd (show (2:Int)=0 from congrArg Prod.snd e) zd
  ·rename_i g2;have hA:jc A.1 A.2=true:=by simpa using g1
   have ha:jc a.1 a.2=true:=Sb.jc ⟨x1,x2,x3⟩ hA;rw [if_neg (by rw [ha];decide),if_neg (fun h=>g2 (h.imp id (fun h=>by omega)))];obtain ⟨e1,e2,rfl,e4⟩:=out_parts e;simp only [show (1:Int).toNat=1 from rfl,show (2:Int).toNat=2 from rfl] at e1 e2 e4 ⊢;have a1:uS A.1.toNat 1 2≤uS a.1.toNat 1 2:=plo_up zo;have a2:uS a.1.toNat 1 2≤uS a.2.toNat 1 2:=plo_up zo;have a3:uS a.2.toNat 1 2≤uS A.2.toNat 1 2:=plo_up zo;have a4:phi a.2.toNat 1 2≤phi A.2.toNat 1 2:=phi_le zo (Nat.le_trans (Nat.mul_le_mul_right _ (by rw [Nat.pow_one,Nat.pow_one];omega)) (phi_spec zo _ _));have a5:=(phi_bounds a.2.toNat 1 2).1;unfold u7 at *
   have c2:uS A.2.toNat 1 2≤10^18:=by
    refine Nat.not_lt.1 fun h=>?_;rw [if_neg zo] at e2;exact absurd e2 zd
   have c1:uS A.1.toNat 1 2≤10^18:=by omega
   simp only [if_pos c1,if_pos c2,Bool.false_eq_true,if_false,if_true] at e4 ⊢;rw [if_pos (show uS a.1.toNat 1 2≤10^18 by omega),if_pos (show uS a.2.toNat 1 2≤10^18 by omega)];have s:Sb (((uS a.1.toNat 1 2:Nat):Int),((phi a.2.toNat 1 2:Nat):Int)) (((uS A.1.toNat 1 2:Nat):Int),((phi A.2.toNat 1 2:Nat):Int)):=⟨by simp only;omega,by simp only;omega,by simp only;omega⟩;refine ⟨_,?_,s⟩;unfold power.Bc;simp only [ne_eq,not_true_eq_false,if_false,s.jc e4,if_true]
end
end Go.Proofs.aQ
namespace Go.Proofs.light
open Go Go.RowKit Go.SW Go.Num Go.Mem Go.Proofs Go.Dec Go.gW
def enc (t:uF) (k:Fin 3):Array Value:=#[.int .i64 (k.1:Int),(t.get k.1).v]
end Go.Proofs.light
namespace Go.Proofs.iR
open Go Go.RowKit Go.SW Go.Num Go.Mem Go.Proofs Go.Dec Go.gW
def sm (n d:Int):Bool:=decide (-1000000≤n)&&decide (n≤1000000)&&decide (1≤d)&&decide (d≤1000000)&&zF (q2 n d)
end Go.Proofs.iR
namespace Go.Mem
open Go Go.RowKit Go.SW Go.Num Go.Dec
structure Hd (p:Prop):Type where
 out:p
def hd {p:Prop} (h:p):Hd p:=⟨h⟩
def Hd.bl {w w':World} {b:Nat} {cs:Array Value} {T:TypeId} (h:Hd (aC w b cs T)) (hb:Below w.heap.size w w'):Hd (aC w' b cs T):=hd (h.out.later hb)
end Go.Mem
namespace Go.Proofs.dQ
open Go Go.RowKit Go.SW Go.Num Go.Mem Go.Proofs Go.Dec Go.Proofs.aV Go.gW
theorem qI (n d:Int) (h1: -9223372036854775808≤n) (h2:n≤9223372036854775807) (h3: -9223372036854775808≤d) (h4:d≤9223372036854775807) (w:World) :
  Calls Tryz.prog 63 #[.int .i64 n,.int .i64 d] w (OY w (tH n d)):=by
 unfold tH
 by_cases hd:d=0
 ·subst hd;rw [if_pos rfl];clear h1 h2 h3 h4;go_enter Tryz.func63,Tryz.ntmps63
  go_wp2_with fail
  refine aY rfl rfl bf Tryz.underlying29 rfl zk ?_;exact ⟨rfl,aN⟩
 ·rw [if_neg hd];have H1:=zh (fun W=>OE n d h1 h2 h3 h4 hd W);obtain ⟨l1,l2⟩:=M0 (n:=n) hd;have H2:=zh (fun x W hx=>BQ x ((n:Rat) / (d:Rat)) W hx (Nat.le_trans (gZ zo l1) (Nat.le_trans (AU h1 h2) zo)) (Nat.le_trans (gZ zo l2) (Nat.le_trans (AU h3 h4) zo)));clear l1 l2;generalize (n:Rat) / (d:Rat)=q at *;obtain ⟨⟨⟨s1,s2⟩,k⟩,E⟩:∃ y,wr q=y:=⟨_,rfl⟩;rw [E] at H2 ⊢;replace H2:Hid (∀ x W,Ra W x q→Calls Tryz.prog 100 #[x] W (fun e w'=>e= .returned (.tuple #[.agg #[.string s1,.string s2],.int .i64 k])∧Below W.heap.size W w')):=H2;clear E h1 h2 h3 h4;go_enter Tryz.func63,Tryz.ntmps63
  go_wp2_with fail
  obtain ⟨Te,EW,hz,X1⟩:=EP w #[.string ⟨#[]⟩,.string ⟨#[]⟩] 29;rw [EW];have hk2:=Bt (Below.refl _ _) hz;clear EW hz;refine (H1.out _).mono ?_;rintro e Co ⟨vq,rfl,hb3,hq⟩;replace X1:=X1.bl hb3;have hk5:=Bt hk2 hb3;clear hk2;have NQ:=zh hq;clear hb3 hq;go_wp2_with fail
  refine (H2.out _ _ NQ.out).mono ?_;rintro e Xw ⟨rfl,hb6⟩;replace X1:=X1.bl hb6;replace NQ:=zh (NQ.out.later hb6);have TU:=Bt hk5 hb6;clear hk5;clear hb6;obtain ⟨zq,zm,Fg⟩:=X1.clf;have hres:=X1.out;have Oe:=hres.cell;have NI:=hres.free;go_wp2_with fail
  refine aY rfl rfl bf Tryz.underlying29 rfl zk ?_;exact ⟨rfl,aN⟩
end Go.Proofs.dQ
namespace Go.Proofs.pY
open Go Go.RowKit Go.SW Go.Num Go.Mem Go.Proofs Go.Dec Go.gW
theorem qI (n d:Int) (h1: -9223372036854775808≤n) (h2:n≤9223372036854775807) (h3: -9223372036854775808≤d) (h4:d≤9223372036854775807) (w:World) :
  Calls Tryz.prog 27 #[.int .i64 n,.int .i64 d] w (fun e w'=>e= .returned (tH n d).1.v∧Below w.heap.size w w'):=by
 have H1:=fun W=>dQ.qI n d h1 h2 h3 h4 W;obtain ⟨⟨⟨s1,s2⟩,k⟩,E⟩:∃ y,tH n d=y:=⟨_,rfl⟩;rw [E] at H1 ⊢;refine Fx.door Tryz.func27 rfl (.nil w []) ?_;refine Fx.bq [] 4 29 [] [] fun gV=>?_;refine Fx.fC [] 10 [] [] H1 ?_;refine Fx.bq [] 5 29 [(11,.agg #[.string s1,.string s2]),(12,.int .i64 k)] [] fun iD=>?_;exact Fx.iC 0 gV [4,4,3] [(0,#[.string s1,.string s2]),(1,#[.string s1,.string s2])] (fun W M=>⟨rfl,M.below⟩)
end Go.Proofs.pY
namespace Go.Proofs.mO
open Go Go.RowKit Go.SW Go.Num Go.Mem Go.Proofs Go.gW Go.Fx
def qy (n:Int):Rat:=(n:Rat) / ((100:Int):Rat)
theorem Bl {n:Int} (h:n.natAbs≤12800):Hq 5 (qy n):=⟨n,100,by omega,by decide,Nat.le_trans h zd,rfl⟩
theorem Gm {m n:Int} (h:m≤n*100):qy m≤(n:Rat):=by
 have h1:(m:Rat)≤((n*100:Int):Rat):=Rat.intCast_le_intCast.2 h;rw [Rat.intCast_mul] at h1;have i:(0:Rat)<(((100:Int):Rat))⁻¹:=by decide+kernel
 have o:((100:Int):Rat)*(((100:Int):Rat))⁻¹=1:=by decide+kernel
 have h2:=Rat.mul_le_mul_of_nonneg_right h1 (Rat.le_of_lt i);rw [Rat.mul_assoc,o,Rat.mul_one] at h2;unfold qy;rw [Rat.div_def];exact h2
theorem F4 {n:Int} (h:n.natAbs≤12800) (w:World):Calls Tryz.prog 27 #[.int .i64 n,.int .i64 100] w (fun e w'=>e= .returned (.agg #[.string (Fr.of (qy n)).n,.string (Fr.of (qy n)).d])∧Below w.heap.size w w'):=by
 have h1:=pY.qI n 100 zo zo zo zo w
 have e:(tH n 100).1=Fr.of (qy n):=by
  unfold tH wr;rw [if_neg zo];have hk:zF ((n:Rat) / ((100:Int):Rat))=true:=(Bl h).ok zo;rw [if_pos hk];rfl
 rw [e] at h1;exact h1
structure Vm (p a b:Rat):Prop where
 hp:Hq 5 p
 ha:Hq 5 a
 hb:Hq 5 b
 p0:0≤p
 p1:p≤100
 a0: -128≤a
 a1:a≤128
 b0: -128≤b
 b1:b≤128
theorem KF (L A B:Int) (hL:0≤L∧L≤65535) (hA: -32768≤A∧A≤32767) (hB: -32768≤B∧B≤32767) (w:World) :
  Calls Tryz.prog 10 #[.agg #[.int .u16 L,.int .i16 A,.int .i16 B]] w (fun e w'=>e= .returned (.agg #[.string (Fr.of (qy (Int.tmod L 10001))).n,.string (Fr.of (qy (Int.tmod L 10001))).d,.string (Fr.of (qy (Int.tmod A 12801))).n,.string (Fr.of (qy (Int.tmod A 12801))).d,.string (Fr.of (qy (Int.tmod B 12801))).n,.string (Fr.of (qy (Int.tmod B 12801))).d])∧Below w.heap.size w w'):=by
 have l1:=Int.tmod_lt_of_pos L (show 0<10001 by omega);have l2:=Int.tmod_nonneg (10001:Int) hL.1;have m1:=Int.tmod_lt_of_pos A (show 0<12801 by omega);have m2:=Int.lt_tmod_of_pos A (show 0<12801 by omega);have n1:=Int.tmod_lt_of_pos B (show 0<12801 by omega);have n2:=Int.lt_tmod_of_pos B (show 0<12801 by omega);have C1:=fun W=>F4 (n:=Int.tmod L 10001) zo W;have C2:=fun W=>F4 (n:=Int.tmod A 12801) zo W;have C3:=fun W=>F4 (n:=Int.tmod B 12801) zo W;generalize Fr.of (qy (Int.tmod L 10001))=x at *;generalize Fr.of (qy (Int.tmod A 12801))=y at *;generalize Fr.of (qy (Int.tmod B 12801))=z at *;obtain ⟨x1,x2⟩:=x;obtain ⟨y1,y2⟩:=y;obtain ⟨z1,z2⟩:=z;obtain ⟨L1,L2⟩:=hL;obtain ⟨A1,A2⟩:=hA;obtain ⟨B1,B2⟩:=hB;simp only at *;refine Fx.door Tryz.func10 rfl (.nil w []) ?_;refine Fx.new [] 1 #[.int .u16 L,.int .i16 A,.int .i16 B] 25 [] [] fun gV=>?_
 refine Fx.bq [] 2 32 [] [] fun iD=>?_;refine Fx.draw [] [0,1,2,3,5,6,7,8,10,11,12,13,4,9,14,15,16] [] [] [] ?_;refine Fx.part 3 [3] [(5,.int .i64 (IntKind.i64.wrap L))] [] ?_;refine Fx.uO (.int .i64 (L)) (Fx.wrap_i64 zo zo) ?_;refine Fx.part 4 [3] [(10,.int .i64 (IntKind.i64.wrap A)),(6,.int .i64 (Int.tmod (L) 10001))] [] ?_;refine Fx.uO (.int .i64 (A)) (Fx.wrap_i64 zo zo) ?_;refine Fx.part 4 [3] [(15,.int .i64 (IntKind.i64.wrap B)),(11,.int .i64 (Int.tmod (A) 12801))] [] ?_;refine Fx.uO (.int .i64 (B)) (Fx.wrap_i64 zo zo) ?_;refine Fx.fC [] 7 [(16,.int .i64 (Int.tmod (B) 12801))] [] C1 ?_;refine Fx.fC [] 12 [] [] C2 ?_;refine Fx.fC [] 17 [] [] C3 ?_;exact Fx.iC 1 iD [4] [(1,#[.string x1,.string x2,.string y1,.string y2,.string z1,.string z2])] (fun W M=>⟨rfl,M.below⟩)
end Go.Proofs.mO
namespace Go.gW
open Go Go.Num Go.Proofs
section
variable {p q:Rat} {a b:Nat}
theorem add_f (hp:Hq a p) (hq:Hq b q) (h:a+b+1<600):Q9 (Fr.of p) (Fr.of q)=(Fr.of (p+q),0):=by
 unfold Q9 bin wr;rw [xM (hp.ok zo),xM (hq.ok zo)];exact if_pos ((hp.add hq).ok h)
theorem XB (hp:Hq a p) (hq:Hq b q) (h:a+b+1<600):Jt (Fr.of p) (Fr.of q)=(Fr.of (p - q),0):=by
 unfold Jt bin wr;rw [xM (hp.ok zo),xM (hq.ok zo)];exact if_pos ((hp.sub hq).ok h)
theorem mul_f (hp:Hq a p) (hq:Hq b q) (h:a+b<600):MR (Fr.of p) (Fr.of q)=(Fr.of (p*q),0):=by
 unfold MR bin wr;rw [xM (hp.ok zo),xM (hq.ok zo)];exact if_pos ((hp.mul hq).ok h)
theorem div_f (hp:Hq a p) (hq:Hq b q) (h:a+b<600) (h0:q≠0):QH (Fr.of p) (Fr.of q)=(Fr.of (p / q),0):=by
 unfold QH bin wr;rw [xM (hp.ok zo),xM (hq.ok zo)];exact (if_neg h0).trans (if_pos ((hp.div hq).ok h))
theorem Sm (hp:Hq a p) (hq:Hq b q) (h:a<600) (h2:b<600):wh (Fr.of p) (Fr.of q)=(oo p q,0):=by
 unfold wh;rw [xM (hp.ok h),xM (hq.ok h2)]
theorem Ie {x:Rat} {k:Nat} (h:Hq k x) (hk:k<600):rT (Fr.of x)=(oo x 0,0):=by
 unfold rT;rw [xM (h.ok hk)]
theorem uq {x:Rat} {k:Nat} (h:Hq k x) (hk:k<600):q9 (Fr.of x)=0:=by
 unfold q9;rw [xM (h.ok hk)];rfl
theorem Bu:oo p q<0↔p<q:=by
 unfold oo
 by_cases h:p<q
 ·simp [h]
 ·by_cases h2:q<p<;>simp [h,h2]
theorem wN:0<oo p q↔q<p:=by
 unfold oo
 by_cases h:p<q
 ·have:¬ q<p:=fun h2=>by grind
  simp [h,this]
 ·by_cases h2:q<p<;>simp [h,h2]
end
end Go.gW
namespace Go.Proofs.differ
open Go Go.RowKit Go.SW Go.Num Go.Mem Go.Proofs Go.gW Go.Proofs.mO Go.Proofs.iq
def lb (p a b:Rat):light.uF:=⟨Fr.of p,Fr.of a,Fr.of b⟩
structure Wt (q:Rat):Prop where
 h:∃ k,Hq k q∧k<300
 pos:0<q
theorem Ls:Wt 1:=⟨⟨0,Hq.one,by omega⟩,by decide⟩
theorem Wt.q9 {q:Rat} (h:Wt q):gW.q9 (Fr.of q)=0:=by
 obtain ⟨k,h1,h2⟩:=h.h;exact uq h1 zo
theorem Wt.qM {q:Rat} (h:Wt q):∃ c,rT (Fr.of q)=(c,0)∧¬ c≤0:=by
 obtain ⟨k,h1,h2⟩:=h.h;refine ⟨_,Ie h1 zo,?_⟩;have:=wN.2 h.pos;omega
theorem QS {kd:Int} (h1:1≤kd) (h4:kd≤4) {p a b p' a' b' u v:Rat} (h:Vm p a b) (h':Vm p' a' b') (hu:Wt u) (hv:Wt v):vk kd (lb p a b) (lb p' a' b') (Fr.of u) (Fr.of v)=0:=by
 obtain ⟨c,e1,e2⟩:=hu.qM;obtain ⟨d,f1,f2⟩:=hv.qM;unfold vk lb;simp only [uq h.hp zo,uq h.ha zo,uq h.hb zo,uq h'.hp zo,uq h'.ha zo,uq h'.hb zo,hu.q9,hv.q9,e1,f1];rw [if_neg zo,if_neg zo];simp [e2,f2]
theorem N9 {kd:Int} {a b:light.uF} {l c:Fr} (h:vk kd a b l c=0):Ob kd a b l c=aP (0,0) (dstE kd a b l c) lC:=by
 unfold Ob sM;rw [h];rfl
theorem Oa {kd:Int} {a b:light.uF} {l c:Fr} (h:vk kd a b l c=0) {d:Int × Int} {e:Int} (hd:dstE kd a b l c=(d,e)) (h0:e≠0):oh kd a b l c=((0,0),e):=by
 unfold oh cl;rw [N9 h,hd,wO (x:=(d,e)) h0];exact if_neg h0
theorem J6 {kd:Int} {a b:light.uF} {l c:Fr} (h:vk kd a b l c=0) {d:Int × Int} (hd:dstE kd a b l c=(d,0)):oh kd a b l c=(d,0):=by
 unfold oh cl;rw [N9 h,hd];exact if_pos rfl
end Go.Proofs.differ
namespace Go.Proofs.verdigrislaw27
open Go Go.RowKit Go.SW Go.Num Go.Mem Go.Proofs Go.gW Go.Proofs.mO Go.Proofs.iq Go.Proofs.iR Go.Proofs.differ Go.Proofs.matrix
theorem MH (W:World) (ht:gJ.Pow W):Calls Tryz.prog 9 #[.int .i64 1,.int .i64 1] W (fun e w'=>e= .returned (.agg #[.string (Fr.of 1).n,.string (Fr.of 1).d])∧Below W.heap.size W w') :=
 nX (show Fr.of (q2 1 1)=⟨(Fr.of 1).n,(Fr.of 1).d⟩ by rw [show q2 1 1=1 by decide+kernel]) (by decide+kernel) W ht
end Go.Proofs.verdigrislaw27
namespace Go.Proofs.differ
open Go Go.RowKit Go.Num Go.Mem Go.Proofs Go.gW Go.Proofs.aQ Go.Proofs.matrix Go.Proofs.lab Go.Proofs.mO Go.Proofs.iq
abbrev E1:Int × Int:=(1000000000000,1000000000000)
theorem zero_f:jE (Fr.of 0)=((0,0),0):=by decide+kernel
theorem one_f:jE (Fr.of 1)=(E1,0):=by decide+kernel
theorem wi_100 {v:Rat} (h1: -100≤v) (h2:v≤100):Wi 100000000000000 v :=
 ⟨by rw [show un (-100000000000000)= -100 by decide+kernel];exact h1,by rw [show un 100000000000000=100 by decide+kernel];exact h2⟩
theorem hue_0 {p:Rat} (hp:Hq 5 p) (h1: -100≤p) (h2:p≤100):Nq (Fr.of p) (Fr.of 0) (Fr.of 0)=((E1,(0,0)),0):=by
 obtain ⟨l,e,hl⟩:=in_aroundB (xM (hp.ok zo)) (wi_100 h1 h2) zo
 have e2:lab.CV (l,(0,0),(0,0))=(((0,0),E1,(0,0)),0):=by
  have e3:lab.vQ (l,(0,0),(0,0))=0:=by
   have e0:lab.pK l=0:=by
    unfold lab.pK;rw [if_pos (hl.jc zo)]
   show (if lab.pK l≠0 then lab.pK l else if lab.pK (0,0)≠0 then lab.pK (0,0) else lab.pK (0,0))=0
   rw [e0,if_neg zd]
   decide+kernel
  unfold lab.CV;rw [e3,if_neg zd]
  show lab.Io (0,0) (0,0)=_
  decide+kernel
 unfold Nq;rw [jJ e,jJ zero_f,jJ zero_f,e2];rfl
end Go.Proofs.differ
namespace Go.Num
theorem cauchy3 (a b c x y z:Int):(a*x+b*y+c*z)*(a*x+b*y+c*z)≤(a*a+b*b+c*c)*(x*x+y*y+z*z):=by
 have e:(a*a+b*b+c*c)*(x*x+y*y+z*z)=(a*x+b*y+c*z)*(a*x+b*y+c*z)+((a*y - b*x)*(a*y - b*x)+(a*z - c*x)*(a*z - c*x)+(b*z - c*y)*(b*z - c*y)):=by grind
 have sq:∀ t:Int,0≤t*t:=fun t=>by
  rcases Int.le_total 0 t with h|h
  ·exact Int.mul_nonneg h h
  ·have:=Int.mul_nonneg (show 0≤ -t by omega) (show 0≤ -t by omega)
   rwa [Int.neg_mul_neg] at this
 have h1:=sq (a*y - b*x);have h2:=sq (a*z - c*x);have h3:=sq (b*z - c*y);omega
theorem sq_lei {a b:Int} (hb:0≤b) (h:a*a≤b*b):a≤b:=by
 refine Int.not_lt.1 fun hl=>?_;have h1:b*b≤b*a:=Int.mul_le_mul_of_nonneg_left zo hb;have h2:b*a<a*a:=Int.mul_lt_mul_of_pos_right hl zo;omega
theorem mul_sqs {p q A B:Int} (hp:0≤p) (hq:0≤q) (hA:p≤A*A) (hB:q≤B*B) (hA0:0≤A) (hB0:0≤B):p*q≤(A*B)*(A*B):=by
 have h1:p*q≤(A*A)*(B*B):=Int.mul_le_mul hA hB hq (Int.mul_nonneg hA0 hA0);have h2:(A*A)*(B*B)=(A*B)*(A*B):=by grind
 omega
end Go.Num
namespace Go.Proofs.differ
open Go Go.RowKit Go.Num Go.Mem Go.Proofs Go.gW Go.Proofs.aQ Go.Proofs.matrix Go.Proofs.lab Go.Proofs.mO Go.Proofs.iq
def pt (z:Int):Int × Int:=(z,z)
theorem around_pt {f:Fr} {z:Int} (h:rd f=some (un z)) (hz:z.natAbs≤1000000000000000000):jE f=(pt z,0):=by
 have e2:jE f=tightE (un z) (un z):=by rw [tight_around];unfold jE;rw [h]
 rw [e2];unfold tightE;rw [Xy,flr_eq,flr_eq,← Rat.intCast_neg,Rat.floor_intCast,Rat.floor_intCast,Int.neg_neg];unfold iH pt;rw [if_pos (bok_yes zo (Int.le_refl _) zo)]
theorem hun_un (n:Int):qy n=un (n*10000000000):=by
 unfold qy un;rw [Rat.intCast_mul];have h1:((10000000000:Int):Rat) / ((1000000000000:Int):Rat)=1 / ((100:Int):Rat):=by decide+kernel
 rw [Rat.div_def,Rat.div_def,Rat.mul_assoc,← Rat.div_def ((10000000000:Int):Rat),h1,Rat.div_def,Rat.one_mul]
theorem hun_sub (m n:Int):qy m - qy n=qy (m - n):=by
 unfold qy;rw [Rat.intCast_sub]
 grind
theorem dif_pt {m n:Int} (hm:m.natAbs≤12800) (hn:n.natAbs≤12800):Br (Fr.of (qy m)) (Fr.of (qy n))=(pt ((m - n)*10000000000),0):=by
 have h1:=Bl hm;have h2:=Bl hn;unfold Br;rw [jJ (XB h1 h2 zo),jJ (around_pt (z:=(m - n)*10000000000) (by rw [xM ((h1.sub h2).ok zo),hun_sub,hun_un]) zo)];rfl
theorem bl_pt (z:Int):Ca (pt z)=z.natAbs∧Bw (pt z)=z.natAbs:=by
 unfold Ca Bw pt;simp only;omega
theorem nrm_pt {l:List Int} (h0:l.length≠0) (h8:l.length≤8) (hb:∀ z∈l,z.natAbs≤1000000000000000) (hs:oN (l.map Int.natAbs)≤1000000000000000000^2):power.zG (l.map pt)=((((nlo (l.map Int.natAbs):Nat):Int),((nhi (l.map Int.natAbs):Nat):Int)),0):=by
 have e1:(l.map pt).map Ca=l.map Int.natAbs:=by rw [List.map_map];exact List.map_congr_left fun z _=>(bl_pt z).1
 have e2:(l.map pt).map Bw=l.map Int.natAbs:=by rw [List.map_map];exact List.map_congr_left fun z _=>(bl_pt z).2
 have hok:okB (l.map pt)=true:=by
  unfold okB;rw [List.all_map,List.all_eq_true];intro z hz;have:=hb z hz;exact bok_yes (by show -1000000000000000000≤z;omega) (Int.le_refl _) (by show z≤1000000000000000000;omega)
 have k1:=nhi_le hs;have k2:=nlo_le_nhi (l.map Int.natAbs);unfold power.zG;rw [List.length_map,if_neg h0,if_neg zo,if_neg (by rw [hok];decide),e1,e2];unfold rX power.Bc;have k3:nlo (l.map Int.natAbs)≤10^18:=by omega
 simp only [if_pos k3,Bool.false_eq_true,if_false,if_true,ne_eq,not_true_eq_false];rw [if_pos (bok_yes zo zo zo)]
theorem nrm3_pt {u v w:Int} (h1:u.natAbs≤1000000000000000) (h2:v.natAbs≤1000000000000000) (h3:w.natAbs≤1000000000000000):power.zG [pt u,pt v,pt w]=((((nlo [u.natAbs,v.natAbs,w.natAbs]:Nat):Int),((nhi [u.natAbs,v.natAbs,w.natAbs]:Nat):Int)),0)∧nhi [u.natAbs,v.natAbs,w.natAbs]≤3000000000000000:=by
 have hs:oN [u.natAbs,v.natAbs,w.natAbs]≤3000000000000000^2:=by
  rw [sq3];have a1:=Nat.pow_le_pow_left h1 2;have a2:=Nat.pow_le_pow_left h2 2;have a3:=Nat.pow_le_pow_left h3 2;omega
 refine ⟨?_,nhi_le hs⟩;exact nrm_pt (l:=[u,v,w]) zi zi (fun z hz=>by simp only [List.mem_cons,List.not_mem_nil,or_false] at hz;rcases hz with rfl|rfl|rfl<;>assumption) (Nat.le_trans hs zd)
theorem nrm2_pt {u v:Int} (h1:u.natAbs≤1000000000000000) (h2:v.natAbs≤1000000000000000):power.zG [pt u,pt v]=((((nlo [u.natAbs,v.natAbs]:Nat):Int),((nhi [u.natAbs,v.natAbs]:Nat):Int)),0):=by
 have hs:oN [u.natAbs,v.natAbs]≤1000000000000000000^2:=by
  rw [sq2];have a1:=Nat.pow_le_pow_left h1 2;have a2:=Nat.pow_le_pow_left h2 2;omega
 exact nrm_pt (l:=[u,v]) zi zi (fun z hz=>by simp only [List.mem_cons,List.not_mem_nil,or_false] at hz;rcases hz with rfl|rfl<;>assumption) hs
end Go.Proofs.differ
namespace Go.Proofs.differ
open Go Go.RowKit Go.Num Go.Mem Go.Proofs Go.gW Go.Proofs.aQ Go.Proofs.matrix Go.Proofs.lab Go.Proofs.mO Go.Proofs.iq
def lh (l a b:Int):light.uF:=lb (qy l) (qy a) (qy b)
structure Lh (l a b:Int):Prop where
 l0:0≤l
 l1:l≤10000
 a:a.natAbs≤12800
 b:b.natAbs≤12800
theorem around_hun {n:Int} (h:n.natAbs≤12800):jE (Fr.of (qy n))=(pt (n*10000000000),0) :=
 around_pt (by rw [xM ((Bl h).ok zo),hun_un]) zo
def chN (a b:Int):Int × Int:=(((nlo [(a*10000000000).natAbs,(b*10000000000).natAbs]:Nat):Int),((nhi [(a*10000000000).natAbs,(b*10000000000).natAbs]:Nat):Int))
theorem chr_hun {l a b:Int} (h:Lh l a b):QO (lh l a b)=(chN a b,0):=by
 have ha:=h.a;have hb:=h.b;unfold QO lh lb;simp only;rw [jJ (around_hun ha),jJ (around_hun hb),jJ (nrm2_pt zo zo)];rfl
def dN (m n:Int):Int × Int:=pt ((m - n)*10000000000)
theorem pair_hun {l a b m c d:Int} (h:Lh l a b) (k:Lh m c d):Mw (lh l a b) (lh m c d)=(((chN a b,chN c d),dN l m,dN a c,dN b d),0):=by
 have h1:=h.l0;have h2:=h.l1;have k1:=k.l0;have k2:=k.l1;have c1:=chr_hun h;have c2:=chr_hun k;unfold lh lb at *;unfold Mw;simp only;rw [jJ (dif_pt zo zo),jJ (dif_pt h.a k.a),jJ (dif_pt h.b k.b),jJ c1,jJ c2];rfl
theorem old_hun {l a b m c d:Int} (h:Lh l a b) (k:Lh m c d) (u v:Fr):dstE 1 (lh l a b) (lh m c d) u v=((((nlo [((l - m)*10000000000).natAbs,((a - c)*10000000000).natAbs,((b - d)*10000000000).natAbs]:Nat):Int),((nhi [((l - m)*10000000000).natAbs,((a - c)*10000000000).natAbs,((b - d)*10000000000).natAbs]:Nat):Int)),0)
  ∧ nhi [((l - m)*10000000000).natAbs,((a - c)*10000000000).natAbs,((b - d)*10000000000).natAbs]≤3000000000000000:=by
 obtain ⟨h1,h2,h3,h4⟩:=h;obtain ⟨k1,k2,k3,k4⟩:=k;obtain ⟨e1,e2⟩:=nrm3_pt (u:=(l - m)*10000000000) (v:=(a - c)*10000000000) (w:=(b - d)*10000000000) zo zo zo;refine ⟨?_,e2⟩;unfold dstE;rw [jJ (pair_hun ⟨h1,h2,h3,h4⟩ ⟨k1,k2,k3,k4⟩),if_pos rfl];simp only [dN];rw [jJ e1];rfl
theorem ch_in {a b:Int} (ha:a.natAbs≤12800) (hb:b.natAbs≤12800):Sb (chN a b) (0,182000000000000)∧(chN a b).2≤(chN a b).1+1:=by
 have hs:oN [(a*10000000000).natAbs,(b*10000000000).natAbs]≤182000000000000^2:=by
  rw [sq2];have a1:=Nat.pow_le_pow_left (show (a*10000000000).natAbs≤128000000000000 by omega) 2;have a2:=Nat.pow_le_pow_left (show (b*10000000000).natAbs≤128000000000000 by omega) 2;omega
 have k1:=nhi_le hs;have k2:=nlo_le_nhi [(a*10000000000).natAbs,(b*10000000000).natAbs];have k3:nhi [(a*10000000000).natAbs,(b*10000000000).natAbs]≤nlo [(a*10000000000).natAbs,(b*10000000000).natAbs]+1:=by unfold nhi;split<;>omega
 unfold chN;exact ⟨⟨by simp only;omega,by simp only;omega,by simp only;omega⟩,by simp only;omega⟩
end Go.Proofs.differ
