/- Lemmas for the proof. No condition. -/
import Derived.Test.YtlpjmogillpnbaaGreatDoorTB01
import Derived.Test.YtlpjmogillpnbaaGreatDoorTB02
import Derived.Test.YtlpjmogillpnbaaGreatDoorTB03
import Derived.Test.YtlpjmogillpnbaaGreatDoorTB04
import Derived.Test.YtlpjmogillpnbaaGreatDoorTB05
import Derived.Test.YtlpjmogillpnbaaGreatDoorTB06
import Derived.Test.YtlpjmogillpnbaaGreatDoorTB07
import Derived.Test.YtlpjmogillpnbaaGreatDoorTB08
import Derived.Test.YtlpjmogillpnbaaGreatDoorTB09
import Derived.Test.YtlpjmogillpnbaaGreatDoorTB10
import Derived.Test.YtlpjmogillpnbaaGreatDoorTB11
import Derived.Test.YtlpjmogillpnbaaGreatDoorTB12
import Derived.Test.YtlpjmogillpnbaaGreatDoorTB13
import Derived.Test.YtlpjmogillpnbaaGreatDoorTB14
import Derived.Test.YtlpjmogillpnbaaGreatDoorTB15
import Derived.Test.YtlpjmogillpnbaaGreatDoorTB16
import Derived.Test.YtlpjmogillpnbaaGreatDoorTB17
import Derived.Test.YtlpjmogillpnbaaGreatDoorTB18
import Derived.Test.YtlpjmogillpnbaaGreatDoorTB19
import Derived.Test.YtlpjmogillpnbaaGreatDoorTB20
import Derived.Test.YtlpjmogillpnbaaGreatDoorTB21
import Derived.Test.YtlpjmogillpnbaaGreatDoorTB22
import Derived.Test.YtlpjmogillpnbaaGreatDoorTB23
import Derived.Test.YtlpjmogillpnbaaGreatDoorTB24
import Derived.Test.YtlpjmogillpnbaaGreatDoorTB25
import Derived.Test.YtlpjmogillpnbaaGreatDoorTB26
import Derived.Test.YtlpjmogillpnbaaGreatDoorTB27
import Derived.Test.YtlpjmogillpnbaaGreatDoorTB28
import Derived.Test.YtlpjmogillpnbaaGreatDoorTB29
import Derived.Test.YtlpjmogillpnbaaGreatDoorTB30
import Derived.Test.YtlpjmogillpnbaaGreatDoorTB31
import Derived.Test.YtlpjmogillpnbaaGreatDoorTB32
import Derived.Test.YtlpjmogillpnbaaGreatDoorTB33
import Derived.Test.YtlpjmogillpnbaaGreatDoorTB34
import Derived.Test.YtlpjmogillpnbaaGreatDoorTB35
import Derived.Test.YtlpjmogillpnbaaGreatDoorTB36
import Derived.Test.YtlpjmogillpnbaaGreatDoorTB37
import Derived.Test.YtlpjmogillpnbaaGreatDoorTB38
import Derived.Test.YtlpjmogillpnbaaGreatDoorTB39
import Derived.Test.YtlpjmogillpnbaaGreatDoorTB40
import Derived.Test.YtlpjmogillpnbaaGreatDoorProg
import Derived.Test.YtlpjmogillpnbaaGreatDoorRows
import Derived.ProofKit
import Derived.LaidMore
import Derived.OpenShut
import Derived.Stop.Joined
import Derived.Stop.LaidErr
import Derived.Lib.LaidTab
import Derived.ChangeSame
import Derived.Laws.IdiomArrays
import Derived.ChangeVars
import Derived.Below
set_option linter.unusedVariables false
set_option linter.unusedSimpArgs false
set_option maxRecDepth 100000
set_option maxHeartbeats 16000000
namespace Go.Proofs.YtlpjmogillpnbaaGreatDoor
open Go Go.ChangeShapes Go.WideShapes Go.RowKit Go.Proofs
theorem u16_wf {n:Int} (h:(Lit.int .u16 n).wf=true):0≤n∧n≤65535:=by
 simp [Lit.wf,IntKind.min,IntKind.max,IntKind.signed,IntKind.bits] at h
 omega
end Go.Proofs.YtlpjmogillpnbaaGreatDoor
namespace Go.Proofs.dQ
def flr (q:Rat):Int:=q.num / (q.den:Int)
theorem q_parts (q:Rat):q=(q.num:Rat) / ((q.den:Int):Rat):=by
 have:=Rat.mkRat_self q;rw [Rat.mkRat_eq_div] at this;exact this.symm
end Go.Proofs.dQ
namespace Go.Proofs.iq
open Go Go.Num Go.gW Go.Proofs.aQ Go.Proofs.dQ
def un (n:Int):Rat:=(n:Rat) / ((1000000000000:Int):Rat)
def tightE (a b:Rat):(Int × Int) × Int:=iH (flr (a*((1000000000000:Int):Rat))) (-(flr (-(b*((1000000000000:Int):Rat)))))
theorem bok_lo {X Y:Int} (h:X< -1000000000000000000∨1000000000000000000<Y∨Y<X):jc X Y=false:=by
 unfold jc
 rcases h with h|h|h
 ·rw [decide_eq_false (show ¬ -1000000000000000000≤X by omega)];rfl
 ·rw [decide_eq_false (show ¬ Y≤1000000000000000000 by omega)];simp
 ·rw [decide_eq_false (show ¬ X≤Y by omega)];simp
end Go.Proofs.iq
namespace Go.Proofs.iq
open Go Go.Num Go.gW Go.Proofs.aQ Go.Proofs.dQ
theorem flr_eq (q:Rat):flr q=q.floor:=(Rat.floor_def q).symm
theorem neg_div' (a b:Rat): -(a / b)= -a / b:=by rw [Rat.div_def,Rat.div_def,Rat.neg_mul]
theorem floor_div (n:Int) {d:Int} (hd:0<d):((n:Rat) / (d:Rat)).floor=n / d:=by
 have hd':(0:Rat)<(d:Rat):=by exact_mod_cast hd
 have key:∀ x:Int,x≤((n:Rat) / (d:Rat)).floor↔x≤n / d:=fun x=>by
  rw [Rat.le_floor_iff,Int.le_ediv_iff_mul_le hd];have e:(n:Rat) / (d:Rat)*(d:Rat)=(n:Rat):=Rat.div_mul_cancel (fun h=>by rw [h] at hd';exact absurd hd' zd)
  constructor
  ·intro h;have:=Rat.mul_le_mul_of_nonneg_right h (Rat.le_of_lt hd');rw [e] at this
   exact_mod_cast this
  ·intro h;refine Rat.le_of_mul_le_mul_right (c:=(d:Rat)) ?_ hd';rw [e]
   exact_mod_cast h
 exact Int.le_antisymm ((key _).1 (Int.le_refl _)) ((key _).2 (Int.le_refl _))
theorem SI:(0:Rat)<((1000000000000:Int):Rat):=by decide+kernel
theorem ai0:((1000000000000:Int):Rat)≠0:=by decide+kernel
theorem Xy (n:Int):un n*((1000000000000:Int):Rat)=(n:Rat):=by
 have:=ai0;unfold un;generalize ((1000000000000:Int):Rat)=E at *
 grind
theorem un_prod (x y:Int):un x*un y*((1000000000000:Int):Rat)=((x*y:Int):Rat) / ((1000000000000:Int):Rat):=by
 have:=ai0;unfold un;rw [Rat.intCast_mul];generalize ((1000000000000:Int):Rat)=E at *
 grind
theorem tight_around (q:Rat):tightE q q=iH (Ij (q.num*1000000000000) q.den false) (Ij (q.num*1000000000000) q.den true):=by
 have hd:(0:Int)<(q.den:Int):=by have:=q.den_pos;omega
 have hd0:((q.den:Int):Rat)≠0:=by
  have:(q.den:Int)≠0:=by omega
  exact_mod_cast this
 have e:q*((1000000000000:Int):Rat)=((q.num*1000000000000:Int):Rat) / ((q.den:Int):Rat):=by
  rw [Rat.intCast_mul];have h:=q_parts q;generalize ((1000000000000:Int):Rat)=E at *;generalize (q.num:Rat)=n at *;generalize ((q.den:Int):Rat)=d at *;rw [h]
  grind
 have e2: -(q*((1000000000000:Int):Rat))=((-(q.num*1000000000000):Int):Rat) / ((q.den:Int):Rat):=by
  rw [e,Rat.intCast_neg,neg_div']
 unfold tightE;rw [flr_eq,flr_eq,e2,e,floor_div _ hd,floor_div _ hd];rfl
def lowQ (m:Rat):List Rat→Rat
 | []=>m
 | x::l=>lowQ (if x<m then x else m) l
def highQ (m:Rat):List Rat→Rat
 | []=>m
 | x::l=>highQ (if m<x then x else m) l
theorem low4 (p q r s:Rat):(lowQ p [q,r,s]=p∨lowQ p [q,r,s]=q∨lowQ p [q,r,s]=r∨lowQ p [q,r,s]=s)∧lowQ p [q,r,s]≤p∧lowQ p [q,r,s]≤q∧lowQ p [q,r,s]≤r∧lowQ p [q,r,s]≤s:=by
 unfold lowQ lowQ lowQ lowQ
 grind
theorem high4 (p q r s:Rat):(highQ p [q,r,s]=p∨highQ p [q,r,s]=q∨highQ p [q,r,s]=r∨highQ p [q,r,s]=s)∧p≤highQ p [q,r,s]∧q≤highQ p [q,r,s]∧r≤highQ p [q,r,s]∧s≤highQ p [q,r,s]:=by
 unfold highQ highQ highQ highQ
 grind
theorem E_mono {a b:Rat} (h:a≤b):(a*((1000000000000:Int):Rat)).floor≤(b*((1000000000000:Int):Rat)).floor:=Rat.floor_monotone (Rat.mul_le_mul_of_nonneg_right h (Rat.le_of_lt SI))
theorem E_anti {a b:Rat} (h:a≤b): -((-(a*((1000000000000:Int):Rat))).floor)≤ -((-(b*((1000000000000:Int):Rat))).floor):=by
 have h2:=Rat.floor_monotone (Rat.neg_le_neg (Rat.mul_le_mul_of_nonneg_right h (Rat.le_of_lt SI)));omega
theorem rnd_le (n:Int) {d:Nat} (hd:0<d):Ij n d false≤Ij n d true:=by
 unfold Ij;simp only [Bool.false_eq_true,if_false,if_true];have h1:=Int.mul_ediv_self_le (x:=n) (k:=(d:Int)) zo;have h2:=Int.mul_ediv_self_le (x:= -n) (k:=(d:Int)) zo;have h3:(d:Int)*(n / d)≤(d:Int)*(-(-n / d)):=by rw [Int.mul_neg];omega
 exact Int.le_of_mul_le_mul_left h3 zo
theorem prod_down (x y:Int):(un x*un y*((1000000000000:Int):Rat)).floor=Ij (x*y) 1000000000000 false:=by rw [un_prod,floor_div _ zo];rfl
theorem prod_up (x y:Int): -((-(un x*un y*((1000000000000:Int):Rat))).floor)=Ij (x*y) 1000000000000 true:=by
 rw [un_prod,neg_div',← Rat.intCast_neg,floor_div _ zo];rfl
theorem quo_fit (x y:Int) (up:Bool):((vW x y 1000000000000 up).2=true→(vW x y 1000000000000 up).1=Ij (x*y) 1000000000000 up∧(Ij (x*y) 1000000000000 up).natAbs≤1000000000000000000)∧((vW x y 1000000000000 up).2=false→1000000000000000000<(Ij (x*y) 1000000000000 up).natAbs):=by
 by_cases h:(Ij (x*y) 1000000000000 up).natAbs≤1000000000000000000
 ·rw [show vW x y 1000000000000 up=(Ij (x*y) 1000000000000 up,true) from if_pos h];exact ⟨fun _=>⟨rfl,h⟩,fun h=>by cases h⟩
 ·rw [show vW x y 1000000000000 up=(0,false) from if_neg h];exact ⟨fun h=>(by cases h),fun _=>by omega⟩
theorem tight_mul (a b:Int × Int):tightE (lowQ (un a.1*un b.1) [un a.1*un b.2,un a.2*un b.1,un a.2*un b.2]) (highQ (un a.1*un b.1) [un a.1*un b.2,un a.2*un b.1,un a.2*un b.2])=PI a b:=by
 obtain ⟨h1,h2,h3,h4,h5⟩:=low4 (un a.1*un b.1) (un a.1*un b.2) (un a.2*un b.1) (un a.2*un b.2);obtain ⟨g1,g2,g3,g4,g5⟩:=high4 (un a.1*un b.1) (un a.1*un b.2) (un a.2*un b.1) (un a.2*un b.2);generalize lowQ (un a.1*un b.1) [un a.1*un b.2,un a.2*un b.1,un a.2*un b.2]=lo at *;generalize highQ (un a.1*un b.1) [un a.1*un b.2,un a.2*un b.1,un a.2*un b.2]=hi at *;replace h2:=E_mono h2;replace h3:=E_mono h3;replace h4:=E_mono h4;replace h5:=E_mono h5;replace g2:=E_anti g2;replace g3:=E_anti g3;replace g4:=E_anti g4;replace g5:=E_anti g5
 have h6:(lo*((1000000000000:Int):Rat)).floor=Ij (a.1*b.1) 1000000000000 false∨(lo*((1000000000000:Int):Rat)).floor=Ij (a.1*b.2) 1000000000000 false∨(lo*((1000000000000:Int):Rat)).floor=Ij (a.2*b.1) 1000000000000 false∨(lo*((1000000000000:Int):Rat)).floor=Ij (a.2*b.2) 1000000000000 false:=by
  rcases h1 with rfl|rfl|rfl|rfl<;>simp only [prod_down,true_or,or_true]
 have g6: -((-(hi*((1000000000000:Int):Rat))).floor)=Ij (a.1*b.1) 1000000000000 true∨ -((-(hi*((1000000000000:Int):Rat))).floor)=Ij (a.1*b.2) 1000000000000 true∨ -((-(hi*((1000000000000:Int):Rat))).floor)=Ij (a.2*b.1) 1000000000000 true∨ -((-(hi*((1000000000000:Int):Rat))).floor)=Ij (a.2*b.2) 1000000000000 true:=by
  rcases g1 with rfl|rfl|rfl|rfl<;>simp only [prod_up,true_or,or_true]
 rw [prod_down] at h2 h3 h4 h5;rw [prod_up] at g2 g3 g4 g5;unfold tightE;rw [flr_eq,flr_eq];generalize (lo*((1000000000000:Int):Rat)).floor=L at *;generalize -((-(hi*((1000000000000:Int):Rat))).floor)=H at *;have r1:=rnd_le (a.1*b.1) (d:=1000000000000) zo;have r2:=rnd_le (a.1*b.2) (d:=1000000000000) zo;have r3:=rnd_le (a.2*b.1) (d:=1000000000000) zo;have r4:=rnd_le (a.2*b.2) (d:=1000000000000) zo;have e0:VX a b 0=vW a.1 b.1 1000000000000 false:=rfl;have e1:VX a b 1=vW a.1 b.2 1000000000000 false:=rfl;have e2:VX a b 2=vW a.2 b.1 1000000000000 false:=rfl;have e3:VX a b 3=vW a.2 b.2 1000000000000 false:=rfl;have d0:Bo a b 0=vW a.1 b.1 1000000000000 true:=rfl;have d1:Bo a b 1=vW a.1 b.2 1000000000000 true:=rfl;have d2:Bo a b 2=vW a.2 b.1 1000000000000 true:=rfl;have d3:Bo a b 3=vW a.2 b.2 1000000000000 true:=rfl;have q0:=quo_fit a.1 b.1 false
 have q1:=quo_fit a.1 b.2 false;have q2:=quo_fit a.2 b.1 false;have q3:=quo_fit a.2 b.2 false;have p0:=quo_fit a.1 b.1 true;have p1:=quo_fit a.1 b.2 true;have p2:=quo_fit a.2 b.1 true;have p3:=quo_fit a.2 b.2 true
 have fe:ae3 a b=((VX a b 0).2&&(Bo a b 0).2&&((VX a b 1).2&&(Bo a b 1).2)&&((VX a b 2).2&&(Bo a b 2).2)&&((VX a b 3).2&&(Bo a b 3).2)):=by
  unfold ae3;simp [List.range,List.range.loop,Bool.and_assoc]
 unfold PI;rw [fe,e0,e1,e2,e3,d0,d1,d2,d3];generalize Ij (a.1*b.1) 1000000000000 false=l0 at *;generalize Ij (a.1*b.2) 1000000000000 false=l1 at *;generalize Ij (a.2*b.1) 1000000000000 false=l2 at *;generalize Ij (a.2*b.2) 1000000000000 false=l3 at *;generalize Ij (a.1*b.1) 1000000000000 true=u0 at *;generalize Ij (a.1*b.2) 1000000000000 true=u1 at *;generalize Ij (a.2*b.1) 1000000000000 true=u2 at *;generalize Ij (a.2*b.2) 1000000000000 true=u3 at *;clear e0 e1 e2 e3 d0 d1 d2 d3 fe h1 g1;generalize vW a.1 b.1 1000000000000 false=A0 at *;generalize vW a.1 b.2 1000000000000 false=A1 at *;generalize vW a.2 b.1 1000000000000 false=A2 at *;generalize vW a.2 b.2 1000000000000 false=A3 at *;generalize vW a.1 b.1 1000000000000 true=B0 at *;generalize vW a.1 b.2 1000000000000 true=B1 at *;generalize vW a.2 b.1 1000000000000 true=B2 at *
 generalize vW a.2 b.2 1000000000000 true=B3 at *;obtain ⟨x0,y0⟩:=A0;obtain ⟨x1,y1⟩:=A1;obtain ⟨x2,y2⟩:=A2;obtain ⟨x3,y3⟩:=A3;obtain ⟨s0,t0⟩:=B0;obtain ⟨s1,t1⟩:=B1;obtain ⟨s2,t2⟩:=B2;obtain ⟨s3,t3⟩:=B3;simp only at q0 q1 q2 q3 p0 p1 p2 p3 ⊢
 by_cases hf:(y0&&t0&&(y1&&t1)&&(y2&&t2)&&(y3&&t3))=true
 ·rw [if_pos hf];simp only [Bool.and_eq_true] at hf;obtain ⟨⟨⟨⟨f1,f2⟩,f3,f4⟩,f5,f6⟩,f7,f8⟩:=hf;obtain ⟨rfl, -⟩:=q0.1 f1;obtain ⟨rfl, -⟩:=q1.1 f3;obtain ⟨rfl, -⟩:=q2.1 f5;obtain ⟨rfl, -⟩:=q3.1 f7;obtain ⟨rfl, -⟩:=p0.1 f2;obtain ⟨rfl, -⟩:=p1.1 f4;obtain ⟨rfl, -⟩:=p2.1 f6;obtain ⟨rfl, -⟩:=p3.1 f8
  have m1:L=[x0,x1,x2,x3].foldl min x0:=by
   simp only [List.foldl];omega
  have m2:H=[s0,s1,s2,s3].foldl max s0:=by
   simp only [List.foldl];omega
  rw [m1,m2]
 ·rw [if_neg hf]
  have hb:jc L H=false:=by
   refine bok_lo ?_
   have:y0=false∨t0=false∨y1=false∨t1=false∨y2=false∨t2=false∨y3=false∨t3=false:=by
    revert hf
    cases y0<;>cases t0<;>cases y1<;>cases t1<;>cases y2<;>cases t2<;>cases y3<;>cases t3<;>simp
   rcases this with h|h|h|h|h|h|h|h
   ·have:=q0.2 h;omega
   ·have:=p0.2 h;omega
   ·have:=q1.2 h;omega
   ·have:=p1.2 h;omega
   ·have:=q2.2 h;omega
   ·have:=p2.2 h;omega
   ·have:=q3.2 h;omega
   ·have:=p3.2 h;omega
  unfold iH;rw [hb];rfl
end Go.Proofs.iq
namespace Go.Proofs.matrix
open Go Go.Num Go.gW Go.Proofs.aQ Go.Proofs.iq Go.Proofs.dQ
theorem Jo (z:Int) (q:Rat):un z≤q↔(z:Rat)≤q*((1000000000000:Int):Rat):=by
 rw [← Xy z]
 constructor
 ·exact fun h=>Rat.mul_le_mul_of_nonneg_right h (Rat.le_of_lt SI)
 ·exact fun h=>Rat.le_of_mul_le_mul_right h SI
theorem le_un_iff (z:Int) (q:Rat):q≤un z↔q*((1000000000000:Int):Rat)≤(z:Rat):=by
 rw [← Xy z]
 constructor
 ·exact fun h=>Rat.mul_le_mul_of_nonneg_right h (Rat.le_of_lt SI)
 ·exact fun h=>Rat.le_of_mul_le_mul_right h SI
theorem Cq {a b:Int}:un a≤un b↔a≤b:=by rw [Jo,Xy,Rat.intCast_le_intCast]
def In (b:Int × Int) (q:Rat) (M:Int):Prop:=un b.1≤q∧q≤un b.2∧ -M≤b.1∧b.2≤M
theorem In.le {b:Int × Int} {q:Rat} {M:Int} (h:In b q M):b.1≤b.2:=Cq.1 (Rat.le_trans h.1 h.2.1)
theorem bok_yes {x y:Int} (h: -1000000000000000000≤x) (h2:x≤y) (h3:y≤1000000000000000000):jc x y=true:=by
 unfold jc;rw [decide_eq_true h,decide_eq_true h2,decide_eq_true h3];rfl
theorem In.jc {b:Int × Int} {q:Rat} {M:Int} (h:In b q M) (hM:M≤1000000000000000000):jc b.1 b.2=true :=
 bok_yes (by have:=h.2.2.1;omega) h.le (by have:=h.2.2.2;omega)
theorem made_in {lo hi q:Rat} {M:Int} (h1:lo≤q) (h2:q≤hi) (h3: -M≤flr (lo*((1000000000000:Int):Rat))) (h4: -(flr (-(hi*((1000000000000:Int):Rat))))≤M) (hM:M≤1000000000000000000):∃ b,tightE lo hi=(b,0)∧In b q M:=by
 have hi':In (flr (lo*((1000000000000:Int):Rat)), -(flr (-(hi*((1000000000000:Int):Rat))))) q M:=by
  refine ⟨?_,?_,h3,h4⟩
  ·rw [Jo,flr_eq];exact Rat.le_trans (Rat.floor_le _) (Rat.mul_le_mul_of_nonneg_right h1 (Rat.le_of_lt SI))
  ·rw [le_un_iff,Rat.intCast_neg];have:=Rat.floor_le (-(hi*((1000000000000:Int):Rat)));rw [← flr_eq] at this;have h5:=Rat.neg_le_neg this;rw [Rat.neg_neg] at h5;exact Rat.le_trans (Rat.mul_le_mul_of_nonneg_right h2 (Rat.le_of_lt SI)) h5
 refine ⟨_,?_,hi'⟩;unfold tightE iH;rw [if_pos (hi'.jc hM)]
end Go.Proofs.matrix
namespace Go.Proofs.iq
open Go Go.RowKit Go.SW Go.Num Go.Mem Go.Proofs Go.gW Go.Proofs.aQ Go.Proofs.dQ
def dnQ (q:Rat):Int:=(q*((1000000000000:Int):Rat)).floor
def upQ (q:Rat):Int:= -((-(q*((1000000000000:Int):Rat))).floor)
theorem floor_up (x:Rat):x.floor≤ -((-x).floor):=by
 have h1:=Rat.floor_le x;have h2:=Rat.floor_le (-x)
 have h3:((x.floor:Int):Rat)≤((-((-x).floor):Int):Rat):=by
  rw [Rat.intCast_neg]
  grind
 exact Rat.intCast_le_intCast.1 h3
theorem dn_up (q:Rat):dnQ q≤upQ q:=floor_up _
def endF (z:Int):Int × Bool:=if z.natAbs≤1000000000000000000 then (z,true) else (0,false)
theorem endF_out {A:Int × Bool} {l:Int} (h:A=endF l):(A.2=true→A.1=l∧l.natAbs≤1000000000000000000)∧(A.2=false→1000000000000000000<l.natAbs):=by
 subst h;unfold endF
 by_cases h:l.natAbs≤1000000000000000000
 ·rw [if_pos h];exact ⟨fun _=>⟨rfl,h⟩,fun h=>by cases h⟩
 ·rw [if_neg h];exact ⟨fun h=>(by cases h),fun _=>by omega⟩
def FitQ (Q:Int→Int→Bool→Int × Bool) (V:Int→Int→Rat) (x y:Int):Prop:=Q x y false=endF (dnQ (V x y))∧Q x y true=endF (upQ (V x y))
theorem tight_gen (Q:Int→Int→Bool→Int × Bool) (V:Int→Int→Rat) (a b:Int × Int) (k0:FitQ Q V a.1 b.1) (k1:FitQ Q V a.1 b.2) (k2:FitQ Q V a.2 b.1) (k3:FitQ Q V a.2 b.2) :
  tightE (lowQ (V a.1 b.1) [V a.1 b.2,V a.2 b.1,V a.2 b.2]) (highQ (V a.1 b.1) [V a.1 b.2,V a.2 b.1,V a.2 b.2])=uM Q a b:=by
 have r1:=dn_up (V a.1 b.1);have r2:=dn_up (V a.1 b.2);have r3:=dn_up (V a.2 b.1);have r4:=dn_up (V a.2 b.2);have q0:=endF_out k0.1;have q1:=endF_out k1.1;have q2:=endF_out k2.1;have q3:=endF_out k3.1;have p0:=endF_out k0.2;have p1:=endF_out k1.2;have p2:=endF_out k2.2;have p3:=endF_out k3.2
 have fe:Un Q a b=((Q a.1 b.1 false).2&&(Q a.1 b.1 true).2&&((Q a.1 b.2 false).2&&(Q a.1 b.2 true).2)&&((Q a.2 b.1 false).2&&(Q a.2 b.1 true).2)&&((Q a.2 b.2 false).2&&(Q a.2 b.2 true).2)):=by
  unfold Un;simp [List.range,List.range.loop,Bool.and_assoc,tN,tV,JG,FQ]
 have e0:tN Q a b 0=Q a.1 b.1 false:=rfl;have e1:tN Q a b 1=Q a.1 b.2 false:=rfl;have e2:tN Q a b 2=Q a.2 b.1 false:=rfl;have e3:tN Q a b 3=Q a.2 b.2 false:=rfl;have d0:tV Q a b 0=Q a.1 b.1 true:=rfl;have d1:tV Q a b 1=Q a.1 b.2 true:=rfl;have d2:tV Q a b 2=Q a.2 b.1 true:=rfl;have d3:tV Q a b 3=Q a.2 b.2 true:=rfl;unfold uM;rw [fe,e0,e1,e2,e3,d0,d1,d2,d3];clear fe e0 e1 e2 e3 d0 d1 d2 d3 k0 k1 k2 k3;generalize Q a.1 b.1 false=A0 at *;generalize Q a.1 b.2 false=A1 at *;generalize Q a.2 b.1 false=A2 at *;generalize Q a.2 b.2 false=A3 at *;generalize Q a.1 b.1 true=B0 at *;generalize Q a.1 b.2 true=B1 at *;generalize Q a.2 b.1 true=B2 at *;generalize Q a.2 b.2 true=B3 at *;generalize V a.1 b.1=v0 at *;generalize V a.1 b.2=v1 at *;generalize V a.2 b.1=v2 at *;generalize V a.2 b.2=v3 at *;obtain ⟨h1,h2,h3,h4,h5⟩:=low4 v0 v1 v2 v3;obtain ⟨g1,g2,g3,g4,g5⟩:=high4 v0 v1 v2 v3
 generalize lowQ v0 [v1,v2,v3]=lo at *;generalize highQ v0 [v1,v2,v3]=hi at *;replace h2:dnQ lo≤dnQ v0:=E_mono h2;replace h3:dnQ lo≤dnQ v1:=E_mono h3;replace h4:dnQ lo≤dnQ v2:=E_mono h4;replace h5:dnQ lo≤dnQ v3:=E_mono h5;replace g2:upQ v0≤upQ hi:=E_anti g2;replace g3:upQ v1≤upQ hi:=E_anti g3;replace g4:upQ v2≤upQ hi:=E_anti g4;replace g5:upQ v3≤upQ hi:=E_anti g5
 have h6:dnQ lo=dnQ v0∨dnQ lo=dnQ v1∨dnQ lo=dnQ v2∨dnQ lo=dnQ v3:=by
  rcases h1 with rfl|rfl|rfl|rfl
  ·exact .inl rfl
  ·exact .inr (.inl rfl)
  ·exact .inr (.inr (.inl rfl))
  ·exact .inr (.inr (.inr rfl))
 have g6:upQ hi=upQ v0∨upQ hi=upQ v1∨upQ hi=upQ v2∨upQ hi=upQ v3:=by
  rcases g1 with rfl|rfl|rfl|rfl
  ·exact .inl rfl
  ·exact .inr (.inl rfl)
  ·exact .inr (.inr (.inl rfl))
  ·exact .inr (.inr (.inr rfl))
 unfold tightE;rw [flr_eq,flr_eq]
 show iH (dnQ lo) (upQ hi)=_
 clear h1 g1;generalize dnQ lo=L at *;generalize upQ hi=H at *;generalize dnQ v0=l0 at *;generalize dnQ v1=l1 at *;generalize dnQ v2=l2 at *;generalize dnQ v3=l3 at *;generalize upQ v0=u0 at *;generalize upQ v1=u1 at *;generalize upQ v2=u2 at *;generalize upQ v3=u3 at *;obtain ⟨x0,y0⟩:=A0;obtain ⟨x1,y1⟩:=A1;obtain ⟨x2,y2⟩:=A2;obtain ⟨x3,y3⟩:=A3;obtain ⟨s0,t0⟩:=B0;obtain ⟨s1,t1⟩:=B1;obtain ⟨s2,t2⟩:=B2;obtain ⟨s3,t3⟩:=B3;simp only at q0 q1 q2 q3 p0 p1 p2 p3 ⊢
 by_cases hf:(y0&&t0&&(y1&&t1)&&(y2&&t2)&&(y3&&t3))=true
 ·rw [if_pos hf];simp only [Bool.and_eq_true] at hf;obtain ⟨⟨⟨⟨f1,f2⟩,f3,f4⟩,f5,f6⟩,f7,f8⟩:=hf;obtain ⟨rfl, -⟩:=q0.1 f1;obtain ⟨rfl, -⟩:=q1.1 f3;obtain ⟨rfl, -⟩:=q2.1 f5;obtain ⟨rfl, -⟩:=q3.1 f7;obtain ⟨rfl, -⟩:=p0.1 f2;obtain ⟨rfl, -⟩:=p1.1 f4;obtain ⟨rfl, -⟩:=p2.1 f6;obtain ⟨rfl, -⟩:=p3.1 f8
  have m1:L=[x0,x1,x2,x3].foldl min x0:=by
   simp only [List.foldl];omega
  have m2:H=[s0,s1,s2,s3].foldl max s0:=by
   simp only [List.foldl];omega
  rw [m1,m2]
 ·rw [if_neg hf]
  have hb:jc L H=false:=by
   refine bok_lo ?_
   have:y0=false∨t0=false∨y1=false∨t1=false∨y2=false∨t2=false∨y3=false∨t3=false:=by
    revert hf
    cases y0<;>cases t0<;>cases y1<;>cases t1<;>cases y2<;>cases t2<;>cases y3<;>cases t3<;>simp
   rcases this with h|h|h|h|h|h|h|h
   ·have:=q0.2 h;omega
   ·have:=p0.2 h;omega
   ·have:=q1.2 h;omega
   ·have:=p1.2 h;omega
   ·have:=q2.2 h;omega
   ·have:=p2.2 h;omega
   ·have:=q3.2 h;omega
   ·have:=p3.2 h;omega
  unfold iH;rw [hb];rfl
end Go.Proofs.iq
namespace Go.Proofs.aQ
open Go Go.RowKit Go.SW Go.Num Go.Mem Go.Proofs Go.Dec Go.gW
theorem checkedB (F:FuncId) (free:Array Value) (lo hi:Int) (q:Nat) (w:World) (hv:jc lo hi=true) (hq:aC w q #[.int .i64 lo,.int .i64 hi] 35)
  (h1:∀ W,Below w.heap.size w W→Calls Tryz.prog F free W (fun e w'=>e= .returned (.tuple #[.bool true,.int .i64 0])∧Below W.heap.size W w'))
  (hen:∀ args W,(callFunc F args).run Tryz.prog W= .ok (.enter F args) W) :
  Calls Tryz.prog 55 #[.func (.func F) #[] free,.slice (some ⟨q,0,none⟩) 1 1] w (fun e w'=>e= .returned (.tuple #[.bool true,.int .i64 0])∧Below w.heap.size w w'):=by
 have HV:=zh (fun W=>hv ▸ ku lo hi W);have H1:=zh h1;have HQ:=zh hq;clear h1 hv hq;go_enter Tryz.func55,Tryz.ntmps55
 obtain ⟨wx,EWX⟩:∃ y,y=w:=⟨_,rfl⟩;subst EWX;go_wp2_with fail
 go_loopw [11] (fun iv wr=>∃ k:Nat,iv= .int .i64 (k:Int)∧k≤1∧Below wx.heap.size wx wr) (fun iv _=>1 - (intOf iv).toNat)
 case atStart=>exact ⟨0,rfl,by omega,Below.refl _ _⟩
 case round =>
  obtain ⟨k,rfl,hk,hb⟩:=hrel
  rcases Nat.lt_or_ge k 1 with hlt|hge
  ·obtain rfl:k=0:=by omega
   have hq:=HQ.out.later hb;have cq:=hq.cell;have lq:=hq.lt;go_wp2_with fail
   obtain ⟨wy,EW,hz,Y⟩:=EP wr #[.int .i64 lo,.int .i64 hi] 35;rw [EW];clear EW;refine (HV.out _).mono ?_;rintro e w1 ⟨rfl,hb1⟩;have hw:=Bt hb (Bt hz hb1);clear hz hb1 Y cq lq hq;go_wp2_with fail
   go_roundw
   case rel=>exact ⟨1,by go_num,by omega,hw⟩
   case measure=>simp [intOf]<;>omega
  ·obtain rfl:k=1:=by omega
   go_wp2_with fail
   refine (H1.out _ hb).mono ?_;rintro e w1 ⟨rfl,hb1⟩;go_wp2_with fail
   go_ret2
   exact ⟨rfl,Bt hb hb1⟩
theorem Has1_ok (lo hi o1 o2:Int) (s t s1 t1 s2 t2:ByteArray) (b q:Nat) (w:World) (ho1:0≤o1) (ho2:o2≤0) (h:aC w b #[.int .i64 lo,.int .i64 hi] 35) (hq:aC w q #[.string s,.string t] 29)
  (KU:∀ W,Below w.heap.size w W→Calls Tryz.prog 44 #[.int .i64 lo] W (fun e w'=>e= .returned (.tuple #[.agg #[.string s1,.string t1],.int .i64 0])∧Below W.heap.size W w'))
  (HE2:∀ W,Below w.heap.size w W→Calls Tryz.prog 44 #[.int .i64 hi] W (fun e w'=>e= .returned (.tuple #[.agg #[.string s2,.string t2],.int .i64 0])∧Below W.heap.size W w'))
  (HC1:∀ W,Calls Tryz.prog 40 #[.agg #[.string s,.string t],.agg #[.string s1,.string t1]] W (fun e w'=>e= .returned (.tuple #[.int .i64 o1,.int .i64 0])∧Below W.heap.size W w'))
  (HC2:∀ W,Calls Tryz.prog 40 #[.agg #[.string s,.string t],.agg #[.string s2,.string t2]] W (fun e w'=>e= .returned (.tuple #[.int .i64 o2,.int .i64 0])∧Below W.heap.size W w')) :
  Calls Tryz.prog 56 #[.pointer (some ⟨b,0,none⟩),.pointer (some ⟨q,0,none⟩)] w (fun e w'=>e= .returned (.tuple #[.bool true,.int .i64 0])∧Below w.heap.size w w'):=by
 have d1:decide (0≤o1)=true:=decide_eq_true ho1;have d2:decide (o2≤0)=true:=decide_eq_true ho2;have K1:=zh KU;have K2:=zh HE2;have K3:=zh HC1;have K4:=zh HC2;have X:=zh h;have Y:=zh hq;clear KU HE2 HC1 HC2 h hq ho1 ho2;go_enter Tryz.func56,Tryz.ntmps56
 have cX:=X.out.cell;have lX:=X.out.lt;go_wp2_with fail
 clear cX lX;refine (K1.out _ (Below.refl _ _)).mono ?_;rintro e w1 ⟨rfl,hb1⟩;have hx:=(X.out.later hb1).alloc (.cells #[.string s1,.string t1] 29);have cX:=hx.cell;have lX:=hx.lt;go_wp2_with fail
 clear cX lX hx;obtain ⟨w2,EW,hz,A1⟩:=EP w1 #[.string s1,.string t1] 29;rw [EW];obtain ⟨q1,eq1⟩:∃ y,w1.heap.size=y:=⟨_,rfl⟩;rw [eq1] at A1 ⊢;have HB:=zh (Bt hb1 hz);clear EW eq1 hz hb1;refine (K2.out _ HB.out).mono ?_;rintro e w3 ⟨rfl,hb3⟩;replace HB:=zh (Bt HB.out hb3);replace A1:=zh (A1.out.later hb3);have hy:=(Y.out.later HB.out).alloc (.cells #[.string s2,.string t2] 29);have cY:=hy.cell;have lY:=hy.lt;have ha:=A1.out.alloc (.cells #[.string s2,.string t2] 29);have cA:=ha.cell;have lA:=ha.lt;go_wp2_with fail
 clear cY lY hy ha cA lA;obtain ⟨w4,EW,hz,A2⟩:=EP w3 #[.string s2,.string t2] 29;rw [EW];obtain ⟨q2,eq2⟩:∃ y,w3.heap.size=y:=⟨_,rfl⟩;rw [eq2] at A2 ⊢;replace HB:=zh (Bt HB.out hz);clear EW eq2 hz hb3;refine (K3.out _).mono ?_;rintro e w5 ⟨rfl,hb5⟩;replace HB:=zh (Bt HB.out hb5);replace A2:=zh (A2.out.later hb5);have hy:=Y.out.later HB.out;have cY:=hy.cell;have lY:=hy.lt;have cA:=A2.out.cell;have lA:=A2.out.lt;go_wp2_with fail
 clear cY lY hy cA lA;refine (K4.out _).mono ?_;rintro e w6 ⟨rfl,hb6⟩;go_wp2_with fail
 go_ret2
 exact ⟨rfl,Bt HB.out hb6⟩
theorem Has_ok (lo hi o1 o2:Int) (s t s1 t1 s2 t2:ByteArray) (w:World) (hv:jc lo hi=true) (ho1:0≤o1) (ho2:o2≤0)
  (KU:∀ W,Below w.heap.size w W→Calls Tryz.prog 44 #[.int .i64 lo] W (fun e w'=>e= .returned (.tuple #[.agg #[.string s1,.string t1],.int .i64 0])∧Below W.heap.size W w'))
  (HE2:∀ W,Below w.heap.size w W→Calls Tryz.prog 44 #[.int .i64 hi] W (fun e w'=>e= .returned (.tuple #[.agg #[.string s2,.string t2],.int .i64 0])∧Below W.heap.size W w'))
  (HC1:∀ W,Calls Tryz.prog 40 #[.agg #[.string s,.string t],.agg #[.string s1,.string t1]] W (fun e w'=>e= .returned (.tuple #[.int .i64 o1,.int .i64 0])∧Below W.heap.size W w'))
  (HC2:∀ W,Calls Tryz.prog 40 #[.agg #[.string s,.string t],.agg #[.string s2,.string t2]] W (fun e w'=>e= .returned (.tuple #[.int .i64 o2,.int .i64 0])∧Below W.heap.size W w')) :
  Calls Tryz.prog 23 #[.agg #[.int .i64 lo,.int .i64 hi],.agg #[.string s,.string t]] w (fun e w'=>e= .returned (.tuple #[.bool true,.int .i64 0])∧Below w.heap.size w w'):=by
 have H:Hid (∀ W b c q,Below w.heap.size w W→aC W b #[.int .i64 lo,.int .i64 hi] 35→aC W c #[.string s,.string t] 29→aC W q #[.int .i64 lo,.int .i64 hi] 35→Calls Tryz.prog 55 #[.func (.func 56) #[] #[.pointer (some ⟨b,0,none⟩),.pointer (some ⟨c,0,none⟩)],.slice (some ⟨q,0,none⟩) 1 1] W (fun e w'=>e= .returned (.tuple #[.bool true,.int .i64 0])∧Below W.heap.size W w')):=zh fun W b c q hW h1 h2 h3 =>
  checkedB 56 #[.pointer (some ⟨b,0,none⟩),.pointer (some ⟨c,0,none⟩)] lo hi q W hv h3 (fun W' hW'=>Has1_ok lo hi o1 o2 s t s1 t1 s2 t2 b c W' ho1 ho2 (h1.later hW') (h2.later hW') (fun W2 h4=>KU W2 (Bt hW (Bt hW' h4))) (fun W2 h4=>HE2 W2 (Bt hW (Bt hW' h4))) HC1 HC2) (fun args W=>by rfl)
 clear KU HE2 HC1 HC2 hv ho1 ho2;go_enter Tryz.func23,Tryz.ntmps23
 go_wp2_with fail
 obtain ⟨wx,EW,hz,X,R,Z⟩:=Pf w #[.int .i64 lo,.int .i64 hi] 35 #[.string s,.string t] 29 #[.int .i64 lo,.int .i64 hi] 35;rw [EW];clear EW;refine (H.out _ _ _ _ hz X.out R.out Z.out).mono ?_;rintro e w1 ⟨rfl,hb1⟩;clear H;go_wp2_with fail
 go_ret2
 exact ⟨rfl,Bt hz hb1⟩
end Go.Proofs.aQ
namespace Go.Proofs.iq
open Go Go.RowKit Go.SW Go.Num Go.Mem Go.Proofs Go.gW Go.Proofs.aQ Go.Proofs.dQ
theorem quoE_end (x y:Int) (d:Nat) (up:Bool):vW x y d up=endF (Ij (x*y) d up):=rfl
theorem dn_of {q:Rat} {n:Int} {d:Nat} (hd:0<d) (h:q*((1000000000000:Int):Rat)=(n:Rat) / ((d:Int):Rat)):dnQ q=Ij n d false∧upQ q=Ij n d true:=by
 unfold dnQ upQ;rw [h]
 constructor
 ·rw [floor_div _ zo];rfl
 ·rw [neg_div',← Rat.intCast_neg,floor_div _ zo];rfl
theorem fit_div (x y:Int) (hy:y≠0):FitQ (fun x y up=>kP x 1000000000000 y up) (fun x y=>un x / un y) x y:=by
 have hE:=ai0;have e1:=Xy x;have e2:=Xy y;have hy':(y:Rat)≠0:=fun h=>hy (by exact_mod_cast h);have hu:un y≠0:=fun h=>hy' (by rw [← e2,h];exact Rat.zero_mul _)
 have key:un x / un y*((1000000000000:Int):Rat)=(((if y<0 then -x else x)*1000000000000:Int):Rat) / ((y.natAbs:Int):Rat):=by
  have h1:un x / un y=(x:Rat) / (y:Rat):=by
   rw [← e1,← e2]
   grind
  rw [h1,Rat.intCast_mul]
  by_cases h:y<0
  ·rw [if_pos h];have:((y.natAbs:Int):Rat)= -(y:Rat):=by rw [← Rat.intCast_neg];congr 1;omega
   rw [this,Rat.intCast_neg]
   grind
  ·rw [if_neg h];have:((y.natAbs:Int):Rat)=(y:Rat):=by congr 1;omega
   rw [this]
   grind
 have h:=dn_of zo key;unfold FitQ kP;simp only [quoE_end];exact ⟨congrArg endF h.1.symm,congrArg endF h.2.symm⟩
theorem tight_div (a b:Int × Int) (h1:b.1≠0) (h2:b.2≠0):tightE (lowQ (un a.1 / un b.1) [un a.1 / un b.2,un a.2 / un b.1,un a.2 / un b.2]) (highQ (un a.1 / un b.1) [un a.1 / un b.2,un a.2 / un b.1,un a.2 / un b.2])=uM (fun x y up=>kP x 1000000000000 y up) a b :=
 tight_gen _ (fun x y=>un x / un y) a b (fit_div _ _ h1) (fit_div _ _ h2) (fit_div _ _ h1) (fit_div _ _ h2)
end Go.Proofs.iq
namespace Go.gW
open Go Go.Num Go.Proofs
theorem tenP_pos (k:Nat):0<jN k:=Nat.pow_pos zo
theorem Hq.inv {a:Nat} {p:Rat} (h:Hq a p):Hq a (p⁻¹):=by
 obtain ⟨n,d,h1,h2,h3,rfl⟩:=h;have e1:=uy h1
 rcases Int.lt_trichotomy n 0 with h|rfl|h
 ·have e2:((-n:Int):Rat)≠0:=uy zo;rw [Rat.intCast_neg] at e2;refine ⟨-d, -n,by omega,by omega,by omega,?_⟩;rw [Rat.intCast_neg,Rat.intCast_neg]
  grind
 ·exact ⟨0,1,by omega,by have:=tenP_pos a;omega,by have:=tenP_pos a;omega,by simp [Rat.div_def]⟩
 ·have e2:=uy h;exact ⟨d,n,h,h3,h2,by grind⟩
theorem Hq.div {a b:Nat} {p q:Rat} (h:Hq a p) (k:Hq b q):Hq (a+b) (p / q):=by
 rw [Rat.div_def];exact h.mul k.inv
end Go.gW
namespace Go.Proofs.aQ
open Go Go.RowKit Go.SW Go.Num Go.Mem Go.Proofs Go.gW Go.Proofs.matrix Go.Proofs.iq Go.Proofs.dQ
theorem mul_le_nonpos {a b c:Rat} (h:a≤b) (hc:c≤0):b*c≤a*c:=by
 have h1:0≤ -c:=by grind
 have h2:=Rat.mul_le_mul_of_nonneg_right h h1
 grind
theorem seg {c x d:Rat} (y:Rat) (h1:c≤x) (h2:x≤d):(c*y≤x*y∨d*y≤x*y)∧(x*y≤c*y∨x*y≤d*y):=by
 rcases Rat.le_total (a:=0) (b:=y) with hy|hy
 ·exact ⟨.inl (Rat.mul_le_mul_of_nonneg_right h1 hy),.inr (Rat.mul_le_mul_of_nonneg_right h2 hy)⟩
 ·exact ⟨.inr (mul_le_nonpos h2 hy),.inl (mul_le_nonpos h1 hy)⟩
theorem seg2 {a b x c d y:Rat} (h1:a≤x) (h2:x≤b) (k1:c≤y) (k2:y≤d) :
  (a*c≤x*y∨a*d≤x*y∨b*c≤x*y∨b*d≤x*y)∧(x*y≤a*c∨x*y≤a*d∨x*y≤b*c∨x*y≤b*d):=by
 have s:=seg y h1 h2;have ta:=seg a k1 k2;have tb:=seg b k1 k2;rw [Rat.mul_comm c a,Rat.mul_comm d a,Rat.mul_comm y a] at ta;rw [Rat.mul_comm c b,Rat.mul_comm d b,Rat.mul_comm y b] at tb
 constructor
 ·rcases s.1 with h|h
  ·rcases ta.1 with g|g
   ·exact .inl (Rat.le_trans g h)
   ·exact .inr (.inl (Rat.le_trans g h))
  ·rcases tb.1 with g|g
   ·exact .inr (.inr (.inl (Rat.le_trans g h)))
   ·exact .inr (.inr (.inr (Rat.le_trans g h)))
 ·rcases s.2 with h|h
  ·rcases ta.2 with g|g
   ·exact .inl (Rat.le_trans h g)
   ·exact .inr (.inl (Rat.le_trans h g))
  ·rcases tb.2 with g|g
   ·exact .inr (.inr (.inl (Rat.le_trans h g)))
   ·exact .inr (.inr (.inr (Rat.le_trans h g)))
def Wi (M:Int) (v:Rat):Prop:=un (-M)≤v∧v≤un M
theorem un_neg (n:Int):un (-n)= -un n:=by unfold un;rw [Rat.intCast_neg,neg_div']
theorem Wi.dn {M:Int} {v:Rat} (h:Wi M v): -M≤flr (v*((1000000000000:Int):Rat)):=by
 have:=E_mono h.1;rw [Xy,Rat.floor_intCast] at this;rw [flr_eq];exact this
theorem Wi.up {M:Int} {v:Rat} (h:Wi M v): -(flr (-(v*((1000000000000:Int):Rat))))≤M:=by
 have:=E_anti h.2;rw [Xy,← Rat.intCast_neg,Rat.floor_intCast] at this;rw [flr_eq];omega
theorem _root_.Go.Proofs.matrix.In.lo {b:Int × Int} {q:Rat} {M:Int} (h:In b q M):un b.1≤q:=h.1
theorem _root_.Go.Proofs.matrix.In.hi {b:Int × Int} {q:Rat} {M:Int} (h:In b q M):q≤un b.2:=h.2.1
theorem _root_.Go.Proofs.matrix.In.wi {b:Int × Int} {q:Rat} {M:Int} (h:In b q M):Wi M q:=⟨Rat.le_trans (Cq.2 h.2.2.1) h.1,Rat.le_trans h.2.1 (Cq.2 h.2.2.2)⟩
theorem _root_.Go.Proofs.matrix.In.mono {b:Int × Int} {q:Rat} {M N:Int} (h:In b q M) (k:M≤N):In b q N:=⟨h.1,h.2.1,by have:=h.2.2.1;omega,by have:=h.2.2.2;omega⟩
theorem tight_in {p0 p1 p2 p3 q:Rat} {M:Int} (h1:p0≤q∨p1≤q∨p2≤q∨p3≤q) (h2:q≤p0∨q≤p1∨q≤p2∨q≤p3) (w0:Wi M p0) (w1:Wi M p1) (w2:Wi M p2) (w3:Wi M p3) (hM:M≤1000000000000000000) :
  ∃ b,tightE (lowQ p0 [p1,p2,p3]) (highQ p0 [p1,p2,p3])=(b,0)∧In b q M:=by
 obtain ⟨m1,m2,m3,m4,m5⟩:=low4 p0 p1 p2 p3;obtain ⟨k1,k2,k3,k4,k5⟩:=high4 p0 p1 p2 p3;generalize lowQ p0 [p1,p2,p3]=lo at *;generalize highQ p0 [p1,p2,p3]=hi at *;refine made_in ?_ ?_ ?_ ?_ hM
 ·rcases h1 with h|h|h|h
  ·exact Rat.le_trans m2 h
  ·exact Rat.le_trans m3 h
  ·exact Rat.le_trans m4 h
  ·exact Rat.le_trans m5 h
 ·rcases h2 with h|h|h|h
  ·exact Rat.le_trans h k2
  ·exact Rat.le_trans h k3
  ·exact Rat.le_trans h k4
  ·exact Rat.le_trans h k5
 ·rcases m1 with rfl|rfl|rfl|rfl
  ·exact w0.dn
  ·exact w1.dn
  ·exact w2.dn
  ·exact w3.dn
 ·rcases k1 with rfl|rfl|rfl|rfl
  ·exact w0.up
  ·exact w1.up
  ·exact w2.up
  ·exact w3.up
theorem un_mul_le {x y z:Int} (h:x*y≤z*1000000000000):un x*un y≤un z:=by
 rw [le_un_iff,un_prod];have e:=SI;have h2:((x*y:Int):Rat)≤((z*1000000000000:Int):Rat):=Rat.intCast_le_intCast.2 h;rw [Rat.intCast_mul z] at h2;have h3:=Rat.mul_le_mul_of_nonneg_right h2 (Rat.le_of_lt (Rat.inv_pos.2 e));rw [Rat.div_def]
 rwa [Rat.mul_assoc (z:Rat),Rat.mul_inv_cancel _ ai0,Rat.mul_one] at h3
theorem un_mul_ge {x y z:Int} (h:z*1000000000000≤x*y):un z≤un x*un y:=by
 have:=un_mul_le (x:= -x) (y:=y) (z:= -z) (by rw [Int.neg_mul,Int.neg_mul];omega);rw [un_neg,un_neg,Rat.neg_mul] at this;have:=Rat.neg_le_neg this
 rwa [Rat.neg_neg,Rat.neg_neg] at this
theorem mul_wi {x y A B M:Int} (hx:x.natAbs≤A) (hy:y.natAbs≤B) (h:A*B≤M*1000000000000):Wi M (un x*un y):=by
 have h1:(x*y).natAbs≤A*B:=by
  rw [Int.natAbs_mul,Int.natCast_mul];exact Int.mul_le_mul hx hy zo zo
 exact ⟨un_mul_ge zo,un_mul_le zo⟩
theorem okB2 {s t:Int × Int} (h:jc s.1 s.2=true) (k:jc t.1 t.2=true):okB [s,t]=true:=by
 unfold okB;simp only [List.all_cons,List.all_nil,Bool.and_true,h,k]
theorem in_aroundB {f:Fr} {q:Rat} {M:Int} (h:rd f=some q) (w:Wi M q) (hM:M≤1000000000000000000):∃ b,aQ.jE f=(b,0)∧In b q M:=by
 have e:aQ.jE f=tightE q q:=by rw [tight_around];unfold aQ.jE;rw [h]
 rw [e];exact made_in Rat.le_refl Rat.le_refl w.dn w.up hM
theorem Wi.of {n d M:Int} (hd:0<d) (h1: -(M*d)≤n*1000000000000) (h2:n*1000000000000≤M*d):Wi M ((n:Rat) / (d:Rat)):=by
 have hd':(0:Rat)<(d:Rat):=Rat.intCast_pos.2 hd;have hd0:(d:Rat)≠0:=fun e=>by rw [e] at hd';exact absurd hd' zd
 have key:∀ a b:Int,a*d≤b*1000000000000→un a≤(b:Rat) / (d:Rat):=fun a b h=>by
  rw [Jo];refine Rat.le_of_mul_le_mul_right (c:=(d:Rat)) ?_ hd';have e:(b:Rat) / (d:Rat)*((1000000000000:Int):Rat)*(d:Rat)=(b:Rat)*((1000000000000:Int):Rat):=by grind
  rw [e];have h2:((a*d:Int):Rat)≤((b*1000000000000:Int):Rat):=Rat.intCast_le_intCast.2 h;rw [Rat.intCast_mul,Rat.intCast_mul] at h2;exact h2
 refine ⟨key _ _ (by rw [Int.neg_mul];exact h1),?_⟩;have:=key (-M) (-n) (by rw [Int.neg_mul,Int.neg_mul];omega);rw [un_neg,Rat.intCast_neg,← neg_div'] at this
 grind
end Go.Proofs.aQ
namespace Go.Num
theorem plo_spec {q:Nat} (hq:0<q) (n p:Nat):uS n p q^q*10^(12*p)≤n^p*10^(12*q)∧n^p*10^(12*q)<(uS n p q+1)^q*10^(12*p):=by
 obtain ⟨h1,h2⟩:=kS hq (jC n p q);refine ⟨Ni.1 h1,?_⟩;rw [← Nat.not_le];exact fun h=>absurd (Ni.2 h) (Nat.not_le.2 h2)
theorem phi_bounds (n p q:Nat):uS n p q≤phi n p q∧phi n p q≤uS n p q+1:=by
 unfold phi;split<;>omega
theorem phi_spec {q:Nat} (hq:0<q) (n p:Nat):n^p*10^(12*q)≤phi n p q^q*10^(12*p):=by
 unfold phi;split
 ·rename_i h;exact Nat.le_of_eq (of_decide_eq_true h).symm
 ·exact Nat.le_of_lt (plo_spec hq n p).2
theorem phi_le {n p q r:Nat} (hq:0<q) (h:n^p*10^(12*q)≤r^q*10^(12*p)):phi n p q≤r:=by
 have s:=plo_spec hq n p
 have hr:uS n p q≤r:=by
  rcases Nat.lt_or_ge r (uS n p q) with h1|h1
  ·have a:=Nat.le_trans s.1 h;have b:r^q*10^(12*p)<uS n p q^q*10^(12*p):=(Nat.mul_lt_mul_right (oQ _)).2 (Nat.pow_lt_pow_left h1 zo);omega
  ·exact h1
 unfold phi;split
 ·exact hr
 ·rename_i h1
  rcases Nat.eq_or_lt_of_le hr with e|h2
  ·refine absurd ?_ h1;rw [← e] at h;unfold JH;exact decide_eq_true (Nat.le_antisymm s.1 h)
  ·omega
end Go.Num
namespace Go.Num
theorem sq_le {x:Nat} {l:List Nat} (h:x∈l):x^2≤oN l:=by
 induction l with
 | nil=>cases h
 | cons y t ih =>
  rw [LW]
  rcases List.mem_cons.1 h with rfl|h
  ·omega
  ·have:=ih h;omega
end Go.Num
namespace Go.Proofs.lab
open Go Go.RowKit Go.SW Go.Num Go.Mem Go.Proofs Go.gW Go.Proofs.aQ Go.Proofs.matrix Go.Proofs.iq Go.Proofs.dQ
def negB (b:Int × Int):Int × Int:=(-b.2, -b.1)
structure Wd (b:Int × Int):Prop where
 le:b.1≤b.2
 lo: -129000000000000≤b.1
 hi:b.2≤129000000000000
 far:Ca b=0∨5000000000≤Ca b
theorem Wd.neg {b:Int × Int} (h:Wd b):Wd (negB b):=by
 obtain ⟨h1,h2,h3,h4⟩:=h;refine ⟨?_,?_,?_,?_⟩<;>unfold negB<;>(try unfold Ca at*)<;>simp only at* <;>omega
theorem Wd.ok {b:Int × Int} (h:Wd b):jc b.1 b.2=true:=bok_yes (by have:=h.lo;omega) h.le (by have:=h.hi;omega)
theorem in_divB {s t:Int × Int} {p q:Rat} {A L:Int} (M:Int) (h:In s p A) (k1:un t.1≤q) (k2:q≤un t.2) (hL:0<L) (kL:L≤t.1) (kt:t.2≤1000000000000000000) (hA:A≤1000000000000000000) (hm:A*1000000000000≤M*L) (hM:M≤1000000000000000000) :
  ∃ b,aQ.vg s t=(b,0)∧In b (p / q) M:=by
 have ht:t.1≤t.2:=Cq.1 (Rat.le_trans k1 k2)
 have e:aQ.vg s t=tightE (lowQ (un s.1 / un t.1) [un s.1 / un t.2,un s.2 / un t.1,un s.2 / un t.2]) (highQ (un s.1 / un t.1) [un s.1 / un t.2,un s.2 / un t.1,un s.2 / un t.2]):=by
  rw [tight_div s t zo zo];unfold aQ.vg Us;rw [if_pos (okB2 (h.jc hA) (bok_yes zo ht kt)),if_neg zo]
 have hs:=h.le;obtain ⟨h1,h2,h3,h4⟩:=h;have z0:un 0=0:=by decide+kernel
 have p1:0<un t.1:=by
  have:un 1≤un t.1:=Cq.2 zo;exact Std.lt_of_lt_of_le (by decide+kernel) this
 have pq:0<q:=Std.lt_of_lt_of_le p1 k1;have p2:0<un t.2:=Std.lt_of_lt_of_le pq k2
 have inv:∀ {x y:Rat},0<x→x≤y→y⁻¹≤x⁻¹:=fun {x y} hx hxy=>by
  have hy:0<y:=Std.lt_of_lt_of_le hx hxy;have ix:=Rat.inv_pos.2 hx;have iy:=Rat.inv_pos.2 hy;have h5:=Rat.mul_le_mul_of_nonneg_right hxy (Rat.le_of_lt (Rat.mul_pos ix iy));have nx:x≠0:=fun e=>by rw [e] at hx;exact absurd hx Rat.lt_irrefl
  have ny:y≠0:=fun e=>by rw [e] at hy;exact absurd hy Rat.lt_irrefl
  have e1:x*(x⁻¹*y⁻¹)=y⁻¹:=by rw [← Rat.mul_assoc,Rat.mul_inv_cancel _ nx,Rat.one_mul]
  have e2:y*(x⁻¹*y⁻¹)=x⁻¹:=by rw [Rat.mul_comm x⁻¹,← Rat.mul_assoc,Rat.mul_inv_cancel _ ny,Rat.one_mul]
  rwa [e1,e2] at h5
 have wi:∀ x y:Int,x.natAbs≤A→L≤y→Wi M (un x*(un y)⁻¹):=fun x y hx hy=>by
  have py:0<un y:=by
   have:un 1≤un y:=Cq.2 zo;exact Std.lt_of_lt_of_le (by decide+kernel) this
  have ny:un y≠0:=fun e=>by rw [e] at py;exact absurd py Rat.lt_irrefl
  have hML:0≤M*L:=by
   have:0≤A:=by omega
   have:=Int.mul_nonneg this (show (0:Int)≤1000000000000 by omega);omega
  have hM0:0≤M:=by
   rcases Int.lt_or_le M 0 with c|c
   ·have:=Int.mul_neg_of_neg_of_pos c hL;omega
   ·exact c
  have hy2:M*L≤M*y:=Int.mul_le_mul_of_nonneg_left hy hM0
  have up:∀ z:Int,z.natAbs≤A→un z*(un y)⁻¹≤un M:=fun z hz=>by
   have h6:un z≤un M*un y:=by
    have:=un_mul_ge (x:=M) (y:=y) (z:=z) zo;exact this
   have h7:=Rat.mul_le_mul_of_nonneg_right h6 (Rat.le_of_lt (Rat.inv_pos.2 py))
   rwa [Rat.mul_assoc,Rat.mul_inv_cancel _ ny,Rat.mul_one] at h7
  refine ⟨?_,up x hx⟩;have:=up (-x) zo;rw [un_neg,Rat.neg_mul] at this;rw [un_neg]
  grind
 simp only [Rat.div_def] at e ⊢;rw [e];have s2:=seg2 h1 h2 (inv pq k2) (inv p1 k1)
 exact tight_in (by rcases s2.1 with h|h|h|h;exact .inr (.inl h);exact .inl h;exact .inr (.inr (.inr h));exact .inr (.inr (.inl h)))
  (by rcases s2.2 with h|h|h|h;exact .inr (.inl h);exact .inl h;exact .inr (.inr (.inr h));exact .inr (.inr (.inl h)))
  (wi _ _ zo kL) (wi _ _ zo zo) (wi _ _ zo kL) (wi _ _ zo zo) hM
theorem un_E1:un 1000000000000=1:=by decide+kernel
theorem sq_le {a b:Rat} (h0:0≤a) (h:a≤b):a*a≤b*b:=Rat.le_trans (Rat.mul_le_mul_of_nonneg_left h h0) (Rat.mul_le_mul_of_nonneg_right h (Rat.le_trans h0 h))
end Go.Proofs.lab
namespace Go.Proofs.differ
open Go Go.RowKit Go.SW Go.Num Go.Mem Go.Proofs Go.gW Go.Fx
instance (s:ByteArray) (n:Int):Decidable (Lit s n):=by unfold Lit;exact inferInstance
end Go.Proofs.differ
namespace Go.Proofs.lab
open Go Go.RowKit Go.SW Go.Num Go.Mem Go.Proofs Go.gW Go.Proofs.aQ Go.Proofs.matrix Go.Proofs.iq Go.Proofs.dQ
theorem made_out {lo hi:Int} {b:Int × Int} (h:iH lo hi=(b,0)):b=(lo,hi):=by
 unfold iH at h;split at h
 ·exact (congrArg Prod.fst h).symm
 ·exact absurd (show (6:Int)=0 from congrArg Prod.snd h) zd
theorem plo_up {m n:Nat} (h:m≤n):uS m 1 2≤uS n 1 2:=TJ zo (Nat.le_trans (plo_spec zo m 1).1 (Nat.mul_le_mul_right _ (by rw [Nat.pow_one,Nat.pow_one];exact h)))
theorem quo_sqM {x A M:Int} (h0:0≤x) (h1:x≤A) (hm:A*A≤M*1000000000000) (hM:M≤1000000000000000000) (up:Bool):kP x x 1000000000000 up=((if up then upQ (un x*un x) else dnQ (un x*un x)),true):=by
 have h2:0≤x*x:=Int.mul_nonneg h0 h0;have h3:x*x≤M*1000000000000:=Int.le_trans (Int.mul_le_mul h1 h1 h0 zo) hm;unfold kP;rw [if_neg zo];have e:(1000000000000:Int).natAbs=1000000000000:=rfl;rw [e];unfold vW;have d:=prod_down x x;have u:=prod_up x x
 have b1:(Ij (x*x) 1000000000000 up).natAbs≤1000000000000000000:=by
  have g1:(0:Int)≤x*x / 1000000000000:=Int.ediv_nonneg h2 zo;have g2:x*x / 1000000000000≤M:=Int.ediv_le_of_le_mul zo h3;have g3: -(x*x) / 1000000000000≤0:=by omega
  have g4: -M≤ -(x*x) / 1000000000000:=by omega
  unfold Ij;have c:((1000000000000:Nat):Int)=1000000000000:=rfl;rw [c];cases up
  ·rw [if_neg zd];omega
  ·rw [if_pos rfl];omega
 rw [if_pos b1];unfold upQ dnQ;rw [d,u];cases up<;>rfl
theorem un_nn {z:Int} (h:0≤z):0≤un z:=by
 have:un 0≤un z:=Cq.2 h;exact Rat.le_trans (by decide+kernel) this
theorem in_sqr {b:Int × Int} {v:Rat} {A:Int} (M:Int) (h:In b v A) (hA:A≤1000000000000000000) (hm:A*A≤M*1000000000000) (hM:M≤1000000000000000000):∃ s,qY b=(s,0)∧In s (v*v) M∧0≤s.1:=by
 have hb:=h.jc hA;have hle:=h.le;obtain ⟨h1,h2,h3,h4⟩:=h;have ea:=power.Rc (lo:=b.1) (hi:=b.2) hb;have eb:Ca (b.1,b.2)=Ca b:=rfl;have ec:Bw (b.1,b.2)=Bw b:=rfl;rw [eb,ec] at ea;have l1:Ca b≤Bw b:=by unfold Ca Bw;omega
 have l2:Bw b≤A:=by unfold Bw;omega
 have q1:=quo_sqM (x:=((Ca b:Nat):Int)) zo zo hm hM false;have q2:=quo_sqM (x:=((Bw b:Nat):Int)) zo zo hm hM true;rw [if_neg zd] at q1;rw [if_pos rfl] at q2
 have a1:∃ z:Rat,(z=v∨z= -v)∧un ((Ca b:Nat):Int)≤z∧z≤un ((Bw b:Nat):Int):=by
  rcases Rat.le_total (a:=0) (b:=v) with c|c
  ·refine ⟨v,.inl rfl,?_,Rat.le_trans h2 (Cq.2 (by unfold Bw;omega))⟩
   rcases Int.le_total b.1 0 with g|g
   ·rcases Int.le_total 0 b.2 with g2|g2
    ·rw [show ((Ca b:Nat):Int)=0 by unfold Ca;omega];exact Rat.le_trans (by decide+kernel) c
    ·have h5:=Cq.2 g2;have z0:un 0=0:=by decide+kernel
     rw [z0] at h5;have h6:v=0:=Rat.le_antisymm (Rat.le_trans h2 h5) c
     have h7:b.2=0:=by
      refine Int.le_antisymm g2 (Cq.1 ?_);rw [z0,← h6];exact h2
     rw [show ((Ca b:Nat):Int)=0 by unfold Ca;omega,z0];exact c
   ·rw [show ((Ca b:Nat):Int)=b.1 by unfold Ca;omega];exact h1
  ·have n1:un (-b.2)≤ -v:=by rw [un_neg];exact Rat.neg_le_neg h2
   have n2: -v≤un (-b.1):=by rw [un_neg];exact Rat.neg_le_neg h1
   refine ⟨-v,.inr rfl,?_,Rat.le_trans n2 (Cq.2 (by unfold Bw;omega))⟩;have c':0≤ -v:=by have:=Rat.neg_le_neg c;rwa [Rat.neg_zero] at this
   rcases Int.le_total 0 b.2 with g|g
   ·rcases Int.le_total b.1 0 with g2|g2
    ·rw [show ((Ca b:Nat):Int)=0 by unfold Ca;omega];exact Rat.le_trans (by decide+kernel) c'
    ·have h5:=Cq.2 g2;have z0:un 0=0:=by decide+kernel
     rw [z0] at h5;have h6:v=0:=Rat.le_antisymm c (Rat.le_trans h5 h1)
     have h7:b.1=0:=by
      refine Int.le_antisymm (Cq.1 ?_) g2;rw [z0,← h6];exact h1
     rw [show ((Ca b:Nat):Int)=0 by unfold Ca;omega,z0];exact c'
   ·rw [show ((Ca b:Nat):Int)= -b.2 by unfold Ca;omega];exact n1
 obtain ⟨z,hz,z1,z2⟩:=a1;have zz:v*v=z*z:=by rcases hz with rfl|rfl<;>grind
 have u0:=un_nn (z:=((Ca b:Nat):Int)) zo;have m1:=sq_le u0 z1;have m2:=sq_le (Rat.le_trans u0 z1) z2;rw [← zz] at m1 m2;have w1:Wi M (un ((Ca b:Nat):Int)*un ((Ca b:Nat):Int)):=mul_wi (A:=A) (B:=A) zo zo hm;have w2:Wi M (un ((Bw b:Nat):Int)*un ((Bw b:Nat):Int)):=mul_wi (A:=A) (B:=A) zo zo hm;obtain ⟨s,es,hs⟩:=made_in (q:=v*v) m1 m2 w1.dn w2.up hM;unfold tightE at es;rw [flr_eq,flr_eq] at es;refine ⟨s,?_,hs,?_⟩
 ·unfold qY;rw [ea];simp only [q1,q2,ne_eq,not_true_eq_false,if_false,and_self,if_true];exact es
 ·rw [made_out es];exact Rat.le_floor_iff.2 (Rat.mul_nonneg (Rat.mul_nonneg u0 u0) (Rat.le_of_lt SI))
theorem sq_rev {a b:Rat} (h0:0≤b) (h:a*a≤b*b):a≤b:=by
 refine Rat.not_lt.1 fun hl=>?_;have h1:b*b≤b*a:=Rat.mul_le_mul_of_nonneg_left (Rat.le_of_lt hl) h0;have ha:0<a:=Std.lt_of_le_of_lt h0 hl;have h2:b*a<a*a:=Rat.mul_lt_mul_of_pos_right hl ha;exact absurd (Std.lt_of_le_of_lt h1 h2) (Rat.not_lt.2 h)
theorem in_root {s:Int × Int} {r:Rat} {M:Int} (N:Int) (h:In s (r*r) M) (h0:0≤s.1) (hr:0≤r) (hM:M≤1000000000000000000) (hN0:0≤N) (hN:N≤1000000000000000000) (hm:M*1000000000000≤N*N):∃ t,power.O5 s.1 s.2 1 2=(t,0)∧In t r N:=by
 have hb:=h.jc hM;have hle:=h.le;obtain ⟨h1,h2,h3,h4⟩:=h;obtain ⟨x,y⟩:=s;simp only at *;obtain ⟨n,rfl⟩:=Int.eq_ofNat_of_zero_le h0;obtain ⟨m,rfl⟩:=Int.eq_ofNat_of_zero_le (Int.le_trans h0 hle);obtain ⟨K,rfl⟩:=Int.eq_ofNat_of_zero_le hN0;have hnm:n≤m:=by omega
 have hK:phi m 1 2≤K:=phi_le zo (by
  have:((m:Int))*1000000000000≤(K:Int)*K:=Int.le_trans (Int.mul_le_mul_of_nonneg_right h4 zo) hm;have h5:m*1000000000000≤K*K:=Int.ofNat_le.1 (by rw [Int.natCast_mul,Int.natCast_mul];exact this)
  calc m^1*10^(12*2)=m*1000000000000*10^12:=by rw [Nat.pow_one,show (10:Nat)^(12*2)=1000000000000*10^12 from by decide+kernel,Nat.mul_assoc]
   _≤K*K*10^12:=Nat.mul_le_mul_right _ h5
   _=K^2*10^(12*1):=by rw [Nat.pow_two])
 have hp:=(phi_bounds m 1 2).1;have hq:=plo_up hnm;have c1:=(plo_spec (q:=2) zo n 1).1;have c2:=phi_spec (q:=2) zo m 1;rw [Nat.pow_one,Nat.pow_two] at c1 c2
 have d1:((uS n 1 2:Nat):Int)*((uS n 1 2:Nat):Int)≤(n:Int)*1000000000000:=by
  have:uS n 1 2*uS n 1 2≤n*1000000000000:=by
   rw [show (10:Nat)^(12*1)=1000000000000 from by decide+kernel,show (10:Nat)^(12*2)=1000000000000*1000000000000 from by decide+kernel] at c1;omega
  exact Int.ofNat_le.2 this
 have d2:(m:Int)*1000000000000≤((phi m 1 2:Nat):Int)*((phi m 1 2:Nat):Int):=by
  have:m*1000000000000≤phi m 1 2*phi m 1 2:=by
   rw [show (10:Nat)^(12*1)=1000000000000 from by decide+kernel,show (10:Nat)^(12*2)=1000000000000*1000000000000 from by decide+kernel] at c2;exact Nat.le_of_mul_le_mul_right (by rw [Nat.mul_assoc];exact c2) (show 0<1000000000000 by decide)
  exact Int.ofNat_le.2 this
 have hN':K≤1000000000000000000:=by omega
 have i:In (((uS n 1 2:Nat):Int),((phi m 1 2:Nat):Int)) r (K:Int) :=
  ⟨sq_rev hr (Rat.le_trans (un_mul_le d1) h1),sq_rev (un_nn zo) (Rat.le_trans h2 (un_mul_ge d2)),by show -(K:Int)≤((uS n 1 2:Nat):Int);omega,by show ((phi m 1 2:Nat):Int)≤(K:Int);omega⟩
 refine ⟨_,?_,i⟩;unfold power.O5 power.Bc u7;rw [hb,if_neg zd,if_neg (by rw [not_or];exact ⟨by decide,by omega⟩)];simp only [Int.toNat_natCast,show (1:Int).toNat=1 from rfl,show (2:Int).toNat=2 from rfl];rw [if_pos (show uS n 1 2≤10^18 by omega),if_pos (show uS m 1 2≤10^18 by omega)];simp only [ne_eq,not_true_eq_false,if_false,if_true,Bool.false_eq_true,i.jc zo]
theorem around_lo {f:Fr} {q:Rat} {b:Int × Int} {z:Int} (h:rd f=some q) (e:aQ.jE f=(b,0)) (hz:un z≤q):z≤b.1:=by
 have e2:aQ.jE f=tightE q q:=by rw [tight_around];unfold aQ.jE;rw [h]
 rw [e2] at e;unfold tightE at e;rw [made_out e,flr_eq];exact Rat.le_floor_iff.2 ((Jo _ _).1 hz)
theorem one_mul_b {b:Int × Int} (h:jc b.1 b.2=true):aQ.jo (1000000000000,1000000000000) b=(b,0):=by
 obtain ⟨n1,n2,n3⟩:=lK h
 have e:aQ.jo (1000000000000,1000000000000) b=tightE (lowQ (un 1000000000000*un b.1) [un 1000000000000*un b.2,un 1000000000000*un b.1,un 1000000000000*un b.2]) (highQ (un 1000000000000*un b.1) [un 1000000000000*un b.2,un 1000000000000*un b.1,un 1000000000000*un b.2]):=by
  rw [tight_mul (1000000000000,1000000000000) b];unfold aQ.jo;rw [if_pos (okB2 zd h)]
 have hl:=Cq.2 n3;rw [e,un_E1,Rat.one_mul,Rat.one_mul];have g1:lowQ (un b.1) [un b.2,un b.1,un b.2]=un b.1:=by unfold lowQ lowQ lowQ lowQ;grind
 have g2:highQ (un b.1) [un b.2,un b.1,un b.2]=un b.2:=by unfold highQ highQ highQ highQ;grind
 rw [g1,g2];unfold tightE;rw [Xy,Xy,flr_eq,flr_eq,← Rat.intCast_neg,Rat.floor_intCast,Rat.floor_intCast,Int.neg_neg];unfold iH;rw [if_pos h]
end Go.Proofs.lab
namespace Go.Proofs.light
open Go Go.RowKit Go.SW Go.Num Go.Mem Go.Proofs Go.Dec Go.gW
def enc (t:uF) (k:Fin 3):Array Value:=#[.int .i64 (k.1:Int),(t.get k.1).v]
end Go.Proofs.light
namespace Go.Mem
open Go Go.RowKit Go.SW Go.Num Go.Dec
structure Hd (p:Prop):Type where
 out:p
def hd {p:Prop} (h:p):Hd p:=⟨h⟩
end Go.Mem
namespace Go.Proofs.dQ
open Go Go.RowKit Go.SW Go.Num Go.Mem Go.Proofs Go.Dec Go.Proofs.aV Go.gW
theorem qI (n d:Int) (h1: -9223372036854775808≤n) (h2:n≤9223372036854775807) (h3: -9223372036854775808≤d) (h4:d≤9223372036854775807) (w:World) :
  Calls Tryz.prog 63 #[.int .i64 n,.int .i64 d] w (OY w (tH n d)):=by
 unfold tH
 by_cases hd:d=0
 ·subst hd;rw [if_pos rfl];clear h1 h2 h3 h4;go_enter Tryz.func63,Tryz.ntmps63
  go_wp2_with fail
  refine aY rfl rfl bf Tryz.underlying29 rfl zk ?_;exact ⟨rfl,aN⟩
 ·rw [if_neg hd];have H1:=zh (fun W=>OE n d h1 h2 h3 h4 hd W);obtain ⟨l1,l2⟩:=M0 (n:=n) hd;have H2:=zh (fun x W hx=>BQ x ((n:Rat) / (d:Rat)) W hx (Nat.le_trans (gZ zo l1) (Nat.le_trans (AU h1 h2) zo)) (Nat.le_trans (gZ zo l2) (Nat.le_trans (AU h3 h4) zo)));clear l1 l2;generalize (n:Rat) / (d:Rat)=q at *;obtain ⟨⟨⟨s1,s2⟩,k⟩,E⟩:∃ y,wr q=y:=⟨_,rfl⟩;rw [E] at H2 ⊢;replace H2:Hid (∀ x W,Ra W x q→Calls Tryz.prog 100 #[x] W (fun e w'=>e= .returned (.tuple #[.agg #[.string s1,.string s2],.int .i64 k])∧Below W.heap.size W w')):=H2;clear E h1 h2 h3 h4;go_enter Tryz.func63,Tryz.ntmps63
  go_wp2_with fail
  obtain ⟨Te,EW,hz,X1⟩:=EP w #[.string ⟨#[]⟩,.string ⟨#[]⟩] 29;rw [EW];have hk2:=Bt (Below.refl _ _) hz;clear EW hz;refine (H1.out _).mono ?_;rintro e Co ⟨vq,rfl,hb3,hq⟩;replace X1:=X1.bl hb3;have hk5:=Bt hk2 hb3;clear hk2;have NQ:=zh hq;clear hb3 hq;go_wp2_with fail
  refine (H2.out _ _ NQ.out).mono ?_;rintro e Xw ⟨rfl,hb6⟩;replace X1:=X1.bl hb6;replace NQ:=zh (NQ.out.later hb6);have TU:=Bt hk5 hb6;clear hk5;clear hb6;obtain ⟨zq,zm,Fg⟩:=X1.clf;have hres:=X1.out;have Oe:=hres.cell;have NI:=hres.free;go_wp2_with fail
  refine aY rfl rfl bf Tryz.underlying29 rfl zk ?_;exact ⟨rfl,aN⟩
end Go.Proofs.dQ
namespace Go.Proofs.pY
open Go Go.RowKit Go.SW Go.Num Go.Mem Go.Proofs Go.Dec Go.gW
theorem qI (n d:Int) (h1: -9223372036854775808≤n) (h2:n≤9223372036854775807) (h3: -9223372036854775808≤d) (h4:d≤9223372036854775807) (w:World) :
  Calls Tryz.prog 27 #[.int .i64 n,.int .i64 d] w (fun e w'=>e= .returned (tH n d).1.v∧Below w.heap.size w w'):=by
 have H1:=fun W=>dQ.qI n d h1 h2 h3 h4 W;obtain ⟨⟨⟨s1,s2⟩,k⟩,E⟩:∃ y,tH n d=y:=⟨_,rfl⟩;rw [E] at H1 ⊢;refine Fx.door Tryz.func27 rfl (.nil w []) ?_;refine Fx.bq [] 4 29 [] [] fun gV=>?_;refine Fx.fC [] 10 [] [] H1 ?_;refine Fx.bq [] 5 29 [(11,.agg #[.string s1,.string s2]),(12,.int .i64 k)] [] fun iD=>?_;exact Fx.iC 0 gV [4,4,3] [(0,#[.string s1,.string s2]),(1,#[.string s1,.string s2])] (fun W M=>⟨rfl,M.below⟩)
end Go.Proofs.pY
namespace Go.Proofs.mO
open Go Go.RowKit Go.SW Go.Num Go.Mem Go.Proofs Go.gW Go.Fx
def qy (n:Int):Rat:=(n:Rat) / ((100:Int):Rat)
theorem Bl {n:Int} (h:n.natAbs≤12800):Hq 5 (qy n):=⟨n,100,by omega,by decide,Nat.le_trans h zd,rfl⟩
theorem Gm {m n:Int} (h:m≤n*100):qy m≤(n:Rat):=by
 have h1:(m:Rat)≤((n*100:Int):Rat):=Rat.intCast_le_intCast.2 h;rw [Rat.intCast_mul] at h1;have i:(0:Rat)<(((100:Int):Rat))⁻¹:=by decide+kernel
 have o:((100:Int):Rat)*(((100:Int):Rat))⁻¹=1:=by decide+kernel
 have h2:=Rat.mul_le_mul_of_nonneg_right h1 (Rat.le_of_lt i);rw [Rat.mul_assoc,o,Rat.mul_one] at h2;unfold qy;rw [Rat.div_def];exact h2
structure Vm (p a b:Rat):Prop where
 hp:Hq 5 p
 ha:Hq 5 a
 hb:Hq 5 b
 p0:0≤p
 p1:p≤100
 a0: -128≤a
 a1:a≤128
 b0: -128≤b
 b1:b≤128
end Go.Proofs.mO
namespace Go.gW
open Go Go.Num Go.Proofs
section
variable {p q:Rat} {a b:Nat}
theorem add_f (hp:Hq a p) (hq:Hq b q) (h:a+b+1<600):Q9 (Fr.of p) (Fr.of q)=(Fr.of (p+q),0):=by
 unfold Q9 bin wr;rw [xM (hp.ok zo),xM (hq.ok zo)];exact if_pos ((hp.add hq).ok h)
theorem XB (hp:Hq a p) (hq:Hq b q) (h:a+b+1<600):Jt (Fr.of p) (Fr.of q)=(Fr.of (p - q),0):=by
 unfold Jt bin wr;rw [xM (hp.ok zo),xM (hq.ok zo)];exact if_pos ((hp.sub hq).ok h)
theorem mul_f (hp:Hq a p) (hq:Hq b q) (h:a+b<600):MR (Fr.of p) (Fr.of q)=(Fr.of (p*q),0):=by
 unfold MR bin wr;rw [xM (hp.ok zo),xM (hq.ok zo)];exact if_pos ((hp.mul hq).ok h)
theorem div_f (hp:Hq a p) (hq:Hq b q) (h:a+b<600) (h0:q≠0):QH (Fr.of p) (Fr.of q)=(Fr.of (p / q),0):=by
 unfold QH bin wr;rw [xM (hp.ok zo),xM (hq.ok zo)];exact (if_neg h0).trans (if_pos ((hp.div hq).ok h))
theorem Sm (hp:Hq a p) (hq:Hq b q) (h:a<600) (h2:b<600):wh (Fr.of p) (Fr.of q)=(oo p q,0):=by
 unfold wh;rw [xM (hp.ok h),xM (hq.ok h2)]
theorem Ie {x:Rat} {k:Nat} (h:Hq k x) (hk:k<600):rT (Fr.of x)=(oo x 0,0):=by
 unfold rT;rw [xM (h.ok hk)]
theorem uq {x:Rat} {k:Nat} (h:Hq k x) (hk:k<600):q9 (Fr.of x)=0:=by
 unfold q9;rw [xM (h.ok hk)];rfl
theorem Bu:oo p q<0↔p<q:=by
 unfold oo
 by_cases h:p<q
 ·simp [h]
 ·by_cases h2:q<p<;>simp [h,h2]
theorem wN:0<oo p q↔q<p:=by
 unfold oo
 by_cases h:p<q
 ·have:¬ q<p:=fun h2=>by grind
  simp [h,this]
 ·by_cases h2:q<p<;>simp [h,h2]
end
end Go.gW
namespace Go.Proofs.aQ
open Go Go.RowKit Go.SW Go.Num Go.Mem Go.Proofs Go.Dec Go.gW Go.Proofs.matrix Go.Proofs.iq
theorem wZ {n:Int} (h:n.natAbs≤1000000000000000000):Hq 18 (un n):=⟨n,1000000000000,by omega,by decide+kernel,Nat.le_trans h (by decide+kernel),rfl⟩
theorem unB_ok {n:Int} (h:n.natAbs≤1000000000000000000):zF (un n)=true:=(wZ h).ok zo
theorem endB_at (n:Int) (h:n.natAbs≤1000000000000000000) (W:World) (ht:gJ.Pow W) :
  Calls Tryz.prog 44 #[.int .i64 n] W (fun e w'=>e= .returned (.tuple #[.agg #[.string (Fr.of (un n)).n,.string (Fr.of (un n)).d],.int .i64 0])∧Below W.heap.size W w'):=by
 refine yF n _ _ W zo zo ht ?_;unfold tH;rw [if_neg zo]
 show gW.wr (un n)=_
 unfold gW.wr;rw [if_pos (unB_ok h)]
theorem cmpB_at {p q:Rat} (hp:zF p=true) (hq:zF q=true) (W:World) :
  Calls Tryz.prog 40 #[.agg #[.string (Fr.of p).n,.string (Fr.of p).d],.agg #[.string (Fr.of q).n,.string (Fr.of q).d]] W (fun e w'=>e= .returned (.tuple #[.int .i64 (oo p q),.int .i64 0])∧Below W.heap.size W w'):=by
 have:=dD.O1 (Fr.of p) (Fr.of q) W;rw [show wh (Fr.of p) (Fr.of q)=(oo p q,0) by unfold wh;rw [xM hp,xM hq]] at this;exact this
theorem hasB_at {b:Int × Int} {q:Rat} {M:Int} (h:In b q M) (hM:M≤1000000000000000000) (hq:zF q=true) (W:World) (ht:gJ.Pow W) :
  Calls Tryz.prog 23 #[.agg #[.int .i64 b.1,.int .i64 b.2],.agg #[.string (Fr.of q).n,.string (Fr.of q).d]] W (fun e w'=>e= .returned (.tuple #[.bool true,.int .i64 0])∧Below W.heap.size W w'):=by
 have hle:=h.le;obtain ⟨g1,g2,g3,g4⟩:=id h;have n1:b.1.natAbs≤1000000000000000000:=by omega
 have n2:b.2.natAbs≤1000000000000000000:=by omega
 exact Has_ok b.1 b.2 (oo q (un b.1)) (oo q (un b.2)) _ _ _ _ _ _ W (h.jc hM)
  (by unfold oo;rw [if_neg (by grind)];split<;>omega)
  (by unfold oo;split;omega;rw [if_neg (by grind)];omega)
  (fun W2 h2=>endB_at b.1 n1 W2 (ht.later h2)) (fun W2 h2=>endB_at b.2 n2 W2 (ht.later h2))
  (fun W2=>cmpB_at hq (unB_ok n1) W2) (fun W2=>cmpB_at hq (unB_ok n2) W2)
end Go.Proofs.aQ
namespace Go.Proofs.differ
open Go Go.RowKit Go.SW Go.Num Go.Mem Go.Proofs Go.gW Go.Proofs.mO Go.Proofs.iq
def lb (p a b:Rat):light.uF:=⟨Fr.of p,Fr.of a,Fr.of b⟩
structure Wt (q:Rat):Prop where
 h:∃ k,Hq k q∧k<300
 pos:0<q
theorem Ls:Wt 1:=⟨⟨0,Hq.one,by omega⟩,by decide⟩
theorem Wt.q9 {q:Rat} (h:Wt q):gW.q9 (Fr.of q)=0:=by
 obtain ⟨k,h1,h2⟩:=h.h;exact uq h1 zo
theorem Wt.qM {q:Rat} (h:Wt q):∃ c,rT (Fr.of q)=(c,0)∧¬ c≤0:=by
 obtain ⟨k,h1,h2⟩:=h.h;refine ⟨_,Ie h1 zo,?_⟩;have:=wN.2 h.pos;omega
theorem QS {kd:Int} (h1:1≤kd) (h4:kd≤4) {p a b p' a' b' u v:Rat} (h:Vm p a b) (h':Vm p' a' b') (hu:Wt u) (hv:Wt v):vk kd (lb p a b) (lb p' a' b') (Fr.of u) (Fr.of v)=0:=by
 obtain ⟨c,e1,e2⟩:=hu.qM;obtain ⟨d,f1,f2⟩:=hv.qM;unfold vk lb;simp only [uq h.hp zo,uq h.ha zo,uq h.hb zo,uq h'.hp zo,uq h'.ha zo,uq h'.hb zo,hu.q9,hv.q9,e1,f1];rw [if_neg zo,if_neg zo];simp [e2,f2]
theorem N9 {kd:Int} {a b:light.uF} {l c:Fr} (h:vk kd a b l c=0):Ob kd a b l c=aP (0,0) (dstE kd a b l c) lC:=by
 unfold Ob sM;rw [h];rfl
theorem J6 {kd:Int} {a b:light.uF} {l c:Fr} (h:vk kd a b l c=0) {d:Int × Int} (hd:dstE kd a b l c=(d,0)):oh kd a b l c=(d,0):=by
 unfold oh cl;rw [N9 h,hd];exact if_pos rfl
end Go.Proofs.differ
namespace Go.Proofs.verdigrislaw27
open Go Go.RowKit Go.SW Go.Num Go.Mem Go.Proofs Go.gW Go.Proofs.mO Go.Proofs.iq Go.Proofs.iR Go.Proofs.differ Go.Proofs.matrix
theorem MH (W:World) (ht:gJ.Pow W):Calls Tryz.prog 9 #[.int .i64 1,.int .i64 1] W (fun e w'=>e= .returned (.agg #[.string (Fr.of 1).n,.string (Fr.of 1).d])∧Below W.heap.size W w') :=
 nX (show Fr.of (q2 1 1)=⟨(Fr.of 1).n,(Fr.of 1).d⟩ by rw [show q2 1 1=1 by decide+kernel]) (by decide+kernel) W ht
end Go.Proofs.verdigrislaw27
namespace Go.Proofs.differ
open Go Go.RowKit Go.Num Go.Mem Go.Proofs Go.gW Go.Proofs.aQ Go.Proofs.matrix Go.Proofs.lab Go.Proofs.mO Go.Proofs.iq
abbrev E1:Int × Int:=(1000000000000,1000000000000)
theorem zero_f:jE (Fr.of 0)=((0,0),0):=by decide+kernel
theorem one_f:jE (Fr.of 1)=(E1,0):=by decide+kernel
theorem chr_0 (f:Fr):QO ⟨f,Fr.of 0,Fr.of 0⟩=((0,0),0):=by
 show (aP (0,0) (jE (Fr.of 0)) fun p=>aP (0,0) (jE (Fr.of 0)) fun q=>aP (0,0) (power.zG [p,q]) lC)=((0,0),0)
 decide+kernel
theorem dif_0:Br (Fr.of 0) (Fr.of 0)=((0,0),0):=by decide+kernel
theorem wi_100 {v:Rat} (h1: -100≤v) (h2:v≤100):Wi 100000000000000 v :=
 ⟨by rw [show un (-100000000000000)= -100 by decide+kernel];exact h1,by rw [show un 100000000000000=100 by decide+kernel];exact h2⟩
theorem pair_0 {p q:Rat} (hp:Hq 5 p) (hq:Hq 5 q) (h1: -100≤p - q) (h2:p - q≤100):∃ l,In l (p - q) 100000000000000∧Mw (lb p 0 0) (lb q 0 0)=((((0,0),(0,0)),l,(0,0),(0,0)),0):=by
 obtain ⟨l,e,hl⟩:=in_aroundB (xM ((hp.sub hq).ok zo)) (wi_100 h1 h2) zo;refine ⟨l,hl,?_⟩
 have e1:Br (Fr.of p) (Fr.of q)=(l,0):=by
  unfold Br;rw [jJ (XB hp hq zo),jJ e];rfl
 unfold Mw lb;simp only;rw [jJ e1,jJ dif_0,jJ dif_0,jJ (chr_0 _),jJ (chr_0 _)];rfl
theorem hue_0 {p:Rat} (hp:Hq 5 p) (h1: -100≤p) (h2:p≤100):Nq (Fr.of p) (Fr.of 0) (Fr.of 0)=((E1,(0,0)),0):=by
 obtain ⟨l,e,hl⟩:=in_aroundB (xM (hp.ok zo)) (wi_100 h1 h2) zo
 have e2:lab.CV (l,(0,0),(0,0))=(((0,0),E1,(0,0)),0):=by
  have e3:lab.vQ (l,(0,0),(0,0))=0:=by
   have e0:lab.pK l=0:=by
    unfold lab.pK;rw [if_pos (hl.jc zo)]
   show (if lab.pK l≠0 then lab.pK l else if lab.pK (0,0)≠0 then lab.pK (0,0) else lab.pK (0,0))=0
   rw [e0,if_neg zd]
   decide+kernel
  unfold lab.CV;rw [e3,if_neg zd]
  show lab.Io (0,0) (0,0)=_
  decide+kernel
 unfold Nq;rw [jJ e,jJ zero_f,jJ zero_f,e2];rfl
theorem add_0 {b:Int × Int} (h:jc b.1 b.2=true):gU b (0,0)=(b,0):=by
 unfold gU iH;rw [if_pos (okB2 h zd),Int.add_zero,Int.add_zero,if_pos h]
theorem b_one {b:Int × Int} (h:jc b.1 b.2=true):jo b E1=(b,0):=by
 obtain ⟨n1,n2,n3⟩:=lK h
 have e:jo b E1=tightE (lowQ (un b.1*un 1000000000000) [un b.1*un 1000000000000,un b.2*un 1000000000000,un b.2*un 1000000000000]) (highQ (un b.1*un 1000000000000) [un b.1*un 1000000000000,un b.2*un 1000000000000,un b.2*un 1000000000000]):=by
  rw [tight_mul b E1];unfold jo;rw [if_pos (okB2 h zd)]
 have hl:=Cq.2 n3;rw [e,un_E1,Rat.mul_one,Rat.mul_one];have g1:lowQ (un b.1) [un b.1,un b.2,un b.2]=un b.1:=by unfold lowQ lowQ lowQ lowQ;grind
 have g2:highQ (un b.1) [un b.1,un b.2,un b.2]=un b.2:=by unfold highQ highQ highQ highQ;grind
 rw [g1,g2];unfold tightE;rw [Xy,Xy,flr_eq,flr_eq,← Rat.intCast_neg,Rat.floor_intCast,Rat.floor_intCast,Int.neg_neg];unfold iH;rw [if_pos h]
theorem dsR_0 {l e d x y:Int × Int} {D:B5} {wl:Fr} {v m r:Rat} (hl:In l v 100000000000000) (he:jE wl=(e,0)) (hd:jo D.2.1 e=(d,0)) (hm:In d m 1000000000000000000) (hm2:250000000000≤d.1)
  (hx:jo D.2.2.1 E1=(x,0)) (hx2:vg (0,0) x=((0,0),0)) (hy:qY D.2.2.2=(y,0)) (hy2:vg (0,0) y=((0,0),0)) (hr:0≤r) (hv:v / m*(v / m)=r*r) :
  ∃ t,Yw (0,0) (0,0) (0,0) (0,0) l D wl (Fr.of 1)=(t,0)∧In t r 400000000000000:=by
 obtain ⟨q,e1,hq⟩:=in_divB 400000000000000 hl hm.1 hm.2.1 (L:=250000000000) zo hm2 (by have:=hm.2.2.2;omega) zo zo zo;obtain ⟨s,e2,hs,hs0⟩:=in_sqr 160000000000000000 hq zo zo zo;rw [hv] at hs;obtain ⟨t,e3,ht⟩:=in_root 400000000000000 hs hs0 hr zo zo zo zo;have hb:=hs.jc zo
 have e4:Tj s (0,0) (0,0)=(s,0):=by
  unfold Tj;rw [jJ (add_0 hb),jJ (add_0 hb)];rfl
 refine ⟨t,?_,ht⟩;unfold Yw
 rw [jJ (show pU (0,0) (0,0)=((0,0),0) by decide+kernel),jJ (show qY (0,0)=((0,0),0) by decide+kernel),jJ (show qY (0,0)=((0,0),0) by decide+kernel),jJ (show gU (0,0) (0,0)=((0,0),0) by decide+kernel),jJ (show qY (0,0)=((0,0),0) by decide+kernel),jJ (show pU (0,0) (0,0)=((0,0),0) by decide+kernel),jJ (show MV (0,0) (0,0)=((0,0),0) by decide+kernel),
  jJ he,jJ hd,jJ e1,jJ e2,jJ one_f,jJ hx,jJ hx2,jJ (show qY (0,0)=((0,0),0) by decide+kernel),jJ hy,jJ hy2,jJ e4,jJ e3]
 rfl
theorem pl_0:plE (0,0) (0,0)=((((0,0),(0,0)),E1,E1,E1),0):=by decide+kernel
theorem md_0 {p q:Rat} (hp:Hq 5 p) (hq:Hq 5 q) (h1: -100≤p) (h2:p≤100) (h3: -100≤q) (h4:q≤100):mdE (0,0) (0,0) (lb p 0 0) (lb q 0 0)=((((0,0),(0,0)),E1,E1,E1),0):=by
 unfold mdE lb;simp only [hue_0 hp h1 h2,hue_0 hq h3 h4]
 decide+kernel
theorem txR_0 {p:Rat} (hp:Hq 5 p) (h1: -100≤p) (h2:p≤100) (l:Int × Int):Zw l (0,0) (0,0) (lb p 0 0)=((((0,0),(0,0)),l,(638000000000,638000000000),(638000000000,638000000000)),0):=by
 unfold Zw lb;simp only [hue_0 hp h1 h2]
 kernel_rfl
end Go.Proofs.differ
namespace Go.Proofs.differ
open Go Go.RowKit Go.Num Go.Mem Go.Proofs Go.gW Go.Proofs.aQ Go.Proofs.matrix Go.Proofs.lab Go.Proofs.mO Go.Proofs.iq
theorem un_q:un 250000000000=1 / 4:=by decide+kernel
theorem tx_0 {p:Rat} (hp:Hq 5 p) (h1:0≤p) (h2:p≤100):∃ l m,txE (0,0) (0,0) (lb p 0 0)=((((0,0),(0,0)),l,(638000000000,638000000000),(638000000000,638000000000)),0)∧In l m 1000000000000000000∧250000000000≤l.1∧51 / 100≤m∧m≤149 / 100:=by
 have h16:Hq 5 (16:Rat):=⟨16,1,by omega,by decide,by decide,by decide+kernel⟩;have h3:(-100:Rat)≤p:=by grind
 have R:=txR_0 hp h3 h2;have e1:tH 16 1=(Fr.of 16,0):=by decide+kernel
 have e2:=Sm hp h16 zo zo
 by_cases hc:p<16
 ·refine ⟨(511000000000,511000000000),511 / 1000,?_,⟨by decide+kernel,by decide+kernel,by decide,by decide⟩,by decide,by decide+kernel,by decide+kernel⟩;unfold txE;rw [jJ e1]
  show (aP kW (wh (Fr.of p) (Fr.of 16)) _)=_
  rw [jJ e2,if_pos (Bu.2 hc)];exact R _
 ·have k1:Hq 7 ((40975:Rat) / 1000000):=⟨40975,1000000,by omega,by decide,by decide,by decide+kernel⟩;have k2:Hq 7 ((1765:Rat) / 100000):=⟨1765,100000,by omega,by decide,by decide,by decide+kernel⟩;have e3:dD.JL ⟨#[48,46,48,52,48,57,55,53]⟩=(Fr.of ((40975:Rat) / 1000000),0):=by decide+kernel
  have e4:dD.JL ⟨#[48,46,48,49,55,54,53]⟩=(Fr.of ((1765:Rat) / 100000),0):=by decide+kernel
  have e5:tH 1 1=(Fr.of 1,0):=by decide+kernel
  have hc':16≤p:=Rat.not_lt.1 hc;have a1:=k1.mul hp;have a2:=k2.mul hp;have a3:=Hq.one.add a2;have hb:0<1+(1765:Rat) / 100000*p:=by grind
  have hb0:1+(1765:Rat) / 100000*p≠0:=fun e=>by rw [e] at hb;exact absurd hb Rat.lt_irrefl
  have a4:=a1.div a3;obtain ⟨m,em⟩:∃ m,(40975:Rat) / 1000000*p / (1+(1765:Rat) / 100000*p)=m:=⟨_,rfl⟩;have em2:m*(1+(1765:Rat) / 100000*p)=(40975:Rat) / 1000000*p:=by rw [← em];exact Rat.div_mul_cancel hb0
  have l1:51 / 100≤m:=Rat.not_lt.1 fun h=>by
   have:=Rat.mul_lt_mul_of_pos_right h hb;rw [em2] at this
   grind
  have l2:m≤149 / 100:=Rat.not_lt.1 fun h=>by
   have:=Rat.mul_lt_mul_of_pos_right h hb;rw [em2] at this
   grind
  rw [em] at a4;have hrd:=xM (a4.ok zo);obtain ⟨l,e6,hl⟩:=in_aroundB hrd (wi_100 (by grind) (by grind)) zo;refine ⟨l,m,?_,hl.mono zo,around_lo hrd e6 (by rw [un_q];grind),l1,l2⟩;unfold txE;rw [jJ e1]
  show (aP kW (wh (Fr.of p) (Fr.of 16)) _)=_
  rw [jJ e2,if_neg (fun h=>hc (Bu.1 h)),jJ e3]
  show (aP kW (MR _ (Fr.of p)) _)=_
  rw [jJ (mul_f k1 hp zo),jJ e4]
  show (aP kW (MR _ (Fr.of p)) _)=_
  rw [jJ (mul_f k2 hp zo),jJ e5,jJ (add_f Hq.one a2 zo),jJ (div_f a1 a3 zo hb0),em,jJ e6];exact R _
theorem dst_24 {k:Int} (hk:k=2∨k=4) {p q u r:Rat} {j:Nat} (hp:Hq 5 p) (hq:Hq 5 q) (p0:0≤p) (p1:p≤100) (q0:0≤q) (q1:q≤100) (hu:Hq j u) (hj:j<600) (u1:1 / 4≤u) (u2:u≤100) (hr:0≤r) (hv:(p - q) / u*((p - q) / u)=r*r) :
  ∃ t,dstE k (lb p 0 0) (lb q 0 0) (Fr.of u) (Fr.of 1)=(t,0)∧In t r 400000000000000:=by
 obtain ⟨l,hl,e0⟩:=pair_0 hp hq (by grind) (by grind);have hrd:=xM (hu.ok hj);obtain ⟨e,e1,he⟩:=in_aroundB hrd (wi_100 (by grind) u2) zo;have lo:=around_lo hrd e1 (z:=250000000000) (by rw [un_q];exact u1);obtain ⟨t,e2,ht⟩:=dsR_0 (D:=(((0,0),(0,0)),E1,E1,E1)) hl e1 (one_mul_b (he.jc zo)) (he.mono zo) lo (x:=E1) (y:=E1) (by decide+kernel) (by decide+kernel) (by decide+kernel) (by decide+kernel) hr hv;refine ⟨t,?_,ht⟩;unfold dstE;rw [jJ e0]
 rcases hk with rfl|rfl
 ·rw [if_neg zd,if_pos rfl,jJ pl_0];exact e2
 ·rw [if_neg zd,if_neg zd,if_neg zd,jJ (md_0 hp hq (by grind) p1 (by grind) q1)];exact e2
theorem dst_3 {p q:Rat} (hp:Hq 5 p) (hq:Hq 5 q) (p0:0≤p) (p1:p≤100) (q0:0≤q) (q1:q≤100):∃ m:Rat,51 / 100≤m∧m≤149 / 100∧∀ r:Rat,0≤r→(p - q) / m*((p - q) / m)=r*r →
  ∃ t,dstE 3 (lb p 0 0) (lb q 0 0) (Fr.of 1) (Fr.of 1)=(t,0)∧In t r 400000000000000:=by
 obtain ⟨l,hl,e0⟩:=pair_0 hp hq (by grind) (by grind);obtain ⟨g,m,e1,hg,g1,m1,m2⟩:=tx_0 hp p0 p1;refine ⟨m,m1,m2,fun r hr hv=>?_⟩;obtain ⟨t,e2,ht⟩:=dsR_0 (D:=(((0,0),(0,0)),g,(638000000000,638000000000),(638000000000,638000000000))) hl one_f (b_one (hg.jc zo)) hg g1 (x:=(638000000000,638000000000)) (y:=(407044000000,407044000000)) (show jo (638000000000,638000000000) E1=((638000000000,638000000000),0) by decide+kernel) (by decide+kernel) (show qY (638000000000,638000000000)=((407044000000,407044000000),0) by decide+kernel) (by decide+kernel) hr hv;refine ⟨t,?_,ht⟩;unfold dstE;rw [jJ e0,if_neg zd,if_neg zd,if_pos rfl,jJ e1];exact e2
end Go.Proofs.differ
namespace Go.Proofs.verdigrislaw27
open Go Go.RowKit Go.SW Go.Num Go.Mem Go.Proofs Go.Dec Go.gW Go.Fx Go.Proofs.iR
theorem greys_walk {la lb n d p q b1 b2 c1 c2 e1 e2 f1 f2 g1 g2:Int} {x1 x2 x3 x4 x5 x6 y1 y2 y3 y4 y5 y6 w1 w2 s1 s2 o1 o2 v1 v2 r1 r2 a1 a2 t1 t2 m1 m2 l1 l2 z1 z2 h1 h2:ByteArray} (hp:Int.tmod la 10001=p) (hq:Int.tmod lb 10001=q) (hl:0≤la∧la≤65535) (hl2:0≤lb∧lb≤65535) (hp0:0≤p∧p≤10000) (hq0:0≤q∧q≤10000) (k1:f1≤e2) (k2:e1≤g2)
  (O1:Hd (∀ W,gJ.Pow W→whole.Er W→Calls Tryz.prog 9 #[.int .i64 1,.int .i64 1] W (fun e w'=>e= .returned (.agg #[.string w1,.string w2])∧Below W.heap.size W w')))
  (T1:Hd (∀ W,gJ.Pow W→whole.Er W→Calls Tryz.prog 19 #[.int .i64 p,.int .i64 0,.int .i64 0,.int .i64 100] W (fun e w'=>e= .returned (.agg #[.string x1,.string x2,.string x3,.string x4,.string x5,.string x6])∧Below W.heap.size W w')))
  (T2:Hd (∀ W,gJ.Pow W→whole.Er W→Calls Tryz.prog 19 #[.int .i64 q,.int .i64 0,.int .i64 0,.int .i64 100] W (fun e w'=>e= .returned (.agg #[.string y1,.string y2,.string y3,.string y4,.string y5,.string y6])∧Below W.heap.size W w')))
  (SH:Hd (∀ W,gJ.Pow W→whole.Er W→Calls Tryz.prog 13 #[.agg #[.int .i16 n,.int .u8 d]] W (fun e w'=>e= .returned (.agg #[.string s1,.string s2])∧Below W.heap.size W w')))
  (O2:Hd (∀ W,gJ.Pow W→whole.Er W→Calls Tryz.prog 9 #[.int .i64 1,.int .i64 4] W (fun e w'=>e= .returned (.agg #[.string o1,.string o2])∧Below W.heap.size W w')))
  (AD:Hd (∀ W,gJ.Pow W→whole.Er W→Calls Tryz.prog 12 #[.agg #[.string s1,.string s2],.agg #[.string o1,.string o2]] W (fun e w'=>e= .returned (.tuple #[.agg #[.string v1,.string v2],.int .i64 0])∧Below W.heap.size W w')))
  (SU:Hd (∀ W,gJ.Pow W→whole.Er W→Calls Tryz.prog 17 #[.agg #[.string x1,.string x2],.agg #[.string y1,.string y2]] W (fun e w'=>e= .returned (.tuple #[.agg #[.string r1,.string r2],.int .i64 0])∧Below W.heap.size W w')))
  (AB:Hd (∀ W,gJ.Pow W→whole.Er W→Calls Tryz.prog 21 #[.agg #[.string r1,.string r2]] W (fun e w'=>e= .returned (.tuple #[.agg #[.string a1,.string a2],.int .i64 0])∧Below W.heap.size W w')))
  (DI:Hd (∀ W,gJ.Pow W→whole.Er W→Calls Tryz.prog 22 #[.agg #[.string a1,.string a2],.agg #[.string v1,.string v2]] W (fun e w'=>e= .returned (.tuple #[.agg #[.string t1,.string t2],.int .i64 0])∧Below W.heap.size W w')))
  (D2:Hd (∀ W,gJ.Pow W→whole.Er W→Calls Tryz.prog 11 #[.int .i64 2,.agg #[.string x1,.string x2,.string x3,.string x4,.string x5,.string x6],.agg #[.string y1,.string y2,.string y3,.string y4,.string y5,.string y6],.agg #[.string v1,.string v2],.agg #[.string w1,.string w2]] W (fun e w'=>e= .returned (.tuple #[.agg #[.int .i64 b1,.int .i64 b2],.int .i64 0])∧Below W.heap.size W w')))
  (H2:Hd (∀ W,gJ.Pow W→whole.Er W→Calls Tryz.prog 23 #[.agg #[.int .i64 b1,.int .i64 b2],.agg #[.string t1,.string t2]] W (fun e w'=>e= .returned (.tuple #[.bool true,.int .i64 0])∧Below W.heap.size W w')))
  (D4:Hd (∀ W,gJ.Pow W→whole.Er W→Calls Tryz.prog 11 #[.int .i64 4,.agg #[.string x1,.string x2,.string x3,.string x4,.string x5,.string x6],.agg #[.string y1,.string y2,.string y3,.string y4,.string y5,.string y6],.agg #[.string v1,.string v2],.agg #[.string w1,.string w2]] W (fun e w'=>e= .returned (.tuple #[.agg #[.int .i64 c1,.int .i64 c2],.int .i64 0])∧Below W.heap.size W w')))
  (H4:Hd (∀ W,gJ.Pow W→whole.Er W→Calls Tryz.prog 23 #[.agg #[.int .i64 c1,.int .i64 c2],.agg #[.string t1,.string t2]] W (fun e w'=>e= .returned (.tuple #[.bool true,.int .i64 0])∧Below W.heap.size W w')))
  (D3:Hd (∀ W,gJ.Pow W→whole.Er W→Calls Tryz.prog 11 #[.int .i64 3,.agg #[.string x1,.string x2,.string x3,.string x4,.string x5,.string x6],.agg #[.string y1,.string y2,.string y3,.string y4,.string y5,.string y6],.agg #[.string w1,.string w2],.agg #[.string w1,.string w2]] W (fun e w'=>e= .returned (.tuple #[.agg #[.int .i64 e1,.int .i64 e2],.int .i64 0])∧Below W.heap.size W w')))
  (O3:Hd (∀ W,gJ.Pow W→whole.Er W→Calls Tryz.prog 9 #[.int .i64 149,.int .i64 100] W (fun e w'=>e= .returned (.agg #[.string m1,.string m2])∧Below W.heap.size W w')))
  (DL:Hd (∀ W,gJ.Pow W→whole.Er W→Calls Tryz.prog 22 #[.agg #[.string a1,.string a2],.agg #[.string m1,.string m2]] W (fun e w'=>e= .returned (.tuple #[.agg #[.string l1,.string l2],.int .i64 0])∧Below W.heap.size W w')))
  (O4:Hd (∀ W,gJ.Pow W→whole.Er W→Calls Tryz.prog 9 #[.int .i64 51,.int .i64 100] W (fun e w'=>e= .returned (.agg #[.string z1,.string z2])∧Below W.heap.size W w')))
  (DH:Hd (∀ W,gJ.Pow W→whole.Er W→Calls Tryz.prog 22 #[.agg #[.string a1,.string a2],.agg #[.string z1,.string z2]] W (fun e w'=>e= .returned (.tuple #[.agg #[.string h1,.string h2],.int .i64 0])∧Below W.heap.size W w')))
  (AL:Hd (∀ W,gJ.Pow W→whole.Er W→Calls Tryz.prog 24 #[.agg #[.string l1,.string l2]] W (fun e w'=>e= .returned (.tuple #[.agg #[.int .i64 f1,.int .i64 f2],.int .i64 0])∧Below W.heap.size W w')))
  (AH:Hd (∀ W,gJ.Pow W→whole.Er W→Calls Tryz.prog 24 #[.agg #[.string h1,.string h2]] W (fun e w'=>e= .returned (.tuple #[.agg #[.int .i64 g1,.int .i64 g2],.int .i64 0])∧Below W.heap.size W w')))
  (w:World) (ht:gJ.Pow w) (he:whole.Er w) :
  Calls Tryz.prog 7 #[.int .u16 la,.int .u16 lb,.agg #[.int .i16 n,.int .u8 d]] w (fun e w'=>e= .returned (.bool true)∧Below w.heap.size w w'):=by
 have hp1:Value.int .i64 ((IntKind.i64.wrap la).tmod 10001)= .int .i64 p:=by rw [show IntKind.i64.wrap la=la by rw [IntKind.wrap_i64];omega,hp]
 have hq1:Value.int .i64 ((IntKind.i64.wrap lb).tmod 10001)= .int .i64 q:=by rw [show IntKind.i64.wrap lb=lb by rw [IntKind.wrap_i64];omega,hq]
 refine Fx.door Tryz.func7 rfl (.nil w []) ?_;refine Fx.new [] 5 #[.int .i16 n,.int .u8 d] 41 [] [] fun gV=>?_;refine Fx.call [] 29 [] [] (fun W M=>wV _ (ht.later M.below) (he.later M.below)) ?_;refine Fx.call [2] 31 [] [] (fun W M=>O1.out _ (ht.later M.below) (he.later M.below)) ?_;refine Fx.bq [] 7 29 [] [] fun iD=>?_;refine Fx.part 8 [4] [(34,.int .i64 (Int.tmod (IntKind.i64.wrap la) 10001))] [(1,#[.string w1,.string w2])] ?_;refine Fx.uO (.int .i64 p) (hp1) ?_;refine Fx.call [] 35 [] [] (fun W M=>T1.out _ (ht.later M.below) (he.later M.below)) ?_;refine Fx.part 3 [] [(38,.int .i64 (Int.tmod (IntKind.i64.wrap lb) 10001))] [] ?_;refine Fx.uO (.int .i64 q) (hq1) ?_;refine Fx.call [] 39 [] [] (fun W M=>T2.out _ (ht.later M.below) (he.later M.below)) ?_;refine Fx.bq [] 8 32 [] [] fun iL=>?_;refine Fx.bq [] 9 32 [] [] fun vo=>?_
 refine Fx.call [5,6,3] 42 [] [(2,#[.string x1,.string x2,.string x3,.string x4,.string x5,.string x6]),(3,#[.string y1,.string y2,.string y3,.string y4,.string y5,.string y6])] (fun W M=>SH.out _ (ht.later M.below) (he.later M.below)) ?_;refine Fx.call [] 43 [] [] (fun W M=>O2.out _ (ht.later M.below) (he.later M.below)) ?_;refine Fx.call [] 44 [] [] (fun W M=>AD.out _ (ht.later M.below) (he.later M.below)) ?_;refine Fx.bq [] 10 29 [(45,.agg #[.string v1,.string v2]),(46,.int .i64 0)] [] fun rz=>?_;refine Fx.call [7,5,6] 52 [(11,.int .i64 0)] [(4,#[.string v1,.string v2])] (fun W M=>SU.out _ (ht.later M.below) (he.later M.below)) ?_;refine Fx.bq [] 12 29 [(53,.agg #[.string r1,.string r2]),(54,.int .i64 0)] [] fun Ja=>?_;refine Fx.call [8,8] 57 [(13,.int .i64 0)] [(5,#[.string r1,.string r2])] (fun W M=>AB.out _ (ht.later M.below) (he.later M.below)) ?_
 refine Fx.call [8,8,7] 63 [(14,.int .i64 0)] [(5,#[.string a1,.string a2])] (fun W M=>DI.out _ (ht.later M.below) (he.later M.below)) ?_;refine Fx.bq [] 15 29 [(64,.agg #[.string t1,.string t2]),(65,.int .i64 0)] [] fun Aq=>?_;refine Fx.call [9,2,1,5,6,7,4] 90 [(80,.agg #[.int .i64 2,.int .i64 4]),(81,.int .i64 0)] [(6,#[.string t1,.string t2])] (fun W M=>D2.out _ (ht.later M.below) (he.later M.below)) ?_;refine Fx.bq [] 19 35 [(91,.agg #[.int .i64 b1,.int .i64 b2]),(92,.int .i64 0)] [] fun Le=>?_;refine Fx.call [10,10,9] 96 [(20,.int .i64 0)] [(7,#[.int .i64 b1,.int .i64 b2])] (fun W M=>H2.out _ (ht.later M.below) (he.later M.below)) ?_;refine Fx.call [2,1,5,6,7,4] 90 [(81,.int .i64 1)] [] (fun W M=>D4.out _ (ht.later M.below) (he.later M.below)) ?_;refine Fx.bq [] 19 35 [(91,.agg #[.int .i64 c1,.int .i64 c2]),(92,.int .i64 0)] [] fun YI=>?_
 refine Fx.call [11,11,9] 96 [(20,.int .i64 0)] [(8,#[.int .i64 c1,.int .i64 c2])] (fun W M=>H4.out _ (ht.later M.below) (he.later M.below)) ?_;refine Fx.call [2,2,5,6,4,4] 115 [(81,.int .i64 2)] [] (fun W M=>D3.out _ (ht.later M.below) (he.later M.below)) ?_;refine Fx.bq [] 23 35 [(116,.agg #[.int .i64 e1,.int .i64 e2]),(117,.int .i64 0)] [] fun Ov=>?_;refine Fx.draw [12] [0,1,2,3,4,5,6,7,5008] [] [(11,.int .i64 0)] [(9,#[.int .i64 e1,.int .i64 e2])] ?_;refine Fx.call [8] 120 [(119,.agg #[.string a1,.string a2])] [] (fun W M=>O3.out _ (ht.later M.below) (he.later M.below)) ?_;refine Fx.call [] 121 [] [] (fun W M=>DL.out _ (ht.later M.below) (he.later M.below)) ?_;refine Fx.cK [] 24 29 [(122,.agg #[.string l1,.string l2]),(123,.int .i64 0)] [] fun Kk=>?_;refine Fx.draw [13] [0,1,2,3,4,5,6,7,5008] [] [(13,.int .i64 0)] [(10,#[.string l1,.string l2])] ?_
 refine Fx.call [8] 126 [(125,.agg #[.string a1,.string a2])] [] (fun W M=>O4.out _ (ht.later M.below) (he.later M.below)) ?_;refine Fx.call [] 127 [] [] (fun W M=>DH.out _ (ht.later M.below) (he.later M.below)) ?_;refine Fx.cK [] 25 29 [(128,.agg #[.string h1,.string h2]),(129,.int .i64 0)] [] fun Kj=>?_;refine Fx.call [14,13] 132 [(14,.int .i64 0)] [(11,#[.string h1,.string h2])] (fun W M=>AL.out _ (ht.later M.below) (he.later M.below)) ?_;refine Fx.bq [] 26 35 [(133,.agg #[.int .i64 f1,.int .i64 f2]),(134,.int .i64 0)] [] fun Gy=>?_;refine Fx.call [15,14] 137 [(16,.int .i64 0)] [(12,#[.int .i64 f1,.int .i64 f2])] (fun W M=>AH.out _ (ht.later M.below) (he.later M.below)) ?_;refine Fx.bq [] 27 35 [(138,.agg #[.int .i64 g1,.int .i64 g2]),(139,.int .i64 0)] [] fun UM=>?_
 refine Fx.part 30 [16,12,15] [(163,.bool (decide (f1≤e2))),(158,.bool true)] [(13,#[.int .i64 g1,.int .i64 g2])] ?_;refine Fx.uO (.bool true) (by rw [decide_eq_true k1]) ?_;refine Fx.part 7 [12,16] [(170,.bool (decide (e1≤g2))),(165,.bool true)] [] ?_;refine Fx.uO (.bool true) (by rw [decide_eq_true k2]) ?_;exact Fx.jU [] [] (fun W M=>⟨rfl,M.below⟩)
end Go.Proofs.verdigrislaw27
namespace Go.Proofs.dD
open Go Go.RowKit Go.SW Go.Num Go.Mem Go.Proofs Go.Dec Go.gW
def absQ (q:Rat):Rat:=⟨(q.num.natAbs:Int),q.den,q.den_nz,by rw [Int.natAbs_natCast];exact q.reduced⟩
theorem absQ_nonneg (q:Rat):0≤absQ q:=by
 rw [← Rat.num_nonneg];exact Int.natCast_nonneg _
theorem absQ_ok {q:Rat} (h:zF q=true):zF (absQ q)=true:=by
 unfold zF at *
 show (kg (absQ q).num.natAbs&&kg q.den)=true
 rw [show (absQ q).num.natAbs=q.num.natAbs from Int.natAbs_natCast _];exact h
theorem abs_some (s t:ByteArray) (q:Rat) (h:rd ⟨s,t⟩=some q) (w:World) (ht:gJ.Pow w) :
  Calls Tryz.prog 21 #[.agg #[.string s,.string t]] w (fun e w'=>e= .returned (Fr.res (wr (absQ q)))∧Below w.heap.size w w'):=by
 have HR:=zh (fI h);have hk:=absQ_ok (nI h).2;have KQ:=zh ((kG hk).mono (show 67≤1000000 by omega));have HT:=zh ht;have HD:Hid (q.den=(absQ q).den):=zh rfl;have HN:Hid (iM q.num.natAbs false=(absQ q).num):=zh rfl;obtain ⟨r,Er⟩:∃ r,absQ q=r:=⟨_,rfl⟩;rw [Er] at KQ HD HN ⊢
 have E0:wr r=(Fr.of r,0):=by
  unfold wr;rw [if_pos (Er ▸ hk)]
 obtain ⟨⟨⟨s1,t1⟩,e⟩,Ex⟩:∃ x,wr r=x:=⟨_,rfl⟩;have HX:=zh Ex;rw [Ex,jV];clear h hk ht Er E0 Ex;go_enter Tryz.func21,Tryz.ntmps21
 go_wp2_with fail
 refine (HR.out _).mono ?_;rintro e v1 ⟨v,rfl,hc1,hv⟩;obtain ⟨qZ,Fe,ru,sW,IK,uw,rfl,Hq,mI⟩:=hv;replace Hq:=zh Hq;replace mI:=zh mI;have BR:=aC.later (aC.nS _ _ _ _) hc1;have bT:=BR.cell;have bS:=BR.free;have jd:=BR.lt;go_wp2_with fail
 refine aT [(.pure,0),(.pure,1),(.read,2),(.pure,4),(.read,5),(.ext,3),(.pure,6),(.ext,7),(.pure,8),(.pure,9),(.fin,10),(.fin,11)] zk zk zR zP ?_;refine zV ?_;refine aW rfl rfl (fun w2 hb2 J hJ=>?_);go_simp;replace mI:=zh (bC.carry mI.out aR hb2);replace BR:aC _ (w.heap.size+1) _ _:=aC.later bf hb2;(try simp only [List.setIfInBounds_toArray,List.set_cons_zero,List.set_cons_succ] at BR);replace bT:=BR.cell;replace bS:=BR.free;replace jd:=BR.lt;refine ((dU _ q.num.natAbs false _ aR).mono (by rw [HN.out];exact fun _ _ h=>h)).mono ?_;rintro e v2 ⟨v,rfl,hc2,hv⟩;obtain ⟨tC,IL,uz,rfl,Hs⟩:=hv;replace Hs:=zh Hs;replace mI:=zh (bC.later mI.out hc2);replace BR:=aC.later (BR) hc2;replace bT:=BR.cell;replace bS:=BR.free;replace jd:=BR.lt;refine hJ _ _ hc2 ?_;clear hJ J;refine zV ?_;refine aW rfl rfl (fun w3 hb3 J hJ=>?_);go_simp
 replace BR:=aC.later (BR) hb3;replace bT:=BR.cell;replace bS:=BR.free;replace jd:=BR.lt;refine ((iG _ r _ (eG.mk r.num.natAbs q.den aR aR rfl HD.out rfl) KQ.out (HT.out.later aN)).mono (by rw [HX.out,jV];exact fun _ _ h=>h)).mono ?_;rintro e v3 ⟨rfl,hc3⟩;replace BR:=aC.later (BR) hc3;replace bT:=BR.cell;replace bS:=BR.free;replace jd:=BR.lt;refine hJ _ _ hc3 ?_;clear hJ J;refine zV ?_;refine dG [_,_] rfl (fun w9 zn=>?_);replace BR:=aC.later (BR) zn;replace bT:=BR.cell;replace bS:=BR.free;replace jd:=BR.lt;go_wp2_with fail
 refine aY rfl rfl bf Tryz.underlying29 rfl zk ?_;exact ⟨rfl,aN⟩
end Go.Proofs.dD
namespace Go.Proofs.pY
open Go Go.RowKit Go.SW Go.Num Go.Mem Go.Proofs Go.Dec Go.gW
theorem share_q {n d:Int} (h0:0≤n) (h1:n≤d) (hd:0<d) (h2:d≤1000):∃ q:Rat,(tH n d).1=Fr.of q∧0≤q∧q≤1∧Hq 10 q:=by
 have ht:(1000:Nat)≤jN 10:=by decide
 have hq:Hq 10 ((n:Rat) / (d:Rat)):=⟨n,d,hd,by omega,by omega,rfl⟩;have hd':(0:Rat)<(d:Rat):=Rat.intCast_pos.2 hd;have hn':(0:Rat)≤(n:Rat):=Rat.intCast_nonneg.2 h0;have hnd:(n:Rat)≤(d:Rat):=Rat.intCast_le_intCast.2 h1;refine ⟨(n:Rat) / (d:Rat),?_,?_,?_,hq⟩
 ·unfold tH wr;rw [if_neg zo,if_pos (hq.ok zo)]
 ·rw [Rat.div_def];exact Rat.mul_nonneg hn' (Rat.le_of_lt (Rat.inv_pos.2 hd'))
 ·rw [Rat.div_def];have h:=Rat.mul_le_mul_of_nonneg_right hnd (Rat.le_of_lt (Rat.inv_pos.2 hd'))
  rwa [Rat.mul_inv_cancel _ (fun e=>by rw [e] at hd';exact absurd hd' zd)] at h
theorem Share_ok (a b:Int) (ha: -32768≤a∧a≤32767) (hb:0≤b∧b≤255):∃ q:Rat,0≤q∧q≤1∧Hq 10 q∧∀ w:World,
  Calls Tryz.prog 13 #[.agg #[.int .i16 a,.int .u8 b]] w (fun e w'=>e= .returned (Fr.of q).v∧Below w.heap.size w w'):=by
 have W0:∀ z:Int, -32768≤z∧z≤65535→IntKind.i64.wrap z=z:=fun z h=>by unfold IntKind.wrap;simp [IntKind.bits,IntKind.signed];split<;>omega
 have hz:1+b+1≠0:=by omega
 have e1:=Int.tmod_lt_of_pos a (show 0<1+b+1 by omega);have e2:=Int.lt_tmod_of_pos a (show 0<1+b+1 by omega);obtain ⟨t,Et⟩:∃ t,a.tmod (1+b+1)=t:=⟨_,rfl⟩;rw [Et] at e1 e2;have wa:=W0 a zo;have wb:=W0 b zo;have wb1:=W0 (1+b) zo;have wb2:=W0 (1+b+1) zo;have wt:=W0 t zo;have wn:=W0 (-t) zo;obtain ⟨q,eq,q0,q1,qh⟩:=share_q (n:=if t<0 then -t else t) (d:=1+b) (by split<;>omega) (by split<;>omega) zo zo;refine ⟨q,q0,q1,qh,fun w=>?_⟩;have H1:=zh (fun W=>qI (if t<0 then -t else t) (1+b) (by split<;>omega) (by split<;>omega) zo zo W);rw [eq] at H1;obtain ⟨⟨s1,s2⟩,E⟩:∃ y,Fr.of q=y:=⟨_,rfl⟩;rw [E] at H1 ⊢;unfold Fr.v at H1;clear E eq q0 q1 qh W0 ha hb e1 e2
 by_cases ht:t<0
 ·rw [if_pos ht] at H1;go_enter Tryz.func13,Tryz.ntmps13
  go_wp2_with fail
  obtain ⟨Te,EW,hz, -, X2⟩:=Sz w #[.int .i16 a,.int .u8 b] 41 #[.string ⟨#[]⟩,.string ⟨#[]⟩] 29;rw [EW];have hk2:=Bt (Below.refl _ _) hz;clear EW hz;refine (H1.out _).mono ?_;rintro e Co ⟨rfl,hb3⟩;replace X2:=X2.bl hb3;have hk5:=Bt hk2 hb3;clear hk2;clear hb3;obtain ⟨Ld,Lb,Wh⟩:=X2.clf;have hres:=X2.out;have Oe:=hres.cell;have NI:=hres.free;go_wp2_with fail
  refine iT rfl rfl bf Tryz.underlying29 rfl zk ?_;exact ⟨rfl,aN⟩
 ·rw [if_neg ht] at H1;go_enter Tryz.func13,Tryz.ntmps13
  go_wp2_with fail
  obtain ⟨Te,EW,hz, -, X2⟩:=Sz w #[.int .i16 a,.int .u8 b] 41 #[.string ⟨#[]⟩,.string ⟨#[]⟩] 29;rw [EW];have hk2:=Bt (Below.refl _ _) hz;clear EW hz;refine (H1.out _).mono ?_;rintro e Co ⟨rfl,hb3⟩;replace X2:=X2.bl hb3;have hk5:=Bt hk2 hb3;clear hk2;clear hb3;obtain ⟨Ld,Lb,Wh⟩:=X2.clf;have hres:=X2.out;have Oe:=hres.cell;have NI:=hres.free;go_wp2_with fail
  refine iT rfl rfl bf Tryz.underlying29 rfl zk ?_;exact ⟨rfl,aN⟩
end Go.Proofs.pY
namespace Go.Proofs.dD
open Go Go.Num Go.gW
theorem absQ_two (q:Rat):(absQ q=q∧0≤q)∨(absQ q= -q∧q≤0):=by
 rcases Int.le_total 0 q.num with h|h
 ·refine .inl ⟨?_,Rat.num_nonneg.1 h⟩;refine Rat.ext ?_ rfl
  show ((q.num.natAbs:Int))=q.num
  omega
 ·refine .inr ⟨?_,?_⟩
  ·refine Rat.ext ?_ rfl
   show ((q.num.natAbs:Int))= -q.num
   omega
  ·have h2:0≤ -q:=Rat.num_nonneg.1 (show 0≤ -q.num by omega)
   grind
theorem absQ_sq (q:Rat):absQ q*absQ q=q*q:=by
 rcases absQ_two q with ⟨h, -⟩|⟨h, -⟩<;>rw [h]
 grind
end Go.Proofs.dD
namespace Go.Proofs.verdigrislaw27
open Go Go.RowKit Go.Num Go.Mem Go.Proofs Go.gW Go.Proofs.aQ Go.Proofs.matrix Go.Proofs.mO Go.Proofs.iq Go.Proofs.iR Go.Proofs.differ Go.Proofs.dD
theorem hq_abs {a:Nat} {q:Rat} (h:Hq a q):Hq a (absQ q):=by
 rcases absQ_two q with ⟨e, -⟩|⟨e, -⟩
 ·rw [e];exact h
 ·rw [e];exact h.neg
theorem cAbsQ {q:Rat} {k:Nat} (h:Hq k q) (hk:k<600) (W:World) (ht:gJ.Pow W):Calls Tryz.prog 21 #[.agg #[.string (Fr.of q).n,.string (Fr.of q).d]] W (fun e w'=>e= .returned (.tuple #[.agg #[.string (Fr.of (absQ q)).n,.string (Fr.of (absQ q)).d],.int .i64 0])∧Below W.heap.size W w'):=by
 have h1:=abs_some (Fr.of q).n (Fr.of q).d q (xM (h.ok hk)) W ht;unfold wr at h1;rw [if_pos ((hq_abs h).ok hk)] at h1;exact h1
theorem cTri {n:Int} (h0:0≤n) (h1:n≤10000) (W:World) (ht:gJ.Pow W):Calls Tryz.prog 19 #[.int .i64 n,.int .i64 0,.int .i64 0,.int .i64 100] W (fun e w'=>e= .returned (.agg #[.string (Fr.of (qy n)).n,.string (Fr.of (qy n)).d,.string (Fr.of 0).n,.string (Fr.of 0).d,.string (Fr.of 0).n,.string (Fr.of 0).d])∧Below W.heap.size W w'):=by
 have z0:q2 0 100=0:=by decide+kernel
 have hs:VT n 100=true:=by
  unfold VT;have hk:zF (q2 n 100)=true:=(Bl zo).ok zo;rw [hk];simp only [Bool.and_eq_true,decide_eq_true_eq,and_true];omega
 refine lJ (e:=?_) ?_ W ht
 ·unfold tq;rw [z0];rfl
 ·rw [hs]
  decide+kernel
theorem hun_0 {n:Int} (h:0≤n):0≤qy n:=by
 have:=Gm (m:= -n) (n:=0) zo;have e:qy (-n)= -qy n:=by unfold qy;rw [Rat.intCast_neg];grind
 rw [e] at this;have h3:((0:Int):Rat)=0:=rfl;rw [h3] at this
 grind
theorem of_c {n d:Int} {q:Rat} (e:q2 n d=q) (h:VT n d=true) (W:World) (ht:gJ.Pow W):Calls Tryz.prog 9 #[.int .i64 n,.int .i64 d] W (fun e w'=>e= .returned (.agg #[.string (Fr.of q).n,.string (Fr.of q).d])∧Below W.heap.size W w') :=
 nX (show Fr.of (q2 n d)=⟨(Fr.of q).n,(Fr.of q).d⟩ by rw [e]) h W ht
theorem greys_ok (la lb' n d:Int) (hl:0≤la∧la≤65535) (hl2:0≤lb'∧lb'≤65535) (hn: -32768≤n∧n≤32767) (hd':0≤d∧d≤255) (w:World) (ht:gJ.Pow w) (he:whole.Er w) :
  Calls Tryz.prog 7 #[.int .u16 la,.int .u16 lb',.agg #[.int .i16 n,.int .u8 d]] w (fun e w'=>e= .returned (.bool true)∧Below w.heap.size w w'):=by
 obtain ⟨s,s0,s1,hs,S⟩:=pY.Share_ok n d hn hd';have i1:=Int.tmod_lt_of_pos la (show 0<10001 by omega);have i2:=Int.tmod_nonneg (10001:Int) hl.1;have j1:=Int.tmod_lt_of_pos lb' (show 0<10001 by omega);have j2:=Int.tmod_nonneg (10001:Int) hl2.1;obtain ⟨P,eP⟩:∃ P,la.tmod 10001=P:=⟨_,rfl⟩;obtain ⟨Q,eQ⟩:∃ P,lb'.tmod 10001=P:=⟨_,rfl⟩;rw [eP] at i1 i2;rw [eQ] at j1 j2;have hp:=Bl (n:=P) zo;have hq:=Bl (n:=Q) zo;have p0:=hun_0 i2;have q0:=hun_0 j2;have p1:qy P≤100:=Gm (n:=100) zo;have q1:qy Q≤100:=Gm (n:=100) zo;have T1:=fun W ht=>cTri (n:=P) i2 zo W ht;have T2:=fun W ht=>cTri (n:=Q) j2 zo W ht;generalize qy P=p at *;generalize qy Q=q at *;have h4:Hq 1 ((1:Rat) / 4):=⟨1,4,by omega,by decide,by decide,by decide+kernel⟩;have hu:=hs.add h4;have u1:1 / 4≤s+1 / 4:=by grind
 have u2:s+1 / 4≤100:=by grind
 have upos:0<s+1 / 4:=by grind
 have AD:=fun W ht=>af9 (add_f hs h4 zo) W ht;generalize s+1 / 4=u at *;have une:u≠0:=fun e=>by rw [e] at upos;exact absurd upos Rat.lt_irrefl
 have hv:=hp.sub hq;have ha:=hq_abs hv;have a0:=absQ_nonneg (p - q);have asq:=absQ_sq (p - q);have AB:=fun W ht=>cAbsQ hv zo W ht;generalize absQ (p - q)=a at *;have ht1:=ha.div hu;have r0:0≤a / u:=by rw [Rat.div_def];exact Rat.mul_nonneg a0 (Rat.le_of_lt (Rat.inv_pos.2 upos))
 have sq:∀ m:Rat,(p - q) / m*((p - q) / m)=a / m*(a / m):=fun m=>by
  rw [Rat.div_def,Rat.div_def];have:(p - q)*m⁻¹*((p - q)*m⁻¹)=(p - q)*(p - q)*(m⁻¹*m⁻¹):=by grind
  rw [this,← asq]
  grind
 obtain ⟨⟨b1,b2⟩,eb,hb⟩:=dst_24 (.inl rfl) hp hq p0 p1 q0 q1 hu zo u1 u2 r0 (sq u);obtain ⟨⟨c1,c2⟩,ec,hc⟩:=dst_24 (.inr rfl) hp hq p0 p1 q0 q1 hu zo u1 u2 r0 (sq u);obtain ⟨m,m1,m2,hm⟩:=dst_3 hp hq p0 p1 q0 q1;have mp:0<m:=by grind
 have rm0:0≤a / m:=by rw [Rat.div_def];exact Rat.mul_nonneg a0 (Rat.le_of_lt (Rat.inv_pos.2 mp))
 obtain ⟨⟨e1,e2⟩,ee,hee⟩:=hm _ rm0 (sq m);have k149:Hq 3 ((149:Rat) / 100):=⟨149,100,by omega,by decide,by decide,by decide+kernel⟩;have k51:Hq 3 ((51:Rat) / 100):=⟨51,100,by omega,by decide,by decide,by decide+kernel⟩;have dl:=ha.div k149;have dh:=ha.div k51
 have mono:∀ x y:Rat,0<x→x≤y→a / y≤a / x:=fun x y hx hxy=>by
  have hy:0<y:=Std.lt_of_lt_of_le hx hxy;have ix:=Rat.inv_pos.2 hx;have iy:=Rat.inv_pos.2 hy;have nx:x≠0:=fun e=>by rw [e] at hx;exact absurd hx Rat.lt_irrefl
  have ny:y≠0:=fun e=>by rw [e] at hy;exact absurd hy Rat.lt_irrefl
  have h5:=Rat.mul_le_mul_of_nonneg_right hxy (Rat.le_of_lt (Rat.mul_pos ix iy));have z1:x*(x⁻¹*y⁻¹)=y⁻¹:=by rw [← Rat.mul_assoc,Rat.mul_inv_cancel _ nx,Rat.one_mul]
  have z2:y*(x⁻¹*y⁻¹)=x⁻¹:=by rw [Rat.mul_comm x⁻¹,← Rat.mul_assoc,Rat.mul_inv_cancel _ ny,Rat.one_mul]
  rw [z1,z2] at h5;rw [Rat.div_def,Rat.div_def];exact Rat.mul_le_mul_of_nonneg_left h5 a0
 have o1:=mono _ _ mp m2;have o2:=mono _ _ (by decide+kernel) m1;have x1: -100≤p - q:=by grind
 have x2:p - q≤100:=by grind
 have x3:0≤(100 - (p - q))*(100+(p - q)):=Rat.mul_nonneg (by grind) (by grind);have a100:a≤100:=lab.sq_rev zd (by rw [asq];grind);have wl:Wi 400000000000000 (a / (149 / 100)):=⟨by rw [show un (-400000000000000)= -400 by decide+kernel];rw [show a / (149 / 100:Rat)=a*(100 / 149) by grind];grind,by rw [show un 400000000000000=400 by decide+kernel];rw [show a / (149 / 100:Rat)=a*(100 / 149) by grind];grind⟩;have wh:Wi 400000000000000 (a / (51 / 100)):=⟨by rw [show un (-400000000000000)= -400 by decide+kernel];rw [show a / (51 / 100:Rat)=a*(100 / 51) by grind];grind,by rw [show un 400000000000000=400 by decide+kernel];rw [show a / (51 / 100:Rat)=a*(100 / 51) by grind];grind⟩;obtain ⟨⟨f1,f2⟩,ef,hf⟩:=in_aroundB (xM (dl.ok zo)) wl zo;obtain ⟨⟨g1,g2⟩,eg,hg⟩:=in_aroundB (xM (dh.ok zo)) wh zo;have k1:f1≤e2:=Cq.1 (Rat.le_trans hf.1 (Rat.le_trans o1 hee.2.1))
 have k2:e1≤g2:=Cq.1 (Rat.le_trans hee.1 (Rat.le_trans o2 hg.2.1));have Lp:Vm p 0 0:=⟨hp,Hq.zero.mono zo,Hq.zero.mono zo,p0,p1,by decide,by decide,by decide,by decide⟩;have Lq:Vm q 0 0:=⟨hq,Hq.zero.mono zo,Hq.zero.mono zo,q0,q1,by decide,by decide,by decide,by decide⟩;have wu:Wt u:=⟨⟨_,hu,by omega⟩,upos⟩
 exact greys_walk eP eQ hl hl2 ⟨i2,by omega⟩ ⟨j2,by omega⟩ k1 k2 (hd fun W ht _=>MH W ht) (hd fun W ht _=>T1 W ht) (hd fun W ht _=>T2 W ht) (hd fun W _ _=>S W) (hd fun W ht _=>of_c (q:=1 / 4) (by decide+kernel) (by decide+kernel) W ht)
  (hd fun W ht _=>AD W ht) (hd fun W ht _=>QW (XB hp hq zo) W ht) (hd fun W ht _=>AB W ht) (hd fun W ht _=>af8 (div_f ha hu zo une) W ht)
  (hd fun W ht he=>dO (J6 (QS zo zo Lp Lq wu Ls) eb) W ht he) (hd fun W ht _=>hasB_at hb zo (ht1.ok zo) W ht)
  (hd fun W ht he=>dO (J6 (QS zo zo Lp Lq wu Ls) ec) W ht he) (hd fun W ht _=>hasB_at hc zo (ht1.ok zo) W ht)
  (hd fun W ht he=>dO (J6 (QS zo zo Lp Lq Ls Ls) ee) W ht he)
  (hd fun W ht _=>of_c (q:=149 / 100) (by decide+kernel) (by decide+kernel) W ht) (hd fun W ht _=>af8 (div_f ha k149 zo (by decide+kernel)) W ht)
  (hd fun W ht _=>of_c (q:=51 / 100) (by decide+kernel) (by decide+kernel) W ht) (hd fun W ht _=>af8 (div_f ha k51 zo (by decide+kernel)) W ht)
  (hd fun W ht he=>QY ef W ht he) (hd fun W ht he=>QY eg W ht he) w ht he
end Go.Proofs.verdigrislaw27
namespace Go.Proofs.YtlpjmogillpnbaaGreatDoor
open Go Go.ChangeShapes Go.WideShapes Go.RowKit Go.Proofs
theorem oq {P:Program} {w:World} {r:Reach} {b:Nat} {u:TypeId} {k:IntKind} {v:Value} (hu:P.underlying u=some (.int k)) (h:Cell.okWide P w r b u v):∃ n,v= .int k n∧k.has n:=by
 unfold Cell.okWide at h;simp only [hu] at h;unfold Cell.ok at h;simp only [hu] at h;cases v<;>simp at h
 obtain ⟨rfl,h⟩:=h;exact ⟨_,rfl,h⟩
theorem list2 {α:Type} {l:List α} (h:l.length=2):∃ x0 x1,l=[x0,x1]:=by
 match l,h with
 | [x0,x1],_=>exact ⟨x0,x1,rfl⟩
theorem Ao {P:Program} {w:World} {r:Reach} {b:Nat} {T:TypeId} {d:TypeDesc} {ts:List TypeId} {v:Value} (hu:P.underlying T=some d) (hd:(match d with| .struct _| .array _ _=>true| _=>false)=true)
  {n:Nat} (hc:P.cellTypes P.depth T=some ts) (hn:P.cellsOf T=n) (hl:ts.length=n) (h:Value.okWide P w r b T v):∃ l:List Value,v= .agg ⟨l⟩∧l.length=n∧∀ (i:Nat) x u,l[i]? =some x→ts[i]? =some u→Cell.okWide P w r b u x:=by
 have h':∃ cs,v= .agg cs∧cs.size=P.cellsOf T∧Row.okWide P w r b T cs:=by
  unfold Value.okWide at h;rw [hu] at h;cases d<;>simp at hd<;>exact h
 obtain ⟨⟨l⟩,rfl,hs,ts',ht, -, hx⟩:=h';rw [hc] at ht;cases ht
 refine ⟨l,rfl,by rw [← hn];exact hs,fun i x u hi hui=>?_⟩;obtain ⟨u',h1,h2⟩:=hx i x (by simpa using hi);have hlt:i<ts.length:=(List.getElem?_eq_some_iff.1 hui).1;rw [Nat.mod_eq_of_lt hlt,hui] at h1;cases h1
 exact h2
theorem has_u8 {n:Int} (h:IntKind.u8.has n):0≤n∧n≤255:=by
 simpa [IntKind.has,IntKind.min,IntKind.max,IntKind.signed,IntKind.bits] using h
theorem wL {n:Int} (h:IntKind.i16.has n):(-32768)≤n∧n≤32767:=by
 simpa [IntKind.has,IntKind.min,IntKind.max,IntKind.signed,IntKind.bits] using h
theorem Dl:laidOutB Tryz.prog=true:=by kernel_rfl
end Go.Proofs.YtlpjmogillpnbaaGreatDoor
