/- Lemmas for the proof. No condition. -/
import Derived.Test.YtfhappbmgghgdaaGreatDoorIB01
import Derived.Test.YtfhappbmgghgdaaGreatDoorIB02
import Derived.Test.YtfhappbmgghgdaaGreatDoorIB03
import Derived.Test.YtfhappbmgghgdaaGreatDoorIB04
import Derived.Test.YtfhappbmgghgdaaGreatDoorIB05
import Derived.Test.YtfhappbmgghgdaaGreatDoorIB06
import Derived.Test.YtfhappbmgghgdaaGreatDoorIB07
import Derived.Test.YtfhappbmgghgdaaGreatDoorIB08
import Derived.Test.YtfhappbmgghgdaaGreatDoorIB09
import Derived.Test.YtfhappbmgghgdaaGreatDoorIB10
import Derived.Test.YtfhappbmgghgdaaGreatDoorIB11
import Derived.Test.YtfhappbmgghgdaaGreatDoorIB12
import Derived.Test.YtfhappbmgghgdaaGreatDoorIB13
import Derived.Test.YtfhappbmgghgdaaGreatDoorIB14
import Derived.Test.YtfhappbmgghgdaaGreatDoorIB15
import Derived.Test.YtfhappbmgghgdaaGreatDoorIB16
import Derived.Test.YtfhappbmgghgdaaGreatDoorIB17
import Derived.Test.YtfhappbmgghgdaaGreatDoorIB18
import Derived.Test.YtfhappbmgghgdaaGreatDoorRows
import Derived.ProofKit
import Derived.LaidMore
import Derived.OpenShut
import Derived.Stop.Joined
import Derived.Stop.LaidErr
import Derived.Lib.LaidTab
import Derived.ChangeSame
import Derived.Laws.IdiomArrays
import Derived.Maps.AppendAt
import Derived.Deep.AppendSrc
import Derived.Deep.DeepAppendWide
set_option linter.unusedVariables false
set_option linter.unusedSimpArgs false
set_option maxRecDepth 100000
set_option maxHeartbeats 16000000
namespace Go.Proofs.YtfhappbmgghgdaaGreatDoor
open Go Go.ChangeShapes Go.WideShapes Go.RowKit Go.Proofs
theorem u32_wf {n:Int} (h:(Lit.int .u32 n).wf=true):0≤n∧n≤4294967295:=by
 simp [Lit.wf,IntKind.min,IntKind.max,IntKind.signed,IntKind.bits] at h
 omega
end Go.Proofs.YtfhappbmgghgdaaGreatDoor
namespace Go.Proofs.aL
open Go Go.RowKit Go.SW Go.Num Go.Mem Go.Proofs Go.Dec Go.Proofs.aC Go.dF
def flr (q:Rat):Int:=q.num / (q.den:Int)
theorem _root_.Go.Mem.Pl.alloc {w:World} {v:Value} {z:Int} (h:Pl w v z) (o:Obj):Pl (w.alloc o) v z:=h.later ((Below.refl _ _).alloc (Nat.le_refl _) _)
end Go.Proofs.aL
namespace Go.Proofs.verdigrisref03
open Go Go.RowKit Go.SW Go.Num Go.Mem Go.Proofs Go.Dec Go.dF Go.Proofs.fM Go.Proofs.aL Go.Proofs.aC
def un (n:Int):Rat:=(n:Rat) / ((1000000000000:Int):Rat)
def tightE (a b:Rat):(Int × Int) × Int:=kC (flr (a*((1000000000000:Int):Rat))) (-(flr (-(b*((1000000000000:Int):Rat)))))
theorem bok_lo {X Y:Int} (h:X< -1000000000000000000∨1000000000000000000<Y∨Y<X):mM X Y=false:=by
 unfold mM
 rcases h with h|h|h
 ·rw [decide_eq_false (show ¬ -1000000000000000000≤X by omega)];rfl
 ·rw [decide_eq_false (show ¬ Y≤1000000000000000000 by omega)];simp
 ·rw [decide_eq_false (show ¬ X≤Y by omega)];simp
end Go.Proofs.verdigrisref03
namespace Go.Proofs.verdigrisref03
open Go Go.Num Go.dF Go.Proofs.fM Go.Proofs.aL
theorem flr_eq (q:Rat):flr q=q.floor:=(Rat.floor_def q).symm
theorem neg_div' (a b:Rat): -(a / b)= -a / b:=by rw [Rat.div_def,Rat.div_def,Rat.neg_mul]
theorem floor_div (n:Int) {d:Int} (hd:0<d):((n:Rat) / (d:Rat)).floor=n / d:=by
 have hd':(0:Rat)<(d:Rat):=by exact_mod_cast hd
 have key:∀ x:Int,x≤((n:Rat) / (d:Rat)).floor↔x≤n / d:=fun x=>by
  rw [Rat.le_floor_iff,Int.le_ediv_iff_mul_le hd];have e:(n:Rat) / (d:Rat)*(d:Rat)=(n:Rat):=Rat.div_mul_cancel (fun h=>by rw [h] at hd';exact absurd hd' zd)
  constructor
  ·intro h;have:=Rat.mul_le_mul_of_nonneg_right h (Rat.le_of_lt hd');rw [e] at this
   exact_mod_cast this
  ·intro h;refine Rat.le_of_mul_le_mul_right (c:=(d:Rat)) ?_ hd';rw [e]
   exact_mod_cast h
 exact Int.le_antisymm ((key _).1 (Int.le_refl _)) ((key _).2 (Int.le_refl _))
theorem E_pos:(0:Rat)<((1000000000000:Int):Rat):=by decide+kernel
theorem E_ne:((1000000000000:Int):Rat)≠0:=by decide+kernel
theorem un_E (n:Int):un n*((1000000000000:Int):Rat)=(n:Rat):=by
 have:=E_ne;unfold un;generalize ((1000000000000:Int):Rat)=E at *
 grind
theorem un_prod (x y:Int):un x*un y*((1000000000000:Int):Rat)=((x*y:Int):Rat) / ((1000000000000:Int):Rat):=by
 have:=E_ne;unfold un;rw [Rat.intCast_mul];generalize ((1000000000000:Int):Rat)=E at *
 grind
theorem tight_around (q:Rat):tightE q q=kC (Ld (q.num*1000000000000) q.den false) (Ld (q.num*1000000000000) q.den true):=by
 have hd:(0:Int)<(q.den:Int):=by have:=q.den_pos;omega
 have hd0:((q.den:Int):Rat)≠0:=by
  have:(q.den:Int)≠0:=by omega
  exact_mod_cast this
 have e:q*((1000000000000:Int):Rat)=((q.num*1000000000000:Int):Rat) / ((q.den:Int):Rat):=by
  rw [Rat.intCast_mul];have h:=xO q;generalize ((1000000000000:Int):Rat)=E at *;generalize (q.num:Rat)=n at *;generalize ((q.den:Int):Rat)=d at *;rw [h]
  grind
 have e2: -(q*((1000000000000:Int):Rat))=((-(q.num*1000000000000):Int):Rat) / ((q.den:Int):Rat):=by
  rw [e,Rat.intCast_neg,neg_div']
 unfold tightE;rw [flr_eq,flr_eq,e2,e,floor_div _ hd,floor_div _ hd];rfl
def lowQ (m:Rat):List Rat→Rat
 | []=>m
 | x::l=>lowQ (if x<m then x else m) l
def highQ (m:Rat):List Rat→Rat
 | []=>m
 | x::l=>highQ (if m<x then x else m) l
theorem low4 (p q r s:Rat):(lowQ p [q,r,s]=p∨lowQ p [q,r,s]=q∨lowQ p [q,r,s]=r∨lowQ p [q,r,s]=s)∧lowQ p [q,r,s]≤p∧lowQ p [q,r,s]≤q∧lowQ p [q,r,s]≤r∧lowQ p [q,r,s]≤s:=by
 unfold lowQ lowQ lowQ lowQ
 grind
theorem high4 (p q r s:Rat):(highQ p [q,r,s]=p∨highQ p [q,r,s]=q∨highQ p [q,r,s]=r∨highQ p [q,r,s]=s)∧p≤highQ p [q,r,s]∧q≤highQ p [q,r,s]∧r≤highQ p [q,r,s]∧s≤highQ p [q,r,s]:=by
 unfold highQ highQ highQ highQ
 grind
theorem E_mono {a b:Rat} (h:a≤b):(a*((1000000000000:Int):Rat)).floor≤(b*((1000000000000:Int):Rat)).floor:=Rat.floor_monotone (Rat.mul_le_mul_of_nonneg_right h (Rat.le_of_lt E_pos))
theorem E_anti {a b:Rat} (h:a≤b): -((-(a*((1000000000000:Int):Rat))).floor)≤ -((-(b*((1000000000000:Int):Rat))).floor):=by
 have h2:=Rat.floor_monotone (Rat.neg_le_neg (Rat.mul_le_mul_of_nonneg_right h (Rat.le_of_lt E_pos)));omega
theorem rnd_le (n:Int) {d:Nat} (hd:0<d):Ld n d false≤Ld n d true:=by
 unfold Ld;simp only [Bool.false_eq_true,if_false,if_true];have h1:=Int.mul_ediv_self_le (x:=n) (k:=(d:Int)) zo;have h2:=Int.mul_ediv_self_le (x:= -n) (k:=(d:Int)) zo;have h3:(d:Int)*(n / d)≤(d:Int)*(-(-n / d)):=by rw [Int.mul_neg];omega
 exact Int.le_of_mul_le_mul_left h3 zo
theorem prod_down (x y:Int):(un x*un y*((1000000000000:Int):Rat)).floor=Ld (x*y) 1000000000000 false:=by rw [un_prod,floor_div _ zo];rfl
theorem prod_up (x y:Int): -((-(un x*un y*((1000000000000:Int):Rat))).floor)=Ld (x*y) 1000000000000 true:=by
 rw [un_prod,neg_div',← Rat.intCast_neg,floor_div _ zo];rfl
theorem quo_fit (x y:Int) (up:Bool):((Az x y 1000000000000 up).2=true→(Az x y 1000000000000 up).1=Ld (x*y) 1000000000000 up∧(Ld (x*y) 1000000000000 up).natAbs≤1000000000000000000)∧((Az x y 1000000000000 up).2=false→1000000000000000000<(Ld (x*y) 1000000000000 up).natAbs):=by
 by_cases h:(Ld (x*y) 1000000000000 up).natAbs≤1000000000000000000
 ·rw [show Az x y 1000000000000 up=(Ld (x*y) 1000000000000 up,true) from if_pos h];exact ⟨fun _=>⟨rfl,h⟩,fun h=>by cases h⟩
 ·rw [show Az x y 1000000000000 up=(0,false) from if_neg h];exact ⟨fun h=>(by cases h),fun _=>by omega⟩
theorem tight_mul (a b:Int × Int):tightE (lowQ (un a.1*un b.1) [un a.1*un b.2,un a.2*un b.1,un a.2*un b.2]) (highQ (un a.1*un b.1) [un a.1*un b.2,un a.2*un b.1,un a.2*un b.2])=Co a b:=by
 obtain ⟨h1,h2,h3,h4,h5⟩:=low4 (un a.1*un b.1) (un a.1*un b.2) (un a.2*un b.1) (un a.2*un b.2);obtain ⟨g1,g2,g3,g4,g5⟩:=high4 (un a.1*un b.1) (un a.1*un b.2) (un a.2*un b.1) (un a.2*un b.2);generalize lowQ (un a.1*un b.1) [un a.1*un b.2,un a.2*un b.1,un a.2*un b.2]=lo at *;generalize highQ (un a.1*un b.1) [un a.1*un b.2,un a.2*un b.1,un a.2*un b.2]=hi at *;replace h2:=E_mono h2;replace h3:=E_mono h3;replace h4:=E_mono h4;replace h5:=E_mono h5;replace g2:=E_anti g2;replace g3:=E_anti g3;replace g4:=E_anti g4;replace g5:=E_anti g5
 have h6:(lo*((1000000000000:Int):Rat)).floor=Ld (a.1*b.1) 1000000000000 false∨(lo*((1000000000000:Int):Rat)).floor=Ld (a.1*b.2) 1000000000000 false∨(lo*((1000000000000:Int):Rat)).floor=Ld (a.2*b.1) 1000000000000 false∨(lo*((1000000000000:Int):Rat)).floor=Ld (a.2*b.2) 1000000000000 false:=by
  rcases h1 with rfl|rfl|rfl|rfl<;>simp only [prod_down,true_or,or_true]
 have g6: -((-(hi*((1000000000000:Int):Rat))).floor)=Ld (a.1*b.1) 1000000000000 true∨ -((-(hi*((1000000000000:Int):Rat))).floor)=Ld (a.1*b.2) 1000000000000 true∨ -((-(hi*((1000000000000:Int):Rat))).floor)=Ld (a.2*b.1) 1000000000000 true∨ -((-(hi*((1000000000000:Int):Rat))).floor)=Ld (a.2*b.2) 1000000000000 true:=by
  rcases g1 with rfl|rfl|rfl|rfl<;>simp only [prod_up,true_or,or_true]
 rw [prod_down] at h2 h3 h4 h5;rw [prod_up] at g2 g3 g4 g5;unfold tightE;rw [flr_eq,flr_eq];generalize (lo*((1000000000000:Int):Rat)).floor=L at *;generalize -((-(hi*((1000000000000:Int):Rat))).floor)=H at *;have r1:=rnd_le (a.1*b.1) (d:=1000000000000) zo;have r2:=rnd_le (a.1*b.2) (d:=1000000000000) zo;have r3:=rnd_le (a.2*b.1) (d:=1000000000000) zo;have r4:=rnd_le (a.2*b.2) (d:=1000000000000) zo;have e0:uq a b 0=Az a.1 b.1 1000000000000 false:=rfl;have e1:uq a b 1=Az a.1 b.2 1000000000000 false:=rfl;have e2:uq a b 2=Az a.2 b.1 1000000000000 false:=rfl;have e3:uq a b 3=Az a.2 b.2 1000000000000 false:=rfl;have d0:jG a b 0=Az a.1 b.1 1000000000000 true:=rfl;have d1:jG a b 1=Az a.1 b.2 1000000000000 true:=rfl;have d2:jG a b 2=Az a.2 b.1 1000000000000 true:=rfl;have d3:jG a b 3=Az a.2 b.2 1000000000000 true:=rfl;have q0:=quo_fit a.1 b.1 false
 have q1:=quo_fit a.1 b.2 false;have q2:=quo_fit a.2 b.1 false;have q3:=quo_fit a.2 b.2 false;have p0:=quo_fit a.1 b.1 true;have p1:=quo_fit a.1 b.2 true;have p2:=quo_fit a.2 b.1 true;have p3:=quo_fit a.2 b.2 true
 have fe:ag3 a b=((uq a b 0).2&&(jG a b 0).2&&((uq a b 1).2&&(jG a b 1).2)&&((uq a b 2).2&&(jG a b 2).2)&&((uq a b 3).2&&(jG a b 3).2)):=by
  unfold ag3;simp [List.range,List.range.loop,Bool.and_assoc]
 unfold Co;rw [fe,e0,e1,e2,e3,d0,d1,d2,d3];generalize Ld (a.1*b.1) 1000000000000 false=l0 at *;generalize Ld (a.1*b.2) 1000000000000 false=l1 at *;generalize Ld (a.2*b.1) 1000000000000 false=l2 at *;generalize Ld (a.2*b.2) 1000000000000 false=l3 at *;generalize Ld (a.1*b.1) 1000000000000 true=u0 at *;generalize Ld (a.1*b.2) 1000000000000 true=u1 at *;generalize Ld (a.2*b.1) 1000000000000 true=u2 at *;generalize Ld (a.2*b.2) 1000000000000 true=u3 at *;clear e0 e1 e2 e3 d0 d1 d2 d3 fe h1 g1;generalize Az a.1 b.1 1000000000000 false=A0 at *;generalize Az a.1 b.2 1000000000000 false=A1 at *;generalize Az a.2 b.1 1000000000000 false=A2 at *;generalize Az a.2 b.2 1000000000000 false=A3 at *;generalize Az a.1 b.1 1000000000000 true=B0 at *;generalize Az a.1 b.2 1000000000000 true=B1 at *;generalize Az a.2 b.1 1000000000000 true=B2 at *
 generalize Az a.2 b.2 1000000000000 true=B3 at *;obtain ⟨x0,y0⟩:=A0;obtain ⟨x1,y1⟩:=A1;obtain ⟨x2,y2⟩:=A2;obtain ⟨x3,y3⟩:=A3;obtain ⟨s0,t0⟩:=B0;obtain ⟨s1,t1⟩:=B1;obtain ⟨s2,t2⟩:=B2;obtain ⟨s3,t3⟩:=B3;simp only at q0 q1 q2 q3 p0 p1 p2 p3 ⊢
 by_cases hf:(y0&&t0&&(y1&&t1)&&(y2&&t2)&&(y3&&t3))=true
 ·rw [if_pos hf];simp only [Bool.and_eq_true] at hf;obtain ⟨⟨⟨⟨f1,f2⟩,f3,f4⟩,f5,f6⟩,f7,f8⟩:=hf;obtain ⟨rfl, -⟩:=q0.1 f1;obtain ⟨rfl, -⟩:=q1.1 f3;obtain ⟨rfl, -⟩:=q2.1 f5;obtain ⟨rfl, -⟩:=q3.1 f7;obtain ⟨rfl, -⟩:=p0.1 f2;obtain ⟨rfl, -⟩:=p1.1 f4;obtain ⟨rfl, -⟩:=p2.1 f6;obtain ⟨rfl, -⟩:=p3.1 f8
  have m1:L=[x0,x1,x2,x3].foldl min x0:=by
   simp only [List.foldl];omega
  have m2:H=[s0,s1,s2,s3].foldl max s0:=by
   simp only [List.foldl];omega
  rw [m1,m2]
 ·rw [if_neg hf]
  have hb:mM L H=false:=by
   refine bok_lo ?_
   have:y0=false∨t0=false∨y1=false∨t1=false∨y2=false∨t2=false∨y3=false∨t3=false:=by
    revert hf
    cases y0<;>cases t0<;>cases y1<;>cases t1<;>cases y2<;>cases t2<;>cases y3<;>cases t3<;>simp
   rcases this with h|h|h|h|h|h|h|h
   ·have:=q0.2 h;omega
   ·have:=p0.2 h;omega
   ·have:=q1.2 h;omega
   ·have:=p1.2 h;omega
   ·have:=q2.2 h;omega
   ·have:=p2.2 h;omega
   ·have:=q3.2 h;omega
   ·have:=p3.2 h;omega
  unfold kC;rw [hb];rfl
end Go.Proofs.verdigrisref03
namespace Go.dF
open Go Go.Num
def smR (n:Nat) (f:Nat→Rat):Rat:=if n=1 then f 0 else if n=2 then f 0+f 1 else if n=3 then f 0+f 1+f 2 else f 0+f 1+f 2+f 3
end Go.dF
namespace Go.Proofs.aI
open Go Go.RowKit Go.SW Go.Num Go.Mem Go.Proofs Go.Dec Go.dF Go.Proofs.aL Go.Proofs.matrix
def MB:Nat→Nat
 | 0=>67
 | n+1=>(2*MB n+1)*2^(n+1)
end Go.Proofs.aI
namespace Go.Proofs.matrix
open Go Go.Num Go.Proofs Go.dF Go.Proofs.aI
theorem psum_smR {k:Nat} (hk:1≤k∧k≤4) (f:Nat→Rat):qw f k=smR k f:=by
 have:k=1∨k=2∨k=3∨k=4:=by omega
 rcases this with rfl|rfl|rfl|rfl<;>simp [qw,smR,Rat.zero_add]
theorem dot_smR {k:Nat} (hk:1≤k∧k≤4) (u v:Nat→Rat):iV ((List.range k).map u) ((List.range k).map v)=smR k fun i=>u i*v i:=by
 rw [OA zi,← psum_smR hk];simp only [List.length_map,List.length_range];refine mX fun i hi=>?_;simp [hi]
end Go.Proofs.matrix
namespace Go.Proofs.matrix
open Go Go.RowKit Go.SW Go.Num Go.Mem Go.Proofs Go.Dec Go.dF
theorem rmQ_fr {m:RM} {n:Nat} (h:m.ok n):Cv m.fr=m:=by
 unfold Cv RM.fr;rw [List.map_map]
 conv=>rhs;rw [← List.map_id m]
 refine List.map_congr_left fun r hr=>?_
 show (r.map Fr.of).map qF=r
 rw [List.map_map]
 conv=>rhs;rw [← List.map_id r]
 refine List.map_congr_left fun q hq=>?_
 show qF (Fr.of q)=q
 unfold qF;rw [QO ((h.2.2.2.2 r hr).2 q hq)];rfl
end Go.Proofs.matrix
namespace Go.Proofs.matrix
open Go Go.Num Go.Proofs Go.dF Go.Proofs.aI
theorem smR_ht {k a:Nat} (hk:1≤k∧k≤4) {f:Nat→Rat} (h:∀ i,i<k→Ht a (f i)):Ht (4*a+3) (smR k f):=by
 have:k=1∨k=2∨k=3∨k=4:=by omega
 rcases this with rfl|rfl|rfl|rfl
 ·exact (h 0 zo).mono zo
 ·exact ((h 0 zo).add (h 1 zo)).mono zo
 ·exact (((h 0 zo).add (h 1 zo)).add (h 2 zo)).mono zo
 ·exact ((((h 0 zo).add (h 1 zo)).add (h 2 zo)).add (h 3 zo)).mono zo
where
 aK7 {m:RM} {n:Nat} (h:∀ r∈m,r.length=n∧∀ q∈r,Ht 3 q) (hm:m.length=n) {i j:Nat} (hi:i<n) (hj:j<n):Ht 3 (atR m i j):=by
  subst hm;have e:m.getD i []=m[i]:=by simp [hi]
  have h1:=h m[i] (List.getElem_mem _);have hj2:j<m[i].length:=by omega
  unfold atR;rw [e];have e3:m[i].getD j 0=m[i][j]:=by simp [hj2]
  rw [e3];exact h1.2 _ (List.getElem_mem _)
theorem okM_RM {m:RM} {n:Nat} (h:m.ok n):kW m.fr=true:=by
 have:=h.Qa;unfold gY at this;cases hk:kW m.fr with
 | true=>rfl
 | false=>rw [hk] at this;simp at this
theorem head_RM {m:RM} {n:Nat} (h:m.ok n):(m.fr.headD []).length=n:=by
 cases m with
 | nil=>have:=h.1;simp at this
 | cons r t=>unfold RM.fr;simpa using (h.2.2.2.2 r zi).1
end Go.Proofs.matrix
namespace Go.Proofs.matrix
open Go Go.Num Go.dF Go.Proofs.fM Go.Proofs.verdigrisref03 Go.Proofs.aL
theorem un_le_iff (z:Int) (q:Rat):un z≤q↔(z:Rat)≤q*((1000000000000:Int):Rat):=by
 rw [← un_E z]
 constructor
 ·exact fun h=>Rat.mul_le_mul_of_nonneg_right h (Rat.le_of_lt E_pos)
 ·exact fun h=>Rat.le_of_mul_le_mul_right h E_pos
theorem le_un_iff (z:Int) (q:Rat):q≤un z↔q*((1000000000000:Int):Rat)≤(z:Rat):=by
 rw [← un_E z]
 constructor
 ·exact fun h=>Rat.mul_le_mul_of_nonneg_right h (Rat.le_of_lt E_pos)
 ·exact fun h=>Rat.le_of_mul_le_mul_right h E_pos
theorem un_le {a b:Int}:un a≤un b↔a≤b:=by rw [un_le_iff,un_E,Rat.intCast_le_intCast]
theorem un_add (a b:Int):un (a+b)=un a+un b:=by
 unfold un;rw [Rat.intCast_add,Rat.div_def,Rat.div_def,Rat.div_def,Rat.add_mul]
def In (b:Int × Int) (q:Rat) (M:Int):Prop:=un b.1≤q∧q≤un b.2∧ -M≤b.1∧b.2≤M
theorem In.le {b:Int × Int} {q:Rat} {M:Int} (h:In b q M):b.1≤b.2:=un_le.1 (Rat.le_trans h.1 h.2.1)
theorem bok_yes {x y:Int} (h: -1000000000000000000≤x) (h2:x≤y) (h3:y≤1000000000000000000):mM x y=true:=by
 unfold mM;rw [decide_eq_true h,decide_eq_true h2,decide_eq_true h3];rfl
theorem In.mM {b:Int × Int} {q:Rat} {M:Int} (h:In b q M) (hM:M≤1000000000000000000):mM b.1 b.2=true :=
 bok_yes (by have:=h.2.2.1;omega) h.le (by have:=h.2.2.2;omega)
theorem in_add {s t:Int × Int} {p q:Rat} {a b:Int} (h:In s p a) (k:In t q b) (ha:0≤a) (hb:0≤b) (hM:a+b≤1000000000000000000):fM.ku s t=((s.1+t.1,s.2+t.2),0)∧In (s.1+t.1,s.2+t.2) (p+q) (a+b):=by
 have hi:In (s.1+t.1,s.2+t.2) (p+q) (a+b):=by
  obtain ⟨h1,h2,h3,h4⟩:=h;obtain ⟨k1,k2,k3,k4⟩:=k;refine ⟨?_,?_,?_,?_⟩
  ·simp only [un_add];exact Rat.le_trans (Rat.add_le_add_left.2 k1) (Rat.add_le_add_right.2 h1)
  ·simp only [un_add];exact Rat.le_trans (Rat.add_le_add_left.2 k2) (Rat.add_le_add_right.2 h2)
  ·show -(a+b)≤s.1+t.1
   omega
  ·show s.2+t.2≤a+b
   omega
 refine ⟨?_,hi⟩;unfold fM.ku okB kC;simp only [List.all_cons,List.all_nil,Bool.and_true,h.mM zo,k.mM zo,Bool.and_self,if_true];rw [if_pos (hi.mM hM)]
theorem made_in {lo hi q:Rat} {M:Int} (h1:lo≤q) (h2:q≤hi) (h3: -M≤flr (lo*((1000000000000:Int):Rat))) (h4: -(flr (-(hi*((1000000000000:Int):Rat))))≤M) (hM:M≤1000000000000000000):∃ b,tightE lo hi=(b,0)∧In b q M:=by
 have hi':In (flr (lo*((1000000000000:Int):Rat)), -(flr (-(hi*((1000000000000:Int):Rat))))) q M:=by
  refine ⟨?_,?_,h3,h4⟩
  ·rw [un_le_iff,flr_eq];exact Rat.le_trans (Rat.floor_le _) (Rat.mul_le_mul_of_nonneg_right h1 (Rat.le_of_lt E_pos))
  ·rw [le_un_iff,Rat.intCast_neg];have:=Rat.floor_le (-(hi*((1000000000000:Int):Rat)));rw [← flr_eq] at this;have h5:=Rat.neg_le_neg this;rw [Rat.neg_neg] at h5;exact Rat.le_trans (Rat.mul_le_mul_of_nonneg_right h2 (Rat.le_of_lt E_pos)) h5
 refine ⟨_,?_,hi'⟩;unfold tightE kC;rw [if_pos (hi'.mM hM)]
theorem div_ge {n d m:Int} (hd:0<d) (h:m*d≤n):m≤n / d:=(Int.le_ediv_iff_mul_le hd).2 h
theorem in_around {a:Rat} (h:Sm a):∃ b,jd (Fr.of a)=(b,0)∧In b a 999000000000000:=by
 have e:jd (Fr.of a)=tightE a a:=by rw [tight_around];unfold jd;rw [QO h.1]
 rw [e];have hd:=a.den_pos;have hn:=h.2.1;have hd0:(0:Int)<(a.den:Int):=by omega
 have t:=tight_around a
 have e1:flr (a*((1000000000000:Int):Rat))=a.num*1000000000000 / (a.den:Int):=by
  rw [flr_eq];have q:=xO a
  have:a*((1000000000000:Int):Rat)=((a.num*1000000000000:Int):Rat) / ((a.den:Int):Rat):=by
   rw [Rat.intCast_mul];have hd1:((a.den:Int):Rat)≠0:=Le a;generalize ((1000000000000:Int):Rat)=E at *;generalize (a.num:Rat)=n at *;generalize ((a.den:Int):Rat)=d at *;rw [q]
   grind
  rw [this,floor_div _ hd0]
 have e2:flr (-(a*((1000000000000:Int):Rat)))= -(a.num*1000000000000) / (a.den:Int):=by
  rw [flr_eq];have q:=xO a
  have: -(a*((1000000000000:Int):Rat))=((-(a.num*1000000000000):Int):Rat) / ((a.den:Int):Rat):=by
   rw [Rat.intCast_neg,Rat.intCast_mul];have hd1:((a.den:Int):Rat)≠0:=Le a;generalize ((1000000000000:Int):Rat)=E at *;generalize (a.num:Rat)=n at *;generalize ((a.den:Int):Rat)=d at *;rw [q]
   grind
  rw [this,floor_div _ hd0]
 refine made_in Rat.le_refl Rat.le_refl ?_ ?_ zo
 ·rw [e1];exact div_ge hd0 zo
 ·rw [e2];have:=div_ge (m:= -999000000000000) (n:= -(a.num*1000000000000)) hd0 zo;omega
theorem prod_bound {x y:Int} (hx:x.natAbs≤999000000000000) (hy:y.natAbs≤20000000000000):(x*y).natAbs≤19980000000000000000000000000:=by
 rw [Int.natAbs_mul];exact Nat.le_trans (Nat.mul_le_mul hx hy) zo
theorem rnd_bound {n:Int} (h:n.natAbs≤19980000000000000000000000000): -19980000000000000≤Ld n 1000000000000 false∧Ld n 1000000000000 true≤19980000000000000:=by
 have h1:=div_ge (m:= -19980000000000000) (n:=n) (d:=((1000000000000:Nat):Int)) zo zo;have h2:=div_ge (m:= -19980000000000000) (n:= -n) (d:=((1000000000000:Nat):Int)) zo zo;unfold Ld;simp only [Bool.false_eq_true,if_false,if_true];omega
theorem in_mul {A X:Int × Int} {a:Rat} (h:In A a 999000000000000) (h1: -20000000000000≤X.1) (h2:X.1≤X.2) (h3:X.2≤20000000000000):∃ b,fM.vM A X=(b,0)∧In b (a*un X.1) 19980000000000000:=by
 have e:fM.vM A X=tightE (lowQ (un A.1*un X.1) [un A.1*un X.2,un A.2*un X.1,un A.2*un X.2]) (highQ (un A.1*un X.1) [un A.1*un X.2,un A.2*un X.1,un A.2*un X.2]):=by
  rw [tight_mul];unfold fM.vM okB;simp only [List.all_cons,List.all_nil,Bool.and_true,h.mM zo,bok_yes (show -1000000000000000000≤X.1 by omega) h2 zo,Bool.and_self,if_true]
 rw [e];have hA:=h.le;obtain ⟨g1,g2,g3,g4⟩:=h;have nA1:A.1.natAbs≤999000000000000:=by omega
 have nA2:A.2.natAbs≤999000000000000:=by omega
 have nX1:X.1.natAbs≤20000000000000:=by omega
 have nX2:X.2.natAbs≤20000000000000:=by omega
 obtain ⟨m1,m2,m3,m4,m5⟩:=low4 (un A.1*un X.1) (un A.1*un X.2) (un A.2*un X.1) (un A.2*un X.2);obtain ⟨k1,k2,k3,k4,k5⟩:=high4 (un A.1*un X.1) (un A.1*un X.2) (un A.2*un X.1) (un A.2*un X.2);generalize lowQ (un A.1*un X.1) [un A.1*un X.2,un A.2*un X.1,un A.2*un X.2]=lo at *;generalize highQ (un A.1*un X.1) [un A.1*un X.2,un A.2*un X.1,un A.2*un X.2]=hi at *
 have bt:(un A.1*un X.1≤a*un X.1∧a*un X.1≤un A.2*un X.1)∨(un A.2*un X.1≤a*un X.1∧a*un X.1≤un A.1*un X.1):=by
  rcases Rat.le_total (a:=0) (b:=un X.1) with hx|hx
  ·exact .inl ⟨Rat.mul_le_mul_of_nonneg_right g1 hx,Rat.mul_le_mul_of_nonneg_right g2 hx⟩
  ·have hx':0≤ -un X.1:=by have:=Rat.neg_le_neg hx;rwa [Rat.neg_zero] at this
   have q1:=Rat.mul_le_mul_of_nonneg_right g1 hx';have q2:=Rat.mul_le_mul_of_nonneg_right g2 hx';rw [Rat.mul_neg,Rat.mul_neg] at q1 q2;have q3:=Rat.neg_le_neg q1;have q4:=Rat.neg_le_neg q2;rw [Rat.neg_neg,Rat.neg_neg] at q3 q4;exact .inr ⟨q4,q3⟩
 refine made_in ?_ ?_ ?_ ?_ zo
 ·rcases bt with ⟨b1,b2⟩|⟨b1,b2⟩
  ·exact Rat.le_trans m2 b1
  ·exact Rat.le_trans m4 b1
 ·rcases bt with ⟨b1,b2⟩|⟨b1,b2⟩
  ·exact Rat.le_trans b2 k4
  ·exact Rat.le_trans b2 k2
 ·rw [flr_eq]
  rcases m1 with rfl|rfl|rfl|rfl
  ·rw [prod_down];exact (rnd_bound (prod_bound nA1 nX1)).1
  ·rw [prod_down];exact (rnd_bound (prod_bound nA1 nX2)).1
  ·rw [prod_down];exact (rnd_bound (prod_bound nA2 nX1)).1
  ·rw [prod_down];exact (rnd_bound (prod_bound nA2 nX2)).1
 ·rw [flr_eq]
  rcases k1 with rfl|rfl|rfl|rfl
  ·rw [prod_up];exact (rnd_bound (prod_bound nA1 nX1)).2
  ·rw [prod_up];exact (rnd_bound (prod_bound nA1 nX2)).2
  ·rw [prod_up];exact (rnd_bound (prod_bound nA2 nX1)).2
  ·rw [prod_up];exact (rnd_bound (prod_bound nA2 nX2)).2
theorem in_term {a:Rat} {X:Int × Int} (h:Sm a) (h1: -20000000000000≤X.1) (h2:X.1≤X.2) (h3:X.2≤20000000000000):∃ b,wJ (Fr.of a) X=(b,0)∧In b (a*un X.1) 19980000000000000:=by
 obtain ⟨b,e,hb⟩:=in_around h;unfold wJ;rw [e];exact in_mul hb h1 h2 h3
theorem in_sum {f:Nat→(Int × Int) × Int} {g:Nat→Rat}:∀ k,k≤3→(∀ i,i≤k→∃ b,f i=(b,0)∧In b (g i) 19980000000000000)→∃ b,jo f k=(b,0)∧In b (qw g (k+1)) (19980000000000000*((k:Int)+1))
 | 0,_,h=>by
  obtain ⟨b,e,hb⟩:=h 0 (Nat.le_refl _);refine ⟨b,?_,?_⟩
  ·show Vp (f 0)=_
   rw [e];rfl
  ·simp only [qw,Rat.zero_add];exact hb
 | k+1,hk,h=>by
  obtain ⟨s,e,hs⟩:=in_sum k zo (fun i hi=>h i zo);obtain ⟨b,e2,hb⟩:=h (k+1) (Nat.le_refl _);obtain ⟨e3,hi⟩:=in_add hs hb zo zo zo;refine ⟨(s.1+b.1,s.2+b.2),?_,?_⟩
  ·show (if (jo f k).2=0 then (if (f (k+1)).2=0 then Vp (fM.ku (jo f k).1 (f (k+1)).1) else ((0,0),(f (k+1)).2)) else jo f k)=_
   rw [e,e2];simp only [if_true];rw [e3];rfl
  ·have:(19980000000000000*(((k+1:Nat):Int)+1))=19980000000000000*((k:Int)+1)+19980000000000000:=by omega
   rw [this];exact hi
end Go.Proofs.matrix
namespace Go.Proofs.fM
open Go Go.RowKit Go.SW Go.Num Go.Mem Go.Proofs Go.Dec Go.dF
theorem end_ok (n:Int) (s t:ByteArray) (w:World) (h1: -9223372036854775808≤n) (h2:n≤9223372036854775807) (ht:qP.Pow w) (he:WC n 1000000000000=(⟨s,t⟩,0)) :
  Calls Tryz.prog 97 #[.int .i64 n] w (fun e w'=>e= .returned (.tuple #[.agg #[.string s,.string t],.int .i64 0])∧Below w.heap.size w w'):=by
 have H:=zh (fun W (h:qP.Pow W)=>eX.az1 n 1000000000000 h1 h2 zo zo W h);rw [he] at H;unfold Fr.res Fr.v at H;have HP:=zh ht;clear he ht h1 h2;go_enter Tryz.func97,Tryz.ntmps97
 go_wp2_with fail
 obtain ⟨wx,EW,hz,HR⟩:=al1 w #[.string ⟨#[]⟩,.string ⟨#[]⟩] 59;rw [EW];clear EW;refine (H.out _ (HP.out.later hz)).mono ?_;rintro e w1 ⟨rfl,hb⟩;have hr:=HR.out.later hb;have cr:=hr.cell;have fr:=hr.free;have hw:=Bt hz hb;go_wp2_with fail
 refine bH rfl rfl ((hr.set 0 _).set 1 _) Tryz.underlying59 rfl zk ?_;exact ⟨rfl,(hw.setCell (p:=⟨w.heap.size,0,none⟩) (Nat.le_refl _) _).setCell (p:=⟨w.heap.size,1,none⟩) (Nat.le_refl _) _⟩
theorem checkedF (F:FuncId) (free:Array Value) (lo hi:Int) (s t:ByteArray) (q:Nat) (w:World) (hv:mM lo hi=true) (hq:ah w q #[.int .i64 lo,.int .i64 hi] 69)
  (h1:∀ W,Below w.heap.size w W→Calls Tryz.prog F free W (fun e w'=>e= .returned (.tuple #[.agg #[.string s,.string t],.int .i64 0])∧Below W.heap.size W w'))
  (hen:∀ args W,(callFunc F args).run Tryz.prog W= .ok (.enter F args) W) :
  Calls Tryz.prog 95 #[.func (.func F) #[] free,.slice (some ⟨q,0,none⟩) 1 1] w (fun e w'=>e= .returned (.tuple #[.agg #[.string s,.string t],.int .i64 0])∧Below w.heap.size w w'):=by
 have HV:=zh (fun W=>hv ▸ tK lo hi W);have H1:=zh h1;clear h1 hv;go_enter Tryz.func95,Tryz.ntmps95
 go_wp2_with fail
 obtain ⟨wx,EW,hz,R⟩:=al1 w #[.string ⟨#[]⟩,.string ⟨#[]⟩] 59;rw [EW];clear EW;have HB:=zh hz;have HQ:=zh (hq.later hz);clear hz hq;go_wp2_with fail
 go_loopw [11] (fun iv wr=>∃ k:Nat,iv= .int .i64 (k:Int)∧k≤1∧Below wx.heap.size wx wr) (fun iv _=>1 - (intOf iv).toNat)
 case atStart=>exact ⟨0,rfl,by omega,Below.refl _ _⟩
 case round =>
  obtain ⟨k,rfl,hk,hb⟩:=hrel
  rcases Nat.lt_or_ge k 1 with hlt|hge
  ·obtain rfl:k=0:=by omega
   have hq:=HQ.out.later hb;have cq:=hq.cell;have lq:=hq.lt;go_wp2_with fail
   obtain ⟨wy,EW,hz,Y⟩:=al1 wr #[.int .i64 lo,.int .i64 hi] 69;rw [EW];clear EW;refine (HV.out _).mono ?_;rintro e w1 ⟨rfl,hb1⟩;have hw:=Bt hb (Bt hz hb1);clear hz hb1 Y cq lq hq;go_wp2_with fail
   go_roundw
   case rel=>exact ⟨1,by go_num,by omega,hw⟩
   case measure=>simp [intOf]<;>omega
  ·obtain rfl:k=1:=by omega
   have hB:=Bt HB.out hb;have hr0:=R.out.later hb;go_wp2_with fail
   refine (H1.out _ hB).mono ?_;rintro e w1 ⟨rfl,hb1⟩;have hw:=Bt hB hb1;have hr:=hr0.later hb1;have cr:=hr.cell;have fr:=hr.free;clear hb1 hr0;go_wp2_with fail
   refine bH rfl rfl ((hr.set 0 _).set 1 _) Tryz.underlying59 rfl zk ?_;exact ⟨rfl,(hw.setCell (p:=⟨w.heap.size,0,none⟩) (Nat.le_refl _) _).setCell (p:=⟨w.heap.size,1,none⟩) (Nat.le_refl _) _⟩
theorem checkedB (F:FuncId) (free:Array Value) (lo hi:Int) (q:Nat) (w:World) (hv:mM lo hi=true) (hq:ah w q #[.int .i64 lo,.int .i64 hi] 69)
  (h1:∀ W,Below w.heap.size w W→Calls Tryz.prog F free W (fun e w'=>e= .returned (.tuple #[.bool true,.int .i64 0])∧Below W.heap.size W w'))
  (hen:∀ args W,(callFunc F args).run Tryz.prog W= .ok (.enter F args) W) :
  Calls Tryz.prog 98 #[.func (.func F) #[] free,.slice (some ⟨q,0,none⟩) 1 1] w (fun e w'=>e= .returned (.tuple #[.bool true,.int .i64 0])∧Below w.heap.size w w'):=by
 have HV:=zh (fun W=>hv ▸ tK lo hi W);have H1:=zh h1;have HQ:=zh hq;clear h1 hv hq;go_enter Tryz.func98,Tryz.ntmps98
 obtain ⟨wx,EWX⟩:∃ y,y=w:=⟨_,rfl⟩;subst EWX;go_wp2_with fail
 go_loopw [11] (fun iv wr=>∃ k:Nat,iv= .int .i64 (k:Int)∧k≤1∧Below wx.heap.size wx wr) (fun iv _=>1 - (intOf iv).toNat)
 case atStart=>exact ⟨0,rfl,by omega,Below.refl _ _⟩
 case round =>
  obtain ⟨k,rfl,hk,hb⟩:=hrel
  rcases Nat.lt_or_ge k 1 with hlt|hge
  ·obtain rfl:k=0:=by omega
   have hq:=HQ.out.later hb;have cq:=hq.cell;have lq:=hq.lt;go_wp2_with fail
   obtain ⟨wy,EW,hz,Y⟩:=al1 wr #[.int .i64 lo,.int .i64 hi] 69;rw [EW];clear EW;refine (HV.out _).mono ?_;rintro e w1 ⟨rfl,hb1⟩;have hw:=Bt hb (Bt hz hb1);clear hz hb1 Y cq lq hq;go_wp2_with fail
   go_roundw
   case rel=>exact ⟨1,by go_num,by omega,hw⟩
   case measure=>simp [intOf]<;>omega
  ·obtain rfl:k=1:=by omega
   go_wp2_with fail
   refine (H1.out _ hb).mono ?_;rintro e w1 ⟨rfl,hb1⟩;go_wp2_with fail
   go_ret2
   exact ⟨rfl,Bt hb hb1⟩
theorem Low1_ok (lo hi:Int) (s t:ByteArray) (b:Nat) (w:World) (h:ah w b #[.int .i64 lo,.int .i64 hi] 69) (HE:∀ W,Below w.heap.size w W→Calls Tryz.prog 97 #[.int .i64 lo] W (fun e w'=>e= .returned (.tuple #[.agg #[.string s,.string t],.int .i64 0])∧Below W.heap.size W w')) :
  Calls Tryz.prog 96 #[.pointer (some ⟨b,0,none⟩)] w (fun e w'=>e= .returned (.tuple #[.agg #[.string s,.string t],.int .i64 0])∧Below w.heap.size w w'):=by
 have H:=zh HE;clear HE;go_enter Tryz.func96,Tryz.ntmps96
 have hb:=h.alloc (.cells #[.string ⟨#[]⟩,.string ⟨#[]⟩] 59);have cb:=hb.cell;have lb:=hb.lt;go_wp2_with fail
 clear cb lb hb;obtain ⟨wx,EW,hz,HR⟩:=al1 w #[.string ⟨#[]⟩,.string ⟨#[]⟩] 59;rw [EW];clear EW;refine (H.out _ hz).mono ?_;rintro e w1 ⟨rfl,hb1⟩;have hr:=HR.out.later hb1;have cr:=hr.cell;have fr:=hr.free;have hw:=Bt hz hb1;go_wp2_with fail
 refine bH rfl rfl ((hr.set 0 _).set 1 _) Tryz.underlying59 rfl zk ?_;exact ⟨rfl,(hw.setCell (p:=⟨w.heap.size,0,none⟩) (Nat.le_refl _) _).setCell (p:=⟨w.heap.size,1,none⟩) (Nat.le_refl _) _⟩
theorem Low_ok (lo hi:Int) (s t:ByteArray) (w:World) (hv:mM lo hi=true) (HE:∀ W,Below w.heap.size w W→Calls Tryz.prog 97 #[.int .i64 lo] W (fun e w'=>e= .returned (.tuple #[.agg #[.string s,.string t],.int .i64 0])∧Below W.heap.size W w')) :
  Calls Tryz.prog 46 #[.agg #[.int .i64 lo,.int .i64 hi]] w (fun e w'=>e= .returned (.tuple #[.agg #[.string s,.string t],.int .i64 0])∧Below w.heap.size w w'):=by
 have H:Hid (∀ W b q,Below w.heap.size w W→ah W b #[.int .i64 lo,.int .i64 hi] 69→ah W q #[.int .i64 lo,.int .i64 hi] 69→Calls Tryz.prog 95 #[.func (.func 96) #[] #[.pointer (some ⟨b,0,none⟩)],.slice (some ⟨q,0,none⟩) 1 1] W (fun e w'=>e= .returned (.tuple #[.agg #[.string s,.string t],.int .i64 0])∧Below W.heap.size W w')):=zh fun W b q hW h1 h2 =>
  checkedF 96 #[.pointer (some ⟨b,0,none⟩)] lo hi s t q W hv h2 (fun W' hW'=>Low1_ok lo hi s t b W' (h1.later hW') (fun W2 h3=>HE W2 (Bt hW (Bt hW' h3)))) (fun args W=>by rfl)
 clear HE hv;go_enter Tryz.func46,Tryz.ntmps46
 go_wp2_with fail
 obtain ⟨wx,EW,hz,X,R,Z⟩:=al3 w #[.int .i64 lo,.int .i64 hi] 69 #[.string ⟨#[]⟩,.string ⟨#[]⟩] 59 #[.int .i64 lo,.int .i64 hi] 69;rw [EW];clear EW;refine (H.out _ _ _ hz X.out Z.out).mono ?_;rintro e w1 ⟨rfl,hb1⟩;have hr:=R.out.later hb1;have cr:=hr.cell;have fr:=hr.free;have hw:=Bt hz hb1;clear H;go_wp2_with fail
 refine bH rfl rfl ((hr.set 0 _).set 1 _) Tryz.underlying59 rfl zk ?_;exact ⟨rfl,(hw.setCell (p:=⟨w.heap.size+1,0,none⟩) (by show w.heap.size≤w.heap.size+1;omega) _).setCell (p:=⟨w.heap.size+1,1,none⟩) (by show w.heap.size≤w.heap.size+1;omega) _⟩
theorem Has1_ok (lo hi o1 o2:Int) (s t s1 t1 s2 t2:ByteArray) (b q:Nat) (w:World) (ho1:0≤o1) (ho2:o2≤0) (h:ah w b #[.int .i64 lo,.int .i64 hi] 69) (hq:ah w q #[.string s,.string t] 59)
  (Pv:∀ W,Below w.heap.size w W→Calls Tryz.prog 97 #[.int .i64 lo] W (fun e w'=>e= .returned (.tuple #[.agg #[.string s1,.string t1],.int .i64 0])∧Below W.heap.size W w'))
  (HE2:∀ W,Below w.heap.size w W→Calls Tryz.prog 97 #[.int .i64 hi] W (fun e w'=>e= .returned (.tuple #[.agg #[.string s2,.string t2],.int .i64 0])∧Below W.heap.size W w'))
  (xI:∀ W,Calls Tryz.prog 100 #[.agg #[.string s,.string t],.agg #[.string s1,.string t1]] W (fun e w'=>e= .returned (.tuple #[.int .i64 o1,.int .i64 0])∧Below W.heap.size W w'))
  (EJ:∀ W,Calls Tryz.prog 100 #[.agg #[.string s,.string t],.agg #[.string s2,.string t2]] W (fun e w'=>e= .returned (.tuple #[.int .i64 o2,.int .i64 0])∧Below W.heap.size W w')) :
  Calls Tryz.prog 99 #[.pointer (some ⟨b,0,none⟩),.pointer (some ⟨q,0,none⟩)] w (fun e w'=>e= .returned (.tuple #[.bool true,.int .i64 0])∧Below w.heap.size w w'):=by
 have d1:decide (0≤o1)=true:=decide_eq_true ho1;have d2:decide (o2≤0)=true:=decide_eq_true ho2;have K1:=zh Pv;have K2:=zh HE2;have K3:=zh xI;have K4:=zh EJ;have X:=zh h;have Y:=zh hq;clear Pv HE2 xI EJ h hq ho1 ho2;go_enter Tryz.func99,Tryz.ntmps99
 have cX:=X.out.cell;have lX:=X.out.lt;go_wp2_with fail
 clear cX lX;refine (K1.out _ (Below.refl _ _)).mono ?_;rintro e w1 ⟨rfl,hb1⟩;have hx:=(X.out.later hb1).alloc (.cells #[.string s1,.string t1] 59);have cX:=hx.cell;have lX:=hx.lt;go_wp2_with fail
 clear cX lX hx;obtain ⟨w2,EW,hz,A1⟩:=al1 w1 #[.string s1,.string t1] 59;rw [EW];obtain ⟨q1,eq1⟩:∃ y,w1.heap.size=y:=⟨_,rfl⟩;rw [eq1] at A1 ⊢;have HB:=zh (Bt hb1 hz);clear EW eq1 hz hb1;refine (K2.out _ HB.out).mono ?_;rintro e w3 ⟨rfl,hb3⟩;replace HB:=zh (Bt HB.out hb3);replace A1:=zh (A1.out.later hb3);have hy:=(Y.out.later HB.out).alloc (.cells #[.string s2,.string t2] 59);have cY:=hy.cell;have lY:=hy.lt;have ha:=A1.out.alloc (.cells #[.string s2,.string t2] 59);have cA:=ha.cell;have lA:=ha.lt;go_wp2_with fail
 clear cY lY hy ha cA lA;obtain ⟨w4,EW,hz,A2⟩:=al1 w3 #[.string s2,.string t2] 59;rw [EW];obtain ⟨q2,eq2⟩:∃ y,w3.heap.size=y:=⟨_,rfl⟩;rw [eq2] at A2 ⊢;replace HB:=zh (Bt HB.out hz);clear EW eq2 hz hb3;refine (K3.out _).mono ?_;rintro e w5 ⟨rfl,hb5⟩;replace HB:=zh (Bt HB.out hb5);replace A2:=zh (A2.out.later hb5);have hy:=Y.out.later HB.out;have cY:=hy.cell;have lY:=hy.lt;have cA:=A2.out.cell;have lA:=A2.out.lt;go_wp2_with fail
 clear cY lY hy cA lA;refine (K4.out _).mono ?_;rintro e w6 ⟨rfl,hb6⟩;go_wp2_with fail
 go_ret2
 exact ⟨rfl,Bt HB.out hb6⟩
theorem Has_ok (lo hi o1 o2:Int) (s t s1 t1 s2 t2:ByteArray) (w:World) (hv:mM lo hi=true) (ho1:0≤o1) (ho2:o2≤0)
  (Pv:∀ W,Below w.heap.size w W→Calls Tryz.prog 97 #[.int .i64 lo] W (fun e w'=>e= .returned (.tuple #[.agg #[.string s1,.string t1],.int .i64 0])∧Below W.heap.size W w'))
  (HE2:∀ W,Below w.heap.size w W→Calls Tryz.prog 97 #[.int .i64 hi] W (fun e w'=>e= .returned (.tuple #[.agg #[.string s2,.string t2],.int .i64 0])∧Below W.heap.size W w'))
  (xI:∀ W,Calls Tryz.prog 100 #[.agg #[.string s,.string t],.agg #[.string s1,.string t1]] W (fun e w'=>e= .returned (.tuple #[.int .i64 o1,.int .i64 0])∧Below W.heap.size W w'))
  (EJ:∀ W,Calls Tryz.prog 100 #[.agg #[.string s,.string t],.agg #[.string s2,.string t2]] W (fun e w'=>e= .returned (.tuple #[.int .i64 o2,.int .i64 0])∧Below W.heap.size W w')) :
  Calls Tryz.prog 47 #[.agg #[.int .i64 lo,.int .i64 hi],.agg #[.string s,.string t]] w (fun e w'=>e= .returned (.tuple #[.bool true,.int .i64 0])∧Below w.heap.size w w'):=by
 have H:Hid (∀ W b c q,Below w.heap.size w W→ah W b #[.int .i64 lo,.int .i64 hi] 69→ah W c #[.string s,.string t] 59→ah W q #[.int .i64 lo,.int .i64 hi] 69→Calls Tryz.prog 98 #[.func (.func 99) #[] #[.pointer (some ⟨b,0,none⟩),.pointer (some ⟨c,0,none⟩)],.slice (some ⟨q,0,none⟩) 1 1] W (fun e w'=>e= .returned (.tuple #[.bool true,.int .i64 0])∧Below W.heap.size W w')):=zh fun W b c q hW h1 h2 h3 =>
  checkedB 99 #[.pointer (some ⟨b,0,none⟩),.pointer (some ⟨c,0,none⟩)] lo hi q W hv h3 (fun W' hW'=>Has1_ok lo hi o1 o2 s t s1 t1 s2 t2 b c W' ho1 ho2 (h1.later hW') (h2.later hW') (fun W2 h4=>Pv W2 (Bt hW (Bt hW' h4))) (fun W2 h4=>HE2 W2 (Bt hW (Bt hW' h4))) xI EJ) (fun args W=>by rfl)
 clear Pv HE2 xI EJ hv ho1 ho2;go_enter Tryz.func47,Tryz.ntmps47
 go_wp2_with fail
 obtain ⟨wx,EW,hz,X,R,Z⟩:=al3 w #[.int .i64 lo,.int .i64 hi] 69 #[.string s,.string t] 59 #[.int .i64 lo,.int .i64 hi] 69;rw [EW];clear EW;refine (H.out _ _ _ _ hz X.out R.out Z.out).mono ?_;rintro e w1 ⟨rfl,hb1⟩;clear H;go_wp2_with fail
 go_ret2
 exact ⟨rfl,Bt hz hb1⟩
end Go.Proofs.fM
namespace Go.Proofs.verdigrislaw05
open Go Go.RowKit Go.SW Go.Num Go.Mem Go.Proofs Go.Dec Go.dF Go.Proofs.fM Go.Proofs.matrix Go.Proofs.verdigrisref03
theorem un_ht {n:Int} (h:n.natAbs≤1000000000000000000):Ht 18 (un n):=⟨n,1000000000000,by omega,by decide+kernel,Nat.le_trans h (by decide+kernel),rfl⟩
theorem un_ok {n:Int} (h:n.natAbs≤1000000000000000000):iU (un n)=true:=(un_ht h).ok zo
theorem end_at (n:Int) (h:n.natAbs≤1000000000000000000) (W:World) (ht:qP.Pow W) :
  Calls Tryz.prog 97 #[.int .i64 n] W (fun e w'=>e= .returned (.tuple #[.agg #[.string (Fr.of (un n)).n,.string (Fr.of (un n)).d],.int .i64 0])∧Below W.heap.size W w'):=by
 refine end_ok n _ _ W zo zo ht ?_;unfold WC;rw [if_neg zo]
 show dF.wr (un n)=_
 unfold dF.wr;rw [if_pos (un_ok h)]
theorem low_at {lo hi:Int} (h1: -20000000000000≤lo) (h2:lo≤hi) (h3:hi≤20000000000000) (W:World) (ht:qP.Pow W) :
  Calls Tryz.prog 46 #[.agg #[.int .i64 lo,.int .i64 hi]] W (fun e w'=>e= .returned (.tuple #[.agg #[.string (Fr.of (un lo)).n,.string (Fr.of (un lo)).d],.int .i64 0])∧Below W.heap.size W w') :=
 Low_ok lo hi _ _ W (bok_yes zo h2 zo) fun W2 h=>end_at lo zo W2 (ht.later h)
theorem cmp_at {p q:Rat} (hp:iU p=true) (hq:iU q=true) (W:World) :
  Calls Tryz.prog 100 #[.agg #[.string (Fr.of p).n,.string (Fr.of p).d],.agg #[.string (Fr.of q).n,.string (Fr.of q).d]] W (fun e w'=>e= .returned (.tuple #[.int .i64 (JN p q),.int .i64 0])∧Below W.heap.size W w'):=by
 have:=eX.ai4 (Fr.of p) (Fr.of q) W;rw [show OE (Fr.of p) (Fr.of q)=(JN p q,0) by unfold OE;rw [QO hp,QO hq]] at this;exact this
theorem has_at {b:Int × Int} {q:Rat} {M:Int} (h:In b q M) (hM:M≤1000000000000000000) (hq:iU q=true) (W:World) (ht:qP.Pow W) :
  Calls Tryz.prog 47 #[.agg #[.int .i64 b.1,.int .i64 b.2],.agg #[.string (Fr.of q).n,.string (Fr.of q).d]] W (fun e w'=>e= .returned (.tuple #[.bool true,.int .i64 0])∧Below W.heap.size W w'):=by
 have hle:=h.le;obtain ⟨g1,g2,g3,g4⟩:=id h;have n1:b.1.natAbs≤1000000000000000000:=by omega
 have n2:b.2.natAbs≤1000000000000000000:=by omega
 exact Has_ok b.1 b.2 (JN q (un b.1)) (JN q (un b.2)) _ _ _ _ _ _ W (h.mM hM)
  (by unfold JN;rw [if_neg (by grind)];split<;>omega)
  (by unfold JN;split;omega;rw [if_neg (by grind)];omega)
  (fun W2 h2=>end_at b.1 n1 W2 (ht.later h2)) (fun W2 h2=>end_at b.2 n2 W2 (ht.later h2))
  (fun W2=>cmp_at hq (un_ok n1) W2) (fun W2=>cmp_at hq (un_ok n2) W2)
end Go.Proofs.verdigrislaw05
namespace Go.Proofs.matrix
open Go Go.Num Go.Proofs Go.dF Go.Proofs.aI
theorem dot_ht {k a b:Nat} (hk:1≤k∧k≤4) {u v:Nat→Rat} (hu:∀ i,i<k→Ht a (u i)) (hv:∀ i,i<k→Ht b (v i)):Ht (4*(a+b)+3) (smR k fun l=>u l*v l):=smR_ht hk fun i hi=>(hu i hi).mul (hv i hi)
theorem app_mk {r k:Nat} (hk:1≤k∧k≤4) (f:Nat→Nat→Rat) (x:Nat→Rat):((mkR r k f).map fun s=>iV s ((List.range k).map x))=(List.range r).map fun i=>smR k fun l=>f i l*x l:=by
 unfold mkR;rw [List.map_map];exact List.map_congr_left fun i _=>dot_smR hk _ _
end Go.Proofs.matrix
namespace Go.Proofs.verdigrislaw05
open Go Go.RowKit Go.SW Go.Num Go.Mem Go.Proofs Go.Dec Go.dF Go.Proofs.matrix Go.Proofs.aI
theorem aP.none (w:World):aP w (.slice none 0 0) []:=⟨[],Row.nil _ _,rfl,fun i hi=>by cases hi⟩
end Go.Proofs.verdigrislaw05
namespace Go.SW
open Go Go.RowKit
variable {P:Program} {ops:Array Oper} {Q:Exit→Act→World→Prop}
theorem addE_some {x y i:Nat} {o:Oper} (h:ops[i]? =some o):∃ o',(ku x y ops)[i]? =some o'∧o'.dst=o.dst∧o'.op=o.op∧o'.guard=o.guard∧(∀ (a:Act) (w:World) K R,o.wp P a w K R→o'.wp P a w K R)∧(∀ f,Region.wanted o' f=Region.wanted o f)∧(∀ ρ,execOp ρ o'=execOp ρ o)∧∀ (a:Act) (w:World),Oper.asks P o a w→Oper.asks P o' a w:=by
 refine ⟨_,by rw [uS,h];rfl,?_,?_,?_,?_,?_,?_,?_⟩
 all_goals split<;>first|rfl|exact fun _ _ _ _ h=>h|exact fun _=>rfl|exact fun _ _ h=>h
theorem addE_wpOps' (x y:Nat):∀ (l:List Nat) (a:Act) (w:World),wpOps P ops Q l a w→wpOps P (ku x y ops) Q l a w
 | [],_,_,h=>h
 | i::l,a,w,h=>by
  have ih:=addE_wpOps' x y l;unfold wpOps at h ⊢;have hy:yielded (ku x y ops) a.tmps=yielded ops a.tmps:=funext fun g=>Dr x y _ g;rw [hy];cases ho:ops[i]? with
  | none =>
   rw [uS,ho,Option.map_none];simp only [ho] at h ⊢;exact ih _ _ h
  | some o =>
   obtain ⟨o',h1,h2,h3,h4,h5,h6,h7,h8⟩:=addE_some (P:=P) (x:=x) (y:=y) ho;rw [h1];simp only [ho,h6,h2] at h ⊢;split at h
   ·rename_i hw;rw [if_pos hw]
    rcases h with h|h
    ·exact .inl (h5 _ _ _ _ (Oper.wp_mono ih h))
    ·exact .inr ⟨h8 _ _ h.1,h.2⟩
   ·rename_i hw;rw [if_neg hw];exact ih _ _ h
theorem walk_addE (x y N:Nat):∀ (is:List (K × Nat)) (A:List Nat) (a:Act) (w:World),walk P ops Q N is A a w→walk P (ku x y ops) Q N is A a w
 | [],_,_,_,h=>h
 | (k,i)::is,A,a,w,h=>by
  have ih:=walk_addE x y N is;unfold walk at h ⊢;have hy:yielded (ku x y ops) a.tmps=yielded ops a.tmps:=funext fun g=>Dr x y _ g;rw [hy];cases ho:ops[i]? with
  | none=>rw [ho] at h;exact h.elim
  | some o =>
   obtain ⟨o',h1,h2,h3,h4,h5,h6,h7,h8⟩:=addE_some (P:=P) (x:=x) (y:=y) ho;rw [ho] at h;rw [h1];cases k with
   | pure =>
    simp only [h6,h7,h2] at h ⊢;split at h
    ·rename_i hw;rw [if_pos hw];obtain ⟨v,k1,k2⟩:=h;exact ⟨v,k1,ih _ _ _ k2⟩
    ·rename_i hw;rw [if_neg hw];exact ih _ _ _ h
   | read =>
    simp only [h6,h7,h2] at h ⊢;split at h
    ·rename_i hw;rw [if_pos hw];obtain ⟨v,k1,k2⟩:=h;exact ⟨v,k1,ih _ _ _ k2⟩
    ·rename_i hw;rw [if_neg hw];exact ih _ _ _ h
   | alloc cs T =>
    simp only [h2] at h ⊢;exact fun b w' k1 k2 k3 k4 k5=>ih _ _ _ (h b w' k1 k2 k3 k4 k5)
   | ext =>
    simp only [h6,h2] at h ⊢;split at h
    ·rename_i hw;rw [if_pos hw];exact fun w' k1=>h5 _ _ _ _ (Oper.wp_mono (fun a' w'' k=>⟨k.1,ih _ _ _ k.2⟩) (h w' k1))
    ·rename_i hw;rw [if_neg hw];exact ih _ _ _ h
   | fin =>
    exact fun w' k1=>addE_wpOps' x y _ _ _ (h w' k1)
inductive St|one (k:K) (i:Nat)|two (i j:Nat)
variable {o:Oper} {i:Nat} {is:List St} {a:Act} {w:World} {N:Nat} {A:List Nat}
end Go.SW
namespace Go.Proofs.verdigrislaw05
open Go Go.RowKit Go.SW Go.Num Go.Mem Go.Proofs Go.Dec Go.dF Go.Proofs.matrix Go.Proofs.aI
def GivC (w:World) (f:FuncId) (args:Array Value) (n:Nat) (M:List (List Fr)):Prop:=∀ W,Below w.heap.size w W→Calls Tryz.prog f args W (fun e w'=>∃ a c,e= .returned (.slice a n c)∧Below W.heap.size W w'∧aP w' (.slice a n c) M)
def PairAt (w:World) (b o:Nat) (M N:List (List Fr)):Prop:=∃ a n c a' n' c',w.cell? ⟨b,o,none⟩=some (.slice a n c)∧w.cell? ⟨b,o+1,none⟩=some (.slice a' n' c')∧aP w (.slice a n c) M∧aP w (.slice a' n' c') N
theorem PairAt.later {w w':World} {b o:Nat} {M N:List (List Fr)} (h:PairAt w b o M N) (hb:Below w.heap.size w w') (hl:b<w.heap.size):PairAt w' b o M N:=by
 obtain ⟨a,n,c,a',n',c',h1,h2,h3,h4⟩:=h;exact ⟨a,n,c,a',n',c',(hb.cell (p:=⟨b,o,none⟩) hl).trans h1,(hb.cell (p:=⟨b,o+1,none⟩) hl).trans h2,h3.later hb,h4.later hb⟩
def Pairs (w:World) (v:Value) (MA MB M1 M2 M4 M5:List (List Fr)):Prop:=∃ b,v= .slice (some ⟨b,0,none⟩) 4 4∧b<w.heap.size∧PairAt w b 0 MA MB∧PairAt w b 2 M1 M2∧PairAt w b 4 M1 M4∧PairAt w b 6 M5 MB
theorem Pairs.later {w w':World} {v:Value} {MA MB M1 M2 M4 M5:List (List Fr)} (h:Pairs w v MA MB M1 M2 M4 M5) (hb:Below w.heap.size w w'):Pairs w' v MA MB M1 M2 M4 M5:=by
 obtain ⟨b,h1,h2,h3,h4,h5,h6⟩:=h;exact ⟨b,h1,Nat.lt_of_lt_of_le h2 hb.size,h3.later hb h2,h4.later hb h2,h5.later hb h2,h6.later hb h2⟩
end Go.Proofs.verdigrislaw05
namespace Go.Proofs.verdigrislaw05
open Go Go.RowKit Go.SW Go.Num Go.Mem Go.Proofs Go.Dec Go.dF Go.Proofs.matrix Go.Proofs.aI
def AnyL (W:World) (n:Nat) (k:Int) (R:List Fr) (e:Ending) (w':World):Prop:=∃ a c,e= .returned (.tuple #[.slice a n c,.int .i64 k])∧Below W.heap.size W w'∧gH w' 59 (.slice a n c) R
def orL (k:Int) (l:List Fr):List Fr:=if k=0 then l else []
theorem frs_none (w:World) (T:TypeId):gH w T (.slice none 0 0) []:=⟨none,0,rfl,Nat.le_refl _,by omega,fun _=>rfl,fun ad h=>by cases h⟩
theorem anyL_of {W w':World} {k:Int} {l:List Fr} {n:Nat} {e:Ending} (h:LisPost W k l e w') (hn:(orL k l).length=n):AnyL W n k (orL k l) e w':=by
 obtain ⟨h1,v,rfl,h2,h3⟩:=h;subst hn;unfold orL
 by_cases hk:k=0
 ·rw [if_pos hk];obtain ⟨a,c,rfl,hr⟩:=h2 hk;exact ⟨a,c,rfl,h1,h2 hk⟩
 ·rw [if_neg hk];rw [h3 hk];exact ⟨none,0,rfl,h1,frs_none w' _⟩
def GivL (w:World) (f:FuncId) (args:Array Value) (n:Nat) (L:List Fr):Prop:=∀ W,Below w.heap.size w W→Calls Tryz.prog f args W (fun e w'=>∃ a c,e= .returned (.slice a n c)∧Below W.heap.size W w'∧gH w' 59 (.slice a n c) L)
theorem GivL.from {w w':World} {f:FuncId} {args:Array Value} {n:Nat} {L:List Fr} (h:GivL w f args n L) (hb:Below w.heap.size w w'):GivL w' f args n L:=fun W hW=>h W (Bt hb hW)
theorem Pairs.at {w:World} {v:Value} {MA MB M1 M2 M4 M5:List (List Fr)} (h:Pairs w v MA MB M1 M2 M4 M5) (hL:∀ M,M∈[MA,MB,M1,M2,M4,M5]→Little M) :
  ∃ b o,v= .slice (some ⟨b,o,none⟩) 4 4∧b<w.heap.size∧∀ k,k<4→∃ a n c a' n' c' M N,w.cell? ⟨b,o+k*2,none⟩=some (.slice a n c)∧w.cell? ⟨b,o+k*2+1,none⟩=some (.slice a' n' c')∧aP w (.slice a n c) M∧aP w (.slice a' n' c') N∧Little M∧Little N∧M.length=n∧N.length=n':=by
 obtain ⟨b,rfl,hb,h0,h2,h4,h6⟩:=h;refine ⟨b,0,rfl,hb,fun k hk=>?_⟩
 have key:∀ {M N:List (List Fr)},PairAt w b (k*2) M N→Little M→Little N→∃ a n c a' n' c' M N,w.cell? ⟨b,0+k*2,none⟩=some (.slice a n c)∧w.cell? ⟨b,0+k*2+1,none⟩=some (.slice a' n' c')∧aP w (.slice a n c) M∧aP w (.slice a' n' c') N∧Little M∧Little N∧M.length=n∧N.length=n':=fun {M N} h lm ln=>by
  obtain ⟨a,n,c,a',n',c',e1,e2,e3,e4⟩:=h;rw [Nat.zero_add];refine ⟨a,n,c,a',n',c',M,N,e1,e2,e3,e4,lm,ln,?_,?_⟩
  ·obtain ⟨x,y,e⟩:=aP.sl e3;simp only [Value.slice.injEq] at e;exact e.2.1.symm
  ·obtain ⟨x,y,e⟩:=aP.sl e4;simp only [Value.slice.injEq] at e;exact e.2.1.symm
 have:k=0∨k=1∨k=2∨k=3:=by omega
 rcases this with rfl|rfl|rfl|rfl
 ·exact key h0 (hL _ zi) (hL _ zi)
 ·exact key h2 (hL _ zi) (hL _ zi)
 ·exact key h4 (hL _ zi) (hL _ zi)
 ·exact key h6 (hL _ zi) (hL _ zi)
end Go.Proofs.verdigrislaw05
namespace Go.Proofs.aI
open Go Go.RowKit Go.SW Go.Num Go.Mem Go.Proofs Go.Dec Go.dF Go.Proofs.fM Go.Proofs.matrix Go.Proofs.aL Go.Proofs.verdigrisref03
theorem bsum_zero_no {f:Nat→(Int × Int) × Int} {k:Int} (h:(f 0).2=k) (hk:¬ k=0):jo f 0=((0,0),k):=by
 show Vp (f 0)=_
 rw [RG (by rw [h];exact hk),h]
theorem bsum_no {f:Nat→(Int × Int) × Int} {i:Nat} {s:Int × Int} {k:Int} (hs:jo f i=(s,0)) (h:(f (i+1)).2=k) (hk:¬ k=0):jo f (i+1)=((0,0),k):=by
 show (if (jo f i).2=0 then (if (f (i+1)).2=0 then Vp (fM.ku (jo f i).1 (f (i+1)).1) else ((0,0),(f (i+1)).2)) else jo f i)=_
 rw [if_pos (by rw [hs]),if_neg (by rw [h];exact hk),h]
def SoFar (f:Nat→(Int × Int) × Int) (i:Nat) (s:Int × Int):Prop:=(i=0∧s=(0,0))∨∃ j,i=j+1∧jo f j=(s,0)
theorem SoFar.no {f:Nat→(Int × Int) × Int} {i:Nat} {s:Int × Int} {k:Int} (h:SoFar f i s) (h2:(f i).2=k) (hk:¬ k=0):jo f i=((0,0),k):=by
 rcases h with ⟨rfl, -⟩|⟨j,rfl,hj⟩
 ·exact bsum_zero_no h2 hk
 ·exact bsum_no hj h2 hk
end Go.Proofs.aI
namespace Go.Proofs.aI
open Go Go.RowKit Go.SW Go.Num Go.Mem Go.Proofs Go.Dec Go.dF Go.Proofs.fM Go.Proofs.matrix Go.Proofs.aL Go.Proofs.verdigrisref03
def RBd:Rl (Int × Int):=fun _ b c=>c=[.int .i64 b.1,.int .i64 b.2]
theorem RBd.stay (m:List TypeId):sV m RBd:=fun _ _ _ _ _ h=>h
theorem bds_slV {w:World} {T T':TypeId} {v:Value} {l:List (Int × Int)} (h:SlV w T 2 RBd v l):vC w T' v l:=by
 obtain ⟨a,cap,h1,h2,h3,h4⟩:=h.read;refine ⟨a,cap,h1,h2,h3,fun k hk=>?_⟩;obtain ⟨b,off,c,k1,k2,k3, -, k5⟩:=h4 k hk;have e:c=[.int .i64 l[k].1,.int .i64 l[k].2]:=k3;subst e;exact ⟨b,off,k1,k2,k5 0 zo,k5 1 zo⟩
end Go.Proofs.aI
namespace Go.dF
open Go Go.RowKit Go.SW Go.Num Go.Mem Go.Proofs
def bcs (l:List (Int × Int)):List Value:=l.flatMap fun b=>[.int .i64 b.1,.int .i64 b.2]
theorem bcs_length (l:List (Int × Int)):(bcs l).length=l.length*2:=by
 induction l with
 | nil=>rfl
 | cons b t ih =>
  have:bcs (b::t)=[.int .i64 b.1,.int .i64 b.2]++bcs t:=rfl;rw [this,List.length_append,ih,List.length_cons,List.length_cons,List.length_cons,List.length_nil];omega
def Own (w:World) (B:Nat) (T:TypeId) (v:Value) (l:List (Int × Int)):Prop:=w.ownsRow B T 2 v l.length (bcs l)
theorem Own.nil (w:World) (B:Nat) (T:TypeId):Own w B T (.slice none 0 0) []:=World.ownsRow_nil w B T 2
theorem Own.cases {w:World} {B:Nat} {T:TypeId} {v:Value} {l:List (Int × Int)} (h:Own w B T v l) :
  (v= .slice none 0 0∧l=[])∨∃ g cap cur,v= .slice (some ⟨g,0,none⟩) l.length cap∧B≤g∧ah w g cur T∧l.length≤cap∧cap≤maxLen∧cur.size=cap*2∧cur.toList.take (l.length*2)=bcs l:=by
 rcases h.2 with ⟨h1,h2⟩|⟨g,cap,cur,h1,h2,h3,h4⟩
 ·exact .inl ⟨h1,List.length_eq_zero_iff.1 h2⟩
 ·exact .inr ⟨g,cap,cur,h1,h2,h3,h4⟩
theorem Own.mk {w:World} {B g cap:Nat} {T:TypeId} {l:List (Int × Int)} {cur:Array Value} (h1:B≤g) (h2:ah w g cur T) (h3:l.length≤cap) (h4:cap≤maxLen) (h5:cur.size=cap*2) (h6:cur.toList.take (l.length*2)=bcs l):Own w B T (.slice (some ⟨g,0,none⟩) l.length cap) l :=
 ⟨bcs_length l,.inr ⟨g,cap,cur,rfl,h1,h2,h3,h4,h5,h6⟩⟩
theorem Own.slice {w:World} {B:Nat} {T:TypeId} {v:Value} {l:List (Int × Int)} (h:Own w B T v l):∃ a c,v= .slice a l.length c:=by
 rcases h.cases with ⟨rfl,rfl⟩|⟨g,cap,cur,rfl, -⟩
 ·exact ⟨_,_,rfl⟩
 ·exact ⟨_,_,rfl⟩
theorem Own.later {w w':World} {B:Nat} {T:TypeId} {v:Value} {l:List (Int × Int)} (h:Own w B T v l) (hb:Below w.heap.size w w'):Own w' B T v l:=by
 rcases h.cases with ⟨rfl,rfl⟩|⟨g,cap,cur,rfl,h1,h2,h3,h4,h5,h6⟩
 ·exact Own.nil _ _ _
 ·exact Own.mk h1 (h2.later hb) h3 h4 h5 h6
theorem Own.kept {w w':World} {B:Nat} {T:TypeId} {v:Value} {l:List (Int × Int)} {row:Option Nat} (h:Own w B T v l) (hg:w.grownBy w' row) (hne:∀ r,v.ownBlock=some r→row≠some r):Own w' B T v l:=by
 rcases h.cases with ⟨rfl,rfl⟩|⟨g,cap,cur,rfl,h1,h2,h3,h4,h5,h6⟩
 ·exact Own.nil _ _ _
 ·refine Own.mk h1 ?_ h3 h4 h5 h6;have:=hg.block g h2.lt (fun e=>hne g rfl e.symm);unfold ah at *;rw [this];exact h2
theorem Own.lt {w:World} {B:Nat} {T:TypeId} {v:Value} {l:List (Int × Int)} (h:Own w B T v l):∀ r,v.ownBlock=some r→B≤r∧r<w.heap.size:=fun r hr=>by
 rcases h.cases with ⟨rfl,rfl⟩|⟨g,cap,cur,rfl,h1,h2, -⟩
 ·cases hr
 ·cases hr
  exact ⟨h1,h2.lt⟩
theorem ah.grown {w w':World} {b:Nat} {cs:Array Value} {T:TypeId} {row:Option Nat} (h:ah w b cs T) (hg:w.grownBy w' row) (hne:row≠some b):ah w' b cs T:=by
 have:=hg.block b h.lt (fun e=>hne e.symm);unfold ah at *;rw [this];exact h
def Drs (w:World) (v:Value) (l:List (Int × Int)):Prop :=
 ∃ a cap,v= .slice a l.length cap∧l.length≤cap∧cap≤9223372036854775807∧∀ k (_:k<l.length),∃ b off,a=some ⟨b,off,none⟩∧b<w.heap.size∧w.cell? ⟨b,off+k*2,none⟩=some (.int .i64 l[k].1)∧w.cell? ⟨b,off+k*2+1,none⟩=some (.int .u32 l[k].2)∧0≤l[k].2∧l[k].2≤4294967295
theorem Drs.later {w w':World} {v:Value} {l:List (Int × Int)} (h:Drs w v l) (hb:Below w.heap.size w w'):Drs w' v l:=by
 obtain ⟨a,cap,h1,h2,h3,h4⟩:=h;refine ⟨a,cap,h1,h2,h3,fun k hk=>?_⟩;obtain ⟨b,off,h5,h6,h7,h8,h9⟩:=h4 k hk;exact ⟨b,off,h5,Nat.lt_of_lt_of_le h6 hb.size,(hb.cell (p:=⟨b,off+k*2,none⟩) h6).trans h7,(hb.cell (p:=⟨b,off+k*2+1,none⟩) h6).trans h8,h9⟩
theorem drs_at {w:World} {a:Option Addr} {n c:Nat} {l:List (Int × Int)} (h:Drs w (.slice a n c) l) (hl:l.length=n) (k:Nat) (hk:k<n) :
  ∃ b off x y,a=some ⟨b,off,none⟩∧b<w.heap.size∧w.cell? ⟨b,off+k*2,none⟩=some (.int .i64 x)∧w.cell? ⟨b,off+k*2+1,none⟩=some (.int .u32 y)∧0≤y∧y≤4294967295:=by
 obtain ⟨a',cap,e,h1,h2,h3⟩:=h;cases e
 obtain ⟨b,off,h4⟩:=h3 k hk;exact ⟨b,off,_,_,h4⟩
end Go.dF
namespace Go.Proofs.verdigrislaw05
open Go Go.RowKit Go.SW Go.Num Go.Mem Go.Proofs Go.Proofs.fM
theorem tmod_bounds {z:Int} {m:Nat} (hm:0<m): -(m:Int)<Int.tmod z m∧Int.tmod z m<m:=by
 have h1:=Int.natAbs_tmod z m;have h2:=Nat.mod_lt z.natAbs hm;simp only [Int.natAbs_natCast] at h1;omega
theorem Im (at' wide:Int) (w0:0≤wide) (w1:wide≤4294967295) (w:World) :
  Calls Tryz.prog 40 #[.agg #[.int .i64 at',.int .u32 wide]] w (fun e w'=>(∃ lo hi:Int,e= .returned (.agg #[.int .i64 lo,.int .i64 hi])∧ -19000000000000<lo∧lo≤hi∧hi≤19000001000000)∧Below w.heap.size w w'):=by
 obtain ⟨b1,b2⟩:=tmod_bounds (z:=at') (m:=19000000000000) zo;generalize hm:Int.tmod at' 19000000000000=m at *;go_enter Tryz.func40,Tryz.ntmps40
 go_wp2_with fail
 all_goals
  refine dO rfl rfl boxA Tryz.underlying69 rfl zk ?_;exact ⟨⟨_,_,rfl,by omega,by omega,by omega⟩,belA⟩
end Go.Proofs.verdigrislaw05
