/- Lemmas for the proof. No condition. -/
import Derived.Test.YtbngfhgoeoncmaaGreatDoorTB26
set_option linter.unusedVariables false
set_option linter.unusedSimpArgs false
set_option maxRecDepth 100000
set_option maxHeartbeats 16000000
open Bool renaming and_eq_true → aD, false_eq_true → bK
open Go.Ending renaming returned → ah
open Go.IntKind renaming i64 → I
open Go.Value renaming agg → aB, int → Z, string → O, tuple → aF
open List renaming range → bI
namespace Go.Proofs.dw
open Go Go.RowKit Go.SW Go.Num Go.Mem Go.Proofs Go.Dec Go.d9
theorem Sd (p:Rat) (h:0≤p) (n:Nat):((p^n).num=((p.num.natAbs^n:Nat):Int))∧(p^n).den=p.den^n:=by
 have h0:0≤p.num:=by
  rw [Rat.num_nonneg];exact h
 refine ⟨?_,Rat.den_pow p n⟩;rw [Rat.num_pow,Int.natCast_pow,Int.natAbs_of_nonneg h0]
theorem wm (p:Rat) (n:Nat) (hp:iG p=true) (h0:0≤p) (n40:n≤40) (w:World) (ht:iA.Pow w) :
  Calls Tryz.prog 145 #[(Fr.of p).v,Z I (n:Int)] w (fun e w'=>e= ah (Fr.res (wr (p^n)))∧Below w.heap.size w w'):=by
 obtain ⟨e1,e2⟩:=Sd p h0 n
 have hn0:0≤p.num:=by
  rw [Rat.num_nonneg];exact h0
 have hq:=mF hp;have HC:=zh (fun W=>gQ (Fr.of p) W);unfold Cc at HC;rw [hq] at HC;obtain ⟨o1,o2⟩:mQ p.num.natAbs=true∧mQ p.den=true:=by simpa [iG] using hp
 have H1:=zh (fun W h=>whole.wm p.num.natAbs n o1 n40 W h);have H2:=zh (fun W h=>whole.wm p.den n o2 n40 W h);have HP:=zh ht
 have ev:(Fr.of p).v= aB #[dX ((p.num.natAbs:Nat):Int),dX ((p.den:Nat):Int)]:=by
  rw [Int.natAbs_of_nonneg hn0];rfl
 have er:Fr.res (wr (p^n))=if mQ (p.num.natAbs^n)=true then if mQ (p.den^n)=true then aF #[aB #[dX ((p.num.natAbs^n:Nat):Int),dX ((p.den^n:Nat):Int)],Z I 0] else aF #[aB #[O ⟨#[]⟩,O ⟨#[]⟩],Z I 6] else aF #[aB #[O ⟨#[]⟩,O ⟨#[]⟩],Z I 6]:=by
  have eo:iG (p^n)=(mQ (p.num.natAbs^n)&&mQ (p.den^n)):=by
   unfold iG;rw [e1,e2,Int.natAbs_natCast]
  by_cases k1:mQ (p.num.natAbs^n)=true
  ·rw [if_pos k1]
   by_cases k2:mQ (p.den^n)=true
   ·rw [if_pos k2,NJ (by rw [eo,k1,k2];rfl),e1,e2]
   ·rw [if_neg k2,qQ (by rw [eo,k1];simpa using k2)]
  ·rw [if_neg k1,qQ (by rw [eo];simp [k1])]
 rw [ev] at HC ⊢;rw [er];unfold whole.DW at H1 H2;simp only [Int.natAbs_natCast] at H1 H2;clear e1 e2 hn0 hq o1 o2 ht ev er hp h0;simp only [Option.isSome_some,if_true] at HC;obtain ⟨oa,Ea⟩:∃ y,mQ (p.num.natAbs^n)=y:=⟨_,rfl⟩;obtain ⟨ob,Eb⟩:∃ y,mQ (p.den^n)=y:=⟨_,rfl⟩;simp only [Ea] at H1 ⊢;simp only [Eb] at H2 ⊢;clear Ea Eb;generalize p.num.natAbs^n=an at *;generalize p.den^n=bn at *;generalize p.num.natAbs=a at *;generalize p.den=b at *;unfold dX at *;generalize (⟨(Lib.itoa (a:Int)).toArray⟩:ByteArray)=ta at *;generalize (⟨(Lib.itoa (b:Int)).toArray⟩:ByteArray)=tb at *;generalize (⟨(Lib.itoa (an:Int)).toArray⟩:ByteArray)=tan at *;generalize (⟨(Lib.itoa (bn:Int)).toArray⟩:ByteArray)=tbn at *;go_enter Tryz.func145,Tryz.ntmps145
 go_wp2_with fail
 obtain ⟨wx,EW,hz,X,R⟩:=al2 w #[O ta,O tb] 38 #[O ⟨#[]⟩,O ⟨#[]⟩] 38;rw [EW];clear EW;have HB:=zh hz;clear hz;obtain ⟨bx,eb⟩:∃ y,w.heap.size=y:=⟨_,rfl⟩;rw [eb] at X R ⊢;refine (HC.out _).mono ?_;rintro e w1 ⟨rfl,hb1⟩;replace X:=X.bl hb1;replace R:=R.bl hb1;replace HB:=zh (Bt HB.out hb1);clear hb1 HC;obtain ⟨cX,lX⟩:=X.cl;go_wp2_with fail
 refine (H1.out _ (HP.out.later HB.out)).mono ?_;rintro e w2 ⟨rfl,hb2⟩;replace X:=X.bl hb2;replace R:=R.bl hb2;replace HB:=zh (Bt HB.out hb2);clear hb2 H1 cX lX;obtain ⟨cX,lX⟩:=X.cl
 by_cases k1:oa=true
 ·simp only [if_pos k1];go_wp2_with fail
  refine (H2.out _ (HP.out.later HB.out)).mono ?_;rintro e w3 ⟨rfl,hb3⟩;replace R:=R.bl hb3;replace HB:=zh (Bt HB.out hb3);clear hb3 H2 cX lX X;have hx:=R.out;have cx:=hx.cell;have fx:=hx.free;have lx:=hx.lt;have hw:=HB.out;rw [eb] at hw
  by_cases k2:ob=true
  ·simp only [if_pos k2];go_wp2_with fail
   refine bE rfl rfl aY Tryz.underlying38 rfl zk ?_;exact ⟨rfl,aO⟩
  ·simp only [if_neg k2];go_wp2_with fail
   refine bE rfl rfl aY Tryz.underlying38 rfl zk ?_;exact ⟨rfl,aO⟩
 ·simp only [if_neg k1];have hx:=R.out;have cx:=hx.cell;have fx:=hx.free;have lx:=hx.lt;have hw:=HB.out;rw [eb] at hw;go_wp2_with fail
  refine bE rfl rfl aY Tryz.underlying38 rfl zk ?_;exact ⟨rfl,aO⟩
end Go.Proofs.dw
namespace Go.Proofs.power
open Go Go.RowKit Go.SW Go.Num Go.Mem Go.Proofs Go.Proofs.dR
end Go.Proofs.power
namespace Go.Proofs.dV
open Go Go.Num Go.d9 Go.Proofs.dR Go.Proofs.dI
theorem jV (q:Rat):flr q=q.floor:=(Rat.floor_def q).symm
theorem rC (a b:Rat): -(a / b)= -a / b:=by rw [Rat.div_def,Rat.div_def,Rat.neg_mul]
theorem nG (n:Int) {d:Int} (hd:0<d):((n:Rat) / (d:Rat)).floor=n / d:=by
 have hd':(0:Rat)<(d:Rat):=by exact_mod_cast hd
 have key:∀ x:Int,x≤((n:Rat) / (d:Rat)).floor↔x≤n / d:=fun x=>by
  rw [Rat.le_floor_iff,Int.le_ediv_iff_mul_le hd];have e:(n:Rat) / (d:Rat)*(d:Rat)=(n:Rat):=Rat.div_mul_cancel (fun h=>by rw [h] at hd';exact absurd hd' zd)
  constructor
  ·intro h;have:=Rat.mul_le_mul_of_nonneg_right h (Rat.le_of_lt hd');rw [e] at this
   exact_mod_cast this
  ·intro h;refine Rat.le_of_mul_le_mul_right (c:=(d:Rat)) ?_ hd';rw [e]
   exact_mod_cast h
 exact Int.le_antisymm ((key _).1 (Int.le_refl _)) ((key _).2 (Int.le_refl _))
theorem pQ:(0:Rat)<((1000000000000:Int):Rat):=by decide+kernel
theorem Uu:((1000000000000:Int):Rat)≠0:=by decide+kernel
theorem Bb (n:Int):un n*((1000000000000:Int):Rat)=(n:Rat):=by
 have:=Uu;unfold un;generalize ((1000000000000:Int):Rat)=E at *
 grind
theorem JM (x y:Int):un x*un y*((1000000000000:Int):Rat)=((x*y:Int):Rat) / ((1000000000000:Int):Rat):=by
 have:=Uu;unfold un;rw [Rat.intCast_mul];generalize ((1000000000000:Int):Rat)=E at *
 grind
def gZ (m:Rat):List Rat→Rat
 | []=>m
 | x::l=>gZ (if x<m then x else m) l
def dY (m:Rat):List Rat→Rat
 | []=>m
 | x::l=>dY (if m<x then x else m) l
theorem O9 (p q r s:Rat):(gZ p [q,r,s]=p∨gZ p [q,r,s]=q∨gZ p [q,r,s]=r∨gZ p [q,r,s]=s)∧gZ p [q,r,s]≤p∧gZ p [q,r,s]≤q∧gZ p [q,r,s]≤r∧gZ p [q,r,s]≤s:=by
 unfold gZ gZ gZ gZ
 grind
theorem FR (p q r s:Rat):(dY p [q,r,s]=p∨dY p [q,r,s]=q∨dY p [q,r,s]=r∨dY p [q,r,s]=s)∧p≤dY p [q,r,s]∧q≤dY p [q,r,s]∧r≤dY p [q,r,s]∧s≤dY p [q,r,s]:=by
 unfold dY dY dY dY
 grind
theorem rT {a b:Rat} (h:a≤b):(a*((1000000000000:Int):Rat)).floor≤(b*((1000000000000:Int):Rat)).floor:=Rat.floor_monotone (Rat.mul_le_mul_of_nonneg_right h (Rat.le_of_lt pQ))
theorem rU {a b:Rat} (h:a≤b): -((-(a*((1000000000000:Int):Rat))).floor)≤ -((-(b*((1000000000000:Int):Rat))).floor):=by
 have h2:=Rat.floor_monotone (Rat.neg_le_neg (Rat.mul_le_mul_of_nonneg_right h (Rat.le_of_lt pQ)));omega
theorem CF (n:Int) {d:Nat} (hd:0<d):oz n d false≤oz n d true:=by
 unfold oz;simp only [bK,if_false,if_true];have h1:=Int.mul_ediv_self_le (x:=n) (k:=(d:Int)) zo;have h2:=Int.mul_ediv_self_le (x:= -n) (k:=(d:Int)) zo;have h3:(d:Int)*(n / d)≤(d:Int)*(-(-n / d)):=by rw [Int.mul_neg];omega
 exact Int.le_of_mul_le_mul_left h3 zo
theorem BK (x y:Int):(un x*un y*((1000000000000:Int):Rat)).floor=oz (x*y) 1000000000000 false:=by rw [JM,nG _ zo];rfl
theorem J4 (x y:Int): -((-(un x*un y*((1000000000000:Int):Rat))).floor)=oz (x*y) 1000000000000 true:=by
 rw [JM,rC,← Rat.intCast_neg,nG _ zo];rfl
theorem nZ (x y:Int) (up:Bool):((jL x y 1000000000000 up).2=true→(jL x y 1000000000000 up).1=oz (x*y) 1000000000000 up∧(oz (x*y) 1000000000000 up).natAbs≤1000000000000000000)∧((jL x y 1000000000000 up).2=false→1000000000000000000<(oz (x*y) 1000000000000 up).natAbs):=by
 by_cases h:(oz (x*y) 1000000000000 up).natAbs≤1000000000000000000
 ·rw [show jL x y 1000000000000 up=(oz (x*y) 1000000000000 up,true) from if_pos h];exact ⟨fun _=>⟨rfl,h⟩,fun h=>by cases h⟩
 ·rw [show jL x y 1000000000000 up=(0,false) from if_neg h];exact ⟨fun h=>(by cases h),fun _=>by omega⟩
theorem Lp (a b:Int × Int):iP (gZ (un a.1*un b.1) [un a.1*un b.2,un a.2*un b.1,un a.2*un b.2]) (dY (un a.1*un b.1) [un a.1*un b.2,un a.2*un b.1,un a.2*un b.2])=LC a b:=by
 obtain ⟨h1,h2,h3,h4,h5⟩:=O9 (un a.1*un b.1) (un a.1*un b.2) (un a.2*un b.1) (un a.2*un b.2);obtain ⟨g1,g2,g3,g4,g5⟩:=FR (un a.1*un b.1) (un a.1*un b.2) (un a.2*un b.1) (un a.2*un b.2);generalize gZ (un a.1*un b.1) [un a.1*un b.2,un a.2*un b.1,un a.2*un b.2]=lo at *;generalize dY (un a.1*un b.1) [un a.1*un b.2,un a.2*un b.1,un a.2*un b.2]=hi at *;replace h2:=rT h2;replace h3:=rT h3;replace h4:=rT h4;replace h5:=rT h5;replace g2:=rU g2;replace g3:=rU g3;replace g4:=rU g4;replace g5:=rU g5
 have h6:(lo*((1000000000000:Int):Rat)).floor=oz (a.1*b.1) 1000000000000 false∨(lo*((1000000000000:Int):Rat)).floor=oz (a.1*b.2) 1000000000000 false∨(lo*((1000000000000:Int):Rat)).floor=oz (a.2*b.1) 1000000000000 false∨(lo*((1000000000000:Int):Rat)).floor=oz (a.2*b.2) 1000000000000 false:=by
  rcases h1 with rfl|rfl|rfl|rfl<;>simp only [BK,true_or,or_true]
 have g6: -((-(hi*((1000000000000:Int):Rat))).floor)=oz (a.1*b.1) 1000000000000 true∨ -((-(hi*((1000000000000:Int):Rat))).floor)=oz (a.1*b.2) 1000000000000 true∨ -((-(hi*((1000000000000:Int):Rat))).floor)=oz (a.2*b.1) 1000000000000 true∨ -((-(hi*((1000000000000:Int):Rat))).floor)=oz (a.2*b.2) 1000000000000 true:=by
  rcases g1 with rfl|rfl|rfl|rfl<;>simp only [J4,true_or,or_true]
 rw [BK] at h2 h3 h4 h5;rw [J4] at g2 g3 g4 g5;unfold iP;rw [jV,jV];generalize (lo*((1000000000000:Int):Rat)).floor=L at *;generalize -((-(hi*((1000000000000:Int):Rat))).floor)=H at *;have r1:=CF (a.1*b.1) (d:=1000000000000) zo;have r2:=CF (a.1*b.2) (d:=1000000000000) zo;have r3:=CF (a.2*b.1) (d:=1000000000000) zo;have r4:=CF (a.2*b.2) (d:=1000000000000) zo;have e0:Kk a b 0=jL a.1 b.1 1000000000000 false:=rfl;have e1:Kk a b 1=jL a.1 b.2 1000000000000 false:=rfl;have e2:Kk a b 2=jL a.2 b.1 1000000000000 false:=rfl;have e3:Kk a b 3=jL a.2 b.2 1000000000000 false:=rfl;have d0:vU a b 0=jL a.1 b.1 1000000000000 true:=rfl;have d1:vU a b 1=jL a.1 b.2 1000000000000 true:=rfl;have d2:vU a b 2=jL a.2 b.1 1000000000000 true:=rfl;have d3:vU a b 3=jL a.2 b.2 1000000000000 true:=rfl;have q0:=nZ a.1 b.1 false
 have q1:=nZ a.1 b.2 false;have q2:=nZ a.2 b.1 false;have q3:=nZ a.2 b.2 false;have p0:=nZ a.1 b.1 true;have p1:=nZ a.1 b.2 true;have p2:=nZ a.2 b.1 true;have p3:=nZ a.2 b.2 true
 have fe:Xg a b=((Kk a b 0).2&&(vU a b 0).2&&((Kk a b 1).2&&(vU a b 1).2)&&((Kk a b 2).2&&(vU a b 2).2)&&((Kk a b 3).2&&(vU a b 3).2)):=by
  unfold Xg;simp [bI,List.range.loop,Bool.and_assoc]
 unfold LC;rw [fe,e0,e1,e2,e3,d0,d1,d2,d3];generalize oz (a.1*b.1) 1000000000000 false=l0 at *;generalize oz (a.1*b.2) 1000000000000 false=l1 at *;generalize oz (a.2*b.1) 1000000000000 false=l2 at *;generalize oz (a.2*b.2) 1000000000000 false=l3 at *;generalize oz (a.1*b.1) 1000000000000 true=u0 at *;generalize oz (a.1*b.2) 1000000000000 true=u1 at *;generalize oz (a.2*b.1) 1000000000000 true=u2 at *;generalize oz (a.2*b.2) 1000000000000 true=u3 at *;clear e0 e1 e2 e3 d0 d1 d2 d3 fe h1 g1;generalize jL a.1 b.1 1000000000000 false=A0 at *;generalize jL a.1 b.2 1000000000000 false=A1 at *;generalize jL a.2 b.1 1000000000000 false=A2 at *;generalize jL a.2 b.2 1000000000000 false=A3 at *;generalize jL a.1 b.1 1000000000000 true=B0 at *;generalize jL a.1 b.2 1000000000000 true=B1 at *;generalize jL a.2 b.1 1000000000000 true=B2 at *
 generalize jL a.2 b.2 1000000000000 true=B3 at *;obtain ⟨x0,y0⟩:=A0;obtain ⟨x1,y1⟩:=A1;obtain ⟨x2,y2⟩:=A2;obtain ⟨x3,y3⟩:=A3;obtain ⟨s0,t0⟩:=B0;obtain ⟨s1,t1⟩:=B1;obtain ⟨s2,t2⟩:=B2;obtain ⟨s3,t3⟩:=B3;simp only at q0 q1 q2 q3 p0 p1 p2 p3 ⊢
 by_cases hf:(y0&&t0&&(y1&&t1)&&(y2&&t2)&&(y3&&t3))=true
 ·rw [if_pos hf];simp only [aD] at hf;obtain ⟨⟨⟨⟨f1,f2⟩,f3,f4⟩,f5,f6⟩,f7,f8⟩:=hf;obtain ⟨rfl, -⟩:=q0.1 f1;obtain ⟨rfl, -⟩:=q1.1 f3;obtain ⟨rfl, -⟩:=q2.1 f5;obtain ⟨rfl, -⟩:=q3.1 f7;obtain ⟨rfl, -⟩:=p0.1 f2;obtain ⟨rfl, -⟩:=p1.1 f4;obtain ⟨rfl, -⟩:=p2.1 f6;obtain ⟨rfl, -⟩:=p3.1 f8
  have m1:L=[x0,x1,x2,x3].foldl min x0:=by
   simp only [List.foldl];omega
  have m2:H=[s0,s1,s2,s3].foldl max s0:=by
   simp only [List.foldl];omega
  rw [m1,m2]
 ·rw [if_neg hf]
  have hb:jy L H=false:=by
   refine QD ?_
   have:y0=false∨t0=false∨y1=false∨t1=false∨y2=false∨t2=false∨y3=false∨t3=false:=by
    revert hf
    cases y0<;>cases t0<;>cases y1<;>cases t1<;>cases y2<;>cases t2<;>cases y3<;>cases t3<;>simp
   rcases this with h|h|h|h|h|h|h|h
   ·have:=q0.2 h;omega
   ·have:=p0.2 h;omega
   ·have:=q1.2 h;omega
   ·have:=p1.2 h;omega
   ·have:=q2.2 h;omega
   ·have:=p2.2 h;omega
   ·have:=q3.2 h;omega
   ·have:=p3.2 h;omega
  unfold iV;rw [hb];rfl
end Go.Proofs.dV
namespace Go.Proofs.matrix
open Go Go.Num Go.d9 Go.Proofs.dR Go.Proofs.dV Go.Proofs.dI
theorem vJ (z:Int) (q:Rat):un z≤q↔(z:Rat)≤q*((1000000000000:Int):Rat):=by
 rw [← Bb z]
 constructor
 ·exact fun h=>Rat.mul_le_mul_of_nonneg_right h (Rat.le_of_lt pQ)
 ·exact fun h=>Rat.le_of_mul_le_mul_right h pQ
theorem Ml (z:Int) (q:Rat):q≤un z↔q*((1000000000000:Int):Rat)≤(z:Rat):=by
 rw [← Bb z]
 constructor
 ·exact fun h=>Rat.mul_le_mul_of_nonneg_right h (Rat.le_of_lt pQ)
 ·exact fun h=>Rat.le_of_mul_le_mul_right h pQ
theorem wG {a b:Int}:un a≤un b↔a≤b:=by rw [vJ,Bb,Rat.intCast_le_intCast]
def In (b:Int × Int) (q:Rat) (M:Int):Prop:=un b.1≤q∧q≤un b.2∧ -M≤b.1∧b.2≤M
theorem In.le {b:Int × Int} {q:Rat} {M:Int} (h:In b q M):b.1≤b.2:=wG.1 (Rat.le_trans h.1 h.2.1)
theorem jS {x y:Int} (h: -1000000000000000000≤x) (h2:x≤y) (h3:y≤1000000000000000000):jy x y=true:=by
 unfold jy;rw [decide_eq_true h,decide_eq_true h2,decide_eq_true h3];rfl
theorem In.jy {b:Int × Int} {q:Rat} {M:Int} (h:In b q M) (hM:M≤1000000000000000000):jy b.1 b.2=true :=
 jS (by have:=h.2.2.1;omega) h.le (by have:=h.2.2.2;omega)
end Go.Proofs.matrix
namespace Go.Proofs.dV
open Go Go.RowKit Go.SW Go.Num Go.Mem Go.Proofs Go.d9 Go.Proofs.dR Go.Proofs.dI
def wO (q:Rat):Int:=(q*((1000000000000:Int):Rat)).floor
def wF (q:Rat):Int:= -((-(q*((1000000000000:Int):Rat))).floor)
theorem Qe (x:Rat):x.floor≤ -((-x).floor):=by
 have h1:=Rat.floor_le x;have h2:=Rat.floor_le (-x)
 have h3:((x.floor:Int):Rat)≤((-((-x).floor):Int):Rat):=by
  rw [Rat.intCast_neg]
  grind
 exact Rat.intCast_le_intCast.1 h3
theorem KG (q:Rat):wO q≤wF q:=Qe _
def Dl (z:Int):Int × Bool:=if z.natAbs≤1000000000000000000 then (z,true) else (0,false)
theorem mK {A:Int × Bool} {l:Int} (h:A=Dl l):(A.2=true→A.1=l∧l.natAbs≤1000000000000000000)∧(A.2=false→1000000000000000000<l.natAbs):=by
 subst h;unfold Dl
 by_cases h:l.natAbs≤1000000000000000000
 ·rw [if_pos h];exact ⟨fun _=>⟨rfl,h⟩,fun h=>by cases h⟩
 ·rw [if_neg h];exact ⟨fun h=>(by cases h),fun _=>by omega⟩
def Ia (Q:Int→Int→Bool→Int × Bool) (V:Int→Int→Rat) (x y:Int):Prop:=Q x y false=Dl (wO (V x y))∧Q x y true=Dl (wF (V x y))
theorem BF (Q:Int→Int→Bool→Int × Bool) (V:Int→Int→Rat) (a b:Int × Int) (k0:Ia Q V a.1 b.1) (k1:Ia Q V a.1 b.2) (k2:Ia Q V a.2 b.1) (k3:Ia Q V a.2 b.2) :
  iP (gZ (V a.1 b.1) [V a.1 b.2,V a.2 b.1,V a.2 b.2]) (dY (V a.1 b.1) [V a.1 b.2,V a.2 b.1,V a.2 b.2])=qV Q a b:=by
 have r1:=KG (V a.1 b.1);have r2:=KG (V a.1 b.2);have r3:=KG (V a.2 b.1);have r4:=KG (V a.2 b.2);have q0:=mK k0.1;have q1:=mK k1.1;have q2:=mK k2.1;have q3:=mK k3.1;have p0:=mK k0.2;have p1:=mK k1.2;have p2:=mK k2.2;have p3:=mK k3.2
 have fe:Qg Q a b=((Q a.1 b.1 false).2&&(Q a.1 b.1 true).2&&((Q a.1 b.2 false).2&&(Q a.1 b.2 true).2)&&((Q a.2 b.1 false).2&&(Q a.2 b.1 true).2)&&((Q a.2 b.2 false).2&&(Q a.2 b.2 true).2)):=by
  unfold Qg;simp [bI,List.range.loop,Bool.and_assoc,sj,sw,J6,Ic]
 have e0:sj Q a b 0=Q a.1 b.1 false:=rfl;have e1:sj Q a b 1=Q a.1 b.2 false:=rfl;have e2:sj Q a b 2=Q a.2 b.1 false:=rfl;have e3:sj Q a b 3=Q a.2 b.2 false:=rfl;have d0:sw Q a b 0=Q a.1 b.1 true:=rfl;have d1:sw Q a b 1=Q a.1 b.2 true:=rfl;have d2:sw Q a b 2=Q a.2 b.1 true:=rfl;have d3:sw Q a b 3=Q a.2 b.2 true:=rfl;unfold qV;rw [fe,e0,e1,e2,e3,d0,d1,d2,d3];clear fe e0 e1 e2 e3 d0 d1 d2 d3 k0 k1 k2 k3;generalize Q a.1 b.1 false=A0 at *;generalize Q a.1 b.2 false=A1 at *;generalize Q a.2 b.1 false=A2 at *;generalize Q a.2 b.2 false=A3 at *;generalize Q a.1 b.1 true=B0 at *;generalize Q a.1 b.2 true=B1 at *;generalize Q a.2 b.1 true=B2 at *;generalize Q a.2 b.2 true=B3 at *;generalize V a.1 b.1=v0 at *;generalize V a.1 b.2=v1 at *;generalize V a.2 b.1=v2 at *;generalize V a.2 b.2=v3 at *;obtain ⟨h1,h2,h3,h4,h5⟩:=O9 v0 v1 v2 v3;obtain ⟨g1,g2,g3,g4,g5⟩:=FR v0 v1 v2 v3
 generalize gZ v0 [v1,v2,v3]=lo at *;generalize dY v0 [v1,v2,v3]=hi at *;replace h2:wO lo≤wO v0:=rT h2;replace h3:wO lo≤wO v1:=rT h3;replace h4:wO lo≤wO v2:=rT h4;replace h5:wO lo≤wO v3:=rT h5;replace g2:wF v0≤wF hi:=rU g2;replace g3:wF v1≤wF hi:=rU g3;replace g4:wF v2≤wF hi:=rU g4;replace g5:wF v3≤wF hi:=rU g5
 have h6:wO lo=wO v0∨wO lo=wO v1∨wO lo=wO v2∨wO lo=wO v3:=by
  rcases h1 with rfl|rfl|rfl|rfl
  ·exact .inl rfl
  ·exact .inr (.inl rfl)
  ·exact .inr (.inr (.inl rfl))
  ·exact .inr (.inr (.inr rfl))
 have g6:wF hi=wF v0∨wF hi=wF v1∨wF hi=wF v2∨wF hi=wF v3:=by
  rcases g1 with rfl|rfl|rfl|rfl
  ·exact .inl rfl
  ·exact .inr (.inl rfl)
  ·exact .inr (.inr (.inl rfl))
  ·exact .inr (.inr (.inr rfl))
 unfold iP;rw [jV,jV]
 show iV (wO lo) (wF hi)=_
 clear h1 g1;generalize wO lo=L at *;generalize wF hi=H at *;generalize wO v0=l0 at *;generalize wO v1=l1 at *;generalize wO v2=l2 at *;generalize wO v3=l3 at *;generalize wF v0=u0 at *;generalize wF v1=u1 at *;generalize wF v2=u2 at *;generalize wF v3=u3 at *;obtain ⟨x0,y0⟩:=A0;obtain ⟨x1,y1⟩:=A1;obtain ⟨x2,y2⟩:=A2;obtain ⟨x3,y3⟩:=A3;obtain ⟨s0,t0⟩:=B0;obtain ⟨s1,t1⟩:=B1;obtain ⟨s2,t2⟩:=B2;obtain ⟨s3,t3⟩:=B3;simp only at q0 q1 q2 q3 p0 p1 p2 p3 ⊢
 by_cases hf:(y0&&t0&&(y1&&t1)&&(y2&&t2)&&(y3&&t3))=true
 ·rw [if_pos hf];simp only [aD] at hf;obtain ⟨⟨⟨⟨f1,f2⟩,f3,f4⟩,f5,f6⟩,f7,f8⟩:=hf;obtain ⟨rfl, -⟩:=q0.1 f1;obtain ⟨rfl, -⟩:=q1.1 f3;obtain ⟨rfl, -⟩:=q2.1 f5;obtain ⟨rfl, -⟩:=q3.1 f7;obtain ⟨rfl, -⟩:=p0.1 f2;obtain ⟨rfl, -⟩:=p1.1 f4;obtain ⟨rfl, -⟩:=p2.1 f6;obtain ⟨rfl, -⟩:=p3.1 f8
  have m1:L=[x0,x1,x2,x3].foldl min x0:=by
   simp only [List.foldl];omega
  have m2:H=[s0,s1,s2,s3].foldl max s0:=by
   simp only [List.foldl];omega
  rw [m1,m2]
 ·rw [if_neg hf]
  have hb:jy L H=false:=by
   refine QD ?_
   have:y0=false∨t0=false∨y1=false∨t1=false∨y2=false∨t2=false∨y3=false∨t3=false:=by
    revert hf
    cases y0<;>cases t0<;>cases y1<;>cases t1<;>cases y2<;>cases t2<;>cases y3<;>cases t3<;>simp
   rcases this with h|h|h|h|h|h|h|h
   ·have:=q0.2 h;omega
   ·have:=p0.2 h;omega
   ·have:=q1.2 h;omega
   ·have:=p1.2 h;omega
   ·have:=q2.2 h;omega
   ·have:=p2.2 h;omega
   ·have:=q3.2 h;omega
   ·have:=p3.2 h;omega
  unfold iV;rw [hb];rfl
theorem Fh (x y:Int) (d:Nat) (up:Bool):jL x y d up=Dl (oz (x*y) d up):=rfl
theorem U5 {q:Rat} {n:Int} {d:Nat} (hd:0<d) (h:q*((1000000000000:Int):Rat)=(n:Rat) / ((d:Int):Rat)):wO q=oz n d false∧wF q=oz n d true:=by
 unfold wO wF;rw [h]
 constructor
 ·rw [nG _ zo];rfl
 ·rw [rC,← Rat.intCast_neg,nG _ zo];rfl
theorem yh (x y:Int) (hy:y≠0):Ia (fun x y up=>lJ x 1000000000000 y up) (fun x y=>un x / un y) x y:=by
 have hE:=Uu;have e1:=Bb x;have e2:=Bb y;have hy':(y:Rat)≠0:=fun h=>hy (by exact_mod_cast h);have hu:un y≠0:=fun h=>hy' (by rw [← e2,h];exact Rat.zero_mul _)
 have key:un x / un y*((1000000000000:Int):Rat)=(((if y<0 then -x else x)*1000000000000:Int):Rat) / ((y.natAbs:Int):Rat):=by
  have h1:un x / un y=(x:Rat) / (y:Rat):=by
   rw [← e1,← e2]
   grind
  rw [h1,Rat.intCast_mul]
  by_cases h:y<0
  ·rw [if_pos h];have:((y.natAbs:Int):Rat)= -(y:Rat):=by rw [← Rat.intCast_neg];congr 1;omega
   rw [this,Rat.intCast_neg]
   grind
  ·rw [if_neg h];have:((y.natAbs:Int):Rat)=(y:Rat):=by congr 1;omega
   rw [this]
   grind
 have h:=U5 zo key;unfold Ia lJ;simp only [Fh];exact ⟨congrArg Dl h.1.symm,congrArg Dl h.2.symm⟩
theorem yg (d:Int) (hd:0<d) (x n:Int):Ia (fun x y up=>lJ x y d up) (fun x y=>un x*((y:Rat) / (d:Rat))) x n:=by
 have e1:=Bb x
 have hd':(d:Rat)≠0:=fun h=>by
  have:d=0:=by exact_mod_cast h
  omega
 have key:un x*((n:Rat) / (d:Rat))*((1000000000000:Int):Rat)=((x*n:Int):Rat) / ((d.natAbs:Int):Rat):=by
  have:((d.natAbs:Int):Rat)=(d:Rat):=by congr 1;omega
  rw [this,Rat.intCast_mul,← e1]
  grind
 have h:=U5 zo key;unfold Ia lJ;simp only [Fh,if_neg (show ¬ d<0 by omega)];exact ⟨congrArg Dl h.1.symm,congrArg Dl h.2.symm⟩
theorem Ls (a b:Int × Int) (h1:b.1≠0) (h2:b.2≠0):iP (gZ (un a.1 / un b.1) [un a.1 / un b.2,un a.2 / un b.1,un a.2 / un b.2]) (dY (un a.1 / un b.1) [un a.1 / un b.2,un a.2 / un b.1,un a.2 / un b.2])=qV (fun x y up=>lJ x 1000000000000 y up) a b :=
 BF _ (fun x y=>un x / un y) a b (yh _ _ h1) (yh _ _ h2) (yh _ _ h1) (yh _ _ h2)
theorem Lm (a:Int × Int) (n d:Int) (hd:0<d):iP (gZ (un a.1*((n:Rat) / (d:Rat))) [un a.2*((n:Rat) / (d:Rat))]) (dY (un a.1*((n:Rat) / (d:Rat))) [un a.2*((n:Rat) / (d:Rat))])=qV (fun x y up=>lJ x y d up) a (n,n):=by
 rw [← BF _ (fun x y=>un x*((y:Rat) / (d:Rat))) a (n,n) (yg d hd _ _) (yg d hd _ _) (yg d hd _ _) (yg d hd _ _)];simp only;generalize un a.1*((n:Rat) / (d:Rat))=p;generalize un a.2*((n:Rat) / (d:Rat))=q;have h1:gZ p [p,q,q]=gZ p [q]:=by unfold gZ gZ gZ gZ;grind
 have h2:dY p [p,q,q]=dY p [q]:=by unfold dY dY dY dY;grind
 rw [h1,h2]
end Go.Proofs.dV
