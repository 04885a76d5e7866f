/- Lemmas for the proof. No condition. -/
import Derived.Test.YtneajphgfdlmhaaGreatDoorUB27
import Derived.Test.YtneajphgfdlmhaaGreatDoorUB38
import Derived.Test.YtneajphgfdlmhaaGreatDoorUB39
set_option linter.unusedVariables false
set_option linter.unusedSimpArgs false
set_option maxRecDepth 100000
set_option maxHeartbeats 16000000
open Bool renaming and_eq_true → aG
open Go.Ending renaming returned → ah
open Go.IntKind renaming i64 → I
open Go.Value renaming agg → au, bool → ak, int → Z, slice → aj, string → O, tuple → aD
open List renaming all_cons → fO, range → dF
open Nat renaming le_trans → ay, mul_comm → aL, mul_le_mul → fA, pow_add → gG, pow_le_pow_right → bH
namespace Go.Proofs.aS
open Go Go.RowKit Go.SW Go.Num Go.Mem Go.Proofs Go.Dec Go.gB Go.Proofs.aW Go.Proofs.aH Go.Proofs.aF Go.Fx
theorem sF (r:(Int × Int) × Int):∃ x y k:Int,r=((x,y),k):=⟨r.1.1,r.1.2,r.2,rfl⟩
theorem Ap (a:Fr) (w:World) (hf:Fits a):Calls Tryz.prog 150 #[a.v] w (fun e w'=>e= ah (dZ (eF a))∧Below w.heap.size w w'):=by
 cases ha:rd a with
 | none =>
  have R1:=zh (fun W=>jg (a:=a) (b:=false) (by rw [ha];rfl) hf W);have e:eF a=((0,0),20):=by unfold eF;rw [ha]
  rw [e];obtain ⟨s,t⟩:=a;unfold Fr.v at R1 ⊢;clear ha hf e;go_enter Tryz.func150,Tryz.ntmps150
  go_wp2_with fail
  obtain ⟨u0,EW,hz,HX,HR⟩:=Lf w #[O s,O t] 32 #[Z I 0,Z I 0] 40;rw [EW];have HB:=zh hz;clear EW hz;refine (R1.out _).mono ?_;rintro e u1 ⟨rfl,h⟩;replace HX:=zh (HX.out.later h);replace HR:=zh (HR.out.later h);replace HB:=zh (Bt HB.out h);clear h;have hr:=HR.out;have cr:=hr.cell;have fr:=hr.free;have hb:=HB.out;clear HX HR HB;go_wp2_with fail
  refine bK rfl rfl ((hr.set 0 _).set 1 _) Tryz.underlying40 rfl zk ?_;exact ⟨rfl,(hb.setCell (p:=⟨w.heap.size+1,0,none⟩) (by show w.heap.size≤w.heap.size+1;omega) _).setCell (p:=⟨w.heap.size+1,1,none⟩) (by show w.heap.size≤w.heap.size+1;omega) _⟩
 | some q =>
  have R1:=zh (fun W=>jg (a:=a) (b:=true) (by rw [ha];rfl) hf W);have I1:=zh (fun W=>(um ha W).mono fun _ _ q=>jT q);have T1:=zh (fun v v' W (h:Ra W v q) (h':Ra W v' q)=>zw v v' q q W h h' ((og ha).mono zo) ((og ha).mono zo));have e:eF a=jQ q q:=by rw [sO];unfold eF;rw [ha]
  rw [e];obtain ⟨x,y,k,ex⟩:=sF (jQ q q);rw [ex] at T1 ⊢;unfold dZ at T1 ⊢;obtain ⟨s,t⟩:=a;unfold Fr.v at R1 I1 ⊢;clear ha hf e ex;go_enter Tryz.func150,Tryz.ntmps150
  go_wp2_with fail
  obtain ⟨u0,EW,hz,HX,HR⟩:=Lf w #[O s,O t] 32 #[Z I 0,Z I 0] 40;rw [EW];have HB:=zh hz;clear EW hz;refine (R1.out _).mono ?_;rintro e u1 ⟨rfl,h⟩;replace HX:=zh (HX.out.later h);replace HR:=zh (HR.out.later h);replace HB:=zh (Bt HB.out h);clear h;have xL:=HX.out.cell;have xE:=HX.out.lt;go_wp2_with fail
  clear xL xE;refine (I1.out _).mono ?_;rintro e u2 ⟨bO,paO,lO,caO,bOd,Vq,lOd,Xc,rfl,h,hm⟩;replace HX:=zh (HX.out.later h);replace HR:=zh (HR.out.later h);replace HB:=zh (Bt HB.out h);clear h;have QO:=zh hm;clear hm;go_wp2_with fail
  have QO2:=zh (QO.out.later (show Below u2.heap.size u2 (u2.alloc (.cells #[ak bO,aj paO lO caO,ak bOd,aj Vq lOd Xc] 163)) from aJ));replace HR:=zh (HR.out.alloc (.cells #[ak bO,aj paO lO caO,ak bOd,aj Vq lOd Xc] 163));replace HB:=zh (Bt HB.out (show Below u2.heap.size u2 (u2.alloc (.cells #[ak bO,aj paO lO caO,ak bOd,aj Vq lOd Xc] 163)) from aJ));clear HX QO;refine (T1.out _ _ _ QO2.out QO2.out).mono ?_;rintro e u3 ⟨rfl,h⟩;replace HR:=zh (HR.out.later h);replace QO2:=zh (QO2.out.later h);replace HB:=zh (Bt HB.out h);clear h;have hr:=HR.out;have cr:=hr.cell;have fr:=hr.free;have hb:=HB.out;clear HR HB QO2;go_wp2_with fail
  refine bK rfl rfl ((hr.set 0 _).set 1 _) Tryz.underlying40 rfl zk ?_;exact ⟨rfl,(hb.setCell (p:=⟨w.heap.size+1,0,none⟩) (by show w.heap.size≤w.heap.size+1;omega) _).setCell (p:=⟨w.heap.size+1,1,none⟩) (by show w.heap.size≤w.heap.size+1;omega) _⟩
theorem ab2 (x y z t:Int) (w:World) (h:¬ (gM x y=true∧gM z t=true)):Calls Tryz.prog 184 #[au #[Z I x,Z I y],au #[Z I z,Z I t]] w (fun e w'=>e= ah (dZ ((0,0),30))∧Below w.heap.size w w'):=by
 have R1:=fun W=>iQ x y W;have R2:=fun W=>iQ z t W;cases h1:gM x y
 ·rw [h1] at R1;refine Fx.door Tryz.func184 rfl (.nil w []) ?_;refine Fx.new [] 2 #[Z I x,Z I y] 40 [] [] fun fT=>?_;refine Fx.new [] 3 #[Z I z,Z I t] 40 [] [] fun fJ=>?_;refine Fx.aV [] 4 40 [] [] fun fF=>?_;refine Fx.bJ [3] 7 [] [] R1 ?_;exact Fx.dQ 2 fF [0,0,1,5] [(2,#[Z I 0,Z I 0])] (fun W M=>⟨rfl,M.below⟩)
 ·have h2:gM z t=false:=by
   cases h2:gM z t
   ·rfl
   ·exact absurd ⟨h1,h2⟩ h
  rw [h1] at R1;rw [h2] at R2;refine Fx.door Tryz.func184 rfl (.nil w []) ?_;refine Fx.new [] 2 #[Z I x,Z I y] 40 [] [] fun fT=>?_;refine Fx.new [] 3 #[Z I z,Z I t] 40 [] [] fun fJ=>?_;refine Fx.aV [] 4 40 [] [] fun fF=>?_;refine Fx.bJ [3] 7 [] [] R1 ?_;refine Fx.bJ [4] 11 [(9,ak false)] [] R2 ?_;exact Fx.dQ 2 fF [1,5] [(2,#[Z I 0,Z I 0])] (fun W M=>⟨rfl,M.below⟩)
theorem o8 (n:Int) (h1: -9223372036854775808≤n) (h2:n≤9223372036854775807):jy 10 (un n):=by
 unfold un;obtain ⟨g1,g2⟩:=Ab (n:=n) (d:=1000000000000) zo
 constructor
 ·exact ay (fB zo g1) (ay (fB zo (show n.natAbs≤9223372036854775808 by omega)) (by decide+kernel))
 ·exact ay (fB zo g2) (by decide+kernel)
theorem XT (x y z t:Int) (w:World) (h1:gM x y=true) (h2:gM z t=true):Calls Tryz.prog 184 #[au #[Z I x,Z I y],au #[Z I z,Z I t]] w (fun e w'=>e= ah (dZ (gN (x+z) (y+t)))∧Below w.heap.size w w'):=by
 have R1:=fun W=>h1 ▸ iQ x y W;have R2:=fun W=>h2 ▸ iQ z t W;obtain ⟨b1,b2,b3⟩:=Ai h1;obtain ⟨b4,b5,b6⟩:=Ai h2;have V1:=fun W=>(iX x zo zo W).mono fun _ _ q=>jT q;have V2:=fun W=>(iX z zo zo W).mono fun _ _ q=>jT q;have V3:=fun W=>(iX y zo zo W).mono fun _ _ q=>jT q;have V4:=fun W=>(iX t zo zo W).mono fun _ _ q=>jT q;have s1:=o8 x zo zo;have s2:=o8 z zo zo;have s3:=o8 y zo zo;have s4:=o8 t zo zo;have P1:=fun v v' W (h:Ra W v (un x)) (h':Ra W v' (un z))=>(qX v v' _ _ W h h' (s1.mono zo) (s2.mono zo)).mono fun _ _ q=>jT q;have P2:=fun v v' W (h:Ra W v (un y)) (h':Ra W v' (un t))=>(qX v v' _ _ W h h' (s3.mono zo) (s4.mono zo)).mono fun _ _ q=>jT q;have T1:=fun v v' W (h:Ra W v (un x+un z)) (h':Ra W v' (un y+un t))=>zw v v' _ _ W h h' ((vQ s1 s2).mono zo) ((vQ s3 s4).mono zo)
 rw [Ga] at T1;obtain ⟨e1,e2,k,ex⟩:=sF (gN (x+z) (y+t));rw [ex] at T1 ⊢;unfold dZ at T1 ⊢;refine Fx.door Tryz.func184 rfl (.nil w []) ?_;refine Fx.new [] 2 #[Z I x,Z I y] 40 [] [] fun fT=>?_;refine Fx.new [] 3 #[Z I z,Z I t] 40 [] [] fun fJ=>?_;refine Fx.aV [] 4 40 [] [] fun fF=>?_;refine Fx.bJ [3] 7 [] [] R1 ?_;refine Fx.bJ [4] 11 [(9,ak false)] [] R2 ?_;refine Fx.draw [2] [0,1,3,4,7,8,10,11,2,5,6,9,12,13,14,15,16,17,5018] [] [] [] ?_;refine Fx.iR [3,4,3,4] 17 [(19,Z I z),(23,Z I y),(26,Z I t)] [] (fun W M=>V1 _) ?_;rintro W wx4 e M ⟨n1,p1,l1,c1,m1,q1,j1,d1,rfl,B4,Q1⟩;refine ⟨B4,fun M4=>?_⟩;have M:=M4;have Ug:=M.below;refine Fx.iR [] 20 [] [] (fun W M=>V2 _) ?_;rintro W wx5 e M ⟨n2,p2,l2,c2,m2,q2,j2,d2,rfl,B5,Q2⟩;refine ⟨B5,fun M5=>?_⟩;have M:=M5;replace Q1:=Q1.later M.below;have Uf:=(Bt Ug M.below)
 refine Fx.iR [] 21 [] [] (fun W M=>P1 _ _ _ (Q1.later M.below) (Q2.later M.below)) ?_;rintro W wx6 e M ⟨n3,p3,l3,c3,m3,q3,j3,d3,rfl,B6,Q3⟩;refine ⟨B6,fun M6=>?_⟩;have M:=M6;replace Q1:=Q1.later M.below;replace Q2:=Q2.later M.below;have HZ6:=(Bt Uf M.below);refine Fx.iR [] 24 [] [] (fun W M=>V3 _) ?_;rintro W wx7 e M ⟨n4,p4,l4,c4,m4,q4,j4,d4,rfl,B7,Q4⟩;refine ⟨B7,fun M7=>?_⟩;have M:=M7;replace Q1:=Q1.later M.below;replace Q2:=Q2.later M.below;replace Q3:=Q3.later M.below;have HZ7:=(Bt HZ6 M.below);refine Fx.iR [] 27 [] [] (fun W M=>V4 _) ?_;rintro W wx8 e M ⟨n5,p5,l5,c5,m5,q5,j5,d5,rfl,B8,Q5⟩;refine ⟨B8,fun M8=>?_⟩;have M:=M8;replace Q1:=Q1.later M.below;replace Q2:=Q2.later M.below;replace Q3:=Q3.later M.below;replace Q4:=Q4.later M.below;have HZ8:=(Bt HZ7 M.below);refine Fx.iR [] 28 [] [] (fun W M=>P2 _ _ _ (Q4.later M.below) (Q5.later M.below)) ?_
 rintro W wx9 e M ⟨n6,p6,l6,c6,m6,q6,j6,d6,rfl,B9,Q6⟩;refine ⟨B9,fun M9=>?_⟩;have M:=M9;replace Q1:=Q1.later M.below;replace Q2:=Q2.later M.below;replace Q3:=Q3.later M.below;replace Q4:=Q4.later M.below;replace Q5:=Q5.later M.below;have HZ9:=(Bt HZ8 M.below);refine Fx.call [] 29 [] [] (fun W M=>T1 _ _ _ (Q3.later M.below) (Q6.later M.below)) ?_;refine Fx.part 3 [] [(30,au #[Z I e1,Z I e2]),(31,Z I k)] [] ?_;refine Fx.back M9 ?_;refine Fx.back M8 ?_;refine Fx.back M7 ?_;refine Fx.back M6 ?_;refine Fx.back M5 ?_;refine Fx.back M4 ?_;exact Fx.dQ 2 fF [5] [(2,#[Z I e1,Z I e2])] (fun W M=>⟨rfl,M.below⟩)
theorem uj (a b:Int × Int) (w:World):Calls Tryz.prog 184 #[au #[Z I a.1,Z I a.2],au #[Z I b.1,Z I b.2]] w (fun e w'=>e= ah (dZ (aW.kH a b))∧Below w.heap.size w w'):=by
 unfold aW.kH okB;simp only [fO,List.all_nil,Bool.and_true]
 by_cases h:gM a.1 a.2=true∧gM b.1 b.2=true
 ·rw [if_pos (by simp [h.1,h.2])];exact XT _ _ _ _ w h.1 h.2
 ·rw [if_neg (by simpa using h)];exact ab2 _ _ _ _ w h
end Go.Proofs.aS
namespace Go.Proofs.aS
open Go Go.RowKit Go.SW Go.Num Go.Mem Go.Proofs Go.gB Go.Proofs.aW Go.Proofs.aH
def Ag (q:Rat):Int:=(q*((1000000000000:Int):Rat)).floor
def zC (q:Rat):Int:= -((-(q*((1000000000000:Int):Rat))).floor)
theorem WG (x:Rat):x.floor≤ -((-x).floor):=by
 have h1:=Rat.floor_le x;have h2:=Rat.floor_le (-x)
 have h3:((x.floor:Int):Rat)≤((-((-x).floor):Int):Rat):=by
  rw [Rat.intCast_neg]
  grind
 exact Rat.intCast_le_intCast.1 h3
theorem PW (q:Rat):Ag q≤zC q:=WG _
def Ny (z:Int):Int × Bool:=if z.natAbs≤1000000000000000000 then (z,true) else (0,false)
theorem oM {A:Int × Bool} {l:Int} (h:A=Ny l):(A.2=true→A.1=l∧l.natAbs≤1000000000000000000)∧(A.2=false→1000000000000000000<l.natAbs):=by
 subst h;unfold Ny
 by_cases h:l.natAbs≤1000000000000000000
 ·rw [if_pos h];exact ⟨fun _=>⟨rfl,h⟩,fun h=>by cases h⟩
 ·rw [if_neg h];exact ⟨fun h=>(by cases h),fun _=>by omega⟩
def Um (Q:Int→Int→Bool→Int × Bool) (V:Int→Int→Rat) (x y:Int):Prop:=Q x y false=Ny (Ag (V x y))∧Q x y true=Ny (zC (V x y))
theorem Qy (Q:Int→Int→Bool→Int × Bool) (V:Int→Int→Rat) (a b:Int × Int) (k0:Um Q V a.1 b.1) (k1:Um Q V a.1 b.2) (k2:Um Q V a.2 b.1) (k3:Um Q V a.2 b.2) :
  jQ (jJ (V a.1 b.1) [V a.1 b.2,V a.2 b.1,V a.2 b.2]) (gW (V a.1 b.1) [V a.1 b.2,V a.2 b.1,V a.2 b.2])=sU Q a b:=by
 have r1:=PW (V a.1 b.1);have r2:=PW (V a.1 b.2);have r3:=PW (V a.2 b.1);have r4:=PW (V a.2 b.2);have q0:=oM k0.1;have q1:=oM k1.1;have q2:=oM k2.1;have q3:=oM k3.1;have p0:=oM k0.2;have p1:=oM k1.2;have p2:=oM k2.2;have p3:=oM k3.2
 have fe:WJ Q a b=((Q a.1 b.1 false).2&&(Q a.1 b.1 true).2&&((Q a.1 b.2 false).2&&(Q a.1 b.2 true).2)&&((Q a.2 b.1 false).2&&(Q a.2 b.1 true).2)&&((Q a.2 b.2 false).2&&(Q a.2 b.2 true).2)):=by
  unfold WJ;simp [dF,List.range.loop,Bool.and_assoc,vS,vV,Pb,LB]
 have e0:vS Q a b 0=Q a.1 b.1 false:=rfl;have e1:vS Q a b 1=Q a.1 b.2 false:=rfl;have e2:vS Q a b 2=Q a.2 b.1 false:=rfl;have e3:vS Q a b 3=Q a.2 b.2 false:=rfl;have d0:vV Q a b 0=Q a.1 b.1 true:=rfl;have d1:vV Q a b 1=Q a.1 b.2 true:=rfl;have d2:vV Q a b 2=Q a.2 b.1 true:=rfl;have d3:vV Q a b 3=Q a.2 b.2 true:=rfl;unfold sU;rw [fe,e0,e1,e2,e3,d0,d1,d2,d3];clear fe e0 e1 e2 e3 d0 d1 d2 d3 k0 k1 k2 k3;generalize Q a.1 b.1 false=A0 at *;generalize Q a.1 b.2 false=A1 at *;generalize Q a.2 b.1 false=A2 at *;generalize Q a.2 b.2 false=A3 at *;generalize Q a.1 b.1 true=B0 at *;generalize Q a.1 b.2 true=B1 at *;generalize Q a.2 b.1 true=B2 at *;generalize Q a.2 b.2 true=B3 at *;generalize V a.1 b.1=v0 at *;generalize V a.1 b.2=v1 at *;generalize V a.2 b.1=v2 at *;generalize V a.2 b.2=v3 at *;obtain ⟨h1,h2,h3,h4,h5⟩:=aw7 v0 v1 v2 v3;obtain ⟨g1,g2,g3,g4,g5⟩:=ac8 v0 v1 v2 v3
 generalize jJ v0 [v1,v2,v3]=lo at *;generalize gW v0 [v1,v2,v3]=hi at *;replace h2:Ag lo≤Ag v0:=vK h2;replace h3:Ag lo≤Ag v1:=vK h3;replace h4:Ag lo≤Ag v2:=vK h4;replace h5:Ag lo≤Ag v3:=vK h5;replace g2:zC v0≤zC hi:=vL g2;replace g3:zC v1≤zC hi:=vL g3;replace g4:zC v2≤zC hi:=vL g4;replace g5:zC v3≤zC hi:=vL g5
 have h6:Ag lo=Ag v0∨Ag lo=Ag v1∨Ag lo=Ag v2∨Ag lo=Ag v3:=by
  rcases h1 with rfl|rfl|rfl|rfl
  ·exact .inl rfl
  ·exact .inr (.inl rfl)
  ·exact .inr (.inr (.inl rfl))
  ·exact .inr (.inr (.inr rfl))
 have g6:zC hi=zC v0∨zC hi=zC v1∨zC hi=zC v2∨zC hi=zC v3:=by
  rcases g1 with rfl|rfl|rfl|rfl
  ·exact .inl rfl
  ·exact .inr (.inl rfl)
  ·exact .inr (.inr (.inl rfl))
  ·exact .inr (.inr (.inr rfl))
 unfold jQ;rw [oZ,oZ]
 show gN (Ag lo) (zC hi)=_
 clear h1 g1;generalize Ag lo=L at *;generalize zC hi=H at *;generalize Ag v0=l0 at *;generalize Ag v1=l1 at *;generalize Ag v2=l2 at *;generalize Ag v3=l3 at *;generalize zC v0=u0 at *;generalize zC v1=u1 at *;generalize zC v2=u2 at *;generalize zC v3=u3 at *;obtain ⟨x0,y0⟩:=A0;obtain ⟨x1,y1⟩:=A1;obtain ⟨x2,y2⟩:=A2;obtain ⟨x3,y3⟩:=A3;obtain ⟨s0,t0⟩:=B0;obtain ⟨s1,t1⟩:=B1;obtain ⟨s2,t2⟩:=B2;obtain ⟨s3,t3⟩:=B3;simp only at q0 q1 q2 q3 p0 p1 p2 p3 ⊢
 by_cases hf:(y0&&t0&&(y1&&t1)&&(y2&&t2)&&(y3&&t3))=true
 ·rw [if_pos hf];simp only [aG] at hf;obtain ⟨⟨⟨⟨f1,f2⟩,f3,f4⟩,f5,f6⟩,f7,f8⟩:=hf;obtain ⟨rfl, -⟩:=q0.1 f1;obtain ⟨rfl, -⟩:=q1.1 f3;obtain ⟨rfl, -⟩:=q2.1 f5;obtain ⟨rfl, -⟩:=q3.1 f7;obtain ⟨rfl, -⟩:=p0.1 f2;obtain ⟨rfl, -⟩:=p1.1 f4;obtain ⟨rfl, -⟩:=p2.1 f6;obtain ⟨rfl, -⟩:=p3.1 f8
  have m1:L=[x0,x1,x2,x3].foldl min x0:=by
   simp only [List.foldl];omega
  have m2:H=[s0,s1,s2,s3].foldl max s0:=by
   simp only [List.foldl];omega
  rw [m1,m2]
 ·rw [if_neg hf]
  have hb:gM L H=false:=by
   refine Ep ?_
   have:y0=false∨t0=false∨y1=false∨t1=false∨y2=false∨t2=false∨y3=false∨t3=false:=by
    revert hf
    cases y0<;>cases t0<;>cases y1<;>cases t1<;>cases y2<;>cases t2<;>cases y3<;>cases t3<;>simp
   rcases this with h|h|h|h|h|h|h|h
   ·have:=q0.2 h;omega
   ·have:=p0.2 h;omega
   ·have:=q1.2 h;omega
   ·have:=p1.2 h;omega
   ·have:=q2.2 h;omega
   ·have:=p2.2 h;omega
   ·have:=q3.2 h;omega
   ·have:=p3.2 h;omega
  unfold gN;rw [hb];rfl
theorem Qv (a b c d:Int):jQ (un a - un d) (un b - un c)=gN (a - d) (b - c):=by
 have h:=Ga a (-d) b (-c)
 have e:∀ n:Int,un (-n)= -un n:=fun n=>by
  unfold un;rw [Rat.intCast_neg,rW]
 rw [e,e,← Rat.sub_eq_add_neg,← Rat.sub_eq_add_neg,← Int.sub_eq_add_neg,← Int.sub_eq_add_neg] at h;exact h
theorem Vj (x y:Int) (d:Nat) (up:Bool):mh x y d up=Ny (qK (x*y) d up):=rfl
theorem aA3 {q:Rat} {n:Int} {d:Nat} (hd:0<d) (h:q*((1000000000000:Int):Rat)=(n:Rat) / ((d:Int):Rat)):Ag q=qK n d false∧zC q=qK n d true:=by
 unfold Ag zC;rw [h]
 constructor
 ·rw [qj _ zo];rfl
 ·rw [rW,← Rat.intCast_neg,qj _ zo];rfl
theorem BO (d:Int) (hd:0<d) (x n:Int):Um (fun x y up=>oJ x y d up) (fun x y=>un x*((y:Rat) / (d:Rat))) x n:=by
 have e1:=G9 x
 have hd':(d:Rat)≠0:=fun h=>by
  have:d=0:=by exact_mod_cast h
  omega
 have key:un x*((n:Rat) / (d:Rat))*((1000000000000:Int):Rat)=((x*n:Int):Rat) / ((d.natAbs:Int):Rat):=by
  have:((d.natAbs:Int):Rat)=(d:Rat):=by congr 1;omega
  rw [this,Rat.intCast_mul,← e1]
  grind
 have h:=aA3 zo key;unfold Um oJ;simp only [Vj,if_neg (show ¬ d<0 by omega)];exact ⟨congrArg Ny h.1.symm,congrArg Ny h.2.symm⟩
theorem Qw (a:Int × Int) (n d:Int) (hd:0<d):jQ (jJ (un a.1*((n:Rat) / (d:Rat))) [un a.2*((n:Rat) / (d:Rat))]) (gW (un a.1*((n:Rat) / (d:Rat))) [un a.2*((n:Rat) / (d:Rat))])=sU (fun x y up=>oJ x y d up) a (n,n):=by
 rw [← Qy _ (fun x y=>un x*((y:Rat) / (d:Rat))) a (n,n) (BO d hd _ _) (BO d hd _ _) (BO d hd _ _) (BO d hd _ _)];simp only;generalize un a.1*((n:Rat) / (d:Rat))=p;generalize un a.2*((n:Rat) / (d:Rat))=q;have h1:jJ p [p,q,q]=jJ p [q]:=by unfold jJ jJ jJ jJ;grind
 have h2:gW p [p,q,q]=gW p [q]:=by unfold gW gW gW gW;grind
 rw [h1,h2]
end Go.Proofs.aS
namespace Go.Proofs.aS
open Go Go.RowKit Go.SW Go.Num Go.Mem Go.Proofs Go.Dec Go.gB Go.Proofs.aW Go.Proofs.aH Go.Proofs.aF Go.Fx
theorem ZU (x y z t:Int) (w:World) (h:¬ (gM x y=true∧gM z t=true)):Calls Tryz.prog 138 #[au #[Z I x,Z I y],au #[Z I z,Z I t]] w (fun e w'=>e= ah (dZ ((0,0),30))∧Below w.heap.size w w'):=by
 have R1:=fun W=>iQ x y W;have R2:=fun W=>iQ z t W;cases h1:gM x y
 ·rw [h1] at R1;refine Fx.door Tryz.func138 rfl (.nil w []) ?_;refine Fx.new [] 2 #[Z I x,Z I y] 40 [] [] fun fT=>?_;refine Fx.new [] 3 #[Z I z,Z I t] 40 [] [] fun fJ=>?_;refine Fx.aV [] 4 40 [] [] fun fF=>?_;refine Fx.bJ [3] 7 [] [] R1 ?_;exact Fx.dQ 2 fF [0,0,1,5] [(2,#[Z I 0,Z I 0])] (fun W M=>⟨rfl,M.below⟩)
 ·have h2:gM z t=false:=by
   cases h2:gM z t
   ·rfl
   ·exact absurd ⟨h1,h2⟩ h
  rw [h1] at R1;rw [h2] at R2;refine Fx.door Tryz.func138 rfl (.nil w []) ?_;refine Fx.new [] 2 #[Z I x,Z I y] 40 [] [] fun fT=>?_;refine Fx.new [] 3 #[Z I z,Z I t] 40 [] [] fun fJ=>?_;refine Fx.aV [] 4 40 [] [] fun fF=>?_;refine Fx.bJ [3] 7 [] [] R1 ?_;refine Fx.bJ [4] 11 [(9,ak false)] [] R2 ?_;exact Fx.dQ 2 fF [1,5] [(2,#[Z I 0,Z I 0])] (fun W M=>⟨rfl,M.below⟩)
theorem Xu (x y z t:Int) (w:World) (h1:gM x y=true) (h2:gM z t=true):Calls Tryz.prog 138 #[au #[Z I x,Z I y],au #[Z I z,Z I t]] w (fun e w'=>e= ah (dZ (gN (x - t) (y - z)))∧Below w.heap.size w w'):=by
 have R1:=fun W=>h1 ▸ iQ x y W;have R2:=fun W=>h2 ▸ iQ z t W;obtain ⟨b1,b2,b3⟩:=Ai h1;obtain ⟨b4,b5,b6⟩:=Ai h2;have V1:=fun W=>(iX x zo zo W).mono fun _ _ q=>jT q;have V2:=fun W=>(iX t zo zo W).mono fun _ _ q=>jT q;have V3:=fun W=>(iX y zo zo W).mono fun _ _ q=>jT q;have V4:=fun W=>(iX z zo zo W).mono fun _ _ q=>jT q;have s1:=o8 x zo zo;have s2:=o8 t zo zo;have s3:=o8 y zo zo;have s4:=o8 z zo zo;have P1:=fun v v' W (h:Ra W v (un x)) (h':Ra W v' (un t))=>(oV v v' _ _ W h h' (s1.mono zo) (s2.mono zo)).mono fun _ _ q=>jT q;have P2:=fun v v' W (h:Ra W v (un y)) (h':Ra W v' (un z))=>(oV v v' _ _ W h h' (s3.mono zo) (s4.mono zo)).mono fun _ _ q=>jT q;have T1:=fun v v' W (h:Ra W v (un x - un t)) (h':Ra W v' (un y - un z))=>zw v v' _ _ W h h' ((Ho s1 s2).mono zo) ((Ho s3 s4).mono zo)
 rw [Qv] at T1;obtain ⟨e1,e2,k,ex⟩:=sF (gN (x - t) (y - z));rw [ex] at T1 ⊢;unfold dZ at T1 ⊢;refine Fx.door Tryz.func138 rfl (.nil w []) ?_;refine Fx.new [] 2 #[Z I x,Z I y] 40 [] [] fun fT=>?_;refine Fx.new [] 3 #[Z I z,Z I t] 40 [] [] fun fJ=>?_;refine Fx.aV [] 4 40 [] [] fun fF=>?_;refine Fx.bJ [3] 7 [] [] R1 ?_;refine Fx.bJ [4] 11 [(9,ak false)] [] R2 ?_;refine Fx.draw [2] [0,1,3,4,7,8,10,11,2,5,6,9,12,13,14,15,16,17,5018] [] [] [] ?_;refine Fx.iR [3,4,3,4] 17 [(19,Z I t),(23,Z I y),(26,Z I z)] [] (fun W M=>V1 _) ?_;rintro W wx4 e M ⟨n1,p1,l1,c1,m1,q1,j1,d1,rfl,B4,Q1⟩;refine ⟨B4,fun M4=>?_⟩;have M:=M4;have Ug:=M.below;refine Fx.iR [] 20 [] [] (fun W M=>V2 _) ?_;rintro W wx5 e M ⟨n2,p2,l2,c2,m2,q2,j2,d2,rfl,B5,Q2⟩;refine ⟨B5,fun M5=>?_⟩;have M:=M5;replace Q1:=Q1.later M.below;have Uf:=(Bt Ug M.below)
 refine Fx.iR [] 21 [] [] (fun W M=>P1 _ _ _ (Q1.later M.below) (Q2.later M.below)) ?_;rintro W wx6 e M ⟨n3,p3,l3,c3,m3,q3,j3,d3,rfl,B6,Q3⟩;refine ⟨B6,fun M6=>?_⟩;have M:=M6;replace Q1:=Q1.later M.below;replace Q2:=Q2.later M.below;have HZ6:=(Bt Uf M.below);refine Fx.iR [] 24 [] [] (fun W M=>V3 _) ?_;rintro W wx7 e M ⟨n4,p4,l4,c4,m4,q4,j4,d4,rfl,B7,Q4⟩;refine ⟨B7,fun M7=>?_⟩;have M:=M7;replace Q1:=Q1.later M.below;replace Q2:=Q2.later M.below;replace Q3:=Q3.later M.below;have HZ7:=(Bt HZ6 M.below);refine Fx.iR [] 27 [] [] (fun W M=>V4 _) ?_;rintro W wx8 e M ⟨n5,p5,l5,c5,m5,q5,j5,d5,rfl,B8,Q5⟩;refine ⟨B8,fun M8=>?_⟩;have M:=M8;replace Q1:=Q1.later M.below;replace Q2:=Q2.later M.below;replace Q3:=Q3.later M.below;replace Q4:=Q4.later M.below;have HZ8:=(Bt HZ7 M.below);refine Fx.iR [] 28 [] [] (fun W M=>P2 _ _ _ (Q4.later M.below) (Q5.later M.below)) ?_
 rintro W wx9 e M ⟨n6,p6,l6,c6,m6,q6,j6,d6,rfl,B9,Q6⟩;refine ⟨B9,fun M9=>?_⟩;have M:=M9;replace Q1:=Q1.later M.below;replace Q2:=Q2.later M.below;replace Q3:=Q3.later M.below;replace Q4:=Q4.later M.below;replace Q5:=Q5.later M.below;have HZ9:=(Bt HZ8 M.below);refine Fx.call [] 29 [] [] (fun W M=>T1 _ _ _ (Q3.later M.below) (Q6.later M.below)) ?_;refine Fx.part 3 [] [(30,au #[Z I e1,Z I e2]),(31,Z I k)] [] ?_;refine Fx.back M9 ?_;refine Fx.back M8 ?_;refine Fx.back M7 ?_;refine Fx.back M6 ?_;refine Fx.back M5 ?_;refine Fx.back M4 ?_;exact Fx.dQ 2 fF [5] [(2,#[Z I e1,Z I e2])] (fun W M=>⟨rfl,M.below⟩)
theorem xP (a b:Int × Int) (w:World):Calls Tryz.prog 138 #[au #[Z I a.1,Z I a.2],au #[Z I b.1,Z I b.2]] w (fun e w'=>e= ah (dZ (aW.wH a b))∧Below w.heap.size w w'):=by
 unfold aW.wH okB;simp only [fO,List.all_nil,Bool.and_true]
 by_cases h:gM a.1 a.2=true∧gM b.1 b.2=true
 ·rw [if_pos (by simp [h.1,h.2])];exact Xu _ _ _ _ w h.1 h.2
 ·rw [if_neg (by simpa using h)];exact ZU _ _ _ _ w h
end Go.Proofs.aS
namespace Go.Proofs.aF
open Go Go.RowKit Go.SW Go.Num Go.Mem Go.Proofs
end Go.Proofs.aF
namespace Go.Proofs.aH
open Go Go.RowKit Go.SW Go.Num Go.Mem Go.Proofs Go.Dec Go.Proofs.aF Go.gB
end Go.Proofs.aH
namespace Go.Proofs.aS
open Go Go.RowKit Go.SW Go.Num Go.Mem Go.Proofs Go.Dec Go.gB Go.Proofs.aW Go.Proofs.aH
end Go.Proofs.aS
namespace Go.Proofs.gI
open Go Go.RowKit Go.SW Go.Num Go.Mem Go.Proofs Go.Dec Go.gB Go.Proofs.aW Go.Proofs.aH Go.Proofs.aS Go.Proofs.power
end Go.Proofs.gI
namespace Go.Proofs.aH
open Go Go.RowKit Go.SW Go.Num Go.Mem Go.Proofs Go.Dec Go.Proofs.aF Go.gB
theorem mE (n d:Int) (h1: -9223372036854775808≤n) (h2:n≤9223372036854775807) (h3: -9223372036854775808≤d) (h4:d≤9223372036854775807) (w:World) :
  Calls Tryz.prog 118 #[Z I n,Z I d] w (rO w (nk n d)):=by
 unfold nk
 by_cases hd:d=0
 ·subst hd;rw [if_pos rfl];clear h1 h2 h3 h4;go_enter Tryz.func118,Tryz.ntmps118
  go_wp2_with fail
  refine bK rfl rfl bI Tryz.underlying32 rfl zk ?_;exact ⟨rfl,aJ⟩
 ·rw [if_neg hd];have H1:=zh (fun W=>vI n d h1 h2 h3 h4 hd W);obtain ⟨l1,l2⟩:=Ab (n:=n) hd;have H2:=zh (fun x W hx=>rM x ((n:Rat) / (d:Rat)) W hx (ay (fB zo l1) (ay (Hw h1 h2) zo)) (ay (fB zo l2) (ay (Hw h3 h4) zo)));clear l1 l2;generalize (n:Rat) / (d:Rat)=q at *;obtain ⟨⟨⟨s1,s2⟩,k⟩,E⟩:∃ y,wr q=y:=⟨_,rfl⟩;rw [E] at H2 ⊢;replace H2:Hid (∀ x W,Ra W x q→Calls Tryz.prog 133 #[x] W (fun e w'=>e= ah (aD #[au #[O s1,O s2],Z I k])∧Below W.heap.size W w')):=H2;clear E h1 h2 h3 h4;go_enter Tryz.func118,Tryz.ntmps118
  go_wp2_with fail
  obtain ⟨oC,EW,hz,X1⟩:=zD w #[O ⟨#[]⟩,O ⟨#[]⟩] 32;rw [EW];have hk2:=Bt (Below.refl _ _) hz;clear EW hz;refine (H1.out _).mono ?_;rintro e pG ⟨vq,rfl,hb3,hq⟩;replace X1:=X1.bl hb3;have hk5:=Bt hk2 hb3;clear hk2;have NQ:=zh hq;clear hb3 hq;go_wp2_with fail
  refine (H2.out _ _ NQ.out).mono ?_;rintro e wM ⟨rfl,hb6⟩;replace X1:=X1.bl hb6;replace NQ:=zh (NQ.out.later hb6);have LD:=Bt hk5 hb6;clear hk5;clear hb6;obtain ⟨nK,nI,oq⟩:=X1.clf;have hres:=X1.out;have IU:=hres.cell;have IJ:=hres.free;go_wp2_with fail
  refine bK rfl rfl bI Tryz.underlying32 rfl zk ?_;exact ⟨rfl,aJ⟩
end Go.Proofs.aH
namespace Go.gB
open Go Go.Num Go.Proofs
def Hq (k:Nat) (q:Rat):Prop:=∃ n d:Int,0<d∧d.natAbs≤jR k∧n.natAbs≤jR k∧q=(n:Rat) / (d:Rat)
theorem yc (a b:Nat):jR (a+b)=jR a*jR b:=gG _ _ _
theorem QD {a b:Nat} (h:a≤b):jR a≤jR b:=bH zo h
theorem Yj {a b:Nat} (h:a<b):jR a<jR b:=Nat.pow_lt_pow_right zo h
theorem Hq.mono {a b:Nat} {q:Rat} (h:Hq a q) (k:a≤b):Hq b q:=by
 obtain ⟨n,d,h1,h2,h3,h4⟩:=h;have:=QD k;exact ⟨n,d,h1,by omega,by omega,h4⟩
theorem Hq.ok {a:Nat} {q:Rat} (h:Hq a q) (k:a<600):uQ q=true:=by
 obtain ⟨n,d,h1,h2,h3,rfl⟩:=h;obtain ⟨l1,l2⟩:=aH.Ab (n:=n) (d:=d) zo;have:=Yj k;unfold uQ kS;generalize jR 600=X at *;rw [aG];exact ⟨decide_eq_true zo,decide_eq_true zo⟩
theorem yZ {d:Int} (h:0<d):(d:Rat)≠0:=fun e=>by
 have:d=0:=by exact_mod_cast e
 omega
theorem Hq.mul {a b:Nat} {p q:Rat} (h:Hq a p) (k:Hq b q):Hq (a+b) (p*q):=by
 obtain ⟨n,d,h1,h2,h3,rfl⟩:=h;obtain ⟨n',d',k1,k2,k3,rfl⟩:=k;refine ⟨n*n',d*d',Int.mul_pos h1 k1,?_,?_,?_⟩
 ·rw [yc,Int.natAbs_mul];exact fA h2 k2
 ·rw [yc,Int.natAbs_mul];exact fA h3 k3
 ·have e1:=yZ h1;have e2:=yZ k1;rw [Rat.intCast_mul,Rat.intCast_mul]
  grind
theorem Hq.add {a b:Nat} {p q:Rat} (h:Hq a p) (k:Hq b q):Hq (a+b+1) (p+q):=by
 obtain ⟨n,d,h1,h2,h3,rfl⟩:=h;obtain ⟨n',d',k1,k2,k3,rfl⟩:=k;have t:jR (a+b+1)=10*(jR a*jR b):=by rw [yc,yc];show _*10=_;omega
 refine ⟨n*d'+n'*d,d*d',Int.mul_pos h1 k1,?_,?_,?_⟩
 ·have:=fA h2 k2;rw [t,Int.natAbs_mul];omega
 ·have x1:=fA h3 k2;have x2:=fA k3 h2;rw [aL (jR b)] at x2;have x3:=Int.natAbs_add_le (n*d') (n'*d);rw [Int.natAbs_mul,Int.natAbs_mul] at x3;rw [t];omega
 ·have e1:=yZ h1;have e2:=yZ k1;rw [Rat.intCast_add,Rat.intCast_mul,Rat.intCast_mul,Rat.intCast_mul]
  grind
theorem Hq.neg {a:Nat} {p:Rat} (h:Hq a p):Hq a (-p):=by
 obtain ⟨n,d,h1,h2,h3,rfl⟩:=h;exact ⟨-n,d,h1,h2,by rw [Int.natAbs_neg];exact h3,by rw [Rat.intCast_neg];grind⟩
theorem Hq.sub {a b:Nat} {p q:Rat} (h:Hq a p) (k:Hq b q):Hq (a+b+1) (p - q):=by
 rw [Rat.sub_eq_add_neg];exact h.add k.neg
theorem Hq.zero:Hq 0 0:=⟨0,1,by omega,by decide,by decide,by decide+kernel⟩
theorem Hq.one:Hq 0 1:=⟨1,1,by omega,by decide,by decide,by decide+kernel⟩
end Go.gB
namespace Go.Proofs
open Go Go.RowKit Go.SW Go.Num Go.Mem Go.gB
theorem KJ (n:Int) (h:n.natAbs≤1000000000000000000):(nk n 1000000000000).2=0:=by
 have hq:Hq 18 ((n:Rat) / ((1000000000000:Int):Rat)):=⟨n,1000000000000,by omega,by decide+kernel,ay h (by decide+kernel),rfl⟩;unfold nk wr;rw [if_neg zo,if_pos (hq.ok zo)]
theorem aL6 {s t s' t' y y':ByteArray} {k:Int} (hx:tY ⟨s,t⟩ ⟨s',t'⟩=(⟨y,y'⟩,k)) (w:World) (ht:jN.Pow w):Calls Tryz.prog 168 #[au #[O s,O t],au #[O s',O t']] w (fun e w'=>e= ah (aD #[au #[O y,O y'],Z I k])∧Below w.heap.size w w'):=by
 have h:=fC.uj ⟨s,t⟩ ⟨s',t'⟩ w ht;rw [hx] at h;exact h
theorem aK9 {s t s' t' y y':ByteArray} {k:Int} (hx:rT ⟨s,t⟩ ⟨s',t'⟩=(⟨y,y'⟩,k)) (w:World) (ht:jN.Pow w):Calls Tryz.prog 171 #[au #[O s,O t],au #[O s',O t']] w (fun e w'=>e= ah (aD #[au #[O y,O y'],Z I k])∧Below w.heap.size w w'):=by
 have h:=fC.xP ⟨s,t⟩ ⟨s',t'⟩ w ht;rw [hx] at h;exact h
theorem aL1 {s t s' t' y y':ByteArray} {k:Int} (hx:kM ⟨s,t⟩ ⟨s',t'⟩=(⟨y,y'⟩,k)) (w:World) (ht:jN.Pow w):Calls Tryz.prog 18 #[au #[O s,O t],au #[O s',O t']] w (fun e w'=>e= ah (aD #[au #[O y,O y'],Z I k])∧Below w.heap.size w w'):=by
 have h:=fC.ug ⟨s,t⟩ ⟨s',t'⟩ w ht;rw [hx] at h;exact h
theorem aL3 {s t s' t' y y':ByteArray} {k:Int} (hx:oN ⟨s,t⟩ ⟨s',t'⟩=(⟨y,y'⟩,k)) (w:World) (ht:jN.Pow w):Calls Tryz.prog 128 #[au #[O s,O t],au #[O s',O t']] w (fun e w'=>e= ah (aD #[au #[O y,O y'],Z I k])∧Below w.heap.size w w'):=by
 have h:=fC.xV ⟨s,t⟩ ⟨s',t'⟩ w ht;rw [hx] at h;exact h
theorem aL4 {s t s' t':ByteArray} {v k:Int} (hx:rE ⟨s,t⟩ ⟨s',t'⟩=(v,k)) (w:World):Calls Tryz.prog 19 #[au #[O s,O t],au #[O s',O t']] w (fun e w'=>e= ah (aD #[Z I v,Z I k])∧Below w.heap.size w w'):=by
 have h:=fC.E9 ⟨s,t⟩ ⟨s',t'⟩ w;rw [hx] at h;exact h
theorem Xe {s t:ByteArray} {v k:Int} (hx:iK ⟨s,t⟩=(v,k)) (w:World):Calls Tryz.prog 104 #[au #[O s,O t]] w (fun e w'=>e= ah (aD #[Z I v,Z I k])∧Below w.heap.size w w'):=by
 have h:=fC.nV ⟨s,t⟩ w;rw [hx] at h;exact h
theorem cOf {n d:Int} {y y':ByteArray} {k:Int} (hx:nk n d=(⟨y,y'⟩,k)) (w:World) (ht:jN.Pow w) (n0: -9223372036854775808≤n:=by omega) (n1:n≤9223372036854775807:=by omega) (d0: -9223372036854775808≤d:=by omega) (d1:d≤9223372036854775807:=by omega) :
  Calls Tryz.prog 115 #[.int .i64 n,.int .i64 d] w (fun e w'=>e= .returned (.tuple #[.agg #[.string y,.string y'],.int .i64 k])∧Below w.heap.size w w'):=by
 have h:=fC.mE n d n0 n1 d0 d1 w ht;rw [hx] at h;exact h
theorem ZK {s t:ByteArray} {x y k:Int} (hx:aW.eF ⟨s,t⟩=((x,y),k)) (w:World) (ht:jN.Pow w) (he:whole.Er w):Calls Tryz.prog 36 #[au #[O s,O t]] w (fun e w'=>e= ah (aD #[au #[Z I x,Z I y],Z I k])∧Below w.heap.size w w'):=by
 have h:=aW.Ap ⟨s,t⟩ w ht he;rw [hx] at h;exact h
theorem aA8 {lo hi q x y k:Int} (hx:power.pwE lo hi 1 q=((x,y),k)) (w:World) (ht:jN.Pow w) (he:whole.Er w):Calls Tryz.prog 124 #[au #[Z I lo,Z I hi],Z I q] w (fun e w'=>e= ah (aD #[au #[Z I x,Z I y],Z I k])∧Below w.heap.size w w'):=by
 have h:=power.I4 lo hi q w ht he;rw [hx] at h;exact h
theorem ad3 {x y x' y' u v k:Int} (hx:aW.kH (x,y) (x',y')=((u,v),k)) (w:World):Calls Tryz.prog 30 #[au #[Z I x,Z I y],au #[Z I x',Z I y']] w (fun e w'=>e= ah (aD #[au #[Z I u,Z I v],Z I k])∧Below w.heap.size w w'):=by
 have h:=aW.uj x y x' y' w;rw [hx] at h;exact h
theorem P7 {x y x' y' u v k:Int} (hx:aW.wH (x,y) (x',y')=((u,v),k)) (w:World):Calls Tryz.prog 50 #[au #[Z I x,Z I y],au #[Z I x',Z I y']] w (fun e w'=>e= ah (aD #[au #[Z I u,Z I v],Z I k])∧Below w.heap.size w w'):=by
 have h:=aW.xP x y x' y' w;rw [hx] at h;exact h
theorem Xg {x y x' y' u v k:Int} (hx:aW.uR (x,y) (x',y')=((u,v),k)) (w:World):Calls Tryz.prog 31 #[au #[Z I x,Z I y],au #[Z I x',Z I y']] w (fun e w'=>e= ah (aD #[au #[Z I u,Z I v],Z I k])∧Below w.heap.size w w'):=by
 have h:=aW.ug x y x' y' w;rw [hx] at h;exact h
theorem aB0 {x y x' y' u v k:Int} (hx:aW.WV (x,y) (x',y')=((u,v),k)) (w:World):Calls Tryz.prog 74 #[au #[Z I x,Z I y],au #[Z I x',Z I y']] w (fun e w'=>e= ah (aD #[au #[Z I u,Z I v],Z I k])∧Below w.heap.size w w'):=by
 have h:=aW.xV x y x' y' w;rw [hx] at h;exact h
theorem ZI {x y n d u v k:Int} (hx:aW.qw (x,y) n d=((u,v),k)) (w:World):Calls Tryz.prog 130 #[au #[Z I x,Z I y],Z I n,Z I d] w (fun e w'=>e= ah (aD #[au #[Z I u,Z I v],Z I k])∧Below w.heap.size w w'):=by
 have h:=aW.EM x y n d w;rw [hx] at h;exact h
theorem ZJ {x y n d u v k:Int} (hx:aW.WY (x,y) n d=((u,v),k)) (w:World):Calls Tryz.prog 73 #[au #[Z I x,Z I y],Z I n,Z I d] w (fun e w'=>e= ah (aD #[au #[Z I u,Z I v],Z I k])∧Below w.heap.size w w'):=by
 have h:=aW.XQ x y n d w;rw [hx] at h;exact h
theorem an4 {n u v k:Int} (hx:aW.Ut n=((u,v),k)) (w:World):Calls Tryz.prog 131 #[Z I n] w (fun e w'=>e= ah (aD #[au #[Z I u,Z I v],Z I k])∧Below w.heap.size w w'):=by
 have h:=aW.Xz n w;rw [hx] at h;exact h
def aW.ofE (lo hi:Int):(Int × Int) × Int:=if aW.gM lo hi then ((lo,hi),0) else ((0,0),30)
theorem aL5 {lo hi u v k:Int} (hx:aW.ofE lo hi=((u,v),k)) (w:World):Calls Tryz.prog 183 #[Z I lo,Z I hi] w (fun e w'=>e= ah (aD #[au #[Z I u,Z I v],Z I k])∧Below w.heap.size w w'):=by
 have h:=aW.mE lo hi w;unfold aW.ofE at hx
 revert h
 cases hb:aW.gM lo hi<;>rw [hb] at hx<;>(try rw [if_pos rfl] at hx)<;>(try rw [if_neg zd] at hx)<;>cases hx<;>exact fun h=>h
def Ie (a:Fr) (n:Nat):Fr × Int:=match rd a with
 | some p=>wr (p^n)
 | none=>(Fr.no,20)
theorem aL0 {s t y y':ByteArray} {n:Nat} {k:Int} (hx:Ie ⟨s,t⟩ n=(⟨y,y'⟩,k)) (w:World) (ht:jN.Pow w) (h:∃ p,rd ⟨s,t⟩=some p∧0≤p) (n40:n≤40:=by omega):Calls Tryz.prog 127 #[.agg #[.string s,.string t],.int .i64 (n:Int)] w (fun e w'=>e= .returned (.tuple #[.agg #[.string y,.string y'],.int .i64 k])∧Below w.heap.size w w'):=by
 obtain ⟨p,hp,h0⟩:=h;obtain ⟨e,ok⟩:=oK hp;have h:=fC.xR p n ok h0 n40 w ht;unfold Ie at hx;rw [hp] at hx;replace hx:wr (p^n)=(⟨y,y'⟩,k):=hx;rw [hx,← e] at h;exact h
theorem aL2 {lo hi k:Int} {y y':ByteArray} (hx:aW.JY (lo,hi)=(⟨y,y'⟩,k)) (w:World) (ht:jN.Pow w) (hb:aW.gM lo hi=true):Calls Tryz.prog 244 #[au #[Z I lo,Z I hi]] w (fun e w'=>e= ah (aD #[au #[O y,O y'],Z I k])∧Below w.heap.size w w'):=by
 unfold aW.JY at hx;rw [if_pos hb] at hx;obtain ⟨h1,h2,h3⟩:=aW.zY hb
 have hk:k=0:=by
  have:=KJ lo zo;have e:(nk lo 1000000000000).2=k:=congrArg Prod.snd hx;rw [← e,this]
 subst hk;exact aW.Ot lo hi y y' w hb fun W hW=>aW.DN lo y y' W zo zo (ht.later hW) hx
theorem aA9 {lo hi k:Int} {y y':ByteArray} (hx:aW.AO (lo,hi)=(⟨y,y'⟩,k)) (w:World) (ht:jN.Pow w) (hb:aW.gM lo hi=true):Calls Tryz.prog 245 #[au #[Z I lo,Z I hi]] w (fun e w'=>e= ah (aD #[au #[O y,O y'],Z I k])∧Below w.heap.size w w'):=by
 unfold aW.AO at hx;rw [if_pos hb] at hx;obtain ⟨h1,h2,h3⟩:=aW.zY hb
 have hk:k=0:=by
  have:=KJ hi zo;have e:(nk hi 1000000000000).2=k:=congrArg Prod.snd hx;rw [← e,this]
 subst hk;exact aW.I7 lo hi y y' w hb fun W hW=>aW.DN hi y y' W zo zo (ht.later hW) hx
end Go.Proofs
