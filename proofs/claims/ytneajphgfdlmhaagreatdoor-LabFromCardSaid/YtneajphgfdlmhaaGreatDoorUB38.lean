/- Lemmas for the proof. No condition. -/
import Derived.Test.YtneajphgfdlmhaaGreatDoorUB22
import Derived.Test.YtneajphgfdlmhaaGreatDoorUB37
set_option linter.unusedVariables false
set_option linter.unusedSimpArgs false
set_option maxRecDepth 100000
set_option maxHeartbeats 16000000
open Bool renaming and_eq_true → aG, false_eq_true → dG
open Go.Ending renaming returned → ah
open Go.IntKind renaming i64 → I
open Go.Value renaming agg → au, bool → ak, int → Z, slice → aj
open List renaming range → dF
open Nat renaming le_trans → ay
open Prod.mk renaming injEq → iD
namespace Go.Proofs.aS
open Go Go.RowKit Go.SW Go.Num Go.Mem Go.Proofs Go.Dec Go.gB Go.Proofs.aW Go.Proofs.aH Go.Proofs.aF
theorem iQ (lo hi:Int) (w:World):Calls Tryz.prog 164 #[au #[Z I lo,Z I hi]] w (fun e w'=>e= ah (ak (gM lo hi))∧Below w.heap.size w w'):=by
 unfold gM;cases h1:decide (-1000000000000000000≤lo)<;>cases h2:decide (lo≤hi)<;>cases h3:decide (hi≤1000000000000000000)
 all_goals
  go_enter Tryz.func164,Tryz.ntmps164
  go_wp2_with fail
  go_ret
  exact ⟨rfl,aJ⟩
def un (n:Int):Rat:=(n:Rat) / ((1000000000000:Int):Rat)
theorem iX (n:Int) (h1: -9223372036854775808≤n) (h2:n≤9223372036854775807) (w:World):Calls Tryz.prog 216 #[Z I n] w (ow w (un n)):=by
 have H:=zh (fun W=>vI n 1000000000000 h1 h2 zo zo zo W);have e:((n:Rat) / ((1000000000000:Int):Rat))=un n:=rfl;rw [e] at H;generalize un n=q at *;go_enter Tryz.func216,Tryz.ntmps216
 go_wp2_with fail
 obtain ⟨oC,EW,hz,X1⟩:=zD w #[ak false,aj none 0 0,ak false,aj none 0 0] 163;rw [EW];have hk2:=Bt (Below.refl _ _) hz;clear EW hz;refine (H.out _).mono ?_;rintro e pG ⟨v,rfl,hb3,hv4⟩;obtain ⟨bC,paC,lC,caC,bCd,aV9,lCd,ba7,rfl,hx4,hy4⟩:=id hv4;replace X1:=X1.bl hb3;have hk5:=Bt hk2 hb3;clear hk2;have QC:=zh hv4;clear hb3 hv4 hx4 hy4;obtain ⟨nK,nI,oq⟩:=X1.clf;have hres:=X1.out;have IU:=hres.cell;have IJ:=hres.free;go_wp2_with fail
 refine ig rfl rfl bI Tryz.underlying163 rfl zk ?_;exact ⟨_,rfl,aJ,Ra.Mq QC.out hres zd _ _ _ _⟩
def jQ (a b:Rat):(Int × Int) × Int:=gN (XY (a*((1000000000000:Int):Rat))) (-(XY (-(b*((1000000000000:Int):Rat)))))
theorem aw2:((1000000000000:Int):Rat) / ((1:Int):Rat)=((1000000000000:Int):Rat):=by decide+kernel
theorem OT:jy 2 ((1000000000000:Int):Rat):=by constructor<;>decide+kernel
theorem WE {q:Rat} {k:Nat} (h:jy k q) (hk:k≤100000):sz 10000 (XY q).natAbs≤549755813888:=by
 obtain ⟨s1,s2⟩:=jy.four h;have hd:=q.den_pos
 have h1:(XY q).natAbs≤q.num.natAbs:=by
  unfold XY;exact Int.natAbs_ediv_le_natAbs _ _
 exact ay (fB zo h1) zo
theorem Ep {X Y:Int} (h:X< -1000000000000000000∨1000000000000000000<Y∨Y<X):gM X Y=false:=by
 unfold gM
 rcases h with h|h|h
 ·rw [decide_eq_false (show ¬ -1000000000000000000≤X by omega)];rfl
 ·rw [decide_eq_false (show ¬ Y≤1000000000000000000 by omega)];simp
 ·rw [decide_eq_false (show ¬ X≤Y by omega)];simp
theorem Ai {X Y:Int} (h:gM X Y=true): -1000000000000000000≤X∧X≤Y∧Y≤1000000000000000000:=by
 unfold gM at h
 simpa using h
theorem zw (x y:Value) (a b:Rat) (w:World) (hx:Ra w x a) (hy:Ra w y b) (h1:jy 1000 a) (h2:jy 1000 b) :
  Calls Tryz.prog 214 #[x,y] w (fun e w'=>e= ah (dZ (jQ a b))∧Below w.heap.size w w'):=by
 obtain ⟨bA,mK,lA,mP,BS,pO,BJ,pX,rfl, -⟩:=id hx;obtain ⟨bB,pz,lB,pF,Ux,Bj,Uv,Br,rfl, -⟩:=id hy;have s1:=nO (h1.mono (show 1000≤1000 by omega)) (OT.mono (show 2≤1000 by omega));have s2:=nO (h2.mono (show 1000≤1000 by omega)) (OT.mono (show 2≤1000 by omega));have hQ:=zh (fun W=>(vI 1000000000000 1 zo zo zo zo zo W).mono fun _ _ q=>jT (aw2 ▸ q));have T1:=zh (fun v v' W (h:Ra W v a) (h':Ra W v' ((1000000000000:Int):Rat))=>jr v v' a _ W h h' (h1.mono zo) (OT.mono zo));have T2:=zh (fun v v' W (h:Ra W v b) (h':Ra W v' ((1000000000000:Int):Rat))=>jr v v' b _ W h h' (h2.mono zo) (OT.mono zo));have D1:=zh (fun v W (h:Ra W v (a*((1000000000000:Int):Rat)))=>Qo v _ W h (s1.mono zo));have D2:=zh (fun v W (h:Ra W v (-(b*((1000000000000:Int):Rat))))=>Qo v _ W h ((vP s2).mono zo));have z1:=WE s1 zo
 have z2:=WE (vP s2) zo;unfold jQ;generalize ((1000000000000:Int):Rat)=E at *;generalize XY (a*E)=X at *;generalize XY (-(b*E))=Y at *;have J1:=zh (fun v W (h:Pl W v X)=>Bc v X W h z1);have J2:=zh (fun v W (h:Pl W v Y)=>Bc v Y W h z2);obtain ⟨⟨X',e1⟩,EX⟩:∃ y,FL X=y:=⟨_,rfl⟩;obtain ⟨⟨Y',e2⟩,EY⟩:∃ y,FL Y=y:=⟨_,rfl⟩;rw [EX] at J1;rw [EY] at J2;have HEX:=zh EX;have HEY:=zh EY;have QA:=zh hx;have QB:=zh hy;clear hx hy h1 h2 s1 s2 z1 z2 EX EY;go_enter Tryz.func214,Tryz.ntmps214
 go_wp2_with fail
 obtain ⟨u0,EW,hz,HX,HY,HR⟩:=LK w #[ak bA,aj mK lA mP,ak BS,aj pO BJ pX] 163 #[ak bB,aj pz lB pF,ak Ux,aj Bj Uv Br] 163 #[Z I 0,Z I 0] 40;rw [EW];replace QA:=zh (QA.out.later hz);replace QB:=zh (QB.out.later hz);have HB:=zh hz;clear EW hz;refine (hQ.out _).mono ?_;rintro e u1 ⟨bO,paO,lO,caO,bOd,Vq,lOd,Xc,rfl,h,hm⟩;replace HX:=zh (HX.out.later h);replace HY:=zh (HY.out.later h);replace HR:=zh (HR.out.later h);replace QA:=zh (QA.out.later h);replace QB:=zh (QB.out.later h);replace HB:=zh (Bt HB.out h);clear h;have QO:=zh hm;clear hm;have xL:=HX.out.cell;have xE:=HX.out.lt;go_wp2_with fail
 clear xL xE;obtain ⟨v1,EW,hz,HO⟩:=zD u1 #[ak bO,aj paO lO caO,ak bOd,aj Vq lOd Xc] 163;rw [EW];obtain ⟨bq,ebq⟩:∃ y,u1.heap.size=y:=⟨_,rfl⟩;rw [ebq] at HO ⊢;clear EW ebq;replace HX:=zh (HX.out.later hz);replace HY:=zh (HY.out.later hz);replace HR:=zh (HR.out.later hz);replace QA:=zh (QA.out.later hz);replace QB:=zh (QB.out.later hz);replace QO:=zh (QO.out.later hz);replace HB:=zh (Bt HB.out hz);clear hz;refine (T1.out _ _ _ QA.out QO.out).mono ?_;rintro e u2 ⟨vt,rfl,h,hm⟩;replace HX:=zh (HX.out.later h);replace HY:=zh (HY.out.later h);replace HR:=zh (HR.out.later h);replace QA:=zh (QA.out.later h);replace QB:=zh (QB.out.later h);replace QO:=zh (QO.out.later h);replace HO:=zh (HO.out.later h);replace HB:=zh (Bt HB.out h);clear h;have FT:=zh hm;clear hm;go_wp2_with fail
 refine (D1.out _ _ FT.out).mono ?_;rintro e u3 ⟨vd,rfl,h,hm⟩;replace HX:=zh (HX.out.later h);replace HY:=zh (HY.out.later h);replace HR:=zh (HR.out.later h);replace QA:=zh (QA.out.later h);replace QB:=zh (QB.out.later h);replace QO:=zh (QO.out.later h);replace HO:=zh (HO.out.later h);replace FT:=zh (FT.out.later h);replace HB:=zh (Bt HB.out h);clear h;have FD:=zh hm;clear hm;go_wp2_with fail
 refine (J1.out _ _ FD.out).mono ?_;rintro e u4 ⟨rfl,h⟩;replace HX:=zh (HX.out.later h);replace HY:=zh (HY.out.later h);replace HR:=zh (HR.out.later h);replace QA:=zh (QA.out.later h);replace QB:=zh (QB.out.later h);replace QO:=zh (QO.out.later h);replace HO:=zh (HO.out.later h);replace FT:=zh (FT.out.later h);replace FD:=zh (FD.out.later h);replace HB:=zh (Bt HB.out h);clear h;have cHY:=HY.out.cell;have lHY:=HY.out.lt;have cHO:=HO.out.cell;have lHO:=HO.out.lt;go_wp2_with fail
 clear cHY lHY;clear cHO lHO;clear FT FD;refine (T2.out _ _ _ QB.out QO.out).mono ?_;rintro e u5 ⟨vt2,rfl,h,hm⟩;replace HX:=zh (HX.out.later h);replace HY:=zh (HY.out.later h);replace HR:=zh (HR.out.later h);replace QA:=zh (QA.out.later h);replace QB:=zh (QB.out.later h);replace QO:=zh (QO.out.later h);replace HO:=zh (HO.out.later h);replace HB:=zh (Bt HB.out h);clear h;have FT:=zh hm;clear hm;go_wp2_with fail
 refine (aH.wD _ _ _ FT.out).mono ?_;rintro e u6 ⟨vu,rfl,h,hm⟩;replace HX:=zh (HX.out.later h);replace HY:=zh (HY.out.later h);replace HR:=zh (HR.out.later h);replace QA:=zh (QA.out.later h);replace QB:=zh (QB.out.later h);replace QO:=zh (QO.out.later h);replace HO:=zh (HO.out.later h);replace FT:=zh (FT.out.later h);replace HB:=zh (Bt HB.out h);clear h;have FU:=zh hm;clear hm;go_wp2_with fail
 refine (D2.out _ _ FU.out).mono ?_;rintro e u7 ⟨vd2,rfl,h,hm⟩;replace HX:=zh (HX.out.later h);replace HY:=zh (HY.out.later h);replace HR:=zh (HR.out.later h);replace QA:=zh (QA.out.later h);replace QB:=zh (QB.out.later h);replace QO:=zh (QO.out.later h);replace HO:=zh (HO.out.later h);replace FT:=zh (FT.out.later h);replace FU:=zh (FU.out.later h);replace HB:=zh (Bt HB.out h);clear h;have FD:=zh hm;clear hm;go_wp2_with fail
 refine (J2.out _ _ FD.out).mono ?_;rintro e u8 ⟨rfl,h⟩;replace HX:=zh (HX.out.later h);replace HY:=zh (HY.out.later h);replace HR:=zh (HR.out.later h);replace QA:=zh (QA.out.later h);replace QB:=zh (QB.out.later h);replace QO:=zh (QO.out.later h);replace HO:=zh (HO.out.later h);replace FT:=zh (FT.out.later h);replace FU:=zh (FU.out.later h);replace FD:=zh (FD.out.later h);replace HB:=zh (Bt HB.out h);clear h;have hr:=HR.out;have cr:=hr.cell;have fr:=hr.free;have hb:=HB.out;have EX:=HEX.out;have EY:=HEY.out;unfold FL at EX EY;clear HX HY HO QA QB QO FT FU FD HB HR T1 T2 D1 D2 J1 J2 hQ HEX HEY;have bad:gM X (-Y)=false→gN X (-Y)=((0,0),6):=fun h=>by unfold gN;rw [h];rfl
 have WK:∀ {r:(Int × Int) × Int},gN X (-Y)=r→gN X (-Y)=r:=fun h=>h
 by_cases gx: -9223372036854775808≤X∧X≤9223372036854775807
 ·rw [if_pos gx] at EX;simp only [iD] at EX;obtain ⟨rfl,rfl⟩:=EX
  by_cases gy: -9223372036854775808≤Y∧Y≤9223372036854775807
  ·rw [if_pos gy] at EY;simp only [iD] at EY;obtain ⟨rfl,rfl⟩:=EY
   by_cases g0:Y= -9223372036854775808
   ·subst g0;have hm:=bad (Ep zo);clear bad WK gx gy;go_wp2_with fail
    refine bK rfl rfl ((hr.set 0 _).set 1 _) Tryz.underlying40 rfl zk ?_;exact ⟨by rw [hm];rfl,(hb.setCell (p:=⟨w.heap.size+1+1,0,none⟩) (by show w.heap.size≤w.heap.size+1+1;omega) _).setCell (p:=⟨w.heap.size+1+1,1,none⟩) (by show w.heap.size≤w.heap.size+1+1;omega) _⟩
   ·have hy0:(Y == -9223372036854775808)=false:=by simpa using g0
    have hw:wrap64 (-Y)= -Y:=by unfold wrap64;omega
    have RT:=zh (fun W=>iQ X (-Y) W);cases hbk:gM X (-Y)
    ·have hm:=bad hbk;rw [hbk] at RT;clear bad WK gx gy hbk;go_wp2_with fail
     refine (RT.out _).mono ?_;rintro e u9 ⟨rfl,h⟩;replace hr:=hr.later h;replace hb:=Bt hb h;clear cr fr h;have cr:=hr.cell;have fr:=hr.free;go_wp2_with fail
     refine bK rfl rfl ((hr.set 0 _).set 1 _) Tryz.underlying40 rfl zk ?_;exact ⟨by rw [hm];rfl,(hb.setCell (p:=⟨w.heap.size+1+1,0,none⟩) (by show w.heap.size≤w.heap.size+1+1;omega) _).setCell (p:=⟨w.heap.size+1+1,1,none⟩) (by show w.heap.size≤w.heap.size+1+1;omega) _⟩
    ·have hm:gN X (-Y)=((X, -Y),0):=by unfold gN;rw [hbk];rfl
     rw [hbk] at RT;clear bad WK gx gy hbk;go_wp2_with fail
     refine (RT.out _).mono ?_;rintro e u9 ⟨rfl,h⟩;replace hr:=hr.later h;replace hb:=Bt hb h;clear cr fr h;have cr:=hr.cell;have fr:=hr.free;go_wp2_with fail
     refine bK rfl rfl ((hr.set 0 _).set 1 _) Tryz.underlying40 rfl zk ?_;exact ⟨by rw [hm];rfl,(hb.setCell (p:=⟨w.heap.size+1+1,0,none⟩) (by show w.heap.size≤w.heap.size+1+1;omega) _).setCell (p:=⟨w.heap.size+1+1,1,none⟩) (by show w.heap.size≤w.heap.size+1+1;omega) _⟩
  ·rw [if_neg gy] at EY;simp only [iD] at EY;obtain ⟨rfl,rfl⟩:=EY;have hm:=bad (Ep zo);clear bad WK gx gy;go_wp2_with fail
   refine bK rfl rfl ((hr.set 0 _).set 1 _) Tryz.underlying40 rfl zk ?_;exact ⟨by rw [hm];rfl,(hb.setCell (p:=⟨w.heap.size+1+1,0,none⟩) (by show w.heap.size≤w.heap.size+1+1;omega) _).setCell (p:=⟨w.heap.size+1+1,1,none⟩) (by show w.heap.size≤w.heap.size+1+1;omega) _⟩
 ·rw [if_neg gx] at EX;simp only [iD] at EX;obtain ⟨rfl,rfl⟩:=EX;have hm:=bad (Ep zo);clear bad WK gx;go_wp2_with fail
  refine bK rfl rfl ((hr.set 0 _).set 1 _) Tryz.underlying40 rfl zk ?_;exact ⟨by rw [hm];rfl,(hb.setCell (p:=⟨w.heap.size+1+1,0,none⟩) (by show w.heap.size≤w.heap.size+1+1;omega) _).setCell (p:=⟨w.heap.size+1+1,1,none⟩) (by show w.heap.size≤w.heap.size+1+1;omega) _⟩
end Go.Proofs.aS
namespace Go.Proofs.aS
open Go Go.Num Go.gB Go.Proofs.aW Go.Proofs.aH
theorem oZ (q:Rat):XY q=q.floor:=(Rat.floor_def q).symm
theorem rW (a b:Rat): -(a / b)= -a / b:=by rw [Rat.div_def,Rat.div_def,Rat.neg_mul]
theorem qj (n:Int) {d:Int} (hd:0<d):((n:Rat) / (d:Rat)).floor=n / d:=by
 have hd':(0:Rat)<(d:Rat):=by exact_mod_cast hd
 have key:∀ x:Int,x≤((n:Rat) / (d:Rat)).floor↔x≤n / d:=fun x=>by
  rw [Rat.le_floor_iff,Int.le_ediv_iff_mul_le hd];have e:(n:Rat) / (d:Rat)*(d:Rat)=(n:Rat):=Rat.div_mul_cancel (fun h=>by rw [h] at hd';exact absurd hd' zd)
  constructor
  ·intro h;have:=Rat.mul_le_mul_of_nonneg_right h (Rat.le_of_lt hd');rw [e] at this
   exact_mod_cast this
  ·intro h;refine Rat.le_of_mul_le_mul_right (c:=(d:Rat)) ?_ hd';rw [e]
   exact_mod_cast h
 exact Int.le_antisymm ((key _).1 (Int.le_refl _)) ((key _).2 (Int.le_refl _))
theorem GQ:(0:Rat)<((1000000000000:Int):Rat):=by decide+kernel
theorem aD5:((1000000000000:Int):Rat)≠0:=by decide+kernel
theorem G9 (n:Int):un n*((1000000000000:Int):Rat)=(n:Rat):=by
 have:=aD5;unfold un;generalize ((1000000000000:Int):Rat)=E at *
 grind
theorem OI (x y:Int):un x*un y*((1000000000000:Int):Rat)=((x*y:Int):Rat) / ((1000000000000:Int):Rat):=by
 have:=aD5;unfold un;rw [Rat.intCast_mul];generalize ((1000000000000:Int):Rat)=E at *
 grind
theorem Ga (a b c d:Int):jQ (un a+un b) (un c+un d)=gN (a+b) (c+d):=by
 unfold jQ;rw [oZ,oZ,Rat.add_mul,Rat.add_mul,G9,G9,G9,G9,← Rat.intCast_add,← Rat.intCast_add,← Rat.intCast_neg,Rat.floor_intCast,Rat.floor_intCast]
 congr 1
 omega
theorem sO (q:Rat):jQ q q=gN (qK (q.num*1000000000000) q.den false) (qK (q.num*1000000000000) q.den true):=by
 have hd:(0:Int)<(q.den:Int):=by have:=q.den_pos;omega
 have hd0:((q.den:Int):Rat)≠0:=by
  have:(q.den:Int)≠0:=by omega
  exact_mod_cast this
 have e:q*((1000000000000:Int):Rat)=((q.num*1000000000000:Int):Rat) / ((q.den:Int):Rat):=by
  rw [Rat.intCast_mul];have h:=tF q;generalize ((1000000000000:Int):Rat)=E at *;generalize (q.num:Rat)=n at *;generalize ((q.den:Int):Rat)=d at *;rw [h]
  grind
 have e2: -(q*((1000000000000:Int):Rat))=((-(q.num*1000000000000):Int):Rat) / ((q.den:Int):Rat):=by
  rw [e,Rat.intCast_neg,rW]
 unfold jQ;rw [oZ,oZ,e2,e,qj _ hd,qj _ hd];rfl
def jJ (m:Rat):List Rat→Rat
 | []=>m
 | x::l=>jJ (if x<m then x else m) l
def gW (m:Rat):List Rat→Rat
 | []=>m
 | x::l=>gW (if m<x then x else m) l
theorem aw7 (p q r s:Rat):(jJ p [q,r,s]=p∨jJ p [q,r,s]=q∨jJ p [q,r,s]=r∨jJ p [q,r,s]=s)∧jJ p [q,r,s]≤p∧jJ p [q,r,s]≤q∧jJ p [q,r,s]≤r∧jJ p [q,r,s]≤s:=by
 unfold jJ jJ jJ jJ
 grind
theorem ac8 (p q r s:Rat):(gW p [q,r,s]=p∨gW p [q,r,s]=q∨gW p [q,r,s]=r∨gW p [q,r,s]=s)∧p≤gW p [q,r,s]∧q≤gW p [q,r,s]∧r≤gW p [q,r,s]∧s≤gW p [q,r,s]:=by
 unfold gW gW gW gW
 grind
theorem vK {a b:Rat} (h:a≤b):(a*((1000000000000:Int):Rat)).floor≤(b*((1000000000000:Int):Rat)).floor:=Rat.floor_monotone (Rat.mul_le_mul_of_nonneg_right h (Rat.le_of_lt GQ))
theorem vL {a b:Rat} (h:a≤b): -((-(a*((1000000000000:Int):Rat))).floor)≤ -((-(b*((1000000000000:Int):Rat))).floor):=by
 have h2:=Rat.floor_monotone (Rat.neg_le_neg (Rat.mul_le_mul_of_nonneg_right h (Rat.le_of_lt GQ)));omega
theorem Ia (n:Int) {d:Nat} (hd:0<d):qK n d false≤qK n d true:=by
 unfold qK;simp only [dG,if_false,if_true];have h1:=Int.mul_ediv_self_le (x:=n) (k:=(d:Int)) zo;have h2:=Int.mul_ediv_self_le (x:= -n) (k:=(d:Int)) zo;have h3:(d:Int)*(n / d)≤(d:Int)*(-(-n / d)):=by rw [Int.mul_neg];omega
 exact Int.le_of_mul_le_mul_left h3 zo
theorem Gh (x y:Int):(un x*un y*((1000000000000:Int):Rat)).floor=qK (x*y) 1000000000000 false:=by rw [OI,qj _ zo];rfl
theorem O7 (x y:Int): -((-(un x*un y*((1000000000000:Int):Rat))).floor)=qK (x*y) 1000000000000 true:=by
 rw [OI,rW,← Rat.intCast_neg,qj _ zo];rfl
theorem qP (x y:Int) (up:Bool):((mh x y 1000000000000 up).2=true→(mh x y 1000000000000 up).1=qK (x*y) 1000000000000 up∧(qK (x*y) 1000000000000 up).natAbs≤1000000000000000000)∧((mh x y 1000000000000 up).2=false→1000000000000000000<(qK (x*y) 1000000000000 up).natAbs):=by
 by_cases h:(qK (x*y) 1000000000000 up).natAbs≤1000000000000000000
 ·rw [show mh x y 1000000000000 up=(qK (x*y) 1000000000000 up,true) from if_pos h];exact ⟨fun _=>⟨rfl,h⟩,fun h=>by cases h⟩
 ·rw [show mh x y 1000000000000 up=(0,false) from if_neg h];exact ⟨fun h=>(by cases h),fun _=>by omega⟩
theorem Qx (a b:Int × Int):jQ (jJ (un a.1*un b.1) [un a.1*un b.2,un a.2*un b.1,un a.2*un b.2]) (gW (un a.1*un b.1) [un a.1*un b.2,un a.2*un b.1,un a.2*un b.2])=Hz a b:=by
 obtain ⟨h1,h2,h3,h4,h5⟩:=aw7 (un a.1*un b.1) (un a.1*un b.2) (un a.2*un b.1) (un a.2*un b.2);obtain ⟨g1,g2,g3,g4,g5⟩:=ac8 (un a.1*un b.1) (un a.1*un b.2) (un a.2*un b.1) (un a.2*un b.2);generalize jJ (un a.1*un b.1) [un a.1*un b.2,un a.2*un b.1,un a.2*un b.2]=lo at *;generalize gW (un a.1*un b.1) [un a.1*un b.2,un a.2*un b.1,un a.2*un b.2]=hi at *;replace h2:=vK h2;replace h3:=vK h3;replace h4:=vK h4;replace h5:=vK h5;replace g2:=vL g2;replace g3:=vL g3;replace g4:=vL g4;replace g5:=vL g5
 have h6:(lo*((1000000000000:Int):Rat)).floor=qK (a.1*b.1) 1000000000000 false∨(lo*((1000000000000:Int):Rat)).floor=qK (a.1*b.2) 1000000000000 false∨(lo*((1000000000000:Int):Rat)).floor=qK (a.2*b.1) 1000000000000 false∨(lo*((1000000000000:Int):Rat)).floor=qK (a.2*b.2) 1000000000000 false:=by
  rcases h1 with rfl|rfl|rfl|rfl<;>simp only [Gh,true_or,or_true]
 have g6: -((-(hi*((1000000000000:Int):Rat))).floor)=qK (a.1*b.1) 1000000000000 true∨ -((-(hi*((1000000000000:Int):Rat))).floor)=qK (a.1*b.2) 1000000000000 true∨ -((-(hi*((1000000000000:Int):Rat))).floor)=qK (a.2*b.1) 1000000000000 true∨ -((-(hi*((1000000000000:Int):Rat))).floor)=qK (a.2*b.2) 1000000000000 true:=by
  rcases g1 with rfl|rfl|rfl|rfl<;>simp only [O7,true_or,or_true]
 rw [Gh] at h2 h3 h4 h5;rw [O7] at g2 g3 g4 g5;unfold jQ;rw [oZ,oZ];generalize (lo*((1000000000000:Int):Rat)).floor=L at *;generalize -((-(hi*((1000000000000:Int):Rat))).floor)=H at *;have r1:=Ia (a.1*b.1) (d:=1000000000000) zo;have r2:=Ia (a.1*b.2) (d:=1000000000000) zo;have r3:=Ia (a.2*b.1) (d:=1000000000000) zo;have r4:=Ia (a.2*b.2) (d:=1000000000000) zo;have e0:Py a b 0=mh a.1 b.1 1000000000000 false:=rfl;have e1:Py a b 1=mh a.1 b.2 1000000000000 false:=rfl;have e2:Py a b 2=mh a.2 b.1 1000000000000 false:=rfl;have e3:Py a b 3=mh a.2 b.2 1000000000000 false:=rfl;have d0:Ad a b 0=mh a.1 b.1 1000000000000 true:=rfl;have d1:Ad a b 1=mh a.1 b.2 1000000000000 true:=rfl;have d2:Ad a b 2=mh a.2 b.1 1000000000000 true:=rfl;have d3:Ad a b 3=mh a.2 b.2 1000000000000 true:=rfl;have q0:=qP a.1 b.1 false
 have q1:=qP a.1 b.2 false;have q2:=qP a.2 b.1 false;have q3:=qP a.2 b.2 false;have p0:=qP a.1 b.1 true;have p1:=qP a.1 b.2 true;have p2:=qP a.2 b.1 true;have p3:=qP a.2 b.2 true
 have fe:al7 a b=((Py a b 0).2&&(Ad a b 0).2&&((Py a b 1).2&&(Ad a b 1).2)&&((Py a b 2).2&&(Ad a b 2).2)&&((Py a b 3).2&&(Ad a b 3).2)):=by
  unfold al7;simp [dF,List.range.loop,Bool.and_assoc]
 unfold Hz;rw [fe,e0,e1,e2,e3,d0,d1,d2,d3];generalize qK (a.1*b.1) 1000000000000 false=l0 at *;generalize qK (a.1*b.2) 1000000000000 false=l1 at *;generalize qK (a.2*b.1) 1000000000000 false=l2 at *;generalize qK (a.2*b.2) 1000000000000 false=l3 at *;generalize qK (a.1*b.1) 1000000000000 true=u0 at *;generalize qK (a.1*b.2) 1000000000000 true=u1 at *;generalize qK (a.2*b.1) 1000000000000 true=u2 at *;generalize qK (a.2*b.2) 1000000000000 true=u3 at *;clear e0 e1 e2 e3 d0 d1 d2 d3 fe h1 g1;generalize mh a.1 b.1 1000000000000 false=A0 at *;generalize mh a.1 b.2 1000000000000 false=A1 at *;generalize mh a.2 b.1 1000000000000 false=A2 at *;generalize mh a.2 b.2 1000000000000 false=A3 at *;generalize mh a.1 b.1 1000000000000 true=B0 at *;generalize mh a.1 b.2 1000000000000 true=B1 at *;generalize mh a.2 b.1 1000000000000 true=B2 at *
 generalize mh a.2 b.2 1000000000000 true=B3 at *;obtain ⟨x0,y0⟩:=A0;obtain ⟨x1,y1⟩:=A1;obtain ⟨x2,y2⟩:=A2;obtain ⟨x3,y3⟩:=A3;obtain ⟨s0,t0⟩:=B0;obtain ⟨s1,t1⟩:=B1;obtain ⟨s2,t2⟩:=B2;obtain ⟨s3,t3⟩:=B3;simp only at q0 q1 q2 q3 p0 p1 p2 p3 ⊢
 by_cases hf:(y0&&t0&&(y1&&t1)&&(y2&&t2)&&(y3&&t3))=true
 ·rw [if_pos hf];simp only [aG] at hf;obtain ⟨⟨⟨⟨f1,f2⟩,f3,f4⟩,f5,f6⟩,f7,f8⟩:=hf;obtain ⟨rfl, -⟩:=q0.1 f1;obtain ⟨rfl, -⟩:=q1.1 f3;obtain ⟨rfl, -⟩:=q2.1 f5;obtain ⟨rfl, -⟩:=q3.1 f7;obtain ⟨rfl, -⟩:=p0.1 f2;obtain ⟨rfl, -⟩:=p1.1 f4;obtain ⟨rfl, -⟩:=p2.1 f6;obtain ⟨rfl, -⟩:=p3.1 f8
  have m1:L=[x0,x1,x2,x3].foldl min x0:=by
   simp only [List.foldl];omega
  have m2:H=[s0,s1,s2,s3].foldl max s0:=by
   simp only [List.foldl];omega
  rw [m1,m2]
 ·rw [if_neg hf]
  have hb:gM L H=false:=by
   refine Ep ?_
   have:y0=false∨t0=false∨y1=false∨t1=false∨y2=false∨t2=false∨y3=false∨t3=false:=by
    revert hf
    cases y0<;>cases t0<;>cases y1<;>cases t1<;>cases y2<;>cases t2<;>cases y3<;>cases t3<;>simp
   rcases this with h|h|h|h|h|h|h|h
   ·have:=q0.2 h;omega
   ·have:=p0.2 h;omega
   ·have:=q1.2 h;omega
   ·have:=p1.2 h;omega
   ·have:=q2.2 h;omega
   ·have:=p2.2 h;omega
   ·have:=q3.2 h;omega
   ·have:=p3.2 h;omega
  unfold gN;rw [hb];rfl
end Go.Proofs.aS
