/- Lemmas for the proof. No condition. -/
import Derived.Test.YtbngfhgoeoncmaaGreatDoorWB19
set_option linter.unusedVariables false
set_option linter.unusedSimpArgs false
set_option maxRecDepth 100000
set_option maxHeartbeats 16000000
open Go.Ending renaming returned → aj
open Go.IntKind renaming i64 → I
open Go.Value renaming agg → aB, bool → ak, int → Z, string → O
namespace Go.Proofs.verdigrislaw28
open Go Go.RowKit Go.SW Go.Num Go.Mem Go.Proofs Go.Dec Go.fG Go.Fx Go.Proofs.view Go.Proofs.fM Go.Proofs.lS Go.Proofs.fK
theorem aa8 {a b:Rat} (a0:1≤a) (h:a≤b):dg a≤dg b:=by
 unfold dg
 have k:∀ {l:Rat},1≤l→(18:Rat)≤18*(1+l / 92):=fun {l} l0=>by
  have:0≤l / 92:=by rw [Rat.div_def];exact Rat.mul_nonneg (Rat.le_trans (by decide+kernel) l0) (by decide+kernel)
  grind
 have m:a / 92≤b / 92:=by rw [Rat.div_def,Rat.div_def];exact Rat.mul_le_mul_of_nonneg_right h (by decide+kernel)
 have m2:18*(1+a / 92)≤18*(1+b / 92):=by grind
 have p:(0:Rat)<18*(1+a / 92):=wC (by decide+kernel) (k a0);have i:=fB.Bn p m2;rw [Rat.div_def,Rat.div_def (5:Rat)];generalize (18*(1+a / 92))⁻¹=u at *;generalize (18*(1+b / 92))⁻¹=v at *
 grind
theorem ZY {w:Nat→Rat} (g:Gw w):Gw (fun _=>w 1):=by
 have p:=g.pos 1 zo;refine ⟨fun _ _=>g.hq 1 zo,fun _ _=>p,g.y0,g.y1,fun i hi=>?_,fun i hi=>?_⟩
 ·rw [zJ _ hi];exact g.y0
 ·rw [zJ _ hi];exact g.y1
theorem Te {w:Nat→Rat} (g:Gw w) (D:Rat):adapt.dY (gQ (fun _=>w 1) D)=⟨Fr.of 1,Fr.of 1,Fr.of 1⟩:=by
 have p:=uM (g.pos 1 zo)
 have e:∀ i,i<3→gQ (fun _=>w 1) D i=1:=fun i hi=>by
  unfold gQ;rw [zJ _ hi,Rat.div_def,Rat.mul_inv_cancel _ p]
  grind
 unfold adapt.dY;rw [e 0 zo,e 1 zo,e 2 zo]
theorem aq0 {m n:Int} (h0:1≤m) (h1:m≤2000) (h2:0≤n):∃ k,(if m+n<2000 then m+n else 2000)=k∧m≤k∧k≤2000:=by
 refine ⟨_,rfl,?_⟩;split<;>omega
theorem qI (m:Int):q2 m 1=(m:Rat):=by unfold q2;rw [show ((1:Int):Rat)=1 from rfl];grind
theorem aT6 {z k:Int} (h:(if z<2000 then z else 2000)=k):Value.int .i64 (if z<2000 then z else 2000)= Z I k:=by rw [h]
theorem Xj {p q:Rat} (h:p<q):gZ p q= -1:=by unfold gZ;rw [if_pos h]
theorem ae4 {a b:Int} (h:a=b) (h0:0≤b) (h1:b≤100000):Value.int .i64 (I.wrap a)= Z I b:=by subst h;rw [Fx.wrap_i64 zo zo]
theorem SQ {l n0 n1 n2 la yb su mo:Int} (b0:0≤l) (b1:0≤n0) (b2:0≤n1) (b3:0≤n2) (b4:0≤la) (b5:0≤yb) (b6:0≤su) (c0:l≤255) (c1:n0≤255) (c2:n1≤255) (c3:n2≤255) (c4:la≤65535) (c5:yb≤255) (c6:su≤255) (b7:0≤mo) (c7:mo≤65535) (w:World) (ht:ko.Pow w) (he:whole.Er w) (hc:adapt.kX w) (hs:Aw w) :
  Calls Tryz.prog 4 #[aB #[Z .u8 l,Z .u8 n0,Z .u8 n1,Z .u8 n2,Z .u16 la,Z .u8 yb,Z .u8 su],Z .u16 mo] w (fun e w'=>e= aj (ak true)∧Bw w w'):=by
 have HP:=zh ht;have HE:=zh he;have HC:=zh hc;have HS:=zh hs;clear ht he hc hs;obtain ⟨w',g,hw⟩:=Xg l n0 n1 n2;obtain ⟨hl,l0,Yf⟩:=qL (la:=la);obtain ⟨hq,q0,q1'⟩:=qY (yb:=yb);obtain ⟨⟨⟨a1,a2⟩,⟨a3,a4⟩,⟨a5,a6⟩⟩,hA⟩:∃ y,adapt.dY w'=y:=⟨_,rfl⟩;obtain ⟨⟨l1,l2⟩,hL⟩:∃ y,Fr.of (q2 (1+la%2000) 1)=y:=⟨_,rfl⟩;obtain ⟨⟨y1,y2⟩,hY⟩:∃ y,Fr.of (w' 1*q2 (1+yb%100) 100)=y:=⟨_,rfl⟩;have CV:=zh (fun W=>Jm b0 b1 b2 b3 b4 b5 b6 c0 c1 c2 c3 c4 c5 c6 g hw hA hL hY W);generalize q2 (1+yb%100) 100=q at *;obtain ⟨rs,es⟩:∃ r,su%3=r:=⟨_,rfl⟩;have r0:0≤rs:=by omega
 have r1:rs≤2:=by omega
 rw [es] at CV;obtain ⟨rl,el⟩:∃ r,la%2000=r:=⟨_,rfl⟩;obtain ⟨m,em⟩:∃ r,1+rl=r:=⟨_,rfl⟩;obtain ⟨z,ez⟩:∃ r,m+mo=r:=⟨_,rfl⟩;obtain ⟨k,ek,mk,k2⟩:=aq0 (m:=m) (n:=mo) zo zo b7;rw [ez] at ek;rw [el,em] at hL hl l0 Yf;have hk:Hq 4 (q2 k 1):=vO zo zo zd zd;have mle:q2 m 1≤q2 k 1:=by rw [qI,qI];exact Rat.intCast_le_intCast.2 mk
 have kl:q2 k 1≤2000:=by rw [qI];exact Rat.intCast_le_intCast.2 k2
 have kg:=Rat.le_trans l0 mle;obtain ⟨⟨aw1,aw2⟩,sa,eD⟩:=Br g hl l0 Yf hq q0 q1' (s:=1+rs) zo zo;obtain ⟨⟨bw1,bw2⟩,_,eU⟩:=Br g hk kg kl hq q0 q1' (s:=1+rs) zo zo;obtain ⟨⟨cw1,cw2⟩,_,eC⟩:=Br (ZY g) hl l0 Yf hq q0 q1' (s:=1+rs) zo zo;obtain ⟨eF,hF,pF,uF⟩:=Lu (s:=1+rs) zo zo;have dh:=MQ hl;have dk:=MQ hk;have dm:=aa8 l0 mle;obtain ⟨dp,d1'⟩:=Xc l0;obtain ⟨_,sl⟩:=V3 hl l0 Yf;obtain ⟨_,sn⟩:=VF hq q0 q1';have X1:=Bv (hF.mul dk) (hF.mul dh) zo zo;have X2:tQ (Fr.of (q2 0 1)) (Fr.of (sF (1+rs)*dg (q2 m 1)))=(gZ (q2 0 1) (sF (1+rs)*dg (q2 m 1)),0):=Bv (a:=4) (vO zd zd zd zd) (hF.mul dh) zo zo;have X3:=Bv (hF.mul dh) hF zo zo;have T1:decide (gZ (sF (1+rs)*dg (q2 k 1)) (sF (1+rs)*dg (q2 m 1))<0)=false:=decide_eq_false (by have:=Kj (Rat.mul_le_mul_of_nonneg_left dm (Rat.le_of_lt pF));omega)
 have T2:decide (gZ (q2 0 1) (sF (1+rs)*dg (q2 m 1))<0)=true:=decide_eq_true (by rw [Xj (show q2 0 1<_ from (show (0:Rat)=q2 0 1 by decide+kernel) ▸ Rat.mul_pos pF dp)];decide)
 have T3:decide (gZ (sF (1+rs)*dg (q2 m 1)) (sF (1+rs))<0)=true:=decide_eq_true (by
  have:sF (1+rs)*dg (q2 m 1)<sF (1+rs):=by
   have:=Rat.mul_lt_mul_of_pos_left d1' pF
   rwa [Rat.mul_one] at this
  rw [Xj this];decide)
 obtain ⟨⟨f1,f2⟩,k1⟩:∃ y,Fr.of (sF (1+rs))=y:=⟨_,rfl⟩;obtain ⟨⟨o1,o2⟩,k2_⟩:∃ y,sN (1+rs)=y:=⟨_,rfl⟩;obtain ⟨⟨c1,c2⟩,k3⟩:∃ y,sC (1+rs)=y:=⟨_,rfl⟩;obtain ⟨⟨d1,d2⟩,k4⟩:∃ y,Fr.of (sF (1+rs)*dg (q2 m 1))=y:=⟨_,rfl⟩;obtain ⟨⟨D1,D2⟩,j4⟩:∃ y,Fr.of (sF (1+rs)*dg (q2 k 1))=y:=⟨_,rfl⟩;obtain ⟨⟨m1,m2⟩,k6⟩:∃ y,Fr.of q=y:=⟨_,rfl⟩;obtain ⟨⟨v1,v2⟩,k7⟩:∃ y,Rc (q2 m 1)=y:=⟨_,rfl⟩;obtain ⟨⟨V1,V2⟩,j7⟩:∃ y,Rc (q2 k 1)=y:=⟨_,rfl⟩;obtain ⟨⟨p1,p2⟩,k8⟩:∃ y,Yb q=y:=⟨_,rfl⟩;obtain ⟨⟨O1,O2⟩,i1⟩:∃ y,Fr.of (q2 1 1)=y:=⟨_,rfl⟩;obtain ⟨⟨Z1,Z2⟩,i2⟩:∃ y,Fr.of (q2 0 1)=y:=⟨_,rfl⟩;obtain ⟨⟨U1,U2⟩,i3⟩:∃ y,Fr.of (q2 k 1)=y:=⟨_,rfl⟩;obtain ⟨⟨⟨g1,g2⟩,⟨g3,g4⟩,⟨g5,g6⟩⟩,k5⟩:∃ y,adapt.dY (gQ w' (sF (1+rs)*dg (q2 m 1)))=y:=⟨_,rfl⟩;obtain ⟨⟨⟨G1,G2⟩,⟨G3,G4⟩,⟨G5,G6⟩⟩,j5⟩:∃ y,adapt.dY (gQ w' (sF (1+rs)*dg (q2 k 1)))=y:=⟨_,rfl⟩;have e3:Fr.of (w' 1)=⟨a3,a4⟩:=congrArg light.ig.y hA
 have hB:adapt.dY (fun _=>w' 1)=⟨⟨a3,a4⟩,⟨a3,a4⟩,⟨a3,a4⟩⟩:=by unfold adapt.dY;rw [e3]
 have h11:Fr.of 1=⟨O1,O2⟩:=by rw [← i1];decide+kernel
 rw [hA,hL,hY,k1,k2_,k3,k4,k5,k6,k7,k8] at eD;rw [hA,i3,hY,k1,k2_,k3,j4,j5,k6,j7,k8] at eU;rw [Te g,hB,hL,hY,k1,k2_,k3,k4,k6,k7,k8,h11] at eC;rw [j4,k4] at X1;rw [i2,k4] at X2;rw [k4,k1] at X3;rw [k7] at sl;rw [k8] at sn;have W1:(0:Int)<v1:=Std.lt_of_lt_of_le av3 sl.lo;have W2:(0:Int)<p1:=Std.lt_of_lt_of_le ap9 sn.lo;have W3:(0:Int)<aw1:=Std.lt_of_lt_of_le an1 sa.lo;have W4:aw1≤aw2:=sa.le;have ub:k≤2000∧1≤k:=⟨k2,by omega⟩;replace eD:=zh eD;replace eU:=zh eU;replace eC:=zh eC;have CU:=zh (fun W h=>OM i3 zo zo zd zd W h);have CO:=zh (fun W h=>OM i1 zd zd zd zd W h);have CZ:=zh (fun W h=>OM i2 zd zd zd zd W h);have L1:=zh (fun W=>JR X1 T1 W);have L2:=zh (fun W=>JR X2 T2 W);have L3:=zh (fun W=>JR X3 T3 W);refine Fx.door Tryz.func4 rfl (.nil w []) ?_
 refine Fx.new [] 2 #[Z .u8 l,Z .u8 n0,Z .u8 n1,Z .u8 n2,Z .u16 la,Z .u8 yb,Z .u8 su] 35 [] [] fun iB=>?_;refine Fx.call [] 14 [] [] (fun W M=>Dr _ (HP.out.later M.below) (HE.out.later M.below) (HC.out.later M.below) (HS.out.later M.below)) ?_;refine Fx.call [2,3] 17 [] [] (fun W M=>CV.out _) ?_;refine Fx.bK [] 5 42 [] [] fun jX=>?_;refine Fx.call [4,4] 20 [] [(1,#[O a1,O a2,O a3,O a4,O a5,O a6,O l1,O l2,O y1,O y2,Z I (1+rs)])] (fun W M=>nN eD.out _ (HP.out.later M.below) (HE.out.later M.below) (HC.out.later M.below) (HS.out.later M.below)) ?_
 refine Fx.bK [] 6 45 [(21,aB #[O f1,O f2,O o1,O o2,O c1,O c2,O m1,O m2,O d1,O d2,Z I (oo (1+rs)).2.2.2.1,Z I (oo (1+rs)).2.2.2.2,O g1,O g2,O g3,O g4,O g5,O g6,Z I v1,Z I v2,Z I p1,Z I p2,Z I aw1,Z I aw2]),(22,Z I 0)] [] fun jN=>?_
 refine Fx.bK [5,4] 8 42 [(7,Z I 0),(23,aB #[O a1,O a2,O a3,O a4,O a5,O a6,O l1,O l2,O y1,O y2,Z I (1+rs)])] [(2,#[O f1,O f2,O o1,O o2,O c1,O c2,O m1,O m2,O d1,O d2,Z I (oo (1+rs)).2.2.2.1,Z I (oo (1+rs)).2.2.2.2,O g1,O g2,O g3,O g4,O g5,O g6,Z I v1,Z I v2,Z I p1,Z I p2,Z I aw1,Z I aw2])] fun yX=>?_;refine Fx.part 8 [6,3] [(26,Z I (I.wrap la))] [(3,#[O a1,O a2,O a3,O a4,O a5,O a6,O l1,O l2,O y1,O y2,Z I (1+rs)])] ?_;refine Fx.jJ (Z I (la)) (Fx.wrap_i64 zo zo) ?_;refine Fx.part 1 [] [(27,Z I (Int.tmod (la) 2000))] [] ?_;refine Fx.jJ (Z I rl) (tm b4 el) ?_
 refine Fx.part 1 [] [(28,Z I (I.wrap (1+rl)))] [] ?_;refine Fx.jJ (Z I m) (ae4 em zo zo) ?_;refine Fx.part 2 [] [(30,Z I (I.wrap mo))] [] ?_;refine Fx.jJ (Z I (mo)) (Fx.wrap_i64 zo zo) ?_;refine Fx.part 1 [] [(31,Z I (I.wrap (m+(mo))))] [] ?_;refine Fx.jJ (Z I z) (ae4 ez zo zo) ?_;refine Fx.part 1 [] [(32,Z I (if z<2000 then z else 2000))] [] ?_;refine Fx.jJ (Z I k) (aT6 ek) ?_;refine Fx.call [] 33 [] [] (fun W M=>CU.out _ (HP.out.later M.below)) ?_;refine Fx.call [6,6] 37 [] [(3,#[O a1,O a2,O a3,O a4,O a5,O a6,O U1,O U2,O y1,O y2,Z I (1+rs)])] (fun W M=>nN eU.out _ (HP.out.later M.below) (HE.out.later M.below) (HC.out.later M.below) (HS.out.later M.below)) ?_
 refine Fx.bK [] 9 45 [(38,aB #[O f1,O f2,O o1,O o2,O c1,O c2,O m1,O m2,O D1,O D2,Z I (oo (1+rs)).2.2.2.1,Z I (oo (1+rs)).2.2.2.2,O G1,O G2,O G3,O G4,O G5,O G6,Z I V1,Z I V2,Z I p1,Z I p2,Z I bw1,Z I bw2]),(39,Z I 0)] [] fun PL=>?_
 refine Fx.draw [7] [0,1,2,3,4,5,6,7,8,9,10,11,12,13,15,16,14,17,18,19,20,21,22,23,24,25,26,27,28,29,30,31,32,33,34,35,36,37,38,39,40,41,42,43,44,45,46,47,48,49,50,51,52,53,54] [] [(10,Z I 0)] [(4,#[O f1,O f2,O o1,O o2,O c1,O c2,O m1,O m2,O D1,O D2,Z I (oo (1+rs)).2.2.2.1,Z I (oo (1+rs)).2.2.2.2,O G1,O G2,O G3,O G4,O G5,O G6,Z I V1,Z I V2,Z I p1,Z I p2,Z I bw1,Z I bw2])] ?_;refine Fx.call [7,5] 51 [(46,ak false)] [] (fun W M=>L1.out _) ?_;refine Fx.call [5] 54 [(53,ak false),(56,aB #[O d1,O d2])] [] (fun W M=>CZ.out _ (HP.out.later M.below)) ?_;refine Fx.call [] 57 [] [] (fun W M=>L2.out _) ?_;refine Fx.call [5,5] 65 [(60,ak false)] [] (fun W M=>L3.out _) ?_
 refine Fx.part 7 [5] [(72,ak (decide (v1≤0))),(68,ak false)] [] ?_;refine Fx.Bb false (decide_eq_false zo) ?_;refine Fx.part 6 [5] [(78,ak (decide (p1≤0))),(74,ak false)] [] ?_;refine Fx.Bb false (decide_eq_false zo) ?_;refine Fx.part 6 [5] [(84,ak (decide (aw1≤0))),(80,ak false)] [] ?_;refine Fx.Bb false (decide_eq_false zo) ?_;refine Fx.part 9 [5,5] [(93,ak (decide (aw2<aw1))),(86,ak false)] [] ?_;refine Fx.Bb false (decide_eq_false zo) ?_;refine Fx.bK [2,4] 11 42 [(95,aB #[O a1,O a2,O a3,O a4,O a5,O a6,O l1,O l2,O y1,O y2,Z I (1+rs)])] [] fun GJ=>?_;refine Fx.bK [8,4] 12 38 [(98,aB #[O a3,O a4])] [(5,#[O a1,O a2,O a3,O a4,O a5,O a6,O l1,O l2,O y1,O y2,Z I (1+rs)])] fun Rt=>?_
 refine Fx.call [9,9,9,9,8,8] 106 [] [(5,#[O a3,O a4,O a3,O a4,O a3,O a4,O l1,O l2,O y1,O y2,Z I (1+rs)]),(6,#[O a3,O a4])] (fun W M=>nN eC.out _ (HP.out.later M.below) (HE.out.later M.below) (HC.out.later M.below) (HS.out.later M.below)) ?_;refine Fx.bK [] 13 45 [(107,aB #[O f1,O f2,O o1,O o2,O c1,O c2,O m1,O m2,O d1,O d2,Z I (oo (1+rs)).2.2.2.1,Z I (oo (1+rs)).2.2.2.2,O O1,O O2,O O1,O O2,O O1,O O2,Z I v1,Z I v2,Z I p1,Z I p2,Z I cw1,Z I cw2]),(108,Z I 0)] [] fun bz8=>?_
 refine Fx.draw [10] [0,1,2,3,4,5,6,7,8,9,10,11,12,13,14,15,16,17,18,19,20,21,22,23,24,25,26,27,28,29,30,31,5032] [] [(7,Z I 0)] [(7,#[O f1,O f2,O o1,O o2,O c1,O c2,O m1,O m2,O d1,O d2,Z I (oo (1+rs)).2.2.2.1,Z I (oo (1+rs)).2.2.2.2,O O1,O O2,O O1,O O2,O O1,O O2,Z I v1,Z I v2,Z I p1,Z I p2,Z I cw1,Z I cw2])] ?_;refine Fx.call [10] 114 [(111,ak true),(113,aB #[O O1,O O2,O O1,O O2,O O1,O O2])] [] (fun W M=>CO.out _ (HP.out.later M.below)) ?_;refine Fx.call [] 115 [] [] (fun W M=>CO.out _ (HP.out.later M.below)) ?_;refine Fx.call [] 116 [] [] (fun W M=>CO.out _ (HP.out.later M.below)) ?_
 refine Fx.eql 1 [] 118 true true 39 (aB #[O O1,O O2,O O1,O O2,O O1,O O2]) (aB #[O O1,O O2,O O1,O O2,O O1,O O2]) [] [] (fun _=>WV _ _ _ _ _ _ _) ?_;refine Fx.eql 6 [10,5] 125 true true 26 (aB #[Z I v1,Z I v2]) (aB #[Z I v1,Z I v2]) [(120,ak true)] [] (fun _=>tO _ _ _) ?_;refine Fx.eql 6 [10,5] 132 true true 26 (aB #[Z I p1,Z I p2]) (aB #[Z I p1,Z I p2]) [(127,ak true)] [] (fun _=>tO _ _ _) ?_;refine Fx.eql 6 [10,5] 139 true true 38 (aB #[O d1,O d2]) (aB #[O d1,O d2]) [(134,ak true)] [] (fun _=>nY _ _ _) ?_;exact Fx.Cn [] [] (fun W M=>⟨rfl,M.below⟩)
end Go.Proofs.verdigrislaw28
