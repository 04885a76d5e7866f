/- Lemmas for the proof. No condition. -/
import Derived.Test.YtneajphgfdlmhaaGreatDoorUB19
set_option linter.unusedVariables false
set_option linter.unusedSimpArgs false
set_option maxRecDepth 100000
set_option maxHeartbeats 16000000
open Bool renaming and_eq_true → aG
open Go.Ending renaming returned → ah
open Go.IntKind renaming i64 → I
open Go.Value renaming agg → au, bool → ak, int → Z, slice → aj, string → O, tuple → aD
open List renaming set_cons_succ → aN, set_cons_zero → aM
open Nat renaming le_trans → ay, lt_or_ge → aR
namespace Go.Proofs.fC
open Go Go.RowKit Go.SW Go.Num Go.Mem Go.Proofs Go.Dec
theorem _root_.Go.aq7 {G:Prop} (h:G:=by
 have H:=zh h;have H2:=zh h2;have KZ:=zh kz;have KY:=zh ky;have HE:=zh (O4 hz hy);clear h h2 kz ky hz hy;cases b
 all_goals
  go_enter Yc,Yb
  go_wp2_with fail
  refine aO [(.pure,0),(.read,1),(.pure,2),(.read,3),(.pure,5),(.read,6),(.ext,4),(.ext,7),(.fin,8)] zk zk zR zP ?_;refine zV ?_;refine aU rfl rfl (fun w1 hb1 J hJ=>?_);go_simp;have BR:=aB.later (aB.drew (aB.at2 _ _ _ _ _)) hb1;have dV:=BR.cell;have dU:=BR.free;refine (BF _ _ z.natAbs y.natAbs _ aY aY (Nat.le_trans KZ.out zo) (Nat.le_trans KY.out zo)).mono ?_;rintro e v1 ⟨v,rfl,hc1,hv⟩;obtain ⟨ag6,lHS,an3,rfl⟩:=hv.slice;have HS:=zh hv;clear hv;replace BR:=aB.later (BR) hc1;replace dV:=BR.cell;replace dU:=BR.free;refine hJ _ _ hc1 ?_;clear hJ J;refine aU rfl rfl (fun w2 hb2 J hJ=>?_);go_simp;replace BR:=aB.later (BR) hb2;replace dV:=BR.cell;replace dU:=BR.free;refine (gD _ (z.natAbs+y.natAbs) _ _ aY).mono ?_;rintro e v2 ⟨v,rfl,hc2,hv⟩;obtain ⟨ag5,lHT,an2,rfl,HT⟩:=hv;replace HT:=zh HT
  replace BR:=aB.later (BR) hc2;replace dV:=BR.cell;replace dU:=BR.free;refine hJ _ _ hc2 ?_;clear hJ J;refine dD [_] rfl (fun w5 hb5=>?_);replace BR:=aB.later (BR) hb5;replace dV:=BR.cell;replace dU:=BR.free;go_wp2_with fail
  refine ig rfl rfl bI UC rfl zk ?_;exact ⟨_,rfl,aJ,(fK.gV aY).cast HE.out⟩):G:=h
theorem Jt (pa pb:Option Addr) (l m ca cb:Nat) (z y:Int) (b:Bool) (w:World) (h:bZ w (aj pa l ca) z.natAbs) (h2:bZ w (aj pb m cb) y.natAbs) (hz:decide (z<0)=b) (hy:decide (y<0)=b) (kz:sz 1000000000 z.natAbs≤549755813888) (ky:sz 1000000000 y.natAbs≤549755813888) :
  Calls Tryz.prog 147 #[au #[aj pa l ca,ak b],au #[aj pb m cb,ak b]] w (fun e w'=>∃ v,e= ah v∧Below w.heap.size w w'∧fK w' v (z+y)):=aq7
theorem _root_.Go.aq6 {G:Prop} (h:G:=by
 have H:=zh h;have H2:=zh h2;have KZ:=zh kz;have KY:=zh ky
 rcases Nat.lt_or_ge z.natAbs y.natAbs with hlt|hge
 ·have HE:Hid (jh (y.natAbs - z.natAbs) (!b)=z+y):=by
   have:=OX (z:=y) (y:=z) (b:= !b) hy (by rw [hz,Bool.not_not]);rw [if_pos zo] at this;exact this.trans (Int.add_comm _ _)
  have HC:=zh (qZ hlt);have HL:=zh hlt;clear h h2 kz ky hz hy hlt;cases b
  all_goals
   go_enter Yc,Yb
   go_wp2_with fail
   refine ((ku _ _ z.natAbs y.natAbs _ aY aY).mono (by rw [HC.out];exact fun _ _ h=>h)).mono ?_;rintro e v1 ⟨rfl,hc1⟩;have BR:=aB.later (aB.at2 _ _ _ _ _) hc1;have dV:=BR.cell;have dU:=BR.free;have B1:=aB.later (aB.alloc (aB.qM _ _ _ _) _) hc1;have cB1:=B1.cell;have wu:=B1.free;have B0:=aB.later (aB.alloc (aB.alloc (aB.new _ _ _) _) _) hc1;have cB0:=B0.cell;have lK:=B0.free;go_wp2_with fail
   refine aO [(.pure,0),(.read,1),(.pure,2),(.read,3),(.pure,5),(.read,6),(.ext,4),(.ext,7),(.fin,8)] zk zk zR zP ?_;refine zV ?_;refine aU rfl rfl (fun w2 hb2 J hJ=>?_);go_simp;replace BR:=aB.later (aB.drew BR) hb2;replace dV:=BR.cell;replace dU:=BR.free;refine (CZ _ _ y.natAbs z.natAbs _ aY aY (Nat.le_trans KY.out zo) (Nat.le_of_lt HL.out)).mono ?_;rintro e v2 ⟨v,rfl,hc2,hv⟩;obtain ⟨aw1,lHD,aA7,rfl⟩:=hv.slice;have HD:=zh hv;clear hv;replace BR:=aB.later (BR) hc2;replace dV:=BR.cell;replace dU:=BR.free;refine hJ _ _ hc2 ?_;clear hJ J;refine aU rfl rfl (fun w3 hb3 J hJ=>?_);go_simp;replace BR:=aB.later (BR) hb3;replace dV:=BR.cell;replace dU:=BR.free;refine (gD _ (y.natAbs - z.natAbs) _ _ aY).mono ?_;rintro e v3 ⟨v,rfl,hc3,hv⟩;obtain ⟨ag5,lHT,an2,rfl,HT⟩:=hv;replace HT:=zh HT
   replace BR:=aB.later (BR) hc3;replace dV:=BR.cell;replace dU:=BR.free;refine hJ _ _ hc3 ?_;clear hJ J;refine dD [_] rfl (fun w5 hb5=>?_);replace BR:=aB.later (BR) hb5;replace dV:=BR.cell;replace dU:=BR.free;go_wp2_with fail
   refine ig rfl rfl bI UC rfl zk ?_;exact ⟨_,rfl,aJ,(fK.gV aY).cast HE.out⟩
 ·have HE:Hid (jh (z.natAbs - y.natAbs) b=z+y):=by
   have:=OX (z:=z) (y:=y) (b:=b) hz hy;rw [if_pos zo] at this;exact this
  have hs:xu z.natAbs y.natAbs=0∨xu z.natAbs y.natAbs=1:=by
   rcases Nat.lt_or_ge y.natAbs z.natAbs with h2|h2
   ·exact .inr (qo h2)
   ·have:z.natAbs=y.natAbs:=by omega
    rw [this];exact .inl (sW _)
  have HL:=zh hge;clear h h2 kz ky hz hy hge
  rcases hs with hs|hs<;>cases b
  all_goals
   have HC:=zh hs;clear hs;go_enter Yc,Yb
   go_wp2_with fail
   refine ((ku _ _ z.natAbs y.natAbs _ aY aY).mono (by rw [HC.out];exact fun _ _ h=>h)).mono ?_;rintro e v1 ⟨rfl,hc1⟩;have BR:=aB.later (aB.at2 _ _ _ _ _) hc1;have dV:=BR.cell;have dU:=BR.free;have B1:=aB.later (aB.alloc (aB.qM _ _ _ _) _) hc1;have cB1:=B1.cell;have wu:=B1.free;have B0:=aB.later (aB.alloc (aB.alloc (aB.new _ _ _) _) _) hc1;have cB0:=B0.cell;have lK:=B0.free;go_wp2_with fail
   refine aO [(.pure,0),(.read,1),(.pure,2),(.read,3),(.pure,5),(.read,6),(.ext,4),(.ext,7),(.fin,8)] zk zk zR zP ?_;refine zV ?_;refine aU rfl rfl (fun w2 hb2 J hJ=>?_);go_simp;replace BR:=aB.later (aB.drew BR) hb2;replace dV:=BR.cell;replace dU:=BR.free;refine (CZ _ _ z.natAbs y.natAbs _ aY aY (Nat.le_trans KZ.out zo) HL.out).mono ?_;rintro e v2 ⟨v,rfl,hc2,hv⟩;obtain ⟨aw1,lHD,aA7,rfl⟩:=hv.slice;have HD:=zh hv;clear hv;replace BR:=aB.later (BR) hc2;replace dV:=BR.cell;replace dU:=BR.free;refine hJ _ _ hc2 ?_;clear hJ J;refine aU rfl rfl (fun w3 hb3 J hJ=>?_);go_simp;replace BR:=aB.later (BR) hb3;replace dV:=BR.cell;replace dU:=BR.free;refine (gD _ (z.natAbs - y.natAbs) _ _ aY).mono ?_;rintro e v3 ⟨v,rfl,hc3,hv⟩;obtain ⟨ag5,lHT,an2,rfl,HT⟩:=hv;replace HT:=zh HT
   replace BR:=aB.later (BR) hc3;replace dV:=BR.cell;replace dU:=BR.free;refine hJ _ _ hc3 ?_;clear hJ J;refine dD [_] rfl (fun w5 hb5=>?_);replace BR:=aB.later (BR) hb5;replace dV:=BR.cell;replace dU:=BR.free;go_wp2_with fail
   refine ig rfl rfl bI UC rfl zk ?_;exact ⟨_,rfl,aJ,(fK.gV aY).cast HE.out⟩):G:=h
theorem Ju (pa pb:Option Addr) (l m ca cb:Nat) (z y:Int) (b:Bool) (w:World) (h:bZ w (aj pa l ca) z.natAbs) (h2:bZ w (aj pb m cb) y.natAbs) (hz:decide (z<0)=b) (hy:decide (y<0)= !b) (kz:sz 1000000000 z.natAbs≤549755813888) (ky:sz 1000000000 y.natAbs≤549755813888) :
  Calls Tryz.prog 147 #[au #[aj pa l ca,ak b],au #[aj pb m cb,ak !b]] w (fun e w'=>∃ v,e= ah v∧Below w.heap.size w w'∧fK w' v (z+y)):=aq6
theorem _root_.Go.aq5 {G:Prop} (h:G:=by
 obtain ⟨pa,l,ca,rfl,hm⟩:=h;obtain ⟨pb,m,cb,rfl,hm2⟩:=h2
 by_cases hb:decide (z<0)=decide (y<0)
 ·rw [hb];exact Jt pa pb l m ca cb z y (decide (y<0)) w hm hm2 hb rfl kz ky
 ·have hb2:decide (y<0)= !decide (z<0):=by
   cases h1:decide (z<0)<;>cases h2:decide (y<0)<;>simp_all
  rw [hb2];exact Ju pa pb l m ca cb z y (decide (z<0)) w hm hm2 rfl hb2 kz ky):G:=h
theorem wZ (v u:Value) (z y:Int) (w:World) (h:fK w v z) (h2:fK w u y) (kz:sz 1000000000 z.natAbs≤549755813888) (ky:sz 1000000000 y.natAbs≤549755813888) :
  Calls Tryz.prog 147 #[v,u] w (fun e w'=>∃ v,e= ah v∧Below w.heap.size w w'∧fK w' v (z+y)):=aq5
theorem OM (v:Value) (z:Int) (w:World) (h:fK w v z) (kz:sz 1000000000 z.natAbs≤1099511627776) (ht:jN.Pow w) :
  Calls Tryz.prog 191 #[v] w (fun e w'=>e= ah (dW z)∧Below w.heap.size w w'):=by
 obtain ⟨pa,l,ca,rfl,hm⟩:=h
 have hlen:((1+(Lib.decDigits z.natAbs).length:Nat):Int)≤9223372036854775807:=by
  have h1:=vD (dw (B:=1000000000) zo z.natAbs);rw [bY zo] at h1;unfold sz at kz;omega
 have ac6:¬ 9223372036854775807<1+(Lib.decDigits z.natAbs).length:=by omega
 have H:=zh hm;have KZ:=zh kz;have HT:=zh ht;clear hm kz ht hlen
 by_cases hz:z<0
 ·have e:dW z= O ⟨(45::Lib.decDigits z.natAbs).toArray⟩:=by unfold dW Lib.itoa;rw [if_pos hz]
  rw [e,decide_eq_true hz];clear e hz;go_enter Tryz.func191,Tryz.ntmps191
  go_wp2_with fail
  refine (sw _ z.natAbs _ aY KZ.out (HT.out.later aJ)).mono ?_;rintro e v1 ⟨rfl,hc1⟩;go_wp2_with fail
  go_ret
  exact ⟨rfl,aJ⟩
 ·have e:dW z= O ⟨(Lib.decDigits z.natAbs).toArray⟩:=by unfold dW Lib.itoa;rw [if_neg hz,show z.toNat=z.natAbs by omega]
  rw [e,decide_eq_false hz];clear e hz;go_enter Tryz.func191,Tryz.ntmps191
  go_wp2_with fail
  refine (sw _ z.natAbs _ aY KZ.out (HT.out.later aJ)).mono ?_;rintro e v1 ⟨rfl,hc1⟩;go_wp2_with fail
  go_ret
  exact ⟨rfl,aJ⟩
end Go.Proofs.fC
namespace Go.Proofs.fC
open Go Go.RowKit Go.SW Go.Num Go.Mem Go.Proofs Go.Dec Go.gB
theorem yg (v:Value) (z:Int) (w:World) (h:fK w v z) :
  Calls Tryz.prog 149 #[v] w (fun e w'=>e= ah (Z I (wI z))∧Below w.heap.size w w'):=by
 obtain ⟨JO,lH,K7,rfl,H⟩:=h;replace H:=zh H
 rcases Int.lt_trichotomy z 0 with hz|hz|hz
 ·have e:wI z= -1:=by unfold wI;rw [if_neg zo,if_pos hz]
  rw [e,decide_eq_true hz];have h0:decide (z.natAbs=0)=false:=by simp;omega
  go_enter Tryz.func149,Tryz.ntmps149
  go_wp2_with (go_at_call 201;refine (iU _ z.natAbs _ aY).mono ?_;rintro e w1 ⟨rfl,rfl⟩;rw [h0])
  go_ret
  exact ⟨rfl,aJ⟩
 ·subst hz;go_enter Tryz.func149,Tryz.ntmps149
  go_wp2_with (go_at_call 201;refine (iU _ (Int.natAbs 0) _ aY).mono ?_;rintro e w1 ⟨rfl,rfl⟩)
  go_ret
  exact ⟨rfl,aJ⟩
 ·have e:wI z=1:=by unfold wI;rw [if_neg zo,if_neg zo]
  rw [e,decide_eq_false (show ¬ z<0 by omega)];have h0:decide (z.natAbs=0)=false:=by simp;omega
  go_enter Tryz.func149,Tryz.ntmps149
  go_wp2_with (go_at_call 201;refine (iU _ z.natAbs _ aY).mono ?_;rintro e w1 ⟨rfl,rfl⟩;rw [h0])
  go_ret
  exact ⟨rfl,aJ⟩
theorem uP (x y:Value) (p q:Rat) (w:World) (hx:gX w x p) (hy:gX w y q) (kp:jy 1000000 p) (kq:jy 1000000 q) :
  Calls Tryz.prog 66 #[x,y] w (fun e w'=>e= ah (Z I (qL p q))∧Below w.heap.size w w'):=by
 obtain ⟨JO,lH,K7,XU,mH,X0,rfl,H,Hd⟩:=hx;replace H:=zh H;replace Hd:=zh Hd;obtain ⟨paG,lG,caG,pbG,mG,cbG,rfl,G,Gd⟩:=hy;replace G:=zh G;replace Gd:=zh Gd;rw [← Cu];have k1:=qc p.num q.den;have k2:=qc q.num p.den;obtain ⟨kp1,kp2⟩:=kp;obtain ⟨kq1,kq2⟩:=kq;obtain ⟨y1,Ey1⟩:∃ y:Int,Hid (p.num*(q.den:Int)=y):=⟨_,zh rfl⟩;obtain ⟨y2,Ey2⟩:∃ y:Int,Hid (q.num*(p.den:Int)=y):=⟨_,zh rfl⟩;obtain ⟨y3,Ey3⟩:∃ y:Int,Hid (-y2=y):=⟨_,zh rfl⟩;obtain ⟨y4,Ey4⟩:∃ y:Int,Hid (y1+y3=y):=⟨_,zh rfl⟩;rw [Ey1.out,Ey2.out,Ey3.out,Ey4.out];rw [Ey1.out] at k1;rw [Ey2.out] at k2;have k3:sz 1000000000 y3.natAbs=sz 1000000000 y2.natAbs:=by rw [← Ey3.out,Int.natAbs_neg]
 have K1:Hid (sz 1000000000 y1.natAbs≤549755813888):=by unfold Hid;omega
 have K3:Hid (sz 1000000000 y3.natAbs≤549755813888):=by unfold Hid;omega
 have KP1:=zh kp1;have KP2:=zh kp2;have KQ1:=zh kq1;have KQ2:=zh kq2;clear kp1 kp2 kq1 kq2 k1 k2 k3;go_enter Tryz.func66,Tryz.ntmps66
 go_wp2_with fail
 refine aO [(.pure,0),(.read,1),(.pure,2),(.read,3),(.pure,5),(.read,6),(.pure,7),(.read,8),(.ext,4),(.ext,9),(.ext,10),(.ext,11),(.ext,12),(.fin,13)] zk zk zR zP ?_;refine zV ?_;refine aU rfl rfl (fun w1 hb1 J hJ=>?_);go_simp;refine ((rU _ _ p.num q.den _ (fK.gV aY) aY (ay KP1.out zo) (ay KQ2.out zo)).mono (by rw [Ey1.out];exact fun _ _ h=>h)).mono ?_;rintro e v1 ⟨v,rfl,hc1,hv⟩;obtain ⟨aV4,lHA,ba2,rfl,HA⟩:=hv;replace HA:=zh HA;refine hJ _ _ hc1 ?_;clear hJ J;refine aU rfl rfl (fun w2 hb2 J hJ=>?_);go_simp;refine ((rU _ _ q.num p.den _ (fK.gV aY) aY (ay KQ1.out zo) (ay KP2.out zo)).mono (by rw [Ey2.out];exact fun _ _ h=>h)).mono ?_;rintro e v2 ⟨v,rfl,hc2,hv⟩;obtain ⟨aV3,lHB,ba1,rfl,HB⟩:=hv;replace HB:=zh HB;refine hJ _ _ hc2 ?_;clear hJ J
 refine aU rfl rfl (fun w3 hb3 J hJ=>?_);go_simp;refine ((Ay _ y2 _ (fK.gV aY)).mono (by rw [Ey3.out];exact fun _ _ h=>h)).mono ?_;rintro e v3 ⟨v,rfl,hc3,hv⟩;obtain ⟨aV2,lHC,ba0,rfl,HC⟩:=hv;replace HC:=zh HC;refine hJ _ _ hc3 ?_;clear hJ J;refine aU rfl rfl (fun w4 hb4 J hJ=>?_);go_simp;refine ((wZ _ _ y1 y3 _ (fK.gV aY) (fK.gV aY) K1.out K3.out).mono (by rw [Ey4.out];exact fun _ _ h=>h)).mono ?_;rintro e v4 ⟨v,rfl,hc4,hv⟩;obtain ⟨aw1,lHD,aA7,rfl,HD⟩:=hv;replace HD:=zh HD;refine hJ _ _ hc4 ?_;clear hJ J;refine aU rfl rfl (fun w5 hb5 J hJ=>?_);go_simp;refine (yg _ y4 _ (fK.gV aY)).mono ?_;rintro e v5 ⟨rfl,pQ⟩;refine hJ _ _ pQ ?_;clear hJ J;refine dD [_] rfl (fun w5 hb5=>?_);go_wp2_with fail
 go_ret
 exact ⟨rfl,aJ⟩
theorem MB (x y:Value) (n:Int) (d:Nat) (w:World) (hx:fK w x n) (hy:bZ w y d) (hd:0<d) (kn:sz 1000000000 n.natAbs≤549755813888) (kd:sz 1000000000 d≤549755813888) :
  Calls Tryz.prog 248 #[x,y] w (fun e w'=>∃ v,e= ah v∧Below w.heap.size w w'∧gX w' v (mkRat n d)):=by
 obtain ⟨JO,lH,K7,rfl,H⟩:=hx;replace H:=zh H;obtain ⟨paG,lG,caG,rfl⟩:=hy.slice;have G:=zh hy;clear hy;have HP:=zh (yD n hd);have hg:0<n.natAbs.gcd d:=Nat.gcd_pos_of_pos_right _ hd;obtain ⟨g,Eg⟩:∃ y:Nat,Hid (n.natAbs.gcd d=y):=⟨_,zh rfl⟩;obtain ⟨a,Ea⟩:∃ y:Nat,Hid (n.natAbs / g=y):=⟨_,zh rfl⟩;obtain ⟨b,Eb⟩:∃ y:Nat,Hid (d / g=y):=⟨_,zh rfl⟩;rw [Eg.out] at HP hg;rw [Ea.out,Eb.out] at HP;have KN:=zh kn;have KD:=zh kd;have HG:=zh hg;clear kn kd hg hd;go_enter Tryz.func248,Tryz.ntmps248
 go_wp2_with fail
 refine ((xI _ _ n.natAbs d _ aY aY KN.out KD.out).mono (by rw [Eg.out];exact fun _ _ h=>h)).mono ?_;rintro e v1 ⟨v,rfl,hc1,hv⟩;obtain ⟨aE8,lHg,aK4,rfl⟩:=hv.slice;have Hg:=zh hv;clear hv;have BR:=aB.later (aB.qM _ _ _ _) hc1;have dV:=BR.cell;have dU:=BR.free;have B0:=aB.later (aB.alloc (aB.new _ _ _) _) hc1;have cB0:=B0.cell;have lK:=B0.free;go_wp2_with fail
 refine ((iI _ _ n.natAbs g _ aY aY HG.out KN.out).mono (by rw [Ea.out];exact fun _ _ h=>h)).mono ?_;rintro e v2 ⟨v,vr,rfl,hc2,hv,qC⟩;obtain ⟨aw0,lHa,aA6,rfl⟩:=hv.slice;have Ha:=zh hv;clear hv;obtain ⟨aQ1,aW9,aR3,rfl⟩:=qC.slice;have Har:=zh qC;clear qC;replace BR:=aB.later (BR) hc2;replace dV:=BR.cell;replace dU:=BR.free;replace B0:=aB.later (B0) hc2;replace cB0:=B0.cell;replace lK:=B0.free;go_wp2_with fail
 refine ((iI _ _ d g _ aY aY HG.out KD.out).mono (by rw [Eb.out];exact fun _ _ h=>h)).mono ?_;rintro e v3 ⟨v,vr,rfl,hc3,hv,qC⟩;obtain ⟨aF0,lHb,aK6,rfl⟩:=hv.slice;have Hb:=zh hv;clear hv;obtain ⟨aQ0,aW8,aR2,rfl⟩:=qC.slice;have Hbr:=zh qC;clear qC;replace BR:=aB.later (BR) hc3;replace dV:=BR.cell;replace dU:=BR.free;replace B0:=aB.later (B0) hc3;replace cB0:=B0.cell;replace lK:=B0.free;go_wp2_with fail
 refine (gD _ a _ _ aY).mono ?_;rintro e v4 ⟨v,rfl,hc4,hv⟩;obtain ⟨Fy,XW,FP,rfl,Hs⟩:=hv;replace Hs:=zh Hs;replace BR:=aB.later (BR) hc4;replace dV:=BR.cell;replace dU:=BR.free;replace B0:=aB.later (B0) hc4;replace cB0:=B0.cell;replace lK:=B0.free;go_wp2_with fail
 refine ig rfl rfl bI Tryz.underlying108 rfl zk ?_;exact ⟨_,rfl,aJ,gX.mk (jh a (decide (n<0))).natAbs b aY aY (by rw [HP.out.1]) HP.out.2.symm (by rw [HP.out.1])⟩
theorem mI (v:Value) (q:Rat) (w:World) (h:gX w v q) (k:jy 1000000 q) (ht:jN.Pow w) :
  Calls Tryz.prog 140 #[v] w (fun e w'=>e= ah (Fr.res (wr q))∧Below w.heap.size w w'):=by
 obtain ⟨JO,lH,K7,XU,mH,X0,rfl,H,Hd⟩:=h;replace H:=zh H;replace Hd:=zh Hd;have HT:=zh ht;have K1:=zh k.1;have K2:=zh k.2;clear ht k
 rcases aR 600 (Lib.decDigits q.num.natAbs).length with h1|h1
 ·rw [GY (by unfold uQ;rw [MR h1];rfl)];go_enter Tryz.func140,Tryz.ntmps140
  go_wp2_with fail
  refine (nu _ q.num.natAbs _ aY (ay K1.out zo) (HT.out.later aJ)).mono ?_;rintro e v1 ⟨rfl,hc1⟩;have BR:=aB.later (aB.qM _ _ _ _) hc1;have dV:=BR.cell;have dU:=BR.free;have B0:=aB.later (aB.alloc (aB.new _ _ _) _) hc1;have cB0:=B0.cell;have lK:=B0.free;go_wp2_with fail
  refine bK rfl rfl bI Tryz.underlying32 rfl zk ?_;exact ⟨rfl,aJ⟩
 ·rcases aR 600 (Lib.decDigits q.den).length with h2|h2
  ·rw [GY (by unfold uQ;rw [MR h2,Bool.and_false])];go_enter Tryz.func140,Tryz.ntmps140
   go_wp2_with fail
   refine (nu _ q.num.natAbs _ aY (ay K1.out zo) (HT.out.later aJ)).mono ?_;rintro e v1 ⟨rfl,hc1⟩;have BR:=aB.later (aB.qM _ _ _ _) hc1;have dV:=BR.cell;have dU:=BR.free;have B0:=aB.later (aB.alloc (aB.new _ _ _) _) hc1;have cB0:=B0.cell;have lK:=B0.free;go_wp2_with fail
   refine (nu _ q.den _ aY (ay K2.out zo) (HT.out.later aJ)).mono ?_;rintro e v2 ⟨rfl,hc2⟩;replace BR:=aB.later (BR) hc2;replace dV:=BR.cell;replace dU:=BR.free;replace B0:=aB.later (B0) hc2;replace cB0:=B0.cell;replace lK:=B0.free;go_wp2_with fail
   refine bK rfl rfl bI Tryz.underlying32 rfl zk ?_;exact ⟨rfl,aJ⟩
  ·rw [ab5 (by unfold uQ;rw [fZ.2 h1,fZ.2 h2];rfl)];go_enter Tryz.func140,Tryz.ntmps140
   go_wp2_with fail
   refine (nu _ q.num.natAbs _ aY (ay K1.out zo) (HT.out.later aJ)).mono ?_;rintro e v1 ⟨rfl,hc1⟩;have BR:=aB.later (aB.qM _ _ _ _) hc1;have dV:=BR.cell;have dU:=BR.free;have B0:=aB.later (aB.alloc (aB.new _ _ _) _) hc1;have cB0:=B0.cell;have lK:=B0.free;go_wp2_with fail
   refine (nu _ q.den _ aY (ay K2.out zo) (HT.out.later aJ)).mono ?_;rintro e v2 ⟨rfl,hc2⟩;replace BR:=aB.later (BR) hc2;replace dV:=BR.cell;replace dU:=BR.free;replace B0:=aB.later (B0) hc2;replace cB0:=B0.cell;replace lK:=B0.free;go_wp2_with fail
   refine aO [(.pure,0),(.read,1),(.pure,3),(.read,4),(.ext,2),(.ext,5),(.pure,6),(.fin,7),(.fin,8)] zk zk zR zP ?_;refine zV ?_;refine aU rfl rfl (fun w3 hb3 J hJ=>?_);go_simp;replace BR:=aB.later (aB.drew BR) hb3;replace dV:=BR.cell;replace dU:=BR.free;refine ((OM _ q.num _ (fK.gV aY) (ay K1.out zo) (HT.out.later aJ)).mono (fun _ _ h=>by unfold dW at h;exact h)).mono ?_;rintro e v3 ⟨rfl,hc3⟩;replace BR:=aB.later (BR) hc3;replace dV:=BR.cell;replace dU:=BR.free;refine hJ _ _ hc3 ?_;clear hJ J;refine aU rfl rfl (fun w4 hb4 J hJ=>?_);go_simp;replace BR:=aB.later (BR) hb4;replace dV:=BR.cell;replace dU:=BR.free;refine (sw _ q.den _ aY (ay K2.out zo) (HT.out.later aJ)).mono ?_;rintro e v4 ⟨rfl,hc4⟩;replace BR:=aB.later (BR) hc4;replace dV:=BR.cell;replace dU:=BR.free;refine hJ _ _ hc4 ?_;clear hJ J
   refine zV ?_;refine dD [_,_] rfl (fun w5 hb5=>?_);replace BR:=aB.later (BR) hb5;replace dV:=BR.cell;replace dU:=BR.free;go_wp2_with fail
   refine bK rfl rfl bI Tryz.underlying32 rfl zk ?_;exact ⟨rfl,aJ⟩
def Li (w:World) (q:Rat) (e:Ending) (w':World):Prop:=∃ v,e= ah (aD #[v,ak true])∧Below w.heap.size w w'∧gX w' v q
def sI (w:World) (e:Ending) (w':World):Prop:=e= ah (aD #[au #[aj none 0 0,ak false,aj none 0 0],ak false])∧Below w.heap.size w w'
theorem mq {s:ByteArray} {z:Int} (h:Dec.whole s.data.toList=some z) (w:World):Calls Tryz.prog 221 #[O s] w (fun e w'=>e= ah (Z I 0)∧Below w.heap.size w w'):=by
 have:=whole.mO s w;rw [h] at this;exact this
theorem Eo {s:ByteArray} (h:Dec.whole s.data.toList=none) (w:World):Calls Tryz.prog 221 #[O s] w (fun e w'=>e= ah (Z I 10)∧Below w.heap.size w w'):=by
 have:=whole.mO s w;rw [h] at this;exact this
theorem MC (s t:ByteArray) (h:Dec.whole s.data.toList=none) (w:World) :
  Calls Tryz.prog 141 #[au #[O s,O t]] w (sI w):=by
 have HC:=zh (Eo h);clear h;go_enter Tryz.func141,Tryz.ntmps141
 go_wp2_with fail
 refine (HC.out _).mono ?_;rintro e v1 ⟨rfl,hc1⟩;have BR:=aB.later (aB.qM _ _ _ _) hc1;have dV:=BR.cell;have dU:=BR.free;have B0:=aB.later (aB.alloc (aB.new _ _ _) _) hc1;have cB0:=B0.cell;have lK:=B0.free;go_wp2_with fail
 refine bK rfl rfl bI Tryz.underlying108 rfl zk ?_;exact ⟨rfl,aJ⟩
theorem ME (s t:ByteArray) (n:Int) (hn:Dec.whole s.data.toList=some n) (h:Dec.whole t.data.toList=none) (w:World) :
  Calls Tryz.prog 141 #[au #[O s,O t]] w (sI w):=by
 have HC:=zh (mq hn);have HD:=zh (Eo h);clear h hn;go_enter Tryz.func141,Tryz.ntmps141
 go_wp2_with fail
 refine (HC.out _).mono ?_;rintro e v1 ⟨rfl,hc1⟩;have BR:=aB.later (aB.qM _ _ _ _) hc1;have dV:=BR.cell;have dU:=BR.free;have B0:=aB.later (aB.alloc (aB.new _ _ _) _) hc1;have cB0:=B0.cell;have lK:=B0.free;go_wp2_with fail
 refine (HD.out _).mono ?_;rintro e v2 ⟨rfl,hc2⟩;replace BR:=aB.later (BR) hc2;replace dV:=BR.cell;replace dU:=BR.free;replace B0:=aB.later (B0) hc2;replace cB0:=B0.cell;replace lK:=B0.free;go_wp2_with fail
 refine bK rfl rfl bI Tryz.underlying108 rfl zk ?_;exact ⟨rfl,aJ⟩
theorem QM (q:Rat) (hq:uQ q=true) (w:World) :
  Calls Tryz.prog 141 #[(Fr.of q).v] w (Li w q):=by
 show Calls _ _ #[au #[O ⟨(Lib.itoa q.num).toArray⟩,O ⟨(Lib.itoa (q.den:Int)).toArray⟩]] _ _
 have hs:=mU hq
 have hl:(Lib.decDigits q.num.natAbs).length≤600∧(Lib.decDigits ((q.den:Nat):Int).natAbs).length≤600:=by
  unfold uQ at hq;rw [aG,fZ,fZ] at hq;exact ⟨hq.1,(Int.natAbs_natCast q.den).symm ▸ hq.2⟩
 obtain ⟨hl1,hl2⟩:=hl;have hd:=q.den_pos;have hr:=q.reduced;have HC:=zh (mq (s:=⟨(Lib.itoa q.num).toArray⟩) (gL hl1));have HD:=zh (mq (s:=⟨(Lib.itoa (q.den:Int)).toArray⟩) (gL hl2));have HL1:=zh hl1;have HL2:=zh hl2;have HR:=zh hr;have S1:=zh hs.1;have S2:=zh hs.2;obtain ⟨d,Ed⟩:∃ y:Int,Hid ((q.den:Int)=y):=⟨_,zh rfl⟩;have hdn:d.natAbs=q.den:=by rw [← Ed.out,Int.natAbs_natCast]
 have hd1:0<d:=by rw [← Ed.out];omega
 have hsg:wI d=1:=by unfold wI;rw [if_neg zo,if_neg zo]
 have hdf:decide (d<0)=false:=by simp;omega
 have HDN:=zh hdn;have Ov:=zh hsg;have HDF:=zh hdf;have HR1:Hid (q.num.natAbs.gcd d.natAbs=1):=by unfold Hid;rw [hdn];exact hr
 rw [Ed.out] at HL2 HD ⊢;clear hq hs hl1 hl2 hr hd hdn hd1 hsg hdf;go_enter Tryz.func141,Tryz.ntmps141
 go_wp2_with fail
 refine (HC.out _).mono ?_;rintro e v1 ⟨rfl,hc1⟩;have BR:=aB.later (aB.qM _ _ _ _) hc1;have dV:=BR.cell;have dU:=BR.free;have B0:=aB.later (aB.alloc (aB.new _ _ _) _) hc1;have cB0:=B0.cell;have lK:=B0.free;go_wp2_with fail
 refine (HD.out _).mono ?_;rintro e v2 ⟨rfl,hc2⟩;replace BR:=aB.later (BR) hc2;replace dV:=BR.cell;replace dU:=BR.free;replace B0:=aB.later (B0) hc2;replace cB0:=B0.cell;replace lK:=B0.free;go_wp2_with fail
 refine aO [(.pure,0),(.read,1),(.pure,3),(.read,4),(.ext,2),(.ext,5),(.alloc #[aj none 0 0,ak false] 106,6),(.alloc #[aj none 0 0,ak false] 106,7),(.fin,8),(.fin,9)] zk zk zR zP ?_;refine zV ?_;refine aU rfl rfl (fun w3 hb3 J hJ=>?_);go_simp;replace BR:=aB.later (aB.drew BR) hb3;replace dV:=BR.cell;replace dU:=BR.free;replace B0:=aB.later (aB.drew B0) hb3;replace cB0:=B0.cell;replace lK:=B0.free;refine (kJ q.num HL1.out _).mono ?_;rintro e v3 ⟨v,rfl,hc3,hv⟩;obtain ⟨YC,lHN,ZG,rfl,HN⟩:=hv;replace HN:=zh HN;replace BR:=aB.later (BR) hc3;replace dV:=BR.cell;replace dU:=BR.free;replace B0:=aB.later (B0) hc3;replace cB0:=B0.cell;replace lK:=B0.free;refine hJ _ _ hc3 ?_;clear hJ J;refine aU rfl rfl (fun w4 hb4 J hJ=>?_);go_simp;replace BR:=aB.later (BR) hb4;replace dV:=BR.cell;replace dU:=BR.free
 replace B0:=aB.later (B0) hb4;replace cB0:=B0.cell;replace lK:=B0.free;refine (kJ d HL2.out _).mono ?_;rintro e v4 ⟨v,rfl,hc4,hv⟩;obtain ⟨YD,lHM,ZH,rfl,HM⟩:=hv;replace HM:=zh HM;replace BR:=aB.later (BR) hc4;replace dV:=BR.cell;replace dU:=BR.free;replace B0:=aB.later (B0) hc4;replace cB0:=B0.cell;replace lK:=B0.free;refine hJ _ _ hc4 ?_;clear hJ J;refine eX rfl (fun b1 w5 hw5 Nu Wo ak7 fD=>?_);go_simp;replace fD:aB _ _ _ _:=fD;have ak6:w.heap.size≤b1:=(by first|omega|exact ay (Below.size (B:=w.heap.size) aJ) Nu);replace BR:=aB.later (BR) hw5;replace dV:=BR.cell;replace dU:=BR.free;refine eX rfl (fun b2 w6 hw6 Wy ac5 Wz jM=>?_);go_simp;replace jM:aB _ _ _ _:=jM;have aA1:w.heap.size≤b2:=(by first|omega|exact ay (Below.size (B:=w.heap.size) aJ) Wy)
 replace BR:=aB.later (BR) hw6;replace dV:=BR.cell;replace dU:=BR.free;replace fD:=aB.later (fD) hw6;replace qG:=fD.cell;replace qF:=fD.free;refine dD [_,_] rfl (fun w7 kR=>?_);replace BR:=aB.later (BR) kR;replace dV:=BR.cell;replace dU:=BR.free;replace fD:=aB.later (fD) kR;replace qG:=fD.cell;replace qF:=fD.free;replace jM:=aB.later (jM) kR;replace D7:=jM.cell;replace DL:=jM.free;have n1:b1≠b2:=fun e=>Wz (by simp [e]);have n2:b2≠b1:=fun e=>n1 e.symm;have n3:=BR.ne fD zd;have n4:=BR.ne jM zd;go_wp2_with fail
 refine ((yg _ d _ (fK.gV aY)).mono (by rw [Ov.out];exact fun _ _ h=>h)).mono ?_;rintro e v5 ⟨rfl,pQ⟩;replace HN:=zh (bZ.carry HN.out aY pQ);replace HM:=zh (bZ.carry HM.out aY pQ);replace fD:aB _ (b1) _ _:=aB.later bI pQ;(try simp only [List.setIfInBounds_toArray,aM,aN] at fD);replace qG:=fD.cell;replace qF:=fD.free;replace jM:aB _ (b2) _ _:=aB.later bI pQ;(try simp only [List.setIfInBounds_toArray,aM,aN] at jM);replace D7:=jM.cell;replace DL:=jM.free;replace BR:aB _ (w.heap.size+1) _ _:=aB.later bI pQ;(try simp only [List.setIfInBounds_toArray,aM,aN] at BR);replace dV:=BR.cell;replace dU:=BR.free;go_wp2_with fail
 refine ((xI _ _ q.num.natAbs d.natAbs _ aY aY (ay S1.out zo) (by rw [HDN.out];exact ay S2.out zo)).mono (by rw [HR1.out];exact fun _ _ h=>h)).mono ?_;rintro e v6 ⟨v,rfl,hc6,hv⟩;obtain ⟨aF2,lHG,aK8,rfl⟩:=hv.slice;have HG:=zh hv;clear hv;replace HN:=zh (bZ.later HN.out hc6);replace HM:=zh (bZ.later HM.out hc6);replace fD:=aB.later (fD) hc6;replace qG:=fD.cell;replace qF:=fD.free;replace jM:=aB.later (jM) hc6;replace D7:=jM.cell;replace DL:=jM.free;replace BR:=aB.later (BR) hc6;replace dV:=BR.cell;replace dU:=BR.free;go_wp2_with fail
 refine ((ku _ _ 1 1 _ aY (bZ.lit zo zo)).mono (by rw [sW];exact fun _ _ h=>h)).mono ?_;rintro e v7 ⟨rfl,IC⟩;replace HN:=zh (bZ.carry HN.out aY IC);replace HM:=zh (bZ.carry HM.out aY IC);replace fD:aB _ (b1) _ _:=aB.later bI IC;(try simp only [List.setIfInBounds_toArray,aM,aN] at fD);replace qG:=fD.cell;replace qF:=fD.free;replace jM:aB _ (b2) _ _:=aB.later bI IC;(try simp only [List.setIfInBounds_toArray,aM,aN] at jM);replace D7:=jM.cell;replace DL:=jM.free;replace BR:aB _ (w.heap.size+1) _ _:=aB.later bI IC;(try simp only [List.setIfInBounds_toArray,aM,aN] at BR);replace dV:=BR.cell;replace dU:=BR.free;go_wp2_with fail
 refine bK rfl rfl bI Tryz.underlying108 rfl zk ?_;refine ⟨_,rfl,aJ,gX.mk q.num.natAbs d.natAbs aY aY rfl HDN.out rfl⟩
theorem Fv (n d:Int) (hl1:(Lib.decDigits n.natAbs).length≤600) (hl2:(Lib.decDigits d.natAbs).length≤600) (hd:d≤0) (w:World) :
  Calls Tryz.prog 141 #[au #[O ⟨(Lib.itoa n).toArray⟩,O ⟨(Lib.itoa d).toArray⟩]] w (sI w):=by
 have HC:=zh (mq (s:=⟨(Lib.itoa n).toArray⟩) (gL hl1));have HD:=zh (mq (s:=⟨(Lib.itoa d).toArray⟩) (gL hl2));have HL1:=zh hl1;have HL2:=zh hl2
 have hs:wI d=0∨wI d= -1:=by
  unfold wI
  by_cases h:d=0
  ·rw [if_pos h];exact .inl rfl
  ·rw [if_neg h,if_pos zo];exact .inr rfl
 clear hl1 hl2 hd
 rcases hs with hs|hs
 all_goals
  have Ov:=zh hs;clear hs;go_enter Tryz.func141,Tryz.ntmps141
  go_wp2_with fail
  refine (HC.out _).mono ?_;rintro e v1 ⟨rfl,hc1⟩;have BR:=aB.later (aB.qM _ _ _ _) hc1;have dV:=BR.cell;have dU:=BR.free;have B0:=aB.later (aB.alloc (aB.new _ _ _) _) hc1;have cB0:=B0.cell;have lK:=B0.free;go_wp2_with fail
  refine (HD.out _).mono ?_;rintro e v2 ⟨rfl,hc2⟩;replace BR:=aB.later (BR) hc2;replace dV:=BR.cell;replace dU:=BR.free;replace B0:=aB.later (B0) hc2;replace cB0:=B0.cell;replace lK:=B0.free;go_wp2_with fail
  refine aO [(.pure,0),(.read,1),(.pure,3),(.read,4),(.ext,2),(.ext,5),(.alloc #[aj none 0 0,ak false] 106,6),(.alloc #[aj none 0 0,ak false] 106,7),(.fin,8),(.fin,9)] zk zk zR zP ?_;refine zV ?_;refine aU rfl rfl (fun w3 hb3 J hJ=>?_);go_simp;replace BR:=aB.later (aB.drew BR) hb3;replace dV:=BR.cell;replace dU:=BR.free;replace B0:=aB.later (aB.drew B0) hb3;replace cB0:=B0.cell;replace lK:=B0.free;refine (kJ n HL1.out _).mono ?_;rintro e v3 ⟨v,rfl,hc3,hv⟩;obtain ⟨YC,lHN,ZG,rfl,HN⟩:=hv;replace HN:=zh HN;replace BR:=aB.later (BR) hc3;replace dV:=BR.cell;replace dU:=BR.free;replace B0:=aB.later (B0) hc3;replace cB0:=B0.cell;replace lK:=B0.free;refine hJ _ _ hc3 ?_;clear hJ J;refine aU rfl rfl (fun w4 hb4 J hJ=>?_);go_simp;replace BR:=aB.later (BR) hb4;replace dV:=BR.cell;replace dU:=BR.free
  replace B0:=aB.later (B0) hb4;replace cB0:=B0.cell;replace lK:=B0.free;refine (kJ d HL2.out _).mono ?_;rintro e v4 ⟨v,rfl,hc4,hv⟩;obtain ⟨YD,lHM,ZH,rfl,HM⟩:=hv;replace HM:=zh HM;replace BR:=aB.later (BR) hc4;replace dV:=BR.cell;replace dU:=BR.free;replace B0:=aB.later (B0) hc4;replace cB0:=B0.cell;replace lK:=B0.free;refine hJ _ _ hc4 ?_;clear hJ J;refine eX rfl (fun b1 w5 hw5 Nu Wo ak7 fD=>?_);go_simp;replace fD:aB _ _ _ _:=fD;have ak6:w.heap.size≤b1:=(by first|omega|exact ay (Below.size (B:=w.heap.size) aJ) Nu);replace BR:=aB.later (BR) hw5;replace dV:=BR.cell;replace dU:=BR.free;refine eX rfl (fun b2 w6 hw6 Wy ac5 Wz jM=>?_);go_simp;replace jM:aB _ _ _ _:=jM;have aA1:w.heap.size≤b2:=(by first|omega|exact ay (Below.size (B:=w.heap.size) aJ) Wy)
  replace BR:=aB.later (BR) hw6;replace dV:=BR.cell;replace dU:=BR.free;replace fD:=aB.later (fD) hw6;replace qG:=fD.cell;replace qF:=fD.free;refine dD [_,_] rfl (fun w7 kR=>?_);replace BR:=aB.later (BR) kR;replace dV:=BR.cell;replace dU:=BR.free;replace fD:=aB.later (fD) kR;replace qG:=fD.cell;replace qF:=fD.free;replace jM:=aB.later (jM) kR;replace D7:=jM.cell;replace DL:=jM.free;have n1:b1≠b2:=fun e=>Wz (by simp [e]);have n2:b2≠b1:=fun e=>n1 e.symm;have n3:=BR.ne fD zd;have n4:=BR.ne jM zd;go_wp2_with fail
  refine ((yg _ d _ (fK.gV aY)).mono (by rw [Ov.out];exact fun _ _ h=>h)).mono ?_;rintro e v5 ⟨rfl,pQ⟩;replace BR:aB _ (w.heap.size+1) _ _:=aB.later bI pQ;(try simp only [List.setIfInBounds_toArray,aM,aN] at BR);replace dV:=BR.cell;replace dU:=BR.free;go_wp2_with fail
  refine bK rfl rfl bI Tryz.underlying108 rfl zk ?_;exact ⟨rfl,aJ⟩
theorem Ml {g:Nat} (h:g≠1):xu g 1= -1∨xu g 1=1:=by
 unfold xu
 by_cases h2:g<1
 ·rw [if_pos h2];exact .inl rfl
 ·rw [if_neg h2,if_pos zo];exact .inr rfl
theorem Ib (n d:Int) (hl1:(Lib.decDigits n.natAbs).length≤600) (hl2:(Lib.decDigits d.natAbs).length≤600) (hd:0<d) (hg:n.natAbs.gcd d.natAbs≠1) (w:World) :
  Calls Tryz.prog 141 #[au #[O ⟨(Lib.itoa n).toArray⟩,O ⟨(Lib.itoa d).toArray⟩]] w (sI w):=by
 have HC:=zh (mq (s:=⟨(Lib.itoa n).toArray⟩) (gL hl1));have HD:=zh (mq (s:=⟨(Lib.itoa d).toArray⟩) (gL hl2));have HL1:=zh hl1;have HL2:=zh hl2;have S1:=zh (kY (fZ.2 hl1));have S2:=zh (kY (fZ.2 hl2));have hsg:wI d=1:=by unfold wI;rw [if_neg zo,if_neg zo]
 have hdf:decide (d<0)=false:=by simp;omega
 have Ov:=zh hsg;have hs:=Ml hg;obtain ⟨g,Eg⟩:∃ y:Nat,Hid (n.natAbs.gcd d.natAbs=y):=⟨_,zh rfl⟩;rw [Eg.out] at hs;clear hl1 hl2 hd hg hsg hdf
 rcases hs with hs|hs
 all_goals
  have HS:=zh hs;clear hs;go_enter Tryz.func141,Tryz.ntmps141
  go_wp2_with fail
  refine (HC.out _).mono ?_;rintro e v1 ⟨rfl,hc1⟩;have BR:=aB.later (aB.qM _ _ _ _) hc1;have dV:=BR.cell;have dU:=BR.free;have B0:=aB.later (aB.alloc (aB.new _ _ _) _) hc1;have cB0:=B0.cell;have lK:=B0.free;go_wp2_with fail
  refine (HD.out _).mono ?_;rintro e v2 ⟨rfl,hc2⟩;replace BR:=aB.later (BR) hc2;replace dV:=BR.cell;replace dU:=BR.free;replace B0:=aB.later (B0) hc2;replace cB0:=B0.cell;replace lK:=B0.free;go_wp2_with fail
  refine aO [(.pure,0),(.read,1),(.pure,3),(.read,4),(.ext,2),(.ext,5),(.alloc #[aj none 0 0,ak false] 106,6),(.alloc #[aj none 0 0,ak false] 106,7),(.fin,8),(.fin,9)] zk zk zR zP ?_;refine zV ?_;refine aU rfl rfl (fun w3 hb3 J hJ=>?_);go_simp;replace BR:=aB.later (aB.drew BR) hb3;replace dV:=BR.cell;replace dU:=BR.free;replace B0:=aB.later (aB.drew B0) hb3;replace cB0:=B0.cell;replace lK:=B0.free;refine (kJ n HL1.out _).mono ?_;rintro e v3 ⟨v,rfl,hc3,hv⟩;obtain ⟨YC,lHN,ZG,rfl,HN⟩:=hv;replace HN:=zh HN;replace BR:=aB.later (BR) hc3;replace dV:=BR.cell;replace dU:=BR.free;replace B0:=aB.later (B0) hc3;replace cB0:=B0.cell;replace lK:=B0.free;refine hJ _ _ hc3 ?_;clear hJ J;refine aU rfl rfl (fun w4 hb4 J hJ=>?_);go_simp;replace BR:=aB.later (BR) hb4;replace dV:=BR.cell;replace dU:=BR.free
  replace B0:=aB.later (B0) hb4;replace cB0:=B0.cell;replace lK:=B0.free;refine (kJ d HL2.out _).mono ?_;rintro e v4 ⟨v,rfl,hc4,hv⟩;obtain ⟨YD,lHM,ZH,rfl,HM⟩:=hv;replace HM:=zh HM;replace BR:=aB.later (BR) hc4;replace dV:=BR.cell;replace dU:=BR.free;replace B0:=aB.later (B0) hc4;replace cB0:=B0.cell;replace lK:=B0.free;refine hJ _ _ hc4 ?_;clear hJ J;refine eX rfl (fun b1 w5 hw5 Nu Wo ak7 fD=>?_);go_simp;replace fD:aB _ _ _ _:=fD;have ak6:w.heap.size≤b1:=(by first|omega|exact ay (Below.size (B:=w.heap.size) aJ) Nu);replace BR:=aB.later (BR) hw5;replace dV:=BR.cell;replace dU:=BR.free;refine eX rfl (fun b2 w6 hw6 Wy ac5 Wz jM=>?_);go_simp;replace jM:aB _ _ _ _:=jM;have aA1:w.heap.size≤b2:=(by first|omega|exact ay (Below.size (B:=w.heap.size) aJ) Wy)
  replace BR:=aB.later (BR) hw6;replace dV:=BR.cell;replace dU:=BR.free;replace fD:=aB.later (fD) hw6;replace qG:=fD.cell;replace qF:=fD.free;refine dD [_,_] rfl (fun w7 kR=>?_);replace BR:=aB.later (BR) kR;replace dV:=BR.cell;replace dU:=BR.free;replace fD:=aB.later (fD) kR;replace qG:=fD.cell;replace qF:=fD.free;replace jM:=aB.later (jM) kR;replace D7:=jM.cell;replace DL:=jM.free;have n1:b1≠b2:=fun e=>Wz (by simp [e]);have n2:b2≠b1:=fun e=>n1 e.symm;have n3:=BR.ne fD zd;have n4:=BR.ne jM zd;go_wp2_with fail
  refine ((yg _ d _ (fK.gV aY)).mono (by rw [Ov.out];exact fun _ _ h=>h)).mono ?_;rintro e v5 ⟨rfl,pQ⟩;replace HN:=zh (bZ.carry HN.out aY pQ);replace HM:=zh (bZ.carry HM.out aY pQ);replace fD:aB _ (b1) _ _:=aB.later bI pQ;(try simp only [List.setIfInBounds_toArray,aM,aN] at fD);replace qG:=fD.cell;replace qF:=fD.free;replace jM:aB _ (b2) _ _:=aB.later bI pQ;(try simp only [List.setIfInBounds_toArray,aM,aN] at jM);replace D7:=jM.cell;replace DL:=jM.free;replace BR:aB _ (w.heap.size+1) _ _:=aB.later bI pQ;(try simp only [List.setIfInBounds_toArray,aM,aN] at BR);replace dV:=BR.cell;replace dU:=BR.free;go_wp2_with fail
  refine ((xI _ _ n.natAbs d.natAbs _ aY aY (ay S1.out zo) (ay S2.out zo)).mono (by rw [Eg.out];exact fun _ _ h=>h)).mono ?_;rintro e v6 ⟨v,rfl,hc6,hv⟩;obtain ⟨aF2,lHG,aK8,rfl⟩:=hv.slice;have HG:=zh hv;clear hv;replace HN:=zh (bZ.later HN.out hc6);replace HM:=zh (bZ.later HM.out hc6);replace fD:=aB.later (fD) hc6;replace qG:=fD.cell;replace qF:=fD.free;replace jM:=aB.later (jM) hc6;replace D7:=jM.cell;replace DL:=jM.free;replace BR:=aB.later (BR) hc6;replace dV:=BR.cell;replace dU:=BR.free;go_wp2_with fail
  refine ((ku _ _ g 1 _ aY (bZ.lit zo zo)).mono (by rw [HS.out];exact fun _ _ h=>h)).mono ?_;rintro e v7 ⟨rfl,IC⟩;replace BR:aB _ (w.heap.size+1) _ _:=aB.later bI IC;(try simp only [List.setIfInBounds_toArray,aM,aN] at BR);replace dV:=BR.cell;replace dU:=BR.free;go_wp2_with fail
  refine bK rfl rfl bI Tryz.underlying108 rfl zk ?_;exact ⟨rfl,aJ⟩
theorem QN (a:Fr) (h:rd a=none) (w:World):Calls Tryz.prog 141 #[a.v] w (sI w):=by
 obtain ⟨s,t⟩:=a
 show Calls _ _ #[au #[O s,O t]] _ _
 unfold rd at h;simp only at h;cases e1:Dec.whole s.data.toList with
 | none=>exact MC s t e1 w
 | some n =>
  cases e2:Dec.whole t.data.toList with
  | none=>exact ME s t n e1 e2 w
  | some d =>
   rw [e1,e2] at h;simp only at h;obtain ⟨h1,h2⟩:=nZ e1;obtain ⟨h3,h4⟩:=nZ e2;have hs:s=⟨(Lib.itoa n).toArray⟩:=EF h1;have ht:t=⟨(Lib.itoa d).toArray⟩:=EF h3;rw [hs,ht]
   by_cases hd:0<d
   ·refine Ib n d h2 h4 hd (fun e=>?_) w;rw [dif_pos ⟨hd,e⟩] at h;cases h
   ·exact Fv n d h2 h4 zo w
end Go.Proofs.fC
